/- Walks and what they compute, joined: part 1. -/
import Derived.Test.YtoapndlmbpphfaaGreatDoorAS3
import Derived.Test.YtoapndlmbpphfaaGreatDoorProg
import Derived.KernelRfl
import Derived.Shelf.Strings.OnBuilder
import Derived.Shelf.Strconv.Itoa3
set_option linter.all false
namespace Go.Sym.B
open Go Go.Sym Go.Proofs
theorem _root_.Go.Sym.kj {a b:Prop} (x:a) (y:b):a∧b:=⟨x,y⟩
def _root_.Go.Sym.jq:=@Yr
def _root_.Go.Sym.jx:=@WR
def _root_.Go.Sym.jz:=@Y9
def _root_.Go.Sym.jj:=@YP
def _root_.Go.Sym.jk:=@Ku
def _root_.Go.Sym.jw:=@X0
def _root_.Go.Sym.jv:=@K8
def _root_.Go.Sym.kq:=@Vb
def _root_.Go.Sym.kx:=@Qbl
def _root_.Go.Sym.kz:=@Qd9
def ti2:TI:={ cells:=1,bytes:=8,td:=.int .i64,zero:=[.v (.int .i64 0)],eqk:=none }
theorem tf2:TyFact Tryz.prog 2 ti2:=by
  refine ⟨⟨Tryz.t2,.int .i64 0,by kernel_rfl,rfl,rfl,rfl,rfl,rfl,by simp [Value.cells,Value.oneCell']⟩,⟨_,Tryz.underlying2,rfl⟩,fun fs h=>?_,fun ks h=>?_,fun q h=>?_⟩
  · cases h
  · cases h
  · cases h
def ti3:TI:={ cells:=1,bytes:=8,td:=.int .i64,zero:=[.v (.int .i64 0)],eqk:=none }
theorem tf3:TyFact Tryz.prog 3 ti3:=by
  refine ⟨⟨Tryz.t3,.int .i64 0,by kernel_rfl,rfl,rfl,rfl,rfl,rfl,by simp [Value.cells,Value.oneCell']⟩,⟨_,Tryz.underlying3,rfl⟩,fun fs h=>?_,fun ks h=>?_,fun q h=>?_⟩
  · cases h
  · cases h
  · cases h
def ti4:TI:={ cells:=1,bytes:=1,td:=.bool,zero:=[.v (.bool false)],eqk:=none }
theorem tf4:TyFact Tryz.prog 4 ti4:=by
  refine ⟨⟨Tryz.t4,.bool false,by kernel_rfl,rfl,rfl,rfl,rfl,rfl,by simp [Value.cells,Value.oneCell']⟩,⟨_,Tryz.underlying4,rfl⟩,fun fs h=>?_,fun ks h=>?_,fun q h=>?_⟩
  · cases h
  · cases h
  · cases h
def ti5:TI:={ cells:=1,bytes:=1,td:=.int .u8,zero:=[.v (.int .u8 0)],eqk:=none }
theorem tf5:TyFact Tryz.prog 5 ti5:=by
  refine ⟨⟨Tryz.t5,.int .u8 0,by kernel_rfl,rfl,rfl,rfl,rfl,rfl,by simp [Value.cells,Value.oneCell']⟩,⟨_,Tryz.underlying5,rfl⟩,fun fs h=>?_,fun ks h=>?_,fun q h=>?_⟩
  · cases h
  · cases h
  · cases h
def ti9:TI:={ cells:=1,bytes:=16,td:=.string,zero:=[.v (.string ⟨#[]⟩)],eqk:=none }
theorem tf9:TyFact Tryz.prog 9 ti9:=by
  refine ⟨⟨Tryz.t9,.string ⟨#[]⟩,by kernel_rfl,rfl,rfl,rfl,rfl,rfl,by simp [Value.cells,Value.oneCell']⟩,⟨_,Tryz.underlying9,rfl⟩,fun fs h=>?_,fun ks h=>?_,fun q h=>?_⟩
  · cases h
  · cases h
  · cases h
def kP:TI:={ cells:=1,bytes:=24,td:=.slice 24,zero:=[.nil],eqk:=none }
theorem tf22:TyFact Tryz.prog 22 kP:=by
  refine ⟨⟨Tryz.t22,.slice none 0 0,by kernel_rfl,rfl,rfl,rfl,rfl,rfl,by simp [Value.cells,Value.oneCell']⟩,⟨_,Tryz.underlying22,rfl⟩,fun fs h=>?_,fun ks h=>?_,fun q h=>?_⟩
  · cases h
  · cases h
  · cases h
def WO:TI:={ cells:=1,bytes:=24,td:=.slice 32,zero:=[.nil],eqk:=none }
theorem tf23:TyFact Tryz.prog 23 WO:=by
  refine ⟨⟨Tryz.t23,.slice none 0 0,by kernel_rfl,rfl,rfl,rfl,rfl,rfl,by simp [Value.cells,Value.oneCell']⟩,⟨_,Tryz.underlying23,rfl⟩,fun fs h=>?_,fun ks h=>?_,fun q h=>?_⟩
  · cases h
  · cases h
  · cases h
def jG:TI:={ cells:=1,bytes:=24,td:=.slice 3,zero:=[.nil],eqk:=none }
theorem tf24:TyFact Tryz.prog 24 jG:=by
  refine ⟨⟨Tryz.t24,.slice none 0 0,by kernel_rfl,rfl,rfl,rfl,rfl,rfl,by simp [Value.cells,Value.oneCell']⟩,⟨_,Tryz.underlying24,rfl⟩,fun fs h=>?_,fun ks h=>?_,fun q h=>?_⟩
  · cases h
  · cases h
  · cases h
def J4:TI:={ cells:=1,bytes:=24,td:=.slice 34,zero:=[.nil],eqk:=none }
theorem tf25:TyFact Tryz.prog 25 J4:=by
  refine ⟨⟨Tryz.t25,.slice none 0 0,by kernel_rfl,rfl,rfl,rfl,rfl,rfl,by simp [Value.cells,Value.oneCell']⟩,⟨_,Tryz.underlying25,rfl⟩,fun fs h=>?_,fun ks h=>?_,fun q h=>?_⟩
  · cases h
  · cases h
  · cases h
def vG:TI:={ cells:=4,bytes:=96,td:=.struct [(0,1,22),(1,1,23),(2,1,24),(3,1,25)],zero:=[.nil,.nil,.nil,.nil],eqk:=none }
theorem tf27:TyFact Tryz.prog 27 vG:=by
  refine ⟨⟨Tryz.t27,.agg #[.slice none 0 0,.slice none 0 0,.slice none 0 0,.slice none 0 0],by kernel_rfl,rfl,rfl,rfl,rfl,rfl,by simp [Value.cells,Value.oneCell']⟩,⟨_,Tryz.underlying27,⟨_,rfl,rfl⟩⟩,fun fs h=>?_,fun ks h=>?_,fun q h=>?_⟩
  · cases h
    simp only [List.mem_cons,List.not_mem_nil,or_false,forall_eq_or_imp,forall_eq]
    exact ⟨⟨Tryz.t22,by kernel_rfl,rfl⟩,⟨Tryz.t23,by kernel_rfl,rfl⟩,⟨Tryz.t24,by kernel_rfl,rfl⟩,⟨Tryz.t25,by kernel_rfl,rfl⟩⟩
  · cases h
  · cases h
theorem Vn (d:Nat) (w:World) (a0 b0:Int) (a1 b1:Int):(Op.equalIn (d+2) 30 (.agg #[.int .i64 a0,.int .i64 a1]) (.agg #[.int .i64 b0,.int .i64 b1])).run Tryz.prog w=.ok (Qp [.int .i64 a0,.int .i64 a1] [.int .i64 b0,.int .i64 b1]) w:=by
  have h1:Tryz.prog.underlying 30=some (.struct (Tryz.prog.fieldsOf 30)):=by kernel_rfl
  have h2 : (Tryz.prog.fieldsOf 30).toList = [{ name := "Num", type := 3, offset := 0, embedded := false, tag := "", pkgPath := "", byteOffset := 0 }, { name := "Den", type := 3, offset := 1, embedded := false, tag := "", pkgPath := "", byteOffset := 8 }] := by kernel_rfl
  rw [run_equalIn_agg w (d+1) 30 _ _ h1 (by kernel_rfl),h2]
  refine Eq.trans (b:=Result.ok (a0 == b0 && (a1 == b1 && true)) w) ?_ (congrArg (fun r=>Result.ok r w) (by simp [Qp,veq,Bool.and_assoc]))
  exact xx (by simp) (vF (Tryz.isAgg3) rfl) (vF (Tryz.isAgg3) rfl) (run_equalIn_int w (d+0) 3 _ _ _ _ Tryz.underlying3) (xx (by simp) (vF (Tryz.isAgg3) rfl) (vF (Tryz.isAgg3) rfl) (run_equalIn_int w (d+0) 3 _ _ _ _ Tryz.underlying3) (Zv))
def Wu:TI:={ cells:=2,bytes:=16,td:=.struct [(0,1,3),(1,1,3)],zero:=[.v (.int .i64 0),.v (.int .i64 0)],eqk:=some [some .i64,some .i64] }
theorem tf30:TyFact Tryz.prog 30 Wu:=by
  refine ⟨⟨Tryz.t30,.agg #[.int .i64 0,.int .i64 0],by kernel_rfl,rfl,rfl,rfl,rfl,rfl,by simp [Value.cells,Value.oneCell']⟩,⟨_,Tryz.underlying30,⟨_,rfl,rfl⟩⟩,fun fs h=>?_,fun ks h=>?_,fun q h=>?_⟩
  · cases h
    simp only [List.mem_cons,List.not_mem_nil,or_false,forall_eq_or_imp,forall_eq]
    exact ⟨⟨Tryz.t3,by kernel_rfl,rfl⟩,⟨Tryz.t3,by kernel_rfl,rfl⟩⟩
  · cases h
    refine ⟨by kernel_rfl,fun w xs ys hx hy=>?_⟩
    cases xs with
    |nil=>simp [qU] at hx
    |cons x0 xs1 =>
    cases xs1 with
    |nil=>simp [qU] at hx
    |cons x1 xs2 =>
    cases xs2 with
    |cons _ _=>simp [qU] at hx
    |nil =>
    cases ys with
    |nil=>simp [qU] at hy
    |cons y0 ys1 =>
    cases ys1 with
    |nil=>simp [qU] at hy
    |cons y1 ys2 =>
    cases ys2 with
    |cons _ _=>simp [qU] at hy
    |nil =>
    simp only [qU] at hx hy
    obtain ⟨⟨nx0,rfl⟩,⟨nx1,rfl⟩,_⟩:=hx
    obtain ⟨⟨ny0,rfl⟩,⟨ny1,rfl⟩,_⟩:=hy
    exact Vn 9998 w nx0 ny0 nx1 ny1
  · cases h
def Zo:TI:={ cells:=1,bytes:=24,td:=.slice 30,zero:=[.nil],eqk:=none }
theorem tf32:TyFact Tryz.prog 32 Zo:=by
  refine ⟨⟨Tryz.t32,.slice none 0 0,by kernel_rfl,rfl,rfl,rfl,rfl,rfl,by simp [Value.cells,Value.oneCell']⟩,⟨_,Tryz.underlying32,rfl⟩,fun fs h=>?_,fun ks h=>?_,fun q h=>?_⟩
  · cases h
  · cases h
  · cases h
def Wv:TI:={ cells:=6,bytes:=48,td:=.struct [(0,1,3),(1,1,3),(2,1,3),(3,1,3),(4,1,3),(5,1,3)],zero:=[.v (.int .i64 0),.v (.int .i64 0),.v (.int .i64 0),.v (.int .i64 0),.v (.int .i64 0),.v (.int .i64 0)],eqk:=none }
theorem tf34:TyFact Tryz.prog 34 Wv:=by
  refine ⟨⟨Tryz.t34,.agg #[.int .i64 0,.int .i64 0,.int .i64 0,.int .i64 0,.int .i64 0,.int .i64 0],by kernel_rfl,rfl,rfl,rfl,rfl,rfl,by simp [Value.cells,Value.oneCell']⟩,⟨_,Tryz.underlying34,⟨_,rfl,rfl⟩⟩,fun fs h=>?_,fun ks h=>?_,fun q h=>?_⟩
  · cases h
    simp only [List.mem_cons,List.not_mem_nil,or_false,forall_eq_or_imp,forall_eq]
    exact ⟨⟨Tryz.t3,by kernel_rfl,rfl⟩,⟨Tryz.t3,by kernel_rfl,rfl⟩,⟨Tryz.t3,by kernel_rfl,rfl⟩,⟨Tryz.t3,by kernel_rfl,rfl⟩,⟨Tryz.t3,by kernel_rfl,rfl⟩,⟨Tryz.t3,by kernel_rfl,rfl⟩⟩
  · cases h
  · cases h
def Qe:TI:={ cells:=1,bytes:=8,td:=.int .i64,zero:=[.v (.int .i64 0)],eqk:=none }
theorem tf36:TyFact Tryz.prog 36 Qe:=by
  refine ⟨⟨Tryz.t36,.int .i64 0,by kernel_rfl,rfl,rfl,rfl,rfl,rfl,by simp [Value.cells,Value.oneCell']⟩,⟨_,Tryz.underlying36,rfl⟩,fun fs h=>?_,fun ks h=>?_,fun q h=>?_⟩
  · cases h
  · cases h
  · cases h
theorem eqd58 (d:Nat) (w:World) (a0 b0:Int) (a1 b1:Int) (a2 b2:Int) (a3 b3:Int) (a4 b4:Int) (a5 b5:Int) (a6 b6:Int) (a7 b7:Int) (a8 b8:Int) (a9 b9:Int) (a10 b10:Int) (a11 b11:Int):(Op.equalIn (d+3) 58 (.agg #[.int .i64 a0,.int .i64 a1,.int .i64 a2,.int .i64 a3,.int .i64 a4,.int .i64 a5,.int .i64 a6,.int .i64 a7,.int .i64 a8,.int .i64 a9,.int .i64 a10,.int .i64 a11]) (.agg #[.int .i64 b0,.int .i64 b1,.int .i64 b2,.int .i64 b3,.int .i64 b4,.int .i64 b5,.int .i64 b6,.int .i64 b7,.int .i64 b8,.int .i64 b9,.int .i64 b10,.int .i64 b11])).run Tryz.prog w=.ok (Qp [.int .i64 a0,.int .i64 a1,.int .i64 a2,.int .i64 a3,.int .i64 a4,.int .i64 a5,.int .i64 a6,.int .i64 a7,.int .i64 a8,.int .i64 a9,.int .i64 a10,.int .i64 a11] [.int .i64 b0,.int .i64 b1,.int .i64 b2,.int .i64 b3,.int .i64 b4,.int .i64 b5,.int .i64 b6,.int .i64 b7,.int .i64 b8,.int .i64 b9,.int .i64 b10,.int .i64 b11]) w:=by
  have h1:Tryz.prog.underlying 58=some (.struct (Tryz.prog.fieldsOf 58)):=by kernel_rfl
  have h2 : (Tryz.prog.fieldsOf 58).toList = [{ name := "Taken", type := 30, offset := 0, embedded := false, tag := "", pkgPath := "", byteOffset := 0 }, { name := "Paid", type := 30, offset := 2, embedded := false, tag := "", pkgPath := "", byteOffset := 16 }, { name := "Gained", type := 30, offset := 4, embedded := false, tag := "", pkgPath := "", byteOffset := 32 }, { name := "Lost", type := 30, offset := 6, embedded := false, tag := "", pkgPath := "", byteOffset := 48 }, { name := "Found", type := 30, offset := 8, embedded := false, tag := "", pkgPath := "", byteOffset := 64 }, { name := "Worth", type := 30, offset := 10, embedded := false, tag := "", pkgPath := "", byteOffset := 80 }] := by kernel_rfl
  rw [run_equalIn_agg w (d+2) 58 _ _ h1 (by kernel_rfl),h2]
  refine Eq.trans (b:=Result.ok (Qp [.int .i64 a0,.int .i64 a1] [.int .i64 b0,.int .i64 b1] && (Qp [.int .i64 a2,.int .i64 a3] [.int .i64 b2,.int .i64 b3] && (Qp [.int .i64 a4,.int .i64 a5] [.int .i64 b4,.int .i64 b5] && (Qp [.int .i64 a6,.int .i64 a7] [.int .i64 b6,.int .i64 b7] && (Qp [.int .i64 a8,.int .i64 a9] [.int .i64 b8,.int .i64 b9] && (Qp [.int .i64 a10,.int .i64 a11] [.int .i64 b10,.int .i64 b11] && true)))))) w) ?_ (congrArg (fun r=>Result.ok r w) (by simp [Qp,veq,Bool.and_assoc]))
  exact xx (by simp) (jI (Tryz.isAgg30) (Tryz.sizeOf30) rfl) (jI (Tryz.isAgg30) (Tryz.sizeOf30) rfl) (Vn (d+0) w a0 b0 a1 b1) (xx (by simp) (jI (Tryz.isAgg30) (Tryz.sizeOf30) rfl) (jI (Tryz.isAgg30) (Tryz.sizeOf30) rfl) (Vn (d+0) w a2 b2 a3 b3) (xx (by simp) (jI (Tryz.isAgg30) (Tryz.sizeOf30) rfl) (jI (Tryz.isAgg30) (Tryz.sizeOf30) rfl) (Vn (d+0) w a4 b4 a5 b5) (xx (by simp) (jI (Tryz.isAgg30) (Tryz.sizeOf30) rfl) (jI (Tryz.isAgg30) (Tryz.sizeOf30) rfl) (Vn (d+0) w a6 b6 a7 b7) (xx (by simp) (jI (Tryz.isAgg30) (Tryz.sizeOf30) rfl) (jI (Tryz.isAgg30) (Tryz.sizeOf30) rfl) (Vn (d+0) w a8 b8 a9 b9) (xx (by simp) (jI (Tryz.isAgg30) (Tryz.sizeOf30) rfl) (jI (Tryz.isAgg30) (Tryz.sizeOf30) rfl) (Vn (d+0) w a10 b10 a11 b11) (Zv))))))
def QeA:TI:={ cells:=12,bytes:=96,td:=.struct [(0,2,30),(2,2,30),(4,2,30),(6,2,30),(8,2,30),(10,2,30)],zero:=[.v (.int .i64 0),.v (.int .i64 0),.v (.int .i64 0),.v (.int .i64 0),.v (.int .i64 0),.v (.int .i64 0),.v (.int .i64 0),.v (.int .i64 0),.v (.int .i64 0),.v (.int .i64 0),.v (.int .i64 0),.v (.int .i64 0)],eqk:=some [some .i64,some .i64,some .i64,some .i64,some .i64,some .i64,some .i64,some .i64,some .i64,some .i64,some .i64,some .i64] }
theorem tf58:TyFact Tryz.prog 58 QeA:=by
  refine ⟨⟨Tryz.t58,.agg #[.int .i64 0,.int .i64 0,.int .i64 0,.int .i64 0,.int .i64 0,.int .i64 0,.int .i64 0,.int .i64 0,.int .i64 0,.int .i64 0,.int .i64 0,.int .i64 0],by kernel_rfl,rfl,rfl,rfl,rfl,rfl,by simp [Value.cells,Value.oneCell']⟩,⟨_,Tryz.underlying58,⟨_,rfl,rfl⟩⟩,fun fs h=>?_,fun ks h=>?_,fun q h=>?_⟩
  · cases h
    simp only [List.mem_cons,List.not_mem_nil,or_false,forall_eq_or_imp,forall_eq]
    exact ⟨⟨Tryz.t30,by kernel_rfl,rfl⟩,⟨Tryz.t30,by kernel_rfl,rfl⟩,⟨Tryz.t30,by kernel_rfl,rfl⟩,⟨Tryz.t30,by kernel_rfl,rfl⟩,⟨Tryz.t30,by kernel_rfl,rfl⟩,⟨Tryz.t30,by kernel_rfl,rfl⟩⟩
  · cases h
    refine ⟨by kernel_rfl,fun w xs ys hx hy=>?_⟩
    cases xs with
    |nil=>simp [qU] at hx
    |cons x0 xs1 =>
    cases xs1 with
    |nil=>simp [qU] at hx
    |cons x1 xs2 =>
    cases xs2 with
    |nil=>simp [qU] at hx
    |cons x2 xs3 =>
    cases xs3 with
    |nil=>simp [qU] at hx
    |cons x3 xs4 =>
    cases xs4 with
    |nil=>simp [qU] at hx
    |cons x4 xs5 =>
    cases xs5 with
    |nil=>simp [qU] at hx
    |cons x5 xs6 =>
    cases xs6 with
    |nil=>simp [qU] at hx
    |cons x6 xs7 =>
    cases xs7 with
    |nil=>simp [qU] at hx
    |cons x7 xs8 =>
    cases xs8 with
    |nil=>simp [qU] at hx
    |cons x8 xs9 =>
    cases xs9 with
    |nil=>simp [qU] at hx
    |cons x9 xs10 =>
    cases xs10 with
    |nil=>simp [qU] at hx
    |cons x10 xs11 =>
    cases xs11 with
    |nil=>simp [qU] at hx
    |cons x11 xs12 =>
    cases xs12 with
    |cons _ _=>simp [qU] at hx
    |nil =>
    cases ys with
    |nil=>simp [qU] at hy
    |cons y0 ys1 =>
    cases ys1 with
    |nil=>simp [qU] at hy
    |cons y1 ys2 =>
    cases ys2 with
    |nil=>simp [qU] at hy
    |cons y2 ys3 =>
    cases ys3 with
    |nil=>simp [qU] at hy
    |cons y3 ys4 =>
    cases ys4 with
    |nil=>simp [qU] at hy
    |cons y4 ys5 =>
    cases ys5 with
    |nil=>simp [qU] at hy
    |cons y5 ys6 =>
    cases ys6 with
    |nil=>simp [qU] at hy
    |cons y6 ys7 =>
    cases ys7 with
    |nil=>simp [qU] at hy
    |cons y7 ys8 =>
    cases ys8 with
    |nil=>simp [qU] at hy
    |cons y8 ys9 =>
    cases ys9 with
    |nil=>simp [qU] at hy
    |cons y9 ys10 =>
    cases ys10 with
    |nil=>simp [qU] at hy
    |cons y10 ys11 =>
    cases ys11 with
    |nil=>simp [qU] at hy
    |cons y11 ys12 =>
    cases ys12 with
    |cons _ _=>simp [qU] at hy
    |nil =>
    simp only [qU] at hx hy
    obtain ⟨⟨nx0,rfl⟩,⟨nx1,rfl⟩,⟨nx2,rfl⟩,⟨nx3,rfl⟩,⟨nx4,rfl⟩,⟨nx5,rfl⟩,⟨nx6,rfl⟩,⟨nx7,rfl⟩,⟨nx8,rfl⟩,⟨nx9,rfl⟩,⟨nx10,rfl⟩,⟨nx11,rfl⟩,_⟩:=hx
    obtain ⟨⟨ny0,rfl⟩,⟨ny1,rfl⟩,⟨ny2,rfl⟩,⟨ny3,rfl⟩,⟨ny4,rfl⟩,⟨ny5,rfl⟩,⟨ny6,rfl⟩,⟨ny7,rfl⟩,⟨ny8,rfl⟩,⟨ny9,rfl⟩,⟨ny10,rfl⟩,⟨ny11,rfl⟩,_⟩:=hy
    exact eqd58 9997 w nx0 ny0 nx1 ny1 nx2 ny2 nx3 ny3 nx4 ny4 nx5 ny5 nx6 ny6 nx7 ny7 nx8 ny8 nx9 ny9 nx10 ny10 nx11 ny11
  · cases h
theorem eqd69 (d:Nat) (w:World) (a0 b0:Int) (a1 b1:Int):(Op.equalIn (d+2) 69 (.agg #[.int .i64 a0,.int .i64 a1]) (.agg #[.int .i64 b0,.int .i64 b1])).run Tryz.prog w=.ok (Qp [.int .i64 a0,.int .i64 a1] [.int .i64 b0,.int .i64 b1]) w:=by
  have h1:Tryz.prog.underlying 69=some (.struct (Tryz.prog.fieldsOf 69)):=by kernel_rfl
  have h2 : (Tryz.prog.fieldsOf 69).toList = [{ name := "Num", type := 3, offset := 0, embedded := false, tag := "", pkgPath := "", byteOffset := 0 }, { name := "Den", type := 3, offset := 1, embedded := false, tag := "", pkgPath := "", byteOffset := 8 }] := by kernel_rfl
  rw [run_equalIn_agg w (d+1) 69 _ _ h1 (by kernel_rfl),h2]
  refine Eq.trans (b:=Result.ok (a0 == b0 && (a1 == b1 && true)) w) ?_ (congrArg (fun r=>Result.ok r w) (by simp [Qp,veq,Bool.and_assoc]))
  exact xx (by simp) (vF (Tryz.isAgg3) rfl) (vF (Tryz.isAgg3) rfl) (run_equalIn_int w (d+0) 3 _ _ _ _ Tryz.underlying3) (xx (by simp) (vF (Tryz.isAgg3) rfl) (vF (Tryz.isAgg3) rfl) (run_equalIn_int w (d+0) 3 _ _ _ _ Tryz.underlying3) (Zv))
def Qx:TI:={ cells:=2,bytes:=16,td:=.struct [(0,1,3),(1,1,3)],zero:=[.v (.int .i64 0),.v (.int .i64 0)],eqk:=some [some .i64,some .i64] }
theorem tf69:TyFact Tryz.prog 69 Qx:=by
  refine ⟨⟨Tryz.t69,.agg #[.int .i64 0,.int .i64 0],by kernel_rfl,rfl,rfl,rfl,rfl,rfl,by simp [Value.cells,Value.oneCell']⟩,⟨_,Tryz.underlying69,⟨_,rfl,rfl⟩⟩,fun fs h=>?_,fun ks h=>?_,fun q h=>?_⟩
  · cases h
    simp only [List.mem_cons,List.not_mem_nil,or_false,forall_eq_or_imp,forall_eq]
    exact ⟨⟨Tryz.t3,by kernel_rfl,rfl⟩,⟨Tryz.t3,by kernel_rfl,rfl⟩⟩
  · cases h
    refine ⟨by kernel_rfl,fun w xs ys hx hy=>?_⟩
    cases xs with
    |nil=>simp [qU] at hx
    |cons x0 xs1 =>
    cases xs1 with
    |nil=>simp [qU] at hx
    |cons x1 xs2 =>
    cases xs2 with
    |cons _ _=>simp [qU] at hx
    |nil =>
    cases ys with
    |nil=>simp [qU] at hy
    |cons y0 ys1 =>
    cases ys1 with
    |nil=>simp [qU] at hy
    |cons y1 ys2 =>
    cases ys2 with
    |cons _ _=>simp [qU] at hy
    |nil =>
    simp only [qU] at hx hy
    obtain ⟨⟨nx0,rfl⟩,⟨nx1,rfl⟩,_⟩:=hx
    obtain ⟨⟨ny0,rfl⟩,⟨ny1,rfl⟩,_⟩:=hy
    exact eqd69 9998 w nx0 ny0 nx1 ny1
  · cases h
def Ub:TI:={ cells:=1,bytes:=24,td:=.slice 69,zero:=[.nil],eqk:=none }
theorem tf76:TyFact Tryz.prog 76 Ub:=by
  refine ⟨⟨Tryz.t76,.slice none 0 0,by kernel_rfl,rfl,rfl,rfl,rfl,rfl,by simp [Value.cells,Value.oneCell']⟩,⟨_,Tryz.underlying76,rfl⟩,fun fs h=>?_,fun ks h=>?_,fun q h=>?_⟩
  · cases h
  · cases h
  · cases h
def ti78:TI:={ cells:=1,bytes:=8,td:=.ptr,zero:=[.v (.pointer none)],eqk:=none }
theorem tf78:TyFact Tryz.prog 78 ti78:=by
  refine ⟨⟨Tryz.t78,.pointer none,by kernel_rfl,rfl,rfl,rfl,rfl,rfl,by simp [Value.cells,Value.oneCell']⟩,⟨_,Tryz.underlying78,⟨_,rfl⟩⟩,fun fs h=>?_,fun ks h=>?_,fun q h=>?_⟩
  · cases h
  · cases h
  · cases h
def V6:TI:={ cells:=5,bytes:=120,td:=.struct [(0,4,27),(4,1,24)],zero:=[.nil,.nil,.nil,.nil,.nil],eqk:=none }
theorem tf82:TyFact Tryz.prog 82 V6:=by
  refine ⟨⟨Tryz.t82,.agg #[.slice none 0 0,.slice none 0 0,.slice none 0 0,.slice none 0 0,.slice none 0 0],by kernel_rfl,rfl,rfl,rfl,rfl,rfl,by simp [Value.cells,Value.oneCell']⟩,⟨_,Tryz.underlying82,⟨_,rfl,rfl⟩⟩,fun fs h=>?_,fun ks h=>?_,fun q h=>?_⟩
  · cases h
    simp only [List.mem_cons,List.not_mem_nil,or_false,forall_eq_or_imp,forall_eq]
    exact ⟨⟨Tryz.t27,by kernel_rfl,rfl⟩,⟨Tryz.t24,by kernel_rfl,rfl⟩⟩
  · cases h
  · cases h
def JE:TI:={ cells:=4,bytes:=32,td:=.array 4 3,zero:=[.v (.int .i64 0),.v (.int .i64 0),.v (.int .i64 0),.v (.int .i64 0)],eqk:=none }
theorem tf85:TyFact Tryz.prog 85 JE:=by
  refine ⟨⟨Tryz.t85,.agg #[.int .i64 0,.int .i64 0,.int .i64 0,.int .i64 0],by kernel_rfl,rfl,rfl,rfl,rfl,rfl,by simp [Value.cells,Value.oneCell']⟩,⟨_,Tryz.underlying85,rfl⟩,fun fs h=>?_,fun ks h=>?_,fun q h=>?_⟩
  · cases h
  · cases h
  · cases h
def QcT:TI:={ cells:=1,bytes:=8,td:=.map 3 85,zero:=[.v (.map none)],eqk:=none,key:=some { kd:=.one (.int .i64),z:=.agg [.v (.int .i64 0),.v (.int .i64 0),.v (.int .i64 0),.v (.int .i64 0)],agg:=true } }
theorem tf87:TyFact Tryz.prog 87 QcT:=by
  refine ⟨⟨Tryz.t87,.map none,by kernel_rfl,rfl,rfl,rfl,rfl,rfl,by simp [Value.cells,Value.oneCell']⟩,⟨_,Tryz.underlying87,rfl⟩,fun fs h=>?_,fun ks h=>?_,fun q h=>?_⟩
  · cases h
  · cases h
  · cases h
    refine ⟨3,85,rfl,Qbb Tryz.underlying3,fun w=>⟨.agg #[.int .i64 0,.int .i64 0,.int .i64 0,.int .i64 0],by simp [zeroValue,typeInfo,show Tryz.prog.info? 85=some Tryz.t85 by kernel_rfl,Tryz.t85],fun w' ok ρ y=>?_⟩⟩
    refine .agg (by simp) fun i c hc=>?_
    match i,hc with
    |0,hc=>cases hc;exact .v rfl
    |1,hc=>cases hc;exact .v rfl
    |2,hc=>cases hc;exact .v rfl
    |3,hc=>cases hc;exact .v rfl
    |n+4,hc=>simp at hc
def Qcd:TI:={ cells:=8,bytes:=64,td:=.struct [(0,4,85),(4,4,85)],zero:=[.v (.int .i64 0),.v (.int .i64 0),.v (.int .i64 0),.v (.int .i64 0),.v (.int .i64 0),.v (.int .i64 0),.v (.int .i64 0),.v (.int .i64 0)],eqk:=none }
theorem tf92:TyFact Tryz.prog 92 Qcd:=by
  refine ⟨⟨Tryz.t92,.agg #[.int .i64 0,.int .i64 0,.int .i64 0,.int .i64 0,.int .i64 0,.int .i64 0,.int .i64 0,.int .i64 0],by kernel_rfl,rfl,rfl,rfl,rfl,rfl,by simp [Value.cells,Value.oneCell']⟩,⟨_,Tryz.underlying92,⟨_,rfl,rfl⟩⟩,fun fs h=>?_,fun ks h=>?_,fun q h=>?_⟩
  · cases h
    simp only [List.mem_cons,List.not_mem_nil,or_false,forall_eq_or_imp,forall_eq]
    exact ⟨⟨Tryz.t85,by kernel_rfl,rfl⟩,⟨Tryz.t85,by kernel_rfl,rfl⟩⟩
  · cases h
  · cases h
def ti93:TI:={ cells:=1,bytes:=8,td:=.func,zero:=[.v (.nilFunc)],eqk:=none }
theorem tf93:TyFact Tryz.prog 93 ti93:=by
  refine ⟨⟨Tryz.t93,.nilFunc,by kernel_rfl,rfl,rfl,rfl,rfl,rfl,by simp [Value.cells,Value.oneCell']⟩,⟨_,Tryz.underlying93,⟨_,_,_,rfl⟩⟩,fun fs h=>?_,fun ks h=>?_,fun q h=>?_⟩
  · cases h
  · cases h
  · cases h
def Qdi:TI:={ cells:=1,bytes:=8,td:=.func,zero:=[.v (.nilFunc)],eqk:=none }
theorem tf99:TyFact Tryz.prog 99 Qdi:=by
  refine ⟨⟨Tryz.t99,.nilFunc,by kernel_rfl,rfl,rfl,rfl,rfl,rfl,by simp [Value.cells,Value.oneCell']⟩,⟨_,Tryz.underlying99,⟨_,_,_,rfl⟩⟩,fun fs h=>?_,fun ks h=>?_,fun q h=>?_⟩
  · cases h
  · cases h
  · cases h
def QgV:TI:={ cells:=1,bytes:=8,td:=.func,zero:=[.v (.nilFunc)],eqk:=none }
theorem tf102:TyFact Tryz.prog 102 QgV:=by
  refine ⟨⟨Tryz.t102,.nilFunc,by kernel_rfl,rfl,rfl,rfl,rfl,rfl,by simp [Value.cells,Value.oneCell']⟩,⟨_,Tryz.underlying102,⟨_,_,_,rfl⟩⟩,fun fs h=>?_,fun ks h=>?_,fun q h=>?_⟩
  · cases h
  · cases h
  · cases h
def U8:TI:={ cells:=1,bytes:=24,td:=.slice 9,zero:=[.nil],eqk:=none }
theorem tf103:TyFact Tryz.prog 103 U8:=by
  refine ⟨⟨Tryz.t103,.slice none 0 0,by kernel_rfl,rfl,rfl,rfl,rfl,rfl,by simp [Value.cells,Value.oneCell']⟩,⟨_,Tryz.underlying103,rfl⟩,fun fs h=>?_,fun ks h=>?_,fun q h=>?_⟩
  · cases h
  · cases h
  · cases h
def Qg0:TI:={ cells:=1,bytes:=8,td:=.func,zero:=[.v (.nilFunc)],eqk:=none }
theorem tf111:TyFact Tryz.prog 111 Qg0:=by
  refine ⟨⟨Tryz.t111,.nilFunc,by kernel_rfl,rfl,rfl,rfl,rfl,rfl,by simp [Value.cells,Value.oneCell']⟩,⟨_,Tryz.underlying111,⟨_,_,_,rfl⟩⟩,fun fs h=>?_,fun ks h=>?_,fun q h=>?_⟩
  · cases h
  · cases h
  · cases h
def UB:TI:={ cells:=1,bytes:=8,td:=.func,zero:=[.v (.nilFunc)],eqk:=none }
theorem tf112:TyFact Tryz.prog 112 UB:=by
  refine ⟨⟨Tryz.t112,.nilFunc,by kernel_rfl,rfl,rfl,rfl,rfl,rfl,by simp [Value.cells,Value.oneCell']⟩,⟨_,Tryz.underlying112,⟨_,_,_,rfl⟩⟩,fun fs h=>?_,fun ks h=>?_,fun q h=>?_⟩
  · cases h
  · cases h
  · cases h
def R9:TI:={ cells:=1,bytes:=8,td:=.func,zero:=[.v (.nilFunc)],eqk:=none }
theorem tf113:TyFact Tryz.prog 113 R9:=by
  refine ⟨⟨Tryz.t113,.nilFunc,by kernel_rfl,rfl,rfl,rfl,rfl,rfl,by simp [Value.cells,Value.oneCell']⟩,⟨_,Tryz.underlying113,⟨_,_,_,rfl⟩⟩,fun fs h=>?_,fun ks h=>?_,fun q h=>?_⟩
  · cases h
  · cases h
  · cases h
def QgR:TI:={ cells:=1,bytes:=8,td:=.func,zero:=[.v (.nilFunc)],eqk:=none }
theorem tf120:TyFact Tryz.prog 120 QgR:=by
  refine ⟨⟨Tryz.t120,.nilFunc,by kernel_rfl,rfl,rfl,rfl,rfl,rfl,by simp [Value.cells,Value.oneCell']⟩,⟨_,Tryz.underlying120,⟨_,_,_,rfl⟩⟩,fun fs h=>?_,fun ks h=>?_,fun q h=>?_⟩
  · cases h
  · cases h
  · cases h
def Qbx:TI:={ cells:=1,bytes:=8,td:=.func,zero:=[.v (.nilFunc)],eqk:=none }
theorem tf121:TyFact Tryz.prog 121 Qbx:=by
  refine ⟨⟨Tryz.t121,.nilFunc,by kernel_rfl,rfl,rfl,rfl,rfl,rfl,by simp [Value.cells,Value.oneCell']⟩,⟨_,Tryz.underlying121,⟨_,_,_,rfl⟩⟩,fun fs h=>?_,fun ks h=>?_,fun q h=>?_⟩
  · cases h
  · cases h
  · cases h
def Rf:TI:={ cells:=1,bytes:=8,td:=.func,zero:=[.v (.nilFunc)],eqk:=none }
theorem tf122:TyFact Tryz.prog 122 Rf:=by
  refine ⟨⟨Tryz.t122,.nilFunc,by kernel_rfl,rfl,rfl,rfl,rfl,rfl,by simp [Value.cells,Value.oneCell']⟩,⟨_,Tryz.underlying122,⟨_,_,_,rfl⟩⟩,fun fs h=>?_,fun ks h=>?_,fun q h=>?_⟩
  · cases h
  · cases h
  · cases h
def QgT:TI:={ cells:=1,bytes:=8,td:=.ptr,zero:=[.v (.pointer none)],eqk:=none }
theorem tf125:TyFact Tryz.prog 125 QgT:=by
  refine ⟨⟨Tryz.t125,.pointer none,by kernel_rfl,rfl,rfl,rfl,rfl,rfl,by simp [Value.cells,Value.oneCell']⟩,⟨_,Tryz.underlying125,⟨_,rfl⟩⟩,fun fs h=>?_,fun ks h=>?_,fun q h=>?_⟩
  · cases h
  · cases h
  · cases h
def Qhb:TI:={ cells:=1,bytes:=24,td:=.slice 5,zero:=[.nil],eqk:=none }
theorem tf126:TyFact Tryz.prog 126 Qhb:=by
  refine ⟨⟨Tryz.t126,.slice none 0 0,by kernel_rfl,rfl,rfl,rfl,rfl,rfl,by simp [Value.cells,Value.oneCell']⟩,⟨_,Tryz.underlying126,rfl⟩,fun fs h=>?_,fun ks h=>?_,fun q h=>?_⟩
  · cases h
  · cases h
  · cases h
def Qg7:TI:={ cells:=2,bytes:=32,td:=.struct [(0,1,125),(1,1,126)],zero:=[.v (.pointer none),.nil],eqk:=none }
theorem tf128:TyFact Tryz.prog 128 Qg7:=by
  refine ⟨⟨Tryz.t128,.agg #[.pointer none,.slice none 0 0],by kernel_rfl,rfl,rfl,rfl,rfl,rfl,by simp [Value.cells,Value.oneCell']⟩,⟨_,Tryz.underlying128,⟨_,rfl,rfl⟩⟩,fun fs h=>?_,fun ks h=>?_,fun q h=>?_⟩
  · cases h
    simp only [List.mem_cons,List.not_mem_nil,or_false,forall_eq_or_imp,forall_eq]
    exact ⟨⟨Tryz.t125,by kernel_rfl,rfl⟩,⟨Tryz.t126,by kernel_rfl,rfl⟩⟩
  · cases h
  · cases h
def XK:TI:={ cells:=1,bytes:=8,td:=.int .u64,zero:=[.v (.int .u64 0)],eqk:=none }
theorem tf136:TyFact Tryz.prog 136 XK:=by
  refine ⟨⟨Tryz.t136,.int .u64 0,by kernel_rfl,rfl,rfl,rfl,rfl,rfl,by simp [Value.cells,Value.oneCell']⟩,⟨_,Tryz.underlying136,rfl⟩,fun fs h=>?_,fun ks h=>?_,fun q h=>?_⟩
  · cases h
  · cases h
  · cases h
def Qhh:TI:={ cells:=1,bytes:=8,td:=.ptr,zero:=[.v (.pointer none)],eqk:=none }
theorem tf143:TyFact Tryz.prog 143 Qhh:=by
  refine ⟨⟨Tryz.t143,.pointer none,by kernel_rfl,rfl,rfl,rfl,rfl,rfl,by simp [Value.cells,Value.oneCell']⟩,⟨_,Tryz.underlying143,⟨_,rfl⟩⟩,fun fs h=>?_,fun ks h=>?_,fun q h=>?_⟩
  · cases h
  · cases h
  · cases h
def QbP:TI:={ cells:=1,bytes:=4,td:=.int .u32,zero:=[.v (.int .u32 0)],eqk:=none }
theorem tf144:TyFact Tryz.prog 144 QbP:=by
  refine ⟨⟨Tryz.t144,.int .u32 0,by kernel_rfl,rfl,rfl,rfl,rfl,rfl,by simp [Value.cells,Value.oneCell']⟩,⟨_,Tryz.underlying144,rfl⟩,fun fs h=>?_,fun ks h=>?_,fun q h=>?_⟩
  · cases h
  · cases h
  · cases h
def QbA:TI:={ cells:=1,bytes:=8,td:=.int .u64,zero:=[.v (.int .u64 0)],eqk:=none }
theorem tf147:TyFact Tryz.prog 147 QbA:=by
  refine ⟨⟨Tryz.t147,.int .u64 0,by kernel_rfl,rfl,rfl,rfl,rfl,rfl,by simp [Value.cells,Value.oneCell']⟩,⟨_,Tryz.underlying147,rfl⟩,fun fs h=>?_,fun ks h=>?_,fun q h=>?_⟩
  · cases h
  · cases h
  · cases h
def Qg2:TI:={ cells:=24,bytes:=24,td:=.array 24 5,zero:=[.v (.int .u8 0),.v (.int .u8 0),.v (.int .u8 0),.v (.int .u8 0),.v (.int .u8 0),.v (.int .u8 0),.v (.int .u8 0),.v (.int .u8 0),.v (.int .u8 0),.v (.int .u8 0),.v (.int .u8 0),.v (.int .u8 0),.v (.int .u8 0),.v (.int .u8 0),.v (.int .u8 0),.v (.int .u8 0),.v (.int .u8 0),.v (.int .u8 0),.v (.int .u8 0),.v (.int .u8 0),.v (.int .u8 0),.v (.int .u8 0),.v (.int .u8 0),.v (.int .u8 0)],eqk:=none }
theorem tf150:TyFact Tryz.prog 150 Qg2:=by
  refine ⟨⟨Tryz.t150,.agg #[.int .u8 0,.int .u8 0,.int .u8 0,.int .u8 0,.int .u8 0,.int .u8 0,.int .u8 0,.int .u8 0,.int .u8 0,.int .u8 0,.int .u8 0,.int .u8 0,.int .u8 0,.int .u8 0,.int .u8 0,.int .u8 0,.int .u8 0,.int .u8 0,.int .u8 0,.int .u8 0,.int .u8 0,.int .u8 0,.int .u8 0,.int .u8 0],by kernel_rfl,rfl,rfl,rfl,rfl,rfl,by simp [Value.cells,Value.oneCell']⟩,⟨_,Tryz.underlying150,rfl⟩,fun fs h=>?_,fun ks h=>?_,fun q h=>?_⟩
  · cases h
  · cases h
  · cases h
def Qg5:TI:={ cells:=20,bytes:=160,td:=.array 20 147,zero:=[.v (.int .u64 0),.v (.int .u64 0),.v (.int .u64 0),.v (.int .u64 0),.v (.int .u64 0),.v (.int .u64 0),.v (.int .u64 0),.v (.int .u64 0),.v (.int .u64 0),.v (.int .u64 0),.v (.int .u64 0),.v (.int .u64 0),.v (.int .u64 0),.v (.int .u64 0),.v (.int .u64 0),.v (.int .u64 0),.v (.int .u64 0),.v (.int .u64 0),.v (.int .u64 0),.v (.int .u64 0)],eqk:=none }
theorem tf160:TyFact Tryz.prog 160 Qg5:=by
  refine ⟨⟨Tryz.t160,.agg #[.int .u64 0,.int .u64 0,.int .u64 0,.int .u64 0,.int .u64 0,.int .u64 0,.int .u64 0,.int .u64 0,.int .u64 0,.int .u64 0,.int .u64 0,.int .u64 0,.int .u64 0,.int .u64 0,.int .u64 0,.int .u64 0,.int .u64 0,.int .u64 0,.int .u64 0,.int .u64 0],by kernel_rfl,rfl,rfl,rfl,rfl,rfl,by simp [Value.cells,Value.oneCell']⟩,⟨_,Tryz.underlying160,rfl⟩,fun fs h=>?_,fun ks h=>?_,fun q h=>?_⟩
  · cases h
  · cases h
  · cases h
def QgW:TI:={ cells:=32,bytes:=32,td:=.array 32 5,zero:=[.v (.int .u8 0),.v (.int .u8 0),.v (.int .u8 0),.v (.int .u8 0),.v (.int .u8 0),.v (.int .u8 0),.v (.int .u8 0),.v (.int .u8 0),.v (.int .u8 0),.v (.int .u8 0),.v (.int .u8 0),.v (.int .u8 0),.v (.int .u8 0),.v (.int .u8 0),.v (.int .u8 0),.v (.int .u8 0),.v (.int .u8 0),.v (.int .u8 0),.v (.int .u8 0),.v (.int .u8 0),.v (.int .u8 0),.v (.int .u8 0),.v (.int .u8 0),.v (.int .u8 0),.v (.int .u8 0),.v (.int .u8 0),.v (.int .u8 0),.v (.int .u8 0),.v (.int .u8 0),.v (.int .u8 0),.v (.int .u8 0),.v (.int .u8 0)],eqk:=none }
theorem tf165:TyFact Tryz.prog 165 QgW:=by
  refine ⟨⟨Tryz.t165,.agg #[.int .u8 0,.int .u8 0,.int .u8 0,.int .u8 0,.int .u8 0,.int .u8 0,.int .u8 0,.int .u8 0,.int .u8 0,.int .u8 0,.int .u8 0,.int .u8 0,.int .u8 0,.int .u8 0,.int .u8 0,.int .u8 0,.int .u8 0,.int .u8 0,.int .u8 0,.int .u8 0,.int .u8 0,.int .u8 0,.int .u8 0,.int .u8 0,.int .u8 0,.int .u8 0,.int .u8 0,.int .u8 0,.int .u8 0,.int .u8 0,.int .u8 0,.int .u8 0],by kernel_rfl,rfl,rfl,rfl,rfl,rfl,by simp [Value.cells,Value.oneCell']⟩,⟨_,Tryz.underlying165,rfl⟩,fun fs h=>?_,fun ks h=>?_,fun q h=>?_⟩
  · cases h
  · cases h
  · cases h
def Qhg:TI:={ cells:=64,bytes:=64,td:=.array 64 5,zero:=[.v (.int .u8 0),.v (.int .u8 0),.v (.int .u8 0),.v (.int .u8 0),.v (.int .u8 0),.v (.int .u8 0),.v (.int .u8 0),.v (.int .u8 0),.v (.int .u8 0),.v (.int .u8 0),.v (.int .u8 0),.v (.int .u8 0),.v (.int .u8 0),.v (.int .u8 0),.v (.int .u8 0),.v (.int .u8 0),.v (.int .u8 0),.v (.int .u8 0),.v (.int .u8 0),.v (.int .u8 0),.v (.int .u8 0),.v (.int .u8 0),.v (.int .u8 0),.v (.int .u8 0),.v (.int .u8 0),.v (.int .u8 0),.v (.int .u8 0),.v (.int .u8 0),.v (.int .u8 0),.v (.int .u8 0),.v (.int .u8 0),.v (.int .u8 0),.v (.int .u8 0),.v (.int .u8 0),.v (.int .u8 0),.v (.int .u8 0),.v (.int .u8 0),.v (.int .u8 0),.v (.int .u8 0),.v (.int .u8 0),.v (.int .u8 0),.v (.int .u8 0),.v (.int .u8 0),.v (.int .u8 0),.v (.int .u8 0),.v (.int .u8 0),.v (.int .u8 0),.v (.int .u8 0),.v (.int .u8 0),.v (.int .u8 0),.v (.int .u8 0),.v (.int .u8 0),.v (.int .u8 0),.v (.int .u8 0),.v (.int .u8 0),.v (.int .u8 0),.v (.int .u8 0),.v (.int .u8 0),.v (.int .u8 0),.v (.int .u8 0),.v (.int .u8 0),.v (.int .u8 0),.v (.int .u8 0),.v (.int .u8 0)],eqk:=none }
theorem tf166:TyFact Tryz.prog 166 Qhg:=by
  refine ⟨⟨Tryz.t166,.agg #[.int .u8 0,.int .u8 0,.int .u8 0,.int .u8 0,.int .u8 0,.int .u8 0,.int .u8 0,.int .u8 0,.int .u8 0,.int .u8 0,.int .u8 0,.int .u8 0,.int .u8 0,.int .u8 0,.int .u8 0,.int .u8 0,.int .u8 0,.int .u8 0,.int .u8 0,.int .u8 0,.int .u8 0,.int .u8 0,.int .u8 0,.int .u8 0,.int .u8 0,.int .u8 0,.int .u8 0,.int .u8 0,.int .u8 0,.int .u8 0,.int .u8 0,.int .u8 0,.int .u8 0,.int .u8 0,.int .u8 0,.int .u8 0,.int .u8 0,.int .u8 0,.int .u8 0,.int .u8 0,.int .u8 0,.int .u8 0,.int .u8 0,.int .u8 0,.int .u8 0,.int .u8 0,.int .u8 0,.int .u8 0,.int .u8 0,.int .u8 0,.int .u8 0,.int .u8 0,.int .u8 0,.int .u8 0,.int .u8 0,.int .u8 0,.int .u8 0,.int .u8 0,.int .u8 0,.int .u8 0,.int .u8 0,.int .u8 0,.int .u8 0,.int .u8 0],by kernel_rfl,rfl,rfl,rfl,rfl,rfl,by simp [Value.cells,Value.oneCell']⟩,⟨_,Tryz.underlying166,rfl⟩,fun fs h=>?_,fun ks h=>?_,fun q h=>?_⟩
  · cases h
  · cases h
  · cases h
def tyL:List (Nat × TI):=[(2,ti2),(3,ti3),(4,ti4),(5,ti5),(9,ti9),(22,kP),(23,WO),(24,jG),(25,J4),(27,vG),(30,Wu),(32,Zo),(34,Wv),(36,Qe),(58,QeA),(69,Qx),(76,Ub),(78,ti78),(82,V6),(85,JE),(87,QcT),(92,Qcd),(93,ti93),(99,Qdi),(102,QgV),(103,U8),(111,Qg0),(112,UB),(113,R9),(120,QgR),(121,Qbx),(122,Rf),(125,QgT),(126,Qhb),(128,Qg7),(136,XK),(143,Qhh),(144,QbP),(147,QbA),(150,Qg2),(160,Qg5),(165,QgW),(166,Qhg)]
def tyOf:List (Nat × TI)→Tys
  |[],_=>none
  |p :: r,t=>if t=p.1 then some p.2 else tyOf r t
def tyB:Tys:=tyOf tyL
theorem ty3:tyB 3=some ti3:=rfl
theorem ty4:tyB 4=some ti4:=rfl
theorem ty9:tyB 9=some ti9:=rfl
theorem QA:tyB 22=some kP:=rfl
theorem YB:tyB 23=some WO:=rfl
theorem jL:tyB 24=some jG:=rfl
theorem V8:tyB 25=some J4:=rfl
theorem xm:tyB 27=some vG:=rfl
theorem JP:tyB 30=some Wu:=rfl
theorem Wt:tyB 32=some Zo:=rfl
theorem JI:tyB 34=some Wv:=rfl
theorem QJ:tyB 36=some Qe:=rfl
theorem ty58:tyB 58=some QeA:=rfl
theorem ZQ:tyB 69=some Qx:=rfl
theorem QfC:tyB 76=some Ub:=rfl
theorem Qa3:tyB 82=some V6:=rfl
theorem V7:tyB 85=some JE:=rfl
theorem ty87:tyB 87=some QcT:=rfl
theorem ty92:tyB 92=some Qcd:=rfl
theorem ty93:tyB 93=some ti93:=rfl
theorem ty99:tyB 99=some Qdi:=rfl
theorem Qhf:tyB 103=some U8:=rfl
theorem QgY:tyB 112=some UB:=rfl
theorem QgX:tyB 113=some R9:=rfl
theorem ty121:tyB 121=some Qbx:=rfl
theorem Qg9:tyB 122=some Rf:=rfl
theorem Qe3:tyB 136=some XK:=rfl
theorem ty144:tyB 144=some QbP:=rfl
theorem ty147:tyB 147=some QbA:=rfl
theorem R5:∀ {L:List (Nat × TI)} {t:Nat} {i:TI},tyOf L t=some i→(t,i) ∈ L
  |p :: r,t,i,h=>by
    simp only [tyOf] at h
    split at h
    · rename_i ht;cases h;rw [ht];exact List.mem_cons_self
    · exact List.mem_cons_of_mem _ (R5 h)
theorem WS:jg Tryz.prog tyB:=fun t i h=>by
  have h:=R5 h
  simp only [tyL,List.mem_cons,List.not_mem_nil,or_false,Prod.mk.injEq] at h
  rcases h with ⟨rfl,rfl⟩|⟨rfl,rfl⟩|⟨rfl,rfl⟩|⟨rfl,rfl⟩|⟨rfl,rfl⟩|⟨rfl,rfl⟩|⟨rfl,rfl⟩|⟨rfl,rfl⟩|⟨rfl,rfl⟩|⟨rfl,rfl⟩|⟨rfl,rfl⟩|⟨rfl,rfl⟩|⟨rfl,rfl⟩|⟨rfl,rfl⟩|⟨rfl,rfl⟩|⟨rfl,rfl⟩|⟨rfl,rfl⟩|⟨rfl,rfl⟩|⟨rfl,rfl⟩|⟨rfl,rfl⟩|⟨rfl,rfl⟩|⟨rfl,rfl⟩|⟨rfl,rfl⟩|⟨rfl,rfl⟩|⟨rfl,rfl⟩|⟨rfl,rfl⟩|⟨rfl,rfl⟩|⟨rfl,rfl⟩|⟨rfl,rfl⟩|⟨rfl,rfl⟩|⟨rfl,rfl⟩|⟨rfl,rfl⟩|⟨rfl,rfl⟩|⟨rfl,rfl⟩|⟨rfl,rfl⟩|⟨rfl,rfl⟩|⟨rfl,rfl⟩|⟨rfl,rfl⟩|⟨rfl,rfl⟩|⟨rfl,rfl⟩|⟨rfl,rfl⟩|⟨rfl,rfl⟩|⟨rfl,rfl⟩
  · exact tf2
  · exact tf3
  · exact tf4
  · exact tf5
  · exact tf9
  · exact tf22
  · exact tf23
  · exact tf24
  · exact tf25
  · exact tf27
  · exact tf30
  · exact tf32
  · exact tf34
  · exact tf36
  · exact tf58
  · exact tf69
  · exact tf76
  · exact tf78
  · exact tf82
  · exact tf85
  · exact tf87
  · exact tf92
  · exact tf93
  · exact tf99
  · exact tf102
  · exact tf103
  · exact tf111
  · exact tf112
  · exact tf113
  · exact tf120
  · exact tf121
  · exact tf122
  · exact tf125
  · exact tf126
  · exact tf128
  · exact tf136
  · exact tf143
  · exact tf144
  · exact tf147
  · exact tf150
  · exact tf160
  · exact tf165
  · exact tf166
end Go.Sym.B
namespace Go.Sym.C
def Sm (q:Rat):Prop:=q.num≤1099511627776∧-1099511627776≤q.num∧q.den≤1048576
def Bd (B:Nat) (q:Rat):Prop:=q.den ∣ 27720∧q.num≤B * q.den∧-(B * q.den:Int)≤q.num
theorem Bd.sm {B:Nat} {q:Rat} (h:Bd B q) (hB:B≤10000000):Sm q:=by
  obtain ⟨h1,h2,h3⟩:=h
  have hd:q.den≤27720:=Nat.le_of_dvd (by decide) h1
  have h4:B * q.den≤10000000 * 27720:=Nat.mul_le_mul hB hd
  generalize hx:B * q.den=x at h4
  have hx':(B:Int) * q.den=x:=by rw [← hx];simp
  rw [hx'] at h2 h3
  refine ⟨?_, ?_,by omega⟩ <;> omega
theorem Bd.mono {B C:Nat} {q:Rat} (h:Bd B q) (hB:B≤C):Bd C q:=by
  obtain ⟨h1,h2,h3⟩:=h
  have h4:(B:Int) * q.den≤C * q.den:=by exact_mod_cast Nat.mul_le_mul_right _ hB
  exact ⟨h1,by omega,by omega⟩
theorem je (q:Rat):0 < (q.den:Int):=by have:=q.den_nz;omega
theorem Vz (q:Rat):(q.den:Int) ≠ 0:=by have:=q.den_nz;omega
theorem K9 {a b:Int} (hb:0 < b):(mkRat a b.toNat).num=a.tdiv (Nat.gcd a.natAbs b.toNat):=by
  have h0:b.toNat ≠ 0:=by omega
  rw [Rat.num_mkRat,if_neg h0,Nat.gcd_comm]
  have hd:((Nat.gcd a.natAbs b.toNat:Nat):Int) ∣ a:=by
    have:=Nat.gcd_dvd_left a.natAbs b.toNat
    exact Int.ofNat_dvd_left.2 this
  exact (Int.tdiv_eq_ediv_of_dvd hd).symm
theorem LY {a b:Int} (hb:0 < b):((mkRat a b.toNat).den:Int)=b.tdiv (Nat.gcd a.natAbs b.toNat):=by
  have h0:b.toNat ≠ 0:=by omega
  rw [Rat.den_mkRat,if_neg h0,Nat.gcd_comm,Int.natCast_ediv]
  rw [show ((b.toNat:Nat):Int)=b by omega]
  exact (Int.tdiv_eq_ediv_of_nonneg (by omega)).symm
theorem ic (n:Nat):(((n:Nat):Int):Rat)=(n:Rat):=Rat.intCast_natCast n
theorem QdB {a b c:Rat} (h:0 < c):a * c≤b * c ↔ a≤b:=by rw [← Rat.not_lt,← Rat.not_lt,Rat.mul_lt_mul_right h]
theorem Qes {a b:Int} (hb:0 < b):mkRat a b.toNat=(a:Rat) / (b:Rat):=by
  rw [Rat.mkRat_eq_div,← ic,show ((b.toNat:Nat):Int)=b by omega]
theorem Yn (q:Rat):q * ((q.den:Int):Rat)=(q.num:Rat):=by
  have g:((q.den:Nat):Rat) ≠ 0:=by exact_mod_cast q.den_nz
  have:q=(q.num:Rat) / ((q.den:Nat):Rat):=by rw [← Rat.mkRat_eq_div,Rat.mkRat_self]
  rw [ic]
  generalize ((q.den:Nat):Rat)=d at *
  generalize (q.num:Rat)=n at *
  grind
theorem Z0 {b:Int} (h:b ≠ 0):(b:Rat) ≠ 0:=by exact_mod_cast h
theorem QhS (q r:Rat):mkRat (q.num * r.den+r.num * q.den) ((q.den:Int) * r.den).toNat=q+r:=by
  have h1:=je q
  have h2:=je r
  rw [Qes (Int.mul_pos h1 h2)]
  have g1:=Z0 (Vz q)
  have g2:=Z0 (Vz r)
  have e1:=Yn q
  have e2:=Yn r
  simp only [Rat.intCast_add,Rat.intCast_mul]
  generalize ((q.den:Int):Rat)=d at *
  generalize ((r.den:Int):Rat)=c at *
  generalize (q.num:Rat)=n at *
  generalize (r.num:Rat)=m at *
  grind
theorem LX (q:Rat) (n:Int):mkRat (q.num * n) ((q.den:Int)).toNat=q * n:=by
  rw [Qes (je q)]
  have g1:=Z0 (Vz q)
  have e1:=Yn q
  simp only [Rat.intCast_mul]
  generalize ((q.den:Int):Rat)=d at *
  generalize (q.num:Rat)=n at *
  grind
theorem QbB {r:Rat} (h:0 < r.num):r ≠ 0:=fun e=>by rw [e] at h;exact absurd h (by decide)
theorem KT (q r:Rat) (h:0 < r.num):mkRat (q.num * r.den) ((q.den:Int) * r.num).toNat=q / r:=by
  rw [Qes (Int.mul_pos (je q) h)]
  have g1:=Z0 (Vz q)
  have g2:=Z0 (Vz r)
  have g3:=Z0 (show r.num ≠ 0 by omega)
  have e1:=Yn q
  have e2:=Yn r
  have g4:=QbB h
  simp only [Rat.intCast_mul]
  generalize ((q.den:Int):Rat)=d at *
  generalize ((r.den:Int):Rat)=c at *
  generalize (q.num:Rat)=n at *
  generalize (r.num:Rat)=m at *
  grind
theorem Qd0 {q:Rat} {n:Int} {d:Nat} (hd:d ≠ 0) (h:q * (d:Rat)=n):q.den ∣ d:=by
  have:q=mkRat n d:=by
    rw [Rat.mkRat_eq_div]
    have g:((d:Nat):Rat) ≠ 0:=by exact_mod_cast hd
    generalize ((d:Nat):Rat)=c at *
    grind
  rw [this,Rat.den_mkRat,if_neg hd]
  exact Nat.div_dvd_of_dvd (Nat.gcd_dvd_left _ _)
theorem Vp {q:Rat} (h:q.den ∣ 27720):∃ n:Int,q * ((27720:Nat):Rat)=n:=by
  obtain ⟨k,hk⟩:=h
  refine ⟨q.num * k, ?_⟩
  have e1:=Yn q
  rw [hk,ic] at *
  simp only [Rat.natCast_mul,Rat.intCast_mul,ic]
  grind
theorem Qbj {q r:Rat} (h:q.den ∣ 27720) (h':r.den ∣ 27720):(q+r).den ∣ 27720:=by
  obtain ⟨n,hn⟩:=Vp h
  obtain ⟨m,hm⟩:=Vp h'
  refine Qd0 (n:=n+m) (by decide) ?_
  simp only [Rat.intCast_add]
  rw [← hn,← hm]
  generalize ((27720:Nat):Rat)=d
  grind
theorem Qgg {q:Rat} (h:q.den ∣ 27720):(-q).den ∣ 27720:=by simpa using h
theorem Qf4 {q r:Rat} (h:q.den ∣ 27720) (h':r.den ∣ 27720):(q - r).den ∣ 27720:=by
  rw [Rat.sub_eq_add_neg];exact Qbj h (Qgg h')
theorem QeZ {q:Rat} (n:Int) (h:q.den ∣ 27720):(q * n).den ∣ 27720:=by
  obtain ⟨m,hm⟩:=Vp h
  refine Qd0 (n:=m * n) (by decide) ?_
  simp only [Rat.intCast_mul]
  rw [← hm]
  generalize ((27720:Nat):Rat)=d
  grind
theorem KP {B:Nat} {q:Rat}:Bd B q ↔ q.den ∣ 27720∧q≤(B:Rat)∧-(B:Rat)≤q:=by
  have hp:(0:Rat) < ((q.den:Int):Rat):=by exact_mod_cast je q
  have e:=Yn q
  have k1:q≤(B:Rat) ↔ q.num≤B * q.den:=by
    rw [← QdB hp,e]
    rw [show (B:Rat) * ((q.den:Int):Rat)=(((B:Int) * (q.den:Int):Int):Rat) by rw [Rat.intCast_mul,ic B]]
    exact Rat.intCast_le_intCast
  have k2:-(B:Rat)≤q ↔ -(B * q.den:Int)≤q.num:=by
    rw [← QdB hp,e]
    rw [show -(B:Rat) * ((q.den:Int):Rat)=((-((B:Int) * (q.den:Int)):Int):Rat) by rw [Rat.intCast_neg,Rat.intCast_mul,ic B,Rat.neg_mul]]
    exact Rat.intCast_le_intCast
  unfold Bd
  rw [k1,k2]
theorem Bd.add {B C:Nat} {q r:Rat} (h:Bd B q) (h':Bd C r):Bd (B+C) (q+r):=by
  rw [KP] at *
  refine ⟨Qbj h.1 h'.1, ?_, ?_⟩ <;> simp only [Rat.natCast_add] <;> grind
theorem Bd.sub {B C:Nat} {q r:Rat} (h:Bd B q) (h':Bd C r):Bd (B+C) (q - r):=by
  rw [KP] at *
  refine ⟨Qf4 h.1 h'.1, ?_, ?_⟩ <;> simp only [Rat.natCast_add] <;> grind
theorem Bd.muli {B C:Nat} {q:Rat} {n:Int} (h:Bd B q) (h1:n≤C) (h2:-(C:Int)≤n):Bd (B * C) (q * n):=by
  rw [KP] at *
  have g1:(n:Rat)≤(C:Rat):=by have:((n:Int):Rat)≤((C:Int):Rat):=Rat.intCast_le_intCast.2 h1;rwa [ic] at this
  have g2:-(C:Rat)≤(n:Rat):=by have:((-(C:Int):Int):Rat)≤((n:Int):Rat):=Rat.intCast_le_intCast.2 h2;rwa [Rat.intCast_neg,ic] at this
  have g3:(0:Rat)≤(B:Rat):=by exact_mod_cast Nat.zero_le B
  have g4:(0:Rat)≤(C:Rat):=by exact_mod_cast Nat.zero_le C
  refine ⟨QeZ n h.1, ?_, ?_⟩ <;> simp only [Rat.natCast_mul]
  · have a1:(0:Rat)≤(B - q) * (C+n):=Rat.mul_nonneg (by grind) (by grind)
    have a2:(0:Rat)≤(B+q) * (C - n):=Rat.mul_nonneg (by grind) (by grind)
    grind
  · have a1:(0:Rat)≤(B - q) * (C - n):=Rat.mul_nonneg (by grind) (by grind)
    have a2:(0:Rat)≤(B+q) * (C+n):=Rat.mul_nonneg (by grind) (by grind)
    grind
theorem JK {a b:Int} (hb:0 < b):(mkRat a b.toNat).num.natAbs≤a.natAbs:=by
  rw [K9 hb];exact Int.natAbs_tdiv_le_natAbs _ _
theorem Yd {a b:Int} (hb:0 < b):((mkRat a b.toNat).den:Int)≤b:=by
  rw [LY hb,Int.tdiv_eq_ediv_of_nonneg (by omega)]
  exact Int.ediv_le_self _ (by omega)
theorem Qfr {q r:Rat} {B:Nat} (hq:Bd B q) (hB:B≤1000000) (h0:0 < r.num) (h1:r.num≤20) (h2:r.den≤12):Sm (q / r):=by
  rw [← KT q r h0]
  have hd:=je q
  have hp:0 < (q.den:Int) * r.num:=Int.mul_pos hd h0
  have g1:=JK (a:=q.num * r.den) hp
  have g2:=Yd (a:=q.num * r.den) hp
  obtain ⟨k1,k2,k3⟩:=hq
  have k4:q.den≤27720:=Nat.le_of_dvd (by decide) k1
  have k5:B * q.den≤1000000 * 27720:=Nat.mul_le_mul hB k4
  have k6:q.num.natAbs≤1000000 * 27720:=by
    have:((B * q.den:Nat):Int)≤((1000000 * 27720:Nat):Int):=Int.ofNat_le.2 k5
    rw [Int.natCast_mul] at this
    omega
  have k7:(q.num * r.den).natAbs≤1000000 * 27720 * 12:=by
    rw [Int.natAbs_mul]
    exact Nat.mul_le_mul k6 (by simpa using h2)
  have k8:(q.den:Int) * r.num≤27720 * 20:=Int.mul_le_mul (by omega) h1 (by omega) (by omega)
  refine ⟨?_, ?_, ?_⟩ <;> omega
theorem Qfc {q:Rat} (h:Sm q):Sm (q.floor:Rat):=by
  obtain ⟨h1,h2,h3⟩:=h
  have hd:=je q
  have e:q.floor=q.num / q.den:=Rat.floor_def q
  have g1:q.num / (q.den:Int)≤1099511627776:=by
    have:=Int.ediv_le_ediv hd h1
    have:=Int.ediv_le_self (q.den:Int) (show (0:Int)≤1099511627776 by decide)
    omega
  have g2:-1099511627776≤q.num / (q.den:Int):=by
    rw [Int.le_ediv_iff_mul_le hd]
    have:(1099511627776:Int) * 1≤1099511627776 * q.den:=Int.mul_le_mul_of_nonneg_left (by omega) (by decide)
    omega
  refine ⟨by rw [Rat.num_intCast,e];exact g1,by rw [Rat.num_intCast,e];exact g2,by rw [Rat.den_intCast];decide⟩
theorem Qgi (B:Nat):Bd B 0:=by
  refine ⟨?_, ?_, ?_⟩
  · exact ⟨27720,rfl⟩
  · show (0:Int)≤B * 1;omega
  · show -((B:Int) * 1)≤0;omega
def xu (l:List Rat):Rat:=l.foldl (·+·) 0
theorem Ya (l:List Rat) (x:Rat):xu (l++[x])=xu l+x:=by simp [xu]
theorem Uf {B:Nat}:∀ (l:List Rat) (C:Nat) (a:Rat),Bd C a→(∀ q ∈ l,Bd B q)→Bd (C+l.length * B) (l.foldl (·+·) a)
  |[],C,a,ha,_=>by simpa using ha
  |x :: l,C,a,ha,h=>by
    have:=Uf l (C+B) (a+x) (ha.add (h x (by simp))) fun q hq=>h q (by simp [hq])
    rwa [show C+(x :: l).length * B=C+B+l.length * B by rw [List.length_cons,Nat.add_mul];omega]
theorem KV {B:Nat} (l:List Rat) (h:∀ q ∈ l,Bd B q):Bd (l.length * B) (xu l):=by
  have:=Uf l 0 0 (Qgi 0) h
  rwa [Nat.zero_add] at this
end Go.Sym.C
namespace Go.Sym.B
open Go Go.Sym Go.Proofs Go.Sym.C
structure Sh where
  num:Int
  den:Int
deriving DecidableEq,Inhabited
structure Ent where
  day:Int
  kind:Int
  coin:Int
  to:Int
  amount:Int
  got:Int
deriving DecidableEq,Inhabited
structure Led where
  coins:List (List Int)
  rates:List (List Sh)
  start:List Int
  entries:List Ent
deriving DecidableEq,Inhabited
def qp (n:Int):List DV:=[.v (.int .i64 n)]
def eSh (b:Sh):List DV:=[.v (.int .i64 b.num),.v (.int .i64 b.den)]
def yg (x:Ent):List DV:=[.v (.int .i64 x.day),.v (.int .i64 x.kind),.v (.int .i64 x.coin),.v (.int .i64 x.to),.v (.int .i64 x.amount),.v (.int .i64 x.got)]
def zH (l:List Int):List DV:=[.sl (l.map qp)]
def kw (l:List Sh):List DV:=[.sl (l.map eSh)]
def dI:DV→Int
  |.v (.int _ n)=>n
  |_=>0
def dL:DV→List (List DV)
  |.sl xs=>xs
  |_=>[]
def qJ (r:List DV):Int:=dI (r.headD (.sl []))
def dSh:List DV→Sh
  |[a,b]=>⟨dI a,dI b⟩
  |_=>default
def QP:List DV→Ent
  |[a,b,c,d,e,f]=>⟨dI a,dI b,dI c,dI d,dI e,dI f⟩
  |_=>default
def zw:List DV→List Int
  |[a]=>(dL a).map qJ
  |_=>[]
def QY:List DV→List Sh
  |[a]=>(dL a).map dSh
  |_=>[]
theorem Qih (n:Int):qJ (qp n)=n:=rfl
theorem dSh_e (b:Sh):dSh (eSh b)=b:=rfl
theorem Qhk (b:Ent):QP (yg b)=b:=rfl
theorem vH (l:List Int):(l.map qp).map qJ=l:=by simp [Function.comp_def,Qih]
theorem mSh (l:List Sh):(l.map eSh).map dSh=l:=by simp [Function.comp_def,dSh_e]
theorem WL (l:List Ent):(l.map yg).map QP=l:=by simp [Function.comp_def,Qhk]
theorem Qgm (l:List Int):zw (zH l)=l:=vH l
theorem Qh1 (l:List Sh):QY (kw l)=l:=mSh l
theorem xC (l:List (List Int)):(l.map zH).map zw=l:=by simp [Function.comp_def,Qgm]
theorem Kq (l:List (List Sh)):(l.map kw).map QY=l:=by simp [Function.comp_def,Qh1]
theorem Qn (l:List Int) (n:Nat):(l.map qp).getD n [.v (.int .i64 0)]=qp (l.getD n 0):=QL qp l n 0
theorem gSh (l:List Sh) (n:Nat):(l.map eSh).getD n [.v (.int .i64 0),.v (.int .i64 0)]=eSh (l.getD n default):=QL eSh l n default
theorem QaA (l:List Ent) (n:Nat):(l.map yg).getD n [.v (.int .i64 0),.v (.int .i64 0),.v (.int .i64 0),.v (.int .i64 0),.v (.int .i64 0),.v (.int .i64 0)]=yg (l.getD n default):=QL yg l n default
theorem WE (l:List (List Int)) (n:Nat):(l.map zH).getD n [.sl []]=zH (l.getD n []):=QL zH l n []
theorem gShs (l:List (List Sh)) (n:Nat):(l.map kw).getD n [.sl []]=kw (l.getD n []):=QL kw l n []
theorem Uk (l:List Int):zX 1 (l.map qp)=True:=vk (f:=qp) (k:=1) (fun _=>rfl) l
theorem rSh (l:List Sh):zX 2 (l.map eSh)=True:=vk (f:=eSh) (k:=2) (fun _=>rfl) l
theorem rEnt (l:List Ent):zX 6 (l.map yg)=True:=vk (f:=yg) (k:=6) (fun _=>rfl) l
theorem Qe7 (l:List (List Int)):zX 1 (l.map zH)=True:=vk (f:=zH) (k:=1) (fun _=>rfl) l
def aI (n:Int):AV:=.v (.int .i64 n)
def aB (b:Bool):AV:=.v (.bool b)
def aSh (s:Sh):AV:=.agg [.v (.int .i64 s.num),.v (.int .i64 s.den)]
def U0 (x:Ent):AV:=.agg [.v (.int .i64 x.day),.v (.int .i64 x.kind),.v (.int .i64 x.coin),.v (.int .i64 x.to),.v (.int .i64 x.amount),.v (.int .i64 x.got)]
def ql (l:List Int):AV:=.sl (l.map qp)
def J5 (l:List Sh):AV:=.sl (l.map eSh)
def zz (l:List (List Int)):AV:=.sl (l.map zH)
def zh (l:Led):List AV:=[.sl (l.coins.map zH),.sl (l.rates.map kw),.sl (l.start.map qp),.sl (l.entries.map yg)]
def zL (l:Led):AV:=.agg (zh l)
def shQ (q:Rat):Sh:=⟨q.num,q.den⟩
theorem Fn0 {fn:Func} {c:Code} {f:FuncId} (hf:Tryz.prog.funcs[f]?=some fn) (hb:fn.body=some c) (he:∀ vs w,(callFunc f vs).run Tryz.prog w=.ok (.enter f vs) w) (hd:vQ fn.ntmps c=true):FnData Tryz.prog tyB f fn c:=⟨WS,hf,hb,he,hd⟩
theorem qY {L:List (FuncId × Entry)} {A:Frm→Prop} (h:Qbf A Tryz.prog L):Env A Tryz.prog tyB (tab L):=⟨WS,QdM h,by kernel_rfl⟩
theorem z0 {a b:Int} (h:-9223372036854775808≤a+b∧a+b < 9223372036854775808):IntKind.wrap .i64 (a+b)=a+b:=wrap64 h.1 h.2
end Go.Sym.B
namespace Go.Sym.B
open Go Go.Sym Go.Proofs Go.Sym.C
def inB (n a b:Int):Bool:=decide (a≤n) && decide (n≤b)
def s79:List AV→Prop × AV
  |[.v (.int .i64 n),.v (.int .i64 a),.v (.int .i64 b)]=>(True,aB (inB n a b))
  |_=>(False,.junk)
def WC:=kj @ty3 @ti3.eq_1
def YD:=kj @aI.eq_1 (kj @aB.eq_1 (kj @aSh.eq_1 (@shQ.eq_1)))
theorem in_fn (n a b:Int):FnV Tryz.prog 27 [aI n,aI a,aI b] (aB (inB n a b)):=by
  have env:Env (fun _=>True) Tryz.prog tyB (tab []):=qY trivial
  refine Fn.of (A:=fun _=>True) (n0:=0) (D:=noD) (Fn0 Tryz.func27 rfl (fun vs w=>by kernel_rfl) (by kernel_rfl)) (by simp) (by simp [AV.ids,aI]) (fun i o h=>by cases h) (fun _ _ _ _=>trivial) qA ?_
  repeat' (first|(apply nx;with_reducible constructor)|refine jq (by decide) ?_|((first|refine kx env fun Q hQ=>?_|refine kz fun Q hQ=>?_);simp only [vkt,seval,WC,YD];(try simp only [ite_and]);(repeat' (first|with_reducible assumption|refine And.intro ?_ ?_|intro hp));all_goals (first|(refine hQ _ ?_;clear hQ Q)|(refine hQ _ (fun h=>?_) (fun h=>?_) <;> clear hQ Q <;> (try simp only [vki,reduceCtorEq] at h))|omega|assumption|with_reducible rfl|(refine kq ?_;kernel_rfl)|skip)))
  all_goals (simp only [vrt,Tryz.results27,vkt,seval,WC,YD];refine Fin.val rfl ?_;(try simp only [AV.le,AV.leL]))
  all_goals simp [inB, *]
theorem e79 {A:Frm→Prop}:qh A Tryz.prog 27 (qo true s79):=qL fun vs _ h=>by
  unfold s79 at h ⊢
  split at h
  · exact ⟨trivial,fun _=>trivial,in_fn _ _ _⟩
  · exact h.elim
def zI (n a b:Int):Int:=if n < a then 7 else if b < n then 6 else 0
def s78:List AV→Prop × AV
  |[.v (.int .i64 n),.v (.int .i64 a),.v (.int .i64 b)]=>(True,aI (zI n a b))
  |_=>(False,.junk)
def kU:=kj @ty3 @ti3.eq_1
theorem LZ (n a b:Int):FnV Tryz.prog 24 [aI n,aI a,aI b] (aI (zI n a b)):=by
  have env:Env (fun _=>True) Tryz.prog tyB (tab []):=qY trivial
  refine Fn.of (A:=fun _=>True) (n0:=0) (D:=noD) (Fn0 Tryz.func24 rfl (fun vs w=>by kernel_rfl) (by kernel_rfl)) (by simp) (by simp [AV.ids,aI]) (fun i o h=>by cases h) (fun _ _ _ _=>trivial) qA ?_
  repeat' (first|(apply nx;with_reducible constructor)|refine jq (by decide) ?_|((first|refine kx env fun Q hQ=>?_|refine kz fun Q hQ=>?_);simp only [vkt,seval,kU,YD];(try simp only [ite_and]);(repeat' (first|with_reducible assumption|refine And.intro ?_ ?_|intro hp));all_goals (first|(refine hQ _ ?_;clear hQ Q)|(refine hQ _ (fun h=>?_) (fun h=>?_) <;> clear hQ Q <;> (try simp only [vki,reduceCtorEq] at h))|omega|assumption|with_reducible rfl|(refine kq ?_;kernel_rfl)|skip)))
  all_goals (simp only [vrt,Tryz.results24,vkt,seval,kU,YD];refine Fin.val rfl ?_;(try simp only [AV.le,AV.leL]))
  all_goals (unfold zI;simp [*])
  all_goals omega
theorem e78 {A:Frm→Prop}:qh A Tryz.prog 24 (qo true s78):=qL fun vs _ h=>by
  unfold s78 at h ⊢
  split at h
  · exact ⟨trivial,fun _=>trivial,LZ _ _ _⟩
  · exact h.elim
theorem QfS {a x:Int} (h:-9223372036854775807≤a) (h':a < 9223372036854775808):-9223372036854775807≤a.tdiv x:=by
  have h1:=Int.natAbs_tdiv_le_natAbs a x
  omega
theorem QfH {a x:Int} (h:-9223372036854775808 < a) (h':a < 9223372036854775808):a.tdiv x < 9223372036854775808:=by
  have h1:=Int.natAbs_tdiv_le_natAbs a x
  omega
theorem YW {a x:Int} (h:-9223372036854775808 < a) (h':a < 9223372036854775808):IntKind.wrap .i64 (a.tdiv x)=a.tdiv x:=by
  have h1:=Int.natAbs_tdiv_le_natAbs a x
  exact wrap64 (by omega) (by omega)
theorem QeY {a x:Int} (hx:0 < x) (h:a.tmod x < 0):a.tdiv x - 1=a / x:=by
  have h1:=Int.mul_tdiv_add_tmod a x
  have h2:=Int.mul_ediv_add_emod a x
  have h3:=Int.emod_nonneg a (show x ≠ 0 by omega)
  have h4:=Int.emod_lt_of_pos a hx
  have h5:-x < a.tmod x:=Int.lt_tmod_of_pos a hx
  generalize a.tdiv x=p at *
  generalize a / x=q at *
  have k1:x * (p - q) < x * 2:=by rw [Int.mul_sub];omega
  have k2:x * 0 < x * (p - q):=by rw [Int.mul_sub];omega
  have:=Int.lt_of_mul_lt_mul_left k1 (by omega)
  have:=Int.lt_of_mul_lt_mul_left k2 (by omega)
  omega
theorem Qeg {a x:Int} (hx:0 < x) (h:¬ a.tmod x < 0):a.tdiv x=a / x:=by
  have h1:=Int.mul_tdiv_add_tmod a x
  have h2:=Int.mul_ediv_add_emod a x
  have h3:=Int.emod_nonneg a (show x ≠ 0 by omega)
  have h4:=Int.emod_lt_of_pos a hx
  have h5:a.tmod x < x:=Int.tmod_lt_of_pos a hx
  generalize a.tdiv x=p at *
  generalize a / x=q at *
  have k1:x * (p - q) < x * 1:=by rw [Int.mul_sub];omega
  have k2:x * (-1) < x * (p - q):=by rw [Int.mul_sub];omega
  have:=Int.lt_of_mul_lt_mul_left k1 (by omega)
  have:=Int.lt_of_mul_lt_mul_left k2 (by omega)
  omega
theorem Qbe {a d:Int} (h1:a≤1099511627776) (h2:-1099511627776≤a) (h3:d≤1048576) (h4:-1048576≤d):-1152921504606846976≤a * d∧a * d≤1152921504606846976:=by
  have h5:(a * d).natAbs≤1099511627776 * 1048576:=by rw [Int.natAbs_mul];exact Nat.mul_le_mul (by omega) (by omega)
  omega
theorem Vt {a d:Int} (h1:a≤1099511627776) (h2:-1099511627776≤a) (h3:0 < d) (h4:d≤1048576):-1152921504606846976≤a * d∧a * d≤1152921504606846976:=Qbe h1 h2 h4 (by omega)
def Qcs (a b:Int):Prop:=-9223372036854775808 < a∧a < 9223372036854775808∧0 < b∧b < 9223372036854775808
def FlOk (q:Rat):Prop:=-9223372036854775807 < q.num∧q.num < 9223372036854775808∧(q.den:Int) < 9223372036854775808
def ofI (a b:Int):Type:={ p:Int × Int // 0≤p.1∧0≤p.2∧Nat.gcd p.1.toNat p.2.toNat=Nat.gcd a.natAbs b.toNat∧(0 < p.1∨0 < p.2) }
def ofS (a b x y:Int):St:={ t:=asg [(0,aI a),(1,aI b),(4,.ptr 0 0),(5,aI x),(6,aI y)],h:=qc [(0,.cells [.v (.int .i64 0),.v (.int .i64 0)])],n:=1 }
def yV:=kj @ty3 (kj @ZQ (kj @ti3.eq_1 @Qx.eq_1))
def Zg:=kj @aI.eq_1 (kj @aB.eq_1 (kj @aSh.eq_1 (kj @shQ.eq_1 (@ofS.eq_1))))
theorem of_fn (a b:Int) (hab:Qcs a b):FnV Tryz.prog 64 [aI a,aI b] (aSh (shQ (mkRat a b.toNat))):=by
  have env:Env (fun _=>True) Tryz.prog tyB (tab []):=qY trivial
  refine Fn.of (A:=fun _=>True) (n0:=0) (D:=noD) (Fn0 Tryz.func64 rfl (fun vs w=>by kernel_rfl) (by kernel_rfl)) (by simp) (by simp [AV.ids,aI]) (fun i o h=>by cases h) (fun _ _ _ _=>trivial) qA ?_
  obtain ⟨ha,ha',hb,hb'⟩:=hab
  have hw:IntKind.wrap .i64 (0 - a)=-a:=by rw [wrap64 (by omega) (by omega)];omega
  repeat' (first|(apply nx;with_reducible constructor)|refine jq (by decide) ?_|((first|refine kx env fun Q hQ=>?_|refine kz fun Q hQ=>?_);simp only [vkt,seval,yV,Zg,hw];(try simp only [ite_and]);(repeat' (first|with_reducible assumption|refine And.intro ?_ ?_|intro hp));all_goals (first|(refine hQ _ ?_;clear hQ Q)|(refine hQ _ (fun h=>?_) (fun h=>?_) <;> clear hQ Q <;> (try simp only [vki,reduceCtorEq] at h))|omega|assumption|with_reducible rfl|(refine kq ?_;kernel_rfl)|skip)))
  refine qz (ι:=ofI a b) (fun p=>ofS a b p.1.1 p.1.2) (fun p=>p.1.2.toNat) ⟨(max a (-a),b),by omega,by omega,by congr 1;omega,.inr hb⟩ ?_ fun ⟨(x,y),h1,h2,h3,h4⟩=>?_
  · (refine Le.ok some [] ?_;constructor;all_goals (try simp only [vle,vkt,seval,yV,Zg]))
    all_goals simp
  · dsimp only at h1 h2 h3 h4
    repeat' (first|(apply nx;with_reducible constructor)|refine jq (by decide) ?_|((first|refine kx env fun Q hQ=>?_|refine kz fun Q hQ=>?_);simp only [vkt,seval,yV,Zg];(try simp only [ite_and]);(repeat' (first|with_reducible assumption|refine And.intro ?_ ?_|intro hp));all_goals (first|(refine hQ _ ?_;clear hQ Q)|(refine hQ _ (fun h=>?_) (fun h=>?_) <;> clear hQ Q <;> (try simp only [vki,reduceCtorEq] at h))|omega|assumption|with_reducible rfl|(refine kq ?_;kernel_rfl)|skip)))
    · have hy:0 < y:=by simpa using h
      refine ⟨⟨(y,x.tmod y),by omega, ?_, ?_,.inl hy⟩, ?_, ?_⟩
      · show 0≤x.tmod y
        rw [Int.tmod_eq_emod_of_nonneg h1];exact Int.emod_nonneg _ (by omega)
      · show Nat.gcd y.toNat (x.tmod y).toNat=_
        rw [← h3,Int.tmod_eq_emod_of_nonneg h1,Int.toNat_emod h1 h2,Nat.gcd_comm y.toNat,← Nat.gcd_rec,Nat.gcd_comm]
      · show (x.tmod y).toNat < y.toNat
        rw [Int.tmod_eq_emod_of_nonneg h1]
        have:=Int.emod_lt_of_pos x hy
        omega
      · (refine Le.ok some [] ?_;constructor;all_goals (try simp only [vle,vkt,seval,yV,Zg]))
        all_goals simp
    · have hy:y=0:=by omega
      subst hy
      have hg:x=((Nat.gcd a.natAbs b.toNat:Nat):Int):=by rw [← h3];simp;omega
      have w1:=YW (x:=x) ha ha'
      have w2:=YW (x:=x) (show -9223372036854775808 < b by omega) hb'
      (simp only [vrt,Tryz.results64,w1,w2,vkt,seval,yV,Zg];refine Fin.val rfl ?_;(try simp only [AV.le,AV.leL]))
      rw [K9 hb,LY hb,← hg]
      simp
def VY:List AV→Prop × AV
  |[.v (.int .i64 a),.v (.int .i64 b)]=>(Qcs a b,aSh (shQ (mkRat a b.toNat)))
  |_=>(False,.junk)
theorem e139 {A:Frm→Prop}:qh A Tryz.prog 64 (qo true VY):=qL fun vs _ h=>by
  unfold VY at h ⊢
  split at h
  · exact ⟨by simp [AV.plain,AV.plainL,aSh],fun _=>by simp [AV.flat,AV.flatL,aSh],of_fn _ _ h⟩
  · exact h.elim
def QK:=kj @ZQ @Qx.eq_1
theorem Qdf (n:Int):FnV Tryz.prog 35 [aI n] (aSh (shQ (n:Rat))):=by
  have env:Env (fun _=>True) Tryz.prog tyB (tab []):=qY trivial
  refine Fn.of (A:=fun _=>True) (n0:=0) (D:=noD) (Fn0 Tryz.func35 rfl (fun vs w=>by kernel_rfl) (by kernel_rfl)) (by simp) (by simp [AV.ids,aI]) (fun i o h=>by cases h) (fun _ _ _ _=>trivial) qA ?_
  repeat' (first|(apply nx;with_reducible constructor)|refine jq (by decide) ?_|((first|refine kx env fun Q hQ=>?_|refine kz fun Q hQ=>?_);simp only [vkt,seval,QK,Zg];(try simp only [ite_and]);(repeat' (first|with_reducible assumption|refine And.intro ?_ ?_|intro hp));all_goals (first|(refine hQ _ ?_;clear hQ Q)|(refine hQ _ (fun h=>?_) (fun h=>?_) <;> clear hQ Q <;> (try simp only [vki,reduceCtorEq] at h))|omega|assumption|with_reducible rfl|(refine kq ?_;kernel_rfl)|skip)))
  (simp only [vrt,Tryz.results35,Rat.num_intCast,Rat.den_intCast,vkt,seval,QK,Zg];refine Fin.val rfl ?_;(try simp only [AV.le,AV.leL]))
  simp
def ZW:List AV→Prop × AV
  |[.v (.int .i64 a)]=>(True,aSh (shQ (a:Rat)))
  |_=>(False,.junk)
theorem Qdd {A:Frm→Prop}:qh A Tryz.prog 35 (qo true ZW):=qL fun vs _ h=>by
  unfold ZW at h ⊢
  split at h
  · exact ⟨by simp [AV.plain,AV.plainL,aSh],fun _=>by simp [AV.flat,AV.flatL,aSh],Qdf _⟩
  · exact h.elim
def isQ (a b:Int):Prop:=a=(mkRat a b.toNat).num∧b=((mkRat a b.toNat).den:Int)
theorem Zt (q:Rat):isQ q.num (q.den:Int)=True:=by simp [isQ,Rat.mkRat_self]
theorem Zz {a b:Int} (h:isQ a b):aSh (shQ (mkRat a b.toNat))=.agg [.v (.int .i64 a),.v (.int .i64 b)]:=by
  simp only [aSh,shQ];rw [← h.1,← h.2]
def qI (a b:Int):Rat:=mkRat a b.toNat
theorem Yy (q:Rat):qI q.num (q.den:Int)=q:=by simp [qI,Rat.mkRat_self]
def Jz:List AV→Prop × AV
  |[.agg [.v (.int .i64 a),.v (.int .i64 b)],.agg [.v (.int .i64 c),.v (.int .i64 d)]]=>(isQ a b∧isQ c d∧Sm (qI a b)∧Sm (qI c d),aSh (shQ (qI a b+qI c d)))
  |_=>(False,.junk)
def J6:List AV→Prop × AV
  |[.agg [.v (.int .i64 a),.v (.int .i64 b)],.agg [.v (.int .i64 c),.v (.int .i64 d)]]=>(isQ a b∧isQ c d∧Sm (qI a b)∧Sm (qI c d),aSh (shQ (qI a b - qI c d)))
  |_=>(False,.junk)
def Tm (q:Rat) (n:Int):Prop:=Sm q∧n≤1048576∧-1048576≤n
def s99:List AV→Prop × AV
  |[.agg [.v (.int .i64 a),.v (.int .i64 b)],.v (.int .i64 n)]=>(isQ a b∧Tm (qI a b) n,aSh (shQ (qI a b * (n:Rat))))
  |_=>(False,.junk)
def LK:List AV→Prop × AV
  |[.agg [.v (.int .i64 a),.v (.int .i64 b)],.agg [.v (.int .i64 c),.v (.int .i64 d)]]=>(isQ a b∧isQ c d∧Sm (qI a b)∧Sm (qI c d)∧0 < (qI c d).num∧(qI c d).num≤1048576,aSh (shQ (qI a b / qI c d)))
  |_=>(False,.junk)
def s90:List AV→Prop × AV
  |[.agg [.v (.int .i64 a),.v (.int .i64 b)]]=>(isQ a b∧FlOk (qI a b),aI (qI a b).floor)
  |_=>(False,.junk)
def xk:=kj @ty3 (kj @ZQ (kj @ti3.eq_1 @Qx.eq_1))
def vW:=kj @aI.eq_1 (kj @aB.eq_1 (kj @aSh.eq_1 (kj @shQ.eq_1 (kj @VY.eq_1 (kj @VY.eq_2 (kj @Jz.eq_1 (kj @Jz.eq_2 (kj @J6.eq_1 (kj @J6.eq_2 (kj @s99.eq_1 (kj @s99.eq_2 (kj @LK.eq_1 (kj @LK.eq_2 (kj @Zt (@Yy)))))))))))))))
theorem QgF (q r:Rat) (hq:Sm q) (hr:Sm r):FnV Tryz.prog 67 [aSh (shQ q),aSh (shQ r)] (aSh (shQ (q+r))):=by
  have env:Env (fun _=>True) Tryz.prog tyB (tab [(64,qo true VY)]):=qY ⟨e139,trivial⟩
  refine Fn.of (A:=fun _=>True) (n0:=0) (D:=noD) (Fn0 Tryz.func67 rfl (fun vs w=>by kernel_rfl) (by kernel_rfl)) (by simp) (by simp [AV.ids,AV.idsL,aSh]) (fun i o h=>by cases h) (fun _ _ _ _=>trivial) qA ?_
  have b1:=Vt hq.1 hq.2.1 (je r) (Int.ofNat_le.2 hr.2.2)
  have b2:=Vt hr.1 hr.2.1 (je q) (Int.ofNat_le.2 hq.2.2)
  have b3:=Vt (a:=(q.den:Int)) (by have:=hq.2.2;omega) (by omega) (je r) (Int.ofNat_le.2 hr.2.2)
  have b4:=Int.mul_pos (je q) (je r)
  have w1:=wrap64 (n:=q.num * r.den) (by omega) (by omega)
  have w2:=wrap64 (n:=r.num * q.den) (by omega) (by omega)
  have w3:=wrap64 (n:=(q.den:Int) * r.den) (by omega) (by omega)
  have w4:=wrap64 (n:=q.num * r.den+r.num * q.den) (by omega) (by omega)
  have w5:Qcs (q.num * r.den+r.num * q.den) ((q.den:Int) * r.den):=⟨by omega,by omega,by omega,by omega⟩
  repeat' (first|(apply nx;with_reducible constructor)|refine jq (by decide) ?_|((first|refine kx env fun Q hQ=>?_|refine kz fun Q hQ=>?_);simp only [vkt,seval,xk,vW,w1,w2,w3,w4,QhS];(try simp only [ite_and]);(repeat' (first|with_reducible assumption|refine And.intro ?_ ?_|intro hp));all_goals (first|(refine hQ _ ?_;clear hQ Q)|(refine hQ _ (fun h=>?_) (fun h=>?_) <;> clear hQ Q <;> (try simp only [vki,reduceCtorEq] at h))|omega|assumption|with_reducible rfl|(refine kq ?_;kernel_rfl)|skip)))
  (simp only [vrt,Tryz.results67,vkt,seval,xk,vW];refine Fin.val rfl ?_;(try simp only [AV.le,AV.leL]))
  simp
theorem e138 {A:Frm→Prop}:qh A Tryz.prog 67 (qo true Jz):=qL fun vs _ h=>by
  unfold Jz at h ⊢
  split at h
  · refine ⟨by simp [AV.plain,AV.plainL,aSh],fun _=>by simp [AV.flat,AV.flatL,aSh], ?_⟩
    rw [← Zz h.1,← Zz h.2.1]
    exact QgF _ _ h.2.2.1 h.2.2.2
  · exact h.elim
theorem Qh9 {q:Rat} (h:Sm q):Sm (-q):=by
  refine ⟨?_, ?_, ?_⟩
  · rw [Rat.neg_num];have:=h.2.1;omega
  · rw [Rat.neg_num];have:=h.1;omega
  · rw [Rat.neg_den];exact h.2.2
def vZ:=kj @ty3 (kj @ZQ (kj @ti3.eq_1 @Qx.eq_1))
theorem QeN (q r:Rat) (hq:Sm q) (hr:Sm r):FnV Tryz.prog 34 [aSh (shQ q),aSh (shQ r)] (aSh (shQ (q - r))):=by
  have env:Env (fun _=>True) Tryz.prog tyB (tab [(67,qo true Jz)]):=qY ⟨e138,trivial⟩
  refine Fn.of (A:=fun _=>True) (n0:=0) (D:=noD) (Fn0 Tryz.func34 rfl (fun vs w=>by kernel_rfl) (by kernel_rfl)) (by simp) (by simp [AV.ids,AV.idsL,aSh]) (fun i o h=>by cases h) (fun _ _ _ _=>trivial) qA ?_
  have w1:IntKind.wrap .i64 (0 - r.num)=(-r).num:=by rw [wrap64 (by have:=hr.1;omega) (by have:=hr.2.1;omega),Rat.neg_num];omega
  have w2:(r.den:Int)=((-r).den:Int):=by rw [Rat.neg_den]
  have w3:=Zt (-r)
  have w4:=Yy (-r)
  rw [← w2] at w3 w4
  have w5:=Qh9 hr
  repeat' (first|(apply nx;with_reducible constructor)|refine jq (by decide) ?_|((first|refine kx env fun Q hQ=>?_|refine kz fun Q hQ=>?_);simp only [vkt,seval,vZ,vW,w1,w3,w4];(try simp only [ite_and]);(repeat' (first|with_reducible assumption|refine And.intro ?_ ?_|intro hp));all_goals (first|(refine hQ _ ?_;clear hQ Q)|(refine hQ _ (fun h=>?_) (fun h=>?_) <;> clear hQ Q <;> (try simp only [vki,reduceCtorEq] at h))|omega|assumption|with_reducible rfl|(refine kq ?_;kernel_rfl)|skip)))
  (simp only [vrt,Tryz.results34,Rat.sub_eq_add_neg,vkt,seval,vZ,vW];refine Fin.val rfl ?_;(try simp only [AV.le,AV.leL]))
  simp
theorem e100 {A:Frm→Prop}:qh A Tryz.prog 34 (qo true J6):=qL fun vs _ h=>by
  unfold J6 at h ⊢
  split at h
  · refine ⟨by simp [AV.plain,AV.plainL,aSh],fun _=>by simp [AV.flat,AV.flatL,aSh], ?_⟩
    rw [← Zz h.1,← Zz h.2.1]
    exact QeN _ _ h.2.2.1 h.2.2.2
  · exact h.elim
def vV:=kj @ty3 (kj @ZQ (kj @ti3.eq_1 @Qx.eq_1))
theorem Qdg (q:Rat) (n:Int) (hq:Tm q n):FnV Tryz.prog 30 [aSh (shQ q),aI n] (aSh (shQ (q * (n:Rat)))):=by
  have env:Env (fun _=>True) Tryz.prog tyB (tab [(64,qo true VY)]):=qY ⟨e139,trivial⟩
  refine Fn.of (A:=fun _=>True) (n0:=0) (D:=noD) (Fn0 Tryz.func30 rfl (fun vs w=>by kernel_rfl) (by kernel_rfl)) (by simp) (by simp [AV.ids,AV.idsL,aSh,aI]) (fun i o h=>by cases h) (fun _ _ _ _=>trivial) qA ?_
  obtain ⟨hq,hn,hn'⟩:=hq
  have b1:-1152921504606846976≤q.num * n∧q.num * n≤1152921504606846976:=Qbe hq.1 hq.2.1 hn hn'
  have b2:=je q
  have b3:(q.den:Int)≤1048576:=Int.ofNat_le.2 hq.2.2
  have w1:=wrap64 (n:=q.num * n) (by omega) (by omega)
  have w2:=LX q n
  have w5:Qcs (q.num * n) (q.den:Int):=⟨by omega,by omega,by omega,by omega⟩
  repeat' (first|(apply nx;with_reducible constructor)|refine jq (by decide) ?_|((first|refine kx env fun Q hQ=>?_|refine kz fun Q hQ=>?_);simp only [vkt,seval,vV,vW,w1,w2];(try simp only [ite_and]);(repeat' (first|with_reducible assumption|refine And.intro ?_ ?_|intro hp));all_goals (first|(refine hQ _ ?_;clear hQ Q)|(refine hQ _ (fun h=>?_) (fun h=>?_) <;> clear hQ Q <;> (try simp only [vki,reduceCtorEq] at h))|omega|assumption|with_reducible rfl|(refine kq ?_;kernel_rfl)|skip)))
  (simp only [vrt,Tryz.results30,← LX,vkt,seval,vV,vW];refine Fin.val rfl ?_;(try simp only [AV.le,AV.leL]))
  simp
theorem e99 {A:Frm→Prop}:qh A Tryz.prog 30 (qo true s99):=qL fun vs _ h=>by
  unfold s99 at h ⊢
  split at h
  · refine ⟨by simp [AV.plain,AV.plainL,aSh],fun _=>by simp [AV.flat,AV.flatL,aSh], ?_⟩
    rw [← Zz h.1]
    exact Qdg _ _ h.2
  · exact h.elim
def xZ:=kj @ty3 (kj @ZQ (kj @ti3.eq_1 @Qx.eq_1))
theorem by_fn (q r:Rat) (hq:Sm q) (hr:Sm r) (h0:0 < r.num) (h1:r.num≤1048576):FnV Tryz.prog 66 [aSh (shQ q),aSh (shQ r)] (aSh (shQ (q / r))):=by
  have env:Env (fun _=>True) Tryz.prog tyB (tab [(64,qo true VY)]):=qY ⟨e139,trivial⟩
  refine Fn.of (A:=fun _=>True) (n0:=0) (D:=noD) (Fn0 Tryz.func66 rfl (fun vs w=>by kernel_rfl) (by kernel_rfl)) (by simp) (by simp [AV.ids,AV.idsL,aSh]) (fun i o h=>by cases h) (fun _ _ _ _=>trivial) qA ?_
  have b1:=Vt hq.1 hq.2.1 (je r) (Int.ofNat_le.2 hr.2.2)
  have b3:=Vt (a:=(q.den:Int)) (by have:=hq.2.2;omega) (by omega) h0 h1
  have b4:=Int.mul_pos (je q) h0
  have w1:=wrap64 (n:=q.num * r.den) (by omega) (by omega)
  have w3:=wrap64 (n:=(q.den:Int) * r.num) (by omega) (by omega)
  have w4:=KT q r h0
  have w5:Qcs (q.num * r.den) ((q.den:Int) * r.num):=⟨by omega,by omega,by omega,by omega⟩
  repeat' (first|(apply nx;with_reducible constructor)|refine jq (by decide) ?_|((first|refine kx env fun Q hQ=>?_|refine kz fun Q hQ=>?_);simp only [vkt,seval,xZ,vW,w1,w3,w4];(try simp only [ite_and]);(repeat' (first|with_reducible assumption|refine And.intro ?_ ?_|intro hp));all_goals (first|(refine hQ _ ?_;clear hQ Q)|(refine hQ _ (fun h=>?_) (fun h=>?_) <;> clear hQ Q <;> (try simp only [vki,reduceCtorEq] at h))|omega|assumption|with_reducible rfl|(refine kq ?_;kernel_rfl)|skip)))
  (simp only [vrt,Tryz.results66,vkt,seval,xZ,vW];refine Fin.val rfl ?_;(try simp only [AV.le,AV.leL]))
  simp
theorem e135 {A:Frm→Prop}:qh A Tryz.prog 66 (qo true LK):=qL fun vs _ h=>by
  unfold LK at h ⊢
  split at h
  · refine ⟨by simp [AV.plain,AV.plainL,aSh],fun _=>by simp [AV.flat,AV.flatL,aSh], ?_⟩
    rw [← Zz h.1,← Zz h.2.1]
    exact by_fn _ _ h.2.2.1 h.2.2.2.1 h.2.2.2.2.1 h.2.2.2.2.2
  · exact h.elim
def j3:=kj @ty3 (kj @ZQ (kj @ti3.eq_1 @Qx.eq_1))
theorem QdP (q:Rat) (hq:FlOk q):FnV Tryz.prog 33 [aSh (shQ q)] (aI q.floor):=by
  have env:Env (fun _=>True) Tryz.prog tyB (tab []):=qY trivial
  refine Fn.of (A:=fun _=>True) (n0:=0) (D:=noD) (Fn0 Tryz.func33 rfl (fun vs w=>by kernel_rfl) (by kernel_rfl)) (by simp) (by simp [AV.ids,AV.idsL,aSh]) (fun i o h=>by cases h) (fun _ _ _ _=>trivial) qA ?_
  obtain ⟨h1,h2,h3⟩:=hq
  have hd:=je q
  have w1:IntKind.wrap .i64 (q.num.tdiv q.den)=q.num.tdiv q.den:=YW (by omega) h2
  have hd0:(q.den:Int) ≠ 0:=by omega
  repeat' (first|(apply nx;with_reducible constructor)|refine jq (by decide) ?_|((first|refine kx env fun Q hQ=>?_|refine kz fun Q hQ=>?_);simp only [vkt,seval,j3,vW,w1];(try simp only [ite_and]);(repeat' (first|with_reducible assumption|refine And.intro ?_ ?_|intro hp));all_goals (first|(refine hQ _ ?_;clear hQ Q)|(refine hQ _ (fun h=>?_) (fun h=>?_) <;> clear hQ Q <;> (try simp only [vki,reduceCtorEq] at h))|omega|assumption|with_reducible rfl|(refine kq ?_;kernel_rfl)|skip)))
  · have e1:q.floor=q.num.tdiv q.den - 1:=by rw [Rat.floor_def];exact (QeY hd h).symm
    have w2:IntKind.wrap .i64 (q.num.tdiv q.den - 1)=q.floor:=by rw [e1,wrap64 (by have:=QfS (x:=(q.den:Int)) (by omega) h2;omega) (by have:=QfH (x:=(q.den:Int)) (show -9223372036854775808 < q.num by omega) h2;omega)]
    (simp only [vrt,Tryz.results33,w2,vkt,seval,j3,vW];refine Fin.val rfl ?_;(try simp only [AV.le,AV.leL]))
    all_goals simp
  · have e1:q.floor=q.num.tdiv q.den:=by rw [Rat.floor_def];exact (Qeg hd h).symm
    (simp only [vrt,Tryz.results33,← e1,vkt,seval,j3,vW];refine Fin.val rfl ?_;(try simp only [AV.le,AV.leL]))
    all_goals simp
theorem e90 {A:Frm→Prop}:qh A Tryz.prog 33 (qo true s90):=qL fun vs _ h=>by
  unfold s90 at h ⊢
  split at h
  · refine ⟨by simp [AV.plain,aI],fun _=>by simp [AV.flat,aI], ?_⟩
    rw [← Zz h.1]
    exact QdP _ h.2
  · exact h.elim
end Go.Sym.B
namespace Go.Sym.B
open Go Go.Sym Go.Proofs Go.Sym.C
def jb:List Int→Int
  |[]=>0
  |e :: r=>if e=0 then jb r else e
structure FI (E:List Int) where
  k:Nat
  le:k≤E.length
  eq:jb (E.drop k)=jb E
  all:∀ j,j < k→E.getD j 0=0
theorem Xm {E:List Int} {k:Nat} (h:k < E.length):jb (E.drop k)=if E.getD k 0=0 then jb (E.drop (k+1)) else E.getD k 0:=by
  rw [List.drop_eq_getElem_cons h,jb]
  simp [List.getD_eq_getElem?_getD,List.getElem?_eq_getElem h]
theorem QbV {E:List Int} {k:Nat} (h:E.length≤k):jb (E.drop k)=0:=by rw [List.drop_eq_nil_of_le h];rfl
def errs (n:Nat) (f:Nat→Int):List Int:=(List.range n).map f
theorem jS (n:Nat) (f:Nat→Int):(errs n f).length=n:=by simp [errs]
theorem QB {n k:Nat} (f:Nat→Int) (h:k < n):(errs n f).getD k 0=f k:=by simp [errs,List.getD_eq_getElem?_getD,h]
theorem FI.hit {n:Nat} {f:Nat→Int} (i:FI (errs n f)) (h:i.k < n) (h0:f i.k ≠ 0):jb (errs n f)=f i.k:=by
  rw [← i.eq,Xm (by rw [jS];exact h),QB f h,if_neg h0]
theorem FI.last {n:Nat} {f:Nat→Int} (i:FI (errs n f)) (h:n≤i.k):jb (errs n f)=0:=by
  rw [← i.eq,QbV (by rw [jS];exact h)]
def FI.zero (E:List Int):FI E:=⟨0,Nat.zero_le _,by simp,fun j h=>absurd h (Nat.not_lt_zero _)⟩
def FI.next {n:Nat} {f:Nat→Int} (i:FI (errs n f)) (h:i.k < n) (h0:f i.k=0):FI (errs n f):=⟨i.k+1,by rw [jS];exact h,by rw [← i.eq,Xm (k:=i.k) (by rw [jS];exact h),QB f h,if_pos h0],fun j hj=>by
  rcases Nat.lt_or_eq_of_le (Nat.le_of_lt_succ hj) with h1|h1
  · exact i.all j h1
  · rw [h1,QB f h,h0]⟩
structure EQ {α:Type} (a b:List α) where
  k:Nat
  le:k≤a.length
  len:a.length=b.length
  eq:a.take k=b.take k
theorem EQ.differ {α:Type} {a b:List α} (i:EQ a b) {d:α} (hn:a.getD i.k d ≠ b.getD i.k d):a ≠ b:=fun e=>hn (congrArg (fun l=>l.getD i.k d) e)
def EQ.next {α:Type} {a b:List α} (i:EQ a b) {d:α} (h:i.k < a.length) (he:a.getD i.k d=b.getD i.k d):EQ a b:=⟨i.k+1,h,i.len,by
  have h':i.k < b.length:=by rw [← i.len];exact h
  rw [List.take_succ_eq_append_getElem h,List.take_succ_eq_append_getElem h',i.eq]
  simp [List.getD_eq_getElem?_getD,List.getElem?_eq_getElem h,List.getElem?_eq_getElem h'] at he
  rw [he]⟩
theorem EQ.last {α:Type} {a b:List α} (i:EQ a b) (h:a.length≤i.k):a=b:=by
  have:=i.eq
  rwa [List.take_of_length_le h,List.take_of_length_le (by rw [← i.len];exact h)] at this
def eqiS (a b:List Int) (k:Nat):St:={ t:=asg [(0,ql a),(1,ql b),(4,aB false),(5,aI k)],h:=qc [],n:=0 }
def wu:=kj @ty3 (kj @jL (kj @ti3.eq_1 @jG.eq_1))
def Zc:=kj @aI.eq_1 (kj @aB.eq_1 (kj @ql.eq_1 (kj @zz.eq_1 (kj @Qn (kj @WE (kj @qp.eq_1 (kj @zH.eq_1 (@eqiS.eq_1))))))))
theorem Qdb (a b:List Int) (hl:a.length≤maxLen):FnV Tryz.prog 13 [ql a,ql b] (aB (decide (a=b))):=by
  have env:Env (fun _=>True) Tryz.prog tyB (tab []):=qY trivial
  refine Fn.of (A:=fun _=>True) (n0:=0) (D:=noD) (Fn0 Tryz.func13 rfl (fun vs w=>by kernel_rfl) (by kernel_rfl)) (by simp) (by simp [AV.ids,ql]) (fun i o h=>by cases h) (fun _ _ _ _=>trivial) qA ?_
  repeat' (first|(apply nx;with_reducible constructor)|refine jq (by decide) ?_|((first|refine kx env fun Q hQ=>?_|refine kz fun Q hQ=>?_);simp only [vkt,seval,wu,Zc];(try simp only [ite_and]);(repeat' (first|with_reducible assumption|refine And.intro ?_ ?_|intro hp));all_goals (first|(refine hQ _ ?_;clear hQ Q)|(refine hQ _ (fun h=>?_) (fun h=>?_) <;> clear hQ Q <;> (try simp only [vki,reduceCtorEq] at h))|omega|assumption|with_reducible rfl|(refine kq ?_;kernel_rfl)|skip)))
  · (simp only [vrt,Tryz.results13,vkt,seval,wu,Zc];refine Fin.val rfl ?_;(try simp only [AV.le,AV.leL]))
    all_goals (simp;intro e;subst e;omega)
  · have hab:a.length=b.length:=by omega
    refine qz (ι:=EQ a b) (fun i=>eqiS a b i.k) (fun i=>a.length - i.k) ⟨0,Nat.zero_le _,hab,by simp⟩ ?_ fun i=>?_
    · (refine Le.ok some [] ?_;constructor;all_goals (try simp only [vle,vkt,seval,wu,Zc]))
      all_goals simp
    · have hk:=i.le
      have hk2:=i.len
      repeat' (first|(apply nx;with_reducible constructor)|refine jq (by decide) ?_|((first|refine kx env fun Q hQ=>?_|refine kz fun Q hQ=>?_);simp only [vkt,seval,wu,Zc];(try simp only [ite_and]);(repeat' (first|with_reducible assumption|refine And.intro ?_ ?_|intro hp));all_goals (first|(refine hQ _ ?_;clear hQ Q)|(refine hQ _ (fun h=>?_) (fun h=>?_) <;> clear hQ Q <;> (try simp only [vki,reduceCtorEq] at h))|omega|assumption|with_reducible rfl|(refine kq ?_;kernel_rfl)|skip)))
      · (simp only [vrt,Tryz.results13,vkt,seval,wu,Zc];refine Fin.val rfl ?_;(try simp only [AV.le,AV.leL]))
        all_goals (simp;exact i.differ (d:=0) (by simpa using ‹_›))
      · have hlt:i.k < a.length:=by omega
        have he:a.getD i.k 0=b.getD i.k 0:=by simpa using ‹_›
        have e1:=zt hlt hl
        refine ⟨i.next hlt he,by show a.length - (i.k+1) < _;omega, ?_⟩
        (refine Le.ok some [] ?_;constructor;all_goals (try simp only [vle,vkt,seval,wu,Zc]))
        all_goals simp [EQ.next,e1]
      · (simp only [vrt,Tryz.results13,vkt,seval,wu,Zc];refine Fin.val rfl ?_;(try simp only [AV.le,AV.leL]))
        all_goals (simp;exact i.last (by omega))
end Go.Sym.B
namespace Go.Sym.B
open Go Go.Sym Go.Proofs Go.Sym.C
theorem slT {α β:Type} (f:α→β) (l:List α) (n:Nat):List.take n (List.map f l)=List.map f (List.take n l):=by rw [List.map_take]
theorem slD {α β:Type} (f:α→β) (l:List α) (n:Nat):List.drop n (List.map f l)=List.map f (List.drop n l):=by rw [List.map_drop]
theorem QgZ {α:Type} (l:List α) (m k:Nat) (d:α):(l.drop m).getD k d=l.getD (m+k) d:=by simp [List.getD_eq_getElem?_getD]
theorem jU {α:Type} {l:List α} {k:Nat} {d:α} (h:k < l.length):l.getD k d ∈ l:=by
  rw [List.getD_eq_getElem?_getD,List.getElem?_eq_getElem h];exact List.getElem_mem h
theorem WM:(20:Nat)≤maxLen:=by decide
def s26:List AV→Prop × AV
  |[.sl xs,.sl ys]=>(xs=(xs.map qJ).map qp∧ys=(ys.map qJ).map qp∧xs.length≤maxLen,aB (decide (xs.map qJ=ys.map qJ)))
  |_=>(False,.junk)
theorem e26 {A:Frm→Prop}:qh A Tryz.prog 13 (qo true s26):=qL fun vs hv h=>by
  clear hv
  unfold s26 at h ⊢
  split at h
  · rename_i xs ys
    refine ⟨trivial,fun _=>trivial, ?_⟩
    have:=Qdb (xs.map qJ) (ys.map qJ) (by simpa using h.2.2)
    rwa [ql,← h.1,ql,← h.2.1] at this
  · exact h.elim
def eqrS (a b:List (List Int)) (k:Nat):St:={ t:=asg [(0,zz a),(1,zz b),(4,aB false),(5,aI k)],h:=qc [],n:=0 }
def zu:=kj @ty3 (kj @QA (kj @jL (kj @ti3.eq_1 (kj @kP.eq_1 @jG.eq_1))))
def xA:=kj @aI.eq_1 (kj @aB.eq_1 (kj @ql.eq_1 (kj @zz.eq_1 (kj @Qn (kj @WE (kj @qp.eq_1 (kj @zH.eq_1 (kj @eqrS.eq_1 (kj @s26.eq_1 (kj @s26.eq_2 (@vH)))))))))))
theorem Qcl (a b:List (List Int)) (hl:a.length≤maxLen) (hm:∀ p ∈ a,p.length≤maxLen):FnV Tryz.prog 23 [zz a,zz b] (aB (decide (a=b))):=by
  have env:Env (fun _=>True) Tryz.prog tyB (tab [(13,qo true s26)]):=qY ⟨e26,trivial⟩
  refine Fn.of (A:=fun _=>True) (n0:=0) (D:=noD) (Fn0 Tryz.func23 rfl (fun vs w=>by kernel_rfl) (by kernel_rfl)) (by simp) (by simp [AV.ids,zz]) (fun i o h=>by cases h) (fun _ _ _ _=>trivial) qA ?_
  repeat' (first|(apply nx;with_reducible constructor)|refine jq (by decide) ?_|((first|refine kx env fun Q hQ=>?_|refine kz fun Q hQ=>?_);simp only [vkt,seval,zu,xA];(try simp only [ite_and]);(repeat' (first|with_reducible assumption|refine And.intro ?_ ?_|intro hp));all_goals (first|(refine hQ _ ?_;clear hQ Q)|(refine hQ _ (fun h=>?_) (fun h=>?_) <;> clear hQ Q <;> (try simp only [vki,reduceCtorEq] at h))|omega|assumption|with_reducible rfl|(refine kq ?_;kernel_rfl)|skip)))
  · (simp only [vrt,Tryz.results23,vkt,seval,zu,xA];refine Fin.val rfl ?_;(try simp only [AV.le,AV.leL]))
    all_goals (simp;intro e;subst e;omega)
  · have hab:a.length=b.length:=by omega
    refine qz (ι:=EQ a b) (fun i=>eqrS a b i.k) (fun i=>a.length - i.k) ⟨0,Nat.zero_le _,hab,by simp⟩ ?_ fun i=>?_
    · (refine Le.ok some [] ?_;constructor;all_goals (try simp only [vle,vkt,seval,zu,xA]))
      all_goals simp
    · have hk:=i.le
      have hk2:=i.len
      have hp:i.k < a.length→(a.getD i.k []).length≤maxLen:=fun h=>hm _ (jU h)
      repeat' (first|(apply nx;with_reducible constructor)|refine jq (by decide) ?_)
      (refine kx env fun Q hQ=>?_;simp only [vkt,seval,zu,xA];(try simp only [ite_and]);(repeat' (first|with_reducible assumption|refine And.intro ?_ ?_|intro hp));all_goals (first|(refine hQ _ ?_;clear hQ Q)|omega|assumption|with_reducible rfl|(refine kq ?_;kernel_rfl)|skip))
      repeat' (first|(apply nx;with_reducible constructor)|refine jq (by decide) ?_)
      (refine wh (by simp only [vkt,seval,zu,xA];rfl) (fun h=>?_) (fun h=>?_) <;> (try simp only [vki,reduceCtorEq] at h))
      · have hlt:i.k < a.length:=by omega
        have hp:=hp hlt
        repeat' (first|(apply nx;with_reducible constructor)|refine jq (by decide) ?_|((first|refine kx env fun Q hQ=>?_|refine kz fun Q hQ=>?_);simp only [vkt,seval,zu,xA];(try simp only [ite_and]);(repeat' (first|with_reducible assumption|refine And.intro ?_ ?_|intro hp));all_goals (first|(refine hQ _ ?_;clear hQ Q)|(refine hQ _ (fun h=>?_) (fun h=>?_) <;> clear hQ Q <;> (try simp only [vki,reduceCtorEq] at h))|omega|assumption|with_reducible rfl|(refine kq ?_;kernel_rfl)|skip)))
        · (simp only [vrt,Tryz.results23,vkt,seval,zu,xA];refine Fin.val rfl ?_;(try simp only [AV.le,AV.leL]))
          all_goals (simp;exact i.differ (d:=[]) (by simpa using ‹_›))
        · have he:a.getD i.k []=b.getD i.k []:=by simpa using ‹_›
          have e1:=zt hlt hl
          refine ⟨i.next hlt he,by show a.length - (i.k+1) < _;omega, ?_⟩
          (refine Le.ok some [] ?_;constructor;all_goals (try simp only [vle,vkt,seval,zu,xA]))
          all_goals simp [EQ.next,e1]
      · repeat' (first|(apply nx;with_reducible constructor)|refine jq (by decide) ?_|((first|refine kx env fun Q hQ=>?_|refine kz fun Q hQ=>?_);simp only [vkt,seval,zu,xA];(try simp only [ite_and]);(repeat' (first|with_reducible assumption|refine And.intro ?_ ?_|intro hp));all_goals (first|(refine hQ _ ?_;clear hQ Q)|(refine hQ _ (fun h=>?_) (fun h=>?_) <;> clear hQ Q <;> (try simp only [vki,reduceCtorEq] at h))|omega|assumption|with_reducible rfl|(refine kq ?_;kernel_rfl)|skip)))
        (simp only [vrt,Tryz.results23,vkt,seval,zu,xA];refine Fin.val rfl ?_;(try simp only [AV.le,AV.leL]))
        all_goals (simp;exact i.last (by omega))
def QQ (p:List Int) (i:Nat):Int:=if 50 < p.getD (1+i) 0 then 1 else if p.getD (1+i) 0≤p.getD i 0 then 5 else 0
def Zl (p:List Int):Int:=if zI p.length 1 4 ≠ 0 then zI p.length 1 4 else if p.getD 0 0 ≠ 1 then 1 else jb (errs (p.length - 1) (QQ p))
def Qg3 (p:List Int) (k:Nat):St:={ t:=asg [(0,ql p),(2,aI 0),(17,ql (p.drop 1)),(18,aI ((p.length - 1:Nat):Int)),(19,aI k)],h:=qc [],n:=0 }
def zk:=kj @ty3 (kj @jL (kj @QJ (kj @ti3.eq_1 (kj @jG.eq_1 @Qe.eq_1))))
def xy:=kj @aI.eq_1 (kj @aB.eq_1 (kj @ql.eq_1 (kj @Qn (kj @qp.eq_1 (kj @s78.eq_1 (kj @s78.eq_2 (kj @Qg3.eq_1 (kj @slT (kj @slD (kj @QgZ (@Uk)))))))))))
theorem QgD (p:List Int) (hl:p.length≤maxLen):FnV Tryz.prog 25 [ql p] (aI (Zl p)):=by
  have env:Env (fun _=>True) Tryz.prog tyB (tab [(24,qo true s78)]):=qY ⟨e78,trivial⟩
  refine Fn.of (A:=fun _=>True) (n0:=0) (D:=noD) (Fn0 Tryz.func25 rfl (fun vs w=>by kernel_rfl) (by kernel_rfl)) (by simp) (by simp [AV.ids,ql]) (fun i o h=>by cases h) (fun _ _ _ _=>trivial) qA ?_
  have hc:zI p.length 1 4=0→1≤p.length∧p.length≤4:=fun h=>by unfold zI at h;split at h <;> simp at h;omega
  by_cases h0:zI p.length 1 4=0
  · have hc:=hc h0
    repeat' (first|(apply nx;with_reducible constructor)|refine jq (by decide) ?_|((first|refine kx env fun Q hQ=>?_|refine kz fun Q hQ=>?_);simp only [vkt,seval,zk,xy,List.take_length,List.length_drop,h0];(try simp only [ite_and]);(repeat' (first|with_reducible assumption|refine And.intro ?_ ?_|intro hp));all_goals (first|(refine hQ _ ?_;clear hQ Q)|(refine hQ _ (fun h=>?_) (fun h=>?_) <;> clear hQ Q <;> (try simp only [vki,reduceCtorEq] at h))|omega|assumption|with_reducible rfl|(refine kq ?_;kernel_rfl)|skip)))
    · (simp only [vrt,Tryz.results25,vkt,seval,zk,xy,List.take_length,List.length_drop];refine Fin.val rfl ?_;(try simp only [AV.le,AV.leL]))
      all_goals (unfold Zl;simp [-List.getD_eq_getElem?_getD,h0, *])
    · have hp1:p.getD 0 0=1:=by assumption
      refine qz (ι:=FI (errs (p.length - 1) (QQ p))) (fun i=>Qg3 p i.k) (fun i=>p.length - i.k) (FI.zero _) ?_ fun i=>?_
      · (refine Le.ok some [] ?_;constructor;all_goals (try simp only [vle,vkt,seval,zk,xy,List.take_length,List.length_drop]))
        all_goals simp [FI.zero]
      · have hk:=i.le
        rw [jS] at hk
        repeat' (first|(apply nx;with_reducible constructor)|refine jq (by decide) ?_|((first|refine kx env fun Q hQ=>?_|refine kz fun Q hQ=>?_);simp only [vkt,seval,zk,xy,List.take_length,List.length_drop];(try simp only [ite_and]);(repeat' (first|with_reducible assumption|refine And.intro ?_ ?_|intro hp));all_goals (first|(refine hQ _ ?_;clear hQ Q)|(refine hQ _ (fun h=>?_) (fun h=>?_) <;> clear hQ Q <;> (try simp only [vki,reduceCtorEq] at h))|omega|assumption|with_reducible rfl|(refine kq ?_;kernel_rfl)|skip)))
        · (simp only [vrt,Tryz.results25,vkt,seval,zk,xy,List.take_length,List.length_drop];refine Fin.val rfl ?_;(try simp only [AV.le,AV.leL]))
          all_goals (unfold Zl;rw [i.hit (by omega) (by unfold QQ;simp [-List.getD_eq_getElem?_getD, *])];unfold QQ;simp [-List.getD_eq_getElem?_getD, *])
        · (simp only [vrt,Tryz.results25,vkt,seval,zk,xy,List.take_length,List.length_drop];refine Fin.val rfl ?_;(try simp only [AV.le,AV.leL]))
          all_goals (unfold Zl;rw [i.hit (by omega) (by unfold QQ;simp [-List.getD_eq_getElem?_getD, *])];unfold QQ;simp [-List.getD_eq_getElem?_getD, *])
        · have hlt:i.k < p.length - 1:=by omega
          have e1:=zt hlt (show p.length - 1≤maxLen by omega)
          refine ⟨i.next hlt (by unfold QQ;simp [-List.getD_eq_getElem?_getD, *]),by show p.length - (i.k+1) < _;omega, ?_⟩
          (refine Le.ok some [] ?_;constructor;all_goals (try simp only [vle,vkt,seval,zk,xy,List.take_length,List.length_drop]))
          all_goals simp [FI.next,e1]
        · (simp only [vrt,Tryz.results25,vkt,seval,zk,xy,List.take_length,List.length_drop];refine Fin.val rfl ?_;(try simp only [AV.le,AV.leL]))
          all_goals (unfold Zl;rw [i.last (by omega)];simp [-List.getD_eq_getElem?_getD, *])
  · repeat' (first|(apply nx;with_reducible constructor)|refine jq (by decide) ?_|((first|refine kx env fun Q hQ=>?_|refine kz fun Q hQ=>?_);simp only [vkt,seval,zk,xy,List.take_length,List.length_drop,h0];(try simp only [ite_and]);(repeat' (first|with_reducible assumption|refine And.intro ?_ ?_|intro hp));all_goals (first|(refine hQ _ ?_;clear hQ Q)|(refine hQ _ (fun h=>?_) (fun h=>?_) <;> clear hQ Q <;> (try simp only [vki,reduceCtorEq] at h))|omega|assumption|with_reducible rfl|(refine kq ?_;kernel_rfl)|skip)))
    (simp only [vrt,Tryz.results25,vkt,seval,zk,xy,List.take_length,List.length_drop];refine Fin.val rfl ?_;(try simp only [AV.le,AV.leL]))
    all_goals (unfold Zl;simp [-List.getD_eq_getElem?_getD,h0])
def Qdv:List AV→Prop × AV
  |[.sl xs]=>(xs=(xs.map qJ).map qp∧xs.length≤maxLen,aI (Zl (xs.map qJ)))
  |_=>(False,.junk)
theorem e110 {A:Frm→Prop}:qh A Tryz.prog 25 (qo true Qdv):=qL fun vs hv h=>by
  clear hv
  unfold Qdv at h ⊢
  split at h
  · rename_i xs
    refine ⟨trivial,fun _=>trivial, ?_⟩
    have:=QgD (xs.map qJ) (by simpa using h.2)
    rwa [ql,← h.1] at this
  · exact h.elim
end Go.Sym.B
namespace Go.Sym.B
open Go Go.Sym Go.Proofs Go.Sym.C
def shE (s:Sh):Int:=if !inB s.num 1 20 then 1 else if !inB s.den 1 12 then 1 else if s ≠ shQ (mkRat s.num s.den.toNat) then 8 else 0
def Ym (r:List Sh) (i:Nat):Int:=shE (r.getD (1+i) default)
def vN (r:List Sh) (n:Int):Int:=if (r.length:Int) ≠ n then 2 else if r.getD 0 default ≠ ⟨1,1⟩ then 1 else jb (errs (r.length - 1) (Ym r))
def QfD (r:List Sh) (n:Int) (k:Nat):St:={ t:=asg [(0,J5 r),(1,aI n),(4,aI 0),(17,J5 (r.drop 1)),(18,aI ((r.length - 1:Nat):Int)),(19,aI k)],h:=qc [],n:=0 }
theorem Qeq (s:Sh) (a b:Int):(s=(⟨a,b⟩:Sh)) ↔ s.num=a∧s.den=b:=by cases s;simp
def qG:=kj @ty3 (kj @JP (kj @Wt (kj @ZQ (kj @ti3.eq_1 (kj @Wu.eq_1 (kj @Zo.eq_1 @Qx.eq_1))))))
def yl:=kj @aI.eq_1 (kj @aB.eq_1 (kj @J5.eq_1 (kj @gSh (kj @eSh.eq_1 (kj @s79.eq_1 (kj @s79.eq_2 (kj @ZW.eq_1 (kj @ZW.eq_2 (kj @VY.eq_1 (kj @VY.eq_2 (kj @QfD.eq_1 (kj @slT (kj @slD (kj @QgZ (kj @rSh (kj @aSh.eq_1 (@shQ.eq_1)))))))))))))))))
theorem Qef (r:List Sh) (n:Int) (hl:r.length≤maxLen) (hn:1≤n):FnV Tryz.prog 26 [J5 r,aI n] (aI (vN r n)):=by
  have env:Env (fun _=>True) Tryz.prog tyB (tab [(27,qo true s79),(35,qo true ZW),(64,qo true VY)]):=qY ⟨e79,Qdd,e139,trivial⟩
  refine Fn.of (A:=fun _=>True) (n0:=0) (D:=noD) (Fn0 Tryz.func26 rfl (fun vs w=>by kernel_rfl) (by kernel_rfl)) (by simp) (by simp [AV.ids,J5,aI]) (fun i o h=>by cases h) (fun _ _ _ _=>trivial) qA ?_
  have en1:((1:Int):Rat).num=1:=by decide
  have en2:((1:Int):Rat).den=1:=by decide
  have eqs:∀ s:Sh,(s=(⟨1,1⟩:Sh)) ↔ s.num=1∧s.den=1:=fun s=>Qeq s 1 1
  repeat' (first|(apply nx;with_reducible constructor)|refine jq (by decide) ?_|((first|refine kx env fun Q hQ=>?_|refine kz fun Q hQ=>?_);simp only [vkt,seval,qG,yl,List.take_length,List.length_drop,en1,en2];(try simp only [ite_and]);(repeat' (first|with_reducible assumption|refine And.intro ?_ ?_|intro hp));all_goals (first|(refine hQ _ ?_;clear hQ Q)|(refine hQ _ (fun h=>?_) (fun h=>?_) <;> clear hQ Q <;> (try simp only [vki,reduceCtorEq] at h))|omega|assumption|with_reducible rfl|(refine kq ?_;kernel_rfl)|skip)))
  · (simp only [vrt,Tryz.results26,vkt,seval,qG,yl,List.take_length,List.length_drop];refine Fin.val rfl ?_;(try simp only [AV.le,AV.leL]))
    all_goals (unfold vN;simp [-List.getD_eq_getElem?_getD, *])
  · (simp only [vrt,Tryz.results26,vkt,seval,qG,yl,List.take_length,List.length_drop];refine Fin.val rfl ?_;(try simp only [AV.le,AV.leL]))
    all_goals (unfold vN;rw [if_neg (by simp;omega),if_pos (by rw [ne_eq,eqs];simp at *;omega)])
  · have hr1:r.getD 0 default=⟨1,1⟩:=by rw [eqs];simpa using ‹_∧_›
    have hlen:(r.length:Int)=n:=by assumption
    refine qz (ι:=FI (errs (r.length - 1) (Ym r))) (fun i=>QfD r n i.k) (fun i=>r.length - i.k) (FI.zero _) ?_ fun i=>?_
    · (refine Le.ok some [] ?_;constructor;all_goals (try simp only [vle,vkt,seval,qG,yl,List.take_length,List.length_drop]))
      all_goals simp [FI.zero]
    · have hk:=i.le
      rw [jS] at hk
      have out:∀ e,Ym r i.k=e→e ≠ 0→i.k < r.length - 1→vN r n=e:=fun e he h0 hlt=>by
        unfold vN
        rw [if_neg (by simp;omega),if_neg (by rw [hr1];simp),i.hit hlt (by rw [he];exact h0),he]
      have last:r.length - 1≤i.k→vN r n=0:=fun h=>by
        unfold vN
        rw [if_neg (by simp;omega),if_neg (by rw [hr1];simp),i.last h]
      have hnext:(h1:Ym r i.k=0)→(hlt:i.k < r.length - 1)→∃ i':FI (errs (r.length - 1) (Ym r)),r.length - i'.k < r.length - i.k∧i'.k=i.k+1:=fun h1 hlt=>⟨i.next hlt h1,by show r.length - (i.k+1) < _;omega,rfl⟩
      have e1:i.k < r.length - 1→IntKind.wrap .i64 ((i.k:Int)+1)=((i.k+1:Nat):Int):=fun hlt=>zt hlt (by omega)
      unfold Ym at out hnext
      generalize hs:r.getD (1+i.k) default=s at *
      by_cases c1:inB s.num 1 20=true
      · by_cases c2:inB s.den 1 12=true
        · have hro:Qcs s.num s.den:=by simp [inB] at c1 c2;exact ⟨by omega,by omega,by omega,by omega⟩
          repeat' (first|(apply nx;with_reducible constructor)|refine jq (by decide) ?_|((first|refine kx env fun Q hQ=>?_|refine kz fun Q hQ=>?_);simp only [vkt,seval,qG,yl,List.take_length,List.length_drop,hs,c1,c2];(try simp only [ite_and]);(repeat' (first|with_reducible assumption|refine And.intro ?_ ?_|intro hp));all_goals (first|(refine hQ _ ?_;clear hQ Q)|(refine hQ _ (fun h=>?_) (fun h=>?_) <;> clear hQ Q <;> (try simp only [vki,reduceCtorEq] at h))|omega|assumption|with_reducible rfl|(refine kq ?_;kernel_rfl)|skip)))
          · (simp only [vrt,Tryz.results26,vkt,seval,qG,yl,List.take_length,List.length_drop];refine Fin.val rfl ?_;(try simp only [AV.le,AV.leL]))
            all_goals rw [out 8 (by unfold shE;rw [c1,c2,if_neg (by simp),if_neg (by simp),if_pos (by rw [ne_eq,Qeq];show ¬(_=(mkRat _ _).num∧_=((mkRat _ _).den:Int));omega)]) (by decide) (by omega)]
          · obtain ⟨i',g1,g2⟩:=hnext (by unfold shE;rw [c1,c2,if_neg (by simp),if_neg (by simp),if_neg (by rw [ne_eq,Decidable.not_not,Qeq];show (_=(mkRat _ _).num∧_=((mkRat _ _).den:Int));omega)]) (by omega)
            have e1:=e1 (by omega)
            refine ⟨i',g1, ?_⟩
            rw [g2]
            (refine Le.ok some [] ?_;constructor;all_goals (try simp only [vle,vkt,seval,qG,yl,List.take_length,List.length_drop]))
            all_goals simp [e1]
          · (simp only [vrt,Tryz.results26,vkt,seval,qG,yl,List.take_length,List.length_drop];refine Fin.val rfl ?_;(try simp only [AV.le,AV.leL]))
            all_goals rw [last (by omega)]
        · have c2:inB s.den 1 12=false:=by simpa using c2
          repeat' (first|(apply nx;with_reducible constructor)|refine jq (by decide) ?_|((first|refine kx env fun Q hQ=>?_|refine kz fun Q hQ=>?_);simp only [vkt,seval,qG,yl,List.take_length,List.length_drop,hs,c1,c2];(try simp only [ite_and]);(repeat' (first|with_reducible assumption|refine And.intro ?_ ?_|intro hp));all_goals (first|(refine hQ _ ?_;clear hQ Q)|(refine hQ _ (fun h=>?_) (fun h=>?_) <;> clear hQ Q <;> (try simp only [vki,reduceCtorEq] at h))|omega|assumption|with_reducible rfl|(refine kq ?_;kernel_rfl)|skip)))
          · (simp only [vrt,Tryz.results26,vkt,seval,qG,yl,List.take_length,List.length_drop];refine Fin.val rfl ?_;(try simp only [AV.le,AV.leL]))
            all_goals rw [out 1 (by unfold shE;simp [c1,c2]) (by decide) (by omega)]
          · (simp only [vrt,Tryz.results26,vkt,seval,qG,yl,List.take_length,List.length_drop];refine Fin.val rfl ?_;(try simp only [AV.le,AV.leL]))
            all_goals rw [last (by omega)]
      · have c1:inB s.num 1 20=false:=by simpa using c1
        repeat' (first|(apply nx;with_reducible constructor)|refine jq (by decide) ?_|((first|refine kx env fun Q hQ=>?_|refine kz fun Q hQ=>?_);simp only [vkt,seval,qG,yl,List.take_length,List.length_drop,hs,c1];(try simp only [ite_and]);(repeat' (first|with_reducible assumption|refine And.intro ?_ ?_|intro hp));all_goals (first|(refine hQ _ ?_;clear hQ Q)|(refine hQ _ (fun h=>?_) (fun h=>?_) <;> clear hQ Q <;> (try simp only [vki,reduceCtorEq] at h))|omega|assumption|with_reducible rfl|(refine kq ?_;kernel_rfl)|skip)))
        · (simp only [vrt,Tryz.results26,vkt,seval,qG,yl,List.take_length,List.length_drop];refine Fin.val rfl ?_;(try simp only [AV.le,AV.leL]))
          all_goals rw [out 1 (by unfold shE;simp [c1]) (by decide) (by omega)]
        · (simp only [vrt,Tryz.results26,vkt,seval,qG,yl,List.take_length,List.length_drop];refine Fin.val rfl ?_;(try simp only [AV.le,AV.leL]))
          all_goals rw [last (by omega)]
def Qfz:List AV→Prop × AV
  |[.sl xs,.v (.int .i64 n)]=>(xs=(xs.map dSh).map eSh∧xs.length≤maxLen∧1≤n,aI (vN (xs.map dSh) n))
  |_=>(False,.junk)
theorem e111 {A:Frm→Prop}:qh A Tryz.prog 26 (qo true Qfz):=qL fun vs hv h=>by
  clear hv
  unfold Qfz at h ⊢
  split at h
  · rename_i xs n
    refine ⟨trivial,fun _=>trivial, ?_⟩
    have:=Qef (xs.map dSh) n (by simpa using h.2.1) h.2.2
    rwa [J5,← h.1] at this
  · exact h.elim
end Go.Sym.B
namespace Go.Sym.B
open Go Go.Sym Go.Proofs Go.Sym.C
def yM (l:Led) (x:Ent) (before:Int):Int :=
  if !inB x.day 0 ((l.rates.length:Int) - 1) then 3 else if x.day < before then 5 else if !inB x.kind 1 4 then 8 else if !inB x.coin 0 ((l.coins.length:Int) - 1) then 3
  else if x.kind=3∧inB x.to 0 ((l.coins.length:Int) - 1)=false then 3 else if x.kind=3∧x.to=x.coin then 4 else if x.kind=3∧inB x.got 0 999=false then 1
  else if x.kind ≠ 3∧(x.to ≠ 0∨x.got ≠ 0) then 1 else if !inB x.amount 0 999 then 1 else 0
def qF:=kj @ty3 (kj @QA (kj @YB (kj @jL (kj @xm (kj @Wt (kj @JI (kj @ti3.eq_1 (kj @kP.eq_1 (kj @WO.eq_1 (kj @jG.eq_1 (kj @vG.eq_1 (kj @Zo.eq_1 @Wv.eq_1))))))))))))
def yo:=kj @aI.eq_1 (kj @aB.eq_1 (kj @U0.eq_1 (kj @zL.eq_1 (kj @zh.eq_1 (kj @s79.eq_1 (@s79.eq_2))))))
theorem Qd1 (l:Led) (x:Ent) (before:Int) (h1:l.rates.length≤20) (h2:l.coins.length≤20):FnV Tryz.prog 65 [zL l,U0 x,aI before] (aI (yM l x before)):=by
  have env:Env (fun _=>True) Tryz.prog tyB (tab [(27,qo true s79)]):=qY ⟨e79,trivial⟩
  refine Fn.of (A:=fun _=>True) (n0:=0) (D:=noD) (Fn0 Tryz.func65 rfl (fun vs w=>by kernel_rfl) (by kernel_rfl)) (by simp) (by simp [AV.ids,AV.idsL,zL,zh,U0,aI]) (fun i o h=>by cases h) (fun _ _ _ _=>trivial) qA ?_
  have w1:IntKind.wrap .i64 ((l.rates.length:Int) - 1)=(l.rates.length:Int) - 1:=wrap64 (by omega) (by omega)
  have w2:IntKind.wrap .i64 ((l.coins.length:Int) - 1)=(l.coins.length:Int) - 1:=wrap64 (by omega) (by omega)
  cases c1:inB x.day 0 ((l.rates.length:Int) - 1)
  · repeat' (first|(apply nx;with_reducible constructor)|refine jq (by decide) ?_|((first|refine kx env fun Q hQ=>?_|refine kz fun Q hQ=>?_);simp only [vkt,seval,qF,yo,w1,w2,c1];(try simp only [ite_and]);(repeat' (first|with_reducible assumption|refine And.intro ?_ ?_|intro hp));all_goals (first|(refine hQ _ ?_;clear hQ Q)|(refine hQ _ (fun h=>?_) (fun h=>?_) <;> clear hQ Q <;> (try simp only [vki,reduceCtorEq] at h))|omega|assumption|with_reducible rfl|(refine kq ?_;kernel_rfl)|skip)))
    (simp only [vrt,Tryz.results65,vkt,seval,qF,yo];refine Fin.val rfl ?_;(try simp only [AV.le,AV.leL]))
    all_goals simp [yM,c1]
  by_cases c2:x.day < before
  · repeat' (first|(apply nx;with_reducible constructor)|refine jq (by decide) ?_|((first|refine kx env fun Q hQ=>?_|refine kz fun Q hQ=>?_);simp only [vkt,seval,qF,yo,w1,w2,c1,c2];(try simp only [ite_and]);(repeat' (first|with_reducible assumption|refine And.intro ?_ ?_|intro hp));all_goals (first|(refine hQ _ ?_;clear hQ Q)|(refine hQ _ (fun h=>?_) (fun h=>?_) <;> clear hQ Q <;> (try simp only [vki,reduceCtorEq] at h))|omega|assumption|with_reducible rfl|(refine kq ?_;kernel_rfl)|skip)))
    (simp only [vrt,Tryz.results65,vkt,seval,qF,yo];refine Fin.val rfl ?_;(try simp only [AV.le,AV.leL]))
    all_goals simp [yM,c1,c2]
  cases c3:inB x.kind 1 4
  · repeat' (first|(apply nx;with_reducible constructor)|refine jq (by decide) ?_|((first|refine kx env fun Q hQ=>?_|refine kz fun Q hQ=>?_);simp only [vkt,seval,qF,yo,w1,w2,c1,c2,c3];(try simp only [ite_and]);(repeat' (first|with_reducible assumption|refine And.intro ?_ ?_|intro hp));all_goals (first|(refine hQ _ ?_;clear hQ Q)|(refine hQ _ (fun h=>?_) (fun h=>?_) <;> clear hQ Q <;> (try simp only [vki,reduceCtorEq] at h))|omega|assumption|with_reducible rfl|(refine kq ?_;kernel_rfl)|skip)))
    (simp only [vrt,Tryz.results65,vkt,seval,qF,yo];refine Fin.val rfl ?_;(try simp only [AV.le,AV.leL]))
    all_goals simp [yM,c1,c2,c3]
  cases c4:inB x.coin 0 ((l.coins.length:Int) - 1)
  · repeat' (first|(apply nx;with_reducible constructor)|refine jq (by decide) ?_|((first|refine kx env fun Q hQ=>?_|refine kz fun Q hQ=>?_);simp only [vkt,seval,qF,yo,w1,w2,c1,c2,c3,c4];(try simp only [ite_and]);(repeat' (first|with_reducible assumption|refine And.intro ?_ ?_|intro hp));all_goals (first|(refine hQ _ ?_;clear hQ Q)|(refine hQ _ (fun h=>?_) (fun h=>?_) <;> clear hQ Q <;> (try simp only [vki,reduceCtorEq] at h))|omega|assumption|with_reducible rfl|(refine kq ?_;kernel_rfl)|skip)))
    (simp only [vrt,Tryz.results65,vkt,seval,qF,yo];refine Fin.val rfl ?_;(try simp only [AV.le,AV.leL]))
    all_goals simp [yM,c1,c2,c3,c4]
  by_cases c5:x.kind=3
  · have c7:inB 3 1 4=true:=by decide
    cases c6:inB x.to 0 ((l.coins.length:Int) - 1)
    · repeat' (first|(apply nx;with_reducible constructor)|refine jq (by decide) ?_|((first|refine kx env fun Q hQ=>?_|refine kz fun Q hQ=>?_);simp only [vkt,seval,qF,yo,w1,w2,c1,c2,c7,c4,c5,c6];(try simp only [ite_and]);(repeat' (first|with_reducible assumption|refine And.intro ?_ ?_|intro hp));all_goals (first|(refine hQ _ ?_;clear hQ Q)|(refine hQ _ (fun h=>?_) (fun h=>?_) <;> clear hQ Q <;> (try simp only [vki,reduceCtorEq] at h))|omega|assumption|with_reducible rfl|(refine kq ?_;kernel_rfl)|skip)))
      (simp only [vrt,Tryz.results65,vkt,seval,qF,yo];refine Fin.val rfl ?_;(try simp only [AV.le,AV.leL]))
      all_goals simp [yM,c1,c2,c7,c4,c5,c6]
    repeat' (first|(apply nx;with_reducible constructor)|refine jq (by decide) ?_|((first|refine kx env fun Q hQ=>?_|refine kz fun Q hQ=>?_);simp only [vkt,seval,qF,yo,w1,w2,c1,c2,c7,c4,c5,c6];(try simp only [ite_and]);(repeat' (first|with_reducible assumption|refine And.intro ?_ ?_|intro hp));all_goals (first|(refine hQ _ ?_;clear hQ Q)|(refine hQ _ (fun h=>?_) (fun h=>?_) <;> clear hQ Q <;> (try simp only [vki,reduceCtorEq] at h))|omega|assumption|with_reducible rfl|(refine kq ?_;kernel_rfl)|skip)))
    all_goals (simp only [vrt,Tryz.results65,vkt,seval,qF,yo];refine Fin.val rfl ?_;(try simp only [AV.le,AV.leL]))
    all_goals simp [yM, *]
  · repeat' (first|(apply nx;with_reducible constructor)|refine jq (by decide) ?_|((first|refine kx env fun Q hQ=>?_|refine kz fun Q hQ=>?_);simp only [vkt,seval,qF,yo,w1,w2,c1,c2,c3,c4,c5];(try simp only [ite_and]);(repeat' (first|with_reducible assumption|refine And.intro ?_ ?_|intro hp));all_goals (first|(refine hQ _ ?_;clear hQ Q)|(refine hQ _ (fun h=>?_) (fun h=>?_) <;> clear hQ Q <;> (try simp only [vki,reduceCtorEq] at h))|omega|assumption|with_reducible rfl|(refine kq ?_;kernel_rfl)|skip)))
    all_goals (simp only [vrt,Tryz.results65,vkt,seval,qF,yo];refine Fin.val rfl ?_;(try simp only [AV.le,AV.leL]))
    all_goals simp [yM, *]
def Qfe:List AV→Prop × AV
  |[.agg [.sl cs,.sl rs,.sl ss,.sl es],.agg [.v (.int .i64 a),.v (.int .i64 b),.v (.int .i64 c),.v (.int .i64 d),.v (.int .i64 e),.v (.int .i64 f)],.v (.int .i64 n)] =>
    (cs=(cs.map zw).map zH∧rs=(rs.map QY).map kw∧ss=(ss.map qJ).map qp∧es=(es.map QP).map yg∧rs.length≤20∧cs.length≤20,aI (yM ⟨cs.map zw,rs.map QY,ss.map qJ,es.map QP⟩ ⟨a,b,c,d,e,f⟩ n))
  |_=>(False,.junk)
theorem e140 {A:Frm→Prop}:qh A Tryz.prog 65 (qo true Qfe):=qL fun vs hv h=>by
  clear hv
  unfold Qfe at h ⊢
  split at h
  · rename_i cs rs ss es a b c d e f n
    obtain ⟨h1,h2,h3,h4,h5,h6⟩:=h
    refine ⟨trivial,fun _=>trivial, ?_⟩
    have:=Qd1 ⟨cs.map zw,rs.map QY,ss.map qJ,es.map QP⟩ ⟨a,b,c,d,e,f⟩ n (by simpa using h5) (by simpa using h6)
    simp only [zL,zh,← h1,← h2,← h3,← h4] at this
    exact this
  · exact h.elim
end Go.Sym.B
namespace Go.Sym.B
open Go Go.Sym Go.Proofs Go.Sym.C
theorem gI0 {l:List Int} {n:Nat} (h:n < l.length):(l.map qp).getD n []=qp (l.getD n 0):=by simp [List.getD_eq_getElem?_getD,h]
theorem setI (l:List Int) (n:Nat) (v:Int):(l.map qp).set n [.v (.int .i64 v)]=(l.set n v).map qp:=by rw [List.map_set];rfl
theorem b47 {n:Nat} (h:n≤100000):n * 8≤140737488355328∧n * 24≤140737488355328∧n * 16≤140737488355328∧n≤maxLen:=by
  have:(100000:Nat)≤maxLen:=by decide
  omega
def zq:=kj @ty3 (kj @jL (kj @ti3.eq_1 @jG.eq_1))
theorem YG (xs:List (List DV)) (h1:zX 1 xs) (h2:xs.length≤100000):Fn noB Tryz.prog 42 [.sl xs] noH (.row 0) (qc [(0,.row 3 1 xs)]) 0:=by
  have env:Env (fun _=>True) Tryz.prog tyB (tab []):=qY trivial
  obtain ⟨b1,b2,b3,b4⟩:=b47 h2
  refine Fn.of (A:=fun _=>True) (n0:=0) (D:=noD) (Fn0 Tryz.func42 rfl (fun vs w=>by kernel_rfl) (by kernel_rfl)) (by simp) (by simp [AV.ids]) (fun i o h=>by cases h) (fun _ _ _ _=>trivial) qA ?_
  repeat' (first|(apply nx;with_reducible constructor)|refine jq (by decide) ?_)
  (refine kx env fun Q hQ=>?_;simp only [vkt,seval,zq,@true_and];(try simp only [ite_and]);(repeat' (first|with_reducible assumption|refine And.intro ?_ ?_|intro hp));all_goals (first|(refine hQ _ ?_;clear hQ Q)|omega|assumption|with_reducible rfl|(refine kq ?_;kernel_rfl)|skip))
  repeat' (first|(apply nx;with_reducible constructor)|refine jq (by decide) ?_)
  refine Yu (d1:=3) (d2:=4) (t:=24) (e:=3) (x:=.tmp 0) (xs:=xs) rfl rfl rfl rfl rfl rfl Tryz.underlying24 rfl fun b hb=>?_
  repeat' (first|(apply nx;with_reducible constructor)|refine jq (by decide) ?_)
  (refine wh (by simp only [vkt,seval,zq,@true_and];rfl) (fun h=>?_) (fun h=>?_) <;> (try simp only [vki,reduceCtorEq] at h))
  · have hx:=hb h
    subst hx
    repeat' (first|(apply nx;with_reducible constructor)|refine jq (by decide) ?_|((first|refine kx env fun Q hQ=>?_|refine kz fun Q hQ=>?_);simp only [vkt,seval,zq,@true_and];(try simp only [ite_and]);(repeat' (first|with_reducible assumption|refine And.intro ?_ ?_|intro hp));all_goals (first|(refine hQ _ ?_;clear hQ Q)|(refine hQ _ (fun h=>?_) (fun h=>?_) <;> clear hQ Q <;> (try simp only [vki,reduceCtorEq] at h))|omega|assumption|with_reducible rfl|(refine kq ?_;kernel_rfl)|skip)))
    (simp only [vrt,Tryz.results42,vkt,seval,zq,@true_and];refine Fin.ok (fun _=>none) [] ?_ ?_ ?_ ?_ ?_ rfl;all_goals (try simp only [vle,vkt,seval,zq,@true_and]))
    all_goals simp
  · repeat' (first|(apply nx;with_reducible constructor)|refine jq (by decide) ?_|((first|refine kx env fun Q hQ=>?_|refine kz fun Q hQ=>?_);simp only [vkt,seval,zq,@true_and];(try simp only [ite_and]);(repeat' (first|with_reducible assumption|refine And.intro ?_ ?_|intro hp));all_goals (first|(refine hQ _ ?_;clear hQ Q)|(refine hQ _ (fun h=>?_) (fun h=>?_) <;> clear hQ Q <;> (try simp only [vki,reduceCtorEq] at h))|omega|assumption|with_reducible rfl|(refine kq ?_;kernel_rfl)|skip)))
    (simp only [vrt,Tryz.results42,vkt,seval,zq,@true_and];refine Fin.ok some [] ?_ ?_ ?_ ?_ ?_ rfl;all_goals (try simp only [vle,vkt,seval,zq,@true_and]))
    all_goals simp
def zf:=kj @QA (kj @jL (kj @kP.eq_1 @jG.eq_1))
theorem Qbd (xs:List (List DV)) (h1:zX 1 xs) (h2:xs.length≤100000):Fn noB Tryz.prog 63 [.sl xs] noH (.row 0) (qc [(0,.row 24 1 xs)]) 0:=by
  have env:Env (fun _=>True) Tryz.prog tyB (tab []):=qY trivial
  obtain ⟨b1,b2,b3,b4⟩:=b47 h2
  refine Fn.of (A:=fun _=>True) (n0:=0) (D:=noD) (Fn0 Tryz.func63 rfl (fun vs w=>by kernel_rfl) (by kernel_rfl)) (by simp) (by simp [AV.ids]) (fun i o h=>by cases h) (fun _ _ _ _=>trivial) qA ?_
  repeat' (first|(apply nx;with_reducible constructor)|refine jq (by decide) ?_)
  (refine kx env fun Q hQ=>?_;simp only [vkt,seval,zf,@true_and];(try simp only [ite_and]);(repeat' (first|with_reducible assumption|refine And.intro ?_ ?_|intro hp));all_goals (first|(refine hQ _ ?_;clear hQ Q)|omega|assumption|with_reducible rfl|(refine kq ?_;kernel_rfl)|skip))
  repeat' (first|(apply nx;with_reducible constructor)|refine jq (by decide) ?_)
  refine Yu (d1:=3) (d2:=4) (t:=22) (e:=24) (x:=.tmp 0) (xs:=xs) rfl rfl rfl rfl rfl rfl Tryz.underlying22 rfl fun b hb=>?_
  repeat' (first|(apply nx;with_reducible constructor)|refine jq (by decide) ?_)
  (refine wh (by simp only [vkt,seval,zf,@true_and];rfl) (fun h=>?_) (fun h=>?_) <;> (try simp only [vki,reduceCtorEq] at h))
  · have hx:=hb h
    subst hx
    repeat' (first|(apply nx;with_reducible constructor)|refine jq (by decide) ?_|((first|refine kx env fun Q hQ=>?_|refine kz fun Q hQ=>?_);simp only [vkt,seval,zf,@true_and];(try simp only [ite_and]);(repeat' (first|with_reducible assumption|refine And.intro ?_ ?_|intro hp));all_goals (first|(refine hQ _ ?_;clear hQ Q)|(refine hQ _ (fun h=>?_) (fun h=>?_) <;> clear hQ Q <;> (try simp only [vki,reduceCtorEq] at h))|omega|assumption|with_reducible rfl|(refine kq ?_;kernel_rfl)|skip)))
    (simp only [vrt,Tryz.results63,vkt,seval,zf,@true_and];refine Fin.ok (fun _=>none) [] ?_ ?_ ?_ ?_ ?_ rfl;all_goals (try simp only [vle,vkt,seval,zf,@true_and]))
    all_goals simp
  · repeat' (first|(apply nx;with_reducible constructor)|refine jq (by decide) ?_|((first|refine kx env fun Q hQ=>?_|refine kz fun Q hQ=>?_);simp only [vkt,seval,zf,@true_and];(try simp only [ite_and]);(repeat' (first|with_reducible assumption|refine And.intro ?_ ?_|intro hp));all_goals (first|(refine hQ _ ?_;clear hQ Q)|(refine hQ _ (fun h=>?_) (fun h=>?_) <;> clear hQ Q <;> (try simp only [vki,reduceCtorEq] at h))|omega|assumption|with_reducible rfl|(refine kq ?_;kernel_rfl)|skip)))
    (simp only [vrt,Tryz.results63,vkt,seval,zf,@true_and];refine Fin.ok some [] ?_ ?_ ?_ ?_ ?_ rfl;all_goals (try simp only [vle,vkt,seval,zf,@true_and]))
    all_goals simp
def p88 (_:St):List AV→Option Pk
  |[.sl xs]=>some { pre:=zX 1 xs∧xs.length≤100000,ar:=[.sl xs],v:=.row 0,L1:=[some (.row 3 1 xs)] }
  |[.nil]=>some { ar:=[.sl []],v:=.row 0,L1:=[some (.row 3 1 [])] }
  |_=>none
theorem e88 {A:Frm→Prop}:qh A Tryz.prog 42 (fnE p88):=jC fun S bs q h hp=>by
  unfold p88 at h
  split at h <;> cases h
  · exact YG _ hp.1 hp.2
  · exact YG [] (by simp [zX]) (by simp)
def p95 (_:St):List AV→Option Pk
  |[.sl xs]=>some { pre:=zX 1 xs∧xs.length≤100000,ar:=[.sl xs],v:=.row 0,L1:=[some (.row 24 1 xs)] }
  |[.nil]=>some { ar:=[.sl []],v:=.row 0,L1:=[some (.row 24 1 [])] }
  |_=>none
theorem e95 {A:Frm→Prop}:qh A Tryz.prog 63 (fnE p95):=jC fun S bs q h hp=>by
  unfold p95 at h
  split at h <;> cases h
  · exact Qbd _ hp.1 hp.2
  · exact Qbd [] (by simp [zX]) (by simp)
def ym (l:Led) (r:Nat):AObj:=.cells (zh l++[.row r])
def ky (has:List Int):AObj:=.row 3 1 (has.map qp)
def xR:=kj @ty3 (kj @jL (kj @xm (kj @Qa3 (kj @ti3.eq_1 (kj @jG.eq_1 (kj @vG.eq_1 @V6.eq_1))))))
def XV:=kj @zL.eq_1 (kj @zh.eq_1 (kj @p88.eq_1 (kj @p88.eq_2 (kj @p88.eq_3 (kj @Uk (kj @ym.eq_1 (@ky.eq_1)))))))
theorem Qhn (l:Led) (h:l.start.length≤100000):Fn noB Tryz.prog 37 [zL l] noH (.ptr 0 0) (qc [(0,ym l 1),(1,ky l.start)]) 0:=by
  have env:Env (fun _=>True) Tryz.prog tyB (tab [(42,fnE p88)]):=qY ⟨e88,trivial⟩
  refine Fn.of (A:=fun _=>True) (n0:=0) (D:=noD) (Fn0 Tryz.func37 rfl (fun vs w=>by kernel_rfl) (by kernel_rfl)) (by simp) (by simp [AV.ids,AV.idsL,zL,zh]) (fun i o h=>by cases h) (fun _ _ _ _=>trivial) qA ?_
  repeat' (first|(apply nx;with_reducible constructor)|refine jq (by decide) ?_|((first|refine kx env fun Q hQ=>?_|refine kz fun Q hQ=>?_);simp only [vkt,seval,xR,XV];(try simp only [ite_and]);(repeat' (first|with_reducible assumption|refine And.intro ?_ ?_|intro hp));all_goals (first|(refine hQ _ ?_;clear hQ Q)|(refine hQ _ (fun h=>?_) (fun h=>?_) <;> clear hQ Q <;> (try simp only [vki,reduceCtorEq] at h))|omega|assumption|with_reducible rfl|(refine kq ?_;kernel_rfl)|skip)))
  (simp only [vrt,Tryz.results37,vkt,seval,xR,XV];refine Fin.ok (fun j=>if j=0 then some 2 else if j=1 then some 1 else none) [] ?_ ?_ ?_ ?_ ?_ rfl;all_goals (try simp only [vle,vkt,seval,xR,XV]))
  all_goals simp
def p97 (_:St):List AV→Option Pk
  |[.agg [.sl cs,.sl rs,.sl ss,.sl es]]=>some { pre:=cs=(cs.map zw).map zH∧rs=(rs.map QY).map kw∧ss=(ss.map qJ).map qp∧es=(es.map QP).map yg∧ss.length≤100000,ar:=[.agg [.sl cs,.sl rs,.sl ss,.sl es]],v:=.ptr 0 0,L1:=[some (.cells [.sl cs,.sl rs,.sl ss,.sl es,.row 1]),some (.row 3 1 ss)] }
  |_=>none
theorem e97 {A:Frm→Prop}:qh A Tryz.prog 37 (fnE p97):=jC fun S bs q h hp=>by
  unfold p97 at h
  split at h <;> cases h
  rename_i cs rs ss es
  have:=Qhn ⟨cs.map zw,rs.map QY,ss.map qJ,es.map QP⟩ (by simpa using hp.2.2.2.2)
  simp only [zL,zh,ym,ky,← hp.1,← hp.2.1,← hp.2.2.1,← hp.2.2.2.1] at this
  exact this
def xh (has:List Int) (i d:Int):List Int:=has.set i.toNat (has.getD i.toNat 0+d)
def yj (has:List Int) (x:Ent):List Int :=
  if x.kind=1 then xh has x.coin x.amount else if x.kind=2 then xh has x.coin (-x.amount) else if x.kind=3 then xh (xh has x.coin (-x.amount)) x.to x.got
  else if x.kind=4 then has.set x.coin.toNat x.amount else has
structure EnOk (has:List Int) (x:Ent):Prop where
  c0:0≤x.coin
  c1:x.coin.toNat < has.length
  t:x.kind=3→0≤x.to∧x.to.toNat < has.length
  a:0≤x.amount∧x.amount≤999
  g:x.kind=3→0≤x.got∧x.got≤999
  b:∀ v ∈ has,-1000000≤v∧v≤1000000
theorem bGet {has:List Int} {n:Nat} (h:∀ v ∈ has,-1000000≤v∧v≤1000000):-1000000≤has.getD n 0∧has.getD n 0≤1000000:=by
  by_cases hn:n < has.length
  · exact h _ (jU hn)
  · rw [List.getD_eq_getElem?_getD,List.getElem?_eq_none (by omega)];simp
def qB:=kj @ty3 (kj @jL (kj @JI (kj @Qa3 (kj @ti3.eq_1 (kj @jG.eq_1 (kj @Wv.eq_1 @V6.eq_1))))))
def j5:=kj @zL.eq_1 (kj @zh.eq_1 (kj @U0.eq_1 (kj @ym.eq_1 (kj @ky.eq_1 (@setI)))))
set_option maxHeartbeats 1000000 in
theorem Qfb (l:Led) (has:List Int) (x:Ent) (h:EnOk has x):Fn noB Tryz.prog 38 [.ptr 0 0,U0 x] (qc [(0,ym l 1),(1,ky has)]) (.tup []) (qc [(0,ym l 1),(1,ky (yj has x))]) 0:=by
  have env:Env (fun _=>True) Tryz.prog tyB (tab []):=qY trivial
  refine Fn.of (A:=fun _=>True) (n0:=2) (D:=noD) (Fn0 Tryz.func38 rfl (fun vs w=>by kernel_rfl) (by kernel_rfl)) (by simp) (by simp [AV.ids,AV.idsL,U0]) ?_ (fun _ _ _ _=>trivial) qA ?_
  · intro i o hi
    rcases List.mem_cons.1 (qV hi) with h|h
    · cases h;simp [ym,zh,AObj.ids,AV.ids,AV.idsL]
    · simp at h;obtain ⟨rfl,rfl⟩:=h;simp [ky,AObj.ids]
  have c0:=h.c0
  have c1:=h.c1
  have g1:=gI0 h.c1
  have b1:=bGet (n:=x.coin.toNat) h.b
  have ha:=h.a
  by_cases k1:x.kind=1
  · have w1:IntKind.wrap .i64 (has.getD x.coin.toNat 0+x.amount)=has.getD x.coin.toNat 0+x.amount:=wrap64 (by omega) (by omega)
    repeat' (first|(apply nx;with_reducible constructor)|refine jq (by decide) ?_|((first|refine kx env fun Q hQ=>?_|refine kz fun Q hQ=>?_);simp only [vkt,seval,qB,j5,k1,g1,w1,qp];(try simp only [ite_and]);(repeat' (first|with_reducible assumption|refine And.intro ?_ ?_|intro hp));all_goals (first|(refine hQ _ ?_;clear hQ Q)|(refine hQ _ (fun h=>?_) (fun h=>?_) <;> clear hQ Q <;> (try simp only [vki,reduceCtorEq] at h))|omega|assumption|with_reducible rfl|(refine kq ?_;kernel_rfl)|skip)))
    (simp only [vrt,Tryz.results38,vkt,seval,qB,j5];refine Fin.ok some [] ?_ ?_ ?_ ?_ ?_ rfl;all_goals (try simp only [vle,vkt,seval,qB,j5]))
    all_goals simp [yj,k1,xh]
  by_cases k2:x.kind=2
  · have w1:IntKind.wrap .i64 (has.getD x.coin.toNat 0 - x.amount)=has.getD x.coin.toNat 0+-x.amount:=by rw [wrap64 (by omega) (by omega)];omega
    repeat' (first|(apply nx;with_reducible constructor)|refine jq (by decide) ?_|((first|refine kx env fun Q hQ=>?_|refine kz fun Q hQ=>?_);simp only [vkt,seval,qB,j5,k2,g1,w1,qp];(try simp only [ite_and]);(repeat' (first|with_reducible assumption|refine And.intro ?_ ?_|intro hp));all_goals (first|(refine hQ _ ?_;clear hQ Q)|(refine hQ _ (fun h=>?_) (fun h=>?_) <;> clear hQ Q <;> (try simp only [vki,reduceCtorEq] at h))|omega|assumption|with_reducible rfl|(refine kq ?_;kernel_rfl)|skip)))
    (simp only [vrt,Tryz.results38,vkt,seval,qB,j5];refine Fin.ok some [] ?_ ?_ ?_ ?_ ?_ rfl;all_goals (try simp only [vle,vkt,seval,qB,j5]))
    all_goals simp [yj,k2,xh]
  by_cases k3:x.kind=3
  · have w1:IntKind.wrap .i64 (has.getD x.coin.toNat 0 - x.amount)=has.getD x.coin.toNat 0+-x.amount:=by rw [wrap64 (by omega) (by omega)];omega
    obtain ⟨t0,t1⟩:=h.t k3
    have hg:=h.g k3
    have hb2:∀ v ∈ xh has x.coin (-x.amount),-1001000≤v∧v≤1001000:=fun v hv=>by
      rcases List.mem_or_eq_of_mem_set hv with h1|h1
      · have:=h.b v h1;omega
      · omega
    have t2:x.to.toNat < (xh has x.coin (-x.amount)).length:=by simp [xh];exact t1
    have g2:=gI0 t2
    have b2:=hb2 _ (jU (d:=0) t2)
    have w2:IntKind.wrap .i64 ((xh has x.coin (-x.amount)).getD x.to.toNat 0+x.got)=(xh has x.coin (-x.amount)).getD x.to.toNat 0+x.got:=wrap64 (by omega) (by omega)
    have e2:has.set x.coin.toNat (has.getD x.coin.toNat 0+-x.amount)=xh has x.coin (-x.amount):=rfl
    repeat' (first|(apply nx;with_reducible constructor)|refine jq (by decide) ?_|((first|refine kx env fun Q hQ=>?_|refine kz fun Q hQ=>?_);simp only [vkt,seval,qB,j5,k3,g1,w1,e2,g2,w2,qp];(try simp only [ite_and]);(repeat' (first|with_reducible assumption|refine And.intro ?_ ?_|intro hp));all_goals (first|(refine hQ _ ?_;clear hQ Q)|(refine hQ _ (fun h=>?_) (fun h=>?_) <;> clear hQ Q <;> (try simp only [vki,reduceCtorEq] at h))|omega|assumption|with_reducible rfl|(refine kq ?_;kernel_rfl)|skip)))
    (simp only [vrt,Tryz.results38,vkt,seval,qB,j5];refine Fin.ok some [] ?_ ?_ ?_ ?_ ?_ rfl;all_goals (try simp only [vle,vkt,seval,qB,j5]))
    all_goals (simp only [yj,k3];simp;conv=>rhs;rw [xh,List.map_set])
    all_goals simp
  by_cases k4:x.kind=4
  · repeat' (first|(apply nx;with_reducible constructor)|refine jq (by decide) ?_|((first|refine kx env fun Q hQ=>?_|refine kz fun Q hQ=>?_);simp only [vkt,seval,qB,j5,k4,g1,qp];(try simp only [ite_and]);(repeat' (first|with_reducible assumption|refine And.intro ?_ ?_|intro hp));all_goals (first|(refine hQ _ ?_;clear hQ Q)|(refine hQ _ (fun h=>?_) (fun h=>?_) <;> clear hQ Q <;> (try simp only [vki,reduceCtorEq] at h))|omega|assumption|with_reducible rfl|(refine kq ?_;kernel_rfl)|skip)))
    (simp only [vrt,Tryz.results38,vkt,seval,qB,j5];refine Fin.ok some [] ?_ ?_ ?_ ?_ ?_ rfl;all_goals (try simp only [vle,vkt,seval,qB,j5]))
    all_goals simp [yj,k4]
  · repeat' (first|(apply nx;with_reducible constructor)|refine jq (by decide) ?_|((first|refine kx env fun Q hQ=>?_|refine kz fun Q hQ=>?_);simp only [vkt,seval,qB,j5,k1,k2,k3,k4];(try simp only [ite_and]);(repeat' (first|with_reducible assumption|refine And.intro ?_ ?_|intro hp));all_goals (first|(refine hQ _ ?_;clear hQ Q)|(refine hQ _ (fun h=>?_) (fun h=>?_) <;> clear hQ Q <;> (try simp only [vki,reduceCtorEq] at h))|omega|assumption|with_reducible rfl|(refine kq ?_;kernel_rfl)|skip)))
    (simp only [vrt,Tryz.results38,vkt,seval,qB,j5];refine Fin.ok some [] ?_ ?_ ?_ ?_ ?_ rfl;all_goals (try simp only [vle,vkt,seval,qB,j5]))
    all_goals simp [yj,k1,k2,k3,k4]
def WV (S:St):List AV→Option Pk
  |[.ptr t 0,.agg [.v (.int .i64 a),.v (.int .i64 b),.v (.int .i64 c),.v (.int .i64 d),.v (.int .i64 e),.v (.int .i64 f)]]=>match S.h t with
    |some (.cells [.sl cs,.sl rs,.sl ss,.sl es,.row r])=>match S.h r with
      |some (.row 3 1 hs)=>some { pre:=cs=(cs.map zw).map zH∧rs=(rs.map QY).map kw∧ss=(ss.map qJ).map qp∧es=(es.map QP).map yg∧hs=(hs.map qJ).map qp∧EnOk (hs.map qJ) ⟨a,b,c,d,e,f⟩,hs:=[t,r],ar:=[.ptr 0 0,.agg [.v (.int .i64 a),.v (.int .i64 b),.v (.int .i64 c),.v (.int .i64 d),.v (.int .i64 e),.v (.int .i64 f)]],L0:=[.cells [.sl cs,.sl rs,.sl ss,.sl es,.row 1],.row 3 1 hs],v:=.tup [],L1:=[some (.cells [.sl cs,.sl rs,.sl ss,.sl es,.row 1]),some (.row 3 1 ((yj (hs.map qJ) ⟨a,b,c,d,e,f⟩).map qp))] }
      |_=>none
    |_=>none
  |_=>none
theorem e101 {A:Frm→Prop}:qh A Tryz.prog 38 (fnE WV):=jC fun S bs q h hp=>by
  unfold WV at h
  split at h
  · split at h
    · split at h
      · rename_i t a b c d e f _ cs rs ss es r _ _ hs _
        cases h
        have:=Qfb ⟨cs.map zw,rs.map QY,ss.map qJ,es.map QP⟩ (hs.map qJ) ⟨a,b,c,d,e,f⟩ hp.2.2.2.2.2
        simp only [ym,ky,zh,← hp.1,← hp.2.1,← hp.2.2.1,← hp.2.2.2.1,← hp.2.2.2.2.1] at this
        exact this
      · cases h
    · cases h
  · cases h
end Go.Sym.B
namespace Go.Sym.B
open Go Go.Sym Go.Proofs Go.Sym.C
structure EntryOk (l:Led) (x:Ent) (before:Int):Prop where
  day:0≤x.day∧x.day≤(l.rates.length:Int) - 1
  ord:before≤x.day
  kind:1≤x.kind∧x.kind≤4
  coin:0≤x.coin∧x.coin≤(l.coins.length:Int) - 1
  to:x.kind=3→0≤x.to∧x.to≤(l.coins.length:Int) - 1
  ne:x.kind=3→x.to ≠ x.coin
  got:x.kind=3→0≤x.got∧x.got≤999
  no:x.kind ≠ 3→x.to=0∧x.got=0
  am:0≤x.amount∧x.amount≤999
theorem wC {n a b:Int}:inB n a b=true ↔ a≤n∧n≤b:=by simp [inB]
theorem Z7 {l:Led} {x:Ent} {b:Int} (h:yM l x b=0):EntryOk l x b:=by
  unfold yM at h
  split at h
  · exact absurd h (by decide)
  rename_i a1
  split at h
  · exact absurd h (by decide)
  rename_i a2
  split at h
  · exact absurd h (by decide)
  rename_i a3
  split at h
  · exact absurd h (by decide)
  rename_i a4
  split at h
  · exact absurd h (by decide)
  rename_i a5
  split at h
  · exact absurd h (by decide)
  rename_i a6
  split at h
  · exact absurd h (by decide)
  rename_i a7
  split at h
  · exact absurd h (by decide)
  rename_i a8
  split at h
  · exact absurd h (by decide)
  rename_i a9
  have nf:∀ {p:Bool},¬ (!p)=true→p=true:=fun h=>by simpa using h
  have nn:∀ {p:Prop} {q:Bool},¬ (p∧q=false)→p→q=true:=fun h hp=>by simpa [hp] using h
  refine ⟨wC.1 (nf a1),by omega,wC.1 (nf a3),wC.1 (nf a4),fun h3=>wC.1 (nn a5 h3),fun h3 h4=>a6 ⟨h3,h4⟩,fun h3=>wC.1 (nn a7 h3),fun h3=>?_,wC.1 (nf a9)⟩
  constructor
  · exact Classical.byContradiction fun hn=>a8 ⟨h3,.inl hn⟩
  · exact Classical.byContradiction fun hn=>a8 ⟨h3,.inr hn⟩
def stK (l:Led) (k:Nat):Int × List Int:=(l.entries.take k).foldl (fun s x=>(x.day,yj s.2 x)) (0,l.start)
theorem ZL {l:Led} {k:Nat} (h:k < l.entries.length):stK l (k+1)=((l.entries.getD k default).day,yj (stK l k).2 (l.entries.getD k default)):=by
  unfold stK
  rw [List.take_succ_eq_append_getElem h,List.foldl_append,List.getD_eq_getElem?_getD,List.getElem?_eq_getElem h]
  rfl
def eV (l:Led) (x:Ent) (b:Int) (has:List Int):Int:=if yM l x b ≠ 0 then yM l x b else if (x.kind=2∨x.kind=3)∧has.getD x.coin.toNat 0 < x.amount then 9 else 0
def eK (l:Led) (k:Nat):Int:=eV l (l.entries.getD k default) (stK l k).1 (stK l k).2
theorem QeB (l:Led) (k:Nat):eK l k=eV l (l.entries.getD k default) (stK l k).1 (stK l k).2:=rfl
def vJ (l:Led):Int:=if zI l.entries.length 0 6 ≠ 0 then zI l.entries.length 0 6 else jb (errs l.entries.length (eK l))
theorem LW (has:List Int) (x:Ent):(yj has x).length=has.length:=by
  unfold yj xh
  repeat' split
  all_goals simp
structure HasOk (l:Led) (k:Nat) (has:List Int):Prop where
  len:has.length=l.coins.length
  b:∀ v ∈ has,0≤v∧v≤999 * (k+1)
theorem RO {l:Led} (h1:l.start.length=l.coins.length) (h2:∀ v ∈ l.start,0≤v∧v≤999):HasOk l 0 (stK l 0).2:=⟨h1,fun v hv=>by have:=h2 v hv;simp;omega⟩
theorem QaN {l:Led} {k:Nat} {has:List Int} {x:Ent} {b:Int} (h:HasOk l k has) (hx:EntryOk l x b) (hp:¬ ((x.kind=2∨x.kind=3)∧has.getD x.coin.toNat 0 < x.amount)):HasOk l (k+1) (yj has x):=by
  refine ⟨(LW _ _).trans h.len,fun v hv=>?_⟩
  have hc:x.coin.toNat < has.length:=by have:=hx.coin;have:=h.len;omega
  have hb:=h.b _ (jU (d:=0) hc)
  have ha:=hx.am
  have set1:∀ {d:Int} {v:Int},v ∈ has.set x.coin.toNat d→(0≤d∧d≤999 * (k+1)+999)→0≤v∧v≤999 * (k+1)+999:=fun hv hd=>by
    rcases List.mem_or_eq_of_mem_set hv with h1|h1
    · have:=h.b _ h1;omega
    · omega
  have hp2:x.kind=2∨x.kind=3→¬ has.getD x.coin.toNat 0 < x.amount:=fun h hlt=>hp ⟨h,hlt⟩
  unfold yj at hv
  have e:((k+1:Nat):Int)+1=(k:Int)+2:=by omega
  rw [e]
  split at hv
  · have:=set1 hv (by omega);omega
  · split at hv
    · rename_i k2
      have:=set1 hv (by have:=hp2 (.inl k2);omega);omega
    · split at hv
      · rename_i k3
        have hp3:=hp2 (.inr k3)
        have hc0:=hx.coin
        have hg:=hx.got k3
        have ht:=hx.to k3
        have hne:=hx.ne k3
        rcases List.mem_or_eq_of_mem_set hv with h1|h1
        · have:=set1 h1 (by omega);omega
        · have ht':x.to.toNat < (xh has x.coin (-x.amount)).length:=by simp [xh];have:=h.len;omega
          have hm:(xh has x.coin (-x.amount)).getD x.to.toNat 0=has.getD x.to.toNat 0:=by
            simp [xh,List.getD_eq_getElem?_getD,List.getElem?_set]
            rw [if_neg (by omega)]
          have:=h.b _ (jU (l:=has) (k:=x.to.toNat) (d:=0) (by have:=h.len;omega))
          rw [hm] at h1
          omega
      · split at hv
        · have:=set1 hv (by omega);omega
        · have:=h.b v hv;omega
theorem Yg {l:Led} (h1:l.start.length=l.coins.length) (h2:∀ v ∈ l.start,0≤v∧v≤999):∀ k,k≤l.entries.length→(∀ j,j < k→eK l j=0)→HasOk l k (stK l k).2
  |0,_,_=>RO h1 h2
  |k+1,hk,h=>by
    have ih:=Yg h1 h2 k (by omega) fun j hj=>h j (by omega)
    have h0:=h k (by omega)
    rw [ZL (by omega)]
    unfold eK eV at h0
    split at h0
    · rename_i hn;exact absurd h0 hn
    · rename_i hn
      have hn:=Decidable.not_not.1 hn
      split at h0
      · exact absurd h0 (by decide)
      · rename_i hp
        exact QaN ih (Z7 hn) hp
theorem YE {l:Led} {k:Nat} {has:List Int} {x:Ent} {b:Int} (h:HasOk l k has) (hk:k≤100) (hx:EntryOk l x b):EnOk has x:=by
  refine ⟨hx.coin.1, ?_,fun h3=>⟨(hx.to h3).1, ?_⟩,hx.am,hx.got,fun v hv=>?_⟩
  · have:=hx.coin;have:=h.len;omega
  · have:=hx.to h3;have:=h.len;omega
  · have:=h.b v hv;omega
end Go.Sym.B
namespace Go.Sym.B
open Go Go.Sym Go.Proofs Go.Sym.C
def enS (l:Led) (k:Nat):St:={ t:=asg [(1,.ptr 0 0),(2,aI 0),(4,.ptr 1 0),(5,aI (stK l k).1),(19,.sl (l.entries.map yg)),(20,aI l.entries.length),(21,aI k)],h:=qc [(0,.cells (zh l)),(1,ym l 2),(2,ky (stK l k).2)],n:=3 }
structure EsOk (l:Led):Prop where
  c:l.coins.length≤20
  r:l.rates.length≤20
  e:l.entries.length≤20
  s:l.start.length=l.coins.length
  v:∀ v ∈ l.start,0≤v∧v≤999
def qC:=kj @ty3 (kj @jL (kj @V8 (kj @xm (kj @JI (kj @QJ (kj @Qa3 (kj @ti3.eq_1 (kj @jG.eq_1 (kj @J4.eq_1 (kj @vG.eq_1 (kj @Wv.eq_1 (kj @Qe.eq_1 @V6.eq_1))))))))))))
def yI:=kj @aI.eq_1 (kj @zL.eq_1 (kj @zh.eq_1 (kj @U0.eq_1 (kj @ym.eq_1 (kj @ky.eq_1 (kj @enS.eq_1 (kj @s78.eq_1 (kj @s78.eq_2 (kj @Qfe.eq_1 (kj @Qfe.eq_2 (kj @p97.eq_1 (kj @p97.eq_2 (kj @WV.eq_1 (kj @WV.eq_2 (kj @vH (kj @xC (kj @Kq (kj @WL (kj @yg.eq_1 (@QaA))))))))))))))))))))
set_option maxHeartbeats 1000000 in
theorem QaG (l:Led) (hl:EsOk l):FnV Tryz.prog 28 [zL l] (aI (vJ l)):=by
  have env:Env (fun _=>True) Tryz.prog tyB (tab [(24,qo true s78),(37,fnE p97),(38,fnE WV),(65,qo true Qfe)]):=qY ⟨e78,e97,e101,e140,trivial⟩
  refine Fn.of (A:=fun _=>True) (n0:=0) (D:=noD) (Fn0 Tryz.func28 rfl (fun vs w=>by kernel_rfl) (by kernel_rfl)) (by simp) (by simp [AV.ids,AV.idsL,zL,zh]) (fun i o h=>by cases h) (fun _ _ _ _=>trivial) qA ?_
  have q1:=hl.c
  have q2:=hl.r
  have q3:=hl.e
  have q4:l.start.length≤100000:=by have:=hl.s;omega
  by_cases h0:zI l.entries.length 0 6=0
  · repeat' (first|(apply nx;with_reducible constructor)|refine jq (by decide) ?_|((first|refine kx env fun Q hQ=>?_|refine kz fun Q hQ=>?_);simp only [vkt,seval,qC,yI,h0];(try simp only [ite_and]);(repeat' (first|with_reducible assumption|refine And.intro ?_ ?_|intro hp));all_goals (first|(refine hQ _ ?_;clear hQ Q)|(refine hQ _ (fun h=>?_) (fun h=>?_) <;> clear hQ Q <;> (try simp only [vki,reduceCtorEq] at h))|omega|assumption|with_reducible rfl|(refine kq ?_;kernel_rfl)|skip)))
    refine qz (ι:=FI (errs l.entries.length (eK l))) (fun i=>enS l i.k) (fun i=>l.entries.length - i.k) (FI.zero _) ?_ fun i=>?_
    · (refine Le.ok some [] ?_;constructor;all_goals (try simp only [vle,vkt,seval,qC,yI]))
      all_goals simp [FI.zero,stK]
    · have hk:=i.le
      rw [jS] at hk
      have hall:∀ j,j < i.k→eK l j=0:=fun j hj=>by rw [← QB (eK l) (show j < l.entries.length by omega)];exact i.all j hj
      have hok:=Yg hl.s hl.v i.k hk hall
      repeat' (first|(apply nx;with_reducible constructor)|refine jq (by decide) ?_)
      (refine kx env fun Q hQ=>?_;simp only [vkt,seval,qC,yI];(try simp only [ite_and]);(repeat' (first|with_reducible assumption|refine And.intro ?_ ?_|intro hp));all_goals (first|(refine hQ _ ?_;clear hQ Q)|omega|assumption|with_reducible rfl|(refine kq ?_;kernel_rfl)|skip))
      repeat' (first|(apply nx;with_reducible constructor)|refine jq (by decide) ?_)
      (refine wh (by simp only [vkt,seval,qC,yI];rfl) (fun h=>?_) (fun h=>?_) <;> (try simp only [vki,reduceCtorEq] at h))
      · have hlt:i.k < l.entries.length:=by omega
        have hS:=ZL hlt
        have hE:=QeB l i.k
        have out:∀ e,eK l i.k=e→e ≠ 0→vJ l=e:=fun e he h1=>by
          unfold vJ
          rw [if_neg (by rw [h0];simp),i.hit hlt (by rw [he];exact h1),he]
        have hN:eK l i.k=0→∃ i':FI (errs l.entries.length (eK l)),l.entries.length - i'.k < l.entries.length - i.k∧i'.k=i.k+1:=fun h1=>⟨i.next hlt h1,by show l.entries.length - (i.k+1) < _;omega,rfl⟩
        have e9:=zt hlt (show l.entries.length≤maxLen by have:=WM;omega)
        generalize hx:l.entries.getD i.k default=x at *
        generalize hst:stK l i.k=st at *
        obtain ⟨b,has⟩:=st
        dsimp only at hE hok hS
        by_cases c1:yM l x b=0
        · have ho:=Z7 c1
          have hen:=YE hok (by omega) ho
          have hlast:=hen.c1
          have hc0:=hen.c0
          have e1:yM ⟨l.coins,l.rates,l.start,l.entries⟩ ⟨x.day,x.kind,x.coin,x.to,x.amount,x.got⟩ b=0:=c1
          have g0:=gI0 hlast
          have hen':EnOk has ⟨x.day,x.kind,x.coin,x.to,x.amount,x.got⟩:=hen
          have h9:((x.kind=2∨x.kind=3)∧has.getD x.coin.toNat 0 < x.amount)→vJ l=9:=fun hh=>out 9 (by rw [hE];unfold eV;rw [if_neg (by rw [c1];simp),if_pos hh]) (by decide)
          have h10:¬ ((x.kind=2∨x.kind=3)∧has.getD x.coin.toNat 0 < x.amount)→∃ i':FI (errs l.entries.length (eK l)),l.entries.length - i'.k < l.entries.length - i.k∧i'.k=i.k+1:=fun hh=>hN (by rw [hE];unfold eV;rw [if_neg (by rw [c1];simp),if_neg hh])
          repeat' (first|(apply nx;with_reducible constructor)|refine jq (by decide) ?_|((first|refine kx env fun Q hQ=>?_|refine kz fun Q hQ=>?_);simp only [vkt,seval,qC,yI,hx,e1,g0,qp];(try simp only [ite_and]);(repeat' (first|with_reducible assumption|refine And.intro ?_ ?_|intro hp));all_goals (first|(refine hQ _ ?_;clear hQ Q)|(refine hQ _ (fun h=>?_) (fun h=>?_) <;> clear hQ Q <;> (try simp only [vki,reduceCtorEq] at h))|omega|assumption|with_reducible rfl|(refine kq ?_;kernel_rfl)|skip)))
          all_goals first
            |((simp only [vrt,Tryz.results28,vkt,seval,qC,yI];refine Fin.val rfl ?_;(try simp only [AV.le,AV.leL]));all_goals rw [h9 (by omega)])
            |(obtain ⟨i',g1,g2⟩:=h10 (by omega);refine ⟨i',g1, ?_⟩;rw [g2];(refine Le.ok some [] ?_;constructor;all_goals (try simp only [vle,vkt,seval,qC,yI]));all_goals simp [hS,e9])
        · have e1:¬ yM ⟨l.coins,l.rates,l.start,l.entries⟩ ⟨x.day,x.kind,x.coin,x.to,x.amount,x.got⟩ b=0:=c1
          repeat' (first|(apply nx;with_reducible constructor)|refine jq (by decide) ?_|((first|refine kx env fun Q hQ=>?_|refine kz fun Q hQ=>?_);simp only [vkt,seval,qC,yI,hx,e1];(try simp only [ite_and]);(repeat' (first|with_reducible assumption|refine And.intro ?_ ?_|intro hp));all_goals (first|(refine hQ _ ?_;clear hQ Q)|(refine hQ _ (fun h=>?_) (fun h=>?_) <;> clear hQ Q <;> (try simp only [vki,reduceCtorEq] at h))|omega|assumption|with_reducible rfl|(refine kq ?_;kernel_rfl)|skip)))
          (simp only [vrt,Tryz.results28,vkt,seval,qC,yI];refine Fin.val rfl ?_;(try simp only [AV.le,AV.leL]))
          all_goals rw [out _ hE (by unfold eV;rw [if_pos c1];exact c1)]
          all_goals (unfold eV;rw [if_pos c1])
      · repeat' (first|(apply nx;with_reducible constructor)|refine jq (by decide) ?_|((first|refine kx env fun Q hQ=>?_|refine kz fun Q hQ=>?_);simp only [vkt,seval,qC,yI];(try simp only [ite_and]);(repeat' (first|with_reducible assumption|refine And.intro ?_ ?_|intro hp));all_goals (first|(refine hQ _ ?_;clear hQ Q)|(refine hQ _ (fun h=>?_) (fun h=>?_) <;> clear hQ Q <;> (try simp only [vki,reduceCtorEq] at h))|omega|assumption|with_reducible rfl|(refine kq ?_;kernel_rfl)|skip)))
        (simp only [vrt,Tryz.results28,vkt,seval,qC,yI];refine Fin.val rfl ?_;(try simp only [AV.le,AV.leL]))
        all_goals (unfold vJ;rw [if_neg (by rw [h0];simp),i.last (by omega)])
  · repeat' (first|(apply nx;with_reducible constructor)|refine jq (by decide) ?_|((first|refine kx env fun Q hQ=>?_|refine kz fun Q hQ=>?_);simp only [vkt,seval,qC,yI,h0];(try simp only [ite_and]);(repeat' (first|with_reducible assumption|refine And.intro ?_ ?_|intro hp));all_goals (first|(refine hQ _ ?_;clear hQ Q)|(refine hQ _ (fun h=>?_) (fun h=>?_) <;> clear hQ Q <;> (try simp only [vki,reduceCtorEq] at h))|omega|assumption|with_reducible rfl|(refine kq ?_;kernel_rfl)|skip)))
    (simp only [vrt,Tryz.results28,vkt,seval,qC,yI];refine Fin.val rfl ?_;(try simp only [AV.le,AV.leL]))
    all_goals simp [vJ,h0]
def QdV:List AV→Prop × AV
  |[.agg [.sl cs,.sl rs,.sl ss,.sl es]]=>(cs=(cs.map zw).map zH∧rs=(rs.map QY).map kw∧ss=(ss.map qJ).map qp∧es=(es.map QP).map yg∧EsOk ⟨cs.map zw,rs.map QY,ss.map qJ,es.map QP⟩,aI (vJ ⟨cs.map zw,rs.map QY,ss.map qJ,es.map QP⟩))
  |_=>(False,.junk)
theorem e112 {A:Frm→Prop}:qh A Tryz.prog 28 (qo true QdV):=qL fun vs hv h=>by
  clear hv
  unfold QdV at h ⊢
  split at h
  · rename_i cs rs ss es
    obtain ⟨h1,h2,h3,h4,h5⟩:=h
    refine ⟨trivial,fun _=>trivial, ?_⟩
    have:=QaG ⟨cs.map zw,rs.map QY,ss.map qJ,es.map QP⟩ h5
    simp only [zL,zh,← h1,← h2,← h3,← h4] at this
    exact this
  · exact h.elim
end Go.Sym.B
namespace Go.Sym.B
open Go Go.Sym Go.Proofs Go.Sym.C
structure Fit (l:Led):Prop where
  c:l.coins.length≤20
  cs:∀ p ∈ l.coins,p.length≤20
  r:l.rates.length≤20
  rs:∀ p ∈ l.rates,p.length≤20
  s:l.start.length≤20
  e:l.entries.length≤20
def Q9 (l:Led) (k:Nat):Int:=if !inB (l.start.getD k 0) 0 999 then 1 else 0
def Lj (l:Led) (k:Nat):Int:=Zl (l.coins.getD k [])
def QaU (l:Led) (k:Nat):Int:=vN (l.rates.getD k []) l.coins.length
def zB (l:Led):Int :=
  if zI l.coins.length 1 4 ≠ 0 then zI l.coins.length 1 4 else if jb (errs l.coins.length (Lj l)) ≠ 0 then jb (errs l.coins.length (Lj l))
  else if zI l.rates.length 1 4 ≠ 0 then zI l.rates.length 1 4 else if jb (errs l.rates.length (QaU l)) ≠ 0 then jb (errs l.rates.length (QaU l))
  else if l.start.length ≠ l.coins.length then 2 else if jb (errs l.start.length (Q9 l)) ≠ 0 then jb (errs l.start.length (Q9 l)) else vJ l
def ck1 (l:Led) (k:Nat):St:={ t:=asg [(1,.ptr 0 0),(2,aI 0),(21,.sl (l.coins.map zH)),(22,aI l.coins.length),(23,aI k)],h:=qc [(0,.cells (zh l))],n:=1 }
def ck2 (l:Led) (k:Nat):St:={ t:=asg [(1,.ptr 0 0),(2,aI 0),(41,.sl (l.rates.map kw)),(42,aI l.rates.length),(43,aI k)],h:=qc [(0,.cells (zh l))],n:=1 }
def ck3 (l:Led) (k:Nat):St:={ t:=asg [(1,.ptr 0 0),(2,aI 0),(64,.sl (l.start.map qp)),(65,aI l.start.length),(66,aI k)],h:=qc [(0,.cells (zh l))],n:=1 }
def qf:=kj @ty3 (kj @QA (kj @YB (kj @jL (kj @xm (kj @JP (kj @Wt (kj @QJ (kj @ti3.eq_1 (kj @kP.eq_1 (kj @WO.eq_1 (kj @jG.eq_1 (kj @vG.eq_1 (kj @Wu.eq_1 (kj @Zo.eq_1 @Qe.eq_1))))))))))))))
def zJ:=kj @aI.eq_1 (kj @aB.eq_1 (kj @zL.eq_1 (kj @zh.eq_1 (kj @ck1.eq_1 (kj @ck2.eq_1 (kj @ck3.eq_1 (kj @Qn (kj @qp.eq_1 (kj @s78.eq_1 (kj @s78.eq_2 (kj @s79.eq_1 (kj @s79.eq_2 (kj @Qdv.eq_1 (kj @Qdv.eq_2 (kj @Qfz.eq_1 (kj @Qfz.eq_2 (kj @QdV.eq_1 (kj @QdV.eq_2 (kj @vH (kj @xC (kj @Kq (kj @mSh (kj @WL (kj @WE (kj @gShs (kj @zH.eq_1 (@kw.eq_1)))))))))))))))))))))))))))
set_option maxHeartbeats 1000000 in
theorem RY (l:Led) (hl:Fit l):FnV Tryz.prog 7 [zL l] (aI (zB l)):=by
  have env:Env (fun _=>True) Tryz.prog tyB (tab [(24,qo true s78),(27,qo true s79),(25,qo true Qdv),(26,qo true Qfz),(28,qo true QdV)]):=qY ⟨e78,e79,e110,e111,e112,trivial⟩
  refine Fn.of (A:=fun _=>True) (n0:=0) (D:=noD) (Fn0 Tryz.func7 rfl (fun vs w=>by kernel_rfl) (by kernel_rfl)) (by simp) (by simp [AV.ids,AV.idsL,zL,zh]) (fun i o h=>by cases h) (fun _ _ _ _=>trivial) qA ?_
  have q1:=hl.c
  have q2:=hl.r
  have q3:=hl.e
  have q4:=hl.s
  have q5:=WM
  by_cases h0:zI l.coins.length 1 4=0
  · repeat' (first|(apply nx;with_reducible constructor)|refine jq (by decide) ?_|((first|refine kx env fun Q hQ=>?_|refine kz fun Q hQ=>?_);simp only [vkt,seval,qf,zJ,h0];(try simp only [ite_and]);(repeat' (first|with_reducible assumption|refine And.intro ?_ ?_|intro hp));all_goals (first|(refine hQ _ ?_;clear hQ Q)|(refine hQ _ (fun h=>?_) (fun h=>?_) <;> clear hQ Q <;> (try simp only [vki,reduceCtorEq] at h))|omega|assumption|with_reducible rfl|(refine kq ?_;kernel_rfl)|skip)))
    refine qz (ι:=FI (errs l.coins.length (Lj l))) (fun i=>ck1 l i.k) (fun i=>l.coins.length - i.k) (FI.zero _) ?_ fun i=>?_
    · (refine Le.ok some [] ?_;constructor;all_goals (try simp only [vle,vkt,seval,qf,zJ]))
      all_goals simp [FI.zero]
    · have hk:=i.le
      rw [jS] at hk
      repeat' (first|(apply nx;with_reducible constructor)|refine jq (by decide) ?_)
      (refine kx env fun Q hQ=>?_;simp only [vkt,seval,qf,zJ];(try simp only [ite_and]);(repeat' (first|with_reducible assumption|refine And.intro ?_ ?_|intro hp));all_goals (first|(refine hQ _ ?_;clear hQ Q)|omega|assumption|with_reducible rfl|(refine kq ?_;kernel_rfl)|skip))
      repeat' (first|(apply nx;with_reducible constructor)|refine jq (by decide) ?_)
      (refine wh (by simp only [vkt,seval,qf,zJ];rfl) (fun h=>?_) (fun h=>?_) <;> (try simp only [vki,reduceCtorEq] at h))
      · have hlt:i.k < l.coins.length:=by omega
        have hp:(l.coins.getD i.k []).length≤maxLen:=by have:=hl.cs _ (jU (d:=[]) hlt);omega
        have e9:=zt hlt (show l.coins.length≤maxLen by omega)
        by_cases c1:Zl (l.coins.getD i.k [])=0
        · repeat' (first|(apply nx;with_reducible constructor)|refine jq (by decide) ?_|((first|refine kx env fun Q hQ=>?_|refine kz fun Q hQ=>?_);simp only [vkt,seval,qf,zJ,c1];(try simp only [ite_and]);(repeat' (first|with_reducible assumption|refine And.intro ?_ ?_|intro hp));all_goals (first|(refine hQ _ ?_;clear hQ Q)|(refine hQ _ (fun h=>?_) (fun h=>?_) <;> clear hQ Q <;> (try simp only [vki,reduceCtorEq] at h))|omega|assumption|with_reducible rfl|(refine kq ?_;kernel_rfl)|skip)))
          refine ⟨i.next hlt c1,by show l.coins.length - (i.k+1) < _;omega, ?_⟩
          (refine Le.ok some [] ?_;constructor;all_goals (try simp only [vle,vkt,seval,qf,zJ]))
          all_goals simp [FI.next,e9]
        · repeat' (first|(apply nx;with_reducible constructor)|refine jq (by decide) ?_|((first|refine kx env fun Q hQ=>?_|refine kz fun Q hQ=>?_);simp only [vkt,seval,qf,zJ,c1];(try simp only [ite_and]);(repeat' (first|with_reducible assumption|refine And.intro ?_ ?_|intro hp));all_goals (first|(refine hQ _ ?_;clear hQ Q)|(refine hQ _ (fun h=>?_) (fun h=>?_) <;> clear hQ Q <;> (try simp only [vki,reduceCtorEq] at h))|omega|assumption|with_reducible rfl|(refine kq ?_;kernel_rfl)|skip)))
          (simp only [vrt,Tryz.results7,vkt,seval,qf,zJ];refine Fin.val rfl ?_;(try simp only [AV.le,AV.leL]))
          have:=i.hit hlt c1
          all_goals (unfold zB;rw [if_neg (by rw [h0];simp),if_pos (by rw [this];exact c1),this];rfl)
      · have hf1:=i.last (by omega)
        by_cases h2:zI l.rates.length 1 4=0
        · repeat' (first|(apply nx;with_reducible constructor)|refine jq (by decide) ?_|((first|refine kx env fun Q hQ=>?_|refine kz fun Q hQ=>?_);simp only [vkt,seval,qf,zJ,h2];(try simp only [ite_and]);(repeat' (first|with_reducible assumption|refine And.intro ?_ ?_|intro hp));all_goals (first|(refine hQ _ ?_;clear hQ Q)|(refine hQ _ (fun h=>?_) (fun h=>?_) <;> clear hQ Q <;> (try simp only [vki,reduceCtorEq] at h))|omega|assumption|with_reducible rfl|(refine kq ?_;kernel_rfl)|skip)))
          refine qz (ι:=FI (errs l.rates.length (QaU l))) (fun i=>ck2 l i.k) (fun i=>l.rates.length - i.k) (FI.zero _) ?_ fun i=>?_
          · (refine Le.ok some [] ?_;constructor;all_goals (try simp only [vle,vkt,seval,qf,zJ]))
            all_goals simp [FI.zero]
          · have hk:=i.le
            rw [jS] at hk
            have hco:1≤l.coins.length:=by unfold zI at h0;split at h0 <;> simp at h0;omega
            repeat' (first|(apply nx;with_reducible constructor)|refine jq (by decide) ?_)
            (refine kx env fun Q hQ=>?_;simp only [vkt,seval,qf,zJ];(try simp only [ite_and]);(repeat' (first|with_reducible assumption|refine And.intro ?_ ?_|intro hp));all_goals (first|(refine hQ _ ?_;clear hQ Q)|omega|assumption|with_reducible rfl|(refine kq ?_;kernel_rfl)|skip))
            repeat' (first|(apply nx;with_reducible constructor)|refine jq (by decide) ?_)
            (refine wh (by simp only [vkt,seval,qf,zJ];rfl) (fun h=>?_) (fun h=>?_) <;> (try simp only [vki,reduceCtorEq] at h))
            · have hlt:i.k < l.rates.length:=by omega
              have hp:(l.rates.getD i.k []).length≤maxLen:=by have:=hl.rs _ (jU (d:=[]) hlt);omega
              have e9:=zt hlt (show l.rates.length≤maxLen by omega)
              by_cases c1:vN (l.rates.getD i.k []) l.coins.length=0
              · repeat' (first|(apply nx;with_reducible constructor)|refine jq (by decide) ?_|((first|refine kx env fun Q hQ=>?_|refine kz fun Q hQ=>?_);simp only [vkt,seval,qf,zJ,c1];(try simp only [ite_and]);(repeat' (first|with_reducible assumption|refine And.intro ?_ ?_|intro hp));all_goals (first|(refine hQ _ ?_;clear hQ Q)|(refine hQ _ (fun h=>?_) (fun h=>?_) <;> clear hQ Q <;> (try simp only [vki,reduceCtorEq] at h))|omega|assumption|with_reducible rfl|(refine kq ?_;kernel_rfl)|skip)))
                refine ⟨i.next hlt c1,by show l.rates.length - (i.k+1) < _;omega, ?_⟩
                (refine Le.ok some [] ?_;constructor;all_goals (try simp only [vle,vkt,seval,qf,zJ]))
                all_goals simp [FI.next,e9]
              · repeat' (first|(apply nx;with_reducible constructor)|refine jq (by decide) ?_|((first|refine kx env fun Q hQ=>?_|refine kz fun Q hQ=>?_);simp only [vkt,seval,qf,zJ,c1];(try simp only [ite_and]);(repeat' (first|with_reducible assumption|refine And.intro ?_ ?_|intro hp));all_goals (first|(refine hQ _ ?_;clear hQ Q)|(refine hQ _ (fun h=>?_) (fun h=>?_) <;> clear hQ Q <;> (try simp only [vki,reduceCtorEq] at h))|omega|assumption|with_reducible rfl|(refine kq ?_;kernel_rfl)|skip)))
                (simp only [vrt,Tryz.results7,vkt,seval,qf,zJ];refine Fin.val rfl ?_;(try simp only [AV.le,AV.leL]))
                have:=i.hit hlt c1
                all_goals (unfold zB;rw [if_neg (by rw [h0];simp),if_neg (by rw [hf1];simp),if_neg (by rw [h2];simp),if_pos (by rw [this];exact c1),this];rfl)
            · have hf2:=i.last (by omega)
              by_cases h3:l.start.length=l.coins.length
              · have h3':(l.start.length:Int)=l.coins.length:=by omega
                repeat' (first|(apply nx;with_reducible constructor)|refine jq (by decide) ?_|((first|refine kx env fun Q hQ=>?_|refine kz fun Q hQ=>?_);simp only [vkt,seval,qf,zJ,h3'];(try simp only [ite_and]);(repeat' (first|with_reducible assumption|refine And.intro ?_ ?_|intro hp));all_goals (first|(refine hQ _ ?_;clear hQ Q)|(refine hQ _ (fun h=>?_) (fun h=>?_) <;> clear hQ Q <;> (try simp only [vki,reduceCtorEq] at h))|omega|assumption|with_reducible rfl|(refine kq ?_;kernel_rfl)|skip)))
                refine qz (ι:=FI (errs l.start.length (Q9 l))) (fun i=>ck3 l i.k) (fun i=>l.start.length - i.k) (FI.zero _) ?_ fun i=>?_
                · (refine Le.ok some [] ?_;constructor;all_goals (try simp only [vle,vkt,seval,qf,zJ]))
                  all_goals simp [FI.zero,h3]
                · have hk:=i.le
                  rw [jS] at hk
                  repeat' (first|(apply nx;with_reducible constructor)|refine jq (by decide) ?_)
                  (refine kx env fun Q hQ=>?_;simp only [vkt,seval,qf,zJ];(try simp only [ite_and]);(repeat' (first|with_reducible assumption|refine And.intro ?_ ?_|intro hp));all_goals (first|(refine hQ _ ?_;clear hQ Q)|omega|assumption|with_reducible rfl|(refine kq ?_;kernel_rfl)|skip))
                  repeat' (first|(apply nx;with_reducible constructor)|refine jq (by decide) ?_)
                  (refine wh (by simp only [vkt,seval,qf,zJ];rfl) (fun h=>?_) (fun h=>?_) <;> (try simp only [vki,reduceCtorEq] at h))
                  · have hlt:i.k < l.start.length:=by omega
                    have e9:=zt hlt (show l.start.length≤maxLen by omega)
                    by_cases c1:inB (l.start.getD i.k 0) 0 999=true
                    · repeat' (first|(apply nx;with_reducible constructor)|refine jq (by decide) ?_|((first|refine kx env fun Q hQ=>?_|refine kz fun Q hQ=>?_);simp only [vkt,seval,qf,zJ,c1];(try simp only [ite_and]);(repeat' (first|with_reducible assumption|refine And.intro ?_ ?_|intro hp));all_goals (first|(refine hQ _ ?_;clear hQ Q)|(refine hQ _ (fun h=>?_) (fun h=>?_) <;> clear hQ Q <;> (try simp only [vki,reduceCtorEq] at h))|omega|assumption|with_reducible rfl|(refine kq ?_;kernel_rfl)|skip)))
                      refine ⟨i.next hlt (by unfold Q9;rw [c1];rfl),by show l.start.length - (i.k+1) < _;omega, ?_⟩
                      (refine Le.ok some [] ?_;constructor;all_goals (try simp only [vle,vkt,seval,qf,zJ]))
                      all_goals simp [FI.next,e9]
                    · have c1:inB (l.start.getD i.k 0) 0 999=false:=by simpa using c1
                      repeat' (first|(apply nx;with_reducible constructor)|refine jq (by decide) ?_|((first|refine kx env fun Q hQ=>?_|refine kz fun Q hQ=>?_);simp only [vkt,seval,qf,zJ,c1];(try simp only [ite_and]);(repeat' (first|with_reducible assumption|refine And.intro ?_ ?_|intro hp));all_goals (first|(refine hQ _ ?_;clear hQ Q)|(refine hQ _ (fun h=>?_) (fun h=>?_) <;> clear hQ Q <;> (try simp only [vki,reduceCtorEq] at h))|omega|assumption|with_reducible rfl|(refine kq ?_;kernel_rfl)|skip)))
                      (simp only [vrt,Tryz.results7,vkt,seval,qf,zJ];refine Fin.val rfl ?_;(try simp only [AV.le,AV.leL]))
                      have:=i.hit hlt (by unfold Q9;rw [c1];simp)
                      have h1:Q9 l i.k=1:=by unfold Q9;rw [c1];rfl
                      all_goals (unfold zB;rw [if_neg (by rw [h0];simp),if_neg (by rw [hf1];simp),if_neg (by rw [h2];simp),if_neg (by rw [hf2];simp),if_neg (by rw [h3];simp),if_pos (by rw [this,h1];simp),this,h1])
                  · have hf3:=i.last (by omega)
                    have hes:EsOk ⟨l.coins,l.rates,l.start,l.entries⟩:=⟨q1,q2,q3,h3,fun v hv=>by
                      have hv:v ∈ l.start:=hv
                      obtain ⟨j,hj,rfl⟩:=List.getElem_of_mem hv
                      have:=i.all j (by omega)
                      rw [QB _ hj] at this
                      unfold Q9 at this
                      cases hb:inB (l.start.getD j 0) 0 999 with
                      |true=>rw [wC] at hb;simpa [List.getD_eq_getElem?_getD,hj] using hb
                      |false=>rw [hb] at this;simp at this⟩
                    repeat' (first|(apply nx;with_reducible constructor)|refine jq (by decide) ?_|((first|refine kx env fun Q hQ=>?_|refine kz fun Q hQ=>?_);simp only [vkt,seval,qf,zJ];(try simp only [ite_and]);(repeat' (first|with_reducible assumption|refine And.intro ?_ ?_|intro hp));all_goals (first|(refine hQ _ ?_;clear hQ Q)|(refine hQ _ (fun h=>?_) (fun h=>?_) <;> clear hQ Q <;> (try simp only [vki,reduceCtorEq] at h))|omega|assumption|with_reducible rfl|(refine kq ?_;kernel_rfl)|skip)))
                    (simp only [vrt,Tryz.results7,vkt,seval,qf,zJ];refine Fin.val rfl ?_;(try simp only [AV.le,AV.leL]))
                    all_goals (unfold zB;rw [if_neg (by rw [h0];simp),if_neg (by rw [hf1];simp),if_neg (by rw [h2];simp),if_neg (by rw [hf2];simp),if_neg (by rw [h3];simp),if_neg (by rw [hf3];simp)])
              · have h3':¬ (l.start.length:Int)=l.coins.length:=by omega
                repeat' (first|(apply nx;with_reducible constructor)|refine jq (by decide) ?_|((first|refine kx env fun Q hQ=>?_|refine kz fun Q hQ=>?_);simp only [vkt,seval,qf,zJ,h3'];(try simp only [ite_and]);(repeat' (first|with_reducible assumption|refine And.intro ?_ ?_|intro hp));all_goals (first|(refine hQ _ ?_;clear hQ Q)|(refine hQ _ (fun h=>?_) (fun h=>?_) <;> clear hQ Q <;> (try simp only [vki,reduceCtorEq] at h))|omega|assumption|with_reducible rfl|(refine kq ?_;kernel_rfl)|skip)))
                (simp only [vrt,Tryz.results7,vkt,seval,qf,zJ];refine Fin.val rfl ?_;(try simp only [AV.le,AV.leL]))
                all_goals (unfold zB;rw [if_neg (by rw [h0];simp),if_neg (by rw [hf1];simp),if_neg (by rw [h2];simp),if_neg (by rw [hf2];simp),if_pos h3])
        · repeat' (first|(apply nx;with_reducible constructor)|refine jq (by decide) ?_|((first|refine kx env fun Q hQ=>?_|refine kz fun Q hQ=>?_);simp only [vkt,seval,qf,zJ,h2];(try simp only [ite_and]);(repeat' (first|with_reducible assumption|refine And.intro ?_ ?_|intro hp));all_goals (first|(refine hQ _ ?_;clear hQ Q)|(refine hQ _ (fun h=>?_) (fun h=>?_) <;> clear hQ Q <;> (try simp only [vki,reduceCtorEq] at h))|omega|assumption|with_reducible rfl|(refine kq ?_;kernel_rfl)|skip)))
          (simp only [vrt,Tryz.results7,vkt,seval,qf,zJ];refine Fin.val rfl ?_;(try simp only [AV.le,AV.leL]))
          all_goals (unfold zB;rw [if_neg (by rw [h0];simp),if_neg (by rw [hf1];simp),if_pos h2])
  · repeat' (first|(apply nx;with_reducible constructor)|refine jq (by decide) ?_|((first|refine kx env fun Q hQ=>?_|refine kz fun Q hQ=>?_);simp only [vkt,seval,qf,zJ,h0];(try simp only [ite_and]);(repeat' (first|with_reducible assumption|refine And.intro ?_ ?_|intro hp));all_goals (first|(refine hQ _ ?_;clear hQ Q)|(refine hQ _ (fun h=>?_) (fun h=>?_) <;> clear hQ Q <;> (try simp only [vki,reduceCtorEq] at h))|omega|assumption|with_reducible rfl|(refine kq ?_;kernel_rfl)|skip)))
    (simp only [vrt,Tryz.results7,vkt,seval,qf,zJ];refine Fin.val rfl ?_;(try simp only [AV.le,AV.leL]))
    all_goals simp [zB,h0]
def s50:List AV→Prop × AV
  |[.agg [.sl cs,.sl rs,.sl ss,.sl es]]=>(cs=(cs.map zw).map zH∧rs=(rs.map QY).map kw∧ss=(ss.map qJ).map qp∧es=(es.map QP).map yg∧Fit ⟨cs.map zw,rs.map QY,ss.map qJ,es.map QP⟩,aI (zB ⟨cs.map zw,rs.map QY,ss.map qJ,es.map QP⟩))
  |_=>(False,.junk)
theorem e50 {A:Frm→Prop}:qh A Tryz.prog 7 (qo true s50):=qL fun vs hv h=>by
  clear hv
  unfold s50 at h ⊢
  split at h
  · rename_i cs rs ss es
    obtain ⟨h1,h2,h3,h4,h5⟩:=h
    refine ⟨trivial,fun _=>trivial, ?_⟩
    have:=RY ⟨cs.map zw,rs.map QY,ss.map qJ,es.map QP⟩ h5
    simp only [zL,zh,← h1,← h2,← h3,← h4] at this
    exact this
  · exact h.elim
end Go.Sym.B
namespace Go.Sym.B
open Go Go.Sym Go.Proofs Go.Sym.C
def isL (cs rs ss es:List (List DV)):Prop:=cs=(cs.map zw).map zH∧rs=(rs.map QY).map kw∧ss=(ss.map qJ).map qp∧es=(es.map QP).map yg
def zN (cs rs ss es:List (List DV)):Led:=⟨cs.map zw,rs.map QY,ss.map qJ,es.map QP⟩
theorem yT (l:Led):isL (l.coins.map zH) (l.rates.map kw) (l.start.map qp) (l.entries.map yg)=True:=by simp only [isL,xC,Kq,vH,WL,and_self]
theorem jO (l:Led):zN (l.coins.map zH) (l.rates.map kw) (l.start.map qp) (l.entries.map yg)=l:=by simp only [zN,xC,Kq,vH,WL]
theorem jD {cs rs ss es:List (List DV)} (h:isL cs rs ss es):zL (zN cs rs ss es)=.agg [.sl cs,.sl rs,.sl ss,.sl es]:=by
  simp only [zL,zh,zN,← h.1,← h.2.1,← h.2.2.1,← h.2.2.2]
def c50:List AV→Prop × AV
  |[.agg [.sl cs,.sl rs,.sl ss,.sl es]]=>(isL cs rs ss es∧Fit (zN cs rs ss es),aI (zB (zN cs rs ss es)))
  |_=>(False,.junk)
theorem d50 {A:Frm→Prop}:qh A Tryz.prog 7 (qo true c50):=qL fun vs hv h=>by
  clear hv
  unfold c50 at h ⊢
  split at h
  · refine ⟨trivial,fun _=>trivial, ?_⟩
    rw [← jD h.1];exact RY _ h.2
  · exact h.elim
theorem xH:∀ {E:List Int},jb E=0→∀ e ∈ E,e=0
  |e :: r,h,x,hx=>by
    unfold jb at h
    split at h
    · rename_i he
      rcases List.mem_cons.1 hx with rfl|hx
      · exact he
      · exact xH h x hx
    · exact absurd h ‹_›
theorem kD {n:Nat} {f:Nat→Int} (h:jb (errs n f)=0) {k:Nat} (hk:k < n):f k=0 :=
  xH h _ (List.mem_map.2 ⟨k,List.mem_range.2 hk,rfl⟩)
theorem QW {n a b:Int} (h:zI n a b=0):a≤n∧n≤b:=by
  unfold zI at h
  split at h
  · exact absurd h (by decide)
  · split at h
    · exact absurd h (by decide)
    · omega
structure Val (l:Led):Prop where
  c:1≤l.coins.length∧l.coins.length≤4
  cs:∀ k,k < l.coins.length→Zl (l.coins.getD k [])=0
  r:1≤l.rates.length∧l.rates.length≤4
  rs:∀ k,k < l.rates.length→vN (l.rates.getD k []) l.coins.length=0
  sl:l.start.length=l.coins.length
  s:∀ v ∈ l.start,0≤v∧v≤999
  e:l.entries.length≤6
  es:∀ k,k < l.entries.length→eK l k=0
theorem Qt {l:Led} (h:zB l=0):Val l:=by
  unfold zB at h
  split at h
  · exact absurd h ‹_›
  rename_i a1
  split at h
  · exact absurd h ‹_›
  rename_i a2
  split at h
  · exact absurd h ‹_›
  rename_i a3
  split at h
  · exact absurd h ‹_›
  rename_i a4
  split at h
  · exact absurd h (by decide)
  rename_i a5
  split at h
  · exact absurd h ‹_›
  rename_i a6
  unfold vJ at h
  split at h
  · exact absurd h ‹_›
  rename_i a7
  have a1:=QW (Decidable.not_not.1 a1)
  have a2:=Decidable.not_not.1 a2
  have a3:=QW (Decidable.not_not.1 a3)
  have a4:=Decidable.not_not.1 a4
  have a5:=Decidable.not_not.1 a5
  have a6:=Decidable.not_not.1 a6
  have a7:=QW (Decidable.not_not.1 a7)
  refine ⟨by omega,fun k hk=>kD a2 hk,by omega,fun k hk=>kD a4 hk,a5,fun v hv=>?_,by omega,fun k hk=>kD h hk⟩
  obtain ⟨j,hj,rfl⟩:=List.getElem_of_mem hv
  have:=kD a6 hj
  unfold Q9 at this
  cases hb:inB (l.start.getD j 0) 0 999 with
  |true=>rw [wC] at hb;simpa [List.getD_eq_getElem?_getD,hj] using hb
  |false=>rw [hb] at this;simp at this
def rsh (l:Led) (d c:Int):Sh:=(l.rates.getD d.toNat []).getD c.toNat default
def rq (l:Led) (d c:Int):Rat:=qI (rsh l d c).num (rsh l d c).den
structure Rt (l:Led) (d c:Int):Prop where
  d0:0≤d
  d1:d.toNat < l.rates.length
  c0:0≤c
  c1:c.toNat < (l.rates.getD d.toNat []).length
  q:rsh l d c=shQ (rq l d c)
  n0:1≤(rq l d c).num
  n1:(rq l d c).num≤20
  e1:(rq l d c).den≤12
theorem ve {l:Led} (h:Val l) {d c:Int} (hd:0≤d) (hd':d≤(l.rates.length:Int) - 1) (hc:0≤c) (hc':c≤(l.coins.length:Int) - 1):Rt l d c:=by
  have h1:=h.rs d.toNat (by omega)
  unfold vN at h1
  split at h1
  · exact absurd h1 (by decide)
  rename_i a1
  split at h1
  · exact absurd h1 (by decide)
  rename_i a2
  have a1:=Decidable.not_not.1 a1
  have a2:=Decidable.not_not.1 a2
  have key:rsh l d c=shQ (rq l d c)∧1≤(rsh l d c).num∧(rsh l d c).num≤20∧(rsh l d c).den≤12:=by
    by_cases hc0:c.toNat=0
    · have:rsh l d c=⟨1,1⟩:=by unfold rsh;rw [hc0];exact a2
      unfold rq
      rw [this]
      exact ⟨by decide,by decide,by decide,by decide⟩
    · have h2:=kD h1 (k:=c.toNat - 1) (by omega)
      unfold Ym at h2
      rw [show 1+(c.toNat - 1)=c.toNat by omega] at h2
      change shE (rsh l d c)=0 at h2
      generalize hs:rsh l d c=s at *
      unfold shE at h2
      split at h2
      · exact absurd h2 (by decide)
      rename_i b1
      split at h2
      · exact absurd h2 (by decide)
      rename_i b2
      split at h2
      · exact absurd h2 (by decide)
      rename_i b3
      have b1:1≤s.num∧s.num≤20:=by simpa [inB] using b1
      have b2:1≤s.den∧s.den≤12:=by simpa [inB] using b2
      refine ⟨?_,b1.1,b1.2,b2.2⟩
      unfold rq;rw [hs];exact Decidable.not_not.1 b3
  have k1:=congrArg Sh.num key.1
  have k2:=congrArg Sh.den key.1
  refine ⟨hd,by omega,hc,by omega,key.1, ?_, ?_, ?_⟩
  · have:(rsh l d c).num=(rq l d c).num:=k1;omega
  · have:(rsh l d c).num=(rq l d c).num:=k1;omega
  · have:(rsh l d c).den=((rq l d c).den:Int):=k2;omega
theorem xB {l:Led} {d c:Int} (h:Rt l d c):Bd 20 (rq l d c):=by
  have h1:=h.n0
  have h2:=h.n1
  have h3:=h.e1
  have h4:=je (rq l d c)
  refine ⟨?_,by omega,by omega⟩
  generalize (rq l d c).den=n at *
  have:n=1∨n=2∨n=3∨n=4∨n=5∨n=6∨n=7∨n=8∨n=9∨n=10∨n=11∨n=12:=by omega
  rcases this with rfl|rfl|rfl|rfl|rfl|rfl|rfl|rfl|rfl|rfl|rfl|rfl <;> decide
theorem Qhq {q:Rat} {n:Int} (hq:Bd 20 q) (h0:-300000≤n) (h1:n≤300000):Tm q n:=⟨hq.sm (by decide),by omega,by omega⟩
theorem Rw {q:Rat} {n:Int} (hq:Bd 20 q) (h0:-100000≤n) (h1:n≤100000):Tm q n:=⟨hq.sm (by decide),by omega,by omega⟩
def Qy:=kj @YB (kj @xm (kj @JP (kj @Wt (kj @ZQ (kj @WO.eq_1 (kj @vG.eq_1 (kj @Wu.eq_1 (kj @Zo.eq_1 @Qx.eq_1))))))))
def Um:=kj @aI.eq_1 (kj @aB.eq_1 (kj @zL.eq_1 (kj @zh.eq_1 (kj @aSh.eq_1 (kj @gShs (kj @gSh (kj @kw.eq_1 (@eSh.eq_1))))))))
theorem QfY (l:Led) (d c:Int) (h:Rt l d c):FnV Tryz.prog 29 [zL l,aI d,aI c] (aSh (shQ (rq l d c))):=by
  have env:Env (fun _=>True) Tryz.prog tyB (tab []):=qY trivial
  refine Fn.of (A:=fun _=>True) (n0:=0) (D:=noD) (Fn0 Tryz.func29 rfl (fun vs w=>by kernel_rfl) (by kernel_rfl)) (by simp) (by simp [AV.ids,AV.idsL,zL,zh,aI]) (fun i o h=>by cases h) (fun _ _ _ _=>trivial) qA ?_
  have q1:=h.d0
  have q2:=h.d1
  have q3:=h.c0
  have q4:=h.c1
  repeat' (first|(apply nx;with_reducible constructor)|refine jq (by decide) ?_|((first|refine kx env fun Q hQ=>?_|refine kz fun Q hQ=>?_);simp only [vkt,seval,Qy,Um];(try simp only [ite_and]);(repeat' (first|with_reducible assumption|refine And.intro ?_ ?_|intro hp));all_goals (first|(refine hQ _ ?_;clear hQ Q)|(refine hQ _ (fun h=>?_) (fun h=>?_) <;> clear hQ Q <;> (try simp only [vki,reduceCtorEq] at h))|omega|assumption|with_reducible rfl|(refine kq ?_;kernel_rfl)|skip)))
  (simp only [vrt,Tryz.results29,vkt,seval,Qy,Um];refine Fin.val rfl ?_;(try simp only [AV.le,AV.leL]))
  all_goals (rw [← h.q];exact ⟨rfl,rfl,trivial⟩)
def c98:List AV→Prop × AV
  |[.agg [.sl cs,.sl rs,.sl ss,.sl es],.v (.int .i64 d),.v (.int .i64 c)]=>(isL cs rs ss es∧Rt (zN cs rs ss es) d c,aSh (shQ (rq (zN cs rs ss es) d c)))
  |_=>(False,.junk)
theorem d98 {A:Frm→Prop}:qh A Tryz.prog 29 (qo true c98):=qL fun vs hv h=>by
  clear hv
  unfold c98 at h ⊢
  split at h
  · refine ⟨by simp [AV.plain,AV.plainL,aSh],fun _=>by simp [AV.flat,AV.flatL,aSh], ?_⟩
    rw [← jD h.1];exact QfY _ _ _ h.2
  · exact h.elim
end Go.Sym.B
namespace Go.Sym.B
open Go Go.Sym Go.Proofs Go.Sym.C
def Zh:=kj @JP @Wu.eq_1
def Un:=kj @aI.eq_1 (kj @aB.eq_1 (@aSh.eq_1))
theorem QgI (a b:Int):FnV Tryz.prog 5 [aI a,aI b] (aSh ⟨a,b⟩):=by
  have env:Env (fun _=>True) Tryz.prog tyB (tab []):=qY trivial
  refine Fn.of (A:=fun _=>True) (n0:=0) (D:=noD) (Fn0 Tryz.func5 rfl (fun vs w=>by kernel_rfl) (by kernel_rfl)) (by simp) (by simp [AV.ids,aI]) (fun i o h=>by cases h) (fun _ _ _ _=>trivial) qA ?_
  repeat' (first|(apply nx;with_reducible constructor)|refine jq (by decide) ?_|((first|refine kx env fun Q hQ=>?_|refine kz fun Q hQ=>?_);simp only [vkt,seval,Zh,Un];(try simp only [ite_and]);(repeat' (first|with_reducible assumption|refine And.intro ?_ ?_|intro hp));all_goals (first|(refine hQ _ ?_;clear hQ Q)|(refine hQ _ (fun h=>?_) (fun h=>?_) <;> clear hQ Q <;> (try simp only [vki,reduceCtorEq] at h))|omega|assumption|with_reducible rfl|(refine kq ?_;kernel_rfl)|skip)))
  (simp only [vrt,Tryz.results5,vkt,seval,Zh,Un];refine Fin.val rfl ?_;(try simp only [AV.le,AV.leL]))
  all_goals simp
def s40:List AV→Prop × AV
  |[.v (.int .i64 a),.v (.int .i64 b)]=>(True,.agg [.v (.int .i64 a),.v (.int .i64 b)])
  |_=>(False,.junk)
theorem e40 {A:Frm→Prop}:qh A Tryz.prog 5 (qo true s40):=qL fun vs _ h=>by
  unfold s40 at h ⊢
  split at h
  · exact ⟨by simp [AV.plain,AV.plainL],fun _=>by simp [AV.flat,AV.flatL],QgI _ _⟩
  · exact h.elim
def wZ (got:Int):Led:={ coins:=[[1,5,10],[1,2]],rates:=[[⟨1,1⟩,⟨3,2⟩],[⟨1,1⟩,⟨2,1⟩]],start:=[100,10],entries:=[⟨0,1,1,0,20,0⟩,⟨0,3,1,0,15,got⟩,⟨1,2,0,0,30,0⟩,⟨1,4,1,0,14,0⟩] }
def Qh:=kj @ty3 (kj @QA (kj @YB (kj @jL (kj @V8 (kj @xm (kj @JP (kj @Wt (kj @JI (kj @ti3.eq_1 (kj @kP.eq_1 (kj @WO.eq_1 (kj @jG.eq_1 (kj @J4.eq_1 (kj @vG.eq_1 (kj @Wu.eq_1 (kj @Zo.eq_1 @Wv.eq_1))))))))))))))))
def Ua:=kj @aI.eq_1 (kj @aB.eq_1 (kj @aSh.eq_1 (kj @zL.eq_1 (kj @zh.eq_1 (kj @wZ.eq_1 (kj @s40.eq_1 (kj @s40.eq_2 (kj @zH.eq_1 (kj @kw.eq_1 (kj @qp.eq_1 (kj @eSh.eq_1 (@yg.eq_1))))))))))))
theorem Qc7 (g:Int):FnV Tryz.prog 4 [aI g] (zL (wZ g)):=by
  have env:Env (fun _=>True) Tryz.prog tyB (tab [(5,qo true s40)]):=qY ⟨e40,trivial⟩
  refine Fn.of (A:=fun _=>True) (n0:=0) (D:=noD) (Fn0 Tryz.func4 rfl (fun vs w=>by kernel_rfl) (by kernel_rfl)) (by simp) (by simp [AV.ids,aI]) (fun i o h=>by cases h) (fun _ _ _ _=>trivial) qA ?_
  have q1:(4:Nat)≤maxLen:=by decide
  repeat' (first|(apply nx;with_reducible constructor)|refine jq (by decide) ?_|((first|refine kx env fun Q hQ=>?_|refine kz fun Q hQ=>?_);simp only [vkt,seval,Qh,Ua,List.map_cons,List.map_nil];(try simp only [ite_and]);(repeat' (first|with_reducible assumption|refine And.intro ?_ ?_|intro hp));all_goals (first|(refine hQ _ ?_;clear hQ Q)|(refine hQ _ (fun h=>?_) (fun h=>?_) <;> clear hQ Q <;> (try simp only [vki,reduceCtorEq] at h))|omega|assumption|with_reducible rfl|(refine kq ?_;kernel_rfl)|skip)))
  (simp only [vrt,Tryz.results4,vkt,seval,Qh,Ua,List.map_cons,List.map_nil];refine Fin.val rfl ?_;(try simp only [AV.le,AV.leL]))
  all_goals first|rfl|exact ⟨⟨_,_,rfl⟩,⟨_,_,rfl⟩,⟨_,_,rfl⟩,⟨_,_,rfl⟩,trivial⟩|exact ⟨⟨_,_,rfl⟩,⟨_,_,rfl⟩,⟨_,_,rfl⟩,⟨_,_,rfl⟩⟩
def c76:List AV→Prop × AV
  |[.v (.int .i64 g)]=>(True,zL (wZ g))
  |_=>(False,.junk)
theorem d76 {A:Frm→Prop}:qh A Tryz.prog 4 (qo false c76):=qL fun vs _ h=>by
  unfold c76 at h ⊢
  split at h
  · exact ⟨by simp [AV.plain,AV.plainL,zL,zh],fun h=>absurd h (by decide),Qc7 _⟩
  · exact h.elim
end Go.Sym.B
namespace Go.Sym.B
open Go Go.Sym Go.Proofs Go.Sym.C
def Uc (p:List Int) (k:Nat):Int:=if !inB (p.getD k 0) 0 4 then 1 else 0
def YO (n:Nat) (p:List Int):Int:=if p.length ≠ n then 2 else jb (errs p.length (Uc p))
def vP (l:Led) (c:Int) (ps:List (List Int)) (k:Nat):Int:=YO (l.coins.getD c.toNat []).length (ps.getD k [])
def jM (l:Led) (c n:Int) (ps:List (List Int)):Int:=if zB l ≠ 0 then zB l else if !inB c 0 ((l.coins.length:Int) - 1) then 3 else if jb (errs ps.length (vP l c ps)) ≠ 0 then jb (errs ps.length (vP l c ps)) else if !inB n 0 999 then 1 else 0
def moS1 (l:Led) (c n:Int) (ps:List (List Int)) (k:Nat):St:={ t:=asg [(1,aI c),(2,aI n),(4,.ptr 0 0),(8,aI 0),(26,zz ps),(27,aI ps.length),(28,aI k)],h:=qc [(0,.cells (zh l))],n:=1 }
def moS2 (l:Led) (c n:Int) (ps:List (List Int)) (k:Nat) (p:List Int) (i:Nat):St:={ t:=asg [(1,aI c),(2,aI n),(4,.ptr 0 0),(8,aI 0),(26,zz ps),(27,aI ps.length),(28,aI k),(41,ql p),(42,aI p.length),(43,aI i)],h:=qc [(0,.cells (zh l))],n:=1 }
def qd:=kj @ty3 (kj @QA (kj @jL (kj @xm (kj @QJ (kj @ti3.eq_1 (kj @kP.eq_1 (kj @jG.eq_1 (kj @vG.eq_1 @Qe.eq_1))))))))
def zR:=kj @aI.eq_1 (kj @aB.eq_1 (kj @zL.eq_1 (kj @zh.eq_1 (kj @ql.eq_1 (kj @zz.eq_1 (kj @moS1.eq_1 (kj @moS2.eq_1 (kj @c50.eq_1 (kj @c50.eq_2 (kj @s79.eq_1 (kj @s79.eq_2 (kj @yT (kj @jO (kj @qp.eq_1 (kj @Qn (kj @zH.eq_1 (@WE)))))))))))))))))
set_option maxHeartbeats 2000000 in
theorem Qei (l:Led) (c n:Int) (ps:List (List Int)) (hl:Fit l) (hm:ps.length≤maxLen) (hp:∀ p ∈ ps,p.length≤maxLen):FnV Tryz.prog 39 [zL l,aI c,aI n,zz ps] (aI (jM l c n ps)):=by
  have env:Env (fun _=>True) Tryz.prog tyB (tab [(7,qo true c50),(27,qo true s79)]):=qY ⟨d50,e79,trivial⟩
  refine Fn.of (A:=fun _=>True) (n0:=0) (D:=noD) (Fn0 Tryz.func39 rfl (fun vs w=>by kernel_rfl) (by kernel_rfl)) (by simp) (by simp [AV.ids,AV.idsL,aI,zL,zh,zz]) (fun i o h=>by cases h) (fun _ _ _ _=>trivial) qA ?_
  have q5:=WM
  have q6:=hl.c
  have w1:IntKind.wrap .i64 ((l.coins.length:Int) - 1)=(l.coins.length:Int) - 1:=wrap64 (by omega) (by omega)
  by_cases h0:zB l=0
  · have hV:=Qt h0
    have v1:=hV.c
    by_cases h1:inB c 0 ((l.coins.length:Int) - 1)=true
    · have b1:=wC.1 h1
      have g1:0≤c:=b1.1
      have g2:c.toNat < l.coins.length:=by omega
      have hlp:=hl.cs _ (jU (d:=[]) g2)
      repeat' (first|(apply nx;with_reducible constructor)|refine jq (by decide) ?_|((first|refine kx env fun Q hQ=>?_|refine kz fun Q hQ=>?_);simp only [vkt,seval,qd,zR,h0,w1,h1];(try simp only [ite_and]);(repeat' (first|with_reducible assumption|refine And.intro ?_ ?_|intro hp));all_goals (first|(refine hQ _ ?_;clear hQ Q)|(refine hQ _ (fun h=>?_) (fun h=>?_) <;> clear hQ Q <;> (try simp only [vki,reduceCtorEq] at h))|omega|assumption|with_reducible rfl|(refine kq ?_;kernel_rfl)|skip)))
      refine qz (ι:=FI (errs ps.length (vP l c ps))) (fun i=>moS1 l c n ps i.k) (fun i=>ps.length - i.k) (FI.zero _) ?_ fun i=>?_
      · (refine Le.ok some [] ?_;constructor;all_goals (try simp only [vle,vkt,seval,qd,zR]))
        all_goals simp [FI.zero]
      · have hk:=i.le
        rw [jS] at hk
        repeat' (first|(apply nx;with_reducible constructor)|refine jq (by decide) ?_)
        (refine kx env fun Q hQ=>?_;simp only [vkt,seval,qd,zR];(try simp only [ite_and]);(repeat' (first|with_reducible assumption|refine And.intro ?_ ?_|intro hp));all_goals (first|(refine hQ _ ?_;clear hQ Q)|omega|assumption|with_reducible rfl|(refine kq ?_;kernel_rfl)|skip))
        repeat' (first|(apply nx;with_reducible constructor)|refine jq (by decide) ?_)
        (refine wh (by simp only [vkt,seval,qd,zR];rfl) (fun h=>?_) (fun h=>?_) <;> (try simp only [vki,reduceCtorEq] at h))
        · have hlt:i.k < ps.length:=by omega
          have hpm:=hp _ (jU (d:=[]) hlt)
          have e9:=zt hlt hm
          generalize hpp:ps.getD i.k []=p at *
          by_cases h2:p.length=(l.coins.getD c.toNat []).length
          · have h2':(p.length:Int)=(l.coins.getD c.toNat []).length:=by omega
            repeat' (first|(apply nx;with_reducible constructor)|refine jq (by decide) ?_|((first|refine kx env fun Q hQ=>?_|refine kz fun Q hQ=>?_);simp only [vkt,seval,qd,zR,hpp,h2'];(try simp only [ite_and]);(repeat' (first|with_reducible assumption|refine And.intro ?_ ?_|intro hp));all_goals (first|(refine hQ _ ?_;clear hQ Q)|(refine hQ _ (fun h=>?_) (fun h=>?_) <;> clear hQ Q <;> (try simp only [vki,reduceCtorEq] at h))|omega|assumption|with_reducible rfl|(refine kq ?_;kernel_rfl)|skip)))
            refine qz (ι:=FI (errs p.length (Uc p))) (fun j=>moS2 l c n ps i.k p j.k) (fun j=>p.length - j.k) (FI.zero _) ?_ fun j=>?_
            · (refine Le.ok some [] ?_;constructor;all_goals (try simp only [vle,vkt,seval,qd,zR]))
              all_goals first|(simp [FI.zero];done)|(simp [FI.zero,h2];done)
            · have hj:=j.le
              rw [jS] at hj
              repeat' (first|(apply nx;with_reducible constructor)|refine jq (by decide) ?_)
              (refine kx env fun Q hQ=>?_;simp only [vkt,seval,qd,zR];(try simp only [ite_and]);(repeat' (first|with_reducible assumption|refine And.intro ?_ ?_|intro hp));all_goals (first|(refine hQ _ ?_;clear hQ Q)|omega|assumption|with_reducible rfl|(refine kq ?_;kernel_rfl)|skip))
              repeat' (first|(apply nx;with_reducible constructor)|refine jq (by decide) ?_)
              (refine wh (by simp only [vkt,seval,qd,zR];rfl) (fun h=>?_) (fun h=>?_) <;> (try simp only [vki,reduceCtorEq] at h))
              · have hjl:j.k < p.length:=by omega
                have e8:=zt hjl hpm
                by_cases c1:inB (p.getD j.k 0) 0 4=true
                · repeat' (first|(apply nx;with_reducible constructor)|refine jq (by decide) ?_|((first|refine kx env fun Q hQ=>?_|refine kz fun Q hQ=>?_);simp only [vkt,seval,qd,zR,c1];(try simp only [ite_and]);(repeat' (first|with_reducible assumption|refine And.intro ?_ ?_|intro hp));all_goals (first|(refine hQ _ ?_;clear hQ Q)|(refine hQ _ (fun h=>?_) (fun h=>?_) <;> clear hQ Q <;> (try simp only [vki,reduceCtorEq] at h))|omega|assumption|with_reducible rfl|(refine kq ?_;kernel_rfl)|skip)))
                  refine ⟨j.next hjl (by unfold Uc;rw [c1];rfl),by show p.length - (j.k+1) < _;omega, ?_⟩
                  (refine Le.ok some [] ?_;constructor;all_goals (try simp only [vle,vkt,seval,qd,zR]))
                  all_goals simp [FI.next,e8]
                · have c1:inB (p.getD j.k 0) 0 4=false:=by simpa using c1
                  have hj1:=j.hit hjl (by unfold Uc;rw [c1];simp)
                  have hj2:Uc p j.k=1:=by unfold Uc;rw [c1];rfl
                  have hi1:vP l c ps i.k=1:=by unfold vP YO;rw [hpp,if_neg (by simpa using h2),hj1,hj2]
                  have hi2:=i.hit hlt (by rw [hi1];decide)
                  repeat' (first|(apply nx;with_reducible constructor)|refine jq (by decide) ?_|((first|refine kx env fun Q hQ=>?_|refine kz fun Q hQ=>?_);simp only [vkt,seval,qd,zR,c1];(try simp only [ite_and]);(repeat' (first|with_reducible assumption|refine And.intro ?_ ?_|intro hp));all_goals (first|(refine hQ _ ?_;clear hQ Q)|(refine hQ _ (fun h=>?_) (fun h=>?_) <;> clear hQ Q <;> (try simp only [vki,reduceCtorEq] at h))|omega|assumption|with_reducible rfl|(refine kq ?_;kernel_rfl)|skip)))
                  (simp only [vrt,Tryz.results39,vkt,seval,qd,zR];refine Fin.val rfl ?_;(try simp only [AV.le,AV.leL]))
                  all_goals (unfold jM;rw [if_neg (by rw [h0];simp),if_neg (by rw [h1];simp),if_pos (by rw [hi2,hi1];decide),hi2,hi1])
              · have hj1:=j.last (by omega)
                have hi1:vP l c ps i.k=0:=by unfold vP YO;rw [hpp,if_neg (by simpa using h2),hj1]
                repeat' (first|(apply nx;with_reducible constructor)|refine jq (by decide) ?_|((first|refine kx env fun Q hQ=>?_|refine kz fun Q hQ=>?_);simp only [vkt,seval,qd,zR,e9];(try simp only [ite_and]);(repeat' (first|with_reducible assumption|refine And.intro ?_ ?_|intro hp));all_goals (first|(refine hQ _ ?_;clear hQ Q)|(refine hQ _ (fun h=>?_) (fun h=>?_) <;> clear hQ Q <;> (try simp only [vki,reduceCtorEq] at h))|omega|assumption|with_reducible rfl|(refine kq ?_;kernel_rfl)|skip)))
                refine ⟨i.next hlt hi1,by show ps.length - (i.k+1) < _;omega, ?_⟩
                (refine Le.ok some [] ?_;constructor;all_goals (try simp only [vle,vkt,seval,qd,zR]))
                all_goals simp [FI.next,e9]
          · have h2':¬ (p.length:Int)=(l.coins.getD c.toNat []).length:=by omega
            have hi1:vP l c ps i.k=2:=by unfold vP YO;rw [hpp,if_pos h2]
            have hi2:=i.hit hlt (by rw [hi1];decide)
            repeat' (first|(apply nx;with_reducible constructor)|refine jq (by decide) ?_|((first|refine kx env fun Q hQ=>?_|refine kz fun Q hQ=>?_);simp only [vkt,seval,qd,zR,hpp,h2'];(try simp only [ite_and]);(repeat' (first|with_reducible assumption|refine And.intro ?_ ?_|intro hp));all_goals (first|(refine hQ _ ?_;clear hQ Q)|(refine hQ _ (fun h=>?_) (fun h=>?_) <;> clear hQ Q <;> (try simp only [vki,reduceCtorEq] at h))|omega|assumption|with_reducible rfl|(refine kq ?_;kernel_rfl)|skip)))
            (simp only [vrt,Tryz.results39,vkt,seval,qd,zR];refine Fin.val rfl ?_;(try simp only [AV.le,AV.leL]))
            all_goals (unfold jM;rw [if_neg (by rw [h0];simp),if_neg (by rw [h1];simp),if_pos (by rw [hi2,hi1];decide),hi2,hi1])
        · have hf:=i.last (by omega)
          by_cases h3:inB n 0 999=true
          · repeat' (first|(apply nx;with_reducible constructor)|refine jq (by decide) ?_|((first|refine kx env fun Q hQ=>?_|refine kz fun Q hQ=>?_);simp only [vkt,seval,qd,zR,h3];(try simp only [ite_and]);(repeat' (first|with_reducible assumption|refine And.intro ?_ ?_|intro hp));all_goals (first|(refine hQ _ ?_;clear hQ Q)|(refine hQ _ (fun h=>?_) (fun h=>?_) <;> clear hQ Q <;> (try simp only [vki,reduceCtorEq] at h))|omega|assumption|with_reducible rfl|(refine kq ?_;kernel_rfl)|skip)))
            (simp only [vrt,Tryz.results39,vkt,seval,qd,zR];refine Fin.val rfl ?_;(try simp only [AV.le,AV.leL]))
            all_goals (unfold jM;rw [if_neg (by rw [h0];simp),if_neg (by rw [h1];simp),if_neg (by rw [hf];simp),if_neg (by rw [h3];simp)])
          · have h3:inB n 0 999=false:=by simpa using h3
            repeat' (first|(apply nx;with_reducible constructor)|refine jq (by decide) ?_|((first|refine kx env fun Q hQ=>?_|refine kz fun Q hQ=>?_);simp only [vkt,seval,qd,zR,h3];(try simp only [ite_and]);(repeat' (first|with_reducible assumption|refine And.intro ?_ ?_|intro hp));all_goals (first|(refine hQ _ ?_;clear hQ Q)|(refine hQ _ (fun h=>?_) (fun h=>?_) <;> clear hQ Q <;> (try simp only [vki,reduceCtorEq] at h))|omega|assumption|with_reducible rfl|(refine kq ?_;kernel_rfl)|skip)))
            (simp only [vrt,Tryz.results39,vkt,seval,qd,zR];refine Fin.val rfl ?_;(try simp only [AV.le,AV.leL]))
            all_goals (unfold jM;rw [if_neg (by rw [h0];simp),if_neg (by rw [h1];simp),if_neg (by rw [hf];simp),if_pos (by rw [h3];rfl)])
    · have h1:inB c 0 ((l.coins.length:Int) - 1)=false:=by simpa using h1
      repeat' (first|(apply nx;with_reducible constructor)|refine jq (by decide) ?_|((first|refine kx env fun Q hQ=>?_|refine kz fun Q hQ=>?_);simp only [vkt,seval,qd,zR,h0,w1,h1];(try simp only [ite_and]);(repeat' (first|with_reducible assumption|refine And.intro ?_ ?_|intro hp));all_goals (first|(refine hQ _ ?_;clear hQ Q)|(refine hQ _ (fun h=>?_) (fun h=>?_) <;> clear hQ Q <;> (try simp only [vki,reduceCtorEq] at h))|omega|assumption|with_reducible rfl|(refine kq ?_;kernel_rfl)|skip)))
      (simp only [vrt,Tryz.results39,vkt,seval,qd,zR];refine Fin.val rfl ?_;(try simp only [AV.le,AV.leL]))
      all_goals (unfold jM;rw [if_neg (by rw [h0];simp),if_pos (by rw [h1];rfl)])
  · repeat' (first|(apply nx;with_reducible constructor)|refine jq (by decide) ?_|((first|refine kx env fun Q hQ=>?_|refine kz fun Q hQ=>?_);simp only [vkt,seval,qd,zR,h0];(try simp only [ite_and]);(repeat' (first|with_reducible assumption|refine And.intro ?_ ?_|intro hp));all_goals (first|(refine hQ _ ?_;clear hQ Q)|(refine hQ _ (fun h=>?_) (fun h=>?_) <;> clear hQ Q <;> (try simp only [vki,reduceCtorEq] at h))|omega|assumption|with_reducible rfl|(refine kq ?_;kernel_rfl)|skip)))
    (simp only [vrt,Tryz.results39,vkt,seval,qd,zR];refine Fin.val rfl ?_;(try simp only [AV.le,AV.leL]))
    all_goals (unfold jM;rw [if_pos h0])
def c86:List AV→Prop × AV
  |[.agg [.sl cs,.sl rs,.sl ss,.sl es],.v (.int .i64 c),.v (.int .i64 n),.sl ps]=>(isL cs rs ss es∧Fit (zN cs rs ss es)∧ps=(ps.map zw).map zH∧ps.length≤maxLen∧(∀ p ∈ ps.map zw,p.length≤maxLen),aI (jM (zN cs rs ss es) c n (ps.map zw)))
  |_=>(False,.junk)
theorem d86 {A:Frm→Prop}:qh A Tryz.prog 39 (qo true c86):=qL fun vs hv h=>by
  clear hv
  unfold c86 at h ⊢
  split at h
  · rename_i c n ps
    refine ⟨trivial,fun _=>trivial, ?_⟩
    have:=Qei _ c n _ h.2.1 (show (List.map zw _).length≤maxLen by rw [List.length_map];exact h.2.2.2.1) h.2.2.2.2
    rw [← jD h.1]
    simp only [zz,← h.2.2.1] at this
    exact this
  · exact h.elim
theorem VI {l:Led} {c n:Int} {ps:List (List Int)} (h:jM l c n ps=0):Val l∧(0≤c∧c.toNat < l.coins.length)∧(∀ p ∈ ps,p.length=(l.coins.getD c.toNat []).length∧∀ v ∈ p,0≤v∧v≤4)∧0≤n∧n≤999:=by
  unfold jM at h
  split at h
  · exact absurd h ‹_›
  · rename_i h0
    split at h
    · exact absurd h (by decide)
    · rename_i h1
      split at h
      · exact absurd h ‹_›
      · rename_i h2
        split at h
        · exact absurd h (by decide)
        · rename_i h3
          have b1:=wC.1 (by simpa using h1)
          have b3:=wC.1 (by simpa using h3)
          refine ⟨Qt (by simpa using h0),by omega,fun p hp=>?_,by omega⟩
          obtain ⟨k,hk,rfl⟩:=List.getElem_of_mem hp
          have e1:=xH (Decidable.not_not.1 h2) (vP l c ps k) (List.mem_map.2 ⟨k,List.mem_range.2 hk,rfl⟩)
          unfold vP YO at e1
          rw [show ps.getD k []=ps[k] by simp [List.getD_eq_getElem?_getD,hk]] at e1
          split at e1
          · exact absurd e1 (by decide)
          · rename_i h4
            refine ⟨by simpa using h4,fun v hv=>?_⟩
            obtain ⟨j,hj,rfl⟩:=List.getElem_of_mem hv
            have e2:=xH e1 (Uc ps[k] j) (List.mem_map.2 ⟨j,List.mem_range.2 hj,rfl⟩)
            unfold Uc at e2
            rw [show ps[k].getD j 0=ps[k][j] by simp [List.getD_eq_getElem?_getD,hj]] at e2
            split at e2
            · exact absurd e2 (by decide)
            · rename_i h5
              exact wC.1 (by simpa using h5)
end Go.Sym.B
namespace Go.Sym.B
open Go Go.Sym Go.Proofs Go.Sym.C
def KS (x y:Int):Int:=if 0≤x∧(y < 0∨x+1 < y) then x+1 else y
def goN (p:Nat) (f:Nat→Int):Nat→Nat→Int
  |0,a=>f a
  |k+1,a=>if p≤a then KS (goN p f k (a - p)) (f a) else f a
theorem Vm {p:Nat} {f:Nat→Int} (hp:1≤p):∀ (k j a:Nat),a≤k→a≤j→goN p f k a=goN p f j a
  |0,j,a,hk,hj=>by
    obtain rfl:a=0:=by omega
    cases j with
    |zero=>rfl
    |succ j=>rw [goN,goN,if_neg (by omega)]
  |k+1,0,a,hk,hj=>by
    obtain rfl:a=0:=by omega
    rw [goN,goN,if_neg (by omega)]
  |k+1,j+1,a,hk,hj=>by
    rw [goN,goN]
    by_cases h:p≤a
    · rw [if_pos h,if_pos h,Vm hp k j (a - p) (by omega) (by omega)]
    · rw [if_neg h,if_neg h]
def gN (p:Nat) (f:Nat→Int) (a:Nat):Int:=goN p f a a
theorem YQ {p:Nat} {f:Nat→Int} {a:Nat} (h:a < p):gN p f a=f a:=by
  unfold gN
  cases a with
  |zero=>rfl
  |succ a=>rw [goN,if_neg (by omega)]
theorem Yv {p:Nat} {f:Nat→Int} (hp:1≤p) {a:Nat} (h:p≤a):gN p f a=KS (gN p f (a - p)) (f a):=by
  unfold gN
  obtain ⟨b,rfl⟩:∃ b,a=b+1:=⟨a - 1,by omega⟩
  rw [goN,if_pos h,Vm hp b (b+1 - p) (b+1 - p) (by omega) (by omega)]
def wV:List Int→Nat→Int
  |[],a=>if a=0 then 0 else -1
  |p :: ps,a=>gN p.toNat (wV ps) a
theorem Qgu {x y:Int} (hx:-1≤x) (hy:-1≤y):-1≤KS x y:=by unfold KS;split <;> omega
theorem QdF {p:Nat} {f:Nat→Int} (hp:1≤p) (h:∀ a,-1≤f a) (a:Nat):-1≤gN p f a:=by
  induction a using Nat.strongRecOn with
  |_ a ih =>
    by_cases hc:p≤a
    · rw [Yv hp hc];exact Qgu (ih _ (by omega)) (h a)
    · rw [YQ (by omega)];exact h a
theorem Qg1 {p:Nat} {f:Nat→Int} (hp:1≤p) (h:∀ a:Nat,f a≤a) (a:Nat):gN p f a≤a:=by
  induction a using Nat.strongRecOn with
  |_ a ih =>
    by_cases hc:p≤a
    · rw [Yv hp hc]
      have h1:=ih (a - p) (by omega)
      have h2:=h a
      unfold KS
      split <;> omega
    · rw [YQ (by omega)];exact h a
theorem VJ:∀ {ps:List Int},(∀ p ∈ ps,1≤p)→∀ a:Nat,-1≤wV ps a∧wV ps a≤a
  |[],_,a=>by unfold wV;split <;> omega
  |p :: ps,h,a=>by
    have h1:=h p List.mem_cons_self
    have h2:=fun a=>VJ (ps:=ps) (fun q hq=>h q (List.mem_cons_of_mem _ hq)) a
    exact ⟨QdF (by omega) (fun a=>(h2 a).1) a,Qg1 (by omega) (fun a=>(h2 a).2) a⟩
def Q0 (p:Nat) (f:Nat→Int) (a:Nat) (m:Nat):Bool:=decide (m * p≤a) && decide (0≤f (a - m * p)) && decide (f (a - m * p)+m=gN p f a)
theorem QcA {p:Nat} {f:Nat→Int} (hp:1≤p) (a:Nat) (h:0≤gN p f a):∃ m,Q0 p f a m=true:=by
  induction a using Nat.strongRecOn with
  |_ a ih =>
    by_cases hc:p≤a
    · rw [Yv hp hc] at h
      by_cases hu:0≤gN p f (a - p)∧(f a < 0∨gN p f (a - p)+1 < f a)
      · obtain ⟨m,hm⟩:=ih (a - p) (by omega) hu.1
        refine ⟨m+1, ?_⟩
        unfold Q0 at hm ⊢
        simp only [Bool.and_eq_true,decide_eq_true_eq] at hm ⊢
        have e1:(m+1) * p=m * p+p:=Nat.succ_mul m p
        have e2:a - (m+1) * p=a - p - m * p:=by omega
        have e3:gN p f a=gN p f (a - p)+1:=by rw [Yv hp hc];unfold KS;rw [if_pos hu]
        rw [e2,e3]
        refine ⟨⟨by omega,hm.1.2⟩, ?_⟩
        have:=hm.2
        omega
      · refine ⟨0, ?_⟩
        unfold Q0
        simp only [Bool.and_eq_true,decide_eq_true_eq]
        have e3:gN p f a=f a:=by rw [Yv hp hc];unfold KS;rw [if_neg hu]
        rw [← Yv hp hc,e3] at h
        rw [e3]
        simp;exact h
    · refine ⟨0, ?_⟩
      rw [YQ (by omega)] at h
      unfold Q0
      simp only [Bool.and_eq_true,decide_eq_true_eq]
      rw [YQ (by omega)]
      simp;exact h
theorem QbJ {p:Nat} {f:Nat→Int} (hp:1≤p) {a m:Nat} (h:Q0 p f a m=true):m≤a:=by
  unfold Q0 at h
  simp only [Bool.and_eq_true,decide_eq_true_eq] at h
  have:=Nat.le_mul_of_pos_right m hp
  omega
def yL (p:Nat) (f:Nat→Int) (a:Nat):Nat:=((List.range (a+1)).find? (Q0 p f a)).getD 0
theorem Lu {p:Nat} {f:Nat→Int} (hp:1≤p) {a m:Nat} (h:Q0 p f a m=true) (hb:∀ j,j < m→Q0 p f a j=false):yL p f a=m:=by
  have hm:=QbJ hp h
  unfold yL
  have:(List.range (a+1)).find? (Q0 p f a)=some m:=by
    rw [List.find?_range_eq_some]
    exact ⟨h,List.mem_range.2 (by omega),fun j hj=>by simpa using hb j hj⟩
  rw [this];rfl
theorem ZG {p:Nat} {f:Nat→Int} (hp:1≤p) {a:Nat} (h:0≤gN p f a):Q0 p f a (yL p f a)=true:=by
  obtain ⟨m,hm⟩:=QcA hp a h
  have hle:=QbJ hp hm
  unfold yL
  cases hq:(List.range (a+1)).find? (Q0 p f a) with
  |some i=>exact List.find?_some hq
  |none=>exact absurd hm (List.find?_eq_none.1 hq m (List.mem_range.2 (by omega)))
def pcA (ps:List Int) (A:Nat):Nat→Nat
  |0=>A
  |i+1=>pcA ps A i - yL (ps.getD i 0).toNat (wV (ps.drop (i+1))) (pcA ps A i) * (ps.getD i 0).toNat
def pcM (ps:List Int) (A:Nat) (i:Nat):Nat:=yL (ps.getD i 0).toNat (wV (ps.drop (i+1))) (pcA ps A i)
def pcL (ps:List Int) (A:Nat) (k:Nat):List Int:=(List.range k).map fun i=>(pcM ps A i:Int)
theorem Qfm (ps:List Int) (A k:Nat):pcL ps A (k+1)=pcL ps A k++[(pcM ps A k:Int)]:=by unfold pcL;rw [List.range_succ,List.map_append];rfl
theorem Qga (ps:List Int) (A k:Nat):(pcL ps A k).length=k:=by simp [pcL]
theorem JG {ps:List Int} {i:Nat} (h:i < ps.length) (a:Nat):wV (ps.drop i) a=gN (ps.getD i 0).toNat (wV (ps.drop (i+1))) a:=by
  rw [List.drop_eq_getElem_cons h,wV];simp [List.getD_eq_getElem?_getD,h]
theorem Qeb {ps:List Int} (hp:∀ p ∈ ps,1≤p) {A:Nat} (h0:0≤wV ps A):∀ i,i≤ps.length→0≤wV (ps.drop i) (pcA ps A i)∧pcA ps A i≤A
  |0,_=>by rw [List.drop_zero];exact ⟨h0,Nat.le_refl _⟩
  |i+1,hi=>by
    obtain ⟨h1,h2⟩:=Qeb hp h0 i (by omega)
    have h3:=hp _ (jU (d:=0) (show i < ps.length by omega))
    rw [JG (by omega)] at h1
    have h4:=ZG (by omega) h1
    unfold Q0 at h4
    simp only [Bool.and_eq_true,decide_eq_true_eq] at h4
    rw [pcA]
    exact ⟨h4.1.2,by omega⟩
theorem Qdj {ps:List Int} (hp:∀ p ∈ ps,1≤p) (h1:ps.getD 0 0=1) (hl:1≤ps.length) (a:Nat):0≤wV ps a:=by
  obtain ⟨p,r,rfl⟩:∃ p r,ps=p :: r:=by cases ps with|nil=>simp at hl|cons p r=>exact ⟨p,r,rfl⟩
  obtain rfl:p=1:=by simpa using h1
  have hr:∀ a,-1≤wV r a:=fun a=>(VJ (fun q hq=>hp q (List.mem_cons_of_mem _ hq)) a).1
  have h00:∀ {r:List Int},(∀ p ∈ r,1≤p)→wV r 0=0:=by
    intro r
    induction r with
    |nil=>intro _;rfl
    |cons q r ih =>
      intro h
      have:=h q List.mem_cons_self
      rw [wV,YQ (by omega)]
      exact ih fun x hx=>h x (List.mem_cons_of_mem _ hx)
  rw [wV]
  show 0≤gN 1 (wV r) a
  induction a with
  |zero=>rw [YQ (by omega),h00 fun q hq=>hp q (List.mem_cons_of_mem _ hq)];decide
  |succ a ih =>
    rw [Yv (Nat.le_refl _) (by omega),show a+1 - 1=a by omega]
    unfold KS
    have:=hr (a+1)
    split <;> omega
structure PsOk (ps:List Int):Prop where
  l:1≤ps.length∧ps.length≤4
  one:ps.getD 0 0=1
  b:∀ p ∈ ps,1≤p∧p≤50
  inc:∀ i,i+1 < ps.length→ps.getD i 0 < ps.getD (i+1) 0
theorem YL {p:List Int} (h:Zl p=0):PsOk p:=by
  unfold Zl at h
  split at h
  · exact absurd h ‹_›
  · rename_i h0
    split at h
    · exact absurd h (by decide)
    · rename_i h1
      have hl:1≤p.length∧p.length≤4:=by unfold zI at h0;split at h0 <;> simp at h0;omega
      have hs:∀ i,i+1 < p.length→p.getD (i+1) 0≤50∧p.getD i 0 < p.getD (i+1) 0:=fun i hi=>by
        have:=xH h (QQ p i) (List.mem_map.2 ⟨i,List.mem_range.2 (by omega),rfl⟩)
        unfold QQ at this
        rw [Nat.add_comm 1 i] at this
        split at this
        · exact absurd this (by decide)
        · split at this
          · exact absurd this (by decide)
          · omega
      have hb:∀ i,i < p.length→1≤p.getD i 0∧p.getD i 0≤50:=fun i=>by
        induction i with
        |zero=>intro _;omega
        |succ i ih=>intro hi;have:=ih (by omega);have:=hs i hi;omega
      refine ⟨hl,by omega,fun q hq=>?_,fun i hi=>(hs i hi).2⟩
      obtain ⟨j,hj,rfl⟩:=List.getElem_of_mem hq
      have:=hb j hj
      simpa [List.getD_eq_getElem?_getD,hj] using this
def jY (f:Nat→Int) (A:Nat):List Int:=(List.range (A+1)).map f
theorem Ji (f:Nat→Int) (A:Nat):(jY f A).length=A+1:=by simp [jY]
theorem W9 {f:Nat→Int} {A j:Nat} (h:j≤A):(jY f A).getD j 0=f j:=by simp [jY,List.getD_eq_getElem?_getD,show j < A+1 by omega]
theorem UQ {f:Nat→Int} {A j:Nat} {v:Int}:(jY f A).set j v=jY (fun i=>if i=j then v else f i) A:=by
  apply List.ext_getElem?
  intro i
  simp only [jY,List.getElem?_set,List.getElem?_map,List.getElem?_range,List.length_map,List.length_range]
  by_cases hi:j=i
  · subst hi
    by_cases h:j < A+1
    · simp [h]
    · simp [h]
  · rw [if_neg hi]
    by_cases h:i < A+1
    · simp [h];exact fun h'=>absurd h'.symm hi
    · simp [h]
theorem Qa {f g:Nat→Int} {A:Nat} (h:∀ j,j≤A→f j=g j):jY f A=jY g A:=by
  unfold jY
  exact List.map_congr_left fun j hj=>h j (by have:=List.mem_range.1 hj;omega)
def Qq (p:Nat) (f:Nat→Int) (n:Nat):Nat→Int:=fun j=>if j < n then gN p f j else f j
theorem Qcm {p:Nat} {f:Nat→Int} {A:Nat}:jY (Qq p f p) A=jY f A:=Qa fun j _=>by
  unfold Qq;split
  · exact YQ ‹_›
  · rfl
theorem Qgo {p:Nat} {f:Nat→Int} {A n:Nat} (h:A < n):jY (Qq p f n) A=jY (gN p f) A:=Qa fun j hj=>by
  unfold Qq;rw [if_pos (by omega)]
theorem QgB {p:Nat} {f:Nat→Int} {A n:Nat} {v:Int} (hv:gN p f n=v):(jY (Qq p f n) A).set n v=jY (Qq p f (n+1)) A:=by
  rw [UQ]
  refine Qa fun j _=>?_
  unfold Qq
  by_cases h:j=n
  · subst h;rw [if_pos rfl,if_pos (by omega),hv]
  · rw [if_neg h]
    by_cases h1:j < n
    · rw [if_pos h1,if_pos (by omega)]
    · rw [if_neg h1,if_neg (by omega)]
theorem QfE {p:Nat} {f:Nat→Int} {A n:Nat} (hv:gN p f n=f n):jY (Qq p f n) A=jY (Qq p f (n+1)) A:=Qa fun j _=>by
  unfold Qq
  by_cases h:j=n
  · subst h;rw [if_neg (by omega),if_pos (by omega),hv]
  · by_cases h1:j < n
    · rw [if_pos h1,if_pos (by omega)]
    · rw [if_neg h1,if_neg (by omega)]
def tabC (g:Nat→AV) (n:Nat):List AV:=(List.range n).map g
theorem QeR (g:Nat→AV) (n:Nat):(tabC g n).length=n:=by simp [tabC]
theorem Qb2 {g:Nat→AV} {n k:Nat} (h:k < n):((tabC g n).drop k).take 1=[g k]:=by
  apply List.ext_getElem?
  intro i
  rw [List.getElem?_take]
  by_cases hi:i < 1
  · obtain rfl:i=0:=by omega
    simp [tabC,h]
  · rw [if_neg hi]
    simp;omega
theorem Qar {g:Nat→AV} {n k:Nat} {v:AV} (h:k < n):(tabC g n).take k++v :: (tabC g n).drop (k+1)=tabC (fun j=>if j=k then v else g j) n:=by
  apply List.ext_getElem?
  intro i
  rw [List.getElem?_append]
  simp only [tabC,List.length_take,List.length_map,List.length_range]
  rw [show min k n=k by omega]
  by_cases h1:i < k
  · rw [if_pos h1,List.getElem?_take,if_pos h1]
    simp [show i < n by omega,show i ≠ k by omega]
  · rw [if_neg h1]
    by_cases h2:i=k
    · subst h2
      simp [h]
    · rw [show i - k=(i - k - 1)+1 by omega,List.getElem?_cons_succ,List.getElem?_drop,show k+1+(i - k - 1)=i by omega]
      by_cases h3:i < n
      · simp [h3,h2]
      · simp [h3]
theorem Qdp (n:Nat):List.replicate n AV.nil=tabC (fun _=>.nil) n:=by
  apply List.ext_getElem?
  intro i
  simp only [tabC,List.getElem?_replicate,List.getElem?_map,List.getElem?_range]
  by_cases h:i < n <;> simp [h]
theorem YM {h:Nat→Option AObj} {σ:Nat→Option Nat} {g g':Nat→AV} {n:Nat} (hg:∀ j,j < n→AV.le h σ (g j) (g' j)):AV.leL h σ (tabC g n) (tabC g' n):=by
  have key:∀ (l:List Nat),(∀ j ∈ l,AV.le h σ (g j) (g' j))→AV.leL h σ (l.map g) (l.map g'):=by
    intro l
    induction l with
    |nil=>intro _;exact trivial
    |cons a l ih=>intro hh;exact ⟨hh a List.mem_cons_self,ih fun j hj=>hh j (List.mem_cons_of_mem _ hj)⟩
  exact key _ fun j hj=>hg j (List.mem_range.1 hj)
theorem Ry {g:Nat→AV} {n N:Nat} (hg:∀ j,j < n→∀ id ∈ (g j).ids,id < N):∀ id ∈ AV.idsL (tabC g n),id < N:=fun id hid=>by
  obtain ⟨c,hc,hi⟩:=AV.mem_idsL.1 hid
  obtain ⟨j,hj,rfl⟩:=List.mem_map.1 hc
  exact hg j (List.mem_range.1 hj) id hi
end Go.Sym.B
namespace Go.Sym.B
open Go Go.Sym Go.Proofs Go.Sym.C
theorem Qfo {y:Int} (h0:0≤y) (h1:y < 4294967296):IntKind.wrap .u64 (((BitVec.ofInt 64 y &&& BitVec.ofInt 64 4294967295).toNat:Nat):Int)=y:=by
  have e:(BitVec.ofInt 64 y &&& BitVec.ofInt 64 4294967295).toNat=y.toNat:=by
    rw [BitVec.toNat_and,BitVec.toNat_ofInt,BitVec.toNat_ofInt]
    have:(4294967295 % (2 ^ 64:Int)).toNat=2 ^ 32 - 1:=by decide
    rw [show ((2 ^ 64:Nat):Int)=2 ^ 64 by rfl,this,Nat.and_two_pow_sub_one_eq_mod]
    rw [Int.emod_eq_of_lt h0 (by omega),Nat.mod_eq_of_lt (by omega)]
  rw [e]
  simp [IntKind.wrap,IntKind.bits,IntKind.signed]
  omega
theorem Qfn {y:Int} (h0:0≤y) (h1:y < 4294967296):Int.fdiv y 4294967296=0:=by
  rw [Int.fdiv_eq_ediv_of_nonneg _ (by decide)];exact Int.ediv_eq_zero_of_lt h0 h1
theorem Qha {y:Int} (h0:0≤y) (h1:y < 18446744073709551616):IntKind.wrap .u64 y=y:=by
  simp [IntKind.wrap,IntKind.bits,IntKind.signed];omega
def aU (n:Int):AV:=.v (.int .u64 n)
def aUi (n:Int):AV:=.v (.int .u64 n)
def Qg:=kj @ty147 @QbA.eq_1
def Ux:=kj @aU.eq_1 (kj @aUi.eq_1 (kj @aI.eq_1 (@aB.eq_1)))
theorem QdY (y:Int) (h0:0≤y) (h1:y < 1000000):FnV Tryz.prog 86 [aUi 1,aUi y] (.tup [aUi 0,aUi y]):=by
  have env:Env (fun _=>True) Tryz.prog tyB (tab []):=qY trivial
  refine Fn.of (A:=fun _=>True) (n0:=0) (D:=noD) (Fn0 Tryz.func86 rfl (fun vs w=>by kernel_rfl) (by kernel_rfl)) (by simp) (by simp [AV.ids,aUi]) (fun i o h=>by cases h) (fun _ _ _ _=>trivial) qA ?_
  have a0:IntKind.wrap .u64 (((BitVec.ofInt (IntKind.bits .u64) 0 &&& BitVec.ofInt (IntKind.bits .u64) 4294967295).toNat:Nat):Int)=0:=Qfo (y:=0) (by decide) (by decide)
  have a1:IntKind.wrap .u64 (((BitVec.ofInt (IntKind.bits .u64) 1 &&& BitVec.ofInt (IntKind.bits .u64) 4294967295).toNat:Nat):Int)=1:=Qfo (y:=1) (by decide) (by decide)
  have a2:IntKind.wrap .u64 (((BitVec.ofInt (IntKind.bits .u64) y &&& BitVec.ofInt (IntKind.bits .u64) 4294967295).toNat:Nat):Int)=y:=Qfo h0 (by omega)
  have s0:Int.fdiv 0 (2 ^ min 32 (IntKind.bits .u64))=0:=Qfn (y:=0) (by decide) (by decide)
  have s1:Int.fdiv 1 (2 ^ min 32 (IntKind.bits .u64))=0:=Qfn (y:=1) (by decide) (by decide)
  have s2:Int.fdiv y (2 ^ min 32 (IntKind.bits .u64))=0:=Qfn h0 (by omega)
  have w0:IntKind.wrap .u64 0=0:=by decide
  have w1:IntKind.wrap .u64 1=1:=by decide
  have w2:=Qha h0 (by omega)
  repeat' (first|(apply nx;with_reducible constructor)|refine jq (by decide) ?_|((first|refine kx env fun Q hQ=>?_|refine kz fun Q hQ=>?_);simp only [vkt,seval,Qg,Ux,a0,a1,a2,s0,s1,s2,w0,w1,w2,Int.one_mul,Int.mul_one,Int.zero_mul,Int.mul_zero,Int.zero_add,Int.add_zero];(try simp only [ite_and]);(repeat' (first|with_reducible assumption|refine And.intro ?_ ?_|intro hp));all_goals (first|(refine hQ _ ?_;clear hQ Q)|(refine hQ _ (fun h=>?_) (fun h=>?_) <;> clear hQ Q <;> (try simp only [vki,reduceCtorEq] at h))|omega|assumption|with_reducible rfl|(refine kq ?_;kernel_rfl)|skip)))
  (simp only [vrt,Tryz.results86,w0,w1,w2,Int.one_mul,Int.mul_one,vkt,seval,Qg,Ux];refine Fin.val rfl ?_;(try simp only [AV.le,AV.leL]))
  all_goals simp
def J9:List AV→Prop × AV
  |[.v (.int .u64 x),.v (.int .u64 y)]=>(x=1∧0≤y∧y < 1000000,.tup [.v (.int .u64 0),.v (.int .u64 y)])
  |_=>(False,.junk)
theorem e150 {A:Frm→Prop}:qh A Tryz.prog 86 (qo true J9):=qL fun vs hv h=>by
  clear hv
  unfold J9 at h ⊢
  split at h
  · obtain ⟨rfl,h1,h2⟩:=h
    exact ⟨by simp [AV.plain,AV.plainL],fun _=>by simp [AV.flat,AV.flatL],QdY _ h1 h2⟩
  · exact h.elim
def Zj:=kj @Qe3 (kj @ty144 (kj @XK.eq_1 @QbP.eq_1))
def Rx:=kj @aU.eq_1 (kj @aUi.eq_1 (kj @aI.eq_1 (kj @aB.eq_1 (kj @J9.eq_1 (@J9.eq_2)))))
theorem QhY (y:Int) (h0:0≤y) (h1:y < 1000000):FnV Tryz.prog 78 [aUi 1,aUi y] (.tup [aUi 0,aUi y]):=by
  have env:Env (fun _=>True) Tryz.prog tyB (tab [(86,qo true J9)]):=qY ⟨e150,trivial⟩
  refine Fn.of (A:=fun _=>True) (n0:=0) (D:=noD) (Fn0 Tryz.func78 rfl (fun vs w=>by kernel_rfl) (by kernel_rfl)) (by simp) (by simp [AV.ids,aUi]) (fun i o h=>by cases h) (fun _ _ _ _=>trivial) qA ?_
  repeat' (first|(apply nx;with_reducible constructor)|refine jq (by decide) ?_|((first|refine kx env fun Q hQ=>?_|refine kz fun Q hQ=>?_);simp only [vkt,seval,Zj,Rx];(try simp only [ite_and]);(repeat' (first|with_reducible assumption|refine And.intro ?_ ?_|intro hp));all_goals (first|(refine hQ _ ?_;clear hQ Q)|(refine hQ _ (fun h=>?_) (fun h=>?_) <;> clear hQ Q <;> (try simp only [vki,reduceCtorEq] at h))|omega|assumption|with_reducible rfl|(refine kq ?_;kernel_rfl)|skip)))
  (simp only [vrt,Tryz.results78,vkt,seval,Zj,Rx];refine Fin.val rfl ?_;(try simp only [AV.le,AV.leL]))
  all_goals simp
theorem e134 {A:Frm→Prop}:qh A Tryz.prog 78 (qo true J9):=qL fun vs hv h=>by
  clear hv
  unfold J9 at h ⊢
  split at h
  · obtain ⟨rfl,h1,h2⟩:=h
    exact ⟨by simp [AV.plain,AV.plainL],fun _=>by simp [AV.flat,AV.flatL],QhY _ h1 h2⟩
  · exact h.elim
def Qm (r z:List DV) (m n:Nat):List (List DV):=List.replicate m r++List.replicate (n - m) z
theorem UH {r z:List DV} {m n:Nat} (h:m≤n):(Qm r z m n).length=n:=by simp [Qm];omega
theorem QG {r z:List DV} {m n:Nat}:(Qm r z m n).take m=List.replicate m r:=by simp [Qm]
theorem Xw {r z:List DV} {m n c:Nat} (hm:m≤n) (hc:c=min m (n - m)):(Qm r z m n).take m++(List.replicate m r).take c++(Qm r z m n).drop (m+c)=Qm r z (m+c) n:=by
  rw [QG]
  simp only [Qm,List.take_replicate,List.drop_append,List.drop_replicate,List.length_replicate]
  rw [show min c m=c by omega,show m - (m+c)=0 by omega,show m+c - m=c by omega]
  simp only [List.replicate_zero,List.nil_append,List.replicate_append_replicate]
  rw [show n - m - c=n - (m+c) by omega]
theorem Y4 {r z:List DV} {n:Nat} (h:1≤n):(List.replicate n z).take 0++[r].take (min 1 n)++(List.replicate n z).drop (0+min 1 n)=Qm r z 1 n:=by
  rw [show min 1 n=1 by omega];simp [Qm]
theorem QbQ {k m:Nat} {r:List DV} (h:r.length=k):zX k (List.replicate m r)=True:=eq_true fun x hx=>by rw [List.eq_of_mem_replicate hx,h]
theorem QeU {n:Int} (h0:0≤n) (h1:n < 1000000):IntKind.wrap .u64 n=n∧IntKind.wrap .i64 n=n:=⟨Qha h0 (by omega),wrap64 (by omega) (by omega)⟩
def repS (e k:Nat) (r z:List DV) (n m:Nat) (x:AV):St:={ t:=asg [(0,x),(1,aI n),(4,.nil),(7,.row 0),(8,aI m)],h:=qc [(0,.row e k (Qm r z m n))],n:=1 }
def qX:=kj @ty3 (kj @jL (kj @Qe3 (kj @ti3.eq_1 (kj @jG.eq_1 @XK.eq_1))))
def vK:=kj @aU.eq_1 (kj @aUi.eq_1 (kj @aI.eq_1 (kj @aB.eq_1 (kj @J9.eq_1 (kj @J9.eq_2 (@repS.eq_1))))))
set_option maxRecDepth 100000 in
theorem rep87 (r:List DV) (n:Nat) (hr:r.length=1) (h1:1≤n) (h2:n≤2000):Fn noB Tryz.prog 58 [.sl [r],aI n] noH (.row 0) (qc [(0,.row 3 1 (List.replicate n r))]) 0:=by
  have env:Env (fun _=>True) Tryz.prog tyB (tab [(78,qo true J9)]):=qY ⟨e134,trivial⟩
  refine Fn.of (A:=fun _=>True) (n0:=0) (D:=noD) (Fn0 Tryz.func58 rfl (fun vs w=>by kernel_rfl) (by kernel_rfl)) (by simp) (by simp [AV.ids,aI]) (fun i o h=>by cases h) (fun _ _ _ _=>trivial) qA ?_
  obtain ⟨w1,w2⟩:=QeU (n:=(n:Int)) (by omega) (by omega)
  have w3:IntKind.wrap .u64 1=1:=by decide
  have c1:¬ ((n:Int) < 0):=by omega
  have c2:¬ ((9223372036854775807:Int) < n):=by omega
  have b1:((8:Nat):Int) * n≤140737488355328:=by omega
  have b2:(n:Int)≤maxLen:=by
      have:(2000:Nat)≤maxLen:=by decide
      omega
  repeat' (first|(apply nx;with_reducible constructor)|refine jq (by decide) ?_|((first|refine kx env fun Q hQ=>?_|refine kz fun Q hQ=>?_);simp only [vkt,seval,qX,vK,List.length_replicate,Option.getD_none,Nat.min_self,Nat.sub_zero,w1,w2,w3,c1,c2,hr];(try simp only [ite_and]);(repeat' (first|with_reducible assumption|refine And.intro ?_ ?_|intro hp));all_goals (first|(refine hQ _ ?_;clear hQ Q)|(refine hQ _ (fun h=>?_) (fun h=>?_) <;> clear hQ Q <;> (try simp only [vki,reduceCtorEq] at h))|omega|assumption|with_reducible rfl|(refine kq ?_;kernel_rfl)|skip)))
  refine qz (fun m:{ m:Nat // 1≤m∧m≤n }=>repS 3 1 r [.v (.int .i64 0)] n m.1 (.sl [r])) (fun m=>n - m.1) ⟨1,Nat.le_refl _,h1⟩ ?_ fun ⟨m,hm1,hm2⟩=>?_
  · (refine Le.ok some [] ?_;constructor;all_goals (try simp only [vle,vkt,seval,qX,vK,List.length_replicate,Option.getD_none,Nat.min_self,Nat.sub_zero]))
    all_goals (first|(simp;omega)|(have:=Y4 (r:=r) (z:=[.v (.int .i64 0)]) h1;simp at this ⊢;first|exact this|(rw [← this];simp)|omega))
  · have f1:(Qm r [.v (.int .i64 0)] m n).length=n:=UH hm2
    have f2:List.take m (Qm r [.v (.int .i64 0)] m n)=List.replicate m r:=QG
    have f3:zX 1 (List.replicate m r)=True:=QbQ hr
    have f4:=Xw (r:=r) (z:=[.v (.int .i64 0)]) hm2 (c:=min m (n - m)) rfl
    have f5:List.take m (List.drop 0 (Qm r [.v (.int .i64 0)] m n))=List.replicate m r:=QG
    rw [f2] at f4
    repeat' (first|(apply nx;with_reducible constructor)|refine jq (by decide) ?_)
    (refine kx env fun Q hQ=>?_;simp only [vkt,seval,qX,vK,List.length_replicate,Option.getD_none,Nat.min_self,Nat.sub_zero,f1];(try simp only [ite_and]);(repeat' (first|with_reducible assumption|refine And.intro ?_ ?_|intro hp));all_goals (first|(refine hQ _ ?_;clear hQ Q)|omega|assumption|with_reducible rfl|(refine kq ?_;kernel_rfl)|skip))
    repeat' (first|(apply nx;with_reducible constructor)|refine jq (by decide) ?_)
    (refine wh (by simp only [vkt,seval,qX,vK,List.length_replicate,Option.getD_none,Nat.min_self,Nat.sub_zero];rfl) (fun h=>?_) (fun h=>?_) <;> (try simp only [vki,reduceCtorEq] at h))
    · have hlt:m < n:=by omega
      have hmi:(m:Int) < (n:Int):=by omega
      have e9:IntKind.wrap .i64 ((m:Int)+((min m (n - m):Nat):Int))=((m+min m (n - m):Nat):Int):=by rw [wrap64 (by omega) (by omega)];omega
      repeat' (first|(apply nx;with_reducible constructor)|refine jq (by decide) ?_|((first|refine kx env fun Q hQ=>?_|refine kz fun Q hQ=>?_);simp only [vkt,seval,qX,vK,List.length_replicate,Option.getD_none,Nat.min_self,Nat.sub_zero,f1,f2,f3,f5,hmi];(try simp only [ite_and]);(repeat' (first|with_reducible assumption|refine And.intro ?_ ?_|intro hp));all_goals (first|(refine hQ _ ?_;clear hQ Q)|(refine hQ _ (fun h=>?_) (fun h=>?_) <;> clear hQ Q <;> (try simp only [vki,reduceCtorEq] at h))|omega|assumption|with_reducible rfl|(refine kq ?_;kernel_rfl)|skip)))
      refine ⟨⟨m+min m (n - m),by omega,by omega⟩,by show n - (m+min m (n - m)) < n - m;omega, ?_⟩
      (refine Le.ok some [] ?_;constructor;all_goals (try simp only [vle,vkt,seval,qX,vK,List.length_replicate,Option.getD_none,Nat.min_self,Nat.sub_zero]))
      all_goals (first|(simp [e9];done)|(simp only [f2,f4,and_self,and_true,true_and];done)|(rw [← f4];simp))
    · have hmn:m=n:=by omega
      subst hmn
      have f6:Qm r [.v (.int .i64 0)] m m=List.replicate m r:=by simp [Qm]
      repeat' (first|(apply nx;with_reducible constructor)|refine jq (by decide) ?_|((first|refine kx env fun Q hQ=>?_|refine kz fun Q hQ=>?_);simp only [vkt,seval,qX,vK,List.length_replicate,Option.getD_none,Nat.min_self,Nat.sub_zero,f1];(try simp only [ite_and]);(repeat' (first|with_reducible assumption|refine And.intro ?_ ?_|intro hp));all_goals (first|(refine hQ _ ?_;clear hQ Q)|(refine hQ _ (fun h=>?_) (fun h=>?_) <;> clear hQ Q <;> (try simp only [vki,reduceCtorEq] at h))|omega|assumption|with_reducible rfl|(refine kq ?_;kernel_rfl)|skip)))
      (simp only [vrt,Tryz.results58,vkt,seval,qX,vK,List.length_replicate,Option.getD_none,Nat.min_self,Nat.sub_zero];refine Fin.ok some [] ?_ ?_ ?_ ?_ ?_ rfl;all_goals (try simp only [vle,vkt,seval,qX,vK,List.length_replicate,Option.getD_none,Nat.min_self,Nat.sub_zero]))
      all_goals simp [f6]
def qN:=kj @ty3 (kj @ZQ (kj @QfC (kj @Qe3 (kj @ti3.eq_1 (kj @Qx.eq_1 (kj @Ub.eq_1 @XK.eq_1))))))
def vO:=kj @aU.eq_1 (kj @aUi.eq_1 (kj @aI.eq_1 (kj @aB.eq_1 (kj @J9.eq_1 (kj @J9.eq_2 (@repS.eq_1))))))
set_option maxRecDepth 100000 in
theorem QhJ (r:List DV) (n:Nat) (hr:r.length=2) (h1:1≤n) (h2:n≤2000):Fn noB Tryz.prog 68 [.sl [r],aI n] noH (.row 0) (qc [(0,.row 69 2 (List.replicate n r))]) 0:=by
  have env:Env (fun _=>True) Tryz.prog tyB (tab [(78,qo true J9)]):=qY ⟨e134,trivial⟩
  refine Fn.of (A:=fun _=>True) (n0:=0) (D:=noD) (Fn0 Tryz.func68 rfl (fun vs w=>by kernel_rfl) (by kernel_rfl)) (by simp) (by simp [AV.ids,aI]) (fun i o h=>by cases h) (fun _ _ _ _=>trivial) qA ?_
  obtain ⟨w1,w2⟩:=QeU (n:=(n:Int)) (by omega) (by omega)
  have w3:IntKind.wrap .u64 1=1:=by decide
  have c1:¬ ((n:Int) < 0):=by omega
  have c2:¬ ((9223372036854775807:Int) < n):=by omega
  have b1:((16:Nat):Int) * n≤140737488355328:=by omega
  have b2:(n:Int)≤maxLen:=by
      have:(2000:Nat)≤maxLen:=by decide
      omega
  repeat' (first|(apply nx;with_reducible constructor)|refine jq (by decide) ?_|((first|refine kx env fun Q hQ=>?_|refine kz fun Q hQ=>?_);simp only [vkt,seval,qN,vO,List.length_replicate,Option.getD_none,Nat.min_self,Nat.sub_zero,w1,w2,w3,c1,c2,hr];(try simp only [ite_and]);(repeat' (first|with_reducible assumption|refine And.intro ?_ ?_|intro hp));all_goals (first|(refine hQ _ ?_;clear hQ Q)|(refine hQ _ (fun h=>?_) (fun h=>?_) <;> clear hQ Q <;> (try simp only [vki,reduceCtorEq] at h))|omega|assumption|with_reducible rfl|(refine kq ?_;kernel_rfl)|skip)))
  refine qz (fun m:{ m:Nat // 1≤m∧m≤n }=>repS 69 2 r [.v (.int .i64 0),.v (.int .i64 0)] n m.1 (.sl [r])) (fun m=>n - m.1) ⟨1,Nat.le_refl _,h1⟩ ?_ fun ⟨m,hm1,hm2⟩=>?_
  · (refine Le.ok some [] ?_;constructor;all_goals (try simp only [vle,vkt,seval,qN,vO,List.length_replicate,Option.getD_none,Nat.min_self,Nat.sub_zero]))
    all_goals (first|(simp;omega)|(have:=Y4 (r:=r) (z:=[.v (.int .i64 0),.v (.int .i64 0)]) h1;simp at this ⊢;first|exact this|(rw [← this];simp)|omega))
  · have f1:(Qm r [.v (.int .i64 0),.v (.int .i64 0)] m n).length=n:=UH hm2
    have f2:List.take m (Qm r [.v (.int .i64 0),.v (.int .i64 0)] m n)=List.replicate m r:=QG
    have f3:zX 2 (List.replicate m r)=True:=QbQ hr
    have f4:=Xw (r:=r) (z:=[.v (.int .i64 0),.v (.int .i64 0)]) hm2 (c:=min m (n - m)) rfl
    have f5:List.take m (List.drop 0 (Qm r [.v (.int .i64 0),.v (.int .i64 0)] m n))=List.replicate m r:=QG
    rw [f2] at f4
    repeat' (first|(apply nx;with_reducible constructor)|refine jq (by decide) ?_)
    (refine kx env fun Q hQ=>?_;simp only [vkt,seval,qN,vO,List.length_replicate,Option.getD_none,Nat.min_self,Nat.sub_zero,f1];(try simp only [ite_and]);(repeat' (first|with_reducible assumption|refine And.intro ?_ ?_|intro hp));all_goals (first|(refine hQ _ ?_;clear hQ Q)|omega|assumption|with_reducible rfl|(refine kq ?_;kernel_rfl)|skip))
    repeat' (first|(apply nx;with_reducible constructor)|refine jq (by decide) ?_)
    (refine wh (by simp only [vkt,seval,qN,vO,List.length_replicate,Option.getD_none,Nat.min_self,Nat.sub_zero];rfl) (fun h=>?_) (fun h=>?_) <;> (try simp only [vki,reduceCtorEq] at h))
    · have hlt:m < n:=by omega
      have hmi:(m:Int) < (n:Int):=by omega
      have e9:IntKind.wrap .i64 ((m:Int)+((min m (n - m):Nat):Int))=((m+min m (n - m):Nat):Int):=by rw [wrap64 (by omega) (by omega)];omega
      repeat' (first|(apply nx;with_reducible constructor)|refine jq (by decide) ?_|((first|refine kx env fun Q hQ=>?_|refine kz fun Q hQ=>?_);simp only [vkt,seval,qN,vO,List.length_replicate,Option.getD_none,Nat.min_self,Nat.sub_zero,f1,f2,f3,f5,hmi];(try simp only [ite_and]);(repeat' (first|with_reducible assumption|refine And.intro ?_ ?_|intro hp));all_goals (first|(refine hQ _ ?_;clear hQ Q)|(refine hQ _ (fun h=>?_) (fun h=>?_) <;> clear hQ Q <;> (try simp only [vki,reduceCtorEq] at h))|omega|assumption|with_reducible rfl|(refine kq ?_;kernel_rfl)|skip)))
      refine ⟨⟨m+min m (n - m),by omega,by omega⟩,by show n - (m+min m (n - m)) < n - m;omega, ?_⟩
      (refine Le.ok some [] ?_;constructor;all_goals (try simp only [vle,vkt,seval,qN,vO,List.length_replicate,Option.getD_none,Nat.min_self,Nat.sub_zero]))
      all_goals (first|(simp [e9];done)|(simp only [f2,f4,and_self,and_true,true_and];done)|(rw [← f4];simp))
    · have hmn:m=n:=by omega
      subst hmn
      have f6:Qm r [.v (.int .i64 0),.v (.int .i64 0)] m m=List.replicate m r:=by simp [Qm]
      repeat' (first|(apply nx;with_reducible constructor)|refine jq (by decide) ?_|((first|refine kx env fun Q hQ=>?_|refine kz fun Q hQ=>?_);simp only [vkt,seval,qN,vO,List.length_replicate,Option.getD_none,Nat.min_self,Nat.sub_zero,f1];(try simp only [ite_and]);(repeat' (first|with_reducible assumption|refine And.intro ?_ ?_|intro hp));all_goals (first|(refine hQ _ ?_;clear hQ Q)|(refine hQ _ (fun h=>?_) (fun h=>?_) <;> clear hQ Q <;> (try simp only [vki,reduceCtorEq] at h))|omega|assumption|with_reducible rfl|(refine kq ?_;kernel_rfl)|skip)))
      (simp only [vrt,Tryz.results68,vkt,seval,qN,vO,List.length_replicate,Option.getD_none,Nat.min_self,Nat.sub_zero];refine Fin.ok some [] ?_ ?_ ?_ ?_ ?_ rfl;all_goals (try simp only [vle,vkt,seval,qN,vO,List.length_replicate,Option.getD_none,Nat.min_self,Nat.sub_zero]))
      all_goals simp [f6]
def p87 (S:St):List AV→Option Pk
  |[.row i,.v (.int .i64 n)]=>match S.h i with
    |some (.row _ _ [r])=>some { pre:=r.length=1∧1≤n∧n≤2000,bo:=[i],ar:=[.sl [r],.v (.int .i64 n)],v:=.row 0,L1:=[some (.row 3 1 (List.replicate n.toNat r))] }
    |_=>none
  |_=>none
theorem e87 {A:Frm→Prop}:qh A Tryz.prog 58 (fnE p87):=jC fun S bs q h hp=>by
  unfold p87 at h
  split at h
  · split at h
    · rename_i i n _ _ _ r _
      cases h
      have:=rep87 r n.toNat hp.1 (by have:=hp.2;omega) (by have:=hp.2;omega)
      rw [Int.toNat_of_nonneg (by have:=hp.2;omega)] at this
      exact this
    · cases h
  · cases h
def Qfk (S:St):List AV→Option Pk
  |[.row i,.v (.int .i64 n)]=>match S.h i with
    |some (.row _ _ [r])=>some { pre:=r.length=2∧1≤n∧n≤2000,bo:=[i],ar:=[.sl [r],.v (.int .i64 n)],v:=.row 0,L1:=[some (.row 69 2 (List.replicate n.toNat r))] }
    |_=>none
  |_=>none
theorem e137 {A:Frm→Prop}:qh A Tryz.prog 68 (fnE Qfk):=jC fun S bs q h hp=>by
  unfold Qfk at h
  split at h
  · split at h
    · rename_i i n _ _ _ r _
      cases h
      have:=QhJ r n.toNat hp.1 (by have:=hp.2;omega) (by have:=hp.2;omega)
      rw [Int.toNat_of_nonneg (by have:=hp.2;omega)] at this
      exact this
    · cases h
  · cases h
end Go.Sym.B
namespace Go.Sym.B
open Go Go.Sym Go.Proofs Go.Sym.C
def Qi:=kj @xm (kj @ZQ (kj @vG.eq_1 @Qx.eq_1))
def U2:=kj @aI.eq_1 (kj @aB.eq_1 (kj @zL.eq_1 (kj @zh.eq_1 (kj @aSh.eq_1 (kj @shQ.eq_1 (kj @c98.eq_1 (kj @c98.eq_2 (kj @s99.eq_1 (kj @s99.eq_2 (kj @LK.eq_1 (kj @LK.eq_2 (kj @yT (kj @jO (kj @Zt (@Yy)))))))))))))))
theorem QeX (l:Led) (d a b n:Int) (h1:Rt l d a) (h2:Rt l d b) (hn:0≤n) (hn':n≤300000):FnV Tryz.prog 32 [zL l,aI d,aI a,aI b,aI n] (aSh (shQ (rq l d a * n / rq l d b))):=by
  have env:Env (fun _=>True) Tryz.prog tyB (tab [(29,qo true c98),(30,qo true s99),(66,qo true LK)]):=qY ⟨d98,e99,e135,trivial⟩
  refine Fn.of (A:=fun _=>True) (n0:=0) (D:=noD) (Fn0 Tryz.func32 rfl (fun vs w=>by kernel_rfl) (by kernel_rfl)) (by simp) (by simp [AV.ids,AV.idsL,zL,zh,aI]) (fun i o h=>by cases h) (fun _ _ _ _=>trivial) qA ?_
  have g1:=xB h1
  have g2:=Qhq g1 (show -300000≤n by omega) (by omega)
  have g3:=(g1.muli (C:=300000) (n:=n) (by omega) (by omega)).sm (by decide)
  have g4:=(xB h2).sm (by decide)
  have g5:0 < (rq l d b).num:=by have:=h2.n0;omega
  have g6:(rq l d b).num≤1048576:=by have:=h2.n1;omega
  repeat' (first|(apply nx;with_reducible constructor)|refine jq (by decide) ?_|((first|refine kx env fun Q hQ=>?_|refine kz fun Q hQ=>?_);simp only [vkt,seval,Qi,U2];(try simp only [ite_and]);(repeat' (first|with_reducible assumption|refine And.intro ?_ ?_|intro hp));all_goals (first|(refine hQ _ ?_;clear hQ Q)|(refine hQ _ (fun h=>?_) (fun h=>?_) <;> clear hQ Q <;> (try simp only [vki,reduceCtorEq] at h))|omega|assumption|with_reducible rfl|(refine kq ?_;kernel_rfl)|skip)))
  (simp only [vrt,Tryz.results32,vkt,seval,Qi,U2];refine Fin.val rfl ?_;(try simp only [AV.le,AV.leL]))
  all_goals simp
def c89:List AV→Prop × AV
  |[.agg [.sl cs,.sl rs,.sl ss,.sl es],.v (.int .i64 d),.v (.int .i64 a),.v (.int .i64 b),.v (.int .i64 n)]=>(isL cs rs ss es∧Rt (zN cs rs ss es) d a∧Rt (zN cs rs ss es) d b∧0≤n∧n≤300000,aSh (shQ (rq (zN cs rs ss es) d a * n / rq (zN cs rs ss es) d b)))
  |_=>(False,.junk)
theorem d89 {A:Frm→Prop}:qh A Tryz.prog 32 (qo true c89):=qL fun vs hv h=>by
  clear hv
  unfold c89 at h ⊢
  split at h
  · refine ⟨by simp [AV.plain,AV.plainL,aSh],fun _=>by simp [AV.flat,AV.flatL,aSh], ?_⟩
    rw [← jD h.1];exact QeX _ _ _ _ _ h.2.1 h.2.2.1 h.2.2.2.1 h.2.2.2.2
  · exact h.elim
def jc (l:Led) (d a b n:Int):Int:=if zB l ≠ 0 then zB l else if !inB d 0 ((l.rates.length:Int) - 1) then 3 else if !inB a 0 ((l.coins.length:Int) - 1) then 3 else if !inB b 0 ((l.coins.length:Int) - 1) then 3 else if a=b then 4 else if !inB n 0 999 then 1 else 0
def zb:=kj @ty3 (kj @QA (kj @YB (kj @jL (kj @xm (kj @Wt (kj @QJ (kj @ti3.eq_1 (kj @kP.eq_1 (kj @WO.eq_1 (kj @jG.eq_1 (kj @vG.eq_1 (kj @Zo.eq_1 @Qe.eq_1))))))))))))
def yU:=kj @aI.eq_1 (kj @aB.eq_1 (kj @zL.eq_1 (kj @zh.eq_1 (kj @c50.eq_1 (kj @c50.eq_2 (kj @s79.eq_1 (kj @s79.eq_2 (kj @yT (@jO)))))))))
theorem Qab (l:Led) (d a b n:Int) (hl:Fit l):FnV Tryz.prog 31 [zL l,aI d,aI a,aI b,aI n] (aI (jc l d a b n)):=by
  have env:Env (fun _=>True) Tryz.prog tyB (tab [(7,qo true c50),(27,qo true s79)]):=qY ⟨d50,e79,trivial⟩
  refine Fn.of (A:=fun _=>True) (n0:=0) (D:=noD) (Fn0 Tryz.func31 rfl (fun vs w=>by kernel_rfl) (by kernel_rfl)) (by simp) (by simp [AV.ids,AV.idsL,zL,zh,aI]) (fun i o h=>by cases h) (fun _ _ _ _=>trivial) qA ?_
  have q1:=hl.c
  have q2:=hl.r
  have w1:IntKind.wrap .i64 ((l.rates.length:Int) - 1)=(l.rates.length:Int) - 1:=wrap64 (by omega) (by omega)
  have w2:IntKind.wrap .i64 ((l.coins.length:Int) - 1)=(l.coins.length:Int) - 1:=wrap64 (by omega) (by omega)
  by_cases c0:zB l=0
  · cases c1:inB d 0 ((l.rates.length:Int) - 1)
    · repeat' (first|(apply nx;with_reducible constructor)|refine jq (by decide) ?_|((first|refine kx env fun Q hQ=>?_|refine kz fun Q hQ=>?_);simp only [vkt,seval,zb,yU,w1,w2,c0,c1];(try simp only [ite_and]);(repeat' (first|with_reducible assumption|refine And.intro ?_ ?_|intro hp));all_goals (first|(refine hQ _ ?_;clear hQ Q)|(refine hQ _ (fun h=>?_) (fun h=>?_) <;> clear hQ Q <;> (try simp only [vki,reduceCtorEq] at h))|omega|assumption|with_reducible rfl|(refine kq ?_;kernel_rfl)|skip)))
      (simp only [vrt,Tryz.results31,vkt,seval,zb,yU];refine Fin.val rfl ?_;(try simp only [AV.le,AV.leL]))
      all_goals simp [jc, *]
    cases c2:inB a 0 ((l.coins.length:Int) - 1)
    · repeat' (first|(apply nx;with_reducible constructor)|refine jq (by decide) ?_|((first|refine kx env fun Q hQ=>?_|refine kz fun Q hQ=>?_);simp only [vkt,seval,zb,yU,w1,w2,c0,c1,c2];(try simp only [ite_and]);(repeat' (first|with_reducible assumption|refine And.intro ?_ ?_|intro hp));all_goals (first|(refine hQ _ ?_;clear hQ Q)|(refine hQ _ (fun h=>?_) (fun h=>?_) <;> clear hQ Q <;> (try simp only [vki,reduceCtorEq] at h))|omega|assumption|with_reducible rfl|(refine kq ?_;kernel_rfl)|skip)))
      (simp only [vrt,Tryz.results31,vkt,seval,zb,yU];refine Fin.val rfl ?_;(try simp only [AV.le,AV.leL]))
      all_goals simp [jc, *]
    cases c3:inB b 0 ((l.coins.length:Int) - 1)
    · repeat' (first|(apply nx;with_reducible constructor)|refine jq (by decide) ?_|((first|refine kx env fun Q hQ=>?_|refine kz fun Q hQ=>?_);simp only [vkt,seval,zb,yU,w1,w2,c0,c1,c2,c3];(try simp only [ite_and]);(repeat' (first|with_reducible assumption|refine And.intro ?_ ?_|intro hp));all_goals (first|(refine hQ _ ?_;clear hQ Q)|(refine hQ _ (fun h=>?_) (fun h=>?_) <;> clear hQ Q <;> (try simp only [vki,reduceCtorEq] at h))|omega|assumption|with_reducible rfl|(refine kq ?_;kernel_rfl)|skip)))
      (simp only [vrt,Tryz.results31,vkt,seval,zb,yU];refine Fin.val rfl ?_;(try simp only [AV.le,AV.leL]))
      all_goals simp [jc, *]
    repeat' (first|(apply nx;with_reducible constructor)|refine jq (by decide) ?_|((first|refine kx env fun Q hQ=>?_|refine kz fun Q hQ=>?_);simp only [vkt,seval,zb,yU,w1,w2,c0,c1,c2,c3];(try simp only [ite_and]);(repeat' (first|with_reducible assumption|refine And.intro ?_ ?_|intro hp));all_goals (first|(refine hQ _ ?_;clear hQ Q)|(refine hQ _ (fun h=>?_) (fun h=>?_) <;> clear hQ Q <;> (try simp only [vki,reduceCtorEq] at h))|omega|assumption|with_reducible rfl|(refine kq ?_;kernel_rfl)|skip)))
    all_goals (simp only [vrt,Tryz.results31,vkt,seval,zb,yU];refine Fin.val rfl ?_;(try simp only [AV.le,AV.leL]))
    all_goals simp [jc, *]
  · repeat' (first|(apply nx;with_reducible constructor)|refine jq (by decide) ?_|((first|refine kx env fun Q hQ=>?_|refine kz fun Q hQ=>?_);simp only [vkt,seval,zb,yU,w1,w2,c0];(try simp only [ite_and]);(repeat' (first|with_reducible assumption|refine And.intro ?_ ?_|intro hp));all_goals (first|(refine hQ _ ?_;clear hQ Q)|(refine hQ _ (fun h=>?_) (fun h=>?_) <;> clear hQ Q <;> (try simp only [vki,reduceCtorEq] at h))|omega|assumption|with_reducible rfl|(refine kq ?_;kernel_rfl)|skip)))
    (simp only [vrt,Tryz.results31,vkt,seval,zb,yU];refine Fin.val rfl ?_;(try simp only [AV.le,AV.leL]))
    all_goals simp [jc,c0]
def R7:List AV→Prop × AV
  |[.agg [.sl cs,.sl rs,.sl ss,.sl es],.v (.int .i64 d),.v (.int .i64 a),.v (.int .i64 b),.v (.int .i64 n)]=>(isL cs rs ss es∧Fit (zN cs rs ss es),aI (jc (zN cs rs ss es) d a b n))
  |_=>(False,.junk)
theorem d106 {A:Frm→Prop}:qh A Tryz.prog 31 (qo true R7):=qL fun vs hv h=>by
  clear hv
  unfold R7 at h ⊢
  split at h
  · refine ⟨trivial,fun _=>trivial, ?_⟩
    rw [← jD h.1];exact Qab _ _ _ _ _ h.2
  · exact h.elim
theorem YX {l:Led} {d a b n:Int} (h:jc l d a b n=0):Val l∧Rt l d a∧Rt l d b∧0≤n∧n≤999∧a ≠ b:=by
  unfold jc at h
  split at h
  · exact absurd h ‹_›
  rename_i a1
  split at h
  · exact absurd h (by decide)
  rename_i a2
  split at h
  · exact absurd h (by decide)
  rename_i a3
  split at h
  · exact absurd h (by decide)
  rename_i a4
  split at h
  · exact absurd h (by decide)
  rename_i a5
  split at h
  · exact absurd h (by decide)
  rename_i a6
  have nf:∀ {p:Bool},¬ (!p)=true→p=true:=fun h=>by simpa using h
  have hv:=Qt (Decidable.not_not.1 a1)
  have b2:=wC.1 (nf a2)
  have b3:=wC.1 (nf a3)
  have b4:=wC.1 (nf a4)
  have b6:=wC.1 (nf a6)
  exact ⟨hv,ve hv b2.1 b2.2 b3.1 b3.2,ve hv b2.1 b2.2 b4.1 b4.2,b6.1,b6.2,a5⟩
def kg (l:Led) (d a b n:Int):Rat:=rq l d a * n / rq l d b
def Js (l:Led) (d a b n:Int):AV:=if jc l d a b n ≠ 0 then .tup [aI 0,aSh ⟨0,0⟩,aI (jc l d a b n)] else .tup [aI (kg l d a b n).floor,aSh (shQ (kg l d a b n - ((kg l d a b n).floor:Rat))),aI 0]
theorem Qey {q:Rat} (h:Sm q):FlOk q:=by
  obtain ⟨h1,h2,h3⟩:=h
  exact ⟨by omega,by omega,by omega⟩
def yC:=kj @xm (kj @JP (kj @QJ (kj @ZQ (kj @vG.eq_1 (kj @Wu.eq_1 (kj @Qe.eq_1 @Qx.eq_1))))))
def Jo:=kj @aI.eq_1 (kj @aB.eq_1 (kj @zL.eq_1 (kj @zh.eq_1 (kj @aSh.eq_1 (kj @shQ.eq_1 (kj @R7.eq_1 (kj @R7.eq_2 (kj @c89.eq_1 (kj @c89.eq_2 (kj @s90.eq_1 (kj @s90.eq_2 (kj @ZW.eq_1 (kj @ZW.eq_2 (kj @J6.eq_1 (kj @J6.eq_2 (kj @yT (kj @jO (kj @Zt (@Yy)))))))))))))))))))
theorem QfW (l:Led) (d a b n:Int) (hl:Fit l):FnV Tryz.prog 9 [zL l,aI d,aI a,aI b,aI n] (Js l d a b n):=by
  have env:Env (fun _=>True) Tryz.prog tyB (tab [(31,qo true R7),(32,qo true c89),(33,qo true s90),(35,qo true ZW),(34,qo true J6)]):=qY ⟨d106,d89,e90,Qdd,e100,trivial⟩
  refine Fn.of (A:=fun _=>True) (n0:=0) (D:=noD) (Fn0 Tryz.func9 rfl (fun vs w=>by kernel_rfl) (by kernel_rfl)) (by simp) (by simp [AV.ids,AV.idsL,zL,zh,aI]) (fun i o h=>by cases h) (fun _ _ _ _=>trivial) qA ?_
  by_cases c0:jc l d a b n=0
  · obtain ⟨v1,v2,v3,v4,v5,v6⟩:=YX c0
    have v5':n≤300000:=by omega
    have hb:=(xB v2).muli (C:=50000) (n:=n) (by omega) (by omega)
    have hq:=Qfr hb (by decide) (by have:=v3.n0;omega) v3.n1 v3.e1
    have hq2:=Qfc hq
    have hq3:=Qey hq
    rw [show Js l d a b n=_ from if_neg (by rw [c0];simp)]
    repeat' (first|(apply nx;with_reducible constructor)|refine jq (by decide) ?_|((first|refine kx env fun Q hQ=>?_|refine kz fun Q hQ=>?_);simp only [vkt,seval,yC,Jo,c0];(try simp only [ite_and]);(repeat' (first|with_reducible assumption|refine And.intro ?_ ?_|intro hp));all_goals (first|(refine hQ _ ?_;clear hQ Q)|(refine hQ _ (fun h=>?_) (fun h=>?_) <;> clear hQ Q <;> (try simp only [vki,reduceCtorEq] at h))|omega|assumption|with_reducible rfl|(refine kq ?_;kernel_rfl)|skip)))
    (simp only [vrt,Tryz.results9,vkt,seval,yC,Jo];refine Fin.val rfl ?_;(try simp only [AV.le,AV.leL]))
    all_goals simp [kg]
  · rw [show Js l d a b n=_ from if_pos c0]
    repeat' (first|(apply nx;with_reducible constructor)|refine jq (by decide) ?_|((first|refine kx env fun Q hQ=>?_|refine kz fun Q hQ=>?_);simp only [vkt,seval,yC,Jo,c0];(try simp only [ite_and]);(repeat' (first|with_reducible assumption|refine And.intro ?_ ?_|intro hp));all_goals (first|(refine hQ _ ?_;clear hQ Q)|(refine hQ _ (fun h=>?_) (fun h=>?_) <;> clear hQ Q <;> (try simp only [vki,reduceCtorEq] at h))|omega|assumption|with_reducible rfl|(refine kq ?_;kernel_rfl)|skip)))
    (simp only [vrt,Tryz.results9,vkt,seval,yC,Jo];refine Fin.val rfl ?_;(try simp only [AV.le,AV.leL]))
    all_goals simp
def c48:List AV→Prop × AV
  |[.agg [.sl cs,.sl rs,.sl ss,.sl es],.v (.int .i64 d),.v (.int .i64 a),.v (.int .i64 b),.v (.int .i64 n)]=>(isL cs rs ss es∧Fit (zN cs rs ss es),Js (zN cs rs ss es) d a b n)
  |_=>(False,.junk)
theorem Yw (l:Led) (d a b n:Int):(Js l d a b n).plain∧(Js l d a b n).flat:=by
  unfold Js;split <;> simp [AV.plain,AV.plainL,AV.flat,AV.flatL,aI,aSh]
theorem d48 {A:Frm→Prop}:qh A Tryz.prog 9 (qo true c48):=qL fun vs hv h=>by
  clear hv
  unfold c48 at h ⊢
  split at h
  · refine ⟨(Yw _ _ _ _ _).1,fun _=>(Yw _ _ _ _ _).2, ?_⟩
    rw [← jD h.1];exact QfW _ _ _ _ _ h.2
  · exact h.elim
end Go.Sym.B
namespace Go.Sym.B
open Go Go.Sym Go.Proofs Go.Sym.C
theorem LU {a:Nat} {c:TypeId} {xs ys:List (List DV)}:(∃ e k,AObj.row c a xs=AObj.row e k ys)=(xs=ys):=by
  refine propext ⟨fun ⟨e,k,h⟩=>?_,fun h=>⟨c,a,by rw [h]⟩⟩
  cases h;rfl
def VO (l:Led) (i:Nat):Bool:=decide ((l.entries.getD i default).kind=3) && !decide ((kg l (l.entries.getD i default).day (l.entries.getD i default).coin (l.entries.getD i default).to (l.entries.getD i default).amount).floor=(l.entries.getD i default).got)
theorem Qfu (l:Led) (i:Nat):VO l i=(decide ((l.entries.getD i default).kind=3) && !decide ((kg l (l.entries.getD i default).day (l.entries.getD i default).coin (l.entries.getD i default).to (l.entries.getD i default).amount).floor=(l.entries.getD i default).got)):=rfl
def VC (l:Led) (k:Nat):List Int:=((List.range k).filter (VO l)).map fun i:Nat=>(i:Int)
def K4 (l:Led):List Int:=VC l l.entries.length
theorem Qb5 (l:Led) (k:Nat):VC l (k+1)=if VO l k=true then VC l k++[(k:Int)] else VC l k:=by
  unfold VC
  rw [List.range_succ,List.filter_append]
  split
  · rename_i h;simp [h]
  · rename_i h;simp [h]
theorem Ug (l:Led) (k:Nat):(VC l k).length≤k:=by
  unfold VC
  rw [List.length_map]
  exact Nat.le_trans (List.length_filter_le _ _) (by simp)
theorem Qa7 {l:Led} (h:Val l) {k:Nat} (hk:k < l.entries.length):EntryOk l (l.entries.getD k default) (stK l k).1:=by
  have h0:=h.es k hk
  rw [QeB] at h0
  unfold eV at h0
  split at h0
  · exact absurd h0 ‹_›
  · exact Z7 (Decidable.not_not.1 ‹_›)
def KR (l:Led):AV:=if zB l ≠ 0 then .tup [.sl [],aI (zB l)] else .tup [ql (K4 l),aI 0]
def bdS (l:Led) (k:Nat):St:={ t:=asg [(1,.ptr 0 0),(2,.nil),(3,aI 0),(5,.row 1),(14,.sl (l.entries.map yg)),(15,aI l.entries.length),(16,aI k)],h:=qc [(0,.cells (zh l)),(1,.row 3 1 ((VC l k).map qp))],n:=2 }
def zm:=kj @ty3 (kj @jL (kj @V8 (kj @xm (kj @JI (kj @QJ (kj @ti3.eq_1 (kj @jG.eq_1 (kj @J4.eq_1 (kj @vG.eq_1 (kj @Wv.eq_1 @Qe.eq_1))))))))))
def jJ:=kj @aI.eq_1 (kj @aB.eq_1 (kj @zL.eq_1 (kj @zh.eq_1 (kj @aSh.eq_1 (kj @shQ.eq_1 (kj @ql.eq_1 (kj @bdS.eq_1 (kj @c50.eq_1 (kj @c50.eq_2 (kj @c89.eq_1 (kj @c89.eq_2 (kj @s90.eq_1 (kj @s90.eq_2 (kj @yT (kj @jO (kj @Zt (kj @Yy (kj @yg.eq_1 (kj @QaA (kj @qp.eq_1 (@Uk)))))))))))))))))))))
set_option maxHeartbeats 1000000 in
theorem QhK (l:Led) (hl:Fit l):FnV Tryz.prog 17 [zL l] (KR l):=by
  have env:Env (fun _=>True) Tryz.prog tyB (tab [(7,qo true c50),(32,qo true c89),(33,qo true s90)]):=qY ⟨d50,d89,e90,trivial⟩
  refine Fn.of (A:=fun _=>True) (n0:=0) (D:=noD) (Fn0 Tryz.func17 rfl (fun vs w=>by kernel_rfl) (by kernel_rfl)) (by simp) (by simp [AV.ids,AV.idsL,zL,zh]) (fun i o h=>by cases h) (fun _ _ _ _=>trivial) qA ?_
  by_cases c0:zB l=0
  · rw [show KR l=_ from if_neg (by rw [c0];simp)]
    have hV:=Qt c0
    have q4:=hV.e
    have q5:=WM
    repeat' (first|(apply nx;with_reducible constructor)|refine jq (by decide) ?_|((first|refine kx env fun Q hQ=>?_|refine kz fun Q hQ=>?_);simp only [vkt,seval,zm,jJ,c0];(try simp only [ite_and]);(repeat' (first|with_reducible assumption|refine And.intro ?_ ?_|intro hp));all_goals (first|(refine hQ _ ?_;clear hQ Q)|(refine hQ _ (fun h=>?_) (fun h=>?_) <;> clear hQ Q <;> (try simp only [vki,reduceCtorEq] at h))|omega|assumption|with_reducible rfl|(refine kq ?_;kernel_rfl)|skip)))
    refine qz (fun k:{ k:Nat // k≤l.entries.length }=>bdS l k.1) (fun k=>l.entries.length - k.1) ⟨0,Nat.zero_le _⟩ ?_ fun ⟨k,hk⟩=>?_
    · (refine Le.ok (fun j=>if j=0 then some 0 else none) [] ?_;constructor;all_goals (try simp only [vle,vkt,seval,zm,jJ]))
      all_goals first|rfl|trivial|(simp [VC];done)
    · repeat' (first|(apply nx;with_reducible constructor)|refine jq (by decide) ?_)
      (refine kx env fun Q hQ=>?_;simp only [vkt,seval,zm,jJ];(try simp only [ite_and]);(repeat' (first|with_reducible assumption|refine And.intro ?_ ?_|intro hp));all_goals (first|(refine hQ _ ?_;clear hQ Q)|omega|assumption|with_reducible rfl|(refine kq ?_;kernel_rfl)|skip))
      repeat' (first|(apply nx;with_reducible constructor)|refine jq (by decide) ?_)
      (refine wh (by simp only [vkt,seval,zm,jJ];rfl) (fun h=>?_) (fun h=>?_) <;> (try simp only [vki,reduceCtorEq] at h))
      · have hlt:k < l.entries.length:=by omega
        have hentry:=Qa7 hV hlt
        have hS:=Qb5 l k
        have hbl:=Ug l k
        have hle:((VC l k).length+1) * 8≤140737488355328:=by omega
        have hlm:(VC l k).length+1≤maxLen:=by omega
        have hB:=Qfu l k
        generalize hx:l.entries.getD k default=x at *
        have e9:=zt hlt (show l.entries.length≤maxLen by omega)
        by_cases k3:x.kind=3
        · have r1:=ve hV hentry.day.1 hentry.day.2 hentry.coin.1 hentry.coin.2
          have r2:=ve hV hentry.day.1 hentry.day.2 (hentry.to k3).1 (hentry.to k3).2
          have am:=hentry.am
          have am1:0≤x.amount:=am.1
          have am2:x.amount≤50000:=by omega
          have hb:=(xB r1).muli (C:=50000) (n:=x.amount) (by omega) (by omega)
          have hq:=Qey (Qfr hb (by decide) (by have:=r2.n0;omega) r2.n1 r2.e1)
          by_cases k4:(rq l x.day x.coin * x.amount / rq l x.day x.to).floor=x.got
          · have hB':VO l k=false:=by rw [hB,k3];simp [kg,k4]
            repeat' (first|(apply nx;with_reducible constructor)|refine jq (by decide) ?_|((first|refine kx env fun Q hQ=>?_|refine kz fun Q hQ=>?_);simp only [vkt,seval,zm,jJ,hx,k3,k4];(try simp only [ite_and]);(repeat' (first|with_reducible assumption|refine And.intro ?_ ?_|intro hp));all_goals (first|(refine hQ _ ?_;clear hQ Q)|(refine hQ _ (fun h=>?_) (fun h=>?_) <;> clear hQ Q <;> (try simp only [vki,reduceCtorEq] at h))|omega|assumption|with_reducible rfl|(refine kq ?_;kernel_rfl)|skip)))
            refine ⟨⟨k+1,hlt⟩,by show l.entries.length - (k+1) < l.entries.length - k;omega, ?_⟩
            (refine Le.ok some [] ?_;constructor;all_goals (try simp only [vle,vkt,seval,zm,jJ]))
            all_goals first|rfl|trivial|(simp [hS,hB',e9];done)
          · have hB':VO l k=true:=by rw [hB,k3];simp [kg,k4]
            repeat' (first|(apply nx;with_reducible constructor)|refine jq (by decide) ?_|((first|refine kx env fun Q hQ=>?_|refine kz fun Q hQ=>?_);simp only [vkt,seval,zm,jJ,hx,k3,k4];(try simp only [ite_and]);(repeat' (first|with_reducible assumption|refine And.intro ?_ ?_|intro hp));all_goals (first|(refine hQ _ ?_;clear hQ Q)|(refine hQ _ (fun h=>?_) (fun h=>?_) <;> clear hQ Q <;> (try simp only [vki,reduceCtorEq] at h))|omega|assumption|with_reducible rfl|(refine kq ?_;kernel_rfl)|skip)))
            refine ⟨⟨k+1,hlt⟩,by show l.entries.length - (k+1) < l.entries.length - k;omega, ?_⟩
            (refine Le.ok (fun j=>if j=1 then some 4 else some j) [] ?_;constructor;all_goals (try simp only [vle,vkt,seval,zm,jJ]))
            all_goals first|rfl|trivial|(rw [hS,if_pos hB'];simp [qp];done)|(simp [hS,hB',e9];done)
        · have hB':VO l k=false:=by rw [hB];simp [k3]
          repeat' (first|(apply nx;with_reducible constructor)|refine jq (by decide) ?_|((first|refine kx env fun Q hQ=>?_|refine kz fun Q hQ=>?_);simp only [vkt,seval,zm,jJ,hx,k3];(try simp only [ite_and]);(repeat' (first|with_reducible assumption|refine And.intro ?_ ?_|intro hp));all_goals (first|(refine hQ _ ?_;clear hQ Q)|(refine hQ _ (fun h=>?_) (fun h=>?_) <;> clear hQ Q <;> (try simp only [vki,reduceCtorEq] at h))|omega|assumption|with_reducible rfl|(refine kq ?_;kernel_rfl)|skip)))
          refine ⟨⟨k+1,hlt⟩,by show l.entries.length - (k+1) < l.entries.length - k;omega, ?_⟩
          (refine Le.ok some [] ?_;constructor;all_goals (try simp only [vle,vkt,seval,zm,jJ]))
          all_goals first|rfl|trivial|(simp [hS,hB',e9];done)
      · have hkn:k=l.entries.length:=by omega
        subst hkn
        repeat' (first|(apply nx;with_reducible constructor)|refine jq (by decide) ?_|((first|refine kx env fun Q hQ=>?_|refine kz fun Q hQ=>?_);simp only [vkt,seval,zm,jJ];(try simp only [ite_and]);(repeat' (first|with_reducible assumption|refine And.intro ?_ ?_|intro hp));all_goals (first|(refine hQ _ ?_;clear hQ Q)|(refine hQ _ (fun h=>?_) (fun h=>?_) <;> clear hQ Q <;> (try simp only [vki,reduceCtorEq] at h))|omega|assumption|with_reducible rfl|(refine kq ?_;kernel_rfl)|skip)))
        (simp only [vrt,Tryz.results17,LU,vkt,seval,zm,jJ];refine Fin.val rfl ?_;(try simp only [AV.le,AV.leL]))
        all_goals exact ⟨⟨_,_,rfl⟩,trivial,trivial⟩
  · rw [show KR l=_ from if_pos c0]
    repeat' (first|(apply nx;with_reducible constructor)|refine jq (by decide) ?_|((first|refine kx env fun Q hQ=>?_|refine kz fun Q hQ=>?_);simp only [vkt,seval,zm,jJ,c0];(try simp only [ite_and]);(repeat' (first|with_reducible assumption|refine And.intro ?_ ?_|intro hp));all_goals (first|(refine hQ _ ?_;clear hQ Q)|(refine hQ _ (fun h=>?_) (fun h=>?_) <;> clear hQ Q <;> (try simp only [vki,reduceCtorEq] at h))|omega|assumption|with_reducible rfl|(refine kq ?_;kernel_rfl)|skip)))
    (simp only [vrt,Tryz.results17,vkt,seval,zm,jJ];refine Fin.val rfl ?_;(try simp only [AV.le,AV.leL]))
    all_goals simp
def c31:List AV→Prop × AV
  |[.agg [.sl cs,.sl rs,.sl ss,.sl es]]=>(isL cs rs ss es∧Fit (zN cs rs ss es),KR (zN cs rs ss es))
  |_=>(False,.junk)
theorem d31 {A:Frm→Prop}:qh A Tryz.prog 17 (qo false c31):=qL fun vs hv h=>by
  clear hv
  unfold c31 at h ⊢
  split at h
  · refine ⟨by unfold KR;split <;> simp [AV.plain,AV.plainL,aI,ql],fun h=>absurd h (by decide), ?_⟩
    rw [← jD h.1];exact QhK _ h.2
  · exact h.elim
def QC (x:Ent):List AV:=[.v (.int .i64 x.day),.v (.int .i64 x.kind),.v (.int .i64 x.coin),.v (.int .i64 x.to),.v (.int .i64 x.amount),.v (.int .i64 x.got)]
def Zr (x:Ent) (p:List Int):Bool:=decide (p.getD 0 0=x.day) && (decide (p.getD 1 0=x.coin) || decide (p.getD 1 0=x.to))
def qP:=kj @ty3 (kj @jL (kj @JI (kj @ti3.eq_1 (kj @jG.eq_1 @Wv.eq_1))))
def yf:=kj @aI.eq_1 (kj @aB.eq_1 (kj @ql.eq_1 (kj @QC.eq_1 (kj @qp.eq_1 (@Qn)))))
theorem Qh4 (x:Ent) (p:List Int) (hp:2≤p.length):Fn noB Tryz.prog 61 [ql p,.ptr 0 0] (qc [(0,.cells (QC x))]) (aB (Zr x p)) (qc [(0,.cells (QC x))]) 0:=by
  have env:Env (fun _=>True) Tryz.prog tyB (tab []):=qY trivial
  refine Fn.of (A:=fun _=>True) (n0:=1) (D:=noD) (Fn0 Tryz.func61 rfl (fun vs w=>by kernel_rfl) (by kernel_rfl)) (by simp) (by simp [AV.ids,ql]) ?_ (fun _ _ _ _=>trivial) qA ?_
  · intro i o hi
    have h:=qV hi
    simp at h;obtain ⟨rfl,rfl⟩:=h;simp [QC,AObj.ids,AV.ids,AV.idsL]
  by_cases c1:p.getD 0 0=x.day
  · by_cases c2:p.getD 1 0=x.coin
    · repeat' (first|(apply nx;with_reducible constructor)|refine jq (by decide) ?_|((first|refine kx env fun Q hQ=>?_|refine kz fun Q hQ=>?_);simp only [vkt,seval,qP,yf,c1,c2];(try simp only [ite_and]);(repeat' (first|with_reducible assumption|refine And.intro ?_ ?_|intro hp));all_goals (first|(refine hQ _ ?_;clear hQ Q)|(refine hQ _ (fun h=>?_) (fun h=>?_) <;> clear hQ Q <;> (try simp only [vki,reduceCtorEq] at h))|omega|assumption|with_reducible rfl|(refine kq ?_;kernel_rfl)|skip)))
      (simp only [vrt,Tryz.results61,vkt,seval,qP,yf];refine Fin.ok some [] ?_ ?_ ?_ ?_ ?_ rfl;all_goals (try simp only [vle,vkt,seval,qP,yf]))
      all_goals simp [-List.getD_eq_getElem?_getD,Zr,c1,c2]
    · by_cases c3:p.getD 1 0=x.to
      · have c4:¬ x.to=x.coin:=by rw [← c3];exact c2
        repeat' (first|(apply nx;with_reducible constructor)|refine jq (by decide) ?_|((first|refine kx env fun Q hQ=>?_|refine kz fun Q hQ=>?_);simp only [vkt,seval,qP,yf,c1,c2,c3,c4];(try simp only [ite_and]);(repeat' (first|with_reducible assumption|refine And.intro ?_ ?_|intro hp));all_goals (first|(refine hQ _ ?_;clear hQ Q)|(refine hQ _ (fun h=>?_) (fun h=>?_) <;> clear hQ Q <;> (try simp only [vki,reduceCtorEq] at h))|omega|assumption|with_reducible rfl|(refine kq ?_;kernel_rfl)|skip)))
        (simp only [vrt,Tryz.results61,vkt,seval,qP,yf];refine Fin.ok some [] ?_ ?_ ?_ ?_ ?_ rfl;all_goals (try simp only [vle,vkt,seval,qP,yf]))
        all_goals simp [-List.getD_eq_getElem?_getD,Zr,c1,c2,c3,c4]
      · repeat' (first|(apply nx;with_reducible constructor)|refine jq (by decide) ?_|((first|refine kx env fun Q hQ=>?_|refine kz fun Q hQ=>?_);simp only [vkt,seval,qP,yf,c1,c2,c3];(try simp only [ite_and]);(repeat' (first|with_reducible assumption|refine And.intro ?_ ?_|intro hp));all_goals (first|(refine hQ _ ?_;clear hQ Q)|(refine hQ _ (fun h=>?_) (fun h=>?_) <;> clear hQ Q <;> (try simp only [vki,reduceCtorEq] at h))|omega|assumption|with_reducible rfl|(refine kq ?_;kernel_rfl)|skip)))
        (simp only [vrt,Tryz.results61,vkt,seval,qP,yf];refine Fin.ok some [] ?_ ?_ ?_ ?_ ?_ rfl;all_goals (try simp only [vle,vkt,seval,qP,yf]))
        all_goals simp [-List.getD_eq_getElem?_getD,Zr,c1,c2,c3]
  · repeat' (first|(apply nx;with_reducible constructor)|refine jq (by decide) ?_|((first|refine kx env fun Q hQ=>?_|refine kz fun Q hQ=>?_);simp only [vkt,seval,qP,yf,c1];(try simp only [ite_and]);(repeat' (first|with_reducible assumption|refine And.intro ?_ ?_|intro hp));all_goals (first|(refine hQ _ ?_;clear hQ Q)|(refine hQ _ (fun h=>?_) (fun h=>?_) <;> clear hQ Q <;> (try simp only [vki,reduceCtorEq] at h))|omega|assumption|with_reducible rfl|(refine kq ?_;kernel_rfl)|skip)))
    (simp only [vrt,Tryz.results61,vkt,seval,qP,yf];refine Fin.ok some [] ?_ ?_ ?_ ?_ ?_ rfl;all_goals (try simp only [vle,vkt,seval,qP,yf]))
    all_goals simp [-List.getD_eq_getElem?_getD,Zr,c1]
def p93 (S:St):List AV→Option Pk
  |[.sl ps,.ptr t 0]=>match S.h t with
    |some (.cells [.v (.int .i64 a),.v (.int .i64 b),.v (.int .i64 c),.v (.int .i64 d),.v (.int .i64 e),.v (.int .i64 f)])=>some { pre:=ps=(ps.map qJ).map qp∧2≤ps.length,hs:=[t],ar:=[.sl ps,.ptr 0 0],L0:=[.cells (QC ⟨a,b,c,d,e,f⟩)],v:=aB (Zr ⟨a,b,c,d,e,f⟩ (ps.map qJ)),L1:=[some (.cells (QC ⟨a,b,c,d,e,f⟩))],fl:=true }
    |_=>none
  |_=>none
theorem e93 {A:Frm→Prop}:qh A Tryz.prog 61 (fnE p93):=jC fun S bs q h hp=>by
  unfold p93 at h
  split at h
  · split at h
    · rename_i ps t _ a b c d e f _
      cases h
      have:=Qh4 ⟨a,b,c,d,e,f⟩ (ps.map qJ) (by simpa using hp.2)
      rw [ql,← hp.1] at this
      exact this
    · cases h
  · cases h
def Uw (f:List Int→Bool) (l:List (List Int)):Int:=match (List.range l.length).find? fun i=>f (l.getD i []) with
  |some i=>i
  |none=>-1
theorem QdK {f:List Int→Bool} {l:List (List Int)} {k:Nat} (hk:k < l.length) (h:f (l.getD k [])=true) (hb:∀ j,j < k→f (l.getD j [])=false):Uw f l=k:=by
  unfold Uw
  have:(List.range l.length).find? (fun i=>f (l.getD i []))=some k:=by
    rw [List.find?_range_eq_some]
    exact ⟨h,List.mem_range.2 hk,fun j hj=>by simpa using hb j hj⟩
  rw [this]
theorem XJ {f:List Int→Bool} {l:List (List Int)} (hb:∀ j,j < l.length→f (l.getD j [])=false):Uw f l=-1:=by
  unfold Uw
  have:(List.range l.length).find? (fun i=>f (l.getD i []))=none:=by
    rw [List.find?_eq_none];intro j hj;simpa using hb j (List.mem_range.1 hj)
  rw [this]
theorem Qde (f:List Int→Bool) (l:List (List Int)):decide (0≤Uw f l)=l.any f:=by
  by_cases h:∃ j,j < l.length∧f (l.getD j [])=true
  · have h2:l.any f=true:=by
      obtain ⟨j,hj,hf⟩:=h
      exact List.any_eq_true.2 ⟨_,jU hj,hf⟩
    rw [h2]
    unfold Uw
    cases hq:(List.range l.length).find? (fun i=>f (l.getD i [])) with
    |some i=>simp
    |none =>
      obtain ⟨j,hj,hf⟩:=h
      have:=List.find?_eq_none.1 hq j (List.mem_range.2 hj)
      rw [hf] at this;simp at this
  · have h1:∀ j,j < l.length→f (l.getD j [])=false:=fun j hj=>by
      cases hf:f (l.getD j []) with
      |false=>rfl
      |true=>exact absurd ⟨j,hj,hf⟩ h
    rw [XJ h1]
    have:l.any f=false:=by
      rw [List.any_eq_false]
      intro x hx
      obtain ⟨j,hj,rfl⟩:=List.getElem_of_mem hx
      have:=h1 j hj
      simpa [List.getD_eq_getElem?_getD,hj] using this
    rw [this];rfl
def ixS (ps:List (List Int)) (x:Ent) (k:Nat):St:={ t:=asg [(0,zz ps),(1,.clo 61 [.ptr 0 0]),(4,aI 0),(6,zz ps),(7,aI ps.length),(8,aI k)],h:=qc [(0,.cells (QC x))],n:=1,m:=1 }
def qm:=kj @ty3 (kj @QA (kj @jL (kj @ti3.eq_1 (kj @kP.eq_1 @jG.eq_1))))
def j6:=kj @aI.eq_1 (kj @aB.eq_1 (kj @ql.eq_1 (kj @zz.eq_1 (kj @QC.eq_1 (kj @qp.eq_1 (kj @WE (kj @zH.eq_1 (kj @vH (kj @p93.eq_1 (kj @p93.eq_2 (@ixS.eq_1)))))))))))
theorem Qht (x:Ent) (ps:List (List Int)) (hl:ps.length≤100) (hp:∀ p ∈ ps,2≤p.length):Fn noB Tryz.prog 79 [zz ps,.clo 61 [.ptr 0 0]] (qc [(0,.cells (QC x))]) (aI (Uw (Zr x) ps)) (qc [(0,.cells (QC x))]) 0:=by
  have env:Env (fun _=>True) Tryz.prog tyB (tab [(61,fnE p93)]):=qY ⟨e93,trivial⟩
  refine Fn.of (A:=fun _=>True) (n0:=1) (D:=noD) (Fn0 Tryz.func79 rfl (fun vs w=>by kernel_rfl) (by kernel_rfl)) (by simp) (by simp [AV.ids,AV.idsL,zz]) ?_ (fun _ _ _ _=>trivial) qA ?_
  · intro i o hi
    have h:=qV hi
    simp at h;obtain ⟨rfl,rfl⟩:=h;simp [QC,AObj.ids,AV.ids,AV.idsL]
  have hm:ps.length≤maxLen:=by
      have:(100:Nat)≤maxLen:=by decide
      omega
  repeat' (first|(apply nx;with_reducible constructor)|refine jq (by decide) ?_|((first|refine kx env fun Q hQ=>?_|refine kz fun Q hQ=>?_);simp only [vkt,seval,qm,j6];(try simp only [ite_and]);(repeat' (first|with_reducible assumption|refine And.intro ?_ ?_|intro hp));all_goals (first|(refine hQ _ ?_;clear hQ Q)|(refine hQ _ (fun h=>?_) (fun h=>?_) <;> clear hQ Q <;> (try simp only [vki,reduceCtorEq] at h))|omega|assumption|with_reducible rfl|(refine kq ?_;kernel_rfl)|skip)))
  refine qz (fun k:{ k:Nat // k≤ps.length∧∀ j,j < k→Zr x (ps.getD j [])=false }=>ixS ps x k.1) (fun k=>ps.length - k.1) ⟨0,Nat.zero_le _,fun j h=>absurd h (Nat.not_lt_zero _)⟩ ?_ fun ⟨k,hk,hall⟩=>?_
  · (refine Le.ok some [] ?_;constructor;all_goals (try simp only [vle,vkt,seval,qm,j6]))
    all_goals simp
  · repeat' (first|(apply nx;with_reducible constructor)|refine jq (by decide) ?_)
    (refine kx env fun Q hQ=>?_;simp only [vkt,seval,qm,j6];(try simp only [ite_and]);(repeat' (first|with_reducible assumption|refine And.intro ?_ ?_|intro hp));all_goals (first|(refine hQ _ ?_;clear hQ Q)|omega|assumption|with_reducible rfl|(refine kq ?_;kernel_rfl)|skip))
    repeat' (first|(apply nx;with_reducible constructor)|refine jq (by decide) ?_)
    (refine wh (by simp only [vkt,seval,qm,j6];rfl) (fun h=>?_) (fun h=>?_) <;> (try simp only [vki,reduceCtorEq] at h))
    · have hlt:k < ps.length:=by omega
      have h2:=hp _ (jU (d:=[]) hlt)
      have e9:=zt hlt hm
      have ex:(⟨x.day,x.kind,x.coin,x.to,x.amount,x.got⟩:Ent)=x:=rfl
      cases c1:Zr x (ps.getD k [])
      · repeat' (first|(apply nx;with_reducible constructor)|refine jq (by decide) ?_|((first|refine kx env fun Q hQ=>?_|refine kz fun Q hQ=>?_);simp only [vkt,seval,qm,j6,ex,c1];(try simp only [ite_and]);(repeat' (first|with_reducible assumption|refine And.intro ?_ ?_|intro hp));all_goals (first|(refine hQ _ ?_;clear hQ Q)|(refine hQ _ (fun h=>?_) (fun h=>?_) <;> clear hQ Q <;> (try simp only [vki,reduceCtorEq] at h))|omega|assumption|with_reducible rfl|(refine kq ?_;kernel_rfl)|skip)))
        refine ⟨⟨k+1,hlt,fun j hj=>?_⟩,by show ps.length - (k+1) < ps.length - k;omega, ?_⟩
        · rcases Nat.lt_or_eq_of_le (Nat.le_of_lt_succ hj) with h1|h1
          · exact hall j h1
          · rw [h1];exact c1
        · (refine Le.ok some [] ?_;constructor;all_goals (try simp only [vle,vkt,seval,qm,j6]))
          all_goals simp [e9]
      · have hi:=QdK hlt c1 hall
        repeat' (first|(apply nx;with_reducible constructor)|refine jq (by decide) ?_|((first|refine kx env fun Q hQ=>?_|refine kz fun Q hQ=>?_);simp only [vkt,seval,qm,j6,ex,c1];(try simp only [ite_and]);(repeat' (first|with_reducible assumption|refine And.intro ?_ ?_|intro hp));all_goals (first|(refine hQ _ ?_;clear hQ Q)|(refine hQ _ (fun h=>?_) (fun h=>?_) <;> clear hQ Q <;> (try simp only [vki,reduceCtorEq] at h))|omega|assumption|with_reducible rfl|(refine kq ?_;kernel_rfl)|skip)))
        (simp only [vrt,Tryz.results79,vkt,seval,qm,j6];refine Fin.ok some [] ?_ ?_ ?_ ?_ ?_ rfl;all_goals (try simp only [vle,vkt,seval,qm,j6]))
        all_goals simp [hi]
    · have hi:=XJ (f:=Zr x) (l:=ps) fun j hj=>hall j (by omega)
      repeat' (first|(apply nx;with_reducible constructor)|refine jq (by decide) ?_|((first|refine kx env fun Q hQ=>?_|refine kz fun Q hQ=>?_);simp only [vkt,seval,qm,j6];(try simp only [ite_and]);(repeat' (first|with_reducible assumption|refine And.intro ?_ ?_|intro hp));all_goals (first|(refine hQ _ ?_;clear hQ Q)|(refine hQ _ (fun h=>?_) (fun h=>?_) <;> clear hQ Q <;> (try simp only [vki,reduceCtorEq] at h))|omega|assumption|with_reducible rfl|(refine kq ?_;kernel_rfl)|skip)))
      (simp only [vrt,Tryz.results79,vkt,seval,qm,j6];refine Fin.ok some [] ?_ ?_ ?_ ?_ ?_ rfl;all_goals (try simp only [vle,vkt,seval,qm,j6]))
      all_goals simp [hi]
end Go.Sym.B
namespace Go.Sym.B
open Go Go.Sym Go.Proofs Go.Sym.C
def piL (ps:List Int) (A:Nat):List Int:=pcL ps A ps.length
def Wl (l:Led) (c n:Int):AV:=if jM l c n [] ≠ 0 then .tup [.sl [],aI (jM l c n [])] else .tup [ql (piL (l.coins.getD c.toNat []) n.toNat),aI 0]
def tbG (ps:List Int) (A i:Nat):Nat→AV:=fun j=>if j < i then .nil else .sl ((jY (wV (ps.drop j)) A).map qp)
def tbH (ps:List Int) (A i id:Nat):Nat→AV:=fun j=>if j=i then .row id else tbG ps A (i+1) j
theorem Qbg {g:Nat→AV} {n k:Nat} {v:AV} (h:k < n):List.take (k * 1) (tabC g n)++[v]++List.drop (k * 1+1) (tabC g n)=tabC (fun j=>if j=k then v else g j) n:=by
  rw [Nat.mul_one,List.append_assoc,List.singleton_append,Qar h]
theorem WW {g:Nat→AV} {n k:Nat} (h:k < n):List.take 1 (List.drop (k * 1) (tabC g n))=[g k]:=by
  rw [Nat.mul_one,Qb2 h]
theorem yz {ps:List Int} {A i n N:Nat}:∀ id ∈ AV.idsL (tabC (tbG ps A i) n),id < N:=Ry fun j _ id hid=>by
  unfold tbG at hid;split at hid <;> simp [AV.ids] at hid
theorem Jn {ps:List Int} {A i n r N:Nat} (h:r < N):∀ id ∈ AV.idsL (tabC (tbH ps A i r) n),id < N:=Ry fun j _ id hid=>by
  unfold tbH tbG at hid
  split at hid
  · simp [AV.ids] at hid;omega
  · split at hid <;> simp [AV.ids] at hid
theorem Qw {h:Nat→Option AObj} {σ:Nat→Option Nat} {ps:List Int} {A i n:Nat}:AV.leL h σ (tabC (tbG ps A i) n) (tabC (tbG ps A i) n):=YM fun j _=>by
  unfold tbG;split
  · trivial
  · exact rfl
theorem Q4 {h:Nat→Option AObj} {σ:Nat→Option Nat} {ps:List Int} {A i n r r':Nat} (hr:σ r'=some r):AV.leL h σ (tabC (tbH ps A i r) n) (tabC (tbH ps A i r') n):=YM fun j _=>by
  unfold tbH;split
  · exact hr
  · unfold tbG;split
    · trivial
    · exact rfl
theorem Qh7 {h:Nat→Option AObj} {σ:Nat→Option Nat} {ps:List Int} {A n r:Nat} (hr:h r=some (.row 3 1 ((jY (wV []) A).map qp))) (hn:ps.length=n):AV.leL h σ (tabC (fun j=>if j=n then .row r else .nil) (n+1)) (tabC (tbG ps A n) (n+1)):=YM fun j hj=>by
  by_cases hjn:j=n
  · subst hjn;subst hn;simp only [if_true,tbG,Nat.lt_irrefl,if_false,List.drop_length];exact ⟨_,_,by unfold rowAt;rw [hr]⟩
  · rw [if_neg hjn,tbG,if_pos (by omega)];trivial
theorem Qhi {h:Nat→Option AObj} {σ:Nat→Option Nat} {ps:List Int} {A i n r:Nat} (hr:h r=some (.row 3 1 ((jY (wV (ps.drop i)) A).map qp))):AV.leL h σ (tabC (tbH ps A i r) n) (tabC (tbG ps A i) n):=YM fun j hj=>by
  unfold tbH tbG
  by_cases hji:j=i
  · subst hji;simp only [if_true,Nat.lt_irrefl,if_false];exact ⟨_,_,by unfold rowAt;rw [hr]⟩
  · rw [if_neg hji]
    by_cases h1:j < i
    · rw [if_pos (by omega),if_pos h1];trivial
    · rw [if_neg (by omega),if_neg h1];exact rfl
theorem row0 (A:Nat):(List.replicate (A+1) (qp (-1))).set 0 (qp 0)=(jY (wV []) A).map qp:=by
  rw [show List.replicate (A+1) (qp (-1))=(jY (fun _=>-1) A).map qp by
    apply List.ext_getElem?
    intro i
    simp only [jY,List.getElem?_replicate,List.getElem?_map,List.getElem?_range]
    by_cases h:i < A+1 <;> simp [h]]
  rw [← List.map_set,UQ]
  congr 1
def peH (l:Led) (cs:List AV):List (Nat × AObj):=[(0,.cells (zh l)),(1,.cells cs)]
def peS1 (l:Led) (c:Int) (ps:List Int) (A i:Nat):St:={ t:=asg [(1,aI c),(2,aI A),(3,.ptr 0 0),(9,ql ps),(10,.csl 1 (ps.length+1)),(11,aI ((i:Int) - 1))],h:=qc (peH l (tabC (tbG ps A i) (ps.length+1))),n:=2 }
def peS2 (l:Led) (c:Int) (ps:List Int) (A p i n:Nat):St:={ t:=asg [(1,aI c),(2,aI A),(3,.ptr 0 0),(9,ql ps),(10,.csl 1 (ps.length+1)),(11,aI i),(12,aI n)],h:=qc (peH l (tabC (tbH ps A i 2) (ps.length+1))++[(2,.row 3 1 ((jY (Qq p (wV (ps.drop (i+1))) n) A).map qp))]),n:=3 }
def peS3 (l:Led) (c:Int) (ps:List Int) (A i:Nat):St:={ t:=asg [(1,aI c),(2,aI (pcA ps A i)),(3,.ptr 0 0),(9,ql ps),(10,.csl 1 (ps.length+1)),(14,.row 2),(118,ql ps),(119,aI ps.length),(120,aI i)],h:=qc (peH l (tabC (tbG ps A 0) (ps.length+1))++[(2,.row 3 1 ((pcL ps A i).map qp))]),n:=3 }
def peS4 (l:Led) (c:Int) (ps:List Int) (A i m:Nat):St:={ t:=asg [(1,aI c),(2,aI (pcA ps A i)),(3,.ptr 0 0),(9,ql ps),(10,.csl 1 (ps.length+1)),(14,.row 2),(15,aI i),(16,aI (ps.getD i 0)),(17,aI m),(118,ql ps),(119,aI ps.length),(120,aI i)],h:=qc (peH l (tabC (tbG ps A 0) (ps.length+1))++[(2,.row 3 1 ((pcL ps A i).map qp))]),n:=3 }
def qb:=kj @ty3 (kj @QA (kj @jL (kj @xm (kj @QJ (kj @ti3.eq_1 (kj @kP.eq_1 (kj @jG.eq_1 (kj @vG.eq_1 @Qe.eq_1))))))))
def q9:=kj @aI.eq_1 (kj @aB.eq_1 (kj @zL.eq_1 (kj @zh.eq_1 (kj @ql.eq_1 (kj @peH.eq_1 (kj @peS1.eq_1 (kj @peS2.eq_1 (kj @peS3.eq_1 (kj @peS4.eq_1 (kj @c86.eq_1 (kj @c86.eq_2 (kj @p87.eq_1 (kj @p87.eq_2 (kj @p88.eq_1 (kj @p88.eq_2 (kj @p88.eq_3 (kj @yT (kj @jO (kj @qp.eq_1 (kj @Qn (kj @Uk (kj @Qe7 (kj @vH (kj @xC (kj @zH.eq_1 (kj @WE (kj @setI (@QeR))))))))))))))))))))))))))))
end Go.Sym.B
