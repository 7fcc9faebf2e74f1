/- Walks and what they compute, joined: part 1. -/
import Derived.Test.YtfljkbcphmnjkaaGreatDoorZS3
import Derived.Test.YtfljkbcphmnjkaaGreatDoorProg
import Derived.KernelRfl
set_option linter.all false
namespace Go.Sym.B
open Go Go.Sym Go.Proofs
theorem _root_.Go.Sym.kk {a b:Prop} (x:a) (y:b):a∧b:=⟨x,y⟩
def _root_.Go.Sym.jq:=@Vo
def _root_.Go.Sym.jx:=@JV
def _root_.Go.Sym.jz:=@Xr
def _root_.Go.Sym.jk:=@V5
def _root_.Go.Sym.jw:=@Us
def _root_.Go.Sym.jv:=@UW
def _root_.Go.Sym.kq:=@Uy
def _root_.Go.Sym.kx:=@Qan
def _root_.Go.Sym.kz:=@Qcs
def _root_.Go.Sym.kj:=@QfC
def ti2:TI:={ cells:=1,bytes:=8,td:=.int .i64,zero:=[.v (.int .i64 0)],eqk:=none }
theorem tf2:TyFact Tryz.prog 2 ti2:=by
 refine ⟨⟨Tryz.t2,.int .i64 0,by kernel_rfl,rfl,rfl,rfl,rfl,rfl,by simp [Value.cells,Value.oneCell']⟩,⟨_,Tryz.underlying2,rfl⟩,fun fs h=>?_,fun ks h=>?_,fun q h=>?_⟩
 ·cases h
 ·cases h
 ·cases h
def ti3:TI:={ cells:=1,bytes:=8,td:=.int .i64,zero:=[.v (.int .i64 0)],eqk:=none }
theorem tf3:TyFact Tryz.prog 3 ti3:=by
 refine ⟨⟨Tryz.t3,.int .i64 0,by kernel_rfl,rfl,rfl,rfl,rfl,rfl,by simp [Value.cells,Value.oneCell']⟩,⟨_,Tryz.underlying3,rfl⟩,fun fs h=>?_,fun ks h=>?_,fun q h=>?_⟩
 ·cases h
 ·cases h
 ·cases h
def ti4:TI:={ cells:=1,bytes:=1,td:=.bool,zero:=[.v (.bool false)],eqk:=none }
theorem tf4:TyFact Tryz.prog 4 ti4:=by
 refine ⟨⟨Tryz.t4,.bool false,by kernel_rfl,rfl,rfl,rfl,rfl,rfl,by simp [Value.cells,Value.oneCell']⟩,⟨_,Tryz.underlying4,rfl⟩,fun fs h=>?_,fun ks h=>?_,fun q h=>?_⟩
 ·cases h
 ·cases h
 ·cases h
def ti5:TI:={ cells:=1,bytes:=1,td:=.int .u8,zero:=[.v (.int .u8 0)],eqk:=none }
theorem tf5:TyFact Tryz.prog 5 ti5:=by
 refine ⟨⟨Tryz.t5,.int .u8 0,by kernel_rfl,rfl,rfl,rfl,rfl,rfl,by simp [Value.cells,Value.oneCell']⟩,⟨_,Tryz.underlying5,rfl⟩,fun fs h=>?_,fun ks h=>?_,fun q h=>?_⟩
 ·cases h
 ·cases h
 ·cases h
def ti9:TI:={ cells:=1,bytes:=16,td:=.string,zero:=[.v (.string ⟨#[]⟩)],eqk:=none }
theorem tf9:TyFact Tryz.prog 9 ti9:=by
 refine ⟨⟨Tryz.t9,.string ⟨#[]⟩,by kernel_rfl,rfl,rfl,rfl,rfl,rfl,by simp [Value.cells,Value.oneCell']⟩,⟨_,Tryz.underlying9,rfl⟩,fun fs h=>?_,fun ks h=>?_,fun q h=>?_⟩
 ·cases h
 ·cases h
 ·cases h
def JR:TI:={ cells:=1,bytes:=24,td:=.slice 70,zero:=[.nil],eqk:=none }
theorem tf22:TyFact Tryz.prog 22 JR:=by
 refine ⟨⟨Tryz.t22,.slice none 0 0,by kernel_rfl,rfl,rfl,rfl,rfl,rfl,by simp [Value.cells,Value.oneCell']⟩,⟨_,Tryz.underlying22,rfl⟩,fun fs h=>?_,fun ks h=>?_,fun q h=>?_⟩
 ·cases h
 ·cases h
 ·cases h
def Qh:TI:={ cells:=1,bytes:=24,td:=.slice 31,zero:=[.nil],eqk:=none }
theorem tf23:TyFact Tryz.prog 23 Qh:=by
 refine ⟨⟨Tryz.t23,.slice none 0 0,by kernel_rfl,rfl,rfl,rfl,rfl,rfl,by simp [Value.cells,Value.oneCell']⟩,⟨_,Tryz.underlying23,rfl⟩,fun fs h=>?_,fun ks h=>?_,fun q h=>?_⟩
 ·cases h
 ·cases h
 ·cases h
def y9:TI:={ cells:=3,bytes:=56,td:=.struct [(0,1,22),(1,1,3),(2,1,23)],zero:=[.nil,.v (.int .i64 0),.nil],eqk:=none }
theorem tf25:TyFact Tryz.prog 25 y9:=by
 refine ⟨⟨Tryz.t25,.agg #[.slice none 0 0,.int .i64 0,.slice none 0 0],by kernel_rfl,rfl,rfl,rfl,rfl,rfl,by simp [Value.cells,Value.oneCell']⟩,⟨_,Tryz.underlying25,⟨_,rfl,rfl⟩⟩,fun fs h=>?_,fun ks h=>?_,fun q h=>?_⟩
 ·cases h
  simp only [List.mem_cons,List.not_mem_nil,or_false,forall_eq_or_imp,forall_eq]
  exact ⟨⟨Tryz.t22,by kernel_rfl,rfl⟩,⟨Tryz.t3,by kernel_rfl,rfl⟩,⟨Tryz.t23,by kernel_rfl,rfl⟩⟩
 ·cases h
 ·cases h
theorem Qdl (d:Nat) (w:World) (a0 b0:Int) (a1 b1:Int):(Op.equalIn (d+2) 28 (.agg #[.int .i64 a0,.int .i64 a1]) (.agg #[.int .i64 b0,.int .i64 b1])).run Tryz.prog w=.ok (kJ [.int .i64 a0,.int .i64 a1] [.int .i64 b0,.int .i64 b1]) w:=by
 have h1:Tryz.prog.underlying 28=some (.struct (Tryz.prog.fieldsOf 28)):=by kernel_rfl
 have h2 : (Tryz.prog.fieldsOf 28).toList = [{ name := "Cabin", type := 3, offset := 0, embedded := false, tag := "", pkgPath := "", byteOffset := 0 }, { name := "Bed", type := 3, offset := 1, embedded := false, tag := "", pkgPath := "", byteOffset := 8 }] := by kernel_rfl
 rw [run_equalIn_agg w (d+1) 28 _ _ h1 (by kernel_rfl),h2]
 refine Eq.trans (b:=Result.ok (a0 == b0 && (a1 == b1 && true)) w) ?_ (congrArg (fun r=>Result.ok r w) (by simp [kJ,veq,Bool.and_assoc]))
 exact vI (by simp) (zZ (Tryz.isAgg3) rfl) (zZ (Tryz.isAgg3) rfl) (run_equalIn_int w (d+0) 3 _ _ _ _ Tryz.underlying3) (vI (by simp) (zZ (Tryz.isAgg3) rfl) (zZ (Tryz.isAgg3) rfl) (run_equalIn_int w (d+0) 3 _ _ _ _ Tryz.underlying3) (kD))
def Qi:TI:={ cells:=2,bytes:=16,td:=.struct [(0,1,3),(1,1,3)],zero:=[.v (.int .i64 0),.v (.int .i64 0)],eqk:=some [some .i64,some .i64] }
theorem tf28:TyFact Tryz.prog 28 Qi:=by
 refine ⟨⟨Tryz.t28,.agg #[.int .i64 0,.int .i64 0],by kernel_rfl,rfl,rfl,rfl,rfl,rfl,by simp [Value.cells,Value.oneCell']⟩,⟨_,Tryz.underlying28,⟨_,rfl,rfl⟩⟩,fun fs h=>?_,fun ks h=>?_,fun q h=>?_⟩
 ·cases h
  simp only [List.mem_cons,List.not_mem_nil,or_false,forall_eq_or_imp,forall_eq]
  exact ⟨⟨Tryz.t3,by kernel_rfl,rfl⟩,⟨Tryz.t3,by kernel_rfl,rfl⟩⟩
 ·cases h
  refine ⟨by kernel_rfl,fun w xs ys hx hy=>?_⟩
  cases xs with
  |nil=>simp [qM] at hx
  |cons x0 xs1 =>
  cases xs1 with
  |nil=>simp [qM] at hx
  |cons x1 xs2 =>
  cases xs2 with
  |cons _ _=>simp [qM] at hx
  |nil =>
  cases ys with
  |nil=>simp [qM] at hy
  |cons y0 ys1 =>
  cases ys1 with
  |nil=>simp [qM] at hy
  |cons y1 ys2 =>
  cases ys2 with
  |cons _ _=>simp [qM] at hy
  |nil =>
  simp only [qM] at hx hy
  obtain ⟨⟨nx0,rfl⟩,⟨nx1,rfl⟩,_⟩:=hx
  obtain ⟨⟨ny0,rfl⟩,⟨ny1,rfl⟩,_⟩:=hy
  exact Qdl 9998 w nx0 ny0 nx1 ny1
 ·cases h
theorem eqd31 (d:Nat) (w:World) (a0 b0:Int) (a1 b1:Int) (a2 b2:Int) (a3 b3:Int) (a4 b4:Int) (a5 b5:Int) (a6 b6:Bool):(Op.equalIn (d+3) 31 (.agg #[.int .i64 a0,.int .i64 a1,.int .i64 a2,.int .i64 a3,.int .i64 a4,.int .i64 a5,.bool a6]) (.agg #[.int .i64 b0,.int .i64 b1,.int .i64 b2,.int .i64 b3,.int .i64 b4,.int .i64 b5,.bool b6])).run Tryz.prog w=.ok (kJ [.int .i64 a0,.int .i64 a1,.int .i64 a2,.int .i64 a3,.int .i64 a4,.int .i64 a5,.bool a6] [.int .i64 b0,.int .i64 b1,.int .i64 b2,.int .i64 b3,.int .i64 b4,.int .i64 b5,.bool b6]) w:=by
 have h1:Tryz.prog.underlying 31=some (.struct (Tryz.prog.fieldsOf 31)):=by kernel_rfl
 have h2 : (Tryz.prog.fieldsOf 31).toList = [{ name := "Party", type := 3, offset := 0, embedded := false, tag := "", pkgPath := "", byteOffset := 0 }, { name := "Sex", type := 3, offset := 1, embedded := false, tag := "", pkgPath := "", byteOffset := 8 }, { name := "Bunk", type := 28, offset := 2, embedded := true, tag := "", pkgPath := "", byteOffset := 16 }, { name := "From", type := 3, offset := 4, embedded := false, tag := "", pkgPath := "", byteOffset := 32 }, { name := "To", type := 3, offset := 5, embedded := false, tag := "", pkgPath := "", byteOffset := 40 }, { name := "Dog", type := 4, offset := 6, embedded := false, tag := "", pkgPath := "", byteOffset := 48 }] := by kernel_rfl
 rw [run_equalIn_agg w (d+2) 31 _ _ h1 (by kernel_rfl),h2]
 refine Eq.trans (b:=Result.ok (a0 == b0 && (a1 == b1 && (kJ [.int .i64 a2,.int .i64 a3] [.int .i64 b2,.int .i64 b3] && (a4 == b4 && (a5 == b5 && (a6 == b6 && true)))))) w) ?_ (congrArg (fun r=>Result.ok r w) (by simp [kJ,veq,Bool.and_assoc]))
 exact vI (by simp) (zZ (Tryz.isAgg3) rfl) (zZ (Tryz.isAgg3) rfl) (run_equalIn_int w (d+1) 3 _ _ _ _ Tryz.underlying3) (vI (by simp) (zZ (Tryz.isAgg3) rfl) (zZ (Tryz.isAgg3) rfl) (run_equalIn_int w (d+1) 3 _ _ _ _ Tryz.underlying3) (vI (by simp) (Zc (Tryz.isAgg28) (Tryz.sizeOf28) rfl) (Zc (Tryz.isAgg28) (Tryz.sizeOf28) rfl) (Qdl (d+0) w a2 b2 a3 b3) (vI (by simp) (zZ (Tryz.isAgg3) rfl) (zZ (Tryz.isAgg3) rfl) (run_equalIn_int w (d+1) 3 _ _ _ _ Tryz.underlying3) (vI (by simp) (zZ (Tryz.isAgg3) rfl) (zZ (Tryz.isAgg3) rfl) (run_equalIn_int w (d+1) 3 _ _ _ _ Tryz.underlying3) (vI (by simp) (zZ (Tryz.isAgg4) rfl) (zZ (Tryz.isAgg4) rfl) (run_equalIn_bool' w (d+1) 4 _ _ Tryz.underlying4) (kD))))))
def vJ:TI:={ cells:=7,bytes:=56,td:=.struct [(0,1,3),(1,1,3),(2,2,28),(4,1,3),(5,1,3),(6,1,4)],zero:=[.v (.int .i64 0),.v (.int .i64 0),.v (.int .i64 0),.v (.int .i64 0),.v (.int .i64 0),.v (.int .i64 0),.v (.bool false)],eqk:=some [some .i64,some .i64,some .i64,some .i64,some .i64,some .i64,none] }
theorem tf31:TyFact Tryz.prog 31 vJ:=by
 refine ⟨⟨Tryz.t31,.agg #[.int .i64 0,.int .i64 0,.int .i64 0,.int .i64 0,.int .i64 0,.int .i64 0,.bool false],by kernel_rfl,rfl,rfl,rfl,rfl,rfl,by simp [Value.cells,Value.oneCell']⟩,⟨_,Tryz.underlying31,⟨_,rfl,rfl⟩⟩,fun fs h=>?_,fun ks h=>?_,fun q h=>?_⟩
 ·cases h
  simp only [List.mem_cons,List.not_mem_nil,or_false,forall_eq_or_imp,forall_eq]
  exact ⟨⟨Tryz.t3,by kernel_rfl,rfl⟩,⟨Tryz.t3,by kernel_rfl,rfl⟩,⟨Tryz.t28,by kernel_rfl,rfl⟩,⟨Tryz.t3,by kernel_rfl,rfl⟩,⟨Tryz.t3,by kernel_rfl,rfl⟩,⟨Tryz.t4,by kernel_rfl,rfl⟩⟩
 ·cases h
  refine ⟨by kernel_rfl,fun w xs ys hx hy=>?_⟩
  cases xs with
  |nil=>simp [qM] at hx
  |cons x0 xs1 =>
  cases xs1 with
  |nil=>simp [qM] at hx
  |cons x1 xs2 =>
  cases xs2 with
  |nil=>simp [qM] at hx
  |cons x2 xs3 =>
  cases xs3 with
  |nil=>simp [qM] at hx
  |cons x3 xs4 =>
  cases xs4 with
  |nil=>simp [qM] at hx
  |cons x4 xs5 =>
  cases xs5 with
  |nil=>simp [qM] at hx
  |cons x5 xs6 =>
  cases xs6 with
  |nil=>simp [qM] at hx
  |cons x6 xs7 =>
  cases xs7 with
  |cons _ _=>simp [qM] at hx
  |nil =>
  cases ys with
  |nil=>simp [qM] at hy
  |cons y0 ys1 =>
  cases ys1 with
  |nil=>simp [qM] at hy
  |cons y1 ys2 =>
  cases ys2 with
  |nil=>simp [qM] at hy
  |cons y2 ys3 =>
  cases ys3 with
  |nil=>simp [qM] at hy
  |cons y3 ys4 =>
  cases ys4 with
  |nil=>simp [qM] at hy
  |cons y4 ys5 =>
  cases ys5 with
  |nil=>simp [qM] at hy
  |cons y5 ys6 =>
  cases ys6 with
  |nil=>simp [qM] at hy
  |cons y6 ys7 =>
  cases ys7 with
  |cons _ _=>simp [qM] at hy
  |nil =>
  simp only [qM] at hx hy
  obtain ⟨⟨nx0,rfl⟩,⟨nx1,rfl⟩,⟨nx2,rfl⟩,⟨nx3,rfl⟩,⟨nx4,rfl⟩,⟨nx5,rfl⟩,⟨nx6,rfl⟩,_⟩:=hx
  obtain ⟨⟨ny0,rfl⟩,⟨ny1,rfl⟩,⟨ny2,rfl⟩,⟨ny3,rfl⟩,⟨ny4,rfl⟩,⟨ny5,rfl⟩,⟨ny6,rfl⟩,_⟩:=hy
  exact eqd31 9997 w nx0 ny0 nx1 ny1 nx2 ny2 nx3 ny3 nx4 ny4 nx5 ny5 nx6 ny6
 ·cases h
def ti32:TI:={ cells:=1,bytes:=8,td:=.func,zero:=[.v (.nilFunc)],eqk:=none }
theorem tf32:TyFact Tryz.prog 32 ti32:=by
 refine ⟨⟨Tryz.t32,.nilFunc,by kernel_rfl,rfl,rfl,rfl,rfl,rfl,by simp [Value.cells,Value.oneCell']⟩,⟨_,Tryz.underlying32,⟨_,_,_,rfl⟩⟩,fun fs h=>?_,fun ks h=>?_,fun q h=>?_⟩
 ·cases h
 ·cases h
 ·cases h
def QP:TI:={ cells:=1,bytes:=8,td:=.int .i64,zero:=[.v (.int .i64 0)],eqk:=none }
theorem tf33:TyFact Tryz.prog 33 QP:=by
 refine ⟨⟨Tryz.t33,.int .i64 0,by kernel_rfl,rfl,rfl,rfl,rfl,rfl,by simp [Value.cells,Value.oneCell']⟩,⟨_,Tryz.underlying33,rfl⟩,fun fs h=>?_,fun ks h=>?_,fun q h=>?_⟩
 ·cases h
 ·cases h
 ·cases h
def Zr:TI:={ cells:=1,bytes:=24,td:=.slice 3,zero:=[.nil],eqk:=none }
theorem tf35:TyFact Tryz.prog 35 Zr:=by
 refine ⟨⟨Tryz.t35,.slice none 0 0,by kernel_rfl,rfl,rfl,rfl,rfl,rfl,by simp [Value.cells,Value.oneCell']⟩,⟨_,Tryz.underlying35,rfl⟩,fun fs h=>?_,fun ks h=>?_,fun q h=>?_⟩
 ·cases h
 ·cases h
 ·cases h
def JN:TI:={ cells:=1,bytes:=24,td:=.slice 28,zero:=[.nil],eqk:=none }
theorem tf43:TyFact Tryz.prog 43 JN:=by
 refine ⟨⟨Tryz.t43,.slice none 0 0,by kernel_rfl,rfl,rfl,rfl,rfl,rfl,by simp [Value.cells,Value.oneCell']⟩,⟨_,Tryz.underlying43,rfl⟩,fun fs h=>?_,fun ks h=>?_,fun q h=>?_⟩
 ·cases h
 ·cases h
 ·cases h
def Ql:TI:={ cells:=5,bytes:=56,td:=.struct [(0,1,3),(1,1,3),(2,1,3),(3,1,35),(4,1,4)],zero:=[.v (.int .i64 0),.v (.int .i64 0),.v (.int .i64 0),.nil,.v (.bool false)],eqk:=none }
theorem tf47:TyFact Tryz.prog 47 Ql:=by
 refine ⟨⟨Tryz.t47,.agg #[.int .i64 0,.int .i64 0,.int .i64 0,.slice none 0 0,.bool false],by kernel_rfl,rfl,rfl,rfl,rfl,rfl,by simp [Value.cells,Value.oneCell']⟩,⟨_,Tryz.underlying47,⟨_,rfl,rfl⟩⟩,fun fs h=>?_,fun ks h=>?_,fun q h=>?_⟩
 ·cases h
  simp only [List.mem_cons,List.not_mem_nil,or_false,forall_eq_or_imp,forall_eq]
  exact ⟨⟨Tryz.t3,by kernel_rfl,rfl⟩,⟨Tryz.t3,by kernel_rfl,rfl⟩,⟨Tryz.t3,by kernel_rfl,rfl⟩,⟨Tryz.t35,by kernel_rfl,rfl⟩,⟨Tryz.t4,by kernel_rfl,rfl⟩⟩
 ·cases h
 ·cases h
def QaG:TI:={ cells:=1,bytes:=24,td:=.slice 43,zero:=[.nil],eqk:=none }
theorem tf49:TyFact Tryz.prog 49 QaG:=by
 refine ⟨⟨Tryz.t49,.slice none 0 0,by kernel_rfl,rfl,rfl,rfl,rfl,rfl,by simp [Value.cells,Value.oneCell']⟩,⟨_,Tryz.underlying49,rfl⟩,fun fs h=>?_,fun ks h=>?_,fun q h=>?_⟩
 ·cases h
 ·cases h
 ·cases h
def UT:TI:={ cells:=1,bytes:=24,td:=.slice 47,zero:=[.nil],eqk:=none }
theorem tf59:TyFact Tryz.prog 59 UT:=by
 refine ⟨⟨Tryz.t59,.slice none 0 0,by kernel_rfl,rfl,rfl,rfl,rfl,rfl,by simp [Value.cells,Value.oneCell']⟩,⟨_,Tryz.underlying59,rfl⟩,fun fs h=>?_,fun ks h=>?_,fun q h=>?_⟩
 ·cases h
 ·cases h
 ·cases h
def UX:TI:={ cells:=1,bytes:=24,td:=.slice 74,zero:=[.nil],eqk:=none }
theorem tf60:TyFact Tryz.prog 60 UX:=by
 refine ⟨⟨Tryz.t60,.slice none 0 0,by kernel_rfl,rfl,rfl,rfl,rfl,rfl,by simp [Value.cells,Value.oneCell']⟩,⟨_,Tryz.underlying60,rfl⟩,fun fs h=>?_,fun ks h=>?_,fun q h=>?_⟩
 ·cases h
 ·cases h
 ·cases h
theorem eqd70 (d:Nat) (w:World) (a0 b0:Int) (a1 b1:Bool):(Op.equalIn (d+2) 70 (.agg #[.int .i64 a0,.bool a1]) (.agg #[.int .i64 b0,.bool b1])).run Tryz.prog w=.ok (kJ [.int .i64 a0,.bool a1] [.int .i64 b0,.bool b1]) w:=by
 have h1:Tryz.prog.underlying 70=some (.struct (Tryz.prog.fieldsOf 70)):=by kernel_rfl
 have h2 : (Tryz.prog.fieldsOf 70).toList = [{ name := "Beds", type := 3, offset := 0, embedded := false, tag := "", pkgPath := "", byteOffset := 0 }, { name := "Door", type := 4, offset := 1, embedded := false, tag := "", pkgPath := "", byteOffset := 8 }] := by kernel_rfl
 rw [run_equalIn_agg w (d+1) 70 _ _ h1 (by kernel_rfl),h2]
 refine Eq.trans (b:=Result.ok (a0 == b0 && (a1 == b1 && true)) w) ?_ (congrArg (fun r=>Result.ok r w) (by simp [kJ,veq,Bool.and_assoc]))
 exact vI (by simp) (zZ (Tryz.isAgg3) rfl) (zZ (Tryz.isAgg3) rfl) (run_equalIn_int w (d+0) 3 _ _ _ _ Tryz.underlying3) (vI (by simp) (zZ (Tryz.isAgg4) rfl) (zZ (Tryz.isAgg4) rfl) (run_equalIn_bool' w (d+0) 4 _ _ Tryz.underlying4) (kD))
def J4:TI:={ cells:=2,bytes:=16,td:=.struct [(0,1,3),(1,1,4)],zero:=[.v (.int .i64 0),.v (.bool false)],eqk:=some [some .i64,none] }
theorem tf70:TyFact Tryz.prog 70 J4:=by
 refine ⟨⟨Tryz.t70,.agg #[.int .i64 0,.bool false],by kernel_rfl,rfl,rfl,rfl,rfl,rfl,by simp [Value.cells,Value.oneCell']⟩,⟨_,Tryz.underlying70,⟨_,rfl,rfl⟩⟩,fun fs h=>?_,fun ks h=>?_,fun q h=>?_⟩
 ·cases h
  simp only [List.mem_cons,List.not_mem_nil,or_false,forall_eq_or_imp,forall_eq]
  exact ⟨⟨Tryz.t3,by kernel_rfl,rfl⟩,⟨Tryz.t4,by kernel_rfl,rfl⟩⟩
 ·cases h
  refine ⟨by kernel_rfl,fun w xs ys hx hy=>?_⟩
  cases xs with
  |nil=>simp [qM] at hx
  |cons x0 xs1 =>
  cases xs1 with
  |nil=>simp [qM] at hx
  |cons x1 xs2 =>
  cases xs2 with
  |cons _ _=>simp [qM] at hx
  |nil =>
  cases ys with
  |nil=>simp [qM] at hy
  |cons y0 ys1 =>
  cases ys1 with
  |nil=>simp [qM] at hy
  |cons y1 ys2 =>
  cases ys2 with
  |cons _ _=>simp [qM] at hy
  |nil =>
  simp only [qM] at hx hy
  obtain ⟨⟨nx0,rfl⟩,⟨nx1,rfl⟩,_⟩:=hx
  obtain ⟨⟨ny0,rfl⟩,⟨ny1,rfl⟩,_⟩:=hy
  exact eqd70 9998 w nx0 ny0 nx1 ny1
 ·cases h
theorem eqd74 (d:Nat) (w:World) (a0 b0:Int) (a1 b1:Int) (a2 b2:Int):(Op.equalIn (d+3) 74 (.agg #[.int .i64 a0,.int .i64 a1,.int .i64 a2]) (.agg #[.int .i64 b0,.int .i64 b1,.int .i64 b2])).run Tryz.prog w=.ok (kJ [.int .i64 a0,.int .i64 a1,.int .i64 a2] [.int .i64 b0,.int .i64 b1,.int .i64 b2]) w:=by
 have h1:Tryz.prog.underlying 74=some (.struct (Tryz.prog.fieldsOf 74)):=by kernel_rfl
 have h2 : (Tryz.prog.fieldsOf 74).toList = [{ name := "Ticket", type := 3, offset := 0, embedded := false, tag := "", pkgPath := "", byteOffset := 0 }, { name := "Bunk", type := 28, offset := 1, embedded := true, tag := "", pkgPath := "", byteOffset := 8 }] := by kernel_rfl
 rw [run_equalIn_agg w (d+2) 74 _ _ h1 (by kernel_rfl),h2]
 refine Eq.trans (b:=Result.ok (a0 == b0 && (kJ [.int .i64 a1,.int .i64 a2] [.int .i64 b1,.int .i64 b2] && true)) w) ?_ (congrArg (fun r=>Result.ok r w) (by simp [kJ,veq,Bool.and_assoc]))
 exact vI (by simp) (zZ (Tryz.isAgg3) rfl) (zZ (Tryz.isAgg3) rfl) (run_equalIn_int w (d+1) 3 _ _ _ _ Tryz.underlying3) (vI (by simp) (Zc (Tryz.isAgg28) (Tryz.sizeOf28) rfl) (Zc (Tryz.isAgg28) (Tryz.sizeOf28) rfl) (Qdl (d+0) w a1 b1 a2 b2) (kD))
def UL:TI:={ cells:=3,bytes:=24,td:=.struct [(0,1,3),(1,2,28)],zero:=[.v (.int .i64 0),.v (.int .i64 0),.v (.int .i64 0)],eqk:=some [some .i64,some .i64,some .i64] }
theorem tf74:TyFact Tryz.prog 74 UL:=by
 refine ⟨⟨Tryz.t74,.agg #[.int .i64 0,.int .i64 0,.int .i64 0],by kernel_rfl,rfl,rfl,rfl,rfl,rfl,by simp [Value.cells,Value.oneCell']⟩,⟨_,Tryz.underlying74,⟨_,rfl,rfl⟩⟩,fun fs h=>?_,fun ks h=>?_,fun q h=>?_⟩
 ·cases h
  simp only [List.mem_cons,List.not_mem_nil,or_false,forall_eq_or_imp,forall_eq]
  exact ⟨⟨Tryz.t3,by kernel_rfl,rfl⟩,⟨Tryz.t28,by kernel_rfl,rfl⟩⟩
 ·cases h
  refine ⟨by kernel_rfl,fun w xs ys hx hy=>?_⟩
  cases xs with
  |nil=>simp [qM] at hx
  |cons x0 xs1 =>
  cases xs1 with
  |nil=>simp [qM] at hx
  |cons x1 xs2 =>
  cases xs2 with
  |nil=>simp [qM] at hx
  |cons x2 xs3 =>
  cases xs3 with
  |cons _ _=>simp [qM] at hx
  |nil =>
  cases ys with
  |nil=>simp [qM] at hy
  |cons y0 ys1 =>
  cases ys1 with
  |nil=>simp [qM] at hy
  |cons y1 ys2 =>
  cases ys2 with
  |nil=>simp [qM] at hy
  |cons y2 ys3 =>
  cases ys3 with
  |cons _ _=>simp [qM] at hy
  |nil =>
  simp only [qM] at hx hy
  obtain ⟨⟨nx0,rfl⟩,⟨nx1,rfl⟩,⟨nx2,rfl⟩,_⟩:=hx
  obtain ⟨⟨ny0,rfl⟩,⟨ny1,rfl⟩,⟨ny2,rfl⟩,_⟩:=hy
  exact eqd74 9997 w nx0 ny0 nx1 ny1 nx2 ny2
 ·cases h
def ti76:TI:={ cells:=1,bytes:=8,td:=.int .u64,zero:=[.v (.int .u64 0)],eqk:=none }
theorem tf76:TyFact Tryz.prog 76 ti76:=by
 refine ⟨⟨Tryz.t76,.int .u64 0,by kernel_rfl,rfl,rfl,rfl,rfl,rfl,by simp [Value.cells,Value.oneCell']⟩,⟨_,Tryz.underlying76,rfl⟩,fun fs h=>?_,fun ks h=>?_,fun q h=>?_⟩
 ·cases h
 ·cases h
 ·cases h
def Yg:TI:={ cells:=1,bytes:=8,td:=.int .u64,zero:=[.v (.int .u64 0)],eqk:=none }
theorem tf77:TyFact Tryz.prog 77 Yg:=by
 refine ⟨⟨Tryz.t77,.int .u64 0,by kernel_rfl,rfl,rfl,rfl,rfl,rfl,by simp [Value.cells,Value.oneCell']⟩,⟨_,Tryz.underlying77,rfl⟩,fun fs h=>?_,fun ks h=>?_,fun q h=>?_⟩
 ·cases h
 ·cases h
 ·cases h
def QaZ:TI:={ cells:=3,bytes:=24,td:=.array 3 77,zero:=[.v (.int .u64 0),.v (.int .u64 0),.v (.int .u64 0)],eqk:=none }
theorem tf79:TyFact Tryz.prog 79 QaZ:=by
 refine ⟨⟨Tryz.t79,.agg #[.int .u64 0,.int .u64 0,.int .u64 0],by kernel_rfl,rfl,rfl,rfl,rfl,rfl,by simp [Value.cells,Value.oneCell']⟩,⟨_,Tryz.underlying79,rfl⟩,fun fs h=>?_,fun ks h=>?_,fun q h=>?_⟩
 ·cases h
 ·cases h
 ·cases h
def ti81:TI:={ cells:=1,bytes:=8,td:=.func,zero:=[.v (.nilFunc)],eqk:=none }
theorem tf81:TyFact Tryz.prog 81 ti81:=by
 refine ⟨⟨Tryz.t81,.nilFunc,by kernel_rfl,rfl,rfl,rfl,rfl,rfl,by simp [Value.cells,Value.oneCell']⟩,⟨_,Tryz.underlying81,⟨_,_,_,rfl⟩⟩,fun fs h=>?_,fun ks h=>?_,fun q h=>?_⟩
 ·cases h
 ·cases h
 ·cases h
def Zt:TI:={ cells:=1,bytes:=8,td:=.ptr,zero:=[.v (.pointer none)],eqk:=none }
theorem tf86:TyFact Tryz.prog 86 Zt:=by
 refine ⟨⟨Tryz.t86,.pointer none,by kernel_rfl,rfl,rfl,rfl,rfl,rfl,by simp [Value.cells,Value.oneCell']⟩,⟨_,Tryz.underlying86,⟨_,rfl⟩⟩,fun fs h=>?_,fun ks h=>?_,fun q h=>?_⟩
 ·cases h
 ·cases h
 ·cases h
def ti91:TI:={ cells:=1,bytes:=8,td:=.func,zero:=[.v (.nilFunc)],eqk:=none }
theorem tf91:TyFact Tryz.prog 91 ti91:=by
 refine ⟨⟨Tryz.t91,.nilFunc,by kernel_rfl,rfl,rfl,rfl,rfl,rfl,by simp [Value.cells,Value.oneCell']⟩,⟨_,Tryz.underlying91,⟨_,_,_,rfl⟩⟩,fun fs h=>?_,fun ks h=>?_,fun q h=>?_⟩
 ·cases h
 ·cases h
 ·cases h
def ti93:TI:={ cells:=1,bytes:=8,td:=.func,zero:=[.v (.nilFunc)],eqk:=none }
theorem tf93:TyFact Tryz.prog 93 ti93:=by
 refine ⟨⟨Tryz.t93,.nilFunc,by kernel_rfl,rfl,rfl,rfl,rfl,rfl,by simp [Value.cells,Value.oneCell']⟩,⟨_,Tryz.underlying93,⟨_,_,_,rfl⟩⟩,fun fs h=>?_,fun ks h=>?_,fun q h=>?_⟩
 ·cases h
 ·cases h
 ·cases h
def JU:TI:={ cells:=3,bytes:=56,td:=.struct [(0,3,25)],zero:=[.nil,.v (.int .i64 0),.nil],eqk:=none }
theorem tf97:TyFact Tryz.prog 97 JU:=by
 refine ⟨⟨Tryz.t97,.agg #[.slice none 0 0,.int .i64 0,.slice none 0 0],by kernel_rfl,rfl,rfl,rfl,rfl,rfl,by simp [Value.cells,Value.oneCell']⟩,⟨_,Tryz.underlying97,⟨_,rfl,rfl⟩⟩,fun fs h=>?_,fun ks h=>?_,fun q h=>?_⟩
 ·cases h
  simp only [List.mem_cons,List.not_mem_nil,or_false,forall_eq_or_imp,forall_eq]
  exact ⟨Tryz.t25,by kernel_rfl,rfl⟩
 ·cases h
 ·cases h
def Qhe:TI:={ cells:=2,bytes:=32,td:=.struct [(0,1,43),(1,1,81)],zero:=[.nil,.v (.nilFunc)],eqk:=none }
theorem tf99:TyFact Tryz.prog 99 Qhe:=by
 refine ⟨⟨Tryz.t99,.agg #[.slice none 0 0,.nilFunc],by kernel_rfl,rfl,rfl,rfl,rfl,rfl,by simp [Value.cells,Value.oneCell']⟩,⟨_,Tryz.underlying99,⟨_,rfl,rfl⟩⟩,fun fs h=>?_,fun ks h=>?_,fun q h=>?_⟩
 ·cases h
  simp only [List.mem_cons,List.not_mem_nil,or_false,forall_eq_or_imp,forall_eq]
  exact ⟨⟨Tryz.t43,by kernel_rfl,rfl⟩,⟨Tryz.t81,by kernel_rfl,rfl⟩⟩
 ·cases h
 ·cases h
theorem Qjr (d:Nat) (w:World) (a0 b0:Int) (a1 b1:Int) (a2 b2:Int):(Op.equalIn (d+3) 104 (.agg #[.int .i64 a0,.int .i64 a1,.int .i64 a2]) (.agg #[.int .i64 b0,.int .i64 b1,.int .i64 b2])).run Tryz.prog w=.ok (kJ [.int .i64 a0,.int .i64 a1,.int .i64 a2] [.int .i64 b0,.int .i64 b1,.int .i64 b2]) w:=by
 have h1:Tryz.prog.underlying 104=some (.struct (Tryz.prog.fieldsOf 104)):=by kernel_rfl
 have h2 : (Tryz.prog.fieldsOf 104).toList = [{ name := "at", type := 3, offset := 0, embedded := false, tag := "", pkgPath := "couchette/berth", byteOffset := 0 }, { name := "bunk", type := 28, offset := 1, embedded := false, tag := "", pkgPath := "couchette/berth", byteOffset := 8 }] := by kernel_rfl
 rw [run_equalIn_agg w (d+2) 104 _ _ h1 (by kernel_rfl),h2]
 refine Eq.trans (b:=Result.ok (a0 == b0 && (kJ [.int .i64 a1,.int .i64 a2] [.int .i64 b1,.int .i64 b2] && true)) w) ?_ (congrArg (fun r=>Result.ok r w) (by simp [kJ,veq,Bool.and_assoc]))
 exact vI (by simp) (zZ (Tryz.isAgg3) rfl) (zZ (Tryz.isAgg3) rfl) (run_equalIn_int w (d+1) 3 _ _ _ _ Tryz.underlying3) (vI (by simp) (Zc (Tryz.isAgg28) (Tryz.sizeOf28) rfl) (Zc (Tryz.isAgg28) (Tryz.sizeOf28) rfl) (Qdl (d+0) w a1 b1 a2 b2) (kD))
theorem Qjs (w:World) (em:Bool) (a0:Int) (a1:Int) (a2:Int):(Instr.checkKey em 10000 104 (.agg #[.int .i64 a0,.int .i64 a1,.int .i64 a2])).run Tryz.prog w=.ok () w:=by kernel_rfl
def QaB:TI:={ cells:=1,bytes:=8,td:=.map 104 3,zero:=[.v (.map none)],eqk:=none,key:=some { kd:=.agg [some .i64,some .i64,some .i64],z:=.v (.int .i64 0),agg:=false } }
theorem tf102:TyFact Tryz.prog 102 QaB:=by
 refine ⟨⟨Tryz.t102,.map none,by kernel_rfl,rfl,rfl,rfl,rfl,rfl,by simp [Value.cells,Value.oneCell']⟩,⟨_,Tryz.underlying102,rfl⟩,fun fs h=>?_,fun ks h=>?_,fun q h=>?_⟩
 ·cases h
 ·cases h
 ·cases h
  refine ⟨104,3,rfl,QaF Tryz.underlying104 (fun w xs ys hx hy=>?_) (fun w em xs hx=>?_),fun w=>⟨.int .i64 0,by simp [zeroValue,typeInfo,show Tryz.prog.info? 3=some Tryz.t3 by kernel_rfl,Tryz.t3],fun w' ok ρ y=>?_⟩⟩
  ·skip
   cases xs with
   |nil=>simp [qM] at hx
   |cons x0 xs1 =>
   cases xs1 with
   |nil=>simp [qM] at hx
   |cons x1 xs2 =>
   cases xs2 with
   |nil=>simp [qM] at hx
   |cons x2 xs3 =>
   cases xs3 with
   |cons _ _=>simp [qM] at hx
   |nil =>
   cases ys with
   |nil=>simp [qM] at hy
   |cons y0 ys1 =>
   cases ys1 with
   |nil=>simp [qM] at hy
   |cons y1 ys2 =>
   cases ys2 with
   |nil=>simp [qM] at hy
   |cons y2 ys3 =>
   cases ys3 with
   |cons _ _=>simp [qM] at hy
   |nil =>
   simp only [qM] at hx
   obtain ⟨⟨nx0,rfl⟩,⟨nx1,rfl⟩,⟨nx2,rfl⟩,_⟩:=hx
   simp only [qM] at hy
   obtain ⟨⟨ny0,rfl⟩,⟨ny1,rfl⟩,⟨ny2,rfl⟩,_⟩:=hy
   exact Qjr 9997 w nx0 ny0 nx1 ny1 nx2 ny2
  ·skip
   cases xs with
   |nil=>simp [qM] at hx
   |cons x0 xs1 =>
   cases xs1 with
   |nil=>simp [qM] at hx
   |cons x1 xs2 =>
   cases xs2 with
   |nil=>simp [qM] at hx
   |cons x2 xs3 =>
   cases xs3 with
   |cons _ _=>simp [qM] at hx
   |nil =>
   simp only [qM] at hx
   obtain ⟨⟨nx0,rfl⟩,⟨nx1,rfl⟩,⟨nx2,rfl⟩,_⟩:=hx
   exact Qjs w em nx0 nx1 nx2
  ·exact .v rfl
def Qau:TI:={ cells:=3,bytes:=24,td:=.struct [(0,1,3),(1,2,28)],zero:=[.v (.int .i64 0),.v (.int .i64 0),.v (.int .i64 0)],eqk:=none }
theorem tf104:TyFact Tryz.prog 104 Qau:=by
 refine ⟨⟨Tryz.t104,.agg #[.int .i64 0,.int .i64 0,.int .i64 0],by kernel_rfl,rfl,rfl,rfl,rfl,rfl,by simp [Value.cells,Value.oneCell']⟩,⟨_,Tryz.underlying104,⟨_,rfl,rfl⟩⟩,fun fs h=>?_,fun ks h=>?_,fun q h=>?_⟩
 ·cases h
  simp only [List.mem_cons,List.not_mem_nil,or_false,forall_eq_or_imp,forall_eq]
  exact ⟨⟨Tryz.t3,by kernel_rfl,rfl⟩,⟨Tryz.t28,by kernel_rfl,rfl⟩⟩
 ·cases h
 ·cases h
def Qjq:TI:={ cells:=1,bytes:=8,td:=.func,zero:=[.v (.nilFunc)],eqk:=none }
theorem tf110:TyFact Tryz.prog 110 Qjq:=by
 refine ⟨⟨Tryz.t110,.nilFunc,by kernel_rfl,rfl,rfl,rfl,rfl,rfl,by simp [Value.cells,Value.oneCell']⟩,⟨_,Tryz.underlying110,⟨_,_,_,rfl⟩⟩,fun fs h=>?_,fun ks h=>?_,fun q h=>?_⟩
 ·cases h
 ·cases h
 ·cases h
def Qji:TI:={ cells:=1,bytes:=8,td:=.func,zero:=[.v (.nilFunc)],eqk:=none }
theorem tf114:TyFact Tryz.prog 114 Qji:=by
 refine ⟨⟨Tryz.t114,.nilFunc,by kernel_rfl,rfl,rfl,rfl,rfl,rfl,by simp [Value.cells,Value.oneCell']⟩,⟨_,Tryz.underlying114,⟨_,_,_,rfl⟩⟩,fun fs h=>?_,fun ks h=>?_,fun q h=>?_⟩
 ·cases h
 ·cases h
 ·cases h
theorem Qks (d:Nat) (w:World) (a0 b0:Int):(Op.equalIn (d+2) 119 (.agg #[.int .u64 a0]) (.agg #[.int .u64 b0])).run Tryz.prog w=.ok (kJ [.int .u64 a0] [.int .u64 b0]) w:=by
 have h1:Tryz.prog.underlying 119=some (.struct (Tryz.prog.fieldsOf 119)):=by kernel_rfl
 have h2 : (Tryz.prog.fieldsOf 119).toList = [{ name := "set", type := 77, offset := 0, embedded := false, tag := "", pkgPath := "couchette/berth", byteOffset := 0 }] := by kernel_rfl
 rw [run_equalIn_agg w (d+1) 119 _ _ h1 (by kernel_rfl),h2]
 refine Eq.trans (b:=Result.ok (a0 == b0 && true) w) ?_ (congrArg (fun r=>Result.ok r w) (by simp [kJ,veq,Bool.and_assoc]))
 exact vI (by simp) (zZ (Tryz.isAgg77) rfl) (zZ (Tryz.isAgg77) rfl) (run_equalIn_int w (d+0) 77 _ _ _ _ Tryz.underlying77) (kD)
theorem Qku (w:World) (em:Bool) (a0:Int):(Instr.checkKey em 10000 119 (.agg #[.int .u64 a0])).run Tryz.prog w=.ok () w:=by kernel_rfl
def KT:TI:={ cells:=1,bytes:=8,td:=.map 119 4,zero:=[.v (.map none)],eqk:=none,key:=some { kd:=.agg [some .u64],z:=.v (.bool false),agg:=false } }
theorem tf115:TyFact Tryz.prog 115 KT:=by
 refine ⟨⟨Tryz.t115,.map none,by kernel_rfl,rfl,rfl,rfl,rfl,rfl,by simp [Value.cells,Value.oneCell']⟩,⟨_,Tryz.underlying115,rfl⟩,fun fs h=>?_,fun ks h=>?_,fun q h=>?_⟩
 ·cases h
 ·cases h
 ·cases h
  refine ⟨119,4,rfl,QaF Tryz.underlying119 (fun w xs ys hx hy=>?_) (fun w em xs hx=>?_),fun w=>⟨.bool false,by simp [zeroValue,typeInfo,show Tryz.prog.info? 4=some Tryz.t4 by kernel_rfl,Tryz.t4],fun w' ok ρ y=>?_⟩⟩
  ·skip
   cases xs with
   |nil=>simp [qM] at hx
   |cons x0 xs1 =>
   cases xs1 with
   |cons _ _=>simp [qM] at hx
   |nil =>
   cases ys with
   |nil=>simp [qM] at hy
   |cons y0 ys1 =>
   cases ys1 with
   |cons _ _=>simp [qM] at hy
   |nil =>
   simp only [qM] at hx
   obtain ⟨⟨nx0,rfl⟩,_⟩:=hx
   simp only [qM] at hy
   obtain ⟨⟨ny0,rfl⟩,_⟩:=hy
   exact Qks 9998 w nx0 ny0
  ·skip
   cases xs with
   |nil=>simp [qM] at hx
   |cons x0 xs1 =>
   cases xs1 with
   |cons _ _=>simp [qM] at hx
   |nil =>
   simp only [qM] at hx
   obtain ⟨⟨nx0,rfl⟩,_⟩:=hx
   exact Qku w em nx0
  ·exact .v rfl
def Ky:TI:={ cells:=1,bytes:=8,td:=.struct [(0,1,77)],zero:=[.v (.int .u64 0)],eqk:=none }
theorem tf119:TyFact Tryz.prog 119 Ky:=by
 refine ⟨⟨Tryz.t119,.agg #[.int .u64 0],by kernel_rfl,rfl,rfl,rfl,rfl,rfl,by simp [Value.cells,Value.oneCell']⟩,⟨_,Tryz.underlying119,⟨_,rfl,rfl⟩⟩,fun fs h=>?_,fun ks h=>?_,fun q h=>?_⟩
 ·cases h
  simp only [List.mem_cons,List.not_mem_nil,or_false,forall_eq_or_imp,forall_eq]
  exact ⟨Tryz.t77,by kernel_rfl,rfl⟩
 ·cases h
 ·cases h
def LD:TI:={ cells:=1,bytes:=8,td:=.func,zero:=[.v (.nilFunc)],eqk:=none }
theorem tf122:TyFact Tryz.prog 122 LD:=by
 refine ⟨⟨Tryz.t122,.nilFunc,by kernel_rfl,rfl,rfl,rfl,rfl,rfl,by simp [Value.cells,Value.oneCell']⟩,⟨_,Tryz.underlying122,⟨_,_,_,rfl⟩⟩,fun fs h=>?_,fun ks h=>?_,fun q h=>?_⟩
 ·cases h
 ·cases h
 ·cases h
def QcW:TI:={ cells:=1,bytes:=24,td:=.slice 9,zero:=[.nil],eqk:=none }
theorem tf128:TyFact Tryz.prog 128 QcW:=by
 refine ⟨⟨Tryz.t128,.slice none 0 0,by kernel_rfl,rfl,rfl,rfl,rfl,rfl,by simp [Value.cells,Value.oneCell']⟩,⟨_,Tryz.underlying128,rfl⟩,fun fs h=>?_,fun ks h=>?_,fun q h=>?_⟩
 ·cases h
 ·cases h
 ·cases h
def Qjj:TI:={ cells:=1,bytes:=8,td:=.func,zero:=[.v (.nilFunc)],eqk:=none }
theorem tf136:TyFact Tryz.prog 136 Qjj:=by
 refine ⟨⟨Tryz.t136,.nilFunc,by kernel_rfl,rfl,rfl,rfl,rfl,rfl,by simp [Value.cells,Value.oneCell']⟩,⟨_,Tryz.underlying136,⟨_,_,_,rfl⟩⟩,fun fs h=>?_,fun ks h=>?_,fun q h=>?_⟩
 ·cases h
 ·cases h
 ·cases h
def Ll:TI:={ cells:=1,bytes:=8,td:=.func,zero:=[.v (.nilFunc)],eqk:=none }
theorem tf137:TyFact Tryz.prog 137 Ll:=by
 refine ⟨⟨Tryz.t137,.nilFunc,by kernel_rfl,rfl,rfl,rfl,rfl,rfl,by simp [Value.cells,Value.oneCell']⟩,⟨_,Tryz.underlying137,⟨_,_,_,rfl⟩⟩,fun fs h=>?_,fun ks h=>?_,fun q h=>?_⟩
 ·cases h
 ·cases h
 ·cases h
def Xf:TI:={ cells:=1,bytes:=8,td:=.func,zero:=[.v (.nilFunc)],eqk:=none }
theorem tf144:TyFact Tryz.prog 144 Xf:=by
 refine ⟨⟨Tryz.t144,.nilFunc,by kernel_rfl,rfl,rfl,rfl,rfl,rfl,by simp [Value.cells,Value.oneCell']⟩,⟨_,Tryz.underlying144,⟨_,_,_,rfl⟩⟩,fun fs h=>?_,fun ks h=>?_,fun q h=>?_⟩
 ·cases h
 ·cases h
 ·cases h
def Qc3:TI:={ cells:=1,bytes:=8,td:=.map 3 3,zero:=[.v (.map none)],eqk:=none,key:=some { kd:=.one (.int .i64),z:=.v (.int .i64 0),agg:=false } }
theorem tf147:TyFact Tryz.prog 147 Qc3:=by
 refine ⟨⟨Tryz.t147,.map none,by kernel_rfl,rfl,rfl,rfl,rfl,rfl,by simp [Value.cells,Value.oneCell']⟩,⟨_,Tryz.underlying147,rfl⟩,fun fs h=>?_,fun ks h=>?_,fun q h=>?_⟩
 ·cases h
 ·cases h
 ·cases h
  refine ⟨3,3,rfl,Qbj Tryz.underlying3,fun w=>⟨.int .i64 0,by simp [zeroValue,typeInfo,show Tryz.prog.info? 3=some Tryz.t3 by kernel_rfl,Tryz.t3],fun w' ok ρ y=>?_⟩⟩
  exact .v rfl
def Qi2:TI:={ cells:=1,bytes:=8,td:=.ptr,zero:=[.v (.pointer none)],eqk:=none }
theorem tf149:TyFact Tryz.prog 149 Qi2:=by
 refine ⟨⟨Tryz.t149,.pointer none,by kernel_rfl,rfl,rfl,rfl,rfl,rfl,by simp [Value.cells,Value.oneCell']⟩,⟨_,Tryz.underlying149,⟨_,rfl⟩⟩,fun fs h=>?_,fun ks h=>?_,fun q h=>?_⟩
 ·cases h
 ·cases h
 ·cases h
def Qjb:TI:={ cells:=1,bytes:=24,td:=.slice 5,zero:=[.nil],eqk:=none }
theorem tf150:TyFact Tryz.prog 150 Qjb:=by
 refine ⟨⟨Tryz.t150,.slice none 0 0,by kernel_rfl,rfl,rfl,rfl,rfl,rfl,by simp [Value.cells,Value.oneCell']⟩,⟨_,Tryz.underlying150,rfl⟩,fun fs h=>?_,fun ks h=>?_,fun q h=>?_⟩
 ·cases h
 ·cases h
 ·cases h
def Qjl:TI:={ cells:=2,bytes:=32,td:=.struct [(0,1,149),(1,1,150)],zero:=[.v (.pointer none),.nil],eqk:=none }
theorem tf152:TyFact Tryz.prog 152 Qjl:=by
 refine ⟨⟨Tryz.t152,.agg #[.pointer none,.slice none 0 0],by kernel_rfl,rfl,rfl,rfl,rfl,rfl,by simp [Value.cells,Value.oneCell']⟩,⟨_,Tryz.underlying152,⟨_,rfl,rfl⟩⟩,fun fs h=>?_,fun ks h=>?_,fun q h=>?_⟩
 ·cases h
  simp only [List.mem_cons,List.not_mem_nil,or_false,forall_eq_or_imp,forall_eq]
  exact ⟨⟨Tryz.t149,by kernel_rfl,rfl⟩,⟨Tryz.t150,by kernel_rfl,rfl⟩⟩
 ·cases h
 ·cases h
def QcS:TI:={ cells:=1,bytes:=4,td:=.int .u32,zero:=[.v (.int .u32 0)],eqk:=none }
theorem tf161:TyFact Tryz.prog 161 QcS:=by
 refine ⟨⟨Tryz.t161,.int .u32 0,by kernel_rfl,rfl,rfl,rfl,rfl,rfl,by simp [Value.cells,Value.oneCell']⟩,⟨_,Tryz.underlying161,rfl⟩,fun fs h=>?_,fun ks h=>?_,fun q h=>?_⟩
 ·cases h
 ·cases h
 ·cases h
def QcD:TI:={ cells:=1,bytes:=8,td:=.int .u64,zero:=[.v (.int .u64 0)],eqk:=none }
theorem tf163:TyFact Tryz.prog 163 QcD:=by
 refine ⟨⟨Tryz.t163,.int .u64 0,by kernel_rfl,rfl,rfl,rfl,rfl,rfl,by simp [Value.cells,Value.oneCell']⟩,⟨_,Tryz.underlying163,rfl⟩,fun fs h=>?_,fun ks h=>?_,fun q h=>?_⟩
 ·cases h
 ·cases h
 ·cases h
def QiX:TI:={ cells:=1,bytes:=8,td:=.ptr,zero:=[.v (.pointer none)],eqk:=none }
theorem tf168:TyFact Tryz.prog 168 QiX:=by
 refine ⟨⟨Tryz.t168,.pointer none,by kernel_rfl,rfl,rfl,rfl,rfl,rfl,by simp [Value.cells,Value.oneCell']⟩,⟨_,Tryz.underlying168,⟨_,rfl⟩⟩,fun fs h=>?_,fun ks h=>?_,fun q h=>?_⟩
 ·cases h
 ·cases h
 ·cases h
def Qjo:TI:={ cells:=24,bytes:=24,td:=.array 24 5,zero:=[.v (.int .u8 0),.v (.int .u8 0),.v (.int .u8 0),.v (.int .u8 0),.v (.int .u8 0),.v (.int .u8 0),.v (.int .u8 0),.v (.int .u8 0),.v (.int .u8 0),.v (.int .u8 0),.v (.int .u8 0),.v (.int .u8 0),.v (.int .u8 0),.v (.int .u8 0),.v (.int .u8 0),.v (.int .u8 0),.v (.int .u8 0),.v (.int .u8 0),.v (.int .u8 0),.v (.int .u8 0),.v (.int .u8 0),.v (.int .u8 0),.v (.int .u8 0),.v (.int .u8 0)],eqk:=none }
theorem tf170:TyFact Tryz.prog 170 Qjo:=by
 refine ⟨⟨Tryz.t170,.agg #[.int .u8 0,.int .u8 0,.int .u8 0,.int .u8 0,.int .u8 0,.int .u8 0,.int .u8 0,.int .u8 0,.int .u8 0,.int .u8 0,.int .u8 0,.int .u8 0,.int .u8 0,.int .u8 0,.int .u8 0,.int .u8 0,.int .u8 0,.int .u8 0,.int .u8 0,.int .u8 0,.int .u8 0,.int .u8 0,.int .u8 0,.int .u8 0],by kernel_rfl,rfl,rfl,rfl,rfl,rfl,by simp [Value.cells,Value.oneCell']⟩,⟨_,Tryz.underlying170,rfl⟩,fun fs h=>?_,fun ks h=>?_,fun q h=>?_⟩
 ·cases h
 ·cases h
 ·cases h
def Qi9:TI:={ cells:=20,bytes:=160,td:=.array 20 163,zero:=[.v (.int .u64 0),.v (.int .u64 0),.v (.int .u64 0),.v (.int .u64 0),.v (.int .u64 0),.v (.int .u64 0),.v (.int .u64 0),.v (.int .u64 0),.v (.int .u64 0),.v (.int .u64 0),.v (.int .u64 0),.v (.int .u64 0),.v (.int .u64 0),.v (.int .u64 0),.v (.int .u64 0),.v (.int .u64 0),.v (.int .u64 0),.v (.int .u64 0),.v (.int .u64 0),.v (.int .u64 0)],eqk:=none }
theorem tf179:TyFact Tryz.prog 179 Qi9:=by
 refine ⟨⟨Tryz.t179,.agg #[.int .u64 0,.int .u64 0,.int .u64 0,.int .u64 0,.int .u64 0,.int .u64 0,.int .u64 0,.int .u64 0,.int .u64 0,.int .u64 0,.int .u64 0,.int .u64 0,.int .u64 0,.int .u64 0,.int .u64 0,.int .u64 0,.int .u64 0,.int .u64 0,.int .u64 0,.int .u64 0],by kernel_rfl,rfl,rfl,rfl,rfl,rfl,by simp [Value.cells,Value.oneCell']⟩,⟨_,Tryz.underlying179,rfl⟩,fun fs h=>?_,fun ks h=>?_,fun q h=>?_⟩
 ·cases h
 ·cases h
 ·cases h
def QiY:TI:={ cells:=32,bytes:=32,td:=.array 32 5,zero:=[.v (.int .u8 0),.v (.int .u8 0),.v (.int .u8 0),.v (.int .u8 0),.v (.int .u8 0),.v (.int .u8 0),.v (.int .u8 0),.v (.int .u8 0),.v (.int .u8 0),.v (.int .u8 0),.v (.int .u8 0),.v (.int .u8 0),.v (.int .u8 0),.v (.int .u8 0),.v (.int .u8 0),.v (.int .u8 0),.v (.int .u8 0),.v (.int .u8 0),.v (.int .u8 0),.v (.int .u8 0),.v (.int .u8 0),.v (.int .u8 0),.v (.int .u8 0),.v (.int .u8 0),.v (.int .u8 0),.v (.int .u8 0),.v (.int .u8 0),.v (.int .u8 0),.v (.int .u8 0),.v (.int .u8 0),.v (.int .u8 0),.v (.int .u8 0)],eqk:=none }
theorem tf181:TyFact Tryz.prog 181 QiY:=by
 refine ⟨⟨Tryz.t181,.agg #[.int .u8 0,.int .u8 0,.int .u8 0,.int .u8 0,.int .u8 0,.int .u8 0,.int .u8 0,.int .u8 0,.int .u8 0,.int .u8 0,.int .u8 0,.int .u8 0,.int .u8 0,.int .u8 0,.int .u8 0,.int .u8 0,.int .u8 0,.int .u8 0,.int .u8 0,.int .u8 0,.int .u8 0,.int .u8 0,.int .u8 0,.int .u8 0,.int .u8 0,.int .u8 0,.int .u8 0,.int .u8 0,.int .u8 0,.int .u8 0,.int .u8 0,.int .u8 0],by kernel_rfl,rfl,rfl,rfl,rfl,rfl,by simp [Value.cells,Value.oneCell']⟩,⟨_,Tryz.underlying181,rfl⟩,fun fs h=>?_,fun ks h=>?_,fun q h=>?_⟩
 ·cases h
 ·cases h
 ·cases h
def Qjf:TI:={ cells:=64,bytes:=64,td:=.array 64 5,zero:=[.v (.int .u8 0),.v (.int .u8 0),.v (.int .u8 0),.v (.int .u8 0),.v (.int .u8 0),.v (.int .u8 0),.v (.int .u8 0),.v (.int .u8 0),.v (.int .u8 0),.v (.int .u8 0),.v (.int .u8 0),.v (.int .u8 0),.v (.int .u8 0),.v (.int .u8 0),.v (.int .u8 0),.v (.int .u8 0),.v (.int .u8 0),.v (.int .u8 0),.v (.int .u8 0),.v (.int .u8 0),.v (.int .u8 0),.v (.int .u8 0),.v (.int .u8 0),.v (.int .u8 0),.v (.int .u8 0),.v (.int .u8 0),.v (.int .u8 0),.v (.int .u8 0),.v (.int .u8 0),.v (.int .u8 0),.v (.int .u8 0),.v (.int .u8 0),.v (.int .u8 0),.v (.int .u8 0),.v (.int .u8 0),.v (.int .u8 0),.v (.int .u8 0),.v (.int .u8 0),.v (.int .u8 0),.v (.int .u8 0),.v (.int .u8 0),.v (.int .u8 0),.v (.int .u8 0),.v (.int .u8 0),.v (.int .u8 0),.v (.int .u8 0),.v (.int .u8 0),.v (.int .u8 0),.v (.int .u8 0),.v (.int .u8 0),.v (.int .u8 0),.v (.int .u8 0),.v (.int .u8 0),.v (.int .u8 0),.v (.int .u8 0),.v (.int .u8 0),.v (.int .u8 0),.v (.int .u8 0),.v (.int .u8 0),.v (.int .u8 0),.v (.int .u8 0),.v (.int .u8 0),.v (.int .u8 0),.v (.int .u8 0)],eqk:=none }
theorem tf182:TyFact Tryz.prog 182 Qjf:=by
 refine ⟨⟨Tryz.t182,.agg #[.int .u8 0,.int .u8 0,.int .u8 0,.int .u8 0,.int .u8 0,.int .u8 0,.int .u8 0,.int .u8 0,.int .u8 0,.int .u8 0,.int .u8 0,.int .u8 0,.int .u8 0,.int .u8 0,.int .u8 0,.int .u8 0,.int .u8 0,.int .u8 0,.int .u8 0,.int .u8 0,.int .u8 0,.int .u8 0,.int .u8 0,.int .u8 0,.int .u8 0,.int .u8 0,.int .u8 0,.int .u8 0,.int .u8 0,.int .u8 0,.int .u8 0,.int .u8 0,.int .u8 0,.int .u8 0,.int .u8 0,.int .u8 0,.int .u8 0,.int .u8 0,.int .u8 0,.int .u8 0,.int .u8 0,.int .u8 0,.int .u8 0,.int .u8 0,.int .u8 0,.int .u8 0,.int .u8 0,.int .u8 0,.int .u8 0,.int .u8 0,.int .u8 0,.int .u8 0,.int .u8 0,.int .u8 0,.int .u8 0,.int .u8 0,.int .u8 0,.int .u8 0,.int .u8 0,.int .u8 0,.int .u8 0,.int .u8 0,.int .u8 0,.int .u8 0],by kernel_rfl,rfl,rfl,rfl,rfl,rfl,by simp [Value.cells,Value.oneCell']⟩,⟨_,Tryz.underlying182,rfl⟩,fun fs h=>?_,fun ks h=>?_,fun q h=>?_⟩
 ·cases h
 ·cases h
 ·cases h
def tyL:List (Nat × TI):=[(2,ti2),(3,ti3),(4,ti4),(5,ti5),(9,ti9),(22,JR),(23,Qh),(25,y9),(28,Qi),(31,vJ),(32,ti32),(33,QP),(35,Zr),(43,JN),(47,Ql),(49,QaG),(59,UT),(60,UX),(70,J4),(74,UL),(76,ti76),(77,Yg),(79,QaZ),(81,ti81),(86,Zt),(91,ti91),(93,ti93),(97,JU),(99,Qhe),(102,QaB),(104,Qau),(110,Qjq),(114,Qji),(115,KT),(119,Ky),(122,LD),(128,QcW),(136,Qjj),(137,Ll),(144,Xf),(147,Qc3),(149,Qi2),(150,Qjb),(152,Qjl),(161,QcS),(163,QcD),(168,QiX),(170,Qjo),(179,Qi9),(181,QiY),(182,Qjf)]
def tyOf:List (Nat × TI)→Tys
 |[],_=>none
 |p :: r,t=>if t=p.1 then some p.2 else tyOf r t
def tyB:Tys:=tyOf tyL
theorem ty3:tyB 3=some ti3:=rfl
theorem ty4:tyB 4=some ti4:=rfl
theorem ty9:tyB 9=some ti9:=rfl
theorem VD:tyB 22=some JR:=rfl
theorem QV:tyB 23=some Qh:=rfl
theorem xg:tyB 25=some y9:=rfl
theorem QU:tyB 28=some Qi:=rfl
theorem xB:tyB 31=some vJ:=rfl
theorem Zu:tyB 33=some QP:=rfl
theorem WE:tyB 35=some Zr:=rfl
theorem YM:tyB 43=some JN:=rfl
theorem Q0:tyB 47=some Ql:=rfl
theorem Qfb:tyB 49=some QaG:=rfl
theorem Qdv:tyB 59=some UT:=rfl
theorem Qd8:tyB 60=some UX:=rfl
theorem VC:tyB 70=some J4:=rfl
theorem Qel:tyB 74=some UL:=rfl
theorem ty76:tyB 76=some ti76:=rfl
theorem XD:tyB 77=some Yg:=rfl
theorem ty79:tyB 79=some QaZ:=rfl
theorem ty81:tyB 81=some ti81:=rfl
theorem Wl:tyB 86=some Zt:=rfl
theorem ty91:tyB 91=some ti91:=rfl
theorem Vw:tyB 97=some JU:=rfl
theorem ty99:tyB 99=some Qhe:=rfl
theorem Qi5:tyB 102=some QaB:=rfl
theorem QiZ:tyB 104=some Qau:=rfl
theorem Qf9:tyB 115=some KT:=rfl
theorem Qgy:tyB 119=some Ky:=rfl
theorem Qjg:tyB 122=some LD:=rfl
theorem ty128:tyB 128=some QcW:=rfl
theorem Qi0:tyB 137=some Ll:=rfl
theorem Qdg:tyB 144=some Xf:=rfl
theorem ty147:tyB 147=some Qc3:=rfl
theorem ty161:tyB 161=some QcS:=rfl
theorem ty163:tyB 163=some QcD:=rfl
theorem Qai:∀ {L:List (Nat × TI)} {t:Nat} {i:TI},tyOf L t=some i→(t,i) ∈ L
 |p :: r,t,i,h=>by
  simp only [tyOf] at h
  split at h
  ·rename_i ht;cases h;rw [ht];exact List.mem_cons_self
  ·exact List.mem_cons_of_mem _ (Qai h)
theorem Xy:yl Tryz.prog tyB:=fun t i h=>by
 have h:=Qai h
 simp only [tyL,List.mem_cons,List.not_mem_nil,or_false,Prod.mk.injEq] at h
 rcases h with ⟨rfl,rfl⟩|⟨rfl,rfl⟩|⟨rfl,rfl⟩|⟨rfl,rfl⟩|⟨rfl,rfl⟩|⟨rfl,rfl⟩|⟨rfl,rfl⟩|⟨rfl,rfl⟩|⟨rfl,rfl⟩|⟨rfl,rfl⟩|⟨rfl,rfl⟩|⟨rfl,rfl⟩|⟨rfl,rfl⟩|⟨rfl,rfl⟩|⟨rfl,rfl⟩|⟨rfl,rfl⟩|⟨rfl,rfl⟩|⟨rfl,rfl⟩|⟨rfl,rfl⟩|⟨rfl,rfl⟩|⟨rfl,rfl⟩|⟨rfl,rfl⟩|⟨rfl,rfl⟩|⟨rfl,rfl⟩|⟨rfl,rfl⟩|⟨rfl,rfl⟩|⟨rfl,rfl⟩|⟨rfl,rfl⟩|⟨rfl,rfl⟩|⟨rfl,rfl⟩|⟨rfl,rfl⟩|⟨rfl,rfl⟩|⟨rfl,rfl⟩|⟨rfl,rfl⟩|⟨rfl,rfl⟩|⟨rfl,rfl⟩|⟨rfl,rfl⟩|⟨rfl,rfl⟩|⟨rfl,rfl⟩|⟨rfl,rfl⟩|⟨rfl,rfl⟩|⟨rfl,rfl⟩|⟨rfl,rfl⟩|⟨rfl,rfl⟩|⟨rfl,rfl⟩|⟨rfl,rfl⟩|⟨rfl,rfl⟩|⟨rfl,rfl⟩|⟨rfl,rfl⟩|⟨rfl,rfl⟩|⟨rfl,rfl⟩
 ·exact tf2
 ·exact tf3
 ·exact tf4
 ·exact tf5
 ·exact tf9
 ·exact tf22
 ·exact tf23
 ·exact tf25
 ·exact tf28
 ·exact tf31
 ·exact tf32
 ·exact tf33
 ·exact tf35
 ·exact tf43
 ·exact tf47
 ·exact tf49
 ·exact tf59
 ·exact tf60
 ·exact tf70
 ·exact tf74
 ·exact tf76
 ·exact tf77
 ·exact tf79
 ·exact tf81
 ·exact tf86
 ·exact tf91
 ·exact tf93
 ·exact tf97
 ·exact tf99
 ·exact tf102
 ·exact tf104
 ·exact tf110
 ·exact tf114
 ·exact tf115
 ·exact tf119
 ·exact tf122
 ·exact tf128
 ·exact tf136
 ·exact tf137
 ·exact tf144
 ·exact tf147
 ·exact tf149
 ·exact tf150
 ·exact tf152
 ·exact tf161
 ·exact tf163
 ·exact tf168
 ·exact tf170
 ·exact tf179
 ·exact tf181
 ·exact tf182
end Go.Sym.B
namespace Go.Sym.C
def Bd (B:Nat) (q:Rat):Prop:=q.den ∣ 27720∧q.num≤B * q.den∧-(B * q.den:Int)≤q.num
theorem Bd.mono {B C:Nat} {q:Rat} (h:Bd B q) (hB:B≤C):Bd C q:=by
 obtain ⟨h1,h2,h3⟩:=h
 have h4:(B:Int) * q.den≤C * q.den:=by exact_mod_cast Nat.mul_le_mul_right _ hB
 exact ⟨h1,by omega,by omega⟩
end Go.Sym.C
namespace Go.Sym.B
open Go Go.Sym Go.Proofs Go.Sym.C
structure Bunk where
 cab:Int
 bed:Int
deriving DecidableEq,Inhabited
structure Cabin where
 beds:Int
 door:Bool
deriving DecidableEq,Inhabited
structure Tk where
 party:Int
 sex:Int
 cab:Int
 bed:Int
 frm:Int
 to:Int
 dog:Bool
deriving DecidableEq,Inhabited
structure Tr where
 ticket:Int
 cab:Int
 bed:Int
deriving DecidableEq,Inhabited
structure Chart where
 cabins:List Cabin
 secs:Int
 sold:List Tk
deriving DecidableEq,Inhabited
structure Ask where
 party:Int
 frm:Int
 to:Int
 sexes:List Int
 dog:Bool
deriving DecidableEq,Inhabited
def Tk.bunk (t:Tk):Bunk:=⟨t.cab,t.bed⟩
def dI:DV→Int
 |.v (.int _ n)=>n
 |_=>0
def dB:DV→Bool
 |.v (.bool b)=>b
 |_=>false
def dL:DV→List (List DV)
 |.sl xs=>xs
 |_=>[]
def wz (n:Int):List DV:=[.v (.int .i64 n)]
def qy (b:Bunk):List DV:=[.v (.int .i64 b.cab),.v (.int .i64 b.bed)]
def qo (c:Cabin):List DV:=[.v (.int .i64 c.beds),.v (.bool c.door)]
def eTk (t:Tk):List DV:=[.v (.int .i64 t.party),.v (.int .i64 t.sex),.v (.int .i64 t.cab),.v (.int .i64 t.bed),.v (.int .i64 t.frm),.v (.int .i64 t.to),.v (.bool t.dog)]
def eTr (t:Tr):List DV:=[.v (.int .i64 t.ticket),.v (.int .i64 t.cab),.v (.int .i64 t.bed)]
def zi (a:Ask):List DV:=[.v (.int .i64 a.party),.v (.int .i64 a.frm),.v (.int .i64 a.to),.sl (a.sexes.map wz),.v (.bool a.dog)]
def qB (l:List Bunk):List DV:=[.sl (l.map qy)]
def zQ (r:List DV):Int:=dI (r.headD (.sl []))
def ji:List DV→Bunk
 |[a,b]=>⟨dI a,dI b⟩
 |_=>default
def qA:List DV→Cabin
 |[a,b]=>⟨dI a,dB b⟩
 |_=>default
def dTk:List DV→Tk
 |[a,b,c,d,e,f,g]=>⟨dI a,dI b,dI c,dI d,dI e,dI f,dB g⟩
 |_=>default
def dTr:List DV→Tr
 |[a,b,c]=>⟨dI a,dI b,dI c⟩
 |_=>default
def WR:List DV→List Bunk
 |[a]=>(dL a).map ji
 |_=>[]
def jZ:List DV→Ask
 |[a,b,c,d,e]=>⟨dI a,dI b,dI c,(dL d).map zQ,dB e⟩
 |_=>default
theorem Qkd (n:Int):zQ (wz n)=n:=rfl
theorem Qhw (b:Bunk):ji (qy b)=b:=rfl
theorem Qgr (b:Cabin):qA (qo b)=b:=rfl
theorem Qjm (b:Tk):dTk (eTk b)=b:=rfl
theorem dTr_e (b:Tr):dTr (eTr b)=b:=rfl
theorem QJ (l:List Int):(l.map wz).map zQ=l:=by simp [Function.comp_def,Qkd]
theorem zg (l:List Bunk):(l.map qy).map ji=l:=by simp [Function.comp_def,Qhw]
theorem qc (l:List Cabin):(l.map qo).map qA=l:=by simp [Function.comp_def,Qgr]
theorem mTk (l:List Tk):(l.map eTk).map dTk=l:=by simp [Function.comp_def,Qjm]
theorem mTr (l:List Tr):(l.map eTr).map dTr=l:=by simp [Function.comp_def,dTr_e]
theorem Qgk (l:List Bunk):WR (qB l)=l:=zg l
theorem Qkc (a:Ask):jZ (zi a)=a:=by show (⟨_,_,_,_,_⟩:Ask)=a;simp only [dL,QJ];rfl
theorem jb (l:List (List Bunk)):(l.map qB).map WR=l:=by simp [Function.comp_def,Qgk]
theorem Qp (l:List (Ask)):(l.map zi).map jZ=l:=by simp [Function.comp_def,Qkc]
theorem Ue (l:List (Int)) (n:Nat):(l.map wz).getD n [.v (.int .i64 0)]=wz (l.getD n 0):=Qq wz l n 0
theorem hInt {l:List (Int)} {n:Nat} (h:n < l.length):(l.map wz).getD n []=wz (l.getD n 0):=by simp [List.getD_eq_getElem?_getD,h]
theorem Qaj (l:List (Int)):wJ 1 (l.map wz)=True:=vO (f:=wz) (k:=1) (fun _=>rfl) l
theorem qR (l:List (Bunk)) (n:Nat):(l.map qy).getD n [.v (.int .i64 0),.v (.int .i64 0)]=qy (l.getD n default):=Qq qy l n default
theorem hBunk {l:List (Bunk)} {n:Nat} (h:n < l.length):(l.map qy).getD n []=qy (l.getD n default):=by simp [List.getD_eq_getElem?_getD,h]
theorem wo (l:List (Bunk)):wJ 2 (l.map qy)=True:=vO (f:=qy) (k:=2) (fun _=>rfl) l
theorem qZ (l:List (Cabin)) (n:Nat):(l.map qo).getD n [.v (.int .i64 0),.v (.bool false)]=qo (l.getD n default):=Qq qo l n default
theorem Qj2 {l:List (Cabin)} {n:Nat} (h:n < l.length):(l.map qo).getD n []=qo (l.getD n default):=by simp [List.getD_eq_getElem?_getD,h]
theorem Qb0 (l:List (Cabin)):wJ 2 (l.map qo)=True:=vO (f:=qo) (k:=2) (fun _=>rfl) l
theorem gTk (l:List (Tk)) (n:Nat):(l.map eTk).getD n [.v (.int .i64 0),.v (.int .i64 0),.v (.int .i64 0),.v (.int .i64 0),.v (.int .i64 0),.v (.int .i64 0),.v (.bool false)]=eTk (l.getD n default):=Qq eTk l n default
theorem hTk {l:List (Tk)} {n:Nat} (h:n < l.length):(l.map eTk).getD n []=eTk (l.getD n default):=by simp [List.getD_eq_getElem?_getD,h]
theorem rTk (l:List (Tk)):wJ 7 (l.map eTk)=True:=vO (f:=eTk) (k:=7) (fun _=>rfl) l
theorem gTr (l:List (Tr)) (n:Nat):(l.map eTr).getD n [.v (.int .i64 0),.v (.int .i64 0),.v (.int .i64 0)]=eTr (l.getD n default):=Qq eTr l n default
theorem rTr (l:List (Tr)):wJ 3 (l.map eTr)=True:=vO (f:=eTr) (k:=3) (fun _=>rfl) l
theorem zK (l:List (List Bunk)) (n:Nat):(l.map qB).getD n [.sl []]=qB (l.getD n []):=Qq qB l n []
theorem QfL {l:List (List Bunk)} {n:Nat} (h:n < l.length):(l.map qB).getD n []=qB (l.getD n []):=by simp [List.getD_eq_getElem?_getD,h]
theorem zJ (l:List (List Bunk)):wJ 1 (l.map qB)=True:=vO (f:=qB) (k:=1) (fun _=>rfl) l
theorem xH (l:List (Ask)) (n:Nat):(l.map zi).getD n [.v (.int .i64 0),.v (.int .i64 0),.v (.int .i64 0),.sl [],.v (.bool false)]=zi (l.getD n default):=Qq zi l n default
theorem hAsk {l:List (Ask)} {n:Nat} (h:n < l.length):(l.map zi).getD n []=zi (l.getD n default):=by simp [List.getD_eq_getElem?_getD,h]
theorem y8 (l:List (Ask)):wJ 5 (l.map zi)=True:=vO (f:=zi) (k:=5) (fun _=>rfl) l
def aI (n:Int):AV:=.v (.int .i64 n)
def aB (b:Bool):AV:=.v (.bool b)
def qh (b:Bunk):AV:=.agg [.v (.int .i64 b.cab),.v (.int .i64 b.bed)]
def cTk (t:Tk):List AV:=[.v (.int .i64 t.party),.v (.int .i64 t.sex),.v (.int .i64 t.cab),.v (.int .i64 t.bed),.v (.int .i64 t.frm),.v (.int .i64 t.to),.v (.bool t.dog)]
def aTk (t:Tk):AV:=.agg (cTk t)
def ql (a:Ask):List AV:=[.v (.int .i64 a.party),.v (.int .i64 a.frm),.v (.int .i64 a.to),.sl (a.sexes.map wz),.v (.bool a.dog)]
def qx (a:Ask):AV:=.agg (ql a)
def qb (c:Chart):List AV:=[.sl (c.cabins.map qo),.v (.int .i64 c.secs),.sl (c.sold.map eTk)]
def qa (c:Chart):AV:=.agg (qb c)
def qD (l:List Int):AV:=.sl (l.map wz)
def qd (l:List Bunk):AV:=.sl (l.map qy)
def qw (l:List Tk):AV:=.sl (l.map eTk)
def zb (l:List Cabin):AV:=.sl (l.map qo)
def qY (l:List Tr):AV:=.sl (l.map eTr)
def wB (l:List Ask):AV:=.sl (l.map zi)
theorem Fn0 {fn:Func} {c:Code} {f:FuncId} (hf:Tryz.prog.funcs[f]?=some fn) (hb:fn.body=some c) (he:∀ vs w,(callFunc f vs).run Tryz.prog w=.ok (.enter f vs) w) (hd:kY fn.ntmps c=true):FnData Tryz.prog tyB f fn c:=⟨Xy,hf,hb,he,hd⟩
theorem qO {L:List (FuncId × Entry)} {A:Frm→Prop} (h:QcR A Tryz.prog L):Env A Tryz.prog tyB (tab L):=⟨Xy,QgM h,by kernel_rfl⟩
theorem z0 {a b:Int} (h:-9223372036854775808≤a+b∧a+b < 9223372036854775808):IntKind.wrap .i64 (a+b)=a+b:=wrap64 h.1 h.2
def inB (n lo hi:Int):Bool:=decide (lo≤n) && decide (n≤hi)
theorem Q5 {n lo hi:Int}:inB n lo hi=true ↔ lo≤n∧n≤hi:=by simp [inB]
def je (n a b:Int):Int:=if n < a then 7 else if b < n then 6 else 0
def xf:List Int→Int
 |[]=>0
 |e :: r=>if e=0 then xf r else e
theorem ZC {l:List Int} {k:Nat} (h:∀ j,j < k→l.getD j 0=0) (hk:k < l.length) (he:l.getD k 0 ≠ 0):xf l=l.getD k 0:=by
 induction l generalizing k with
 |nil=>simp at hk
 |cons e r ih =>
  cases k with
  |zero=>rw [xf,if_neg (by simpa using he)];rfl
  |succ k =>
   rw [xf,if_pos (by simpa using h 0 (by omega))]
   have:=ih (k:=k) (fun j hj=>by simpa using h (j+1) (by omega)) (by simpa using hk) (by simpa using he)
   rw [this];rfl
theorem Wx {l:List Int} (h:∀ j,j < l.length→l.getD j 0=0):xf l=0:=by
 induction l with
 |nil=>rfl
 |cons e r ih =>
  rw [xf,if_pos (by simpa using h 0 (by simp))]
  exact ih fun j hj=>by simpa using h (j+1) (by simpa using hj)
theorem WS {l:List Int} (h:xf l=0):∀ e ∈ l,e=0:=by
 induction l with
 |nil=>simp
 |cons e r ih =>
  rw [xf] at h
  split at h
  ·rename_i h0
   intro x hx
   rcases List.mem_cons.1 hx with rfl|hx
   ·exact h0
   ·exact ih h x hx
  ·rename_i h0;exact absurd h h0
def Yt (a b:Tk):Bool:=decide (a.frm < b.to) && decide (b.frm < a.to)
def X8 (a b:Tk):Bool:=decide (a.party=b.party) || decide (a.cab ≠ b.cab) || !Yt a b || (decide (a.sex=b.sex) && !a.dog && !b.dog)
def WT (secs frm to:Int):Int:=if frm < 0∨to≤frm∨secs < to then 5 else 0
def YT (t x:Tk):Bool:=decide (x.cab=t.cab) && decide (x.bed=t.bed) && Yt x t
def yC (t:Tk) (l:List Tk):Int:=if l.any (YT t) then 4 else if l.any (fun x=>!X8 x t) then 9 else 0
def Wq (cs:List Cabin) (cab bed:Int):Bool:=inB cab 0 ((cs.length:Int) - 1) && inB bed 0 ((cs.getD cab.toNat default).beds - 1)
def yh (c:Chart) (t:Tk) (l:List Tk):Int :=
 if !inB t.party 1 99 then 1 else if !inB t.sex 1 2 then 8 else if !Wq c.cabins t.cab t.bed then 3 else if WT c.secs t.frm t.to ≠ 0 then WT c.secs t.frm t.to else yC t l
def VN (x:Cabin):Int:=if !inB x.beds 1 3 then 1 else 0
def JL (c:Chart):Int :=
 if je c.cabins.length 1 3 ≠ 0 then je c.cabins.length 1 3 else if xf (c.cabins.map VN) ≠ 0 then xf (c.cabins.map VN) else if !inB c.secs 1 5 then 1 else je c.sold.length 0 8
def ZT (c:Chart) (l:List Tk):Int:=xf ((List.range l.length).map fun i=>yh c (l.getD i default) (l.take i))
def zS (c:Chart):Int:=if JL c ≠ 0 then JL c else ZT c c.sold
structure CarOk (c:Chart):Prop where
 cabs:1≤c.cabins.length∧c.cabins.length≤3
 beds:∀ x ∈ c.cabins,1≤x.beds∧x.beds≤3
 secs:1≤c.secs∧c.secs≤5
theorem QcT {c:Chart} (h:JL c=0):CarOk c∧c.sold.length≤8:=by
 unfold JL at h
 split at h
 ·exact absurd h ‹_›
 rename_i h1
 split at h
 ·exact absurd h ‹_›
 rename_i h2
 split at h
 ·exact absurd h (by decide)
 rename_i h3
 have h1:=Decidable.not_not.1 h1
 have h2:=Decidable.not_not.1 h2
 have h3:inB c.secs 1 5=true:=by simpa using h3
 unfold je at h1 h
 refine ⟨⟨?_,fun x hx=>?_,Q5.1 h3⟩, ?_⟩
 ·split at h1
  ·exact absurd h1 (by decide)
  ·split at h1
   ·exact absurd h1 (by decide)
   ·omega
 ·have:=WS h2 _ (List.mem_map.2 ⟨x,hx,rfl⟩)
  unfold VN at this
  split at this
  ·exact absurd this (by decide)
  ·rename_i h4
   exact Q5.1 (by simpa using h4)
 ·split at h
  ·exact absurd h (by decide)
  ·split at h
   ·exact absurd h (by decide)
   ·omega
structure TkOk (c:Chart) (t:Tk):Prop where
 party:1≤t.party∧t.party≤99
 sex:1≤t.sex∧t.sex≤2
 cab:0≤t.cab∧t.cab.toNat < c.cabins.length
 bed:0≤t.bed∧t.bed < (c.cabins.getD t.cab.toNat default).beds
 frm:0≤t.frm
 way:t.frm < t.to
 to:t.to≤c.secs
theorem Ua {s a b:Int} (h:WT s a b=0):0≤a∧a < b∧b≤s:=by
 unfold WT at h
 split at h
 ·exact absurd h (by decide)
 ·omega
theorem Qdw {cs:List Cabin} {a b:Int} (h:Wq cs a b=true):0≤a∧a.toNat < cs.length∧0≤b∧b < (cs.getD a.toNat default).beds:=by
 unfold Wq at h
 rw [Bool.and_eq_true,Q5,Q5] at h
 omega
theorem Qa2 {c:Chart} {t:Tk} {l:List Tk} (h:yh c t l=0):TkOk c t∧yC t l=0:=by
 unfold yh at h
 split at h
 ·exact absurd h (by decide)
 rename_i h1
 split at h
 ·exact absurd h (by decide)
 rename_i h2
 split at h
 ·exact absurd h (by decide)
 rename_i h3
 split at h
 ·exact absurd h ‹_›
 rename_i h4
 have nf:∀ {p:Bool},¬ (!p)=true→p=true:=fun h=>by simpa using h
 have g1:=Q5.1 (nf h1)
 have g2:=Q5.1 (nf h2)
 obtain ⟨g3,g4,g5,g6⟩:=Qdw (nf h3)
 obtain ⟨g7,g8,g9⟩:=Ua (Decidable.not_not.1 h4)
 exact ⟨⟨g1,g2,⟨g3,g4⟩,⟨g5,g6⟩,g7,g8,g9⟩,h⟩
theorem xV {α:Type} {l:List α} {k:Nat} {d:α} (h:k < l.length):l.getD k d ∈ l:=by
 rw [List.getD_eq_getElem?_getD,List.getElem?_eq_getElem h];exact List.getElem_mem h
theorem Qcc {c:Chart} {l:List Tk} (h:ZT c l=0):∀ i,i < l.length→TkOk c (l.getD i default)∧yC (l.getD i default) (l.take i)=0:=fun i hi =>
 Qa2 (WS h _ (List.mem_map.2 ⟨i,List.mem_range.2 hi,rfl⟩))
structure Val (c:Chart):Prop where
 car:CarOk c
 many:c.sold.length≤8
 tk:∀ t ∈ c.sold,TkOk c t
theorem Qo {c:Chart} (h:zS c=0):Val c:=by
 unfold zS at h
 split at h
 ·exact absurd h ‹_›
 rename_i h1
 obtain ⟨g1,g2⟩:=QcT (Decidable.not_not.1 h1)
 refine ⟨g1,g2,fun t ht=>?_⟩
 obtain ⟨i,hi,rfl⟩:=List.mem_iff_getElem.1 ht
 have:=(Qcc h i hi).1
 rwa [show c.sold.getD i default=c.sold[i] by simp [List.getD_eq_getElem?_getD,hi]] at this
def qV (cs:List Cabin):List Bunk:=(List.range cs.length).flatMap fun i=>(List.range (cs.getD i default).beds.toNat).map fun (k:Nat)=>⟨(i:Int),(k:Int)⟩
def KH (cs:List Cabin) (l:List Bunk):Bool :=
 let lo:=l.foldl (fun m b=>min m b.cab) (l.getD 0 default).cab
 let hi:=l.foldl (fun m b=>max m b.cab) (l.getD 0 default).cab
 decide (lo=hi) || (decide (lo+1=hi) && (cs.getD lo.toNat default).door)
def WG (a:Ask) (i:Nat) (b:Bunk):Tk:=⟨a.party,a.sexes.getD i 0,b.cab,b.bed,a.frm,a.to,a.dog⟩
def goB (cs:List Cabin) (a:Ask) (sold:List Tk) (begun:List Bunk) (b:Bunk):Bool:=!begun.contains b && KH cs (begun++[b]) && decide (yC (WG a begun.length b) sold=0)
def atB (s:Int) (t:Tk):Bool:=decide (t.frm≤s) && decide (s < t.to)
def yj (sold:List Tk) (s i:Int):Bool:=sold.all fun t=>!(atB s t && decide (t.cab=i))
def kQ (cs:List Cabin) (secs:Int) (sold:List Tk):Int:=(((List.range secs.toNat).flatMap fun (s:Nat)=>(List.range cs.length).filter fun (i:Nat)=>yj sold s i).length:Int)
def kW (c:Chart) (a:Ask):Int :=
 if !inB a.party 1 99 then 1 else if c.sold.any (fun t=>decide (t.party=a.party)) then 4 else if WT c.secs a.frm a.to ≠ 0 then WT c.secs a.frm a.to else if je a.sexes.length 1 3 ≠ 0 then je a.sexes.length 1 3 else
 xf (a.sexes.map fun s=>if !inB s 1 2 then 8 else 0)
def wX (c:Chart) (a:Ask):Int:=if zS c ≠ 0 then zS c else kW c a
def QcB:=kk @ty3 @ti3.eq_1
def Y7:=kk @aI.eq_1 (@aB.eq_1)
theorem in_fn (n a b:Int):FnV Tryz.prog 42 [aI n,aI a,aI b] (aB (inB n a b)):=by
 have env:Env (fun _=>True) Tryz.prog tyB (tab []):=qO trivial
 refine Fn.of (A:=fun _=>True) (n0:=0) (D:=noD) (Fn0 Tryz.func42 rfl (fun vs w=>by kernel_rfl) (by kernel_rfl)) (by simp) (by simp [AV.ids,aI]) (fun i o h=>by cases h) (fun _ _ _ _=>trivial) qG ?_
 repeat' (first|(apply nx;with_reducible constructor)|refine jq (by decide) ?_|((first|refine kz env fun Q hQ=>?_|refine kj fun Q hQ=>?_);simp only [vkt,seval,QcB,Y7,aTk,cTk,qa,qb];(try simp only [ite_and]);(repeat' (first|with_reducible assumption|refine And.intro ?_ ?_|intro hp));all_goals (first|(refine hQ _ ?_;clear hQ Q)|(refine hQ _ (fun h=>?_) (fun h=>?_) <;> clear hQ Q <;> (try simp only [vki,reduceCtorEq] at h))|(refine kx ?_;kernel_rfl)|omega|assumption|with_reducible rfl|skip)))
 all_goals (simp only [vrt,Tryz.results42,vkt,seval,QcB,Y7,aTk,cTk,qa,qb];refine Fin.val rfl ?_;(try simp only [AV.le,AV.leL]))
 all_goals simp [inB, *]
def sin:List AV→Prop × AV
 |[.v (.int .i64 n),.v (.int .i64 a),.v (.int .i64 b)]=>(True,aB (inB n a b))
 |_=>(False,.junk)
theorem ein {A:Frm→Prop}:qC A Tryz.prog 42 (za true sin):=zx fun vs hv h=>by
 clear hv
 unfold sin at h ⊢
 split at h
 ·rename_i n a b;clear h
  refine ⟨by first|trivial|(simp [AV.plain,AV.plainL,aI,aB,qD,qd,qw,qh,aTk,cTk];done)|(repeat' split) <;> simp [AV.plain,AV.plainL,aI,aB,qD,qd,qw,qh,aTk,cTk],fun _=>(by simp [AV.flat,AV.flatL,aI,aB]), ?_⟩
  have:=in_fn n a b
  simp only [aI] at this
  first|exact this|(simp only [aI];exact this)
 ·exact h.elim
def Yl:=kk @ty3 @ti3.eq_1
theorem Qa4 (n a b:Int):FnV Tryz.prog 46 [aI n,aI a,aI b] (aI (je n a b)):=by
 have env:Env (fun _=>True) Tryz.prog tyB (tab []):=qO trivial
 refine Fn.of (A:=fun _=>True) (n0:=0) (D:=noD) (Fn0 Tryz.func46 rfl (fun vs w=>by kernel_rfl) (by kernel_rfl)) (by simp) (by simp [AV.ids,aI]) (fun i o h=>by cases h) (fun _ _ _ _=>trivial) qG ?_
 repeat' (first|(apply nx;with_reducible constructor)|refine jq (by decide) ?_|((first|refine kz env fun Q hQ=>?_|refine kj fun Q hQ=>?_);simp only [vkt,seval,Yl,Y7,aTk,cTk,qa,qb];(try simp only [ite_and]);(repeat' (first|with_reducible assumption|refine And.intro ?_ ?_|intro hp));all_goals (first|(refine hQ _ ?_;clear hQ Q)|(refine hQ _ (fun h=>?_) (fun h=>?_) <;> clear hQ Q <;> (try simp only [vki,reduceCtorEq] at h))|(refine kx ?_;kernel_rfl)|omega|assumption|with_reducible rfl|skip)))
 all_goals (simp only [vrt,Tryz.results46,vkt,seval,Yl,Y7,aTk,cTk,qa,qb];refine Fin.val rfl ?_;(try simp only [AV.le,AV.leL]))
 all_goals (unfold je;simp [*])
 all_goals omega
def qI:List AV→Prop × AV
 |[.v (.int .i64 n),.v (.int .i64 a),.v (.int .i64 b)]=>(True,aI (je n a b))
 |_=>(False,.junk)
theorem VQ {A:Frm→Prop}:qC A Tryz.prog 46 (za true qI):=zx fun vs hv h=>by
 clear hv
 unfold qI at h ⊢
 split at h
 ·rename_i n a b;clear h
  refine ⟨by first|trivial|(simp [AV.plain,AV.plainL,aI,aB,qD,qd,qw,qh,aTk,cTk];done)|(repeat' split) <;> simp [AV.plain,AV.plainL,aI,aB,qD,qd,qw,qh,aTk,cTk],fun _=>(by simp [AV.flat,AV.flatL,aI,aB]), ?_⟩
  have:=Qa4 n a b
  simp only [aI] at this
  first|exact this|(simp only [aI];exact this)
 ·exact h.elim
def Rh:=kk @ty3 (kk @xB (kk @ti3.eq_1 @vJ.eq_1))
theorem QhR (a b:Tk):FnV Tryz.prog 86 [aTk a,aTk b] (aB (Yt a b)):=by
 have env:Env (fun _=>True) Tryz.prog tyB (tab []):=qO trivial
 refine Fn.of (A:=fun _=>True) (n0:=0) (D:=noD) (Fn0 Tryz.func86 rfl (fun vs w=>by kernel_rfl) (by kernel_rfl)) (by simp) (by simp [AV.ids,AV.idsL,aTk,cTk]) (fun i o h=>by cases h) (fun _ _ _ _=>trivial) qG ?_
 repeat' (first|(apply nx;with_reducible constructor)|refine jq (by decide) ?_|((first|refine kz env fun Q hQ=>?_|refine kj fun Q hQ=>?_);simp only [vkt,seval,Rh,Y7,aTk,cTk,qa,qb];(try simp only [ite_and]);(repeat' (first|with_reducible assumption|refine And.intro ?_ ?_|intro hp));all_goals (first|(refine hQ _ ?_;clear hQ Q)|(refine hQ _ (fun h=>?_) (fun h=>?_) <;> clear hQ Q <;> (try simp only [vki,reduceCtorEq] at h))|(refine kx ?_;kernel_rfl)|omega|assumption|with_reducible rfl|skip)))
 all_goals (simp only [vrt,Tryz.results86,vkt,seval,Rh,Y7,aTk,cTk,qa,qb];refine Fin.val rfl ?_;(try simp only [AV.le,AV.leL]))
 all_goals simp [Yt, *]
def WJ:List AV→Prop × AV
 |[.agg [.v (.int .i64 a0),.v (.int .i64 a1),.v (.int .i64 a2),.v (.int .i64 a3),.v (.int .i64 a4),.v (.int .i64 a5),.v (.bool a6)],.agg [.v (.int .i64 b0),.v (.int .i64 b1),.v (.int .i64 b2),.v (.int .i64 b3),.v (.int .i64 b4),.v (.int .i64 b5),.v (.bool b6)]]=>(True,aB (Yt (⟨a0,a1,a2,a3,a4,a5,a6⟩:Tk) (⟨b0,b1,b2,b3,b4,b5,b6⟩:Tk)))
 |_=>(False,.junk)
theorem Qi6 {A:Frm→Prop}:qC A Tryz.prog 86 (za true WJ):=zx fun vs hv h=>by
 clear hv
 unfold WJ at h ⊢
 split at h
 ·rename_i a0 a1 a2 a3 a4 a5 a6 b0 b1 b2 b3 b4 b5 b6;clear h
  refine ⟨by first|trivial|(simp [AV.plain,AV.plainL,aI,aB,qD,qd,qw,qh,aTk,cTk];done)|(repeat' split) <;> simp [AV.plain,AV.plainL,aI,aB,qD,qd,qw,qh,aTk,cTk],fun _=>(by simp [AV.flat,AV.flatL,aI,aB]), ?_⟩
  have:=QhR (⟨a0,a1,a2,a3,a4,a5,a6⟩:Tk) (⟨b0,b1,b2,b3,b4,b5,b6⟩:Tk)
  simp only [aB,aI,aTk,cTk] at this
  first|exact this|(simp only [aB,aI,aTk,cTk];exact this)
 ·exact h.elim
def Lx:=kk @ty3 (kk @ty4 (kk @QU (kk @xB (kk @ti3.eq_1 (kk @ti4.eq_1 (kk @Qi.eq_1 @vJ.eq_1))))))
def Qg8:=kk @aI.eq_1 (@aB.eq_1)
theorem Qkg (a b:Tk):FnV Tryz.prog 88 [aTk a,aTk b] (aB (X8 a b)):=by
 have env:Env (fun _=>True) Tryz.prog tyB (tab [(86,za true WJ)]):=qO ⟨Qi6,trivial⟩
 refine Fn.of (A:=fun _=>True) (n0:=0) (D:=noD) (Fn0 Tryz.func88 rfl (fun vs w=>by kernel_rfl) (by kernel_rfl)) (by simp) (by simp [AV.ids,AV.idsL,aTk,cTk]) (fun i o h=>by cases h) (fun _ _ _ _=>trivial) qG ?_
 have em:Yt ⟨a.party,a.sex,a.cab,a.bed,a.frm,a.to,a.dog⟩ ⟨b.party,b.sex,b.cab,b.bed,b.frm,b.to,b.dog⟩=Yt a b:=rfl
 repeat' (first|(apply nx;with_reducible constructor)|refine jq (by decide) ?_|((first|refine kz env fun Q hQ=>?_|refine kj fun Q hQ=>?_);simp only [vkt,seval,Lx,Qg8,aTk,cTk,WJ,em];(try simp only [ite_and]);(repeat' (first|with_reducible assumption|refine And.intro ?_ ?_|intro hp));all_goals (first|(refine hQ _ ?_;clear hQ Q)|(refine hQ _ (fun h=>?_) (fun h=>?_) <;> clear hQ Q <;> (try simp only [vki,reduceCtorEq] at h))|(refine kx ?_;kernel_rfl)|omega|assumption|with_reducible rfl|skip)))
 all_goals (simp only [vrt,Tryz.results88,vkt,seval,Lx,Qg8,aTk,cTk,WJ];refine Fin.val rfl ?_;(try simp only [AV.le,AV.leL]))
 all_goals first|(simp [X8, *];done)|(simp_all [X8];done)
def RQ:List AV→Prop × AV
 |[.agg [.v (.int .i64 a0),.v (.int .i64 a1),.v (.int .i64 a2),.v (.int .i64 a3),.v (.int .i64 a4),.v (.int .i64 a5),.v (.bool a6)],.agg [.v (.int .i64 b0),.v (.int .i64 b1),.v (.int .i64 b2),.v (.int .i64 b3),.v (.int .i64 b4),.v (.int .i64 b5),.v (.bool b6)]]=>(True,aB (X8 (⟨a0,a1,a2,a3,a4,a5,a6⟩:Tk) (⟨b0,b1,b2,b3,b4,b5,b6⟩:Tk)))
 |_=>(False,.junk)
theorem etog {A:Frm→Prop}:qC A Tryz.prog 88 (za true RQ):=zx fun vs hv h=>by
 clear hv
 unfold RQ at h ⊢
 split at h
 ·rename_i a0 a1 a2 a3 a4 a5 a6 b0 b1 b2 b3 b4 b5 b6;clear h
  refine ⟨by first|trivial|(simp [AV.plain,AV.plainL,aI,aB,qD,qd,qw,qh,aTk,cTk];done)|(repeat' split) <;> simp [AV.plain,AV.plainL,aI,aB,qD,qd,qw,qh,aTk,cTk],fun _=>(by simp [AV.flat,AV.flatL,aI,aB]), ?_⟩
  have:=Qkg (⟨a0,a1,a2,a3,a4,a5,a6⟩:Tk) (⟨b0,b1,b2,b3,b4,b5,b6⟩:Tk)
  simp only [aB,aI,aTk,cTk] at this
  first|exact this|(simp only [aB,aI,aTk,cTk];exact this)
 ·exact h.elim
def Lr:=kk @ty3 (kk @xg (kk @ti3.eq_1 @y9.eq_1))
def QgS:=kk @aI.eq_1 (@aB.eq_1)
theorem QkC (c:Chart) (a b:Int):FnV Tryz.prog 43 [qa c,aI a,aI b] (aI (WT c.secs a b)):=by
 have env:Env (fun _=>True) Tryz.prog tyB (tab []):=qO trivial
 refine Fn.of (A:=fun _=>True) (n0:=0) (D:=noD) (Fn0 Tryz.func43 rfl (fun vs w=>by kernel_rfl) (by kernel_rfl)) (by simp) (by simp [AV.ids,AV.idsL,aI,qa,qb]) (fun i o h=>by cases h) (fun _ _ _ _=>trivial) qG ?_
 repeat' (first|(apply nx;with_reducible constructor)|refine jq (by decide) ?_|((first|refine kz env fun Q hQ=>?_|refine kj fun Q hQ=>?_);simp only [vkt,seval,Lr,QgS,qa,qb];(try simp only [ite_and]);(repeat' (first|with_reducible assumption|refine And.intro ?_ ?_|intro hp));all_goals (first|(refine hQ _ ?_;clear hQ Q)|(refine hQ _ (fun h=>?_) (fun h=>?_) <;> clear hQ Q <;> (try simp only [vki,reduceCtorEq] at h))|(refine kx ?_;kernel_rfl)|omega|assumption|with_reducible rfl|skip)))
 all_goals (simp only [vrt,Tryz.results43,vkt,seval,Lr,QgS,qa,qb];refine Fin.val rfl ?_;(try simp only [AV.le,AV.leL]))
 all_goals (unfold WT;simp [*])
 all_goals omega
def yc:List AV→Prop × AV
 |[.agg [.sl c0,.v (.int .i64 c1),.sl c2],.v (.int .i64 a),.v (.int .i64 b)]=>(c0=(c0.map qA).map qo∧c2=(c2.map dTk).map eTk,aI (WT c1 a b))
 |_=>(False,.junk)
theorem eway {A:Frm→Prop}:qC A Tryz.prog 43 (za true yc):=zx fun vs hv h=>by
 clear hv
 unfold yc at h ⊢
 split at h
 ·rename_i c0 c1 c2 a b;obtain ⟨q0,q1⟩:=h
  refine ⟨by first|trivial|(simp [AV.plain,AV.plainL,aI,aB,qD,qd,qw,qh,aTk,cTk];done)|(repeat' split) <;> simp [AV.plain,AV.plainL,aI,aB,qD,qd,qw,qh,aTk,cTk],fun _=>(by simp [AV.flat,AV.flatL,aI,aB]), ?_⟩
  have:=QkC ⟨c0.map qA,c1,c2.map dTk⟩ a b
  simp only [zb,qa,aI,qw,qb,← q0,← q1] at this
  first|exact this|(simp only [zb,qa,aI,qw,qb,← q0,← q1];exact this)
 ·exact h.elim
theorem QbB {α β:Type} (f:α→List β) (d:β) (da:α):∀ (l:List α) (i k:Nat),i < l.length→k < (f (l.getD i da)).length→(l.flatMap f).getD (((l.take i).map fun a=>(f a).length).sum+k) d=(f (l.getD i da)).getD k d
 |[],i,_,h,_=>by simp at h
 |a :: l,0,k,_,hk=>by
  have hk:k < (f a).length:=hk
  rw [List.flatMap_cons,List.take_zero,List.map_nil,List.sum_nil,Nat.zero_add,List.getD_eq_getElem?_getD,List.getElem?_append_left hk,← List.getD_eq_getElem?_getD]
  rfl
 |a :: l,i+1,k,h,hk=>by
  have ih:=QbB f d da l i k (by simpa using h) (by simpa using hk)
  rw [List.flatMap_cons,List.take_succ_cons,List.map_cons,List.sum_cons,List.getD_eq_getElem?_getD,List.getElem?_append_right (by omega),← List.getD_eq_getElem?_getD,show (f a).length+((l.take i).map fun a=>(f a).length).sum+k - (f a).length=((l.take i).map fun a=>(f a).length).sum+k by omega,ih]
  rfl
theorem Qe6 {α β:Type} (f:α→List β) (l:List α):(l.flatMap f).length=(l.map fun a=>(f a).length).sum:=by
 rw [List.length_flatMap]
theorem YD {g:List Nat} {i:Nat} (h:i < g.length):(g.take (i+1)).sum=(g.take i).sum+g.getD i 0:=by
 rw [List.take_succ_eq_append_getElem h,List.sum_append]
 simp [List.getD_eq_getElem?_getD,h]
theorem QN {g:List Nat}:∀ {i j:Nat},i≤j→(g.take i).sum≤(g.take j).sum:=by
 induction g with
 |nil=>simp
 |cons a g ih =>
  intro i j h
  cases i with
  |zero=>simp
  |succ i =>
   cases j with
   |zero=>omega
   |succ j =>
    simp only [List.take_succ_cons,List.sum_cons]
    have:=ih (show i≤j by omega)
    omega
theorem Qaf:∀ (g:List Nat) (q:Nat),q < g.sum→∃ i,i < g.length∧(g.take i).sum≤q∧q < (g.take (i+1)).sum
 |[],q,h=>by simp at h
 |a :: g,q,h=>by
  rw [List.sum_cons] at h
  by_cases h1:q < a
  ·exact ⟨0,by simp,by simp,by simpa using h1⟩
  ·obtain ⟨i,h2,h3,h4⟩:=Qaf g (q - a) (by omega)
   refine ⟨i+1,by simpa using h2, ?_, ?_⟩
   ·rw [List.take_succ_cons,List.sum_cons];omega
   ·rw [List.take_succ_cons,List.sum_cons];omega
def QM (ans:Nat→Bool) (R:Nat):Bool:=decide (R=0) || ans (R - 1)
theorem nest (g:List Nat) {ans:Nat→Bool} {R:Nat} (h:Rounds ans R g.sum):∃ (RB:Nat) (ansB:Nat→Bool),Rounds ansB RB g.length ∧
  (∀ i,i < RB→(g.take i).sum≤R∧Rounds (fun j=>ans ((g.take i).sum+j)) (min (g.getD i 0) (R - (g.take i).sum)) (g.getD i 0)∧ansB i=QM (fun j=>ans ((g.take i).sum+j)) (min (g.getD i 0) (R - (g.take i).sum)) ∧
   min (g.take (i+1)).sum R=(g.take i).sum+min (g.getD i 0) (R - (g.take i).sum))∧min (g.take RB).sum R=R∧QM ans R=QM ansB RB:=by
 have hle:=h.le
 by_cases hB:0 < R∧ans (R - 1)=false
 ·obtain ⟨hR,hf⟩:=hB
  obtain ⟨i,hi,h1,h2⟩:=Qaf g (R - 1) (by omega)
  refine ⟨i+1,fun k=>decide (k ≠ i),⟨hi,fun j hj=>by simp;omega,fun _=>⟨by omega,by simp⟩⟩,fun k hk=>?_,by omega, ?_⟩
  ·have hkl:k < g.length:=by omega
   have ho:=QN (g:=g) (show k≤i by omega)
   have hs:=YD hkl
   have hoR:(g.take k).sum≤R:=by omega
   refine ⟨hoR,⟨Nat.min_le_left _ _,fun j hj=>h.yes _ (by omega),fun hlt=>⟨by omega, ?_⟩⟩, ?_,by omega⟩
   ·show ans _=false
    rw [show (g.take k).sum+(min (g.getD k 0) (R - (g.take k).sum) - 1)=R - 1 by omega];exact hf
   ·by_cases hki:k=i
    ·subst hki
     have e:(g.take k).sum+(min (g.getD k 0) (R - (g.take k).sum) - 1)=R - 1:=by omega
     have e0:¬ min (g.getD k 0) (R - (g.take k).sum)=0:=by omega
     simp only [QM,e,hf,e0,ne_eq,not_true_eq_false,decide_false,Bool.or_self]
    ·have h3:=QN (g:=g) (show k+1≤i by omega)
     have e1:min (g.getD k 0) (R - (g.take k).sum)=g.getD k 0:=by omega
     rw [e1]
     by_cases h0:g.getD k 0=0
     ·simp [-List.getD_eq_getElem?_getD,QM,h0,hki]
     ·have:=h.yes ((g.take k).sum+(g.getD k 0 - 1)) (by omega)
      simp [-List.getD_eq_getElem?_getD,QM,h0,hki,this]
  ·simp [QM,hf,show ¬ R=0 by omega]
 ·have hRN:R=g.sum:=by
   refine Nat.le_antisymm hle (Nat.le_of_not_lt fun hlt=>?_)
   exact hB (h.stop hlt)
  have hall:∀ j,j < R→ans j=true:=fun j hj=>by
   by_cases hj1:j+1 < R
   ·exact h.yes j hj1
   ·have:j=R - 1:=by omega
    subst this
    cases ha:ans (R - 1) with
    |true=>rfl
    |false=>exact absurd ⟨by omega,ha⟩ hB
  have hfull:(g.take g.length).sum=g.sum:=by rw [List.take_length]
  refine ⟨g.length,fun _=>true,⟨Nat.le_refl _,fun _ _=>rfl,fun h=>absurd h (Nat.lt_irrefl _)⟩,fun k hk=>?_,by omega, ?_⟩
  ·have hs:=YD hk
   have h3:=QN (g:=g) (show k+1≤g.length by omega)
   have e1:min (g.getD k 0) (R - (g.take k).sum)=g.getD k 0:=by omega
   refine ⟨by omega, ?_, ?_,by omega⟩
   ·rw [e1]
    exact ⟨Nat.le_refl _,fun j hj=>hall _ (by omega),fun h=>absurd h (Nat.lt_irrefl _)⟩
   ·rw [e1]
    by_cases h0:g.getD k 0=0
    ·simp [-List.getD_eq_getElem?_getD,QM,h0]
    ·simp [-List.getD_eq_getElem?_getD,QM,h0,hall ((g.take k).sum+(g.getD k 0 - 1)) (by omega)]
  ·by_cases h0:R=0
   ·simp [QM,h0]
   ·simp [QM,hall (R - 1) (by omega)]
def ZK (cs:List Cabin):List Nat:=cs.map fun x=>x.beds.toNat
theorem Ye (cs:List Cabin):qV cs=(List.range cs.length).flatMap fun i=>(List.range (cs.getD i default).beds.toNat).map fun (k:Nat)=>(⟨(i:Int),(k:Int)⟩:Bunk):=rfl
theorem QaH (cs:List Cabin) {i:Nat} (hi:i≤cs.length):(((List.range cs.length).take i).map fun (j:Nat)=>(List.map (fun (k:Nat)=>(⟨(j:Int),(k:Int)⟩:Bunk)) (List.range (cs.getD j default).beds.toNat)).length)=(ZK cs).take i:=by
 apply List.ext_getElem
 ·simp [ZK]
 ·intro n h1 h2
  simp only [List.length_map,List.length_take,List.length_range] at h1
  have hn:n < cs.length:=by omega
  simp [ZK,List.getD_eq_getElem?_getD,hn]
theorem KG (cs:List Cabin):(qV cs).length=(ZK cs).sum:=by
 rw [Ye,Qe6]
 have:=QaH cs (Nat.le_refl cs.length)
 rw [List.take_of_length_le (by simp),List.take_of_length_le (by simp [ZK])] at this
 rw [this]
theorem QdN {cs:List Cabin} {i k:Nat} (hi:i < cs.length) (hk:k < (cs.getD i default).beds.toNat):(qV cs).getD (((ZK cs).take i).sum+k) default=⟨(i:Int),(k:Int)⟩:=by
 have hr:(List.range cs.length).getD i 0=i:=by simp [List.getD_eq_getElem?_getD,hi]
 have:=QbB (fun i=>(List.range (cs.getD i default).beds.toNat).map fun (k:Nat)=>(⟨(i:Int),(k:Int)⟩:Bunk)) default 0 (List.range cs.length) i k (by simpa using hi) (by rw [hr];simpa using hk)
 rw [QaH cs (by omega),hr] at this
 rw [Ye,this]
 generalize (cs.getD i default).beds.toNat=m at hk ⊢
 simp [List.getD_eq_getElem?_getD,hk]
theorem Xm {cs:List Cabin} {b:Bunk}:b ∈ qV cs ↔ ∃ i k:Nat,i < cs.length∧k < (cs.getD i default).beds.toNat∧b=⟨(i:Int),(k:Int)⟩:=by
 rw [Ye,List.mem_flatMap]
 constructor
 ·rintro ⟨i,hi,hb⟩
  obtain ⟨k,hk,rfl⟩:=List.mem_map.1 hb
  exact ⟨i,k,List.mem_range.1 hi,List.mem_range.1 hk,rfl⟩
 ·rintro ⟨i,k,hi,hk,rfl⟩
  exact ⟨i,List.mem_range.2 hi,List.mem_map.2 ⟨k,List.mem_range.2 hk,rfl⟩⟩
theorem Qiz {cs:List Cabin} {i:Nat} (hi:i < cs.length):(ZK cs).getD i 0=(cs.getD i default).beds.toNat:=by
 simp [ZK,List.getD_eq_getElem?_getD,hi]
def VB (p:Tk→Bool) (l:List Tk):Int:=match l.findIdx? p with
 |some i=>(i:Int)
 |none=>-1
theorem QgP {p:Tk→Bool} {l:List Tk} {k:Nat} (hk:k < l.length) (h:∀ j,j < k→p (l.getD j default)=false) (hp:p (l.getD k default)=true):VB p l=(k:Int):=by
 have:l.findIdx? p=some k:=by
  rw [List.findIdx?_eq_some_iff_getElem]
  refine ⟨hk,by simpa [List.getD_eq_getElem?_getD,hk] using hp,fun j hj=>?_⟩
  have:=h j hj
  simpa [List.getD_eq_getElem?_getD,show j < l.length by omega] using this
 simp [VB,this]
theorem Qdm {p:Tk→Bool} {l:List Tk} (h:∀ j,j < l.length→p (l.getD j default)=false):VB p l=-1:=by
 have:l.findIdx? p=none:=by
  rw [List.findIdx?_eq_none_iff]
  intro x hx
  obtain ⟨j,hj,rfl⟩:=List.mem_iff_getElem.1 hx
  have:=h j hj
  simpa [List.getD_eq_getElem?_getD,hj] using this
 simp [VB,this]
theorem LA (p:Tk→Bool) (l:List Tk):decide (0≤VB p l)=l.any p:=by
 unfold VB
 cases h:l.findIdx? p with
 |none =>
  rw [List.findIdx?_eq_none_iff] at h
  symm
  simpa using h
 |some i =>
  rw [List.findIdx?_eq_some_iff_getElem] at h
  obtain ⟨hi,hp,_⟩:=h
  symm
  simp only [Int.natCast_nonneg,decide_true,List.any_eq_true]
  exact ⟨_,List.getElem_mem hi,hp⟩
structure PCs (cs:List AV):Prop where
 ids:AV.idsL cs=[]
 le:∀ h σ,AV.leL h σ cs cs=True
 ren:∀ τ,AV.renL τ cs=cs
theorem QfO (t:Tk):PCs (cTk t):=⟨by simp [cTk,AV.idsL,AV.ids],by simp [cTk,AV.leL,AV.le],by simp [cTk,AV.renL,AV.ren]⟩
def pTk (cs:List AV) (p:Tk→Bool) (S:St):List AV→Option Pk
 |[.agg [.v (.int .i64 a),.v (.int .i64 b),.v (.int .i64 c),.v (.int .i64 d),.v (.int .i64 e),.v (.int .i64 f),.v (.bool g)],.ptr t 0]=>match S.h t with
  |some (.cells cs')=>some { pre:=cs'=cs,hs:=[t],ar:=[.agg [.v (.int .i64 a),.v (.int .i64 b),.v (.int .i64 c),.v (.int .i64 d),.v (.int .i64 e),.v (.int .i64 f),.v (.bool g)],.ptr 0 0],L0:=[.cells cs],v:=aB (p ⟨a,b,c,d,e,f,g⟩),L1:=[some (.cells cs)] }
  |_=>none
 |_=>none
def Jk (cl:Nat) (cs:List AV) (p:Tk→Bool):Prop:=∀ x,Fn noB Tryz.prog cl [aTk x,.ptr 0 0] (qj [(0,.cells cs)]) (aB (p x)) (qj [(0,.cells cs)]) 0
theorem eTkp {A:Frm→Prop} {cl:Nat} {cs:List AV} {p:Tk→Bool} (h0:Jk cl cs p):qC A Tryz.prog cl (fnE (pTk cs p)):=wK fun S bs q h hp=>by
 unfold pTk at h
 split at h
 ·split at h
  ·rename_i a b c d e f g t _ cs' _
   cases h
   exact h0 ⟨a,b,c,d,e,f,g⟩
  ·cases h
 ·cases h
def ixS (l:List Tk) (cl:Nat) (cs:List AV) (k:Nat):St:={ t:=asg [(0,qw l),(1,.clo cl [.ptr 0 0]),(4,aI 0),(6,qw l),(7,aI l.length),(8,aI k)],h:=qj [(0,.cells cs)],n:=1,m:=1 }
def jW:=kk @ty3 (kk @QV (kk @xB (kk @ti3.eq_1 (kk @Qh.eq_1 @vJ.eq_1))))
def QT:=kk @aI.eq_1 (kk @aB.eq_1 (@ixS.eq_1))
theorem LB {cl:Nat} {cs:List AV} {p:Tk→Bool} (hc:PCs cs) (h0:Jk cl cs p) (l:List Tk) (hl:l.length≤100):Fn noB Tryz.prog 80 [qw l,.clo cl [.ptr 0 0]] (qj [(0,.cells cs)]) (aI (VB p l)) (qj [(0,.cells cs)]) 0:=by
 have env:Env (fun _=>True) Tryz.prog tyB (tab [(cl,fnE (pTk cs p))]):=qO ⟨eTkp h0,trivial⟩
 obtain ⟨c1,c2,c4⟩:=hc
 refine Fn.of (A:=fun _=>True) (n0:=1) (D:=noD) (Fn0 Tryz.func80 rfl (fun vs w=>by kernel_rfl) (by kernel_rfl)) (by simp) (by simp [AV.ids,AV.idsL,qw]) ?_ (fun _ _ _ _=>trivial) qG ?_
 ·intro i o hi
  have h:=qQ hi
  simp at h;obtain ⟨rfl,rfl⟩:=h;simp [AObj.ids,c1]
 repeat' (first|(apply nx;with_reducible constructor)|refine jq (by decide) ?_|((first|refine kz env fun Q hQ=>?_|refine kj fun Q hQ=>?_);simp only [vkt,seval,jW,QT,aTk,cTk,qw,eTk,gTk,mTk,pTk];(try simp only [ite_and]);(repeat' (first|with_reducible assumption|refine And.intro ?_ ?_|intro hp));all_goals (first|(refine hQ _ ?_;clear hQ Q)|(refine hQ _ (fun h=>?_) (fun h=>?_) <;> clear hQ Q <;> (try simp only [vki,reduceCtorEq] at h))|(refine kx ?_;kernel_rfl)|omega|assumption|with_reducible rfl|skip)))
 refine zt (fun k:{ k:Nat // k≤l.length∧∀ j,j < k→p (l.getD j default)=false }=>ixS l cl cs k.1) (fun k=>l.length - k.1) ⟨0,Nat.zero_le _,fun j h=>absurd h (Nat.not_lt_zero _)⟩ ?_ fun ⟨k,hk,hno⟩=>?_
 ·(refine Le.ok some [] ?_;constructor;all_goals (try simp only [vle,vkt,seval,jW,QT,aTk,cTk,qw,eTk,gTk,mTk,pTk]))
  all_goals first|rfl|(simp [c1,c2];done)
 ·repeat' (first|(apply nx;with_reducible constructor)|refine jq (by decide) ?_)
  (refine kz env fun Q hQ=>?_;simp only [vkt,seval,jW,QT,aTk,cTk,qw,eTk,gTk,mTk,pTk];(try simp only [ite_and]);(repeat' (first|with_reducible assumption|refine And.intro ?_ ?_|intro hp));all_goals (first|(refine hQ _ ?_;clear hQ Q)|(refine kx ?_;kernel_rfl)|omega|assumption|with_reducible rfl|skip))
  repeat' (first|(apply nx;with_reducible constructor)|refine jq (by decide) ?_)
  (refine yf (by simp only [vkt,seval,jW,QT,aTk,cTk,qw,eTk,gTk,mTk,pTk];rfl) (fun h=>?_) (fun h=>?_) <;> (try simp only [vki,reduceCtorEq] at h))
  ·have hlt:k < l.length:=by omega
   have e9:IntKind.wrap .i64 ((k:Int)+1)=((k+1:Nat):Int):=by rw [wrap64 (by omega) (by omega)];rfl
   obtain ⟨x,hx⟩:∃ x,l.getD k default=x:=⟨_,rfl⟩
   have ex:(⟨x.party,x.sex,x.cab,x.bed,x.frm,x.to,x.dog⟩:Tk)=x:=rfl
   cases hp:p x
   ·repeat' (first|(apply nx;with_reducible constructor)|refine jq (by decide) ?_|((first|refine kz env fun Q hQ=>?_|refine kj fun Q hQ=>?_);simp only [vkt,seval,jW,QT,aTk,cTk,qw,eTk,gTk,mTk,pTk,hx,ex,hp,e9,c1,c2,c4];(try simp only [ite_and]);(repeat' (first|with_reducible assumption|refine And.intro ?_ ?_|intro hp));all_goals (first|(refine hQ _ ?_;clear hQ Q)|(refine hQ _ (fun h=>?_) (fun h=>?_) <;> clear hQ Q <;> (try simp only [vki,reduceCtorEq] at h))|(refine kx ?_;kernel_rfl)|omega|assumption|with_reducible rfl|skip)))
    refine ⟨⟨k+1,hlt,fun j hj=>?_⟩,by show l.length - (k+1) < l.length - k;omega, ?_⟩
    ·rcases Nat.lt_or_eq_of_le (Nat.le_of_lt_succ hj) with h1|h1
     ·exact hno j h1
     ·rw [h1,hx];exact hp
    ·(refine Le.ok some [] ?_;constructor;all_goals (try simp only [vle,vkt,seval,jW,QT,aTk,cTk,qw,eTk,gTk,mTk,pTk]))
     all_goals first|rfl|(simp [c1,c2];done)
   ·have hh:=QgP hlt hno (by rw [hx];exact hp)
    rw [hh]
    repeat' (first|(apply nx;with_reducible constructor)|refine jq (by decide) ?_|((first|refine kz env fun Q hQ=>?_|refine kj fun Q hQ=>?_);simp only [vkt,seval,jW,QT,aTk,cTk,qw,eTk,gTk,mTk,pTk,hx,ex,hp,e9,c1,c2,c4];(try simp only [ite_and]);(repeat' (first|with_reducible assumption|refine And.intro ?_ ?_|intro hp));all_goals (first|(refine hQ _ ?_;clear hQ Q)|(refine hQ _ (fun h=>?_) (fun h=>?_) <;> clear hQ Q <;> (try simp only [vki,reduceCtorEq] at h))|(refine kx ?_;kernel_rfl)|omega|assumption|with_reducible rfl|skip)))
    (simp only [vrt,Tryz.results80,c1,c2,vkt,seval,jW,QT,aTk,cTk,qw,eTk,gTk,mTk,pTk];refine Fin.ok some [] ?_ ?_ ?_ ?_ ?_ rfl;all_goals (try simp only [vle,vkt,seval,jW,QT,aTk,cTk,qw,eTk,gTk,mTk,pTk]))
    all_goals first|rfl|(simp [c1,c2];done)
  ·have hke:k=l.length:=by omega
   subst hke
   rw [Qdm hno]
   repeat' (first|(apply nx;with_reducible constructor)|refine jq (by decide) ?_|((first|refine kz env fun Q hQ=>?_|refine kj fun Q hQ=>?_);simp only [vkt,seval,jW,QT,aTk,cTk,qw,eTk,gTk,mTk,pTk,c1,c2];(try simp only [ite_and]);(repeat' (first|with_reducible assumption|refine And.intro ?_ ?_|intro hp));all_goals (first|(refine hQ _ ?_;clear hQ Q)|(refine hQ _ (fun h=>?_) (fun h=>?_) <;> clear hQ Q <;> (try simp only [vki,reduceCtorEq] at h))|(refine kx ?_;kernel_rfl)|omega|assumption|with_reducible rfl|skip)))
   (simp only [vrt,Tryz.results80,c1,c2,vkt,seval,jW,QT,aTk,cTk,qw,eTk,gTk,mTk,pTk];refine Fin.ok some [] ?_ ?_ ?_ ?_ ?_ rfl;all_goals (try simp only [vle,vkt,seval,jW,QT,aTk,cTk,qw,eTk,gTk,mTk,pTk]))
   all_goals first|rfl|(simp [c1,c2];done)
def Qem (cl:Nat) (cs:List AV) (p:Tk→Bool) (S:St):List AV→Option Pk
 |[.sl xs,.clo f [.ptr t 0]]=>match S.h t with
  |some (.cells cs')=>some { pre:=f=cl∧cs'=cs∧xs=(xs.map dTk).map eTk∧xs.length≤100,hs:=[t],ar:=[.sl xs,.clo cl [.ptr 0 0]],L0:=[.cells cs],v:=aI (VB p (xs.map dTk)),L1:=[some (.cells cs)] }
  |_=>none
 |_=>none
theorem eIdx {A:Frm→Prop} {cl:Nat} {cs:List AV} {p:Tk→Bool} (hc:PCs cs) (h0:Jk cl cs p):qC A Tryz.prog 80 (fnE (Qem cl cs p)):=wK fun S bs q h hp=>by
 unfold Qem at h
 split at h
 ·split at h
  ·cases h
   obtain ⟨_,_,h1,h2⟩:=hp
   have:=LB hc h0 (List.map dTk _) (by rw [List.length_map];exact h2)
   rw [qw,← h1] at this
   exact this
  ·cases h
 ·cases h
def YO:=kk @ty3 @ti3.eq_1
def QbG:=kk @aI.eq_1 (@aB.eq_1)
theorem Rz {cl:Nat} {cs:List AV} {p:Tk→Bool} (hc:PCs cs) (h0:Jk cl cs p) (l:List Tk) (hl:l.length≤100):Fn noB Tryz.prog 72 [qw l,.clo cl [.ptr 0 0]] (qj [(0,.cells cs)]) (aB (l.any p)) (qj [(0,.cells cs)]) 0:=by
 have env:Env (fun _=>True) Tryz.prog tyB (tab [(80,fnE (Qem cl cs p))]):=qO ⟨eIdx hc h0,trivial⟩
 obtain ⟨c1,c2,c4⟩:=hc
 refine Fn.of (A:=fun _=>True) (n0:=1) (D:=noD) (Fn0 Tryz.func72 rfl (fun vs w=>by kernel_rfl) (by kernel_rfl)) (by simp) (by simp [AV.ids,AV.idsL,qw]) ?_ (fun _ _ _ _=>trivial) qG ?_
 ·intro i o hi
  have h:=qQ hi
  simp at h;obtain ⟨rfl,rfl⟩:=h;simp [AObj.ids,c1]
 repeat' (first|(apply nx;with_reducible constructor)|refine jq (by decide) ?_|((first|refine kz env fun Q hQ=>?_|refine kj fun Q hQ=>?_);simp only [vkt,seval,YO,QbG,qw,eTk,mTk,Qem,List.length_map,c1,c2,c4];(try simp only [ite_and]);(repeat' (first|with_reducible assumption|refine And.intro ?_ ?_|intro hp));all_goals (first|(refine hQ _ ?_;clear hQ Q)|(refine hQ _ (fun h=>?_) (fun h=>?_) <;> clear hQ Q <;> (try simp only [vki,reduceCtorEq] at h))|(refine kx ?_;kernel_rfl)|omega|assumption|with_reducible rfl|skip)))
 (simp only [vrt,Tryz.results72,LA,c1,c2,vkt,seval,YO,QbG,qw,eTk,mTk,Qem,List.length_map];refine Fin.ok some [] ?_ ?_ ?_ ?_ ?_ rfl;all_goals (try simp only [vle,vkt,seval,YO,QbG,qw,eTk,mTk,Qem,List.length_map]))
 all_goals first|rfl|(simp [c1,c2];done)
def Vg:=kk @QU (kk @xB (kk @Qi.eq_1 @vJ.eq_1))
def Y5:=kk @aI.eq_1 (@aB.eq_1)
theorem QhN (t:Tk):Jk 85 (cTk t) (YT t):=fun x=>by
 have env:Env (fun _=>True) Tryz.prog tyB (tab [(86,za true WJ)]):=qO ⟨Qi6,trivial⟩
 refine Fn.of (A:=fun _=>True) (n0:=1) (D:=noD) (Fn0 Tryz.func85 rfl (fun vs w=>by kernel_rfl) (by kernel_rfl)) (by simp) (by simp [AV.ids,AV.idsL,aTk,cTk]) ?_ (fun _ _ _ _=>trivial) qG ?_
 ·intro i o hi
  have h:=qQ hi
  simp at h;obtain ⟨rfl,rfl⟩:=h;simp [cTk,AObj.ids,AV.ids,AV.idsL]
 have em:Yt ⟨x.party,x.sex,x.cab,x.bed,x.frm,x.to,x.dog⟩ ⟨t.party,t.sex,t.cab,t.bed,t.frm,t.to,t.dog⟩=Yt x t:=rfl
 repeat' (first|(apply nx;with_reducible constructor)|refine jq (by decide) ?_|((first|refine kz env fun Q hQ=>?_|refine kj fun Q hQ=>?_);simp only [vkt,seval,Vg,Y5,aTk,cTk,WJ,RQ,em];(try simp only [ite_and]);(repeat' (first|with_reducible assumption|refine And.intro ?_ ?_|intro hp));all_goals (first|(refine hQ _ ?_;clear hQ Q)|(refine hQ _ (fun h=>?_) (fun h=>?_) <;> clear hQ Q <;> (try simp only [vki,reduceCtorEq] at h))|(refine kx ?_;kernel_rfl)|omega|assumption|with_reducible rfl|skip)))
 all_goals (simp only [vrt,Tryz.results85,vkt,seval,Vg,Y5,aTk,cTk,WJ,RQ];refine Fin.ok some [] ?_ ?_ ?_ ?_ ?_ rfl;all_goals (try simp only [vle,vkt,seval,Vg,Y5,aTk,cTk,WJ,RQ]))
 all_goals first|rfl|(simp [YT, *];done)|(simp_all [YT];done)
def Y3:=kk @xB @vJ.eq_1
theorem Qii (t:Tk):Jk 87 (cTk t) (fun x=>!X8 x t):=fun x=>by
 have env:Env (fun _=>True) Tryz.prog tyB (tab [(88,za true RQ)]):=qO ⟨etog,trivial⟩
 refine Fn.of (A:=fun _=>True) (n0:=1) (D:=noD) (Fn0 Tryz.func87 rfl (fun vs w=>by kernel_rfl) (by kernel_rfl)) (by simp) (by simp [AV.ids,AV.idsL,aTk,cTk]) ?_ (fun _ _ _ _=>trivial) qG ?_
 ·intro i o hi
  have h:=qQ hi
  simp at h;obtain ⟨rfl,rfl⟩:=h;simp [cTk,AObj.ids,AV.ids,AV.idsL]
 have em:X8 ⟨x.party,x.sex,x.cab,x.bed,x.frm,x.to,x.dog⟩ ⟨t.party,t.sex,t.cab,t.bed,t.frm,t.to,t.dog⟩=X8 x t:=rfl
 repeat' (first|(apply nx;with_reducible constructor)|refine jq (by decide) ?_|((first|refine kz env fun Q hQ=>?_|refine kj fun Q hQ=>?_);simp only [vkt,seval,Y3,Y5,aTk,cTk,WJ,RQ,em];(try simp only [ite_and]);(repeat' (first|with_reducible assumption|refine And.intro ?_ ?_|intro hp));all_goals (first|(refine hQ _ ?_;clear hQ Q)|(refine hQ _ (fun h=>?_) (fun h=>?_) <;> clear hQ Q <;> (try simp only [vki,reduceCtorEq] at h))|(refine kx ?_;kernel_rfl)|omega|assumption|with_reducible rfl|skip)))
 all_goals (simp only [vrt,Tryz.results87,vkt,seval,Y3,Y5,aTk,cTk,WJ,RQ];refine Fin.ok some [] ?_ ?_ ?_ ?_ ?_ rfl;all_goals (try simp only [vle,vkt,seval,Y3,Y5,aTk,cTk,WJ,RQ]))
 all_goals first|rfl|(simp;done)
def Yz (S:St):List AV→Option Pk
 |[.sl xs,.clo 85 [.ptr t 0]]=>match S.h t with
  |some (.cells [.v (.int .i64 a),.v (.int .i64 b),.v (.int .i64 c),.v (.int .i64 d),.v (.int .i64 e),.v (.int .i64 f),.v (.bool g)])=>some { pre:=xs=(xs.map dTk).map eTk∧xs.length≤100,hs:=[t],ar:=[.sl xs,.clo 85 [.ptr 0 0]],L0:=[.cells (cTk ⟨a,b,c,d,e,f,g⟩)],v:=aB ((xs.map dTk).any (YT ⟨a,b,c,d,e,f,g⟩)),L1:=[some (.cells (cTk ⟨a,b,c,d,e,f,g⟩))] }
  |_=>none
 |[.sl xs,.clo 87 [.ptr t 0]]=>match S.h t with
  |some (.cells [.v (.int .i64 a),.v (.int .i64 b),.v (.int .i64 c),.v (.int .i64 d),.v (.int .i64 e),.v (.int .i64 f),.v (.bool g)])=>some { pre:=xs=(xs.map dTk).map eTk∧xs.length≤100,hs:=[t],ar:=[.sl xs,.clo 87 [.ptr 0 0]],L0:=[.cells (cTk ⟨a,b,c,d,e,f,g⟩)],v:=aB ((xs.map dTk).any fun x=>!X8 x ⟨a,b,c,d,e,f,g⟩),L1:=[some (.cells (cTk ⟨a,b,c,d,e,f,g⟩))] }
  |_=>none
 |_=>none
theorem eCont {A:Frm→Prop}:qC A Tryz.prog 72 (fnE Yz):=wK fun S bs q h hp=>by
 unfold Yz at h
 split at h
 ·split at h
  ·rename_i xs t _ a b c d e f g _
   cases h
   obtain ⟨h1,h2⟩:=hp
   have:=Rz (QfO ⟨a,b,c,d,e,f,g⟩) (QhN ⟨a,b,c,d,e,f,g⟩) (xs.map dTk) (by rw [List.length_map];exact h2)
   rw [qw,← h1] at this
   exact this
  ·cases h
 ·split at h
  ·rename_i xs t _ a b c d e f g _
   cases h
   obtain ⟨h1,h2⟩:=hp
   have:=Rz (QfO ⟨a,b,c,d,e,f,g⟩) (Qii ⟨a,b,c,d,e,f,g⟩) (xs.map dTk) (by rw [List.length_map];exact h2)
   rw [qw,← h1] at this
   exact this
  ·cases h
 ·cases h
def YN:=kk @aI.eq_1 (@aB.eq_1)
theorem Qed (t:Tk) (l:List Tk) (hl:l.length≤100):FnV Tryz.prog 64 [aTk t,qw l] (aI (yC t l)):=by
 have env:Env (fun _=>True) Tryz.prog tyB (tab [(72,fnE Yz)]):=qO ⟨eCont,trivial⟩
 refine Fn.of (A:=fun _=>True) (n0:=0) (D:=noD) (Fn0 Tryz.func64 rfl (fun vs w=>by kernel_rfl) (by kernel_rfl)) (by simp) (by simp [AV.ids,AV.idsL,aTk,cTk,qw]) (fun i o h=>by cases h) (fun _ _ _ _=>trivial) qG ?_
 have et:(⟨t.party,t.sex,t.cab,t.bed,t.frm,t.to,t.dog⟩:Tk)=t:=rfl
 cases h1:l.any (YT t)
 ·cases h2:l.any (fun x=>!X8 x t)
  ·rw [show yC t l=0 by simp [yC,h1,h2]]
   repeat' (first|(apply nx;with_reducible constructor)|refine jq (by decide) ?_|((first|refine kz env fun Q hQ=>?_|refine kj fun Q hQ=>?_);simp only [vkt,seval,YN,aTk,cTk,qw,eTk,mTk,Yz,List.length_map,et,h1,h2];(try simp only [ite_and]);(repeat' (first|with_reducible assumption|refine And.intro ?_ ?_|intro hp));all_goals (first|(refine hQ _ ?_;clear hQ Q)|(refine hQ _ (fun h=>?_) (fun h=>?_) <;> clear hQ Q <;> (try simp only [vki,reduceCtorEq] at h))|(refine kx ?_;kernel_rfl)|omega|assumption|with_reducible rfl|skip)))
   (simp only [vrt,Tryz.results64,vkt,seval,YN,aTk,cTk,qw,eTk,mTk,Yz,List.length_map];refine Fin.val rfl ?_;(try simp only [AV.le,AV.leL]))
   all_goals first|rfl|(simp;done)
  ·rw [show yC t l=9 by simp [yC,h1,h2]]
   repeat' (first|(apply nx;with_reducible constructor)|refine jq (by decide) ?_|((first|refine kz env fun Q hQ=>?_|refine kj fun Q hQ=>?_);simp only [vkt,seval,YN,aTk,cTk,qw,eTk,mTk,Yz,List.length_map,et,h1,h2];(try simp only [ite_and]);(repeat' (first|with_reducible assumption|refine And.intro ?_ ?_|intro hp));all_goals (first|(refine hQ _ ?_;clear hQ Q)|(refine hQ _ (fun h=>?_) (fun h=>?_) <;> clear hQ Q <;> (try simp only [vki,reduceCtorEq] at h))|(refine kx ?_;kernel_rfl)|omega|assumption|with_reducible rfl|skip)))
   (simp only [vrt,Tryz.results64,vkt,seval,YN,aTk,cTk,qw,eTk,mTk,Yz,List.length_map];refine Fin.val rfl ?_;(try simp only [AV.le,AV.leL]))
   all_goals first|rfl|(simp;done)
 ·rw [show yC t l=4 by simp [yC,h1]]
  repeat' (first|(apply nx;with_reducible constructor)|refine jq (by decide) ?_|((first|refine kz env fun Q hQ=>?_|refine kj fun Q hQ=>?_);simp only [vkt,seval,YN,aTk,cTk,qw,eTk,mTk,Yz,List.length_map,et,h1];(try simp only [ite_and]);(repeat' (first|with_reducible assumption|refine And.intro ?_ ?_|intro hp));all_goals (first|(refine hQ _ ?_;clear hQ Q)|(refine hQ _ (fun h=>?_) (fun h=>?_) <;> clear hQ Q <;> (try simp only [vki,reduceCtorEq] at h))|(refine kx ?_;kernel_rfl)|omega|assumption|with_reducible rfl|skip)))
  (simp only [vrt,Tryz.results64,vkt,seval,YN,aTk,cTk,qw,eTk,mTk,Yz,List.length_map];refine Fin.val rfl ?_;(try simp only [AV.le,AV.leL]))
  all_goals first|rfl|(simp;done)
def j5:List AV→Prop × AV
 |[.agg [.v (.int .i64 t0),.v (.int .i64 t1),.v (.int .i64 t2),.v (.int .i64 t3),.v (.int .i64 t4),.v (.int .i64 t5),.v (.bool t6)],.sl l]=>(l=(l.map dTk).map eTk∧(l.map dTk).length≤100,aI (yC (⟨t0,t1,t2,t3,t4,t5,t6⟩:Tk) (l.map dTk)))
 |_=>(False,.junk)
theorem QcF {A:Frm→Prop}:qC A Tryz.prog 64 (za true j5):=zx fun vs hv h=>by
 clear hv
 unfold j5 at h ⊢
 split at h
 ·rename_i t0 t1 t2 t3 t4 t5 t6 l;obtain ⟨q0,k0⟩:=h
  refine ⟨by first|trivial|(simp [AV.plain,AV.plainL,aI,aB,qD,qd,qw,qh,aTk,cTk];done)|(repeat' split) <;> simp [AV.plain,AV.plainL,aI,aB,qD,qd,qw,qh,aTk,cTk],fun _=>(by simp [AV.flat,AV.flatL,aI,aB]), ?_⟩
  have:=Qed (⟨t0,t1,t2,t3,t4,t5,t6⟩:Tk) (l.map dTk) k0
  simp only [aB,aI,aTk,qw,cTk,← q0] at this
  first|exact this|(simp only [aB,aI,aTk,qw,cTk,← q0];exact this)
 ·exact h.elim
theorem mapD {α:Type} [Inhabited α] {f:α→Int} {l:List α} {j:Nat} (h:j < l.length):(l.map f).getD j 0=f (l.getD j default):=by simp [List.getD_eq_getElem?_getD,h]
theorem rngD {f:Nat→Int} {n j:Nat} (h:j < n):((List.range n).map f).getD j 0=f j:=by simp [List.getD_eq_getElem?_getD,h]
def crS (c:Chart) (k:Nat):St:={ t:=asg [(1,.ptr 0 0),(2,aI 0),(14,.sl (c.cabins.map qo)),(15,aI c.cabins.length),(16,aI k)],h:=qj [(0,.cells (qb c))],n:=1 }
def yK:=kk @ty3 (kk @VD (kk @QV (kk @xg (kk @xB (kk @Zu (kk @VC (kk @ti3.eq_1 (kk @JR.eq_1 (kk @Qh.eq_1 (kk @y9.eq_1 (kk @vJ.eq_1 (kk @QP.eq_1 @J4.eq_1))))))))))))
def kK:=kk @aI.eq_1 (@aB.eq_1)
theorem Qjt (c:Chart) (hc:c.cabins.length≤maxLen):FnV Tryz.prog 28 [qa c] (aI (JL c)):=by
 have env:Env (fun _=>True) Tryz.prog tyB (tab [(42,za true sin),(46,za true qI)]):=qO ⟨ein,VQ,trivial⟩
 refine Fn.of (A:=fun _=>True) (n0:=0) (D:=noD) (Fn0 Tryz.func28 rfl (fun vs w=>by kernel_rfl) (by kernel_rfl)) (by simp) (by simp [AV.ids,AV.idsL,qa,qb]) (fun i o h=>by cases h) (fun _ _ _ _=>trivial) qG ?_
 by_cases h1:je c.cabins.length 1 3=0
 ·have hl:c.cabins.length≤3:=by
   unfold je at h1
   split at h1
   ·exact absurd h1 (by decide)
   ·split at h1
    ·exact absurd h1 (by decide)
    ·omega
  repeat' (first|(apply nx;with_reducible constructor)|refine jq (by decide) ?_|((first|refine kz env fun Q hQ=>?_|refine kj fun Q hQ=>?_);simp only [vkt,seval,yK,kK,qa,qb,qo,qZ,crS,sin,qI,h1];(try simp only [ite_and]);(repeat' (first|with_reducible assumption|refine And.intro ?_ ?_|intro hp));all_goals (first|(refine hQ _ ?_;clear hQ Q)|(refine hQ _ (fun h=>?_) (fun h=>?_) <;> clear hQ Q <;> (try simp only [vki,reduceCtorEq] at h))|(refine kx ?_;kernel_rfl)|omega|assumption|with_reducible rfl|skip)))
  refine zt (fun k:{ k:Nat // k≤c.cabins.length∧∀ j,j < k→(c.cabins.map VN).getD j 0=0 }=>crS c k.1) (fun k=>c.cabins.length - k.1) ⟨0,Nat.zero_le _,fun j h=>absurd h (Nat.not_lt_zero _)⟩ ?_ fun ⟨k,hk,hno⟩=>?_
  ·(refine Le.ok some [] ?_;constructor;all_goals (try simp only [vle,vkt,seval,yK,kK,qa,qb,qo,qZ,crS,sin,qI]))
   all_goals first|rfl|(simp;done)
  ·repeat' (first|(apply nx;with_reducible constructor)|refine jq (by decide) ?_)
   (refine kz env fun Q hQ=>?_;simp only [vkt,seval,yK,kK,qa,qb,qo,qZ,crS,sin,qI];(try simp only [ite_and]);(repeat' (first|with_reducible assumption|refine And.intro ?_ ?_|intro hp));all_goals (first|(refine hQ _ ?_;clear hQ Q)|(refine kx ?_;kernel_rfl)|omega|assumption|with_reducible rfl|skip))
   repeat' (first|(apply nx;with_reducible constructor)|refine jq (by decide) ?_)
   (refine yf (by simp only [vkt,seval,yK,kK,qa,qb,qo,qZ,crS,sin,qI];rfl) (fun h=>?_) (fun h=>?_) <;> (try simp only [vki,reduceCtorEq] at h))
   ·have hlt:k < c.cabins.length:=by omega
    have e9:IntKind.wrap .i64 ((k:Int)+1)=((k+1:Nat):Int):=by rw [wrap64 (by omega) (by omega)];rfl
    obtain ⟨x,hx⟩:∃ x,c.cabins.getD k default=x:=⟨_,rfl⟩
    have hm:(c.cabins.map VN).getD k 0=VN x:=by rw [mapD hlt,hx]
    cases hb:inB x.beds 1 3
    ·have hE:VN x=1:=by simp [VN,hb]
     have hf:=ZC hno (by simpa using hlt) (by rw [hm,hE];decide)
     rw [hm,hE] at hf
     rw [show JL c=1 by unfold JL;rw [if_neg (by rw [h1];simp),hf];simp]
     repeat' (first|(apply nx;with_reducible constructor)|refine jq (by decide) ?_|((first|refine kz env fun Q hQ=>?_|refine kj fun Q hQ=>?_);simp only [vkt,seval,yK,kK,qa,qb,qo,qZ,crS,sin,qI,hx,hb,e9];(try simp only [ite_and]);(repeat' (first|with_reducible assumption|refine And.intro ?_ ?_|intro hp));all_goals (first|(refine hQ _ ?_;clear hQ Q)|(refine hQ _ (fun h=>?_) (fun h=>?_) <;> clear hQ Q <;> (try simp only [vki,reduceCtorEq] at h))|(refine kx ?_;kernel_rfl)|omega|assumption|with_reducible rfl|skip)))
     (simp only [vrt,Tryz.results28,vkt,seval,yK,kK,qa,qb,qo,qZ,crS,sin,qI];refine Fin.val rfl ?_;(try simp only [AV.le,AV.leL]))
     all_goals first|rfl|(simp;done)
    ·have hE:VN x=0:=by simp [VN,hb]
     repeat' (first|(apply nx;with_reducible constructor)|refine jq (by decide) ?_|((first|refine kz env fun Q hQ=>?_|refine kj fun Q hQ=>?_);simp only [vkt,seval,yK,kK,qa,qb,qo,qZ,crS,sin,qI,hx,hb,e9];(try simp only [ite_and]);(repeat' (first|with_reducible assumption|refine And.intro ?_ ?_|intro hp));all_goals (first|(refine hQ _ ?_;clear hQ Q)|(refine hQ _ (fun h=>?_) (fun h=>?_) <;> clear hQ Q <;> (try simp only [vki,reduceCtorEq] at h))|(refine kx ?_;kernel_rfl)|omega|assumption|with_reducible rfl|skip)))
     refine ⟨⟨k+1,hlt,fun j hj=>?_⟩,by show c.cabins.length - (k+1) < c.cabins.length - k;omega, ?_⟩
     ·rcases Nat.lt_or_eq_of_le (Nat.le_of_lt_succ hj) with h2|h2
      ·exact hno j h2
      ·rw [h2,hm,hE]
     ·(refine Le.ok some [] ?_;constructor;all_goals (try simp only [vle,vkt,seval,yK,kK,qa,qb,qo,qZ,crS,sin,qI]))
      all_goals first|rfl|(simp;done)
   ·have hke:k=c.cabins.length:=by omega
    subst hke
    have hf:xf (c.cabins.map VN)=0:=Wx (by simpa using hno)
    cases hs:inB c.secs 1 5
    ·rw [show JL c=1 by unfold JL;rw [if_neg (by rw [h1];simp),if_neg (by rw [hf];simp),hs];rfl]
     repeat' (first|(apply nx;with_reducible constructor)|refine jq (by decide) ?_|((first|refine kz env fun Q hQ=>?_|refine kj fun Q hQ=>?_);simp only [vkt,seval,yK,kK,qa,qb,qo,qZ,crS,sin,qI,hs];(try simp only [ite_and]);(repeat' (first|with_reducible assumption|refine And.intro ?_ ?_|intro hp));all_goals (first|(refine hQ _ ?_;clear hQ Q)|(refine hQ _ (fun h=>?_) (fun h=>?_) <;> clear hQ Q <;> (try simp only [vki,reduceCtorEq] at h))|(refine kx ?_;kernel_rfl)|omega|assumption|with_reducible rfl|skip)))
     (simp only [vrt,Tryz.results28,vkt,seval,yK,kK,qa,qb,qo,qZ,crS,sin,qI];refine Fin.val rfl ?_;(try simp only [AV.le,AV.leL]))
     all_goals first|rfl|(simp;done)
    ·rw [show JL c=je c.sold.length 0 8 by unfold JL;rw [if_neg (by rw [h1];simp),if_neg (by rw [hf];simp),hs];rfl]
     repeat' (first|(apply nx;with_reducible constructor)|refine jq (by decide) ?_|((first|refine kz env fun Q hQ=>?_|refine kj fun Q hQ=>?_);simp only [vkt,seval,yK,kK,qa,qb,qo,qZ,crS,sin,qI,hs];(try simp only [ite_and]);(repeat' (first|with_reducible assumption|refine And.intro ?_ ?_|intro hp));all_goals (first|(refine hQ _ ?_;clear hQ Q)|(refine hQ _ (fun h=>?_) (fun h=>?_) <;> clear hQ Q <;> (try simp only [vki,reduceCtorEq] at h))|(refine kx ?_;kernel_rfl)|omega|assumption|with_reducible rfl|skip)))
     (simp only [vrt,Tryz.results28,vkt,seval,yK,kK,qa,qb,qo,qZ,crS,sin,qI];refine Fin.val rfl ?_;(try simp only [AV.le,AV.leL]))
     all_goals first|rfl|(simp;done)
 ·rw [show JL c=je c.cabins.length 1 3 by unfold JL;rw [if_pos h1]]
  repeat' (first|(apply nx;with_reducible constructor)|refine jq (by decide) ?_|((first|refine kz env fun Q hQ=>?_|refine kj fun Q hQ=>?_);simp only [vkt,seval,yK,kK,qa,qb,qo,qZ,crS,sin,qI,h1];(try simp only [ite_and]);(repeat' (first|with_reducible assumption|refine And.intro ?_ ?_|intro hp));all_goals (first|(refine hQ _ ?_;clear hQ Q)|(refine hQ _ (fun h=>?_) (fun h=>?_) <;> clear hQ Q <;> (try simp only [vki,reduceCtorEq] at h))|(refine kx ?_;kernel_rfl)|omega|assumption|with_reducible rfl|skip)))
  (simp only [vrt,Tryz.results28,vkt,seval,yK,kK,qa,qb,qo,qZ,crS,sin,qI];refine Fin.val rfl ?_;(try simp only [AV.le,AV.leL]))
  all_goals first|rfl|(simp;done)
def J9:List AV→Prop × AV
 |[.agg [.sl c0,.v (.int .i64 c1),.sl c2]]=>(c0=(c0.map qA).map qo∧c2=(c2.map dTk).map eTk∧c0.length≤maxLen,aI (JL (⟨(c0.map qA),c1,(c2.map dTk)⟩:Chart)))
 |_=>(False,.junk)
theorem ecar {A:Frm→Prop}:qC A Tryz.prog 28 (za true J9):=zx fun vs hv h=>by
 clear hv
 unfold J9 at h ⊢
 split at h
 ·rename_i c0 c1 c2;obtain ⟨q0,q1,k0⟩:=h
  refine ⟨by first|trivial|(simp [AV.plain,AV.plainL,aI,aB,qD,qd,qw,qh,aTk,cTk];done)|(repeat' split) <;> simp [AV.plain,AV.plainL,aI,aB,qD,qd,qw,qh,aTk,cTk],fun _=>(by simp [AV.flat,AV.flatL,aI,aB]), ?_⟩
  have:=Qjt (⟨(c0.map qA),c1,(c2.map dTk)⟩:Chart) (by simpa using k0)
  simp only [zb,qa,aI,qw,qb,← q0,← q1] at this
  first|exact this|(simp only [zb,qa,aI,qw,qb,← q0,← q1];exact this)
 ·exact h.elim
def jE:=kk @ty3 (kk @VD (kk @xg (kk @QU (kk @xB (kk @Zu (kk @VC (kk @ti3.eq_1 (kk @JR.eq_1 (kk @y9.eq_1 (kk @Qi.eq_1 (kk @vJ.eq_1 (kk @QP.eq_1 @J4.eq_1))))))))))))
def QO:=kk @aI.eq_1 (@aB.eq_1)
theorem Qdt (c:Chart) (t:Tk) (l:List Tk) (hc:CarOk c) (hl:l.length≤100):FnV Tryz.prog 29 [qa c,aTk t,qw l] (aI (yh c t l)):=by
 have env:Env (fun _=>True) Tryz.prog tyB (tab [(42,za true sin),(43,za true yc),(64,za true j5)]):=qO ⟨ein,eway,QcF,trivial⟩
 refine Fn.of (A:=fun _=>True) (n0:=0) (D:=noD) (Fn0 Tryz.func29 rfl (fun vs w=>by kernel_rfl) (by kernel_rfl)) (by simp) (by simp [AV.ids,AV.idsL,qa,qb,aTk,cTk,qw]) (fun i o h=>by cases h) (fun _ _ _ _=>trivial) qG ?_
 have hcl:=hc.cabs
 have et:(⟨t.party,t.sex,t.cab,t.bed,t.frm,t.to,t.dog⟩:Tk)=t:=rfl
 have w1:IntKind.wrap .i64 ((c.cabins.length:Int) - 1)=(c.cabins.length:Int) - 1:=wrap64 (by omega) (by omega)
 have rest:inB t.party 1 99=true→inB t.sex 1 2=true→Wq c.cabins t.cab t.bed=true→yh c t l=if WT c.secs t.frm t.to ≠ 0 then WT c.secs t.frm t.to else yC t l:=fun a1 a2 a3=>by
  unfold yh;simp [a1,a2,a3]
 cases h1:inB t.party 1 99
 ·rw [show yh c t l=1 by simp [yh,h1]]
  repeat' (first|(apply nx;with_reducible constructor)|refine jq (by decide) ?_|((first|refine kz env fun Q hQ=>?_|refine kj fun Q hQ=>?_);simp only [vkt,seval,jE,QO,qa,qb,aTk,cTk,qw,qo,qZ,qc,mTk,sin,yc,j5,List.length_map,h1,et];(try simp only [ite_and]);(repeat' (first|with_reducible assumption|refine And.intro ?_ ?_|intro hp));all_goals (first|(refine hQ _ ?_;clear hQ Q)|(refine hQ _ (fun h=>?_) (fun h=>?_) <;> clear hQ Q <;> (try simp only [vki,reduceCtorEq] at h))|(refine kx ?_;kernel_rfl)|omega|assumption|with_reducible rfl|skip)))
  (simp only [vrt,Tryz.results29,vkt,seval,jE,QO,qa,qb,aTk,cTk,qw,qo,qZ,qc,mTk,sin,yc,j5,List.length_map];refine Fin.val rfl ?_;(try simp only [AV.le,AV.leL]))
  all_goals first|rfl|(simp;done)
 cases h2:inB t.sex 1 2
 ·rw [show yh c t l=8 by simp [yh,h1,h2]]
  repeat' (first|(apply nx;with_reducible constructor)|refine jq (by decide) ?_|((first|refine kz env fun Q hQ=>?_|refine kj fun Q hQ=>?_);simp only [vkt,seval,jE,QO,qa,qb,aTk,cTk,qw,qo,qZ,qc,mTk,sin,yc,j5,List.length_map,h1,h2,et];(try simp only [ite_and]);(repeat' (first|with_reducible assumption|refine And.intro ?_ ?_|intro hp));all_goals (first|(refine hQ _ ?_;clear hQ Q)|(refine hQ _ (fun h=>?_) (fun h=>?_) <;> clear hQ Q <;> (try simp only [vki,reduceCtorEq] at h))|(refine kx ?_;kernel_rfl)|omega|assumption|with_reducible rfl|skip)))
  (simp only [vrt,Tryz.results29,vkt,seval,jE,QO,qa,qb,aTk,cTk,qw,qo,qZ,qc,mTk,sin,yc,j5,List.length_map];refine Fin.val rfl ?_;(try simp only [AV.le,AV.leL]))
  all_goals first|rfl|(simp;done)
 cases h3:inB t.cab 0 ((c.cabins.length:Int) - 1)
 ·rw [show yh c t l=3 by simp [yh,h1,h2,Wq,h3]]
  repeat' (first|(apply nx;with_reducible constructor)|refine jq (by decide) ?_|((first|refine kz env fun Q hQ=>?_|refine kj fun Q hQ=>?_);simp only [vkt,seval,jE,QO,qa,qb,aTk,cTk,qw,qo,qZ,qc,mTk,sin,yc,j5,List.length_map,h1,h2,h3,w1,et];(try simp only [ite_and]);(repeat' (first|with_reducible assumption|refine And.intro ?_ ?_|intro hp));all_goals (first|(refine hQ _ ?_;clear hQ Q)|(refine hQ _ (fun h=>?_) (fun h=>?_) <;> clear hQ Q <;> (try simp only [vki,reduceCtorEq] at h))|(refine kx ?_;kernel_rfl)|omega|assumption|with_reducible rfl|skip)))
  (simp only [vrt,Tryz.results29,vkt,seval,jE,QO,qa,qb,aTk,cTk,qw,qo,qZ,qc,mTk,sin,yc,j5,List.length_map];refine Fin.val rfl ?_;(try simp only [AV.le,AV.leL]))
  all_goals first|rfl|(simp;done)
 have b3:=Q5.1 h3
 have g1:0≤t.cab:=b3.1
 have g2:t.cab.toNat < c.cabins.length:=by omega
 obtain ⟨x,hx⟩:∃ x,c.cabins.getD t.cab.toNat default=x:=⟨_,rfl⟩
 have hxb:=hc.beds _ (xV (d:=default) g2)
 rw [hx] at hxb
 have w2:IntKind.wrap .i64 (x.beds - 1)=x.beds - 1:=wrap64 (by omega) (by omega)
 cases h4:inB t.bed 0 (x.beds - 1)
 ·rw [show yh c t l=3 by simp [-List.getD_eq_getElem?_getD,yh,h1,h2,Wq,h3,hx,h4]]
  repeat' (first|(apply nx;with_reducible constructor)|refine jq (by decide) ?_|((first|refine kz env fun Q hQ=>?_|refine kj fun Q hQ=>?_);simp only [vkt,seval,jE,QO,qa,qb,aTk,cTk,qw,qo,qZ,qc,mTk,sin,yc,j5,List.length_map,h1,h2,h3,h4,w1,w2,hx,g1,g2,et];(try simp only [ite_and]);(repeat' (first|with_reducible assumption|refine And.intro ?_ ?_|intro hp));all_goals (first|(refine hQ _ ?_;clear hQ Q)|(refine hQ _ (fun h=>?_) (fun h=>?_) <;> clear hQ Q <;> (try simp only [vki,reduceCtorEq] at h))|(refine kx ?_;kernel_rfl)|omega|assumption|with_reducible rfl|skip)))
  (simp only [vrt,Tryz.results29,vkt,seval,jE,QO,qa,qb,aTk,cTk,qw,qo,qZ,qc,mTk,sin,yc,j5,List.length_map];refine Fin.val rfl ?_;(try simp only [AV.le,AV.leL]))
  all_goals first|rfl|(simp;done)
 have hr:=rest h1 h2 (by simp [-List.getD_eq_getElem?_getD,Wq,h3,hx,h4])
 by_cases h5:WT c.secs t.frm t.to=0
 ·rw [if_neg (by rw [h5];simp)] at hr
  rw [hr]
  repeat' (first|(apply nx;with_reducible constructor)|refine jq (by decide) ?_|((first|refine kz env fun Q hQ=>?_|refine kj fun Q hQ=>?_);simp only [vkt,seval,jE,QO,qa,qb,aTk,cTk,qw,qo,qZ,qc,mTk,sin,yc,j5,List.length_map,h1,h2,h3,h4,h5,w1,w2,hx,g1,g2,et];(try simp only [ite_and]);(repeat' (first|with_reducible assumption|refine And.intro ?_ ?_|intro hp));all_goals (first|(refine hQ _ ?_;clear hQ Q)|(refine hQ _ (fun h=>?_) (fun h=>?_) <;> clear hQ Q <;> (try simp only [vki,reduceCtorEq] at h))|(refine kx ?_;kernel_rfl)|omega|assumption|with_reducible rfl|skip)))
  (simp only [vrt,Tryz.results29,vkt,seval,jE,QO,qa,qb,aTk,cTk,qw,qo,qZ,qc,mTk,sin,yc,j5,List.length_map];refine Fin.val rfl ?_;(try simp only [AV.le,AV.leL]))
  all_goals first|rfl|(simp;done)
 ·rw [if_pos h5] at hr
  rw [hr]
  repeat' (first|(apply nx;with_reducible constructor)|refine jq (by decide) ?_|((first|refine kz env fun Q hQ=>?_|refine kj fun Q hQ=>?_);simp only [vkt,seval,jE,QO,qa,qb,aTk,cTk,qw,qo,qZ,qc,mTk,sin,yc,j5,List.length_map,h1,h2,h3,h4,h5,w1,w2,hx,g1,g2,et];(try simp only [ite_and]);(repeat' (first|with_reducible assumption|refine And.intro ?_ ?_|intro hp));all_goals (first|(refine hQ _ ?_;clear hQ Q)|(refine hQ _ (fun h=>?_) (fun h=>?_) <;> clear hQ Q <;> (try simp only [vki,reduceCtorEq] at h))|(refine kx ?_;kernel_rfl)|omega|assumption|with_reducible rfl|skip)))
  (simp only [vrt,Tryz.results29,vkt,seval,jE,QO,qa,qb,aTk,cTk,qw,qo,qZ,qc,mTk,sin,yc,j5,List.length_map];refine Fin.val rfl ?_;(try simp only [AV.le,AV.leL]))
  all_goals first|rfl|(simp;done)
def vH:List AV→Prop × AV
 |[.agg [.sl c0,.v (.int .i64 c1),.sl c2],.agg [.v (.int .i64 t0),.v (.int .i64 t1),.v (.int .i64 t2),.v (.int .i64 t3),.v (.int .i64 t4),.v (.int .i64 t5),.v (.bool t6)],.sl l]=>(c0=(c0.map qA).map qo∧c2=(c2.map dTk).map eTk∧l=(l.map dTk).map eTk∧CarOk (⟨(c0.map qA),c1,(c2.map dTk)⟩:Chart)∧(l.map dTk).length≤100,aI (yh (⟨(c0.map qA),c1,(c2.map dTk)⟩:Chart) (⟨t0,t1,t2,t3,t4,t5,t6⟩:Tk) (l.map dTk)))
 |_=>(False,.junk)
theorem QhB {A:Frm→Prop}:qC A Tryz.prog 29 (za true vH):=zx fun vs hv h=>by
 clear hv
 unfold vH at h ⊢
 split at h
 ·rename_i c0 c1 c2 t0 t1 t2 t3 t4 t5 t6 l;obtain ⟨q0,q1,q2,k0,k1⟩:=h
  refine ⟨by first|trivial|(simp [AV.plain,AV.plainL,aI,aB,qD,qd,qw,qh,aTk,cTk];done)|(repeat' split) <;> simp [AV.plain,AV.plainL,aI,aB,qD,qd,qw,qh,aTk,cTk],fun _=>(by simp [AV.flat,AV.flatL,aI,aB]), ?_⟩
  have:=Qdt (⟨(c0.map qA),c1,(c2.map dTk)⟩:Chart) (⟨t0,t1,t2,t3,t4,t5,t6⟩:Tk) (l.map dTk) k0 k1
  simp only [aB,zb,qa,aI,aTk,qw,qb,cTk,← q0,← q1,← q2] at this
  first|exact this|(simp only [aB,zb,qa,aI,aTk,qw,qb,cTk,← q0,← q1,← q2];exact this)
 ·exact h.elim
def ckS (c:Chart) (k:Nat):St:={ t:=asg [(1,.ptr 0 0),(2,aI 0),(13,qw c.sold),(14,aI c.sold.length),(15,aI k)],h:=qj [(0,.cells (qb c))],n:=1 }
def j3:=kk @ty3 (kk @QV (kk @xg (kk @xB (kk @Zu (kk @ti3.eq_1 (kk @Qh.eq_1 (kk @y9.eq_1 (kk @vJ.eq_1 @QP.eq_1))))))))
def QR:=kk @aI.eq_1 (@aB.eq_1)
theorem Qfq (c:Chart) (hc:c.cabins.length≤maxLen):FnV Tryz.prog 7 [qa c] (aI (zS c)):=by
 have env:Env (fun _=>True) Tryz.prog tyB (tab [(28,za true J9),(29,za true vH)]):=qO ⟨ecar,QhB,trivial⟩
 refine Fn.of (A:=fun _=>True) (n0:=0) (D:=noD) (Fn0 Tryz.func7 rfl (fun vs w=>by kernel_rfl) (by kernel_rfl)) (by simp) (by simp [AV.ids,AV.idsL,qa,qb]) (fun i o h=>by cases h) (fun _ _ _ _=>trivial) qG ?_
 have ec:(⟨c.cabins,c.secs,c.sold⟩:Chart)=c:=rfl
 by_cases h1:JL c=0
 ·obtain ⟨hcar,hsl⟩:=QcT h1
  have hE:zS c=ZT c c.sold:=by unfold zS;rw [if_neg (by rw [h1];simp)]
  rw [hE]
  repeat' (first|(apply nx;with_reducible constructor)|refine jq (by decide) ?_|((first|refine kz env fun Q hQ=>?_|refine kj fun Q hQ=>?_);simp only [vkt,seval,j3,QR,qa,qb,aTk,cTk,qw,eTk,gTk,rTk,qc,mTk,ckS,J9,vH,List.length_map,h1,ec];(try simp only [ite_and]);(repeat' (first|with_reducible assumption|refine And.intro ?_ ?_|intro hp));all_goals (first|(refine hQ _ ?_;clear hQ Q)|(refine hQ _ (fun h=>?_) (fun h=>?_) <;> clear hQ Q <;> (try simp only [vki,reduceCtorEq] at h))|(refine kx ?_;kernel_rfl)|omega|assumption|with_reducible rfl|skip)))
  refine zt (fun k:{ k:Nat // k≤c.sold.length∧∀ j,j < k→yh c (c.sold.getD j default) (c.sold.take j)=0 }=>ckS c k.1) (fun k=>c.sold.length - k.1) ⟨0,Nat.zero_le _,fun j h=>absurd h (Nat.not_lt_zero _)⟩ ?_ fun ⟨k,hk,hno⟩=>?_
  ·(refine Le.ok some [] ?_;constructor;all_goals (try simp only [vle,vkt,seval,j3,QR,qa,qb,aTk,cTk,qw,eTk,gTk,rTk,qc,mTk,ckS,J9,vH,List.length_map]))
   all_goals first|rfl|(simp;done)
  ·repeat' (first|(apply nx;with_reducible constructor)|refine jq (by decide) ?_)
   (refine kz env fun Q hQ=>?_;simp only [vkt,seval,j3,QR,qa,qb,aTk,cTk,qw,eTk,gTk,rTk,qc,mTk,ckS,J9,vH,List.length_map];(try simp only [ite_and]);(repeat' (first|with_reducible assumption|refine And.intro ?_ ?_|intro hp));all_goals (first|(refine hQ _ ?_;clear hQ Q)|(refine kx ?_;kernel_rfl)|omega|assumption|with_reducible rfl|skip))
   repeat' (first|(apply nx;with_reducible constructor)|refine jq (by decide) ?_)
   (refine yf (by simp only [vkt,seval,j3,QR,qa,qb,aTk,cTk,qw,eTk,gTk,rTk,qc,mTk,ckS,J9,vH,List.length_map];rfl) (fun h=>?_) (fun h=>?_) <;> (try simp only [vki,reduceCtorEq] at h))
   ·have hlt:k < c.sold.length:=by omega
    have e9:IntKind.wrap .i64 ((k:Int)+1)=((k+1:Nat):Int):=by rw [wrap64 (by omega) (by omega)];rfl
    obtain ⟨x,hx⟩:∃ x,c.sold.getD k default=x:=⟨_,rfl⟩
    have ex:(⟨x.party,x.sex,x.cab,x.bed,x.frm,x.to,x.dog⟩:Tk)=x:=rfl
    have tk:List.take k (c.sold.map eTk)=(c.sold.take k).map eTk:=List.map_take.symm
    have t100:(c.sold.take k).length≤100:=by rw [List.length_take];omega
    have hcar':CarOk ⟨c.cabins,c.secs,c.sold⟩:=hcar
    have hg:=rngD (f:=fun i=>yh c (c.sold.getD i default) (c.sold.take i)) hlt
    by_cases h2:yh c x (c.sold.take k)=0
    ·repeat' (first|(apply nx;with_reducible constructor)|refine jq (by decide) ?_|((first|refine kz env fun Q hQ=>?_|refine kj fun Q hQ=>?_);simp only [vkt,seval,j3,QR,qa,qb,aTk,cTk,qw,eTk,gTk,rTk,qc,mTk,ckS,J9,vH,List.length_map,hx,ex,ec,tk,h2,e9];(try simp only [ite_and]);(repeat' (first|with_reducible assumption|refine And.intro ?_ ?_|intro hp));all_goals (first|(refine hQ _ ?_;clear hQ Q)|(refine hQ _ (fun h=>?_) (fun h=>?_) <;> clear hQ Q <;> (try simp only [vki,reduceCtorEq] at h))|(refine kx ?_;kernel_rfl)|omega|assumption|with_reducible rfl|skip)))
     refine ⟨⟨k+1,hlt,fun j hj=>?_⟩,by show c.sold.length - (k+1) < c.sold.length - k;omega, ?_⟩
     ·rcases Nat.lt_or_eq_of_le (Nat.le_of_lt_succ hj) with h3|h3
      ·exact hno j h3
      ·rw [h3,hx];exact h2
     ·(refine Le.ok some [] ?_;constructor;all_goals (try simp only [vle,vkt,seval,j3,QR,qa,qb,aTk,cTk,qw,eTk,gTk,rTk,qc,mTk,ckS,J9,vH,List.length_map]))
      all_goals first|rfl|(simp;done)
    ·have hf:ZT c c.sold=yh c x (c.sold.take k):=by
      unfold ZT
      rw [ZC (k:=k) (fun j hj=>by rw [rngD (by omega)];exact hno j hj) (by simpa using hlt) (by rw [hg,hx];exact h2),hg,hx]
     rw [hf]
     repeat' (first|(apply nx;with_reducible constructor)|refine jq (by decide) ?_|((first|refine kz env fun Q hQ=>?_|refine kj fun Q hQ=>?_);simp only [vkt,seval,j3,QR,qa,qb,aTk,cTk,qw,eTk,gTk,rTk,qc,mTk,ckS,J9,vH,List.length_map,hx,ex,ec,tk,h2,e9];(try simp only [ite_and]);(repeat' (first|with_reducible assumption|refine And.intro ?_ ?_|intro hp));all_goals (first|(refine hQ _ ?_;clear hQ Q)|(refine hQ _ (fun h=>?_) (fun h=>?_) <;> clear hQ Q <;> (try simp only [vki,reduceCtorEq] at h))|(refine kx ?_;kernel_rfl)|omega|assumption|with_reducible rfl|skip)))
     (simp only [vrt,Tryz.results7,vkt,seval,j3,QR,qa,qb,aTk,cTk,qw,eTk,gTk,rTk,qc,mTk,ckS,J9,vH,List.length_map];refine Fin.val rfl ?_;(try simp only [AV.le,AV.leL]))
     all_goals first|rfl|(simp;done)
   ·have hke:k=c.sold.length:=by omega
    subst hke
    rw [show ZT c c.sold=0 from Wx fun j hj=>by
     have hj':j < c.sold.length:=by simpa using hj
     rw [rngD hj'];exact hno j hj']
    repeat' (first|(apply nx;with_reducible constructor)|refine jq (by decide) ?_|((first|refine kz env fun Q hQ=>?_|refine kj fun Q hQ=>?_);simp only [vkt,seval,j3,QR,qa,qb,aTk,cTk,qw,eTk,gTk,rTk,qc,mTk,ckS,J9,vH,List.length_map];(try simp only [ite_and]);(repeat' (first|with_reducible assumption|refine And.intro ?_ ?_|intro hp));all_goals (first|(refine hQ _ ?_;clear hQ Q)|(refine hQ _ (fun h=>?_) (fun h=>?_) <;> clear hQ Q <;> (try simp only [vki,reduceCtorEq] at h))|(refine kx ?_;kernel_rfl)|omega|assumption|with_reducible rfl|skip)))
    (simp only [vrt,Tryz.results7,vkt,seval,j3,QR,qa,qb,aTk,cTk,qw,eTk,gTk,rTk,qc,mTk,ckS,J9,vH,List.length_map];refine Fin.val rfl ?_;(try simp only [AV.le,AV.leL]))
    all_goals first|rfl|(simp;done)
 ·have hE:zS c=JL c:=by unfold zS;rw [if_pos h1]
  rw [hE]
  repeat' (first|(apply nx;with_reducible constructor)|refine jq (by decide) ?_|((first|refine kz env fun Q hQ=>?_|refine kj fun Q hQ=>?_);simp only [vkt,seval,j3,QR,qa,qb,aTk,cTk,qw,eTk,gTk,rTk,qc,mTk,ckS,J9,vH,List.length_map,h1,ec];(try simp only [ite_and]);(repeat' (first|with_reducible assumption|refine And.intro ?_ ?_|intro hp));all_goals (first|(refine hQ _ ?_;clear hQ Q)|(refine hQ _ (fun h=>?_) (fun h=>?_) <;> clear hQ Q <;> (try simp only [vki,reduceCtorEq] at h))|(refine kx ?_;kernel_rfl)|omega|assumption|with_reducible rfl|skip)))
  (simp only [vrt,Tryz.results7,vkt,seval,j3,QR,qa,qb,aTk,cTk,qw,eTk,gTk,rTk,qc,mTk,ckS,J9,vH,List.length_map];refine Fin.val rfl ?_;(try simp only [AV.le,AV.leL]))
  all_goals first|rfl|(simp;done)
def qp:List AV→Prop × AV
 |[.agg [.sl c0,.v (.int .i64 c1),.sl c2]]=>(c0=(c0.map qA).map qo∧c2=(c2.map dTk).map eTk∧c0.length≤maxLen,aI (zS (⟨(c0.map qA),c1,(c2.map dTk)⟩:Chart)))
 |_=>(False,.junk)
theorem Zk {A:Frm→Prop}:qC A Tryz.prog 7 (za true qp):=zx fun vs hv h=>by
 clear hv
 unfold qp at h ⊢
 split at h
 ·rename_i c0 c1 c2;obtain ⟨q0,q1,k0⟩:=h
  refine ⟨by first|trivial|(simp [AV.plain,AV.plainL,aI,aB,qD,qd,qw,qh,aTk,cTk];done)|(repeat' split) <;> simp [AV.plain,AV.plainL,aI,aB,qD,qd,qw,qh,aTk,cTk],fun _=>(by simp [AV.flat,AV.flatL,aI,aB]), ?_⟩
  have:=Qfq (⟨(c0.map qA),c1,(c2.map dTk)⟩:Chart) (by simpa using k0)
  simp only [zb,qa,aI,qw,qb,← q0,← q1] at this
  first|exact this|(simp only [zb,qa,aI,qw,qb,← q0,← q1];exact this)
 ·exact h.elim
def buO (cs:List Cabin) (s:Int):AObj:=.cells [.sl (cs.map qo),.v (.int .i64 s),.any]
def buY (cs:List Cabin) (j:Nat):List AV:=[qh ((qV cs).getD j default)]
def bu1 (cs:List Cabin) (s:Int) (i j:Nat):St:={ t:=asg [(0,.cb),(1,.ptr 0 0),(7,.sl (cs.map qo)),(8,aI cs.length),(9,aI i)],h:=qj [(0,.cells [.sl (cs.map qo),.v (.int .i64 s),.any])],n:=1,j:=j,m:=1 }
def bu2 (cs:List Cabin) (s:Int) (i:Nat) (b:Int) (k j:Nat):St:={ t:=asg [(0,.cb),(1,.ptr 0 0),(3,aI i),(7,.sl (cs.map qo)),(8,aI cs.length),(9,aI i),(15,aI b),(16,aI k)],h:=qj [(0,.cells [.sl (cs.map qo),.v (.int .i64 s),.any])],n:=1,j:=j,m:=1 }
structure CabsOk (cs:List Cabin):Prop where
 len:cs.length≤1000
 beds:∀ x ∈ cs,x.beds≤1000
def wh:=kk @ty3 (kk @VD (kk @xg (kk @QU (kk @VC (kk @ti3.eq_1 (kk @JR.eq_1 (kk @y9.eq_1 (kk @Qi.eq_1 @J4.eq_1))))))))
def xk:=kk @aI.eq_1 (@aB.eq_1)
set_option maxHeartbeats 1000000 in
theorem Yj (cs:List Cabin) (s:Int) (hc:CabsOk cs):Iter Tryz.prog 66 [.cb,.ptr 0 0] (nth [buO cs s]) (buY cs) (qV cs).length (fun _=>nth [buO cs s]) fun _ _=>.tup []:=by
 intro ans R hr
 have e0:(nth [buO cs s])=qj (qH 0 [buO cs s]):=by
  funext i
  match i with
  |0=>rfl
  |i+1=>simp [nth,qH,qj]
 obtain ⟨A0,hA0⟩:∃ A0:Frm→Prop,A0=Acb Tryz.prog (qj (qH 0 [buO cs s])) (qj (qH 0 [buO cs s])) (buY cs) (fun _=>nth [buO cs s]) ans R:=⟨_,rfl⟩
 have hA:∀ F,A0 F→Acb Tryz.prog (qj (qH 0 [buO cs s])) (qj (qH 0 [buO cs s])) (buY cs) (fun _=>nth [buO cs s]) ans R F:=fun F h=>hA0 ▸ h
 have env:Env A0 Tryz.prog tyB (Go.Sym.tabC (cbX [0] (buY cs) (fun _=>[buO cs s]) ans R) []):=⟨Xy,RZ (fun S bs h hS ops o g args tys caps hw ho hg hb=>Y1 hA (fun i o hi=>by
  rw [jS] at hi
  cases i with
  |zero=>rfl
  |succ i=>simp at hi) (by simp) h hS hw ho hg hb) trivial,by kernel_rfl⟩
 rw [KG] at hr
 have hcl:=hc.len
 rw [e0]
 refine Fn.of (A:=A0) (n0:=1) (D:=noD) (Fn0 Tryz.func66 rfl (fun vs w=>by kernel_rfl) (by kernel_rfl)) (by simp) (by simp [AV.ids]) ?_ (fun F hb h0 _=>hA0 ▸ ⟨h0,fun i o hi=>⟨o,hi⟩,by rw [← e0] at hb ⊢;exact hb⟩) qG ?_
 ·intro i o hi
  have h:=qQ hi
  simp [qH,buO] at h;obtain ⟨rfl,rfl⟩:=h;simp [AObj.ids,AV.ids,AV.idsL]
 show Sym _ _ _ (zR [.cb,.ptr 0 0] 1 (qj [(0,.cells [.sl (cs.map qo),.v (.int .i64 s),.any])])) (vo tyB noD Tryz.f66 fun S rv=>Fin S rv (.tup []) 1 (qj [(0,.cells [.sl (cs.map qo),.v (.int .i64 s),.any])]) R)
 have eo:buO cs s=.cells [.sl (cs.map qo),.v (.int .i64 s),.any]:=rfl
 repeat' (first|(apply nx;with_reducible constructor)|refine jq (by decide) ?_|((first|refine kz env fun Q hQ=>?_|refine kj fun Q hQ=>?_);simp only [vkt,seval,wh,xk,qh,qo,qZ,bu1,bu2,Go.Sym.tabC,cbX,wM,qU,nth,hwL];(try simp only [ite_and]);(repeat' (first|with_reducible assumption|refine And.intro ?_ ?_|intro hp));all_goals (first|(refine hQ _ ?_;clear hQ Q)|(refine hQ _ (fun h=>?_) (fun h=>?_) <;> clear hQ Q <;> (try simp only [vki,reduceCtorEq] at h))|(refine kx ?_;kernel_rfl)|omega|assumption|with_reducible rfl|skip)))
 refine zt (fun x:{ x:Nat × Nat // x.1≤cs.length∧x.2=((ZK cs).take x.1).sum∧∀ q,q < x.2→ans q=true }=>bu1 cs s x.1.1 x.1.2) (fun x=>cs.length - x.1.1) ⟨(0,0),Nat.zero_le _,by simp,fun q h=>absurd h (Nat.not_lt_zero _)⟩ ?_ fun ⟨(i,o),hi,ho,hy⟩=>?_
 ·(refine Le.ok some [] ?_;constructor;all_goals (try simp only [vle,vkt,seval,wh,xk,qh,qo,qZ,bu1,bu2,Go.Sym.tabC,cbX,wM,qU,nth,hwL]))
  all_goals first|rfl|(simp;done)
 simp only at hi ho hy ⊢
 repeat' (first|(apply nx;with_reducible constructor)|refine jq (by decide) ?_)
 (refine kz env fun Q hQ=>?_;simp only [vkt,seval,wh,xk,qh,qo,qZ,bu1,bu2,Go.Sym.tabC,cbX,wM,qU,nth,hwL];(try simp only [ite_and]);(repeat' (first|with_reducible assumption|refine And.intro ?_ ?_|intro hp));all_goals (first|(refine hQ _ ?_;clear hQ Q)|(refine kx ?_;kernel_rfl)|omega|assumption|with_reducible rfl|skip))
 repeat' (first|(apply nx;with_reducible constructor)|refine jq (by decide) ?_)
 (refine yf (by simp only [vkt,seval,wh,xk,qh,qo,qZ,bu1,bu2,Go.Sym.tabC,cbX,wM,qU,nth,hwL];rfl) (fun h=>?_) (fun h=>?_) <;> (try simp only [vki,reduceCtorEq] at h))
 ·have hlt:i < cs.length:=by omega
  have hts:=YD (g:=ZK cs) (i:=i) (by simp [ZK];omega)
  rw [Qiz hlt] at hts
  have hsm:((ZK cs).take (i+1)).sum≤(ZK cs).sum:=by
   have:=QN (g:=ZK cs) (show i+1≤(ZK cs).length by simp [ZK];omega)
   rwa [List.take_length] at this
  have hbx:=hc.beds _ (xV (d:=default) hlt)
  have hget:=fun k=>QdN (cs:=cs) (i:=i) (k:=k) hlt
  obtain ⟨x,hx⟩:∃ x,cs.getD i default=x:=⟨_,rfl⟩
  rw [hx] at hts hbx
  simp only [hx] at hget
  have e9:IntKind.wrap .i64 ((i:Int)+1)=((i+1:Nat):Int):=by rw [wrap64 (by omega) (by omega)];rfl
  repeat' (first|(apply nx;with_reducible constructor)|refine jq (by decide) ?_|((first|refine kz env fun Q hQ=>?_|refine kj fun Q hQ=>?_);simp only [vkt,seval,wh,xk,qh,qo,qZ,bu1,bu2,Go.Sym.tabC,cbX,wM,qU,nth,hwL,hx];(try simp only [ite_and]);(repeat' (first|with_reducible assumption|refine And.intro ?_ ?_|intro hp));all_goals (first|(refine hQ _ ?_;clear hQ Q)|(refine hQ _ (fun h=>?_) (fun h=>?_) <;> clear hQ Q <;> (try simp only [vki,reduceCtorEq] at h))|(refine kx ?_;kernel_rfl)|omega|assumption|with_reducible rfl|skip)))
  refine zt (fun y:{ y:Nat × Nat // y.1≤x.beds.toNat∧y.2=o+y.1∧∀ q,q < y.2→ans q=true }=>bu2 cs s i x.beds y.1.1 y.1.2) (fun y=>x.beds.toNat - y.1.1) ⟨(0,o),Nat.zero_le _,rfl,hy⟩ ?_ fun ⟨(k,q),hk,hq,hz⟩=>?_
  ·(refine Le.ok some [] ?_;constructor;all_goals (try simp only [vle,vkt,seval,wh,xk,qh,qo,qZ,bu1,bu2,Go.Sym.tabC,cbX,wM,qU,nth,hwL]))
   all_goals first|rfl|(simp;done)
  simp only at hk hq hz ⊢
  repeat' (first|(apply nx;with_reducible constructor)|refine jq (by decide) ?_)
  (refine kz env fun Q hQ=>?_;simp only [vkt,seval,wh,xk,qh,qo,qZ,bu1,bu2,Go.Sym.tabC,cbX,wM,qU,nth,hwL];(try simp only [ite_and]);(repeat' (first|with_reducible assumption|refine And.intro ?_ ?_|intro hp));all_goals (first|(refine hQ _ ?_;clear hQ Q)|(refine kx ?_;kernel_rfl)|omega|assumption|with_reducible rfl|skip))
  repeat' (first|(apply nx;with_reducible constructor)|refine jq (by decide) ?_)
  (refine yf (by simp only [vkt,seval,wh,xk,qh,qo,qZ,bu1,bu2,Go.Sym.tabC,cbX,wM,qU,nth,hwL];rfl) (fun h=>?_) (fun h=>?_) <;> (try simp only [vki,reduceCtorEq] at h))
  ·have hkl:k < x.beds.toNat:=by omega
   have e8:IntKind.wrap .i64 ((k:Int)+1)=((k+1:Nat):Int):=by rw [wrap64 (by omega) (by omega)];rfl
   have hqR:q < R:=hr.lt (by omega) hz
   have hbq:buY cs q=[.agg [.v (.int .i64 (i:Int)),.v (.int .i64 (k:Int))]]:=by
    unfold buY
    rw [hq,ho,hget k hkl]
    rfl
   cases hb:ans q with
   |false =>
    have eR:R=q+1:=by have:=hr.last hqR hb;omega
    subst eR
    repeat' (first|(apply nx;with_reducible constructor)|refine jq (by decide) ?_|((first|refine kz env fun Q hQ=>?_|refine kj fun Q hQ=>?_);simp only [vkt,seval,wh,xk,qh,qo,qZ,bu1,bu2,Go.Sym.tabC,cbX,wM,qU,nth,hwL,hqR,hbq,eo,hb];(try simp only [ite_and]);(repeat' (first|with_reducible assumption|refine And.intro ?_ ?_|intro hp));all_goals (first|(refine hQ _ ?_;clear hQ Q)|(refine hQ _ (fun h=>?_) (fun h=>?_) <;> clear hQ Q <;> (try simp only [vki,reduceCtorEq] at h))|(refine kx ?_;kernel_rfl)|omega|assumption|with_reducible rfl|skip)))
    (simp only [vrt,Tryz.results66,vkt,seval,wh,xk,qh,qo,qZ,bu1,bu2,Go.Sym.tabC,cbX,wM,qU,nth,hwL];refine Fin.ok some [] ?_ ?_ ?_ ?_ ?_ rfl;all_goals (try simp only [vle,vkt,seval,wh,xk,qh,qo,qZ,bu1,bu2,Go.Sym.tabC,cbX,wM,qU,nth,hwL]))
    all_goals first|rfl|(simp;done)
   |true =>
    have hz':∀ p,p < q+1→ans p=true:=fun p hp=>by
     rcases Nat.lt_or_eq_of_le (Nat.le_of_lt_succ hp) with h1|h1
     ·exact hz p h1
     ·rw [h1];exact hb
    repeat' (first|(apply nx;with_reducible constructor)|refine jq (by decide) ?_|((first|refine kz env fun Q hQ=>?_|refine kj fun Q hQ=>?_);simp only [vkt,seval,wh,xk,qh,qo,qZ,bu1,bu2,Go.Sym.tabC,cbX,wM,qU,nth,hwL,hqR,hbq,eo,hb,e8];(try simp only [ite_and]);(repeat' (first|with_reducible assumption|refine And.intro ?_ ?_|intro hp));all_goals (first|(refine hQ _ ?_;clear hQ Q)|(refine hQ _ (fun h=>?_) (fun h=>?_) <;> clear hQ Q <;> (try simp only [vki,reduceCtorEq] at h))|(refine kx ?_;kernel_rfl)|omega|assumption|with_reducible rfl|skip)))
    refine ⟨⟨(k+1,q+1),hkl,by omega,hz'⟩,by show x.beds.toNat - (k+1) < x.beds.toNat - k;omega, ?_⟩
    (refine Le.ok some [] ?_;constructor;all_goals (try simp only [vle,vkt,seval,wh,xk,qh,qo,qZ,bu1,bu2,Go.Sym.tabC,cbX,wM,qU,nth,hwL]))
    all_goals first|rfl|(simp;done)
  ·have hkn:q=((ZK cs).take (i+1)).sum:=by omega
   repeat' (first|(apply nx;with_reducible constructor)|refine jq (by decide) ?_|((first|refine kz env fun Q hQ=>?_|refine kj fun Q hQ=>?_);simp only [vkt,seval,wh,xk,qh,qo,qZ,bu1,bu2,Go.Sym.tabC,cbX,wM,qU,nth,hwL,e9];(try simp only [ite_and]);(repeat' (first|with_reducible assumption|refine And.intro ?_ ?_|intro hp));all_goals (first|(refine hQ _ ?_;clear hQ Q)|(refine hQ _ (fun h=>?_) (fun h=>?_) <;> clear hQ Q <;> (try simp only [vki,reduceCtorEq] at h))|(refine kx ?_;kernel_rfl)|omega|assumption|with_reducible rfl|skip)))
   refine ⟨⟨(i+1,q),hlt,hkn,hz⟩,by show cs.length - (i+1) < cs.length - i;omega, ?_⟩
   (refine Le.ok some [] ?_;constructor;all_goals (try simp only [vle,vkt,seval,wh,xk,qh,qo,qZ,bu1,bu2,Go.Sym.tabC,cbX,wM,qU,nth,hwL]))
   all_goals first|rfl|(simp;done)
 ·have hie:i=cs.length:=by omega
  subst hie
  have hoN:o=(ZK cs).sum:=by rw [ho,List.take_of_length_le (by simp [ZK])]
  have eR:R=o:=by rw [hoN];exact hr.all (Nat.le_of_eq hoN.symm) hy
  subst eR
  repeat' (first|(apply nx;with_reducible constructor)|refine jq (by decide) ?_|((first|refine kz env fun Q hQ=>?_|refine kj fun Q hQ=>?_);simp only [vkt,seval,wh,xk,qh,qo,qZ,bu1,bu2,Go.Sym.tabC,cbX,wM,qU,nth,hwL];(try simp only [ite_and]);(repeat' (first|with_reducible assumption|refine And.intro ?_ ?_|intro hp));all_goals (first|(refine hQ _ ?_;clear hQ Q)|(refine hQ _ (fun h=>?_) (fun h=>?_) <;> clear hQ Q <;> (try simp only [vki,reduceCtorEq] at h))|(refine kx ?_;kernel_rfl)|omega|assumption|with_reducible rfl|skip)))
  (simp only [vrt,Tryz.results66,vkt,seval,wh,xk,qh,qo,qZ,bu1,bu2,Go.Sym.tabC,cbX,wM,qU,nth,hwL];refine Fin.ok some [] ?_ ?_ ?_ ?_ ?_ rfl;all_goals (try simp only [vle,vkt,seval,wh,xk,qh,qo,qZ,bu1,bu2,Go.Sym.tabC,cbX,wM,qU,nth,hwL]))
  all_goals first|rfl|(simp;done)
def Qbw:=kk @aI.eq_1 (@aB.eq_1)
theorem Qft (cs:List Cabin) (s:Int):Fn noB Tryz.prog 32 [.agg [.sl (cs.map qo),.v (.int .i64 s),.any]] (qj []) (.clo 66 [.ptr 0 0]) (qj [(0,.cells [.sl (cs.map qo),.v (.int .i64 s),.any])]) 0:=by
 have env:Env (fun _=>True) Tryz.prog tyB (tab []):=qO trivial
 refine Fn.of (A:=fun _=>True) (n0:=0) (D:=noD) (Fn0 Tryz.func32 rfl (fun vs w=>by kernel_rfl) (by kernel_rfl)) (by simp) (by simp [AV.ids,AV.idsL]) (fun i o h=>by cases h) (fun _ _ _ _=>trivial) qG ?_
 repeat' (first|(apply nx;with_reducible constructor)|refine jq (by decide) ?_|((first|refine kz env fun Q hQ=>?_|refine kj fun Q hQ=>?_);simp only [vkt,seval,Qbw];(try simp only [ite_and]);(repeat' (first|with_reducible assumption|refine And.intro ?_ ?_|intro hp));all_goals (first|(refine hQ _ ?_;clear hQ Q)|(refine hQ _ (fun h=>?_) (fun h=>?_) <;> clear hQ Q <;> (try simp only [vki,reduceCtorEq] at h))|(refine kx ?_;kernel_rfl)|omega|assumption|with_reducible rfl|skip)))
 (simp only [vrt,Tryz.results32,vkt,seval,Qbw];refine Fin.ok some [] ?_ ?_ ?_ ?_ ?_ rfl;all_goals (try simp only [vle,vkt,seval,Qbw]))
 all_goals first|rfl|(simp;done)
def qK (_:St):List AV→Option Pk
 |[.agg [.sl cs,.v (.int .i64 s),_]]=>some { pre:=cs=(cs.map qA).map qo,ar:=[.agg [.sl cs,.v (.int .i64 s),.any]],v:=.clo 66 [.ptr 0 0],L1:=[some (.cells [.sl cs,.v (.int .i64 s),.any])] }
 |_=>none
theorem VF {A:Frm→Prop}:qC A Tryz.prog 32 (fnE qK):=wK fun S bs q h hp=>by
 unfold qK at h
 split at h
 ·rename_i cs s _
  cases h
  have:=Qft (cs.map qA) s
  rw [← (show cs=(cs.map qA).map qo from hp)] at this
  exact this
 ·cases h
theorem b47 {n:Nat} (h:n≤100000):n * 8≤140737488355328∧n * 24≤140737488355328∧n * 16≤140737488355328∧n * 56≤140737488355328∧n≤maxLen:=by
 have:(100000:Nat)≤maxLen:=by decide
 omega
def vC:=kk @QV (kk @xB (kk @Qh.eq_1 @vJ.eq_1))
theorem KZ (xs:List (List DV)) (h1:wJ 7 xs) (h2:xs.length≤100000):Fn noB Tryz.prog 71 [.sl xs] noH (.row 0) (qj [(0,.row 31 7 xs)]) 0:=by
 have env:Env (fun _=>True) Tryz.prog tyB (tab []):=qO trivial
 obtain ⟨b1,b2,b3,b5,b4⟩:=b47 h2
 refine Fn.of (A:=fun _=>True) (n0:=0) (D:=noD) (Fn0 Tryz.func71 rfl (fun vs w=>by kernel_rfl) (by kernel_rfl)) (by simp) (by simp [AV.ids]) (fun i o h=>by cases h) (fun _ _ _ _=>trivial) qG ?_
 repeat' (first|(apply nx;with_reducible constructor)|refine jq (by decide) ?_)
 (refine kz env fun Q hQ=>?_;simp only [vkt,seval,vC,@true_and];(try simp only [ite_and]);(repeat' (first|with_reducible assumption|refine And.intro ?_ ?_|intro hp));all_goals (first|(refine hQ _ ?_;clear hQ Q)|(refine kx ?_;kernel_rfl)|omega|assumption|with_reducible rfl|skip))
 repeat' (first|(apply nx;with_reducible constructor)|refine jq (by decide) ?_)
 refine ZB (d1:=3) (d2:=4) (t:=23) (e:=31) (x:=.tmp 0) (xs:=xs) rfl rfl rfl rfl rfl rfl Tryz.underlying23 rfl fun b hb=>?_
 repeat' (first|(apply nx;with_reducible constructor)|refine jq (by decide) ?_)
 (refine yf (by simp only [vkt,seval,vC,@true_and];rfl) (fun h=>?_) (fun h=>?_) <;> (try simp only [vki,reduceCtorEq] at h))
 ·have hx:=hb h
  subst hx
  repeat' (first|(apply nx;with_reducible constructor)|refine jq (by decide) ?_|((first|refine kz env fun Q hQ=>?_|refine kj fun Q hQ=>?_);simp only [vkt,seval,vC,@true_and];(try simp only [ite_and]);(repeat' (first|with_reducible assumption|refine And.intro ?_ ?_|intro hp));all_goals (first|(refine hQ _ ?_;clear hQ Q)|(refine hQ _ (fun h=>?_) (fun h=>?_) <;> clear hQ Q <;> (try simp only [vki,reduceCtorEq] at h))|(refine kx ?_;kernel_rfl)|omega|assumption|with_reducible rfl|skip)))
  (simp only [vrt,Tryz.results71,vkt,seval,vC,@true_and];refine Fin.ok (fun _=>none) [] ?_ ?_ ?_ ?_ ?_ rfl;all_goals (try simp only [vle,vkt,seval,vC,@true_and]))
  all_goals simp
 ·repeat' (first|(apply nx;with_reducible constructor)|refine jq (by decide) ?_|((first|refine kz env fun Q hQ=>?_|refine kj fun Q hQ=>?_);simp only [vkt,seval,vC,@true_and];(try simp only [ite_and]);(repeat' (first|with_reducible assumption|refine And.intro ?_ ?_|intro hp));all_goals (first|(refine hQ _ ?_;clear hQ Q)|(refine hQ _ (fun h=>?_) (fun h=>?_) <;> clear hQ Q <;> (try simp only [vki,reduceCtorEq] at h))|(refine kx ?_;kernel_rfl)|omega|assumption|with_reducible rfl|skip)))
  (simp only [vrt,Tryz.results71,vkt,seval,vC,@true_and];refine Fin.ok some [] ?_ ?_ ?_ ?_ ?_ rfl;all_goals (try simp only [vle,vkt,seval,vC,@true_and]))
  all_goals simp
def vG:=kk @QU (kk @YM (kk @Qi.eq_1 @JN.eq_1))
theorem QdJ (xs:List (List DV)) (h1:wJ 2 xs) (h2:xs.length≤100000):Fn noB Tryz.prog 91 [.sl xs] noH (.row 0) (qj [(0,.row 28 2 xs)]) 0:=by
 have env:Env (fun _=>True) Tryz.prog tyB (tab []):=qO trivial
 obtain ⟨b1,b2,b3,b5,b4⟩:=b47 h2
 refine Fn.of (A:=fun _=>True) (n0:=0) (D:=noD) (Fn0 Tryz.func91 rfl (fun vs w=>by kernel_rfl) (by kernel_rfl)) (by simp) (by simp [AV.ids]) (fun i o h=>by cases h) (fun _ _ _ _=>trivial) qG ?_
 repeat' (first|(apply nx;with_reducible constructor)|refine jq (by decide) ?_)
 (refine kz env fun Q hQ=>?_;simp only [vkt,seval,vG,@true_and];(try simp only [ite_and]);(repeat' (first|with_reducible assumption|refine And.intro ?_ ?_|intro hp));all_goals (first|(refine hQ _ ?_;clear hQ Q)|(refine kx ?_;kernel_rfl)|omega|assumption|with_reducible rfl|skip))
 repeat' (first|(apply nx;with_reducible constructor)|refine jq (by decide) ?_)
 refine ZB (d1:=3) (d2:=4) (t:=43) (e:=28) (x:=.tmp 0) (xs:=xs) rfl rfl rfl rfl rfl rfl Tryz.underlying43 rfl fun b hb=>?_
 repeat' (first|(apply nx;with_reducible constructor)|refine jq (by decide) ?_)
 (refine yf (by simp only [vkt,seval,vG,@true_and];rfl) (fun h=>?_) (fun h=>?_) <;> (try simp only [vki,reduceCtorEq] at h))
 ·have hx:=hb h
  subst hx
  repeat' (first|(apply nx;with_reducible constructor)|refine jq (by decide) ?_|((first|refine kz env fun Q hQ=>?_|refine kj fun Q hQ=>?_);simp only [vkt,seval,vG,@true_and];(try simp only [ite_and]);(repeat' (first|with_reducible assumption|refine And.intro ?_ ?_|intro hp));all_goals (first|(refine hQ _ ?_;clear hQ Q)|(refine hQ _ (fun h=>?_) (fun h=>?_) <;> clear hQ Q <;> (try simp only [vki,reduceCtorEq] at h))|(refine kx ?_;kernel_rfl)|omega|assumption|with_reducible rfl|skip)))
  (simp only [vrt,Tryz.results91,vkt,seval,vG,@true_and];refine Fin.ok (fun _=>none) [] ?_ ?_ ?_ ?_ ?_ rfl;all_goals (try simp only [vle,vkt,seval,vG,@true_and]))
  all_goals simp
 ·repeat' (first|(apply nx;with_reducible constructor)|refine jq (by decide) ?_|((first|refine kz env fun Q hQ=>?_|refine kj fun Q hQ=>?_);simp only [vkt,seval,vG,@true_and];(try simp only [ite_and]);(repeat' (first|with_reducible assumption|refine And.intro ?_ ?_|intro hp));all_goals (first|(refine hQ _ ?_;clear hQ Q)|(refine hQ _ (fun h=>?_) (fun h=>?_) <;> clear hQ Q <;> (try simp only [vki,reduceCtorEq] at h))|(refine kx ?_;kernel_rfl)|omega|assumption|with_reducible rfl|skip)))
  (simp only [vrt,Tryz.results91,vkt,seval,vG,@true_and];refine Fin.ok some [] ?_ ?_ ?_ ?_ ?_ rfl;all_goals (try simp only [vle,vkt,seval,vG,@true_and]))
  all_goals simp
def QA (S:St):List AV→Option Pk
 |[.sl xs]=>some { pre:=wJ 7 xs∧xs.length≤100000,ar:=[.sl xs],v:=.row 0,L1:=[some (.row 31 7 xs)] }
 |[.row r]=>match S.h r with
  |some (.row _ _ xs)=>some { pre:=wJ 7 xs∧xs.length≤100000,bo:=[r],fl:=true,ar:=[.sl xs],v:=.row 0,L1:=[some (.row 31 7 xs)] }
  |_=>none
 |_=>none
theorem QcU {A:Frm→Prop}:qC A Tryz.prog 71 (fnE QA):=wK fun S bs q h hp=>by
 unfold QA at h
 split at h
 ·cases h;exact KZ _ hp.1 hp.2
 ·split at h
  ·cases h;exact KZ _ hp.1 hp.2
  ·cases h
 ·cases h
def jg (_:St):List AV→Option Pk
 |[.sl xs]=>some { pre:=wJ 2 xs∧xs.length≤100000,ar:=[.sl xs],v:=.row 0,L1:=[some (.row 28 2 xs)] }
 |_=>none
theorem Qh9 {A:Frm→Prop}:qC A Tryz.prog 91 (fnE jg):=wK fun S bs q h hp=>by
 unfold jg at h
 split at h
 ·cases h;exact QdJ _ hp.1 hp.2
 ·cases h
def ibS (b:Bunk) (l:List Bunk) (k:Nat):St:={ t:=asg [(0,qd l),(3,.ptr 0 0),(4,aI 0),(6,qd l),(7,aI l.length),(8,aI k)],h:=qj [(0,.cells [.v (.int .i64 b.cab),.v (.int .i64 b.bed)])],n:=1 }
def Qak (b:Bunk) (l:List Bunk):Int:=match l.findIdx? (· == b) with
 |some i=>(i:Int)
 |none=>-1
theorem Qfp {b:Bunk} {l:List Bunk} {k:Nat} (hk:k < l.length) (h:∀ j,j < k→l.getD j default ≠ b) (hp:l.getD k default=b):Qak b l=(k:Int):=by
 have:l.findIdx? (· == b)=some k:=by
  rw [List.findIdx?_eq_some_iff_getElem]
  refine ⟨hk,by simpa [List.getD_eq_getElem?_getD,hk] using hp,fun j hj=>?_⟩
  have:=h j hj
  simpa [List.getD_eq_getElem?_getD,show j < l.length by omega] using this
 simp [Qak,this]
theorem QdK {b:Bunk} {l:List Bunk} (h:∀ j,j < l.length→l.getD j default ≠ b):Qak b l=-1:=by
 have:l.findIdx? (· == b)=none:=by
  rw [List.findIdx?_eq_none_iff]
  intro x hx
  obtain ⟨j,hj,rfl⟩:=List.mem_iff_getElem.1 hx
  have:=h j hj
  simpa [List.getD_eq_getElem?_getD,hj] using this
 simp [Qak,this]
theorem Qf3 (b:Bunk) (l:List Bunk):decide (0≤Qak b l)=l.contains b:=by
 unfold Qak
 cases h:l.findIdx? (· == b) with
 |none =>
  rw [List.findIdx?_eq_none_iff] at h
  symm
  simp only [show ¬ (0:Int)≤-1 by decide,decide_false]
  rw [Bool.eq_false_iff]
  intro hc
  have:=h b (by simpa using hc)
  simp at this
 |some i =>
  rw [List.findIdx?_eq_some_iff_getElem] at h
  obtain ⟨hi,hp,_⟩:=h
  symm
  simp only [Int.natCast_nonneg,decide_true]
  have:l[i]=b:=by simpa using hp
  rw [← this];simp
def jF:=kk @ty3 (kk @QU (kk @YM (kk @ti3.eq_1 (kk @Qi.eq_1 @JN.eq_1))))
def QW:=kk @aI.eq_1 (@aB.eq_1)
theorem QdZ (b:Bunk) (l:List Bunk) (hl:l.length≤100):FnV Tryz.prog 99 [qd l,qh b] (aI (Qak b l)):=by
 have env:Env (fun _=>True) Tryz.prog tyB (tab []):=qO trivial
 refine Fn.of (A:=fun _=>True) (n0:=0) (D:=noD) (Fn0 Tryz.func99 rfl (fun vs w=>by kernel_rfl) (by kernel_rfl)) (by simp) (by simp [AV.ids,AV.idsL,qd,qh]) (fun i o h=>by cases h) (fun _ _ _ _=>trivial) qG ?_
 repeat' (first|(apply nx;with_reducible constructor)|refine jq (by decide) ?_|((first|refine kz env fun Q hQ=>?_|refine kj fun Q hQ=>?_);simp only [vkt,seval,jF,QW,qh,qd,qy,qR,ibS,Bool.true_and,Bool.false_and];(try simp only [ite_and]);(repeat' (first|with_reducible assumption|refine And.intro ?_ ?_|intro hp));all_goals (first|(refine hQ _ ?_;clear hQ Q)|(refine hQ _ (fun h=>?_) (fun h=>?_) <;> clear hQ Q <;> (try simp only [vki,reduceCtorEq] at h))|(refine kx ?_;kernel_rfl)|omega|assumption|with_reducible rfl|skip)))
 refine zt (fun k:{ k:Nat // k≤l.length∧∀ j,j < k→l.getD j default ≠ b }=>ibS b l k.1) (fun k=>l.length - k.1) ⟨0,Nat.zero_le _,fun j h=>absurd h (Nat.not_lt_zero _)⟩ ?_ fun ⟨k,hk,hno⟩=>?_
 ·(refine Le.ok some [] ?_;constructor;all_goals (try simp only [vle,vkt,seval,jF,QW,qh,qd,qy,qR,ibS,Bool.true_and,Bool.false_and]))
  all_goals first|rfl|(simp;done)
 ·repeat' (first|(apply nx;with_reducible constructor)|refine jq (by decide) ?_)
  (refine kz env fun Q hQ=>?_;simp only [vkt,seval,jF,QW,qh,qd,qy,qR,ibS,Bool.true_and,Bool.false_and];(try simp only [ite_and]);(repeat' (first|with_reducible assumption|refine And.intro ?_ ?_|intro hp));all_goals (first|(refine hQ _ ?_;clear hQ Q)|(refine kx ?_;kernel_rfl)|omega|assumption|with_reducible rfl|skip))
  repeat' (first|(apply nx;with_reducible constructor)|refine jq (by decide) ?_)
  (refine yf (by simp only [vkt,seval,jF,QW,qh,qd,qy,qR,ibS,Bool.true_and,Bool.false_and];rfl) (fun h=>?_) (fun h=>?_) <;> (try simp only [vki,reduceCtorEq] at h))
  ·have hlt:k < l.length:=by omega
   have e9:IntKind.wrap .i64 ((k:Int)+1)=((k+1:Nat):Int):=by rw [wrap64 (by omega) (by omega)];rfl
   obtain ⟨x,hx⟩:∃ x,l.getD k default=x:=⟨_,rfl⟩
   have hxb:(x=b)=(b.cab=x.cab∧b.bed=x.bed):=by
    cases x;cases b;simp;exact ⟨fun ⟨a,b⟩=>⟨a.symm,b.symm⟩,fun ⟨a,b⟩=>⟨a.symm,b.symm⟩⟩
   have hnx:¬ x=b→∀ j,j < k+1→l.getD j default ≠ b:=fun hp j hj=>by
    rcases Nat.lt_or_eq_of_le (Nat.le_of_lt_succ hj) with h1|h1
    ·exact hno j h1
    ·rw [h1,hx];exact hp
   cases q1:decide (b.cab=x.cab)
   ·have hp:¬ x=b:=by rw [hxb];exact fun h=>of_decide_eq_false q1 h.1
    repeat' (first|(apply nx;with_reducible constructor)|refine jq (by decide) ?_|((first|refine kz env fun Q hQ=>?_|refine kj fun Q hQ=>?_);simp only [vkt,seval,jF,QW,qh,qd,qy,qR,ibS,Bool.true_and,Bool.false_and,hx,q1,e9];(try simp only [ite_and]);(repeat' (first|with_reducible assumption|refine And.intro ?_ ?_|intro hp));all_goals (first|(refine hQ _ ?_;clear hQ Q)|(refine hQ _ (fun h=>?_) (fun h=>?_) <;> clear hQ Q <;> (try simp only [vki,reduceCtorEq] at h))|(refine kx ?_;kernel_rfl)|omega|assumption|with_reducible rfl|skip)))
    refine ⟨⟨k+1,hlt,hnx hp⟩,by show l.length - (k+1) < l.length - k;omega, ?_⟩
    (refine Le.ok some [] ?_;constructor;all_goals (try simp only [vle,vkt,seval,jF,QW,qh,qd,qy,qR,ibS,Bool.true_and,Bool.false_and]))
    all_goals first|rfl|(simp;done)
   ·cases q2:decide (b.bed=x.bed)
    ·have hp:¬ x=b:=by rw [hxb];exact fun h=>of_decide_eq_false q2 h.2
     repeat' (first|(apply nx;with_reducible constructor)|refine jq (by decide) ?_|((first|refine kz env fun Q hQ=>?_|refine kj fun Q hQ=>?_);simp only [vkt,seval,jF,QW,qh,qd,qy,qR,ibS,Bool.true_and,Bool.false_and,hx,q1,q2,e9];(try simp only [ite_and]);(repeat' (first|with_reducible assumption|refine And.intro ?_ ?_|intro hp));all_goals (first|(refine hQ _ ?_;clear hQ Q)|(refine hQ _ (fun h=>?_) (fun h=>?_) <;> clear hQ Q <;> (try simp only [vki,reduceCtorEq] at h))|(refine kx ?_;kernel_rfl)|omega|assumption|with_reducible rfl|skip)))
     refine ⟨⟨k+1,hlt,hnx hp⟩,by show l.length - (k+1) < l.length - k;omega, ?_⟩
     (refine Le.ok some [] ?_;constructor;all_goals (try simp only [vle,vkt,seval,jF,QW,qh,qd,qy,qR,ibS,Bool.true_and,Bool.false_and]))
     all_goals first|rfl|(simp;done)
    ·have hh:=Qfp hlt hno (by rw [hx,hxb];exact ⟨of_decide_eq_true q1,of_decide_eq_true q2⟩)
     rw [hh]
     repeat' (first|(apply nx;with_reducible constructor)|refine jq (by decide) ?_|((first|refine kz env fun Q hQ=>?_|refine kj fun Q hQ=>?_);simp only [vkt,seval,jF,QW,qh,qd,qy,qR,ibS,Bool.true_and,Bool.false_and,hx,q1,q2,e9];(try simp only [ite_and]);(repeat' (first|with_reducible assumption|refine And.intro ?_ ?_|intro hp));all_goals (first|(refine hQ _ ?_;clear hQ Q)|(refine hQ _ (fun h=>?_) (fun h=>?_) <;> clear hQ Q <;> (try simp only [vki,reduceCtorEq] at h))|(refine kx ?_;kernel_rfl)|omega|assumption|with_reducible rfl|skip)))
     (simp only [vrt,Tryz.results99,vkt,seval,jF,QW,qh,qd,qy,qR,ibS,Bool.true_and,Bool.false_and];refine Fin.val rfl ?_;(try simp only [AV.le,AV.leL]))
     all_goals first|rfl|(simp;done)
  ·have hke:k=l.length:=by omega
   subst hke
   rw [QdK hno]
   repeat' (first|(apply nx;with_reducible constructor)|refine jq (by decide) ?_|((first|refine kz env fun Q hQ=>?_|refine kj fun Q hQ=>?_);simp only [vkt,seval,jF,QW,qh,qd,qy,qR,ibS,Bool.true_and,Bool.false_and];(try simp only [ite_and]);(repeat' (first|with_reducible assumption|refine And.intro ?_ ?_|intro hp));all_goals (first|(refine hQ _ ?_;clear hQ Q)|(refine hQ _ (fun h=>?_) (fun h=>?_) <;> clear hQ Q <;> (try simp only [vki,reduceCtorEq] at h))|(refine kx ?_;kernel_rfl)|omega|assumption|with_reducible rfl|skip)))
   (simp only [vrt,Tryz.results99,vkt,seval,jF,QW,qh,qd,qy,qR,ibS,Bool.true_and,Bool.false_and];refine Fin.val rfl ?_;(try simp only [AV.le,AV.leL]))
   all_goals first|rfl|(simp;done)
def Yw:List AV→Prop × AV
 |[.sl l,.agg [.v (.int .i64 b0),.v (.int .i64 b1)]]=>(l=(l.map ji).map qy∧(l.map ji).length≤100,aI (Qak (⟨b0,b1⟩:Bunk) (l.map ji)))
 |_=>(False,.junk)
theorem Qhj {A:Frm→Prop}:qC A Tryz.prog 99 (za true Yw):=zx fun vs hv h=>by
 clear hv
 unfold Yw at h ⊢
 split at h
 ·rename_i l b0 b1;obtain ⟨q0,k0⟩:=h
  refine ⟨by first|trivial|(simp [AV.plain,AV.plainL,aI,aB,qD,qd,qw,qh,aTk,cTk];done)|(repeat' split) <;> simp [AV.plain,AV.plainL,aI,aB,qD,qd,qw,qh,aTk,cTk],fun _=>(by simp [AV.flat,AV.flatL,aI,aB]), ?_⟩
  have:=QdZ (⟨b0,b1⟩:Bunk) (l.map ji) k0
  simp only [qh,qd,aI,← q0] at this
  first|exact this|(simp only [qh,qd,aI,← q0];exact this)
 ·exact h.elim
def Xc:=kk @ty3 (kk @QU (kk @ti3.eq_1 @Qi.eq_1))
def Qgt:=kk @aI.eq_1 (@aB.eq_1)
theorem Qgc (b:Bunk) (l:List Bunk) (hl:l.length≤100):FnV Tryz.prog 92 [qd l,qh b] (aB (l.contains b)):=by
 have env:Env (fun _=>True) Tryz.prog tyB (tab [(99,za true Yw)]):=qO ⟨Qhj,trivial⟩
 refine Fn.of (A:=fun _=>True) (n0:=0) (D:=noD) (Fn0 Tryz.func92 rfl (fun vs w=>by kernel_rfl) (by kernel_rfl)) (by simp) (by simp [AV.ids,AV.idsL,qd,qh]) (fun i o h=>by cases h) (fun _ _ _ _=>trivial) qG ?_
 have ex:(⟨b.cab,b.bed⟩:Bunk)=b:=rfl
 have ea:=Qf3 b l
 repeat' (first|(apply nx;with_reducible constructor)|refine jq (by decide) ?_|((first|refine kz env fun Q hQ=>?_|refine kj fun Q hQ=>?_);simp only [vkt,seval,Xc,Qgt,qh,qd,qy,zg,Yw,List.length_map,ex,ea];(try simp only [ite_and]);(repeat' (first|with_reducible assumption|refine And.intro ?_ ?_|intro hp));all_goals (first|(refine hQ _ ?_;clear hQ Q)|(refine hQ _ (fun h=>?_) (fun h=>?_) <;> clear hQ Q <;> (try simp only [vki,reduceCtorEq] at h))|(refine kx ?_;kernel_rfl)|omega|assumption|with_reducible rfl|skip)))
 (simp only [vrt,Tryz.results92,vkt,seval,Xc,Qgt,qh,qd,qy,zg,Yw,List.length_map];refine Fin.val rfl ?_;(try simp only [AV.le,AV.leL]))
 all_goals first|rfl|(simp;done)
def jX:List AV→Prop × AV
 |[.sl l,.agg [.v (.int .i64 b0),.v (.int .i64 b1)]]=>(l=(l.map ji).map qy∧(l.map ji).length≤100,aB ((l.map ji).contains (⟨b0,b1⟩:Bunk)))
 |_=>(False,.junk)
theorem Qkh {A:Frm→Prop}:qC A Tryz.prog 92 (za true jX):=zx fun vs hv h=>by
 clear hv
 unfold jX at h ⊢
 split at h
 ·rename_i l b0 b1;obtain ⟨q0,k0⟩:=h
  refine ⟨by first|trivial|(simp [AV.plain,AV.plainL,aI,aB,qD,qd,qw,qh,aTk,cTk];done)|(repeat' split) <;> simp [AV.plain,AV.plainL,aI,aB,qD,qd,qw,qh,aTk,cTk],fun _=>(by simp [AV.flat,AV.flatL,aI,aB]), ?_⟩
  have:=Qgc (⟨b0,b1⟩:Bunk) (l.map ji) k0
  simp only [qh,qd,aI,← q0] at this
  first|exact this|(simp only [qh,qd,aI,← q0];exact this)
 ·exact h.elim
def qg (cs:List Cabin) (s:Int) (r:Nat):AObj:=.cells [.sl (cs.map qo),.v (.int .i64 s),.row r]
def qf (l:List Tk):AObj:=.row 31 7 (l.map eTk)
def qm (cs:List Cabin) (s:Int) (l:List Tk):List AObj:=[qg cs s 1,qf l]
structure NearOk (cs:List Cabin) (l:List Bunk):Prop where
 ne:0 < l.length
 len:l.length≤100
 cabs:cs.length≤100
 mem:∀ b ∈ l,0≤b.cab∧b.cab.toNat < cs.length
def loK (l:List Bunk) (k:Nat):Int:=(l.take k).foldl (fun m b=>min m b.cab) (l.getD 0 default).cab
def hiK (l:List Bunk) (k:Nat):Int:=(l.take k).foldl (fun m b=>max m b.cab) (l.getD 0 default).cab
theorem U7 {l:List Bunk} {k:Nat} (h:k < l.length):loK l (k+1)=min (loK l k) (l.getD k default).cab:=by
 unfold loK
 rw [List.take_succ_eq_append_getElem h,List.foldl_append]
 simp [List.getD_eq_getElem?_getD,h]
theorem Qal {l:List Bunk} {k:Nat} (h:k < l.length):hiK l (k+1)=max (hiK l k) (l.getD k default).cab:=by
 unfold hiK
 rw [List.take_succ_eq_append_getElem h,List.foldl_append]
 simp [List.getD_eq_getElem?_getD,h]
theorem QiI (cs:List Cabin) (l:List Bunk):KH cs l=(decide (loK l l.length=hiK l l.length) || (decide (loK l l.length+1=hiK l l.length) && (cs.getD (loK l l.length).toNat default).door)):=by
 unfold KH loK hiK
 rw [List.take_length]
theorem QeW {cs:List Cabin} {l:List Bunk} (h:NearOk cs l):∀ k,k≤l.length→0≤loK l k∧(loK l k).toNat < cs.length∧0≤hiK l k∧(hiK l k).toNat < cs.length:=by
 intro k
 induction k with
 |zero =>
  intro _
  have:=h.mem _ (xV (d:=default) h.ne)
  simp only [loK,hiK,List.take_zero,List.foldl_nil]
  exact ⟨this.1,this.2,this.1,this.2⟩
 |succ k ih =>
  intro hk
  have h1:=ih (by omega)
  have h2:=h.mem _ (xV (d:=default) (show k < l.length by omega))
  rw [U7 (by omega),Qal (by omega)]
  omega
def nrS (cs:List Cabin) (s:Int) (sold:List Tk) (l:List Bunk) (k:Nat) (lo hi:Int):St:={ t:=asg [(0,.ptr 0 0),(1,qd l),(4,aB false),(5,aI lo),(6,aI hi),(17,qd l),(18,aI l.length),(19,aI k)],h:=qj [(0,qg cs s 1),(1,qf sold)],n:=2,m:=2 }
def jJ:=kk @ty3 (kk @ty4 (kk @VD (kk @xg (kk @QU (kk @YM (kk @VC (kk @Vw (kk @ti3.eq_1 (kk @ti4.eq_1 (kk @JR.eq_1 (kk @y9.eq_1 (kk @Qi.eq_1 (kk @JN.eq_1 (kk @J4.eq_1 @JU.eq_1))))))))))))))
def ko:=kk @aI.eq_1 (@aB.eq_1)
theorem Qis (cs:List Cabin) (s:Int) (sold:List Tk) (l:List Bunk) (ok:NearOk cs l):Fn noB Tryz.prog 93 [.ptr 0 0,qd l] (qj (qH 0 (qm cs s sold))) (aB (KH cs l)) (qj (wP 0 ((qm cs s sold).map some))) 0:=by
 have env:Env (fun _=>True) Tryz.prog tyB (tab []):=qO trivial
 refine Fn.of (A:=fun _=>True) (n0:=2) (D:=noD) (Fn0 Tryz.func93 rfl (fun vs w=>by kernel_rfl) (by kernel_rfl)) (by simp) (by simp [AV.ids,AV.idsL,qd]) ?_ (fun _ _ _ _=>trivial) qG ?_
 ·intro i o hi
  have h:=qQ hi
  simp [qH,qm] at h
  rcases h with ⟨rfl,rfl⟩|⟨rfl,rfl⟩ <;> simp [AObj.ids,AV.ids,AV.idsL,qg,qf]
 have hne:=ok.ne
 have hll:=ok.len
 have hcl:=ok.cabs
 have hbd:=QeW ok
 obtain ⟨x0,hx0⟩:∃ x,l.getD 0 default=x:=⟨_,rfl⟩
 have l0:loK l 0=x0.cab:=by rw [← hx0];rfl
 have h0:hiK l 0=x0.cab:=by rw [← hx0];rfl
 rw [QiI]
 show Sym _ _ _ (zR [.ptr 0 0,qd l] 2 (qj [(0,qg cs s 1),(1,qf sold)])) (vo tyB noD Tryz.f93 fun S rv=>Fin S rv _ 2 (qj [(0,qg cs s 1),(1,qf sold)]) 0)
 repeat' (first|(apply nx;with_reducible constructor)|refine jq (by decide) ?_|((first|refine kz env fun Q hQ=>?_|refine kj fun Q hQ=>?_);simp only [vkt,seval,jJ,ko,qh,qd,qy,qR,qo,qZ,qg,qf,qm,nrS,List.length_map,hx0];(try simp only [ite_and]);(repeat' (first|with_reducible assumption|refine And.intro ?_ ?_|intro hp));all_goals (first|(refine hQ _ ?_;clear hQ Q)|(refine hQ _ (fun h=>?_) (fun h=>?_) <;> clear hQ Q <;> (try simp only [vki,reduceCtorEq] at h))|(refine kx ?_;kernel_rfl)|omega|assumption|with_reducible rfl|skip)))
 refine zt (fun k:{ k:Nat // k≤l.length }=>nrS cs s sold l k.1 (loK l k.1) (hiK l k.1)) (fun k=>l.length - k.1) ⟨0,Nat.zero_le _⟩ ?_ fun ⟨k,hk⟩=>?_
 ·simp only [l0,h0]
  (refine Le.ok some [] ?_;constructor;all_goals (try simp only [vle,vkt,seval,jJ,ko,qh,qd,qy,qR,qo,qZ,qg,qf,qm,nrS,List.length_map]))
  all_goals first|rfl|(simp;done)
 ·repeat' (first|(apply nx;with_reducible constructor)|refine jq (by decide) ?_)
  (refine kz env fun Q hQ=>?_;simp only [vkt,seval,jJ,ko,qh,qd,qy,qR,qo,qZ,qg,qf,qm,nrS,List.length_map];(try simp only [ite_and]);(repeat' (first|with_reducible assumption|refine And.intro ?_ ?_|intro hp));all_goals (first|(refine hQ _ ?_;clear hQ Q)|(refine kx ?_;kernel_rfl)|omega|assumption|with_reducible rfl|skip))
  repeat' (first|(apply nx;with_reducible constructor)|refine jq (by decide) ?_)
  (refine yf (by simp only [vkt,seval,jJ,ko,qh,qd,qy,qR,qo,qZ,qg,qf,qm,nrS,List.length_map];rfl) (fun h=>?_) (fun h=>?_) <;> (try simp only [vki,reduceCtorEq] at h))
  ·have hlt:k < l.length:=by omega
   have e9:IntKind.wrap .i64 ((k:Int)+1)=((k+1:Nat):Int):=by rw [wrap64 (by omega) (by omega)];rfl
   obtain ⟨x,hx⟩:∃ x,l.getD k default=x:=⟨_,rfl⟩
   have hl1:=U7 hlt
   have hh1:=Qal hlt
   rw [hx] at hl1 hh1
   repeat' (first|(apply nx;with_reducible constructor)|refine jq (by decide) ?_|((first|refine kz env fun Q hQ=>?_|refine kj fun Q hQ=>?_);simp only [vkt,seval,jJ,ko,qh,qd,qy,qR,qo,qZ,qg,qf,qm,nrS,List.length_map,hx,e9];(try simp only [ite_and]);(repeat' (first|with_reducible assumption|refine And.intro ?_ ?_|intro hp));all_goals (first|(refine hQ _ ?_;clear hQ Q)|(refine hQ _ (fun h=>?_) (fun h=>?_) <;> clear hQ Q <;> (try simp only [vki,reduceCtorEq] at h))|(refine kx ?_;kernel_rfl)|omega|assumption|with_reducible rfl|skip)))
   refine ⟨⟨k+1,hlt⟩,by show l.length - (k+1) < l.length - k;omega, ?_⟩
   simp only [hl1,hh1]
   (refine Le.ok some [] ?_;constructor;all_goals (try simp only [vle,vkt,seval,jJ,ko,qh,qd,qy,qR,qo,qZ,qg,qf,qm,nrS,List.length_map]))
   all_goals first|rfl|(simp;done)
  ·have hke:k=l.length:=by omega
   subst hke
   obtain ⟨g1,g2,g3,g4⟩:=hbd l.length (Nat.le_refl _)
   obtain ⟨lo,hlo⟩:∃ x,loK l l.length=x:=⟨_,rfl⟩
   obtain ⟨hi,hhi⟩:∃ x,hiK l l.length=x:=⟨_,rfl⟩
   rw [hlo] at g1 g2
   rw [hhi] at g3 g4
   obtain ⟨x,hx⟩:∃ x,cs.getD lo.toNat default=x:=⟨_,rfl⟩
   have w1:IntKind.wrap .i64 (lo+1)=lo+1:=wrap64 (by omega) (by omega)
   simp only [hlo,hhi]
   by_cases c1:lo=hi
   ·rw [show (decide (lo=hi) || (decide (lo+1=hi) && (cs.getD lo.toNat default).door))=true by simp [c1]]
    have d1:decide (lo=hi)=true:=decide_eq_true c1
    have d1':(lo == hi)=true:=by simpa using c1
    repeat' (first|(apply nx;with_reducible constructor)|refine jq (by decide) ?_|((first|refine kz env fun Q hQ=>?_|refine kj fun Q hQ=>?_);simp only [vkt,seval,jJ,ko,qh,qd,qy,qR,qo,qZ,qg,qf,qm,nrS,List.length_map,d1,d1',w1,hx,g1,g2];(try simp only [ite_and]);(repeat' (first|with_reducible assumption|refine And.intro ?_ ?_|intro hp));all_goals (first|(refine hQ _ ?_;clear hQ Q)|(refine hQ _ (fun h=>?_) (fun h=>?_) <;> clear hQ Q <;> (try simp only [vki,reduceCtorEq] at h))|(refine kx ?_;kernel_rfl)|omega|assumption|with_reducible rfl|skip)))
    (simp only [vrt,Tryz.results93,vkt,seval,jJ,ko,qh,qd,qy,qR,qo,qZ,qg,qf,qm,nrS,List.length_map];refine Fin.ok some [] ?_ ?_ ?_ ?_ ?_ rfl;all_goals (try simp only [vle,vkt,seval,jJ,ko,qh,qd,qy,qR,qo,qZ,qg,qf,qm,nrS,List.length_map]))
    all_goals first|rfl|(simp;done)
   ·have d1:decide (lo=hi)=false:=decide_eq_false c1
    have d1':(lo == hi)=false:=by simpa using c1
    by_cases c2:lo+1=hi
    ·rw [show (decide (lo=hi) || (decide (lo+1=hi) && (cs.getD lo.toNat default).door))=x.door by rw [d1,hx,decide_eq_true c2];simp]
     have d2:decide (lo+1=hi)=true:=decide_eq_true c2
     have d2':(lo+1 == hi)=true:=by simpa using c2
     repeat' (first|(apply nx;with_reducible constructor)|refine jq (by decide) ?_|((first|refine kz env fun Q hQ=>?_|refine kj fun Q hQ=>?_);simp only [vkt,seval,jJ,ko,qh,qd,qy,qR,qo,qZ,qg,qf,qm,nrS,List.length_map,d1,d1',d2,d2',w1,hx,g1,g2];(try simp only [ite_and]);(repeat' (first|with_reducible assumption|refine And.intro ?_ ?_|intro hp));all_goals (first|(refine hQ _ ?_;clear hQ Q)|(refine hQ _ (fun h=>?_) (fun h=>?_) <;> clear hQ Q <;> (try simp only [vki,reduceCtorEq] at h))|(refine kx ?_;kernel_rfl)|omega|assumption|with_reducible rfl|skip)))
     (simp only [vrt,Tryz.results93,vkt,seval,jJ,ko,qh,qd,qy,qR,qo,qZ,qg,qf,qm,nrS,List.length_map];refine Fin.ok some [] ?_ ?_ ?_ ?_ ?_ rfl;all_goals (try simp only [vle,vkt,seval,jJ,ko,qh,qd,qy,qR,qo,qZ,qg,qf,qm,nrS,List.length_map]))
     all_goals first|rfl|(simp;done)
    ·rw [show (decide (lo=hi) || (decide (lo+1=hi) && (cs.getD lo.toNat default).door))=false by rw [d1,decide_eq_false c2];rfl]
     have d2:decide (lo+1=hi)=false:=decide_eq_false c2
     have d2':(lo+1 == hi)=false:=by simpa using c2
     repeat' (first|(apply nx;with_reducible constructor)|refine jq (by decide) ?_|((first|refine kz env fun Q hQ=>?_|refine kj fun Q hQ=>?_);simp only [vkt,seval,jJ,ko,qh,qd,qy,qR,qo,qZ,qg,qf,qm,nrS,List.length_map,d1,d1',d2,d2',w1,hx,g1,g2];(try simp only [ite_and]);(repeat' (first|with_reducible assumption|refine And.intro ?_ ?_|intro hp));all_goals (first|(refine hQ _ ?_;clear hQ Q)|(refine hQ _ (fun h=>?_) (fun h=>?_) <;> clear hQ Q <;> (try simp only [vki,reduceCtorEq] at h))|(refine kx ?_;kernel_rfl)|omega|assumption|with_reducible rfl|skip)))
     (simp only [vrt,Tryz.results93,vkt,seval,jJ,ko,qh,qd,qy,qR,qo,qZ,qg,qf,qm,nrS,List.length_map];refine Fin.ok some [] ?_ ?_ ?_ ?_ ?_ rfl;all_goals (try simp only [vle,vkt,seval,jJ,ko,qh,qd,qy,qR,qo,qZ,qg,qf,qm,nrS,List.length_map]))
     all_goals first|rfl|(simp;done)
theorem xc {cs:List Cabin} {s:Int} {l:List Tk}:∀ i o,qj (qH 0 (qm cs s l)) i=some o→i < 2∧∀ id ∈ o.ids,id < 2:=by
 intro i o hi
 have h:=qQ hi
 simp [qH,qm] at h
 rcases h with ⟨rfl,rfl⟩|⟨rfl,rfl⟩ <;> simp [AObj.ids,AV.ids,AV.idsL,qg,qf]
def vU (S:St):List AV→Option Pk
 |[.ptr c 0,.sl bs]=>match S.h c with
  |some (.cells [.sl cs,.v (.int .i64 s),.row r])=>match S.h r with
   |some (.row _ _ xs)=>some { pre:=bs=(bs.map ji).map qy∧cs=(cs.map qA).map qo∧xs=(xs.map dTk).map eTk∧NearOk (cs.map qA) (bs.map ji),hs:=[c,r],ar:=[.ptr 0 0,.sl bs],L0:=qm (cs.map qA) s (xs.map dTk),v:=aB (KH (cs.map qA) (bs.map ji)),L1:=(qm (cs.map qA) s (xs.map dTk)).map some }
   |_=>none
  |_=>none
 |_=>none
theorem eNear {A:Frm→Prop}:qC A Tryz.prog 93 (fnE vU):=wK fun S bs q h hp=>by
 unfold vU at h
 split at h
 ·split at h
  ·split at h
   ·cases h
    obtain ⟨h1,h2,h3,h4⟩:=hp
    have:=Qis _ (by assumption) (List.map dTk (by assumption)) _ h4
    rw [qd,← h1] at this
    exact this
   ·cases h
  ·cases h
 ·cases h
def Y9:=kk @QV (kk @xg (kk @xB (kk @Zu (kk @Vw (kk @Qh.eq_1 (kk @y9.eq_1 (kk @vJ.eq_1 (kk @QP.eq_1 @JU.eq_1))))))))
def QbW:=kk @aI.eq_1 (@aB.eq_1)
theorem Qhm (cs:List Cabin) (s:Int) (sold:List Tk) (t:Tk) (hl:sold.length≤100):Fn noB Tryz.prog 45 [.ptr 0 0,aTk t] (qj (qH 0 (qm cs s sold))) (aB (decide (yC t sold=0))) (qj (wP 0 ((qm cs s sold).map some))) 0:=by
 have env:Env (fun _=>True) Tryz.prog tyB (tab [(64,za true j5)]):=qO ⟨QcF,trivial⟩
 refine Fn.of (A:=fun _=>True) (n0:=2) (D:=noD) (Fn0 Tryz.func45 rfl (fun vs w=>by kernel_rfl) (by kernel_rfl)) (by simp) (by simp [AV.ids,AV.idsL,aTk,cTk]) xc (fun _ _ _ _=>trivial) qG ?_
 have et:(⟨t.party,t.sex,t.cab,t.bed,t.frm,t.to,t.dog⟩:Tk)=t:=rfl
 show Sym _ _ _ (zR [.ptr 0 0,aTk t] 2 (qj [(0,qg cs s 1),(1,qf sold)])) (vo tyB noD Tryz.f45 fun S rv=>Fin S rv _ 2 (qj [(0,qg cs s 1),(1,qf sold)]) 0)
 repeat' (first|(apply nx;with_reducible constructor)|refine jq (by decide) ?_|((first|refine kz env fun Q hQ=>?_|refine kj fun Q hQ=>?_);simp only [vkt,seval,Y9,QbW,aTk,cTk,qw,mTk,qg,qf,qm,j5,List.length_map,et];(try simp only [ite_and]);(repeat' (first|with_reducible assumption|refine And.intro ?_ ?_|intro hp));all_goals (first|(refine hQ _ ?_;clear hQ Q)|(refine hQ _ (fun h=>?_) (fun h=>?_) <;> clear hQ Q <;> (try simp only [vki,reduceCtorEq] at h))|(refine kx ?_;kernel_rfl)|omega|assumption|with_reducible rfl|skip)))
 (simp only [vrt,Tryz.results45,vkt,seval,Y9,QbW,aTk,cTk,qw,mTk,qg,qf,qm,j5,List.length_map];refine Fin.ok some [] ?_ ?_ ?_ ?_ ?_ rfl;all_goals (try simp only [vle,vkt,seval,Y9,QbW,aTk,cTk,qw,mTk,qg,qf,qm,j5,List.length_map]))
 all_goals first|rfl|(simp;done)
def jB (S:St):List AV→Option Pk
 |[.ptr c 0,.agg [.v (.int .i64 a),.v (.int .i64 b),.v (.int .i64 d),.v (.int .i64 e),.v (.int .i64 f),.v (.int .i64 g),.v (.bool k)]]=>match S.h c with
  |some (.cells [.sl cs,.v (.int .i64 s),.row r])=>match S.h r with
   |some (.row _ _ xs)=>some { pre:=cs=(cs.map qA).map qo∧xs=(xs.map dTk).map eTk∧xs.length≤100,hs:=[c,r],ar:=[.ptr 0 0,.agg [.v (.int .i64 a),.v (.int .i64 b),.v (.int .i64 d),.v (.int .i64 e),.v (.int .i64 f),.v (.int .i64 g),.v (.bool k)]],L0:=qm (cs.map qA) s (xs.map dTk),v:=aB (decide (yC ⟨a,b,d,e,f,g,k⟩ (xs.map dTk)=0)),L1:=(qm (cs.map qA) s (xs.map dTk)).map some }
   |_=>none
  |_=>none
 |_=>none
theorem Qjd {A:Frm→Prop}:qC A Tryz.prog 45 (fnE jB):=wK fun S bs q h hp=>by
 unfold jB at h
 split at h
 ·rename_i a b d e f g k
  split at h
  ·split at h
   ·rename_i s _ _ _ _ xs _
    cases h
    obtain ⟨h1,h2,h3⟩:=hp
    exact Qhm _ _ _ ⟨a,b,d,e,f,g,k⟩ (by rw [List.length_map];exact h3)
   ·cases h
  ·cases h
 ·cases h
theorem Qh5 {l:List Tk} {r:List DV} {d:DV} (hr:r ∈ l.map eTk) (hd:d ∈ r):∃ x,d=.v x:=by
 obtain ⟨t,_,rfl⟩:=List.mem_map.1 hr
 simp only [eTk,List.mem_cons,List.not_mem_nil,or_false] at hd
 rcases hd with rfl|rfl|rfl|rfl|rfl|rfl|rfl <;> exact ⟨_,rfl⟩
def yX (cs:List Cabin) (s:Int) (l:List Tk) (t:Tk):List AObj:=[qg cs s 4,qf l,.cells [.row 1],.cells [.ptr 0 0],qf (l++[t])]
def Y0:=kk @QV (kk @xg (kk @xB (kk @Wl (kk @Vw (kk @Qh.eq_1 (kk @y9.eq_1 (kk @vJ.eq_1 (kk @Zt.eq_1 @JU.eq_1))))))))
def Qb6:=kk @aI.eq_1 (@aB.eq_1)
theorem Qia (cs:List Cabin) (s:Int) (sold:List Tk) (t:Tk) (hl:sold.length≤100):Fn noB Tryz.prog 57 [.ptr 0 0,aTk t] (qj (qH 0 (qm cs s sold))) (.clo 79 [.ptr 2 0,.ptr 3 0]) (qj (wP 0 ((yX cs s sold t).map some))) 0:=by
 have env:Env (fun _=>True) Tryz.prog tyB (tab [(71,fnE QA)]):=qO ⟨QcU,trivial⟩
 refine Fn.of (A:=fun _=>True) (n0:=2) (D:=noD) (Fn0 Tryz.func57 rfl (fun vs w=>by kernel_rfl) (by kernel_rfl)) (by simp) (by simp [AV.ids,AV.idsL,aTk,cTk]) xc (fun _ _ _ _=>trivial) qG ?_
 have hm:(100:Nat)+1≤maxLen:=by decide
 show Sym _ _ _ (zR [.ptr 0 0,aTk t] 2 (qj [(0,qg cs s 1),(1,qf sold)])) (vo tyB noD Tryz.f57 fun S rv=>Fin S rv _ 2 (qj [(0,qg cs s 4),(1,qf sold),(2,.cells [.row 1]),(3,.cells [.ptr 0 0]),(4,qf (sold++[t]))]) 0)
 repeat' (first|(apply nx;with_reducible constructor)|refine jq (by decide) ?_|((first|refine kz env fun Q hQ=>?_|refine kj fun Q hQ=>?_);simp only [vkt,seval,Y0,Qb6,aTk,cTk,qw,mTk,eTk,rTk,qg,qf,qm,yX,QA,List.length_map,List.length_append,List.map_append];(try simp only [ite_and]);(repeat' (first|with_reducible assumption|refine And.intro ?_ ?_|intro hp));all_goals (first|(refine hQ _ ?_;clear hQ Q)|(refine hQ _ (fun h=>?_) (fun h=>?_) <;> clear hQ Q <;> (try simp only [vki,reduceCtorEq] at h))|(refine kx ?_;kernel_rfl)|omega|assumption|with_reducible rfl|skip)))
 ·exact ⟨_,_,rfl⟩
 ·exact Qh5 (by assumption) (by assumption)
 (simp only [vrt,Tryz.results57,vkt,seval,Y0,Qb6,aTk,cTk,qw,mTk,eTk,rTk,qg,qf,qm,yX,QA,List.length_map,List.length_append,List.map_append];refine Fin.ok (fun j=>[0,1,4,2,7][j]?) [] ?_ ?_ ?_ ?_ ?_ rfl;all_goals (try simp only [vle,vkt,seval,Y0,Qb6,aTk,cTk,qw,mTk,eTk,rTk,qg,qf,qm,yX,QA,List.length_map,List.length_append,List.map_append]))
 all_goals first|rfl|(simp;done)|exact fun i hi=>(match i,hi with|0,_=>rfl|1,_=>rfl)
def kE (S:St):List AV→Option Pk
 |[.ptr c 0,.agg [.v (.int .i64 a),.v (.int .i64 b),.v (.int .i64 d),.v (.int .i64 e),.v (.int .i64 f),.v (.int .i64 g),.v (.bool k)]]=>match S.h c with
  |some (.cells [.sl cs,.v (.int .i64 s),.row r])=>match S.h r with
   |some (.row _ _ xs)=>some { pre:=cs=(cs.map qA).map qo∧xs=(xs.map dTk).map eTk∧xs.length≤100,hs:=[c,r],ar:=[.ptr 0 0,.agg [.v (.int .i64 a),.v (.int .i64 b),.v (.int .i64 d),.v (.int .i64 e),.v (.int .i64 f),.v (.int .i64 g),.v (.bool k)]],L0:=qm (cs.map qA) s (xs.map dTk),v:=.clo 79 [.ptr 2 0,.ptr 3 0],L1:=(yX (cs.map qA) s (xs.map dTk) ⟨a,b,d,e,f,g,k⟩).map some }
   |_=>none
  |_=>none
 |_=>none
theorem Qi8 {A:Frm→Prop}:qC A Tryz.prog 57 (fnE kE):=wK fun S bs q h hp=>by
 unfold kE at h
 split at h
 ·rename_i a b d e f g k
  split at h
  ·split at h
   ·cases h
    obtain ⟨h1,h2,h3⟩:=hp
    exact Qia _ _ _ ⟨a,b,d,e,f,g,k⟩ (by rw [List.length_map];exact h3)
   ·cases h
  ·cases h
 ·cases h
def J8:=kk @QV (kk @xg (kk @xB (kk @Wl (kk @Vw (kk @Qh.eq_1 (kk @y9.eq_1 (kk @vJ.eq_1 (kk @Zt.eq_1 @JU.eq_1))))))))
def Qb7:=kk @aI.eq_1 (@aB.eq_1)
theorem Qgd (cs:List Cabin) (s:Int) (sold:List Tk) (t:Tk):FnD Tryz.prog 79 [.ptr 2 0,.ptr 3 0] (qj (qH 0 (yX cs s sold t))) (.tup []) (qj (wP 0 ([qg cs s 1,qf sold,.cells [.row 1],.cells [.ptr 0 0],qf (sold++[t])].map some))):=by
 have env:Env (fun F=>F.r=none) Tryz.prog tyB (tab []):=qO trivial
 refine FnD.of (n0:=5) (Fn0 Tryz.func79 rfl (fun vs w=>by kernel_rfl) (by kernel_rfl)) (by simp) (by simp [AV.ids,AV.idsL]) ?_ ?_
 ·intro i o hi
  have h:=qQ hi
  simp [qH,yX] at h
  rcases h with ⟨rfl,rfl⟩|⟨rfl,rfl⟩|⟨rfl,rfl⟩|⟨rfl,rfl⟩|⟨rfl,rfl⟩ <;> simp [AObj.ids,AV.ids,AV.idsL,qg,qf]
 show Sym _ _ _ (zR [.ptr 2 0,.ptr 3 0] 5 (qj [(0,qg cs s 4),(1,qf sold),(2,.cells [.row 1]),(3,.cells [.ptr 0 0]),(4,qf (sold++[t]))])) (Qf0 tyB Tryz.f79 fun S rv=>Fin S rv _ 5 (qj [(0,qg cs s 1),(1,qf sold),(2,.cells [.row 1]),(3,.cells [.ptr 0 0]),(4,qf (sold++[t]))]) 0)
 repeat' (first|(apply nx;with_reducible constructor)|refine jq (by decide) ?_|((first|refine kz env fun Q hQ=>?_|refine kj fun Q hQ=>?_);simp only [vkt,seval,J8,Qb7,qg,qf,yX];(try simp only [ite_and]);(repeat' (first|with_reducible assumption|refine And.intro ?_ ?_|intro hp));all_goals (first|(refine hQ _ ?_;clear hQ Q)|(refine hQ _ (fun h=>?_) (fun h=>?_) <;> clear hQ Q <;> (try simp only [vki,reduceCtorEq] at h))|(refine kx ?_;kernel_rfl)|omega|assumption|with_reducible rfl|skip)))
 simp only [Qf0.eq_1]
 refine ⟨trivial, ?_⟩
 (simp only [vrt,Tryz.results79,vkt,seval,J8,Qb7,qg,qf,yX];refine Fin.ok some [] ?_ ?_ ?_ ?_ ?_ rfl;all_goals (try simp only [vle,vkt,seval,J8,Qb7,qg,qf,yX]))
 all_goals first|rfl|(simp;done)
def Z9 (S:St):List AV→Option Pk
 |[.ptr b 0,.ptr q 0]=>match S.h b,S.h q with
  |some (.cells [.row r]),some (.cells [.ptr c 0])=>match S.h c with
   |some (.cells [.sl cs,.v (.int .i64 s),.row r'])=>match S.h r,S.h r' with
    |some (.row _ _ xs),some (.row _ _ ys)=>some { pre:=cs=(cs.map qA).map qo∧ys=(xs.map dTk).map eTk++[ys.getLastD []]∧ys.getLastD []=eTk (dTk (ys.getLastD [])),hs:=[c,r,b,q,r'],ar:=[.ptr 2 0,.ptr 3 0],L0:=yX (cs.map qA) s (xs.map dTk) (dTk (ys.getLastD [])),v:=.tup [],L1:=[qg (cs.map qA) s 1,qf (xs.map dTk),.cells [.row 1],.cells [.ptr 0 0],qf (xs.map dTk++[dTk (ys.getLastD [])])].map some }
    |_,_=>none
   |_=>none
  |_,_=>none
 |_=>none
theorem Qkf {A:Frm→Prop}:ZI.OK A Tryz.prog (dfE 79 Z9):=Qhb fun S bs q h hp=>by
 unfold Z9 at h
 split at h
 ·split at h
  ·split at h
   ·split at h
    ·cases h
     exact Qgd _ _ _ _
    ·cases h
   ·cases h
  ·cases h
 ·cases h
def wZ (cs:List Cabin) (a:Ask):Nat→List Tk→List Bunk→List (List Bunk × List Tk)
 |0,sold,begun=>[(begun,sold)]
 |m+1,sold,begun=>(qV cs).flatMap fun b=>if goB cs a sold begun b then wZ cs a m (sold++[WG a begun.length b]) (begun++[b]) else []
structure GrowOk (cs:List Cabin) (s:Int) (a:Ask) (m:Nat) (sold:List Tk) (begun:List Bunk) (ys:Nat→List AV) (hl:Nat→List AObj) (ans:Nat→Bool) (R:Nat):Prop where
 sz:begun.length+m=a.sexes.length
 sx:a.sexes.length≤10
 cab:CabsOk cs
 c100:cs.length≤100
 many:sold.length+m≤100
 mem:∀ b ∈ begun,0≤b.cab∧b.cab.toNat < cs.length
 rounds:Rounds ans R (wZ cs a m sold begun).length
 ys:∀ j,j < (wZ cs a m sold begun).length→ys j=[qd ((wZ cs a m sold begun).getD j default).1]
 hl:∀ j,j < (wZ cs a m sold begun).length→hl j=qm cs s ((wZ cs a m sold begun).getD j default).2
def XP (cs:List Cabin) (s:Int) (a:Ask) (m:Nat):Prop:=∀ (sold:List Tk) (begun:List Bunk) (ys:Nat→List AV) (hl:Nat→List AObj) (ans:Nat→Bool) (R:Nat),GrowOk cs s a m sold begun ys hl ans R →
 Fn (Bcc Tryz.prog (qj (qH 0 [qg cs s 1])) (qj (qH 0 (qm cs s sold))) ys (fun j=>nth (hl j)) ans R) Tryz.prog 68 [.ptr 0 0,qx a,qd begun,.cb] (qj (qH 0 (qm cs s sold))) (aB (QM ans R)) (qj (wP 0 ((qm cs s sold).map some))) R
def K4 (cs:List Cabin) (s:Int) (a:Ask) (m:Nat) (ys:Nat→List AV) (hl:Nat→List AObj) (ans:Nat→Bool) (R:Nat) (S:St):List AV→Option PkI
 |[.ptr c 0,.agg aa,.sl bs,.cb]=>match S.h c with
  |some (.cells [.sl cc,.v (.int .i64 s'),.row r])=>match S.h r with
   |some (.row _ _ xs)=>some { q:={ pre:=cc=cs.map qo∧s'=s∧aa=ql a∧bs=(bs.map ji).map qy∧xs=(xs.map dTk).map eTk∧GrowOk cs s a m (xs.map dTk) (bs.map ji) (fun j=>ys (S.j+j)) (fun j=>hl (S.j+j)) (fun j=>ans (S.j+j)) (min (wZ cs a m (xs.map dTk) (bs.map ji)).length (R - S.j)),hs:=[c,r],ar:=[.ptr 0 0,.agg aa,.sl bs,.cb],L0:=qm cs s (xs.map dTk),v:=aB (QM (fun j=>ans (S.j+j)) (min (wZ cs a m (xs.map dTk) (bs.map ji)).length (R - S.j))),L1:=(qm cs s (xs.map dTk)).map some },dj:=min (wZ cs a m (xs.map dTk) (bs.map ji)).length (R - S.j) }
   |_=>none
  |_=>none
 |_=>none
theorem eGrow {A:Frm→Prop} {cs:List Cabin} {s:Int} {a:Ask} {m:Nat} {ys:Nat→List AV} {hl:Nat→List AObj} {ans:Nat→Bool} {R:Nat} {h0:Nat→Option AObj} (ih:XP cs s a m) (hA:∀ F,A F→Acb Tryz.prog (qj (qH 0 [qg cs s 1])) h0 ys (fun j=>nth (hl j)) ans R F) :
  qC A Tryz.prog 68 (fnI [qg cs s 1] R (K4 cs s a m ys hl ans R)):=UK hA fun S bs q h hp=>by
 unfold K4 at h
 split at h
 ·split at h
  ·split at h
   ·cases h
    obtain ⟨_,_,h3,h4,_,h6⟩:=hp
    have:=ih _ _ _ _ _ _ h6
    rw [qd,← h4,qx,← h3] at this
    exact this
   ·cases h
  ·cases h
 ·cases h
def g1L (cs:List Cabin) (s:Int) (a:Ask) (sold:List Tk) (begun:List Bunk):List AObj:=[qg cs s 1,qf sold,.cells [.ptr 0 0],.cells (ql a),.cells [.sl (begun.map qy)],.cells [.cb]]
theorem Qgp {cs:List Cabin} {s:Int} {a:Ask} {sold:List Tk} {begun:List Bunk}:∀ i o,qj (qH 0 (g1L cs s a sold begun)) i=some o→i < 6∧∀ id ∈ o.ids,id < 6:=by
 intro i o hi
 have h:=qQ hi
 simp [qH,g1L] at h
 rcases h with ⟨rfl,rfl⟩|⟨rfl,rfl⟩|⟨rfl,rfl⟩|⟨rfl,rfl⟩|⟨rfl,rfl⟩|⟨rfl,rfl⟩ <;> simp [AObj.ids,AV.ids,AV.idsL,qg,qf,ql]
theorem QdW {cs:List Cabin} {s:Int} {r:List AObj}:∀ i o,qj (qH 0 [qg cs s 1]) i=some o→∃ o',qj (qH 0 (qg cs s 1 :: r)) i=some o':=fun i o hi=>by
 rw [jS] at hi
 cases i with
 |zero=>exact ⟨_,rfl⟩
 |succ i=>simp at hi
def UQ (cs:List Cabin) (s:Int) (a:Ask) (m:Nat):Prop:=∀ (sold:List Tk) (begun:List Bunk) (ys:Nat→List AV) (hl:Nat→List AObj) (ans:Nat→Bool) (R:Nat),GrowOk cs s a m sold begun ys hl ans R →
 Fn (Bcc Tryz.prog (qj (qH 0 [qg cs s 1])) (qj (qH 0 (g1L cs s a sold begun))) ys (fun j=>nth (hl j)) ans R) Tryz.prog 95 [.ptr 2 0,.ptr 3 0,.ptr 4 0,.ptr 5 0] (qj (qH 0 (g1L cs s a sold begun))) (aB (QM ans R)) (qj (wP 0 ((g1L cs s a sold begun).map some))) R
def Yb:=kk @QU (kk @YM (kk @Q0 (kk @Wl (kk @Qi0 (kk @Qi.eq_1 (kk @JN.eq_1 (kk @Ql.eq_1 (kk @Zt.eq_1 @Ll.eq_1))))))))
def Qb3:=kk @aI.eq_1 (@aB.eq_1)
theorem Qff {cs:List Cabin} {s:Int} {a:Ask} {m:Nat} (ih:XP cs s a m):UQ cs s a m:=by
 intro sold begun ys hl ans R ok
 obtain ⟨A0,hA0⟩:∃ A0:Frm→Prop,A0=Acb Tryz.prog (qj (qH 0 [qg cs s 1])) (qj (qH 0 (g1L cs s a sold begun))) ys (fun j=>nth (hl j)) ans R:=⟨_,rfl⟩
 have hA:∀ F,A0 F→Acb Tryz.prog (qj (qH 0 [qg cs s 1])) (qj (qH 0 (g1L cs s a sold begun))) ys (fun j=>nth (hl j)) ans R F:=fun F h=>hA0 ▸ h
 have env:Env A0 Tryz.prog tyB (tab [(68,fnI [qg cs s 1] R (K4 cs s a m ys hl ans R))]):=qO ⟨eGrow ih hA,trivial⟩
 refine Fn.of (A:=A0) (n0:=6) (D:=noD) (Fn0 Tryz.func95 rfl (fun vs w=>by kernel_rfl) (by kernel_rfl)) (by simp) (by simp [AV.ids]) Qgp (fun F hb h0 _=>hA0 ▸ ⟨h0,QdW,hb⟩) qG ?_
 have hle:=ok.rounds.le
 have eR:min (wZ cs a m sold begun).length R=R:=by omega
 have ea1:a.sexes=a.sexes:=rfl
 show Sym _ _ _ (zR [.ptr 2 0,.ptr 3 0,.ptr 4 0,.ptr 5 0] 6 (qj [(0,qg cs s 1),(1,qf sold),(2,.cells [.ptr 0 0]),(3,.cells (ql a)),(4,.cells [.sl (begun.map qy)]),(5,.cells [.cb])])) (vo tyB noD Tryz.f95 fun S rv=>Fin S rv _ 6 (qj [(0,qg cs s 1),(1,qf sold),(2,.cells [.ptr 0 0]),(3,.cells (ql a)),(4,.cells [.sl (begun.map qy)]),(5,.cells [.cb])]) R)
 repeat' (first|(apply nx;with_reducible constructor)|refine jq (by decide) ?_|((first|refine kz env fun Q hQ=>?_|refine kj fun Q hQ=>?_);simp only [vkt,seval,Yb,Qb3,aTk,cTk,qx,ql,qd,zg,mTk,qc,qg,qf,qm,g1L,K4,List.length_map,Go.Sym.tabC,cbX,fnI,wM,qU,nth,hwL,Nat.zero_add,Nat.sub_zero,eR,ok];(try simp only [ite_and]);(repeat' (first|with_reducible assumption|refine And.intro ?_ ?_|intro hp));all_goals (first|(refine hQ _ ?_;clear hQ Q)|(refine hQ _ (fun h=>?_) (fun h=>?_) <;> clear hQ Q <;> (try simp only [vki,reduceCtorEq] at h))|(refine kx ?_;kernel_rfl)|omega|assumption|with_reducible rfl|skip)))
 (simp only [vrt,Tryz.results95,vkt,seval,Yb,Qb3,aTk,cTk,qx,ql,qd,zg,mTk,qc,qg,qf,qm,g1L,K4,List.length_map,Go.Sym.tabC,cbX,fnI,wM,qU,nth,hwL,Nat.zero_add,Nat.sub_zero];refine Fin.ok some [] ?_ ?_ ?_ ?_ ?_ rfl;all_goals (try simp only [vle,vkt,seval,Yb,Qb3,aTk,cTk,qx,ql,qd,zg,mTk,qc,qg,qf,qm,g1L,K4,List.length_map,Go.Sym.tabC,cbX,fnI,wM,qU,nth,hwL,Nat.zero_add,Nat.sub_zero]))
 all_goals first|rfl|(simp;done)|exact fun i hi=>(match i,hi with|0,_=>rfl|1,_=>rfl)
def Wh (cs:List Cabin) (s:Int) (a:Ask) (m:Nat) (ys:Nat→List AV) (hl:Nat→List AObj) (ans:Nat→Bool) (R:Nat) (S:St):List AV→Option PkI
 |[.ptr p2 0,.ptr p3 0,.ptr p4 0,.ptr p5 0]=>match S.h p2,S.h p3,S.h p4,S.h p5 with
  |some (.cells [.ptr c 0]),some (.cells aa),some (.cells [.sl bs]),some (.cells [.cb])=>match S.h c with
   |some (.cells [.sl cc,.v (.int .i64 s'),.row r])=>match S.h r with
    |some (.row _ _ xs)=>some { q:={ pre:=cc=cs.map qo∧s'=s∧aa=ql a∧bs=(bs.map ji).map qy∧xs=(xs.map dTk).map eTk∧GrowOk cs s a m (xs.map dTk) (bs.map ji) (fun j=>ys (S.j+j)) (fun j=>hl (S.j+j)) (fun j=>ans (S.j+j)) (min (wZ cs a m (xs.map dTk) (bs.map ji)).length (R - S.j)),hs:=[c,r,p2,p3,p4,p5],ar:=[.ptr 2 0,.ptr 3 0,.ptr 4 0,.ptr 5 0],L0:=g1L cs s a (xs.map dTk) (bs.map ji),v:=aB (QM (fun j=>ans (S.j+j)) (min (wZ cs a m (xs.map dTk) (bs.map ji)).length (R - S.j))),L1:=(g1L cs s a (xs.map dTk) (bs.map ji)).map some },dj:=min (wZ cs a m (xs.map dTk) (bs.map ji)).length (R - S.j) }
    |_=>none
   |_=>none
  |_,_,_,_=>none
 |_=>none
theorem Qkp {A:Frm→Prop} {cs:List Cabin} {s:Int} {a:Ask} {m:Nat} {ys:Nat→List AV} {hl:Nat→List AObj} {ans:Nat→Bool} {R:Nat} {h0:Nat→Option AObj} (ih:UQ cs s a m) (hA:∀ F,A F→Acb Tryz.prog (qj (qH 0 [qg cs s 1])) h0 ys (fun j=>nth (hl j)) ans R F) :
  qC A Tryz.prog 95 (fnI [qg cs s 1] R (Wh cs s a m ys hl ans R)):=UK hA fun S bs q h hp=>by
 unfold Wh at h
 split at h
 ·split at h
  ·split at h
   ·split at h
    ·cases h
     obtain ⟨_,_,_,_,_,h6⟩:=hp
     exact ih _ _ _ _ _ _ h6
    ·cases h
   ·cases h
  ·cases h
 ·cases h
def Qci (cs:List Cabin) (s:Int) (a:Ask) (m:Nat):Prop:=∀ (sold:List Tk) (t:Tk) (begun:List Bunk) (ys:Nat→List AV) (hl:Nat→List AObj) (ans:Nat→Bool) (R:Nat),GrowOk cs s a m (sold++[t]) begun ys hl ans R →
 Fn (Bcc Tryz.prog (qj (qH 0 [qg cs s 1])) (qj (qH 0 (g1L cs s a sold begun))) ys (fun j=>nth (hl j)) ans R) Tryz.prog 94 [.ptr 0 0,aTk t,.clo 95 [.ptr 2 0,.ptr 3 0,.ptr 4 0,.ptr 5 0]] (qj (qH 0 (g1L cs s a sold begun))) (aB (QM ans R)) (qj (wP 0 ((g1L cs s a sold begun).map some))) R
def Zd:=kk @xB @vJ.eq_1
def Vm:=kk @aI.eq_1 (@aB.eq_1)
theorem Qio {cs:List Cabin} {s:Int} {a:Ask} {m:Nat} (ih:UQ cs s a m):Qci cs s a m:=by
 intro sold t begun ys hl ans R ok
 obtain ⟨A0,hA0⟩:∃ A0:Frm→Prop,A0=fun F=>F.r=none∧Acb Tryz.prog (qj (qH 0 [qg cs s 1])) (qj (qH 0 (g1L cs s a sold begun))) ys (fun j=>nth (hl j)) ans R F:=⟨_,rfl⟩
 have hr:∀ F,A0 F→F.r=none:=fun F h=>by rw [hA0] at h;exact h.1
 have hA:∀ F,A0 F→Acb Tryz.prog (qj (qH 0 [qg cs s 1])) (qj (qH 0 (g1L cs s a sold begun))) ys (fun j=>nth (hl j)) ans R F:=fun F h=>by rw [hA0] at h;exact h.2
 have env:Env A0 Tryz.prog tyB (tab [(57,fnE kE),(95,fnI [qg cs s 1] R (Wh cs s a m ys hl ans R))]):=qO ⟨Qi8,Qkp ih hA,trivial⟩
 refine Fn.of (A:=A0) (n0:=6) (D:=dfE 79 Z9) (Fn0 Tryz.func94 rfl (fun vs w=>by kernel_rfl) (by kernel_rfl)) (by simp) (by simp [AV.ids,AV.idsL,aTk,cTk]) Qgp (fun F hb h0 h1=>by rw [hA0];exact ⟨h1,h0,QdW,hb⟩) Qkf ?_
 have hle:=ok.rounds.le
 have eR:min (wZ cs a m (sold++[t]) begun).length R=R:=by omega
 have hs1:=ok.many
 have hs2:sold.length≤100:=by rw [List.length_append] at hs1;omega
 have et:(⟨t.party,t.sex,t.cab,t.bed,t.frm,t.to,t.dog⟩:Tk)=t:=rfl
 have hgl:(List.map eTk sold++[eTk t]).getLastD []=eTk t:=by simp
 have hma:List.map eTk (sold++[t])=List.map eTk sold++[eTk t]:=by simp
 show Sym _ _ _ (zR [.ptr 0 0,aTk t,.clo 95 [.ptr 2 0,.ptr 3 0,.ptr 4 0,.ptr 5 0]] 6 (qj [(0,qg cs s 1),(1,qf sold),(2,.cells [.ptr 0 0]),(3,.cells (ql a)),(4,.cells [.sl (begun.map qy)]),(5,.cells [.cb])])) (vo tyB _ Tryz.f94 fun S rv=>Fin S rv _ 6 (qj [(0,qg cs s 1),(1,qf sold),(2,.cells [.ptr 0 0]),(3,.cells (ql a)),(4,.cells [.sl (begun.map qy)]),(5,.cells [.cb])]) R)
 repeat' (first|(apply nx;with_reducible constructor)|refine jq (by decide) ?_)
 (refine kz env fun Q hQ=>?_;simp only [vkt,seval,Zd,Vm,aTk,cTk,ql,zg,mTk,qc,qg,qf,qm,yX,g1L,kE,Wh,Z9,dfE,List.length_map,fnI,wM,qU,nth,hwL,Nat.zero_add,Nat.sub_zero];(try simp only [ite_and]);(repeat' (first|with_reducible assumption|refine And.intro ?_ ?_|intro hp));all_goals (first|(refine hQ _ ?_;clear hQ Q)|(refine kx ?_;kernel_rfl)|omega|assumption|with_reducible rfl|skip))
 repeat' (first|(apply nx;with_reducible constructor)|refine jq (by decide) ?_)
 refine LQ hr env rfl rfl rfl fun Q hQ=>?_
 simp only [List.dropLast]
 simp only [vkt,seval,Zd,Vm,aTk,cTk,ql,zg,mTk,qc,qg,qf,qm,yX,g1L,kE,Wh,Z9,dfE,List.length_map,fnI,wM,qU,nth,hwL,Nat.zero_add,Nat.sub_zero,et,hs2]
 repeat' (first|with_reducible assumption|refine And.intro ?_ ?_|intro hp)
 all_goals first|(refine hQ _ _ _ (by simp only [vkt,seval,Zd,Vm,aTk,cTk,ql,zg,mTk,qc,qg,qf,qm,yX,g1L,kE,Wh,Z9,dfE,List.length_map,fnI,wM,qU,nth,hwL,Nat.zero_add,Nat.sub_zero];rfl) ?_;clear hQ Q)|skip
 dsimp only [put]
 repeat' (first|(apply nx;with_reducible constructor)|refine jq (by decide) ?_|((first|refine kz env fun Q hQ=>?_|refine kj fun Q hQ=>?_);simp only [vkt,seval,Zd,Vm,aTk,cTk,ql,zg,mTk,qc,qg,qf,qm,yX,g1L,kE,Wh,Z9,dfE,List.length_map,fnI,wM,qU,nth,hwL,Nat.zero_add,Nat.sub_zero,eR,ok,List.append_nil];(try simp only [ite_and]);(repeat' (first|with_reducible assumption|refine And.intro ?_ ?_|intro hp));all_goals (first|(refine hQ _ ?_;clear hQ Q)|(refine hQ _ (fun h=>?_) (fun h=>?_) <;> clear hQ Q <;> (try simp only [vki,reduceCtorEq] at h))|(refine kx ?_;kernel_rfl)|omega|assumption|with_reducible rfl|skip)))
 simp only [vrt,Tryz.results94,Qb.eq_3,vkt,seval,Zd,Vm,aTk,cTk,ql,zg,mTk,qc,qg,qf,qm,yX,g1L,kE,Wh,Z9,dfE,List.length_map,fnI,wM,qU,nth,hwL,Nat.zero_add,Nat.sub_zero,hgl,hma,Qjm]
 refine Fin.ok some [] ?_ ?_ ?_ ?_ ?_ rfl
 all_goals (try simp only [vle,vkt,seval,Zd,Vm,aTk,cTk,ql,zg,mTk,qc,qg,qf,qm,yX,g1L,kE,Wh,Z9,dfE,List.length_map,fnI,wM,qU,nth,hwL,Nat.zero_add,Nat.sub_zero])
 all_goals first|rfl|(simp;done)
def vT (cs:List Cabin) (s:Int) (a:Ask) (m:Nat) (ys:Nat→List AV) (hl:Nat→List AObj) (ans:Nat→Bool) (R:Nat) (S:St):List AV→Option PkI
 |[.ptr c 0,.agg [.v (.int .i64 t0),.v (.int .i64 t1),.v (.int .i64 t2),.v (.int .i64 t3),.v (.int .i64 t4),.v (.int .i64 t5),.v (.bool t6)],.clo f [.ptr p2 0,.ptr p3 0,.ptr p4 0,.ptr p5 0]]=>match S.h p2,S.h p3,S.h p4,S.h p5 with
  |some (.cells [.ptr c' 0]),some (.cells aa),some (.cells [.sl bs]),some (.cells [.cb])=>match S.h c with
   |some (.cells [.sl cc,.v (.int .i64 s'),.row r])=>match S.h r with
    |some (.row _ _ xs)=>some { q:={ pre:=f=95∧c'=c∧cc=cs.map qo∧s'=s∧aa=ql a∧bs=(bs.map ji).map qy∧xs=(xs.map dTk).map eTk∧GrowOk cs s a m (xs.map dTk++[⟨t0,t1,t2,t3,t4,t5,t6⟩]) (bs.map ji) (fun j=>ys (S.j+j)) (fun j=>hl (S.j+j)) (fun j=>ans (S.j+j)) (min (wZ cs a m (xs.map dTk++[⟨t0,t1,t2,t3,t4,t5,t6⟩]) (bs.map ji)).length (R - S.j)),hs:=[c,r,p2,p3,p4,p5],ar:=[.ptr 0 0,.agg [.v (.int .i64 t0),.v (.int .i64 t1),.v (.int .i64 t2),.v (.int .i64 t3),.v (.int .i64 t4),.v (.int .i64 t5),.v (.bool t6)],.clo 95 [.ptr 2 0,.ptr 3 0,.ptr 4 0,.ptr 5 0]],L0:=g1L cs s a (xs.map dTk) (bs.map ji),v:=aB (QM (fun j=>ans (S.j+j)) (min (wZ cs a m (xs.map dTk++[⟨t0,t1,t2,t3,t4,t5,t6⟩]) (bs.map ji)).length (R - S.j))),L1:=(g1L cs s a (xs.map dTk) (bs.map ji)).map some },dj:=min (wZ cs a m (xs.map dTk++[⟨t0,t1,t2,t3,t4,t5,t6⟩]) (bs.map ji)).length (R - S.j) }
    |_=>none
   |_=>none
  |_,_,_,_=>none
 |_=>none
theorem eWith {A:Frm→Prop} {cs:List Cabin} {s:Int} {a:Ask} {m:Nat} {ys:Nat→List AV} {hl:Nat→List AObj} {ans:Nat→Bool} {R:Nat} {h0:Nat→Option AObj} (ih:Qci cs s a m) (hA:∀ F,A F→Acb Tryz.prog (qj (qH 0 [qg cs s 1])) h0 ys (fun j=>nth (hl j)) ans R F) :
  qC A Tryz.prog 94 (fnI [qg cs s 1] R (vT cs s a m ys hl ans R)):=UK hA fun S bs q h hp=>by
 unfold vT at h
 split at h
 ·split at h
  ·split at h
   ·split at h
    ·cases h
     obtain ⟨_,_,_,_,_,_,_,h6⟩:=hp
     exact ih _ _ _ _ _ _ _ h6
    ·cases h
   ·cases h
  ·cases h
 ·cases h
theorem QdE {cs:List Cabin} {s:Int} {l:List Tk}:∀ i o,qj (qH 0 [qg cs s 1]) i=some o→([0,1]:List Nat)[i]?=some i:=fun i o hi=>by
 rw [jS] at hi
 cases i with
 |zero=>rfl
 |succ i=>simp at hi
def zX:=kk @ty3 (kk @ty4 (kk @xg (kk @QU (kk @xB (kk @WE (kk @YM (kk @Q0 (kk @Wl (kk @Vw (kk @Qi0 (kk @ti3.eq_1 (kk @ti4.eq_1 (kk @y9.eq_1 (kk @Qi.eq_1 (kk @vJ.eq_1 (kk @Zr.eq_1 (kk @JN.eq_1 (kk @Ql.eq_1 (kk @Zt.eq_1 (kk @JU.eq_1 @Ll.eq_1))))))))))))))))))))
def QaU:=kk @aI.eq_1 (@aB.eq_1)
theorem Qea (cs:List Cabin) (s:Int) (a:Ask):XP cs s a 0:=by
 intro sold begun ys hl ans R ok
 obtain ⟨A0,hA0⟩:∃ A0:Frm→Prop,A0=Acb Tryz.prog (qj (qH 0 [qg cs s 1])) (qj (qH 0 (qm cs s sold))) ys (fun j=>nth (hl j)) ans R:=⟨_,rfl⟩
 have hA:∀ F,A0 F→Acb Tryz.prog (qj (qH 0 [qg cs s 1])) (qj (qH 0 (qm cs s sold))) ys (fun j=>nth (hl j)) ans R F:=fun F h=>hA0 ▸ h
 have env:Env A0 Tryz.prog tyB (Go.Sym.tabC (cbX [0,1] ys hl ans R) []):=⟨Xy,RZ (fun S bs h hS ops o g args tys caps hw ho hg hb=>Y1 hA (QdE (l:=sold)) (by simp) h hS hw ho hg hb) trivial,by kernel_rfl⟩
 refine Fn.of (A:=A0) (n0:=2) (D:=noD) (Fn0 Tryz.func68 rfl (fun vs w=>by kernel_rfl) (by kernel_rfl)) (by simp) (by simp [AV.ids,AV.idsL,qx,ql,qd]) xc (fun F hb h0 _=>hA0 ▸ ⟨h0,QdW,hb⟩) qG ?_
 have hr:=ok.rounds
 have hy:=ok.ys 0 (by simp [wZ])
 have hh:=ok.hl 0 (by simp [wZ])
 have hsz:=ok.sz
 simp only [wZ,List.length_cons,List.length_nil,List.getD_cons_zero] at hr hy hh
 have hR:R=1:=by
  have h1:=hr.le
  have h2:=hr.lt (k:=0) (by omega) (fun j hj=>by omega)
  omega
 subst hR
 rw [qd] at hy
 rw [show QM ans 1=ans 0 by simp [QM]]
 have d1:decide ((begun.length:Int)=(a.sexes.length:Int))=true:=decide_eq_true (by omega)
 show Sym _ _ _ (zR [.ptr 0 0,qx a,qd begun,.cb] 2 (qj [(0,qg cs s 1),(1,qf sold)])) (vo tyB noD Tryz.f68 fun S rv=>Fin S rv _ 2 (qj [(0,qg cs s 1),(1,qf sold)]) 1)
 repeat' (first|(apply nx;with_reducible constructor)|refine jq (by decide) ?_|((first|refine kz env fun Q hQ=>?_|refine kj fun Q hQ=>?_);simp only [vkt,seval,zX,QaU,qx,ql,qd,zg,mTk,qc,qg,qf,qm,List.length_map,Go.Sym.tabC,cbX,wM,qU,nth,hwL,Nat.zero_add,Nat.sub_zero,hy,hh,d1];(try simp only [ite_and]);(repeat' (first|with_reducible assumption|refine And.intro ?_ ?_|intro hp));all_goals (first|(refine hQ _ ?_;clear hQ Q)|(refine hQ _ (fun h=>?_) (fun h=>?_) <;> clear hQ Q <;> (try simp only [vki,reduceCtorEq] at h))|(refine kx ?_;kernel_rfl)|omega|assumption|with_reducible rfl|skip)))
 (simp only [vrt,Tryz.results68,vkt,seval,zX,QaU,qx,ql,qd,zg,mTk,qc,qg,qf,qm,List.length_map,Go.Sym.tabC,cbX,wM,qU,nth,hwL,Nat.zero_add,Nat.sub_zero];refine Fin.ok some [] ?_ ?_ ?_ ?_ ?_ rfl;all_goals (try simp only [vle,vkt,seval,zX,QaU,qx,ql,qd,zg,mTk,qc,qg,qf,qm,List.length_map,Go.Sym.tabC,cbX,wM,qU,nth,hwL,Nat.zero_add,Nat.sub_zero]))
 all_goals first|rfl|(simp;done)|exact fun i hi=>(match i,hi with|0,_=>rfl|1,_=>rfl)
def gbL (cs:List Cabin) (a:Ask) (m:Nat) (sold:List Tk) (begun:List Bunk) (b:Bunk):List (List Bunk × List Tk):=if goB cs a sold begun b then wZ cs a m (sold++[WG a begun.length b]) (begun++[b]) else []
def gsL (cs:List Cabin) (a:Ask) (m:Nat) (sold:List Tk) (begun:List Bunk):List Nat:=(qV cs).map fun b=>(gbL cs a m sold begun b).length
theorem Qt (cs:List Cabin) (a:Ask) (m:Nat) (sold:List Tk) (begun:List Bunk):wZ cs a (m+1) sold begun=(qV cs).flatMap (gbL cs a m sold begun):=rfl
theorem KP (cs:List Cabin) (a:Ask) (m:Nat) (sold:List Tk) (begun:List Bunk):(wZ cs a (m+1) sold begun).length=(gsL cs a m sold begun).sum:=by rw [Qt,Qe6];rfl
theorem Qet {cs:List Cabin} {a:Ask} {m:Nat} {sold:List Tk} {begun:List Bunk} {i k:Nat} (hi:i < (qV cs).length) (hk:k < (gbL cs a m sold begun ((qV cs).getD i default)).length) :
  (wZ cs a (m+1) sold begun).getD (((gsL cs a m sold begun).take i).sum+k) default=(gbL cs a m sold begun ((qV cs).getD i default)).getD k default:=by
 have:=QbB (gbL cs a m sold begun) default default (qV cs) i k hi hk
 rw [Qt,gsL,← List.map_take]
 exact this
theorem QgX {cs:List Cabin} {a:Ask} {m:Nat} {sold:List Tk} {begun:List Bunk} {i:Nat} (hi:i < (qV cs).length):(gsL cs a m sold begun).getD i 0=(gbL cs a m sold begun ((qV cs).getD i default)).length:=by
 simp [gsL,List.getD_eq_getElem?_getD,hi]
theorem UG {cs:List Cabin} {i:Nat} (hi:i < (qV cs).length):0≤((qV cs).getD i default).cab∧((qV cs).getD i default).cab.toNat < cs.length:=by
 obtain ⟨x,y,h1,h2,h3⟩:=Xm.1 (xV (d:=default) hi)
 rw [h3]
 exact ⟨Int.natCast_nonneg _,by simpa using h1⟩
theorem QbY {cs:List Cabin} {s:Int} {a:Ask} {m:Nat} {sold:List Tk} {begun:List Bunk} {ys:Nat→List AV} {hl:Nat→List AObj} {ans:Nat→Bool} {R:Nat} (ok:GrowOk cs s a (m+1) sold begun ys hl ans R) {i o:Nat} {b:Bunk} (hi:i < (qV cs).length) (hb:(qV cs).getD i default=b)
  (ho:((gsL cs a m sold begun).take i).sum=o) (hg:goB cs a sold begun b=true) {D:Nat} (hr:Rounds (fun j=>ans (o+j)) D (wZ cs a m (sold++[WG a begun.length b]) (begun++[b])).length) :
  GrowOk cs s a m (sold++[WG a begun.length b]) (begun++[b]) (fun j=>ys (o+j)) (fun j=>hl (o+j)) (fun j=>ans (o+j)) D:=by
 have hgb:gbL cs a m sold begun b=wZ cs a m (sold++[WG a begun.length b]) (begun++[b]):=by unfold gbL;rw [if_pos hg]
 have hlen:∀ j,j < (wZ cs a m (sold++[WG a begun.length b]) (begun++[b])).length→o+j < (wZ cs a (m+1) sold begun).length:=fun j hj=>by
  rw [KP,← ho]
  have h1:=YD (g:=gsL cs a m sold begun) (i:=i) (by simpa [gsL] using hi)
  have h2:=QN (g:=gsL cs a m sold begun) (show i+1≤(gsL cs a m sold begun).length by simp [gsL];omega)
  rw [List.take_length] at h2
  rw [QgX hi,hb,hgb] at h1
  omega
 have hget:∀ j,j < (wZ cs a m (sold++[WG a begun.length b]) (begun++[b])).length→(wZ cs a (m+1) sold begun).getD (o+j) default=(wZ cs a m (sold++[WG a begun.length b]) (begun++[b])).getD j default:=fun j hj=>by
  rw [← ho,Qet hi (by rw [hb,hgb];exact hj),hb,hgb]
 have h1:=ok.sz
 have h2:=ok.many
 refine ⟨by simp;omega,ok.sx,ok.cab,ok.c100,by simp;omega,fun x hx=>?_,hr,fun j hj=>?_,fun j hj=>?_⟩
 ·rcases List.mem_append.1 hx with hx|hx
  ·exact ok.mem x hx
  ·rw [List.mem_singleton.1 hx,← hb];exact UG hi
 ·show ys (o+j)=_
  rw [ok.ys _ (hlen j hj),hget j hj]
 ·show hl (o+j)=_
  rw [ok.hl _ (hlen j hj),hget j hj]
def gwL:List (Nat × AV):=[(4,.ptr 2 0),(5,.ptr 3 0),(6,.ptr 4 0),(7,.ptr 5 0),(8,.ptr 6 0),(25,.clo 66 [.ptr 7 0])]
def gwH (cs:List Cabin) (s:Int) (a:Ask) (sold:List Tk) (begun:List Bunk):List (Nat × AObj):=[(0,qg cs s 1),(1,qf sold),(2,.cells [.ptr 0 0]),(3,.cells (ql a)),(4,.cells [.sl (begun.map qy)]),(5,.cells [.cb]),(6,.cells [aB false])]
theorem Qcl (cs:List Cabin) (s:Int):zf [7] 9 0 [buO cs s]=[(7,buO cs s)]:=rfl
def yG:=kk @aI.eq_1 (kk @aB.eq_1 (kk @QJ (kk @Ue (@wz.eq_1))))
theorem QeG (cs:List Cabin) (s:Int) (a:Ask) (m:Nat) (ih:Qci cs s a m):XP cs s a (m+1):=by
 intro sold begun ys hl ans R ok
 obtain ⟨A0,hA0⟩:∃ A0:Frm→Prop,A0=fun F=>F.r=none∧Acb Tryz.prog (qj (qH 0 [qg cs s 1])) (qj (qH 0 (qm cs s sold))) ys (fun j=>nth (hl j)) ans R F:=⟨_,rfl⟩
 have hr0:∀ F,A0 F→F.r=none:=fun F h=>by rw [hA0] at h;exact h.1
 have hA:∀ F,A0 F→Acb Tryz.prog (qj (qH 0 [qg cs s 1])) (qj (qH 0 (qm cs s sold))) ys (fun j=>nth (hl j)) ans R F:=fun F h=>by rw [hA0] at h;exact h.2
 have env:Env A0 Tryz.prog tyB (tab [(32,fnE qK)]):=qO ⟨VF,trivial⟩
 refine Fn.of (A:=A0) (n0:=2) (D:=noD) (Fn0 Tryz.func68 rfl (fun vs w=>by kernel_rfl) (by kernel_rfl)) (by simp) (by simp [AV.ids,AV.idsL,qx,ql,qd]) xc (fun F hb h0 h1=>by rw [hA0];exact ⟨h1,h0,QdW,hb⟩) qG ?_
 have hr:=ok.rounds
 rw [KP] at hr
 have hsz:=ok.sz
 have hsx:=ok.sx
 have d0:decide ((begun.length:Int)=(a.sexes.length:Int))=false:=decide_eq_false (by omega)
 obtain ⟨RB,ansB,hRB,hN,hend,hres⟩:=nest _ hr
 rw [show (gsL cs a m sold begun).length=(qV cs).length by simp [gsL]] at hRB
 have hRl:=hRB.le
 rw [hres]
 show Sym _ _ _ (zR [.ptr 0 0,qx a,qd begun,.cb] 2 (qj [(0,qg cs s 1),(1,qf sold)])) (vo tyB noD Tryz.f68 fun S rv=>Fin S rv _ 2 (qj [(0,qg cs s 1),(1,qf sold)]) R)
 repeat' (first|(apply nx;with_reducible constructor)|refine jq (by decide) ?_|((first|refine kz env fun Q hQ=>?_|refine kj fun Q hQ=>?_);simp only [vkt,seval,zX,yG,aTk,cTk,qx,ql,qh,qd,qy,wo,zg,mTk,qc,qg,qf,qm,g1L,gwL,gwH,buO,qK,jg,vU,jB,vT,jX,List.length_map,fnI,wM,qU,nth,hwL,Nat.zero_add,Nat.sub_zero,d0];(try simp only [ite_and]);(repeat' (first|with_reducible assumption|refine And.intro ?_ ?_|intro hp));all_goals (first|(refine hQ _ ?_;clear hQ Q)|(refine hQ _ (fun h=>?_) (fun h=>?_) <;> clear hQ Q <;> (try simp only [vki,reduceCtorEq] at h))|(refine kx ?_;kernel_rfl)|omega|assumption|with_reducible rfl|skip)))
 refine vM (S':={ t:=asg gwL,h:=qj (gwH cs s a sold begun++[(7,buO cs s)]),n:=8,j:=0,d:=[],m:=2 }) ?_ ?_
 ·show Le _ { t:=asg [(4,.ptr 2 0),(5,.ptr 3 0),(6,.ptr 4 0),(7,.ptr 5 0),(8,.ptr 6 0),(25,.clo 66 [.ptr 7 0])],h:=qj [(0,qg cs s 1),(1,qf sold),(2,.cells [.ptr 0 0]),(3,.cells (ql a)),(4,.cells [.sl (begun.map qy)]),(5,.cells [.cb]),(6,.cells [aB false]),(7,buO cs s)],n:=8,j:=0,d:=[],m:=2 }
  (refine Le.ok some [] ?_;constructor;all_goals (try simp only [vle,vkt,seval,zX,yG,aTk,cTk,qx,ql,qh,qd,qy,wo,zg,mTk,qc,qg,qf,qm,g1L,gwL,gwH,buO,qK,jg,vU,jB,vT,jX,List.length_map,fnI,wM,qU,nth,hwL,Nat.zero_add,Nat.sub_zero]))
  all_goals first|rfl|(simp;done)
 rw [← Qcl cs s]
 have ej:(fun i=>min ((gsL cs a m sold begun).take i).sum R) 0=0:=by simp
 rw [show ({ t:=asg gwL,h:=qj (gwH cs s a sold begun++zf [7] 9 0 [buO cs s]),n:=8,j:=0,d:=[],m:=2 }:St)={ t:=asg gwL,h:=qj ((fun _=>gwH cs s a sold begun) 0++zf [7] (8+1) 0 [buO cs s]),n:=8,j:=(fun i=>min ((gsL cs a m sold begun).take i).sum R) 0,d:=[],m:=2 } by rw [ej]]
 refine yQ hr0 1 (L:=gwL) (L':=gwL) (xs:=[]) (hs:=[7]) (n:=8) (nl:=0) (hc:=fun _=>gwH cs s a sold begun) (Lp:=[buO cs s]) (jj:=fun i=>min ((gsL cs a m sold begun).take i).sum R) (d:=[]) (ys:=buY cs) (hl:=fun _=>[buO cs s]) (ans:=ansB) (ex:=.ret) (caps:=[.ptr 7 0]) (caps0:=[.ptr 0 0]) (N:=(qV cs).length) (R:=RB) (A':=fun i=>Acb Tryz.prog (qj (qH 0 [qg cs s 1])) (qj ((8,.mark) :: gwH cs s a sold begun++[(7,buO cs s)])) (fun k=>ys (min ((gsL cs a m sold begun).take i).sum R+k)) (fun k=>nth (hl (min ((gsL cs a m sold begun).take i).sum R+k))) (fun k=>ans (min ((gsL cs a m sold begun).take i).sum R+k)) (R - min ((gsL cs a m sold begun).take i).sum R)) rfl (Yj cs s ok.cab) hRB (.inl rfl) ?_ ?_ ?_ rfl (by simp) ?_ (by simp) ?_ ?_ ?_ (fun _ _=>rfl) (fun x hx=>by cases hx) (fun j hj p _ h=>by cases h) ?_ (fun j hj=>?_) ?_ (fun j hj=>?_) (fun hall=>?_) (fun hpos hlast=>?_)
 ·simp [AV.leL,AV.le]
 ·simp [AV.nocbL,AV.nocb]
 ·simp [Z5,buO,AObj.nocb,AV.nocbL,AV.nocb,AObj.ids,AV.ids,AV.idsL,AObj.ren,AV.renL,AV.ren,AObj.le,AV.leL,AV.le,yD]
 ·simp [gwH,qj]
 ·intro F hF j hj F' hR
  refine Kw (hA F hF) hR fun i o hi=>?_
  rw [jS] at hi
  cases i with
  |zero=>exact ⟨_,rfl⟩
  |succ i=>simp at hi
 ·simp [gwH,qj]
 ·exact fun _ _ _ _ h=>h
 ·simp [JG,gwL,AV.ids,AV.idsL]
 ·refine ⟨?_,rfl, ?_, ?_,rfl, ?_⟩
  ·simp [Qg,gwH,AObj.ids,AV.ids,AV.idsL,qg,qf,ql,aB]
  ·simp [ZG,buO,AObj.nocb,AV.nocbL,AV.nocb,AObj.ids,AV.ids,AV.idsL]
  ·simp [YI,buY,qh,AV.nocb,AV.nocbL,AV.ids,AV.idsL]
  ·simp [Qf,ZP,zf,qz,gwH,gwL,xQ,AV.ids,AV.idsL,ADf.ids,List.range_succ]
 ·simp [Qg,gwH,AObj.ids,AV.ids,AV.idsL,qg,qf,ql,aB]
 ·have hjl:j < (qV cs).length:=by omega
  obtain ⟨n1,n2,n3,n4⟩:=hN j hj
  obtain ⟨o,ho⟩:∃ o,((gsL cs a m sold begun).take j).sum=o:=⟨_,rfl⟩
  have eo:min o R=o:=by omega
  rw [QgX hjl,ho] at n2 n3 n4
  obtain ⟨b,hb⟩:∃ b,(qV cs).getD j default=b:=⟨_,rfl⟩
  rw [hb] at n2 n3 n4
  have hbi:=UG hjl
  rw [hb] at hbi
  simp only [ho,eo]
  have hst:jf gwL [26] [7] 8 0 (buY cs j) (gwH cs s a sold begun) [buO cs s]={ t:=asg [(26,qh b),(4,.ptr 2 0),(5,.ptr 3 0),(6,.ptr 4 0),(7,.ptr 5 0),(8,.ptr 6 0),(25,.clo 66 [.ptr 7 0])],h:=qj [(8,.mark),(0,qg cs s 1),(1,qf sold),(2,.cells [.ptr 0 0]),(3,.cells (ql a)),(4,.cells [.sl (begun.map qy)]),(5,.cells [.cb]),(6,.cells [aB false]),(7,buO cs s)],n:=9,m:=9 }:=by
   simp only [jf,buY,hb,qh,List.map_cons,List.map_nil,AV.ren,AV.renL,List.zip_cons_cons,List.zip_nil_right,gwH,gwL,QY,List.cons_append,List.nil_append,Qcl]
   rfl
  show Sym _ _ _ (jf gwL [26] [7] 8 0 (buY cs j) (gwH cs s a sold begun) [buO cs s]) _
  rw [hst]
  obtain ⟨A1,hA1⟩:∃ A1:Frm→Prop,A1=Acb Tryz.prog (qj (qH 0 [qg cs s 1])) (qj ((8,.mark) :: gwH cs s a sold begun++[(7,buO cs s)])) (fun k=>ys (o+k)) (fun k=>nth (hl (o+k))) (fun k=>ans (o+k)) (R - o):=⟨_,rfl⟩
  rw [← hA1]
  have env:Env A1 Tryz.prog tyB (tab [(91,fnE jg),(92,za true jX),(93,fnE vU),(45,fnE jB),(94,fnI [qg cs s 1] (R - o) (vT cs s a m (fun k=>ys (o+k)) (fun k=>hl (o+k)) (fun k=>ans (o+k)) (R - o)))]) :=
   qO ⟨Qh9,Qkh,eNear,Qjd,eWith ih (h0:=qj ((8,.mark) :: gwH cs s a sold begun++[(7,buO cs s)])) fun F hF=>by rw [hA1] at hF;exact hF,trivial⟩
  have hcl:=ok.c100
  have hmany:=ok.many
  obtain ⟨sx,hsx1⟩:∃ x,a.sexes.getD begun.length 0=x:=⟨_,rfl⟩
  have hlt:begun.length < a.sexes.length:=by omega
  have hb1:begun.length≤100:=by omega
  have hb2:begun.length≤100000:=by omega
  have hm:(100:Nat)+1≤maxLen:=by decide
  have hb3:begun.length+1≤maxLen:=by omega
  repeat' (first|(apply nx;with_reducible constructor)|refine jq (by decide) ?_)
  (refine kz env fun Q hQ=>?_;simp only [vkt,seval,zX,yG,aTk,cTk,qx,ql,qh,qd,qy,wo,zg,mTk,qc,qg,qf,qm,g1L,gwL,gwH,buO,qK,jg,vU,jB,vT,jX,List.length_map,fnI,wM,qU,nth,hwL,Nat.zero_add,Nat.sub_zero];(try simp only [ite_and]);(repeat' (first|with_reducible assumption|refine And.intro ?_ ?_|intro hp));all_goals (first|(refine hQ _ ?_;clear hQ Q)|(refine kx ?_;kernel_rfl)|omega|assumption|with_reducible rfl|skip))
  repeat' (first|(apply nx;with_reducible constructor)|refine jq (by decide) ?_)
  (refine kz env fun Q hQ=>?_;simp only [vkt,seval,zX,yG,aTk,cTk,qx,ql,qh,qd,qy,wo,zg,mTk,qc,qg,qf,qm,g1L,gwL,gwH,buO,qK,jg,vU,jB,vT,jX,List.length_map,fnI,wM,qU,nth,hwL,Nat.zero_add,Nat.sub_zero,hsx1,hlt,hb1,hb2,hb3];(try simp only [ite_and]);(repeat' (first|with_reducible assumption|refine And.intro ?_ ?_|intro hp));all_goals (first|(refine hQ _ ?_;clear hQ Q)|(refine kx ?_;kernel_rfl)|omega|assumption|with_reducible rfl|skip))
  repeat' (first|(apply nx;with_reducible constructor)|refine jq (by decide) ?_)
  (refine kz env fun Q hQ=>?_;simp only [vkt,seval,zX,yG,aTk,cTk,qx,ql,qh,qd,qy,wo,zg,mTk,qc,qg,qf,qm,g1L,gwL,gwH,buO,qK,jg,vU,jB,vT,jX,List.length_map,fnI,wM,qU,nth,hwL,Nat.zero_add,Nat.sub_zero,hsx1,hlt,hb1,hb2,hb3];(try simp only [ite_and]);(repeat' (first|with_reducible assumption|refine And.intro ?_ ?_|intro hp));all_goals (first|(refine hQ _ ?_;clear hQ Q)|(refine kx ?_;kernel_rfl)|omega|assumption|with_reducible rfl|skip))
  repeat' (first|(apply nx;with_reducible constructor)|refine jq (by decide) ?_)
  have hma:List.map qy begun++[[DV.v (.int .i64 b.cab),DV.v (.int .i64 b.bed)]]=List.map qy (begun++[b]):=by simp [qy]
  refine vM (S':={ t:=asg [(4,.ptr 2 0),(5,.ptr 3 0),(6,.ptr 4 0),(7,.ptr 5 0),(8,.ptr 6 0),(9,.ptr 9 0),(10,.ptr 10 0),(11,.ptr 11 0)],h:=qj [(8,.mark),(0,qg cs s 1),(1,qf sold),(2,.cells [.ptr 0 0]),(3,.cells (ql a)),(4,.cells [.sl (begun.map qy)]),(5,.cells [.cb]),(6,.cells [aB false]),(7,buO cs s),(9,.cells [.v (.int .i64 b.cab),.v (.int .i64 b.bed)]),(10,.cells [.sl (List.map qy (begun++[b]))]),(11,.cells [.v (.int .i64 a.party),.v (.int .i64 sx),.v (.int .i64 b.cab),.v (.int .i64 b.bed),.v (.int .i64 a.frm),.v (.int .i64 a.to),.v (.bool a.dog)])],n:=12,j:=0,d:=[],m:=9 }) ?_ ?_
  ·(refine Le.ok (fun i=>if i=10 then some 13 else if i=11 then some 14 else some i) [12] ?_;constructor;all_goals (try simp only [vle,vkt,seval,zX,yG,aTk,cTk,qx,ql,qh,qd,qy,wo,zg,mTk,qc,qg,qf,qm,g1L,gwL,gwH,buO,qK,jg,vU,jB,vT,jX,List.length_map,fnI,wM,qU,nth,hwL,Nat.zero_add,Nat.sub_zero]))
   all_goals first|rfl|(simp;done)|(rw [hma];exact ⟨_,_,rfl⟩)|(intro i hi;rw [if_neg (by omega),if_neg (by omega)];done)
  have et:(⟨a.party,sx,b.cab,b.bed,a.frm,a.to,a.dog⟩:Tk)=WG a begun.length b:=by rw [← hsx1];rfl
  have eb:(⟨b.cab,b.bed⟩:Bunk)=b:=rfl
  have hno:NearOk cs (begun++[b]):=⟨by simp,by simp;omega,hcl,fun x hx=>by
   rcases List.mem_append.1 hx with hx|hx
   ·exact ok.mem x hx
   ·rw [List.mem_singleton.1 hx];exact hbi⟩
  have hs100:sold.length≤100:=by omega
  have stop:goB cs a sold begun b=false→ansB j=true∧min ((gsL cs a m sold begun).take (j+1)).sum R=o:=fun h=>by
   have e0:gbL cs a m sold begun b=[]:=by unfold gbL;rw [h];rfl
   rw [e0] at n3 n4
   simp only [List.length_nil,Nat.zero_min] at n3 n4
   exact ⟨by rw [n3];simp [QM],by rw [n4];rfl⟩
  cases c1:begun.contains b with
  |true =>
   obtain ⟨s1,s2⟩:=stop (by unfold goB;rw [c1];rfl)
   repeat' (first|(apply nx;with_reducible constructor)|refine jq (by decide) ?_|((first|refine kz env fun Q hQ=>?_|refine kj fun Q hQ=>?_);simp only [vkt,seval,zX,yG,aTk,cTk,qx,ql,qh,qd,qy,wo,zg,mTk,qc,qg,qf,qm,g1L,gwL,gwH,buO,qK,jg,vU,jB,vT,jX,List.length_map,fnI,wM,qU,nth,hwL,Nat.zero_add,Nat.sub_zero,hb1,c1,eb,et,hno,hs100];(try simp only [ite_and]);(repeat' (first|with_reducible assumption|refine And.intro ?_ ?_|intro hp));all_goals (first|(refine hQ _ ?_;clear hQ Q)|(refine hQ _ (fun h=>?_) (fun h=>?_) <;> clear hQ Q <;> (try simp only [vki,reduceCtorEq] at h))|(refine kx ?_;kernel_rfl)|omega|assumption|with_reducible rfl|skip)))
   refine ⟨by rw [s1];rfl,by show _=_+0;simp only [s2,ho,eo];rfl,some,_,RFin.okQ some [] ?_⟩
   constructor
   all_goals (try simp only [vle,xn,vW,qz,vkt,seval,zX,yG,aTk,cTk,qx,ql,qh,qd,qy,wo,zg,mTk,qc,qg,qf,qm,g1L,gwL,gwH,buO,qK,jg,vU,jB,vT,jX,List.length_map,fnI,wM,qU,nth,hwL,Nat.zero_add,Nat.sub_zero])
   all_goals first|rfl|(simp;done)
  |false =>
   cases c2:KH cs (begun++[b]) with
   |false =>
    obtain ⟨s1,s2⟩:=stop (by unfold goB;rw [c1,c2];rfl)
    repeat' (first|(apply nx;with_reducible constructor)|refine jq (by decide) ?_|((first|refine kz env fun Q hQ=>?_|refine kj fun Q hQ=>?_);simp only [vkt,seval,zX,yG,aTk,cTk,qx,ql,qh,qd,qy,wo,zg,mTk,qc,qg,qf,qm,g1L,gwL,gwH,buO,qK,jg,vU,jB,vT,jX,List.length_map,fnI,wM,qU,nth,hwL,Nat.zero_add,Nat.sub_zero,hb1,c1,c2,eb,et,hno,hs100];(try simp only [ite_and]);(repeat' (first|with_reducible assumption|refine And.intro ?_ ?_|intro hp));all_goals (first|(refine hQ _ ?_;clear hQ Q)|(refine hQ _ (fun h=>?_) (fun h=>?_) <;> clear hQ Q <;> (try simp only [vki,reduceCtorEq] at h))|(refine kx ?_;kernel_rfl)|omega|assumption|with_reducible rfl|skip)))
    refine ⟨by rw [s1];rfl,by show _=_+0;simp only [s2,ho,eo];rfl,some,_,RFin.okQ some [] ?_⟩
    constructor
    all_goals (try simp only [vle,xn,vW,qz,vkt,seval,zX,yG,aTk,cTk,qx,ql,qh,qd,qy,wo,zg,mTk,qc,qg,qf,qm,g1L,gwL,gwH,buO,qK,jg,vU,jB,vT,jX,List.length_map,fnI,wM,qU,nth,hwL,Nat.zero_add,Nat.sub_zero])
    all_goals first|rfl|(simp;done)
   |true =>
    cases c3:decide (yC (WG a begun.length b) sold=0) with
    |false =>
     obtain ⟨s1,s2⟩:=stop (by unfold goB;rw [c1,c2,c3];rfl)
     repeat' (first|(apply nx;with_reducible constructor)|refine jq (by decide) ?_|((first|refine kz env fun Q hQ=>?_|refine kj fun Q hQ=>?_);simp only [vkt,seval,zX,yG,aTk,cTk,qx,ql,qh,qd,qy,wo,zg,mTk,qc,qg,qf,qm,g1L,gwL,gwH,buO,qK,jg,vU,jB,vT,jX,List.length_map,fnI,wM,qU,nth,hwL,Nat.zero_add,Nat.sub_zero,hb1,c1,c2,c3,eb,et,hno,hs100];(try simp only [ite_and]);(repeat' (first|with_reducible assumption|refine And.intro ?_ ?_|intro hp));all_goals (first|(refine hQ _ ?_;clear hQ Q)|(refine hQ _ (fun h=>?_) (fun h=>?_) <;> clear hQ Q <;> (try simp only [vki,reduceCtorEq] at h))|(refine kx ?_;kernel_rfl)|omega|assumption|with_reducible rfl|skip)))
     refine ⟨by rw [s1];rfl,by show _=_+0;simp only [s2,ho,eo];rfl,some,_,RFin.okQ some [] ?_⟩
     constructor
     all_goals (try simp only [vle,xn,vW,qz,vkt,seval,zX,yG,aTk,cTk,qx,ql,qh,qd,qy,wo,zg,mTk,qc,qg,qf,qm,g1L,gwL,gwH,buO,qK,jg,vU,jB,vT,jX,List.length_map,fnI,wM,qU,nth,hwL,Nat.zero_add,Nat.sub_zero])
     all_goals first|rfl|(simp;done)
    |true =>
     have hgo:goB cs a sold begun b=true:=by unfold goB;rw [c1,c2,c3];rfl
     have hgb:gbL cs a m sold begun b=wZ cs a m (sold++[WG a begun.length b]) (begun++[b]):=by unfold gbL;rw [if_pos hgo]
     rw [hgb] at n2 n3 n4
     have hG:=QbY ok hjl hb ho hgo n2
     obtain ⟨D,hD⟩:∃ D,min (wZ cs a m (sold++[WG a begun.length b]) (begun++[b])).length (R - o)=D:=⟨_,rfl⟩
     rw [hD] at hG n3 n4
     have hDle:D≤R - o:=by omega
     cases hab:ansB j with
     |false =>
      rw [hab] at n3
      have n3:=n3.symm
      repeat' (first|(apply nx;with_reducible constructor)|refine jq (by decide) ?_|((first|refine kz env fun Q hQ=>?_|refine kj fun Q hQ=>?_);simp only [vkt,seval,zX,yG,aTk,cTk,qx,ql,qh,qd,qy,wo,zg,mTk,qc,qg,qf,qm,g1L,gwL,gwH,buO,qK,jg,vU,jB,vT,jX,List.length_map,fnI,wM,qU,nth,hwL,Nat.zero_add,Nat.sub_zero,hb1,c1,c2,c3,eb,et,hno,hs100,hD,hDle,hG,n3];(try simp only [ite_and]);(repeat' (first|with_reducible assumption|refine And.intro ?_ ?_|intro hp));all_goals (first|(refine hQ _ ?_;clear hQ Q)|(refine hQ _ (fun h=>?_) (fun h=>?_) <;> clear hQ Q <;> (try simp only [vki,reduceCtorEq] at h))|(refine kx ?_;kernel_rfl)|omega|assumption|with_reducible rfl|skip)))
      refine ⟨by rw [hab];rfl,by simp only [n4,ho,eo],some,_,RFin.okQ some [] ?_⟩
      constructor
      all_goals (try simp only [vle,xn,vW,qz,vkt,seval,zX,yG,aTk,cTk,qx,ql,qh,qd,qy,wo,zg,mTk,qc,qg,qf,qm,g1L,gwL,gwH,buO,qK,jg,vU,jB,vT,jX,List.length_map,fnI,wM,qU,nth,hwL,Nat.zero_add,Nat.sub_zero])
      all_goals first|rfl|(simp;done)
     |true =>
      rw [hab] at n3
      have n3:=n3.symm
      repeat' (first|(apply nx;with_reducible constructor)|refine jq (by decide) ?_|((first|refine kz env fun Q hQ=>?_|refine kj fun Q hQ=>?_);simp only [vkt,seval,zX,yG,aTk,cTk,qx,ql,qh,qd,qy,wo,zg,mTk,qc,qg,qf,qm,g1L,gwL,gwH,buO,qK,jg,vU,jB,vT,jX,List.length_map,fnI,wM,qU,nth,hwL,Nat.zero_add,Nat.sub_zero,hb1,c1,c2,c3,eb,et,hno,hs100,hD,hDle,hG,n3];(try simp only [ite_and]);(repeat' (first|with_reducible assumption|refine And.intro ?_ ?_|intro hp));all_goals (first|(refine hQ _ ?_;clear hQ Q)|(refine hQ _ (fun h=>?_) (fun h=>?_) <;> clear hQ Q <;> (try simp only [vki,reduceCtorEq] at h))|(refine kx ?_;kernel_rfl)|omega|assumption|with_reducible rfl|skip)))
      refine ⟨by rw [hab];rfl,by simp only [n4,ho,eo],some,_,RFin.okQ some [] ?_⟩
      constructor
      all_goals (try simp only [vle,xn,vW,qz,vkt,seval,zX,yG,aTk,cTk,qx,ql,qh,qd,qy,wo,zg,mTk,qc,qg,qf,qm,g1L,gwL,gwH,buO,qK,jg,vU,jB,vT,jX,List.length_map,fnI,wM,qU,nth,hwL,Nat.zero_add,Nat.sub_zero])
      all_goals first|rfl|(simp;done)
 ·have hR:QM ansB RB=true:=by
   by_cases h0:RB=0
   ·simp [QM,h0]
   ·simp [QM,hall (RB - 1) (by omega)]
  rw [hR,hend]
  have eh:qj ((8,AObj.mark) :: gwH cs s a sold begun++zf [7] (8+1) 0 [buO cs s])=qj [(8,.mark),(0,qg cs s 1),(1,qf sold),(2,.cells [.ptr 0 0]),(3,.cells (ql a)),(4,.cells [.sl (begun.map qy)]),(5,.cells [.cb]),(6,.cells [aB false]),(7,buO cs s)]:=rfl
  rw [eh]
  repeat' (first|(apply nx;with_reducible constructor)|refine jq (by decide) ?_|((first|refine kz env fun Q hQ=>?_|refine kj fun Q hQ=>?_);simp only [vkt,seval,zX,yG,aTk,cTk,qx,ql,qh,qd,qy,wo,zg,mTk,qc,qg,qf,qm,g1L,gwL,gwH,buO,qK,jg,vU,jB,vT,jX,List.length_map,fnI,wM,qU,nth,hwL,Nat.zero_add,Nat.sub_zero];(try simp only [ite_and]);(repeat' (first|with_reducible assumption|refine And.intro ?_ ?_|intro hp));all_goals (first|(refine hQ _ ?_;clear hQ Q)|(refine hQ _ (fun h=>?_) (fun h=>?_) <;> clear hQ Q <;> (try simp only [vki,reduceCtorEq] at h))|(refine kx ?_;kernel_rfl)|omega|assumption|with_reducible rfl|skip)))
  (simp only [vrt,Tryz.results68,vkt,seval,zX,yG,aTk,cTk,qx,ql,qh,qd,qy,wo,zg,mTk,qc,qg,qf,qm,g1L,gwL,gwH,buO,qK,jg,vU,jB,vT,jX,List.length_map,fnI,wM,qU,nth,hwL,Nat.zero_add,Nat.sub_zero];refine Fin.ok some [] ?_ ?_ ?_ ?_ ?_ rfl;all_goals (try simp only [vle,vkt,seval,zX,yG,aTk,cTk,qx,ql,qh,qd,qy,wo,zg,mTk,qc,qg,qf,qm,g1L,gwL,gwH,buO,qK,jg,vU,jB,vT,jX,List.length_map,fnI,wM,qU,nth,hwL,Nat.zero_add,Nat.sub_zero]))
  all_goals first|rfl|(simp;done)|exact fun i hi=>(match i,hi with|0,_=>rfl|1,_=>rfl)
 ·have hR:QM ansB RB=false:=by
   simp [QM,hlast,show ¬ RB=0 by omega]
  rw [hR,hend]
  have eh:qj ((8,AObj.mark) :: gwH cs s a sold begun++zf [7] (8+1) 0 [buO cs s])=qj [(8,.mark),(0,qg cs s 1),(1,qf sold),(2,.cells [.ptr 0 0]),(3,.cells (ql a)),(4,.cells [.sl (begun.map qy)]),(5,.cells [.cb]),(6,.cells [aB false]),(7,buO cs s)]:=rfl
  rw [eh]
  repeat' (first|(apply nx;with_reducible constructor)|refine jq (by decide) ?_|((first|refine kz env fun Q hQ=>?_|refine kj fun Q hQ=>?_);simp only [vkt,seval,zX,yG,aTk,cTk,qx,ql,qh,qd,qy,wo,zg,mTk,qc,qg,qf,qm,g1L,gwL,gwH,buO,qK,jg,vU,jB,vT,jX,List.length_map,fnI,wM,qU,nth,hwL,Nat.zero_add,Nat.sub_zero];(try simp only [ite_and]);(repeat' (first|with_reducible assumption|refine And.intro ?_ ?_|intro hp));all_goals (first|(refine hQ _ ?_;clear hQ Q)|(refine hQ _ (fun h=>?_) (fun h=>?_) <;> clear hQ Q <;> (try simp only [vki,reduceCtorEq] at h))|(refine kx ?_;kernel_rfl)|omega|assumption|with_reducible rfl|skip)))
  (simp only [vrt,Tryz.results68,vkt,seval,zX,yG,aTk,cTk,qx,ql,qh,qd,qy,wo,zg,mTk,qc,qg,qf,qm,g1L,gwL,gwH,buO,qK,jg,vU,jB,vT,jX,List.length_map,fnI,wM,qU,nth,hwL,Nat.zero_add,Nat.sub_zero];refine Fin.ok some [] ?_ ?_ ?_ ?_ ?_ rfl;all_goals (try simp only [vle,vkt,seval,zX,yG,aTk,cTk,qx,ql,qh,qd,qy,wo,zg,mTk,qc,qg,qf,qm,g1L,gwL,gwH,buO,qK,jg,vU,jB,vT,jX,List.length_map,fnI,wM,qU,nth,hwL,Nat.zero_add,Nat.sub_zero]))
  all_goals first|rfl|(simp;done)|exact fun i hi=>(match i,hi with|0,_=>rfl|1,_=>rfl)
theorem QaP (cs:List Cabin) (s:Int) (a:Ask):∀ m,XP cs s a m
 |0=>Qea cs s a
 |m+1=>QeG cs s a m (Qio (Qff (QaP cs s a m)))
theorem Qil (a:Ask):PCs (ql a):=⟨by simp [ql,AV.idsL,AV.ids],by simp [ql,AV.leL,AV.le],by simp [ql,AV.renL,AV.ren]⟩
def Y2:=kk @ty3 (kk @xB (kk @Q0 (kk @ti3.eq_1 (kk @vJ.eq_1 @Ql.eq_1))))
def Qce:=kk @aI.eq_1 (@aB.eq_1)
theorem QhI (a:Ask):Jk 73 (ql a) (fun x=>decide (x.party=a.party)):=fun x=>by
 have env:Env (fun _=>True) Tryz.prog tyB (tab []):=qO trivial
 refine Fn.of (A:=fun _=>True) (n0:=1) (D:=noD) (Fn0 Tryz.func73 rfl (fun vs w=>by kernel_rfl) (by kernel_rfl)) (by simp) (by simp [AV.ids,AV.idsL,aTk,cTk]) ?_ (fun _ _ _ _=>trivial) qG ?_
 ·intro i o hi
  have h:=qQ hi
  simp at h;obtain ⟨rfl,rfl⟩:=h;simp [ql,AObj.ids,AV.ids,AV.idsL]
 repeat' (first|(apply nx;with_reducible constructor)|refine jq (by decide) ?_|((first|refine kz env fun Q hQ=>?_|refine kj fun Q hQ=>?_);simp only [vkt,seval,Y2,Qce,aTk,cTk,ql];(try simp only [ite_and]);(repeat' (first|with_reducible assumption|refine And.intro ?_ ?_|intro hp));all_goals (first|(refine hQ _ ?_;clear hQ Q)|(refine hQ _ (fun h=>?_) (fun h=>?_) <;> clear hQ Q <;> (try simp only [vki,reduceCtorEq] at h))|(refine kx ?_;kernel_rfl)|omega|assumption|with_reducible rfl|skip)))
 all_goals (simp only [vrt,Tryz.results73,vkt,seval,Y2,Qce,aTk,cTk,ql];refine Fin.ok some [] ?_ ?_ ?_ ?_ ?_ rfl;all_goals (try simp only [vle,vkt,seval,Y2,Qce,aTk,cTk,ql]))
 all_goals first|rfl|(simp;done)
def yP (a:Ask) (S:St):List AV→Option Pk
 |[.sl xs,.clo f [.ptr t 0]]=>match S.h t with
  |some (.cells cs')=>some { pre:=f=73∧cs'=ql a∧xs=(xs.map dTk).map eTk∧xs.length≤100,hs:=[t],ar:=[.sl xs,.clo 73 [.ptr 0 0]],L0:=[.cells (ql a)],v:=aB ((xs.map dTk).any fun x=>decide (x.party=a.party)),L1:=[some (.cells (ql a))] }
  |_=>none
 |_=>none
theorem Qjw {A:Frm→Prop} {a:Ask}:qC A Tryz.prog 72 (fnE (yP a)):=wK fun S bs q h hp=>by
 unfold yP at h
 split at h
 ·split at h
  ·cases h
   obtain ⟨_,_,h1,h2⟩:=hp
   have:=Rz (Qil a) (QhI a) (List.map dTk _) (by rw [List.length_map];exact h2)
   rw [qw,← h1] at this
   exact this
  ·cases h
 ·cases h
def akS (c:Chart) (a:Ask) (k:Nat):St:={ t:=asg [(2,.ptr 0 0),(3,.ptr 1 0),(4,aI 0),(36,.sl (a.sexes.map wz)),(37,aI a.sexes.length),(38,aI k)],h:=qj [(0,.cells (qb c)),(1,.cells (ql a))],n:=2 }
def X6 (s:Int):Int:=if !inB s 1 2 then 8 else 0
def jH:=kk @ty3 (kk @QV (kk @xg (kk @xB (kk @Zu (kk @WE (kk @Q0 (kk @ti3.eq_1 (kk @Qh.eq_1 (kk @y9.eq_1 (kk @vJ.eq_1 (kk @QP.eq_1 (kk @Zr.eq_1 @Ql.eq_1))))))))))))
def xh:=kk @aI.eq_1 (kk @aB.eq_1 (kk @wz.eq_1 (kk @Ue (@QJ))))
theorem Qj5 (c:Chart) (a:Ask) (hc:c.sold.length≤100) (ha:a.sexes.length≤maxLen):FnV Tryz.prog 47 [qa c,qx a] (aI (kW c a)):=by
 have env:Env (fun _=>True) Tryz.prog tyB (tab [(42,za true sin),(46,za true qI),(43,za true yc),(72,fnE (yP a))]):=qO ⟨ein,VQ,eway,Qjw,trivial⟩
 refine Fn.of (A:=fun _=>True) (n0:=0) (D:=noD) (Fn0 Tryz.func47 rfl (fun vs w=>by kernel_rfl) (by kernel_rfl)) (by simp) (by simp [AV.ids,AV.idsL,qa,qb,qx,ql]) (fun i o h=>by cases h) (fun _ _ _ _=>trivial) qG ?_
 cases h1:inB a.party 1 99
 ·rw [show kW c a=1 by simp [kW,h1]]
  repeat' (first|(apply nx;with_reducible constructor)|refine jq (by decide) ?_|((first|refine kz env fun Q hQ=>?_|refine kj fun Q hQ=>?_);simp only [vkt,seval,jH,xh,qa,qb,qx,ql,mTk,qc,akS,sin,qI,yc,yP,List.length_map,h1];(try simp only [ite_and]);(repeat' (first|with_reducible assumption|refine And.intro ?_ ?_|intro hp));all_goals (first|(refine hQ _ ?_;clear hQ Q)|(refine hQ _ (fun h=>?_) (fun h=>?_) <;> clear hQ Q <;> (try simp only [vki,reduceCtorEq] at h))|(refine kx ?_;kernel_rfl)|omega|assumption|with_reducible rfl|skip)))
  (simp only [vrt,Tryz.results47,vkt,seval,jH,xh,qa,qb,qx,ql,mTk,qc,akS,sin,qI,yc,yP,List.length_map];refine Fin.val rfl ?_;(try simp only [AV.le,AV.leL]))
  all_goals first|rfl|(simp;done)
 cases h2:c.sold.any (fun t=>decide (t.party=a.party))
 case true =>
  rw [show kW c a=4 by simp only [kW,h1,h2];rfl]
  repeat' (first|(apply nx;with_reducible constructor)|refine jq (by decide) ?_|((first|refine kz env fun Q hQ=>?_|refine kj fun Q hQ=>?_);simp only [vkt,seval,jH,xh,qa,qb,qx,ql,mTk,qc,akS,sin,qI,yc,yP,List.length_map,h1,h2,hc];(try simp only [ite_and]);(repeat' (first|with_reducible assumption|refine And.intro ?_ ?_|intro hp));all_goals (first|(refine hQ _ ?_;clear hQ Q)|(refine hQ _ (fun h=>?_) (fun h=>?_) <;> clear hQ Q <;> (try simp only [vki,reduceCtorEq] at h))|(refine kx ?_;kernel_rfl)|omega|assumption|with_reducible rfl|skip)))
  (simp only [vrt,Tryz.results47,vkt,seval,jH,xh,qa,qb,qx,ql,mTk,qc,akS,sin,qI,yc,yP,List.length_map];refine Fin.val rfl ?_;(try simp only [AV.le,AV.leL]))
  all_goals first|rfl|(simp;done)
 by_cases h3:WT c.secs a.frm a.to=0
 case neg =>
  rw [show kW c a=WT c.secs a.frm a.to by unfold kW;rw [h1,h2];simp [h3]]
  repeat' (first|(apply nx;with_reducible constructor)|refine jq (by decide) ?_|((first|refine kz env fun Q hQ=>?_|refine kj fun Q hQ=>?_);simp only [vkt,seval,jH,xh,qa,qb,qx,ql,mTk,qc,akS,sin,qI,yc,yP,List.length_map,h1,h2,h3,hc];(try simp only [ite_and]);(repeat' (first|with_reducible assumption|refine And.intro ?_ ?_|intro hp));all_goals (first|(refine hQ _ ?_;clear hQ Q)|(refine hQ _ (fun h=>?_) (fun h=>?_) <;> clear hQ Q <;> (try simp only [vki,reduceCtorEq] at h))|(refine kx ?_;kernel_rfl)|omega|assumption|with_reducible rfl|skip)))
  (simp only [vrt,Tryz.results47,vkt,seval,jH,xh,qa,qb,qx,ql,mTk,qc,akS,sin,qI,yc,yP,List.length_map];refine Fin.val rfl ?_;(try simp only [AV.le,AV.leL]))
  all_goals first|rfl|(simp;done)
 by_cases h4:je a.sexes.length 1 3=0
 case neg =>
  rw [show kW c a=je a.sexes.length 1 3 by unfold kW;rw [h1,h2,h3];simp [h4]]
  repeat' (first|(apply nx;with_reducible constructor)|refine jq (by decide) ?_|((first|refine kz env fun Q hQ=>?_|refine kj fun Q hQ=>?_);simp only [vkt,seval,jH,xh,qa,qb,qx,ql,mTk,qc,akS,sin,qI,yc,yP,List.length_map,h1,h2,h3,h4,hc];(try simp only [ite_and]);(repeat' (first|with_reducible assumption|refine And.intro ?_ ?_|intro hp));all_goals (first|(refine hQ _ ?_;clear hQ Q)|(refine hQ _ (fun h=>?_) (fun h=>?_) <;> clear hQ Q <;> (try simp only [vki,reduceCtorEq] at h))|(refine kx ?_;kernel_rfl)|omega|assumption|with_reducible rfl|skip)))
  (simp only [vrt,Tryz.results47,vkt,seval,jH,xh,qa,qb,qx,ql,mTk,qc,akS,sin,qI,yc,yP,List.length_map];refine Fin.val rfl ?_;(try simp only [AV.le,AV.leL]))
  all_goals first|rfl|(simp;done)
 have hl:a.sexes.length≤3:=by
  unfold je at h4
  split at h4
  ·exact absurd h4 (by decide)
  ·split at h4
   ·exact absurd h4 (by decide)
   ·omega
 rw [show kW c a=xf (a.sexes.map X6) by unfold kW;rw [h1,h2,h3,h4];rfl]
 repeat' (first|(apply nx;with_reducible constructor)|refine jq (by decide) ?_|((first|refine kz env fun Q hQ=>?_|refine kj fun Q hQ=>?_);simp only [vkt,seval,jH,xh,qa,qb,qx,ql,mTk,qc,akS,sin,qI,yc,yP,List.length_map,h1,h2,h3,h4,hc];(try simp only [ite_and]);(repeat' (first|with_reducible assumption|refine And.intro ?_ ?_|intro hp));all_goals (first|(refine hQ _ ?_;clear hQ Q)|(refine hQ _ (fun h=>?_) (fun h=>?_) <;> clear hQ Q <;> (try simp only [vki,reduceCtorEq] at h))|(refine kx ?_;kernel_rfl)|omega|assumption|with_reducible rfl|skip)))
 refine zt (fun k:{ k:Nat // k≤a.sexes.length∧∀ j,j < k→(a.sexes.map X6).getD j 0=0 }=>akS c a k.1) (fun k=>a.sexes.length - k.1) ⟨0,Nat.zero_le _,fun j h=>absurd h (Nat.not_lt_zero _)⟩ ?_ fun ⟨k,hk,hno⟩=>?_
 ·(refine Le.ok some [] ?_;constructor;all_goals (try simp only [vle,vkt,seval,jH,xh,qa,qb,qx,ql,mTk,qc,akS,sin,qI,yc,yP,List.length_map]))
  all_goals first|rfl|(simp;done)
 ·repeat' (first|(apply nx;with_reducible constructor)|refine jq (by decide) ?_)
  (refine kz env fun Q hQ=>?_;simp only [vkt,seval,jH,xh,qa,qb,qx,ql,mTk,qc,akS,sin,qI,yc,yP,List.length_map];(try simp only [ite_and]);(repeat' (first|with_reducible assumption|refine And.intro ?_ ?_|intro hp));all_goals (first|(refine hQ _ ?_;clear hQ Q)|(refine kx ?_;kernel_rfl)|omega|assumption|with_reducible rfl|skip))
  repeat' (first|(apply nx;with_reducible constructor)|refine jq (by decide) ?_)
  (refine yf (by simp only [vkt,seval,jH,xh,qa,qb,qx,ql,mTk,qc,akS,sin,qI,yc,yP,List.length_map];rfl) (fun h=>?_) (fun h=>?_) <;> (try simp only [vki,reduceCtorEq] at h))
  ·have hlt:k < a.sexes.length:=by omega
   have e9:IntKind.wrap .i64 ((k:Int)+1)=((k+1:Nat):Int):=by rw [wrap64 (by omega) (by omega)];rfl
   obtain ⟨x,hx⟩:∃ x,a.sexes.getD k 0=x:=⟨_,rfl⟩
   have hm:(a.sexes.map X6).getD k 0=X6 x:=by rw [mapD hlt];exact congrArg X6 hx
   cases hb:inB x 1 2
   ·have hE:X6 x=8:=by simp [X6,hb]
    have hf:=ZC hno (by simpa using hlt) (by rw [hm,hE];decide)
    rw [hm,hE] at hf
    rw [hf]
    repeat' (first|(apply nx;with_reducible constructor)|refine jq (by decide) ?_|((first|refine kz env fun Q hQ=>?_|refine kj fun Q hQ=>?_);simp only [vkt,seval,jH,xh,qa,qb,qx,ql,mTk,qc,akS,sin,qI,yc,yP,List.length_map,hx,hb,e9];(try simp only [ite_and]);(repeat' (first|with_reducible assumption|refine And.intro ?_ ?_|intro hp));all_goals (first|(refine hQ _ ?_;clear hQ Q)|(refine hQ _ (fun h=>?_) (fun h=>?_) <;> clear hQ Q <;> (try simp only [vki,reduceCtorEq] at h))|(refine kx ?_;kernel_rfl)|omega|assumption|with_reducible rfl|skip)))
    (simp only [vrt,Tryz.results47,vkt,seval,jH,xh,qa,qb,qx,ql,mTk,qc,akS,sin,qI,yc,yP,List.length_map];refine Fin.val rfl ?_;(try simp only [AV.le,AV.leL]))
    all_goals first|rfl|(simp;done)
   ·have hE:X6 x=0:=by simp [X6,hb]
    repeat' (first|(apply nx;with_reducible constructor)|refine jq (by decide) ?_|((first|refine kz env fun Q hQ=>?_|refine kj fun Q hQ=>?_);simp only [vkt,seval,jH,xh,qa,qb,qx,ql,mTk,qc,akS,sin,qI,yc,yP,List.length_map,hx,hb,e9];(try simp only [ite_and]);(repeat' (first|with_reducible assumption|refine And.intro ?_ ?_|intro hp));all_goals (first|(refine hQ _ ?_;clear hQ Q)|(refine hQ _ (fun h=>?_) (fun h=>?_) <;> clear hQ Q <;> (try simp only [vki,reduceCtorEq] at h))|(refine kx ?_;kernel_rfl)|omega|assumption|with_reducible rfl|skip)))
    refine ⟨⟨k+1,hlt,fun j hj=>?_⟩,by show a.sexes.length - (k+1) < a.sexes.length - k;omega, ?_⟩
    ·rcases Nat.lt_or_eq_of_le (Nat.le_of_lt_succ hj) with h2|h2
     ·exact hno j h2
     ·rw [h2,hm,hE]
    ·(refine Le.ok some [] ?_;constructor;all_goals (try simp only [vle,vkt,seval,jH,xh,qa,qb,qx,ql,mTk,qc,akS,sin,qI,yc,yP,List.length_map]))
     all_goals first|rfl|(simp;done)
  ·have hke:k=a.sexes.length:=by omega
   subst hke
   rw [Wx (l:=a.sexes.map X6) (by simpa using hno)]
   repeat' (first|(apply nx;with_reducible constructor)|refine jq (by decide) ?_|((first|refine kz env fun Q hQ=>?_|refine kj fun Q hQ=>?_);simp only [vkt,seval,jH,xh,qa,qb,qx,ql,mTk,qc,akS,sin,qI,yc,yP,List.length_map];(try simp only [ite_and]);(repeat' (first|with_reducible assumption|refine And.intro ?_ ?_|intro hp));all_goals (first|(refine hQ _ ?_;clear hQ Q)|(refine hQ _ (fun h=>?_) (fun h=>?_) <;> clear hQ Q <;> (try simp only [vki,reduceCtorEq] at h))|(refine kx ?_;kernel_rfl)|omega|assumption|with_reducible rfl|skip)))
   (simp only [vrt,Tryz.results47,vkt,seval,jH,xh,qa,qb,qx,ql,mTk,qc,akS,sin,qI,yc,yP,List.length_map];refine Fin.val rfl ?_;(try simp only [AV.le,AV.leL]))
   all_goals first|rfl|(simp;done)
def xA:List AV→Prop × AV
 |[.agg [.sl c0,.v (.int .i64 c1),.sl c2],.agg [.v (.int .i64 a0),.v (.int .i64 a1),.v (.int .i64 a2),.sl a3,.v (.bool a4)]]=>(c0=(c0.map qA).map qo∧c2=(c2.map dTk).map eTk∧a3=(a3.map zQ).map wz∧c2.length≤100∧a3.length≤maxLen,aI (kW (⟨(c0.map qA),c1,(c2.map dTk)⟩:Chart) (⟨a0,a1,a2,(a3.map zQ),a4⟩:Ask)))
 |_=>(False,.junk)
theorem eask {A:Frm→Prop}:qC A Tryz.prog 47 (za true xA):=zx fun vs hv h=>by
 clear hv
 unfold xA at h ⊢
 split at h
 ·rename_i c0 c1 c2 a0 a1 a2 a3 a4;obtain ⟨q0,q1,q2,k0,k1⟩:=h
  refine ⟨by first|trivial|(simp [AV.plain,AV.plainL,aI,aB,qD,qd,qw,qh,aTk,cTk];done)|(repeat' split) <;> simp [AV.plain,AV.plainL,aI,aB,qD,qd,qw,qh,aTk,cTk],fun _=>(by simp [AV.flat,AV.flatL,aI,aB]), ?_⟩
  have:=Qj5 (⟨(c0.map qA),c1,(c2.map dTk)⟩:Chart) (⟨a0,a1,a2,(a3.map zQ),a4⟩:Ask) (by simpa using k0) (by simpa using k1)
  simp only [qx,aB,zb,qa,aI,qD,qw,ql,qb,← q0,← q1,← q2] at this
  first|exact this|(simp only [qx,aB,zb,qa,aI,qD,qw,ql,qb,← q0,← q1,← q2];exact this)
 ·exact h.elim
def vB:=kk @VD (kk @VC (kk @JR.eq_1 @J4.eq_1))
theorem Qdr (xs:List (List DV)) (h1:wJ 2 xs) (h2:xs.length≤100000):Fn noB Tryz.prog 70 [.sl xs] noH (.row 0) (qj [(0,.row 70 2 xs)]) 0:=by
 have env:Env (fun _=>True) Tryz.prog tyB (tab []):=qO trivial
 obtain ⟨b1,b2,b3,b5,b4⟩:=b47 h2
 refine Fn.of (A:=fun _=>True) (n0:=0) (D:=noD) (Fn0 Tryz.func70 rfl (fun vs w=>by kernel_rfl) (by kernel_rfl)) (by simp) (by simp [AV.ids]) (fun i o h=>by cases h) (fun _ _ _ _=>trivial) qG ?_
 repeat' (first|(apply nx;with_reducible constructor)|refine jq (by decide) ?_)
 (refine kz env fun Q hQ=>?_;simp only [vkt,seval,vB,@true_and];(try simp only [ite_and]);(repeat' (first|with_reducible assumption|refine And.intro ?_ ?_|intro hp));all_goals (first|(refine hQ _ ?_;clear hQ Q)|(refine kx ?_;kernel_rfl)|omega|assumption|with_reducible rfl|skip))
 repeat' (first|(apply nx;with_reducible constructor)|refine jq (by decide) ?_)
 refine ZB (d1:=3) (d2:=4) (t:=22) (e:=70) (x:=.tmp 0) (xs:=xs) rfl rfl rfl rfl rfl rfl Tryz.underlying22 rfl fun b hb=>?_
 repeat' (first|(apply nx;with_reducible constructor)|refine jq (by decide) ?_)
 (refine yf (by simp only [vkt,seval,vB,@true_and];rfl) (fun h=>?_) (fun h=>?_) <;> (try simp only [vki,reduceCtorEq] at h))
 ·have hx:=hb h
  subst hx
  repeat' (first|(apply nx;with_reducible constructor)|refine jq (by decide) ?_|((first|refine kz env fun Q hQ=>?_|refine kj fun Q hQ=>?_);simp only [vkt,seval,vB,@true_and];(try simp only [ite_and]);(repeat' (first|with_reducible assumption|refine And.intro ?_ ?_|intro hp));all_goals (first|(refine hQ _ ?_;clear hQ Q)|(refine hQ _ (fun h=>?_) (fun h=>?_) <;> clear hQ Q <;> (try simp only [vki,reduceCtorEq] at h))|(refine kx ?_;kernel_rfl)|omega|assumption|with_reducible rfl|skip)))
  (simp only [vrt,Tryz.results70,vkt,seval,vB,@true_and];refine Fin.ok (fun _=>none) [] ?_ ?_ ?_ ?_ ?_ rfl;all_goals (try simp only [vle,vkt,seval,vB,@true_and]))
  all_goals simp
 ·repeat' (first|(apply nx;with_reducible constructor)|refine jq (by decide) ?_|((first|refine kz env fun Q hQ=>?_|refine kj fun Q hQ=>?_);simp only [vkt,seval,vB,@true_and];(try simp only [ite_and]);(repeat' (first|with_reducible assumption|refine And.intro ?_ ?_|intro hp));all_goals (first|(refine hQ _ ?_;clear hQ Q)|(refine hQ _ (fun h=>?_) (fun h=>?_) <;> clear hQ Q <;> (try simp only [vki,reduceCtorEq] at h))|(refine kx ?_;kernel_rfl)|omega|assumption|with_reducible rfl|skip)))
  (simp only [vrt,Tryz.results70,vkt,seval,vB,@true_and];refine Fin.ok some [] ?_ ?_ ?_ ?_ ?_ rfl;all_goals (try simp only [vle,vkt,seval,vB,@true_and]))
  all_goals simp
def Jo (_:St):List AV→Option Pk
 |[.sl xs]=>some { pre:=wJ 2 xs∧xs.length≤100000,ar:=[.sl xs],v:=.row 0,L1:=[some (.row 70 2 xs)] }
 |_=>none
theorem Qik {A:Frm→Prop}:qC A Tryz.prog 70 (fnE Jo):=wK fun S bs q h hp=>by
 unfold Jo at h
 split at h
 ·cases h;exact Qdr _ hp.1 hp.2
 ·cases h
def J6:=kk @VD (kk @QV (kk @xg (kk @xB (kk @VC (kk @Vw (kk @JR.eq_1 (kk @Qh.eq_1 (kk @y9.eq_1 (kk @vJ.eq_1 (kk @J4.eq_1 @JU.eq_1))))))))))
def Qbn:=kk @aI.eq_1 (@aB.eq_1)
theorem QgD (c:Chart) (h1:c.cabins.length≤100000) (h2:c.sold.length≤100000):Fn noB Tryz.prog 44 [qa c] noH (.ptr 0 0) (qj (wP 0 ((qm c.cabins c.secs c.sold).map some))) 0:=by
 have env:Env (fun _=>True) Tryz.prog tyB (tab [(71,fnE QA),(70,fnE Jo)]):=qO ⟨QcU,Qik,trivial⟩
 refine Fn.of (A:=fun _=>True) (n0:=0) (D:=noD) (Fn0 Tryz.func44 rfl (fun vs w=>by kernel_rfl) (by kernel_rfl)) (by simp) (by simp [AV.ids,AV.idsL,qa,qb]) (fun i o h=>by cases h) (fun _ _ _ _=>trivial) qG ?_
 show Sym _ _ _ (zR [qa c] 0 noH) (vo tyB noD Tryz.f44 fun S rv=>Fin S rv _ 0 (qj [(0,qg c.cabins c.secs 1),(1,qf c.sold)]) 0)
 repeat' (first|(apply nx;with_reducible constructor)|refine jq (by decide) ?_|((first|refine kz env fun Q hQ=>?_|refine kj fun Q hQ=>?_);simp only [vkt,seval,J6,Qbn,qa,qb,rTk,Qb0,qg,qf,qm,QA,Jo,List.length_map,h1,h2];(try simp only [ite_and]);(repeat' (first|with_reducible assumption|refine And.intro ?_ ?_|intro hp));all_goals (first|(refine hQ _ ?_;clear hQ Q)|(refine hQ _ (fun h=>?_) (fun h=>?_) <;> clear hQ Q <;> (try simp only [vki,reduceCtorEq] at h))|(refine kx ?_;kernel_rfl)|omega|assumption|with_reducible rfl|skip)))
 all_goals (simp only [vrt,Tryz.results44,vkt,seval,J6,Qbn,qa,qb,rTk,Qb0,qg,qf,qm,QA,Jo,List.length_map];refine Fin.ok (fun j=>[3,2][j]?) [1] ?_ ?_ ?_ ?_ ?_ rfl;all_goals (try simp only [vle,vkt,seval,J6,Qbn,qa,qb,rTk,Qb0,qg,qf,qm,QA,Jo,List.length_map]))
 all_goals first|rfl|(simp;done)
def zh (_:St):List AV→Option Pk
 |[.agg [.sl cs,.v (.int .i64 s),.sl ts]]=>some { pre:=cs=(cs.map qA).map qo∧ts=(ts.map dTk).map eTk∧cs.length≤100000∧ts.length≤100000,ar:=[.agg [.sl cs,.v (.int .i64 s),.sl ts]],v:=.ptr 0 0,L1:=(qm (cs.map qA) s (ts.map dTk)).map some }
 |_=>none
theorem Vk {A:Frm→Prop}:qC A Tryz.prog 44 (fnE zh):=wK fun S bs q h hp=>by
 unfold zh at h
 split at h
 ·rename_i cs s ts
  cases h
  obtain ⟨h1,h2,h3,h4⟩:=hp
  have:=QgD ⟨cs.map qA,s,ts.map dTk⟩ (by simpa using h3) (by simpa using h4)
  simp only [qa,qb,← h1,← h2] at this
  exact this
 ·cases h
theorem Q7 {c:Chart} {a:Ask} (h:wX c a=0):zS c=0∧kW c a=0:=by
 unfold wX at h
 split at h
 ·rename_i h1;exact absurd h h1
 ·rename_i h1;exact ⟨Decidable.not_not.1 h1,h⟩
def xE:=kk @xg (kk @Zu (kk @Q0 (kk @y9.eq_1 (kk @QP.eq_1 @Ql.eq_1))))
def Wy:=kk @aI.eq_1 (kk @aB.eq_1 (@QJ))
theorem Qhi (c:Chart) (a:Ask) (h:wX c a=0) (hc:c.cabins.length≤maxLen) (ha:a.sexes.length≤maxLen):Fn noB Tryz.prog 34 [qa c,qx a] noH (.tup [.ptr 0 0,aI 0]) (qj (wP 0 ((qm c.cabins c.secs c.sold).map some))) 0:=by
 have env:Env (fun _=>True) Tryz.prog tyB (tab [(7,za true qp),(47,za true xA),(44,fnE zh)]):=qO ⟨Zk,eask,Vk,trivial⟩
 refine Fn.of (A:=fun _=>True) (n0:=0) (D:=noD) (Fn0 Tryz.func34 rfl (fun vs w=>by kernel_rfl) (by kernel_rfl)) (by simp) (by simp [AV.ids,AV.idsL,qa,qb,qx,ql]) (fun i o h=>by cases h) (fun _ _ _ _=>trivial) qG ?_
 obtain ⟨h1,h2⟩:=Q7 h
 have hv:=Qo h1
 have b1:=hv.car.cabs
 have b2:=hv.many
 have ec:(⟨c.cabins,c.secs,c.sold⟩:Chart)=c:=rfl
 have ea:(⟨a.party,a.frm,a.to,a.sexes,a.dog⟩:Ask)=a:=rfl
 have b3:c.sold.length≤100:=by omega
 have b4:c.sold.length≤100000:=by omega
 have b5:c.cabins.length≤100000:=by omega
 show Sym _ _ _ (zR [qa c,qx a] 0 noH) (vo tyB noD Tryz.f34 fun S rv=>Fin S rv _ 0 (qj [(0,qg c.cabins c.secs 1),(1,qf c.sold)]) 0)
 repeat' (first|(apply nx;with_reducible constructor)|refine jq (by decide) ?_|((first|refine kz env fun Q hQ=>?_|refine kj fun Q hQ=>?_);simp only [vkt,seval,xE,Wy,qa,qb,qx,ql,mTk,qc,qg,qf,qm,qp,xA,zh,List.length_map,ec,ea,h1,h2,b3,b4,b5];(try simp only [ite_and]);(repeat' (first|with_reducible assumption|refine And.intro ?_ ?_|intro hp));all_goals (first|(refine hQ _ ?_;clear hQ Q)|(refine hQ _ (fun h=>?_) (fun h=>?_) <;> clear hQ Q <;> (try simp only [vki,reduceCtorEq] at h))|(refine kx ?_;kernel_rfl)|omega|assumption|with_reducible rfl|skip)))
 (simp only [vrt,Tryz.results34,vkt,seval,xE,Wy,qa,qb,qx,ql,mTk,qc,qg,qf,qm,qp,xA,zh,List.length_map];refine Fin.ok (fun j=>[2,3][j]?) [] ?_ ?_ ?_ ?_ ?_ rfl;all_goals (try simp only [vle,vkt,seval,xE,Wy,qa,qb,qx,ql,mTk,qc,qg,qf,qm,qp,xA,zh,List.length_map]))
 all_goals first|rfl|(simp;done)
theorem QdF (c:Chart) (a:Ask) (h0:wX c a ≠ 0) (hc:c.cabins.length≤maxLen) (ha:a.sexes.length≤maxLen):Fn noB Tryz.prog 34 [qa c,qx a] noH (.tup [.v (.pointer none),aI (wX c a)]) noH 0:=by
 have env:Env (fun _=>True) Tryz.prog tyB (tab [(7,za true qp),(47,za true xA),(44,fnE zh)]):=qO ⟨Zk,eask,Vk,trivial⟩
 refine Fn.of (A:=fun _=>True) (n0:=0) (D:=noD) (Fn0 Tryz.func34 rfl (fun vs w=>by kernel_rfl) (by kernel_rfl)) (by simp) (by simp [AV.ids,AV.idsL,qa,qb,qx,ql]) (fun i o h=>by cases h) (fun _ _ _ _=>trivial) qG ?_
 have ec:(⟨c.cabins,c.secs,c.sold⟩:Chart)=c:=rfl
 have ea:(⟨a.party,a.frm,a.to,a.sexes,a.dog⟩:Ask)=a:=rfl
 by_cases h1:zS c=0
 ·have hE:wX c a=kW c a:=by unfold wX;rw [if_neg (by rw [h1];simp)]
  rw [hE] at h0 ⊢
  have hv:=Qo h1
  have b2:=hv.many
  have b3:c.sold.length≤100:=by omega
  repeat' (first|(apply nx;with_reducible constructor)|refine jq (by decide) ?_|((first|refine kz env fun Q hQ=>?_|refine kj fun Q hQ=>?_);simp only [vkt,seval,xE,Wy,qa,qb,qx,ql,mTk,qc,qg,qf,qm,qp,xA,zh,List.length_map,ec,ea,h1,h0,b3];(try simp only [ite_and]);(repeat' (first|with_reducible assumption|refine And.intro ?_ ?_|intro hp));all_goals (first|(refine hQ _ ?_;clear hQ Q)|(refine hQ _ (fun h=>?_) (fun h=>?_) <;> clear hQ Q <;> (try simp only [vki,reduceCtorEq] at h))|(refine kx ?_;kernel_rfl)|omega|assumption|with_reducible rfl|skip)))
  (simp only [vrt,Tryz.results34,vkt,seval,xE,Wy,qa,qb,qx,ql,mTk,qc,qg,qf,qm,qp,xA,zh,List.length_map];refine Fin.val rfl ?_;(try simp only [AV.le,AV.leL]))
  all_goals first|rfl|(simp;done)
 ·have hE:wX c a=zS c:=by unfold wX;rw [if_pos h1]
  rw [hE]
  repeat' (first|(apply nx;with_reducible constructor)|refine jq (by decide) ?_|((first|refine kz env fun Q hQ=>?_|refine kj fun Q hQ=>?_);simp only [vkt,seval,xE,Wy,qa,qb,qx,ql,mTk,qc,qg,qf,qm,qp,xA,zh,List.length_map,ec,ea,h1];(try simp only [ite_and]);(repeat' (first|with_reducible assumption|refine And.intro ?_ ?_|intro hp));all_goals (first|(refine hQ _ ?_;clear hQ Q)|(refine hQ _ (fun h=>?_) (fun h=>?_) <;> clear hQ Q <;> (try simp only [vki,reduceCtorEq] at h))|(refine kx ?_;kernel_rfl)|omega|assumption|with_reducible rfl|skip)))
  (simp only [vrt,Tryz.results34,vkt,seval,xE,Wy,qa,qb,qx,ql,mTk,qc,qg,qf,qm,qp,xA,zh,List.length_map];refine Fin.val rfl ?_;(try simp only [AV.le,AV.leL]))
  all_goals first|rfl|(simp;done)
def zn (_:St):List AV→Option Pk
 |[.agg [.sl cs,.v (.int .i64 s),.sl ts],.agg [.v (.int .i64 p),.v (.int .i64 f),.v (.int .i64 t),.sl xs,.v (.bool d)]] =>
  if wX ⟨cs.map qA,s,ts.map dTk⟩ ⟨p,f,t,xs.map zQ,d⟩=0 then
   some { pre:=cs=(cs.map qA).map qo∧ts=(ts.map dTk).map eTk∧xs=(xs.map zQ).map wz∧cs.length≤maxLen∧xs.length≤maxLen,ar:=[.agg [.sl cs,.v (.int .i64 s),.sl ts],.agg [.v (.int .i64 p),.v (.int .i64 f),.v (.int .i64 t),.sl xs,.v (.bool d)]],v:=.tup [.ptr 0 0,aI 0],L1:=(qm (cs.map qA) s (ts.map dTk)).map some }
  else some { pre:=cs=(cs.map qA).map qo∧ts=(ts.map dTk).map eTk∧xs=(xs.map zQ).map wz∧cs.length≤maxLen∧xs.length≤maxLen,ar:=[.agg [.sl cs,.v (.int .i64 s),.sl ts],.agg [.v (.int .i64 p),.v (.int .i64 f),.v (.int .i64 t),.sl xs,.v (.bool d)]],v:=.tup [.v (.pointer none),aI (wX ⟨cs.map qA,s,ts.map dTk⟩ ⟨p,f,t,xs.map zQ,d⟩)] }
 |_=>none
theorem VT {A:Frm→Prop}:qC A Tryz.prog 34 (fnE zn):=wK fun S bs q h hp=>by
 unfold zn at h
 split at h
 ·rename_i cs s ts p f t xs d
  split at h
  ·rename_i hE
   cases h
   obtain ⟨h1,h2,h3,h4,h5⟩:=hp
   have:=Qhi ⟨cs.map qA,s,ts.map dTk⟩ ⟨p,f,t,xs.map zQ,d⟩ hE (by simpa using h4) (by simpa using h5)
   simp only [qa,qb,qx,ql,← h1,← h2,← h3] at this
   exact this
  ·rename_i hE
   cases h
   obtain ⟨h1,h2,h3,h4,h5⟩:=hp
   have:=QdF ⟨cs.map qA,s,ts.map dTk⟩ ⟨p,f,t,xs.map zQ,d⟩ hE (by simpa using h4) (by simpa using h5)
   simp only [qa,qb,qx,ql,← h1,← h2,← h3] at this
   exact this
 ·cases h
theorem ZX (L:List AObj):nth L=qj (qH 0 L):=by
 funext i
 rw [jS]
 simp [nth]
def plL (c:Chart) (a:Ask):List AObj:=[qg c.cabins c.secs 1,qf c.sold,.cells [.ptr 0 0],.cells (ql a)]
def plP (c:Chart) (a:Ask):List (List Bunk × List Tk):=wZ c.cabins a a.sexes.length c.sold []
def plY (c:Chart) (a:Ask) (j:Nat):List AV:=[qd ((plP c a).getD j default).1]
def plH (c:Chart) (a:Ask) (j:Nat):List AObj:=qm c.cabins c.secs ((plP c a).getD j default).2
structure PlOk (c:Chart) (a:Ask):Prop where
 val:Val c
 sx:a.sexes.length≤3
theorem pl_ok {c:Chart} {a:Ask} (h:PlOk c a) {ans:Nat→Bool} {R:Nat} (hr:Rounds ans R (plP c a).length):GrowOk c.cabins c.secs a a.sexes.length c.sold [] (plY c a) (plH c a) ans R:=by
 have h1:=h.val.car.cabs
 have h2:=h.val.many
 have h3:=h.sx
 exact ⟨by simp,by omega,⟨by omega,fun x hx=>by have:=h.val.car.beds x hx;omega⟩,by omega,by omega,(by simp),hr,fun _ _=>rfl,fun _ _=>rfl⟩
def Qk (c:Chart) (a:Ask) (ys:Nat→List AV) (hl:Nat→List AObj) (ans:Nat→Bool) (R:Nat) (S:St):List AV→Option PkI
 |[.ptr p 0,.agg aa,.nil,.cb]=>match S.h p with
  |some (.cells [.sl cc,.v (.int .i64 s'),.row r])=>match S.h r with
   |some (.row _ _ xs)=>some { q:={ pre:=cc=c.cabins.map qo∧s'=c.secs∧aa=ql a∧xs=c.sold.map eTk∧S.j=0∧GrowOk c.cabins c.secs a a.sexes.length c.sold [] ys hl ans R,hs:=[p,r],ar:=[.ptr 0 0,qx a,qd [],.cb],L0:=qm c.cabins c.secs c.sold,v:=aB (QM ans R),L1:=(qm c.cabins c.secs c.sold).map some },dj:=R }
   |_=>none
  |_=>none
 |_=>none
theorem QgT {A:Frm→Prop} {c:Chart} {a:Ask} {ys:Nat→List AV} {hl:Nat→List AObj} {ans:Nat→Bool} {R:Nat} {h0:Nat→Option AObj} (hA:∀ F,A F→Acb Tryz.prog (qj (qH 0 [qg c.cabins c.secs 1])) h0 ys (fun j=>nth (hl j)) ans R F) :
  qC A Tryz.prog 68 (fnI [qg c.cabins c.secs 1] R (Qk c a ys hl ans R)):=UK hA fun S bs q h hp=>by
 unfold Qk at h
 split at h
 ·split at h
  ·split at h
   ·cases h
    obtain ⟨_,_,_,_,h4,h6⟩:=hp
    have:=QaP _ _ _ _ _ _ _ _ _ _ h6
    simp only [h4,Nat.zero_add]
    exact this
   ·cases h
  ·cases h
 ·cases h
theorem VL {c:Chart} {a:Ask}:∀ i o,qj (qH 0 (plL c a)) i=some o→i < 4∧∀ id ∈ o.ids,id < 4:=by
 intro i o hi
 have h:=qQ hi
 simp [qH,plL] at h
 rcases h with ⟨rfl,rfl⟩|⟨rfl,rfl⟩|⟨rfl,rfl⟩|⟨rfl,rfl⟩ <;> simp [AObj.ids,AV.ids,AV.idsL,qg,qf,ql]
def ZJ:=kk @Q0 (kk @Wl (kk @Ql.eq_1 @Zt.eq_1))
def Jw:=kk @aI.eq_1 (@aB.eq_1)
theorem JA {c:Chart} {a:Ask} (h:PlOk c a):Qaw Tryz.prog 67 [.cb,.ptr 2 0,.ptr 3 0] (nth ((plL c a).take 1)) (nth (plL c a)) (plY c a) (plP c a).length (fun j=>nth (plH c a j)) (fun _ _=>.tup []):=by
 intro ans R hr
 have ok:=pl_ok h hr
 rw [ZX,ZX]
 obtain ⟨A0,hA0⟩:∃ A0:Frm→Prop,A0=Acb Tryz.prog (qj (qH 0 [qg c.cabins c.secs 1])) (qj (qH 0 (plL c a))) (plY c a) (fun j=>nth (plH c a j)) ans R:=⟨_,rfl⟩
 have hA:∀ F,A0 F→Acb Tryz.prog (qj (qH 0 [qg c.cabins c.secs 1])) (qj (qH 0 (plL c a))) (plY c a) (fun j=>nth (plH c a j)) ans R F:=fun F h=>hA0 ▸ h
 have env:Env A0 Tryz.prog tyB (tab [(68,fnI [qg c.cabins c.secs 1] R (Qk c a (plY c a) (plH c a) ans R))]):=qO ⟨QgT hA,trivial⟩
 refine Fn.of (A:=A0) (n0:=4) (D:=noD) (Fn0 Tryz.func67 rfl (fun vs w=>by kernel_rfl) (by kernel_rfl)) (by simp) (by simp [AV.ids]) VL (fun F hb h0 _=>hA0 ▸ ⟨h0,QdW,hb⟩) qG ?_
 show Sym _ _ _ (zR [.cb,.ptr 2 0,.ptr 3 0] 4 (qj [(0,qg c.cabins c.secs 1),(1,qf c.sold),(2,.cells [.ptr 0 0]),(3,.cells (ql a))])) (vo tyB noD Tryz.f67 fun S rv=>Fin S rv _ 4 (qj [(0,qg c.cabins c.secs 1),(1,qf c.sold),(2,.cells [.ptr 0 0]),(3,.cells (ql a))]) R)
 repeat' (first|(apply nx;with_reducible constructor)|refine jq (by decide) ?_|((first|refine kz env fun Q hQ=>?_|refine kj fun Q hQ=>?_);simp only [vkt,seval,ZJ,Jw,qx,ql,qd,mTk,qc,qg,qf,qm,plL,Qk,List.length_map,fnI,wM,qU,nth,hwL,Nat.zero_add,Nat.sub_zero,List.map_nil,ok];(try simp only [ite_and]);(repeat' (first|with_reducible assumption|refine And.intro ?_ ?_|intro hp));all_goals (first|(refine hQ _ ?_;clear hQ Q)|(refine hQ _ (fun h=>?_) (fun h=>?_) <;> clear hQ Q <;> (try simp only [vki,reduceCtorEq] at h))|(refine kx ?_;kernel_rfl)|omega|assumption|with_reducible rfl|skip)))
 (simp only [vrt,Tryz.results67,vkt,seval,ZJ,Jw,qx,ql,qd,mTk,qc,qg,qf,qm,plL,Qk,List.length_map,fnI,wM,qU,nth,hwL,Nat.zero_add,Nat.sub_zero,List.map_nil];refine Fin.ok some [] ?_ ?_ ?_ ?_ ?_ rfl;all_goals (try simp only [vle,vkt,seval,ZJ,Jw,qx,ql,qd,mTk,qc,qg,qf,qm,plL,Qk,List.length_map,fnI,wM,qU,nth,hwL,Nat.zero_add,Nat.sub_zero,List.map_nil]))
 all_goals first|rfl|(simp;done)
theorem Qev (c:Chart) (a:Ask):Fn noB Tryz.prog 37 [.ptr 0 0,qx a] (qj (qH 0 (qm c.cabins c.secs c.sold))) (.clo 67 [.ptr 2 0,.ptr 3 0]) (qj (wP 0 ((plL c a).map some))) 0:=by
 have env:Env (fun _=>True) Tryz.prog tyB (tab []):=qO trivial
 refine Fn.of (A:=fun _=>True) (n0:=2) (D:=noD) (Fn0 Tryz.func37 rfl (fun vs w=>by kernel_rfl) (by kernel_rfl)) (by simp) (by simp [AV.ids,AV.idsL,qx,ql]) xc (fun _ _ _ _=>trivial) qG ?_
 show Sym _ _ _ (zR [.ptr 0 0,qx a] 2 (qj [(0,qg c.cabins c.secs 1),(1,qf c.sold)])) (vo tyB noD Tryz.f37 fun S rv=>Fin S rv _ 2 (qj [(0,qg c.cabins c.secs 1),(1,qf c.sold),(2,.cells [.ptr 0 0]),(3,.cells (ql a))]) 0)
 repeat' (first|(apply nx;with_reducible constructor)|refine jq (by decide) ?_|((first|refine kz env fun Q hQ=>?_|refine kj fun Q hQ=>?_);simp only [vkt,seval,Jw,qx,ql,qd,mTk,qc,qg,qf,qm,plL,Qk,List.length_map,fnI,wM,qU,nth,hwL,Nat.zero_add,Nat.sub_zero,List.map_nil];(try simp only [ite_and]);(repeat' (first|with_reducible assumption|refine And.intro ?_ ?_|intro hp));all_goals (first|(refine hQ _ ?_;clear hQ Q)|(refine hQ _ (fun h=>?_) (fun h=>?_) <;> clear hQ Q <;> (try simp only [vki,reduceCtorEq] at h))|(refine kx ?_;kernel_rfl)|omega|assumption|with_reducible rfl|skip)))
 (simp only [vrt,Tryz.results37,vkt,seval,Jw,qx,ql,qd,mTk,qc,qg,qf,qm,plL,Qk,List.length_map,fnI,wM,qU,nth,hwL,Nat.zero_add,Nat.sub_zero,List.map_nil];refine Fin.ok some [] ?_ ?_ ?_ ?_ ?_ rfl;all_goals (try simp only [vle,vkt,seval,Jw,qx,ql,qd,mTk,qc,qg,qf,qm,plL,Qk,List.length_map,fnI,wM,qU,nth,hwL,Nat.zero_add,Nat.sub_zero,List.map_nil]))
 all_goals first|rfl|(simp;done)|exact fun i hi=>(match i,hi with|0,_=>rfl|1,_=>rfl)
def qF (S:St):List AV→Option Pk
 |[.ptr p 0,.agg [.v (.int .i64 a0),.v (.int .i64 a1),.v (.int .i64 a2),.sl a3,.v (.bool a4)]]=>match S.h p with
  |some (.cells [.sl cs,.v (.int .i64 s),.row r])=>match S.h r with
   |some (.row _ _ xs)=>some { pre:=cs=(cs.map qA).map qo∧xs=(xs.map dTk).map eTk∧a3=(a3.map zQ).map wz,hs:=[p,r],ar:=[.ptr 0 0,.agg [.v (.int .i64 a0),.v (.int .i64 a1),.v (.int .i64 a2),.sl a3,.v (.bool a4)]],L0:=qm (cs.map qA) s (xs.map dTk),v:=.clo 67 [.ptr 2 0,.ptr 3 0],L1:=(plL ⟨cs.map qA,s,xs.map dTk⟩ ⟨a0,a1,a2,a3.map zQ,a4⟩).map some }
   |_=>none
  |_=>none
 |_=>none
theorem Yp {A:Frm→Prop}:qC A Tryz.prog 37 (fnE qF):=wK fun S bs q h hp=>by
 unfold qF at h
 split at h
 ·rename_i a0 a1 a2 a3 a4
  split at h
  ·split at h
   ·rename_i cs s _ _ _ _ _ xs _
    cases h
    obtain ⟨h1,h2,h3⟩:=hp
    have:=Qev ⟨cs.map qA,s,xs.map dTk⟩ ⟨a0,a1,a2,a3.map zQ,a4⟩
    simp only [qx,ql,← h3] at this
    exact this
   ·cases h
  ·cases h
 ·cases h
theorem UM {N:Nat}:Rounds (fun _=>true) N N:=⟨Nat.le_refl _,fun _ _=>rfl,fun h=>absurd h (Nat.lt_irrefl _)⟩
theorem Qfe {α β:Type} {f:α→List β} {M:Nat}:∀ {l:List α},(∀ a ∈ l,(f a).length≤M)→(l.flatMap f).length≤l.length * M
 |[],_=>by simp
 |a :: l,h=>by
  have h1:=Qfe (l:=l) fun b hb=>h b (List.mem_cons_of_mem _ hb)
  have h2:=h a List.mem_cons_self
  rw [List.flatMap_cons,List.length_append,List.length_cons,Nat.succ_mul];omega
theorem LY (cs:List Cabin) (a:Ask) {K:Nat} (hK:(qV cs).length≤K):∀ (m:Nat) (sold:List Tk) (begun:List Bunk),(wZ cs a m sold begun).length≤K ^ m
 |0,_,_=>by simp [wZ]
 |m+1,sold,begun=>by
  have h1:(wZ cs a (m+1) sold begun).length≤(qV cs).length * K ^ m:=Qfe fun b _=>by
   split
   ·exact LY cs a hK m _ _
   ·simp
  rw [Nat.pow_succ,Nat.mul_comm (K ^ m) K]
  exact Nat.le_trans h1 (Nat.mul_le_mul_right _ hK)
theorem Qfo {cs:List Cabin} (h1:cs.length≤3) (h2:∀ x ∈ cs,x.beds≤3):(qV cs).length≤9:=by
 rw [Ye]
 refine Nat.le_trans (Qfe (M:=3) fun i hi=>?_) (by rw [List.length_range];omega)
 rw [List.length_map,List.length_range]
 have:=h2 _ (xV (d:=default) (List.mem_range.1 hi))
 omega
theorem QbK {c:Chart} {a:Ask} (h:PlOk c a):(plP c a).length≤729:=by
 have h1:=LY c.cabins a (Qfo h.val.car.cabs.2 fun x hx=>(h.val.car.beds x hx).2) a.sexes.length c.sold []
 refine Nat.le_trans h1 ?_
 have:=h.sx
 exact Nat.le_trans (Nat.pow_le_pow_right (by omega) this) (by decide)
def plR (c:Chart) (a:Ask) (j:Nat):List (List DV):=((plP c a).take j).map fun x=>qB x.1
theorem Qfa {c:Chart} {a:Ask} {j:Nat} (h:j < (plP c a).length):plR c a (j+1)=plR c a j++[qB ((plP c a).getD j default).1]:=by
 unfold plR
 rw [List.take_succ_eq_append_getElem h,List.map_append]
 simp [List.getD_eq_getElem?_getD,h]
theorem JS (c:Chart) (a:Ask) (j:Nat):wJ 1 (plR c a j)=True:=by
 unfold plR
 exact vO (f:=fun x:List Bunk × List Tk=>qB x.1) (k:=1) (fun _=>rfl) _
def aqL:List (Nat × AV):=[(2,.ptr 4 0)]
def aqL0:List (Nat × AV):=[(2,.ptr 4 0),(6,.clo 67 [.ptr 2 0,.ptr 3 0])]
def aqH (c:Chart) (a:Ask) (j:Nat):List (Nat × AObj):=[(4,.cells [.row 5]),(5,.row 43 1 (plR c a j))]
theorem UY (c:Chart) (a:Ask):zf [0,1,2,3] 7 0 (plL c a)=[(0,qg c.cabins c.secs 1),(1,qf c.sold),(2,.cells [.ptr 0 0]),(3,.cells (ql a))]:=by
 simp [zf,plL,qz,AObj.ren,AV.renL,AV.ren,qg,qf,ql]
theorem Ur (c:Chart) (a:Ask) (j:Nat):zf [0] 7 0 (plH c a j)=[(0,qg c.cabins c.secs 7),(7,qf ((plP c a).getD j default).2)]:=by
 simp [zf,plH,qm,qz,AObj.ren,AV.renL,AV.ren,qg,qf]
def jY:=kk @YM (kk @Qfb (kk @JN.eq_1 @QaG.eq_1))
def Wm:=kk @aI.eq_1 (@aB.eq_1)
end Go.Sym.B
