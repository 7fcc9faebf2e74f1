/- Walks and what they compute, joined: part 1. -/
import Derived.Test.YtfljkbcphmnjkaaGreatYS3
import Derived.Test.YtfljkbcphmnjkaaGreatProg
import Derived.KernelRfl
set_option linter.all false
namespace Go.Sym.B
open Go Go.Sym Go.Proofs
theorem _root_.Go.Sym.kk {a b:Prop} (x:a) (y:b):a∧b:=⟨x,y⟩
def _root_.Go.Sym.jq:=@Vx
def _root_.Go.Sym.jx:=@Yh
def _root_.Go.Sym.jz:=@XG
def _root_.Go.Sym.jk:=@V8
def _root_.Go.Sym.jw:=@RU
def _root_.Go.Sym.jv:=@Ux
def _root_.Go.Sym.kq:=@R5
def _root_.Go.Sym.kx:=@QaG
def _root_.Go.Sym.kz:=@Qdw
def _root_.Go.Sym.kj:=@QgY
def ti3:TI:={ cells:=1,bytes:=8,td:=.int .i64,zero:=[.v (.int .i64 0)],eqk:=none }
theorem tf3:TyFact Tryz.prog 3 ti3:=by
 refine ⟨⟨Tryz.t3,.int .i64 0,by kernel_rfl,rfl,rfl,rfl,rfl,rfl,by simp [Value.cells,Value.oneCell']⟩,⟨_,Tryz.underlying3,rfl⟩,fun fs h=>?_,fun ks h=>?_,fun q h=>?_⟩
 ·cases h
 ·cases h
 ·cases h
def ti4:TI:={ cells:=1,bytes:=1,td:=.bool,zero:=[.v (.bool false)],eqk:=none }
theorem tf4:TyFact Tryz.prog 4 ti4:=by
 refine ⟨⟨Tryz.t4,.bool false,by kernel_rfl,rfl,rfl,rfl,rfl,rfl,by simp [Value.cells,Value.oneCell']⟩,⟨_,Tryz.underlying4,rfl⟩,fun fs h=>?_,fun ks h=>?_,fun q h=>?_⟩
 ·cases h
 ·cases h
 ·cases h
def ZT:TI:={ cells:=1,bytes:=24,td:=.slice 89,zero:=[.nil],eqk:=none }
theorem tf22:TyFact Tryz.prog 22 ZT:=by
 refine ⟨⟨Tryz.t22,.slice none 0 0,by kernel_rfl,rfl,rfl,rfl,rfl,rfl,by simp [Value.cells,Value.oneCell']⟩,⟨_,Tryz.underlying22,rfl⟩,fun fs h=>?_,fun ks h=>?_,fun q h=>?_⟩
 ·cases h
 ·cases h
 ·cases h
def xD:TI:={ cells:=1,bytes:=24,td:=.slice 64,zero:=[.nil],eqk:=none }
theorem tf23:TyFact Tryz.prog 23 xD:=by
 refine ⟨⟨Tryz.t23,.slice none 0 0,by kernel_rfl,rfl,rfl,rfl,rfl,rfl,by simp [Value.cells,Value.oneCell']⟩,⟨_,Tryz.underlying23,rfl⟩,fun fs h=>?_,fun ks h=>?_,fun q h=>?_⟩
 ·cases h
 ·cases h
 ·cases h
def jM:TI:={ cells:=3,bytes:=56,td:=.struct [(0,1,22),(1,1,3),(2,1,23)],zero:=[.nil,.v (.int .i64 0),.nil],eqk:=none }
theorem tf25:TyFact Tryz.prog 25 jM:=by
 refine ⟨⟨Tryz.t25,.agg #[.slice none 0 0,.int .i64 0,.slice none 0 0],by kernel_rfl,rfl,rfl,rfl,rfl,rfl,by simp [Value.cells,Value.oneCell']⟩,⟨_,Tryz.underlying25,⟨_,rfl,rfl⟩⟩,fun fs h=>?_,fun ks h=>?_,fun q h=>?_⟩
 ·cases h
  simp only [List.mem_cons,List.not_mem_nil,or_false,forall_eq_or_imp,forall_eq]
  exact ⟨⟨Tryz.t22,by kernel_rfl,rfl⟩,⟨Tryz.t3,by kernel_rfl,rfl⟩,⟨Tryz.t23,by kernel_rfl,rfl⟩⟩
 ·cases h
 ·cases h
def x8:TI:={ cells:=1,bytes:=24,td:=.slice 3,zero:=[.nil],eqk:=none }
theorem tf26:TyFact Tryz.prog 26 x8:=by
 refine ⟨⟨Tryz.t26,.slice none 0 0,by kernel_rfl,rfl,rfl,rfl,rfl,rfl,by simp [Value.cells,Value.oneCell']⟩,⟨_,Tryz.underlying26,rfl⟩,fun fs h=>?_,fun ks h=>?_,fun q h=>?_⟩
 ·cases h
 ·cases h
 ·cases h
def Qb:TI:={ cells:=5,bytes:=56,td:=.struct [(0,1,3),(1,1,3),(2,1,3),(3,1,26),(4,1,4)],zero:=[.v (.int .i64 0),.v (.int .i64 0),.v (.int .i64 0),.nil,.v (.bool false)],eqk:=none }
theorem tf28:TyFact Tryz.prog 28 Qb:=by
 refine ⟨⟨Tryz.t28,.agg #[.int .i64 0,.int .i64 0,.int .i64 0,.slice none 0 0,.bool false],by kernel_rfl,rfl,rfl,rfl,rfl,rfl,by simp [Value.cells,Value.oneCell']⟩,⟨_,Tryz.underlying28,⟨_,rfl,rfl⟩⟩,fun fs h=>?_,fun ks h=>?_,fun q h=>?_⟩
 ·cases h
  simp only [List.mem_cons,List.not_mem_nil,or_false,forall_eq_or_imp,forall_eq]
  exact ⟨⟨Tryz.t3,by kernel_rfl,rfl⟩,⟨Tryz.t3,by kernel_rfl,rfl⟩,⟨Tryz.t3,by kernel_rfl,rfl⟩,⟨Tryz.t26,by kernel_rfl,rfl⟩,⟨Tryz.t4,by kernel_rfl,rfl⟩⟩
 ·cases h
 ·cases h
def ti30:TI:={ cells:=1,bytes:=8,td:=.func,zero:=[.v (.nilFunc)],eqk:=none }
theorem tf30:TyFact Tryz.prog 30 ti30:=by
 refine ⟨⟨Tryz.t30,.nilFunc,by kernel_rfl,rfl,rfl,rfl,rfl,rfl,by simp [Value.cells,Value.oneCell']⟩,⟨_,Tryz.underlying30,⟨_,_,_,rfl⟩⟩,fun fs h=>?_,fun ks h=>?_,fun q h=>?_⟩
 ·cases h
 ·cases h
 ·cases h
def ti31:TI:={ cells:=1,bytes:=8,td:=.ptr,zero:=[.v (.pointer none)],eqk:=none }
theorem tf31:TyFact Tryz.prog 31 ti31:=by
 refine ⟨⟨Tryz.t31,.pointer none,by kernel_rfl,rfl,rfl,rfl,rfl,rfl,by simp [Value.cells,Value.oneCell']⟩,⟨_,Tryz.underlying31,⟨_,rfl⟩⟩,fun fs h=>?_,fun ks h=>?_,fun q h=>?_⟩
 ·cases h
 ·cases h
 ·cases h
def ti34:TI:={ cells:=1,bytes:=24,td:=.slice 25,zero:=[.nil],eqk:=none }
theorem tf34:TyFact Tryz.prog 34 ti34:=by
 refine ⟨⟨Tryz.t34,.slice none 0 0,by kernel_rfl,rfl,rfl,rfl,rfl,rfl,by simp [Value.cells,Value.oneCell']⟩,⟨_,Tryz.underlying34,rfl⟩,fun fs h=>?_,fun ks h=>?_,fun q h=>?_⟩
 ·cases h
 ·cases h
 ·cases h
def ti37:TI:={ cells:=1,bytes:=24,td:=.slice 28,zero:=[.nil],eqk:=none }
theorem tf37:TyFact Tryz.prog 37 ti37:=by
 refine ⟨⟨Tryz.t37,.slice none 0 0,by kernel_rfl,rfl,rfl,rfl,rfl,rfl,by simp [Value.cells,Value.oneCell']⟩,⟨_,Tryz.underlying37,rfl⟩,fun fs h=>?_,fun ks h=>?_,fun q h=>?_⟩
 ·cases h
 ·cases h
 ·cases h
def Kt:TI:={ cells:=1,bytes:=24,td:=.slice 44,zero:=[.nil],eqk:=none }
theorem tf40:TyFact Tryz.prog 40 Kt:=by
 refine ⟨⟨Tryz.t40,.slice none 0 0,by kernel_rfl,rfl,rfl,rfl,rfl,rfl,by simp [Value.cells,Value.oneCell']⟩,⟨_,Tryz.underlying40,rfl⟩,fun fs h=>?_,fun ks h=>?_,fun q h=>?_⟩
 ·cases h
 ·cases h
 ·cases h
def QA:TI:={ cells:=1,bytes:=8,td:=.int .i64,zero:=[.v (.int .i64 0)],eqk:=none }
theorem tf41:TyFact Tryz.prog 41 QA:=by
 refine ⟨⟨Tryz.t41,.int .i64 0,by kernel_rfl,rfl,rfl,rfl,rfl,rfl,by simp [Value.cells,Value.oneCell']⟩,⟨_,Tryz.underlying41,rfl⟩,fun fs h=>?_,fun ks h=>?_,fun q h=>?_⟩
 ·cases h
 ·cases h
 ·cases h
def ZO:TI:={ cells:=1,bytes:=24,td:=.slice 62,zero:=[.nil],eqk:=none }
theorem tf44:TyFact Tryz.prog 44 ZO:=by
 refine ⟨⟨Tryz.t44,.slice none 0 0,by kernel_rfl,rfl,rfl,rfl,rfl,rfl,by simp [Value.cells,Value.oneCell']⟩,⟨_,Tryz.underlying44,rfl⟩,fun fs h=>?_,fun ks h=>?_,fun q h=>?_⟩
 ·cases h
 ·cases h
 ·cases h
def VL:TI:={ cells:=1,bytes:=24,td:=.slice 83,zero:=[.nil],eqk:=none }
theorem tf51:TyFact Tryz.prog 51 VL:=by
 refine ⟨⟨Tryz.t51,.slice none 0 0,by kernel_rfl,rfl,rfl,rfl,rfl,rfl,by simp [Value.cells,Value.oneCell']⟩,⟨_,Tryz.underlying51,rfl⟩,fun fs h=>?_,fun ks h=>?_,fun q h=>?_⟩
 ·cases h
 ·cases h
 ·cases h
theorem QcI (d:Nat) (w:World) (a0 b0:Int) (a1 b1:Int):(Op.equalIn (d+2) 62 (.agg #[.int .i64 a0,.int .i64 a1]) (.agg #[.int .i64 b0,.int .i64 b1])).run Tryz.prog w=.ok (kS [.int .i64 a0,.int .i64 a1] [.int .i64 b0,.int .i64 b1]) w:=by
 have h1:Tryz.prog.underlying 62=some (.struct (Tryz.prog.fieldsOf 62)):=by kernel_rfl
 have h2 : (Tryz.prog.fieldsOf 62).toList = [{ name := "Cabin", type := 3, offset := 0, embedded := false, tag := "", pkgPath := "", byteOffset := 0 }, { name := "Bed", type := 3, offset := 1, embedded := false, tag := "", pkgPath := "", byteOffset := 8 }] := by kernel_rfl
 rw [run_equalIn_agg w (d+1) 62 _ _ h1 (by kernel_rfl),h2]
 refine Eq.trans (b:=Result.ok (a0 == b0 && (a1 == b1 && true)) w) ?_ (congrArg (fun r=>Result.ok r w) (by simp [kS,veq,Bool.and_assoc]))
 exact vo (by simp) (zK (Tryz.isAgg3) rfl) (zK (Tryz.isAgg3) rfl) (run_equalIn_int w (d+0) 3 _ _ _ _ Tryz.underlying3) (vo (by simp) (zK (Tryz.isAgg3) rfl) (zK (Tryz.isAgg3) rfl) (run_equalIn_int w (d+0) 3 _ _ _ _ Tryz.underlying3) (kF))
def vZ:TI:={ cells:=2,bytes:=16,td:=.struct [(0,1,3),(1,1,3)],zero:=[.v (.int .i64 0),.v (.int .i64 0)],eqk:=some [some .i64,some .i64] }
theorem tf62:TyFact Tryz.prog 62 vZ:=by
 refine ⟨⟨Tryz.t62,.agg #[.int .i64 0,.int .i64 0],by kernel_rfl,rfl,rfl,rfl,rfl,rfl,by simp [Value.cells,Value.oneCell']⟩,⟨_,Tryz.underlying62,⟨_,rfl,rfl⟩⟩,fun fs h=>?_,fun ks h=>?_,fun q h=>?_⟩
 ·cases h
  simp only [List.mem_cons,List.not_mem_nil,or_false,forall_eq_or_imp,forall_eq]
  exact ⟨⟨Tryz.t3,by kernel_rfl,rfl⟩,⟨Tryz.t3,by kernel_rfl,rfl⟩⟩
 ·cases h
  refine ⟨by kernel_rfl,fun w xs ys hx hy=>?_⟩
  cases xs with
  |nil=>simp [qJ] at hx
  |cons x0 xs1 =>
  cases xs1 with
  |nil=>simp [qJ] at hx
  |cons x1 xs2 =>
  cases xs2 with
  |cons _ _=>simp [qJ] at hx
  |nil =>
  cases ys with
  |nil=>simp [qJ] at hy
  |cons y0 ys1 =>
  cases ys1 with
  |nil=>simp [qJ] at hy
  |cons y1 ys2 =>
  cases ys2 with
  |cons _ _=>simp [qJ] at hy
  |nil =>
  simp only [qJ] at hx hy
  obtain ⟨⟨nx0,rfl⟩,⟨nx1,rfl⟩,_⟩:=hx
  obtain ⟨⟨ny0,rfl⟩,⟨ny1,rfl⟩,_⟩:=hy
  exact QcI 9998 w nx0 ny0 nx1 ny1
 ·cases h
theorem eqd64 (d:Nat) (w:World) (a0 b0:Int) (a1 b1:Int) (a2 b2:Int) (a3 b3:Int) (a4 b4:Int) (a5 b5:Int) (a6 b6:Bool):(Op.equalIn (d+3) 64 (.agg #[.int .i64 a0,.int .i64 a1,.int .i64 a2,.int .i64 a3,.int .i64 a4,.int .i64 a5,.bool a6]) (.agg #[.int .i64 b0,.int .i64 b1,.int .i64 b2,.int .i64 b3,.int .i64 b4,.int .i64 b5,.bool b6])).run Tryz.prog w=.ok (kS [.int .i64 a0,.int .i64 a1,.int .i64 a2,.int .i64 a3,.int .i64 a4,.int .i64 a5,.bool a6] [.int .i64 b0,.int .i64 b1,.int .i64 b2,.int .i64 b3,.int .i64 b4,.int .i64 b5,.bool b6]) w:=by
 have h1:Tryz.prog.underlying 64=some (.struct (Tryz.prog.fieldsOf 64)):=by kernel_rfl
 have h2 : (Tryz.prog.fieldsOf 64).toList = [{ name := "Party", type := 3, offset := 0, embedded := false, tag := "", pkgPath := "", byteOffset := 0 }, { name := "Sex", type := 3, offset := 1, embedded := false, tag := "", pkgPath := "", byteOffset := 8 }, { name := "Bunk", type := 62, offset := 2, embedded := true, tag := "", pkgPath := "", byteOffset := 16 }, { name := "From", type := 3, offset := 4, embedded := false, tag := "", pkgPath := "", byteOffset := 32 }, { name := "To", type := 3, offset := 5, embedded := false, tag := "", pkgPath := "", byteOffset := 40 }, { name := "Dog", type := 4, offset := 6, embedded := false, tag := "", pkgPath := "", byteOffset := 48 }] := by kernel_rfl
 rw [run_equalIn_agg w (d+2) 64 _ _ h1 (by kernel_rfl),h2]
 refine Eq.trans (b:=Result.ok (a0 == b0 && (a1 == b1 && (kS [.int .i64 a2,.int .i64 a3] [.int .i64 b2,.int .i64 b3] && (a4 == b4 && (a5 == b5 && (a6 == b6 && true)))))) w) ?_ (congrArg (fun r=>Result.ok r w) (by simp [kS,veq,Bool.and_assoc]))
 exact vo (by simp) (zK (Tryz.isAgg3) rfl) (zK (Tryz.isAgg3) rfl) (run_equalIn_int w (d+1) 3 _ _ _ _ Tryz.underlying3) (vo (by simp) (zK (Tryz.isAgg3) rfl) (zK (Tryz.isAgg3) rfl) (run_equalIn_int w (d+1) 3 _ _ _ _ Tryz.underlying3) (vo (by simp) (Q5 (Tryz.isAgg62) (Tryz.sizeOf62) rfl) (Q5 (Tryz.isAgg62) (Tryz.sizeOf62) rfl) (QcI (d+0) w a2 b2 a3 b3) (vo (by simp) (zK (Tryz.isAgg3) rfl) (zK (Tryz.isAgg3) rfl) (run_equalIn_int w (d+1) 3 _ _ _ _ Tryz.underlying3) (vo (by simp) (zK (Tryz.isAgg3) rfl) (zK (Tryz.isAgg3) rfl) (run_equalIn_int w (d+1) 3 _ _ _ _ Tryz.underlying3) (vo (by simp) (zK (Tryz.isAgg4) rfl) (zK (Tryz.isAgg4) rfl) (run_equalIn_bool' w (d+1) 4 _ _ Tryz.underlying4) (kF))))))
def yA:TI:={ cells:=7,bytes:=56,td:=.struct [(0,1,3),(1,1,3),(2,2,62),(4,1,3),(5,1,3),(6,1,4)],zero:=[.v (.int .i64 0),.v (.int .i64 0),.v (.int .i64 0),.v (.int .i64 0),.v (.int .i64 0),.v (.int .i64 0),.v (.bool false)],eqk:=some [some .i64,some .i64,some .i64,some .i64,some .i64,some .i64,none] }
theorem tf64:TyFact Tryz.prog 64 yA:=by
 refine ⟨⟨Tryz.t64,.agg #[.int .i64 0,.int .i64 0,.int .i64 0,.int .i64 0,.int .i64 0,.int .i64 0,.bool false],by kernel_rfl,rfl,rfl,rfl,rfl,rfl,by simp [Value.cells,Value.oneCell']⟩,⟨_,Tryz.underlying64,⟨_,rfl,rfl⟩⟩,fun fs h=>?_,fun ks h=>?_,fun q h=>?_⟩
 ·cases h
  simp only [List.mem_cons,List.not_mem_nil,or_false,forall_eq_or_imp,forall_eq]
  exact ⟨⟨Tryz.t3,by kernel_rfl,rfl⟩,⟨Tryz.t3,by kernel_rfl,rfl⟩,⟨Tryz.t62,by kernel_rfl,rfl⟩,⟨Tryz.t3,by kernel_rfl,rfl⟩,⟨Tryz.t3,by kernel_rfl,rfl⟩,⟨Tryz.t4,by kernel_rfl,rfl⟩⟩
 ·cases h
  refine ⟨by kernel_rfl,fun w xs ys hx hy=>?_⟩
  cases xs with
  |nil=>simp [qJ] at hx
  |cons x0 xs1 =>
  cases xs1 with
  |nil=>simp [qJ] at hx
  |cons x1 xs2 =>
  cases xs2 with
  |nil=>simp [qJ] at hx
  |cons x2 xs3 =>
  cases xs3 with
  |nil=>simp [qJ] at hx
  |cons x3 xs4 =>
  cases xs4 with
  |nil=>simp [qJ] at hx
  |cons x4 xs5 =>
  cases xs5 with
  |nil=>simp [qJ] at hx
  |cons x5 xs6 =>
  cases xs6 with
  |nil=>simp [qJ] at hx
  |cons x6 xs7 =>
  cases xs7 with
  |cons _ _=>simp [qJ] at hx
  |nil =>
  cases ys with
  |nil=>simp [qJ] at hy
  |cons y0 ys1 =>
  cases ys1 with
  |nil=>simp [qJ] at hy
  |cons y1 ys2 =>
  cases ys2 with
  |nil=>simp [qJ] at hy
  |cons y2 ys3 =>
  cases ys3 with
  |nil=>simp [qJ] at hy
  |cons y3 ys4 =>
  cases ys4 with
  |nil=>simp [qJ] at hy
  |cons y4 ys5 =>
  cases ys5 with
  |nil=>simp [qJ] at hy
  |cons y5 ys6 =>
  cases ys6 with
  |nil=>simp [qJ] at hy
  |cons y6 ys7 =>
  cases ys7 with
  |cons _ _=>simp [qJ] at hy
  |nil =>
  simp only [qJ] at hx hy
  obtain ⟨⟨nx0,rfl⟩,⟨nx1,rfl⟩,⟨nx2,rfl⟩,⟨nx3,rfl⟩,⟨nx4,rfl⟩,⟨nx5,rfl⟩,⟨nx6,rfl⟩,_⟩:=hx
  obtain ⟨⟨ny0,rfl⟩,⟨ny1,rfl⟩,⟨ny2,rfl⟩,⟨ny3,rfl⟩,⟨ny4,rfl⟩,⟨ny5,rfl⟩,⟨ny6,rfl⟩,_⟩:=hy
  exact eqd64 9997 w nx0 ny0 nx1 ny1 nx2 ny2 nx3 ny3 nx4 ny4 nx5 ny5 nx6 ny6
 ·cases h
def ti72:TI:={ cells:=1,bytes:=24,td:=.slice 37,zero:=[.nil],eqk:=none }
theorem tf72:TyFact Tryz.prog 72 ti72:=by
 refine ⟨⟨Tryz.t72,.slice none 0 0,by kernel_rfl,rfl,rfl,rfl,rfl,rfl,by simp [Value.cells,Value.oneCell']⟩,⟨_,Tryz.underlying72,rfl⟩,fun fs h=>?_,fun ks h=>?_,fun q h=>?_⟩
 ·cases h
 ·cases h
 ·cases h
theorem eqd83 (d:Nat) (w:World) (a0 b0:Int) (a1 b1:Int) (a2 b2:Int):(Op.equalIn (d+3) 83 (.agg #[.int .i64 a0,.int .i64 a1,.int .i64 a2]) (.agg #[.int .i64 b0,.int .i64 b1,.int .i64 b2])).run Tryz.prog w=.ok (kS [.int .i64 a0,.int .i64 a1,.int .i64 a2] [.int .i64 b0,.int .i64 b1,.int .i64 b2]) w:=by
 have h1:Tryz.prog.underlying 83=some (.struct (Tryz.prog.fieldsOf 83)):=by kernel_rfl
 have h2 : (Tryz.prog.fieldsOf 83).toList = [{ name := "Ticket", type := 3, offset := 0, embedded := false, tag := "", pkgPath := "", byteOffset := 0 }, { name := "Bunk", type := 62, offset := 1, embedded := true, tag := "", pkgPath := "", byteOffset := 8 }] := by kernel_rfl
 rw [run_equalIn_agg w (d+2) 83 _ _ h1 (by kernel_rfl),h2]
 refine Eq.trans (b:=Result.ok (a0 == b0 && (kS [.int .i64 a1,.int .i64 a2] [.int .i64 b1,.int .i64 b2] && true)) w) ?_ (congrArg (fun r=>Result.ok r w) (by simp [kS,veq,Bool.and_assoc]))
 exact vo (by simp) (zK (Tryz.isAgg3) rfl) (zK (Tryz.isAgg3) rfl) (run_equalIn_int w (d+1) 3 _ _ _ _ Tryz.underlying3) (vo (by simp) (Q5 (Tryz.isAgg62) (Tryz.sizeOf62) rfl) (Q5 (Tryz.isAgg62) (Tryz.sizeOf62) rfl) (QcI (d+0) w a1 b1 a2 b2) (kF))
def VQ:TI:={ cells:=3,bytes:=24,td:=.struct [(0,1,3),(1,2,62)],zero:=[.v (.int .i64 0),.v (.int .i64 0),.v (.int .i64 0)],eqk:=some [some .i64,some .i64,some .i64] }
theorem tf83:TyFact Tryz.prog 83 VQ:=by
 refine ⟨⟨Tryz.t83,.agg #[.int .i64 0,.int .i64 0,.int .i64 0],by kernel_rfl,rfl,rfl,rfl,rfl,rfl,by simp [Value.cells,Value.oneCell']⟩,⟨_,Tryz.underlying83,⟨_,rfl,rfl⟩⟩,fun fs h=>?_,fun ks h=>?_,fun q h=>?_⟩
 ·cases h
  simp only [List.mem_cons,List.not_mem_nil,or_false,forall_eq_or_imp,forall_eq]
  exact ⟨⟨Tryz.t3,by kernel_rfl,rfl⟩,⟨Tryz.t62,by kernel_rfl,rfl⟩⟩
 ·cases h
  refine ⟨by kernel_rfl,fun w xs ys hx hy=>?_⟩
  cases xs with
  |nil=>simp [qJ] at hx
  |cons x0 xs1 =>
  cases xs1 with
  |nil=>simp [qJ] at hx
  |cons x1 xs2 =>
  cases xs2 with
  |nil=>simp [qJ] at hx
  |cons x2 xs3 =>
  cases xs3 with
  |cons _ _=>simp [qJ] at hx
  |nil =>
  cases ys with
  |nil=>simp [qJ] at hy
  |cons y0 ys1 =>
  cases ys1 with
  |nil=>simp [qJ] at hy
  |cons y1 ys2 =>
  cases ys2 with
  |nil=>simp [qJ] at hy
  |cons y2 ys3 =>
  cases ys3 with
  |cons _ _=>simp [qJ] at hy
  |nil =>
  simp only [qJ] at hx hy
  obtain ⟨⟨nx0,rfl⟩,⟨nx1,rfl⟩,⟨nx2,rfl⟩,_⟩:=hx
  obtain ⟨⟨ny0,rfl⟩,⟨ny1,rfl⟩,⟨ny2,rfl⟩,_⟩:=hy
  exact eqd83 9997 w nx0 ny0 nx1 ny1 nx2 ny2
 ·cases h
def Qfd:TI:={ cells:=1,bytes:=8,td:=.int .u64,zero:=[.v (.int .u64 0)],eqk:=none }
theorem tf84:TyFact Tryz.prog 84 Qfd:=by
 refine ⟨⟨Tryz.t84,.int .u64 0,by kernel_rfl,rfl,rfl,rfl,rfl,rfl,by simp [Value.cells,Value.oneCell']⟩,⟨_,Tryz.underlying84,rfl⟩,fun fs h=>?_,fun ks h=>?_,fun q h=>?_⟩
 ·cases h
 ·cases h
 ·cases h
def QhG:TI:={ cells:=1,bytes:=8,td:=.struct [(0,1,84)],zero:=[.v (.int .u64 0)],eqk:=none }
theorem tf86:TyFact Tryz.prog 86 QhG:=by
 refine ⟨⟨Tryz.t86,.agg #[.int .u64 0],by kernel_rfl,rfl,rfl,rfl,rfl,rfl,by simp [Value.cells,Value.oneCell']⟩,⟨_,Tryz.underlying86,⟨_,rfl,rfl⟩⟩,fun fs h=>?_,fun ks h=>?_,fun q h=>?_⟩
 ·cases h
  simp only [List.mem_cons,List.not_mem_nil,or_false,forall_eq_or_imp,forall_eq]
  exact ⟨Tryz.t84,by kernel_rfl,rfl⟩
 ·cases h
 ·cases h
theorem eqd89 (d:Nat) (w:World) (a0 b0:Int) (a1 b1:Bool):(Op.equalIn (d+2) 89 (.agg #[.int .i64 a0,.bool a1]) (.agg #[.int .i64 b0,.bool b1])).run Tryz.prog w=.ok (kS [.int .i64 a0,.bool a1] [.int .i64 b0,.bool b1]) w:=by
 have h1:Tryz.prog.underlying 89=some (.struct (Tryz.prog.fieldsOf 89)):=by kernel_rfl
 have h2 : (Tryz.prog.fieldsOf 89).toList = [{ name := "Beds", type := 3, offset := 0, embedded := false, tag := "", pkgPath := "", byteOffset := 0 }, { name := "Door", type := 4, offset := 1, embedded := false, tag := "", pkgPath := "", byteOffset := 8 }] := by kernel_rfl
 rw [run_equalIn_agg w (d+1) 89 _ _ h1 (by kernel_rfl),h2]
 refine Eq.trans (b:=Result.ok (a0 == b0 && (a1 == b1 && true)) w) ?_ (congrArg (fun r=>Result.ok r w) (by simp [kS,veq,Bool.and_assoc]))
 exact vo (by simp) (zK (Tryz.isAgg3) rfl) (zK (Tryz.isAgg3) rfl) (run_equalIn_int w (d+0) 3 _ _ _ _ Tryz.underlying3) (vo (by simp) (zK (Tryz.isAgg4) rfl) (zK (Tryz.isAgg4) rfl) (run_equalIn_bool' w (d+0) 4 _ _ Tryz.underlying4) (kF))
def Z4:TI:={ cells:=2,bytes:=16,td:=.struct [(0,1,3),(1,1,4)],zero:=[.v (.int .i64 0),.v (.bool false)],eqk:=some [some .i64,none] }
theorem tf89:TyFact Tryz.prog 89 Z4:=by
 refine ⟨⟨Tryz.t89,.agg #[.int .i64 0,.bool false],by kernel_rfl,rfl,rfl,rfl,rfl,rfl,by simp [Value.cells,Value.oneCell']⟩,⟨_,Tryz.underlying89,⟨_,rfl,rfl⟩⟩,fun fs h=>?_,fun ks h=>?_,fun q h=>?_⟩
 ·cases h
  simp only [List.mem_cons,List.not_mem_nil,or_false,forall_eq_or_imp,forall_eq]
  exact ⟨⟨Tryz.t3,by kernel_rfl,rfl⟩,⟨Tryz.t4,by kernel_rfl,rfl⟩⟩
 ·cases h
  refine ⟨by kernel_rfl,fun w xs ys hx hy=>?_⟩
  cases xs with
  |nil=>simp [qJ] at hx
  |cons x0 xs1 =>
  cases xs1 with
  |nil=>simp [qJ] at hx
  |cons x1 xs2 =>
  cases xs2 with
  |cons _ _=>simp [qJ] at hx
  |nil =>
  cases ys with
  |nil=>simp [qJ] at hy
  |cons y0 ys1 =>
  cases ys1 with
  |nil=>simp [qJ] at hy
  |cons y1 ys2 =>
  cases ys2 with
  |cons _ _=>simp [qJ] at hy
  |nil =>
  simp only [qJ] at hx hy
  obtain ⟨⟨nx0,rfl⟩,⟨nx1,rfl⟩,_⟩:=hx
  obtain ⟨⟨ny0,rfl⟩,⟨ny1,rfl⟩,_⟩:=hy
  exact eqd89 9998 w nx0 ny0 nx1 ny1
 ·cases h
def JZ:TI:={ cells:=1,bytes:=8,td:=.ptr,zero:=[.v (.pointer none)],eqk:=none }
theorem tf93:TyFact Tryz.prog 93 JZ:=by
 refine ⟨⟨Tryz.t93,.pointer none,by kernel_rfl,rfl,rfl,rfl,rfl,rfl,by simp [Value.cells,Value.oneCell']⟩,⟨_,Tryz.underlying93,⟨_,rfl⟩⟩,fun fs h=>?_,fun ks h=>?_,fun q h=>?_⟩
 ·cases h
 ·cases h
 ·cases h
def ti98:TI:={ cells:=1,bytes:=8,td:=.func,zero:=[.v (.nilFunc)],eqk:=none }
theorem tf98:TyFact Tryz.prog 98 ti98:=by
 refine ⟨⟨Tryz.t98,.nilFunc,by kernel_rfl,rfl,rfl,rfl,rfl,rfl,by simp [Value.cells,Value.oneCell']⟩,⟨_,Tryz.underlying98,⟨_,_,_,rfl⟩⟩,fun fs h=>?_,fun ks h=>?_,fun q h=>?_⟩
 ·cases h
 ·cases h
 ·cases h
def Qdt:TI:={ cells:=1,bytes:=8,td:=.func,zero:=[.v (.nilFunc)],eqk:=none }
theorem tf104:TyFact Tryz.prog 104 Qdt:=by
 refine ⟨⟨Tryz.t104,.nilFunc,by kernel_rfl,rfl,rfl,rfl,rfl,rfl,by simp [Value.cells,Value.oneCell']⟩,⟨_,Tryz.underlying104,⟨_,_,_,rfl⟩⟩,fun fs h=>?_,fun ks h=>?_,fun q h=>?_⟩
 ·cases h
 ·cases h
 ·cases h
def ZQ:TI:={ cells:=3,bytes:=56,td:=.struct [(0,3,25)],zero:=[.nil,.v (.int .i64 0),.nil],eqk:=none }
theorem tf107:TyFact Tryz.prog 107 ZQ:=by
 refine ⟨⟨Tryz.t107,.agg #[.slice none 0 0,.int .i64 0,.slice none 0 0],by kernel_rfl,rfl,rfl,rfl,rfl,rfl,by simp [Value.cells,Value.oneCell']⟩,⟨_,Tryz.underlying107,⟨_,rfl,rfl⟩⟩,fun fs h=>?_,fun ks h=>?_,fun q h=>?_⟩
 ·cases h
  simp only [List.mem_cons,List.not_mem_nil,or_false,forall_eq_or_imp,forall_eq]
  exact ⟨Tryz.t25,by kernel_rfl,rfl⟩
 ·cases h
 ·cases h
def Qc2:TI:={ cells:=1,bytes:=8,td:=.func,zero:=[.v (.nilFunc)],eqk:=none }
theorem tf108:TyFact Tryz.prog 108 Qc2:=by
 refine ⟨⟨Tryz.t108,.nilFunc,by kernel_rfl,rfl,rfl,rfl,rfl,rfl,by simp [Value.cells,Value.oneCell']⟩,⟨_,Tryz.underlying108,⟨_,_,_,rfl⟩⟩,fun fs h=>?_,fun ks h=>?_,fun q h=>?_⟩
 ·cases h
 ·cases h
 ·cases h
def La:TI:={ cells:=2,bytes:=32,td:=.struct [(0,1,44),(1,1,108)],zero:=[.nil,.v (.nilFunc)],eqk:=none }
theorem tf110:TyFact Tryz.prog 110 La:=by
 refine ⟨⟨Tryz.t110,.agg #[.slice none 0 0,.nilFunc],by kernel_rfl,rfl,rfl,rfl,rfl,rfl,by simp [Value.cells,Value.oneCell']⟩,⟨_,Tryz.underlying110,⟨_,rfl,rfl⟩⟩,fun fs h=>?_,fun ks h=>?_,fun q h=>?_⟩
 ·cases h
  simp only [List.mem_cons,List.not_mem_nil,or_false,forall_eq_or_imp,forall_eq]
  exact ⟨⟨Tryz.t44,by kernel_rfl,rfl⟩,⟨Tryz.t108,by kernel_rfl,rfl⟩⟩
 ·cases h
 ·cases h
def Qdx:TI:={ cells:=1,bytes:=8,td:=.func,zero:=[.v (.nilFunc)],eqk:=none }
theorem tf120:TyFact Tryz.prog 120 Qdx:=by
 refine ⟨⟨Tryz.t120,.nilFunc,by kernel_rfl,rfl,rfl,rfl,rfl,rfl,by simp [Value.cells,Value.oneCell']⟩,⟨_,Tryz.underlying120,⟨_,_,_,rfl⟩⟩,fun fs h=>?_,fun ks h=>?_,fun q h=>?_⟩
 ·cases h
 ·cases h
 ·cases h
def Qah:TI:={ cells:=1,bytes:=24,td:=.slice 26,zero:=[.nil],eqk:=none }
theorem tf121:TyFact Tryz.prog 121 Qah:=by
 refine ⟨⟨Tryz.t121,.slice none 0 0,by kernel_rfl,rfl,rfl,rfl,rfl,rfl,by simp [Value.cells,Value.oneCell']⟩,⟨_,Tryz.underlying121,rfl⟩,fun fs h=>?_,fun ks h=>?_,fun q h=>?_⟩
 ·cases h
 ·cases h
 ·cases h
theorem Qj5 (d:Nat) (w:World) (a0 b0:Int) (a1 b1:Int) (a2 b2:Int):(Op.equalIn (d+3) 129 (.agg #[.int .i64 a0,.int .i64 a1,.int .i64 a2]) (.agg #[.int .i64 b0,.int .i64 b1,.int .i64 b2])).run Tryz.prog w=.ok (kS [.int .i64 a0,.int .i64 a1,.int .i64 a2] [.int .i64 b0,.int .i64 b1,.int .i64 b2]) w:=by
 have h1:Tryz.prog.underlying 129=some (.struct (Tryz.prog.fieldsOf 129)):=by kernel_rfl
 have h2 : (Tryz.prog.fieldsOf 129).toList = [{ name := "at", type := 3, offset := 0, embedded := false, tag := "", pkgPath := "couchette/berth", byteOffset := 0 }, { name := "bunk", type := 62, offset := 1, embedded := false, tag := "", pkgPath := "couchette/berth", byteOffset := 8 }] := by kernel_rfl
 rw [run_equalIn_agg w (d+2) 129 _ _ h1 (by kernel_rfl),h2]
 refine Eq.trans (b:=Result.ok (a0 == b0 && (kS [.int .i64 a1,.int .i64 a2] [.int .i64 b1,.int .i64 b2] && true)) w) ?_ (congrArg (fun r=>Result.ok r w) (by simp [kS,veq,Bool.and_assoc]))
 exact vo (by simp) (zK (Tryz.isAgg3) rfl) (zK (Tryz.isAgg3) rfl) (run_equalIn_int w (d+1) 3 _ _ _ _ Tryz.underlying3) (vo (by simp) (Q5 (Tryz.isAgg62) (Tryz.sizeOf62) rfl) (Q5 (Tryz.isAgg62) (Tryz.sizeOf62) rfl) (QcI (d+0) w a1 b1 a2 b2) (kF))
theorem QjV (w:World) (em:Bool) (a0:Int) (a1:Int) (a2:Int):(Instr.checkKey em 10000 129 (.agg #[.int .i64 a0,.int .i64 a1,.int .i64 a2])).run Tryz.prog w=.ok () w:=by kernel_rfl
def Qat:TI:={ cells:=1,bytes:=8,td:=.map 129 3,zero:=[.v (.map none)],eqk:=none,key:=some { kd:=.agg [some .i64,some .i64,some .i64],z:=.v (.int .i64 0),agg:=false } }
theorem tf127:TyFact Tryz.prog 127 Qat:=by
 refine ⟨⟨Tryz.t127,.map none,by kernel_rfl,rfl,rfl,rfl,rfl,rfl,by simp [Value.cells,Value.oneCell']⟩,⟨_,Tryz.underlying127,rfl⟩,fun fs h=>?_,fun ks h=>?_,fun q h=>?_⟩
 ·cases h
 ·cases h
 ·cases h
  refine ⟨129,3,rfl,LC Tryz.underlying129 (fun w xs ys hx hy=>?_) (fun w em xs hx=>?_),fun w=>⟨.int .i64 0,by simp [zeroValue,typeInfo,show Tryz.prog.info? 3=some Tryz.t3 by kernel_rfl,Tryz.t3],fun w' ok ρ y=>?_⟩⟩
  ·skip
   cases xs with
   |nil=>simp [qJ] at hx
   |cons x0 xs1 =>
   cases xs1 with
   |nil=>simp [qJ] at hx
   |cons x1 xs2 =>
   cases xs2 with
   |nil=>simp [qJ] at hx
   |cons x2 xs3 =>
   cases xs3 with
   |cons _ _=>simp [qJ] at hx
   |nil =>
   cases ys with
   |nil=>simp [qJ] at hy
   |cons y0 ys1 =>
   cases ys1 with
   |nil=>simp [qJ] at hy
   |cons y1 ys2 =>
   cases ys2 with
   |nil=>simp [qJ] at hy
   |cons y2 ys3 =>
   cases ys3 with
   |cons _ _=>simp [qJ] at hy
   |nil =>
   simp only [qJ] at hx
   obtain ⟨⟨nx0,rfl⟩,⟨nx1,rfl⟩,⟨nx2,rfl⟩,_⟩:=hx
   simp only [qJ] at hy
   obtain ⟨⟨ny0,rfl⟩,⟨ny1,rfl⟩,⟨ny2,rfl⟩,_⟩:=hy
   exact Qj5 9997 w nx0 ny0 nx1 ny1 nx2 ny2
  ·skip
   cases xs with
   |nil=>simp [qJ] at hx
   |cons x0 xs1 =>
   cases xs1 with
   |nil=>simp [qJ] at hx
   |cons x1 xs2 =>
   cases xs2 with
   |nil=>simp [qJ] at hx
   |cons x2 xs3 =>
   cases xs3 with
   |cons _ _=>simp [qJ] at hx
   |nil =>
   simp only [qJ] at hx
   obtain ⟨⟨nx0,rfl⟩,⟨nx1,rfl⟩,⟨nx2,rfl⟩,_⟩:=hx
   exact QjV w em nx0 nx1 nx2
  ·exact .v rfl
def QaS:TI:={ cells:=3,bytes:=24,td:=.struct [(0,1,3),(1,2,62)],zero:=[.v (.int .i64 0),.v (.int .i64 0),.v (.int .i64 0)],eqk:=none }
theorem tf129:TyFact Tryz.prog 129 QaS:=by
 refine ⟨⟨Tryz.t129,.agg #[.int .i64 0,.int .i64 0,.int .i64 0],by kernel_rfl,rfl,rfl,rfl,rfl,rfl,by simp [Value.cells,Value.oneCell']⟩,⟨_,Tryz.underlying129,⟨_,rfl,rfl⟩⟩,fun fs h=>?_,fun ks h=>?_,fun q h=>?_⟩
 ·cases h
  simp only [List.mem_cons,List.not_mem_nil,or_false,forall_eq_or_imp,forall_eq]
  exact ⟨⟨Tryz.t3,by kernel_rfl,rfl⟩,⟨Tryz.t62,by kernel_rfl,rfl⟩⟩
 ·cases h
 ·cases h
def QjE:TI:={ cells:=1,bytes:=8,td:=.func,zero:=[.v (.nilFunc)],eqk:=none }
theorem tf142:TyFact Tryz.prog 142 QjE:=by
 refine ⟨⟨Tryz.t142,.nilFunc,by kernel_rfl,rfl,rfl,rfl,rfl,rfl,by simp [Value.cells,Value.oneCell']⟩,⟨_,Tryz.underlying142,⟨_,_,_,rfl⟩⟩,fun fs h=>?_,fun ks h=>?_,fun q h=>?_⟩
 ·cases h
 ·cases h
 ·cases h
def Qjl:TI:={ cells:=1,bytes:=8,td:=.func,zero:=[.v (.nilFunc)],eqk:=none }
theorem tf149:TyFact Tryz.prog 149 Qjl:=by
 refine ⟨⟨Tryz.t149,.nilFunc,by kernel_rfl,rfl,rfl,rfl,rfl,rfl,by simp [Value.cells,Value.oneCell']⟩,⟨_,Tryz.underlying149,⟨_,_,_,rfl⟩⟩,fun fs h=>?_,fun ks h=>?_,fun q h=>?_⟩
 ·cases h
 ·cases h
 ·cases h
theorem Qkp (d:Nat) (w:World) (a0 b0:Int):(Op.equalIn (d+2) 153 (.agg #[.int .u64 a0]) (.agg #[.int .u64 b0])).run Tryz.prog w=.ok (kS [.int .u64 a0] [.int .u64 b0]) w:=by
 have h1:Tryz.prog.underlying 153=some (.struct (Tryz.prog.fieldsOf 153)):=by kernel_rfl
 have h2 : (Tryz.prog.fieldsOf 153).toList = [{ name := "set", type := 151, offset := 0, embedded := false, tag := "", pkgPath := "couchette/berth", byteOffset := 0 }] := by kernel_rfl
 rw [run_equalIn_agg w (d+1) 153 _ _ h1 (by kernel_rfl),h2]
 refine Eq.trans (b:=Result.ok (a0 == b0 && true) w) ?_ (congrArg (fun r=>Result.ok r w) (by simp [kS,veq,Bool.and_assoc]))
 exact vo (by simp) (zK (Tryz.isAgg151) rfl) (zK (Tryz.isAgg151) rfl) (run_equalIn_int w (d+0) 151 _ _ _ _ Tryz.underlying151) (kF)
theorem QkI (w:World) (em:Bool) (a0:Int):(Instr.checkKey em 10000 153 (.agg #[.int .u64 a0])).run Tryz.prog w=.ok () w:=by kernel_rfl
def Qjt:TI:={ cells:=1,bytes:=8,td:=.map 153 4,zero:=[.v (.map none)],eqk:=none,key:=some { kd:=.agg [some .u64],z:=.v (.bool false),agg:=false } }
theorem tf150:TyFact Tryz.prog 150 Qjt:=by
 refine ⟨⟨Tryz.t150,.map none,by kernel_rfl,rfl,rfl,rfl,rfl,rfl,by simp [Value.cells,Value.oneCell']⟩,⟨_,Tryz.underlying150,rfl⟩,fun fs h=>?_,fun ks h=>?_,fun q h=>?_⟩
 ·cases h
 ·cases h
 ·cases h
  refine ⟨153,4,rfl,LC Tryz.underlying153 (fun w xs ys hx hy=>?_) (fun w em xs hx=>?_),fun w=>⟨.bool false,by simp [zeroValue,typeInfo,show Tryz.prog.info? 4=some Tryz.t4 by kernel_rfl,Tryz.t4],fun w' ok ρ y=>?_⟩⟩
  ·skip
   cases xs with
   |nil=>simp [qJ] at hx
   |cons x0 xs1 =>
   cases xs1 with
   |cons _ _=>simp [qJ] at hx
   |nil =>
   cases ys with
   |nil=>simp [qJ] at hy
   |cons y0 ys1 =>
   cases ys1 with
   |cons _ _=>simp [qJ] at hy
   |nil =>
   simp only [qJ] at hx
   obtain ⟨⟨nx0,rfl⟩,_⟩:=hx
   simp only [qJ] at hy
   obtain ⟨⟨ny0,rfl⟩,_⟩:=hy
   exact Qkp 9998 w nx0 ny0
  ·skip
   cases xs with
   |nil=>simp [qJ] at hx
   |cons x0 xs1 =>
   cases xs1 with
   |cons _ _=>simp [qJ] at hx
   |nil =>
   simp only [qJ] at hx
   obtain ⟨⟨nx0,rfl⟩,_⟩:=hx
   exact QkI w em nx0
  ·exact .v rfl
def KJ:TI:={ cells:=1,bytes:=8,td:=.int .u64,zero:=[.v (.int .u64 0)],eqk:=none }
theorem tf151:TyFact Tryz.prog 151 KJ:=by
 refine ⟨⟨Tryz.t151,.int .u64 0,by kernel_rfl,rfl,rfl,rfl,rfl,rfl,by simp [Value.cells,Value.oneCell']⟩,⟨_,Tryz.underlying151,rfl⟩,fun fs h=>?_,fun ks h=>?_,fun q h=>?_⟩
 ·cases h
 ·cases h
 ·cases h
def Qjj:TI:={ cells:=1,bytes:=8,td:=.struct [(0,1,151)],zero:=[.v (.int .u64 0)],eqk:=none }
theorem tf153:TyFact Tryz.prog 153 Qjj:=by
 refine ⟨⟨Tryz.t153,.agg #[.int .u64 0],by kernel_rfl,rfl,rfl,rfl,rfl,rfl,by simp [Value.cells,Value.oneCell']⟩,⟨_,Tryz.underlying153,⟨_,rfl,rfl⟩⟩,fun fs h=>?_,fun ks h=>?_,fun q h=>?_⟩
 ·cases h
  simp only [List.mem_cons,List.not_mem_nil,or_false,forall_eq_or_imp,forall_eq]
  exact ⟨Tryz.t151,by kernel_rfl,rfl⟩
 ·cases h
 ·cases h
def L9:TI:={ cells:=1,bytes:=8,td:=.func,zero:=[.v (.nilFunc)],eqk:=none }
theorem tf161:TyFact Tryz.prog 161 L9:=by
 refine ⟨⟨Tryz.t161,.nilFunc,by kernel_rfl,rfl,rfl,rfl,rfl,rfl,by simp [Value.cells,Value.oneCell']⟩,⟨_,Tryz.underlying161,⟨_,_,_,rfl⟩⟩,fun fs h=>?_,fun ks h=>?_,fun q h=>?_⟩
 ·cases h
 ·cases h
 ·cases h
def Qjx:TI:={ cells:=1,bytes:=8,td:=.func,zero:=[.v (.nilFunc)],eqk:=none }
theorem tf164:TyFact Tryz.prog 164 Qjx:=by
 refine ⟨⟨Tryz.t164,.nilFunc,by kernel_rfl,rfl,rfl,rfl,rfl,rfl,by simp [Value.cells,Value.oneCell']⟩,⟨_,Tryz.underlying164,⟨_,_,_,rfl⟩⟩,fun fs h=>?_,fun ks h=>?_,fun q h=>?_⟩
 ·cases h
 ·cases h
 ·cases h
def QaA:TI:={ cells:=3,bytes:=24,td:=.array 3 151,zero:=[.v (.int .u64 0),.v (.int .u64 0),.v (.int .u64 0)],eqk:=none }
theorem tf166:TyFact Tryz.prog 166 QaA:=by
 refine ⟨⟨Tryz.t166,.agg #[.int .u64 0,.int .u64 0,.int .u64 0],by kernel_rfl,rfl,rfl,rfl,rfl,rfl,by simp [Value.cells,Value.oneCell']⟩,⟨_,Tryz.underlying166,rfl⟩,fun fs h=>?_,fun ks h=>?_,fun q h=>?_⟩
 ·cases h
 ·cases h
 ·cases h
def Qc6:TI:={ cells:=1,bytes:=8,td:=.map 3 3,zero:=[.v (.map none)],eqk:=none,key:=some { kd:=.one (.int .i64),z:=.v (.int .i64 0),agg:=false } }
theorem tf169:TyFact Tryz.prog 169 Qc6:=by
 refine ⟨⟨Tryz.t169,.map none,by kernel_rfl,rfl,rfl,rfl,rfl,rfl,by simp [Value.cells,Value.oneCell']⟩,⟨_,Tryz.underlying169,rfl⟩,fun fs h=>?_,fun ks h=>?_,fun q h=>?_⟩
 ·cases h
 ·cases h
 ·cases h
  refine ⟨3,3,rfl,Qcu Tryz.underlying3,fun w=>⟨.int .i64 0,by simp [zeroValue,typeInfo,show Tryz.prog.info? 3=some Tryz.t3 by kernel_rfl,Tryz.t3],fun w' ok ρ y=>?_⟩⟩
  exact .v rfl
def Qar:TI:={ cells:=1,bytes:=8,td:=.func,zero:=[.v (.nilFunc)],eqk:=none }
theorem tf170:TyFact Tryz.prog 170 Qar:=by
 refine ⟨⟨Tryz.t170,.nilFunc,by kernel_rfl,rfl,rfl,rfl,rfl,rfl,by simp [Value.cells,Value.oneCell']⟩,⟨_,Tryz.underlying170,⟨_,_,_,rfl⟩⟩,fun fs h=>?_,fun ks h=>?_,fun q h=>?_⟩
 ·cases h
 ·cases h
 ·cases h
def tyL:List (Nat × TI):=[(3,ti3),(4,ti4),(22,ZT),(23,xD),(25,jM),(26,x8),(28,Qb),(30,ti30),(31,ti31),(34,ti34),(37,ti37),(40,Kt),(41,QA),(44,ZO),(51,VL),(62,vZ),(64,yA),(72,ti72),(83,VQ),(84,Qfd),(86,QhG),(89,Z4),(93,JZ),(98,ti98),(104,Qdt),(107,ZQ),(108,Qc2),(110,La),(120,Qdx),(121,Qah),(127,Qat),(129,QaS),(142,QjE),(149,Qjl),(150,Qjt),(151,KJ),(153,Qjj),(161,L9),(164,Qjx),(166,QaA),(169,Qc6),(170,Qar)]
def tyOf:List (Nat × TI)→Tys
 |[],_=>none
 |p :: r,t=>if t=p.1 then some p.2 else tyOf r t
def tyB:Tys:=tyOf tyL
theorem ty3:tyB 3=some ti3:=rfl
theorem ty4:tyB 4=some ti4:=rfl
theorem W9:tyB 22=some ZT:=rfl
theorem x9:tyB 23=some xD:=rfl
theorem yc:tyB 25=some jM:=rfl
theorem Qe:tyB 26=some x8:=rfl
theorem QM:tyB 28=some Qb:=rfl
theorem ty34:tyB 34=some ti34:=rfl
theorem ty37:tyB 37=some ti37:=rfl
theorem QbK:tyB 40=some Kt:=rfl
theorem Zc:tyB 41=some QA:=rfl
theorem WQ:tyB 44=some ZO:=rfl
theorem UZ:tyB 51=some VL:=rfl
theorem xJ:tyB 62=some vZ:=rfl
theorem yU:tyB 64=some yA:=rfl
theorem Uc:tyB 83=some VQ:=rfl
theorem ty84:tyB 84=some Qfd:=rfl
theorem ty86:tyB 86=some QhG:=rfl
theorem Jz:tyB 89=some Z4:=rfl
theorem YW:tyB 93=some JZ:=rfl
theorem ty104:tyB 104=some Qdt:=rfl
theorem J2:tyB 107=some ZQ:=rfl
theorem ty108:tyB 108=some Qc2:=rfl
theorem Qje:tyB 110=some La:=rfl
theorem ty120:tyB 120=some Qdx:=rfl
theorem QjC:tyB 121=some Qah:=rfl
theorem Qjw:tyB 127=some Qat:=rfl
theorem Qjg:tyB 129=some QaS:=rfl
theorem Qf0:tyB 151=some KJ:=rfl
theorem Qjo:tyB 161=some L9:=rfl
theorem QjA:tyB 166=some QaA:=rfl
theorem ty169:tyB 169=some Qc6:=rfl
theorem Qju:tyB 170=some Qar:=rfl
theorem Qav:∀ {L:List (Nat × TI)} {t:Nat} {i:TI},tyOf L t=some i→(t,i) ∈ L
 |p :: r,t,i,h=>by
  simp only [tyOf] at h
  split at h
  ·rename_i ht;cases h;rw [ht];exact List.mem_cons_self
  ·exact List.mem_cons_of_mem _ (Qav h)
theorem X4:yg Tryz.prog tyB:=fun t i h=>by
 have h:=Qav h
 simp only [tyL,List.mem_cons,List.not_mem_nil,or_false,Prod.mk.injEq] at h
 rcases h with ⟨rfl,rfl⟩|⟨rfl,rfl⟩|⟨rfl,rfl⟩|⟨rfl,rfl⟩|⟨rfl,rfl⟩|⟨rfl,rfl⟩|⟨rfl,rfl⟩|⟨rfl,rfl⟩|⟨rfl,rfl⟩|⟨rfl,rfl⟩|⟨rfl,rfl⟩|⟨rfl,rfl⟩|⟨rfl,rfl⟩|⟨rfl,rfl⟩|⟨rfl,rfl⟩|⟨rfl,rfl⟩|⟨rfl,rfl⟩|⟨rfl,rfl⟩|⟨rfl,rfl⟩|⟨rfl,rfl⟩|⟨rfl,rfl⟩|⟨rfl,rfl⟩|⟨rfl,rfl⟩|⟨rfl,rfl⟩|⟨rfl,rfl⟩|⟨rfl,rfl⟩|⟨rfl,rfl⟩|⟨rfl,rfl⟩|⟨rfl,rfl⟩|⟨rfl,rfl⟩|⟨rfl,rfl⟩|⟨rfl,rfl⟩|⟨rfl,rfl⟩|⟨rfl,rfl⟩|⟨rfl,rfl⟩|⟨rfl,rfl⟩|⟨rfl,rfl⟩|⟨rfl,rfl⟩|⟨rfl,rfl⟩|⟨rfl,rfl⟩|⟨rfl,rfl⟩|⟨rfl,rfl⟩
 ·exact tf3
 ·exact tf4
 ·exact tf22
 ·exact tf23
 ·exact tf25
 ·exact tf26
 ·exact tf28
 ·exact tf30
 ·exact tf31
 ·exact tf34
 ·exact tf37
 ·exact tf40
 ·exact tf41
 ·exact tf44
 ·exact tf51
 ·exact tf62
 ·exact tf64
 ·exact tf72
 ·exact tf83
 ·exact tf84
 ·exact tf86
 ·exact tf89
 ·exact tf93
 ·exact tf98
 ·exact tf104
 ·exact tf107
 ·exact tf108
 ·exact tf110
 ·exact tf120
 ·exact tf121
 ·exact tf127
 ·exact tf129
 ·exact tf142
 ·exact tf149
 ·exact tf150
 ·exact tf151
 ·exact tf153
 ·exact tf161
 ·exact tf164
 ·exact tf166
 ·exact tf169
 ·exact tf170
end Go.Sym.B
namespace Go.Sym.C
def Bd (B:Nat) (q:Rat):Prop:=q.den ∣ 27720∧q.num≤B * q.den∧-(B * q.den:Int)≤q.num
theorem Bd.mono {B C:Nat} {q:Rat} (h:Bd B q) (hB:B≤C):Bd C q:=by
 obtain ⟨h1,h2,h3⟩:=h
 have h4:(B:Int) * q.den≤C * q.den:=by exact_mod_cast Nat.mul_le_mul_right _ hB
 exact ⟨h1,by omega,by omega⟩
end Go.Sym.C
namespace Go.Sym.B
open Go Go.Sym Go.Proofs Go.Sym.C
structure Bunk where
 cab:Int
 bed:Int
deriving DecidableEq,Inhabited
structure Cabin where
 beds:Int
 door:Bool
deriving DecidableEq,Inhabited
structure Tk where
 party:Int
 sex:Int
 cab:Int
 bed:Int
 frm:Int
 to:Int
 dog:Bool
deriving DecidableEq,Inhabited
structure Tr where
 ticket:Int
 cab:Int
 bed:Int
deriving DecidableEq,Inhabited
structure Chart where
 cabins:List Cabin
 secs:Int
 sold:List Tk
deriving DecidableEq,Inhabited
structure Ask where
 party:Int
 frm:Int
 to:Int
 sexes:List Int
 dog:Bool
deriving DecidableEq,Inhabited
def Tk.bunk (t:Tk):Bunk:=⟨t.cab,t.bed⟩
def dI:DV→Int
 |.v (.int _ n)=>n
 |_=>0
def dB:DV→Bool
 |.v (.bool b)=>b
 |_=>false
def dL:DV→List (List DV)
 |.sl xs=>xs
 |_=>[]
def zF (n:Int):List DV:=[.v (.int .i64 n)]
def qo (b:Bunk):List DV:=[.v (.int .i64 b.cab),.v (.int .i64 b.bed)]
def qh (c:Cabin):List DV:=[.v (.int .i64 c.beds),.v (.bool c.door)]
def eTk (t:Tk):List DV:=[.v (.int .i64 t.party),.v (.int .i64 t.sex),.v (.int .i64 t.cab),.v (.int .i64 t.bed),.v (.int .i64 t.frm),.v (.int .i64 t.to),.v (.bool t.dog)]
def eTr (t:Tr):List DV:=[.v (.int .i64 t.ticket),.v (.int .i64 t.cab),.v (.int .i64 t.bed)]
def Wj (a:Ask):List DV:=[.v (.int .i64 a.party),.v (.int .i64 a.frm),.v (.int .i64 a.to),.sl (a.sexes.map zF),.v (.bool a.dog)]
def vB (c:Chart):List DV:=[.sl (c.cabins.map qh),.v (.int .i64 c.secs),.sl (c.sold.map eTk)]
def ZU (l:List Int):List DV:=[.sl (l.map zF)]
def qA (l:List Bunk):List DV:=[.sl (l.map qo)]
def zb (r:List DV):Int:=dI (r.headD (.sl []))
def zz:List DV→Bunk
 |[a,b]=>⟨dI a,dI b⟩
 |_=>default
def qw:List DV→Cabin
 |[a,b]=>⟨dI a,dB b⟩
 |_=>default
def dTk:List DV→Tk
 |[a,b,c,d,e,f,g]=>⟨dI a,dI b,dI c,dI d,dI e,dI f,dB g⟩
 |_=>default
def dTr:List DV→Tr
 |[a,b,c]=>⟨dI a,dI b,dI c⟩
 |_=>default
def Qjv:List DV→List Int
 |[a]=>(dL a).map zb
 |_=>[]
def Jn:List DV→List Bunk
 |[a]=>(dL a).map zz
 |_=>[]
theorem Qj7 (n:Int):zb (zF n)=n:=rfl
theorem QhO (b:Bunk):zz (qo b)=b:=rfl
theorem Qg2 (b:Cabin):qw (qh b)=b:=rfl
theorem Qji (b:Tk):dTk (eTk b)=b:=rfl
theorem dTr_e (b:Tr):dTr (eTr b)=b:=rfl
theorem QT (l:List Int):(l.map zF).map zb=l:=by simp [Function.comp_def,Qj7]
theorem qM (l:List Bunk):(l.map qo).map zz=l:=by simp [Function.comp_def,QhO]
theorem qd (l:List Cabin):(l.map qh).map qw=l:=by simp [Function.comp_def,Qg2]
theorem mTk (l:List Tk):(l.map eTk).map dTk=l:=by simp [Function.comp_def,Qji]
theorem mTr (l:List Tr):(l.map eTr).map dTr=l:=by simp [Function.comp_def,dTr_e]
theorem QhH (l:List Int):Qjv (ZU l)=l:=QT l
theorem QgV (l:List Bunk):Jn (qA l)=l:=qM l
theorem Qjq (l:List (List Int)):(l.map ZU).map Qjv=l:=by simp [Function.comp_def,QhH]
theorem wK (l:List (List Bunk)):(l.map qA).map Jn=l:=by simp [Function.comp_def,QgV]
theorem XE (l:List (Int)) (n:Nat):(l.map zF).getD n [.v (.int .i64 0)]=zF (l.getD n 0):=Qj zF l n 0
theorem hInt {l:List (Int)} {n:Nat} (h:n < l.length):(l.map zF).getD n []=zF (l.getD n 0):=by simp [List.getD_eq_getElem?_getD,h]
theorem Kv (l:List (Int)):zJ 1 (l.map zF)=True:=yQ (f:=zF) (k:=1) (fun _=>rfl) l
theorem qD (l:List (Bunk)) (n:Nat):(l.map qo).getD n [.v (.int .i64 0),.v (.int .i64 0)]=qo (l.getD n default):=Qj qo l n default
theorem hBunk {l:List (Bunk)} {n:Nat} (h:n < l.length):(l.map qo).getD n []=qo (l.getD n default):=by simp [List.getD_eq_getElem?_getD,h]
theorem qO (l:List (Bunk)):zJ 2 (l.map qo)=True:=yQ (f:=qo) (k:=2) (fun _=>rfl) l
theorem qC (l:List (Cabin)) (n:Nat):(l.map qh).getD n [.v (.int .i64 0),.v (.bool false)]=qh (l.getD n default):=Qj qh l n default
theorem Qj2 {l:List (Cabin)} {n:Nat} (h:n < l.length):(l.map qh).getD n []=qh (l.getD n default):=by simp [List.getD_eq_getElem?_getD,h]
theorem zf (l:List (Cabin)):zJ 2 (l.map qh)=True:=yQ (f:=qh) (k:=2) (fun _=>rfl) l
theorem gTk (l:List (Tk)) (n:Nat):(l.map eTk).getD n [.v (.int .i64 0),.v (.int .i64 0),.v (.int .i64 0),.v (.int .i64 0),.v (.int .i64 0),.v (.int .i64 0),.v (.bool false)]=eTk (l.getD n default):=Qj eTk l n default
theorem hTk {l:List (Tk)} {n:Nat} (h:n < l.length):(l.map eTk).getD n []=eTk (l.getD n default):=by simp [List.getD_eq_getElem?_getD,h]
theorem rTk (l:List (Tk)):zJ 7 (l.map eTk)=True:=yQ (f:=eTk) (k:=7) (fun _=>rfl) l
theorem gTr (l:List (Tr)) (n:Nat):(l.map eTr).getD n [.v (.int .i64 0),.v (.int .i64 0),.v (.int .i64 0)]=eTr (l.getD n default):=Qj eTr l n default
theorem rTr (l:List (Tr)):zJ 3 (l.map eTr)=True:=yQ (f:=eTr) (k:=3) (fun _=>rfl) l
theorem Qjc (l:List (List Int)) (n:Nat):(l.map ZU).getD n [.sl []]=ZU (l.getD n []):=Qj ZU l n []
theorem Qjb {l:List (List Int)} {n:Nat} (h:n < l.length):(l.map ZU).getD n []=ZU (l.getD n []):=by simp [List.getD_eq_getElem?_getD,h]
theorem Qjn (l:List (List Int)):zJ 1 (l.map ZU)=True:=yQ (f:=ZU) (k:=1) (fun _=>rfl) l
theorem qH (l:List (List Bunk)) (n:Nat):(l.map qA).getD n [.sl []]=qA (l.getD n []):=Qj qA l n []
theorem V7 {l:List (List Bunk)} {n:Nat} (h:n < l.length):(l.map qA).getD n []=qA (l.getD n []):=by simp [List.getD_eq_getElem?_getD,h]
theorem qG (l:List (List Bunk)):zJ 1 (l.map qA)=True:=yQ (f:=qA) (k:=1) (fun _=>rfl) l
theorem hAsk {l:List (Ask)} {n:Nat} (h:n < l.length):(l.map Wj).getD n []=Wj (l.getD n default):=by simp [List.getD_eq_getElem?_getD,h]
theorem YF (l:List (Ask)):zJ 5 (l.map Wj)=True:=yQ (f:=Wj) (k:=5) (fun _=>rfl) l
theorem Qkl {l:List (Chart)} {n:Nat} (h:n < l.length):(l.map vB).getD n []=vB (l.getD n default):=by simp [List.getD_eq_getElem?_getD,h]
theorem kW (l:List (Chart)):zJ 3 (l.map vB)=True:=yQ (f:=vB) (k:=3) (fun _=>rfl) l
def aI (n:Int):AV:=.v (.int .i64 n)
def aB (b:Bool):AV:=.v (.bool b)
def qf (b:Bunk):AV:=.agg [.v (.int .i64 b.cab),.v (.int .i64 b.bed)]
def cTk (t:Tk):List AV:=[.v (.int .i64 t.party),.v (.int .i64 t.sex),.v (.int .i64 t.cab),.v (.int .i64 t.bed),.v (.int .i64 t.frm),.v (.int .i64 t.to),.v (.bool t.dog)]
def aTk (t:Tk):AV:=.agg (cTk t)
def qg (a:Ask):List AV:=[.v (.int .i64 a.party),.v (.int .i64 a.frm),.v (.int .i64 a.to),.sl (a.sexes.map zF),.v (.bool a.dog)]
def qx (a:Ask):AV:=.agg (qg a)
def qb (c:Chart):List AV:=[.sl (c.cabins.map qh),.v (.int .i64 c.secs),.sl (c.sold.map eTk)]
def qa (c:Chart):AV:=.agg (qb c)
def qz (l:List Int):AV:=.sl (l.map zF)
def qc (l:List Bunk):AV:=.sl (l.map qo)
def zI (l:List (List Bunk)):AV:=.sl (l.map qA)
def WF (l:List (List Int)):AV:=.sl (l.map ZU)
def ql (l:List Tk):AV:=.sl (l.map eTk)
def qY (l:List Cabin):AV:=.sl (l.map qh)
def qI (l:List Tr):AV:=.sl (l.map eTr)
theorem Fn0 {fn:Func} {c:Code} {f:FuncId} (hf:Tryz.prog.funcs[f]?=some fn) (hb:fn.body=some c) (he:∀ vs w,(callFunc f vs).run Tryz.prog w=.ok (.enter f vs) w) (hd:kT fn.ntmps c=true):FnData Tryz.prog tyB f fn c:=⟨X4,hf,hb,he,hd⟩
theorem qL {L:List (FuncId × Entry)} {A:Frm→Prop} (h:QcM A Tryz.prog L):Env A Tryz.prog tyB (tab L):=⟨X4,Qg7 h,by kernel_rfl⟩
theorem z0 {a b:Int} (h:-9223372036854775808≤a+b∧a+b < 9223372036854775808):IntKind.wrap .i64 (a+b)=a+b:=wrap64 h.1 h.2
def zR (x:Int):List (Nat × AObj):=[(0,.cells [.v (.int .u64 x)])]
def xsh (s:Int) (k:Nat):Int:=IntKind.u64.wrap (BitVec.ofInt IntKind.u64.bits s ^^^ BitVec.ofInt IntKind.u64.bits (s.fdiv (2 ^ min k IntKind.u64.bits))).toNat
def nxS (x:Int):Int:=IntKind.u64.wrap (IntKind.u64.wrap (x * 2862933555777941757)+3037000493)
def nxV (x:Int):Int:=xsh (IntKind.u64.wrap (xsh (nxS x) 31 * 10723151780598845931)) 30
def Vi:=kk @ty84 (kk @ty86 (kk @Qfd.eq_1 @QhG.eq_1))
def Qb6:=kk @aI.eq_1 (@aB.eq_1)
theorem QiJ (x:Int):Fn noB Tryz.prog 86 [.ptr 0 0] (qj (zR x)) (.v (.int .u64 (nxV x))) (qj (zR (nxS x))) 0:=by
 have env:Env (fun _=>True) Tryz.prog tyB (tab []):=qL trivial
 refine Fn.of (A:=fun _=>True) (n0:=1) (D:=noD) (Fn0 Tryz.func86 rfl (fun vs w=>by kernel_rfl) (by kernel_rfl)) (by simp) (by simp [AV.ids]) ?_ (fun _ _ _ _=>trivial) qF ?_
 ·intro i o hi
  have h:=qR hi
  simp [zR] at h
  rcases h with ⟨rfl,rfl⟩;simp [AObj.ids,AV.ids,AV.idsL]
 repeat' (first|(apply nx;with_reducible constructor)|refine jq (by decide) ?_|((first|refine kz env fun Q hQ=>?_|refine kj fun Q hQ=>?_);simp only [vkt,seval,Vi,Qb6,zR];(try simp only [ite_and]);(repeat' (first|with_reducible assumption|refine And.intro ?_ ?_|intro hp));all_goals (first|(refine hQ _ ?_;clear hQ Q)|(refine hQ _ (fun h=>?_) (fun h=>?_) <;> clear hQ Q <;> (try simp only [vki,reduceCtorEq] at h))|(refine kx ?_;kernel_rfl)|omega|assumption|with_reducible rfl|skip)))
 (simp only [vrt,Tryz.results86,vkt,seval,Vi,Qb6,zR];refine Fin.ok some [] ?_ ?_ ?_ ?_ ?_ rfl;all_goals (try simp only [vle,vkt,seval,Vi,Qb6,zR]))
 all_goals rfl
def YE (S:St):List AV→Option Pk
 |[.ptr i 0]=>match S.h i with
  |some (.cells [.v (.int .u64 x)])=>some { hs:=[i],ar:=[.ptr 0 0],L0:=[.cells [.v (.int .u64 x)]],v:=.v (.int .u64 (nxV x)),L1:=[some (.cells [.v (.int .u64 (nxS x))])] }
  |_=>none
 |_=>none
theorem eNext {A:Frm→Prop}:qE A Tryz.prog 86 (fnE YE):=zY fun S bs q h hp=>by
 unfold YE at h
 split at h
 ·split at h
  ·cases h;exact QiJ _
  ·cases h
 ·cases h
def Qee (x m:Int):Int:=if m < 1 then 0 else IntKind.i64.wrap (((nxV x).fdiv (2 ^ min 13 IntKind.u64.bits)).tmod (IntKind.u64.wrap (IntKind.i64.wrap (m+1))))
def QgP (x m:Int):Int:=if m < 1 then x else nxS x
theorem Qc8:∃ f:Int→Int→Int × Int,∀ x m,f x m=(Qee x m,QgP x m):=⟨fun x m=>(Qee x m,QgP x m),fun _ _=>rfl⟩
noncomputable def upV (x m:Int):Int:=(Classical.choose Qc8 x m).1
noncomputable def upS (x m:Int):Int:=(Classical.choose Qc8 x m).2
theorem QgG (x m:Int):upV x m=Qee x m:=by unfold upV;rw [Classical.choose_spec Qc8]
theorem QjK (x m:Int):upS x m=QgP x m:=by unfold upS;rw [Classical.choose_spec Qc8]
theorem Qge {n:Int} (h0:0≤n) (h1:n < 18446744073709551616):IntKind.u64.wrap n=n:=by
 unfold IntKind.wrap
 simp only [IntKind.bits,IntKind.signed]
 simp
 omega
theorem Qhk (n:Int):0≤IntKind.u64.wrap n:=by
 unfold IntKind.wrap
 simp only [IntKind.bits,IntKind.signed]
 simp
 omega
theorem Qbj {x m:Int} (h:m < 9223372036854775807):0≤upV x m∧(upV x m≤m∨upV x m=0):=by
 rw [QgG]
 unfold Qee
 split
 ·exact ⟨Int.le_refl _,.inr rfl⟩
 ·have h1:IntKind.i64.wrap (m+1)=m+1:=wrap64 (by omega) (by omega)
  have h2:IntKind.u64.wrap (m+1)=m+1:=Qge (by omega) (by omega)
  rw [h1,h2]
  have h3:0≤(nxV x).fdiv (2 ^ min 13 IntKind.u64.bits):=Int.fdiv_nonneg (by unfold nxV xsh;exact Qhk _) (by decide)
  rw [Int.tmod_eq_emod_of_nonneg h3]
  have h4:=Int.emod_nonneg ((nxV x).fdiv (2 ^ min 13 IntKind.u64.bits)) (show m+1 ≠ 0 by omega)
  have h5:=Int.emod_lt_of_pos ((nxV x).fdiv (2 ^ min 13 IntKind.u64.bits)) (show 0 < m+1 by omega)
  rw [wrap64 (by omega) (by omega)]
  omega
def JI:=kk @ty3 (kk @ty84 (kk @ti3.eq_1 @Qfd.eq_1))
def Vd:=kk @aI.eq_1 (@aB.eq_1)
theorem up_fn (x m:Int) (h:m < 9223372036854775807):Fn noB Tryz.prog 31 [.ptr 0 0,aI m] (qj (zR x)) (aI (upV x m)) (qj (zR (upS x m))) 0:=by
 have env:Env (fun _=>True) Tryz.prog tyB (tab [(86,fnE YE)]):=qL ⟨eNext,trivial⟩
 refine Fn.of (A:=fun _=>True) (n0:=1) (D:=noD) (Fn0 Tryz.func31 rfl (fun vs w=>by kernel_rfl) (by kernel_rfl)) (by simp) (by simp [AV.ids,AV.idsL,aI]) ?_ (fun _ _ _ _=>trivial) qF ?_
 ·intro i o hi
  have h:=qR hi
  simp [zR] at h
  rcases h with ⟨rfl,rfl⟩;simp [AObj.ids,AV.ids,AV.idsL]
 rw [QgG,QjK]
 by_cases c1:m < 1
 ·rw [show Qee x m=0 from if_pos c1,show QgP x m=x from if_pos c1]
  repeat' (first|(apply nx;with_reducible constructor)|refine jq (by decide) ?_|((first|refine kz env fun Q hQ=>?_|refine kj fun Q hQ=>?_);simp only [vkt,seval,JI,Vd,zR,YE,c1];(try simp only [ite_and]);(repeat' (first|with_reducible assumption|refine And.intro ?_ ?_|intro hp));all_goals (first|(refine hQ _ ?_;clear hQ Q)|(refine hQ _ (fun h=>?_) (fun h=>?_) <;> clear hQ Q <;> (try simp only [vki,reduceCtorEq] at h))|(refine kx ?_;kernel_rfl)|omega|assumption|with_reducible rfl|skip)))
  (simp only [vrt,Tryz.results31,vkt,seval,JI,Vd,zR,YE];refine Fin.ok some [] ?_ ?_ ?_ ?_ ?_ rfl;all_goals (try simp only [vle,vkt,seval,JI,Vd,zR,YE]))
  all_goals simp
 ·rw [show Qee x m=_ from if_neg c1,show QgP x m=_ from if_neg c1]
  have h1:IntKind.i64.wrap (m+1)=m+1:=wrap64 (by omega) (by omega)
  have h2:IntKind.u64.wrap (m+1)=m+1:=Qge (by omega) (by omega)
  have h0:¬ m+1=0:=by omega
  repeat' (first|(apply nx;with_reducible constructor)|refine jq (by decide) ?_|((first|refine kz env fun Q hQ=>?_|refine kj fun Q hQ=>?_);simp only [vkt,seval,JI,Vd,zR,YE,c1,h1,h2,h0];(try simp only [ite_and]);(repeat' (first|with_reducible assumption|refine And.intro ?_ ?_|intro hp));all_goals (first|(refine hQ _ ?_;clear hQ Q)|(refine hQ _ (fun h=>?_) (fun h=>?_) <;> clear hQ Q <;> (try simp only [vki,reduceCtorEq] at h))|(refine kx ?_;kernel_rfl)|omega|assumption|with_reducible rfl|skip)))
  (simp only [vrt,Tryz.results31,vkt,seval,JI,Vd,zR,YE];refine Fin.ok some [] ?_ ?_ ?_ ?_ ?_ rfl;all_goals (try simp only [vle,vkt,seval,JI,Vd,zR,YE]))
  all_goals (first|rfl|rw [h1,h2])
noncomputable def pUp (S:St):List AV→Option Pk
 |[.ptr i 0,.v (.int .i64 m)]=>match S.h i with
  |some (.cells [.v (.int .u64 x)])=>some { pre:=m < 9223372036854775807,hs:=[i],ar:=[.ptr 0 0,.v (.int .i64 m)],L0:=[.cells [.v (.int .u64 x)]],v:=.v (.int .i64 (upV x m)),L1:=[some (.cells [.v (.int .u64 (upS x m))])] }
  |_=>none
 |_=>none
theorem eUp {A:Frm→Prop}:qE A Tryz.prog 31 (fnE pUp):=zY fun S bs q h hp=>by
 unfold pUp at h
 split at h
 ·split at h
  ·cases h;exact up_fn _ _ hp
  ·cases h
 ·cases h
def Ve:=kk @ty3 @ti3.eq_1
def Qa8:=kk @aI.eq_1 (@aB.eq_1)
theorem QiQ (x a b:Int) (h:-100000≤a∧a≤100000∧-100000≤b∧b≤100000):Fn noB Tryz.prog 13 [.ptr 0 0,aI a,aI b] (qj (zR x)) (aI (a+upV x (b - a))) (qj (zR (upS x (b - a)))) 0:=by
 have env:Env (fun _=>True) Tryz.prog tyB (tab [(31,fnE pUp)]):=qL ⟨eUp,trivial⟩
 refine Fn.of (A:=fun _=>True) (n0:=1) (D:=noD) (Fn0 Tryz.func13 rfl (fun vs w=>by kernel_rfl) (by kernel_rfl)) (by simp) (by simp [AV.ids,AV.idsL,aI]) ?_ (fun _ _ _ _=>trivial) qF ?_
 ·intro i o hi
  have h:=qR hi
  simp [zR] at h
  rcases h with ⟨rfl,rfl⟩;simp [AObj.ids,AV.ids,AV.idsL]
 have b1:=Qbj (x:=x) (m:=b - a) (by omega)
 have h1:IntKind.i64.wrap (b - a)=b - a:=wrap64 (by omega) (by omega)
 have h2:IntKind.i64.wrap (a+upV x (b - a))=a+upV x (b - a):=wrap64 (by omega) (by omega)
 have h3:b - a < 9223372036854775807:=by omega
 repeat' (first|(apply nx;with_reducible constructor)|refine jq (by decide) ?_|((first|refine kz env fun Q hQ=>?_|refine kj fun Q hQ=>?_);simp only [vkt,seval,Ve,Qa8,zR,pUp,h1,h2];(try simp only [ite_and]);(repeat' (first|with_reducible assumption|refine And.intro ?_ ?_|intro hp));all_goals (first|(refine hQ _ ?_;clear hQ Q)|(refine hQ _ (fun h=>?_) (fun h=>?_) <;> clear hQ Q <;> (try simp only [vki,reduceCtorEq] at h))|(refine kx ?_;kernel_rfl)|omega|assumption|with_reducible rfl|skip)))
 (simp only [vrt,Tryz.results13,vkt,seval,Ve,Qa8,zR,pUp];refine Fin.ok some [] ?_ ?_ ?_ ?_ ?_ rfl;all_goals (try simp only [vle,vkt,seval,Ve,Qa8,zR,pUp]))
 all_goals rfl
noncomputable def jA (S:St):List AV→Option Pk
 |[.ptr i 0,.v (.int .i64 a),.v (.int .i64 b)]=>match S.h i with
  |some (.cells [.v (.int .u64 x)])=>some { pre:=-100000≤a∧a≤100000∧-100000≤b∧b≤100000,hs:=[i],ar:=[.ptr 0 0,.v (.int .i64 a),.v (.int .i64 b)],L0:=[.cells [.v (.int .u64 x)]],v:=.v (.int .i64 (a+upV x (b - a))),L1:=[some (.cells [.v (.int .u64 (upS x (b - a)))])] }
  |_=>none
 |_=>none
theorem QjD {A:Frm→Prop}:qE A Tryz.prog 13 (fnE jA):=zY fun S bs q h hp=>by
 unfold jA at h
 split at h
 ·split at h
  ·cases h;exact QiQ _ _ _ hp
  ·cases h
 ·cases h
def nbK (l:List Int):Nat→Int
 |0=>11400714819323198485
 |k+1=>xsh (IntKind.u64.wrap (IntKind.u64.wrap (nbK l k+IntKind.u64.wrap (l.getD k 0)) * 13787848793156543929)) 29
def nbS (l:List Int):Int:=nbK l l.length
def nbI (l:List Int) (k:Nat):St:={ t:=asg [(0,qz l),(3,.ptr 0 0),(4,aI k)],h:=qj (zR (nbK l k)),n:=1 }
def kJ:=kk @ty3 (kk @Qe (kk @ty84 (kk @ty86 (kk @ti3.eq_1 (kk @x8.eq_1 (kk @Qfd.eq_1 @QhG.eq_1))))))
def Wl:=kk @aI.eq_1 (kk @aB.eq_1 (kk @nbI.eq_1 (kk @qz.eq_1 (kk @XE (@zF.eq_1)))))
theorem QjQ (l:List Int) (hl:l.length≤maxLen):Fn noB Tryz.prog 10 [qz l] noH (.ptr 0 0) (qj (zR (nbS l))) 0:=by
 have env:Env (fun _=>True) Tryz.prog tyB (tab []):=qL trivial
 refine Fn.of (A:=fun _=>True) (n0:=0) (D:=noD) (Fn0 Tryz.func10 rfl (fun vs w=>by kernel_rfl) (by kernel_rfl)) (by simp) (by simp [AV.ids,AV.idsL,qz]) (fun i o h=>by cases h) (fun _ _ _ _=>trivial) qF ?_
 repeat' (first|(apply nx;with_reducible constructor)|refine jq (by decide) ?_|((first|refine kz env fun Q hQ=>?_|refine kj fun Q hQ=>?_);simp only [vkt,seval,kJ,Wl,zR];(try simp only [ite_and]);(repeat' (first|with_reducible assumption|refine And.intro ?_ ?_|intro hp));all_goals (first|(refine hQ _ ?_;clear hQ Q)|(refine hQ _ (fun h=>?_) (fun h=>?_) <;> clear hQ Q <;> (try simp only [vki,reduceCtorEq] at h))|(refine kx ?_;kernel_rfl)|omega|assumption|with_reducible rfl|skip)))
 refine qN (fun k:{ k:Nat // k≤l.length }=>nbI l k.1) (fun k=>l.length - k.1) ⟨0,Nat.zero_le _⟩ ?_ fun ⟨k,hk⟩=>?_
 ·(refine Le.ok some [] ?_;constructor;all_goals (try simp only [vle,vkt,seval,kJ,Wl,zR]))
  all_goals first|rfl|simp
 ·repeat' (first|(apply nx;with_reducible constructor)|refine jq (by decide) ?_)
  (refine kz env fun Q hQ=>?_;simp only [vkt,seval,kJ,Wl,zR];(try simp only [ite_and]);(repeat' (first|with_reducible assumption|refine And.intro ?_ ?_|intro hp));all_goals (first|(refine hQ _ ?_;clear hQ Q)|(refine kx ?_;kernel_rfl)|omega|assumption|with_reducible rfl|skip))
  repeat' (first|(apply nx;with_reducible constructor)|refine jq (by decide) ?_)
  (refine yY (by simp only [vkt,seval,kJ,Wl,zR];rfl) (fun h=>?_) (fun h=>?_) <;> (try simp only [vki,reduceCtorEq] at h))
  ·have hlt:k < l.length:=by omega
   have e9:=Qej hlt hl
   repeat' (first|(apply nx;with_reducible constructor)|refine jq (by decide) ?_|((first|refine kz env fun Q hQ=>?_|refine kj fun Q hQ=>?_);simp only [vkt,seval,kJ,Wl,zR,e9];(try simp only [ite_and]);(repeat' (first|with_reducible assumption|refine And.intro ?_ ?_|intro hp));all_goals (first|(refine hQ _ ?_;clear hQ Q)|(refine hQ _ (fun h=>?_) (fun h=>?_) <;> clear hQ Q <;> (try simp only [vki,reduceCtorEq] at h))|(refine kx ?_;kernel_rfl)|omega|assumption|with_reducible rfl|skip)))
   refine ⟨⟨k+1,hlt⟩,by show l.length - (k+1) < l.length - k;omega, ?_⟩
   (refine Le.ok some [] ?_;constructor;all_goals (try simp only [vle,vkt,seval,kJ,Wl,zR]))
   all_goals first|rfl|(simp [e9];done)
  ·have hkn:k=l.length:=by omega
   subst hkn
   repeat' (first|(apply nx;with_reducible constructor)|refine jq (by decide) ?_|((first|refine kz env fun Q hQ=>?_|refine kj fun Q hQ=>?_);simp only [vkt,seval,kJ,Wl,zR];(try simp only [ite_and]);(repeat' (first|with_reducible assumption|refine And.intro ?_ ?_|intro hp));all_goals (first|(refine hQ _ ?_;clear hQ Q)|(refine hQ _ (fun h=>?_) (fun h=>?_) <;> clear hQ Q <;> (try simp only [vki,reduceCtorEq] at h))|(refine kx ?_;kernel_rfl)|omega|assumption|with_reducible rfl|skip)))
   (simp only [vrt,Tryz.results10,vkt,seval,kJ,Wl,zR];refine Fin.ok some [] ?_ ?_ ?_ ?_ ?_ rfl;all_goals (try simp only [vle,vkt,seval,kJ,Wl,zR]))
   all_goals rfl
def Jp (_:St):List AV→Option Pk
 |[.sl xs]=>some { pre:=xs=(xs.map zb).map zF∧xs.length≤maxLen,ar:=[.sl xs],v:=.ptr 0 0,L1:=[some (.cells [.v (.int .u64 (nbS (xs.map zb)))])] }
 |_=>none
theorem eBag {A:Frm→Prop}:qE A Tryz.prog 10 (fnE Jp):=zY fun S bs q h hp=>by
 unfold Jp at h
 split at h <;> cases h
 have:=QjQ (List.map zb _) (by rw [List.length_map];exact hp.2)
 simp only [qz,← hp.1] at this
 exact this
def inB (n lo hi:Int):Bool:=decide (lo≤n) && decide (n≤hi)
theorem wL {n lo hi:Int}:inB n lo hi=true ↔ lo≤n∧n≤hi:=by simp [inB]
def zt (n a b:Int):Int:=if n < a then 7 else if b < n then 6 else 0
def yw:List Int→Int
 |[]=>0
 |e :: r=>if e=0 then yw r else e
theorem kG {l:List Int} {k:Nat} (h:∀ j,j < k→l.getD j 0=0) (hk:k < l.length) (he:l.getD k 0 ≠ 0):yw l=l.getD k 0:=by
 induction l generalizing k with
 |nil=>simp at hk
 |cons e r ih =>
  cases k with
  |zero=>rw [yw,if_neg (by simpa using he)];rfl
  |succ k =>
   rw [yw,if_pos (by simpa using h 0 (by omega))]
   have:=ih (k:=k) (fun j hj=>by simpa using h (j+1) (by omega)) (by simpa using hk) (by simpa using he)
   rw [this];rfl
theorem yo {l:List Int} (h:∀ j,j < l.length→l.getD j 0=0):yw l=0:=by
 induction l with
 |nil=>rfl
 |cons e r ih =>
  rw [yw,if_pos (by simpa using h 0 (by simp))]
  exact ih fun j hj=>by simpa using h (j+1) (by simpa using hj)
theorem Zw {l:List Int} (h:yw l=0):∀ e ∈ l,e=0:=by
 induction l with
 |nil=>simp
 |cons e r ih =>
  rw [yw] at h
  split at h
  ·rename_i h0
   intro x hx
   rcases List.mem_cons.1 hx with rfl|hx
   ·exact h0
   ·exact ih h x hx
  ·rename_i h0;exact absurd h h0
def xH (a b:Tk):Bool:=decide (a.frm < b.to) && decide (b.frm < a.to)
def QC (a b:Tk):Bool:=decide (a.party=b.party) || decide (a.cab ≠ b.cab) || !xH a b || (decide (a.sex=b.sex) && !a.dog && !b.dog)
def QO (secs frm to:Int):Int:=if frm < 0∨to≤frm∨secs < to then 5 else 0
def xq (t x:Tk):Bool:=decide (x.cab=t.cab) && decide (x.bed=t.bed) && xH x t
def wh (t:Tk) (l:List Tk):Int:=if l.any (xq t) then 4 else if l.any (fun x=>!QC x t) then 9 else 0
def jN (cs:List Cabin) (cab bed:Int):Bool:=inB cab 0 ((cs.length:Int) - 1) && inB bed 0 ((cs.getD cab.toNat default).beds - 1)
def zH (c:Chart) (t:Tk) (l:List Tk):Int :=
 if !inB t.party 1 99 then 1 else if !inB t.sex 1 2 then 8 else if !jN c.cabins t.cab t.bed then 3 else if QO c.secs t.frm t.to ≠ 0 then QO c.secs t.frm t.to else wh t l
def kI (x:Cabin):Int:=if !inB x.beds 1 3 then 1 else 0
def ZN (c:Chart):Int :=
 if zt c.cabins.length 1 3 ≠ 0 then zt c.cabins.length 1 3 else if yw (c.cabins.map kI) ≠ 0 then yw (c.cabins.map kI) else if !inB c.secs 1 5 then 1 else zt c.sold.length 0 8
def zW (c:Chart) (l:List Tk):Int:=yw ((List.range l.length).map fun i=>zH c (l.getD i default) (l.take i))
def zu (c:Chart):Int:=if ZN c ≠ 0 then ZN c else zW c c.sold
structure CarOk (c:Chart):Prop where
 cabs:1≤c.cabins.length∧c.cabins.length≤3
 beds:∀ x ∈ c.cabins,1≤x.beds∧x.beds≤3
 secs:1≤c.secs∧c.secs≤5
theorem QcU {c:Chart} (h:ZN c=0):CarOk c∧c.sold.length≤8:=by
 unfold ZN at h
 split at h
 ·exact absurd h ‹_›
 rename_i h1
 split at h
 ·exact absurd h ‹_›
 rename_i h2
 split at h
 ·exact absurd h (by decide)
 rename_i h3
 have h1:=Decidable.not_not.1 h1
 have h2:=Decidable.not_not.1 h2
 have h3:inB c.secs 1 5=true:=by simpa using h3
 unfold zt at h1 h
 refine ⟨⟨?_,fun x hx=>?_,wL.1 h3⟩, ?_⟩
 ·split at h1
  ·exact absurd h1 (by decide)
  ·split at h1
   ·exact absurd h1 (by decide)
   ·omega
 ·have:=Zw h2 _ (List.mem_map.2 ⟨x,hx,rfl⟩)
  unfold kI at this
  split at this
  ·exact absurd this (by decide)
  ·rename_i h4
   exact wL.1 (by simpa using h4)
 ·split at h
  ·exact absurd h (by decide)
  ·split at h
   ·exact absurd h (by decide)
   ·omega
structure TkOk (c:Chart) (t:Tk):Prop where
 party:1≤t.party∧t.party≤99
 sex:1≤t.sex∧t.sex≤2
 cab:0≤t.cab∧t.cab.toNat < c.cabins.length
 bed:0≤t.bed∧t.bed < (c.cabins.getD t.cab.toNat default).beds
 frm:0≤t.frm
 way:t.frm < t.to
 to:t.to≤c.secs
theorem UC {s a b:Int} (h:QO s a b=0):0≤a∧a < b∧b≤s:=by
 unfold QO at h
 split at h
 ·exact absurd h (by decide)
 ·omega
theorem KH {cs:List Cabin} {a b:Int} (h:jN cs a b=true):0≤a∧a.toNat < cs.length∧0≤b∧b < (cs.getD a.toNat default).beds:=by
 unfold jN at h
 rw [Bool.and_eq_true,wL,wL] at h
 omega
theorem Qcf {c:Chart} {t:Tk} {l:List Tk} (h:zH c t l=0):TkOk c t∧wh t l=0:=by
 unfold zH at h
 split at h
 ·exact absurd h (by decide)
 rename_i h1
 split at h
 ·exact absurd h (by decide)
 rename_i h2
 split at h
 ·exact absurd h (by decide)
 rename_i h3
 split at h
 ·exact absurd h ‹_›
 rename_i h4
 have nf:∀ {p:Bool},¬ (!p)=true→p=true:=fun h=>by simpa using h
 have g1:=wL.1 (nf h1)
 have g2:=wL.1 (nf h2)
 obtain ⟨g3,g4,g5,g6⟩:=KH (nf h3)
 obtain ⟨g7,g8,g9⟩:=UC (Decidable.not_not.1 h4)
 exact ⟨⟨g1,g2,⟨g3,g4⟩,⟨g5,g6⟩,g7,g8,g9⟩,h⟩
theorem yB {α:Type} {l:List α} {k:Nat} {d:α} (h:k < l.length):l.getD k d ∈ l:=by
 rw [List.getD_eq_getElem?_getD,List.getElem?_eq_getElem h];exact List.getElem_mem h
theorem Yd {c:Chart} {l:List Tk} (h:zW c l=0):∀ i,i < l.length→TkOk c (l.getD i default)∧wh (l.getD i default) (l.take i)=0:=fun i hi =>
 Qcf (Zw h _ (List.mem_map.2 ⟨i,List.mem_range.2 hi,rfl⟩))
structure Val (c:Chart):Prop where
 car:CarOk c
 many:c.sold.length≤8
 tk:∀ t ∈ c.sold,TkOk c t
theorem QK {c:Chart} (h:zu c=0):Val c:=by
 unfold zu at h
 split at h
 ·exact absurd h ‹_›
 rename_i h1
 obtain ⟨g1,g2⟩:=QcU (Decidable.not_not.1 h1)
 refine ⟨g1,g2,fun t ht=>?_⟩
 obtain ⟨i,hi,rfl⟩:=List.mem_iff_getElem.1 ht
 have:=(Yd h i hi).1
 rwa [show c.sold.getD i default=c.sold[i] by simp [List.getD_eq_getElem?_getD,hi]] at this
def qV (cs:List Cabin):List Bunk:=(List.range cs.length).flatMap fun i=>(List.range (cs.getD i default).beds.toNat).map fun (k:Nat)=>⟨(i:Int),(k:Int)⟩
def Zl (cs:List Cabin) (l:List Bunk):Bool :=
 let lo:=l.foldl (fun m b=>min m b.cab) (l.getD 0 default).cab
 let hi:=l.foldl (fun m b=>max m b.cab) (l.getD 0 default).cab
 decide (lo=hi) || (decide (lo+1=hi) && (cs.getD lo.toNat default).door)
def Qd (a:Ask) (i:Nat) (b:Bunk):Tk:=⟨a.party,a.sexes.getD i 0,b.cab,b.bed,a.frm,a.to,a.dog⟩
def goB (cs:List Cabin) (a:Ask) (sold:List Tk) (begun:List Bunk) (b:Bunk):Bool:=!begun.contains b && Zl cs (begun++[b]) && decide (wh (Qd a begun.length b) sold=0)
def atB (s:Int) (t:Tk):Bool:=decide (t.frm≤s) && decide (s < t.to)
def Vv (sold:List Tk) (s i:Int):Bool:=sold.all fun t=>!(atB s t && decide (t.cab=i))
def WP (cs:List Cabin) (secs:Int) (sold:List Tk):Int:=(((List.range secs.toNat).flatMap fun (s:Nat)=>(List.range cs.length).filter fun (i:Nat)=>Vv sold s i).length:Int)
def vK (c:Chart) (a:Ask):Int :=
 if !inB a.party 1 99 then 1 else if c.sold.any (fun t=>decide (t.party=a.party)) then 4 else if QO c.secs a.frm a.to ≠ 0 then QO c.secs a.frm a.to else if zt a.sexes.length 1 3 ≠ 0 then zt a.sexes.length 1 3 else
 yw (a.sexes.map fun s=>if !inB s 1 2 then 8 else 0)
def zw (c:Chart) (a:Ask):Int:=if zu c ≠ 0 then zu c else vK c a
def Qc4:=kk @ty3 @ti3.eq_1
def ZK:=kk @aI.eq_1 (@aB.eq_1)
theorem in_fn (n a b:Int):FnV Tryz.prog 77 [aI n,aI a,aI b] (aB (inB n a b)):=by
 have env:Env (fun _=>True) Tryz.prog tyB (tab []):=qL trivial
 refine Fn.of (A:=fun _=>True) (n0:=0) (D:=noD) (Fn0 Tryz.func77 rfl (fun vs w=>by kernel_rfl) (by kernel_rfl)) (by simp) (by simp [AV.ids,aI]) (fun i o h=>by cases h) (fun _ _ _ _=>trivial) qF ?_
 repeat' (first|(apply nx;with_reducible constructor)|refine jq (by decide) ?_|((first|refine kz env fun Q hQ=>?_|refine kj fun Q hQ=>?_);simp only [vkt,seval,Qc4,ZK,aTk,cTk,qa,qb];(try simp only [ite_and]);(repeat' (first|with_reducible assumption|refine And.intro ?_ ?_|intro hp));all_goals (first|(refine hQ _ ?_;clear hQ Q)|(refine hQ _ (fun h=>?_) (fun h=>?_) <;> clear hQ Q <;> (try simp only [vki,reduceCtorEq] at h))|(refine kx ?_;kernel_rfl)|omega|assumption|with_reducible rfl|skip)))
 all_goals (simp only [vrt,Tryz.results77,vkt,seval,Qc4,ZK,aTk,cTk,qa,qb];refine Fin.val rfl ?_;(try simp only [AV.le,AV.leL]))
 all_goals simp [inB, *]
def sin:List AV→Prop × AV
 |[.v (.int .i64 n),.v (.int .i64 a),.v (.int .i64 b)]=>(True,aB (inB n a b))
 |_=>(False,.junk)
theorem ein {A:Frm→Prop}:qE A Tryz.prog 77 (qX true sin):=qW fun vs hv h=>by
 clear hv
 unfold sin at h ⊢
 split at h
 ·rename_i n a b;clear h
  refine ⟨by first|trivial|(simp [AV.plain,AV.plainL,aI,aB,qz,qc,ql,qf,aTk,cTk];done)|(repeat' split) <;> simp [AV.plain,AV.plainL,aI,aB,qz,qc,ql,qf,aTk,cTk],fun _=>(by simp [AV.flat,AV.flatL,aI,aB]), ?_⟩
  have:=in_fn n a b
  simp only [aI] at this
  first|exact this|(simp only [aI];exact this)
 ·exact h.elim
def Rb:=kk @ty3 @ti3.eq_1
theorem QiA (n a b:Int):FnV Tryz.prog 83 [aI n,aI a,aI b] (aB (inB n a b)):=by
 have env:Env (fun _=>True) Tryz.prog tyB (tab []):=qL trivial
 refine Fn.of (A:=fun _=>True) (n0:=0) (D:=noD) (Fn0 Tryz.func83 rfl (fun vs w=>by kernel_rfl) (by kernel_rfl)) (by simp) (by simp [AV.ids,aI]) (fun i o h=>by cases h) (fun _ _ _ _=>trivial) qF ?_
 repeat' (first|(apply nx;with_reducible constructor)|refine jq (by decide) ?_|((first|refine kz env fun Q hQ=>?_|refine kj fun Q hQ=>?_);simp only [vkt,seval,Rb,ZK,aTk,cTk,qa,qb];(try simp only [ite_and]);(repeat' (first|with_reducible assumption|refine And.intro ?_ ?_|intro hp));all_goals (first|(refine hQ _ ?_;clear hQ Q)|(refine hQ _ (fun h=>?_) (fun h=>?_) <;> clear hQ Q <;> (try simp only [vki,reduceCtorEq] at h))|(refine kx ?_;kernel_rfl)|omega|assumption|with_reducible rfl|skip)))
 all_goals (simp only [vrt,Tryz.results83,vkt,seval,Rb,ZK,aTk,cTk,qa,qb];refine Fin.val rfl ?_;(try simp only [AV.le,AV.leL]))
 all_goals simp [inB, *]
def zm:List AV→Prop × AV
 |[.v (.int .i64 n),.v (.int .i64 a),.v (.int .i64 b)]=>(True,aB (inB n a b))
 |_=>(False,.junk)
theorem QdJ {A:Frm→Prop}:qE A Tryz.prog 83 (qX true zm):=qW fun vs hv h=>by
 clear hv
 unfold zm at h ⊢
 split at h
 ·rename_i n a b;clear h
  refine ⟨by first|trivial|(simp [AV.plain,AV.plainL,aI,aB,qz,qc,ql,qf,aTk,cTk];done)|(repeat' split) <;> simp [AV.plain,AV.plainL,aI,aB,qz,qc,ql,qf,aTk,cTk],fun _=>(by simp [AV.flat,AV.flatL,aI,aB]), ?_⟩
  have:=QiA n a b
  simp only [aI] at this
  first|exact this|(simp only [aI];exact this)
 ·exact h.elim
def YL:=kk @ty3 @ti3.eq_1
theorem Qcb (n a b:Int):FnV Tryz.prog 91 [aI n,aI a,aI b] (aI (zt n a b)):=by
 have env:Env (fun _=>True) Tryz.prog tyB (tab []):=qL trivial
 refine Fn.of (A:=fun _=>True) (n0:=0) (D:=noD) (Fn0 Tryz.func91 rfl (fun vs w=>by kernel_rfl) (by kernel_rfl)) (by simp) (by simp [AV.ids,aI]) (fun i o h=>by cases h) (fun _ _ _ _=>trivial) qF ?_
 repeat' (first|(apply nx;with_reducible constructor)|refine jq (by decide) ?_|((first|refine kz env fun Q hQ=>?_|refine kj fun Q hQ=>?_);simp only [vkt,seval,YL,ZK,aTk,cTk,qa,qb];(try simp only [ite_and]);(repeat' (first|with_reducible assumption|refine And.intro ?_ ?_|intro hp));all_goals (first|(refine hQ _ ?_;clear hQ Q)|(refine hQ _ (fun h=>?_) (fun h=>?_) <;> clear hQ Q <;> (try simp only [vki,reduceCtorEq] at h))|(refine kx ?_;kernel_rfl)|omega|assumption|with_reducible rfl|skip)))
 all_goals (simp only [vrt,Tryz.results91,vkt,seval,YL,ZK,aTk,cTk,qa,qb];refine Fin.val rfl ?_;(try simp only [AV.le,AV.leL]))
 all_goals (unfold zt;simp [*])
 all_goals omega
def zl:List AV→Prop × AV
 |[.v (.int .i64 n),.v (.int .i64 a),.v (.int .i64 b)]=>(True,aI (zt n a b))
 |_=>(False,.junk)
theorem LU {A:Frm→Prop}:qE A Tryz.prog 91 (qX true zl):=qW fun vs hv h=>by
 clear hv
 unfold zl at h ⊢
 split at h
 ·rename_i n a b;clear h
  refine ⟨by first|trivial|(simp [AV.plain,AV.plainL,aI,aB,qz,qc,ql,qf,aTk,cTk];done)|(repeat' split) <;> simp [AV.plain,AV.plainL,aI,aB,qz,qc,ql,qf,aTk,cTk],fun _=>(by simp [AV.flat,AV.flatL,aI,aB]), ?_⟩
  have:=Qcb n a b
  simp only [aI] at this
  first|exact this|(simp only [aI];exact this)
 ·exact h.elim
def KY:=kk @ty3 (kk @yU (kk @ti3.eq_1 @yA.eq_1))
theorem Qid (a b:Tk):FnV Tryz.prog 137 [aTk a,aTk b] (aB (xH a b)):=by
 have env:Env (fun _=>True) Tryz.prog tyB (tab []):=qL trivial
 refine Fn.of (A:=fun _=>True) (n0:=0) (D:=noD) (Fn0 Tryz.func137 rfl (fun vs w=>by kernel_rfl) (by kernel_rfl)) (by simp) (by simp [AV.ids,AV.idsL,aTk,cTk]) (fun i o h=>by cases h) (fun _ _ _ _=>trivial) qF ?_
 repeat' (first|(apply nx;with_reducible constructor)|refine jq (by decide) ?_|((first|refine kz env fun Q hQ=>?_|refine kj fun Q hQ=>?_);simp only [vkt,seval,KY,ZK,aTk,cTk,qa,qb];(try simp only [ite_and]);(repeat' (first|with_reducible assumption|refine And.intro ?_ ?_|intro hp));all_goals (first|(refine hQ _ ?_;clear hQ Q)|(refine hQ _ (fun h=>?_) (fun h=>?_) <;> clear hQ Q <;> (try simp only [vki,reduceCtorEq] at h))|(refine kx ?_;kernel_rfl)|omega|assumption|with_reducible rfl|skip)))
 all_goals (simp only [vrt,Tryz.results137,vkt,seval,KY,ZK,aTk,cTk,qa,qb];refine Fin.val rfl ?_;(try simp only [AV.le,AV.leL]))
 all_goals simp [xH, *]
def ZE:List AV→Prop × AV
 |[.agg [.v (.int .i64 a0),.v (.int .i64 a1),.v (.int .i64 a2),.v (.int .i64 a3),.v (.int .i64 a4),.v (.int .i64 a5),.v (.bool a6)],.agg [.v (.int .i64 b0),.v (.int .i64 b1),.v (.int .i64 b2),.v (.int .i64 b3),.v (.int .i64 b4),.v (.int .i64 b5),.v (.bool b6)]]=>(True,aB (xH (⟨a0,a1,a2,a3,a4,a5,a6⟩:Tk) (⟨b0,b1,b2,b3,b4,b5,b6⟩:Tk)))
 |_=>(False,.junk)
theorem Qjp {A:Frm→Prop}:qE A Tryz.prog 137 (qX true ZE):=qW fun vs hv h=>by
 clear hv
 unfold ZE at h ⊢
 split at h
 ·rename_i a0 a1 a2 a3 a4 a5 a6 b0 b1 b2 b3 b4 b5 b6;clear h
  refine ⟨by first|trivial|(simp [AV.plain,AV.plainL,aI,aB,qz,qc,ql,qf,aTk,cTk];done)|(repeat' split) <;> simp [AV.plain,AV.plainL,aI,aB,qz,qc,ql,qf,aTk,cTk],fun _=>(by simp [AV.flat,AV.flatL,aI,aB]), ?_⟩
  have:=Qid (⟨a0,a1,a2,a3,a4,a5,a6⟩:Tk) (⟨b0,b1,b2,b3,b4,b5,b6⟩:Tk)
  simp only [aB,aI,aTk,cTk] at this
  first|exact this|(simp only [aB,aI,aTk,cTk];exact this)
 ·exact h.elim
def XW:=kk @ty3 (kk @yU (kk @ti3.eq_1 @yA.eq_1))
theorem Qfh (a b:Tk):FnV Tryz.prog 120 [aTk a,aTk b] (aB (xH a b)):=by
 have env:Env (fun _=>True) Tryz.prog tyB (tab []):=qL trivial
 refine Fn.of (A:=fun _=>True) (n0:=0) (D:=noD) (Fn0 Tryz.func120 rfl (fun vs w=>by kernel_rfl) (by kernel_rfl)) (by simp) (by simp [AV.ids,AV.idsL,aTk,cTk]) (fun i o h=>by cases h) (fun _ _ _ _=>trivial) qF ?_
 repeat' (first|(apply nx;with_reducible constructor)|refine jq (by decide) ?_|((first|refine kz env fun Q hQ=>?_|refine kj fun Q hQ=>?_);simp only [vkt,seval,XW,ZK,aTk,cTk,qa,qb];(try simp only [ite_and]);(repeat' (first|with_reducible assumption|refine And.intro ?_ ?_|intro hp));all_goals (first|(refine hQ _ ?_;clear hQ Q)|(refine hQ _ (fun h=>?_) (fun h=>?_) <;> clear hQ Q <;> (try simp only [vki,reduceCtorEq] at h))|(refine kx ?_;kernel_rfl)|omega|assumption|with_reducible rfl|skip)))
 all_goals (simp only [vrt,Tryz.results120,vkt,seval,XW,ZK,aTk,cTk,qa,qb];refine Fin.val rfl ?_;(try simp only [AV.le,AV.leL]))
 all_goals simp [xH, *]
def wQ:List AV→Prop × AV
 |[.agg [.v (.int .i64 a0),.v (.int .i64 a1),.v (.int .i64 a2),.v (.int .i64 a3),.v (.int .i64 a4),.v (.int .i64 a5),.v (.bool a6)],.agg [.v (.int .i64 b0),.v (.int .i64 b1),.v (.int .i64 b2),.v (.int .i64 b3),.v (.int .i64 b4),.v (.int .i64 b5),.v (.bool b6)]]=>(True,aB (xH (⟨a0,a1,a2,a3,a4,a5,a6⟩:Tk) (⟨b0,b1,b2,b3,b4,b5,b6⟩:Tk)))
 |_=>(False,.junk)
theorem Qf8 {A:Frm→Prop}:qE A Tryz.prog 120 (qX true wQ):=qW fun vs hv h=>by
 clear hv
 unfold wQ at h ⊢
 split at h
 ·rename_i a0 a1 a2 a3 a4 a5 a6 b0 b1 b2 b3 b4 b5 b6;clear h
  refine ⟨by first|trivial|(simp [AV.plain,AV.plainL,aI,aB,qz,qc,ql,qf,aTk,cTk];done)|(repeat' split) <;> simp [AV.plain,AV.plainL,aI,aB,qz,qc,ql,qf,aTk,cTk],fun _=>(by simp [AV.flat,AV.flatL,aI,aB]), ?_⟩
  have:=Qfh (⟨a0,a1,a2,a3,a4,a5,a6⟩:Tk) (⟨b0,b1,b2,b3,b4,b5,b6⟩:Tk)
  simp only [aB,aI,aTk,cTk] at this
  first|exact this|(simp only [aB,aI,aTk,cTk];exact this)
 ·exact h.elim
def QaM:=kk @ty3 (kk @ty4 (kk @xJ (kk @yU (kk @ti3.eq_1 (kk @ti4.eq_1 (kk @vZ.eq_1 @yA.eq_1))))))
def U2:=kk @aI.eq_1 (@aB.eq_1)
theorem Qj8 (a b:Tk):FnV Tryz.prog 139 [aTk a,aTk b] (aB (QC a b)):=by
 have env:Env (fun _=>True) Tryz.prog tyB (tab [(137,qX true ZE)]):=qL ⟨Qjp,trivial⟩
 refine Fn.of (A:=fun _=>True) (n0:=0) (D:=noD) (Fn0 Tryz.func139 rfl (fun vs w=>by kernel_rfl) (by kernel_rfl)) (by simp) (by simp [AV.ids,AV.idsL,aTk,cTk]) (fun i o h=>by cases h) (fun _ _ _ _=>trivial) qF ?_
 have em:xH ⟨a.party,a.sex,a.cab,a.bed,a.frm,a.to,a.dog⟩ ⟨b.party,b.sex,b.cab,b.bed,b.frm,b.to,b.dog⟩=xH a b:=rfl
 repeat' (first|(apply nx;with_reducible constructor)|refine jq (by decide) ?_|((first|refine kz env fun Q hQ=>?_|refine kj fun Q hQ=>?_);simp only [vkt,seval,QaM,U2,aTk,cTk,ZE,wQ,em];(try simp only [ite_and]);(repeat' (first|with_reducible assumption|refine And.intro ?_ ?_|intro hp));all_goals (first|(refine hQ _ ?_;clear hQ Q)|(refine hQ _ (fun h=>?_) (fun h=>?_) <;> clear hQ Q <;> (try simp only [vki,reduceCtorEq] at h))|(refine kx ?_;kernel_rfl)|omega|assumption|with_reducible rfl|skip)))
 all_goals (simp only [vrt,Tryz.results139,vkt,seval,QaM,U2,aTk,cTk,ZE,wQ];refine Fin.val rfl ?_;(try simp only [AV.le,AV.leL]))
 all_goals first|(simp [QC, *];done)|(simp_all [QC];done)
def Ub:List AV→Prop × AV
 |[.agg [.v (.int .i64 a0),.v (.int .i64 a1),.v (.int .i64 a2),.v (.int .i64 a3),.v (.int .i64 a4),.v (.int .i64 a5),.v (.bool a6)],.agg [.v (.int .i64 b0),.v (.int .i64 b1),.v (.int .i64 b2),.v (.int .i64 b3),.v (.int .i64 b4),.v (.int .i64 b5),.v (.bool b6)]]=>(True,aB (QC (⟨a0,a1,a2,a3,a4,a5,a6⟩:Tk) (⟨b0,b1,b2,b3,b4,b5,b6⟩:Tk)))
 |_=>(False,.junk)
theorem etog {A:Frm→Prop}:qE A Tryz.prog 139 (qX true Ub):=qW fun vs hv h=>by
 clear hv
 unfold Ub at h ⊢
 split at h
 ·rename_i a0 a1 a2 a3 a4 a5 a6 b0 b1 b2 b3 b4 b5 b6;clear h
  refine ⟨by first|trivial|(simp [AV.plain,AV.plainL,aI,aB,qz,qc,ql,qf,aTk,cTk];done)|(repeat' split) <;> simp [AV.plain,AV.plainL,aI,aB,qz,qc,ql,qf,aTk,cTk],fun _=>(by simp [AV.flat,AV.flatL,aI,aB]), ?_⟩
  have:=Qj8 (⟨a0,a1,a2,a3,a4,a5,a6⟩:Tk) (⟨b0,b1,b2,b3,b4,b5,b6⟩:Tk)
  simp only [aB,aI,aTk,cTk] at this
  first|exact this|(simp only [aB,aI,aTk,cTk];exact this)
 ·exact h.elim
def Rx:=kk @ty3 (kk @ty4 (kk @xJ (kk @yU (kk @ti3.eq_1 (kk @ti4.eq_1 (kk @vZ.eq_1 @yA.eq_1))))))
theorem Qiu (a b:Tk):FnV Tryz.prog 121 [aTk a,aTk b] (aB (QC a b)):=by
 have env:Env (fun _=>True) Tryz.prog tyB (tab [(120,qX true wQ)]):=qL ⟨Qf8,trivial⟩
 refine Fn.of (A:=fun _=>True) (n0:=0) (D:=noD) (Fn0 Tryz.func121 rfl (fun vs w=>by kernel_rfl) (by kernel_rfl)) (by simp) (by simp [AV.ids,AV.idsL,aTk,cTk]) (fun i o h=>by cases h) (fun _ _ _ _=>trivial) qF ?_
 have em:xH ⟨a.party,a.sex,a.cab,a.bed,a.frm,a.to,a.dog⟩ ⟨b.party,b.sex,b.cab,b.bed,b.frm,b.to,b.dog⟩=xH a b:=rfl
 repeat' (first|(apply nx;with_reducible constructor)|refine jq (by decide) ?_|((first|refine kz env fun Q hQ=>?_|refine kj fun Q hQ=>?_);simp only [vkt,seval,Rx,U2,aTk,cTk,ZE,wQ,em];(try simp only [ite_and]);(repeat' (first|with_reducible assumption|refine And.intro ?_ ?_|intro hp));all_goals (first|(refine hQ _ ?_;clear hQ Q)|(refine hQ _ (fun h=>?_) (fun h=>?_) <;> clear hQ Q <;> (try simp only [vki,reduceCtorEq] at h))|(refine kx ?_;kernel_rfl)|omega|assumption|with_reducible rfl|skip)))
 all_goals (simp only [vrt,Tryz.results121,vkt,seval,Rx,U2,aTk,cTk,ZE,wQ];refine Fin.val rfl ?_;(try simp only [AV.le,AV.leL]))
 all_goals first|(simp [QC, *];done)|(simp_all [QC];done)
def yX:List AV→Prop × AV
 |[.agg [.v (.int .i64 a0),.v (.int .i64 a1),.v (.int .i64 a2),.v (.int .i64 a3),.v (.int .i64 a4),.v (.int .i64 a5),.v (.bool a6)],.agg [.v (.int .i64 b0),.v (.int .i64 b1),.v (.int .i64 b2),.v (.int .i64 b3),.v (.int .i64 b4),.v (.int .i64 b5),.v (.bool b6)]]=>(True,aB (QC (⟨a0,a1,a2,a3,a4,a5,a6⟩:Tk) (⟨b0,b1,b2,b3,b4,b5,b6⟩:Tk)))
 |_=>(False,.junk)
theorem ertog {A:Frm→Prop}:qE A Tryz.prog 121 (qX true yX):=qW fun vs hv h=>by
 clear hv
 unfold yX at h ⊢
 split at h
 ·rename_i a0 a1 a2 a3 a4 a5 a6 b0 b1 b2 b3 b4 b5 b6;clear h
  refine ⟨by first|trivial|(simp [AV.plain,AV.plainL,aI,aB,qz,qc,ql,qf,aTk,cTk];done)|(repeat' split) <;> simp [AV.plain,AV.plainL,aI,aB,qz,qc,ql,qf,aTk,cTk],fun _=>(by simp [AV.flat,AV.flatL,aI,aB]), ?_⟩
  have:=Qiu (⟨a0,a1,a2,a3,a4,a5,a6⟩:Tk) (⟨b0,b1,b2,b3,b4,b5,b6⟩:Tk)
  simp only [aB,aI,aTk,cTk] at this
  first|exact this|(simp only [aB,aI,aTk,cTk];exact this)
 ·exact h.elim
def Qai:=kk @ty3 (kk @yc (kk @ti3.eq_1 @jM.eq_1))
def RQ:=kk @aI.eq_1 (@aB.eq_1)
theorem QjH (c:Chart) (a b:Int):FnV Tryz.prog 78 [qa c,aI a,aI b] (aI (QO c.secs a b)):=by
 have env:Env (fun _=>True) Tryz.prog tyB (tab []):=qL trivial
 refine Fn.of (A:=fun _=>True) (n0:=0) (D:=noD) (Fn0 Tryz.func78 rfl (fun vs w=>by kernel_rfl) (by kernel_rfl)) (by simp) (by simp [AV.ids,AV.idsL,aI,qa,qb]) (fun i o h=>by cases h) (fun _ _ _ _=>trivial) qF ?_
 repeat' (first|(apply nx;with_reducible constructor)|refine jq (by decide) ?_|((first|refine kz env fun Q hQ=>?_|refine kj fun Q hQ=>?_);simp only [vkt,seval,Qai,RQ,qa,qb];(try simp only [ite_and]);(repeat' (first|with_reducible assumption|refine And.intro ?_ ?_|intro hp));all_goals (first|(refine hQ _ ?_;clear hQ Q)|(refine hQ _ (fun h=>?_) (fun h=>?_) <;> clear hQ Q <;> (try simp only [vki,reduceCtorEq] at h))|(refine kx ?_;kernel_rfl)|omega|assumption|with_reducible rfl|skip)))
 all_goals (simp only [vrt,Tryz.results78,vkt,seval,Qai,RQ,qa,qb];refine Fin.val rfl ?_;(try simp only [AV.le,AV.leL]))
 all_goals (unfold QO;simp [*])
 all_goals omega
def xA:List AV→Prop × AV
 |[.agg [.sl c0,.v (.int .i64 c1),.sl c2],.v (.int .i64 a),.v (.int .i64 b)]=>(c0=(c0.map qw).map qh∧c2=(c2.map dTk).map eTk,aI (QO c1 a b))
 |_=>(False,.junk)
theorem eway {A:Frm→Prop}:qE A Tryz.prog 78 (qX true xA):=qW fun vs hv h=>by
 clear hv
 unfold xA at h ⊢
 split at h
 ·rename_i c0 c1 c2 a b;obtain ⟨q0,q1⟩:=h
  refine ⟨by first|trivial|(simp [AV.plain,AV.plainL,aI,aB,qz,qc,ql,qf,aTk,cTk];done)|(repeat' split) <;> simp [AV.plain,AV.plainL,aI,aB,qz,qc,ql,qf,aTk,cTk],fun _=>(by simp [AV.flat,AV.flatL,aI,aB]), ?_⟩
  have:=QjH ⟨c0.map qw,c1,c2.map dTk⟩ a b
  simp only [qY,qa,aI,ql,qb,← q0,← q1] at this
  first|exact this|(simp only [qY,qa,aI,ql,qb,← q0,← q1];exact this)
 ·exact h.elim
def K9:=kk @ty3 (kk @yc (kk @ti3.eq_1 @jM.eq_1))
theorem Qim (c:Chart) (a b:Int):FnV Tryz.prog 84 [qa c,aI a,aI b] (aI (QO c.secs a b)):=by
 have env:Env (fun _=>True) Tryz.prog tyB (tab []):=qL trivial
 refine Fn.of (A:=fun _=>True) (n0:=0) (D:=noD) (Fn0 Tryz.func84 rfl (fun vs w=>by kernel_rfl) (by kernel_rfl)) (by simp) (by simp [AV.ids,AV.idsL,aI,qa,qb]) (fun i o h=>by cases h) (fun _ _ _ _=>trivial) qF ?_
 repeat' (first|(apply nx;with_reducible constructor)|refine jq (by decide) ?_|((first|refine kz env fun Q hQ=>?_|refine kj fun Q hQ=>?_);simp only [vkt,seval,K9,RQ,qa,qb];(try simp only [ite_and]);(repeat' (first|with_reducible assumption|refine And.intro ?_ ?_|intro hp));all_goals (first|(refine hQ _ ?_;clear hQ Q)|(refine hQ _ (fun h=>?_) (fun h=>?_) <;> clear hQ Q <;> (try simp only [vki,reduceCtorEq] at h))|(refine kx ?_;kernel_rfl)|omega|assumption|with_reducible rfl|skip)))
 all_goals (simp only [vrt,Tryz.results84,vkt,seval,K9,RQ,qa,qb];refine Fin.val rfl ?_;(try simp only [AV.le,AV.leL]))
 all_goals (unfold QO;simp [*])
 all_goals omega
def zX:List AV→Prop × AV
 |[.agg [.sl c0,.v (.int .i64 c1),.sl c2],.v (.int .i64 a),.v (.int .i64 b)]=>(c0=(c0.map qw).map qh∧c2=(c2.map dTk).map eTk,aI (QO c1 a b))
 |_=>(False,.junk)
theorem Qja {A:Frm→Prop}:qE A Tryz.prog 84 (qX true zX):=qW fun vs hv h=>by
 clear hv
 unfold zX at h ⊢
 split at h
 ·rename_i c0 c1 c2 a b;obtain ⟨q0,q1⟩:=h
  refine ⟨by first|trivial|(simp [AV.plain,AV.plainL,aI,aB,qz,qc,ql,qf,aTk,cTk];done)|(repeat' split) <;> simp [AV.plain,AV.plainL,aI,aB,qz,qc,ql,qf,aTk,cTk],fun _=>(by simp [AV.flat,AV.flatL,aI,aB]), ?_⟩
  have:=Qim ⟨c0.map qw,c1,c2.map dTk⟩ a b
  simp only [qY,qa,aI,ql,qb,← q0,← q1] at this
  first|exact this|(simp only [qY,qa,aI,ql,qb,← q0,← q1];exact this)
 ·exact h.elim
theorem Qbx {α β:Type} (f:α→List β) (d:β) (da:α):∀ (l:List α) (i k:Nat),i < l.length→k < (f (l.getD i da)).length→(l.flatMap f).getD (((l.take i).map fun a=>(f a).length).sum+k) d=(f (l.getD i da)).getD k d
 |[],i,_,h,_=>by simp at h
 |a :: l,0,k,_,hk=>by
  have hk:k < (f a).length:=hk
  rw [List.flatMap_cons,List.take_zero,List.map_nil,List.sum_nil,Nat.zero_add,List.getD_eq_getElem?_getD,List.getElem?_append_left hk,← List.getD_eq_getElem?_getD]
  rfl
 |a :: l,i+1,k,h,hk=>by
  have ih:=Qbx f d da l i k (by simpa using h) (by simpa using hk)
  rw [List.flatMap_cons,List.take_succ_cons,List.map_cons,List.sum_cons,List.getD_eq_getElem?_getD,List.getElem?_append_right (by omega),← List.getD_eq_getElem?_getD,show (f a).length+((l.take i).map fun a=>(f a).length).sum+k - (f a).length=((l.take i).map fun a=>(f a).length).sum+k by omega,ih]
  rfl
theorem Qf2 {α β:Type} (f:α→List β) (l:List α):(l.flatMap f).length=(l.map fun a=>(f a).length).sum:=by
 rw [List.length_flatMap]
theorem Yy {g:List Nat} {i:Nat} (h:i < g.length):(g.take (i+1)).sum=(g.take i).sum+g.getD i 0:=by
 rw [List.take_succ_eq_append_getElem h,List.sum_append]
 simp [List.getD_eq_getElem?_getD,h]
theorem QF {g:List Nat}:∀ {i j:Nat},i≤j→(g.take i).sum≤(g.take j).sum:=by
 induction g with
 |nil=>simp
 |cons a g ih =>
  intro i j h
  cases i with
  |zero=>simp
  |succ i =>
   cases j with
   |zero=>omega
   |succ j =>
    simp only [List.take_succ_cons,List.sum_cons]
    have:=ih (show i≤j by omega)
    omega
theorem LD:∀ (g:List Nat) (q:Nat),q < g.sum→∃ i,i < g.length∧(g.take i).sum≤q∧q < (g.take (i+1)).sum
 |[],q,h=>by simp at h
 |a :: g,q,h=>by
  rw [List.sum_cons] at h
  by_cases h1:q < a
  ·exact ⟨0,by simp,by simp,by simpa using h1⟩
  ·obtain ⟨i,h2,h3,h4⟩:=LD g (q - a) (by omega)
   refine ⟨i+1,by simpa using h2, ?_, ?_⟩
   ·rw [List.take_succ_cons,List.sum_cons];omega
   ·rw [List.take_succ_cons,List.sum_cons];omega
def QH (ans:Nat→Bool) (R:Nat):Bool:=decide (R=0) || ans (R - 1)
theorem nest (g:List Nat) {ans:Nat→Bool} {R:Nat} (h:Rounds ans R g.sum):∃ (RB:Nat) (ansB:Nat→Bool),Rounds ansB RB g.length ∧
  (∀ i,i < RB→(g.take i).sum≤R∧Rounds (fun j=>ans ((g.take i).sum+j)) (min (g.getD i 0) (R - (g.take i).sum)) (g.getD i 0)∧ansB i=QH (fun j=>ans ((g.take i).sum+j)) (min (g.getD i 0) (R - (g.take i).sum)) ∧
   min (g.take (i+1)).sum R=(g.take i).sum+min (g.getD i 0) (R - (g.take i).sum))∧min (g.take RB).sum R=R∧QH ans R=QH ansB RB:=by
 have hle:=h.le
 by_cases hB:0 < R∧ans (R - 1)=false
 ·obtain ⟨hR,hf⟩:=hB
  obtain ⟨i,hi,h1,h2⟩:=LD g (R - 1) (by omega)
  refine ⟨i+1,fun k=>decide (k ≠ i),⟨hi,fun j hj=>by simp;omega,fun _=>⟨by omega,by simp⟩⟩,fun k hk=>?_,by omega, ?_⟩
  ·have hkl:k < g.length:=by omega
   have ho:=QF (g:=g) (show k≤i by omega)
   have hs:=Yy hkl
   have hoR:(g.take k).sum≤R:=by omega
   refine ⟨hoR,⟨Nat.min_le_left _ _,fun j hj=>h.yes _ (by omega),fun hlt=>⟨by omega, ?_⟩⟩, ?_,by omega⟩
   ·show ans _=false
    rw [show (g.take k).sum+(min (g.getD k 0) (R - (g.take k).sum) - 1)=R - 1 by omega];exact hf
   ·by_cases hki:k=i
    ·subst hki
     have e:(g.take k).sum+(min (g.getD k 0) (R - (g.take k).sum) - 1)=R - 1:=by omega
     have e0:¬ min (g.getD k 0) (R - (g.take k).sum)=0:=by omega
     simp only [QH,e,hf,e0,ne_eq,not_true_eq_false,decide_false,Bool.or_self]
    ·have h3:=QF (g:=g) (show k+1≤i by omega)
     have e1:min (g.getD k 0) (R - (g.take k).sum)=g.getD k 0:=by omega
     rw [e1]
     by_cases h0:g.getD k 0=0
     ·simp [-List.getD_eq_getElem?_getD,QH,h0,hki]
     ·have:=h.yes ((g.take k).sum+(g.getD k 0 - 1)) (by omega)
      simp [-List.getD_eq_getElem?_getD,QH,h0,hki,this]
  ·simp [QH,hf,show ¬ R=0 by omega]
 ·have hRN:R=g.sum:=by
   refine Nat.le_antisymm hle (Nat.le_of_not_lt fun hlt=>?_)
   exact hB (h.stop hlt)
  have hall:∀ j,j < R→ans j=true:=fun j hj=>by
   by_cases hj1:j+1 < R
   ·exact h.yes j hj1
   ·have:j=R - 1:=by omega
    subst this
    cases ha:ans (R - 1) with
    |true=>rfl
    |false=>exact absurd ⟨by omega,ha⟩ hB
  have hfull:(g.take g.length).sum=g.sum:=by rw [List.take_length]
  refine ⟨g.length,fun _=>true,⟨Nat.le_refl _,fun _ _=>rfl,fun h=>absurd h (Nat.lt_irrefl _)⟩,fun k hk=>?_,by omega, ?_⟩
  ·have hs:=Yy hk
   have h3:=QF (g:=g) (show k+1≤g.length by omega)
   have e1:min (g.getD k 0) (R - (g.take k).sum)=g.getD k 0:=by omega
   refine ⟨by omega, ?_, ?_,by omega⟩
   ·rw [e1]
    exact ⟨Nat.le_refl _,fun j hj=>hall _ (by omega),fun h=>absurd h (Nat.lt_irrefl _)⟩
   ·rw [e1]
    by_cases h0:g.getD k 0=0
    ·simp [-List.getD_eq_getElem?_getD,QH,h0]
    ·simp [-List.getD_eq_getElem?_getD,QH,h0,hall ((g.take k).sum+(g.getD k 0 - 1)) (by omega)]
  ·by_cases h0:R=0
   ·simp [QH,h0]
   ·simp [QH,hall (R - 1) (by omega)]
def ZM (cs:List Cabin):List Nat:=cs.map fun x=>x.beds.toNat
theorem YP (cs:List Cabin):qV cs=(List.range cs.length).flatMap fun i=>(List.range (cs.getD i default).beds.toNat).map fun (k:Nat)=>(⟨(i:Int),(k:Int)⟩:Bunk):=rfl
theorem L6 (cs:List Cabin) {i:Nat} (hi:i≤cs.length):(((List.range cs.length).take i).map fun (j:Nat)=>(List.map (fun (k:Nat)=>(⟨(j:Int),(k:Int)⟩:Bunk)) (List.range (cs.getD j default).beds.toNat)).length)=(ZM cs).take i:=by
 apply List.ext_getElem
 ·simp [ZM]
 ·intro n h1 h2
  simp only [List.length_map,List.length_take,List.length_range] at h1
  have hn:n < cs.length:=by omega
  simp [ZM,List.getD_eq_getElem?_getD,hn]
theorem Rh (cs:List Cabin):(qV cs).length=(ZM cs).sum:=by
 rw [YP,Qf2]
 have:=L6 cs (Nat.le_refl cs.length)
 rw [List.take_of_length_le (by simp),List.take_of_length_le (by simp [ZM])] at this
 rw [this]
theorem Qet {cs:List Cabin} {i k:Nat} (hi:i < cs.length) (hk:k < (cs.getD i default).beds.toNat):(qV cs).getD (((ZM cs).take i).sum+k) default=⟨(i:Int),(k:Int)⟩:=by
 have hr:(List.range cs.length).getD i 0=i:=by simp [List.getD_eq_getElem?_getD,hi]
 have:=Qbx (fun i=>(List.range (cs.getD i default).beds.toNat).map fun (k:Nat)=>(⟨(i:Int),(k:Int)⟩:Bunk)) default 0 (List.range cs.length) i k (by simpa using hi) (by rw [hr];simpa using hk)
 rw [L6 cs (by omega),hr] at this
 rw [YP,this]
 generalize (cs.getD i default).beds.toNat=m at hk ⊢
 simp [List.getD_eq_getElem?_getD,hk]
theorem X6 {cs:List Cabin} {b:Bunk}:b ∈ qV cs ↔ ∃ i k:Nat,i < cs.length∧k < (cs.getD i default).beds.toNat∧b=⟨(i:Int),(k:Int)⟩:=by
 rw [YP,List.mem_flatMap]
 constructor
 ·rintro ⟨i,hi,hb⟩
  obtain ⟨k,hk,rfl⟩:=List.mem_map.1 hb
  exact ⟨i,k,List.mem_range.1 hi,List.mem_range.1 hk,rfl⟩
 ·rintro ⟨i,k,hi,hk,rfl⟩
  exact ⟨i,List.mem_range.2 hi,List.mem_map.2 ⟨k,List.mem_range.2 hk,rfl⟩⟩
theorem QiO {cs:List Cabin} {i:Nat} (hi:i < cs.length):(ZM cs).getD i 0=(cs.getD i default).beds.toNat:=by
 simp [ZM,List.getD_eq_getElem?_getD,hi]
def QaI (p:Tk→Bool) (l:List Tk):Int:=match l.findIdx? p with
 |some i=>(i:Int)
 |none=>-1
theorem Qf1 {p:Tk→Bool} {l:List Tk} {k:Nat} (hk:k < l.length) (h:∀ j,j < k→p (l.getD j default)=false) (hp:p (l.getD k default)=true):QaI p l=(k:Int):=by
 have:l.findIdx? p=some k:=by
  rw [List.findIdx?_eq_some_iff_getElem]
  refine ⟨hk,by simpa [List.getD_eq_getElem?_getD,hk] using hp,fun j hj=>?_⟩
  have:=h j hj
  simpa [List.getD_eq_getElem?_getD,show j < l.length by omega] using this
 simp [QaI,this]
theorem Qe8 {p:Tk→Bool} {l:List Tk} (h:∀ j,j < l.length→p (l.getD j default)=false):QaI p l=-1:=by
 have:l.findIdx? p=none:=by
  rw [List.findIdx?_eq_none_iff]
  intro x hx
  obtain ⟨j,hj,rfl⟩:=List.mem_iff_getElem.1 hx
  have:=h j hj
  simpa [List.getD_eq_getElem?_getD,hj] using this
 simp [QaI,this]
theorem Qgr (p:Tk→Bool) (l:List Tk):decide (0≤QaI p l)=l.any p:=by
 unfold QaI
 cases h:l.findIdx? p with
 |none =>
  rw [List.findIdx?_eq_none_iff] at h
  symm
  simpa using h
 |some i =>
  rw [List.findIdx?_eq_some_iff_getElem] at h
  obtain ⟨hi,hp,_⟩:=h
  symm
  simp only [Int.natCast_nonneg,decide_true,List.any_eq_true]
  exact ⟨_,List.getElem_mem hi,hp⟩
structure PCs (cs:List AV):Prop where
 ids:AV.idsL cs=[]
 le:∀ h σ,AV.leL h σ cs cs=True
 ren:∀ τ,AV.renL τ cs=cs
theorem Qgs (t:Tk):PCs (cTk t):=⟨by simp [cTk,AV.idsL,AV.ids],by simp [cTk,AV.leL,AV.le],by simp [cTk,AV.renL,AV.ren]⟩
def pTk (cs:List AV) (p:Tk→Bool) (S:St):List AV→Option Pk
 |[.agg [.v (.int .i64 a),.v (.int .i64 b),.v (.int .i64 c),.v (.int .i64 d),.v (.int .i64 e),.v (.int .i64 f),.v (.bool g)],.ptr t 0]=>match S.h t with
  |some (.cells cs')=>some { pre:=cs'=cs,hs:=[t],ar:=[.agg [.v (.int .i64 a),.v (.int .i64 b),.v (.int .i64 c),.v (.int .i64 d),.v (.int .i64 e),.v (.int .i64 f),.v (.bool g)],.ptr 0 0],L0:=[.cells cs],v:=aB (p ⟨a,b,c,d,e,f,g⟩),L1:=[some (.cells cs)] }
  |_=>none
 |_=>none
def J9 (cl:Nat) (cs:List AV) (p:Tk→Bool):Prop:=∀ x,Fn noB Tryz.prog cl [aTk x,.ptr 0 0] (qj [(0,.cells cs)]) (aB (p x)) (qj [(0,.cells cs)]) 0
theorem eTkp {A:Frm→Prop} {cl:Nat} {cs:List AV} {p:Tk→Bool} (h0:J9 cl cs p):qE A Tryz.prog cl (fnE (pTk cs p)):=zY fun S bs q h hp=>by
 unfold pTk at h
 split at h
 ·split at h
  ·rename_i a b c d e f g t _ cs' _
   cases h
   exact h0 ⟨a,b,c,d,e,f,g⟩
  ·cases h
 ·cases h
def ixS (l:List Tk) (cl:Nat) (cs:List AV) (k:Nat):St:={ t:=asg [(0,ql l),(1,.clo cl [.ptr 0 0]),(4,aI 0),(6,ql l),(7,aI l.length),(8,aI k)],h:=qj [(0,.cells cs)],n:=1,m:=1 }
def jT:=kk @ty3 (kk @x9 (kk @yU (kk @ti3.eq_1 (kk @xD.eq_1 @yA.eq_1))))
def QQ:=kk @aI.eq_1 (kk @aB.eq_1 (@ixS.eq_1))
theorem QgF {cl:Nat} {cs:List AV} {p:Tk→Bool} (hc:PCs cs) (h0:J9 cl cs p) (l:List Tk) (hl:l.length≤100):Fn noB Tryz.prog 123 [ql l,.clo cl [.ptr 0 0]] (qj [(0,.cells cs)]) (aI (QaI p l)) (qj [(0,.cells cs)]) 0:=by
 have env:Env (fun _=>True) Tryz.prog tyB (tab [(cl,fnE (pTk cs p))]):=qL ⟨eTkp h0,trivial⟩
 obtain ⟨c1,c2,c4⟩:=hc
 refine Fn.of (A:=fun _=>True) (n0:=1) (D:=noD) (Fn0 Tryz.func123 rfl (fun vs w=>by kernel_rfl) (by kernel_rfl)) (by simp) (by simp [AV.ids,AV.idsL,ql]) ?_ (fun _ _ _ _=>trivial) qF ?_
 ·intro i o hi
  have h:=qR hi
  simp at h;obtain ⟨rfl,rfl⟩:=h;simp [AObj.ids,c1]
 repeat' (first|(apply nx;with_reducible constructor)|refine jq (by decide) ?_|((first|refine kz env fun Q hQ=>?_|refine kj fun Q hQ=>?_);simp only [vkt,seval,jT,QQ,aTk,cTk,ql,eTk,gTk,mTk,pTk];(try simp only [ite_and]);(repeat' (first|with_reducible assumption|refine And.intro ?_ ?_|intro hp));all_goals (first|(refine hQ _ ?_;clear hQ Q)|(refine hQ _ (fun h=>?_) (fun h=>?_) <;> clear hQ Q <;> (try simp only [vki,reduceCtorEq] at h))|(refine kx ?_;kernel_rfl)|omega|assumption|with_reducible rfl|skip)))
 refine qN (fun k:{ k:Nat // k≤l.length∧∀ j,j < k→p (l.getD j default)=false }=>ixS l cl cs k.1) (fun k=>l.length - k.1) ⟨0,Nat.zero_le _,fun j h=>absurd h (Nat.not_lt_zero _)⟩ ?_ fun ⟨k,hk,hno⟩=>?_
 ·(refine Le.ok some [] ?_;constructor;all_goals (try simp only [vle,vkt,seval,jT,QQ,aTk,cTk,ql,eTk,gTk,mTk,pTk]))
  all_goals first|rfl|(simp [c1,c2];done)
 ·repeat' (first|(apply nx;with_reducible constructor)|refine jq (by decide) ?_)
  (refine kz env fun Q hQ=>?_;simp only [vkt,seval,jT,QQ,aTk,cTk,ql,eTk,gTk,mTk,pTk];(try simp only [ite_and]);(repeat' (first|with_reducible assumption|refine And.intro ?_ ?_|intro hp));all_goals (first|(refine hQ _ ?_;clear hQ Q)|(refine kx ?_;kernel_rfl)|omega|assumption|with_reducible rfl|skip))
  repeat' (first|(apply nx;with_reducible constructor)|refine jq (by decide) ?_)
  (refine yY (by simp only [vkt,seval,jT,QQ,aTk,cTk,ql,eTk,gTk,mTk,pTk];rfl) (fun h=>?_) (fun h=>?_) <;> (try simp only [vki,reduceCtorEq] at h))
  ·have hlt:k < l.length:=by omega
   have e9:IntKind.wrap .i64 ((k:Int)+1)=((k+1:Nat):Int):=by rw [wrap64 (by omega) (by omega)];rfl
   obtain ⟨x,hx⟩:∃ x,l.getD k default=x:=⟨_,rfl⟩
   have ex:(⟨x.party,x.sex,x.cab,x.bed,x.frm,x.to,x.dog⟩:Tk)=x:=rfl
   cases hp:p x
   ·repeat' (first|(apply nx;with_reducible constructor)|refine jq (by decide) ?_|((first|refine kz env fun Q hQ=>?_|refine kj fun Q hQ=>?_);simp only [vkt,seval,jT,QQ,aTk,cTk,ql,eTk,gTk,mTk,pTk,hx,ex,hp,e9,c1,c2,c4];(try simp only [ite_and]);(repeat' (first|with_reducible assumption|refine And.intro ?_ ?_|intro hp));all_goals (first|(refine hQ _ ?_;clear hQ Q)|(refine hQ _ (fun h=>?_) (fun h=>?_) <;> clear hQ Q <;> (try simp only [vki,reduceCtorEq] at h))|(refine kx ?_;kernel_rfl)|omega|assumption|with_reducible rfl|skip)))
    refine ⟨⟨k+1,hlt,fun j hj=>?_⟩,by show l.length - (k+1) < l.length - k;omega, ?_⟩
    ·rcases Nat.lt_or_eq_of_le (Nat.le_of_lt_succ hj) with h1|h1
     ·exact hno j h1
     ·rw [h1,hx];exact hp
    ·(refine Le.ok some [] ?_;constructor;all_goals (try simp only [vle,vkt,seval,jT,QQ,aTk,cTk,ql,eTk,gTk,mTk,pTk]))
     all_goals first|rfl|(simp [c1,c2];done)
   ·have hh:=Qf1 hlt hno (by rw [hx];exact hp)
    rw [hh]
    repeat' (first|(apply nx;with_reducible constructor)|refine jq (by decide) ?_|((first|refine kz env fun Q hQ=>?_|refine kj fun Q hQ=>?_);simp only [vkt,seval,jT,QQ,aTk,cTk,ql,eTk,gTk,mTk,pTk,hx,ex,hp,e9,c1,c2,c4];(try simp only [ite_and]);(repeat' (first|with_reducible assumption|refine And.intro ?_ ?_|intro hp));all_goals (first|(refine hQ _ ?_;clear hQ Q)|(refine hQ _ (fun h=>?_) (fun h=>?_) <;> clear hQ Q <;> (try simp only [vki,reduceCtorEq] at h))|(refine kx ?_;kernel_rfl)|omega|assumption|with_reducible rfl|skip)))
    (simp only [vrt,Tryz.results123,c1,c2,vkt,seval,jT,QQ,aTk,cTk,ql,eTk,gTk,mTk,pTk];refine Fin.ok some [] ?_ ?_ ?_ ?_ ?_ rfl;all_goals (try simp only [vle,vkt,seval,jT,QQ,aTk,cTk,ql,eTk,gTk,mTk,pTk]))
    all_goals first|rfl|(simp [c1,c2];done)
  ·have hke:k=l.length:=by omega
   subst hke
   rw [Qe8 hno]
   repeat' (first|(apply nx;with_reducible constructor)|refine jq (by decide) ?_|((first|refine kz env fun Q hQ=>?_|refine kj fun Q hQ=>?_);simp only [vkt,seval,jT,QQ,aTk,cTk,ql,eTk,gTk,mTk,pTk,c1,c2];(try simp only [ite_and]);(repeat' (first|with_reducible assumption|refine And.intro ?_ ?_|intro hp));all_goals (first|(refine hQ _ ?_;clear hQ Q)|(refine hQ _ (fun h=>?_) (fun h=>?_) <;> clear hQ Q <;> (try simp only [vki,reduceCtorEq] at h))|(refine kx ?_;kernel_rfl)|omega|assumption|with_reducible rfl|skip)))
   (simp only [vrt,Tryz.results123,c1,c2,vkt,seval,jT,QQ,aTk,cTk,ql,eTk,gTk,mTk,pTk];refine Fin.ok some [] ?_ ?_ ?_ ?_ ?_ rfl;all_goals (try simp only [vle,vkt,seval,jT,QQ,aTk,cTk,ql,eTk,gTk,mTk,pTk]))
   all_goals first|rfl|(simp [c1,c2];done)
def Qer (cl:Nat) (cs:List AV) (p:Tk→Bool) (S:St):List AV→Option Pk
 |[.sl xs,.clo f [.ptr t 0]]=>match S.h t with
  |some (.cells cs')=>some { pre:=f=cl∧cs'=cs∧xs=(xs.map dTk).map eTk∧xs.length≤100,hs:=[t],ar:=[.sl xs,.clo cl [.ptr 0 0]],L0:=[.cells cs],v:=aI (QaI p (xs.map dTk)),L1:=[some (.cells cs)] }
  |_=>none
 |_=>none
theorem eIdx {A:Frm→Prop} {cl:Nat} {cs:List AV} {p:Tk→Bool} (hc:PCs cs) (h0:J9 cl cs p):qE A Tryz.prog 123 (fnE (Qer cl cs p)):=zY fun S bs q h hp=>by
 unfold Qer at h
 split at h
 ·split at h
  ·cases h
   obtain ⟨_,_,h1,h2⟩:=hp
   have:=QgF hc h0 (List.map dTk _) (by rw [List.length_map];exact h2)
   rw [ql,← h1] at this
   exact this
  ·cases h
 ·cases h
def YX:=kk @ty3 @ti3.eq_1
def QbF:=kk @aI.eq_1 (@aB.eq_1)
theorem RY {cl:Nat} {cs:List AV} {p:Tk→Bool} (hc:PCs cs) (h0:J9 cl cs p) (l:List Tk) (hl:l.length≤100):Fn noB Tryz.prog 124 [ql l,.clo cl [.ptr 0 0]] (qj [(0,.cells cs)]) (aB (l.any p)) (qj [(0,.cells cs)]) 0:=by
 have env:Env (fun _=>True) Tryz.prog tyB (tab [(123,fnE (Qer cl cs p))]):=qL ⟨eIdx hc h0,trivial⟩
 obtain ⟨c1,c2,c4⟩:=hc
 refine Fn.of (A:=fun _=>True) (n0:=1) (D:=noD) (Fn0 Tryz.func124 rfl (fun vs w=>by kernel_rfl) (by kernel_rfl)) (by simp) (by simp [AV.ids,AV.idsL,ql]) ?_ (fun _ _ _ _=>trivial) qF ?_
 ·intro i o hi
  have h:=qR hi
  simp at h;obtain ⟨rfl,rfl⟩:=h;simp [AObj.ids,c1]
 repeat' (first|(apply nx;with_reducible constructor)|refine jq (by decide) ?_|((first|refine kz env fun Q hQ=>?_|refine kj fun Q hQ=>?_);simp only [vkt,seval,YX,QbF,ql,eTk,mTk,Qer,List.length_map,c1,c2,c4];(try simp only [ite_and]);(repeat' (first|with_reducible assumption|refine And.intro ?_ ?_|intro hp));all_goals (first|(refine hQ _ ?_;clear hQ Q)|(refine hQ _ (fun h=>?_) (fun h=>?_) <;> clear hQ Q <;> (try simp only [vki,reduceCtorEq] at h))|(refine kx ?_;kernel_rfl)|omega|assumption|with_reducible rfl|skip)))
 (simp only [vrt,Tryz.results124,Qgr,c1,c2,vkt,seval,YX,QbF,ql,eTk,mTk,Qer,List.length_map];refine Fin.ok some [] ?_ ?_ ?_ ?_ ?_ rfl;all_goals (try simp only [vle,vkt,seval,YX,QbF,ql,eTk,mTk,Qer,List.length_map]))
 all_goals first|rfl|(simp [c1,c2];done)
def Vr:=kk @xJ (kk @yU (kk @vZ.eq_1 @yA.eq_1))
def Vb:=kk @aI.eq_1 (@aB.eq_1)
theorem QiZ (t:Tk):J9 136 (cTk t) (xq t):=fun x=>by
 have env:Env (fun _=>True) Tryz.prog tyB (tab [(137,qX true ZE)]):=qL ⟨Qjp,trivial⟩
 refine Fn.of (A:=fun _=>True) (n0:=1) (D:=noD) (Fn0 Tryz.func136 rfl (fun vs w=>by kernel_rfl) (by kernel_rfl)) (by simp) (by simp [AV.ids,AV.idsL,aTk,cTk]) ?_ (fun _ _ _ _=>trivial) qF ?_
 ·intro i o hi
  have h:=qR hi
  simp at h;obtain ⟨rfl,rfl⟩:=h;simp [cTk,AObj.ids,AV.ids,AV.idsL]
 have em:xH ⟨x.party,x.sex,x.cab,x.bed,x.frm,x.to,x.dog⟩ ⟨t.party,t.sex,t.cab,t.bed,t.frm,t.to,t.dog⟩=xH x t:=rfl
 repeat' (first|(apply nx;with_reducible constructor)|refine jq (by decide) ?_|((first|refine kz env fun Q hQ=>?_|refine kj fun Q hQ=>?_);simp only [vkt,seval,Vr,Vb,aTk,cTk,ZE,Ub,em];(try simp only [ite_and]);(repeat' (first|with_reducible assumption|refine And.intro ?_ ?_|intro hp));all_goals (first|(refine hQ _ ?_;clear hQ Q)|(refine hQ _ (fun h=>?_) (fun h=>?_) <;> clear hQ Q <;> (try simp only [vki,reduceCtorEq] at h))|(refine kx ?_;kernel_rfl)|omega|assumption|with_reducible rfl|skip)))
 all_goals (simp only [vrt,Tryz.results136,vkt,seval,Vr,Vb,aTk,cTk,ZE,Ub];refine Fin.ok some [] ?_ ?_ ?_ ?_ ?_ rfl;all_goals (try simp only [vle,vkt,seval,Vr,Vb,aTk,cTk,ZE,Ub]))
 all_goals first|rfl|(simp [xq, *];done)|(simp_all [xq];done)
def Y1:=kk @yU @yA.eq_1
theorem Qiq (t:Tk):J9 138 (cTk t) (fun x=>!QC x t):=fun x=>by
 have env:Env (fun _=>True) Tryz.prog tyB (tab [(139,qX true Ub)]):=qL ⟨etog,trivial⟩
 refine Fn.of (A:=fun _=>True) (n0:=1) (D:=noD) (Fn0 Tryz.func138 rfl (fun vs w=>by kernel_rfl) (by kernel_rfl)) (by simp) (by simp [AV.ids,AV.idsL,aTk,cTk]) ?_ (fun _ _ _ _=>trivial) qF ?_
 ·intro i o hi
  have h:=qR hi
  simp at h;obtain ⟨rfl,rfl⟩:=h;simp [cTk,AObj.ids,AV.ids,AV.idsL]
 have em:QC ⟨x.party,x.sex,x.cab,x.bed,x.frm,x.to,x.dog⟩ ⟨t.party,t.sex,t.cab,t.bed,t.frm,t.to,t.dog⟩=QC x t:=rfl
 repeat' (first|(apply nx;with_reducible constructor)|refine jq (by decide) ?_|((first|refine kz env fun Q hQ=>?_|refine kj fun Q hQ=>?_);simp only [vkt,seval,Y1,Vb,aTk,cTk,ZE,Ub,em];(try simp only [ite_and]);(repeat' (first|with_reducible assumption|refine And.intro ?_ ?_|intro hp));all_goals (first|(refine hQ _ ?_;clear hQ Q)|(refine hQ _ (fun h=>?_) (fun h=>?_) <;> clear hQ Q <;> (try simp only [vki,reduceCtorEq] at h))|(refine kx ?_;kernel_rfl)|omega|assumption|with_reducible rfl|skip)))
 all_goals (simp only [vrt,Tryz.results138,vkt,seval,Y1,Vb,aTk,cTk,ZE,Ub];refine Fin.ok some [] ?_ ?_ ?_ ?_ ?_ rfl;all_goals (try simp only [vle,vkt,seval,Y1,Vb,aTk,cTk,ZE,Ub]))
 all_goals first|rfl|(simp;done)
def Yq (S:St):List AV→Option Pk
 |[.sl xs,.clo 136 [.ptr t 0]]=>match S.h t with
  |some (.cells [.v (.int .i64 a),.v (.int .i64 b),.v (.int .i64 c),.v (.int .i64 d),.v (.int .i64 e),.v (.int .i64 f),.v (.bool g)])=>some { pre:=xs=(xs.map dTk).map eTk∧xs.length≤100,hs:=[t],ar:=[.sl xs,.clo 136 [.ptr 0 0]],L0:=[.cells (cTk ⟨a,b,c,d,e,f,g⟩)],v:=aB ((xs.map dTk).any (xq ⟨a,b,c,d,e,f,g⟩)),L1:=[some (.cells (cTk ⟨a,b,c,d,e,f,g⟩))] }
  |_=>none
 |[.sl xs,.clo 138 [.ptr t 0]]=>match S.h t with
  |some (.cells [.v (.int .i64 a),.v (.int .i64 b),.v (.int .i64 c),.v (.int .i64 d),.v (.int .i64 e),.v (.int .i64 f),.v (.bool g)])=>some { pre:=xs=(xs.map dTk).map eTk∧xs.length≤100,hs:=[t],ar:=[.sl xs,.clo 138 [.ptr 0 0]],L0:=[.cells (cTk ⟨a,b,c,d,e,f,g⟩)],v:=aB ((xs.map dTk).any fun x=>!QC x ⟨a,b,c,d,e,f,g⟩),L1:=[some (.cells (cTk ⟨a,b,c,d,e,f,g⟩))] }
  |_=>none
 |_=>none
theorem eCont {A:Frm→Prop}:qE A Tryz.prog 124 (fnE Yq):=zY fun S bs q h hp=>by
 unfold Yq at h
 split at h
 ·split at h
  ·rename_i xs t _ a b c d e f g _
   cases h
   obtain ⟨h1,h2⟩:=hp
   have:=RY (Qgs ⟨a,b,c,d,e,f,g⟩) (QiZ ⟨a,b,c,d,e,f,g⟩) (xs.map dTk) (by rw [List.length_map];exact h2)
   rw [ql,← h1] at this
   exact this
  ·cases h
 ·split at h
  ·rename_i xs t _ a b c d e f g _
   cases h
   obtain ⟨h1,h2⟩:=hp
   have:=RY (Qgs ⟨a,b,c,d,e,f,g⟩) (Qiq ⟨a,b,c,d,e,f,g⟩) (xs.map dTk) (by rw [List.length_map];exact h2)
   rw [ql,← h1] at this
   exact this
  ·cases h
 ·cases h
def Y6:=kk @aI.eq_1 (@aB.eq_1)
theorem QeG (t:Tk) (l:List Tk) (hl:l.length≤100):FnV Tryz.prog 118 [aTk t,ql l] (aI (wh t l)):=by
 have env:Env (fun _=>True) Tryz.prog tyB (tab [(124,fnE Yq)]):=qL ⟨eCont,trivial⟩
 refine Fn.of (A:=fun _=>True) (n0:=0) (D:=noD) (Fn0 Tryz.func118 rfl (fun vs w=>by kernel_rfl) (by kernel_rfl)) (by simp) (by simp [AV.ids,AV.idsL,aTk,cTk,ql]) (fun i o h=>by cases h) (fun _ _ _ _=>trivial) qF ?_
 have et:(⟨t.party,t.sex,t.cab,t.bed,t.frm,t.to,t.dog⟩:Tk)=t:=rfl
 cases h1:l.any (xq t)
 ·cases h2:l.any (fun x=>!QC x t)
  ·rw [show wh t l=0 by simp [wh,h1,h2]]
   repeat' (first|(apply nx;with_reducible constructor)|refine jq (by decide) ?_|((first|refine kz env fun Q hQ=>?_|refine kj fun Q hQ=>?_);simp only [vkt,seval,Y6,aTk,cTk,ql,eTk,mTk,Yq,List.length_map,et,h1,h2];(try simp only [ite_and]);(repeat' (first|with_reducible assumption|refine And.intro ?_ ?_|intro hp));all_goals (first|(refine hQ _ ?_;clear hQ Q)|(refine hQ _ (fun h=>?_) (fun h=>?_) <;> clear hQ Q <;> (try simp only [vki,reduceCtorEq] at h))|(refine kx ?_;kernel_rfl)|omega|assumption|with_reducible rfl|skip)))
   (simp only [vrt,Tryz.results118,vkt,seval,Y6,aTk,cTk,ql,eTk,mTk,Yq,List.length_map];refine Fin.val rfl ?_;(try simp only [AV.le,AV.leL]))
   all_goals first|rfl|(simp;done)
  ·rw [show wh t l=9 by simp [wh,h1,h2]]
   repeat' (first|(apply nx;with_reducible constructor)|refine jq (by decide) ?_|((first|refine kz env fun Q hQ=>?_|refine kj fun Q hQ=>?_);simp only [vkt,seval,Y6,aTk,cTk,ql,eTk,mTk,Yq,List.length_map,et,h1,h2];(try simp only [ite_and]);(repeat' (first|with_reducible assumption|refine And.intro ?_ ?_|intro hp));all_goals (first|(refine hQ _ ?_;clear hQ Q)|(refine hQ _ (fun h=>?_) (fun h=>?_) <;> clear hQ Q <;> (try simp only [vki,reduceCtorEq] at h))|(refine kx ?_;kernel_rfl)|omega|assumption|with_reducible rfl|skip)))
   (simp only [vrt,Tryz.results118,vkt,seval,Y6,aTk,cTk,ql,eTk,mTk,Yq,List.length_map];refine Fin.val rfl ?_;(try simp only [AV.le,AV.leL]))
   all_goals first|rfl|(simp;done)
 ·rw [show wh t l=4 by simp [wh,h1]]
  repeat' (first|(apply nx;with_reducible constructor)|refine jq (by decide) ?_|((first|refine kz env fun Q hQ=>?_|refine kj fun Q hQ=>?_);simp only [vkt,seval,Y6,aTk,cTk,ql,eTk,mTk,Yq,List.length_map,et,h1];(try simp only [ite_and]);(repeat' (first|with_reducible assumption|refine And.intro ?_ ?_|intro hp));all_goals (first|(refine hQ _ ?_;clear hQ Q)|(refine hQ _ (fun h=>?_) (fun h=>?_) <;> clear hQ Q <;> (try simp only [vki,reduceCtorEq] at h))|(refine kx ?_;kernel_rfl)|omega|assumption|with_reducible rfl|skip)))
  (simp only [vrt,Tryz.results118,vkt,seval,Y6,aTk,cTk,ql,eTk,mTk,Yq,List.length_map];refine Fin.val rfl ?_;(try simp only [AV.le,AV.leL]))
  all_goals first|rfl|(simp;done)
def j4:List AV→Prop × AV
 |[.agg [.v (.int .i64 t0),.v (.int .i64 t1),.v (.int .i64 t2),.v (.int .i64 t3),.v (.int .i64 t4),.v (.int .i64 t5),.v (.bool t6)],.sl l]=>(l=(l.map dTk).map eTk∧(l.map dTk).length≤100,aI (wh (⟨t0,t1,t2,t3,t4,t5,t6⟩:Tk) (l.map dTk)))
 |_=>(False,.junk)
theorem Qdq {A:Frm→Prop}:qE A Tryz.prog 118 (qX true j4):=qW fun vs hv h=>by
 clear hv
 unfold j4 at h ⊢
 split at h
 ·rename_i t0 t1 t2 t3 t4 t5 t6 l;obtain ⟨q0,k0⟩:=h
  refine ⟨by first|trivial|(simp [AV.plain,AV.plainL,aI,aB,qz,qc,ql,qf,aTk,cTk];done)|(repeat' split) <;> simp [AV.plain,AV.plainL,aI,aB,qz,qc,ql,qf,aTk,cTk],fun _=>(by simp [AV.flat,AV.flatL,aI,aB]), ?_⟩
  have:=QeG (⟨t0,t1,t2,t3,t4,t5,t6⟩:Tk) (l.map dTk) k0
  simp only [aB,aI,aTk,ql,cTk,← q0] at this
  first|exact this|(simp only [aB,aI,aTk,ql,cTk,← q0];exact this)
 ·exact h.elim
theorem mapD {α:Type} [Inhabited α] {f:α→Int} {l:List α} {j:Nat} (h:j < l.length):(l.map f).getD j 0=f (l.getD j default):=by simp [List.getD_eq_getElem?_getD,h]
theorem Qek {f:Nat→Int} {n j:Nat} (h:j < n):((List.range n).map f).getD j 0=f j:=by simp [List.getD_eq_getElem?_getD,h]
def crS (c:Chart) (k:Nat):St:={ t:=asg [(1,.ptr 0 0),(2,aI 0),(14,.sl (c.cabins.map qh)),(15,aI c.cabins.length),(16,aI k)],h:=qj [(0,.cells (qb c))],n:=1 }
def yL:=kk @ty3 (kk @W9 (kk @x9 (kk @yc (kk @Zc (kk @yU (kk @Jz (kk @ti3.eq_1 (kk @ZT.eq_1 (kk @xD.eq_1 (kk @jM.eq_1 (kk @QA.eq_1 (kk @yA.eq_1 @Z4.eq_1))))))))))))
def kK:=kk @aI.eq_1 (@aB.eq_1)
theorem Qke (c:Chart) (hc:c.cabins.length≤maxLen):FnV Tryz.prog 113 [qa c] (aI (ZN c)):=by
 have env:Env (fun _=>True) Tryz.prog tyB (tab [(77,qX true sin),(91,qX true zl)]):=qL ⟨ein,LU,trivial⟩
 refine Fn.of (A:=fun _=>True) (n0:=0) (D:=noD) (Fn0 Tryz.func113 rfl (fun vs w=>by kernel_rfl) (by kernel_rfl)) (by simp) (by simp [AV.ids,AV.idsL,qa,qb]) (fun i o h=>by cases h) (fun _ _ _ _=>trivial) qF ?_
 by_cases h1:zt c.cabins.length 1 3=0
 ·have hl:c.cabins.length≤3:=by
   unfold zt at h1
   split at h1
   ·exact absurd h1 (by decide)
   ·split at h1
    ·exact absurd h1 (by decide)
    ·omega
  repeat' (first|(apply nx;with_reducible constructor)|refine jq (by decide) ?_|((first|refine kz env fun Q hQ=>?_|refine kj fun Q hQ=>?_);simp only [vkt,seval,yL,kK,qa,qb,qh,qC,crS,sin,zl,h1];(try simp only [ite_and]);(repeat' (first|with_reducible assumption|refine And.intro ?_ ?_|intro hp));all_goals (first|(refine hQ _ ?_;clear hQ Q)|(refine hQ _ (fun h=>?_) (fun h=>?_) <;> clear hQ Q <;> (try simp only [vki,reduceCtorEq] at h))|(refine kx ?_;kernel_rfl)|omega|assumption|with_reducible rfl|skip)))
  refine qN (fun k:{ k:Nat // k≤c.cabins.length∧∀ j,j < k→(c.cabins.map kI).getD j 0=0 }=>crS c k.1) (fun k=>c.cabins.length - k.1) ⟨0,Nat.zero_le _,fun j h=>absurd h (Nat.not_lt_zero _)⟩ ?_ fun ⟨k,hk,hno⟩=>?_
  ·(refine Le.ok some [] ?_;constructor;all_goals (try simp only [vle,vkt,seval,yL,kK,qa,qb,qh,qC,crS,sin,zl]))
   all_goals first|rfl|(simp;done)
  ·repeat' (first|(apply nx;with_reducible constructor)|refine jq (by decide) ?_)
   (refine kz env fun Q hQ=>?_;simp only [vkt,seval,yL,kK,qa,qb,qh,qC,crS,sin,zl];(try simp only [ite_and]);(repeat' (first|with_reducible assumption|refine And.intro ?_ ?_|intro hp));all_goals (first|(refine hQ _ ?_;clear hQ Q)|(refine kx ?_;kernel_rfl)|omega|assumption|with_reducible rfl|skip))
   repeat' (first|(apply nx;with_reducible constructor)|refine jq (by decide) ?_)
   (refine yY (by simp only [vkt,seval,yL,kK,qa,qb,qh,qC,crS,sin,zl];rfl) (fun h=>?_) (fun h=>?_) <;> (try simp only [vki,reduceCtorEq] at h))
   ·have hlt:k < c.cabins.length:=by omega
    have e9:IntKind.wrap .i64 ((k:Int)+1)=((k+1:Nat):Int):=by rw [wrap64 (by omega) (by omega)];rfl
    obtain ⟨x,hx⟩:∃ x,c.cabins.getD k default=x:=⟨_,rfl⟩
    have hm:(c.cabins.map kI).getD k 0=kI x:=by rw [mapD hlt,hx]
    cases hb:inB x.beds 1 3
    ·have hE:kI x=1:=by simp [kI,hb]
     have hf:=kG hno (by simpa using hlt) (by rw [hm,hE];decide)
     rw [hm,hE] at hf
     rw [show ZN c=1 by unfold ZN;rw [if_neg (by rw [h1];simp),hf];simp]
     repeat' (first|(apply nx;with_reducible constructor)|refine jq (by decide) ?_|((first|refine kz env fun Q hQ=>?_|refine kj fun Q hQ=>?_);simp only [vkt,seval,yL,kK,qa,qb,qh,qC,crS,sin,zl,hx,hb,e9];(try simp only [ite_and]);(repeat' (first|with_reducible assumption|refine And.intro ?_ ?_|intro hp));all_goals (first|(refine hQ _ ?_;clear hQ Q)|(refine hQ _ (fun h=>?_) (fun h=>?_) <;> clear hQ Q <;> (try simp only [vki,reduceCtorEq] at h))|(refine kx ?_;kernel_rfl)|omega|assumption|with_reducible rfl|skip)))
     (simp only [vrt,Tryz.results113,vkt,seval,yL,kK,qa,qb,qh,qC,crS,sin,zl];refine Fin.val rfl ?_;(try simp only [AV.le,AV.leL]))
     all_goals first|rfl|(simp;done)
    ·have hE:kI x=0:=by simp [kI,hb]
     repeat' (first|(apply nx;with_reducible constructor)|refine jq (by decide) ?_|((first|refine kz env fun Q hQ=>?_|refine kj fun Q hQ=>?_);simp only [vkt,seval,yL,kK,qa,qb,qh,qC,crS,sin,zl,hx,hb,e9];(try simp only [ite_and]);(repeat' (first|with_reducible assumption|refine And.intro ?_ ?_|intro hp));all_goals (first|(refine hQ _ ?_;clear hQ Q)|(refine hQ _ (fun h=>?_) (fun h=>?_) <;> clear hQ Q <;> (try simp only [vki,reduceCtorEq] at h))|(refine kx ?_;kernel_rfl)|omega|assumption|with_reducible rfl|skip)))
     refine ⟨⟨k+1,hlt,fun j hj=>?_⟩,by show c.cabins.length - (k+1) < c.cabins.length - k;omega, ?_⟩
     ·rcases Nat.lt_or_eq_of_le (Nat.le_of_lt_succ hj) with h2|h2
      ·exact hno j h2
      ·rw [h2,hm,hE]
     ·(refine Le.ok some [] ?_;constructor;all_goals (try simp only [vle,vkt,seval,yL,kK,qa,qb,qh,qC,crS,sin,zl]))
      all_goals first|rfl|(simp;done)
   ·have hke:k=c.cabins.length:=by omega
    subst hke
    have hf:yw (c.cabins.map kI)=0:=yo (by simpa using hno)
    cases hs:inB c.secs 1 5
    ·rw [show ZN c=1 by unfold ZN;rw [if_neg (by rw [h1];simp),if_neg (by rw [hf];simp),hs];rfl]
     repeat' (first|(apply nx;with_reducible constructor)|refine jq (by decide) ?_|((first|refine kz env fun Q hQ=>?_|refine kj fun Q hQ=>?_);simp only [vkt,seval,yL,kK,qa,qb,qh,qC,crS,sin,zl,hs];(try simp only [ite_and]);(repeat' (first|with_reducible assumption|refine And.intro ?_ ?_|intro hp));all_goals (first|(refine hQ _ ?_;clear hQ Q)|(refine hQ _ (fun h=>?_) (fun h=>?_) <;> clear hQ Q <;> (try simp only [vki,reduceCtorEq] at h))|(refine kx ?_;kernel_rfl)|omega|assumption|with_reducible rfl|skip)))
     (simp only [vrt,Tryz.results113,vkt,seval,yL,kK,qa,qb,qh,qC,crS,sin,zl];refine Fin.val rfl ?_;(try simp only [AV.le,AV.leL]))
     all_goals first|rfl|(simp;done)
    ·rw [show ZN c=zt c.sold.length 0 8 by unfold ZN;rw [if_neg (by rw [h1];simp),if_neg (by rw [hf];simp),hs];rfl]
     repeat' (first|(apply nx;with_reducible constructor)|refine jq (by decide) ?_|((first|refine kz env fun Q hQ=>?_|refine kj fun Q hQ=>?_);simp only [vkt,seval,yL,kK,qa,qb,qh,qC,crS,sin,zl,hs];(try simp only [ite_and]);(repeat' (first|with_reducible assumption|refine And.intro ?_ ?_|intro hp));all_goals (first|(refine hQ _ ?_;clear hQ Q)|(refine hQ _ (fun h=>?_) (fun h=>?_) <;> clear hQ Q <;> (try simp only [vki,reduceCtorEq] at h))|(refine kx ?_;kernel_rfl)|omega|assumption|with_reducible rfl|skip)))
     (simp only [vrt,Tryz.results113,vkt,seval,yL,kK,qa,qb,qh,qC,crS,sin,zl];refine Fin.val rfl ?_;(try simp only [AV.le,AV.leL]))
     all_goals first|rfl|(simp;done)
 ·rw [show ZN c=zt c.cabins.length 1 3 by unfold ZN;rw [if_pos h1]]
  repeat' (first|(apply nx;with_reducible constructor)|refine jq (by decide) ?_|((first|refine kz env fun Q hQ=>?_|refine kj fun Q hQ=>?_);simp only [vkt,seval,yL,kK,qa,qb,qh,qC,crS,sin,zl,h1];(try simp only [ite_and]);(repeat' (first|with_reducible assumption|refine And.intro ?_ ?_|intro hp));all_goals (first|(refine hQ _ ?_;clear hQ Q)|(refine hQ _ (fun h=>?_) (fun h=>?_) <;> clear hQ Q <;> (try simp only [vki,reduceCtorEq] at h))|(refine kx ?_;kernel_rfl)|omega|assumption|with_reducible rfl|skip)))
  (simp only [vrt,Tryz.results113,vkt,seval,yL,kK,qa,qb,qh,qC,crS,sin,zl];refine Fin.val rfl ?_;(try simp only [AV.le,AV.leL]))
  all_goals first|rfl|(simp;done)
def Yj:List AV→Prop × AV
 |[.agg [.sl c0,.v (.int .i64 c1),.sl c2]]=>(c0=(c0.map qw).map qh∧c2=(c2.map dTk).map eTk∧c0.length≤maxLen,aI (ZN (⟨(c0.map qw),c1,(c2.map dTk)⟩:Chart)))
 |_=>(False,.junk)
theorem ecar {A:Frm→Prop}:qE A Tryz.prog 113 (qX true Yj):=qW fun vs hv h=>by
 clear hv
 unfold Yj at h ⊢
 split at h
 ·rename_i c0 c1 c2;obtain ⟨q0,q1,k0⟩:=h
  refine ⟨by first|trivial|(simp [AV.plain,AV.plainL,aI,aB,qz,qc,ql,qf,aTk,cTk];done)|(repeat' split) <;> simp [AV.plain,AV.plainL,aI,aB,qz,qc,ql,qf,aTk,cTk],fun _=>(by simp [AV.flat,AV.flatL,aI,aB]), ?_⟩
  have:=Qke (⟨(c0.map qw),c1,(c2.map dTk)⟩:Chart) (by simpa using k0)
  simp only [qY,qa,aI,ql,qb,← q0,← q1] at this
  first|exact this|(simp only [qY,qa,aI,ql,qb,← q0,← q1];exact this)
 ·exact h.elim
def jd:=kk @ty3 (kk @W9 (kk @yc (kk @Zc (kk @xJ (kk @yU (kk @Jz (kk @ti3.eq_1 (kk @ZT.eq_1 (kk @jM.eq_1 (kk @QA.eq_1 (kk @vZ.eq_1 (kk @yA.eq_1 @Z4.eq_1))))))))))))
def QP:=kk @aI.eq_1 (@aB.eq_1)
theorem QdS (c:Chart) (t:Tk) (l:List Tk) (hc:CarOk c) (hl:l.length≤100):FnV Tryz.prog 114 [qa c,aTk t,ql l] (aI (zH c t l)):=by
 have env:Env (fun _=>True) Tryz.prog tyB (tab [(77,qX true sin),(78,qX true xA),(118,qX true j4)]):=qL ⟨ein,eway,Qdq,trivial⟩
 refine Fn.of (A:=fun _=>True) (n0:=0) (D:=noD) (Fn0 Tryz.func114 rfl (fun vs w=>by kernel_rfl) (by kernel_rfl)) (by simp) (by simp [AV.ids,AV.idsL,qa,qb,aTk,cTk,ql]) (fun i o h=>by cases h) (fun _ _ _ _=>trivial) qF ?_
 have hcl:=hc.cabs
 have et:(⟨t.party,t.sex,t.cab,t.bed,t.frm,t.to,t.dog⟩:Tk)=t:=rfl
 have w1:IntKind.wrap .i64 ((c.cabins.length:Int) - 1)=(c.cabins.length:Int) - 1:=wrap64 (by omega) (by omega)
 have rest:inB t.party 1 99=true→inB t.sex 1 2=true→jN c.cabins t.cab t.bed=true→zH c t l=if QO c.secs t.frm t.to ≠ 0 then QO c.secs t.frm t.to else wh t l:=fun a1 a2 a3=>by
  unfold zH;simp [a1,a2,a3]
 cases h1:inB t.party 1 99
 ·rw [show zH c t l=1 by simp [zH,h1]]
  repeat' (first|(apply nx;with_reducible constructor)|refine jq (by decide) ?_|((first|refine kz env fun Q hQ=>?_|refine kj fun Q hQ=>?_);simp only [vkt,seval,jd,QP,qa,qb,aTk,cTk,ql,qh,qC,qd,mTk,sin,xA,j4,List.length_map,h1,et];(try simp only [ite_and]);(repeat' (first|with_reducible assumption|refine And.intro ?_ ?_|intro hp));all_goals (first|(refine hQ _ ?_;clear hQ Q)|(refine hQ _ (fun h=>?_) (fun h=>?_) <;> clear hQ Q <;> (try simp only [vki,reduceCtorEq] at h))|(refine kx ?_;kernel_rfl)|omega|assumption|with_reducible rfl|skip)))
  (simp only [vrt,Tryz.results114,vkt,seval,jd,QP,qa,qb,aTk,cTk,ql,qh,qC,qd,mTk,sin,xA,j4,List.length_map];refine Fin.val rfl ?_;(try simp only [AV.le,AV.leL]))
  all_goals first|rfl|(simp;done)
 cases h2:inB t.sex 1 2
 ·rw [show zH c t l=8 by simp [zH,h1,h2]]
  repeat' (first|(apply nx;with_reducible constructor)|refine jq (by decide) ?_|((first|refine kz env fun Q hQ=>?_|refine kj fun Q hQ=>?_);simp only [vkt,seval,jd,QP,qa,qb,aTk,cTk,ql,qh,qC,qd,mTk,sin,xA,j4,List.length_map,h1,h2,et];(try simp only [ite_and]);(repeat' (first|with_reducible assumption|refine And.intro ?_ ?_|intro hp));all_goals (first|(refine hQ _ ?_;clear hQ Q)|(refine hQ _ (fun h=>?_) (fun h=>?_) <;> clear hQ Q <;> (try simp only [vki,reduceCtorEq] at h))|(refine kx ?_;kernel_rfl)|omega|assumption|with_reducible rfl|skip)))
  (simp only [vrt,Tryz.results114,vkt,seval,jd,QP,qa,qb,aTk,cTk,ql,qh,qC,qd,mTk,sin,xA,j4,List.length_map];refine Fin.val rfl ?_;(try simp only [AV.le,AV.leL]))
  all_goals first|rfl|(simp;done)
 cases h3:inB t.cab 0 ((c.cabins.length:Int) - 1)
 ·rw [show zH c t l=3 by simp [zH,h1,h2,jN,h3]]
  repeat' (first|(apply nx;with_reducible constructor)|refine jq (by decide) ?_|((first|refine kz env fun Q hQ=>?_|refine kj fun Q hQ=>?_);simp only [vkt,seval,jd,QP,qa,qb,aTk,cTk,ql,qh,qC,qd,mTk,sin,xA,j4,List.length_map,h1,h2,h3,w1,et];(try simp only [ite_and]);(repeat' (first|with_reducible assumption|refine And.intro ?_ ?_|intro hp));all_goals (first|(refine hQ _ ?_;clear hQ Q)|(refine hQ _ (fun h=>?_) (fun h=>?_) <;> clear hQ Q <;> (try simp only [vki,reduceCtorEq] at h))|(refine kx ?_;kernel_rfl)|omega|assumption|with_reducible rfl|skip)))
  (simp only [vrt,Tryz.results114,vkt,seval,jd,QP,qa,qb,aTk,cTk,ql,qh,qC,qd,mTk,sin,xA,j4,List.length_map];refine Fin.val rfl ?_;(try simp only [AV.le,AV.leL]))
  all_goals first|rfl|(simp;done)
 have b3:=wL.1 h3
 have g1:0≤t.cab:=b3.1
 have g2:t.cab.toNat < c.cabins.length:=by omega
 obtain ⟨x,hx⟩:∃ x,c.cabins.getD t.cab.toNat default=x:=⟨_,rfl⟩
 have hxb:=hc.beds _ (yB (d:=default) g2)
 rw [hx] at hxb
 have w2:IntKind.wrap .i64 (x.beds - 1)=x.beds - 1:=wrap64 (by omega) (by omega)
 cases h4:inB t.bed 0 (x.beds - 1)
 ·rw [show zH c t l=3 by simp [-List.getD_eq_getElem?_getD,zH,h1,h2,jN,h3,hx,h4]]
  repeat' (first|(apply nx;with_reducible constructor)|refine jq (by decide) ?_|((first|refine kz env fun Q hQ=>?_|refine kj fun Q hQ=>?_);simp only [vkt,seval,jd,QP,qa,qb,aTk,cTk,ql,qh,qC,qd,mTk,sin,xA,j4,List.length_map,h1,h2,h3,h4,w1,w2,hx,g1,g2,et];(try simp only [ite_and]);(repeat' (first|with_reducible assumption|refine And.intro ?_ ?_|intro hp));all_goals (first|(refine hQ _ ?_;clear hQ Q)|(refine hQ _ (fun h=>?_) (fun h=>?_) <;> clear hQ Q <;> (try simp only [vki,reduceCtorEq] at h))|(refine kx ?_;kernel_rfl)|omega|assumption|with_reducible rfl|skip)))
  (simp only [vrt,Tryz.results114,vkt,seval,jd,QP,qa,qb,aTk,cTk,ql,qh,qC,qd,mTk,sin,xA,j4,List.length_map];refine Fin.val rfl ?_;(try simp only [AV.le,AV.leL]))
  all_goals first|rfl|(simp;done)
 have hr:=rest h1 h2 (by simp [-List.getD_eq_getElem?_getD,jN,h3,hx,h4])
 by_cases h5:QO c.secs t.frm t.to=0
 ·rw [if_neg (by rw [h5];simp)] at hr
  rw [hr]
  repeat' (first|(apply nx;with_reducible constructor)|refine jq (by decide) ?_|((first|refine kz env fun Q hQ=>?_|refine kj fun Q hQ=>?_);simp only [vkt,seval,jd,QP,qa,qb,aTk,cTk,ql,qh,qC,qd,mTk,sin,xA,j4,List.length_map,h1,h2,h3,h4,h5,w1,w2,hx,g1,g2,et];(try simp only [ite_and]);(repeat' (first|with_reducible assumption|refine And.intro ?_ ?_|intro hp));all_goals (first|(refine hQ _ ?_;clear hQ Q)|(refine hQ _ (fun h=>?_) (fun h=>?_) <;> clear hQ Q <;> (try simp only [vki,reduceCtorEq] at h))|(refine kx ?_;kernel_rfl)|omega|assumption|with_reducible rfl|skip)))
  (simp only [vrt,Tryz.results114,vkt,seval,jd,QP,qa,qb,aTk,cTk,ql,qh,qC,qd,mTk,sin,xA,j4,List.length_map];refine Fin.val rfl ?_;(try simp only [AV.le,AV.leL]))
  all_goals first|rfl|(simp;done)
 ·rw [if_pos h5] at hr
  rw [hr]
  repeat' (first|(apply nx;with_reducible constructor)|refine jq (by decide) ?_|((first|refine kz env fun Q hQ=>?_|refine kj fun Q hQ=>?_);simp only [vkt,seval,jd,QP,qa,qb,aTk,cTk,ql,qh,qC,qd,mTk,sin,xA,j4,List.length_map,h1,h2,h3,h4,h5,w1,w2,hx,g1,g2,et];(try simp only [ite_and]);(repeat' (first|with_reducible assumption|refine And.intro ?_ ?_|intro hp));all_goals (first|(refine hQ _ ?_;clear hQ Q)|(refine hQ _ (fun h=>?_) (fun h=>?_) <;> clear hQ Q <;> (try simp only [vki,reduceCtorEq] at h))|(refine kx ?_;kernel_rfl)|omega|assumption|with_reducible rfl|skip)))
  (simp only [vrt,Tryz.results114,vkt,seval,jd,QP,qa,qb,aTk,cTk,ql,qh,qC,qd,mTk,sin,xA,j4,List.length_map];refine Fin.val rfl ?_;(try simp only [AV.le,AV.leL]))
  all_goals first|rfl|(simp;done)
def vk:List AV→Prop × AV
 |[.agg [.sl c0,.v (.int .i64 c1),.sl c2],.agg [.v (.int .i64 t0),.v (.int .i64 t1),.v (.int .i64 t2),.v (.int .i64 t3),.v (.int .i64 t4),.v (.int .i64 t5),.v (.bool t6)],.sl l]=>(c0=(c0.map qw).map qh∧c2=(c2.map dTk).map eTk∧l=(l.map dTk).map eTk∧CarOk (⟨(c0.map qw),c1,(c2.map dTk)⟩:Chart)∧(l.map dTk).length≤100,aI (zH (⟨(c0.map qw),c1,(c2.map dTk)⟩:Chart) (⟨t0,t1,t2,t3,t4,t5,t6⟩:Tk) (l.map dTk)))
 |_=>(False,.junk)
theorem QhY {A:Frm→Prop}:qE A Tryz.prog 114 (qX true vk):=qW fun vs hv h=>by
 clear hv
 unfold vk at h ⊢
 split at h
 ·rename_i c0 c1 c2 t0 t1 t2 t3 t4 t5 t6 l;obtain ⟨q0,q1,q2,k0,k1⟩:=h
  refine ⟨by first|trivial|(simp [AV.plain,AV.plainL,aI,aB,qz,qc,ql,qf,aTk,cTk];done)|(repeat' split) <;> simp [AV.plain,AV.plainL,aI,aB,qz,qc,ql,qf,aTk,cTk],fun _=>(by simp [AV.flat,AV.flatL,aI,aB]), ?_⟩
  have:=QdS (⟨(c0.map qw),c1,(c2.map dTk)⟩:Chart) (⟨t0,t1,t2,t3,t4,t5,t6⟩:Tk) (l.map dTk) k0 k1
  simp only [aB,qY,qa,aI,aTk,ql,qb,cTk,← q0,← q1,← q2] at this
  first|exact this|(simp only [aB,qY,qa,aI,aTk,ql,qb,cTk,← q0,← q1,← q2];exact this)
 ·exact h.elim
def ckS (c:Chart) (k:Nat):St:={ t:=asg [(1,.ptr 0 0),(2,aI 0),(13,ql c.sold),(14,aI c.sold.length),(15,aI k)],h:=qj [(0,.cells (qb c))],n:=1 }
def jY:=kk @ty3 (kk @x9 (kk @yc (kk @Zc (kk @yU (kk @ti3.eq_1 (kk @xD.eq_1 (kk @jM.eq_1 (kk @QA.eq_1 @yA.eq_1))))))))
def QN:=kk @aI.eq_1 (@aB.eq_1)
theorem Qgo (c:Chart) (hc:c.cabins.length≤maxLen):FnV Tryz.prog 76 [qa c] (aI (zu c)):=by
 have env:Env (fun _=>True) Tryz.prog tyB (tab [(113,qX true Yj),(114,qX true vk)]):=qL ⟨ecar,QhY,trivial⟩
 refine Fn.of (A:=fun _=>True) (n0:=0) (D:=noD) (Fn0 Tryz.func76 rfl (fun vs w=>by kernel_rfl) (by kernel_rfl)) (by simp) (by simp [AV.ids,AV.idsL,qa,qb]) (fun i o h=>by cases h) (fun _ _ _ _=>trivial) qF ?_
 have ec:(⟨c.cabins,c.secs,c.sold⟩:Chart)=c:=rfl
 by_cases h1:ZN c=0
 ·obtain ⟨hcar,hsl⟩:=QcU h1
  have hE:zu c=zW c c.sold:=by unfold zu;rw [if_neg (by rw [h1];simp)]
  rw [hE]
  repeat' (first|(apply nx;with_reducible constructor)|refine jq (by decide) ?_|((first|refine kz env fun Q hQ=>?_|refine kj fun Q hQ=>?_);simp only [vkt,seval,jY,QN,qa,qb,aTk,cTk,ql,eTk,gTk,rTk,qd,mTk,ckS,Yj,vk,List.length_map,h1,ec];(try simp only [ite_and]);(repeat' (first|with_reducible assumption|refine And.intro ?_ ?_|intro hp));all_goals (first|(refine hQ _ ?_;clear hQ Q)|(refine hQ _ (fun h=>?_) (fun h=>?_) <;> clear hQ Q <;> (try simp only [vki,reduceCtorEq] at h))|(refine kx ?_;kernel_rfl)|omega|assumption|with_reducible rfl|skip)))
  refine qN (fun k:{ k:Nat // k≤c.sold.length∧∀ j,j < k→zH c (c.sold.getD j default) (c.sold.take j)=0 }=>ckS c k.1) (fun k=>c.sold.length - k.1) ⟨0,Nat.zero_le _,fun j h=>absurd h (Nat.not_lt_zero _)⟩ ?_ fun ⟨k,hk,hno⟩=>?_
  ·(refine Le.ok some [] ?_;constructor;all_goals (try simp only [vle,vkt,seval,jY,QN,qa,qb,aTk,cTk,ql,eTk,gTk,rTk,qd,mTk,ckS,Yj,vk,List.length_map]))
   all_goals first|rfl|(simp;done)
  ·repeat' (first|(apply nx;with_reducible constructor)|refine jq (by decide) ?_)
   (refine kz env fun Q hQ=>?_;simp only [vkt,seval,jY,QN,qa,qb,aTk,cTk,ql,eTk,gTk,rTk,qd,mTk,ckS,Yj,vk,List.length_map];(try simp only [ite_and]);(repeat' (first|with_reducible assumption|refine And.intro ?_ ?_|intro hp));all_goals (first|(refine hQ _ ?_;clear hQ Q)|(refine kx ?_;kernel_rfl)|omega|assumption|with_reducible rfl|skip))
   repeat' (first|(apply nx;with_reducible constructor)|refine jq (by decide) ?_)
   (refine yY (by simp only [vkt,seval,jY,QN,qa,qb,aTk,cTk,ql,eTk,gTk,rTk,qd,mTk,ckS,Yj,vk,List.length_map];rfl) (fun h=>?_) (fun h=>?_) <;> (try simp only [vki,reduceCtorEq] at h))
   ·have hlt:k < c.sold.length:=by omega
    have e9:IntKind.wrap .i64 ((k:Int)+1)=((k+1:Nat):Int):=by rw [wrap64 (by omega) (by omega)];rfl
    obtain ⟨x,hx⟩:∃ x,c.sold.getD k default=x:=⟨_,rfl⟩
    have ex:(⟨x.party,x.sex,x.cab,x.bed,x.frm,x.to,x.dog⟩:Tk)=x:=rfl
    have tk:List.take k (c.sold.map eTk)=(c.sold.take k).map eTk:=List.map_take.symm
    have t100:(c.sold.take k).length≤100:=by rw [List.length_take];omega
    have hcar':CarOk ⟨c.cabins,c.secs,c.sold⟩:=hcar
    have hg:=Qek (f:=fun i=>zH c (c.sold.getD i default) (c.sold.take i)) hlt
    by_cases h2:zH c x (c.sold.take k)=0
    ·repeat' (first|(apply nx;with_reducible constructor)|refine jq (by decide) ?_|((first|refine kz env fun Q hQ=>?_|refine kj fun Q hQ=>?_);simp only [vkt,seval,jY,QN,qa,qb,aTk,cTk,ql,eTk,gTk,rTk,qd,mTk,ckS,Yj,vk,List.length_map,hx,ex,ec,tk,h2,e9];(try simp only [ite_and]);(repeat' (first|with_reducible assumption|refine And.intro ?_ ?_|intro hp));all_goals (first|(refine hQ _ ?_;clear hQ Q)|(refine hQ _ (fun h=>?_) (fun h=>?_) <;> clear hQ Q <;> (try simp only [vki,reduceCtorEq] at h))|(refine kx ?_;kernel_rfl)|omega|assumption|with_reducible rfl|skip)))
     refine ⟨⟨k+1,hlt,fun j hj=>?_⟩,by show c.sold.length - (k+1) < c.sold.length - k;omega, ?_⟩
     ·rcases Nat.lt_or_eq_of_le (Nat.le_of_lt_succ hj) with h3|h3
      ·exact hno j h3
      ·rw [h3,hx];exact h2
     ·(refine Le.ok some [] ?_;constructor;all_goals (try simp only [vle,vkt,seval,jY,QN,qa,qb,aTk,cTk,ql,eTk,gTk,rTk,qd,mTk,ckS,Yj,vk,List.length_map]))
      all_goals first|rfl|(simp;done)
    ·have hf:zW c c.sold=zH c x (c.sold.take k):=by
      unfold zW
      rw [kG (k:=k) (fun j hj=>by rw [Qek (by omega)];exact hno j hj) (by simpa using hlt) (by rw [hg,hx];exact h2),hg,hx]
     rw [hf]
     repeat' (first|(apply nx;with_reducible constructor)|refine jq (by decide) ?_|((first|refine kz env fun Q hQ=>?_|refine kj fun Q hQ=>?_);simp only [vkt,seval,jY,QN,qa,qb,aTk,cTk,ql,eTk,gTk,rTk,qd,mTk,ckS,Yj,vk,List.length_map,hx,ex,ec,tk,h2,e9];(try simp only [ite_and]);(repeat' (first|with_reducible assumption|refine And.intro ?_ ?_|intro hp));all_goals (first|(refine hQ _ ?_;clear hQ Q)|(refine hQ _ (fun h=>?_) (fun h=>?_) <;> clear hQ Q <;> (try simp only [vki,reduceCtorEq] at h))|(refine kx ?_;kernel_rfl)|omega|assumption|with_reducible rfl|skip)))
     (simp only [vrt,Tryz.results76,vkt,seval,jY,QN,qa,qb,aTk,cTk,ql,eTk,gTk,rTk,qd,mTk,ckS,Yj,vk,List.length_map];refine Fin.val rfl ?_;(try simp only [AV.le,AV.leL]))
     all_goals first|rfl|(simp;done)
   ·have hke:k=c.sold.length:=by omega
    subst hke
    rw [show zW c c.sold=0 from yo fun j hj=>by
     have hj':j < c.sold.length:=by simpa using hj
     rw [Qek hj'];exact hno j hj']
    repeat' (first|(apply nx;with_reducible constructor)|refine jq (by decide) ?_|((first|refine kz env fun Q hQ=>?_|refine kj fun Q hQ=>?_);simp only [vkt,seval,jY,QN,qa,qb,aTk,cTk,ql,eTk,gTk,rTk,qd,mTk,ckS,Yj,vk,List.length_map];(try simp only [ite_and]);(repeat' (first|with_reducible assumption|refine And.intro ?_ ?_|intro hp));all_goals (first|(refine hQ _ ?_;clear hQ Q)|(refine hQ _ (fun h=>?_) (fun h=>?_) <;> clear hQ Q <;> (try simp only [vki,reduceCtorEq] at h))|(refine kx ?_;kernel_rfl)|omega|assumption|with_reducible rfl|skip)))
    (simp only [vrt,Tryz.results76,vkt,seval,jY,QN,qa,qb,aTk,cTk,ql,eTk,gTk,rTk,qd,mTk,ckS,Yj,vk,List.length_map];refine Fin.val rfl ?_;(try simp only [AV.le,AV.leL]))
    all_goals first|rfl|(simp;done)
 ·have hE:zu c=ZN c:=by unfold zu;rw [if_pos h1]
  rw [hE]
  repeat' (first|(apply nx;with_reducible constructor)|refine jq (by decide) ?_|((first|refine kz env fun Q hQ=>?_|refine kj fun Q hQ=>?_);simp only [vkt,seval,jY,QN,qa,qb,aTk,cTk,ql,eTk,gTk,rTk,qd,mTk,ckS,Yj,vk,List.length_map,h1,ec];(try simp only [ite_and]);(repeat' (first|with_reducible assumption|refine And.intro ?_ ?_|intro hp));all_goals (first|(refine hQ _ ?_;clear hQ Q)|(refine hQ _ (fun h=>?_) (fun h=>?_) <;> clear hQ Q <;> (try simp only [vki,reduceCtorEq] at h))|(refine kx ?_;kernel_rfl)|omega|assumption|with_reducible rfl|skip)))
  (simp only [vrt,Tryz.results76,vkt,seval,jY,QN,qa,qb,aTk,cTk,ql,eTk,gTk,rTk,qd,mTk,ckS,Yj,vk,List.length_map];refine Fin.val rfl ?_;(try simp only [AV.le,AV.leL]))
  all_goals first|rfl|(simp;done)
def w9:List AV→Prop × AV
 |[.agg [.sl c0,.v (.int .i64 c1),.sl c2]]=>(c0=(c0.map qw).map qh∧c2=(c2.map dTk).map eTk∧c0.length≤maxLen,aI (zu (⟨(c0.map qw),c1,(c2.map dTk)⟩:Chart)))
 |_=>(False,.junk)
theorem U5 {A:Frm→Prop}:qE A Tryz.prog 76 (qX true w9):=qW fun vs hv h=>by
 clear hv
 unfold w9 at h ⊢
 split at h
 ·rename_i c0 c1 c2;obtain ⟨q0,q1,k0⟩:=h
  refine ⟨by first|trivial|(simp [AV.plain,AV.plainL,aI,aB,qz,qc,ql,qf,aTk,cTk];done)|(repeat' split) <;> simp [AV.plain,AV.plainL,aI,aB,qz,qc,ql,qf,aTk,cTk],fun _=>(by simp [AV.flat,AV.flatL,aI,aB]), ?_⟩
  have:=Qgo (⟨(c0.map qw),c1,(c2.map dTk)⟩:Chart) (by simpa using k0)
  simp only [qY,qa,aI,ql,qb,← q0,← q1] at this
  first|exact this|(simp only [qY,qa,aI,ql,qb,← q0,← q1];exact this)
 ·exact h.elim
def buO (cs:List Cabin) (s:Int):AObj:=.cells [.sl (cs.map qh),.v (.int .i64 s),.any]
def buY (cs:List Cabin) (j:Nat):List AV:=[qf ((qV cs).getD j default)]
def bu1 (cs:List Cabin) (s:Int) (i j:Nat):St:={ t:=asg [(0,.cb),(1,.ptr 0 0),(7,.sl (cs.map qh)),(8,aI cs.length),(9,aI i)],h:=qj [(0,.cells [.sl (cs.map qh),.v (.int .i64 s),.any])],n:=1,j:=j,m:=1 }
def bu2 (cs:List Cabin) (s:Int) (i:Nat) (b:Int) (k j:Nat):St:={ t:=asg [(0,.cb),(1,.ptr 0 0),(3,aI i),(7,.sl (cs.map qh)),(8,aI cs.length),(9,aI i),(15,aI b),(16,aI k)],h:=qj [(0,.cells [.sl (cs.map qh),.v (.int .i64 s),.any])],n:=1,j:=j,m:=1 }
structure CabsOk (cs:List Cabin):Prop where
 len:cs.length≤1000
 beds:∀ x ∈ cs,x.beds≤1000
def zO:=kk @ty3 (kk @W9 (kk @yc (kk @xJ (kk @Jz (kk @ti3.eq_1 (kk @ZT.eq_1 (kk @jM.eq_1 (kk @vZ.eq_1 @Z4.eq_1))))))))
def vR:=kk @aI.eq_1 (@aB.eq_1)
set_option maxHeartbeats 1000000 in
theorem Qaq (cs:List Cabin) (s:Int) (hc:CabsOk cs):Iter Tryz.prog 117 [.cb,.ptr 0 0] (nth [buO cs s]) (buY cs) (qV cs).length (fun _=>nth [buO cs s]) fun _ _=>.tup []:=by
 intro ans R hr
 have e0:(nth [buO cs s])=qj (qQ 0 [buO cs s]):=by
  funext i
  match i with
  |0=>rfl
  |i+1=>simp [nth,qQ,qj]
 obtain ⟨A0,hA0⟩:∃ A0:Frm→Prop,A0=Acb Tryz.prog (qj (qQ 0 [buO cs s])) (qj (qQ 0 [buO cs s])) (buY cs) (fun _=>nth [buO cs s]) ans R:=⟨_,rfl⟩
 have hA:∀ F,A0 F→Acb Tryz.prog (qj (qQ 0 [buO cs s])) (qj (qQ 0 [buO cs s])) (buY cs) (fun _=>nth [buO cs s]) ans R F:=fun F h=>hA0 ▸ h
 have env:Env A0 Tryz.prog tyB (Go.Sym.tabC (cbX [0] (buY cs) (fun _=>[buO cs s]) ans R) []):=⟨X4,RN (fun S bs h hS ops o g args tys caps hw ho hg hb=>Va hA (fun i o hi=>by
  rw [jR] at hi
  cases i with
  |zero=>rfl
  |succ i=>simp at hi) (by simp) h hS hw ho hg hb) trivial,by kernel_rfl⟩
 rw [Rh] at hr
 have hcl:=hc.len
 rw [e0]
 refine Fn.of (A:=A0) (n0:=1) (D:=noD) (Fn0 Tryz.func117 rfl (fun vs w=>by kernel_rfl) (by kernel_rfl)) (by simp) (by simp [AV.ids]) ?_ (fun F hb h0 _=>hA0 ▸ ⟨h0,fun i o hi=>⟨o,hi⟩,by rw [← e0] at hb ⊢;exact hb⟩) qF ?_
 ·intro i o hi
  have h:=qR hi
  simp [qQ,buO] at h;obtain ⟨rfl,rfl⟩:=h;simp [AObj.ids,AV.ids,AV.idsL]
 show Sym _ _ _ (zV [.cb,.ptr 0 0] 1 (qj [(0,.cells [.sl (cs.map qh),.v (.int .i64 s),.any])])) (xM tyB noD Tryz.f117 fun S rv=>Fin S rv (.tup []) 1 (qj [(0,.cells [.sl (cs.map qh),.v (.int .i64 s),.any])]) R)
 have eo:buO cs s=.cells [.sl (cs.map qh),.v (.int .i64 s),.any]:=rfl
 repeat' (first|(apply nx;with_reducible constructor)|refine jq (by decide) ?_|((first|refine kz env fun Q hQ=>?_|refine kj fun Q hQ=>?_);simp only [vkt,seval,zO,vR,qf,qh,qC,bu1,bu2,Go.Sym.tabC,cbX,wy,qU,nth,hwL];(try simp only [ite_and]);(repeat' (first|with_reducible assumption|refine And.intro ?_ ?_|intro hp));all_goals (first|(refine hQ _ ?_;clear hQ Q)|(refine hQ _ (fun h=>?_) (fun h=>?_) <;> clear hQ Q <;> (try simp only [vki,reduceCtorEq] at h))|(refine kx ?_;kernel_rfl)|omega|assumption|with_reducible rfl|skip)))
 refine qN (fun x:{ x:Nat × Nat // x.1≤cs.length∧x.2=((ZM cs).take x.1).sum∧∀ q,q < x.2→ans q=true }=>bu1 cs s x.1.1 x.1.2) (fun x=>cs.length - x.1.1) ⟨(0,0),Nat.zero_le _,by simp,fun q h=>absurd h (Nat.not_lt_zero _)⟩ ?_ fun ⟨(i,o),hi,ho,hy⟩=>?_
 ·(refine Le.ok some [] ?_;constructor;all_goals (try simp only [vle,vkt,seval,zO,vR,qf,qh,qC,bu1,bu2,Go.Sym.tabC,cbX,wy,qU,nth,hwL]))
  all_goals first|rfl|(simp;done)
 simp only at hi ho hy ⊢
 repeat' (first|(apply nx;with_reducible constructor)|refine jq (by decide) ?_)
 (refine kz env fun Q hQ=>?_;simp only [vkt,seval,zO,vR,qf,qh,qC,bu1,bu2,Go.Sym.tabC,cbX,wy,qU,nth,hwL];(try simp only [ite_and]);(repeat' (first|with_reducible assumption|refine And.intro ?_ ?_|intro hp));all_goals (first|(refine hQ _ ?_;clear hQ Q)|(refine kx ?_;kernel_rfl)|omega|assumption|with_reducible rfl|skip))
 repeat' (first|(apply nx;with_reducible constructor)|refine jq (by decide) ?_)
 (refine yY (by simp only [vkt,seval,zO,vR,qf,qh,qC,bu1,bu2,Go.Sym.tabC,cbX,wy,qU,nth,hwL];rfl) (fun h=>?_) (fun h=>?_) <;> (try simp only [vki,reduceCtorEq] at h))
 ·have hlt:i < cs.length:=by omega
  have hts:=Yy (g:=ZM cs) (i:=i) (by simp [ZM];omega)
  rw [QiO hlt] at hts
  have hsm:((ZM cs).take (i+1)).sum≤(ZM cs).sum:=by
   have:=QF (g:=ZM cs) (show i+1≤(ZM cs).length by simp [ZM];omega)
   rwa [List.take_length] at this
  have hbx:=hc.beds _ (yB (d:=default) hlt)
  have hget:=fun k=>Qet (cs:=cs) (i:=i) (k:=k) hlt
  obtain ⟨x,hx⟩:∃ x,cs.getD i default=x:=⟨_,rfl⟩
  rw [hx] at hts hbx
  simp only [hx] at hget
  have e9:IntKind.wrap .i64 ((i:Int)+1)=((i+1:Nat):Int):=by rw [wrap64 (by omega) (by omega)];rfl
  repeat' (first|(apply nx;with_reducible constructor)|refine jq (by decide) ?_|((first|refine kz env fun Q hQ=>?_|refine kj fun Q hQ=>?_);simp only [vkt,seval,zO,vR,qf,qh,qC,bu1,bu2,Go.Sym.tabC,cbX,wy,qU,nth,hwL,hx];(try simp only [ite_and]);(repeat' (first|with_reducible assumption|refine And.intro ?_ ?_|intro hp));all_goals (first|(refine hQ _ ?_;clear hQ Q)|(refine hQ _ (fun h=>?_) (fun h=>?_) <;> clear hQ Q <;> (try simp only [vki,reduceCtorEq] at h))|(refine kx ?_;kernel_rfl)|omega|assumption|with_reducible rfl|skip)))
  refine qN (fun y:{ y:Nat × Nat // y.1≤x.beds.toNat∧y.2=o+y.1∧∀ q,q < y.2→ans q=true }=>bu2 cs s i x.beds y.1.1 y.1.2) (fun y=>x.beds.toNat - y.1.1) ⟨(0,o),Nat.zero_le _,rfl,hy⟩ ?_ fun ⟨(k,q),hk,hq,hz⟩=>?_
  ·(refine Le.ok some [] ?_;constructor;all_goals (try simp only [vle,vkt,seval,zO,vR,qf,qh,qC,bu1,bu2,Go.Sym.tabC,cbX,wy,qU,nth,hwL]))
   all_goals first|rfl|(simp;done)
  simp only at hk hq hz ⊢
  repeat' (first|(apply nx;with_reducible constructor)|refine jq (by decide) ?_)
  (refine kz env fun Q hQ=>?_;simp only [vkt,seval,zO,vR,qf,qh,qC,bu1,bu2,Go.Sym.tabC,cbX,wy,qU,nth,hwL];(try simp only [ite_and]);(repeat' (first|with_reducible assumption|refine And.intro ?_ ?_|intro hp));all_goals (first|(refine hQ _ ?_;clear hQ Q)|(refine kx ?_;kernel_rfl)|omega|assumption|with_reducible rfl|skip))
  repeat' (first|(apply nx;with_reducible constructor)|refine jq (by decide) ?_)
  (refine yY (by simp only [vkt,seval,zO,vR,qf,qh,qC,bu1,bu2,Go.Sym.tabC,cbX,wy,qU,nth,hwL];rfl) (fun h=>?_) (fun h=>?_) <;> (try simp only [vki,reduceCtorEq] at h))
  ·have hkl:k < x.beds.toNat:=by omega
   have e8:IntKind.wrap .i64 ((k:Int)+1)=((k+1:Nat):Int):=by rw [wrap64 (by omega) (by omega)];rfl
   have hqR:q < R:=hr.lt (by omega) hz
   have hbq:buY cs q=[.agg [.v (.int .i64 (i:Int)),.v (.int .i64 (k:Int))]]:=by
    unfold buY
    rw [hq,ho,hget k hkl]
    rfl
   cases hb:ans q with
   |false =>
    have eR:R=q+1:=by have:=hr.last hqR hb;omega
    subst eR
    repeat' (first|(apply nx;with_reducible constructor)|refine jq (by decide) ?_|((first|refine kz env fun Q hQ=>?_|refine kj fun Q hQ=>?_);simp only [vkt,seval,zO,vR,qf,qh,qC,bu1,bu2,Go.Sym.tabC,cbX,wy,qU,nth,hwL,hqR,hbq,eo,hb];(try simp only [ite_and]);(repeat' (first|with_reducible assumption|refine And.intro ?_ ?_|intro hp));all_goals (first|(refine hQ _ ?_;clear hQ Q)|(refine hQ _ (fun h=>?_) (fun h=>?_) <;> clear hQ Q <;> (try simp only [vki,reduceCtorEq] at h))|(refine kx ?_;kernel_rfl)|omega|assumption|with_reducible rfl|skip)))
    (simp only [vrt,Tryz.results117,vkt,seval,zO,vR,qf,qh,qC,bu1,bu2,Go.Sym.tabC,cbX,wy,qU,nth,hwL];refine Fin.ok some [] ?_ ?_ ?_ ?_ ?_ rfl;all_goals (try simp only [vle,vkt,seval,zO,vR,qf,qh,qC,bu1,bu2,Go.Sym.tabC,cbX,wy,qU,nth,hwL]))
    all_goals first|rfl|(simp;done)
   |true =>
    have hz':∀ p,p < q+1→ans p=true:=fun p hp=>by
     rcases Nat.lt_or_eq_of_le (Nat.le_of_lt_succ hp) with h1|h1
     ·exact hz p h1
     ·rw [h1];exact hb
    repeat' (first|(apply nx;with_reducible constructor)|refine jq (by decide) ?_|((first|refine kz env fun Q hQ=>?_|refine kj fun Q hQ=>?_);simp only [vkt,seval,zO,vR,qf,qh,qC,bu1,bu2,Go.Sym.tabC,cbX,wy,qU,nth,hwL,hqR,hbq,eo,hb,e8];(try simp only [ite_and]);(repeat' (first|with_reducible assumption|refine And.intro ?_ ?_|intro hp));all_goals (first|(refine hQ _ ?_;clear hQ Q)|(refine hQ _ (fun h=>?_) (fun h=>?_) <;> clear hQ Q <;> (try simp only [vki,reduceCtorEq] at h))|(refine kx ?_;kernel_rfl)|omega|assumption|with_reducible rfl|skip)))
    refine ⟨⟨(k+1,q+1),hkl,by omega,hz'⟩,by show x.beds.toNat - (k+1) < x.beds.toNat - k;omega, ?_⟩
    (refine Le.ok some [] ?_;constructor;all_goals (try simp only [vle,vkt,seval,zO,vR,qf,qh,qC,bu1,bu2,Go.Sym.tabC,cbX,wy,qU,nth,hwL]))
    all_goals first|rfl|(simp;done)
  ·have hkn:q=((ZM cs).take (i+1)).sum:=by omega
   repeat' (first|(apply nx;with_reducible constructor)|refine jq (by decide) ?_|((first|refine kz env fun Q hQ=>?_|refine kj fun Q hQ=>?_);simp only [vkt,seval,zO,vR,qf,qh,qC,bu1,bu2,Go.Sym.tabC,cbX,wy,qU,nth,hwL,e9];(try simp only [ite_and]);(repeat' (first|with_reducible assumption|refine And.intro ?_ ?_|intro hp));all_goals (first|(refine hQ _ ?_;clear hQ Q)|(refine hQ _ (fun h=>?_) (fun h=>?_) <;> clear hQ Q <;> (try simp only [vki,reduceCtorEq] at h))|(refine kx ?_;kernel_rfl)|omega|assumption|with_reducible rfl|skip)))
   refine ⟨⟨(i+1,q),hlt,hkn,hz⟩,by show cs.length - (i+1) < cs.length - i;omega, ?_⟩
   (refine Le.ok some [] ?_;constructor;all_goals (try simp only [vle,vkt,seval,zO,vR,qf,qh,qC,bu1,bu2,Go.Sym.tabC,cbX,wy,qU,nth,hwL]))
   all_goals first|rfl|(simp;done)
 ·have hie:i=cs.length:=by omega
  subst hie
  have hoN:o=(ZM cs).sum:=by rw [ho,List.take_of_length_le (by simp [ZM])]
  have eR:R=o:=by rw [hoN];exact hr.all (Nat.le_of_eq hoN.symm) hy
  subst eR
  repeat' (first|(apply nx;with_reducible constructor)|refine jq (by decide) ?_|((first|refine kz env fun Q hQ=>?_|refine kj fun Q hQ=>?_);simp only [vkt,seval,zO,vR,qf,qh,qC,bu1,bu2,Go.Sym.tabC,cbX,wy,qU,nth,hwL];(try simp only [ite_and]);(repeat' (first|with_reducible assumption|refine And.intro ?_ ?_|intro hp));all_goals (first|(refine hQ _ ?_;clear hQ Q)|(refine hQ _ (fun h=>?_) (fun h=>?_) <;> clear hQ Q <;> (try simp only [vki,reduceCtorEq] at h))|(refine kx ?_;kernel_rfl)|omega|assumption|with_reducible rfl|skip)))
  (simp only [vrt,Tryz.results117,vkt,seval,zO,vR,qf,qh,qC,bu1,bu2,Go.Sym.tabC,cbX,wy,qU,nth,hwL];refine Fin.ok some [] ?_ ?_ ?_ ?_ ?_ rfl;all_goals (try simp only [vle,vkt,seval,zO,vR,qf,qh,qC,bu1,bu2,Go.Sym.tabC,cbX,wy,qU,nth,hwL]))
  all_goals first|rfl|(simp;done)
def Qck:=kk @aI.eq_1 (@aB.eq_1)
theorem Qgk (cs:List Cabin) (s:Int):Fn noB Tryz.prog 80 [.agg [.sl (cs.map qh),.v (.int .i64 s),.any]] (qj []) (.clo 117 [.ptr 0 0]) (qj [(0,.cells [.sl (cs.map qh),.v (.int .i64 s),.any])]) 0:=by
 have env:Env (fun _=>True) Tryz.prog tyB (tab []):=qL trivial
 refine Fn.of (A:=fun _=>True) (n0:=0) (D:=noD) (Fn0 Tryz.func80 rfl (fun vs w=>by kernel_rfl) (by kernel_rfl)) (by simp) (by simp [AV.ids,AV.idsL]) (fun i o h=>by cases h) (fun _ _ _ _=>trivial) qF ?_
 repeat' (first|(apply nx;with_reducible constructor)|refine jq (by decide) ?_|((first|refine kz env fun Q hQ=>?_|refine kj fun Q hQ=>?_);simp only [vkt,seval,Qck];(try simp only [ite_and]);(repeat' (first|with_reducible assumption|refine And.intro ?_ ?_|intro hp));all_goals (first|(refine hQ _ ?_;clear hQ Q)|(refine hQ _ (fun h=>?_) (fun h=>?_) <;> clear hQ Q <;> (try simp only [vki,reduceCtorEq] at h))|(refine kx ?_;kernel_rfl)|omega|assumption|with_reducible rfl|skip)))
 (simp only [vrt,Tryz.results80,vkt,seval,Qck];refine Fin.ok some [] ?_ ?_ ?_ ?_ ?_ rfl;all_goals (try simp only [vle,vkt,seval,Qck]))
 all_goals first|rfl|(simp;done)
def zA (_:St):List AV→Option Pk
 |[.agg [.sl cs,.v (.int .i64 s),_]]=>some { pre:=cs=(cs.map qw).map qh,ar:=[.agg [.sl cs,.v (.int .i64 s),.any]],v:=.clo 117 [.ptr 0 0],L1:=[some (.cells [.sl cs,.v (.int .i64 s),.any])] }
 |_=>none
theorem QcH {A:Frm→Prop}:qE A Tryz.prog 80 (fnE zA):=zY fun S bs q h hp=>by
 unfold zA at h
 split at h
 ·rename_i cs s _
  cases h
  have:=Qgk (cs.map qw) s
  rw [← (show cs=(cs.map qw).map qh from hp)] at this
  exact this
 ·cases h
theorem b47 {n:Nat} (h:n≤100000):n * 8≤140737488355328∧n * 24≤140737488355328∧n * 16≤140737488355328∧n * 56≤140737488355328∧n≤maxLen:=by
 have:(100000:Nat)≤maxLen:=by decide
 omega
def y8:=kk @x9 (kk @yU (kk @xD.eq_1 @yA.eq_1))
theorem KE (xs:List (List DV)) (h1:zJ 7 xs) (h2:xs.length≤100000):Fn noB Tryz.prog 116 [.sl xs] noH (.row 0) (qj [(0,.row 64 7 xs)]) 0:=by
 have env:Env (fun _=>True) Tryz.prog tyB (tab []):=qL trivial
 obtain ⟨b1,b2,b3,b5,b4⟩:=b47 h2
 refine Fn.of (A:=fun _=>True) (n0:=0) (D:=noD) (Fn0 Tryz.func116 rfl (fun vs w=>by kernel_rfl) (by kernel_rfl)) (by simp) (by simp [AV.ids]) (fun i o h=>by cases h) (fun _ _ _ _=>trivial) qF ?_
 repeat' (first|(apply nx;with_reducible constructor)|refine jq (by decide) ?_)
 (refine kz env fun Q hQ=>?_;simp only [vkt,seval,y8,@true_and];(try simp only [ite_and]);(repeat' (first|with_reducible assumption|refine And.intro ?_ ?_|intro hp));all_goals (first|(refine hQ _ ?_;clear hQ Q)|(refine kx ?_;kernel_rfl)|omega|assumption|with_reducible rfl|skip))
 repeat' (first|(apply nx;with_reducible constructor)|refine jq (by decide) ?_)
 refine Zu (d1:=3) (d2:=4) (t:=23) (e:=64) (x:=.tmp 0) (xs:=xs) rfl rfl rfl rfl rfl rfl Tryz.underlying23 rfl fun b hb=>?_
 repeat' (first|(apply nx;with_reducible constructor)|refine jq (by decide) ?_)
 (refine yY (by simp only [vkt,seval,y8,@true_and];rfl) (fun h=>?_) (fun h=>?_) <;> (try simp only [vki,reduceCtorEq] at h))
 ·have hx:=hb h
  subst hx
  repeat' (first|(apply nx;with_reducible constructor)|refine jq (by decide) ?_|((first|refine kz env fun Q hQ=>?_|refine kj fun Q hQ=>?_);simp only [vkt,seval,y8,@true_and];(try simp only [ite_and]);(repeat' (first|with_reducible assumption|refine And.intro ?_ ?_|intro hp));all_goals (first|(refine hQ _ ?_;clear hQ Q)|(refine hQ _ (fun h=>?_) (fun h=>?_) <;> clear hQ Q <;> (try simp only [vki,reduceCtorEq] at h))|(refine kx ?_;kernel_rfl)|omega|assumption|with_reducible rfl|skip)))
  (simp only [vrt,Tryz.results116,vkt,seval,y8,@true_and];refine Fin.ok (fun _=>none) [] ?_ ?_ ?_ ?_ ?_ rfl;all_goals (try simp only [vle,vkt,seval,y8,@true_and]))
  all_goals simp
 ·repeat' (first|(apply nx;with_reducible constructor)|refine jq (by decide) ?_|((first|refine kz env fun Q hQ=>?_|refine kj fun Q hQ=>?_);simp only [vkt,seval,y8,@true_and];(try simp only [ite_and]);(repeat' (first|with_reducible assumption|refine And.intro ?_ ?_|intro hp));all_goals (first|(refine hQ _ ?_;clear hQ Q)|(refine hQ _ (fun h=>?_) (fun h=>?_) <;> clear hQ Q <;> (try simp only [vki,reduceCtorEq] at h))|(refine kx ?_;kernel_rfl)|omega|assumption|with_reducible rfl|skip)))
  (simp only [vrt,Tryz.results116,vkt,seval,y8,@true_and];refine Fin.ok some [] ?_ ?_ ?_ ?_ ?_ rfl;all_goals (try simp only [vle,vkt,seval,y8,@true_and]))
  all_goals simp
def ve:=kk @WQ (kk @xJ (kk @ZO.eq_1 @vZ.eq_1))
theorem Qeh (xs:List (List DV)) (h1:zJ 2 xs) (h2:xs.length≤100000):Fn noB Tryz.prog 128 [.sl xs] noH (.row 0) (qj [(0,.row 62 2 xs)]) 0:=by
 have env:Env (fun _=>True) Tryz.prog tyB (tab []):=qL trivial
 obtain ⟨b1,b2,b3,b5,b4⟩:=b47 h2
 refine Fn.of (A:=fun _=>True) (n0:=0) (D:=noD) (Fn0 Tryz.func128 rfl (fun vs w=>by kernel_rfl) (by kernel_rfl)) (by simp) (by simp [AV.ids]) (fun i o h=>by cases h) (fun _ _ _ _=>trivial) qF ?_
 repeat' (first|(apply nx;with_reducible constructor)|refine jq (by decide) ?_)
 (refine kz env fun Q hQ=>?_;simp only [vkt,seval,ve,@true_and];(try simp only [ite_and]);(repeat' (first|with_reducible assumption|refine And.intro ?_ ?_|intro hp));all_goals (first|(refine hQ _ ?_;clear hQ Q)|(refine kx ?_;kernel_rfl)|omega|assumption|with_reducible rfl|skip))
 repeat' (first|(apply nx;with_reducible constructor)|refine jq (by decide) ?_)
 refine Zu (d1:=3) (d2:=4) (t:=44) (e:=62) (x:=.tmp 0) (xs:=xs) rfl rfl rfl rfl rfl rfl Tryz.underlying44 rfl fun b hb=>?_
 repeat' (first|(apply nx;with_reducible constructor)|refine jq (by decide) ?_)
 (refine yY (by simp only [vkt,seval,ve,@true_and];rfl) (fun h=>?_) (fun h=>?_) <;> (try simp only [vki,reduceCtorEq] at h))
 ·have hx:=hb h
  subst hx
  repeat' (first|(apply nx;with_reducible constructor)|refine jq (by decide) ?_|((first|refine kz env fun Q hQ=>?_|refine kj fun Q hQ=>?_);simp only [vkt,seval,ve,@true_and];(try simp only [ite_and]);(repeat' (first|with_reducible assumption|refine And.intro ?_ ?_|intro hp));all_goals (first|(refine hQ _ ?_;clear hQ Q)|(refine hQ _ (fun h=>?_) (fun h=>?_) <;> clear hQ Q <;> (try simp only [vki,reduceCtorEq] at h))|(refine kx ?_;kernel_rfl)|omega|assumption|with_reducible rfl|skip)))
  (simp only [vrt,Tryz.results128,vkt,seval,ve,@true_and];refine Fin.ok (fun _=>none) [] ?_ ?_ ?_ ?_ ?_ rfl;all_goals (try simp only [vle,vkt,seval,ve,@true_and]))
  all_goals simp
 ·repeat' (first|(apply nx;with_reducible constructor)|refine jq (by decide) ?_|((first|refine kz env fun Q hQ=>?_|refine kj fun Q hQ=>?_);simp only [vkt,seval,ve,@true_and];(try simp only [ite_and]);(repeat' (first|with_reducible assumption|refine And.intro ?_ ?_|intro hp));all_goals (first|(refine hQ _ ?_;clear hQ Q)|(refine hQ _ (fun h=>?_) (fun h=>?_) <;> clear hQ Q <;> (try simp only [vki,reduceCtorEq] at h))|(refine kx ?_;kernel_rfl)|omega|assumption|with_reducible rfl|skip)))
  (simp only [vrt,Tryz.results128,vkt,seval,ve,@true_and];refine Fin.ok some [] ?_ ?_ ?_ ?_ ?_ rfl;all_goals (try simp only [vle,vkt,seval,ve,@true_and]))
  all_goals simp
def Qw (S:St):List AV→Option Pk
 |[.sl xs]=>some { pre:=zJ 7 xs∧xs.length≤100000,ar:=[.sl xs],v:=.row 0,L1:=[some (.row 64 7 xs)] }
 |[.row r]=>match S.h r with
  |some (.row _ _ xs)=>some { pre:=zJ 7 xs∧xs.length≤100000,bo:=[r],fl:=true,ar:=[.sl xs],v:=.row 0,L1:=[some (.row 64 7 xs)] }
  |_=>none
 |_=>none
theorem QcX {A:Frm→Prop}:qE A Tryz.prog 116 (fnE Qw):=zY fun S bs q h hp=>by
 unfold Qw at h
 split at h
 ·cases h;exact KE _ hp.1 hp.2
 ·split at h
  ·cases h;exact KE _ hp.1 hp.2
  ·cases h
 ·cases h
def wT (_:St):List AV→Option Pk
 |[.sl xs]=>some { pre:=zJ 2 xs∧xs.length≤100000,ar:=[.sl xs],v:=.row 0,L1:=[some (.row 62 2 xs)] }
 |_=>none
theorem QiI {A:Frm→Prop}:qE A Tryz.prog 128 (fnE wT):=zY fun S bs q h hp=>by
 unfold wT at h
 split at h
 ·cases h;exact Qeh _ hp.1 hp.2
 ·cases h
def ibS (b:Bunk) (l:List Bunk) (k:Nat):St:={ t:=asg [(0,qc l),(3,.ptr 0 0),(4,aI 0),(6,qc l),(7,aI l.length),(8,aI k)],h:=qj [(0,.cells [.v (.int .i64 b.cab),.v (.int .i64 b.bed)])],n:=1 }
def LA (b:Bunk) (l:List Bunk):Int:=match l.findIdx? (· == b) with
 |some i=>(i:Int)
 |none=>-1
theorem Qgc {b:Bunk} {l:List Bunk} {k:Nat} (hk:k < l.length) (h:∀ j,j < k→l.getD j default ≠ b) (hp:l.getD k default=b):LA b l=(k:Int):=by
 have:l.findIdx? (· == b)=some k:=by
  rw [List.findIdx?_eq_some_iff_getElem]
  refine ⟨hk,by simpa [List.getD_eq_getElem?_getD,hk] using hp,fun j hj=>?_⟩
  have:=h j hj
  simpa [List.getD_eq_getElem?_getD,show j < l.length by omega] using this
 simp [LA,this]
theorem Qew {b:Bunk} {l:List Bunk} (h:∀ j,j < l.length→l.getD j default ≠ b):LA b l=-1:=by
 have:l.findIdx? (· == b)=none:=by
  rw [List.findIdx?_eq_none_iff]
  intro x hx
  obtain ⟨j,hj,rfl⟩:=List.mem_iff_getElem.1 hx
  have:=h j hj
  simpa [List.getD_eq_getElem?_getD,hj] using this
 simp [LA,this]
theorem QfG (b:Bunk) (l:List Bunk):decide (0≤LA b l)=l.contains b:=by
 unfold LA
 cases h:l.findIdx? (· == b) with
 |none =>
  rw [List.findIdx?_eq_none_iff] at h
  symm
  simp only [show ¬ (0:Int)≤-1 by decide,decide_false]
  rw [Bool.eq_false_iff]
  intro hc
  have:=h b (by simpa using hc)
  simp at this
 |some i =>
  rw [List.findIdx?_eq_some_iff_getElem] at h
  obtain ⟨hi,hp,_⟩:=h
  symm
  simp only [Int.natCast_nonneg,decide_true]
  have:l[i]=b:=by simpa using hp
  rw [← this];simp
def je:=kk @ty3 (kk @WQ (kk @xJ (kk @ti3.eq_1 (kk @ZO.eq_1 @vZ.eq_1))))
def QJ:=kk @aI.eq_1 (@aB.eq_1)
theorem Qe5 (b:Bunk) (l:List Bunk) (hl:l.length≤100):FnV Tryz.prog 141 [qc l,qf b] (aI (LA b l)):=by
 have env:Env (fun _=>True) Tryz.prog tyB (tab []):=qL trivial
 refine Fn.of (A:=fun _=>True) (n0:=0) (D:=noD) (Fn0 Tryz.func141 rfl (fun vs w=>by kernel_rfl) (by kernel_rfl)) (by simp) (by simp [AV.ids,AV.idsL,qc,qf]) (fun i o h=>by cases h) (fun _ _ _ _=>trivial) qF ?_
 repeat' (first|(apply nx;with_reducible constructor)|refine jq (by decide) ?_|((first|refine kz env fun Q hQ=>?_|refine kj fun Q hQ=>?_);simp only [vkt,seval,je,QJ,qf,qc,qo,qD,ibS,Bool.true_and,Bool.false_and];(try simp only [ite_and]);(repeat' (first|with_reducible assumption|refine And.intro ?_ ?_|intro hp));all_goals (first|(refine hQ _ ?_;clear hQ Q)|(refine hQ _ (fun h=>?_) (fun h=>?_) <;> clear hQ Q <;> (try simp only [vki,reduceCtorEq] at h))|(refine kx ?_;kernel_rfl)|omega|assumption|with_reducible rfl|skip)))
 refine qN (fun k:{ k:Nat // k≤l.length∧∀ j,j < k→l.getD j default ≠ b }=>ibS b l k.1) (fun k=>l.length - k.1) ⟨0,Nat.zero_le _,fun j h=>absurd h (Nat.not_lt_zero _)⟩ ?_ fun ⟨k,hk,hno⟩=>?_
 ·(refine Le.ok some [] ?_;constructor;all_goals (try simp only [vle,vkt,seval,je,QJ,qf,qc,qo,qD,ibS,Bool.true_and,Bool.false_and]))
  all_goals first|rfl|(simp;done)
 ·repeat' (first|(apply nx;with_reducible constructor)|refine jq (by decide) ?_)
  (refine kz env fun Q hQ=>?_;simp only [vkt,seval,je,QJ,qf,qc,qo,qD,ibS,Bool.true_and,Bool.false_and];(try simp only [ite_and]);(repeat' (first|with_reducible assumption|refine And.intro ?_ ?_|intro hp));all_goals (first|(refine hQ _ ?_;clear hQ Q)|(refine kx ?_;kernel_rfl)|omega|assumption|with_reducible rfl|skip))
  repeat' (first|(apply nx;with_reducible constructor)|refine jq (by decide) ?_)
  (refine yY (by simp only [vkt,seval,je,QJ,qf,qc,qo,qD,ibS,Bool.true_and,Bool.false_and];rfl) (fun h=>?_) (fun h=>?_) <;> (try simp only [vki,reduceCtorEq] at h))
  ·have hlt:k < l.length:=by omega
   have e9:IntKind.wrap .i64 ((k:Int)+1)=((k+1:Nat):Int):=by rw [wrap64 (by omega) (by omega)];rfl
   obtain ⟨x,hx⟩:∃ x,l.getD k default=x:=⟨_,rfl⟩
   have hxb:(x=b)=(b.cab=x.cab∧b.bed=x.bed):=by
    cases x;cases b;simp;exact ⟨fun ⟨a,b⟩=>⟨a.symm,b.symm⟩,fun ⟨a,b⟩=>⟨a.symm,b.symm⟩⟩
   have hnx:¬ x=b→∀ j,j < k+1→l.getD j default ≠ b:=fun hp j hj=>by
    rcases Nat.lt_or_eq_of_le (Nat.le_of_lt_succ hj) with h1|h1
    ·exact hno j h1
    ·rw [h1,hx];exact hp
   cases q1:decide (b.cab=x.cab)
   ·have hp:¬ x=b:=by rw [hxb];exact fun h=>of_decide_eq_false q1 h.1
    repeat' (first|(apply nx;with_reducible constructor)|refine jq (by decide) ?_|((first|refine kz env fun Q hQ=>?_|refine kj fun Q hQ=>?_);simp only [vkt,seval,je,QJ,qf,qc,qo,qD,ibS,Bool.true_and,Bool.false_and,hx,q1,e9];(try simp only [ite_and]);(repeat' (first|with_reducible assumption|refine And.intro ?_ ?_|intro hp));all_goals (first|(refine hQ _ ?_;clear hQ Q)|(refine hQ _ (fun h=>?_) (fun h=>?_) <;> clear hQ Q <;> (try simp only [vki,reduceCtorEq] at h))|(refine kx ?_;kernel_rfl)|omega|assumption|with_reducible rfl|skip)))
    refine ⟨⟨k+1,hlt,hnx hp⟩,by show l.length - (k+1) < l.length - k;omega, ?_⟩
    (refine Le.ok some [] ?_;constructor;all_goals (try simp only [vle,vkt,seval,je,QJ,qf,qc,qo,qD,ibS,Bool.true_and,Bool.false_and]))
    all_goals first|rfl|(simp;done)
   ·cases q2:decide (b.bed=x.bed)
    ·have hp:¬ x=b:=by rw [hxb];exact fun h=>of_decide_eq_false q2 h.2
     repeat' (first|(apply nx;with_reducible constructor)|refine jq (by decide) ?_|((first|refine kz env fun Q hQ=>?_|refine kj fun Q hQ=>?_);simp only [vkt,seval,je,QJ,qf,qc,qo,qD,ibS,Bool.true_and,Bool.false_and,hx,q1,q2,e9];(try simp only [ite_and]);(repeat' (first|with_reducible assumption|refine And.intro ?_ ?_|intro hp));all_goals (first|(refine hQ _ ?_;clear hQ Q)|(refine hQ _ (fun h=>?_) (fun h=>?_) <;> clear hQ Q <;> (try simp only [vki,reduceCtorEq] at h))|(refine kx ?_;kernel_rfl)|omega|assumption|with_reducible rfl|skip)))
     refine ⟨⟨k+1,hlt,hnx hp⟩,by show l.length - (k+1) < l.length - k;omega, ?_⟩
     (refine Le.ok some [] ?_;constructor;all_goals (try simp only [vle,vkt,seval,je,QJ,qf,qc,qo,qD,ibS,Bool.true_and,Bool.false_and]))
     all_goals first|rfl|(simp;done)
    ·have hh:=Qgc hlt hno (by rw [hx,hxb];exact ⟨of_decide_eq_true q1,of_decide_eq_true q2⟩)
     rw [hh]
     repeat' (first|(apply nx;with_reducible constructor)|refine jq (by decide) ?_|((first|refine kz env fun Q hQ=>?_|refine kj fun Q hQ=>?_);simp only [vkt,seval,je,QJ,qf,qc,qo,qD,ibS,Bool.true_and,Bool.false_and,hx,q1,q2,e9];(try simp only [ite_and]);(repeat' (first|with_reducible assumption|refine And.intro ?_ ?_|intro hp));all_goals (first|(refine hQ _ ?_;clear hQ Q)|(refine hQ _ (fun h=>?_) (fun h=>?_) <;> clear hQ Q <;> (try simp only [vki,reduceCtorEq] at h))|(refine kx ?_;kernel_rfl)|omega|assumption|with_reducible rfl|skip)))
     (simp only [vrt,Tryz.results141,vkt,seval,je,QJ,qf,qc,qo,qD,ibS,Bool.true_and,Bool.false_and];refine Fin.val rfl ?_;(try simp only [AV.le,AV.leL]))
     all_goals first|rfl|(simp;done)
  ·have hke:k=l.length:=by omega
   subst hke
   rw [Qew hno]
   repeat' (first|(apply nx;with_reducible constructor)|refine jq (by decide) ?_|((first|refine kz env fun Q hQ=>?_|refine kj fun Q hQ=>?_);simp only [vkt,seval,je,QJ,qf,qc,qo,qD,ibS,Bool.true_and,Bool.false_and];(try simp only [ite_and]);(repeat' (first|with_reducible assumption|refine And.intro ?_ ?_|intro hp));all_goals (first|(refine hQ _ ?_;clear hQ Q)|(refine hQ _ (fun h=>?_) (fun h=>?_) <;> clear hQ Q <;> (try simp only [vki,reduceCtorEq] at h))|(refine kx ?_;kernel_rfl)|omega|assumption|with_reducible rfl|skip)))
   (simp only [vrt,Tryz.results141,vkt,seval,je,QJ,qf,qc,qo,qD,ibS,Bool.true_and,Bool.false_and];refine Fin.val rfl ?_;(try simp only [AV.le,AV.leL]))
   all_goals first|rfl|(simp;done)
def YG:List AV→Prop × AV
 |[.sl l,.agg [.v (.int .i64 b0),.v (.int .i64 b1)]]=>(l=(l.map zz).map qo∧(l.map zz).length≤100,aI (LA (⟨b0,b1⟩:Bunk) (l.map zz)))
 |_=>(False,.junk)
theorem QhR {A:Frm→Prop}:qE A Tryz.prog 141 (qX true YG):=qW fun vs hv h=>by
 clear hv
 unfold YG at h ⊢
 split at h
 ·rename_i l b0 b1;obtain ⟨q0,k0⟩:=h
  refine ⟨by first|trivial|(simp [AV.plain,AV.plainL,aI,aB,qz,qc,ql,qf,aTk,cTk];done)|(repeat' split) <;> simp [AV.plain,AV.plainL,aI,aB,qz,qc,ql,qf,aTk,cTk],fun _=>(by simp [AV.flat,AV.flatL,aI,aB]), ?_⟩
  have:=Qe5 (⟨b0,b1⟩:Bunk) (l.map zz) k0
  simp only [qf,qc,aI,← q0] at this
  first|exact this|(simp only [qf,qc,aI,← q0];exact this)
 ·exact h.elim
def XR:=kk @ty3 (kk @xJ (kk @ti3.eq_1 @vZ.eq_1))
def Qhd:=kk @aI.eq_1 (@aB.eq_1)
theorem Qg3 (b:Bunk) (l:List Bunk) (hl:l.length≤100):FnV Tryz.prog 129 [qc l,qf b] (aB (l.contains b)):=by
 have env:Env (fun _=>True) Tryz.prog tyB (tab [(141,qX true YG)]):=qL ⟨QhR,trivial⟩
 refine Fn.of (A:=fun _=>True) (n0:=0) (D:=noD) (Fn0 Tryz.func129 rfl (fun vs w=>by kernel_rfl) (by kernel_rfl)) (by simp) (by simp [AV.ids,AV.idsL,qc,qf]) (fun i o h=>by cases h) (fun _ _ _ _=>trivial) qF ?_
 have ex:(⟨b.cab,b.bed⟩:Bunk)=b:=rfl
 have ea:=QfG b l
 repeat' (first|(apply nx;with_reducible constructor)|refine jq (by decide) ?_|((first|refine kz env fun Q hQ=>?_|refine kj fun Q hQ=>?_);simp only [vkt,seval,XR,Qhd,qf,qc,qo,qM,YG,List.length_map,ex,ea];(try simp only [ite_and]);(repeat' (first|with_reducible assumption|refine And.intro ?_ ?_|intro hp));all_goals (first|(refine hQ _ ?_;clear hQ Q)|(refine hQ _ (fun h=>?_) (fun h=>?_) <;> clear hQ Q <;> (try simp only [vki,reduceCtorEq] at h))|(refine kx ?_;kernel_rfl)|omega|assumption|with_reducible rfl|skip)))
 (simp only [vrt,Tryz.results129,vkt,seval,XR,Qhd,qf,qc,qo,qM,YG,List.length_map];refine Fin.val rfl ?_;(try simp only [AV.le,AV.leL]))
 all_goals first|rfl|(simp;done)
def jV:List AV→Prop × AV
 |[.sl l,.agg [.v (.int .i64 b0),.v (.int .i64 b1)]]=>(l=(l.map zz).map qo∧(l.map zz).length≤100,aB ((l.map zz).contains (⟨b0,b1⟩:Bunk)))
 |_=>(False,.junk)
theorem Qj3 {A:Frm→Prop}:qE A Tryz.prog 129 (qX true jV):=qW fun vs hv h=>by
 clear hv
 unfold jV at h ⊢
 split at h
 ·rename_i l b0 b1;obtain ⟨q0,k0⟩:=h
  refine ⟨by first|trivial|(simp [AV.plain,AV.plainL,aI,aB,qz,qc,ql,qf,aTk,cTk];done)|(repeat' split) <;> simp [AV.plain,AV.plainL,aI,aB,qz,qc,ql,qf,aTk,cTk],fun _=>(by simp [AV.flat,AV.flatL,aI,aB]), ?_⟩
  have:=Qg3 (⟨b0,b1⟩:Bunk) (l.map zz) k0
  simp only [qf,qc,aI,← q0] at this
  first|exact this|(simp only [qf,qc,aI,← q0];exact this)
 ·exact h.elim
def qm (cs:List Cabin) (s:Int) (r:Nat):AObj:=.cells [.sl (cs.map qh),.v (.int .i64 s),.row r]
def qp (l:List Tk):AObj:=.row 64 7 (l.map eTk)
def qy (cs:List Cabin) (s:Int) (l:List Tk):List AObj:=[qm cs s 1,qp l]
structure NearOk (cs:List Cabin) (l:List Bunk):Prop where
 ne:0 < l.length
 len:l.length≤100
 cabs:cs.length≤100
 mem:∀ b ∈ l,0≤b.cab∧b.cab.toNat < cs.length
def loK (l:List Bunk) (k:Nat):Int:=(l.take k).foldl (fun m b=>min m b.cab) (l.getD 0 default).cab
def hiK (l:List Bunk) (k:Nat):Int:=(l.take k).foldl (fun m b=>max m b.cab) (l.getD 0 default).cab
theorem XY {l:List Bunk} {k:Nat} (h:k < l.length):loK l (k+1)=min (loK l k) (l.getD k default).cab:=by
 unfold loK
 rw [List.take_succ_eq_append_getElem h,List.foldl_append]
 simp [List.getD_eq_getElem?_getD,h]
theorem X5 {l:List Bunk} {k:Nat} (h:k < l.length):hiK l (k+1)=max (hiK l k) (l.getD k default).cab:=by
 unfold hiK
 rw [List.take_succ_eq_append_getElem h,List.foldl_append]
 simp [List.getD_eq_getElem?_getD,h]
theorem Qdn (cs:List Cabin) (l:List Bunk):Zl cs l=(decide (loK l l.length=hiK l l.length) || (decide (loK l l.length+1=hiK l l.length) && (cs.getD (loK l l.length).toNat default).door)):=by
 unfold Zl loK hiK
 rw [List.take_length]
theorem Ro {cs:List Cabin} {l:List Bunk} (h:NearOk cs l):∀ k,k≤l.length→0≤loK l k∧(loK l k).toNat < cs.length∧0≤hiK l k∧(hiK l k).toNat < cs.length:=by
 intro k
 induction k with
 |zero =>
  intro _
  have:=h.mem _ (yB (d:=default) h.ne)
  simp only [loK,hiK,List.take_zero,List.foldl_nil]
  exact ⟨this.1,this.2,this.1,this.2⟩
 |succ k ih =>
  intro hk
  have h1:=ih (by omega)
  have h2:=h.mem _ (yB (d:=default) (show k < l.length by omega))
  rw [XY (by omega),X5 (by omega)]
  omega
def nrS (cs:List Cabin) (s:Int) (sold:List Tk) (l:List Bunk) (k:Nat) (lo hi:Int):St:={ t:=asg [(0,.ptr 0 0),(1,qc l),(4,aB false),(5,aI lo),(6,aI hi),(17,qc l),(18,aI l.length),(19,aI k)],h:=qj [(0,qm cs s 1),(1,qp sold)],n:=2,m:=2 }
def jo:=kk @ty3 (kk @ty4 (kk @W9 (kk @yc (kk @WQ (kk @xJ (kk @Jz (kk @J2 (kk @ti3.eq_1 (kk @ti4.eq_1 (kk @ZT.eq_1 (kk @jM.eq_1 (kk @ZO.eq_1 (kk @vZ.eq_1 (kk @Z4.eq_1 @ZQ.eq_1))))))))))))))
def kw:=kk @aI.eq_1 (@aB.eq_1)
theorem QiF (cs:List Cabin) (s:Int) (sold:List Tk) (l:List Bunk) (ok:NearOk cs l):Fn noB Tryz.prog 130 [.ptr 0 0,qc l] (qj (qQ 0 (qy cs s sold))) (aB (Zl cs l)) (qj (wH 0 ((qy cs s sold).map some))) 0:=by
 have env:Env (fun _=>True) Tryz.prog tyB (tab []):=qL trivial
 refine Fn.of (A:=fun _=>True) (n0:=2) (D:=noD) (Fn0 Tryz.func130 rfl (fun vs w=>by kernel_rfl) (by kernel_rfl)) (by simp) (by simp [AV.ids,AV.idsL,qc]) ?_ (fun _ _ _ _=>trivial) qF ?_
 ·intro i o hi
  have h:=qR hi
  simp [qQ,qy] at h
  rcases h with ⟨rfl,rfl⟩|⟨rfl,rfl⟩ <;> simp [AObj.ids,AV.ids,AV.idsL,qm,qp]
 have hne:=ok.ne
 have hll:=ok.len
 have hcl:=ok.cabs
 have hbd:=Ro ok
 obtain ⟨x0,hx0⟩:∃ x,l.getD 0 default=x:=⟨_,rfl⟩
 have l0:loK l 0=x0.cab:=by rw [← hx0];rfl
 have h0:hiK l 0=x0.cab:=by rw [← hx0];rfl
 rw [Qdn]
 show Sym _ _ _ (zV [.ptr 0 0,qc l] 2 (qj [(0,qm cs s 1),(1,qp sold)])) (xM tyB noD Tryz.f130 fun S rv=>Fin S rv _ 2 (qj [(0,qm cs s 1),(1,qp sold)]) 0)
 repeat' (first|(apply nx;with_reducible constructor)|refine jq (by decide) ?_|((first|refine kz env fun Q hQ=>?_|refine kj fun Q hQ=>?_);simp only [vkt,seval,jo,kw,qf,qc,qo,qD,qh,qC,qm,qp,qy,nrS,List.length_map,hx0];(try simp only [ite_and]);(repeat' (first|with_reducible assumption|refine And.intro ?_ ?_|intro hp));all_goals (first|(refine hQ _ ?_;clear hQ Q)|(refine hQ _ (fun h=>?_) (fun h=>?_) <;> clear hQ Q <;> (try simp only [vki,reduceCtorEq] at h))|(refine kx ?_;kernel_rfl)|omega|assumption|with_reducible rfl|skip)))
 refine qN (fun k:{ k:Nat // k≤l.length }=>nrS cs s sold l k.1 (loK l k.1) (hiK l k.1)) (fun k=>l.length - k.1) ⟨0,Nat.zero_le _⟩ ?_ fun ⟨k,hk⟩=>?_
 ·simp only [l0,h0]
  (refine Le.ok some [] ?_;constructor;all_goals (try simp only [vle,vkt,seval,jo,kw,qf,qc,qo,qD,qh,qC,qm,qp,qy,nrS,List.length_map]))
  all_goals first|rfl|(simp;done)
 ·repeat' (first|(apply nx;with_reducible constructor)|refine jq (by decide) ?_)
  (refine kz env fun Q hQ=>?_;simp only [vkt,seval,jo,kw,qf,qc,qo,qD,qh,qC,qm,qp,qy,nrS,List.length_map];(try simp only [ite_and]);(repeat' (first|with_reducible assumption|refine And.intro ?_ ?_|intro hp));all_goals (first|(refine hQ _ ?_;clear hQ Q)|(refine kx ?_;kernel_rfl)|omega|assumption|with_reducible rfl|skip))
  repeat' (first|(apply nx;with_reducible constructor)|refine jq (by decide) ?_)
  (refine yY (by simp only [vkt,seval,jo,kw,qf,qc,qo,qD,qh,qC,qm,qp,qy,nrS,List.length_map];rfl) (fun h=>?_) (fun h=>?_) <;> (try simp only [vki,reduceCtorEq] at h))
  ·have hlt:k < l.length:=by omega
   have e9:IntKind.wrap .i64 ((k:Int)+1)=((k+1:Nat):Int):=by rw [wrap64 (by omega) (by omega)];rfl
   obtain ⟨x,hx⟩:∃ x,l.getD k default=x:=⟨_,rfl⟩
   have hl1:=XY hlt
   have hh1:=X5 hlt
   rw [hx] at hl1 hh1
   repeat' (first|(apply nx;with_reducible constructor)|refine jq (by decide) ?_|((first|refine kz env fun Q hQ=>?_|refine kj fun Q hQ=>?_);simp only [vkt,seval,jo,kw,qf,qc,qo,qD,qh,qC,qm,qp,qy,nrS,List.length_map,hx,e9];(try simp only [ite_and]);(repeat' (first|with_reducible assumption|refine And.intro ?_ ?_|intro hp));all_goals (first|(refine hQ _ ?_;clear hQ Q)|(refine hQ _ (fun h=>?_) (fun h=>?_) <;> clear hQ Q <;> (try simp only [vki,reduceCtorEq] at h))|(refine kx ?_;kernel_rfl)|omega|assumption|with_reducible rfl|skip)))
   refine ⟨⟨k+1,hlt⟩,by show l.length - (k+1) < l.length - k;omega, ?_⟩
   simp only [hl1,hh1]
   (refine Le.ok some [] ?_;constructor;all_goals (try simp only [vle,vkt,seval,jo,kw,qf,qc,qo,qD,qh,qC,qm,qp,qy,nrS,List.length_map]))
   all_goals first|rfl|(simp;done)
  ·have hke:k=l.length:=by omega
   subst hke
   obtain ⟨g1,g2,g3,g4⟩:=hbd l.length (Nat.le_refl _)
   obtain ⟨lo,hlo⟩:∃ x,loK l l.length=x:=⟨_,rfl⟩
   obtain ⟨hi,hhi⟩:∃ x,hiK l l.length=x:=⟨_,rfl⟩
   rw [hlo] at g1 g2
   rw [hhi] at g3 g4
   obtain ⟨x,hx⟩:∃ x,cs.getD lo.toNat default=x:=⟨_,rfl⟩
   have w1:IntKind.wrap .i64 (lo+1)=lo+1:=wrap64 (by omega) (by omega)
   simp only [hlo,hhi]
   by_cases c1:lo=hi
   ·rw [show (decide (lo=hi) || (decide (lo+1=hi) && (cs.getD lo.toNat default).door))=true by simp [c1]]
    have d1:decide (lo=hi)=true:=decide_eq_true c1
    have d1':(lo == hi)=true:=by simpa using c1
    repeat' (first|(apply nx;with_reducible constructor)|refine jq (by decide) ?_|((first|refine kz env fun Q hQ=>?_|refine kj fun Q hQ=>?_);simp only [vkt,seval,jo,kw,qf,qc,qo,qD,qh,qC,qm,qp,qy,nrS,List.length_map,d1,d1',w1,hx,g1,g2];(try simp only [ite_and]);(repeat' (first|with_reducible assumption|refine And.intro ?_ ?_|intro hp));all_goals (first|(refine hQ _ ?_;clear hQ Q)|(refine hQ _ (fun h=>?_) (fun h=>?_) <;> clear hQ Q <;> (try simp only [vki,reduceCtorEq] at h))|(refine kx ?_;kernel_rfl)|omega|assumption|with_reducible rfl|skip)))
    (simp only [vrt,Tryz.results130,vkt,seval,jo,kw,qf,qc,qo,qD,qh,qC,qm,qp,qy,nrS,List.length_map];refine Fin.ok some [] ?_ ?_ ?_ ?_ ?_ rfl;all_goals (try simp only [vle,vkt,seval,jo,kw,qf,qc,qo,qD,qh,qC,qm,qp,qy,nrS,List.length_map]))
    all_goals first|rfl|(simp;done)
   ·have d1:decide (lo=hi)=false:=decide_eq_false c1
    have d1':(lo == hi)=false:=by simpa using c1
    by_cases c2:lo+1=hi
    ·rw [show (decide (lo=hi) || (decide (lo+1=hi) && (cs.getD lo.toNat default).door))=x.door by rw [d1,hx,decide_eq_true c2];simp]
     have d2:decide (lo+1=hi)=true:=decide_eq_true c2
     have d2':(lo+1 == hi)=true:=by simpa using c2
     repeat' (first|(apply nx;with_reducible constructor)|refine jq (by decide) ?_|((first|refine kz env fun Q hQ=>?_|refine kj fun Q hQ=>?_);simp only [vkt,seval,jo,kw,qf,qc,qo,qD,qh,qC,qm,qp,qy,nrS,List.length_map,d1,d1',d2,d2',w1,hx,g1,g2];(try simp only [ite_and]);(repeat' (first|with_reducible assumption|refine And.intro ?_ ?_|intro hp));all_goals (first|(refine hQ _ ?_;clear hQ Q)|(refine hQ _ (fun h=>?_) (fun h=>?_) <;> clear hQ Q <;> (try simp only [vki,reduceCtorEq] at h))|(refine kx ?_;kernel_rfl)|omega|assumption|with_reducible rfl|skip)))
     (simp only [vrt,Tryz.results130,vkt,seval,jo,kw,qf,qc,qo,qD,qh,qC,qm,qp,qy,nrS,List.length_map];refine Fin.ok some [] ?_ ?_ ?_ ?_ ?_ rfl;all_goals (try simp only [vle,vkt,seval,jo,kw,qf,qc,qo,qD,qh,qC,qm,qp,qy,nrS,List.length_map]))
     all_goals first|rfl|(simp;done)
    ·rw [show (decide (lo=hi) || (decide (lo+1=hi) && (cs.getD lo.toNat default).door))=false by rw [d1,decide_eq_false c2];rfl]
     have d2:decide (lo+1=hi)=false:=decide_eq_false c2
     have d2':(lo+1 == hi)=false:=by simpa using c2
     repeat' (first|(apply nx;with_reducible constructor)|refine jq (by decide) ?_|((first|refine kz env fun Q hQ=>?_|refine kj fun Q hQ=>?_);simp only [vkt,seval,jo,kw,qf,qc,qo,qD,qh,qC,qm,qp,qy,nrS,List.length_map,d1,d1',d2,d2',w1,hx,g1,g2];(try simp only [ite_and]);(repeat' (first|with_reducible assumption|refine And.intro ?_ ?_|intro hp));all_goals (first|(refine hQ _ ?_;clear hQ Q)|(refine hQ _ (fun h=>?_) (fun h=>?_) <;> clear hQ Q <;> (try simp only [vki,reduceCtorEq] at h))|(refine kx ?_;kernel_rfl)|omega|assumption|with_reducible rfl|skip)))
     (simp only [vrt,Tryz.results130,vkt,seval,jo,kw,qf,qc,qo,qD,qh,qC,qm,qp,qy,nrS,List.length_map];refine Fin.ok some [] ?_ ?_ ?_ ?_ ?_ rfl;all_goals (try simp only [vle,vkt,seval,jo,kw,qf,qc,qo,qD,qh,qC,qm,qp,qy,nrS,List.length_map]))
     all_goals first|rfl|(simp;done)
def WS:=kk @ty3 @ti3.eq_1
def QbN:=kk @aI.eq_1 (@aB.eq_1)
theorem QeX (x n m:Int) (h:0≤m∧m≤100000):Fn noB Tryz.prog 26 [.ptr 0 0,aI n,aI m] (qj (zR x)) (aB (decide (upV x (m - 1) < n))) (qj (zR (upS x (m - 1)))) 0:=by
 have env:Env (fun _=>True) Tryz.prog tyB (tab [(31,fnE pUp)]):=qL ⟨eUp,trivial⟩
 refine Fn.of (A:=fun _=>True) (n0:=1) (D:=noD) (Fn0 Tryz.func26 rfl (fun vs w=>by kernel_rfl) (by kernel_rfl)) (by simp) (by simp [AV.ids,AV.idsL,aI]) ?_ (fun _ _ _ _=>trivial) qF ?_
 ·intro i o hi
  have h:=qR hi
  simp [zR] at h
  rcases h with ⟨rfl,rfl⟩;simp [AObj.ids,AV.ids,AV.idsL]
 have h1:IntKind.wrap .i64 (m - 1)=m - 1:=wrap64 (by omega) (by omega)
 have h2:m - 1 < 9223372036854775807:=by omega
 repeat' (first|(apply nx;with_reducible constructor)|refine jq (by decide) ?_|((first|refine kz env fun Q hQ=>?_|refine kj fun Q hQ=>?_);simp only [vkt,seval,WS,QbN,zR,pUp,h1,h2];(try simp only [ite_and]);(repeat' (first|with_reducible assumption|refine And.intro ?_ ?_|intro hp));all_goals (first|(refine hQ _ ?_;clear hQ Q)|(refine hQ _ (fun h=>?_) (fun h=>?_) <;> clear hQ Q <;> (try simp only [vki,reduceCtorEq] at h))|(refine kx ?_;kernel_rfl)|omega|assumption|with_reducible rfl|skip)))
 (simp only [vrt,Tryz.results26,vkt,seval,WS,QbN,zR,pUp];refine Fin.ok some [] ?_ ?_ ?_ ?_ ?_ rfl;all_goals (try simp only [vle,vkt,seval,WS,QbN,zR,pUp]))
 all_goals first|rfl|(simp;done)
noncomputable def zC (S:St):List AV→Option Pk
 |[.ptr i 0,.v (.int .i64 n),.v (.int .i64 m)]=>match S.h i with
  |some (.cells [.v (.int .u64 x)])=>some { pre:=0≤m∧m≤100000,hs:=[i],ar:=[.ptr 0 0,.v (.int .i64 n),.v (.int .i64 m)],L0:=[.cells [.v (.int .u64 x)]],v:=.v (.bool (decide (upV x (m - 1) < n))),L1:=[some (.cells [.v (.int .u64 (upS x (m - 1)))])] }
  |_=>none
 |_=>none
theorem QdK {A:Frm→Prop}:qE A Tryz.prog 26 (fnE zC):=zY fun S bs q h hp=>by
 unfold zC at h
 split at h
 ·split at h
  ·cases h;exact QeX _ _ _ hp
  ·cases h
 ·cases h
def Xg:=kk @ty3 (kk @Qe (kk @ti3.eq_1 @x8.eq_1))
def Qba:=kk @aI.eq_1 (kk @aB.eq_1 (kk @qz.eq_1 (kk @zF.eq_1 (@XE))))
theorem QkH (x:Int) (l:List Int) (h:0 < l.length∧l.length≤100000):Fn noB Tryz.prog 47 [.ptr 0 0,qz l] (qj (zR x)) (aI (l.getD (upV x ((l.length:Int) - 1)).toNat 0)) (qj (zR (upS x ((l.length:Int) - 1)))) 0:=by
 have env:Env (fun _=>True) Tryz.prog tyB (tab [(31,fnE pUp)]):=qL ⟨eUp,trivial⟩
 refine Fn.of (A:=fun _=>True) (n0:=1) (D:=noD) (Fn0 Tryz.func47 rfl (fun vs w=>by kernel_rfl) (by kernel_rfl)) (by simp) (by simp [AV.ids,AV.idsL,qz]) ?_ (fun _ _ _ _=>trivial) qF ?_
 ·intro i o hi
  have h:=qR hi
  simp [zR] at h
  rcases h with ⟨rfl,rfl⟩;simp [AObj.ids,AV.ids,AV.idsL]
 have h1:IntKind.wrap .i64 ((l.length:Int) - 1)=(l.length:Int) - 1:=wrap64 (by omega) (by omega)
 have h2:(l.length:Int) - 1 < 9223372036854775807:=by omega
 have hb:=Qbj (x:=x) (m:=(l.length:Int) - 1) h2
 obtain ⟨i,hi⟩:∃ i:Nat,upV x ((l.length:Int) - 1)=i:=⟨(upV x ((l.length:Int) - 1)).toNat,by omega⟩
 rw [hi] at hb ⊢
 have i0:((i:Int)).toNat=i:=rfl
 have hil:i < l.length:=by omega
 have d0:decide ((l.length:Int)=0)=false:=decide_eq_false (by omega)
 obtain ⟨y,hy⟩:∃ y,l.getD i 0=y:=⟨_,rfl⟩
 rw [i0,hy]
 repeat' (first|(apply nx;with_reducible constructor)|refine jq (by decide) ?_|((first|refine kz env fun Q hQ=>?_|refine kj fun Q hQ=>?_);simp only [vkt,seval,Xg,Qba,zR,pUp,List.length_map,h1,h2,hi,i0,hil,d0,hy];(try simp only [ite_and]);(repeat' (first|with_reducible assumption|refine And.intro ?_ ?_|intro hp));all_goals (first|(refine hQ _ ?_;clear hQ Q)|(refine hQ _ (fun h=>?_) (fun h=>?_) <;> clear hQ Q <;> (try simp only [vki,reduceCtorEq] at h))|(refine kx ?_;kernel_rfl)|omega|assumption|with_reducible rfl|skip)))
 (simp only [vrt,Tryz.results47,vkt,seval,Xg,Qba,zR,pUp,List.length_map];refine Fin.ok some [] ?_ ?_ ?_ ?_ ?_ rfl;all_goals (try simp only [vle,vkt,seval,Xg,Qba,zR,pUp,List.length_map]))
 all_goals first|rfl|(simp;done)
noncomputable def xc (S:St):List AV→Option Pk
 |[.ptr i 0,.row r]=>match S.h i,S.h r with
  |some (.cells [.v (.int .u64 x)]),some (.row _ _ xs)=>some { pre:=xs=(xs.map zb).map zF∧0 < (xs.map zb).length∧(xs.map zb).length≤100000,hs:=[i],bo:=[r],ar:=[.ptr 0 0,.sl xs],L0:=[.cells [.v (.int .u64 x)]],v:=.v (.int .i64 ((xs.map zb).getD (upV x (((xs.map zb).length:Int) - 1)).toNat 0)),L1:=[some (.cells [.v (.int .u64 (upS x (((xs.map zb).length:Int) - 1)))])] }
  |_,_=>none
 |_=>none
theorem eOne {A:Frm→Prop}:qE A Tryz.prog 47 (fnE xc):=zY fun S bs q h hp=>by
 unfold xc at h
 split at h
 ·split at h
  ·cases h
   have:=QkH (by assumption) _ hp.2
   rw [qz,← hp.1] at this
   exact this
  ·cases h
 ·cases h
def Vs (t x:Tk):Bool:=decide (x.cab=t.cab) && !decide (t.to≤x.frm) && !decide (x.to≤t.frm) && (decide (x.bed=t.bed) || (!decide (x.party=t.party) && (!decide (x.sex=t.sex) || x.dog || t.dog)))
def WO (l:List Tk) (t:Tk):Bool:=!l.any (Vs t)
theorem Qgy {l:List Tk} {t:Tk} {k:Nat} (hk:k < l.length) (h:Vs t (l.getD k default)=true):WO l t=false:=by
 unfold WO
 rw [List.any_eq_true.2 ⟨_,yB hk,h⟩];rfl
theorem QdL {l:List Tk} {t:Tk} (h:∀ j,j < l.length→Vs t (l.getD j default)=false):WO l t=true:=by
 unfold WO
 rw [show l.any (Vs t)=false from List.any_eq_false.2 fun x hx=>?_]
 ·rfl
 ·obtain ⟨j,hj,rfl⟩:=List.mem_iff_getElem.1 hx
  have:=h j hj
  rw [show l.getD j default=l[j] by simp [List.getD_eq_getElem?_getD,hj]] at this
  rw [this];simp
def goS (l:List Tk) (t:Tk) (k:Nat):St:={ t:=asg [(0,ql l),(3,.ptr 0 0),(4,aB false),(5,aI k)],h:=qj [(0,.cells (cTk t))],n:=1 }
def zU:=kk @ty3 (kk @ty4 (kk @x9 (kk @xJ (kk @yU (kk @ti3.eq_1 (kk @ti4.eq_1 (kk @xD.eq_1 (kk @vZ.eq_1 @yA.eq_1))))))))
def yD:=kk @aI.eq_1 (@aB.eq_1)
set_option maxHeartbeats 1000000 in
theorem QhX (l:List Tk) (t:Tk) (hl:l.length≤100):FnV Tryz.prog 48 [ql l,aTk t] (aB (WO l t)):=by
 have env:Env (fun _=>True) Tryz.prog tyB (tab []):=qL trivial
 refine Fn.of (A:=fun _=>True) (n0:=0) (D:=noD) (Fn0 Tryz.func48 rfl (fun vs w=>by kernel_rfl) (by kernel_rfl)) (by simp) (by simp [AV.ids,AV.idsL,ql,aTk,cTk]) (fun i o h=>by cases h) (fun _ _ _ _=>trivial) qF ?_
 repeat' (first|(apply nx;with_reducible constructor)|refine jq (by decide) ?_|((first|refine kz env fun Q hQ=>?_|refine kj fun Q hQ=>?_);simp only [vkt,seval,zU,yD,aTk,cTk,ql,eTk,gTk,goS,List.length_map];(try simp only [ite_and]);(repeat' (first|with_reducible assumption|refine And.intro ?_ ?_|intro hp));all_goals (first|(refine hQ _ ?_;clear hQ Q)|(refine hQ _ (fun h=>?_) (fun h=>?_) <;> clear hQ Q <;> (try simp only [vki,reduceCtorEq] at h))|(refine kx ?_;kernel_rfl)|omega|assumption|with_reducible rfl|skip)))
 refine qN (fun k:{ k:Nat // k≤l.length∧∀ j,j < k→Vs t (l.getD j default)=false }=>goS l t k.1) (fun k=>l.length - k.1) ⟨0,Nat.zero_le _,fun j h=>absurd h (Nat.not_lt_zero _)⟩ ?_ fun ⟨k,hk,hno⟩=>?_
 ·(refine Le.ok some [] ?_;constructor;all_goals (try simp only [vle,vkt,seval,zU,yD,aTk,cTk,ql,eTk,gTk,goS,List.length_map]))
  all_goals first|rfl|(simp;done)
 simp only at hk hno ⊢
 by_cases hkl:k < l.length
 ·have d1:decide ((k:Int) < (l.length:Int))=true:=decide_eq_true (by omega)
  have e9:IntKind.wrap .i64 ((k:Int)+1)=((k+1:Nat):Int):=by rw [wrap64 (by omega) (by omega)];rfl
  have i0:((k:Int)).toNat=k:=rfl
  obtain ⟨x,hx⟩:∃ x,l.getD k default=x:=⟨_,rfl⟩
  have nxt:Vs t x=false→∀ S,Le S (goS l t (k+1))→∃ y:{ k:Nat // k≤l.length∧∀ j,j < k→Vs t (l.getD j default)=false },(l.length - y.1 < l.length - k)∧Le S (goS l t y.1):=fun hb S hS=>⟨⟨k+1,hkl,fun j hj=>by
   rcases Nat.lt_or_eq_of_le (Nat.le_of_lt_succ hj) with h1|h1
   ·exact hno j h1
   ·rw [h1,hx];exact hb⟩,by show l.length - (k+1) < l.length - k;omega,hS⟩
  have fin:Vs t x=true→WO l t=false:=fun hb=>Qgy hkl (by rw [hx];exact hb)
  have hbx:Vs t x=(decide (x.cab=t.cab) && !decide (t.to≤x.frm) && !decide (x.to≤t.frm) && (decide (x.bed=t.bed) || (!decide (x.party=t.party) && (!decide (x.sex=t.sex) || x.dog || t.dog)))):=rfl
  cases q1:decide (x.cab=t.cab)
  ·repeat' (first|(apply nx;with_reducible constructor)|refine jq (by decide) ?_|((first|refine kz env fun Q hQ=>?_|refine kj fun Q hQ=>?_);simp only [vkt,seval,zU,yD,aTk,cTk,ql,eTk,gTk,goS,List.length_map,d1,e9,i0,hkl,hx,q1,Bool.not_false];(try simp only [ite_and]);(repeat' (first|with_reducible assumption|refine And.intro ?_ ?_|intro hp));all_goals (first|(refine hQ _ ?_;clear hQ Q)|(refine hQ _ (fun h=>?_) (fun h=>?_) <;> clear hQ Q <;> (try simp only [vki,reduceCtorEq] at h))|(refine kx ?_;kernel_rfl)|omega|assumption|with_reducible rfl|skip)))
   refine nxt (by rw [hbx,q1];rfl) _ ?_
   (refine Le.ok some [] ?_;constructor;all_goals (try simp only [vle,vkt,seval,zU,yD,aTk,cTk,ql,eTk,gTk,goS,List.length_map]))
   all_goals first|rfl|(simp;done)
  cases q2:decide (t.to≤x.frm)
  case true =>
   repeat' (first|(apply nx;with_reducible constructor)|refine jq (by decide) ?_|((first|refine kz env fun Q hQ=>?_|refine kj fun Q hQ=>?_);simp only [vkt,seval,zU,yD,aTk,cTk,ql,eTk,gTk,goS,List.length_map,d1,e9,i0,hkl,hx,q1,q2,Bool.not_true];(try simp only [ite_and]);(repeat' (first|with_reducible assumption|refine And.intro ?_ ?_|intro hp));all_goals (first|(refine hQ _ ?_;clear hQ Q)|(refine hQ _ (fun h=>?_) (fun h=>?_) <;> clear hQ Q <;> (try simp only [vki,reduceCtorEq] at h))|(refine kx ?_;kernel_rfl)|omega|assumption|with_reducible rfl|skip)))
   refine nxt (by rw [hbx,q1,q2];rfl) _ ?_
   (refine Le.ok some [] ?_;constructor;all_goals (try simp only [vle,vkt,seval,zU,yD,aTk,cTk,ql,eTk,gTk,goS,List.length_map]))
   all_goals first|rfl|(simp;done)
  cases q3:decide (x.to≤t.frm)
  case true =>
   repeat' (first|(apply nx;with_reducible constructor)|refine jq (by decide) ?_|((first|refine kz env fun Q hQ=>?_|refine kj fun Q hQ=>?_);simp only [vkt,seval,zU,yD,aTk,cTk,ql,eTk,gTk,goS,List.length_map,d1,e9,i0,hkl,hx,q1,q2,q3,Bool.not_true];(try simp only [ite_and]);(repeat' (first|with_reducible assumption|refine And.intro ?_ ?_|intro hp));all_goals (first|(refine hQ _ ?_;clear hQ Q)|(refine hQ _ (fun h=>?_) (fun h=>?_) <;> clear hQ Q <;> (try simp only [vki,reduceCtorEq] at h))|(refine kx ?_;kernel_rfl)|omega|assumption|with_reducible rfl|skip)))
   refine nxt (by rw [hbx,q1,q2,q3];rfl) _ ?_
   (refine Le.ok some [] ?_;constructor;all_goals (try simp only [vle,vkt,seval,zU,yD,aTk,cTk,ql,eTk,gTk,goS,List.length_map]))
   all_goals first|rfl|(simp;done)
  cases q4:decide (x.bed=t.bed)
  case true =>
   rw [fin (by rw [hbx,q1,q2,q3,q4];rfl)]
   repeat' (first|(apply nx;with_reducible constructor)|refine jq (by decide) ?_|((first|refine kz env fun Q hQ=>?_|refine kj fun Q hQ=>?_);simp only [vkt,seval,zU,yD,aTk,cTk,ql,eTk,gTk,goS,List.length_map,d1,e9,i0,hkl,hx,q1,q2,q3,q4,Bool.not_true];(try simp only [ite_and]);(repeat' (first|with_reducible assumption|refine And.intro ?_ ?_|intro hp));all_goals (first|(refine hQ _ ?_;clear hQ Q)|(refine hQ _ (fun h=>?_) (fun h=>?_) <;> clear hQ Q <;> (try simp only [vki,reduceCtorEq] at h))|(refine kx ?_;kernel_rfl)|omega|assumption|with_reducible rfl|skip)))
   (simp only [vrt,Tryz.results48,vkt,seval,zU,yD,aTk,cTk,ql,eTk,gTk,goS,List.length_map];refine Fin.val rfl ?_;(try simp only [AV.le,AV.leL]))
   all_goals first|rfl|(simp;done)
  cases q5:decide (x.party=t.party)
  case true =>
   repeat' (first|(apply nx;with_reducible constructor)|refine jq (by decide) ?_|((first|refine kz env fun Q hQ=>?_|refine kj fun Q hQ=>?_);simp only [vkt,seval,zU,yD,aTk,cTk,ql,eTk,gTk,goS,List.length_map,d1,e9,i0,hkl,hx,q1,q2,q3,q4,q5,Bool.not_true];(try simp only [ite_and]);(repeat' (first|with_reducible assumption|refine And.intro ?_ ?_|intro hp));all_goals (first|(refine hQ _ ?_;clear hQ Q)|(refine hQ _ (fun h=>?_) (fun h=>?_) <;> clear hQ Q <;> (try simp only [vki,reduceCtorEq] at h))|(refine kx ?_;kernel_rfl)|omega|assumption|with_reducible rfl|skip)))
   refine nxt (by rw [hbx,q1,q2,q3,q4,q5];rfl) _ ?_
   (refine Le.ok some [] ?_;constructor;all_goals (try simp only [vle,vkt,seval,zU,yD,aTk,cTk,ql,eTk,gTk,goS,List.length_map]))
   all_goals first|rfl|(simp;done)
  cases q6:decide (x.sex=t.sex)
  ·rw [fin (by rw [hbx,q1,q2,q3,q4,q5,q6];rfl)]
   repeat' (first|(apply nx;with_reducible constructor)|refine jq (by decide) ?_|((first|refine kz env fun Q hQ=>?_|refine kj fun Q hQ=>?_);simp only [vkt,seval,zU,yD,aTk,cTk,ql,eTk,gTk,goS,List.length_map,d1,e9,i0,hkl,hx,q1,q2,q3,q4,q5,q6,Bool.not_true,Bool.not_false];(try simp only [ite_and]);(repeat' (first|with_reducible assumption|refine And.intro ?_ ?_|intro hp));all_goals (first|(refine hQ _ ?_;clear hQ Q)|(refine hQ _ (fun h=>?_) (fun h=>?_) <;> clear hQ Q <;> (try simp only [vki,reduceCtorEq] at h))|(refine kx ?_;kernel_rfl)|omega|assumption|with_reducible rfl|skip)))
   (simp only [vrt,Tryz.results48,vkt,seval,zU,yD,aTk,cTk,ql,eTk,gTk,goS,List.length_map];refine Fin.val rfl ?_;(try simp only [AV.le,AV.leL]))
   all_goals first|rfl|(simp;done)
  cases q7:x.dog
  case true =>
   rw [fin (by rw [hbx,q1,q2,q3,q4,q5,q6,q7];rfl)]
   repeat' (first|(apply nx;with_reducible constructor)|refine jq (by decide) ?_|((first|refine kz env fun Q hQ=>?_|refine kj fun Q hQ=>?_);simp only [vkt,seval,zU,yD,aTk,cTk,ql,eTk,gTk,goS,List.length_map,d1,e9,i0,hkl,hx,q1,q2,q3,q4,q5,q6,q7,Bool.not_true,Bool.not_false];(try simp only [ite_and]);(repeat' (first|with_reducible assumption|refine And.intro ?_ ?_|intro hp));all_goals (first|(refine hQ _ ?_;clear hQ Q)|(refine hQ _ (fun h=>?_) (fun h=>?_) <;> clear hQ Q <;> (try simp only [vki,reduceCtorEq] at h))|(refine kx ?_;kernel_rfl)|omega|assumption|with_reducible rfl|skip)))
   (simp only [vrt,Tryz.results48,vkt,seval,zU,yD,aTk,cTk,ql,eTk,gTk,goS,List.length_map];refine Fin.val rfl ?_;(try simp only [AV.le,AV.leL]))
   all_goals first|rfl|(simp;done)
  cases q8:t.dog
  ·repeat' (first|(apply nx;with_reducible constructor)|refine jq (by decide) ?_|((first|refine kz env fun Q hQ=>?_|refine kj fun Q hQ=>?_);simp only [vkt,seval,zU,yD,aTk,cTk,ql,eTk,gTk,goS,List.length_map,d1,e9,i0,hkl,hx,q1,q2,q3,q4,q5,q6,q7,q8,Bool.not_true,Bool.not_false];(try simp only [ite_and]);(repeat' (first|with_reducible assumption|refine And.intro ?_ ?_|intro hp));all_goals (first|(refine hQ _ ?_;clear hQ Q)|(refine hQ _ (fun h=>?_) (fun h=>?_) <;> clear hQ Q <;> (try simp only [vki,reduceCtorEq] at h))|(refine kx ?_;kernel_rfl)|omega|assumption|with_reducible rfl|skip)))
   refine nxt (by rw [hbx,q1,q2,q3,q4,q5,q6,q7,q8];rfl) _ ?_
   (refine Le.ok some [] ?_;constructor;all_goals (try simp only [vle,vkt,seval,zU,yD,aTk,cTk,ql,eTk,gTk,goS,List.length_map]))
   all_goals first|rfl|(simp [q8];done)
  ·rw [fin (by rw [hbx,q1,q2,q3,q4,q5,q6,q7,q8];rfl)]
   repeat' (first|(apply nx;with_reducible constructor)|refine jq (by decide) ?_|((first|refine kz env fun Q hQ=>?_|refine kj fun Q hQ=>?_);simp only [vkt,seval,zU,yD,aTk,cTk,ql,eTk,gTk,goS,List.length_map,d1,e9,i0,hkl,hx,q1,q2,q3,q4,q5,q6,q7,q8,Bool.not_true,Bool.not_false];(try simp only [ite_and]);(repeat' (first|with_reducible assumption|refine And.intro ?_ ?_|intro hp));all_goals (first|(refine hQ _ ?_;clear hQ Q)|(refine hQ _ (fun h=>?_) (fun h=>?_) <;> clear hQ Q <;> (try simp only [vki,reduceCtorEq] at h))|(refine kx ?_;kernel_rfl)|omega|assumption|with_reducible rfl|skip)))
   (simp only [vrt,Tryz.results48,vkt,seval,zU,yD,aTk,cTk,ql,eTk,gTk,goS,List.length_map];refine Fin.val rfl ?_;(try simp only [AV.le,AV.leL]))
   all_goals first|rfl|(simp;done)
 ·have d1:decide ((k:Int) < (l.length:Int))=false:=decide_eq_false (by omega)
  rw [QdL (fun j hj=>hno j (by omega))]
  repeat' (first|(apply nx;with_reducible constructor)|refine jq (by decide) ?_|((first|refine kz env fun Q hQ=>?_|refine kj fun Q hQ=>?_);simp only [vkt,seval,zU,yD,aTk,cTk,ql,eTk,gTk,goS,List.length_map,d1];(try simp only [ite_and]);(repeat' (first|with_reducible assumption|refine And.intro ?_ ?_|intro hp));all_goals (first|(refine hQ _ ?_;clear hQ Q)|(refine hQ _ (fun h=>?_) (fun h=>?_) <;> clear hQ Q <;> (try simp only [vki,reduceCtorEq] at h))|(refine kx ?_;kernel_rfl)|omega|assumption|with_reducible rfl|skip)))
  (simp only [vrt,Tryz.results48,vkt,seval,zU,yD,aTk,cTk,ql,eTk,gTk,goS,List.length_map];refine Fin.val rfl ?_;(try simp only [AV.le,AV.leL]))
  all_goals first|rfl|(simp;done)
def yT:List AV→Prop × AV
 |[.sl l,.agg [.v (.int .i64 t0),.v (.int .i64 t1),.v (.int .i64 t2),.v (.int .i64 t3),.v (.int .i64 t4),.v (.int .i64 t5),.v (.bool t6)]]=>(l=(l.map dTk).map eTk∧(l.map dTk).length≤100,aB (WO (l.map dTk) (⟨t0,t1,t2,t3,t4,t5,t6⟩:Tk)))
 |_=>(False,.junk)
theorem egoes {A:Frm→Prop}:qE A Tryz.prog 48 (qX true yT):=qW fun vs hv h=>by
 clear hv
 unfold yT at h ⊢
 split at h
 ·rename_i l t0 t1 t2 t3 t4 t5 t6;obtain ⟨q0,k0⟩:=h
  refine ⟨by first|trivial|(simp [AV.plain,AV.plainL,aI,aB,qz,qc,ql,qf,aTk,cTk];done)|(repeat' split) <;> simp [AV.plain,AV.plainL,aI,aB,qz,qc,ql,qf,aTk,cTk],fun _=>(by simp [AV.flat,AV.flatL,aI,aB]), ?_⟩
  have:=QhX (l.map dTk) (⟨t0,t1,t2,t3,t4,t5,t6⟩:Tk) k0
  simp only [aB,aI,aTk,ql,cTk,← q0] at this
  first|exact this|(simp only [aB,aI,aTk,ql,cTk,← q0];exact this)
 ·exact h.elim
theorem dI1 (a:Int):zb [.v (.int .i64 a)]=a:=rfl
noncomputable def xL (x:Int):Nat→List Cabin × Int
 |0=>([],x)
 |k+1=>((xL x k).1++[⟨1+upV (xL x k).2 2,decide (upV (upS (xL x k).2 2) 2 < 2)⟩],upS (upS (xL x k).2 2) 2)
noncomputable def pA (p s:Int):Int × Int:=if p=0 then (p+(1+upV s 2),upS s 2) else if upV s 3 < 1 then (p,upS s 3) else (p+(1+upV (upS s 3) 2),upS (upS s 3) 2)
noncomputable def xI (cs:List Cabin) (secs p s1:Int):Tk × Int :=
 let n:=upV s1 ((cs.length:Int) - 1)
 let s2:=upS s1 ((cs.length:Int) - 1)
 let s3:=upS s2 1
 let b:=(cs.getD n.toNat default).beds
 let s4:=upS s3 (b - 1)
 let f:=upV s4 (secs - 1)
 let s5:=upS s4 (secs - 1)
 let s6:=upS s5 7
 (⟨p,([1,2]:List Int).getD (upV s2 1).toNat 0,n,upV s3 (b - 1),f,f+1+upV s6 (secs - (f+1)),decide (upV s5 7 < 1)⟩,upS s6 (secs - (f+1)))
noncomputable def tkK (cs:List Cabin) (secs x:Int):Nat→Int × List Tk × Int
 |0=>(0,[],x)
 |k+1=>((pA (tkK cs secs x k).1 (tkK cs secs x k).2.2).1,if WO (tkK cs secs x k).2.1 (xI cs secs (pA (tkK cs secs x k).1 (tkK cs secs x k).2.2).1 (pA (tkK cs secs x k).1 (tkK cs secs x k).2.2).2).1 then (tkK cs secs x k).2.1++[(xI cs secs (pA (tkK cs secs x k).1 (tkK cs secs x k).2.2).1 (pA (tkK cs secs x k).1 (tkK cs secs x k).2.2).2).1] else (tkK cs secs x k).2.1,
   (xI cs secs (pA (tkK cs secs x k).1 (tkK cs secs x k).2.2).1 (pA (tkK cs secs x k).1 (tkK cs secs x k).2.2).2).2)
noncomputable def Zj (x g:Int):Int:=1+upV x (g - 1)
noncomputable def XA (x g:Int):Int:=upS x (g - 1)
noncomputable def xK (x g a:Int):List Cabin × Int:=xL (upS (XA x g) (a - 1)) (1+upV (XA x g) (a - 1)).toNat
noncomputable def Qel (x g a s:Int):Int × List Tk × Int:=tkK (xK x g a).1 (Zj x g) (upS (xK x g a).2 s) (upV (xK x g a).2 s).toNat
noncomputable def coC (x a g s:Int):Chart:=⟨(xK x g a).1,Zj x g,(Qel x g a s).2.1⟩
noncomputable def coX (x a g s:Int):Int:=(Qel x g a s).2.2
theorem up2 (x:Int) {m:Int} (h0:0≤m) (h:m≤100000):0≤upV x m∧upV x m≤m:=by
 have:=Qbj (x:=x) (m:=m) (by omega)
 omega
theorem QgR {p s p1 s1:Int} (h:pA p s=(p1,s1)) (hp:0≤p∧p≤1000) :
  ∃ (b:Bool) (sB:Int),((decide (p=0)=true∧True∧b=true∧sB=s)∨(decide (p=0)=false∧decide (upV s 3 < 1)=!b∧True∧sB=upS s 3))∧((b=true∧IntKind.wrap .i64 (p+(1+upV sB 2))=p1∧upS sB 2=s1)∨(b=false∧p=p1∧sB=s1)):=by
 unfold pA at h
 split at h
 ·rename_i h0
  have:=up2 s (m:=2) (by omega) (by omega)
  cases h
  exact ⟨true,s,.inl ⟨decide_eq_true h0,trivial,rfl,rfl⟩,.inl ⟨rfl,wrap64 (by omega) (by omega),rfl⟩⟩
 ·rename_i h0
  split at h
  ·rename_i h1
   cases h
   exact ⟨false,upS s 3,.inr ⟨decide_eq_false h0,decide_eq_true h1,trivial,rfl⟩,.inr ⟨rfl,rfl,rfl⟩⟩
  ·rename_i h1
   have:=up2 (upS s 3) (m:=2) (by omega) (by omega)
   cases h
   exact ⟨true,upS s 3,.inr ⟨decide_eq_false h0,decide_eq_false h1,trivial,rfl⟩,.inl ⟨rfl,wrap64 (by omega) (by omega),rfl⟩⟩
theorem Qjy {p s:Int} (hp:0≤p):p≤(pA p s).1∧1≤(pA p s).1∧(pA p s).1≤p+3:=by
 have h1:=up2 s (m:=2) (by omega) (by omega)
 have h2:=up2 (upS s 3) (m:=2) (by omega) (by omega)
 unfold pA
 split
 ·simp only;omega
 ·split
  ·simp only;omega
  ·simp only;omega
theorem Uz (cs:List Cabin) (secs x:Int):∀ k,0≤(tkK cs secs x k).1∧(tkK cs secs x k).1≤3 * k∧(tkK cs secs x k).2.1.length≤k
 |0=>⟨Int.le_refl _,Int.le_refl _,Nat.le_refl _⟩
 |k+1=>by
  obtain ⟨h1,h2,h3⟩:=Uz cs secs x k
  have h4:=Qjy (s:=(tkK cs secs x k).2.2) h1
  rw [tkK]
  refine ⟨by simp only;omega,by simp only;omega, ?_⟩
  simp only
  split
  ·rw [List.length_append,List.length_singleton];omega
  ·omega
theorem UG (x:Int):∀ k,(xL x k).1.length=k∧∀ c ∈ (xL x k).1,1≤c.beds∧c.beds≤3
 |0=>⟨rfl,by simp [xL]⟩
 |k+1=>by
  obtain ⟨h1,h2⟩:=UG x k
  have h3:=up2 (xL x k).2 (m:=2) (by omega) (by omega)
  rw [xL]
  refine ⟨by simp [h1],fun c hc=>?_⟩
  rcases List.mem_append.1 hc with hc|hc
  ·exact h2 c hc
  ·rw [List.mem_singleton.1 hc];simp only;omega
def coA (secs s m:Int) (i:Nat) (cs:List Cabin):St:={ t:=asg [(0,.ptr 0 0),(3,aI m),(8,.ptr 1 0),(9,.ptr 2 0),(10,aI i)],h:=qj [(0,.cells [.v (.int .u64 s)]),(1,.cells [.nil,aI 0,.nil]),(2,.cells [.row 3,aI secs,.nil]),(3,.row 89 2 (cs.map qh))],n:=4,m:=1 }
def coB (cs:List Cabin) (secs s p:Int) (i:Nat) (l:List Tk):St:={ t:=asg [(0,.ptr 0 0),(8,.ptr 1 0),(9,.ptr 2 0),(11,aI p),(12,aI i)],h:=qj [(0,.cells [.v (.int .u64 s)]),(1,.cells [.nil,aI 0,.nil]),(2,.cells [.row 3,aI secs,.row 4]),(3,.row 89 2 (cs.map qh)),(4,.row 64 7 (l.map eTk))],n:=5,m:=1 }
def coM (cs:List Cabin) (secs s p:Int) (i:Nat) (l:List Tk) (T:List (Nat × AV)) (O:List (Nat × AObj)) (n:Nat):St:={ t:=asg (T++[(0,.ptr 0 0),(8,.ptr 1 0),(9,.ptr 2 0),(11,aI p),(12,aI i)]),h:=qj ([(0,.cells [.v (.int .u64 s)]),(1,.cells [.nil,aI 0,.nil]),(2,.cells [.row 3,aI secs,.row 4]),(3,.row 89 2 (cs.map qh)),(4,.row 64 7 (l.map eTk))]++O),n:=n,m:=1 }
def q9:=kk @ty3 (kk @W9 (kk @x9 (kk @yc (kk @Qe (kk @xJ (kk @yU (kk @Jz (kk @ti3.eq_1 (kk @ZT.eq_1 (kk @xD.eq_1 (kk @jM.eq_1 (kk @x8.eq_1 (kk @vZ.eq_1 (kk @yA.eq_1 @Z4.eq_1))))))))))))))
def jX:=kk @aI.eq_1 (kk @aB.eq_1 (@zF.eq_1))
set_option maxHeartbeats 4000000 in
theorem Qch (x a g s:Int) (ha:1≤a∧a≤3) (hg:1≤g∧g≤5) (hs:0≤s∧s≤8):Fn noB Tryz.prog 11 [.ptr 0 0,aI a,aI g,aI s] (qj (zR x)) (qa (coC x a g s)) (qj (zR (coX x a g s))) 0:=by
 have env:Env (fun _=>True) Tryz.prog tyB (tab [(13,fnE jA),(31,fnE pUp),(26,fnE zC),(47,fnE xc),(48,qX true yT)]):=qL ⟨QjD,eUp,QdK,eOne,egoes,trivial⟩
 refine Fn.of (A:=fun _=>True) (n0:=1) (D:=noD) (Fn0 Tryz.func11 rfl (fun vs w=>by kernel_rfl) (by kernel_rfl)) (by simp) (by simp [AV.ids,AV.idsL,aI]) ?_ (fun _ _ _ _=>trivial) qF ?_
 ·intro i o hi
  have h:=qR hi
  simp [zR] at h
  rcases h with ⟨rfl,rfl⟩;simp [AObj.ids,AV.ids,AV.idsL]
 have m1:min g 5=g:=by omega
 have m2:min a 3=a:=by omega
 have m3:min s 8=s:=by omega
 have hmx:(100000:Nat)≤maxLen:=by decide
 have hsc:=up2 x (m:=g - 1) (by omega) (by omega)
 have hx1:upS x (g - 1)=XA x g:=rfl
 have hsb:1≤Zj x g∧Zj x g≤5:=by unfold Zj;omega
 have hcs:1+upV x (g - 1)=Zj x g:=rfl
 have hnc:=up2 (XA x g) (m:=a - 1) (by omega) (by omega)
 obtain ⟨nc,hnc1⟩:∃ nc:Nat,1+upV (XA x g) (a - 1)=nc:=⟨(1+upV (XA x g) (a - 1)).toNat,by omega⟩
 obtain ⟨y,hy⟩:∃ y,upS (XA x g) (a - 1)=y:=⟨_,rfl⟩
 have hcc:xK x g a=xL y nc:=by unfold xK;rw [hy,hnc1];rfl
 have hcb:=UG y
 have hnt:=up2 (xL y nc).2 (m:=s) (by omega) (by omega)
 obtain ⟨nt,hnt1⟩:∃ nt:Nat,upV (xL y nc).2 s=nt:=⟨(upV (xL y nc).2 s).toNat,by omega⟩
 obtain ⟨z,hz⟩:∃ z,upS (xL y nc).2 s=z:=⟨_,rfl⟩
 have htk:Qel x g a s=tkK (xL y nc).1 (Zj x g) z nt:=by unfold Qel;rw [hcc,hz,hnt1];rfl
 unfold coC coX
 rw [hcc,htk]
 obtain ⟨S,hS⟩:∃ S,Zj x g=S:=⟨_,rfl⟩
 rw [hS] at hsb hcs ⊢
 obtain ⟨X1,hX1⟩:∃ X1,XA x g=X1:=⟨_,rfl⟩
 rw [hX1] at hx1 hnc1 hy hnc
 have hal:-100000≤(1:Int):=by decide
 have b1:g≤100000:=by omega
 have b2:a≤100000:=by omega
 have b3:-100000≤g:=by omega
 have b4:-100000≤a:=by omega
 have b5:s < 9223372036854775807:=by omega
 show Sym _ _ _ (zV [.ptr 0 0,aI a,aI g,aI s] 1 (qj [(0,.cells [.v (.int .u64 x)])])) (xM tyB noD Tryz.f11 fun S' rv=>Fin S' rv _ 1 (qj [(0,.cells [.v (.int .u64 (tkK (xL y nc).1 S z nt).2.2)])]) 0)
 repeat' (first|(apply nx;with_reducible constructor)|refine jq (by decide) ?_|((first|refine kz env fun Q hQ=>?_|refine kj fun Q hQ=>?_);simp only [vkt,seval,q9,jX,aTk,cTk,ql,eTk,gTk,rTk,mTk,qh,qC,zf,dI1,zR,qa,qb,coA,coB,coM,jA,pUp,zC,xc,yT,List.length_map,List.map_cons,List.map_nil,m1,m2,hcs,hx1,hnc1,hy];(try simp only [ite_and]);(repeat' (first|with_reducible assumption|refine And.intro ?_ ?_|intro hp));all_goals (first|(refine hQ _ ?_;clear hQ Q)|(refine hQ _ (fun h=>?_) (fun h=>?_) <;> clear hQ Q <;> (try simp only [vki,reduceCtorEq] at h))|(refine kx ?_;kernel_rfl)|omega|assumption|with_reducible rfl|skip)))
 refine qN (fun k:{ k:Nat // k≤nc }=>coA S (xL y k.1).2 s (nc - k.1) (xL y k.1).1) (fun k=>nc - k.1) ⟨0,Nat.zero_le _⟩ ?_ fun ⟨k,hk⟩=>?_
 ·(refine Le.ok (fun i=>if i=3 then none else some i) [] ?_;constructor;all_goals (try simp only [vle,vkt,seval,q9,jX,aTk,cTk,ql,eTk,gTk,rTk,mTk,qh,qC,zf,dI1,zR,qa,qb,coA,coB,coM,jA,pUp,zC,xc,yT,List.length_map,List.map_cons,List.map_nil]))
  all_goals first|rfl|(simp [xL];done)|(intro i hi;rw [if_neg (by omega)];done)
 simp only at hk ⊢
 by_cases hkl:k < nc
 ·have d1:decide ((0:Int) < ((nc - k:Nat):Int))=true:=decide_eq_true (by omega)
  have w1:IntKind.wrap .i64 (((nc - k:Nat):Int) - 1)=((nc - (k+1):Nat):Int):=by rw [wrap64 (by omega) (by omega)];omega
  have hl:=(hcb k).1
  have hl1:(xL y k).1.length+1≤maxLen:=by omega
  have hS1:(xL y (k+1)).1=(xL y k).1++[⟨1+upV (xL y k).2 2,decide (upV (upS (xL y k).2 2) 2 < 2)⟩]:=by rw [xL]
  have hS2:(xL y (k+1)).2=upS (upS (xL y k).2 2) 2:=by rw [xL]
  repeat' (first|(apply nx;with_reducible constructor)|refine jq (by decide) ?_|((first|refine kz env fun Q hQ=>?_|refine kj fun Q hQ=>?_);simp only [vkt,seval,q9,jX,aTk,cTk,ql,eTk,gTk,rTk,mTk,qh,qC,zf,dI1,zR,qa,qb,coA,coB,coM,jA,pUp,zC,xc,yT,List.length_map,List.map_cons,List.map_nil,d1,w1,hl1];(try simp only [ite_and]);(repeat' (first|with_reducible assumption|refine And.intro ?_ ?_|intro hp));all_goals (first|(refine hQ _ ?_;clear hQ Q)|(refine hQ _ (fun h=>?_) (fun h=>?_) <;> clear hQ Q <;> (try simp only [vki,reduceCtorEq] at h))|(refine kx ?_;kernel_rfl)|omega|assumption|with_reducible rfl|skip)))
  refine ⟨⟨k+1,hkl⟩,by show nc - (k+1) < nc - k;omega, ?_⟩
  show Le _ (coA S (xL y (k+1)).2 s (nc - (k+1)) (xL y (k+1)).1)
  rw [hS1,hS2]
  (refine Le.ok (fun i=>if i=3 then some 5 else some i) [] ?_;constructor;all_goals (try simp only [vle,vkt,seval,q9,jX,aTk,cTk,ql,eTk,gTk,rTk,mTk,qh,qC,zf,dI1,zR,qa,qb,coA,coB,coM,jA,pUp,zC,xc,yT,List.length_map,List.map_cons,List.map_nil]))
  all_goals first|rfl|(rw [List.map_append];rfl)|(simp;done)|(intro i hi;rw [if_neg (by omega)];done)
 ·have d1:decide ((0:Int) < ((nc - k:Nat):Int))=false:=decide_eq_false (by omega)
  obtain rfl:k=nc:=by omega
  obtain ⟨hcl,hcm⟩:=hcb k
  obtain ⟨⟨cs,u⟩,hcu⟩:∃ c,xL y k=c:=⟨_,rfl⟩
  rw [hcu] at hcl hcm hnt hnt1 hz ⊢
  simp only at hcl hcm hnt hnt1 hz ⊢
  repeat' (first|(apply nx;with_reducible constructor)|refine jq (by decide) ?_|((first|refine kz env fun Q hQ=>?_|refine kj fun Q hQ=>?_);simp only [vkt,seval,q9,jX,aTk,cTk,ql,eTk,gTk,rTk,mTk,qh,qC,zf,dI1,zR,qa,qb,coA,coB,coM,jA,pUp,zC,xc,yT,List.length_map,List.map_cons,List.map_nil,d1,m3,hnt1,hz];(try simp only [ite_and]);(repeat' (first|with_reducible assumption|refine And.intro ?_ ?_|intro hp));all_goals (first|(refine hQ _ ?_;clear hQ Q)|(refine hQ _ (fun h=>?_) (fun h=>?_) <;> clear hQ Q <;> (try simp only [vki,reduceCtorEq] at h))|(refine kx ?_;kernel_rfl)|omega|assumption|with_reducible rfl|skip)))
  refine qN (fun j:{ j:Nat // j≤nt }=>coB cs S (tkK cs S z j.1).2.2 (tkK cs S z j.1).1 (nt - j.1) (tkK cs S z j.1).2.1) (fun j=>nt - j.1) ⟨0,Nat.zero_le _⟩ ?_ fun ⟨j,hj⟩=>?_
  ·(refine Le.ok (fun i=>if i=4 then none else some i) [] ?_;constructor;all_goals (try simp only [vle,vkt,seval,q9,jX,aTk,cTk,ql,eTk,gTk,rTk,mTk,qh,qC,zf,dI1,zR,qa,qb,coA,coB,coM,jA,pUp,zC,xc,yT,List.length_map,List.map_cons,List.map_nil]))
   all_goals first|rfl|(simp [tkK];done)|(intro i hi;rw [if_neg (by omega)];done)
  simp only at hj ⊢
  by_cases hjl:j < nt
  ·have d1:decide ((0:Int) < ((nt - j:Nat):Int))=true:=decide_eq_true (by omega)
   have w1:IntKind.wrap .i64 (((nt - j:Nat):Int) - 1)=((nt - (j+1):Nat):Int):=by rw [wrap64 (by omega) (by omega)];omega
   obtain ⟨hp0,hp3,hll⟩:=Uz cs S z j
   have hK1:tkK cs S z (j+1)=((pA (tkK cs S z j).1 (tkK cs S z j).2.2).1,if WO (tkK cs S z j).2.1 (xI cs S (pA (tkK cs S z j).1 (tkK cs S z j).2.2).1 (pA (tkK cs S z j).1 (tkK cs S z j).2.2).2).1 then (tkK cs S z j).2.1++[(xI cs S (pA (tkK cs S z j).1 (tkK cs S z j).2.2).1 (pA (tkK cs S z j).1 (tkK cs S z j).2.2).2).1] else (tkK cs S z j).2.1,(xI cs S (pA (tkK cs S z j).1 (tkK cs S z j).2.2).1 (pA (tkK cs S z j).1 (tkK cs S z j).2.2).2).2):=by rw [tkK]
   obtain ⟨⟨p,l,s0⟩,hK⟩:∃ q,tkK cs S z j=q:=⟨_,rfl⟩
   rw [hK] at hp0 hp3 hll hK1 ⊢
   simp only at hp0 hp3 hll hK1 ⊢
   have hl1:l.length+1≤maxLen:=by omega
   have hl100:l.length≤100:=by omega
   obtain ⟨⟨p1,s1⟩,hA⟩:∃ q,pA p s0=q:=⟨_,rfl⟩
   have hAc:=QgR hA ⟨hp0,by omega⟩
   rw [hA] at hK1
   simp only at hK1
   have hn0:=up2 s1 (m:=(k:Int) - 1) (by omega) (by omega)
   obtain ⟨n,hn⟩:∃ n:Nat,upV s1 ((k:Int) - 1)=n:=⟨(upV s1 ((k:Int) - 1)).toNat,by omega⟩
   obtain ⟨s2,hs2⟩:∃ q,upS s1 ((k:Int) - 1)=q:=⟨_,rfl⟩
   obtain ⟨sx,hsx⟩:∃ q,([1,2]:List Int).getD (upV s2 1).toNat 0=q:=⟨_,rfl⟩
   obtain ⟨s3,hs3⟩:∃ q,upS s2 1=q:=⟨_,rfl⟩
   have hnk:n < cs.length:=by omega
   obtain ⟨cb,hcbv⟩:∃ q,cs.getD n default=q:=⟨_,rfl⟩
   have hcg:=Qj2 hnk
   rw [hcbv] at hcg
   have hbb:=hcm cb (by rw [← hcbv];exact yB hnk)
   obtain ⟨bd,hbd⟩:∃ q,upV s3 (cb.beds - 1)=q:=⟨_,rfl⟩
   obtain ⟨s4,hs4⟩:∃ q,upS s3 (cb.beds - 1)=q:=⟨_,rfl⟩
   have hf0:=up2 s4 (m:=S - 1) (by omega) (by omega)
   obtain ⟨f,hf⟩:∃ q,upV s4 (S - 1)=q:=⟨_,rfl⟩
   rw [hf] at hf0
   obtain ⟨s5,hs5⟩:∃ q,upS s4 (S - 1)=q:=⟨_,rfl⟩
   obtain ⟨dg,hdg⟩:∃ q,decide (upV s5 7 < 1)=q:=⟨_,rfl⟩
   obtain ⟨s6,hs6⟩:∃ q,upS s5 7=q:=⟨_,rfl⟩
   obtain ⟨tt,htt⟩:∃ q,f+1+upV s6 (S - (f+1))=q:=⟨_,rfl⟩
   obtain ⟨s7,hs7⟩:∃ q,upS s6 (S - (f+1))=q:=⟨_,rfl⟩
   have hTn:xI cs S p1 s1=(⟨p1,sx,n,bd,f,tt,dg⟩,s7):=by
    unfold xI
    simp only [hcl,hn,hs2,hsx,hs3,Int.toNat_natCast,hcbv,hbd,hs4,hf,hs5,hdg,hs6,htt,hs7]
   rw [hTn] at hK1
   simp only at hK1
   have w2:IntKind.wrap .i64 ((k:Int) - 1)=(k:Int) - 1:=wrap64 (by omega) (by omega)
   have w3:IntKind.wrap .i64 (cb.beds - 1)=cb.beds - 1:=wrap64 (by omega) (by omega)
   have w4:IntKind.wrap .i64 (S - 1)=S - 1:=wrap64 (by omega) (by omega)
   have w5:IntKind.wrap .i64 (f+1)=f+1:=wrap64 (by omega) (by omega)
   have e1:(k:Int) - 1 < 9223372036854775807:=by omega
   have e2:cb.beds - 1 < 9223372036854775807:=by omega
   have e3:S - 1 < 9223372036854775807:=by omega
   have e4:-100000≤f+1:=by omega
   have e5:f+1≤100000:=by omega
   have e6:-100000≤S:=by omega
   have e7:S≤100000:=by omega
   have i0:((n:Int)).toNat=n:=rfl
   obtain ⟨gb,hgb⟩:∃ q,WO l ⟨p1,sx,n,bd,f,tt,dg⟩=q:=⟨_,rfl⟩
   rw [hgb] at hK1
   obtain ⟨bb,sB,hc1,hc2⟩:=hAc
   repeat' (first|(apply nx;with_reducible constructor)|refine jq (by decide) ?_)
   ((first|refine kz env fun Q hQ=>?_|refine kj fun Q hQ=>?_);simp only [vkt,seval,q9,jX,aTk,cTk,ql,eTk,gTk,rTk,mTk,qh,qC,zf,dI1,zR,qa,qb,coA,coB,coM,jA,pUp,zC,xc,yT,List.length_map,List.map_cons,List.map_nil,d1];(try simp only [ite_and]);(repeat' (first|with_reducible assumption|refine And.intro ?_ ?_|intro hp));all_goals (first|(refine hQ _ ?_;clear hQ Q)|(refine hQ _ (fun h=>?_) (fun h=>?_) <;> clear hQ Q <;> (try simp only [vki,reduceCtorEq] at h))|(refine kx ?_;kernel_rfl)|omega|assumption|with_reducible rfl|skip))
   repeat' (first|(apply nx;with_reducible constructor)|refine jq (by decide) ?_)
   ((first|refine kz env fun Q hQ=>?_|refine kj fun Q hQ=>?_);simp only [vkt,seval,q9,jX,aTk,cTk,ql,eTk,gTk,rTk,mTk,qh,qC,zf,dI1,zR,qa,qb,coA,coB,coM,jA,pUp,zC,xc,yT,List.length_map,List.map_cons,List.map_nil];(try simp only [ite_and]);(repeat' (first|with_reducible assumption|refine And.intro ?_ ?_|intro hp));all_goals (first|(refine hQ _ ?_;clear hQ Q)|(refine hQ _ (fun h=>?_) (fun h=>?_) <;> clear hQ Q <;> (try simp only [vki,reduceCtorEq] at h))|(refine kx ?_;kernel_rfl)|omega|assumption|with_reducible rfl|skip))
   repeat' (first|(apply nx;with_reducible constructor)|refine jq (by decide) ?_)
   refine Sym.mono (K:=fun e S1=>e=.normal∧Le S1 (coM cs S sB p (nt - j) l [(52,aB bb)] [] 5)) ?_ ?_
   ·rcases hc1 with ⟨q0,q1,rfl,rfl⟩|⟨q0,q1,q2,rfl⟩
    all_goals
     ((first|refine kz env fun Q hQ=>?_|refine kj fun Q hQ=>?_);simp only [vkt,seval,q9,jX,aTk,cTk,ql,eTk,gTk,rTk,mTk,qh,qC,zf,dI1,zR,qa,qb,coA,coB,coM,jA,pUp,zC,xc,yT,List.length_map,List.map_cons,List.map_nil,q0,q1,Bool.not_true,Bool.not_false,Bool.not_not];(try simp only [ite_and]);(repeat' (first|with_reducible assumption|refine And.intro ?_ ?_|intro hp));all_goals (first|(refine hQ _ ?_;clear hQ Q)|(refine hQ _ (fun h=>?_) (fun h=>?_) <;> clear hQ Q <;> (try simp only [vki,reduceCtorEq] at h))|(refine kx ?_;kernel_rfl)|omega|assumption|with_reducible rfl|skip))
     refine ⟨rfl, ?_⟩
     simp only [coM,List.cons_append,List.nil_append]
     (refine Le.ok some [] ?_;constructor;all_goals (try simp only [vle,vkt,seval,q9,jX,aTk,cTk,ql,eTk,gTk,rTk,mTk,qh,qC,zf,dI1,zR,qa,qb,coA,coB,coM,jA,pUp,zC,xc,yT,List.length_map,List.map_cons,List.map_nil]))
     all_goals first|rfl|(simp;done)
   rintro e S1 ⟨rfl,hle⟩
   refine (kY hle ?_:Sym _ _ _ S1 _)
   clear hle S1 hc1
   refine Sym.mono (K:=fun e S1=>e=.normal∧Le S1 (coM cs S s1 p1 (nt - j) l [] [] 5)) ?_ ?_
   ·rcases hc2 with ⟨rfl,wp,hs1⟩|⟨rfl,wp,hs1⟩
    all_goals
     repeat' (first|(apply nx;with_reducible constructor)|refine jq (by decide) ?_|((first|refine kz env fun Q hQ=>?_|refine kj fun Q hQ=>?_);simp only [vkt,seval,q9,jX,aTk,cTk,ql,eTk,gTk,rTk,mTk,qh,qC,zf,dI1,zR,qa,qb,coA,coB,coM,jA,pUp,zC,xc,yT,List.length_map,List.map_cons,List.map_nil,wp,hs1,List.cons_append,List.nil_append];(try simp only [ite_and]);(repeat' (first|with_reducible assumption|refine And.intro ?_ ?_|intro hp));all_goals (first|(refine hQ _ ?_;clear hQ Q)|(refine hQ _ (fun h=>?_) (fun h=>?_) <;> clear hQ Q <;> (try simp only [vki,reduceCtorEq] at h))|(refine kx ?_;kernel_rfl)|omega|assumption|with_reducible rfl|skip)))
     refine ⟨rfl, ?_⟩
     simp only [coM,List.cons_append,List.nil_append]
     (refine Le.ok some [] ?_;constructor;all_goals (try simp only [vle,vkt,seval,q9,jX,aTk,cTk,ql,eTk,gTk,rTk,mTk,qh,qC,zf,dI1,zR,qa,qb,coA,coB,coM,jA,pUp,zC,xc,yT,List.length_map,List.map_cons,List.map_nil]))
     all_goals first|rfl|(rw [wp];done)|(rw [hs1];done)|(simp;done)
   rintro e S1 ⟨rfl,hle⟩
   refine (kY hle ?_:Sym _ _ _ S1 _)
   clear hle S1 hc2
   simp only [coM,List.cons_append,List.nil_append,List.append_nil]
   repeat' (first|(apply nx;with_reducible constructor)|refine jq (by decide) ?_)
   refine Sym.mono (K:=fun e S1=>e=.normal∧Le S1 (coM cs S s2 p1 (nt - j) l [(13,aI n)] [] 5)) ?_ ?_
   ·((first|refine kz env fun Q hQ=>?_|refine kj fun Q hQ=>?_);simp only [vkt,seval,q9,jX,aTk,cTk,ql,eTk,gTk,rTk,mTk,qh,qC,zf,dI1,zR,qa,qb,coA,coB,coM,jA,pUp,zC,xc,yT,List.length_map,List.map_cons,List.map_nil,hcl,w2,hn,hs2];(try simp only [ite_and]);(repeat' (first|with_reducible assumption|refine And.intro ?_ ?_|intro hp));all_goals (first|(refine hQ _ ?_;clear hQ Q)|(refine hQ _ (fun h=>?_) (fun h=>?_) <;> clear hQ Q <;> (try simp only [vki,reduceCtorEq] at h))|(refine kx ?_;kernel_rfl)|omega|assumption|with_reducible rfl|skip))
    refine ⟨rfl, ?_⟩
    simp only [coM,List.cons_append,List.nil_append]
    (refine Le.ok some [] ?_;constructor;all_goals (try simp only [vle,vkt,seval,q9,jX,aTk,cTk,ql,eTk,gTk,rTk,mTk,qh,qC,zf,dI1,zR,qa,qb,coA,coB,coM,jA,pUp,zC,xc,yT,List.length_map,List.map_cons,List.map_nil]))
    all_goals first|rfl|(simp;done)
   rintro e S1 ⟨rfl,hle⟩
   refine (kY hle ?_:Sym _ _ _ S1 _)
   clear hle S1
   simp only [coM,List.cons_append,List.nil_append,List.append_nil]
   repeat' (first|(apply nx;with_reducible constructor)|refine jq (by decide) ?_)
   refine Sym.mono (K:=fun e S1=>e=.normal∧Le S1 (coM cs S s6 p1 (nt - j) l [(14,.ptr 5 0)] [(5,.cells [aI p1,aI sx,aI n,aI bd,aI f,aI 0,aB dg])] 6)) ?_ ?_
   ·((first|refine kz env fun Q hQ=>?_|refine kj fun Q hQ=>?_);simp only [vkt,seval,q9,jX,aTk,cTk,ql,eTk,gTk,rTk,mTk,qh,qC,zf,dI1,zR,qa,qb,coA,coB,coM,jA,pUp,zC,xc,yT,List.length_map,List.map_cons,List.map_nil,hsx,hs3,i0,hnk,hcg,w3,hbd,hs4,w4,hf,hs5,hdg,hs6];(try simp only [ite_and]);(repeat' (first|with_reducible assumption|refine And.intro ?_ ?_|intro hp));all_goals (first|(refine hQ _ ?_;clear hQ Q)|(refine hQ _ (fun h=>?_) (fun h=>?_) <;> clear hQ Q <;> (try simp only [vki,reduceCtorEq] at h))|(refine kx ?_;kernel_rfl)|omega|assumption|with_reducible rfl|skip))
    ·exact ⟨_,_,rfl⟩
    refine ⟨rfl, ?_⟩
    simp only [coM,List.cons_append,List.nil_append]
    (refine Le.ok (fun i=>if i=5 then some 6 else some i) [] ?_;constructor;all_goals (try simp only [vle,vkt,seval,q9,jX,aTk,cTk,ql,eTk,gTk,rTk,mTk,qh,qC,zf,dI1,zR,qa,qb,coA,coB,coM,jA,pUp,zC,xc,yT,List.length_map,List.map_cons,List.map_nil]))
    all_goals first|rfl|(simp;done)|(intro i hi;rw [if_neg (by omega)];done)
   rintro e S1 ⟨rfl,hle⟩
   refine (kY hle ?_:Sym _ _ _ S1 _)
   clear hle S1
   simp only [coM,List.cons_append,List.nil_append,List.append_nil]
   repeat' (first|(apply nx;with_reducible constructor)|refine jq (by decide) ?_)
   ((first|refine kz env fun Q hQ=>?_|refine kj fun Q hQ=>?_);simp only [vkt,seval,q9,jX,aTk,cTk,ql,eTk,gTk,rTk,mTk,qh,qC,zf,dI1,zR,qa,qb,coA,coB,coM,jA,pUp,zC,xc,yT,List.length_map,List.map_cons,List.map_nil,w5,htt,hs7];(try simp only [ite_and]);(repeat' (first|with_reducible assumption|refine And.intro ?_ ?_|intro hp));all_goals (first|(refine hQ _ ?_;clear hQ Q)|(refine hQ _ (fun h=>?_) (fun h=>?_) <;> clear hQ Q <;> (try simp only [vki,reduceCtorEq] at h))|(refine kx ?_;kernel_rfl)|omega|assumption|with_reducible rfl|skip))
   repeat' (first|(apply nx;with_reducible constructor)|refine jq (by decide) ?_)
   ((first|refine kz env fun Q hQ=>?_|refine kj fun Q hQ=>?_);simp only [vkt,seval,q9,jX,aTk,cTk,ql,eTk,gTk,rTk,mTk,qh,qC,zf,dI1,zR,qa,qb,coA,coB,coM,jA,pUp,zC,xc,yT,List.length_map,List.map_cons,List.map_nil,hl100,hgb];(try simp only [ite_and]);(repeat' (first|with_reducible assumption|refine And.intro ?_ ?_|intro hp));all_goals (first|(refine hQ _ ?_;clear hQ Q)|(refine hQ _ (fun h=>?_) (fun h=>?_) <;> clear hQ Q <;> (try simp only [vki,reduceCtorEq] at h))|(refine kx ?_;kernel_rfl)|omega|assumption|with_reducible rfl|skip))
   cases gb with
   |true =>
    rw [if_pos rfl] at hK1
    repeat' (first|(apply nx;with_reducible constructor)|refine jq (by decide) ?_|((first|refine kz env fun Q hQ=>?_|refine kj fun Q hQ=>?_);simp only [vkt,seval,q9,jX,aTk,cTk,ql,eTk,gTk,rTk,mTk,qh,qC,zf,dI1,zR,qa,qb,coA,coB,coM,jA,pUp,zC,xc,yT,List.length_map,List.map_cons,List.map_nil,hl1,w1];(try simp only [ite_and]);(repeat' (first|with_reducible assumption|refine And.intro ?_ ?_|intro hp));all_goals (first|(refine hQ _ ?_;clear hQ Q)|(refine hQ _ (fun h=>?_) (fun h=>?_) <;> clear hQ Q <;> (try simp only [vki,reduceCtorEq] at h))|(refine kx ?_;kernel_rfl)|omega|assumption|with_reducible rfl|skip)))
    refine ⟨⟨j+1,hjl⟩,by show nt - (j+1) < nt - j;omega, ?_⟩
    show Le _ (coB cs S (tkK cs S z (j+1)).2.2 (tkK cs S z (j+1)).1 (nt - (j+1)) (tkK cs S z (j+1)).2.1)
    rw [hK1]
    (refine Le.ok (fun i=>if i=4 then some 7 else some i) [] ?_;constructor;all_goals (try simp only [vle,vkt,seval,q9,jX,aTk,cTk,ql,eTk,gTk,rTk,mTk,qh,qC,zf,dI1,zR,qa,qb,coA,coB,coM,jA,pUp,zC,xc,yT,List.length_map,List.map_cons,List.map_nil]))
    all_goals first|rfl|(rw [List.map_append];rfl)|(simp;done)|(intro i hi;rw [if_neg (by omega)];done)
   |false =>
    rw [if_neg (by decide)] at hK1
    repeat' (first|(apply nx;with_reducible constructor)|refine jq (by decide) ?_|((first|refine kz env fun Q hQ=>?_|refine kj fun Q hQ=>?_);simp only [vkt,seval,q9,jX,aTk,cTk,ql,eTk,gTk,rTk,mTk,qh,qC,zf,dI1,zR,qa,qb,coA,coB,coM,jA,pUp,zC,xc,yT,List.length_map,List.map_cons,List.map_nil,hl1,w1];(try simp only [ite_and]);(repeat' (first|with_reducible assumption|refine And.intro ?_ ?_|intro hp));all_goals (first|(refine hQ _ ?_;clear hQ Q)|(refine hQ _ (fun h=>?_) (fun h=>?_) <;> clear hQ Q <;> (try simp only [vki,reduceCtorEq] at h))|(refine kx ?_;kernel_rfl)|omega|assumption|with_reducible rfl|skip)))
    refine ⟨⟨j+1,hjl⟩,by show nt - (j+1) < nt - j;omega, ?_⟩
    show Le _ (coB cs S (tkK cs S z (j+1)).2.2 (tkK cs S z (j+1)).1 (nt - (j+1)) (tkK cs S z (j+1)).2.1)
    rw [hK1]
    (refine Le.ok some [] ?_;constructor;all_goals (try simp only [vle,vkt,seval,q9,jX,aTk,cTk,ql,eTk,gTk,rTk,mTk,qh,qC,zf,dI1,zR,qa,qb,coA,coB,coM,jA,pUp,zC,xc,yT,List.length_map,List.map_cons,List.map_nil]))
    all_goals first|rfl|(simp;done)
  ·have d1:decide ((0:Int) < ((nt - j:Nat):Int))=false:=decide_eq_false (by omega)
   obtain rfl:j=nt:=by omega
   obtain ⟨⟨p,l,s0⟩,hK⟩:∃ q,tkK cs S z j=q:=⟨_,rfl⟩
   rw [hK]
   repeat' (first|(apply nx;with_reducible constructor)|refine jq (by decide) ?_|((first|refine kz env fun Q hQ=>?_|refine kj fun Q hQ=>?_);simp only [vkt,seval,q9,jX,aTk,cTk,ql,eTk,gTk,rTk,mTk,qh,qC,zf,dI1,zR,qa,qb,coA,coB,coM,jA,pUp,zC,xc,yT,List.length_map,List.map_cons,List.map_nil,d1];(try simp only [ite_and]);(repeat' (first|with_reducible assumption|refine And.intro ?_ ?_|intro hp));all_goals (first|(refine hQ _ ?_;clear hQ Q)|(refine hQ _ (fun h=>?_) (fun h=>?_) <;> clear hQ Q <;> (try simp only [vki,reduceCtorEq] at h))|(refine kx ?_;kernel_rfl)|omega|assumption|with_reducible rfl|skip)))
   (simp only [vrt,Tryz.results11,vkt,seval,q9,jX,aTk,cTk,ql,eTk,gTk,rTk,mTk,qh,qC,zf,dI1,zR,qa,qb,coA,coB,coM,jA,pUp,zC,xc,yT,List.length_map,List.map_cons,List.map_nil];refine Fin.ok some [3,4] ?_ ?_ ?_ ?_ ?_ rfl;all_goals (try simp only [vle,vkt,seval,q9,jX,aTk,cTk,ql,eTk,gTk,rTk,mTk,qh,qC,zf,dI1,zR,qa,qb,coA,coB,coM,jA,pUp,zC,xc,yT,List.length_map,List.map_cons,List.map_nil]))
   all_goals first|rfl|(simp;done)
noncomputable def sxV (s:Int):Int:=([1,2]:List Int).getD (upV s 1).toNat 0
noncomputable def sxK (x:Int):Nat→List Int × Int
 |0=>([],x)
 |k+1=>((sxK x k).1++[sxV (sxK x k).2],upS (sxK x k).2 1)
noncomputable def aoF (x secs:Int):Int:=upV (upS x 39) (secs - 1)
noncomputable def aoX2 (x secs:Int):Int:=upS (upS x 39) (secs - 1)
noncomputable def Qez (x secs:Int):Int:=upS (aoX2 x secs) 5
noncomputable def aoT (x secs:Int):Int:=aoF x secs+1+upV (Qez x secs) (secs - (aoF x secs+1))
noncomputable def Qbw (x secs:Int):Int:=upS (Qez x secs) (secs - (aoF x secs+1))
noncomputable def aoS (x secs n:Int):List Int × Int:=sxK (upS (Qbw x secs) (n - 1)) (1+upV (Qbw x secs) (n - 1)).toNat
noncomputable def aoA (x secs n:Int):Ask:=⟨60+upV x 39,aoF x secs,aoT x secs,(aoS x secs n).1,decide (upV (aoX2 x secs) 5 < 1)⟩
noncomputable def aoX (x secs n:Int):Int:=(aoS x secs n).2
theorem Qg8 (s:Int):1≤sxV s∧sxV s≤2:=by
 have h:=up2 s (m:=1) (by omega) (by omega)
 unfold sxV
 obtain h0|h0:(upV s 1).toNat=0∨(upV s 1).toNat=1:=by omega
 ·rw [h0];decide
 ·rw [h0];decide
theorem Qce (x:Int):∀ k,(sxK x k).1.length=k∧∀ c ∈ (sxK x k).1,1≤c∧c≤2
 |0=>⟨rfl,by simp [sxK]⟩
 |k+1=>by
  obtain ⟨h1,h2⟩:=Qce x k
  have h3:=Qg8 (sxK x k).2
  rw [sxK]
  refine ⟨by simp [h1],fun c hc=>?_⟩
  rcases List.mem_append.1 hc with hc|hc
  ·exact h2 c hc
  ·rw [List.mem_singleton.1 hc];exact h3
def aoI (c:Chart) (s pt f t:Int) (d:Bool) (i:Nat) (l:List Int):St:={ t:=asg [(0,.ptr 0 0),(6,.ptr 2 0),(7,.ptr 3 0),(8,aI i)],h:=qj [(0,.cells [.v (.int .u64 s)]),(2,.cells [aI 0,aI 0,aI 0,.nil,aB false]),(3,.cells [aI pt,aI f,aI t,.row 4,aB d]),(4,.row 3 1 (l.map zF))],n:=5,m:=1 }
def vg:=kk @ty3 (kk @yc (kk @Qe (kk @QM (kk @ti3.eq_1 (kk @jM.eq_1 (kk @x8.eq_1 @Qb.eq_1))))))
def Yi:=kk @aI.eq_1 (kk @aB.eq_1 (kk @qz.eq_1 (kk @zF.eq_1 (@Kv))))
set_option maxHeartbeats 2000000 in
theorem Qca (x:Int) (c:Chart) (n:Int) (hg:1≤c.secs∧c.secs≤5) (hn:1≤n∧n≤3):Fn noB Tryz.prog 12 [.ptr 0 0,qa c,aI n] (qj (zR x)) (qx (aoA x c.secs n)) (qj (zR (aoX x c.secs n))) 0:=by
 have env:Env (fun _=>True) Tryz.prog tyB (tab [(13,fnE jA),(31,fnE pUp),(26,fnE zC),(47,fnE xc)]):=qL ⟨QjD,eUp,QdK,eOne,trivial⟩
 refine Fn.of (A:=fun _=>True) (n0:=1) (D:=noD) (Fn0 Tryz.func12 rfl (fun vs w=>by kernel_rfl) (by kernel_rfl)) (by simp) (by simp [AV.ids,AV.idsL,aI,qa,qb]) ?_ (fun _ _ _ _=>trivial) qF ?_
 ·intro i o hi
  have h:=qR hi
  simp [zR] at h
  rcases h with ⟨rfl,rfl⟩;simp [AObj.ids,AV.ids,AV.idsL]
 have m1:min n 3=n:=by omega
 have hmx:(100000:Nat)≤maxLen:=by decide
 obtain ⟨S,hS⟩:∃ S,c.secs=S:=⟨_,rfl⟩
 rw [hS] at hg ⊢
 have hpt:=up2 x (m:=39) (by omega) (by omega)
 obtain ⟨pt,hpt1⟩:∃ q,60+upV x 39=q:=⟨_,rfl⟩
 obtain ⟨x1,hx1⟩:∃ q,upS x 39=q:=⟨_,rfl⟩
 have hf0:=up2 x1 (m:=S - 1) (by omega) (by omega)
 obtain ⟨f,hf⟩:∃ q,upV x1 (S - 1)=q:=⟨_,rfl⟩
 rw [hf] at hf0
 obtain ⟨x2,hx2⟩:∃ q,upS x1 (S - 1)=q:=⟨_,rfl⟩
 obtain ⟨dg,hdg⟩:∃ q,decide (upV x2 5 < 1)=q:=⟨_,rfl⟩
 obtain ⟨x3,hx3⟩:∃ q,upS x2 5=q:=⟨_,rfl⟩
 obtain ⟨tt,htt⟩:∃ q,f+1+upV x3 (S - (f+1))=q:=⟨_,rfl⟩
 obtain ⟨x4,hx4⟩:∃ q,upS x3 (S - (f+1))=q:=⟨_,rfl⟩
 have hnp:=up2 x4 (m:=n - 1) (by omega) (by omega)
 obtain ⟨np,hnp1⟩:∃ q:Nat,1+upV x4 (n - 1)=q:=⟨(1+upV x4 (n - 1)).toNat,by omega⟩
 obtain ⟨y,hy⟩:∃ q,upS x4 (n - 1)=q:=⟨_,rfl⟩
 have e1:aoF x S=f:=by unfold aoF;rw [hx1,hf]
 have e2:aoX2 x S=x2:=by unfold aoX2;rw [hx1,hx2]
 have e3:Qez x S=x3:=by unfold Qez;rw [e2,hx3]
 have e4:aoT x S=tt:=by unfold aoT;rw [e1,e3,htt]
 have e5:Qbw x S=x4:=by unfold Qbw;rw [e3,e1,hx4]
 have e6:aoS x S n=sxK y np:=by unfold aoS;rw [e5,hy,hnp1];rfl
 unfold aoX aoA
 rw [e1,e2,e4,e6,hpt1,hdg]
 have w4:IntKind.wrap .i64 (S - 1)=S - 1:=wrap64 (by omega) (by omega)
 have w5:IntKind.wrap .i64 (f+1)=f+1:=wrap64 (by omega) (by omega)
 have b3:S - 1 < 9223372036854775807:=by omega
 have b4:-100000≤f+1:=by omega
 have b5:f+1≤100000:=by omega
 have b6:-100000≤S:=by omega
 have b7:S≤100000:=by omega
 have b8:-100000≤n:=by omega
 have b9:n≤100000:=by omega
 show Sym _ _ _ (zV [.ptr 0 0,qa c,aI n] 1 (qj [(0,.cells [.v (.int .u64 x)])])) (xM tyB noD Tryz.f12 fun S' rv=>Fin S' rv _ 1 (qj [(0,.cells [.v (.int .u64 (sxK y np).2)])]) 0)
 repeat' (first|(apply nx;with_reducible constructor)|refine jq (by decide) ?_|((first|refine kz env fun Q hQ=>?_|refine kj fun Q hQ=>?_);simp only [vkt,seval,vg,Yi,dI1,zR,qa,qb,qx,qg,aoI,jA,pUp,zC,xc,List.length_map,List.map_cons,List.map_nil,hS,m1,hpt1,hx1,w4,hf,hx2,hdg,hx3,w5,htt,hx4,hnp1,hy];(try simp only [ite_and]);(repeat' (first|with_reducible assumption|refine And.intro ?_ ?_|intro hp));all_goals (first|(refine hQ _ ?_;clear hQ Q)|(refine hQ _ (fun h=>?_) (fun h=>?_) <;> clear hQ Q <;> (try simp only [vki,reduceCtorEq] at h))|(refine kx ?_;kernel_rfl)|omega|assumption|with_reducible rfl|skip)))
 refine qN (fun k:{ k:Nat // k≤np }=>aoI c (sxK y k.1).2 pt f tt dg (np - k.1) (sxK y k.1).1) (fun k=>np - k.1) ⟨0,Nat.zero_le _⟩ ?_ fun ⟨k,hk⟩=>?_
 ·(refine Le.ok (fun i=>if i=4 then none else some i) [] ?_;constructor;all_goals (try simp only [vle,vkt,seval,vg,Yi,dI1,zR,qa,qb,qx,qg,aoI,jA,pUp,zC,xc,List.length_map,List.map_cons,List.map_nil]))
  all_goals first|rfl|(simp [sxK];done)|(intro i hi;rw [if_neg (by omega)];done)
 simp only at hk ⊢
 by_cases hkl:k < np
 ·have d1:decide ((0:Int) < ((np - k:Nat):Int))=true:=decide_eq_true (by omega)
  have w1:IntKind.wrap .i64 (((np - k:Nat):Int) - 1)=((np - (k+1):Nat):Int):=by rw [wrap64 (by omega) (by omega)];omega
  have hl:=(Qce y k).1
  have hl1:(sxK y k).1.length+1≤maxLen:=by omega
  have hK1:sxK y (k+1)=((sxK y k).1++[sxV (sxK y k).2],upS (sxK y k).2 1):=by rw [sxK]
  obtain ⟨⟨l,s⟩,hK⟩:∃ q,sxK y k=q:=⟨_,rfl⟩
  rw [hK] at hl hl1 hK1 ⊢
  have hl8:(l.length+1) * 8≤140737488355328:=by simp only at hl;omega
  obtain ⟨v,hv⟩:∃ v,sxV s=v:=⟨_,rfl⟩
  simp only [hv] at hK1
  have hv:([1,2]:List Int).getD (upV s 1).toNat 0=v:=hv
  repeat' (first|(apply nx;with_reducible constructor)|refine jq (by decide) ?_|((first|refine kz env fun Q hQ=>?_|refine kj fun Q hQ=>?_);simp only [vkt,seval,vg,Yi,dI1,zR,qa,qb,qx,qg,aoI,jA,pUp,zC,xc,List.length_map,List.map_cons,List.map_nil,d1,w1,hl1,hl8,hv];(try simp only [ite_and]);(repeat' (first|with_reducible assumption|refine And.intro ?_ ?_|intro hp));all_goals (first|(refine hQ _ ?_;clear hQ Q)|(refine hQ _ (fun h=>?_) (fun h=>?_) <;> clear hQ Q <;> (try simp only [vki,reduceCtorEq] at h))|(refine kx ?_;kernel_rfl)|omega|assumption|with_reducible rfl|skip)))
  ·exact ⟨_,_,rfl⟩
  refine ⟨⟨k+1,hkl⟩,by show np - (k+1) < np - k;omega, ?_⟩
  show Le _ (aoI c (sxK y (k+1)).2 pt f tt dg (np - (k+1)) (sxK y (k+1)).1)
  rw [hK1]
  (refine Le.ok (fun i=>if i=4 then some 7 else some i) [] ?_;constructor;all_goals (try simp only [vle,vkt,seval,vg,Yi,dI1,zR,qa,qb,qx,qg,aoI,jA,pUp,zC,xc,List.length_map,List.map_cons,List.map_nil]))
  all_goals first|rfl|(rw [List.map_append];rfl)|(simp;done)|(intro i hi;rw [if_neg (by omega)];done)
 ·have d1:decide ((0:Int) < ((np - k:Nat):Int))=false:=decide_eq_false (by omega)
  obtain rfl:k=np:=by omega
  obtain ⟨⟨l,s⟩,hK⟩:∃ q,sxK y k=q:=⟨_,rfl⟩
  rw [hK]
  repeat' (first|(apply nx;with_reducible constructor)|refine jq (by decide) ?_|((first|refine kz env fun Q hQ=>?_|refine kj fun Q hQ=>?_);simp only [vkt,seval,vg,Yi,dI1,zR,qa,qb,qx,qg,aoI,jA,pUp,zC,xc,List.length_map,List.map_cons,List.map_nil,d1];(try simp only [ite_and]);(repeat' (first|with_reducible assumption|refine And.intro ?_ ?_|intro hp));all_goals (first|(refine hQ _ ?_;clear hQ Q)|(refine hQ _ (fun h=>?_) (fun h=>?_) <;> clear hQ Q <;> (try simp only [vki,reduceCtorEq] at h))|(refine kx ?_;kernel_rfl)|omega|assumption|with_reducible rfl|skip)))
  (simp only [vrt,Tryz.results12,vkt,seval,vg,Yi,dI1,zR,qa,qb,qx,qg,aoI,jA,pUp,zC,xc,List.length_map,List.map_cons,List.map_nil];refine Fin.ok some [4] ?_ ?_ ?_ ?_ ?_ rfl;all_goals (try simp only [vle,vkt,seval,vg,Yi,dI1,zR,qa,qb,qx,qg,aoI,jA,pUp,zC,xc,List.length_map,List.map_cons,List.map_nil]))
  all_goals first|rfl|(simp;done)
theorem Ql {cs:List Cabin} {s:Int} {l:List Tk}:∀ i o,qj (qQ 0 (qy cs s l)) i=some o→i < 2∧∀ id ∈ o.ids,id < 2:=by
 intro i o hi
 have h:=qR hi
 simp [qQ,qy] at h
 rcases h with ⟨rfl,rfl⟩|⟨rfl,rfl⟩ <;> simp [AObj.ids,AV.ids,AV.idsL,qm,qp]
def vD (S:St):List AV→Option Pk
 |[.ptr c 0,.sl bs]=>match S.h c with
  |some (.cells [.sl cs,.v (.int .i64 s),.row r])=>match S.h r with
   |some (.row _ _ xs)=>some { pre:=bs=(bs.map zz).map qo∧cs=(cs.map qw).map qh∧xs=(xs.map dTk).map eTk∧NearOk (cs.map qw) (bs.map zz),hs:=[c,r],ar:=[.ptr 0 0,.sl bs],L0:=qy (cs.map qw) s (xs.map dTk),v:=aB (Zl (cs.map qw) (bs.map zz)),L1:=(qy (cs.map qw) s (xs.map dTk)).map some }
   |_=>none
  |_=>none
 |_=>none
theorem eNear {A:Frm→Prop}:qE A Tryz.prog 130 (fnE vD):=zY fun S bs q h hp=>by
 unfold vD at h
 split at h
 ·split at h
  ·split at h
   ·cases h
    obtain ⟨h1,h2,h3,h4⟩:=hp
    have:=QiF _ (by assumption) (List.map dTk (by assumption)) _ h4
    rw [qc,← h1] at this
    exact this
   ·cases h
  ·cases h
 ·cases h
def YZ:=kk @x9 (kk @yc (kk @Zc (kk @yU (kk @J2 (kk @xD.eq_1 (kk @jM.eq_1 (kk @QA.eq_1 (kk @yA.eq_1 @ZQ.eq_1))))))))
def Qcx:=kk @aI.eq_1 (@aB.eq_1)
theorem Qi7 (cs:List Cabin) (s:Int) (sold:List Tk) (t:Tk) (hl:sold.length≤100):Fn noB Tryz.prog 81 [.ptr 0 0,aTk t] (qj (qQ 0 (qy cs s sold))) (aB (decide (wh t sold=0))) (qj (wH 0 ((qy cs s sold).map some))) 0:=by
 have env:Env (fun _=>True) Tryz.prog tyB (tab [(118,qX true j4)]):=qL ⟨Qdq,trivial⟩
 refine Fn.of (A:=fun _=>True) (n0:=2) (D:=noD) (Fn0 Tryz.func81 rfl (fun vs w=>by kernel_rfl) (by kernel_rfl)) (by simp) (by simp [AV.ids,AV.idsL,aTk,cTk]) Ql (fun _ _ _ _=>trivial) qF ?_
 have et:(⟨t.party,t.sex,t.cab,t.bed,t.frm,t.to,t.dog⟩:Tk)=t:=rfl
 show Sym _ _ _ (zV [.ptr 0 0,aTk t] 2 (qj [(0,qm cs s 1),(1,qp sold)])) (xM tyB noD Tryz.f81 fun S rv=>Fin S rv _ 2 (qj [(0,qm cs s 1),(1,qp sold)]) 0)
 repeat' (first|(apply nx;with_reducible constructor)|refine jq (by decide) ?_|((first|refine kz env fun Q hQ=>?_|refine kj fun Q hQ=>?_);simp only [vkt,seval,YZ,Qcx,aTk,cTk,ql,mTk,qm,qp,qy,j4,List.length_map,et];(try simp only [ite_and]);(repeat' (first|with_reducible assumption|refine And.intro ?_ ?_|intro hp));all_goals (first|(refine hQ _ ?_;clear hQ Q)|(refine hQ _ (fun h=>?_) (fun h=>?_) <;> clear hQ Q <;> (try simp only [vki,reduceCtorEq] at h))|(refine kx ?_;kernel_rfl)|omega|assumption|with_reducible rfl|skip)))
 (simp only [vrt,Tryz.results81,vkt,seval,YZ,Qcx,aTk,cTk,ql,mTk,qm,qp,qy,j4,List.length_map];refine Fin.ok some [] ?_ ?_ ?_ ?_ ?_ rfl;all_goals (try simp only [vle,vkt,seval,YZ,Qcx,aTk,cTk,ql,mTk,qm,qp,qy,j4,List.length_map]))
 all_goals first|rfl|(simp;done)
def vG (S:St):List AV→Option Pk
 |[.ptr c 0,.agg [.v (.int .i64 a),.v (.int .i64 b),.v (.int .i64 d),.v (.int .i64 e),.v (.int .i64 f),.v (.int .i64 g),.v (.bool k)]]=>match S.h c with
  |some (.cells [.sl cs,.v (.int .i64 s),.row r])=>match S.h r with
   |some (.row _ _ xs)=>some { pre:=cs=(cs.map qw).map qh∧xs=(xs.map dTk).map eTk∧xs.length≤100,hs:=[c,r],ar:=[.ptr 0 0,.agg [.v (.int .i64 a),.v (.int .i64 b),.v (.int .i64 d),.v (.int .i64 e),.v (.int .i64 f),.v (.int .i64 g),.v (.bool k)]],L0:=qy (cs.map qw) s (xs.map dTk),v:=aB (decide (wh ⟨a,b,d,e,f,g,k⟩ (xs.map dTk)=0)),L1:=(qy (cs.map qw) s (xs.map dTk)).map some }
   |_=>none
  |_=>none
 |_=>none
theorem eFits {A:Frm→Prop}:qE A Tryz.prog 81 (fnE vG):=zY fun S bs q h hp=>by
 unfold vG at h
 split at h
 ·rename_i a b d e f g k
  split at h
  ·split at h
   ·rename_i s _ _ _ _ xs _
    cases h
    obtain ⟨h1,h2,h3⟩:=hp
    exact Qi7 _ _ _ ⟨a,b,d,e,f,g,k⟩ (by rw [List.length_map];exact h3)
   ·cases h
  ·cases h
 ·cases h
theorem Qh3 {l:List Tk} {r:List DV} {d:DV} (hr:r ∈ l.map eTk) (hd:d ∈ r):∃ x,d=.v x:=by
 obtain ⟨t,_,rfl⟩:=List.mem_map.1 hr
 simp only [eTk,List.mem_cons,List.not_mem_nil,or_false] at hd
 rcases hd with rfl|rfl|rfl|rfl|rfl|rfl|rfl <;> exact ⟨_,rfl⟩
def QE (cs:List Cabin) (s:Int) (l:List Tk) (t:Tk):List AObj:=[qm cs s 4,qp l,.cells [.row 1],.cells [.ptr 0 0],qp (l++[t])]
def Vw:=kk @x9 (kk @yc (kk @yU (kk @YW (kk @J2 (kk @xD.eq_1 (kk @jM.eq_1 (kk @yA.eq_1 (kk @JZ.eq_1 @ZQ.eq_1))))))))
def Qb4:=kk @aI.eq_1 (@aB.eq_1)
theorem Qih (cs:List Cabin) (s:Int) (sold:List Tk) (t:Tk) (hl:sold.length≤100):Fn noB Tryz.prog 87 [.ptr 0 0,aTk t] (qj (qQ 0 (qy cs s sold))) (.clo 122 [.ptr 2 0,.ptr 3 0]) (qj (wH 0 ((QE cs s sold t).map some))) 0:=by
 have env:Env (fun _=>True) Tryz.prog tyB (tab [(116,fnE Qw)]):=qL ⟨QcX,trivial⟩
 refine Fn.of (A:=fun _=>True) (n0:=2) (D:=noD) (Fn0 Tryz.func87 rfl (fun vs w=>by kernel_rfl) (by kernel_rfl)) (by simp) (by simp [AV.ids,AV.idsL,aTk,cTk]) Ql (fun _ _ _ _=>trivial) qF ?_
 have hm:(100:Nat)+1≤maxLen:=by decide
 show Sym _ _ _ (zV [.ptr 0 0,aTk t] 2 (qj [(0,qm cs s 1),(1,qp sold)])) (xM tyB noD Tryz.f87 fun S rv=>Fin S rv _ 2 (qj [(0,qm cs s 4),(1,qp sold),(2,.cells [.row 1]),(3,.cells [.ptr 0 0]),(4,qp (sold++[t]))]) 0)
 repeat' (first|(apply nx;with_reducible constructor)|refine jq (by decide) ?_|((first|refine kz env fun Q hQ=>?_|refine kj fun Q hQ=>?_);simp only [vkt,seval,Vw,Qb4,aTk,cTk,ql,mTk,eTk,rTk,qm,qp,qy,QE,Qw,List.length_map,List.length_append,List.map_append];(try simp only [ite_and]);(repeat' (first|with_reducible assumption|refine And.intro ?_ ?_|intro hp));all_goals (first|(refine hQ _ ?_;clear hQ Q)|(refine hQ _ (fun h=>?_) (fun h=>?_) <;> clear hQ Q <;> (try simp only [vki,reduceCtorEq] at h))|(refine kx ?_;kernel_rfl)|omega|assumption|with_reducible rfl|skip)))
 ·exact ⟨_,_,rfl⟩
 ·exact Qh3 (by assumption) (by assumption)
 (simp only [vrt,Tryz.results87,vkt,seval,Vw,Qb4,aTk,cTk,ql,mTk,eTk,rTk,qm,qp,qy,QE,Qw,List.length_map,List.length_append,List.map_append];refine Fin.ok (fun j=>[0,1,4,2,7][j]?) [] ?_ ?_ ?_ ?_ ?_ rfl;all_goals (try simp only [vle,vkt,seval,Vw,Qb4,aTk,cTk,ql,mTk,eTk,rTk,qm,qp,qy,QE,Qw,List.length_map,List.length_append,List.map_append]))
 all_goals first|rfl|(simp;done)|exact fun i hi=>(match i,hi with|0,_=>rfl|1,_=>rfl)
def Yz (S:St):List AV→Option Pk
 |[.ptr c 0,.agg [.v (.int .i64 a),.v (.int .i64 b),.v (.int .i64 d),.v (.int .i64 e),.v (.int .i64 f),.v (.int .i64 g),.v (.bool k)]]=>match S.h c with
  |some (.cells [.sl cs,.v (.int .i64 s),.row r])=>match S.h r with
   |some (.row _ _ xs)=>some { pre:=cs=(cs.map qw).map qh∧xs=(xs.map dTk).map eTk∧xs.length≤100,hs:=[c,r],ar:=[.ptr 0 0,.agg [.v (.int .i64 a),.v (.int .i64 b),.v (.int .i64 d),.v (.int .i64 e),.v (.int .i64 f),.v (.int .i64 g),.v (.bool k)]],L0:=qy (cs.map qw) s (xs.map dTk),v:=.clo 122 [.ptr 2 0,.ptr 3 0],L1:=(QE (cs.map qw) s (xs.map dTk) ⟨a,b,d,e,f,g,k⟩).map some }
   |_=>none
  |_=>none
 |_=>none
theorem eSell {A:Frm→Prop}:qE A Tryz.prog 87 (fnE Yz):=zY fun S bs q h hp=>by
 unfold Yz at h
 split at h
 ·rename_i a b d e f g k
  split at h
  ·split at h
   ·cases h
    obtain ⟨h1,h2,h3⟩:=hp
    exact Qih _ _ _ ⟨a,b,d,e,f,g,k⟩ (by rw [List.length_map];exact h3)
   ·cases h
  ·cases h
 ·cases h
def Yn:=kk @x9 (kk @yc (kk @yU (kk @YW (kk @J2 (kk @xD.eq_1 (kk @jM.eq_1 (kk @yA.eq_1 (kk @JZ.eq_1 @ZQ.eq_1))))))))
def QcC:=kk @aI.eq_1 (@aB.eq_1)
theorem Qha (cs:List Cabin) (s:Int) (sold:List Tk) (t:Tk):FnD Tryz.prog 122 [.ptr 2 0,.ptr 3 0] (qj (qQ 0 (QE cs s sold t))) (.tup []) (qj (wH 0 ([qm cs s 1,qp sold,.cells [.row 1],.cells [.ptr 0 0],qp (sold++[t])].map some))):=by
 have env:Env (fun F=>F.r=none) Tryz.prog tyB (tab []):=qL trivial
 refine FnD.of (n0:=5) (Fn0 Tryz.func122 rfl (fun vs w=>by kernel_rfl) (by kernel_rfl)) (by simp) (by simp [AV.ids,AV.idsL]) ?_ ?_
 ·intro i o hi
  have h:=qR hi
  simp [qQ,QE] at h
  rcases h with ⟨rfl,rfl⟩|⟨rfl,rfl⟩|⟨rfl,rfl⟩|⟨rfl,rfl⟩|⟨rfl,rfl⟩ <;> simp [AObj.ids,AV.ids,AV.idsL,qm,qp]
 show Sym _ _ _ (zV [.ptr 2 0,.ptr 3 0] 5 (qj [(0,qm cs s 4),(1,qp sold),(2,.cells [.row 1]),(3,.cells [.ptr 0 0]),(4,qp (sold++[t]))])) (Qfz tyB Tryz.f122 fun S rv=>Fin S rv _ 5 (qj [(0,qm cs s 1),(1,qp sold),(2,.cells [.row 1]),(3,.cells [.ptr 0 0]),(4,qp (sold++[t]))]) 0)
 repeat' (first|(apply nx;with_reducible constructor)|refine jq (by decide) ?_|((first|refine kz env fun Q hQ=>?_|refine kj fun Q hQ=>?_);simp only [vkt,seval,Yn,QcC,qm,qp,QE];(try simp only [ite_and]);(repeat' (first|with_reducible assumption|refine And.intro ?_ ?_|intro hp));all_goals (first|(refine hQ _ ?_;clear hQ Q)|(refine hQ _ (fun h=>?_) (fun h=>?_) <;> clear hQ Q <;> (try simp only [vki,reduceCtorEq] at h))|(refine kx ?_;kernel_rfl)|omega|assumption|with_reducible rfl|skip)))
 simp only [Qfz.eq_1]
 refine ⟨trivial, ?_⟩
 (simp only [vrt,Tryz.results122,vkt,seval,Yn,QcC,qm,qp,QE];refine Fin.ok some [] ?_ ?_ ?_ ?_ ?_ rfl;all_goals (try simp only [vle,vkt,seval,Yn,QcC,qm,qp,QE]))
 all_goals first|rfl|(simp;done)
def Wv (S:St):List AV→Option Pk
 |[.ptr b 0,.ptr q 0]=>match S.h b,S.h q with
  |some (.cells [.row r]),some (.cells [.ptr c 0])=>match S.h c with
   |some (.cells [.sl cs,.v (.int .i64 s),.row r'])=>match S.h r,S.h r' with
    |some (.row _ _ xs),some (.row _ _ ys)=>some { pre:=cs=(cs.map qw).map qh∧ys=(xs.map dTk).map eTk++[ys.getLastD []]∧ys.getLastD []=eTk (dTk (ys.getLastD [])),hs:=[c,r,b,q,r'],ar:=[.ptr 2 0,.ptr 3 0],L0:=QE (cs.map qw) s (xs.map dTk) (dTk (ys.getLastD [])),v:=.tup [],L1:=[qm (cs.map qw) s 1,qp (xs.map dTk),.cells [.row 1],.cells [.ptr 0 0],qp (xs.map dTk++[dTk (ys.getLastD [])])].map some }
    |_,_=>none
   |_=>none
  |_,_=>none
 |_=>none
theorem Qj9 {A:Frm→Prop}:ZB.OK A Tryz.prog (dfE 122 Wv):=QgJ fun S bs q h hp=>by
 unfold Wv at h
 split at h
 ·split at h
  ·split at h
   ·split at h
    ·cases h
     exact Qha _ _ _ _
    ·cases h
   ·cases h
  ·cases h
 ·cases h
def wU (cs:List Cabin) (a:Ask):Nat→List Tk→List Bunk→List (List Bunk × List Tk)
 |0,sold,begun=>[(begun,sold)]
 |m+1,sold,begun=>(qV cs).flatMap fun b=>if goB cs a sold begun b then wU cs a m (sold++[Qd a begun.length b]) (begun++[b]) else []
structure GrowOk (cs:List Cabin) (s:Int) (a:Ask) (m:Nat) (sold:List Tk) (begun:List Bunk) (ys:Nat→List AV) (hl:Nat→List AObj) (ans:Nat→Bool) (R:Nat):Prop where
 sz:begun.length+m=a.sexes.length
 sx:a.sexes.length≤10
 cab:CabsOk cs
 c100:cs.length≤100
 many:sold.length+m≤100
 mem:∀ b ∈ begun,0≤b.cab∧b.cab.toNat < cs.length
 rounds:Rounds ans R (wU cs a m sold begun).length
 ys:∀ j,j < (wU cs a m sold begun).length→ys j=[qc ((wU cs a m sold begun).getD j default).1]
 hl:∀ j,j < (wU cs a m sold begun).length→hl j=qy cs s ((wU cs a m sold begun).getD j default).2
def XI (cs:List Cabin) (s:Int) (a:Ask) (m:Nat):Prop:=∀ (sold:List Tk) (begun:List Bunk) (ys:Nat→List AV) (hl:Nat→List AObj) (ans:Nat→Bool) (R:Nat),GrowOk cs s a m sold begun ys hl ans R →
 Fn (Bcc Tryz.prog (qj (qQ 0 [qm cs s 1])) (qj (qQ 0 (qy cs s sold))) ys (fun j=>nth (hl j)) ans R) Tryz.prog 104 [.ptr 0 0,qx a,qc begun,.cb] (qj (qQ 0 (qy cs s sold))) (aB (QH ans R)) (qj (wH 0 ((qy cs s sold).map some))) R
def KL (cs:List Cabin) (s:Int) (a:Ask) (m:Nat) (ys:Nat→List AV) (hl:Nat→List AObj) (ans:Nat→Bool) (R:Nat) (S:St):List AV→Option PkI
 |[.ptr c 0,.agg aa,.sl bs,.cb]=>match S.h c with
  |some (.cells [.sl cc,.v (.int .i64 s'),.row r])=>match S.h r with
   |some (.row _ _ xs)=>some { q:={ pre:=cc=cs.map qh∧s'=s∧aa=qg a∧bs=(bs.map zz).map qo∧xs=(xs.map dTk).map eTk∧GrowOk cs s a m (xs.map dTk) (bs.map zz) (fun j=>ys (S.j+j)) (fun j=>hl (S.j+j)) (fun j=>ans (S.j+j)) (min (wU cs a m (xs.map dTk) (bs.map zz)).length (R - S.j)),hs:=[c,r],ar:=[.ptr 0 0,.agg aa,.sl bs,.cb],L0:=qy cs s (xs.map dTk),v:=aB (QH (fun j=>ans (S.j+j)) (min (wU cs a m (xs.map dTk) (bs.map zz)).length (R - S.j))),L1:=(qy cs s (xs.map dTk)).map some },dj:=min (wU cs a m (xs.map dTk) (bs.map zz)).length (R - S.j) }
   |_=>none
  |_=>none
 |_=>none
theorem eGrow {A:Frm→Prop} {cs:List Cabin} {s:Int} {a:Ask} {m:Nat} {ys:Nat→List AV} {hl:Nat→List AObj} {ans:Nat→Bool} {R:Nat} {h0:Nat→Option AObj} (ih:XI cs s a m) (hA:∀ F,A F→Acb Tryz.prog (qj (qQ 0 [qm cs s 1])) h0 ys (fun j=>nth (hl j)) ans R F) :
  qE A Tryz.prog 104 (fnI [qm cs s 1] R (KL cs s a m ys hl ans R)):=RL hA fun S bs q h hp=>by
 unfold KL at h
 split at h
 ·split at h
  ·split at h
   ·cases h
    obtain ⟨_,_,h3,h4,_,h6⟩:=hp
    have:=ih _ _ _ _ _ _ h6
    rw [qc,← h4,qx,← h3] at this
    exact this
   ·cases h
  ·cases h
 ·cases h
def g1L (cs:List Cabin) (s:Int) (a:Ask) (sold:List Tk) (begun:List Bunk):List AObj:=[qm cs s 1,qp sold,.cells [.ptr 0 0],.cells (qg a),.cells [.sl (begun.map qo)],.cells [.cb]]
theorem Qgz {cs:List Cabin} {s:Int} {a:Ask} {sold:List Tk} {begun:List Bunk}:∀ i o,qj (qQ 0 (g1L cs s a sold begun)) i=some o→i < 6∧∀ id ∈ o.ids,id < 6:=by
 intro i o hi
 have h:=qR hi
 simp [qQ,g1L] at h
 rcases h with ⟨rfl,rfl⟩|⟨rfl,rfl⟩|⟨rfl,rfl⟩|⟨rfl,rfl⟩|⟨rfl,rfl⟩|⟨rfl,rfl⟩ <;> simp [AObj.ids,AV.ids,AV.idsL,qm,qp,qg]
theorem QfD {cs:List Cabin} {s:Int} {r:List AObj}:∀ i o,qj (qQ 0 [qm cs s 1]) i=some o→∃ o',qj (qQ 0 (qm cs s 1 :: r)) i=some o':=fun i o hi=>by
 rw [jR] at hi
 cases i with
 |zero=>exact ⟨_,rfl⟩
 |succ i=>simp at hi
def Uw (cs:List Cabin) (s:Int) (a:Ask) (m:Nat):Prop:=∀ (sold:List Tk) (begun:List Bunk) (ys:Nat→List AV) (hl:Nat→List AObj) (ans:Nat→Bool) (R:Nat),GrowOk cs s a m sold begun ys hl ans R →
 Fn (Bcc Tryz.prog (qj (qQ 0 [qm cs s 1])) (qj (qQ 0 (g1L cs s a sold begun))) ys (fun j=>nth (hl j)) ans R) Tryz.prog 132 [.ptr 2 0,.ptr 3 0,.ptr 4 0,.ptr 5 0] (qj (qQ 0 (g1L cs s a sold begun))) (aB (QH ans R)) (qj (wH 0 ((g1L cs s a sold begun).map some))) R
def J6:=kk @QM (kk @WQ (kk @xJ (kk @YW (kk @Qjo (kk @Qb.eq_1 (kk @ZO.eq_1 (kk @vZ.eq_1 (kk @JZ.eq_1 @L9.eq_1))))))))
def QbU:=kk @aI.eq_1 (@aB.eq_1)
theorem Qg6 {cs:List Cabin} {s:Int} {a:Ask} {m:Nat} (ih:XI cs s a m):Uw cs s a m:=by
 intro sold begun ys hl ans R ok
 obtain ⟨A0,hA0⟩:∃ A0:Frm→Prop,A0=Acb Tryz.prog (qj (qQ 0 [qm cs s 1])) (qj (qQ 0 (g1L cs s a sold begun))) ys (fun j=>nth (hl j)) ans R:=⟨_,rfl⟩
 have hA:∀ F,A0 F→Acb Tryz.prog (qj (qQ 0 [qm cs s 1])) (qj (qQ 0 (g1L cs s a sold begun))) ys (fun j=>nth (hl j)) ans R F:=fun F h=>hA0 ▸ h
 have env:Env A0 Tryz.prog tyB (tab [(104,fnI [qm cs s 1] R (KL cs s a m ys hl ans R))]):=qL ⟨eGrow ih hA,trivial⟩
 refine Fn.of (A:=A0) (n0:=6) (D:=noD) (Fn0 Tryz.func132 rfl (fun vs w=>by kernel_rfl) (by kernel_rfl)) (by simp) (by simp [AV.ids]) Qgz (fun F hb h0 _=>hA0 ▸ ⟨h0,QfD,hb⟩) qF ?_
 have hle:=ok.rounds.le
 have eR:min (wU cs a m sold begun).length R=R:=by omega
 have ea1:a.sexes=a.sexes:=rfl
 show Sym _ _ _ (zV [.ptr 2 0,.ptr 3 0,.ptr 4 0,.ptr 5 0] 6 (qj [(0,qm cs s 1),(1,qp sold),(2,.cells [.ptr 0 0]),(3,.cells (qg a)),(4,.cells [.sl (begun.map qo)]),(5,.cells [.cb])])) (xM tyB noD Tryz.f132 fun S rv=>Fin S rv _ 6 (qj [(0,qm cs s 1),(1,qp sold),(2,.cells [.ptr 0 0]),(3,.cells (qg a)),(4,.cells [.sl (begun.map qo)]),(5,.cells [.cb])]) R)
 repeat' (first|(apply nx;with_reducible constructor)|refine jq (by decide) ?_|((first|refine kz env fun Q hQ=>?_|refine kj fun Q hQ=>?_);simp only [vkt,seval,J6,QbU,aTk,cTk,qx,qg,qc,qM,mTk,qd,qm,qp,qy,g1L,KL,List.length_map,Go.Sym.tabC,cbX,fnI,wy,qU,nth,hwL,Nat.zero_add,Nat.sub_zero,eR,ok];(try simp only [ite_and]);(repeat' (first|with_reducible assumption|refine And.intro ?_ ?_|intro hp));all_goals (first|(refine hQ _ ?_;clear hQ Q)|(refine hQ _ (fun h=>?_) (fun h=>?_) <;> clear hQ Q <;> (try simp only [vki,reduceCtorEq] at h))|(refine kx ?_;kernel_rfl)|omega|assumption|with_reducible rfl|skip)))
 (simp only [vrt,Tryz.results132,vkt,seval,J6,QbU,aTk,cTk,qx,qg,qc,qM,mTk,qd,qm,qp,qy,g1L,KL,List.length_map,Go.Sym.tabC,cbX,fnI,wy,qU,nth,hwL,Nat.zero_add,Nat.sub_zero];refine Fin.ok some [] ?_ ?_ ?_ ?_ ?_ rfl;all_goals (try simp only [vle,vkt,seval,J6,QbU,aTk,cTk,qx,qg,qc,qM,mTk,qd,qm,qp,qy,g1L,KL,List.length_map,Go.Sym.tabC,cbX,fnI,wy,qU,nth,hwL,Nat.zero_add,Nat.sub_zero]))
 all_goals first|rfl|(simp;done)|exact fun i hi=>(match i,hi with|0,_=>rfl|1,_=>rfl)
def WG (cs:List Cabin) (s:Int) (a:Ask) (m:Nat) (ys:Nat→List AV) (hl:Nat→List AObj) (ans:Nat→Bool) (R:Nat) (S:St):List AV→Option PkI
 |[.ptr p2 0,.ptr p3 0,.ptr p4 0,.ptr p5 0]=>match S.h p2,S.h p3,S.h p4,S.h p5 with
  |some (.cells [.ptr c 0]),some (.cells aa),some (.cells [.sl bs]),some (.cells [.cb])=>match S.h c with
   |some (.cells [.sl cc,.v (.int .i64 s'),.row r])=>match S.h r with
    |some (.row _ _ xs)=>some { q:={ pre:=cc=cs.map qh∧s'=s∧aa=qg a∧bs=(bs.map zz).map qo∧xs=(xs.map dTk).map eTk∧GrowOk cs s a m (xs.map dTk) (bs.map zz) (fun j=>ys (S.j+j)) (fun j=>hl (S.j+j)) (fun j=>ans (S.j+j)) (min (wU cs a m (xs.map dTk) (bs.map zz)).length (R - S.j)),hs:=[c,r,p2,p3,p4,p5],ar:=[.ptr 2 0,.ptr 3 0,.ptr 4 0,.ptr 5 0],L0:=g1L cs s a (xs.map dTk) (bs.map zz),v:=aB (QH (fun j=>ans (S.j+j)) (min (wU cs a m (xs.map dTk) (bs.map zz)).length (R - S.j))),L1:=(g1L cs s a (xs.map dTk) (bs.map zz)).map some },dj:=min (wU cs a m (xs.map dTk) (bs.map zz)).length (R - S.j) }
    |_=>none
   |_=>none
  |_,_,_,_=>none
 |_=>none
theorem QkD {A:Frm→Prop} {cs:List Cabin} {s:Int} {a:Ask} {m:Nat} {ys:Nat→List AV} {hl:Nat→List AObj} {ans:Nat→Bool} {R:Nat} {h0:Nat→Option AObj} (ih:Uw cs s a m) (hA:∀ F,A F→Acb Tryz.prog (qj (qQ 0 [qm cs s 1])) h0 ys (fun j=>nth (hl j)) ans R F) :
  qE A Tryz.prog 132 (fnI [qm cs s 1] R (WG cs s a m ys hl ans R)):=RL hA fun S bs q h hp=>by
 unfold WG at h
 split at h
 ·split at h
  ·split at h
   ·split at h
    ·cases h
     obtain ⟨_,_,_,_,_,h6⟩:=hp
     exact ih _ _ _ _ _ _ h6
    ·cases h
   ·cases h
  ·cases h
 ·cases h
def Qcz (cs:List Cabin) (s:Int) (a:Ask) (m:Nat):Prop:=∀ (sold:List Tk) (t:Tk) (begun:List Bunk) (ys:Nat→List AV) (hl:Nat→List AObj) (ans:Nat→Bool) (R:Nat),GrowOk cs s a m (sold++[t]) begun ys hl ans R →
 Fn (Bcc Tryz.prog (qj (qQ 0 [qm cs s 1])) (qj (qQ 0 (g1L cs s a sold begun))) ys (fun j=>nth (hl j)) ans R) Tryz.prog 131 [.ptr 0 0,aTk t,.clo 132 [.ptr 2 0,.ptr 3 0,.ptr 4 0,.ptr 5 0]] (qj (qQ 0 (g1L cs s a sold begun))) (aB (QH ans R)) (qj (wH 0 ((g1L cs s a sold begun).map some))) R
def Q7:=kk @yU @yA.eq_1
def Vm:=kk @aI.eq_1 (@aB.eq_1)
end Go.Sym.B
