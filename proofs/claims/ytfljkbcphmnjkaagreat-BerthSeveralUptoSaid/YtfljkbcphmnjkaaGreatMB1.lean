/- Walks and what they compute, joined: part 1. -/
import Derived.Test.YtfljkbcphmnjkaaGreatMS3
import Derived.Test.YtfljkbcphmnjkaaGreatProg
import Derived.KernelRfl
set_option linter.all false
namespace Go.Sym.B
open Go Go.Sym Go.Proofs
theorem _root_.Go.Sym.k9 (k:Nat) (h:(k:Int)+1<9223372036854775808):IntKind.wrap .i64 ((k:Int)+1)=((k+1:Nat):Int):=by rw [wrap64 (by omega) (by omega)];rfl
theorem _root_.Go.Sym.kk {a b:Prop} (x:a) (y:b):a∧b:=⟨x,y⟩
def _root_.Go.Sym.jq:=@Yj
def _root_.Go.Sym.jx:=@Ws
def _root_.Go.Sym.jz:=@VY
def _root_.Go.Sym.jk:=@Y0
def _root_.Go.Sym.jw:=@Ul
def _root_.Go.Sym.jv:=@UC
def _root_.Go.Sym.kq:=@RI
def _root_.Go.Sym.kx:=@Lu
def _root_.Go.Sym.kz:=@Qc6
def _root_.Go.Sym.kj:=@Qij
def ti3:TI:={ cells:=1,bytes:=8,td:=.int .i64,zero:=[.v (.int .i64 0)],eqk:=none }
theorem tf3:TyFact Tryz.prog 3 ti3:=by
 refine ⟨⟨Tryz.t3,.int .i64 0,by kernel_rfl,rfl,rfl,rfl,rfl,rfl,by simp [Value.cells,Value.oneCell']⟩,⟨_,Tryz.underlying3,rfl⟩,fun fs h=>?_,fun ks h=>?_,fun q h=>?_⟩
 ·cases h
 ·cases h
 ·cases h
def ti4:TI:={ cells:=1,bytes:=1,td:=.bool,zero:=[.v (.bool false)],eqk:=none }
theorem tf4:TyFact Tryz.prog 4 ti4:=by
 refine ⟨⟨Tryz.t4,.bool false,by kernel_rfl,rfl,rfl,rfl,rfl,rfl,by simp [Value.cells,Value.oneCell']⟩,⟨_,Tryz.underlying4,rfl⟩,fun fs h=>?_,fun ks h=>?_,fun q h=>?_⟩
 ·cases h
 ·cases h
 ·cases h
def Qp:TI:={ cells:=1,bytes:=24,td:=.slice 89,zero:=[.nil],eqk:=none }
theorem tf22:TyFact Tryz.prog 22 Qp:=by
 refine ⟨⟨Tryz.t22,.slice none 0 0,by kernel_rfl,rfl,rfl,rfl,rfl,rfl,by simp [Value.cells,Value.oneCell']⟩,⟨_,Tryz.underlying22,rfl⟩,fun fs h=>?_,fun ks h=>?_,fun q h=>?_⟩
 ·cases h
 ·cases h
 ·cases h
def yh:TI:={ cells:=1,bytes:=24,td:=.slice 64,zero:=[.nil],eqk:=none }
theorem tf23:TyFact Tryz.prog 23 yh:=by
 refine ⟨⟨Tryz.t23,.slice none 0 0,by kernel_rfl,rfl,rfl,rfl,rfl,rfl,by simp [Value.cells,Value.oneCell']⟩,⟨_,Tryz.underlying23,rfl⟩,fun fs h=>?_,fun ks h=>?_,fun q h=>?_⟩
 ·cases h
 ·cases h
 ·cases h
def zQ:TI:={ cells:=3,bytes:=56,td:=.struct [(0,1,22),(1,1,3),(2,1,23)],zero:=[.nil,.v (.int .i64 0),.nil],eqk:=none }
theorem tf25:TyFact Tryz.prog 25 zQ:=by
 refine ⟨⟨Tryz.t25,.agg #[.slice none 0 0,.int .i64 0,.slice none 0 0],by kernel_rfl,rfl,rfl,rfl,rfl,rfl,by simp [Value.cells,Value.oneCell']⟩,⟨_,Tryz.underlying25,⟨_,rfl,rfl⟩⟩,fun fs h=>?_,fun ks h=>?_,fun q h=>?_⟩
 ·cases h
  simp only [List.mem_cons,List.not_mem_nil,or_false,forall_eq_or_imp,forall_eq]
  exact ⟨⟨Tryz.t22,by kernel_rfl,rfl⟩,⟨Tryz.t3,by kernel_rfl,rfl⟩,⟨Tryz.t23,by kernel_rfl,rfl⟩⟩
 ·cases h
 ·cases h
def jK:TI:={ cells:=1,bytes:=24,td:=.slice 3,zero:=[.nil],eqk:=none }
theorem tf26:TyFact Tryz.prog 26 jK:=by
 refine ⟨⟨Tryz.t26,.slice none 0 0,by kernel_rfl,rfl,rfl,rfl,rfl,rfl,by simp [Value.cells,Value.oneCell']⟩,⟨_,Tryz.underlying26,rfl⟩,fun fs h=>?_,fun ks h=>?_,fun q h=>?_⟩
 ·cases h
 ·cases h
 ·cases h
def wY:TI:={ cells:=5,bytes:=56,td:=.struct [(0,1,3),(1,1,3),(2,1,3),(3,1,26),(4,1,4)],zero:=[.v (.int .i64 0),.v (.int .i64 0),.v (.int .i64 0),.nil,.v (.bool false)],eqk:=none }
theorem tf28:TyFact Tryz.prog 28 wY:=by
 refine ⟨⟨Tryz.t28,.agg #[.int .i64 0,.int .i64 0,.int .i64 0,.slice none 0 0,.bool false],by kernel_rfl,rfl,rfl,rfl,rfl,rfl,by simp [Value.cells,Value.oneCell']⟩,⟨_,Tryz.underlying28,⟨_,rfl,rfl⟩⟩,fun fs h=>?_,fun ks h=>?_,fun q h=>?_⟩
 ·cases h
  simp only [List.mem_cons,List.not_mem_nil,or_false,forall_eq_or_imp,forall_eq]
  exact ⟨⟨Tryz.t3,by kernel_rfl,rfl⟩,⟨Tryz.t3,by kernel_rfl,rfl⟩,⟨Tryz.t3,by kernel_rfl,rfl⟩,⟨Tryz.t26,by kernel_rfl,rfl⟩,⟨Tryz.t4,by kernel_rfl,rfl⟩⟩
 ·cases h
 ·cases h
def ti30:TI:={ cells:=1,bytes:=8,td:=.func,zero:=[.v (.nilFunc)],eqk:=none }
theorem tf30:TyFact Tryz.prog 30 ti30:=by
 refine ⟨⟨Tryz.t30,.nilFunc,by kernel_rfl,rfl,rfl,rfl,rfl,rfl,by simp [Value.cells,Value.oneCell']⟩,⟨_,Tryz.underlying30,⟨_,_,_,rfl⟩⟩,fun fs h=>?_,fun ks h=>?_,fun q h=>?_⟩
 ·cases h
 ·cases h
 ·cases h
def ti31:TI:={ cells:=1,bytes:=8,td:=.ptr,zero:=[.v (.pointer none)],eqk:=none }
theorem tf31:TyFact Tryz.prog 31 ti31:=by
 refine ⟨⟨Tryz.t31,.pointer none,by kernel_rfl,rfl,rfl,rfl,rfl,rfl,by simp [Value.cells,Value.oneCell']⟩,⟨_,Tryz.underlying31,⟨_,rfl⟩⟩,fun fs h=>?_,fun ks h=>?_,fun q h=>?_⟩
 ·cases h
 ·cases h
 ·cases h
def ti34:TI:={ cells:=1,bytes:=24,td:=.slice 25,zero:=[.nil],eqk:=none }
theorem tf34:TyFact Tryz.prog 34 ti34:=by
 refine ⟨⟨Tryz.t34,.slice none 0 0,by kernel_rfl,rfl,rfl,rfl,rfl,rfl,by simp [Value.cells,Value.oneCell']⟩,⟨_,Tryz.underlying34,rfl⟩,fun fs h=>?_,fun ks h=>?_,fun q h=>?_⟩
 ·cases h
 ·cases h
 ·cases h
def Wy:TI:={ cells:=1,bytes:=24,td:=.slice 28,zero:=[.nil],eqk:=none }
theorem tf37:TyFact Tryz.prog 37 Wy:=by
 refine ⟨⟨Tryz.t37,.slice none 0 0,by kernel_rfl,rfl,rfl,rfl,rfl,rfl,by simp [Value.cells,Value.oneCell']⟩,⟨_,Tryz.underlying37,rfl⟩,fun fs h=>?_,fun ks h=>?_,fun q h=>?_⟩
 ·cases h
 ·cases h
 ·cases h
def Xx:TI:={ cells:=1,bytes:=24,td:=.slice 44,zero:=[.nil],eqk:=none }
theorem tf40:TyFact Tryz.prog 40 Xx:=by
 refine ⟨⟨Tryz.t40,.slice none 0 0,by kernel_rfl,rfl,rfl,rfl,rfl,rfl,by simp [Value.cells,Value.oneCell']⟩,⟨_,Tryz.underlying40,rfl⟩,fun fs h=>?_,fun ks h=>?_,fun q h=>?_⟩
 ·cases h
 ·cases h
 ·cases h
def vV:TI:={ cells:=1,bytes:=8,td:=.int .i64,zero:=[.v (.int .i64 0)],eqk:=none }
theorem tf41:TyFact Tryz.prog 41 vV:=by
 refine ⟨⟨Tryz.t41,.int .i64 0,by kernel_rfl,rfl,rfl,rfl,rfl,rfl,by simp [Value.cells,Value.oneCell']⟩,⟨_,Tryz.underlying41,rfl⟩,fun fs h=>?_,fun ks h=>?_,fun q h=>?_⟩
 ·cases h
 ·cases h
 ·cases h
def kU:TI:={ cells:=1,bytes:=24,td:=.slice 62,zero:=[.nil],eqk:=none }
theorem tf44:TyFact Tryz.prog 44 kU:=by
 refine ⟨⟨Tryz.t44,.slice none 0 0,by kernel_rfl,rfl,rfl,rfl,rfl,rfl,by simp [Value.cells,Value.oneCell']⟩,⟨_,Tryz.underlying44,rfl⟩,fun fs h=>?_,fun ks h=>?_,fun q h=>?_⟩
 ·cases h
 ·cases h
 ·cases h
def RL:TI:={ cells:=1,bytes:=24,td:=.slice 83,zero:=[.nil],eqk:=none }
theorem tf51:TyFact Tryz.prog 51 RL:=by
 refine ⟨⟨Tryz.t51,.slice none 0 0,by kernel_rfl,rfl,rfl,rfl,rfl,rfl,by simp [Value.cells,Value.oneCell']⟩,⟨_,Tryz.underlying51,rfl⟩,fun fs h=>?_,fun ks h=>?_,fun q h=>?_⟩
 ·cases h
 ·cases h
 ·cases h
theorem Qcq (d:Nat) (w:World) (a0 b0:Int) (a1 b1:Int):(Op.equalIn (d+2) 62 (.agg #[.int .i64 a0,.int .i64 a1]) (.agg #[.int .i64 b0,.int .i64 b1])).run Tryz.prog w=.ok (yY [.int .i64 a0,.int .i64 a1] [.int .i64 b0,.int .i64 b1]) w:=by
 have h1:Tryz.prog.underlying 62=some (.struct (Tryz.prog.fieldsOf 62)):=by kernel_rfl
 have h2 : (Tryz.prog.fieldsOf 62).toList = [{ name := "Cabin", type := 3, offset := 0, embedded := false, tag := "", pkgPath := "", byteOffset := 0 }, { name := "Bed", type := 3, offset := 1, embedded := false, tag := "", pkgPath := "", byteOffset := 8 }] := by kernel_rfl
 rw [run_equalIn_agg w (d+1) 62 _ _ h1 (by kernel_rfl),h2]
 refine Eq.trans (b:=Result.ok (a0 == b0 && (a1 == b1 && true)) w) ?_ (congrArg (fun r=>Result.ok r w) (by simp [yY,veq,Bool.and_assoc]))
 exact wZ (by simp) (zh (Tryz.isAgg3) rfl) (zh (Tryz.isAgg3) rfl) (run_equalIn_int w (d+0) 3 _ _ _ _ Tryz.underlying3) (wZ (by simp) (zh (Tryz.isAgg3) rfl) (zh (Tryz.isAgg3) rfl) (run_equalIn_int w (d+0) 3 _ _ _ _ Tryz.underlying3) (yN))
def jQ:TI:={ cells:=2,bytes:=16,td:=.struct [(0,1,3),(1,1,3)],zero:=[.v (.int .i64 0),.v (.int .i64 0)],eqk:=some [some .i64,some .i64] }
theorem tf62:TyFact Tryz.prog 62 jQ:=by
 refine ⟨⟨Tryz.t62,.agg #[.int .i64 0,.int .i64 0],by kernel_rfl,rfl,rfl,rfl,rfl,rfl,by simp [Value.cells,Value.oneCell']⟩,⟨_,Tryz.underlying62,⟨_,rfl,rfl⟩⟩,fun fs h=>?_,fun ks h=>?_,fun q h=>?_⟩
 ·cases h
  simp only [List.mem_cons,List.not_mem_nil,or_false,forall_eq_or_imp,forall_eq]
  exact ⟨⟨Tryz.t3,by kernel_rfl,rfl⟩,⟨Tryz.t3,by kernel_rfl,rfl⟩⟩
 ·cases h
  refine ⟨by kernel_rfl,fun w xs ys hx hy=>?_⟩
  cases xs with
  |nil=>simp [qE] at hx
  |cons x0 xs1 =>
  cases xs1 with
  |nil=>simp [qE] at hx
  |cons x1 xs2 =>
  cases xs2 with
  |cons _ _=>simp [qE] at hx
  |nil =>
  cases ys with
  |nil=>simp [qE] at hy
  |cons y0 ys1 =>
  cases ys1 with
  |nil=>simp [qE] at hy
  |cons y1 ys2 =>
  cases ys2 with
  |cons _ _=>simp [qE] at hy
  |nil =>
  simp only [qE] at hx hy
  obtain ⟨⟨nx0,rfl⟩,⟨nx1,rfl⟩,_⟩:=hx
  obtain ⟨⟨ny0,rfl⟩,⟨ny1,rfl⟩,_⟩:=hy
  exact Qcq 9998 w nx0 ny0 nx1 ny1
 ·cases h
theorem eqd64 (d:Nat) (w:World) (a0 b0:Int) (a1 b1:Int) (a2 b2:Int) (a3 b3:Int) (a4 b4:Int) (a5 b5:Int) (a6 b6:Bool):(Op.equalIn (d+3) 64 (.agg #[.int .i64 a0,.int .i64 a1,.int .i64 a2,.int .i64 a3,.int .i64 a4,.int .i64 a5,.bool a6]) (.agg #[.int .i64 b0,.int .i64 b1,.int .i64 b2,.int .i64 b3,.int .i64 b4,.int .i64 b5,.bool b6])).run Tryz.prog w=.ok (yY [.int .i64 a0,.int .i64 a1,.int .i64 a2,.int .i64 a3,.int .i64 a4,.int .i64 a5,.bool a6] [.int .i64 b0,.int .i64 b1,.int .i64 b2,.int .i64 b3,.int .i64 b4,.int .i64 b5,.bool b6]) w:=by
 have h1:Tryz.prog.underlying 64=some (.struct (Tryz.prog.fieldsOf 64)):=by kernel_rfl
 have h2 : (Tryz.prog.fieldsOf 64).toList = [{ name := "Party", type := 3, offset := 0, embedded := false, tag := "", pkgPath := "", byteOffset := 0 }, { name := "Sex", type := 3, offset := 1, embedded := false, tag := "", pkgPath := "", byteOffset := 8 }, { name := "Bunk", type := 62, offset := 2, embedded := true, tag := "", pkgPath := "", byteOffset := 16 }, { name := "From", type := 3, offset := 4, embedded := false, tag := "", pkgPath := "", byteOffset := 32 }, { name := "To", type := 3, offset := 5, embedded := false, tag := "", pkgPath := "", byteOffset := 40 }, { name := "Dog", type := 4, offset := 6, embedded := false, tag := "", pkgPath := "", byteOffset := 48 }] := by kernel_rfl
 rw [run_equalIn_agg w (d+2) 64 _ _ h1 (by kernel_rfl),h2]
 refine Eq.trans (b:=Result.ok (a0 == b0 && (a1 == b1 && (yY [.int .i64 a2,.int .i64 a3] [.int .i64 b2,.int .i64 b3] && (a4 == b4 && (a5 == b5 && (a6 == b6 && true)))))) w) ?_ (congrArg (fun r=>Result.ok r w) (by simp [yY,veq,Bool.and_assoc]))
 exact wZ (by simp) (zh (Tryz.isAgg3) rfl) (zh (Tryz.isAgg3) rfl) (run_equalIn_int w (d+1) 3 _ _ _ _ Tryz.underlying3) (wZ (by simp) (zh (Tryz.isAgg3) rfl) (zh (Tryz.isAgg3) rfl) (run_equalIn_int w (d+1) 3 _ _ _ _ Tryz.underlying3) (wZ (by simp) (xQ (Tryz.isAgg62) (Tryz.sizeOf62) rfl) (xQ (Tryz.isAgg62) (Tryz.sizeOf62) rfl) (Qcq (d+0) w a2 b2 a3 b3) (wZ (by simp) (zh (Tryz.isAgg3) rfl) (zh (Tryz.isAgg3) rfl) (run_equalIn_int w (d+1) 3 _ _ _ _ Tryz.underlying3) (wZ (by simp) (zh (Tryz.isAgg3) rfl) (zh (Tryz.isAgg3) rfl) (run_equalIn_int w (d+1) 3 _ _ _ _ Tryz.underlying3) (wZ (by simp) (zh (Tryz.isAgg4) rfl) (zh (Tryz.isAgg4) rfl) (run_equalIn_bool' w (d+1) 4 _ _ Tryz.underlying4) (yN))))))
def wI:TI:={ cells:=7,bytes:=56,td:=.struct [(0,1,3),(1,1,3),(2,2,62),(4,1,3),(5,1,3),(6,1,4)],zero:=[.v (.int .i64 0),.v (.int .i64 0),.v (.int .i64 0),.v (.int .i64 0),.v (.int .i64 0),.v (.int .i64 0),.v (.bool false)],eqk:=some [some .i64,some .i64,some .i64,some .i64,some .i64,some .i64,none] }
theorem tf64:TyFact Tryz.prog 64 wI:=by
 refine ⟨⟨Tryz.t64,.agg #[.int .i64 0,.int .i64 0,.int .i64 0,.int .i64 0,.int .i64 0,.int .i64 0,.bool false],by kernel_rfl,rfl,rfl,rfl,rfl,rfl,by simp [Value.cells,Value.oneCell']⟩,⟨_,Tryz.underlying64,⟨_,rfl,rfl⟩⟩,fun fs h=>?_,fun ks h=>?_,fun q h=>?_⟩
 ·cases h
  simp only [List.mem_cons,List.not_mem_nil,or_false,forall_eq_or_imp,forall_eq]
  exact ⟨⟨Tryz.t3,by kernel_rfl,rfl⟩,⟨Tryz.t3,by kernel_rfl,rfl⟩,⟨Tryz.t62,by kernel_rfl,rfl⟩,⟨Tryz.t3,by kernel_rfl,rfl⟩,⟨Tryz.t3,by kernel_rfl,rfl⟩,⟨Tryz.t4,by kernel_rfl,rfl⟩⟩
 ·cases h
  refine ⟨by kernel_rfl,fun w xs ys hx hy=>?_⟩
  cases xs with
  |nil=>simp [qE] at hx
  |cons x0 xs1 =>
  cases xs1 with
  |nil=>simp [qE] at hx
  |cons x1 xs2 =>
  cases xs2 with
  |nil=>simp [qE] at hx
  |cons x2 xs3 =>
  cases xs3 with
  |nil=>simp [qE] at hx
  |cons x3 xs4 =>
  cases xs4 with
  |nil=>simp [qE] at hx
  |cons x4 xs5 =>
  cases xs5 with
  |nil=>simp [qE] at hx
  |cons x5 xs6 =>
  cases xs6 with
  |nil=>simp [qE] at hx
  |cons x6 xs7 =>
  cases xs7 with
  |cons _ _=>simp [qE] at hx
  |nil =>
  cases ys with
  |nil=>simp [qE] at hy
  |cons y0 ys1 =>
  cases ys1 with
  |nil=>simp [qE] at hy
  |cons y1 ys2 =>
  cases ys2 with
  |nil=>simp [qE] at hy
  |cons y2 ys3 =>
  cases ys3 with
  |nil=>simp [qE] at hy
  |cons y3 ys4 =>
  cases ys4 with
  |nil=>simp [qE] at hy
  |cons y4 ys5 =>
  cases ys5 with
  |nil=>simp [qE] at hy
  |cons y5 ys6 =>
  cases ys6 with
  |nil=>simp [qE] at hy
  |cons y6 ys7 =>
  cases ys7 with
  |cons _ _=>simp [qE] at hy
  |nil =>
  simp only [qE] at hx hy
  obtain ⟨⟨nx0,rfl⟩,⟨nx1,rfl⟩,⟨nx2,rfl⟩,⟨nx3,rfl⟩,⟨nx4,rfl⟩,⟨nx5,rfl⟩,⟨nx6,rfl⟩,_⟩:=hx
  obtain ⟨⟨ny0,rfl⟩,⟨ny1,rfl⟩,⟨ny2,rfl⟩,⟨ny3,rfl⟩,⟨ny4,rfl⟩,⟨ny5,rfl⟩,⟨ny6,rfl⟩,_⟩:=hy
  exact eqd64 9997 w nx0 ny0 nx1 ny1 nx2 ny2 nx3 ny3 nx4 ny4 nx5 ny5 nx6 ny6
 ·cases h
def ti72:TI:={ cells:=1,bytes:=24,td:=.slice 37,zero:=[.nil],eqk:=none }
theorem tf72:TyFact Tryz.prog 72 ti72:=by
 refine ⟨⟨Tryz.t72,.slice none 0 0,by kernel_rfl,rfl,rfl,rfl,rfl,rfl,by simp [Value.cells,Value.oneCell']⟩,⟨_,Tryz.underlying72,rfl⟩,fun fs h=>?_,fun ks h=>?_,fun q h=>?_⟩
 ·cases h
 ·cases h
 ·cases h
theorem eqd83 (d:Nat) (w:World) (a0 b0:Int) (a1 b1:Int) (a2 b2:Int):(Op.equalIn (d+3) 83 (.agg #[.int .i64 a0,.int .i64 a1,.int .i64 a2]) (.agg #[.int .i64 b0,.int .i64 b1,.int .i64 b2])).run Tryz.prog w=.ok (yY [.int .i64 a0,.int .i64 a1,.int .i64 a2] [.int .i64 b0,.int .i64 b1,.int .i64 b2]) w:=by
 have h1:Tryz.prog.underlying 83=some (.struct (Tryz.prog.fieldsOf 83)):=by kernel_rfl
 have h2 : (Tryz.prog.fieldsOf 83).toList = [{ name := "Ticket", type := 3, offset := 0, embedded := false, tag := "", pkgPath := "", byteOffset := 0 }, { name := "Bunk", type := 62, offset := 1, embedded := true, tag := "", pkgPath := "", byteOffset := 8 }] := by kernel_rfl
 rw [run_equalIn_agg w (d+2) 83 _ _ h1 (by kernel_rfl),h2]
 refine Eq.trans (b:=Result.ok (a0 == b0 && (yY [.int .i64 a1,.int .i64 a2] [.int .i64 b1,.int .i64 b2] && true)) w) ?_ (congrArg (fun r=>Result.ok r w) (by simp [yY,veq,Bool.and_assoc]))
 exact wZ (by simp) (zh (Tryz.isAgg3) rfl) (zh (Tryz.isAgg3) rfl) (run_equalIn_int w (d+1) 3 _ _ _ _ Tryz.underlying3) (wZ (by simp) (xQ (Tryz.isAgg62) (Tryz.sizeOf62) rfl) (xQ (Tryz.isAgg62) (Tryz.sizeOf62) rfl) (Qcq (d+0) w a1 b1 a2 b2) (yN))
def K7:TI:={ cells:=3,bytes:=24,td:=.struct [(0,1,3),(1,2,62)],zero:=[.v (.int .i64 0),.v (.int .i64 0),.v (.int .i64 0)],eqk:=some [some .i64,some .i64,some .i64] }
theorem tf83:TyFact Tryz.prog 83 K7:=by
 refine ⟨⟨Tryz.t83,.agg #[.int .i64 0,.int .i64 0,.int .i64 0],by kernel_rfl,rfl,rfl,rfl,rfl,rfl,by simp [Value.cells,Value.oneCell']⟩,⟨_,Tryz.underlying83,⟨_,rfl,rfl⟩⟩,fun fs h=>?_,fun ks h=>?_,fun q h=>?_⟩
 ·cases h
  simp only [List.mem_cons,List.not_mem_nil,or_false,forall_eq_or_imp,forall_eq]
  exact ⟨⟨Tryz.t3,by kernel_rfl,rfl⟩,⟨Tryz.t62,by kernel_rfl,rfl⟩⟩
 ·cases h
  refine ⟨by kernel_rfl,fun w xs ys hx hy=>?_⟩
  cases xs with
  |nil=>simp [qE] at hx
  |cons x0 xs1 =>
  cases xs1 with
  |nil=>simp [qE] at hx
  |cons x1 xs2 =>
  cases xs2 with
  |nil=>simp [qE] at hx
  |cons x2 xs3 =>
  cases xs3 with
  |cons _ _=>simp [qE] at hx
  |nil =>
  cases ys with
  |nil=>simp [qE] at hy
  |cons y0 ys1 =>
  cases ys1 with
  |nil=>simp [qE] at hy
  |cons y1 ys2 =>
  cases ys2 with
  |nil=>simp [qE] at hy
  |cons y2 ys3 =>
  cases ys3 with
  |cons _ _=>simp [qE] at hy
  |nil =>
  simp only [qE] at hx hy
  obtain ⟨⟨nx0,rfl⟩,⟨nx1,rfl⟩,⟨nx2,rfl⟩,_⟩:=hx
  obtain ⟨⟨ny0,rfl⟩,⟨ny1,rfl⟩,⟨ny2,rfl⟩,_⟩:=hy
  exact eqd83 9997 w nx0 ny0 nx1 ny1 nx2 ny2
 ·cases h
def Qes:TI:={ cells:=1,bytes:=8,td:=.int .u64,zero:=[.v (.int .u64 0)],eqk:=none }
theorem tf84:TyFact Tryz.prog 84 Qes:=by
 refine ⟨⟨Tryz.t84,.int .u64 0,by kernel_rfl,rfl,rfl,rfl,rfl,rfl,by simp [Value.cells,Value.oneCell']⟩,⟨_,Tryz.underlying84,rfl⟩,fun fs h=>?_,fun ks h=>?_,fun q h=>?_⟩
 ·cases h
 ·cases h
 ·cases h
def Qif:TI:={ cells:=1,bytes:=8,td:=.struct [(0,1,84)],zero:=[.v (.int .u64 0)],eqk:=none }
theorem tf86:TyFact Tryz.prog 86 Qif:=by
 refine ⟨⟨Tryz.t86,.agg #[.int .u64 0],by kernel_rfl,rfl,rfl,rfl,rfl,rfl,by simp [Value.cells,Value.oneCell']⟩,⟨_,Tryz.underlying86,⟨_,rfl,rfl⟩⟩,fun fs h=>?_,fun ks h=>?_,fun q h=>?_⟩
 ·cases h
  simp only [List.mem_cons,List.not_mem_nil,or_false,forall_eq_or_imp,forall_eq]
  exact ⟨Tryz.t84,by kernel_rfl,rfl⟩
 ·cases h
 ·cases h
theorem eqd89 (d:Nat) (w:World) (a0 b0:Int) (a1 b1:Bool):(Op.equalIn (d+2) 89 (.agg #[.int .i64 a0,.bool a1]) (.agg #[.int .i64 b0,.bool b1])).run Tryz.prog w=.ok (yY [.int .i64 a0,.bool a1] [.int .i64 b0,.bool b1]) w:=by
 have h1:Tryz.prog.underlying 89=some (.struct (Tryz.prog.fieldsOf 89)):=by kernel_rfl
 have h2 : (Tryz.prog.fieldsOf 89).toList = [{ name := "Beds", type := 3, offset := 0, embedded := false, tag := "", pkgPath := "", byteOffset := 0 }, { name := "Door", type := 4, offset := 1, embedded := false, tag := "", pkgPath := "", byteOffset := 8 }] := by kernel_rfl
 rw [run_equalIn_agg w (d+1) 89 _ _ h1 (by kernel_rfl),h2]
 refine Eq.trans (b:=Result.ok (a0 == b0 && (a1 == b1 && true)) w) ?_ (congrArg (fun r=>Result.ok r w) (by simp [yY,veq,Bool.and_assoc]))
 exact wZ (by simp) (zh (Tryz.isAgg3) rfl) (zh (Tryz.isAgg3) rfl) (run_equalIn_int w (d+0) 3 _ _ _ _ Tryz.underlying3) (wZ (by simp) (zh (Tryz.isAgg4) rfl) (zh (Tryz.isAgg4) rfl) (run_equalIn_bool' w (d+0) 4 _ _ Tryz.underlying4) (yN))
def Qd:TI:={ cells:=2,bytes:=16,td:=.struct [(0,1,3),(1,1,4)],zero:=[.v (.int .i64 0),.v (.bool false)],eqk:=some [some .i64,none] }
theorem tf89:TyFact Tryz.prog 89 Qd:=by
 refine ⟨⟨Tryz.t89,.agg #[.int .i64 0,.bool false],by kernel_rfl,rfl,rfl,rfl,rfl,rfl,by simp [Value.cells,Value.oneCell']⟩,⟨_,Tryz.underlying89,⟨_,rfl,rfl⟩⟩,fun fs h=>?_,fun ks h=>?_,fun q h=>?_⟩
 ·cases h
  simp only [List.mem_cons,List.not_mem_nil,or_false,forall_eq_or_imp,forall_eq]
  exact ⟨⟨Tryz.t3,by kernel_rfl,rfl⟩,⟨Tryz.t4,by kernel_rfl,rfl⟩⟩
 ·cases h
  refine ⟨by kernel_rfl,fun w xs ys hx hy=>?_⟩
  cases xs with
  |nil=>simp [qE] at hx
  |cons x0 xs1 =>
  cases xs1 with
  |nil=>simp [qE] at hx
  |cons x1 xs2 =>
  cases xs2 with
  |cons _ _=>simp [qE] at hx
  |nil =>
  cases ys with
  |nil=>simp [qE] at hy
  |cons y0 ys1 =>
  cases ys1 with
  |nil=>simp [qE] at hy
  |cons y1 ys2 =>
  cases ys2 with
  |cons _ _=>simp [qE] at hy
  |nil =>
  simp only [qE] at hx hy
  obtain ⟨⟨nx0,rfl⟩,⟨nx1,rfl⟩,_⟩:=hx
  obtain ⟨⟨ny0,rfl⟩,⟨ny1,rfl⟩,_⟩:=hy
  exact eqd89 9998 w nx0 ny0 nx1 ny1
 ·cases h
def kV:TI:={ cells:=1,bytes:=8,td:=.ptr,zero:=[.v (.pointer none)],eqk:=none }
theorem tf93:TyFact Tryz.prog 93 kV:=by
 refine ⟨⟨Tryz.t93,.pointer none,by kernel_rfl,rfl,rfl,rfl,rfl,rfl,by simp [Value.cells,Value.oneCell']⟩,⟨_,Tryz.underlying93,⟨_,rfl⟩⟩,fun fs h=>?_,fun ks h=>?_,fun q h=>?_⟩
 ·cases h
 ·cases h
 ·cases h
def ti98:TI:={ cells:=1,bytes:=8,td:=.func,zero:=[.v (.nilFunc)],eqk:=none }
theorem tf98:TyFact Tryz.prog 98 ti98:=by
 refine ⟨⟨Tryz.t98,.nilFunc,by kernel_rfl,rfl,rfl,rfl,rfl,rfl,by simp [Value.cells,Value.oneCell']⟩,⟨_,Tryz.underlying98,⟨_,_,_,rfl⟩⟩,fun fs h=>?_,fun ks h=>?_,fun q h=>?_⟩
 ·cases h
 ·cases h
 ·cases h
def QcG:TI:={ cells:=1,bytes:=8,td:=.func,zero:=[.v (.nilFunc)],eqk:=none }
theorem tf104:TyFact Tryz.prog 104 QcG:=by
 refine ⟨⟨Tryz.t104,.nilFunc,by kernel_rfl,rfl,rfl,rfl,rfl,rfl,by simp [Value.cells,Value.oneCell']⟩,⟨_,Tryz.underlying104,⟨_,_,_,rfl⟩⟩,fun fs h=>?_,fun ks h=>?_,fun q h=>?_⟩
 ·cases h
 ·cases h
 ·cases h
def Ql:TI:={ cells:=3,bytes:=56,td:=.struct [(0,3,25)],zero:=[.nil,.v (.int .i64 0),.nil],eqk:=none }
theorem tf107:TyFact Tryz.prog 107 Ql:=by
 refine ⟨⟨Tryz.t107,.agg #[.slice none 0 0,.int .i64 0,.slice none 0 0],by kernel_rfl,rfl,rfl,rfl,rfl,rfl,by simp [Value.cells,Value.oneCell']⟩,⟨_,Tryz.underlying107,⟨_,rfl,rfl⟩⟩,fun fs h=>?_,fun ks h=>?_,fun q h=>?_⟩
 ·cases h
  simp only [List.mem_cons,List.not_mem_nil,or_false,forall_eq_or_imp,forall_eq]
  exact ⟨Tryz.t25,by kernel_rfl,rfl⟩
 ·cases h
 ·cases h
def QcL:TI:={ cells:=1,bytes:=8,td:=.func,zero:=[.v (.nilFunc)],eqk:=none }
theorem tf108:TyFact Tryz.prog 108 QcL:=by
 refine ⟨⟨Tryz.t108,.nilFunc,by kernel_rfl,rfl,rfl,rfl,rfl,rfl,by simp [Value.cells,Value.oneCell']⟩,⟨_,Tryz.underlying108,⟨_,_,_,rfl⟩⟩,fun fs h=>?_,fun ks h=>?_,fun q h=>?_⟩
 ·cases h
 ·cases h
 ·cases h
def U9:TI:={ cells:=2,bytes:=32,td:=.struct [(0,1,44),(1,1,108)],zero:=[.nil,.v (.nilFunc)],eqk:=none }
theorem tf110:TyFact Tryz.prog 110 U9:=by
 refine ⟨⟨Tryz.t110,.agg #[.slice none 0 0,.nilFunc],by kernel_rfl,rfl,rfl,rfl,rfl,rfl,by simp [Value.cells,Value.oneCell']⟩,⟨_,Tryz.underlying110,⟨_,rfl,rfl⟩⟩,fun fs h=>?_,fun ks h=>?_,fun q h=>?_⟩
 ·cases h
  simp only [List.mem_cons,List.not_mem_nil,or_false,forall_eq_or_imp,forall_eq]
  exact ⟨⟨Tryz.t44,by kernel_rfl,rfl⟩,⟨Tryz.t108,by kernel_rfl,rfl⟩⟩
 ·cases h
 ·cases h
def QaA:TI:={ cells:=1,bytes:=8,td:=.func,zero:=[.v (.nilFunc)],eqk:=none }
theorem tf120:TyFact Tryz.prog 120 QaA:=by
 refine ⟨⟨Tryz.t120,.nilFunc,by kernel_rfl,rfl,rfl,rfl,rfl,rfl,by simp [Value.cells,Value.oneCell']⟩,⟨_,Tryz.underlying120,⟨_,_,_,rfl⟩⟩,fun fs h=>?_,fun ks h=>?_,fun q h=>?_⟩
 ·cases h
 ·cases h
 ·cases h
def Lh:TI:={ cells:=1,bytes:=24,td:=.slice 26,zero:=[.nil],eqk:=none }
theorem tf121:TyFact Tryz.prog 121 Lh:=by
 refine ⟨⟨Tryz.t121,.slice none 0 0,by kernel_rfl,rfl,rfl,rfl,rfl,rfl,by simp [Value.cells,Value.oneCell']⟩,⟨_,Tryz.underlying121,rfl⟩,fun fs h=>?_,fun ks h=>?_,fun q h=>?_⟩
 ·cases h
 ·cases h
 ·cases h
theorem QlQ (d:Nat) (w:World) (a0 b0:Int) (a1 b1:Int) (a2 b2:Int):(Op.equalIn (d+3) 129 (.agg #[.int .i64 a0,.int .i64 a1,.int .i64 a2]) (.agg #[.int .i64 b0,.int .i64 b1,.int .i64 b2])).run Tryz.prog w=.ok (yY [.int .i64 a0,.int .i64 a1,.int .i64 a2] [.int .i64 b0,.int .i64 b1,.int .i64 b2]) w:=by
 have h1:Tryz.prog.underlying 129=some (.struct (Tryz.prog.fieldsOf 129)):=by kernel_rfl
 have h2 : (Tryz.prog.fieldsOf 129).toList = [{ name := "at", type := 3, offset := 0, embedded := false, tag := "", pkgPath := "couchette/berth", byteOffset := 0 }, { name := "bunk", type := 62, offset := 1, embedded := false, tag := "", pkgPath := "couchette/berth", byteOffset := 8 }] := by kernel_rfl
 rw [run_equalIn_agg w (d+2) 129 _ _ h1 (by kernel_rfl),h2]
 refine Eq.trans (b:=Result.ok (a0 == b0 && (yY [.int .i64 a1,.int .i64 a2] [.int .i64 b1,.int .i64 b2] && true)) w) ?_ (congrArg (fun r=>Result.ok r w) (by simp [yY,veq,Bool.and_assoc]))
 exact wZ (by simp) (zh (Tryz.isAgg3) rfl) (zh (Tryz.isAgg3) rfl) (run_equalIn_int w (d+1) 3 _ _ _ _ Tryz.underlying3) (wZ (by simp) (xQ (Tryz.isAgg62) (Tryz.sizeOf62) rfl) (xQ (Tryz.isAgg62) (Tryz.sizeOf62) rfl) (Qcq (d+0) w a1 b1 a2 b2) (yN))
theorem QlY (w:World) (em:Bool) (a0:Int) (a1:Int) (a2:Int):(Instr.checkKey em 10000 129 (.agg #[.int .i64 a0,.int .i64 a1,.int .i64 a2])).run Tryz.prog w=.ok () w:=by kernel_rfl
def LK:TI:={ cells:=1,bytes:=8,td:=.map 129 3,zero:=[.v (.map none)],eqk:=none,key:=some { kd:=.agg [some .i64,some .i64,some .i64],z:=.v (.int .i64 0),agg:=false } }
theorem tf127:TyFact Tryz.prog 127 LK:=by
 refine ⟨⟨Tryz.t127,.map none,by kernel_rfl,rfl,rfl,rfl,rfl,rfl,by simp [Value.cells,Value.oneCell']⟩,⟨_,Tryz.underlying127,rfl⟩,fun fs h=>?_,fun ks h=>?_,fun q h=>?_⟩
 ·cases h
 ·cases h
 ·cases h
  refine ⟨129,3,rfl,LF Tryz.underlying129 (fun w xs ys hx hy=>?_) (fun w em xs hx=>?_),fun w=>⟨.int .i64 0,by simp [zeroValue,typeInfo,show Tryz.prog.info? 3=some Tryz.t3 by kernel_rfl,Tryz.t3],fun w' ok ρ y=>?_⟩⟩
  ·skip
   cases xs with
   |nil=>simp [qE] at hx
   |cons x0 xs1 =>
   cases xs1 with
   |nil=>simp [qE] at hx
   |cons x1 xs2 =>
   cases xs2 with
   |nil=>simp [qE] at hx
   |cons x2 xs3 =>
   cases xs3 with
   |cons _ _=>simp [qE] at hx
   |nil =>
   cases ys with
   |nil=>simp [qE] at hy
   |cons y0 ys1 =>
   cases ys1 with
   |nil=>simp [qE] at hy
   |cons y1 ys2 =>
   cases ys2 with
   |nil=>simp [qE] at hy
   |cons y2 ys3 =>
   cases ys3 with
   |cons _ _=>simp [qE] at hy
   |nil =>
   simp only [qE] at hx
   obtain ⟨⟨nx0,rfl⟩,⟨nx1,rfl⟩,⟨nx2,rfl⟩,_⟩:=hx
   simp only [qE] at hy
   obtain ⟨⟨ny0,rfl⟩,⟨ny1,rfl⟩,⟨ny2,rfl⟩,_⟩:=hy
   exact QlQ 9997 w nx0 ny0 nx1 ny1 nx2 ny2
  ·skip
   cases xs with
   |nil=>simp [qE] at hx
   |cons x0 xs1 =>
   cases xs1 with
   |nil=>simp [qE] at hx
   |cons x1 xs2 =>
   cases xs2 with
   |nil=>simp [qE] at hx
   |cons x2 xs3 =>
   cases xs3 with
   |cons _ _=>simp [qE] at hx
   |nil =>
   simp only [qE] at hx
   obtain ⟨⟨nx0,rfl⟩,⟨nx1,rfl⟩,⟨nx2,rfl⟩,_⟩:=hx
   exact QlY w em nx0 nx1 nx2
  ·exact .v rfl
def LZ:TI:={ cells:=3,bytes:=24,td:=.struct [(0,1,3),(1,2,62)],zero:=[.v (.int .i64 0),.v (.int .i64 0),.v (.int .i64 0)],eqk:=none }
theorem tf129:TyFact Tryz.prog 129 LZ:=by
 refine ⟨⟨Tryz.t129,.agg #[.int .i64 0,.int .i64 0,.int .i64 0],by kernel_rfl,rfl,rfl,rfl,rfl,rfl,by simp [Value.cells,Value.oneCell']⟩,⟨_,Tryz.underlying129,⟨_,rfl,rfl⟩⟩,fun fs h=>?_,fun ks h=>?_,fun q h=>?_⟩
 ·cases h
  simp only [List.mem_cons,List.not_mem_nil,or_false,forall_eq_or_imp,forall_eq]
  exact ⟨⟨Tryz.t3,by kernel_rfl,rfl⟩,⟨Tryz.t62,by kernel_rfl,rfl⟩⟩
 ·cases h
 ·cases h
def Qk4:TI:={ cells:=1,bytes:=8,td:=.func,zero:=[.v (.nilFunc)],eqk:=none }
theorem tf142:TyFact Tryz.prog 142 Qk4:=by
 refine ⟨⟨Tryz.t142,.nilFunc,by kernel_rfl,rfl,rfl,rfl,rfl,rfl,by simp [Value.cells,Value.oneCell']⟩,⟨_,Tryz.underlying142,⟨_,_,_,rfl⟩⟩,fun fs h=>?_,fun ks h=>?_,fun q h=>?_⟩
 ·cases h
 ·cases h
 ·cases h
def QkT:TI:={ cells:=1,bytes:=8,td:=.func,zero:=[.v (.nilFunc)],eqk:=none }
theorem tf149:TyFact Tryz.prog 149 QkT:=by
 refine ⟨⟨Tryz.t149,.nilFunc,by kernel_rfl,rfl,rfl,rfl,rfl,rfl,by simp [Value.cells,Value.oneCell']⟩,⟨_,Tryz.underlying149,⟨_,_,_,rfl⟩⟩,fun fs h=>?_,fun ks h=>?_,fun q h=>?_⟩
 ·cases h
 ·cases h
 ·cases h
theorem Qlz (d:Nat) (w:World) (a0 b0:Int):(Op.equalIn (d+2) 153 (.agg #[.int .u64 a0]) (.agg #[.int .u64 b0])).run Tryz.prog w=.ok (yY [.int .u64 a0] [.int .u64 b0]) w:=by
 have h1:Tryz.prog.underlying 153=some (.struct (Tryz.prog.fieldsOf 153)):=by kernel_rfl
 have h2 : (Tryz.prog.fieldsOf 153).toList = [{ name := "set", type := 151, offset := 0, embedded := false, tag := "", pkgPath := "couchette/berth", byteOffset := 0 }] := by kernel_rfl
 rw [run_equalIn_agg w (d+1) 153 _ _ h1 (by kernel_rfl),h2]
 refine Eq.trans (b:=Result.ok (a0 == b0 && true) w) ?_ (congrArg (fun r=>Result.ok r w) (by simp [yY,veq,Bool.and_assoc]))
 exact wZ (by simp) (zh (Tryz.isAgg151) rfl) (zh (Tryz.isAgg151) rfl) (run_equalIn_int w (d+0) 151 _ _ _ _ Tryz.underlying151) (yN)
theorem Qlw (w:World) (em:Bool) (a0:Int):(Instr.checkKey em 10000 153 (.agg #[.int .u64 a0])).run Tryz.prog w=.ok () w:=by kernel_rfl
def KO:TI:={ cells:=1,bytes:=8,td:=.map 153 4,zero:=[.v (.map none)],eqk:=none,key:=some { kd:=.agg [some .u64],z:=.v (.bool false),agg:=false } }
theorem tf150:TyFact Tryz.prog 150 KO:=by
 refine ⟨⟨Tryz.t150,.map none,by kernel_rfl,rfl,rfl,rfl,rfl,rfl,by simp [Value.cells,Value.oneCell']⟩,⟨_,Tryz.underlying150,rfl⟩,fun fs h=>?_,fun ks h=>?_,fun q h=>?_⟩
 ·cases h
 ·cases h
 ·cases h
  refine ⟨153,4,rfl,LF Tryz.underlying153 (fun w xs ys hx hy=>?_) (fun w em xs hx=>?_),fun w=>⟨.bool false,by simp [zeroValue,typeInfo,show Tryz.prog.info? 4=some Tryz.t4 by kernel_rfl,Tryz.t4],fun w' ok ρ y=>?_⟩⟩
  ·skip
   cases xs with
   |nil=>simp [qE] at hx
   |cons x0 xs1 =>
   cases xs1 with
   |cons _ _=>simp [qE] at hx
   |nil =>
   cases ys with
   |nil=>simp [qE] at hy
   |cons y0 ys1 =>
   cases ys1 with
   |cons _ _=>simp [qE] at hy
   |nil =>
   simp only [qE] at hx
   obtain ⟨⟨nx0,rfl⟩,_⟩:=hx
   simp only [qE] at hy
   obtain ⟨⟨ny0,rfl⟩,_⟩:=hy
   exact Qlz 9998 w nx0 ny0
  ·skip
   cases xs with
   |nil=>simp [qE] at hx
   |cons x0 xs1 =>
   cases xs1 with
   |cons _ _=>simp [qE] at hx
   |nil =>
   simp only [qE] at hx
   obtain ⟨⟨nx0,rfl⟩,_⟩:=hx
   exact Qlw w em nx0
  ·exact .v rfl
def ZG:TI:={ cells:=1,bytes:=8,td:=.int .u64,zero:=[.v (.int .u64 0)],eqk:=none }
theorem tf151:TyFact Tryz.prog 151 ZG:=by
 refine ⟨⟨Tryz.t151,.int .u64 0,by kernel_rfl,rfl,rfl,rfl,rfl,rfl,by simp [Value.cells,Value.oneCell']⟩,⟨_,Tryz.underlying151,rfl⟩,fun fs h=>?_,fun ks h=>?_,fun q h=>?_⟩
 ·cases h
 ·cases h
 ·cases h
def XX:TI:={ cells:=1,bytes:=8,td:=.struct [(0,1,151)],zero:=[.v (.int .u64 0)],eqk:=none }
theorem tf153:TyFact Tryz.prog 153 XX:=by
 refine ⟨⟨Tryz.t153,.agg #[.int .u64 0],by kernel_rfl,rfl,rfl,rfl,rfl,rfl,by simp [Value.cells,Value.oneCell']⟩,⟨_,Tryz.underlying153,⟨_,rfl,rfl⟩⟩,fun fs h=>?_,fun ks h=>?_,fun q h=>?_⟩
 ·cases h
  simp only [List.mem_cons,List.not_mem_nil,or_false,forall_eq_or_imp,forall_eq]
  exact ⟨Tryz.t151,by kernel_rfl,rfl⟩
 ·cases h
 ·cases h
def UG:TI:={ cells:=1,bytes:=8,td:=.func,zero:=[.v (.nilFunc)],eqk:=none }
theorem tf161:TyFact Tryz.prog 161 UG:=by
 refine ⟨⟨Tryz.t161,.nilFunc,by kernel_rfl,rfl,rfl,rfl,rfl,rfl,by simp [Value.cells,Value.oneCell']⟩,⟨_,Tryz.underlying161,⟨_,_,_,rfl⟩⟩,fun fs h=>?_,fun ks h=>?_,fun q h=>?_⟩
 ·cases h
 ·cases h
 ·cases h
def Qk3:TI:={ cells:=1,bytes:=8,td:=.func,zero:=[.v (.nilFunc)],eqk:=none }
theorem tf164:TyFact Tryz.prog 164 Qk3:=by
 refine ⟨⟨Tryz.t164,.nilFunc,by kernel_rfl,rfl,rfl,rfl,rfl,rfl,by simp [Value.cells,Value.oneCell']⟩,⟨_,Tryz.underlying164,⟨_,_,_,rfl⟩⟩,fun fs h=>?_,fun ks h=>?_,fun q h=>?_⟩
 ·cases h
 ·cases h
 ·cases h
def UV:TI:={ cells:=3,bytes:=24,td:=.array 3 151,zero:=[.v (.int .u64 0),.v (.int .u64 0),.v (.int .u64 0)],eqk:=none }
theorem tf166:TyFact Tryz.prog 166 UV:=by
 refine ⟨⟨Tryz.t166,.agg #[.int .u64 0,.int .u64 0,.int .u64 0],by kernel_rfl,rfl,rfl,rfl,rfl,rfl,by simp [Value.cells,Value.oneCell']⟩,⟨_,Tryz.underlying166,rfl⟩,fun fs h=>?_,fun ks h=>?_,fun q h=>?_⟩
 ·cases h
 ·cases h
 ·cases h
def QcR:TI:={ cells:=1,bytes:=8,td:=.map 3 3,zero:=[.v (.map none)],eqk:=none,key:=some { kd:=.one (.int .i64),z:=.v (.int .i64 0),agg:=false } }
theorem tf169:TyFact Tryz.prog 169 QcR:=by
 refine ⟨⟨Tryz.t169,.map none,by kernel_rfl,rfl,rfl,rfl,rfl,rfl,by simp [Value.cells,Value.oneCell']⟩,⟨_,Tryz.underlying169,rfl⟩,fun fs h=>?_,fun ks h=>?_,fun q h=>?_⟩
 ·cases h
 ·cases h
 ·cases h
  refine ⟨3,3,rfl,Qa4 Tryz.underlying3,fun w=>⟨.int .i64 0,by simp [zeroValue,typeInfo,show Tryz.prog.info? 3=some Tryz.t3 by kernel_rfl,Tryz.t3],fun w' ok ρ y=>?_⟩⟩
  exact .v rfl
def Y7:TI:={ cells:=1,bytes:=8,td:=.func,zero:=[.v (.nilFunc)],eqk:=none }
theorem tf170:TyFact Tryz.prog 170 Y7:=by
 refine ⟨⟨Tryz.t170,.nilFunc,by kernel_rfl,rfl,rfl,rfl,rfl,rfl,by simp [Value.cells,Value.oneCell']⟩,⟨_,Tryz.underlying170,⟨_,_,_,rfl⟩⟩,fun fs h=>?_,fun ks h=>?_,fun q h=>?_⟩
 ·cases h
 ·cases h
 ·cases h
def tyL:List (Nat × TI):=[(3,ti3),(4,ti4),(22,Qp),(23,yh),(25,zQ),(26,jK),(28,wY),(30,ti30),(31,ti31),(34,ti34),(37,Wy),(40,Xx),(41,vV),(44,kU),(51,RL),(62,jQ),(64,wI),(72,ti72),(83,K7),(84,Qes),(86,Qif),(89,Qd),(93,kV),(98,ti98),(104,QcG),(107,Ql),(108,QcL),(110,U9),(120,QaA),(121,Lh),(127,LK),(129,LZ),(142,Qk4),(149,QkT),(150,KO),(151,ZG),(153,XX),(161,UG),(164,Qk3),(166,UV),(169,QcR),(170,Y7)]
def tyOf:List (Nat × TI)→Tys
 |[],_=>none
 |p :: r,t=>if t=p.1 then some p.2 else tyOf r t
def tyB:Tys:=tyOf tyL
theorem ty3:tyB 3=some ti3:=rfl
theorem ty4:tyB 4=some ti4:=rfl
theorem Za:tyB 22=some Qp:=rfl
theorem yP:tyB 23=some yh:=rfl
theorem wh:tyB 25=some zQ:=rfl
theorem yf:tyB 26=some jK:=rfl
theorem jL:tyB 28=some wY:=rfl
theorem ty34:tyB 34=some ti34:=rfl
theorem Yw:tyB 37=some Wy:=rfl
theorem QbT:tyB 40=some Xx:=rfl
theorem x8:tyB 41=some vV:=rfl
theorem Q0:tyB 44=some kU:=rfl
theorem Qfm:tyB 51=some RL:=rfl
theorem yu:tyB 62=some jQ:=rfl
theorem wP:tyB 64=some wI:=rfl
theorem ty72:tyB 72=some ti72:=rfl
theorem Qfa:tyB 83=some K7:=rfl
theorem ty84:tyB 84=some Qes:=rfl
theorem ty86:tyB 86=some Qif:=rfl
theorem Zt:tyB 89=some Qd:=rfl
theorem QZ:tyB 93=some kV:=rfl
theorem ty104:tyB 104=some QcG:=rfl
theorem Wj:tyB 107=some Ql:=rfl
theorem ty108:tyB 108=some QcL:=rfl
theorem QkV:tyB 110=some U9:=rfl
theorem QkJ:tyB 120=some QaA:=rfl
theorem Qla:tyB 121=some Lh:=rfl
theorem QkG:tyB 127=some LK:=rfl
theorem QkQ:tyB 129=some LZ:=rfl
theorem Qgz:tyB 150=some KO:=rfl
theorem Yp:tyB 151=some ZG:=rfl
theorem QgQ:tyB 153=some XX:=rfl
theorem Qk2:tyB 161=some UG:=rfl
theorem QkL:tyB 166=some UV:=rfl
theorem ty169:tyB 169=some QcR:=rfl
theorem QcC:tyB 170=some Y7:=rfl
theorem UQ:∀ {L:List (Nat × TI)} {t:Nat} {i:TI},tyOf L t=some i→(t,i) ∈ L
 |p :: r,t,i,h=>by
  simp only [tyOf] at h
  split at h
  ·rename_i ht;cases h;rw [ht];exact List.mem_cons_self
  ·exact List.mem_cons_of_mem _ (UQ h)
theorem Vr:ww Tryz.prog tyB:=fun t i h=>by
 have h:=UQ h
 simp only [tyL,List.mem_cons,List.not_mem_nil,or_false,Prod.mk.injEq] at h
 rcases h with ⟨rfl,rfl⟩|⟨rfl,rfl⟩|⟨rfl,rfl⟩|⟨rfl,rfl⟩|⟨rfl,rfl⟩|⟨rfl,rfl⟩|⟨rfl,rfl⟩|⟨rfl,rfl⟩|⟨rfl,rfl⟩|⟨rfl,rfl⟩|⟨rfl,rfl⟩|⟨rfl,rfl⟩|⟨rfl,rfl⟩|⟨rfl,rfl⟩|⟨rfl,rfl⟩|⟨rfl,rfl⟩|⟨rfl,rfl⟩|⟨rfl,rfl⟩|⟨rfl,rfl⟩|⟨rfl,rfl⟩|⟨rfl,rfl⟩|⟨rfl,rfl⟩|⟨rfl,rfl⟩|⟨rfl,rfl⟩|⟨rfl,rfl⟩|⟨rfl,rfl⟩|⟨rfl,rfl⟩|⟨rfl,rfl⟩|⟨rfl,rfl⟩|⟨rfl,rfl⟩|⟨rfl,rfl⟩|⟨rfl,rfl⟩|⟨rfl,rfl⟩|⟨rfl,rfl⟩|⟨rfl,rfl⟩|⟨rfl,rfl⟩|⟨rfl,rfl⟩|⟨rfl,rfl⟩|⟨rfl,rfl⟩|⟨rfl,rfl⟩|⟨rfl,rfl⟩|⟨rfl,rfl⟩
 ·exact tf3
 ·exact tf4
 ·exact tf22
 ·exact tf23
 ·exact tf25
 ·exact tf26
 ·exact tf28
 ·exact tf30
 ·exact tf31
 ·exact tf34
 ·exact tf37
 ·exact tf40
 ·exact tf41
 ·exact tf44
 ·exact tf51
 ·exact tf62
 ·exact tf64
 ·exact tf72
 ·exact tf83
 ·exact tf84
 ·exact tf86
 ·exact tf89
 ·exact tf93
 ·exact tf98
 ·exact tf104
 ·exact tf107
 ·exact tf108
 ·exact tf110
 ·exact tf120
 ·exact tf121
 ·exact tf127
 ·exact tf129
 ·exact tf142
 ·exact tf149
 ·exact tf150
 ·exact tf151
 ·exact tf153
 ·exact tf161
 ·exact tf164
 ·exact tf166
 ·exact tf169
 ·exact tf170
end Go.Sym.B
namespace Go.Sym.C
def Bd (B:Nat) (q:Rat):Prop:=q.den ∣ 27720∧q.num≤B * q.den∧-(B * q.den:Int)≤q.num
theorem Bd.mono {B C:Nat} {q:Rat} (h:Bd B q) (hB:B≤C):Bd C q:=by
 obtain ⟨h1,h2,h3⟩:=h
 have h4:(B:Int) * q.den≤C * q.den:=by exact_mod_cast Nat.mul_le_mul_right _ hB
 exact ⟨h1,by omega,by omega⟩
theorem QjE (q:Rat):0 < (q.den:Int):=by have:=q.den_nz;omega
theorem ic (n:Nat):(((n:Nat):Int):Rat)=(n:Rat):=Rat.intCast_natCast n
theorem Qh7 {a b c:Rat} (h:0 < c):a * c≤b * c ↔ a≤b:=by rw [← Rat.not_lt,← Rat.not_lt,Rat.mul_lt_mul_right h]
theorem QkY (q:Rat):q * ((q.den:Int):Rat)=(q.num:Rat):=by
 have g:((q.den:Nat):Rat) ≠ 0:=by exact_mod_cast q.den_nz
 have:q=(q.num:Rat) / ((q.den:Nat):Rat):=by rw [← Rat.mkRat_eq_div,Rat.mkRat_self]
 rw [ic]
 generalize ((q.den:Nat):Rat)=d at *
 generalize (q.num:Rat)=n at *
 grind
theorem QlS {q:Rat} {n:Int} {d:Nat} (hd:d ≠ 0) (h:q * (d:Rat)=n):q.den ∣ d:=by
 have:q=mkRat n d:=by
  rw [Rat.mkRat_eq_div]
  have g:((d:Nat):Rat) ≠ 0:=by exact_mod_cast hd
  generalize ((d:Nat):Rat)=c at *
  grind
 rw [this,Rat.den_mkRat,if_neg hd]
 exact Nat.div_dvd_of_dvd (Nat.gcd_dvd_left _ _)
theorem UH {q:Rat} (h:q.den ∣ 27720):∃ n:Int,q * ((27720:Nat):Rat)=n:=by
 obtain ⟨k,hk⟩:=h
 refine ⟨q.num * k, ?_⟩
 have e1:=QkY q
 rw [hk,ic] at *
 simp only [Rat.natCast_mul,Rat.intCast_mul,ic]
 grind
theorem Qiz {q r:Rat} (h:q.den ∣ 27720) (h':r.den ∣ 27720):(q+r).den ∣ 27720:=by
 obtain ⟨n,hn⟩:=UH h
 obtain ⟨m,hm⟩:=UH h'
 refine QlS (n:=n+m) (by decide) ?_
 simp only [Rat.intCast_add]
 rw [← hn,← hm]
 generalize ((27720:Nat):Rat)=d
 grind
theorem Ql8 {B:Nat} {q:Rat}:Bd B q ↔ q.den ∣ 27720∧q≤(B:Rat)∧-(B:Rat)≤q:=by
 have hp:(0:Rat) < ((q.den:Int):Rat):=by exact_mod_cast QjE q
 have e:=QkY q
 have k1:q≤(B:Rat) ↔ q.num≤B * q.den:=by
  rw [← Qh7 hp,e]
  rw [show (B:Rat) * ((q.den:Int):Rat)=(((B:Int) * (q.den:Int):Int):Rat) by rw [Rat.intCast_mul,ic B]]
  exact Rat.intCast_le_intCast
 have k2:-(B:Rat)≤q ↔ -(B * q.den:Int)≤q.num:=by
  rw [← Qh7 hp,e]
  rw [show -(B:Rat) * ((q.den:Int):Rat)=((-((B:Int) * (q.den:Int)):Int):Rat) by rw [Rat.intCast_neg,Rat.intCast_mul,ic B,Rat.neg_mul]]
  exact Rat.intCast_le_intCast
 unfold Bd
 rw [k1,k2]
theorem Bd.add {B C:Nat} {q r:Rat} (h:Bd B q) (h':Bd C r):Bd (B+C) (q+r):=by
 rw [Ql8] at *
 refine ⟨Qiz h.1 h'.1, ?_, ?_⟩ <;> simp only [Rat.natCast_add] <;> grind
end Go.Sym.C
namespace Go.Sym.B
open Go Go.Sym Go.Proofs Go.Sym.C
structure Bunk where
 cab:Int
 bed:Int
deriving DecidableEq,Inhabited
structure Cabin where
 beds:Int
 door:Bool
deriving DecidableEq,Inhabited
structure Tk where
 party:Int
 sex:Int
 cab:Int
 bed:Int
 frm:Int
 to:Int
 dog:Bool
deriving DecidableEq,Inhabited
structure Tr where
 ticket:Int
 cab:Int
 bed:Int
deriving DecidableEq,Inhabited
structure Chart where
 cabins:List Cabin
 secs:Int
 sold:List Tk
deriving DecidableEq,Inhabited
structure Ask where
 party:Int
 frm:Int
 to:Int
 sexes:List Int
 dog:Bool
deriving DecidableEq,Inhabited
def Tk.bunk (t:Tk):Bunk:=⟨t.cab,t.bed⟩
def dI:DV→Int
 |.v (.int _ n)=>n
 |_=>0
def dB:DV→Bool
 |.v (.bool b)=>b
 |_=>false
def dL:DV→List (List DV)
 |.sl xs=>xs
 |_=>[]
def qU (n:Int):List DV:=[.v (.int .i64 n)]
def qO (b:Bunk):List DV:=[.v (.int .i64 b.cab),.v (.int .i64 b.bed)]
def qz (c:Cabin):List DV:=[.v (.int .i64 c.beds),.v (.bool c.door)]
def eTk (t:Tk):List DV:=[.v (.int .i64 t.party),.v (.int .i64 t.sex),.v (.int .i64 t.cab),.v (.int .i64 t.bed),.v (.int .i64 t.frm),.v (.int .i64 t.to),.v (.bool t.dog)]
def eTr (t:Tr):List DV:=[.v (.int .i64 t.ticket),.v (.int .i64 t.cab),.v (.int .i64 t.bed)]
def qV (a:Ask):List DV:=[.v (.int .i64 a.party),.v (.int .i64 a.frm),.v (.int .i64 a.to),.sl (a.sexes.map qU),.v (.bool a.dog)]
def J2 (c:Chart):List DV:=[.sl (c.cabins.map qz),.v (.int .i64 c.secs),.sl (c.sold.map eTk)]
def Qo (l:List Int):List DV:=[.sl (l.map qU)]
def qY (l:List Bunk):List DV:=[.sl (l.map qO)]
def qM (r:List DV):Int:=dI (r.headD (.sl []))
def zg:List DV→Bunk
 |[a,b]=>⟨dI a,dI b⟩
 |_=>default
def qj:List DV→Cabin
 |[a,b]=>⟨dI a,dB b⟩
 |_=>default
def dTk:List DV→Tk
 |[a,b,c,d,e,f,g]=>⟨dI a,dI b,dI c,dI d,dI e,dI f,dB g⟩
 |_=>default
def dTr:List DV→Tr
 |[a,b,c]=>⟨dI a,dI b,dI c⟩
 |_=>default
def QkX:List DV→List Int
 |[a]=>(dL a).map qM
 |_=>[]
def Zz:List DV→List Bunk
 |[a]=>(dL a).map zg
 |_=>[]
def jb:List DV→Ask
 |[a,b,c,d,e]=>⟨dI a,dI b,dI c,(dL d).map qM,dB e⟩
 |_=>default
theorem Qlg (n:Int):qM (qU n)=n:=rfl
theorem QjT (b:Bunk):zg (qO b)=b:=rfl
theorem QfZ (b:Cabin):qj (qz b)=b:=rfl
theorem Qk6 (b:Tk):dTk (eTk b)=b:=rfl
theorem dTr_e (b:Tr):dTr (eTr b)=b:=rfl
theorem jJ (l:List Int):(l.map qU).map qM=l:=by simp [Function.comp_def,Qlg]
theorem yX (l:List Bunk):(l.map qO).map zg=l:=by simp [Function.comp_def,QjT]
theorem qy (l:List Cabin):(l.map qz).map qj=l:=by simp [Function.comp_def,QfZ]
theorem mTk (l:List Tk):(l.map eTk).map dTk=l:=by simp [Function.comp_def,Qk6]
theorem mTr (l:List Tr):(l.map eTr).map dTr=l:=by simp [Function.comp_def,dTr_e]
theorem Qje (l:List Int):QkX (Qo l)=l:=jJ l
theorem Qgj (l:List Bunk):Zz (qY l)=l:=yX l
theorem QlD (a:Ask):jb (qV a)=a:=by show (⟨_,_,_,_,_⟩:Ask)=a;simp only [dL,jJ];rfl
theorem QkN (l:List (List Int)):(l.map Qo).map QkX=l:=by simp [Function.comp_def,Qje]
theorem QbB (l:List (List Bunk)):(l.map qY).map Zz=l:=by simp [Function.comp_def,Qgj]
theorem JU (l:List (Ask)):(l.map qV).map jb=l:=by simp [Function.comp_def,QlD]
theorem JN (l:List (Int)) (n:Nat):(l.map qU).getD n [.v (.int .i64 0)]=qU (l.getD n 0):=yL qU l n 0
theorem hInt {l:List (Int)} {n:Nat} (h:n < l.length):(l.map qU).getD n []=qU (l.getD n 0):=by simp [List.getD_eq_getElem?_getD,h]
theorem Xw (l:List (Int)):ze 1 (l.map qU)=True:=jh (f:=qU) (k:=1) (fun _=>rfl) l
theorem yt (l:List (Bunk)) (n:Nat):(l.map qO).getD n [.v (.int .i64 0),.v (.int .i64 0)]=qO (l.getD n default):=yL qO l n default
theorem hBunk {l:List (Bunk)} {n:Nat} (h:n < l.length):(l.map qO).getD n []=qO (l.getD n default):=by simp [List.getD_eq_getElem?_getD,h]
theorem V7 (l:List (Bunk)):ze 2 (l.map qO)=True:=jh (f:=qO) (k:=2) (fun _=>rfl) l
theorem yc (l:List (Cabin)) (n:Nat):(l.map qz).getD n [.v (.int .i64 0),.v (.bool false)]=qz (l.getD n default):=yL qz l n default
theorem Qll {l:List (Cabin)} {n:Nat} (h:n < l.length):(l.map qz).getD n []=qz (l.getD n default):=by simp [List.getD_eq_getElem?_getD,h]
theorem R8 (l:List (Cabin)):ze 2 (l.map qz)=True:=jh (f:=qz) (k:=2) (fun _=>rfl) l
theorem gTk (l:List (Tk)) (n:Nat):(l.map eTk).getD n [.v (.int .i64 0),.v (.int .i64 0),.v (.int .i64 0),.v (.int .i64 0),.v (.int .i64 0),.v (.int .i64 0),.v (.bool false)]=eTk (l.getD n default):=yL eTk l n default
theorem hTk {l:List (Tk)} {n:Nat} (h:n < l.length):(l.map eTk).getD n []=eTk (l.getD n default):=by simp [List.getD_eq_getElem?_getD,h]
theorem rTk (l:List (Tk)):ze 7 (l.map eTk)=True:=jh (f:=eTk) (k:=7) (fun _=>rfl) l
theorem gTr (l:List (Tr)) (n:Nat):(l.map eTr).getD n [.v (.int .i64 0),.v (.int .i64 0),.v (.int .i64 0)]=eTr (l.getD n default):=yL eTr l n default
theorem rTr (l:List (Tr)):ze 3 (l.map eTr)=True:=jh (f:=eTr) (k:=3) (fun _=>rfl) l
theorem Qk8 (l:List (List Int)) (n:Nat):(l.map Qo).getD n [.sl []]=Qo (l.getD n []):=yL Qo l n []
theorem QkM {l:List (List Int)} {n:Nat} (h:n < l.length):(l.map Qo).getD n []=Qo (l.getD n []):=by simp [List.getD_eq_getElem?_getD,h]
theorem rInts (l:List (List Int)):ze 1 (l.map Qo)=True:=jh (f:=Qo) (k:=1) (fun _=>rfl) l
theorem QhO (l:List (List Bunk)) (n:Nat):(l.map qY).getD n [.sl []]=qY (l.getD n []):=yL qY l n []
theorem Xb {l:List (List Bunk)} {n:Nat} (h:n < l.length):(l.map qY).getD n []=qY (l.getD n []):=by simp [List.getD_eq_getElem?_getD,h]
theorem Qbu (l:List (List Bunk)):ze 1 (l.map qY)=True:=jh (f:=qY) (k:=1) (fun _=>rfl) l
theorem JA (l:List (Ask)) (n:Nat):(l.map qV).getD n [.v (.int .i64 0),.v (.int .i64 0),.v (.int .i64 0),.sl [],.v (.bool false)]=qV (l.getD n default):=yL qV l n default
theorem Vv {l:List (Ask)} {n:Nat} (h:n < l.length):(l.map qV).getD n []=qV (l.getD n default):=by simp [List.getD_eq_getElem?_getD,h]
theorem Xy (l:List (Ask)):ze 5 (l.map qV)=True:=jh (f:=qV) (k:=5) (fun _=>rfl) l
theorem Qli {l:List (Chart)} {n:Nat} (h:n < l.length):(l.map J2).getD n []=J2 (l.getD n default):=by simp [List.getD_eq_getElem?_getD,h]
def aI (n:Int):AV:=.v (.int .i64 n)
def aB (b:Bool):AV:=.v (.bool b)
def qx (b:Bunk):AV:=.agg [.v (.int .i64 b.cab),.v (.int .i64 b.bed)]
def cTk (t:Tk):List AV:=[.v (.int .i64 t.party),.v (.int .i64 t.sex),.v (.int .i64 t.cab),.v (.int .i64 t.bed),.v (.int .i64 t.frm),.v (.int .i64 t.to),.v (.bool t.dog)]
def aTk (t:Tk):AV:=.agg (cTk t)
def qg (a:Ask):List AV:=[.v (.int .i64 a.party),.v (.int .i64 a.frm),.v (.int .i64 a.to),.sl (a.sexes.map qU),.v (.bool a.dog)]
def qI (a:Ask):AV:=.agg (qg a)
def qa (c:Chart):List AV:=[.sl (c.cabins.map qz),.v (.int .i64 c.secs),.sl (c.sold.map eTk)]
def qd (c:Chart):AV:=.agg (qa c)
def ql (l:List Int):AV:=.sl (l.map qU)
def qb (l:List Bunk):AV:=.sl (l.map qO)
def vN (l:List (List Bunk)):AV:=.sl (l.map qY)
def QO (l:List (List Int)):AV:=.sl (l.map Qo)
def qp (l:List Tk):AV:=.sl (l.map eTk)
def zB (l:List Cabin):AV:=.sl (l.map qz)
def jP (l:List Tr):AV:=.sl (l.map eTr)
def qB (l:List Ask):AV:=.sl (l.map qV)
theorem Fn0 {fn:Func} {c:Code} {f:FuncId} (hf:Tryz.prog.funcs[f]?=some fn) (hb:fn.body=some c) (he:∀ vs w,(callFunc f vs).run Tryz.prog w=.ok (.enter f vs) w) (hd:yU fn.ntmps c=true):FnData Tryz.prog tyB f fn c:=⟨Vr,hf,hb,he,hd⟩
theorem qA {L:List (FuncId × Entry)} {A:Frm→Prop} (h:Qdc A Tryz.prog L):Env A Tryz.prog tyB (tab L):=⟨Vr,Qib h,by kernel_rfl⟩
theorem z0 {a b:Int} (h:-9223372036854775808≤a+b∧a+b < 9223372036854775808):IntKind.wrap .i64 (a+b)=a+b:=wrap64 h.1 h.2
def wN (x:Int):List (Nat × AObj):=[(0,.cells [.v (.int .u64 x)])]
def xsh (s:Int) (k:Nat):Int:=IntKind.u64.wrap (BitVec.ofInt IntKind.u64.bits s ^^^ BitVec.ofInt IntKind.u64.bits (s.fdiv (2 ^ min k IntKind.u64.bits))).toNat
def nxS (x:Int):Int:=IntKind.u64.wrap (IntKind.u64.wrap (x * 2862933555777941757)+3037000493)
def nxV (x:Int):Int:=xsh (IntKind.u64.wrap (xsh (nxS x) 31 * 10723151780598845931)) 30
def Qet:=kk @ty84 (kk @ty86 (kk @Qes.eq_1 @Qif.eq_1))
theorem Qkb (x:Int):Fn noB Tryz.prog 86 [.ptr 0 0] (qc (wN x)) (.v (.int .u64 (nxV x))) (qc (wN (nxS x))) 0:=by
 have env:Env (fun _=>True) Tryz.prog tyB (tab []):=qA trivial
 refine Fn.of (A:=fun _=>True) (n0:=1) (D:=noD) (Fn0 Tryz.func86 rfl (fun vs w=>by kernel_rfl) (by kernel_rfl)) (by simp) (by simp [AV.ids]) ?_ (fun _ _ _ _=>trivial) qw ?_
 ·intro i o hi
  have h:=qF hi
  simp [wN] at h
  rcases h with ⟨rfl,rfl⟩;simp [AObj.ids,AV.ids,AV.idsL]
 repeat' (first|(apply nx;with_reducible constructor)|refine jq (by decide) ?_|((first|refine kz env fun Q hQ=>?_|refine kj fun Q hQ=>?_);simp only [vkt,seval,Qet,wN,ite_and];(repeat' first|with_reducible assumption|apply kk|intro hp);all_goals (first|(refine hQ _ ?_;clear hQ Q)|(refine hQ _ (fun h=>?_) (fun h=>?_) <;> clear hQ Q <;> (try simp only [vki,reduceCtorEq] at h))|(refine kx ?_;kernel_rfl)|omega|assumption|with_reducible rfl|skip)))
 (simp only [vrt,Tryz.results86,vkt,seval,wN];refine Fin.ok some [] ?_ ?_ ?_ ?_ ?_ rfl;all_goals (try simp only [vle,vkt,seval]))
 all_goals rfl
def Qcx (S:St):List AV→Option Pk
 |[.ptr i 0]=>match S.h i with
  |some (.cells [.v (.int .u64 x)])=>some { hs:=[i],ar:=[.ptr 0 0],L0:=[.cells [.v (.int .u64 x)]],v:=.v (.int .u64 (nxV x)),L1:=[some (.cells [.v (.int .u64 (nxS x))])] }
  |_=>none
 |_=>none
theorem eNext {A:Frm→Prop}:qm A Tryz.prog 86 (fnE Qcx):=qZ fun S bs q h hp=>by
 unfold Qcx at h
 split at h
 ·split at h
  ·cases h;exact Qkb _
  ·cases h
 ·cases h
def Qek (x m:Int):Int:=if m < 1 then 0 else IntKind.i64.wrap (((nxV x).fdiv (2 ^ min 13 IntKind.u64.bits)).tmod (IntKind.u64.wrap (IntKind.i64.wrap (m+1))))
def QgA (x m:Int):Int:=if m < 1 then x else nxS x
theorem Qdp:∃ f:Int→Int→Int × Int,∀ x m,f x m=(Qek x m,QgA x m):=⟨fun x m=>(Qek x m,QgA x m),fun _ _=>rfl⟩
noncomputable def upV (x m:Int):Int:=(Classical.choose Qdp x m).1
noncomputable def upS (x m:Int):Int:=(Classical.choose Qdp x m).2
theorem Qf3 (x m:Int):upV x m=Qek x m:=by unfold upV;rw [Classical.choose_spec Qdp]
theorem Qmb (x m:Int):upS x m=QgA x m:=by unfold upS;rw [Classical.choose_spec Qdp]
theorem QgU {n:Int} (h0:0≤n) (h1:n < 18446744073709551616):IntKind.u64.wrap n=n:=by
 unfold IntKind.wrap
 simp only [IntKind.bits,IntKind.signed]
 simp
 omega
theorem Qh1 (n:Int):0≤IntKind.u64.wrap n:=by
 unfold IntKind.wrap
 simp only [IntKind.bits,IntKind.signed]
 simp
 omega
theorem Qbw {x m:Int} (h:m < 9223372036854775807):0≤upV x m∧(upV x m≤m∨upV x m=0):=by
 rw [Qf3]
 unfold Qek
 split
 ·exact ⟨Int.le_refl _,.inr rfl⟩
 ·have h1:IntKind.i64.wrap (m+1)=m+1:=wrap64 (by omega) (by omega)
  have h2:IntKind.u64.wrap (m+1)=m+1:=QgU (by omega) (by omega)
  rw [h1,h2]
  have h3:0≤(nxV x).fdiv (2 ^ min 13 IntKind.u64.bits):=Int.fdiv_nonneg (by unfold nxV xsh;exact Qh1 _) (by decide)
  rw [Int.tmod_eq_emod_of_nonneg h3]
  have h4:=Int.emod_nonneg ((nxV x).fdiv (2 ^ min 13 IntKind.u64.bits)) (show m+1 ≠ 0 by omega)
  have h5:=Int.emod_lt_of_pos ((nxV x).fdiv (2 ^ min 13 IntKind.u64.bits)) (show 0 < m+1 by omega)
  rw [wrap64 (by omega) (by omega)]
  omega
def Qcp:=kk @ty3 (kk @ty84 (kk @ti3.eq_1 @Qes.eq_1))
def Rh:=kk @aI.eq_1 (@aB.eq_1)
theorem up_fn (x m:Int) (h:m < 9223372036854775807):Fn noB Tryz.prog 31 [.ptr 0 0,aI m] (qc (wN x)) (aI (upV x m)) (qc (wN (upS x m))) 0:=by
 have env:Env (fun _=>True) Tryz.prog tyB (tab [(86,fnE Qcx)]):=qA ⟨eNext,trivial⟩
 refine Fn.of (A:=fun _=>True) (n0:=1) (D:=noD) (Fn0 Tryz.func31 rfl (fun vs w=>by kernel_rfl) (by kernel_rfl)) (by simp) (by simp [AV.ids,aI]) ?_ (fun _ _ _ _=>trivial) qw ?_
 ·intro i o hi
  have h:=qF hi
  simp [wN] at h
  rcases h with ⟨rfl,rfl⟩;simp [AObj.ids,AV.ids,AV.idsL]
 rw [Qf3,Qmb]
 by_cases c1:m < 1
 ·rw [show Qek x m=0 from if_pos c1,show QgA x m=x from if_pos c1]
  repeat' (first|(apply nx;with_reducible constructor)|refine jq (by decide) ?_|((first|refine kz env fun Q hQ=>?_|refine kj fun Q hQ=>?_);simp only [vkt,seval,Qcp,Rh,wN,c1,ite_and];(repeat' first|with_reducible assumption|apply kk|intro hp);all_goals (first|(refine hQ _ ?_;clear hQ Q)|(refine hQ _ (fun h=>?_) (fun h=>?_) <;> clear hQ Q <;> (try simp only [vki] at h))|(refine kx ?_;kernel_rfl)|omega|assumption|with_reducible rfl|skip)))
  (simp only [vrt,Tryz.results31,vkt,seval,Rh,wN];refine Fin.ok some [] ?_ ?_ ?_ ?_ ?_ rfl;all_goals (try simp only [vle,vkt,seval]))
  all_goals simp
 ·rw [show Qek x m=_ from if_neg c1,show QgA x m=_ from if_neg c1]
  have h1:IntKind.i64.wrap (m+1)=m+1:=wrap64 (by omega) (by omega)
  have h2:IntKind.u64.wrap (m+1)=m+1:=QgU (by omega) (by omega)
  have h0:¬ m+1=0:=by omega
  repeat' (first|(apply nx;with_reducible constructor)|refine jq (by decide) ?_|((first|refine kz env fun Q hQ=>?_|refine kj fun Q hQ=>?_);simp only [vkt,seval,Qcp,Rh,wN,Qcx,c1,h1,h2,h0,ite_and];(repeat' first|with_reducible assumption|apply kk|intro hp);all_goals (first|(refine hQ _ ?_;clear hQ Q)|(refine hQ _ (fun h=>?_) (fun h=>?_) <;> clear hQ Q <;> (try simp only [vki] at h))|(refine kx ?_;kernel_rfl)|omega|assumption|with_reducible rfl|skip)))
  (simp only [vrt,Tryz.results31,vkt,seval,Rh,wN];refine Fin.ok some [] ?_ ?_ ?_ ?_ ?_ rfl;all_goals (try simp only [vle,vkt,seval]))
  all_goals (first|rfl|rw [h1,h2])
noncomputable def pUp (S:St):List AV→Option Pk
 |[.ptr i 0,.v (.int .i64 m)]=>match S.h i with
  |some (.cells [.v (.int .u64 x)])=>some { pre:=m < 9223372036854775807,hs:=[i],ar:=[.ptr 0 0,.v (.int .i64 m)],L0:=[.cells [.v (.int .u64 x)]],v:=.v (.int .i64 (upV x m)),L1:=[some (.cells [.v (.int .u64 (upS x m))])] }
  |_=>none
 |_=>none
theorem eUp {A:Frm→Prop}:qm A Tryz.prog 31 (fnE pUp):=qZ fun S bs q h hp=>by
 unfold pUp at h
 split at h
 ·split at h
  ·cases h;exact up_fn _ _ hp
  ·cases h
 ·cases h
def Qej:=kk @ty3 @ti3.eq_1
def Qg9:=kk @aI.eq_1 (@aB.eq_1)
theorem Qjz (x a b:Int) (h:-100000≤a∧a≤100000∧-100000≤b∧b≤100000):Fn noB Tryz.prog 13 [.ptr 0 0,aI a,aI b] (qc (wN x)) (aI (a+upV x (b - a))) (qc (wN (upS x (b - a)))) 0:=by
 have env:Env (fun _=>True) Tryz.prog tyB (tab [(31,fnE pUp)]):=qA ⟨eUp,trivial⟩
 refine Fn.of (A:=fun _=>True) (n0:=1) (D:=noD) (Fn0 Tryz.func13 rfl (fun vs w=>by kernel_rfl) (by kernel_rfl)) (by simp) (by simp [AV.ids,aI]) ?_ (fun _ _ _ _=>trivial) qw ?_
 ·intro i o hi
  have h:=qF hi
  simp [wN] at h
  rcases h with ⟨rfl,rfl⟩;simp [AObj.ids,AV.ids,AV.idsL]
 have b1:=Qbw (x:=x) (m:=b - a) (by omega)
 have h1:IntKind.i64.wrap (b - a)=b - a:=wrap64 (by omega) (by omega)
 have h2:IntKind.i64.wrap (a+upV x (b - a))=a+upV x (b - a):=wrap64 (by omega) (by omega)
 have h3:b - a < 9223372036854775807:=by omega
 repeat' (first|(apply nx;with_reducible constructor)|refine jq (by decide) ?_|((first|refine kz env fun Q hQ=>?_|refine kj fun Q hQ=>?_);simp only [vkt,seval,Qej,Qg9,wN,pUp,h1,h2,ite_and];(repeat' first|with_reducible assumption|apply kk|intro hp);all_goals (first|(refine hQ _ ?_;clear hQ Q)|(refine hQ _ (fun h=>?_) (fun h=>?_) <;> clear hQ Q <;> (try simp only [vki,reduceCtorEq] at h))|(refine kx ?_;kernel_rfl)|omega|assumption|with_reducible rfl|skip)))
 (simp only [vrt,Tryz.results13,vkt,seval,Qg9,wN];refine Fin.ok some [] ?_ ?_ ?_ ?_ ?_ rfl;all_goals (try simp only [vle,vkt,seval]))
 all_goals rfl
noncomputable def Jh (S:St):List AV→Option Pk
 |[.ptr i 0,.v (.int .i64 a),.v (.int .i64 b)]=>match S.h i with
  |some (.cells [.v (.int .u64 x)])=>some { pre:=-100000≤a∧a≤100000∧-100000≤b∧b≤100000,hs:=[i],ar:=[.ptr 0 0,.v (.int .i64 a),.v (.int .i64 b)],L0:=[.cells [.v (.int .u64 x)]],v:=.v (.int .i64 (a+upV x (b - a))),L1:=[some (.cells [.v (.int .u64 (upS x (b - a)))])] }
  |_=>none
 |_=>none
theorem Qk7 {A:Frm→Prop}:qm A Tryz.prog 13 (fnE Jh):=qZ fun S bs q h hp=>by
 unfold Jh at h
 split at h
 ·split at h
  ·cases h;exact Qjz _ _ _ hp
  ·cases h
 ·cases h
def nbK (l:List Int):Nat→Int
 |0=>11400714819323198485
 |k+1=>xsh (IntKind.u64.wrap (IntKind.u64.wrap (nbK l k+IntKind.u64.wrap (l.getD k 0)) * 13787848793156543929)) 29
def nbS (l:List Int):Int:=nbK l l.length
def nbI (l:List Int) (k:Nat):St:={ t:=asg [(0,ql l),(3,.ptr 0 0),(4,aI k)],h:=qc (wN (nbK l k)),n:=1 }
def Xh:=kk @ty3 (kk @yf (kk @ty84 (kk @ty86 (kk @ti3.eq_1 (kk @jK.eq_1 (kk @Qes.eq_1 @Qif.eq_1))))))
def VG:=kk @aI.eq_1 (kk @aB.eq_1 (kk @nbI.eq_1 (kk @ql.eq_1 (kk @JN (@qU.eq_1)))))
theorem Qlv (l:List Int) (hl:l.length≤maxLen):Fn noB Tryz.prog 10 [ql l] noH (.ptr 0 0) (qc (wN (nbS l))) 0:=by
 have env:Env (fun _=>True) Tryz.prog tyB (tab []):=qA trivial
 refine Fn.of (A:=fun _=>True) (n0:=0) (D:=noD) (Fn0 Tryz.func10 rfl (fun vs w=>by kernel_rfl) (by kernel_rfl)) (by simp) (by simp [AV.ids,ql]) (fun i o h=>by cases h) (fun _ _ _ _=>trivial) qw ?_
 repeat' (first|(apply nx;with_reducible constructor)|refine jq (by decide) ?_|((first|refine kz env fun Q hQ=>?_|refine kj fun Q hQ=>?_);simp only [vkt,seval,Xh,VG,ite_and];(repeat' first|with_reducible assumption|apply kk|intro hp);all_goals (first|(refine hQ _ ?_;clear hQ Q)|(refine hQ _ (fun h=>?_) (fun h=>?_) <;> clear hQ Q <;> (try simp only [vki,reduceCtorEq] at h))|(refine kx ?_;kernel_rfl)|omega|assumption|with_reducible rfl|skip)))
 refine qC (fun k:{ k:Nat // k≤l.length }=>nbI l k.1) (fun k=>l.length - k.1) ⟨0,Nat.zero_le _⟩ ?_ fun ⟨k,hk⟩=>?_
 ·(refine Le.ok some [] ?_;constructor;all_goals (try simp only [vle,vkt,seval,VG,wN]))
  all_goals first|rfl|simp
 ·repeat' (first|(apply nx;with_reducible constructor)|refine jq (by decide) ?_)
  (refine kz env fun Q hQ=>?_;simp only [vkt,seval,Xh,VG,wN,ite_and];(repeat' first|with_reducible assumption|apply kk|intro hp);all_goals (first|(refine hQ _ ?_;clear hQ Q)|(refine kx ?_;kernel_rfl)|omega|assumption|with_reducible rfl|skip))
  repeat' (first|(apply nx;with_reducible constructor)|refine jq (by decide) ?_)
  (refine wQ (by simp only [vkt,seval];rfl) (fun h=>?_) (fun h=>?_) <;> (try simp only [vki] at h))
  ·have hlt:k < l.length:=by omega
   have e9:=QdF hlt hl
   repeat' (first|(apply nx;with_reducible constructor)|refine jq (by decide) ?_|((first|refine kz env fun Q hQ=>?_|refine kj fun Q hQ=>?_);simp only [vkt,seval,Xh,VG,e9,ite_and];(repeat' first|with_reducible assumption|apply kk|intro hp);all_goals (first|(refine hQ _ ?_;clear hQ Q)|(refine hQ _ (fun h=>?_) (fun h=>?_) <;> clear hQ Q <;> (try simp only [vki,reduceCtorEq] at h))|(refine kx ?_;kernel_rfl)|omega|assumption|with_reducible rfl|skip)))
   refine ⟨⟨k+1,hlt⟩,by show l.length - (k+1) < l.length - k;omega, ?_⟩
   (refine Le.ok some [] ?_;constructor;all_goals (try simp only [vle,vkt,seval,VG,wN]))
   all_goals first|rfl|(simp [e9];done)
  ·have hkn:k=l.length:=by omega
   subst hkn
   repeat' (first|(apply nx;with_reducible constructor)|refine jq (by decide) ?_|((first|refine kz env fun Q hQ=>?_|refine kj fun Q hQ=>?_);simp only [vkt,seval,ite_and];(repeat' first|with_reducible assumption|apply kk|intro hp);all_goals (first|(refine hQ _ ?_;clear hQ Q)|(refine hQ _ (fun h=>?_) (fun h=>?_) <;> clear hQ Q <;> (try simp only [vki,reduceCtorEq] at h))|(refine kx ?_;kernel_rfl)|omega|assumption|with_reducible rfl|skip)))
   (simp only [vrt,Tryz.results10,vkt,seval,wN];refine Fin.ok some [] ?_ ?_ ?_ ?_ ?_ rfl;all_goals (try simp only [vle,vkt,seval]))
   all_goals rfl
def pBag (_:St):List AV→Option Pk
 |[.sl xs]=>some { pre:=xs=(xs.map qM).map qU∧xs.length≤maxLen,ar:=[.sl xs],v:=.ptr 0 0,L1:=[some (.cells [.v (.int .u64 (nbS (xs.map qM)))])] }
 |_=>none
theorem eBag {A:Frm→Prop}:qm A Tryz.prog 10 (fnE pBag):=qZ fun S bs q h hp=>by
 unfold pBag at h
 split at h <;> cases h
 have:=Qlv (List.map qM _) (by rw [List.length_map];exact hp.2)
 simp only [ql,← hp.1] at this
 exact this
def inB (n lo hi:Int):Bool:=decide (lo≤n) && decide (n≤hi)
theorem zY {n lo hi:Int}:inB n lo hi=true ↔ lo≤n∧n≤hi:=by simp [inB]
def qR (n a b:Int):Int:=if n < a then 7 else if b < n then 6 else 0
def zM:List Int→Int
 |[]=>0
 |e :: r=>if e=0 then zM r else e
theorem wU {l:List Int} {k:Nat} (h:∀ j,j < k→l.getD j 0=0) (hk:k < l.length) (he:l.getD k 0 ≠ 0):zM l=l.getD k 0:=by
 induction l generalizing k with
 |nil=>simp at hk
 |cons e r ih =>
  cases k with
  |zero=>rw [zM,if_neg (by simpa using he)];rfl
  |succ k =>
   rw [zM,if_pos (by simpa using h 0 (by omega))]
   have:=ih (k:=k) (fun j hj=>by simpa using h (j+1) (by omega)) (by simpa using hk) (by simpa using he)
   rw [this];rfl
theorem wD {l:List Int} (h:∀ j,j < l.length→l.getD j 0=0):zM l=0:=by
 induction l with
 |nil=>rfl
 |cons e r ih =>
  rw [zM,if_pos (by simpa using h 0 (by simp))]
  exact ih fun j hj=>by simpa using h (j+1) (by simpa using hj)
theorem vS {l:List Int} (h:zM l=0):∀ e ∈ l,e=0:=by
 induction l with
 |nil=>simp
 |cons e r ih =>
  rw [zM] at h
  split at h
  ·rename_i h0
   intro x hx
   rcases List.mem_cons.1 hx with rfl|hx
   ·exact h0
   ·exact ih h x hx
  ·rename_i h0;exact absurd h h0
def j6 (a b:Tk):Bool:=decide (a.frm < b.to) && decide (b.frm < a.to)
def vT (a b:Tk):Bool:=decide (a.party=b.party) || decide (a.cab ≠ b.cab) || !j6 a b || (decide (a.sex=b.sex) && !a.dog && !b.dog)
def xY (secs frm to:Int):Int:=if frm < 0∨to≤frm∨secs < to then 5 else 0
def jR (t x:Tk):Bool:=decide (x.cab=t.cab) && decide (x.bed=t.bed) && j6 x t
def zq (t:Tk) (l:List Tk):Int:=if l.any (jR t) then 4 else if l.any (fun x=>!vT x t) then 9 else 0
def zZ (cs:List Cabin) (cab bed:Int):Bool:=inB cab 0 ((cs.length:Int) - 1) && inB bed 0 ((cs.getD cab.toNat default).beds - 1)
def zf (c:Chart) (t:Tk) (l:List Tk):Int :=
 if !inB t.party 1 99 then 1 else if !inB t.sex 1 2 then 8 else if !zZ c.cabins t.cab t.bed then 3 else if xY c.secs t.frm t.to ≠ 0 then xY c.secs t.frm t.to else zq t l
def vg (x:Cabin):Int:=if !inB x.beds 1 3 then 1 else 0
def QL (c:Chart):Int :=
 if qR c.cabins.length 1 3 ≠ 0 then qR c.cabins.length 1 3 else if zM (c.cabins.map vg) ≠ 0 then zM (c.cabins.map vg) else if !inB c.secs 1 5 then 1 else qR c.sold.length 0 8
def zW (c:Chart) (l:List Tk):Int:=zM ((List.range l.length).map fun i=>zf c (l.getD i default) (l.take i))
def zw (c:Chart):Int:=if QL c ≠ 0 then QL c else zW c c.sold
structure CarOk (c:Chart):Prop where
 cabs:1≤c.cabins.length∧c.cabins.length≤3
 beds:∀ x ∈ c.cabins,1≤x.beds∧x.beds≤3
 secs:1≤c.secs∧c.secs≤5
theorem QcV {c:Chart} (h:QL c=0):CarOk c∧c.sold.length≤8:=by
 unfold QL at h
 split at h
 ·exact absurd h ‹_›
 rename_i h1
 split at h
 ·exact absurd h ‹_›
 rename_i h2
 split at h
 ·exact absurd h (by decide)
 rename_i h3
 have h1:=Decidable.not_not.1 h1
 have h2:=Decidable.not_not.1 h2
 have h3:inB c.secs 1 5=true:=by simpa using h3
 unfold qR at h1 h
 refine ⟨⟨?_,fun x hx=>?_,zY.1 h3⟩, ?_⟩
 ·split at h1
  ·exact absurd h1 (by decide)
  ·split at h1
   ·exact absurd h1 (by decide)
   ·omega
 ·have:=vS h2 _ (List.mem_map.2 ⟨x,hx,rfl⟩)
  unfold vg at this
  split at this
  ·exact absurd this (by decide)
  ·rename_i h4
   exact zY.1 (by simpa using h4)
 ·split at h
  ·exact absurd h (by decide)
  ·split at h
   ·exact absurd h (by decide)
   ·omega
structure TkOk (c:Chart) (t:Tk):Prop where
 party:1≤t.party∧t.party≤99
 sex:1≤t.sex∧t.sex≤2
 cab:0≤t.cab∧t.cab.toNat < c.cabins.length
 bed:0≤t.bed∧t.bed < (c.cabins.getD t.cab.toNat default).beds
 frm:0≤t.frm
 way:t.frm < t.to
 to:t.to≤c.secs
theorem UA {s a b:Int} (h:xY s a b=0):0≤a∧a < b∧b≤s:=by
 unfold xY at h
 split at h
 ·exact absurd h (by decide)
 ·omega
theorem Kz {cs:List Cabin} {a b:Int} (h:zZ cs a b=true):0≤a∧a.toNat < cs.length∧0≤b∧b < (cs.getD a.toNat default).beds:=by
 unfold zZ at h
 rw [Bool.and_eq_true,zY,zY] at h
 omega
theorem Qbh {c:Chart} {t:Tk} {l:List Tk} (h:zf c t l=0):TkOk c t∧zq t l=0:=by
 unfold zf at h
 split at h
 ·exact absurd h (by decide)
 rename_i h1
 split at h
 ·exact absurd h (by decide)
 rename_i h2
 split at h
 ·exact absurd h (by decide)
 rename_i h3
 split at h
 ·exact absurd h ‹_›
 rename_i h4
 have nf:∀ {p:Bool},¬ (!p)=true→p=true:=fun h=>by simpa using h
 have g1:=zY.1 (nf h1)
 have g2:=zY.1 (nf h2)
 obtain ⟨g3,g4,g5,g6⟩:=Kz (nf h3)
 obtain ⟨g7,g8,g9⟩:=UA (Decidable.not_not.1 h4)
 exact ⟨⟨g1,g2,⟨g3,g4⟩,⟨g5,g6⟩,g7,g8,g9⟩,h⟩
theorem wC {α:Type} {l:List α} {k:Nat} {d:α} (h:k < l.length):l.getD k d ∈ l:=by
 rw [List.getD_eq_getElem?_getD,List.getElem?_eq_getElem h];exact List.getElem_mem h
theorem Wn {c:Chart} {l:List Tk} (h:zW c l=0):∀ i,i < l.length→TkOk c (l.getD i default)∧zq (l.getD i default) (l.take i)=0:=fun i hi =>
 Qbh (vS h _ (List.mem_map.2 ⟨i,List.mem_range.2 hi,rfl⟩))
structure Val (c:Chart):Prop where
 car:CarOk c
 many:c.sold.length≤8
 tk:∀ t ∈ c.sold,TkOk c t
theorem xq {c:Chart} (h:zw c=0):Val c:=by
 unfold zw at h
 split at h
 ·exact absurd h ‹_›
 rename_i h1
 obtain ⟨g1,g2⟩:=QcV (Decidable.not_not.1 h1)
 refine ⟨g1,g2,fun t ht=>?_⟩
 obtain ⟨i,hi,rfl⟩:=List.mem_iff_getElem.1 ht
 have:=(Wn h i hi).1
 rwa [show c.sold.getD i default=c.sold[i] by simp [List.getD_eq_getElem?_getD,hi]] at this
def qK (cs:List Cabin):List Bunk:=(List.range cs.length).flatMap fun i=>(List.range (cs.getD i default).beds.toNat).map fun (k:Nat)=>⟨(i:Int),(k:Int)⟩
def kD (cs:List Cabin) (l:List Bunk):Bool :=
 let lo:=l.foldl (fun m b=>min m b.cab) (l.getD 0 default).cab
 let hi:=l.foldl (fun m b=>max m b.cab) (l.getD 0 default).cab
 decide (lo=hi) || (decide (lo+1=hi) && (cs.getD lo.toNat default).door)
def yV (a:Ask) (i:Nat) (b:Bunk):Tk:=⟨a.party,a.sexes.getD i 0,b.cab,b.bed,a.frm,a.to,a.dog⟩
def goB (cs:List Cabin) (a:Ask) (sold:List Tk) (begun:List Bunk) (b:Bunk):Bool:=!begun.contains b && kD cs (begun++[b]) && decide (zq (yV a begun.length b) sold=0)
def atB (s:Int) (t:Tk):Bool:=decide (t.frm≤s) && decide (s < t.to)
def JX (sold:List Tk) (s i:Int):Bool:=sold.all fun t=>!(atB s t && decide (t.cab=i))
def QV (cs:List Cabin) (secs:Int) (sold:List Tk):Int:=(((List.range secs.toNat).flatMap fun (s:Nat)=>(List.range cs.length).filter fun (i:Nat)=>JX sold s i).length:Int)
def wu (c:Chart) (a:Ask):Int :=
 if !inB a.party 1 99 then 1 else if c.sold.any (fun t=>decide (t.party=a.party)) then 4 else if xY c.secs a.frm a.to ≠ 0 then xY c.secs a.frm a.to else if qR a.sexes.length 1 3 ≠ 0 then qR a.sexes.length 1 3 else
 zM (a.sexes.map fun s=>if !inB s 1 2 then 8 else 0)
def zJ (c:Chart) (a:Ask):Int:=if zw c ≠ 0 then zw c else wu c a
def Qkc:=kk @ty3 @ti3.eq_1
def Zu:=kk @aI.eq_1 (@aB.eq_1)
theorem in_fn (n a b:Int):FnV Tryz.prog 77 [aI n,aI a,aI b] (aB (inB n a b)):=by
 have env:Env (fun _=>True) Tryz.prog tyB (tab []):=qA trivial
 refine Fn.of (A:=fun _=>True) (n0:=0) (D:=noD) (Fn0 Tryz.func77 rfl (fun vs w=>by kernel_rfl) (by kernel_rfl)) (by simp) (by simp [AV.ids,aI]) (fun i o h=>by cases h) (fun _ _ _ _=>trivial) qw ?_
 repeat' (first|(apply nx;with_reducible constructor)|refine jq (by decide) ?_|((first|refine kz env fun Q hQ=>?_|refine kj fun Q hQ=>?_);simp only [vkt,seval,Qkc,Zu,ite_and];(repeat' first|with_reducible assumption|apply kk|intro hp);all_goals (first|(refine hQ _ ?_;clear hQ Q)|(refine hQ _ (fun h=>?_) (fun h=>?_) <;> clear hQ Q <;> (try simp only [vki,reduceCtorEq] at h))|(refine kx ?_;kernel_rfl)|omega|assumption|with_reducible rfl|skip)))
 all_goals (simp only [vrt,Tryz.results77,vkt,seval,Zu];refine Fin.val rfl ?_;(try simp only [AV.le]))
 all_goals simp [inB, *]
def sin:List AV→Prop × AV
 |[.v (.int .i64 n),.v (.int .i64 a),.v (.int .i64 b)]=>(True,aB (inB n a b))
 |_=>(False,.junk)
theorem ein {A:Frm→Prop}:qm A Tryz.prog 77 (qG true sin):=qH fun vs hv h=>by
 clear hv
 unfold sin at h ⊢
 split at h
 ·rename_i n a b;clear h
  refine ⟨by first|trivial|(repeat' split) <;> simp [AV.plain,AV.plainL,aI,aB,ql,qb,qp,qx,aTk,cTk],fun _=>(by simp [AV.flat,aB]), ?_⟩
  have:=in_fn n a b
  simp only [aI] at this
  first|exact this|(simp only [aI];exact this)
 ·exact h.elim
def Qd2:=kk @ty3 @ti3.eq_1
theorem QiQ (n a b:Int):FnV Tryz.prog 83 [aI n,aI a,aI b] (aB (inB n a b)):=by
 have env:Env (fun _=>True) Tryz.prog tyB (tab []):=qA trivial
 refine Fn.of (A:=fun _=>True) (n0:=0) (D:=noD) (Fn0 Tryz.func83 rfl (fun vs w=>by kernel_rfl) (by kernel_rfl)) (by simp) (by simp [AV.ids,aI]) (fun i o h=>by cases h) (fun _ _ _ _=>trivial) qw ?_
 repeat' (first|(apply nx;with_reducible constructor)|refine jq (by decide) ?_|((first|refine kz env fun Q hQ=>?_|refine kj fun Q hQ=>?_);simp only [vkt,seval,Qd2,Zu,ite_and];(repeat' first|with_reducible assumption|apply kk|intro hp);all_goals (first|(refine hQ _ ?_;clear hQ Q)|(refine hQ _ (fun h=>?_) (fun h=>?_) <;> clear hQ Q <;> (try simp only [vki,reduceCtorEq] at h))|(refine kx ?_;kernel_rfl)|omega|assumption|with_reducible rfl|skip)))
 all_goals (simp only [vrt,Tryz.results83,vkt,seval,Zu];refine Fin.val rfl ?_;(try simp only [AV.le]))
 all_goals simp [inB, *]
def yl:List AV→Prop × AV
 |[.v (.int .i64 n),.v (.int .i64 a),.v (.int .i64 b)]=>(True,aB (inB n a b))
 |_=>(False,.junk)
theorem Qdw {A:Frm→Prop}:qm A Tryz.prog 83 (qG true yl):=qH fun vs hv h=>by
 clear hv
 unfold yl at h ⊢
 split at h
 ·rename_i n a b;clear h
  refine ⟨by first|trivial|(repeat' split) <;> simp [AV.plain,AV.plainL,aI,aB,ql,qb,qp,qx,aTk,cTk],fun _=>(by simp [AV.flat,aB]), ?_⟩
  have:=QiQ n a b
  simp only [aI] at this
  first|exact this|(simp only [aI];exact this)
 ·exact h.elim
def Uw:=kk @ty3 @ti3.eq_1
theorem QaU (n a b:Int):FnV Tryz.prog 91 [aI n,aI a,aI b] (aI (qR n a b)):=by
 have env:Env (fun _=>True) Tryz.prog tyB (tab []):=qA trivial
 refine Fn.of (A:=fun _=>True) (n0:=0) (D:=noD) (Fn0 Tryz.func91 rfl (fun vs w=>by kernel_rfl) (by kernel_rfl)) (by simp) (by simp [AV.ids,aI]) (fun i o h=>by cases h) (fun _ _ _ _=>trivial) qw ?_
 repeat' (first|(apply nx;with_reducible constructor)|refine jq (by decide) ?_|((first|refine kz env fun Q hQ=>?_|refine kj fun Q hQ=>?_);simp only [vkt,seval,Uw,Zu,ite_and];(repeat' first|with_reducible assumption|apply kk|intro hp);all_goals (first|(refine hQ _ ?_;clear hQ Q)|(refine hQ _ (fun h=>?_) (fun h=>?_) <;> clear hQ Q <;> (try simp only [vki] at h))|(refine kx ?_;kernel_rfl)|omega|assumption|with_reducible rfl|skip)))
 all_goals (simp only [vrt,Tryz.results91,vkt,seval,Zu];refine Fin.val rfl ?_;(try simp only [AV.le]))
 all_goals (unfold qR;simp [*])
 all_goals omega
def jm:List AV→Prop × AV
 |[.v (.int .i64 n),.v (.int .i64 a),.v (.int .i64 b)]=>(True,aI (qR n a b))
 |_=>(False,.junk)
theorem Y2 {A:Frm→Prop}:qm A Tryz.prog 91 (qG true jm):=qH fun vs hv h=>by
 clear hv
 unfold jm at h ⊢
 split at h
 ·rename_i n a b;clear h
  refine ⟨by first|trivial|(repeat' split) <;> simp [AV.plain,AV.plainL,aI,aB,ql,qb,qp,qx,aTk,cTk],fun _=>(by simp [AV.flat,aI]), ?_⟩
  have:=QaU n a b
  simp only [aI] at this
  first|exact this|(simp only [aI];exact this)
 ·exact h.elim
def Qed:=kk @ty3 (kk @wP (kk @ti3.eq_1 @wI.eq_1))
theorem Qjn (a b:Tk):FnV Tryz.prog 137 [aTk a,aTk b] (aB (j6 a b)):=by
 have env:Env (fun _=>True) Tryz.prog tyB (tab []):=qA trivial
 refine Fn.of (A:=fun _=>True) (n0:=0) (D:=noD) (Fn0 Tryz.func137 rfl (fun vs w=>by kernel_rfl) (by kernel_rfl)) (by simp) (by simp [AV.ids,AV.idsL,aTk,cTk]) (fun i o h=>by cases h) (fun _ _ _ _=>trivial) qw ?_
 repeat' (first|(apply nx;with_reducible constructor)|refine jq (by decide) ?_|((first|refine kz env fun Q hQ=>?_|refine kj fun Q hQ=>?_);simp only [vkt,seval,Qed,aTk,cTk,ite_and];(repeat' first|with_reducible assumption|apply kk|intro hp);all_goals (first|(refine hQ _ ?_;clear hQ Q)|(refine hQ _ (fun h=>?_) (fun h=>?_) <;> clear hQ Q <;> (try simp only [vki,reduceCtorEq] at h))|(refine kx ?_;kernel_rfl)|omega|assumption|with_reducible rfl|skip)))
 all_goals (simp only [vrt,Tryz.results137,vkt,seval,Zu];refine Fin.val rfl ?_;(try simp only [AV.le]))
 all_goals simp [j6, *]
def X7:List AV→Prop × AV
 |[.agg [.v (.int .i64 a0),.v (.int .i64 a1),.v (.int .i64 a2),.v (.int .i64 a3),.v (.int .i64 a4),.v (.int .i64 a5),.v (.bool a6)],.agg [.v (.int .i64 b0),.v (.int .i64 b1),.v (.int .i64 b2),.v (.int .i64 b3),.v (.int .i64 b4),.v (.int .i64 b5),.v (.bool b6)]]=>(True,aB (j6 (⟨a0,a1,a2,a3,a4,a5,a6⟩:Tk) (⟨b0,b1,b2,b3,b4,b5,b6⟩:Tk)))
 |_=>(False,.junk)
theorem QkU {A:Frm→Prop}:qm A Tryz.prog 137 (qG true X7):=qH fun vs hv h=>by
 clear hv
 unfold X7 at h ⊢
 split at h
 ·rename_i a0 a1 a2 a3 a4 a5 a6 b0 b1 b2 b3 b4 b5 b6;clear h
  refine ⟨by first|trivial|(repeat' split) <;> simp [AV.plain,AV.plainL,aI,aB,ql,qb,qp,qx,aTk,cTk],fun _=>(by simp [AV.flat,aB]), ?_⟩
  have:=Qjn (⟨a0,a1,a2,a3,a4,a5,a6⟩:Tk) (⟨b0,b1,b2,b3,b4,b5,b6⟩:Tk)
  simp only [aB,aTk,cTk] at this
  first|exact this|(simp only [aB,aI,aTk,cTk];exact this)
 ·exact h.elim
def QbE:=kk @ty3 (kk @wP (kk @ti3.eq_1 @wI.eq_1))
theorem QhZ (a b:Tk):FnV Tryz.prog 120 [aTk a,aTk b] (aB (j6 a b)):=by
 have env:Env (fun _=>True) Tryz.prog tyB (tab []):=qA trivial
 refine Fn.of (A:=fun _=>True) (n0:=0) (D:=noD) (Fn0 Tryz.func120 rfl (fun vs w=>by kernel_rfl) (by kernel_rfl)) (by simp) (by simp [AV.ids,AV.idsL,aTk,cTk]) (fun i o h=>by cases h) (fun _ _ _ _=>trivial) qw ?_
 repeat' (first|(apply nx;with_reducible constructor)|refine jq (by decide) ?_|((first|refine kz env fun Q hQ=>?_|refine kj fun Q hQ=>?_);simp only [vkt,seval,QbE,aTk,cTk,ite_and];(repeat' first|with_reducible assumption|apply kk|intro hp);all_goals (first|(refine hQ _ ?_;clear hQ Q)|(refine hQ _ (fun h=>?_) (fun h=>?_) <;> clear hQ Q <;> (try simp only [vki,reduceCtorEq] at h))|(refine kx ?_;kernel_rfl)|omega|assumption|with_reducible rfl|skip)))
 all_goals (simp only [vrt,Tryz.results120,vkt,seval,Zu];refine Fin.val rfl ?_;(try simp only [AV.le]))
 all_goals simp [j6, *]
def Wq:List AV→Prop × AV
 |[.agg [.v (.int .i64 a0),.v (.int .i64 a1),.v (.int .i64 a2),.v (.int .i64 a3),.v (.int .i64 a4),.v (.int .i64 a5),.v (.bool a6)],.agg [.v (.int .i64 b0),.v (.int .i64 b1),.v (.int .i64 b2),.v (.int .i64 b3),.v (.int .i64 b4),.v (.int .i64 b5),.v (.bool b6)]]=>(True,aB (j6 (⟨a0,a1,a2,a3,a4,a5,a6⟩:Tk) (⟨b0,b1,b2,b3,b4,b5,b6⟩:Tk)))
 |_=>(False,.junk)
theorem QgI {A:Frm→Prop}:qm A Tryz.prog 120 (qG true Wq):=qH fun vs hv h=>by
 clear hv
 unfold Wq at h ⊢
 split at h
 ·rename_i a0 a1 a2 a3 a4 a5 a6 b0 b1 b2 b3 b4 b5 b6;clear h
  refine ⟨by first|trivial|(repeat' split) <;> simp [AV.plain,AV.plainL,aI,aB,ql,qb,qp,qx,aTk,cTk],fun _=>(by simp [AV.flat,aB]), ?_⟩
  have:=QhZ (⟨a0,a1,a2,a3,a4,a5,a6⟩:Tk) (⟨b0,b1,b2,b3,b4,b5,b6⟩:Tk)
  simp only [aB,aTk,cTk] at this
  first|exact this|(simp only [aB,aI,aTk,cTk];exact this)
 ·exact h.elim
def QfG:=kk @ty3 (kk @ty4 (kk @yu (kk @wP (kk @ti3.eq_1 (kk @ti4.eq_1 (kk @jQ.eq_1 @wI.eq_1))))))
def K3:=kk @aI.eq_1 (@aB.eq_1)
theorem QlV (a b:Tk):FnV Tryz.prog 139 [aTk a,aTk b] (aB (vT a b)):=by
 have env:Env (fun _=>True) Tryz.prog tyB (tab [(137,qG true X7)]):=qA ⟨QkU,trivial⟩
 refine Fn.of (A:=fun _=>True) (n0:=0) (D:=noD) (Fn0 Tryz.func139 rfl (fun vs w=>by kernel_rfl) (by kernel_rfl)) (by simp) (by simp [AV.ids,AV.idsL,aTk,cTk]) (fun i o h=>by cases h) (fun _ _ _ _=>trivial) qw ?_
 have em:j6 ⟨a.party,a.sex,a.cab,a.bed,a.frm,a.to,a.dog⟩ ⟨b.party,b.sex,b.cab,b.bed,b.frm,b.to,b.dog⟩=j6 a b:=rfl
 repeat' (first|(apply nx;with_reducible constructor)|refine jq (by decide) ?_|((first|refine kz env fun Q hQ=>?_|refine kj fun Q hQ=>?_);simp only [vkt,seval,QfG,K3,aTk,cTk,X7,em,ite_and];(repeat' first|with_reducible assumption|apply kk|intro hp);all_goals (first|(refine hQ _ ?_;clear hQ Q)|(refine hQ _ (fun h=>?_) (fun h=>?_) <;> clear hQ Q <;> (try simp only [vki,reduceCtorEq] at h))|(refine kx ?_;kernel_rfl)|omega|assumption|with_reducible rfl|skip)))
 all_goals (simp only [vrt,Tryz.results139,vkt,seval,K3];refine Fin.val rfl ?_;(try simp only [AV.le]))
 all_goals first|(simp [vT, *];done)|(simp_all [vT];done)
def stog:List AV→Prop × AV
 |[.agg [.v (.int .i64 a0),.v (.int .i64 a1),.v (.int .i64 a2),.v (.int .i64 a3),.v (.int .i64 a4),.v (.int .i64 a5),.v (.bool a6)],.agg [.v (.int .i64 b0),.v (.int .i64 b1),.v (.int .i64 b2),.v (.int .i64 b3),.v (.int .i64 b4),.v (.int .i64 b5),.v (.bool b6)]]=>(True,aB (vT (⟨a0,a1,a2,a3,a4,a5,a6⟩:Tk) (⟨b0,b1,b2,b3,b4,b5,b6⟩:Tk)))
 |_=>(False,.junk)
theorem etog {A:Frm→Prop}:qm A Tryz.prog 139 (qG true stog):=qH fun vs hv h=>by
 clear hv
 unfold stog at h ⊢
 split at h
 ·rename_i a0 a1 a2 a3 a4 a5 a6 b0 b1 b2 b3 b4 b5 b6;clear h
  refine ⟨by first|trivial|(repeat' split) <;> simp [AV.plain,AV.plainL,aI,aB,ql,qb,qp,qx,aTk,cTk],fun _=>(by simp [AV.flat,aB]), ?_⟩
  have:=QlV (⟨a0,a1,a2,a3,a4,a5,a6⟩:Tk) (⟨b0,b1,b2,b3,b4,b5,b6⟩:Tk)
  simp only [aB,aTk,cTk] at this
  first|exact this|(simp only [aB,aI,aTk,cTk];exact this)
 ·exact h.elim
def Qfe:=kk @ty3 (kk @ty4 (kk @yu (kk @wP (kk @ti3.eq_1 (kk @ti4.eq_1 (kk @jQ.eq_1 @wI.eq_1))))))
theorem Qji (a b:Tk):FnV Tryz.prog 121 [aTk a,aTk b] (aB (vT a b)):=by
 have env:Env (fun _=>True) Tryz.prog tyB (tab [(120,qG true Wq)]):=qA ⟨QgI,trivial⟩
 refine Fn.of (A:=fun _=>True) (n0:=0) (D:=noD) (Fn0 Tryz.func121 rfl (fun vs w=>by kernel_rfl) (by kernel_rfl)) (by simp) (by simp [AV.ids,AV.idsL,aTk,cTk]) (fun i o h=>by cases h) (fun _ _ _ _=>trivial) qw ?_
 have em:j6 ⟨a.party,a.sex,a.cab,a.bed,a.frm,a.to,a.dog⟩ ⟨b.party,b.sex,b.cab,b.bed,b.frm,b.to,b.dog⟩=j6 a b:=rfl
 repeat' (first|(apply nx;with_reducible constructor)|refine jq (by decide) ?_|((first|refine kz env fun Q hQ=>?_|refine kj fun Q hQ=>?_);simp only [vkt,seval,Qfe,K3,aTk,cTk,Wq,em,ite_and];(repeat' first|with_reducible assumption|apply kk|intro hp);all_goals (first|(refine hQ _ ?_;clear hQ Q)|(refine hQ _ (fun h=>?_) (fun h=>?_) <;> clear hQ Q <;> (try simp only [vki,reduceCtorEq] at h))|(refine kx ?_;kernel_rfl)|omega|assumption|with_reducible rfl|skip)))
 all_goals (simp only [vrt,Tryz.results121,vkt,seval,K3];refine Fin.val rfl ?_;(try simp only [AV.le]))
 all_goals first|(simp [vT, *];done)|(simp_all [vT];done)
def QaC:List AV→Prop × AV
 |[.agg [.v (.int .i64 a0),.v (.int .i64 a1),.v (.int .i64 a2),.v (.int .i64 a3),.v (.int .i64 a4),.v (.int .i64 a5),.v (.bool a6)],.agg [.v (.int .i64 b0),.v (.int .i64 b1),.v (.int .i64 b2),.v (.int .i64 b3),.v (.int .i64 b4),.v (.int .i64 b5),.v (.bool b6)]]=>(True,aB (vT (⟨a0,a1,a2,a3,a4,a5,a6⟩:Tk) (⟨b0,b1,b2,b3,b4,b5,b6⟩:Tk)))
 |_=>(False,.junk)
theorem ertog {A:Frm→Prop}:qm A Tryz.prog 121 (qG true QaC):=qH fun vs hv h=>by
 clear hv
 unfold QaC at h ⊢
 split at h
 ·rename_i a0 a1 a2 a3 a4 a5 a6 b0 b1 b2 b3 b4 b5 b6;clear h
  refine ⟨by first|trivial|(repeat' split) <;> simp [AV.plain,AV.plainL,aI,aB,ql,qb,qp,qx,aTk,cTk],fun _=>(by simp [AV.flat,aB]), ?_⟩
  have:=Qji (⟨a0,a1,a2,a3,a4,a5,a6⟩:Tk) (⟨b0,b1,b2,b3,b4,b5,b6⟩:Tk)
  simp only [aB,aTk,cTk] at this
  first|exact this|(simp only [aB,aI,aTk,cTk];exact this)
 ·exact h.elim
def QhY:=kk @ty3 (kk @wh (kk @ti3.eq_1 @zQ.eq_1))
def R9:=kk @aI.eq_1 (@aB.eq_1)
theorem QlW (c:Chart) (a b:Int):FnV Tryz.prog 78 [qd c,aI a,aI b] (aI (xY c.secs a b)):=by
 have env:Env (fun _=>True) Tryz.prog tyB (tab []):=qA trivial
 refine Fn.of (A:=fun _=>True) (n0:=0) (D:=noD) (Fn0 Tryz.func78 rfl (fun vs w=>by kernel_rfl) (by kernel_rfl)) (by simp) (by simp [AV.ids,AV.idsL,aI,qd,qa]) (fun i o h=>by cases h) (fun _ _ _ _=>trivial) qw ?_
 repeat' (first|(apply nx;with_reducible constructor)|refine jq (by decide) ?_|((first|refine kz env fun Q hQ=>?_|refine kj fun Q hQ=>?_);simp only [vkt,seval,QhY,R9,qd,qa,ite_and];(repeat' first|with_reducible assumption|apply kk|intro hp);all_goals (first|(refine hQ _ ?_;clear hQ Q)|(refine hQ _ (fun h=>?_) (fun h=>?_) <;> clear hQ Q <;> (try simp only [vki,reduceCtorEq] at h))|(refine kx ?_;kernel_rfl)|omega|assumption|with_reducible rfl|skip)))
 all_goals (simp only [vrt,Tryz.results78,vkt,seval,R9];refine Fin.val rfl ?_;(try simp only [AV.le]))
 all_goals (unfold xY;simp [*])
 all_goals omega
def K8:List AV→Prop × AV
 |[.agg [.sl c0,.v (.int .i64 c1),.sl c2],.v (.int .i64 a),.v (.int .i64 b)]=>(c0=(c0.map qj).map qz∧c2=(c2.map dTk).map eTk,aI (xY c1 a b))
 |_=>(False,.junk)
theorem eway {A:Frm→Prop}:qm A Tryz.prog 78 (qG true K8):=qH fun vs hv h=>by
 clear hv
 unfold K8 at h ⊢
 split at h
 ·rename_i c0 c1 c2 a b;obtain ⟨q0,q1⟩:=h
  refine ⟨by first|trivial|(repeat' split) <;> simp [AV.plain,AV.plainL,aI,aB,ql,qb,qp,qx,aTk,cTk],fun _=>(by simp [AV.flat,aI]), ?_⟩
  have:=QlW ⟨c0.map qj,c1,c2.map dTk⟩ a b
  simp only [qd,aI,qa,← q0,← q1] at this
  first|exact this|(simp only [zB,qd,aI,qp,qa,← q0,← q1];exact this)
 ·exact h.elim
def QeM:=kk @ty3 (kk @wh (kk @ti3.eq_1 @zQ.eq_1))
theorem Qke (c:Chart) (a b:Int):FnV Tryz.prog 84 [qd c,aI a,aI b] (aI (xY c.secs a b)):=by
 have env:Env (fun _=>True) Tryz.prog tyB (tab []):=qA trivial
 refine Fn.of (A:=fun _=>True) (n0:=0) (D:=noD) (Fn0 Tryz.func84 rfl (fun vs w=>by kernel_rfl) (by kernel_rfl)) (by simp) (by simp [AV.ids,AV.idsL,aI,qd,qa]) (fun i o h=>by cases h) (fun _ _ _ _=>trivial) qw ?_
 repeat' (first|(apply nx;with_reducible constructor)|refine jq (by decide) ?_|((first|refine kz env fun Q hQ=>?_|refine kj fun Q hQ=>?_);simp only [vkt,seval,QeM,R9,qd,qa,ite_and];(repeat' first|with_reducible assumption|apply kk|intro hp);all_goals (first|(refine hQ _ ?_;clear hQ Q)|(refine hQ _ (fun h=>?_) (fun h=>?_) <;> clear hQ Q <;> (try simp only [vki,reduceCtorEq] at h))|(refine kx ?_;kernel_rfl)|omega|assumption|with_reducible rfl|skip)))
 all_goals (simp only [vrt,Tryz.results84,vkt,seval,R9];refine Fin.val rfl ?_;(try simp only [AV.le]))
 all_goals (unfold xY;simp [*])
 all_goals omega
def Wl:List AV→Prop × AV
 |[.agg [.sl c0,.v (.int .i64 c1),.sl c2],.v (.int .i64 a),.v (.int .i64 b)]=>(c0=(c0.map qj).map qz∧c2=(c2.map dTk).map eTk,aI (xY c1 a b))
 |_=>(False,.junk)
theorem QkS {A:Frm→Prop}:qm A Tryz.prog 84 (qG true Wl):=qH fun vs hv h=>by
 clear hv
 unfold Wl at h ⊢
 split at h
 ·rename_i c0 c1 c2 a b;obtain ⟨q0,q1⟩:=h
  refine ⟨by first|trivial|(repeat' split) <;> simp [AV.plain,AV.plainL,aI,aB,ql,qb,qp,qx,aTk,cTk],fun _=>(by simp [AV.flat,aI]), ?_⟩
  have:=Qke ⟨c0.map qj,c1,c2.map dTk⟩ a b
  simp only [qd,aI,qa,← q0,← q1] at this
  first|exact this|(simp only [zB,qd,aI,qp,qa,← q0,← q1];exact this)
 ·exact h.elim
theorem Qa2 {α β:Type} (f:α→List β) (d:β) (da:α):∀ (l:List α) (i k:Nat),i < l.length→k < (f (l.getD i da)).length→(l.flatMap f).getD (((l.take i).map fun a=>(f a).length).sum+k) d=(f (l.getD i da)).getD k d
 |[],i,_,h,_=>by simp at h
 |a :: l,0,k,_,hk=>by
  have hk:k < (f a).length:=hk
  rw [List.flatMap_cons,List.take_zero,List.map_nil,List.sum_nil,Nat.zero_add,List.getD_eq_getElem?_getD,List.getElem?_append_left hk,← List.getD_eq_getElem?_getD]
  rfl
 |a :: l,i+1,k,h,hk=>by
  have ih:=Qa2 f d da l i k (by simpa using h) (by simpa using hk)
  rw [List.flatMap_cons,List.take_succ_cons,List.map_cons,List.sum_cons,List.getD_eq_getElem?_getD,List.getElem?_append_right (by omega),← List.getD_eq_getElem?_getD,show (f a).length+((l.take i).map fun a=>(f a).length).sum+k - (f a).length=((l.take i).map fun a=>(f a).length).sum+k by omega,ih]
  rfl
theorem QgB {α β:Type} (f:α→List β) (l:List α):(l.flatMap f).length=(l.map fun a=>(f a).length).sum:=by
 rw [List.length_flatMap]
theorem WY {g:List Nat} {i:Nat} (h:i < g.length):(g.take (i+1)).sum=(g.take i).sum+g.getD i 0:=by
 rw [List.take_succ_eq_append_getElem h,List.sum_append]
 simp [List.getD_eq_getElem?_getD,h]
theorem xg {g:List Nat}:∀ {i j:Nat},i≤j→(g.take i).sum≤(g.take j).sum:=by
 induction g with
 |nil=>simp
 |cons a g ih =>
  intro i j h
  cases i with
  |zero=>simp
  |succ i =>
   cases j with
   |zero=>omega
   |succ j =>
    simp only [List.take_succ_cons,List.sum_cons]
    have:=ih (show i≤j by omega)
    omega
theorem Qaa:∀ (g:List Nat) (q:Nat),q < g.sum→∃ i,i < g.length∧(g.take i).sum≤q∧q < (g.take (i+1)).sum
 |[],q,h=>by simp at h
 |a :: g,q,h=>by
  rw [List.sum_cons] at h
  by_cases h1:q < a
  ·exact ⟨0,by simp,by simp,by simpa using h1⟩
  ·obtain ⟨i,h2,h3,h4⟩:=Qaa g (q - a) (by omega)
   refine ⟨i+1,by simpa using h2, ?_, ?_⟩
   ·rw [List.take_succ_cons,List.sum_cons];omega
   ·rw [List.take_succ_cons,List.sum_cons];omega
def vR (ans:Nat→Bool) (R:Nat):Bool:=decide (R=0) || ans (R - 1)
theorem nest (g:List Nat) {ans:Nat→Bool} {R:Nat} (h:Rounds ans R g.sum):∃ (RB:Nat) (ansB:Nat→Bool),Rounds ansB RB g.length ∧
  (∀ i,i < RB→(g.take i).sum≤R∧Rounds (fun j=>ans ((g.take i).sum+j)) (min (g.getD i 0) (R - (g.take i).sum)) (g.getD i 0)∧ansB i=vR (fun j=>ans ((g.take i).sum+j)) (min (g.getD i 0) (R - (g.take i).sum)) ∧
   min (g.take (i+1)).sum R=(g.take i).sum+min (g.getD i 0) (R - (g.take i).sum))∧min (g.take RB).sum R=R∧vR ans R=vR ansB RB:=by
 have hle:=h.le
 by_cases hB:0 < R∧ans (R - 1)=false
 ·obtain ⟨hR,hf⟩:=hB
  obtain ⟨i,hi,h1,h2⟩:=Qaa g (R - 1) (by omega)
  refine ⟨i+1,fun k=>decide (k ≠ i),⟨hi,fun j hj=>by simp;omega,fun _=>⟨by omega,by simp⟩⟩,fun k hk=>?_,by omega, ?_⟩
  ·have hkl:k < g.length:=by omega
   have ho:=xg (g:=g) (show k≤i by omega)
   have hs:=WY hkl
   have hoR:(g.take k).sum≤R:=by omega
   refine ⟨hoR,⟨Nat.min_le_left _ _,fun j hj=>h.yes _ (by omega),fun hlt=>⟨by omega, ?_⟩⟩, ?_,by omega⟩
   ·show ans _=false
    rw [show (g.take k).sum+(min (g.getD k 0) (R - (g.take k).sum) - 1)=R - 1 by omega];exact hf
   ·by_cases hki:k=i
    ·subst hki
     have e:(g.take k).sum+(min (g.getD k 0) (R - (g.take k).sum) - 1)=R - 1:=by omega
     have e0:¬ min (g.getD k 0) (R - (g.take k).sum)=0:=by omega
     simp only [vR,e,hf,e0,ne_eq,not_true_eq_false,decide_false,Bool.or_self]
    ·have h3:=xg (g:=g) (show k+1≤i by omega)
     have e1:min (g.getD k 0) (R - (g.take k).sum)=g.getD k 0:=by omega
     rw [e1]
     by_cases h0:g.getD k 0=0
     ·simp [-List.getD_eq_getElem?_getD,vR,h0,hki]
     ·have:=h.yes ((g.take k).sum+(g.getD k 0 - 1)) (by omega)
      simp [-List.getD_eq_getElem?_getD,vR,h0,hki,this]
  ·simp [vR,hf,show ¬ R=0 by omega]
 ·have hRN:R=g.sum:=by
   refine Nat.le_antisymm hle (Nat.le_of_not_lt fun hlt=>?_)
   exact hB (h.stop hlt)
  have hall:∀ j,j < R→ans j=true:=fun j hj=>by
   by_cases hj1:j+1 < R
   ·exact h.yes j hj1
   ·have:j=R - 1:=by omega
    subst this
    cases ha:ans (R - 1) with
    |true=>rfl
    |false=>exact absurd ⟨by omega,ha⟩ hB
  have hfull:(g.take g.length).sum=g.sum:=by rw [List.take_length]
  refine ⟨g.length,fun _=>true,⟨Nat.le_refl _,fun _ _=>rfl,fun h=>absurd h (Nat.lt_irrefl _)⟩,fun k hk=>?_,by omega, ?_⟩
  ·have hs:=WY hk
   have h3:=xg (g:=g) (show k+1≤g.length by omega)
   have e1:min (g.getD k 0) (R - (g.take k).sum)=g.getD k 0:=by omega
   refine ⟨by omega, ?_, ?_,by omega⟩
   ·rw [e1]
    exact ⟨Nat.le_refl _,fun j hj=>hall _ (by omega),fun h=>absurd h (Nat.lt_irrefl _)⟩
   ·rw [e1]
    by_cases h0:g.getD k 0=0
    ·simp [-List.getD_eq_getElem?_getD,vR,h0]
    ·simp [-List.getD_eq_getElem?_getD,vR,h0,hall ((g.take k).sum+(g.getD k 0 - 1)) (by omega)]
  ·by_cases h0:R=0
   ·simp [vR,h0]
   ·simp [vR,hall (R - 1) (by omega)]
def kZ (cs:List Cabin):List Nat:=cs.map fun x=>x.beds.toNat
theorem Jr (cs:List Cabin):qK cs=(List.range cs.length).flatMap fun i=>(List.range (cs.getD i default).beds.toNat).map fun (k:Nat)=>(⟨(i:Int),(k:Int)⟩:Bunk):=rfl
theorem QaM (cs:List Cabin) {i:Nat} (hi:i≤cs.length):(((List.range cs.length).take i).map fun (j:Nat)=>(List.map (fun (k:Nat)=>(⟨(j:Int),(k:Int)⟩:Bunk)) (List.range (cs.getD j default).beds.toNat)).length)=(kZ cs).take i:=by
 apply List.ext_getElem
 ·simp [kZ]
 ·intro n h1 h2
  simp only [List.length_map,List.length_take,List.length_range] at h1
  have hn:n < cs.length:=by omega
  simp [kZ,List.getD_eq_getElem?_getD,hn]
theorem KA (cs:List Cabin):(qK cs).length=(kZ cs).sum:=by
 rw [Jr,QgB]
 have:=QaM cs (Nat.le_refl cs.length)
 rw [List.take_of_length_le (by simp),List.take_of_length_le (by simp [kZ])] at this
 rw [this]
theorem Qe5 {cs:List Cabin} {i k:Nat} (hi:i < cs.length) (hk:k < (cs.getD i default).beds.toNat):(qK cs).getD (((kZ cs).take i).sum+k) default=⟨(i:Int),(k:Int)⟩:=by
 have hr:(List.range cs.length).getD i 0=i:=by simp [List.getD_eq_getElem?_getD,hi]
 have:=Qa2 (fun i=>(List.range (cs.getD i default).beds.toNat).map fun (k:Nat)=>(⟨(i:Int),(k:Int)⟩:Bunk)) default 0 (List.range cs.length) i k (by simpa using hi) (by rw [hr];simpa using hk)
 rw [QaM cs (by omega),hr] at this
 rw [Jr,this]
 generalize (cs.getD i default).beds.toNat=m at hk ⊢
 simp [List.getD_eq_getElem?_getD,hk]
theorem VK {cs:List Cabin} {b:Bunk}:b ∈ qK cs ↔ ∃ i k:Nat,i < cs.length∧k < (cs.getD i default).beds.toNat∧b=⟨(i:Int),(k:Int)⟩:=by
 rw [Jr,List.mem_flatMap]
 constructor
 ·rintro ⟨i,hi,hb⟩
  obtain ⟨k,hk,rfl⟩:=List.mem_map.1 hb
  exact ⟨i,k,List.mem_range.1 hi,List.mem_range.1 hk,rfl⟩
 ·rintro ⟨i,k,hi,hk,rfl⟩
  exact ⟨i,List.mem_range.2 hi,List.mem_map.2 ⟨k,List.mem_range.2 hk,rfl⟩⟩
theorem QjB {cs:List Cabin} {i:Nat} (hi:i < cs.length):(kZ cs).getD i 0=(cs.getD i default).beds.toNat:=by
 simp [kZ,List.getD_eq_getElem?_getD,hi]
def U1 (p:Tk→Bool) (l:List Tk):Int:=match l.findIdx? p with
 |some i=>(i:Int)
 |none=>-1
theorem Qge {p:Tk→Bool} {l:List Tk} {k:Nat} (hk:k < l.length) (h:∀ j,j < k→p (l.getD j default)=false) (hp:p (l.getD k default)=true):U1 p l=(k:Int):=by
 have:l.findIdx? p=some k:=by
  rw [List.findIdx?_eq_some_iff_getElem]
  refine ⟨hk,by simpa [List.getD_eq_getElem?_getD,hk] using hp,fun j hj=>?_⟩
  have:=h j hj
  simpa [List.getD_eq_getElem?_getD,show j < l.length by omega] using this
 simp [U1,this]
theorem QeR {p:Tk→Bool} {l:List Tk} (h:∀ j,j < l.length→p (l.getD j default)=false):U1 p l=-1:=by
 have:l.findIdx? p=none:=by
  rw [List.findIdx?_eq_none_iff]
  intro x hx
  obtain ⟨j,hj,rfl⟩:=List.mem_iff_getElem.1 hx
  have:=h j hj
  simpa [List.getD_eq_getElem?_getD,hj] using this
 simp [U1,this]
theorem Qg0 (p:Tk→Bool) (l:List Tk):decide (0≤U1 p l)=l.any p:=by
 unfold U1
 cases h:l.findIdx? p with
 |none =>
  rw [List.findIdx?_eq_none_iff] at h
  symm
  simpa using h
 |some i =>
  rw [List.findIdx?_eq_some_iff_getElem] at h
  obtain ⟨hi,hp,_⟩:=h
  symm
  simp only [Int.natCast_nonneg,decide_true,List.any_eq_true]
  exact ⟨_,List.getElem_mem hi,hp⟩
structure PCs (cs:List AV):Prop where
 ids:AV.idsL cs=[]
 le:∀ h σ,AV.leL h σ cs cs=True
 ren:∀ τ,AV.renL τ cs=cs
theorem Qhb (t:Tk):PCs (cTk t):=⟨by simp [cTk,AV.idsL,AV.ids],by simp [cTk,AV.leL,AV.le],by simp [cTk,AV.renL,AV.ren]⟩
def pTk (cs:List AV) (p:Tk→Bool) (S:St):List AV→Option Pk
 |[.agg [.v (.int .i64 a),.v (.int .i64 b),.v (.int .i64 c),.v (.int .i64 d),.v (.int .i64 e),.v (.int .i64 f),.v (.bool g)],.ptr t 0]=>match S.h t with
  |some (.cells cs')=>some { pre:=cs'=cs,hs:=[t],ar:=[.agg [.v (.int .i64 a),.v (.int .i64 b),.v (.int .i64 c),.v (.int .i64 d),.v (.int .i64 e),.v (.int .i64 f),.v (.bool g)],.ptr 0 0],L0:=[.cells cs],v:=aB (p ⟨a,b,c,d,e,f,g⟩),L1:=[some (.cells cs)] }
  |_=>none
 |_=>none
def WH (cl:Nat) (cs:List AV) (p:Tk→Bool):Prop:=∀ x,Fn noB Tryz.prog cl [aTk x,.ptr 0 0] (qc [(0,.cells cs)]) (aB (p x)) (qc [(0,.cells cs)]) 0
theorem eTkp {A:Frm→Prop} {cl:Nat} {cs:List AV} {p:Tk→Bool} (h0:WH cl cs p):qm A Tryz.prog cl (fnE (pTk cs p)):=qZ fun S bs q h hp=>by
 unfold pTk at h
 split at h
 ·split at h
  ·rename_i a b c d e f g t _ cs' _
   cases h
   exact h0 ⟨a,b,c,d,e,f,g⟩
  ·cases h
 ·cases h
def ixS (l:List Tk) (cl:Nat) (cs:List AV) (k:Nat):St:={ t:=asg [(0,qp l),(1,.clo cl [.ptr 0 0]),(4,aI 0),(6,qp l),(7,aI l.length),(8,aI k)],h:=qc [(0,.cells cs)],n:=1,m:=1 }
def QA:=kk @ty3 (kk @yP (kk @wP (kk @ti3.eq_1 (kk @yh.eq_1 @wI.eq_1))))
def WA:=kk @aI.eq_1 (kk @aB.eq_1 (@ixS.eq_1))
theorem Qhr {cl:Nat} {cs:List AV} {p:Tk→Bool} (hc:PCs cs) (h0:WH cl cs p) (l:List Tk) (hl:l.length≤100):Fn noB Tryz.prog 123 [qp l,.clo cl [.ptr 0 0]] (qc [(0,.cells cs)]) (aI (U1 p l)) (qc [(0,.cells cs)]) 0:=by
 have env:Env (fun _=>True) Tryz.prog tyB (tab [(cl,fnE (pTk cs p))]):=qA ⟨eTkp h0,trivial⟩
 obtain ⟨c1,c2,c4⟩:=hc
 refine Fn.of (A:=fun _=>True) (n0:=1) (D:=noD) (Fn0 Tryz.func123 rfl (fun vs w=>by kernel_rfl) (by kernel_rfl)) (by simp) (by simp [AV.ids,AV.idsL,qp]) ?_ (fun _ _ _ _=>trivial) qw ?_
 ·intro i o hi
  have h:=qF hi
  simp at h;obtain ⟨rfl,rfl⟩:=h;simp [AObj.ids,c1]
 repeat' (first|(apply nx;with_reducible constructor)|refine jq (by decide) ?_|((first|refine kz env fun Q hQ=>?_|refine kj fun Q hQ=>?_);simp only [vkt,seval,QA,qp,ite_and];(repeat' first|with_reducible assumption|apply kk|intro hp);all_goals (first|(refine hQ _ ?_;clear hQ Q)|(refine hQ _ (fun h=>?_) (fun h=>?_) <;> clear hQ Q <;> (try simp only [vki,reduceCtorEq] at h))|(refine kx ?_;kernel_rfl)|omega|assumption|with_reducible rfl|skip)))
 refine qC (fun k:{ k:Nat // k≤l.length∧∀ j,j < k→p (l.getD j default)=false }=>ixS l cl cs k.1) (fun k=>l.length - k.1) ⟨0,Nat.zero_le _,fun j h=>absurd h (Nat.not_lt_zero _)⟩ ?_ fun ⟨k,hk,hno⟩=>?_
 ·(refine Le.ok some [] ?_;constructor;all_goals (try simp only [vle,vkt,seval,WA,qp]))
  all_goals first|rfl|(simp [c1,c2];done)
 ·repeat' (first|(apply nx;with_reducible constructor)|refine jq (by decide) ?_)
  (refine kz env fun Q hQ=>?_;simp only [vkt,seval,QA,WA,qp,ite_and];(repeat' first|with_reducible assumption|apply kk|intro hp);all_goals (first|(refine hQ _ ?_;clear hQ Q)|(refine kx ?_;kernel_rfl)|omega|assumption|with_reducible rfl|skip))
  repeat' (first|(apply nx;with_reducible constructor)|refine jq (by decide) ?_)
  (refine wQ (by simp only [vkt,seval];rfl) (fun h=>?_) (fun h=>?_) <;> (try simp only [vki] at h))
  ·have hlt:k < l.length:=by omega
   have e9:=k9 k (by omega)
   obtain ⟨x,hx⟩:∃ x,l.getD k default=x:=⟨_,rfl⟩
   have ex:(⟨x.party,x.sex,x.cab,x.bed,x.frm,x.to,x.dog⟩:Tk)=x:=rfl
   cases hp:p x
   ·repeat' (first|(apply nx;with_reducible constructor)|refine jq (by decide) ?_|((first|refine kz env fun Q hQ=>?_|refine kj fun Q hQ=>?_);simp only [vkt,seval,QA,WA,eTk,gTk,pTk,hx,ex,hp,e9,c1,c2,c4,ite_and];(repeat' first|with_reducible assumption|apply kk|intro hp);all_goals (first|(refine hQ _ ?_;clear hQ Q)|(refine hQ _ (fun h=>?_) (fun h=>?_) <;> clear hQ Q <;> (try simp only [reduceCtorEq] at h))|(refine kx ?_;kernel_rfl)|omega|assumption|with_reducible rfl|skip)))
    refine ⟨⟨k+1,hlt,fun j hj=>?_⟩,by show l.length - (k+1) < l.length - k;omega, ?_⟩
    ·rcases Nat.lt_or_eq_of_le (Nat.le_of_lt_succ hj) with h1|h1
     ·exact hno j h1
     ·rw [h1,hx];exact hp
    ·(refine Le.ok some [] ?_;constructor;all_goals (try simp only [vle,vkt,seval,WA,qp]))
     all_goals first|rfl|(simp [c1,c2];done)
   ·have hh:=Qge hlt hno (by rw [hx];exact hp)
    rw [hh]
    repeat' (first|(apply nx;with_reducible constructor)|refine jq (by decide) ?_|((first|refine kz env fun Q hQ=>?_|refine kj fun Q hQ=>?_);simp only [vkt,seval,QA,WA,eTk,gTk,pTk,hx,ex,hp,c1,c2,c4,ite_and];(repeat' first|with_reducible assumption|apply kk|intro hp);all_goals (first|(refine hQ _ ?_;clear hQ Q)|(refine hQ _ (fun h=>?_) (fun h=>?_) <;> clear hQ Q <;> (try simp only [reduceCtorEq] at h))|(refine kx ?_;kernel_rfl)|omega|assumption|with_reducible rfl|skip)))
    (simp only [vrt,Tryz.results123,vkt,seval,WA];refine Fin.ok some [] ?_ ?_ ?_ ?_ ?_ rfl;all_goals (try simp only [vle,vkt,seval]))
    all_goals first|rfl|(simp [c2];done)
  ·have hke:k=l.length:=by omega
   subst hke
   rw [QeR hno]
   repeat' (first|(apply nx;with_reducible constructor)|refine jq (by decide) ?_|((first|refine kz env fun Q hQ=>?_|refine kj fun Q hQ=>?_);simp only [vkt,seval,ite_and];(repeat' first|with_reducible assumption|apply kk|intro hp);all_goals (first|(refine hQ _ ?_;clear hQ Q)|(refine hQ _ (fun h=>?_) (fun h=>?_) <;> clear hQ Q <;> (try simp only [vki,reduceCtorEq] at h))|(refine kx ?_;kernel_rfl)|omega|assumption|with_reducible rfl|skip)))
   (simp only [vrt,Tryz.results123,vkt,seval,WA];refine Fin.ok some [] ?_ ?_ ?_ ?_ ?_ rfl;all_goals (try simp only [vle,vkt,seval]))
   all_goals first|rfl|(simp [c2];done)
def pIdx (cl:Nat) (cs:List AV) (p:Tk→Bool) (S:St):List AV→Option Pk
 |[.sl xs,.clo f [.ptr t 0]]=>match S.h t with
  |some (.cells cs')=>some { pre:=f=cl∧cs'=cs∧xs=(xs.map dTk).map eTk∧xs.length≤100,hs:=[t],ar:=[.sl xs,.clo cl [.ptr 0 0]],L0:=[.cells cs],v:=aI (U1 p (xs.map dTk)),L1:=[some (.cells cs)] }
  |_=>none
 |_=>none
theorem eIdx {A:Frm→Prop} {cl:Nat} {cs:List AV} {p:Tk→Bool} (hc:PCs cs) (h0:WH cl cs p):qm A Tryz.prog 123 (fnE (pIdx cl cs p)):=qZ fun S bs q h hp=>by
 unfold pIdx at h
 split at h
 ·split at h
  ·cases h
   obtain ⟨_,_,h1,h2⟩:=hp
   have:=Qhr hc h0 (List.map dTk _) (by rw [List.length_map];exact h2)
   rw [qp,← h1] at this
   exact this
  ·cases h
 ·cases h
def Qe6:=kk @ty3 @ti3.eq_1
def Qgy:=kk @aI.eq_1 (@aB.eq_1)
theorem Rj {cl:Nat} {cs:List AV} {p:Tk→Bool} (hc:PCs cs) (h0:WH cl cs p) (l:List Tk) (hl:l.length≤100):Fn noB Tryz.prog 124 [qp l,.clo cl [.ptr 0 0]] (qc [(0,.cells cs)]) (aB (l.any p)) (qc [(0,.cells cs)]) 0:=by
 have env:Env (fun _=>True) Tryz.prog tyB (tab [(123,fnE (pIdx cl cs p))]):=qA ⟨eIdx hc h0,trivial⟩
 obtain ⟨c1,c2,c4⟩:=hc
 refine Fn.of (A:=fun _=>True) (n0:=1) (D:=noD) (Fn0 Tryz.func124 rfl (fun vs w=>by kernel_rfl) (by kernel_rfl)) (by simp) (by simp [AV.ids,AV.idsL,qp]) ?_ (fun _ _ _ _=>trivial) qw ?_
 ·intro i o hi
  have h:=qF hi
  simp at h;obtain ⟨rfl,rfl⟩:=h;simp [AObj.ids,c1]
 repeat' (first|(apply nx;with_reducible constructor)|refine jq (by decide) ?_|((first|refine kz env fun Q hQ=>?_|refine kj fun Q hQ=>?_);simp only [vkt,seval,Qe6,Qgy,qp,mTk,pIdx,c1,c2,c4,ite_and];(repeat' first|with_reducible assumption|apply kk|intro hp);all_goals (first|(refine hQ _ ?_;clear hQ Q)|(refine hQ _ (fun h=>?_) (fun h=>?_) <;> clear hQ Q <;> (try simp only [vki,reduceCtorEq] at h))|(refine kx ?_;kernel_rfl)|omega|assumption|with_reducible rfl|skip)))
 (simp only [vrt,Tryz.results124,Qg0,vkt,seval,Qgy];refine Fin.ok some [] ?_ ?_ ?_ ?_ ?_ rfl;all_goals (try simp only [vle,vkt,seval]))
 all_goals first|rfl|(simp [c2];done)
def Qfl:=kk @yu (kk @wP (kk @jQ.eq_1 @wI.eq_1))
def RU:=kk @aI.eq_1 (@aB.eq_1)
theorem Qjf (t:Tk):WH 136 (cTk t) (jR t):=fun x=>by
 have env:Env (fun _=>True) Tryz.prog tyB (tab [(137,qG true X7)]):=qA ⟨QkU,trivial⟩
 refine Fn.of (A:=fun _=>True) (n0:=1) (D:=noD) (Fn0 Tryz.func136 rfl (fun vs w=>by kernel_rfl) (by kernel_rfl)) (by simp) (by simp [AV.ids,AV.idsL,aTk,cTk]) ?_ (fun _ _ _ _=>trivial) qw ?_
 ·intro i o hi
  have h:=qF hi
  simp at h;obtain ⟨rfl,rfl⟩:=h;simp [cTk,AObj.ids,AV.ids,AV.idsL]
 have em:j6 ⟨x.party,x.sex,x.cab,x.bed,x.frm,x.to,x.dog⟩ ⟨t.party,t.sex,t.cab,t.bed,t.frm,t.to,t.dog⟩=j6 x t:=rfl
 repeat' (first|(apply nx;with_reducible constructor)|refine jq (by decide) ?_|((first|refine kz env fun Q hQ=>?_|refine kj fun Q hQ=>?_);simp only [vkt,seval,Qfl,RU,aTk,cTk,X7,em,ite_and];(repeat' first|with_reducible assumption|apply kk|intro hp);all_goals (first|(refine hQ _ ?_;clear hQ Q)|(refine hQ _ (fun h=>?_) (fun h=>?_) <;> clear hQ Q <;> (try simp only [vki,reduceCtorEq] at h))|(refine kx ?_;kernel_rfl)|omega|assumption|with_reducible rfl|skip)))
 all_goals (simp only [vrt,Tryz.results136,vkt,seval,RU,cTk];refine Fin.ok some [] ?_ ?_ ?_ ?_ ?_ rfl;all_goals (try simp only [vle,vkt,seval]))
 all_goals first|rfl|(simp [jR, *];done)|(simp_all [jR];done)
def QeA:=kk @wP @wI.eq_1
theorem QiZ (t:Tk):WH 138 (cTk t) (fun x=>!vT x t):=fun x=>by
 have env:Env (fun _=>True) Tryz.prog tyB (tab [(139,qG true stog)]):=qA ⟨etog,trivial⟩
 refine Fn.of (A:=fun _=>True) (n0:=1) (D:=noD) (Fn0 Tryz.func138 rfl (fun vs w=>by kernel_rfl) (by kernel_rfl)) (by simp) (by simp [AV.ids,AV.idsL,aTk,cTk]) ?_ (fun _ _ _ _=>trivial) qw ?_
 ·intro i o hi
  have h:=qF hi
  simp at h;obtain ⟨rfl,rfl⟩:=h;simp [cTk,AObj.ids,AV.ids,AV.idsL]
 have em:vT ⟨x.party,x.sex,x.cab,x.bed,x.frm,x.to,x.dog⟩ ⟨t.party,t.sex,t.cab,t.bed,t.frm,t.to,t.dog⟩=vT x t:=rfl
 repeat' (first|(apply nx;with_reducible constructor)|refine jq (by decide) ?_|((first|refine kz env fun Q hQ=>?_|refine kj fun Q hQ=>?_);simp only [vkt,seval,QeA,RU,aTk,cTk,stog,em,ite_and];(repeat' first|with_reducible assumption|apply kk|intro hp);all_goals (first|(refine hQ _ ?_;clear hQ Q)|(refine hQ _ (fun h=>?_) (fun h=>?_) <;> clear hQ Q <;> (try simp only [vki,reduceCtorEq] at h))|(refine kx ?_;kernel_rfl)|omega|assumption|with_reducible rfl|skip)))
 all_goals (simp only [vrt,Tryz.results138,vkt,seval,RU,cTk];refine Fin.ok some [] ?_ ?_ ?_ ?_ ?_ rfl;all_goals (try simp only [vle,vkt,seval]))
 all_goals first|rfl|simp
def X3 (S:St):List AV→Option Pk
 |[.sl xs,.clo 136 [.ptr t 0]]=>match S.h t with
  |some (.cells [.v (.int .i64 a),.v (.int .i64 b),.v (.int .i64 c),.v (.int .i64 d),.v (.int .i64 e),.v (.int .i64 f),.v (.bool g)])=>some { pre:=xs=(xs.map dTk).map eTk∧xs.length≤100,hs:=[t],ar:=[.sl xs,.clo 136 [.ptr 0 0]],L0:=[.cells (cTk ⟨a,b,c,d,e,f,g⟩)],v:=aB ((xs.map dTk).any (jR ⟨a,b,c,d,e,f,g⟩)),L1:=[some (.cells (cTk ⟨a,b,c,d,e,f,g⟩))] }
  |_=>none
 |[.sl xs,.clo 138 [.ptr t 0]]=>match S.h t with
  |some (.cells [.v (.int .i64 a),.v (.int .i64 b),.v (.int .i64 c),.v (.int .i64 d),.v (.int .i64 e),.v (.int .i64 f),.v (.bool g)])=>some { pre:=xs=(xs.map dTk).map eTk∧xs.length≤100,hs:=[t],ar:=[.sl xs,.clo 138 [.ptr 0 0]],L0:=[.cells (cTk ⟨a,b,c,d,e,f,g⟩)],v:=aB ((xs.map dTk).any fun x=>!vT x ⟨a,b,c,d,e,f,g⟩),L1:=[some (.cells (cTk ⟨a,b,c,d,e,f,g⟩))] }
  |_=>none
 |_=>none
theorem eCont {A:Frm→Prop}:qm A Tryz.prog 124 (fnE X3):=qZ fun S bs q h hp=>by
 unfold X3 at h
 split at h
 ·split at h
  ·rename_i xs t _ a b c d e f g _
   cases h
   obtain ⟨h1,h2⟩:=hp
   have:=Rj (Qhb ⟨a,b,c,d,e,f,g⟩) (Qjf ⟨a,b,c,d,e,f,g⟩) (xs.map dTk) (by rw [List.length_map];exact h2)
   rw [qp,← h1] at this
   exact this
  ·cases h
 ·split at h
  ·rename_i xs t _ a b c d e f g _
   cases h
   obtain ⟨h1,h2⟩:=hp
   have:=Rj (Qhb ⟨a,b,c,d,e,f,g⟩) (QiZ ⟨a,b,c,d,e,f,g⟩) (xs.map dTk) (by rw [List.length_map];exact h2)
   rw [qp,← h1] at this
   exact this
  ·cases h
 ·cases h
def JR:=kk @aI.eq_1 (@aB.eq_1)
theorem Qff (t:Tk) (l:List Tk) (hl:l.length≤100):FnV Tryz.prog 118 [aTk t,qp l] (aI (zq t l)):=by
 have env:Env (fun _=>True) Tryz.prog tyB (tab [(124,fnE X3)]):=qA ⟨eCont,trivial⟩
 refine Fn.of (A:=fun _=>True) (n0:=0) (D:=noD) (Fn0 Tryz.func118 rfl (fun vs w=>by kernel_rfl) (by kernel_rfl)) (by simp) (by simp [AV.ids,AV.idsL,aTk,cTk,qp]) (fun i o h=>by cases h) (fun _ _ _ _=>trivial) qw ?_
 have et:(⟨t.party,t.sex,t.cab,t.bed,t.frm,t.to,t.dog⟩:Tk)=t:=rfl
 cases h1:l.any (jR t)
 ·cases h2:l.any (fun x=>!vT x t)
  ·rw [show zq t l=0 by simp [zq,h1,h2]]
   repeat' (first|(apply nx;with_reducible constructor)|refine jq (by decide) ?_|((first|refine kz env fun Q hQ=>?_|refine kj fun Q hQ=>?_);simp only [vkt,seval,JR,aTk,cTk,qp,mTk,X3,et,h1,h2,ite_and];(repeat' first|with_reducible assumption|apply kk|intro hp);all_goals (first|(refine hQ _ ?_;clear hQ Q)|(refine hQ _ (fun h=>?_) (fun h=>?_) <;> clear hQ Q <;> (try simp only [reduceCtorEq] at h))|(refine kx ?_;kernel_rfl)|omega|assumption|with_reducible rfl|skip)))
   (simp only [vrt,Tryz.results118,vkt,seval,JR];refine Fin.val rfl ?_;(try simp only [AV.le]))
   all_goals first|rfl|simp
  ·rw [show zq t l=9 by simp [zq,h1,h2]]
   repeat' (first|(apply nx;with_reducible constructor)|refine jq (by decide) ?_|((first|refine kz env fun Q hQ=>?_|refine kj fun Q hQ=>?_);simp only [vkt,seval,JR,aTk,cTk,qp,mTk,X3,et,h1,h2,ite_and];(repeat' first|with_reducible assumption|apply kk|intro hp);all_goals (first|(refine hQ _ ?_;clear hQ Q)|(refine hQ _ (fun h=>?_) (fun h=>?_) <;> clear hQ Q <;> (try simp only [reduceCtorEq] at h))|(refine kx ?_;kernel_rfl)|omega|assumption|with_reducible rfl|skip)))
   (simp only [vrt,Tryz.results118,vkt,seval,JR];refine Fin.val rfl ?_;(try simp only [AV.le]))
   all_goals first|rfl|simp
 ·rw [show zq t l=4 by simp [zq,h1]]
  repeat' (first|(apply nx;with_reducible constructor)|refine jq (by decide) ?_|((first|refine kz env fun Q hQ=>?_|refine kj fun Q hQ=>?_);simp only [vkt,seval,JR,aTk,cTk,qp,mTk,X3,et,h1,ite_and];(repeat' first|with_reducible assumption|apply kk|intro hp);all_goals (first|(refine hQ _ ?_;clear hQ Q)|(refine hQ _ (fun h=>?_) (fun h=>?_) <;> clear hQ Q <;> (try simp only [reduceCtorEq] at h))|(refine kx ?_;kernel_rfl)|omega|assumption|with_reducible rfl|skip)))
  (simp only [vrt,Tryz.results118,vkt,seval,JR];refine Fin.val rfl ?_;(try simp only [AV.le]))
  all_goals first|rfl|simp
def ZK:List AV→Prop × AV
 |[.agg [.v (.int .i64 t0),.v (.int .i64 t1),.v (.int .i64 t2),.v (.int .i64 t3),.v (.int .i64 t4),.v (.int .i64 t5),.v (.bool t6)],.sl l]=>(l=(l.map dTk).map eTk∧(l.map dTk).length≤100,aI (zq (⟨t0,t1,t2,t3,t4,t5,t6⟩:Tk) (l.map dTk)))
 |_=>(False,.junk)
theorem Qdq {A:Frm→Prop}:qm A Tryz.prog 118 (qG true ZK):=qH fun vs hv h=>by
 clear hv
 unfold ZK at h ⊢
 split at h
 ·rename_i t0 t1 t2 t3 t4 t5 t6 l;obtain ⟨q0,k0⟩:=h
  refine ⟨by first|trivial|(repeat' split) <;> simp [AV.plain,AV.plainL,aI,aB,ql,qb,qp,qx,aTk,cTk],fun _=>(by simp [AV.flat,aI]), ?_⟩
  have:=Qff (⟨t0,t1,t2,t3,t4,t5,t6⟩:Tk) (l.map dTk) k0
  simp only [aI,aTk,qp,cTk,← q0] at this
  first|exact this|(simp only [aB,aI,aTk,qp,cTk,← q0];exact this)
 ·exact h.elim
theorem mapD {α:Type} [Inhabited α] {f:α→Int} {l:List α} {j:Nat} (h:j < l.length):(l.map f).getD j 0=f (l.getD j default):=by simp [List.getD_eq_getElem?_getD,h]
theorem Qel {f:Nat→Int} {n j:Nat} (h:j < n):((List.range n).map f).getD j 0=f j:=by simp [List.getD_eq_getElem?_getD,h]
def crS (c:Chart) (k:Nat):St:={ t:=asg [(1,.ptr 0 0),(2,aI 0),(14,.sl (c.cabins.map qz)),(15,aI c.cabins.length),(16,aI k)],h:=qc [(0,.cells (qa c))],n:=1 }
def x9:=kk @ty3 (kk @Za (kk @yP (kk @wh (kk @x8 (kk @wP (kk @Zt (kk @ti3.eq_1 (kk @Qp.eq_1 (kk @yh.eq_1 (kk @zQ.eq_1 (kk @vV.eq_1 (kk @wI.eq_1 @Qd.eq_1))))))))))))
def vw:=kk @aI.eq_1 (@aB.eq_1)
theorem Ql5 (c:Chart) (hc:c.cabins.length≤maxLen):FnV Tryz.prog 113 [qd c] (aI (QL c)):=by
 have env:Env (fun _=>True) Tryz.prog tyB (tab [(77,qG true sin),(91,qG true jm)]):=qA ⟨ein,Y2,trivial⟩
 refine Fn.of (A:=fun _=>True) (n0:=0) (D:=noD) (Fn0 Tryz.func113 rfl (fun vs w=>by kernel_rfl) (by kernel_rfl)) (by simp) (by simp [AV.ids,AV.idsL,qd,qa]) (fun i o h=>by cases h) (fun _ _ _ _=>trivial) qw ?_
 by_cases h1:qR c.cabins.length 1 3=0
 ·have hl:c.cabins.length≤3:=by
   unfold qR at h1
   split at h1
   ·exact absurd h1 (by decide)
   ·split at h1
    ·exact absurd h1 (by decide)
    ·omega
  repeat' (first|(apply nx;with_reducible constructor)|refine jq (by decide) ?_|((first|refine kz env fun Q hQ=>?_|refine kj fun Q hQ=>?_);simp only [vkt,seval,x9,vw,qd,qa,jm,h1,ite_and];(repeat' first|with_reducible assumption|apply kk|intro hp);all_goals (first|(refine hQ _ ?_;clear hQ Q)|(refine hQ _ (fun h=>?_) (fun h=>?_) <;> clear hQ Q <;> (try simp only [vki] at h))|(refine kx ?_;kernel_rfl)|omega|assumption|with_reducible rfl|skip)))
  refine qC (fun k:{ k:Nat // k≤c.cabins.length∧∀ j,j < k→(c.cabins.map vg).getD j 0=0 }=>crS c k.1) (fun k=>c.cabins.length - k.1) ⟨0,Nat.zero_le _,fun j h=>absurd h (Nat.not_lt_zero _)⟩ ?_ fun ⟨k,hk,hno⟩=>?_
  ·(refine Le.ok some [] ?_;constructor;all_goals (try simp only [vle,vkt,seval,vw,qa]))
   all_goals first|rfl|simp
  ·repeat' (first|(apply nx;with_reducible constructor)|refine jq (by decide) ?_)
   (refine kz env fun Q hQ=>?_;simp only [vkt,seval,x9,vw,qa,crS,ite_and];(repeat' first|with_reducible assumption|apply kk|intro hp);all_goals (first|(refine hQ _ ?_;clear hQ Q)|(refine kx ?_;kernel_rfl)|omega|assumption|with_reducible rfl|skip))
   repeat' (first|(apply nx;with_reducible constructor)|refine jq (by decide) ?_)
   (refine wQ (by simp only [vkt,seval];rfl) (fun h=>?_) (fun h=>?_) <;> (try simp only [vki] at h))
   ·have hlt:k < c.cabins.length:=by omega
    have e9:=k9 k (by omega)
    obtain ⟨x,hx⟩:∃ x,c.cabins.getD k default=x:=⟨_,rfl⟩
    have hm:(c.cabins.map vg).getD k 0=vg x:=by rw [mapD hlt,hx]
    cases hb:inB x.beds 1 3
    ·have hE:vg x=1:=by simp [vg,hb]
     have hf:=wU hno (by simpa using hlt) (by rw [hm,hE];decide)
     rw [hm,hE] at hf
     rw [show QL c=1 by unfold QL;rw [if_neg (by rw [h1];simp),hf];simp]
     repeat' (first|(apply nx;with_reducible constructor)|refine jq (by decide) ?_|((first|refine kz env fun Q hQ=>?_|refine kj fun Q hQ=>?_);simp only [vkt,seval,x9,vw,qz,yc,sin,hx,hb,ite_and];(repeat' first|with_reducible assumption|apply kk|intro hp);all_goals (first|(refine hQ _ ?_;clear hQ Q)|(refine hQ _ (fun h=>?_) (fun h=>?_) <;> clear hQ Q <;> (try simp only [reduceCtorEq] at h))|(refine kx ?_;kernel_rfl)|omega|assumption|with_reducible rfl|skip)))
     (simp only [vrt,Tryz.results113,vkt,seval,vw];refine Fin.val rfl ?_;(try simp only [AV.le]))
     all_goals first|rfl|simp
    ·have hE:vg x=0:=by simp [vg,hb]
     repeat' (first|(apply nx;with_reducible constructor)|refine jq (by decide) ?_|((first|refine kz env fun Q hQ=>?_|refine kj fun Q hQ=>?_);simp only [vkt,seval,x9,vw,qz,yc,sin,hx,hb,e9,ite_and];(repeat' first|with_reducible assumption|apply kk|intro hp);all_goals (first|(refine hQ _ ?_;clear hQ Q)|(refine hQ _ (fun h=>?_) (fun h=>?_) <;> clear hQ Q <;> (try simp only [reduceCtorEq] at h))|(refine kx ?_;kernel_rfl)|omega|assumption|with_reducible rfl|skip)))
     refine ⟨⟨k+1,hlt,fun j hj=>?_⟩,by show c.cabins.length - (k+1) < c.cabins.length - k;omega, ?_⟩
     ·rcases Nat.lt_or_eq_of_le (Nat.le_of_lt_succ hj) with h2|h2
      ·exact hno j h2
      ·rw [h2,hm,hE]
     ·(refine Le.ok some [] ?_;constructor;all_goals (try simp only [vle,vkt,seval,vw,qa]))
      all_goals first|rfl|simp
   ·have hke:k=c.cabins.length:=by omega
    subst hke
    have hf:zM (c.cabins.map vg)=0:=wD (by simpa using hno)
    cases hs:inB c.secs 1 5
    ·rw [show QL c=1 by unfold QL;rw [if_neg (by rw [h1];simp),if_neg (by rw [hf];simp),hs];rfl]
     repeat' (first|(apply nx;with_reducible constructor)|refine jq (by decide) ?_|((first|refine kz env fun Q hQ=>?_|refine kj fun Q hQ=>?_);simp only [vkt,seval,x9,vw,sin,hs,ite_and];(repeat' first|with_reducible assumption|apply kk|intro hp);all_goals (first|(refine hQ _ ?_;clear hQ Q)|(refine hQ _ (fun h=>?_) (fun h=>?_) <;> clear hQ Q <;> (try simp only [reduceCtorEq] at h))|(refine kx ?_;kernel_rfl)|omega|assumption|with_reducible rfl|skip)))
     (simp only [vrt,Tryz.results113,vkt,seval,vw];refine Fin.val rfl ?_;(try simp only [AV.le]))
     all_goals first|rfl|simp
    ·rw [show QL c=qR c.sold.length 0 8 by unfold QL;rw [if_neg (by rw [h1];simp),if_neg (by rw [hf];simp),hs];rfl]
     repeat' (first|(apply nx;with_reducible constructor)|refine jq (by decide) ?_|((first|refine kz env fun Q hQ=>?_|refine kj fun Q hQ=>?_);simp only [vkt,seval,x9,vw,sin,jm,hs,ite_and];(repeat' first|with_reducible assumption|apply kk|intro hp);all_goals (first|(refine hQ _ ?_;clear hQ Q)|(refine hQ _ (fun h=>?_) (fun h=>?_) <;> clear hQ Q <;> (try simp only [reduceCtorEq] at h))|(refine kx ?_;kernel_rfl)|omega|assumption|with_reducible rfl|skip)))
     (simp only [vrt,Tryz.results113,vkt,seval,vw];refine Fin.val rfl ?_;(try simp only [AV.le]))
     all_goals first|rfl|simp
 ·rw [show QL c=qR c.cabins.length 1 3 by unfold QL;rw [if_pos h1]]
  repeat' (first|(apply nx;with_reducible constructor)|refine jq (by decide) ?_|((first|refine kz env fun Q hQ=>?_|refine kj fun Q hQ=>?_);simp only [vkt,seval,x9,vw,qd,qa,jm,h1,ite_and];(repeat' first|with_reducible assumption|apply kk|intro hp);all_goals (first|(refine hQ _ ?_;clear hQ Q)|(refine hQ _ (fun h=>?_) (fun h=>?_) <;> clear hQ Q <;> (try simp only [vki] at h))|(refine kx ?_;kernel_rfl)|omega|assumption|with_reducible rfl|skip)))
  (simp only [vrt,Tryz.results113,vkt,seval,vw];refine Fin.val rfl ?_;(try simp only [AV.le]))
  all_goals first|rfl|simp
def Qh4:List AV→Prop × AV
 |[.agg [.sl c0,.v (.int .i64 c1),.sl c2]]=>(c0=(c0.map qj).map qz∧c2=(c2.map dTk).map eTk∧c0.length≤maxLen,aI (QL (⟨(c0.map qj),c1,(c2.map dTk)⟩:Chart)))
 |_=>(False,.junk)
theorem ecar {A:Frm→Prop}:qm A Tryz.prog 113 (qG true Qh4):=qH fun vs hv h=>by
 clear hv
 unfold Qh4 at h ⊢
 split at h
 ·rename_i c0 c1 c2;obtain ⟨q0,q1,k0⟩:=h
  refine ⟨by first|trivial|(repeat' split) <;> simp [AV.plain,AV.plainL,aI,aB,ql,qb,qp,qx,aTk,cTk],fun _=>(by simp [AV.flat,aI]), ?_⟩
  have:=Ql5 (⟨(c0.map qj),c1,(c2.map dTk)⟩:Chart) (by simpa using k0)
  simp only [qd,aI,qa,← q0,← q1] at this
  first|exact this|(simp only [zB,qd,aI,qp,qa,← q0,← q1];exact this)
 ·exact h.elim
def yI:=kk @ty3 (kk @Za (kk @wh (kk @x8 (kk @yu (kk @wP (kk @Zt (kk @ti3.eq_1 (kk @Qp.eq_1 (kk @zQ.eq_1 (kk @vV.eq_1 (kk @jQ.eq_1 (kk @wI.eq_1 @Qd.eq_1))))))))))))
def xu:=kk @aI.eq_1 (@aB.eq_1)
theorem Qfc (c:Chart) (t:Tk) (l:List Tk) (hc:CarOk c) (hl:l.length≤100):FnV Tryz.prog 114 [qd c,aTk t,qp l] (aI (zf c t l)):=by
 have env:Env (fun _=>True) Tryz.prog tyB (tab [(77,qG true sin),(78,qG true K8),(118,qG true ZK)]):=qA ⟨ein,eway,Qdq,trivial⟩
 refine Fn.of (A:=fun _=>True) (n0:=0) (D:=noD) (Fn0 Tryz.func114 rfl (fun vs w=>by kernel_rfl) (by kernel_rfl)) (by simp) (by simp [AV.ids,AV.idsL,qd,qa,aTk,cTk,qp]) (fun i o h=>by cases h) (fun _ _ _ _=>trivial) qw ?_
 have hcl:=hc.cabs
 have et:(⟨t.party,t.sex,t.cab,t.bed,t.frm,t.to,t.dog⟩:Tk)=t:=rfl
 have w1:IntKind.wrap .i64 ((c.cabins.length:Int) - 1)=(c.cabins.length:Int) - 1:=wrap64 (by omega) (by omega)
 have rest:inB t.party 1 99=true→inB t.sex 1 2=true→zZ c.cabins t.cab t.bed=true→zf c t l=if xY c.secs t.frm t.to ≠ 0 then xY c.secs t.frm t.to else zq t l:=fun a1 a2 a3=>by
  unfold zf;simp [a1,a2,a3]
 cases h1:inB t.party 1 99
 ·rw [show zf c t l=1 by simp [zf,h1]]
  repeat' (first|(apply nx;with_reducible constructor)|refine jq (by decide) ?_|((first|refine kz env fun Q hQ=>?_|refine kj fun Q hQ=>?_);simp only [vkt,seval,yI,xu,qd,qa,aTk,cTk,qp,sin,h1,ite_and];(repeat' first|with_reducible assumption|apply kk|intro hp);all_goals (first|(refine hQ _ ?_;clear hQ Q)|(refine hQ _ (fun h=>?_) (fun h=>?_) <;> clear hQ Q <;> (try simp only [reduceCtorEq] at h))|(refine kx ?_;kernel_rfl)|omega|assumption|with_reducible rfl|skip)))
  (simp only [vrt,Tryz.results114,vkt,seval,xu];refine Fin.val rfl ?_;(try simp only [AV.le]))
  all_goals first|rfl|simp
 cases h2:inB t.sex 1 2
 ·rw [show zf c t l=8 by simp [zf,h1,h2]]
  repeat' (first|(apply nx;with_reducible constructor)|refine jq (by decide) ?_|((first|refine kz env fun Q hQ=>?_|refine kj fun Q hQ=>?_);simp only [vkt,seval,yI,xu,qd,qa,aTk,cTk,qp,sin,h1,h2,ite_and];(repeat' first|with_reducible assumption|apply kk|intro hp);all_goals (first|(refine hQ _ ?_;clear hQ Q)|(refine hQ _ (fun h=>?_) (fun h=>?_) <;> clear hQ Q <;> (try simp only [reduceCtorEq] at h))|(refine kx ?_;kernel_rfl)|omega|assumption|with_reducible rfl|skip)))
  (simp only [vrt,Tryz.results114,vkt,seval,xu];refine Fin.val rfl ?_;(try simp only [AV.le]))
  all_goals first|rfl|simp
 cases h3:inB t.cab 0 ((c.cabins.length:Int) - 1)
 ·rw [show zf c t l=3 by simp [zf,h1,h2,zZ,h3]]
  repeat' (first|(apply nx;with_reducible constructor)|refine jq (by decide) ?_|((first|refine kz env fun Q hQ=>?_|refine kj fun Q hQ=>?_);simp only [vkt,seval,yI,xu,qd,qa,aTk,cTk,qp,sin,h1,h2,h3,w1,ite_and];(repeat' first|with_reducible assumption|apply kk|intro hp);all_goals (first|(refine hQ _ ?_;clear hQ Q)|(refine hQ _ (fun h=>?_) (fun h=>?_) <;> clear hQ Q <;> (try simp only [reduceCtorEq] at h))|(refine kx ?_;kernel_rfl)|omega|assumption|with_reducible rfl|skip)))
  (simp only [vrt,Tryz.results114,vkt,seval,xu];refine Fin.val rfl ?_;(try simp only [AV.le]))
  all_goals first|rfl|simp
 have b3:=zY.1 h3
 have g1:0≤t.cab:=b3.1
 have g2:t.cab.toNat < c.cabins.length:=by omega
 obtain ⟨x,hx⟩:∃ x,c.cabins.getD t.cab.toNat default=x:=⟨_,rfl⟩
 have hxb:=hc.beds _ (wC (d:=default) g2)
 rw [hx] at hxb
 have w2:IntKind.wrap .i64 (x.beds - 1)=x.beds - 1:=wrap64 (by omega) (by omega)
 cases h4:inB t.bed 0 (x.beds - 1)
 ·rw [show zf c t l=3 by simp [-List.getD_eq_getElem?_getD,zf,h1,h2,zZ,h3,hx,h4]]
  repeat' (first|(apply nx;with_reducible constructor)|refine jq (by decide) ?_|((first|refine kz env fun Q hQ=>?_|refine kj fun Q hQ=>?_);simp only [vkt,seval,yI,xu,qd,qa,aTk,cTk,qp,qz,yc,sin,h1,h2,h3,h4,w1,w2,hx,g1,g2,ite_and];(repeat' first|with_reducible assumption|apply kk|intro hp);all_goals (first|(refine hQ _ ?_;clear hQ Q)|(refine hQ _ (fun h=>?_) (fun h=>?_) <;> clear hQ Q <;> (try simp only [reduceCtorEq] at h))|(refine kx ?_;kernel_rfl)|omega|assumption|with_reducible rfl|skip)))
  (simp only [vrt,Tryz.results114,vkt,seval,xu];refine Fin.val rfl ?_;(try simp only [AV.le]))
  all_goals first|rfl|simp
 have hr:=rest h1 h2 (by simp [-List.getD_eq_getElem?_getD,zZ,h3,hx,h4])
 by_cases h5:xY c.secs t.frm t.to=0
 ·rw [if_neg (by rw [h5];simp)] at hr
  rw [hr]
  repeat' (first|(apply nx;with_reducible constructor)|refine jq (by decide) ?_|((first|refine kz env fun Q hQ=>?_|refine kj fun Q hQ=>?_);simp only [vkt,seval,yI,xu,qd,qa,aTk,cTk,qp,qz,yc,qy,mTk,sin,K8,ZK,h1,h2,h3,h4,h5,w1,w2,hx,g1,g2,et,ite_and];(repeat' first|with_reducible assumption|apply kk|intro hp);all_goals (first|(refine hQ _ ?_;clear hQ Q)|(refine hQ _ (fun h=>?_) (fun h=>?_) <;> clear hQ Q <;> (try simp only [vki,reduceCtorEq] at h))|(refine kx ?_;kernel_rfl)|omega|assumption|with_reducible rfl|skip)))
  (simp only [vrt,Tryz.results114,vkt,seval,xu];refine Fin.val rfl ?_;(try simp only [AV.le]))
  all_goals first|rfl|simp
 ·rw [if_pos h5] at hr
  rw [hr]
  repeat' (first|(apply nx;with_reducible constructor)|refine jq (by decide) ?_|((first|refine kz env fun Q hQ=>?_|refine kj fun Q hQ=>?_);simp only [vkt,seval,yI,xu,qd,qa,aTk,cTk,qp,qz,yc,qy,mTk,sin,K8,h1,h2,h3,h4,h5,w1,w2,hx,g1,g2,ite_and];(repeat' first|with_reducible assumption|apply kk|intro hp);all_goals (first|(refine hQ _ ?_;clear hQ Q)|(refine hQ _ (fun h=>?_) (fun h=>?_) <;> clear hQ Q <;> (try simp only [vki,reduceCtorEq] at h))|(refine kx ?_;kernel_rfl)|omega|assumption|with_reducible rfl|skip)))
  (simp only [vrt,Tryz.results114,vkt,seval,xu];refine Fin.val rfl ?_;(try simp only [AV.le]))
  all_goals first|rfl|simp
def WS:List AV→Prop × AV
 |[.agg [.sl c0,.v (.int .i64 c1),.sl c2],.agg [.v (.int .i64 t0),.v (.int .i64 t1),.v (.int .i64 t2),.v (.int .i64 t3),.v (.int .i64 t4),.v (.int .i64 t5),.v (.bool t6)],.sl l]=>(c0=(c0.map qj).map qz∧c2=(c2.map dTk).map eTk∧l=(l.map dTk).map eTk∧CarOk (⟨(c0.map qj),c1,(c2.map dTk)⟩:Chart)∧(l.map dTk).length≤100,aI (zf (⟨(c0.map qj),c1,(c2.map dTk)⟩:Chart) (⟨t0,t1,t2,t3,t4,t5,t6⟩:Tk) (l.map dTk)))
 |_=>(False,.junk)
theorem Qko {A:Frm→Prop}:qm A Tryz.prog 114 (qG true WS):=qH fun vs hv h=>by
 clear hv
 unfold WS at h ⊢
 split at h
 ·rename_i c0 c1 c2 t0 t1 t2 t3 t4 t5 t6 l;obtain ⟨q0,q1,q2,k0,k1⟩:=h
  refine ⟨by first|trivial|(repeat' split) <;> simp [AV.plain,AV.plainL,aI,aB,ql,qb,qp,qx,aTk,cTk],fun _=>(by simp [AV.flat,aI]), ?_⟩
  have:=Qfc (⟨(c0.map qj),c1,(c2.map dTk)⟩:Chart) (⟨t0,t1,t2,t3,t4,t5,t6⟩:Tk) (l.map dTk) k0 k1
  simp only [qd,aI,aTk,qp,qa,cTk,← q0,← q1,← q2] at this
  first|exact this|(simp only [aB,zB,qd,aI,aTk,qp,qa,cTk,← q0,← q1,← q2];exact this)
 ·exact h.elim
def ckS (c:Chart) (k:Nat):St:={ t:=asg [(1,.ptr 0 0),(2,aI 0),(13,qp c.sold),(14,aI c.sold.length),(15,aI k)],h:=qc [(0,.cells (qa c))],n:=1 }
def kE:=kk @ty3 (kk @yP (kk @wh (kk @x8 (kk @wP (kk @ti3.eq_1 (kk @yh.eq_1 (kk @zQ.eq_1 (kk @vV.eq_1 @wI.eq_1))))))))
def kY:=kk @aI.eq_1 (@aB.eq_1)
theorem Qhk (c:Chart) (hc:c.cabins.length≤maxLen):FnV Tryz.prog 76 [qd c] (aI (zw c)):=by
 have env:Env (fun _=>True) Tryz.prog tyB (tab [(113,qG true Qh4),(114,qG true WS)]):=qA ⟨ecar,Qko,trivial⟩
 refine Fn.of (A:=fun _=>True) (n0:=0) (D:=noD) (Fn0 Tryz.func76 rfl (fun vs w=>by kernel_rfl) (by kernel_rfl)) (by simp) (by simp [AV.ids,AV.idsL,qd,qa]) (fun i o h=>by cases h) (fun _ _ _ _=>trivial) qw ?_
 have ec:(⟨c.cabins,c.secs,c.sold⟩:Chart)=c:=rfl
 by_cases h1:QL c=0
 ·obtain ⟨hcar,hsl⟩:=QcV h1
  have hE:zw c=zW c c.sold:=by unfold zw;rw [if_neg (by rw [h1];simp)]
  rw [hE]
  repeat' (first|(apply nx;with_reducible constructor)|refine jq (by decide) ?_|((first|refine kz env fun Q hQ=>?_|refine kj fun Q hQ=>?_);simp only [vkt,seval,kE,kY,qd,qa,qy,mTk,Qh4,h1,ec,ite_and];(repeat' first|with_reducible assumption|apply kk|intro hp);all_goals (first|(refine hQ _ ?_;clear hQ Q)|(refine hQ _ (fun h=>?_) (fun h=>?_) <;> clear hQ Q <;> (try simp only [vki] at h))|(refine kx ?_;kernel_rfl)|omega|assumption|with_reducible rfl|skip)))
  refine qC (fun k:{ k:Nat // k≤c.sold.length∧∀ j,j < k→zf c (c.sold.getD j default) (c.sold.take j)=0 }=>ckS c k.1) (fun k=>c.sold.length - k.1) ⟨0,Nat.zero_le _,fun j h=>absurd h (Nat.not_lt_zero _)⟩ ?_ fun ⟨k,hk,hno⟩=>?_
  ·(refine Le.ok some [] ?_;constructor;all_goals (try simp only [vle,vkt,seval,kY,qa,qp]))
   all_goals first|rfl|simp
  ·repeat' (first|(apply nx;with_reducible constructor)|refine jq (by decide) ?_)
   (refine kz env fun Q hQ=>?_;simp only [vkt,seval,kE,kY,qa,qp,ckS,ite_and];(repeat' first|with_reducible assumption|apply kk|intro hp);all_goals (first|(refine hQ _ ?_;clear hQ Q)|(refine kx ?_;kernel_rfl)|omega|assumption|with_reducible rfl|skip))
   repeat' (first|(apply nx;with_reducible constructor)|refine jq (by decide) ?_)
   (refine wQ (by simp only [vkt,seval];rfl) (fun h=>?_) (fun h=>?_) <;> (try simp only [vki] at h))
   ·have hlt:k < c.sold.length:=by omega
    have e9:=k9 k (by omega)
    obtain ⟨x,hx⟩:∃ x,c.sold.getD k default=x:=⟨_,rfl⟩
    have ex:(⟨x.party,x.sex,x.cab,x.bed,x.frm,x.to,x.dog⟩:Tk)=x:=rfl
    have tk:List.take k (c.sold.map eTk)=(c.sold.take k).map eTk:=List.map_take.symm
    have t100:(c.sold.take k).length≤100:=by rw [List.length_take];omega
    have hcar':CarOk ⟨c.cabins,c.secs,c.sold⟩:=hcar
    have hg:=Qel (f:=fun i=>zf c (c.sold.getD i default) (c.sold.take i)) hlt
    by_cases h2:zf c x (c.sold.take k)=0
    ·repeat' (first|(apply nx;with_reducible constructor)|refine jq (by decide) ?_|((first|refine kz env fun Q hQ=>?_|refine kj fun Q hQ=>?_);simp only [vkt,seval,kE,kY,eTk,gTk,rTk,qy,mTk,WS,hx,ex,ec,tk,h2,e9,ite_and];(repeat' first|with_reducible assumption|apply kk|intro hp);all_goals (first|(refine hQ _ ?_;clear hQ Q)|(refine hQ _ (fun h=>?_) (fun h=>?_) <;> clear hQ Q <;> (try simp only [vki] at h))|(refine kx ?_;kernel_rfl)|omega|assumption|with_reducible rfl|skip)))
     refine ⟨⟨k+1,hlt,fun j hj=>?_⟩,by show c.sold.length - (k+1) < c.sold.length - k;omega, ?_⟩
     ·rcases Nat.lt_or_eq_of_le (Nat.le_of_lt_succ hj) with h3|h3
      ·exact hno j h3
      ·rw [h3,hx];exact h2
     ·(refine Le.ok some [] ?_;constructor;all_goals (try simp only [vle,vkt,seval,kY,qa,qp]))
      all_goals first|rfl|simp
    ·have hf:zW c c.sold=zf c x (c.sold.take k):=by
      unfold zW
      rw [wU (k:=k) (fun j hj=>by rw [Qel (by omega)];exact hno j hj) (by simpa using hlt) (by rw [hg,hx];exact h2),hg,hx]
     rw [hf]
     repeat' (first|(apply nx;with_reducible constructor)|refine jq (by decide) ?_|((first|refine kz env fun Q hQ=>?_|refine kj fun Q hQ=>?_);simp only [vkt,seval,kE,kY,eTk,gTk,rTk,qy,mTk,WS,hx,ex,ec,tk,h2,ite_and];(repeat' first|with_reducible assumption|apply kk|intro hp);all_goals (first|(refine hQ _ ?_;clear hQ Q)|(refine hQ _ (fun h=>?_) (fun h=>?_) <;> clear hQ Q <;> (try simp only [vki] at h))|(refine kx ?_;kernel_rfl)|omega|assumption|with_reducible rfl|skip)))
     (simp only [vrt,Tryz.results76,vkt,seval,kY];refine Fin.val rfl ?_;(try simp only [AV.le]))
     all_goals first|rfl|simp
   ·have hke:k=c.sold.length:=by omega
    subst hke
    rw [show zW c c.sold=0 from wD fun j hj=>by
     have hj':j < c.sold.length:=by simpa using hj
     rw [Qel hj'];exact hno j hj']
    repeat' (first|(apply nx;with_reducible constructor)|refine jq (by decide) ?_|((first|refine kz env fun Q hQ=>?_|refine kj fun Q hQ=>?_);simp only [vkt,seval,ite_and];(repeat' first|with_reducible assumption|apply kk|intro hp);all_goals (first|(refine hQ _ ?_;clear hQ Q)|(refine hQ _ (fun h=>?_) (fun h=>?_) <;> clear hQ Q <;> (try simp only [vki,reduceCtorEq] at h))|(refine kx ?_;kernel_rfl)|omega|assumption|with_reducible rfl|skip)))
    (simp only [vrt,Tryz.results76,vkt,seval,kY];refine Fin.val rfl ?_;(try simp only [AV.le]))
    all_goals first|rfl|simp
 ·have hE:zw c=QL c:=by unfold zw;rw [if_pos h1]
  rw [hE]
  repeat' (first|(apply nx;with_reducible constructor)|refine jq (by decide) ?_|((first|refine kz env fun Q hQ=>?_|refine kj fun Q hQ=>?_);simp only [vkt,seval,kE,kY,qd,qa,qy,mTk,Qh4,h1,ec,ite_and];(repeat' first|with_reducible assumption|apply kk|intro hp);all_goals (first|(refine hQ _ ?_;clear hQ Q)|(refine hQ _ (fun h=>?_) (fun h=>?_) <;> clear hQ Q <;> (try simp only [vki] at h))|(refine kx ?_;kernel_rfl)|omega|assumption|with_reducible rfl|skip)))
  (simp only [vrt,Tryz.results76,vkt,seval,kY];refine Fin.val rfl ?_;(try simp only [AV.le]))
  all_goals first|rfl|simp
def jC:List AV→Prop × AV
 |[.agg [.sl c0,.v (.int .i64 c1),.sl c2]]=>(c0=(c0.map qj).map qz∧c2=(c2.map dTk).map eTk∧c0.length≤maxLen,aI (zw (⟨(c0.map qj),c1,(c2.map dTk)⟩:Chart)))
 |_=>(False,.junk)
theorem VQ {A:Frm→Prop}:qm A Tryz.prog 76 (qG true jC):=qH fun vs hv h=>by
 clear hv
 unfold jC at h ⊢
 split at h
 ·rename_i c0 c1 c2;obtain ⟨q0,q1,k0⟩:=h
  refine ⟨by first|trivial|(repeat' split) <;> simp [AV.plain,AV.plainL,aI,aB,ql,qb,qp,qx,aTk,cTk],fun _=>(by simp [AV.flat,aI]), ?_⟩
  have:=Qhk (⟨(c0.map qj),c1,(c2.map dTk)⟩:Chart) (by simpa using k0)
  simp only [qd,aI,qa,← q0,← q1] at this
  first|exact this|(simp only [zB,qd,aI,qp,qa,← q0,← q1];exact this)
 ·exact h.elim
def buO (cs:List Cabin) (s:Int):AObj:=.cells [.sl (cs.map qz),.v (.int .i64 s),.any]
def buY (cs:List Cabin) (j:Nat):List AV:=[qx ((qK cs).getD j default)]
def bu1 (cs:List Cabin) (s:Int) (i j:Nat):St:={ t:=asg [(0,.cb),(1,.ptr 0 0),(7,.sl (cs.map qz)),(8,aI cs.length),(9,aI i)],h:=qc [(0,.cells [.sl (cs.map qz),.v (.int .i64 s),.any])],n:=1,j:=j,m:=1 }
def bu2 (cs:List Cabin) (s:Int) (i:Nat) (b:Int) (k j:Nat):St:={ t:=asg [(0,.cb),(1,.ptr 0 0),(3,aI i),(7,.sl (cs.map qz)),(8,aI cs.length),(9,aI i),(15,aI b),(16,aI k)],h:=qc [(0,.cells [.sl (cs.map qz),.v (.int .i64 s),.any])],n:=1,j:=j,m:=1 }
structure CabsOk (cs:List Cabin):Prop where
 len:cs.length≤1000
 beds:∀ x ∈ cs,x.beds≤1000
def wT:=kk @ty3 (kk @Za (kk @wh (kk @yu (kk @Zt (kk @ti3.eq_1 (kk @Qp.eq_1 (kk @zQ.eq_1 (kk @jQ.eq_1 @Qd.eq_1))))))))
def Wx:=kk @aI.eq_1 (@aB.eq_1)
set_option maxHeartbeats 1000000 in
theorem QaG (cs:List Cabin) (s:Int) (hc:CabsOk cs):Iter Tryz.prog 117 [.cb,.ptr 0 0] (nth [buO cs s]) (buY cs) (qK cs).length (fun _=>nth [buO cs s]) fun _ _=>.tup []:=by
 intro ans R hr
 have e0:(nth [buO cs s])=qc (qD 0 [buO cs s]):=by
  funext i
  match i with
  |0=>rfl
  |i+1=>simp [nth,qD,qc]
 obtain ⟨A0,hA0⟩:∃ A0:Frm→Prop,A0=Acb Tryz.prog (qc (qD 0 [buO cs s])) (qc (qD 0 [buO cs s])) (buY cs) (fun _=>nth [buO cs s]) ans R:=⟨_,rfl⟩
 have hA:∀ F,A0 F→Acb Tryz.prog (qc (qD 0 [buO cs s])) (qc (qD 0 [buO cs s])) (buY cs) (fun _=>nth [buO cs s]) ans R F:=fun F h=>hA0 ▸ h
 have env:Env A0 Tryz.prog tyB (Go.Sym.tabC (cbX [0] (buY cs) (fun _=>[buO cs s]) ans R) []):=⟨Vr,K6 (fun S bs h hS ops o g args tys caps hw ho hg hb=>JP hA (fun i o hi=>by
  rw [zX] at hi
  cases i with
  |zero=>rfl
  |succ i=>simp at hi) (by simp) h hS hw ho hg hb) trivial,by kernel_rfl⟩
 rw [KA] at hr
 have hcl:=hc.len
 rw [e0]
 refine Fn.of (A:=A0) (n0:=1) (D:=noD) (Fn0 Tryz.func117 rfl (fun vs w=>by kernel_rfl) (by kernel_rfl)) (by simp) (by simp [AV.ids]) ?_ (fun F hb h0 _=>hA0 ▸ ⟨h0,fun i o hi=>⟨o,hi⟩,by rw [← e0] at hb ⊢;exact hb⟩) qw ?_
 ·intro i o hi
  have h:=qF hi
  simp [qD,buO] at h;obtain ⟨rfl,rfl⟩:=h;simp [AObj.ids,AV.ids,AV.idsL]
 show Sym _ _ _ (qX [.cb,.ptr 0 0] 1 (qc [(0,.cells [.sl (cs.map qz),.v (.int .i64 s),.any])])) (wK tyB noD Tryz.f117 fun S rv=>Fin S rv (.tup []) 1 (qc [(0,.cells [.sl (cs.map qz),.v (.int .i64 s),.any])]) R)
 have eo:buO cs s=.cells [.sl (cs.map qz),.v (.int .i64 s),.any]:=rfl
 repeat' (first|(apply nx;with_reducible constructor)|refine jq (by decide) ?_|((first|refine kz env fun Q hQ=>?_|refine kj fun Q hQ=>?_);simp only [vkt,seval,wT,ite_and];(repeat' first|with_reducible assumption|apply kk|intro hp);all_goals (first|(refine hQ _ ?_;clear hQ Q)|(refine hQ _ (fun h=>?_) (fun h=>?_) <;> clear hQ Q <;> (try simp only [vki,reduceCtorEq] at h))|(refine kx ?_;kernel_rfl)|omega|assumption|with_reducible rfl|skip)))
 refine qC (fun x:{ x:Nat × Nat // x.1≤cs.length∧x.2=((kZ cs).take x.1).sum∧∀ q,q < x.2→ans q=true }=>bu1 cs s x.1.1 x.1.2) (fun x=>cs.length - x.1.1) ⟨(0,0),Nat.zero_le _,by simp,fun q h=>absurd h (Nat.not_lt_zero _)⟩ ?_ fun ⟨(i,o),hi,ho,hy⟩=>?_
 ·(refine Le.ok some [] ?_;constructor;all_goals (try simp only [vle,vkt,seval,Wx]))
  all_goals first|rfl|simp
 simp only at hi ho hy ⊢
 repeat' (first|(apply nx;with_reducible constructor)|refine jq (by decide) ?_)
 (refine kz env fun Q hQ=>?_;simp only [vkt,seval,wT,Wx,bu1,ite_and];(repeat' first|with_reducible assumption|apply kk|intro hp);all_goals (first|(refine hQ _ ?_;clear hQ Q)|(refine kx ?_;kernel_rfl)|omega|assumption|with_reducible rfl|skip))
 repeat' (first|(apply nx;with_reducible constructor)|refine jq (by decide) ?_)
 (refine wQ (by simp only [vkt,seval];rfl) (fun h=>?_) (fun h=>?_) <;> (try simp only [vki] at h))
 ·have hlt:i < cs.length:=by omega
  have hts:=WY (g:=kZ cs) (i:=i) (by simp [kZ];omega)
  rw [QjB hlt] at hts
  have hsm:((kZ cs).take (i+1)).sum≤(kZ cs).sum:=by
   have:=xg (g:=kZ cs) (show i+1≤(kZ cs).length by simp [kZ];omega)
   rwa [List.take_length] at this
  have hbx:=hc.beds _ (wC (d:=default) hlt)
  have hget:=fun k=>Qe5 (cs:=cs) (i:=i) (k:=k) hlt
  obtain ⟨x,hx⟩:∃ x,cs.getD i default=x:=⟨_,rfl⟩
  rw [hx] at hts hbx
  simp only [hx] at hget
  have e9:=k9 i (by omega)
  repeat' (first|(apply nx;with_reducible constructor)|refine jq (by decide) ?_|((first|refine kz env fun Q hQ=>?_|refine kj fun Q hQ=>?_);simp only [vkt,seval,wT,qz,yc,hx,ite_and];(repeat' first|with_reducible assumption|apply kk|intro hp);all_goals (first|(refine hQ _ ?_;clear hQ Q)|(refine hQ _ (fun h=>?_) (fun h=>?_) <;> clear hQ Q <;> (try simp only [vki,reduceCtorEq] at h))|(refine kx ?_;kernel_rfl)|omega|assumption|with_reducible rfl|skip)))
  refine qC (fun y:{ y:Nat × Nat // y.1≤x.beds.toNat∧y.2=o+y.1∧∀ q,q < y.2→ans q=true }=>bu2 cs s i x.beds y.1.1 y.1.2) (fun y=>x.beds.toNat - y.1.1) ⟨(0,o),Nat.zero_le _,rfl,hy⟩ ?_ fun ⟨(k,q),hk,hq,hz⟩=>?_
  ·(refine Le.ok some [] ?_;constructor;all_goals (try simp only [vle,vkt,seval,Wx]))
   all_goals first|rfl|simp
  simp only at hk hq hz ⊢
  repeat' (first|(apply nx;with_reducible constructor)|refine jq (by decide) ?_)
  (refine kz env fun Q hQ=>?_;simp only [vkt,seval,wT,Wx,bu2,ite_and];(repeat' first|with_reducible assumption|apply kk|intro hp);all_goals (first|(refine hQ _ ?_;clear hQ Q)|(refine kx ?_;kernel_rfl)|omega|assumption|with_reducible rfl|skip))
  repeat' (first|(apply nx;with_reducible constructor)|refine jq (by decide) ?_)
  (refine wQ (by simp only [vkt,seval];rfl) (fun h=>?_) (fun h=>?_) <;> (try simp only [vki] at h))
  ·have hkl:k < x.beds.toNat:=by omega
   have e8:=k9 k (by omega)
   have hqR:q < R:=hr.lt (by omega) hz
   have hbq:buY cs q=[.agg [.v (.int .i64 (i:Int)),.v (.int .i64 (k:Int))]]:=by
    unfold buY
    rw [hq,ho,hget k hkl]
    rfl
   cases hb:ans q with
   |false =>
    have eR:R=q+1:=by have:=hr.last hqR hb;omega
    subst eR
    repeat' (first|(apply nx;with_reducible constructor)|refine jq (by decide) ?_|((first|refine kz env fun Q hQ=>?_|refine kj fun Q hQ=>?_);simp only [vkt,seval,wT,Go.Sym.tabC,cbX,vo,hwL,hqR,hbq,eo,hb,ite_and];(repeat' first|with_reducible assumption|apply kk|intro hp);all_goals (first|(refine hQ _ ?_;clear hQ Q)|(refine hQ _ (fun h=>?_) (fun h=>?_) <;> clear hQ Q <;> (try simp only [reduceCtorEq] at h))|(refine kx ?_;kernel_rfl)|omega|assumption|with_reducible rfl|skip)))
    (simp only [vrt,Tryz.results117,vkt,seval];refine Fin.ok some [] ?_ ?_ ?_ ?_ ?_ rfl;all_goals (try simp only [vle,vkt,seval]))
    all_goals first|rfl|simp
   |true =>
    have hz':∀ p,p < q+1→ans p=true:=fun p hp=>by
     rcases Nat.lt_or_eq_of_le (Nat.le_of_lt_succ hp) with h1|h1
     ·exact hz p h1
     ·rw [h1];exact hb
    repeat' (first|(apply nx;with_reducible constructor)|refine jq (by decide) ?_|((first|refine kz env fun Q hQ=>?_|refine kj fun Q hQ=>?_);simp only [vkt,seval,wT,Go.Sym.tabC,cbX,vo,hwL,hqR,hbq,eo,hb,e8,ite_and];(repeat' first|with_reducible assumption|apply kk|intro hp);all_goals (first|(refine hQ _ ?_;clear hQ Q)|(refine hQ _ (fun h=>?_) (fun h=>?_) <;> clear hQ Q <;> (try simp only [reduceCtorEq] at h))|(refine kx ?_;kernel_rfl)|omega|assumption|with_reducible rfl|skip)))
    refine ⟨⟨(k+1,q+1),hkl,by omega,hz'⟩,by show x.beds.toNat - (k+1) < x.beds.toNat - k;omega, ?_⟩
    (refine Le.ok some [] ?_;constructor;all_goals (try simp only [vle,vkt,seval,Wx]))
    all_goals first|rfl|simp
  ·have hkn:q=((kZ cs).take (i+1)).sum:=by omega
   repeat' (first|(apply nx;with_reducible constructor)|refine jq (by decide) ?_|((first|refine kz env fun Q hQ=>?_|refine kj fun Q hQ=>?_);simp only [vkt,seval,wT,e9,ite_and];(repeat' first|with_reducible assumption|apply kk|intro hp);all_goals (first|(refine hQ _ ?_;clear hQ Q)|(refine hQ _ (fun h=>?_) (fun h=>?_) <;> clear hQ Q <;> (try simp only [vki,reduceCtorEq] at h))|(refine kx ?_;kernel_rfl)|omega|assumption|with_reducible rfl|skip)))
   refine ⟨⟨(i+1,q),hlt,hkn,hz⟩,by show cs.length - (i+1) < cs.length - i;omega, ?_⟩
   (refine Le.ok some [] ?_;constructor;all_goals (try simp only [vle,vkt,seval,Wx]))
   all_goals first|rfl|simp
 ·have hie:i=cs.length:=by omega
  subst hie
  have hoN:o=(kZ cs).sum:=by rw [ho,List.take_of_length_le (by simp [kZ])]
  have eR:R=o:=by rw [hoN];exact hr.all (Nat.le_of_eq hoN.symm) hy
  subst eR
  repeat' (first|(apply nx;with_reducible constructor)|refine jq (by decide) ?_|((first|refine kz env fun Q hQ=>?_|refine kj fun Q hQ=>?_);simp only [vkt,seval,wT,Wx,qx,qz,yc,bu1,bu2,Go.Sym.tabC,cbX,J8,vo,nth,hwL,ite_and];(repeat' first|with_reducible assumption|apply kk|intro hp);all_goals (first|(refine hQ _ ?_;clear hQ Q)|(refine hQ _ (fun h=>?_) (fun h=>?_) <;> clear hQ Q <;> (try simp only [vki,reduceCtorEq] at h))|(refine kx ?_;kernel_rfl)|omega|assumption|with_reducible rfl|skip)))
  (simp only [vrt,Tryz.results117,vkt,seval];refine Fin.ok some [] ?_ ?_ ?_ ?_ ?_ rfl;all_goals (try simp only [vle,vkt,seval]))
  all_goals first|rfl|simp
theorem QfP (cs:List Cabin) (s:Int):Fn noB Tryz.prog 80 [.agg [.sl (cs.map qz),.v (.int .i64 s),.any]] (qc []) (.clo 117 [.ptr 0 0]) (qc [(0,.cells [.sl (cs.map qz),.v (.int .i64 s),.any])]) 0:=by
 have env:Env (fun _=>True) Tryz.prog tyB (tab []):=qA trivial
 refine Fn.of (A:=fun _=>True) (n0:=0) (D:=noD) (Fn0 Tryz.func80 rfl (fun vs w=>by kernel_rfl) (by kernel_rfl)) (by simp) (by simp [AV.ids,AV.idsL]) (fun i o h=>by cases h) (fun _ _ _ _=>trivial) qw ?_
 repeat' (first|(apply nx;with_reducible constructor)|refine jq (by decide) ?_|((first|refine kz env fun Q hQ=>?_|refine kj fun Q hQ=>?_);simp only [vkt,seval,ite_and];(repeat' first|with_reducible assumption|apply kk|intro hp);all_goals (first|(refine hQ _ ?_;clear hQ Q)|(refine hQ _ (fun h=>?_) (fun h=>?_) <;> clear hQ Q <;> (try simp only [vki,reduceCtorEq] at h))|(refine kx ?_;kernel_rfl)|omega|assumption|with_reducible rfl|skip)))
 (simp only [vrt,Tryz.results80,vkt,seval];refine Fin.ok some [] ?_ ?_ ?_ ?_ ?_ rfl;all_goals (try simp only [vle,vkt,seval]))
 all_goals first|rfl|simp
def WJ (_:St):List AV→Option Pk
 |[.agg [.sl cs,.v (.int .i64 s),_]]=>some { pre:=cs=(cs.map qj).map qz,ar:=[.agg [.sl cs,.v (.int .i64 s),.any]],v:=.clo 117 [.ptr 0 0],L1:=[some (.cells [.sl cs,.v (.int .i64 s),.any])] }
 |_=>none
theorem Qco {A:Frm→Prop}:qm A Tryz.prog 80 (fnE WJ):=qZ fun S bs q h hp=>by
 unfold WJ at h
 split at h
 ·rename_i cs s _
  cases h
  have:=QfP (cs.map qj) s
  rw [← (show cs=(cs.map qj).map qz from hp)] at this
  exact this
 ·cases h
theorem b47 {n:Nat} (h:n≤100000):n * 8≤140737488355328∧n * 24≤140737488355328∧n * 16≤140737488355328∧n * 56≤140737488355328∧n≤maxLen:=by
 have:(100000:Nat)≤maxLen:=by decide
 omega
def U2:=kk @yP (kk @wP (kk @yh.eq_1 @wI.eq_1))
theorem XJ (xs:List (List DV)) (h1:ze 7 xs) (h2:xs.length≤100000):Fn noB Tryz.prog 116 [.sl xs] noH (.row 0) (qc [(0,.row 64 7 xs)]) 0:=by
 have env:Env (fun _=>True) Tryz.prog tyB (tab []):=qA trivial
 obtain ⟨b1,b2,b3,b5,b4⟩:=b47 h2
 refine Fn.of (A:=fun _=>True) (n0:=0) (D:=noD) (Fn0 Tryz.func116 rfl (fun vs w=>by kernel_rfl) (by kernel_rfl)) (by simp) (by simp [AV.ids]) (fun i o h=>by cases h) (fun _ _ _ _=>trivial) qw ?_
 repeat' (first|(apply nx;with_reducible constructor)|refine jq (by decide) ?_)
 (refine kz env fun Q hQ=>?_;simp only [vkt,seval,ite_and];(repeat' first|with_reducible assumption|apply kk|intro hp);all_goals (first|(refine hQ _ ?_;clear hQ Q)|(refine kx ?_;kernel_rfl)|omega|assumption|with_reducible rfl|skip))
 repeat' (first|(apply nx;with_reducible constructor)|refine jq (by decide) ?_)
 refine kL (d1:=3) (d2:=4) (t:=23) (e:=64) (x:=.tmp 0) (xs:=xs) rfl rfl rfl rfl rfl rfl Tryz.underlying23 rfl fun b hb=>?_
 repeat' (first|(apply nx;with_reducible constructor)|refine jq (by decide) ?_)
 (refine wQ (by simp only [vkt,seval];rfl) (fun h=>?_) (fun h=>?_) <;> (try simp only [vki,reduceCtorEq] at h))
 ·have hx:=hb h
  subst hx
  repeat' (first|(apply nx;with_reducible constructor)|refine jq (by decide) ?_|((first|refine kz env fun Q hQ=>?_|refine kj fun Q hQ=>?_);simp only [vkt,seval,ite_and];(repeat' first|with_reducible assumption|apply kk|intro hp);all_goals (first|(refine hQ _ ?_;clear hQ Q)|(refine hQ _ (fun h=>?_) (fun h=>?_) <;> clear hQ Q <;> (try simp only [vki,reduceCtorEq] at h))|(refine kx ?_;kernel_rfl)|omega|assumption|with_reducible rfl|skip)))
  (simp only [vrt,Tryz.results116,vkt,seval];refine Fin.ok (fun _=>none) [] ?_ ?_ ?_ ?_ ?_ rfl;all_goals (try simp only [vle,vkt,seval]))
  all_goals simp
 ·repeat' (first|(apply nx;with_reducible constructor)|refine jq (by decide) ?_|((first|refine kz env fun Q hQ=>?_|refine kj fun Q hQ=>?_);simp only [vkt,seval,U2,ite_and];(repeat' first|with_reducible assumption|apply kk|intro hp);all_goals (first|(refine hQ _ ?_;clear hQ Q)|(refine hQ _ (fun h=>?_) (fun h=>?_) <;> clear hQ Q <;> (try simp only [vki,reduceCtorEq] at h))|(refine kx ?_;kernel_rfl)|omega|assumption|with_reducible rfl|skip)))
  (simp only [vrt,Tryz.results116,vkt,seval];refine Fin.ok some [] ?_ ?_ ?_ ?_ ?_ rfl;all_goals (try simp only [vle,vkt,seval]))
  all_goals simp
def LB:=kk @Q0 (kk @yu (kk @kU.eq_1 @jQ.eq_1))
theorem Qec (xs:List (List DV)) (h1:ze 2 xs) (h2:xs.length≤100000):Fn noB Tryz.prog 128 [.sl xs] noH (.row 0) (qc [(0,.row 62 2 xs)]) 0:=by
 have env:Env (fun _=>True) Tryz.prog tyB (tab []):=qA trivial
 obtain ⟨b1,b2,b3,b5,b4⟩:=b47 h2
 refine Fn.of (A:=fun _=>True) (n0:=0) (D:=noD) (Fn0 Tryz.func128 rfl (fun vs w=>by kernel_rfl) (by kernel_rfl)) (by simp) (by simp [AV.ids]) (fun i o h=>by cases h) (fun _ _ _ _=>trivial) qw ?_
 repeat' (first|(apply nx;with_reducible constructor)|refine jq (by decide) ?_)
 (refine kz env fun Q hQ=>?_;simp only [vkt,seval,ite_and];(repeat' first|with_reducible assumption|apply kk|intro hp);all_goals (first|(refine hQ _ ?_;clear hQ Q)|(refine kx ?_;kernel_rfl)|omega|assumption|with_reducible rfl|skip))
 repeat' (first|(apply nx;with_reducible constructor)|refine jq (by decide) ?_)
 refine kL (d1:=3) (d2:=4) (t:=44) (e:=62) (x:=.tmp 0) (xs:=xs) rfl rfl rfl rfl rfl rfl Tryz.underlying44 rfl fun b hb=>?_
 repeat' (first|(apply nx;with_reducible constructor)|refine jq (by decide) ?_)
 (refine wQ (by simp only [vkt,seval];rfl) (fun h=>?_) (fun h=>?_) <;> (try simp only [vki,reduceCtorEq] at h))
 ·have hx:=hb h
  subst hx
  repeat' (first|(apply nx;with_reducible constructor)|refine jq (by decide) ?_|((first|refine kz env fun Q hQ=>?_|refine kj fun Q hQ=>?_);simp only [vkt,seval,ite_and];(repeat' first|with_reducible assumption|apply kk|intro hp);all_goals (first|(refine hQ _ ?_;clear hQ Q)|(refine hQ _ (fun h=>?_) (fun h=>?_) <;> clear hQ Q <;> (try simp only [vki,reduceCtorEq] at h))|(refine kx ?_;kernel_rfl)|omega|assumption|with_reducible rfl|skip)))
  (simp only [vrt,Tryz.results128,vkt,seval];refine Fin.ok (fun _=>none) [] ?_ ?_ ?_ ?_ ?_ rfl;all_goals (try simp only [vle,vkt,seval]))
  all_goals simp
 ·repeat' (first|(apply nx;with_reducible constructor)|refine jq (by decide) ?_|((first|refine kz env fun Q hQ=>?_|refine kj fun Q hQ=>?_);simp only [vkt,seval,LB,ite_and];(repeat' first|with_reducible assumption|apply kk|intro hp);all_goals (first|(refine hQ _ ?_;clear hQ Q)|(refine hQ _ (fun h=>?_) (fun h=>?_) <;> clear hQ Q <;> (try simp only [vki,reduceCtorEq] at h))|(refine kx ?_;kernel_rfl)|omega|assumption|with_reducible rfl|skip)))
  (simp only [vrt,Tryz.results128,vkt,seval];refine Fin.ok some [] ?_ ?_ ?_ ?_ ?_ rfl;all_goals (try simp only [vle,vkt,seval]))
  all_goals simp
def ZH (S:St):List AV→Option Pk
 |[.sl xs]=>some { pre:=ze 7 xs∧xs.length≤100000,ar:=[.sl xs],v:=.row 0,L1:=[some (.row 64 7 xs)] }
 |[.row r]=>match S.h r with
  |some (.row _ _ xs)=>some { pre:=ze 7 xs∧xs.length≤100000,bo:=[r],fl:=true,ar:=[.sl xs],v:=.row 0,L1:=[some (.row 64 7 xs)] }
  |_=>none
 |_=>none
theorem Qdk {A:Frm→Prop}:qm A Tryz.prog 116 (fnE ZH):=qZ fun S bs q h hp=>by
 unfold ZH at h
 split at h
 ·cases h;exact XJ _ hp.1 hp.2
 ·split at h
  ·cases h;exact XJ _ hp.1 hp.2
  ·cases h
 ·cases h
def Jp (_:St):List AV→Option Pk
 |[.sl xs]=>some { pre:=ze 2 xs∧xs.length≤100000,ar:=[.sl xs],v:=.row 0,L1:=[some (.row 62 2 xs)] }
 |_=>none
theorem Qjw {A:Frm→Prop}:qm A Tryz.prog 128 (fnE Jp):=qZ fun S bs q h hp=>by
 unfold Jp at h
 split at h
 ·cases h;exact Qec _ hp.1 hp.2
 ·cases h
def ibS (b:Bunk) (l:List Bunk) (k:Nat):St:={ t:=asg [(0,qb l),(3,.ptr 0 0),(4,aI 0),(6,qb l),(7,aI l.length),(8,aI k)],h:=qc [(0,.cells [.v (.int .i64 b.cab),.v (.int .i64 b.bed)])],n:=1 }
def LW (b:Bunk) (l:List Bunk):Int:=match l.findIdx? (· == b) with
 |some i=>(i:Int)
 |none=>-1
theorem QhF {b:Bunk} {l:List Bunk} {k:Nat} (hk:k < l.length) (h:∀ j,j < k→l.getD j default ≠ b) (hp:l.getD k default=b):LW b l=(k:Int):=by
 have:l.findIdx? (· == b)=some k:=by
  rw [List.findIdx?_eq_some_iff_getElem]
  refine ⟨hk,by simpa [List.getD_eq_getElem?_getD,hk] using hp,fun j hj=>?_⟩
  have:=h j hj
  simpa [List.getD_eq_getElem?_getD,show j < l.length by omega] using this
 simp [LW,this]
theorem QeQ {b:Bunk} {l:List Bunk} (h:∀ j,j < l.length→l.getD j default ≠ b):LW b l=-1:=by
 have:l.findIdx? (· == b)=none:=by
  rw [List.findIdx?_eq_none_iff]
  intro x hx
  obtain ⟨j,hj,rfl⟩:=List.mem_iff_getElem.1 hx
  have:=h j hj
  simpa [List.getD_eq_getElem?_getD,hj] using this
 simp [LW,this]
theorem Qhq (b:Bunk) (l:List Bunk):decide (0≤LW b l)=l.contains b:=by
 unfold LW
 cases h:l.findIdx? (· == b) with
 |none =>
  rw [List.findIdx?_eq_none_iff] at h
  symm
  simp only [show ¬ (0:Int)≤-1 by decide,decide_false]
  rw [Bool.eq_false_iff]
  intro hc
  have:=h b (by simpa using hc)
  simp at this
 |some i =>
  rw [List.findIdx?_eq_some_iff_getElem] at h
  obtain ⟨hi,hp,_⟩:=h
  symm
  simp only [Int.natCast_nonneg,decide_true]
  have:l[i]=b:=by simpa using hp
  rw [← this];simp
def xf:=kk @ty3 (kk @Q0 (kk @yu (kk @ti3.eq_1 (kk @kU.eq_1 @jQ.eq_1))))
def Ya:=kk @aI.eq_1 (@aB.eq_1)
theorem Qfn (b:Bunk) (l:List Bunk) (hl:l.length≤100):FnV Tryz.prog 141 [qb l,qx b] (aI (LW b l)):=by
 have env:Env (fun _=>True) Tryz.prog tyB (tab []):=qA trivial
 refine Fn.of (A:=fun _=>True) (n0:=0) (D:=noD) (Fn0 Tryz.func141 rfl (fun vs w=>by kernel_rfl) (by kernel_rfl)) (by simp) (by simp [AV.ids,AV.idsL,qb,qx]) (fun i o h=>by cases h) (fun _ _ _ _=>trivial) qw ?_
 repeat' (first|(apply nx;with_reducible constructor)|refine jq (by decide) ?_|((first|refine kz env fun Q hQ=>?_|refine kj fun Q hQ=>?_);simp only [vkt,seval,xf,qx,qb,ite_and];(repeat' first|with_reducible assumption|apply kk|intro hp);all_goals (first|(refine hQ _ ?_;clear hQ Q)|(refine hQ _ (fun h=>?_) (fun h=>?_) <;> clear hQ Q <;> (try simp only [vki,reduceCtorEq] at h))|(refine kx ?_;kernel_rfl)|omega|assumption|with_reducible rfl|skip)))
 refine qC (fun k:{ k:Nat // k≤l.length∧∀ j,j < k→l.getD j default ≠ b }=>ibS b l k.1) (fun k=>l.length - k.1) ⟨0,Nat.zero_le _,fun j h=>absurd h (Nat.not_lt_zero _)⟩ ?_ fun ⟨k,hk,hno⟩=>?_
 ·(refine Le.ok some [] ?_;constructor;all_goals (try simp only [vle,vkt,seval,Ya,qb]))
  all_goals first|rfl|simp
 ·repeat' (first|(apply nx;with_reducible constructor)|refine jq (by decide) ?_)
  (refine kz env fun Q hQ=>?_;simp only [vkt,seval,xf,Ya,qb,ibS,ite_and];(repeat' first|with_reducible assumption|apply kk|intro hp);all_goals (first|(refine hQ _ ?_;clear hQ Q)|(refine kx ?_;kernel_rfl)|omega|assumption|with_reducible rfl|skip))
  repeat' (first|(apply nx;with_reducible constructor)|refine jq (by decide) ?_)
  (refine wQ (by simp only [vkt,seval];rfl) (fun h=>?_) (fun h=>?_) <;> (try simp only [vki] at h))
  ·have hlt:k < l.length:=by omega
   have e9:=k9 k (by omega)
   obtain ⟨x,hx⟩:∃ x,l.getD k default=x:=⟨_,rfl⟩
   have hxb:(x=b)=(b.cab=x.cab∧b.bed=x.bed):=by
    cases x;cases b;simp;exact ⟨fun ⟨a,b⟩=>⟨a.symm,b.symm⟩,fun ⟨a,b⟩=>⟨a.symm,b.symm⟩⟩
   have hnx:¬ x=b→∀ j,j < k+1→l.getD j default ≠ b:=fun hp j hj=>by
    rcases Nat.lt_or_eq_of_le (Nat.le_of_lt_succ hj) with h1|h1
    ·exact hno j h1
    ·rw [h1,hx];exact hp
   cases q1:decide (b.cab=x.cab)
   ·have hp:¬ x=b:=by rw [hxb];exact fun h=>of_decide_eq_false q1 h.1
    repeat' (first|(apply nx;with_reducible constructor)|refine jq (by decide) ?_|((first|refine kz env fun Q hQ=>?_|refine kj fun Q hQ=>?_);simp only [vkt,seval,xf,qO,yt,Bool.false_and,hx,q1,e9,ite_and];(repeat' first|with_reducible assumption|apply kk|intro hp);all_goals (first|(refine hQ _ ?_;clear hQ Q)|(refine hQ _ (fun h=>?_) (fun h=>?_) <;> clear hQ Q <;> (try simp only [reduceCtorEq] at h))|(refine kx ?_;kernel_rfl)|omega|assumption|with_reducible rfl|skip)))
    refine ⟨⟨k+1,hlt,hnx hp⟩,by show l.length - (k+1) < l.length - k;omega, ?_⟩
    (refine Le.ok some [] ?_;constructor;all_goals (try simp only [vle,vkt,seval,Ya,qb]))
    all_goals first|rfl|simp
   ·cases q2:decide (b.bed=x.bed)
    ·have hp:¬ x=b:=by rw [hxb];exact fun h=>of_decide_eq_false q2 h.2
     repeat' (first|(apply nx;with_reducible constructor)|refine jq (by decide) ?_|((first|refine kz env fun Q hQ=>?_|refine kj fun Q hQ=>?_);simp only [vkt,seval,xf,qO,yt,hx,q1,q2,e9,ite_and];(repeat' first|with_reducible assumption|apply kk|intro hp);all_goals (first|(refine hQ _ ?_;clear hQ Q)|(refine hQ _ (fun h=>?_) (fun h=>?_) <;> clear hQ Q <;> (try simp only [reduceCtorEq] at h))|(refine kx ?_;kernel_rfl)|omega|assumption|with_reducible rfl|skip)))
     refine ⟨⟨k+1,hlt,hnx hp⟩,by show l.length - (k+1) < l.length - k;omega, ?_⟩
     (refine Le.ok some [] ?_;constructor;all_goals (try simp only [vle,vkt,seval,Ya,qb]))
     all_goals first|rfl|simp
    ·have hh:=QhF hlt hno (by rw [hx,hxb];exact ⟨of_decide_eq_true q1,of_decide_eq_true q2⟩)
     rw [hh]
     repeat' (first|(apply nx;with_reducible constructor)|refine jq (by decide) ?_|((first|refine kz env fun Q hQ=>?_|refine kj fun Q hQ=>?_);simp only [vkt,seval,xf,qO,yt,hx,q1,q2,ite_and];(repeat' first|with_reducible assumption|apply kk|intro hp);all_goals (first|(refine hQ _ ?_;clear hQ Q)|(refine hQ _ (fun h=>?_) (fun h=>?_) <;> clear hQ Q <;> (try simp only [reduceCtorEq] at h))|(refine kx ?_;kernel_rfl)|omega|assumption|with_reducible rfl|skip)))
     (simp only [vrt,Tryz.results141,vkt,seval,Ya];refine Fin.val rfl ?_;(try simp only [AV.le]))
     all_goals first|rfl|simp
  ·have hke:k=l.length:=by omega
   subst hke
   rw [QeQ hno]
   repeat' (first|(apply nx;with_reducible constructor)|refine jq (by decide) ?_|((first|refine kz env fun Q hQ=>?_|refine kj fun Q hQ=>?_);simp only [vkt,seval,ite_and];(repeat' first|with_reducible assumption|apply kk|intro hp);all_goals (first|(refine hQ _ ?_;clear hQ Q)|(refine hQ _ (fun h=>?_) (fun h=>?_) <;> clear hQ Q <;> (try simp only [vki,reduceCtorEq] at h))|(refine kx ?_;kernel_rfl)|omega|assumption|with_reducible rfl|skip)))
   (simp only [vrt,Tryz.results141,vkt,seval,Ya];refine Fin.val rfl ?_;(try simp only [AV.le]))
   all_goals first|rfl|simp
def YU:List AV→Prop × AV
 |[.sl l,.agg [.v (.int .i64 b0),.v (.int .i64 b1)]]=>(l=(l.map zg).map qO∧(l.map zg).length≤100,aI (LW (⟨b0,b1⟩:Bunk) (l.map zg)))
 |_=>(False,.junk)
theorem Qjp {A:Frm→Prop}:qm A Tryz.prog 141 (qG true YU):=qH fun vs hv h=>by
 clear hv
 unfold YU at h ⊢
 split at h
 ·rename_i l b0 b1;obtain ⟨q0,k0⟩:=h
  refine ⟨by first|trivial|(repeat' split) <;> simp [AV.plain,AV.plainL,aI,aB,ql,qb,qp,qx,aTk,cTk],fun _=>(by simp [AV.flat,aI]), ?_⟩
  have:=Qfn (⟨b0,b1⟩:Bunk) (l.map zg) k0
  simp only [qx,qb,aI,← q0] at this
  first|exact this|(simp only [qx,qb,aI,← q0];exact this)
 ·exact h.elim
def Qch:=kk @ty3 (kk @yu (kk @ti3.eq_1 @jQ.eq_1))
def Qh0:=kk @aI.eq_1 (@aB.eq_1)
theorem QhG (b:Bunk) (l:List Bunk) (hl:l.length≤100):FnV Tryz.prog 129 [qb l,qx b] (aB (l.contains b)):=by
 have env:Env (fun _=>True) Tryz.prog tyB (tab [(141,qG true YU)]):=qA ⟨Qjp,trivial⟩
 refine Fn.of (A:=fun _=>True) (n0:=0) (D:=noD) (Fn0 Tryz.func129 rfl (fun vs w=>by kernel_rfl) (by kernel_rfl)) (by simp) (by simp [AV.ids,AV.idsL,qb,qx]) (fun i o h=>by cases h) (fun _ _ _ _=>trivial) qw ?_
 have ex:(⟨b.cab,b.bed⟩:Bunk)=b:=rfl
 have ea:=Qhq b l
 repeat' (first|(apply nx;with_reducible constructor)|refine jq (by decide) ?_|((first|refine kz env fun Q hQ=>?_|refine kj fun Q hQ=>?_);simp only [vkt,seval,Qch,Qh0,qx,qb,yX,YU,ex,ea,ite_and];(repeat' first|with_reducible assumption|apply kk|intro hp);all_goals (first|(refine hQ _ ?_;clear hQ Q)|(refine hQ _ (fun h=>?_) (fun h=>?_) <;> clear hQ Q <;> (try simp only [vki,reduceCtorEq] at h))|(refine kx ?_;kernel_rfl)|omega|assumption|with_reducible rfl|skip)))
 (simp only [vrt,Tryz.results129,vkt,seval,Qh0];refine Fin.val rfl ?_;(try simp only [AV.le]))
 all_goals first|rfl|simp
def QE:List AV→Prop × AV
 |[.sl l,.agg [.v (.int .i64 b0),.v (.int .i64 b1)]]=>(l=(l.map zg).map qO∧(l.map zg).length≤100,aB ((l.map zg).contains (⟨b0,b1⟩:Bunk)))
 |_=>(False,.junk)
theorem Ql1 {A:Frm→Prop}:qm A Tryz.prog 129 (qG true QE):=qH fun vs hv h=>by
 clear hv
 unfold QE at h ⊢
 split at h
 ·rename_i l b0 b1;obtain ⟨q0,k0⟩:=h
  refine ⟨by first|trivial|(repeat' split) <;> simp [AV.plain,AV.plainL,aI,aB,ql,qb,qp,qx,aTk,cTk],fun _=>(by simp [AV.flat,aB]), ?_⟩
  have:=QhG (⟨b0,b1⟩:Bunk) (l.map zg) k0
  simp only [qx,qb,← q0] at this
  first|exact this|(simp only [qx,qb,aI,← q0];exact this)
 ·exact h.elim
def qf (cs:List Cabin) (s:Int) (r:Nat):AObj:=.cells [.sl (cs.map qz),.v (.int .i64 s),.row r]
def qh (l:List Tk):AObj:=.row 64 7 (l.map eTk)
def qJ (cs:List Cabin) (s:Int) (l:List Tk):List AObj:=[qf cs s 1,qh l]
structure NearOk (cs:List Cabin) (l:List Bunk):Prop where
 ne:0 < l.length
 len:l.length≤100
 cabs:cs.length≤100
 mem:∀ b ∈ l,0≤b.cab∧b.cab.toNat < cs.length
def loK (l:List Bunk) (k:Nat):Int:=(l.take k).foldl (fun m b=>min m b.cab) (l.getD 0 default).cab
def hiK (l:List Bunk) (k:Nat):Int:=(l.take k).foldl (fun m b=>max m b.cab) (l.getD 0 default).cab
theorem V4 {l:List Bunk} {k:Nat} (h:k < l.length):loK l (k+1)=min (loK l k) (l.getD k default).cab:=by
 unfold loK
 rw [List.take_succ_eq_append_getElem h,List.foldl_append]
 simp [List.getD_eq_getElem?_getD,h]
theorem YZ {l:List Bunk} {k:Nat} (h:k < l.length):hiK l (k+1)=max (hiK l k) (l.getD k default).cab:=by
 unfold hiK
 rw [List.take_succ_eq_append_getElem h,List.foldl_append]
 simp [List.getD_eq_getElem?_getD,h]
theorem Qdh (cs:List Cabin) (l:List Bunk):kD cs l=(decide (loK l l.length=hiK l l.length) || (decide (loK l l.length+1=hiK l l.length) && (cs.getD (loK l l.length).toNat default).door)):=by
 unfold kD loK hiK
 rw [List.take_length]
theorem XW {cs:List Cabin} {l:List Bunk} (h:NearOk cs l):∀ k,k≤l.length→0≤loK l k∧(loK l k).toNat < cs.length∧0≤hiK l k∧(hiK l k).toNat < cs.length:=by
 intro k
 induction k with
 |zero =>
  intro _
  have:=h.mem _ (wC (d:=default) h.ne)
  simp only [loK,hiK,List.take_zero,List.foldl_nil]
  exact ⟨this.1,this.2,this.1,this.2⟩
 |succ k ih =>
  intro hk
  have h1:=ih (by omega)
  have h2:=h.mem _ (wC (d:=default) (show k < l.length by omega))
  rw [V4 (by omega),YZ (by omega)]
  omega
def nrS (cs:List Cabin) (s:Int) (sold:List Tk) (l:List Bunk) (k:Nat) (lo hi:Int):St:={ t:=asg [(0,.ptr 0 0),(1,qb l),(4,aB false),(5,aI lo),(6,aI hi),(17,qb l),(18,aI l.length),(19,aI k)],h:=qc [(0,qf cs s 1),(1,qh sold)],n:=2,m:=2 }
def xM:=kk @ty3 (kk @ty4 (kk @Za (kk @wh (kk @Q0 (kk @yu (kk @Zt (kk @Wj (kk @ti3.eq_1 (kk @ti4.eq_1 (kk @Qp.eq_1 (kk @zQ.eq_1 (kk @kU.eq_1 (kk @jQ.eq_1 (kk @Qd.eq_1 @Ql.eq_1))))))))))))))
def JS:=kk @aI.eq_1 (@aB.eq_1)
theorem Qj8 (cs:List Cabin) (s:Int) (sold:List Tk) (l:List Bunk) (ok:NearOk cs l):Fn noB Tryz.prog 130 [.ptr 0 0,qb l] (qc (qD 0 (qJ cs s sold))) (aB (kD cs l)) (qc (zm 0 ((qJ cs s sold).map some))) 0:=by
 have env:Env (fun _=>True) Tryz.prog tyB (tab []):=qA trivial
 refine Fn.of (A:=fun _=>True) (n0:=2) (D:=noD) (Fn0 Tryz.func130 rfl (fun vs w=>by kernel_rfl) (by kernel_rfl)) (by simp) (by simp [AV.ids,qb]) ?_ (fun _ _ _ _=>trivial) qw ?_
 ·intro i o hi
  have h:=qF hi
  simp [qD,qJ] at h
  rcases h with ⟨rfl,rfl⟩|⟨rfl,rfl⟩ <;> simp [AObj.ids,AV.ids,AV.idsL,qf,qh]
 have hne:=ok.ne
 have hll:=ok.len
 have hcl:=ok.cabs
 have hbd:=XW ok
 obtain ⟨x0,hx0⟩:∃ x,l.getD 0 default=x:=⟨_,rfl⟩
 have l0:loK l 0=x0.cab:=by rw [← hx0];rfl
 have h0:hiK l 0=x0.cab:=by rw [← hx0];rfl
 rw [Qdh]
 show Sym _ _ _ (qX [.ptr 0 0,qb l] 2 (qc [(0,qf cs s 1),(1,qh sold)])) (wK tyB noD Tryz.f130 fun S rv=>Fin S rv _ 2 (qc [(0,qf cs s 1),(1,qh sold)]) 0)
 repeat' (first|(apply nx;with_reducible constructor)|refine jq (by decide) ?_|((first|refine kz env fun Q hQ=>?_|refine kj fun Q hQ=>?_);simp only [vkt,seval,xM,qb,qO,yt,qf,qh,hx0,ite_and];(repeat' first|with_reducible assumption|apply kk|intro hp);all_goals (first|(refine hQ _ ?_;clear hQ Q)|(refine hQ _ (fun h=>?_) (fun h=>?_) <;> clear hQ Q <;> (try simp only [vki,reduceCtorEq] at h))|(refine kx ?_;kernel_rfl)|omega|assumption|with_reducible rfl|skip)))
 refine qC (fun k:{ k:Nat // k≤l.length }=>nrS cs s sold l k.1 (loK l k.1) (hiK l k.1)) (fun k=>l.length - k.1) ⟨0,Nat.zero_le _⟩ ?_ fun ⟨k,hk⟩=>?_
 ·simp only [l0,h0]
  (refine Le.ok some [] ?_;constructor;all_goals (try simp only [vle,vkt,seval,JS,qb,qf,qh]))
  all_goals first|rfl|simp
 ·repeat' (first|(apply nx;with_reducible constructor)|refine jq (by decide) ?_)
  (refine kz env fun Q hQ=>?_;simp only [vkt,seval,xM,JS,qb,qf,qh,nrS,ite_and];(repeat' first|with_reducible assumption|apply kk|intro hp);all_goals (first|(refine hQ _ ?_;clear hQ Q)|(refine kx ?_;kernel_rfl)|omega|assumption|with_reducible rfl|skip))
  repeat' (first|(apply nx;with_reducible constructor)|refine jq (by decide) ?_)
  (refine wQ (by simp only [vkt,seval];rfl) (fun h=>?_) (fun h=>?_) <;> (try simp only [vki] at h))
  ·have hlt:k < l.length:=by omega
   have e9:=k9 k (by omega)
   obtain ⟨x,hx⟩:∃ x,l.getD k default=x:=⟨_,rfl⟩
   have hl1:=V4 hlt
   have hh1:=YZ hlt
   rw [hx] at hl1 hh1
   repeat' (first|(apply nx;with_reducible constructor)|refine jq (by decide) ?_|((first|refine kz env fun Q hQ=>?_|refine kj fun Q hQ=>?_);simp only [vkt,seval,xM,qO,yt,hx,e9,ite_and];(repeat' first|with_reducible assumption|apply kk|intro hp);all_goals (first|(refine hQ _ ?_;clear hQ Q)|(refine hQ _ (fun h=>?_) (fun h=>?_) <;> clear hQ Q <;> (try simp only [vki,reduceCtorEq] at h))|(refine kx ?_;kernel_rfl)|omega|assumption|with_reducible rfl|skip)))
   refine ⟨⟨k+1,hlt⟩,by show l.length - (k+1) < l.length - k;omega, ?_⟩
   simp only [hl1,hh1]
   (refine Le.ok some [] ?_;constructor;all_goals (try simp only [vle,vkt,seval,JS,qb,qf,qh]))
   all_goals first|rfl|simp
  ·have hke:k=l.length:=by omega
   subst hke
   obtain ⟨g1,g2,g3,g4⟩:=hbd l.length (Nat.le_refl _)
   obtain ⟨lo,hlo⟩:∃ x,loK l l.length=x:=⟨_,rfl⟩
   obtain ⟨hi,hhi⟩:∃ x,hiK l l.length=x:=⟨_,rfl⟩
   rw [hlo] at g1 g2
   rw [hhi] at g3 g4
   obtain ⟨x,hx⟩:∃ x,cs.getD lo.toNat default=x:=⟨_,rfl⟩
   have w1:IntKind.wrap .i64 (lo+1)=lo+1:=wrap64 (by omega) (by omega)
   simp only [hlo,hhi]
   by_cases c1:lo=hi
   ·rw [show (decide (lo=hi) || (decide (lo+1=hi) && (cs.getD lo.toNat default).door))=true by simp [c1]]
    have d1:decide (lo=hi)=true:=decide_eq_true c1
    have d1':(lo == hi)=true:=by simpa using c1
    repeat' (first|(apply nx;with_reducible constructor)|refine jq (by decide) ?_|((first|refine kz env fun Q hQ=>?_|refine kj fun Q hQ=>?_);simp only [vkt,seval,xM,d1,ite_and];(repeat' first|with_reducible assumption|apply kk|intro hp);all_goals (first|(refine hQ _ ?_;clear hQ Q)|(refine hQ _ (fun h=>?_) (fun h=>?_) <;> clear hQ Q <;> (try simp only [vki,reduceCtorEq] at h))|(refine kx ?_;kernel_rfl)|omega|assumption|with_reducible rfl|skip)))
    (simp only [vrt,Tryz.results130,vkt,seval,JS,qf,qh];refine Fin.ok some [] ?_ ?_ ?_ ?_ ?_ rfl;all_goals (try simp only [vle,vkt,seval]))
    all_goals first|rfl|simp
   ·have d1:decide (lo=hi)=false:=decide_eq_false c1
    have d1':(lo == hi)=false:=by simpa using c1
    by_cases c2:lo+1=hi
    ·rw [show (decide (lo=hi) || (decide (lo+1=hi) && (cs.getD lo.toNat default).door))=x.door by rw [d1,hx,decide_eq_true c2];simp]
     have d2:decide (lo+1=hi)=true:=decide_eq_true c2
     have d2':(lo+1 == hi)=true:=by simpa using c2
     repeat' (first|(apply nx;with_reducible constructor)|refine jq (by decide) ?_|((first|refine kz env fun Q hQ=>?_|refine kj fun Q hQ=>?_);simp only [vkt,seval,xM,qz,yc,d1,d2,w1,hx,g1,g2,ite_and];(repeat' first|with_reducible assumption|apply kk|intro hp);all_goals (first|(refine hQ _ ?_;clear hQ Q)|(refine hQ _ (fun h=>?_) (fun h=>?_) <;> clear hQ Q <;> (try simp only [vki,reduceCtorEq] at h))|(refine kx ?_;kernel_rfl)|omega|assumption|with_reducible rfl|skip)))
     (simp only [vrt,Tryz.results130,vkt,seval,JS,qf,qh];refine Fin.ok some [] ?_ ?_ ?_ ?_ ?_ rfl;all_goals (try simp only [vle,vkt,seval]))
     all_goals first|rfl|simp
    ·rw [show (decide (lo=hi) || (decide (lo+1=hi) && (cs.getD lo.toNat default).door))=false by rw [d1,decide_eq_false c2];rfl]
     have d2:decide (lo+1=hi)=false:=decide_eq_false c2
     have d2':(lo+1 == hi)=false:=by simpa using c2
     repeat' (first|(apply nx;with_reducible constructor)|refine jq (by decide) ?_|((first|refine kz env fun Q hQ=>?_|refine kj fun Q hQ=>?_);simp only [vkt,seval,xM,d1,d2,w1,ite_and];(repeat' first|with_reducible assumption|apply kk|intro hp);all_goals (first|(refine hQ _ ?_;clear hQ Q)|(refine hQ _ (fun h=>?_) (fun h=>?_) <;> clear hQ Q <;> (try simp only [vki,reduceCtorEq] at h))|(refine kx ?_;kernel_rfl)|omega|assumption|with_reducible rfl|skip)))
     (simp only [vrt,Tryz.results130,vkt,seval,JS,qf,qh];refine Fin.ok some [] ?_ ?_ ?_ ?_ ?_ rfl;all_goals (try simp only [vle,vkt,seval]))
     all_goals first|rfl|simp
def Qaw:=kk @ty3 @ti3.eq_1
def QfJ:=kk @aI.eq_1 (@aB.eq_1)
theorem Qd1 (x n m:Int) (h:0≤m∧m≤100000):Fn noB Tryz.prog 26 [.ptr 0 0,aI n,aI m] (qc (wN x)) (aB (decide (upV x (m - 1) < n))) (qc (wN (upS x (m - 1)))) 0:=by
 have env:Env (fun _=>True) Tryz.prog tyB (tab [(31,fnE pUp)]):=qA ⟨eUp,trivial⟩
 refine Fn.of (A:=fun _=>True) (n0:=1) (D:=noD) (Fn0 Tryz.func26 rfl (fun vs w=>by kernel_rfl) (by kernel_rfl)) (by simp) (by simp [AV.ids,aI]) ?_ (fun _ _ _ _=>trivial) qw ?_
 ·intro i o hi
  have h:=qF hi
  simp [wN] at h
  rcases h with ⟨rfl,rfl⟩;simp [AObj.ids,AV.ids,AV.idsL]
 have h1:IntKind.wrap .i64 (m - 1)=m - 1:=wrap64 (by omega) (by omega)
 have h2:m - 1 < 9223372036854775807:=by omega
 repeat' (first|(apply nx;with_reducible constructor)|refine jq (by decide) ?_|((first|refine kz env fun Q hQ=>?_|refine kj fun Q hQ=>?_);simp only [vkt,seval,Qaw,QfJ,wN,pUp,h1,h2,ite_and];(repeat' first|with_reducible assumption|apply kk|intro hp);all_goals (first|(refine hQ _ ?_;clear hQ Q)|(refine hQ _ (fun h=>?_) (fun h=>?_) <;> clear hQ Q <;> (try simp only [vki,reduceCtorEq] at h))|(refine kx ?_;kernel_rfl)|omega|assumption|with_reducible rfl|skip)))
 (simp only [vrt,Tryz.results26,vkt,seval,QfJ,wN];refine Fin.ok some [] ?_ ?_ ?_ ?_ ?_ rfl;all_goals (try simp only [vle,vkt,seval]))
 all_goals first|rfl|simp
noncomputable def kN (S:St):List AV→Option Pk
 |[.ptr i 0,.v (.int .i64 n),.v (.int .i64 m)]=>match S.h i with
  |some (.cells [.v (.int .u64 x)])=>some { pre:=0≤m∧m≤100000,hs:=[i],ar:=[.ptr 0 0,.v (.int .i64 n),.v (.int .i64 m)],L0:=[.cells [.v (.int .u64 x)]],v:=.v (.bool (decide (upV x (m - 1) < n))),L1:=[some (.cells [.v (.int .u64 (upS x (m - 1)))])] }
  |_=>none
 |_=>none
theorem Qdu {A:Frm→Prop}:qm A Tryz.prog 26 (fnE kN):=qZ fun S bs q h hp=>by
 unfold kN at h
 split at h
 ·split at h
  ·cases h;exact Qd1 _ _ _ hp
  ·cases h
 ·cases h
def QfW:=kk @ty3 (kk @yf (kk @ti3.eq_1 @jK.eq_1))
def QfR:=kk @aI.eq_1 (kk @aB.eq_1 (kk @ql.eq_1 (kk @qU.eq_1 (@JN))))
theorem Qmg (x:Int) (l:List Int) (h:0 < l.length∧l.length≤100000):Fn noB Tryz.prog 47 [.ptr 0 0,ql l] (qc (wN x)) (aI (l.getD (upV x ((l.length:Int) - 1)).toNat 0)) (qc (wN (upS x ((l.length:Int) - 1)))) 0:=by
 have env:Env (fun _=>True) Tryz.prog tyB (tab [(31,fnE pUp)]):=qA ⟨eUp,trivial⟩
 refine Fn.of (A:=fun _=>True) (n0:=1) (D:=noD) (Fn0 Tryz.func47 rfl (fun vs w=>by kernel_rfl) (by kernel_rfl)) (by simp) (by simp [AV.ids,ql]) ?_ (fun _ _ _ _=>trivial) qw ?_
 ·intro i o hi
  have h:=qF hi
  simp [wN] at h
  rcases h with ⟨rfl,rfl⟩;simp [AObj.ids,AV.ids,AV.idsL]
 have h1:IntKind.wrap .i64 ((l.length:Int) - 1)=(l.length:Int) - 1:=wrap64 (by omega) (by omega)
 have h2:(l.length:Int) - 1 < 9223372036854775807:=by omega
 have hb:=Qbw (x:=x) (m:=(l.length:Int) - 1) h2
 obtain ⟨i,hi⟩:∃ i:Nat,upV x ((l.length:Int) - 1)=i:=⟨(upV x ((l.length:Int) - 1)).toNat,by omega⟩
 rw [hi] at hb ⊢
 have i0:((i:Int)).toNat=i:=rfl
 have hil:i < l.length:=by omega
 have d0:decide ((l.length:Int)=0)=false:=decide_eq_false (by omega)
 obtain ⟨y,hy⟩:∃ y,l.getD i 0=y:=⟨_,rfl⟩
 rw [i0,hy]
 repeat' (first|(apply nx;with_reducible constructor)|refine jq (by decide) ?_|((first|refine kz env fun Q hQ=>?_|refine kj fun Q hQ=>?_);simp only [vkt,seval,QfW,QfR,wN,pUp,h1,h2,hi,i0,hil,d0,hy,ite_and];(repeat' first|with_reducible assumption|apply kk|intro hp);all_goals (first|(refine hQ _ ?_;clear hQ Q)|(refine hQ _ (fun h=>?_) (fun h=>?_) <;> clear hQ Q <;> (try simp only [reduceCtorEq] at h))|(refine kx ?_;kernel_rfl)|omega|assumption|with_reducible rfl|skip)))
 (simp only [vrt,Tryz.results47,vkt,seval,QfR,wN];refine Fin.ok some [] ?_ ?_ ?_ ?_ ?_ rfl;all_goals (try simp only [vle,vkt,seval]))
 all_goals first|rfl|simp
noncomputable def Qeh (S:St):List AV→Option Pk
 |[.ptr i 0,.row r]=>match S.h i,S.h r with
  |some (.cells [.v (.int .u64 x)]),some (.row _ _ xs)=>some { pre:=xs=(xs.map qM).map qU∧0 < (xs.map qM).length∧(xs.map qM).length≤100000,hs:=[i],bo:=[r],ar:=[.ptr 0 0,.sl xs],L0:=[.cells [.v (.int .u64 x)]],v:=.v (.int .i64 ((xs.map qM).getD (upV x (((xs.map qM).length:Int) - 1)).toNat 0)),L1:=[some (.cells [.v (.int .u64 (upS x (((xs.map qM).length:Int) - 1)))])] }
  |_,_=>none
 |_=>none
theorem eOne {A:Frm→Prop}:qm A Tryz.prog 47 (fnE Qeh):=qZ fun S bs q h hp=>by
 unfold Qeh at h
 split at h
 ·split at h
  ·cases h
   have:=Qmg (by assumption) _ hp.2
   rw [ql,← hp.1] at this
   exact this
  ·cases h
 ·cases h
def J7 (t x:Tk):Bool:=decide (x.cab=t.cab) && !decide (t.to≤x.frm) && !decide (x.to≤t.frm) && (decide (x.bed=t.bed) || (!decide (x.party=t.party) && (!decide (x.sex=t.sex) || x.dog || t.dog)))
def QR (l:List Tk) (t:Tk):Bool:=!l.any (J7 t)
theorem QfF {l:List Tk} {t:Tk} {k:Nat} (hk:k < l.length) (h:J7 t (l.getD k default)=true):QR l t=false:=by
 unfold QR
 rw [List.any_eq_true.2 ⟨_,wC hk,h⟩];rfl
theorem Qfd {l:List Tk} {t:Tk} (h:∀ j,j < l.length→J7 t (l.getD j default)=false):QR l t=true:=by
 unfold QR
 rw [show l.any (J7 t)=false from List.any_eq_false.2 fun x hx=>?_]
 ·rfl
 ·obtain ⟨j,hj,rfl⟩:=List.mem_iff_getElem.1 hx
  have:=h j hj
  rw [show l.getD j default=l[j] by simp [List.getD_eq_getElem?_getD,hj]] at this
  rw [this];simp
def goS (l:List Tk) (t:Tk) (k:Nat):St:={ t:=asg [(0,qp l),(3,.ptr 0 0),(4,aB false),(5,aI k)],h:=qc [(0,.cells (cTk t))],n:=1 }
def jy:=kk @ty3 (kk @ty4 (kk @yP (kk @yu (kk @wP (kk @ti3.eq_1 (kk @ti4.eq_1 (kk @yh.eq_1 (kk @jQ.eq_1 @wI.eq_1))))))))
def wL:=kk @aI.eq_1 (@aB.eq_1)
set_option maxHeartbeats 1000000 in
theorem QjO (l:List Tk) (t:Tk) (hl:l.length≤100):FnV Tryz.prog 48 [qp l,aTk t] (aB (QR l t)):=by
 have env:Env (fun _=>True) Tryz.prog tyB (tab []):=qA trivial
 refine Fn.of (A:=fun _=>True) (n0:=0) (D:=noD) (Fn0 Tryz.func48 rfl (fun vs w=>by kernel_rfl) (by kernel_rfl)) (by simp) (by simp [AV.ids,AV.idsL,qp,aTk,cTk]) (fun i o h=>by cases h) (fun _ _ _ _=>trivial) qw ?_
 repeat' (first|(apply nx;with_reducible constructor)|refine jq (by decide) ?_|((first|refine kz env fun Q hQ=>?_|refine kj fun Q hQ=>?_);simp only [vkt,seval,aTk,cTk,qp,ite_and];(repeat' first|with_reducible assumption|apply kk|intro hp);all_goals (first|(refine hQ _ ?_;clear hQ Q)|(refine hQ _ (fun h=>?_) (fun h=>?_) <;> clear hQ Q <;> (try simp only [vki,reduceCtorEq] at h))|(refine kx ?_;kernel_rfl)|omega|assumption|with_reducible rfl|skip)))
 refine qC (fun k:{ k:Nat // k≤l.length∧∀ j,j < k→J7 t (l.getD j default)=false }=>goS l t k.1) (fun k=>l.length - k.1) ⟨0,Nat.zero_le _,fun j h=>absurd h (Nat.not_lt_zero _)⟩ ?_ fun ⟨k,hk,hno⟩=>?_
 ·(refine Le.ok some [] ?_;constructor;all_goals (try simp only [vle,vkt,seval,wL,cTk,qp]))
  all_goals first|rfl|simp
 simp only at hk hno ⊢
 by_cases hkl:k < l.length
 ·have d1:decide ((k:Int) < (l.length:Int))=true:=decide_eq_true (by omega)
  have e9:=k9 k (by omega)
  have i0:((k:Int)).toNat=k:=rfl
  obtain ⟨x,hx⟩:∃ x,l.getD k default=x:=⟨_,rfl⟩
  have nxt:J7 t x=false→∀ S,Le S (goS l t (k+1))→∃ y:{ k:Nat // k≤l.length∧∀ j,j < k→J7 t (l.getD j default)=false },(l.length - y.1 < l.length - k)∧Le S (goS l t y.1):=fun hb S hS=>⟨⟨k+1,hkl,fun j hj=>by
   rcases Nat.lt_or_eq_of_le (Nat.le_of_lt_succ hj) with h1|h1
   ·exact hno j h1
   ·rw [h1,hx];exact hb⟩,by show l.length - (k+1) < l.length - k;omega,hS⟩
  have fin:J7 t x=true→QR l t=false:=fun hb=>QfF hkl (by rw [hx];exact hb)
  have hbx:J7 t x=(decide (x.cab=t.cab) && !decide (t.to≤x.frm) && !decide (x.to≤t.frm) && (decide (x.bed=t.bed) || (!decide (x.party=t.party) && (!decide (x.sex=t.sex) || x.dog || t.dog)))):=rfl
  cases q1:decide (x.cab=t.cab)
  ·repeat' (first|(apply nx;with_reducible constructor)|refine jq (by decide) ?_|((first|refine kz env fun Q hQ=>?_|refine kj fun Q hQ=>?_);simp only [vkt,seval,jy,wL,cTk,qp,eTk,gTk,goS,d1,e9,i0,hkl,hx,q1,ite_and];(repeat' first|with_reducible assumption|apply kk|intro hp);all_goals (first|(refine hQ _ ?_;clear hQ Q)|(refine hQ _ (fun h=>?_) (fun h=>?_) <;> clear hQ Q <;> (try simp only [reduceCtorEq] at h))|(refine kx ?_;kernel_rfl)|omega|assumption|with_reducible rfl|skip)))
   refine nxt (by rw [hbx,q1];rfl) _ ?_
   (refine Le.ok some [] ?_;constructor;all_goals (try simp only [vle,vkt,seval,wL,cTk,qp]))
   all_goals first|rfl|simp
  cases q2:decide (t.to≤x.frm)
  case true =>
   repeat' (first|(apply nx;with_reducible constructor)|refine jq (by decide) ?_|((first|refine kz env fun Q hQ=>?_|refine kj fun Q hQ=>?_);simp only [vkt,seval,jy,wL,cTk,qp,eTk,gTk,goS,d1,e9,i0,hkl,hx,q1,q2,ite_and];(repeat' first|with_reducible assumption|apply kk|intro hp);all_goals (first|(refine hQ _ ?_;clear hQ Q)|(refine hQ _ (fun h=>?_) (fun h=>?_) <;> clear hQ Q <;> (try simp only [reduceCtorEq] at h))|(refine kx ?_;kernel_rfl)|omega|assumption|with_reducible rfl|skip)))
   refine nxt (by rw [hbx,q1,q2];rfl) _ ?_
   (refine Le.ok some [] ?_;constructor;all_goals (try simp only [vle,vkt,seval,wL,cTk,qp]))
   all_goals first|rfl|simp
  cases q3:decide (x.to≤t.frm)
  case true =>
   repeat' (first|(apply nx;with_reducible constructor)|refine jq (by decide) ?_|((first|refine kz env fun Q hQ=>?_|refine kj fun Q hQ=>?_);simp only [vkt,seval,jy,wL,cTk,qp,eTk,gTk,goS,d1,e9,i0,hkl,hx,q1,q2,q3,ite_and];(repeat' first|with_reducible assumption|apply kk|intro hp);all_goals (first|(refine hQ _ ?_;clear hQ Q)|(refine hQ _ (fun h=>?_) (fun h=>?_) <;> clear hQ Q <;> (try simp only [reduceCtorEq] at h))|(refine kx ?_;kernel_rfl)|omega|assumption|with_reducible rfl|skip)))
   refine nxt (by rw [hbx,q1,q2,q3];rfl) _ ?_
   (refine Le.ok some [] ?_;constructor;all_goals (try simp only [vle,vkt,seval,wL,cTk,qp]))
   all_goals first|rfl|simp
  cases q4:decide (x.bed=t.bed)
  case true =>
   rw [fin (by rw [hbx,q1,q2,q3,q4];rfl)]
   repeat' (first|(apply nx;with_reducible constructor)|refine jq (by decide) ?_|((first|refine kz env fun Q hQ=>?_|refine kj fun Q hQ=>?_);simp only [vkt,seval,jy,wL,cTk,qp,eTk,gTk,goS,d1,i0,hkl,hx,q1,q2,q3,q4,ite_and];(repeat' first|with_reducible assumption|apply kk|intro hp);all_goals (first|(refine hQ _ ?_;clear hQ Q)|(refine hQ _ (fun h=>?_) (fun h=>?_) <;> clear hQ Q <;> (try simp only [reduceCtorEq] at h))|(refine kx ?_;kernel_rfl)|omega|assumption|with_reducible rfl|skip)))
   (simp only [vrt,Tryz.results48,vkt,seval,wL];refine Fin.val rfl ?_;(try simp only [AV.le]))
   all_goals first|rfl|simp
  cases q5:decide (x.party=t.party)
  case true =>
   repeat' (first|(apply nx;with_reducible constructor)|refine jq (by decide) ?_|((first|refine kz env fun Q hQ=>?_|refine kj fun Q hQ=>?_);simp only [vkt,seval,jy,wL,cTk,qp,eTk,gTk,goS,d1,e9,i0,hkl,hx,q1,q2,q3,q4,q5,ite_and];(repeat' first|with_reducible assumption|apply kk|intro hp);all_goals (first|(refine hQ _ ?_;clear hQ Q)|(refine hQ _ (fun h=>?_) (fun h=>?_) <;> clear hQ Q <;> (try simp only [reduceCtorEq] at h))|(refine kx ?_;kernel_rfl)|omega|assumption|with_reducible rfl|skip)))
   refine nxt (by rw [hbx,q1,q2,q3,q4,q5];rfl) _ ?_
   (refine Le.ok some [] ?_;constructor;all_goals (try simp only [vle,vkt,seval,wL,cTk,qp]))
   all_goals first|rfl|simp
  cases q6:decide (x.sex=t.sex)
  ·rw [fin (by rw [hbx,q1,q2,q3,q4,q5,q6];rfl)]
   repeat' (first|(apply nx;with_reducible constructor)|refine jq (by decide) ?_|((first|refine kz env fun Q hQ=>?_|refine kj fun Q hQ=>?_);simp only [vkt,seval,jy,wL,cTk,qp,eTk,gTk,goS,d1,i0,hkl,hx,q1,q2,q3,q4,q5,q6,ite_and];(repeat' first|with_reducible assumption|apply kk|intro hp);all_goals (first|(refine hQ _ ?_;clear hQ Q)|(refine hQ _ (fun h=>?_) (fun h=>?_) <;> clear hQ Q <;> (try simp only [reduceCtorEq] at h))|(refine kx ?_;kernel_rfl)|omega|assumption|with_reducible rfl|skip)))
   (simp only [vrt,Tryz.results48,vkt,seval,wL];refine Fin.val rfl ?_;(try simp only [AV.le]))
   all_goals first|rfl|simp
  cases q7:x.dog
  case true =>
   rw [fin (by rw [hbx,q1,q2,q3,q4,q5,q6,q7];rfl)]
   repeat' (first|(apply nx;with_reducible constructor)|refine jq (by decide) ?_|((first|refine kz env fun Q hQ=>?_|refine kj fun Q hQ=>?_);simp only [vkt,seval,jy,wL,cTk,qp,eTk,gTk,goS,d1,i0,hkl,hx,q1,q2,q3,q4,q5,q6,q7,ite_and];(repeat' first|with_reducible assumption|apply kk|intro hp);all_goals (first|(refine hQ _ ?_;clear hQ Q)|(refine hQ _ (fun h=>?_) (fun h=>?_) <;> clear hQ Q <;> (try simp only [reduceCtorEq] at h))|(refine kx ?_;kernel_rfl)|omega|assumption|with_reducible rfl|skip)))
   (simp only [vrt,Tryz.results48,vkt,seval,wL];refine Fin.val rfl ?_;(try simp only [AV.le]))
   all_goals first|rfl|simp
  cases q8:t.dog
  ·repeat' (first|(apply nx;with_reducible constructor)|refine jq (by decide) ?_|((first|refine kz env fun Q hQ=>?_|refine kj fun Q hQ=>?_);simp only [vkt,seval,jy,wL,cTk,qp,eTk,gTk,goS,d1,e9,i0,hkl,hx,q1,q2,q3,q4,q5,q6,q7,q8,ite_and];(repeat' first|with_reducible assumption|apply kk|intro hp);all_goals (first|(refine hQ _ ?_;clear hQ Q)|(refine hQ _ (fun h=>?_) (fun h=>?_) <;> clear hQ Q <;> (try simp only [reduceCtorEq] at h))|(refine kx ?_;kernel_rfl)|omega|assumption|with_reducible rfl|skip)))
   refine nxt (by rw [hbx,q1,q2,q3,q4,q5,q6,q7,q8];rfl) _ ?_
   (refine Le.ok some [] ?_;constructor;all_goals (try simp only [vle,vkt,seval,wL,cTk,qp]))
   all_goals first|rfl|(simp [q8];done)
  ·rw [fin (by rw [hbx,q1,q2,q3,q4,q5,q6,q7,q8];rfl)]
   repeat' (first|(apply nx;with_reducible constructor)|refine jq (by decide) ?_|((first|refine kz env fun Q hQ=>?_|refine kj fun Q hQ=>?_);simp only [vkt,seval,jy,wL,cTk,qp,eTk,gTk,goS,d1,i0,hkl,hx,q1,q2,q3,q4,q5,q6,q7,q8,ite_and];(repeat' first|with_reducible assumption|apply kk|intro hp);all_goals (first|(refine hQ _ ?_;clear hQ Q)|(refine hQ _ (fun h=>?_) (fun h=>?_) <;> clear hQ Q <;> (try simp only [reduceCtorEq] at h))|(refine kx ?_;kernel_rfl)|omega|assumption|with_reducible rfl|skip)))
   (simp only [vrt,Tryz.results48,vkt,seval,wL];refine Fin.val rfl ?_;(try simp only [AV.le]))
   all_goals first|rfl|simp
 ·have d1:decide ((k:Int) < (l.length:Int))=false:=decide_eq_false (by omega)
  rw [Qfd (fun j hj=>hno j (by omega))]
  repeat' (first|(apply nx;with_reducible constructor)|refine jq (by decide) ?_|((first|refine kz env fun Q hQ=>?_|refine kj fun Q hQ=>?_);simp only [vkt,seval,jy,wL,cTk,qp,goS,d1,ite_and];(repeat' first|with_reducible assumption|apply kk|intro hp);all_goals (first|(refine hQ _ ?_;clear hQ Q)|(refine hQ _ (fun h=>?_) (fun h=>?_) <;> clear hQ Q <;> (try simp only [reduceCtorEq] at h))|(refine kx ?_;kernel_rfl)|omega|assumption|with_reducible rfl|skip)))
  (simp only [vrt,Tryz.results48,vkt,seval,wL];refine Fin.val rfl ?_;(try simp only [AV.le]))
  all_goals first|rfl|simp
def Qcl:List AV→Prop × AV
 |[.sl l,.agg [.v (.int .i64 t0),.v (.int .i64 t1),.v (.int .i64 t2),.v (.int .i64 t3),.v (.int .i64 t4),.v (.int .i64 t5),.v (.bool t6)]]=>(l=(l.map dTk).map eTk∧(l.map dTk).length≤100,aB (QR (l.map dTk) (⟨t0,t1,t2,t3,t4,t5,t6⟩:Tk)))
 |_=>(False,.junk)
theorem egoes {A:Frm→Prop}:qm A Tryz.prog 48 (qG true Qcl):=qH fun vs hv h=>by
 clear hv
 unfold Qcl at h ⊢
 split at h
 ·rename_i l t0 t1 t2 t3 t4 t5 t6;obtain ⟨q0,k0⟩:=h
  refine ⟨by first|trivial|(repeat' split) <;> simp [AV.plain,AV.plainL,aI,aB,ql,qb,qp,qx,aTk,cTk],fun _=>(by simp [AV.flat,aB]), ?_⟩
  have:=QjO (l.map dTk) (⟨t0,t1,t2,t3,t4,t5,t6⟩:Tk) k0
  simp only [aB,aTk,qp,cTk,← q0] at this
  first|exact this|(simp only [aB,aI,aTk,qp,cTk,← q0];exact this)
 ·exact h.elim
theorem dI1 (a:Int):qM [.v (.int .i64 a)]=a:=rfl
noncomputable def ym (x:Int):Nat→List Cabin × Int
 |0=>([],x)
 |k+1=>((ym x k).1++[⟨1+upV (ym x k).2 2,decide (upV (upS (ym x k).2 2) 2 < 2)⟩],upS (upS (ym x k).2 2) 2)
noncomputable def pA (p s:Int):Int × Int:=if p=0 then (p+(1+upV s 2),upS s 2) else if upV s 3 < 1 then (p,upS s 3) else (p+(1+upV (upS s 3) 2),upS (upS s 3) 2)
noncomputable def j4 (cs:List Cabin) (secs p s1:Int):Tk × Int :=
 let n:=upV s1 ((cs.length:Int) - 1)
 let s2:=upS s1 ((cs.length:Int) - 1)
 let s3:=upS s2 1
 let b:=(cs.getD n.toNat default).beds
 let s4:=upS s3 (b - 1)
 let f:=upV s4 (secs - 1)
 let s5:=upS s4 (secs - 1)
 let s6:=upS s5 7
 (⟨p,([1,2]:List Int).getD (upV s2 1).toNat 0,n,upV s3 (b - 1),f,f+1+upV s6 (secs - (f+1)),decide (upV s5 7 < 1)⟩,upS s6 (secs - (f+1)))
noncomputable def tkK (cs:List Cabin) (secs x:Int):Nat→Int × List Tk × Int
 |0=>(0,[],x)
 |k+1=>((pA (tkK cs secs x k).1 (tkK cs secs x k).2.2).1,if QR (tkK cs secs x k).2.1 (j4 cs secs (pA (tkK cs secs x k).1 (tkK cs secs x k).2.2).1 (pA (tkK cs secs x k).1 (tkK cs secs x k).2.2).2).1 then (tkK cs secs x k).2.1++[(j4 cs secs (pA (tkK cs secs x k).1 (tkK cs secs x k).2.2).1 (pA (tkK cs secs x k).1 (tkK cs secs x k).2.2).2).1] else (tkK cs secs x k).2.1,
   (j4 cs secs (pA (tkK cs secs x k).1 (tkK cs secs x k).2.2).1 (pA (tkK cs secs x k).1 (tkK cs secs x k).2.2).2).2)
noncomputable def xZ (x g:Int):Int:=1+upV x (g - 1)
noncomputable def Vj (x g:Int):Int:=upS x (g - 1)
noncomputable def yo (x g a:Int):List Cabin × Int:=ym (upS (Vj x g) (a - 1)) (1+upV (Vj x g) (a - 1)).toNat
noncomputable def Qe3 (x g a s:Int):Int × List Tk × Int:=tkK (yo x g a).1 (xZ x g) (upS (yo x g a).2 s) (upV (yo x g a).2 s).toNat
noncomputable def coC (x a g s:Int):Chart:=⟨(yo x g a).1,xZ x g,(Qe3 x g a s).2.1⟩
noncomputable def coX (x a g s:Int):Int:=(Qe3 x g a s).2.2
theorem up2 (x:Int) {m:Int} (h0:0≤m) (h:m≤100000):0≤upV x m∧upV x m≤m:=by
 have:=Qbw (x:=x) (m:=m) (by omega)
 omega
theorem Qgw {p s p1 s1:Int} (h:pA p s=(p1,s1)) (hp:0≤p∧p≤1000) :
  ∃ (b:Bool) (sB:Int),((decide (p=0)=true∧True∧b=true∧sB=s)∨(decide (p=0)=false∧decide (upV s 3 < 1)=!b∧True∧sB=upS s 3))∧((b=true∧IntKind.wrap .i64 (p+(1+upV sB 2))=p1∧upS sB 2=s1)∨(b=false∧p=p1∧sB=s1)):=by
 unfold pA at h
 split at h
 ·rename_i h0
  have:=up2 s (m:=2) (by omega) (by omega)
  cases h
  exact ⟨true,s,.inl ⟨decide_eq_true h0,trivial,rfl,rfl⟩,.inl ⟨rfl,wrap64 (by omega) (by omega),rfl⟩⟩
 ·rename_i h0
  split at h
  ·rename_i h1
   cases h
   exact ⟨false,upS s 3,.inr ⟨decide_eq_false h0,decide_eq_true h1,trivial,rfl⟩,.inr ⟨rfl,rfl,rfl⟩⟩
  ·rename_i h1
   have:=up2 (upS s 3) (m:=2) (by omega) (by omega)
   cases h
   exact ⟨true,upS s 3,.inr ⟨decide_eq_false h0,decide_eq_false h1,trivial,rfl⟩,.inl ⟨rfl,wrap64 (by omega) (by omega),rfl⟩⟩
theorem QkP {p s:Int} (hp:0≤p):p≤(pA p s).1∧1≤(pA p s).1∧(pA p s).1≤p+3:=by
 have h1:=up2 s (m:=2) (by omega) (by omega)
 have h2:=up2 (upS s 3) (m:=2) (by omega) (by omega)
 unfold pA
 split
 ·simp only;omega
 ·split
  ·simp only;omega
  ·simp only;omega
theorem Rw (cs:List Cabin) (secs x:Int):∀ k,0≤(tkK cs secs x k).1∧(tkK cs secs x k).1≤3 * k∧(tkK cs secs x k).2.1.length≤k
 |0=>⟨Int.le_refl _,Int.le_refl _,Nat.le_refl _⟩
 |k+1=>by
  obtain ⟨h1,h2,h3⟩:=Rw cs secs x k
  have h4:=QkP (s:=(tkK cs secs x k).2.2) h1
  rw [tkK]
  refine ⟨by simp only;omega,by simp only;omega, ?_⟩
  simp only
  split
  ·rw [List.length_append,List.length_singleton];omega
  ·omega
theorem RD (x:Int):∀ k,(ym x k).1.length=k∧∀ c ∈ (ym x k).1,1≤c.beds∧c.beds≤3
 |0=>⟨rfl,by simp [ym]⟩
 |k+1=>by
  obtain ⟨h1,h2⟩:=RD x k
  have h3:=up2 (ym x k).2 (m:=2) (by omega) (by omega)
  rw [ym]
  refine ⟨by simp [h1],fun c hc=>?_⟩
  rcases List.mem_append.1 hc with hc|hc
  ·exact h2 c hc
  ·rw [List.mem_singleton.1 hc];simp only;omega
def coA (secs s m:Int) (i:Nat) (cs:List Cabin):St:={ t:=asg [(0,.ptr 0 0),(3,aI m),(8,.ptr 1 0),(9,.ptr 2 0),(10,aI i)],h:=qc [(0,.cells [.v (.int .u64 s)]),(1,.cells [.nil,aI 0,.nil]),(2,.cells [.row 3,aI secs,.nil]),(3,.row 89 2 (cs.map qz))],n:=4,m:=1 }
def coB (cs:List Cabin) (secs s p:Int) (i:Nat) (l:List Tk):St:={ t:=asg [(0,.ptr 0 0),(8,.ptr 1 0),(9,.ptr 2 0),(11,aI p),(12,aI i)],h:=qc [(0,.cells [.v (.int .u64 s)]),(1,.cells [.nil,aI 0,.nil]),(2,.cells [.row 3,aI secs,.row 4]),(3,.row 89 2 (cs.map qz)),(4,.row 64 7 (l.map eTk))],n:=5,m:=1 }
def coM (cs:List Cabin) (secs s p:Int) (i:Nat) (l:List Tk) (T:List (Nat × AV)) (O:List (Nat × AObj)) (n:Nat):St:={ t:=asg (T++[(0,.ptr 0 0),(8,.ptr 1 0),(9,.ptr 2 0),(11,aI p),(12,aI i)]),h:=qc ([(0,.cells [.v (.int .u64 s)]),(1,.cells [.nil,aI 0,.nil]),(2,.cells [.row 3,aI secs,.row 4]),(3,.row 89 2 (cs.map qz)),(4,.row 64 7 (l.map eTk))]++O),n:=n,m:=1 }
def zt:=kk @ty3 (kk @Za (kk @yP (kk @wh (kk @yf (kk @yu (kk @wP (kk @Zt (kk @ti3.eq_1 (kk @Qp.eq_1 (kk @yh.eq_1 (kk @zQ.eq_1 (kk @jK.eq_1 (kk @jQ.eq_1 (kk @wI.eq_1 @Qd.eq_1))))))))))))))
def jg:=kk @aI.eq_1 (kk @aB.eq_1 (@qU.eq_1))
set_option maxHeartbeats 4000000 in
theorem Qb1 (x a g s:Int) (ha:1≤a∧a≤3) (hg:1≤g∧g≤5) (hs:0≤s∧s≤8):Fn noB Tryz.prog 11 [.ptr 0 0,aI a,aI g,aI s] (qc (wN x)) (qd (coC x a g s)) (qc (wN (coX x a g s))) 0:=by
 have env:Env (fun _=>True) Tryz.prog tyB (tab [(13,fnE Jh),(31,fnE pUp),(26,fnE kN),(47,fnE Qeh),(48,qG true Qcl)]):=qA ⟨Qk7,eUp,Qdu,eOne,egoes,trivial⟩
 refine Fn.of (A:=fun _=>True) (n0:=1) (D:=noD) (Fn0 Tryz.func11 rfl (fun vs w=>by kernel_rfl) (by kernel_rfl)) (by simp) (by simp [AV.ids,aI]) ?_ (fun _ _ _ _=>trivial) qw ?_
 ·intro i o hi
  have h:=qF hi
  simp [wN] at h
  rcases h with ⟨rfl,rfl⟩;simp [AObj.ids,AV.ids,AV.idsL]
 have m1:min g 5=g:=by omega
 have m2:min a 3=a:=by omega
 have m3:min s 8=s:=by omega
 have hmx:(100000:Nat)≤maxLen:=by decide
 have hsc:=up2 x (m:=g - 1) (by omega) (by omega)
 have hx1:upS x (g - 1)=Vj x g:=rfl
 have hsb:1≤xZ x g∧xZ x g≤5:=by unfold xZ;omega
 have hcs:1+upV x (g - 1)=xZ x g:=rfl
 have hnc:=up2 (Vj x g) (m:=a - 1) (by omega) (by omega)
 obtain ⟨nc,hnc1⟩:∃ nc:Nat,1+upV (Vj x g) (a - 1)=nc:=⟨(1+upV (Vj x g) (a - 1)).toNat,by omega⟩
 obtain ⟨y,hy⟩:∃ y,upS (Vj x g) (a - 1)=y:=⟨_,rfl⟩
 have hcc:yo x g a=ym y nc:=by unfold yo;rw [hy,hnc1];rfl
 have hcb:=RD y
 have hnt:=up2 (ym y nc).2 (m:=s) (by omega) (by omega)
 obtain ⟨nt,hnt1⟩:∃ nt:Nat,upV (ym y nc).2 s=nt:=⟨(upV (ym y nc).2 s).toNat,by omega⟩
 obtain ⟨z,hz⟩:∃ z,upS (ym y nc).2 s=z:=⟨_,rfl⟩
 have htk:Qe3 x g a s=tkK (ym y nc).1 (xZ x g) z nt:=by unfold Qe3;rw [hcc,hz,hnt1];rfl
 unfold coC coX
 rw [hcc,htk]
 obtain ⟨S,hS⟩:∃ S,xZ x g=S:=⟨_,rfl⟩
 rw [hS] at hsb hcs ⊢
 obtain ⟨X1,hX1⟩:∃ X1,Vj x g=X1:=⟨_,rfl⟩
 rw [hX1] at hx1 hnc1 hy hnc
 have hal:-100000≤(1:Int):=by decide
 have b1:g≤100000:=by omega
 have b2:a≤100000:=by omega
 have b3:-100000≤g:=by omega
 have b4:-100000≤a:=by omega
 have b5:s < 9223372036854775807:=by omega
 show Sym _ _ _ (qX [.ptr 0 0,aI a,aI g,aI s] 1 (qc [(0,.cells [.v (.int .u64 x)])])) (wK tyB noD Tryz.f11 fun S' rv=>Fin S' rv _ 1 (qc [(0,.cells [.v (.int .u64 (tkK (ym y nc).1 S z nt).2.2)])]) 0)
 repeat' (first|(apply nx;with_reducible constructor)|refine jq (by decide) ?_|((first|refine kz env fun Q hQ=>?_|refine kj fun Q hQ=>?_);simp only [vkt,seval,zt,jg,Jh,m1,m2,hcs,hx1,hnc1,hy,ite_and];(repeat' first|with_reducible assumption|apply kk|intro hp);all_goals (first|(refine hQ _ ?_;clear hQ Q)|(refine hQ _ (fun h=>?_) (fun h=>?_) <;> clear hQ Q <;> (try simp only [vki,reduceCtorEq] at h))|(refine kx ?_;kernel_rfl)|omega|assumption|with_reducible rfl|skip)))
 refine qC (fun k:{ k:Nat // k≤nc }=>coA S (ym y k.1).2 s (nc - k.1) (ym y k.1).1) (fun k=>nc - k.1) ⟨0,Nat.zero_le _⟩ ?_ fun ⟨k,hk⟩=>?_
 ·(refine Le.ok (fun i=>if i=3 then none else some i) [] ?_;constructor;all_goals (try simp only [vle,vkt,seval,jg]))
  all_goals first|rfl|(simp [ym];done)|(intro i hi;rw [if_neg (by omega)];done)
 simp only at hk ⊢
 by_cases hkl:k < nc
 ·have d1:decide ((0:Int) < ((nc - k:Nat):Int))=true:=decide_eq_true (by omega)
  have w1:IntKind.wrap .i64 (((nc - k:Nat):Int) - 1)=((nc - (k+1):Nat):Int):=by rw [wrap64 (by omega) (by omega)];omega
  have hl:=(hcb k).1
  have hl1:(ym y k).1.length+1≤maxLen:=by omega
  have hS1:(ym y (k+1)).1=(ym y k).1++[⟨1+upV (ym y k).2 2,decide (upV (upS (ym y k).2 2) 2 < 2)⟩]:=by rw [ym]
  have hS2:(ym y (k+1)).2=upS (upS (ym y k).2 2) 2:=by rw [ym]
  repeat' (first|(apply nx;with_reducible constructor)|refine jq (by decide) ?_|((first|refine kz env fun Q hQ=>?_|refine kj fun Q hQ=>?_);simp only [vkt,seval,zt,jg,R8,coA,Jh,kN,d1,w1,hl1,ite_and];(repeat' first|with_reducible assumption|apply kk|intro hp);all_goals (first|(refine hQ _ ?_;clear hQ Q)|(refine hQ _ (fun h=>?_) (fun h=>?_) <;> clear hQ Q <;> (try simp only [reduceCtorEq] at h))|(refine kx ?_;kernel_rfl)|omega|assumption|with_reducible rfl|skip)))
  refine ⟨⟨k+1,hkl⟩,by show nc - (k+1) < nc - k;omega, ?_⟩
  show Le _ (coA S (ym y (k+1)).2 s (nc - (k+1)) (ym y (k+1)).1)
  rw [hS1,hS2]
  (refine Le.ok (fun i=>if i=3 then some 5 else some i) [] ?_;constructor;all_goals (try simp only [vle,vkt,seval,jg]))
  all_goals first|rfl|(rw [List.map_append];rfl)|(simp;done)|(intro i hi;rw [if_neg (by omega)];done)
 ·have d1:decide ((0:Int) < ((nc - k:Nat):Int))=false:=decide_eq_false (by omega)
  obtain rfl:k=nc:=by omega
  obtain ⟨hcl,hcm⟩:=hcb k
  obtain ⟨⟨cs,u⟩,hcu⟩:∃ c,ym y k=c:=⟨_,rfl⟩
  rw [hcu] at hcl hcm hnt hnt1 hz ⊢
  simp only at hcl hcm hnt hnt1 hz ⊢
  repeat' (first|(apply nx;with_reducible constructor)|refine jq (by decide) ?_|((first|refine kz env fun Q hQ=>?_|refine kj fun Q hQ=>?_);simp only [vkt,seval,zt,jg,coA,pUp,d1,m3,hnt1,hz,ite_and];(repeat' first|with_reducible assumption|apply kk|intro hp);all_goals (first|(refine hQ _ ?_;clear hQ Q)|(refine hQ _ (fun h=>?_) (fun h=>?_) <;> clear hQ Q <;> (try simp only [reduceCtorEq] at h))|(refine kx ?_;kernel_rfl)|omega|assumption|with_reducible rfl|skip)))
  refine qC (fun j:{ j:Nat // j≤nt }=>coB cs S (tkK cs S z j.1).2.2 (tkK cs S z j.1).1 (nt - j.1) (tkK cs S z j.1).2.1) (fun j=>nt - j.1) ⟨0,Nat.zero_le _⟩ ?_ fun ⟨j,hj⟩=>?_
  ·(refine Le.ok (fun i=>if i=4 then none else some i) [] ?_;constructor;all_goals (try simp only [vle,vkt,seval,jg]))
   all_goals first|rfl|(simp [tkK];done)|(intro i hi;rw [if_neg (by omega)];done)
  simp only at hj ⊢
  by_cases hjl:j < nt
  ·have d1:decide ((0:Int) < ((nt - j:Nat):Int))=true:=decide_eq_true (by omega)
   have w1:IntKind.wrap .i64 (((nt - j:Nat):Int) - 1)=((nt - (j+1):Nat):Int):=by rw [wrap64 (by omega) (by omega)];omega
   obtain ⟨hp0,hp3,hll⟩:=Rw cs S z j
   have hK1:tkK cs S z (j+1)=((pA (tkK cs S z j).1 (tkK cs S z j).2.2).1,if QR (tkK cs S z j).2.1 (j4 cs S (pA (tkK cs S z j).1 (tkK cs S z j).2.2).1 (pA (tkK cs S z j).1 (tkK cs S z j).2.2).2).1 then (tkK cs S z j).2.1++[(j4 cs S (pA (tkK cs S z j).1 (tkK cs S z j).2.2).1 (pA (tkK cs S z j).1 (tkK cs S z j).2.2).2).1] else (tkK cs S z j).2.1,(j4 cs S (pA (tkK cs S z j).1 (tkK cs S z j).2.2).1 (pA (tkK cs S z j).1 (tkK cs S z j).2.2).2).2):=by rw [tkK]
   obtain ⟨⟨p,l,s0⟩,hK⟩:∃ q,tkK cs S z j=q:=⟨_,rfl⟩
   rw [hK] at hp0 hp3 hll hK1 ⊢
   simp only at hp0 hp3 hll hK1 ⊢
   have hl1:l.length+1≤maxLen:=by omega
   have hl100:l.length≤100:=by omega
   obtain ⟨⟨p1,s1⟩,hA⟩:∃ q,pA p s0=q:=⟨_,rfl⟩
   have hAc:=Qgw hA ⟨hp0,by omega⟩
   rw [hA] at hK1
   simp only at hK1
   have hn0:=up2 s1 (m:=(k:Int) - 1) (by omega) (by omega)
   obtain ⟨n,hn⟩:∃ n:Nat,upV s1 ((k:Int) - 1)=n:=⟨(upV s1 ((k:Int) - 1)).toNat,by omega⟩
   obtain ⟨s2,hs2⟩:∃ q,upS s1 ((k:Int) - 1)=q:=⟨_,rfl⟩
   obtain ⟨sx,hsx⟩:∃ q,([1,2]:List Int).getD (upV s2 1).toNat 0=q:=⟨_,rfl⟩
   obtain ⟨s3,hs3⟩:∃ q,upS s2 1=q:=⟨_,rfl⟩
   have hnk:n < cs.length:=by omega
   obtain ⟨cb,hcbv⟩:∃ q,cs.getD n default=q:=⟨_,rfl⟩
   have hcg:=Qll hnk
   rw [hcbv] at hcg
   have hbb:=hcm cb (by rw [← hcbv];exact wC hnk)
   obtain ⟨bd,hbd⟩:∃ q,upV s3 (cb.beds - 1)=q:=⟨_,rfl⟩
   obtain ⟨s4,hs4⟩:∃ q,upS s3 (cb.beds - 1)=q:=⟨_,rfl⟩
   have hf0:=up2 s4 (m:=S - 1) (by omega) (by omega)
   obtain ⟨f,hf⟩:∃ q,upV s4 (S - 1)=q:=⟨_,rfl⟩
   rw [hf] at hf0
   obtain ⟨s5,hs5⟩:∃ q,upS s4 (S - 1)=q:=⟨_,rfl⟩
   obtain ⟨dg,hdg⟩:∃ q,decide (upV s5 7 < 1)=q:=⟨_,rfl⟩
   obtain ⟨s6,hs6⟩:∃ q,upS s5 7=q:=⟨_,rfl⟩
   obtain ⟨tt,htt⟩:∃ q,f+1+upV s6 (S - (f+1))=q:=⟨_,rfl⟩
   obtain ⟨s7,hs7⟩:∃ q,upS s6 (S - (f+1))=q:=⟨_,rfl⟩
   have hTn:j4 cs S p1 s1=(⟨p1,sx,n,bd,f,tt,dg⟩,s7):=by
    unfold j4
    simp only [hcl,hn,hs2,hsx,hs3,Int.toNat_natCast,hcbv,hbd,hs4,hf,hs5,hdg,hs6,htt,hs7]
   rw [hTn] at hK1
   simp only at hK1
   have w2:IntKind.wrap .i64 ((k:Int) - 1)=(k:Int) - 1:=wrap64 (by omega) (by omega)
   have w3:IntKind.wrap .i64 (cb.beds - 1)=cb.beds - 1:=wrap64 (by omega) (by omega)
   have w4:IntKind.wrap .i64 (S - 1)=S - 1:=wrap64 (by omega) (by omega)
   have w5:IntKind.wrap .i64 (f+1)=f+1:=wrap64 (by omega) (by omega)
   have e1:(k:Int) - 1 < 9223372036854775807:=by omega
   have e2:cb.beds - 1 < 9223372036854775807:=by omega
   have e3:S - 1 < 9223372036854775807:=by omega
   have e4:-100000≤f+1:=by omega
   have e5:f+1≤100000:=by omega
   have e6:-100000≤S:=by omega
   have e7:S≤100000:=by omega
   have i0:((n:Int)).toNat=n:=rfl
   obtain ⟨gb,hgb⟩:∃ q,QR l ⟨p1,sx,n,bd,f,tt,dg⟩=q:=⟨_,rfl⟩
   rw [hgb] at hK1
   obtain ⟨bb,sB,hc1,hc2⟩:=hAc
   repeat' (first|(apply nx;with_reducible constructor)|refine jq (by decide) ?_)
   ((first|refine kz env fun Q hQ=>?_|refine kj fun Q hQ=>?_);simp only [vkt,seval,zt,jg,coB,d1,ite_and];(repeat' first|with_reducible assumption|apply kk|intro hp);all_goals (first|(refine hQ _ ?_;clear hQ Q)|(refine hQ _ (fun h=>?_) (fun h=>?_) <;> clear hQ Q <;> (try simp only [vki,reduceCtorEq] at h))|(refine kx ?_;kernel_rfl)|omega|assumption|with_reducible rfl|skip))
   repeat' (first|(apply nx;with_reducible constructor)|refine jq (by decide) ?_)
   ((first|refine kz env fun Q hQ=>?_|refine kj fun Q hQ=>?_);simp only [vkt,seval,ite_and];(repeat' first|with_reducible assumption|apply kk|intro hp);all_goals (first|(refine hQ _ ?_;clear hQ Q)|(refine hQ _ (fun h=>?_) (fun h=>?_) <;> clear hQ Q <;> (try simp only [reduceCtorEq] at h))|(refine kx ?_;kernel_rfl)|omega|assumption|with_reducible rfl|skip))
   repeat' (first|(apply nx;with_reducible constructor)|refine jq (by decide) ?_)
   refine Sym.mono (K:=fun e S1=>e=.normal∧Le S1 (coM cs S sB p (nt - j) l [(52,aB bb)] [] 5)) ?_ ?_
   ·rcases hc1 with ⟨q0,q1,rfl,rfl⟩|⟨q0,q1,q2,rfl⟩
    all_goals
     ((first|refine kz env fun Q hQ=>?_|refine kj fun Q hQ=>?_);simp only [vkt,seval,zt,kN,q0,q1,Bool.not_not,ite_and];(repeat' first|with_reducible assumption|apply kk|intro hp);all_goals (first|(refine hQ _ ?_;clear hQ Q)|(refine hQ _ (fun h=>?_) (fun h=>?_) <;> clear hQ Q <;> (try simp only [vki,reduceCtorEq] at h))|(refine kx ?_;kernel_rfl)|omega|assumption|with_reducible rfl|skip))
     refine ⟨rfl, ?_⟩
     simp only [coM,List.cons_append,List.nil_append]
     (refine Le.ok some [] ?_;constructor;all_goals (try simp only [vle,vkt,seval,jg]))
     all_goals first|rfl|simp
   rintro e S1 ⟨rfl,hle⟩
   refine (jT hle ?_:Sym _ _ _ S1 _)
   clear hle S1 hc1
   refine Sym.mono (K:=fun e S1=>e=.normal∧Le S1 (coM cs S s1 p1 (nt - j) l [] [] 5)) ?_ ?_
   ·rcases hc2 with ⟨rfl,wp,hs1⟩|⟨rfl,wp,hs1⟩
    all_goals
     repeat' (first|(apply nx;with_reducible constructor)|refine jq (by decide) ?_|((first|refine kz env fun Q hQ=>?_|refine kj fun Q hQ=>?_);simp only [vkt,seval,zt,jg,coM,Jh,wp,hs1,ite_and];(repeat' first|with_reducible assumption|apply kk|intro hp);all_goals (first|(refine hQ _ ?_;clear hQ Q)|(refine hQ _ (fun h=>?_) (fun h=>?_) <;> clear hQ Q <;> (try simp only [reduceCtorEq] at h))|(refine kx ?_;kernel_rfl)|omega|assumption|with_reducible rfl|skip)))
     refine ⟨rfl, ?_⟩
     simp only [coM,List.cons_append,List.nil_append]
     (refine Le.ok some [] ?_;constructor;all_goals (try simp only [vle,vkt,seval,jg]))
     all_goals first|rfl|(rw [wp];done)|(rw [hs1];done)|(simp;done)
   rintro e S1 ⟨rfl,hle⟩
   refine (jT hle ?_:Sym _ _ _ S1 _)
   clear hle S1 hc2
   simp only [coM,List.nil_append,List.append_nil]
   repeat' (first|(apply nx;with_reducible constructor)|refine jq (by decide) ?_)
   refine Sym.mono (K:=fun e S1=>e=.normal∧Le S1 (coM cs S s2 p1 (nt - j) l [(13,aI n)] [] 5)) ?_ ?_
   ·((first|refine kz env fun Q hQ=>?_|refine kj fun Q hQ=>?_);simp only [vkt,seval,zt,jg,pUp,hcl,w2,hn,hs2,ite_and];(repeat' first|with_reducible assumption|apply kk|intro hp);all_goals (first|(refine hQ _ ?_;clear hQ Q)|(refine hQ _ (fun h=>?_) (fun h=>?_) <;> clear hQ Q <;> (try simp only [vki,reduceCtorEq] at h))|(refine kx ?_;kernel_rfl)|omega|assumption|with_reducible rfl|skip))
    refine ⟨rfl, ?_⟩
    simp only [coM,List.cons_append,List.nil_append]
    (refine Le.ok some [] ?_;constructor;all_goals (try simp only [vle,vkt,seval,jg]))
    all_goals first|rfl|simp
   rintro e S1 ⟨rfl,hle⟩
   refine (jT hle ?_:Sym _ _ _ S1 _)
   clear hle S1
   simp only [coM,List.cons_append,List.nil_append,List.append_nil]
   repeat' (first|(apply nx;with_reducible constructor)|refine jq (by decide) ?_)
   refine Sym.mono (K:=fun e S1=>e=.normal∧Le S1 (coM cs S s6 p1 (nt - j) l [(14,.ptr 5 0)] [(5,.cells [aI p1,aI sx,aI n,aI bd,aI f,aI 0,aB dg])] 6)) ?_ ?_
   ·((first|refine kz env fun Q hQ=>?_|refine kj fun Q hQ=>?_);simp only [vkt,seval,zt,jg,qz,dI1,pUp,kN,Qeh,hsx,hs3,i0,hnk,hcg,w3,hbd,hs4,w4,hf,hs5,hdg,hs6,ite_and];(repeat' first|with_reducible assumption|apply kk|intro hp);all_goals (first|(refine hQ _ ?_;clear hQ Q)|(refine hQ _ (fun h=>?_) (fun h=>?_) <;> clear hQ Q <;> (try simp only [vki,reduceCtorEq] at h))|(refine kx ?_;kernel_rfl)|omega|assumption|with_reducible rfl|skip))
    ·exact ⟨_,_,rfl⟩
    refine ⟨rfl, ?_⟩
    simp only [coM,List.cons_append,List.nil_append]
    (refine Le.ok (fun i=>if i=5 then some 6 else some i) [] ?_;constructor;all_goals (try simp only [vle,vkt,seval,jg]))
    all_goals first|rfl|(simp;done)|(intro i hi;rw [if_neg (by omega)];done)
   rintro e S1 ⟨rfl,hle⟩
   refine (jT hle ?_:Sym _ _ _ S1 _)
   clear hle S1
   simp only [coM,List.cons_append,List.nil_append]
   repeat' (first|(apply nx;with_reducible constructor)|refine jq (by decide) ?_)
   ((first|refine kz env fun Q hQ=>?_|refine kj fun Q hQ=>?_);simp only [vkt,seval,zt,jg,Jh,w5,htt,hs7,ite_and];(repeat' first|with_reducible assumption|apply kk|intro hp);all_goals (first|(refine hQ _ ?_;clear hQ Q)|(refine hQ _ (fun h=>?_) (fun h=>?_) <;> clear hQ Q <;> (try simp only [vki,reduceCtorEq] at h))|(refine kx ?_;kernel_rfl)|omega|assumption|with_reducible rfl|skip))
   repeat' (first|(apply nx;with_reducible constructor)|refine jq (by decide) ?_)
   ((first|refine kz env fun Q hQ=>?_|refine kj fun Q hQ=>?_);simp only [vkt,seval,zt,jg,mTk,Qcl,hl100,hgb,ite_and];(repeat' first|with_reducible assumption|apply kk|intro hp);all_goals (first|(refine hQ _ ?_;clear hQ Q)|(refine hQ _ (fun h=>?_) (fun h=>?_) <;> clear hQ Q <;> (try simp only [vki,reduceCtorEq] at h))|(refine kx ?_;kernel_rfl)|omega|assumption|with_reducible rfl|skip))
   cases gb with
   |true =>
    rw [if_pos rfl] at hK1
    repeat' (first|(apply nx;with_reducible constructor)|refine jq (by decide) ?_|((first|refine kz env fun Q hQ=>?_|refine kj fun Q hQ=>?_);simp only [vkt,seval,zt,rTk,hl1,w1,ite_and];(repeat' first|with_reducible assumption|apply kk|intro hp);all_goals (first|(refine hQ _ ?_;clear hQ Q)|(refine hQ _ (fun h=>?_) (fun h=>?_) <;> clear hQ Q <;> (try simp only [reduceCtorEq] at h))|(refine kx ?_;kernel_rfl)|omega|assumption|with_reducible rfl|skip)))
    refine ⟨⟨j+1,hjl⟩,by show nt - (j+1) < nt - j;omega, ?_⟩
    show Le _ (coB cs S (tkK cs S z (j+1)).2.2 (tkK cs S z (j+1)).1 (nt - (j+1)) (tkK cs S z (j+1)).2.1)
    rw [hK1]
    (refine Le.ok (fun i=>if i=4 then some 7 else some i) [] ?_;constructor;all_goals (try simp only [vle,vkt,seval,jg]))
    all_goals first|rfl|(rw [List.map_append];rfl)|(simp;done)|(intro i hi;rw [if_neg (by omega)];done)
   |false =>
    rw [if_neg (by decide)] at hK1
    repeat' (first|(apply nx;with_reducible constructor)|refine jq (by decide) ?_|((first|refine kz env fun Q hQ=>?_|refine kj fun Q hQ=>?_);simp only [vkt,seval,zt,w1,ite_and];(repeat' first|with_reducible assumption|apply kk|intro hp);all_goals (first|(refine hQ _ ?_;clear hQ Q)|(refine hQ _ (fun h=>?_) (fun h=>?_) <;> clear hQ Q <;> (try simp only [reduceCtorEq] at h))|(refine kx ?_;kernel_rfl)|omega|assumption|with_reducible rfl|skip)))
    refine ⟨⟨j+1,hjl⟩,by show nt - (j+1) < nt - j;omega, ?_⟩
    show Le _ (coB cs S (tkK cs S z (j+1)).2.2 (tkK cs S z (j+1)).1 (nt - (j+1)) (tkK cs S z (j+1)).2.1)
    rw [hK1]
    (refine Le.ok some [] ?_;constructor;all_goals (try simp only [vle,vkt,seval,jg]))
    all_goals first|rfl|simp
  ·have d1:decide ((0:Int) < ((nt - j:Nat):Int))=false:=decide_eq_false (by omega)
   obtain rfl:j=nt:=by omega
   obtain ⟨⟨p,l,s0⟩,hK⟩:∃ q,tkK cs S z j=q:=⟨_,rfl⟩
   rw [hK]
   repeat' (first|(apply nx;with_reducible constructor)|refine jq (by decide) ?_|((first|refine kz env fun Q hQ=>?_|refine kj fun Q hQ=>?_);simp only [vkt,seval,zt,jg,coB,d1,ite_and];(repeat' first|with_reducible assumption|apply kk|intro hp);all_goals (first|(refine hQ _ ?_;clear hQ Q)|(refine hQ _ (fun h=>?_) (fun h=>?_) <;> clear hQ Q <;> (try simp only [reduceCtorEq] at h))|(refine kx ?_;kernel_rfl)|omega|assumption|with_reducible rfl|skip)))
   (simp only [vrt,Tryz.results11,vkt,seval,zt,qd,qa];refine Fin.ok some [3,4] ?_ ?_ ?_ ?_ ?_ rfl;all_goals (try simp only [vle,vkt,seval]))
   all_goals first|rfl|simp
noncomputable def sxV (s:Int):Int:=([1,2]:List Int).getD (upV s 1).toNat 0
noncomputable def sxK (x:Int):Nat→List Int × Int
 |0=>([],x)
 |k+1=>((sxK x k).1++[sxV (sxK x k).2],upS (sxK x k).2 1)
noncomputable def aoF (x secs:Int):Int:=upV (upS x 39) (secs - 1)
noncomputable def aoX2 (x secs:Int):Int:=upS (upS x 39) (secs - 1)
noncomputable def aoX3 (x secs:Int):Int:=upS (aoX2 x secs) 5
noncomputable def aoT (x secs:Int):Int:=aoF x secs+1+upV (aoX3 x secs) (secs - (aoF x secs+1))
noncomputable def VM (x secs:Int):Int:=upS (aoX3 x secs) (secs - (aoF x secs+1))
noncomputable def aoS (x secs n:Int):List Int × Int:=sxK (upS (VM x secs) (n - 1)) (1+upV (VM x secs) (n - 1)).toNat
noncomputable def aoA (x secs n:Int):Ask:=⟨60+upV x 39,aoF x secs,aoT x secs,(aoS x secs n).1,decide (upV (aoX2 x secs) 5 < 1)⟩
noncomputable def aoX (x secs n:Int):Int:=(aoS x secs n).2
theorem QgP (s:Int):1≤sxV s∧sxV s≤2:=by
 have h:=up2 s (m:=1) (by omega) (by omega)
 unfold sxV
 obtain h0|h0:(upV s 1).toNat=0∨(upV s 1).toNat=1:=by omega
 ·rw [h0];decide
 ·rw [h0];decide
theorem QaR (x:Int):∀ k,(sxK x k).1.length=k∧∀ c ∈ (sxK x k).1,1≤c∧c≤2
 |0=>⟨rfl,by simp [sxK]⟩
 |k+1=>by
  obtain ⟨h1,h2⟩:=QaR x k
  have h3:=QgP (sxK x k).2
  rw [sxK]
  refine ⟨by simp [h1],fun c hc=>?_⟩
  rcases List.mem_append.1 hc with hc|hc
  ·exact h2 c hc
  ·rw [List.mem_singleton.1 hc];exact h3
def aoI (c:Chart) (s pt f t:Int) (d:Bool) (i:Nat) (l:List Int):St:={ t:=asg [(0,.ptr 0 0),(6,.ptr 2 0),(7,.ptr 3 0),(8,aI i)],h:=qc [(0,.cells [.v (.int .u64 s)]),(2,.cells [aI 0,aI 0,aI 0,.nil,aB false]),(3,.cells [aI pt,aI f,aI t,.row 4,aB d]),(4,.row 3 1 (l.map qU))],n:=5,m:=1 }
def xC:=kk @ty3 (kk @wh (kk @yf (kk @jL (kk @ti3.eq_1 (kk @zQ.eq_1 (kk @jK.eq_1 @wY.eq_1))))))
def Xt:=kk @aI.eq_1 (kk @aB.eq_1 (kk @ql.eq_1 (kk @qU.eq_1 (@Xw))))
set_option maxHeartbeats 2000000 in
theorem Qb2 (x:Int) (c:Chart) (n:Int) (hg:1≤c.secs∧c.secs≤5) (hn:1≤n∧n≤3):Fn noB Tryz.prog 12 [.ptr 0 0,qd c,aI n] (qc (wN x)) (qI (aoA x c.secs n)) (qc (wN (aoX x c.secs n))) 0:=by
 have env:Env (fun _=>True) Tryz.prog tyB (tab [(13,fnE Jh),(31,fnE pUp),(26,fnE kN),(47,fnE Qeh)]):=qA ⟨Qk7,eUp,Qdu,eOne,trivial⟩
 refine Fn.of (A:=fun _=>True) (n0:=1) (D:=noD) (Fn0 Tryz.func12 rfl (fun vs w=>by kernel_rfl) (by kernel_rfl)) (by simp) (by simp [AV.ids,AV.idsL,aI,qd,qa]) ?_ (fun _ _ _ _=>trivial) qw ?_
 ·intro i o hi
  have h:=qF hi
  simp [wN] at h
  rcases h with ⟨rfl,rfl⟩;simp [AObj.ids,AV.ids,AV.idsL]
 have m1:min n 3=n:=by omega
 have hmx:(100000:Nat)≤maxLen:=by decide
 obtain ⟨S,hS⟩:∃ S,c.secs=S:=⟨_,rfl⟩
 rw [hS] at hg ⊢
 have hpt:=up2 x (m:=39) (by omega) (by omega)
 obtain ⟨pt,hpt1⟩:∃ q,60+upV x 39=q:=⟨_,rfl⟩
 obtain ⟨x1,hx1⟩:∃ q,upS x 39=q:=⟨_,rfl⟩
 have hf0:=up2 x1 (m:=S - 1) (by omega) (by omega)
 obtain ⟨f,hf⟩:∃ q,upV x1 (S - 1)=q:=⟨_,rfl⟩
 rw [hf] at hf0
 obtain ⟨x2,hx2⟩:∃ q,upS x1 (S - 1)=q:=⟨_,rfl⟩
 obtain ⟨dg,hdg⟩:∃ q,decide (upV x2 5 < 1)=q:=⟨_,rfl⟩
 obtain ⟨x3,hx3⟩:∃ q,upS x2 5=q:=⟨_,rfl⟩
 obtain ⟨tt,htt⟩:∃ q,f+1+upV x3 (S - (f+1))=q:=⟨_,rfl⟩
 obtain ⟨x4,hx4⟩:∃ q,upS x3 (S - (f+1))=q:=⟨_,rfl⟩
 have hnp:=up2 x4 (m:=n - 1) (by omega) (by omega)
 obtain ⟨np,hnp1⟩:∃ q:Nat,1+upV x4 (n - 1)=q:=⟨(1+upV x4 (n - 1)).toNat,by omega⟩
 obtain ⟨y,hy⟩:∃ q,upS x4 (n - 1)=q:=⟨_,rfl⟩
 have e1:aoF x S=f:=by unfold aoF;rw [hx1,hf]
 have e2:aoX2 x S=x2:=by unfold aoX2;rw [hx1,hx2]
 have e3:aoX3 x S=x3:=by unfold aoX3;rw [e2,hx3]
 have e4:aoT x S=tt:=by unfold aoT;rw [e1,e3,htt]
 have e5:VM x S=x4:=by unfold VM;rw [e3,e1,hx4]
 have e6:aoS x S n=sxK y np:=by unfold aoS;rw [e5,hy,hnp1];rfl
 unfold aoX aoA
 rw [e1,e2,e4,e6,hpt1,hdg]
 have w4:IntKind.wrap .i64 (S - 1)=S - 1:=wrap64 (by omega) (by omega)
 have w5:IntKind.wrap .i64 (f+1)=f+1:=wrap64 (by omega) (by omega)
 have b3:S - 1 < 9223372036854775807:=by omega
 have b4:-100000≤f+1:=by omega
 have b5:f+1≤100000:=by omega
 have b6:-100000≤S:=by omega
 have b7:S≤100000:=by omega
 have b8:-100000≤n:=by omega
 have b9:n≤100000:=by omega
 show Sym _ _ _ (qX [.ptr 0 0,qd c,aI n] 1 (qc [(0,.cells [.v (.int .u64 x)])])) (wK tyB noD Tryz.f12 fun S' rv=>Fin S' rv _ 1 (qc [(0,.cells [.v (.int .u64 (sxK y np).2)])]) 0)
 repeat' (first|(apply nx;with_reducible constructor)|refine jq (by decide) ?_|((first|refine kz env fun Q hQ=>?_|refine kj fun Q hQ=>?_);simp only [vkt,seval,xC,Xt,qd,qa,Jh,pUp,kN,hS,m1,hpt1,hx1,w4,hf,hx2,hdg,hx3,w5,htt,hx4,hnp1,hy,ite_and];(repeat' first|with_reducible assumption|apply kk|intro hp);all_goals (first|(refine hQ _ ?_;clear hQ Q)|(refine hQ _ (fun h=>?_) (fun h=>?_) <;> clear hQ Q <;> (try simp only [vki,reduceCtorEq] at h))|(refine kx ?_;kernel_rfl)|omega|assumption|with_reducible rfl|skip)))
 refine qC (fun k:{ k:Nat // k≤np }=>aoI c (sxK y k.1).2 pt f tt dg (np - k.1) (sxK y k.1).1) (fun k=>np - k.1) ⟨0,Nat.zero_le _⟩ ?_ fun ⟨k,hk⟩=>?_
 ·(refine Le.ok (fun i=>if i=4 then none else some i) [] ?_;constructor;all_goals (try simp only [vle,vkt,seval,Xt]))
  all_goals first|rfl|(simp [sxK];done)|(intro i hi;rw [if_neg (by omega)];done)
 simp only at hk ⊢
 by_cases hkl:k < np
 ·have d1:decide ((0:Int) < ((np - k:Nat):Int))=true:=decide_eq_true (by omega)
  have w1:IntKind.wrap .i64 (((np - k:Nat):Int) - 1)=((np - (k+1):Nat):Int):=by rw [wrap64 (by omega) (by omega)];omega
  have hl:=(QaR y k).1
  have hl1:(sxK y k).1.length+1≤maxLen:=by omega
  have hK1:sxK y (k+1)=((sxK y k).1++[sxV (sxK y k).2],upS (sxK y k).2 1):=by rw [sxK]
  obtain ⟨⟨l,s⟩,hK⟩:∃ q,sxK y k=q:=⟨_,rfl⟩
  rw [hK] at hl hl1 hK1 ⊢
  have hl8:(l.length+1) * 8≤140737488355328:=by simp only at hl;omega
  obtain ⟨v,hv⟩:∃ v,sxV s=v:=⟨_,rfl⟩
  simp only [hv] at hK1
  have hv:([1,2]:List Int).getD (upV s 1).toNat 0=v:=hv
  repeat' (first|(apply nx;with_reducible constructor)|refine jq (by decide) ?_|((first|refine kz env fun Q hQ=>?_|refine kj fun Q hQ=>?_);simp only [vkt,seval,xC,Xt,dI1,aoI,Qeh,d1,w1,hl1,hl8,hv,ite_and];(repeat' first|with_reducible assumption|apply kk|intro hp);all_goals (first|(refine hQ _ ?_;clear hQ Q)|(refine hQ _ (fun h=>?_) (fun h=>?_) <;> clear hQ Q <;> (try simp only [reduceCtorEq] at h))|(refine kx ?_;kernel_rfl)|omega|assumption|with_reducible rfl|skip)))
  ·exact ⟨_,_,rfl⟩
  refine ⟨⟨k+1,hkl⟩,by show np - (k+1) < np - k;omega, ?_⟩
  show Le _ (aoI c (sxK y (k+1)).2 pt f tt dg (np - (k+1)) (sxK y (k+1)).1)
  rw [hK1]
  (refine Le.ok (fun i=>if i=4 then some 7 else some i) [] ?_;constructor;all_goals (try simp only [vle,vkt,seval,Xt]))
  all_goals first|rfl|(rw [List.map_append];rfl)|(simp;done)|(intro i hi;rw [if_neg (by omega)];done)
 ·have d1:decide ((0:Int) < ((np - k:Nat):Int))=false:=decide_eq_false (by omega)
  obtain rfl:k=np:=by omega
  obtain ⟨⟨l,s⟩,hK⟩:∃ q,sxK y k=q:=⟨_,rfl⟩
  rw [hK]
  repeat' (first|(apply nx;with_reducible constructor)|refine jq (by decide) ?_|((first|refine kz env fun Q hQ=>?_|refine kj fun Q hQ=>?_);simp only [vkt,seval,xC,Xt,aoI,d1,ite_and];(repeat' first|with_reducible assumption|apply kk|intro hp);all_goals (first|(refine hQ _ ?_;clear hQ Q)|(refine hQ _ (fun h=>?_) (fun h=>?_) <;> clear hQ Q <;> (try simp only [reduceCtorEq] at h))|(refine kx ?_;kernel_rfl)|omega|assumption|with_reducible rfl|skip)))
  (simp only [vrt,Tryz.results12,vkt,seval,xC,qI,qg];refine Fin.ok some [4] ?_ ?_ ?_ ?_ ?_ rfl;all_goals (try simp only [vle,vkt,seval]))
  all_goals first|rfl|simp
theorem jB {cs:List Cabin} {s:Int} {l:List Tk}:∀ i o,qc (qD 0 (qJ cs s l)) i=some o→i < 2∧∀ id ∈ o.ids,id < 2:=by
 intro i o hi
 have h:=qF hi
 simp [qD,qJ] at h
 rcases h with ⟨rfl,rfl⟩|⟨rfl,rfl⟩ <;> simp [AObj.ids,AV.ids,AV.idsL,qf,qh]
def Yq (S:St):List AV→Option Pk
 |[.ptr c 0,.sl bs]=>match S.h c with
  |some (.cells [.sl cs,.v (.int .i64 s),.row r])=>match S.h r with
   |some (.row _ _ xs)=>some { pre:=bs=(bs.map zg).map qO∧cs=(cs.map qj).map qz∧xs=(xs.map dTk).map eTk∧NearOk (cs.map qj) (bs.map zg),hs:=[c,r],ar:=[.ptr 0 0,.sl bs],L0:=qJ (cs.map qj) s (xs.map dTk),v:=aB (kD (cs.map qj) (bs.map zg)),L1:=(qJ (cs.map qj) s (xs.map dTk)).map some }
   |_=>none
  |_=>none
 |_=>none
theorem eNear {A:Frm→Prop}:qm A Tryz.prog 130 (fnE Yq):=qZ fun S bs q h hp=>by
 unfold Yq at h
 split at h
 ·split at h
  ·split at h
   ·cases h
    obtain ⟨h1,h2,h3,h4⟩:=hp
    have:=Qj8 _ (by assumption) (List.map dTk (by assumption)) _ h4
    rw [qb,← h1] at this
    exact this
   ·cases h
  ·cases h
 ·cases h
def QdE:=kk @yP (kk @wh (kk @x8 (kk @wP (kk @Wj (kk @yh.eq_1 (kk @zQ.eq_1 (kk @vV.eq_1 (kk @wI.eq_1 @Ql.eq_1))))))))
def Qic:=kk @aI.eq_1 (@aB.eq_1)
theorem QjM (cs:List Cabin) (s:Int) (sold:List Tk) (t:Tk) (hl:sold.length≤100):Fn noB Tryz.prog 81 [.ptr 0 0,aTk t] (qc (qD 0 (qJ cs s sold))) (aB (decide (zq t sold=0))) (qc (zm 0 ((qJ cs s sold).map some))) 0:=by
 have env:Env (fun _=>True) Tryz.prog tyB (tab [(118,qG true ZK)]):=qA ⟨Qdq,trivial⟩
 refine Fn.of (A:=fun _=>True) (n0:=2) (D:=noD) (Fn0 Tryz.func81 rfl (fun vs w=>by kernel_rfl) (by kernel_rfl)) (by simp) (by simp [AV.ids,AV.idsL,aTk,cTk]) jB (fun _ _ _ _=>trivial) qw ?_
 have et:(⟨t.party,t.sex,t.cab,t.bed,t.frm,t.to,t.dog⟩:Tk)=t:=rfl
 show Sym _ _ _ (qX [.ptr 0 0,aTk t] 2 (qc [(0,qf cs s 1),(1,qh sold)])) (wK tyB noD Tryz.f81 fun S rv=>Fin S rv _ 2 (qc [(0,qf cs s 1),(1,qh sold)]) 0)
 repeat' (first|(apply nx;with_reducible constructor)|refine jq (by decide) ?_|((first|refine kz env fun Q hQ=>?_|refine kj fun Q hQ=>?_);simp only [vkt,seval,QdE,Qic,aTk,cTk,mTk,qf,qh,ZK,et,ite_and];(repeat' first|with_reducible assumption|apply kk|intro hp);all_goals (first|(refine hQ _ ?_;clear hQ Q)|(refine hQ _ (fun h=>?_) (fun h=>?_) <;> clear hQ Q <;> (try simp only [vki,reduceCtorEq] at h))|(refine kx ?_;kernel_rfl)|omega|assumption|with_reducible rfl|skip)))
 (simp only [vrt,Tryz.results81,vkt,seval,Qic,qf,qh];refine Fin.ok some [] ?_ ?_ ?_ ?_ ?_ rfl;all_goals (try simp only [vle,vkt,seval]))
 all_goals first|rfl|simp
def Vg (S:St):List AV→Option Pk
 |[.ptr c 0,.agg [.v (.int .i64 a),.v (.int .i64 b),.v (.int .i64 d),.v (.int .i64 e),.v (.int .i64 f),.v (.int .i64 g),.v (.bool k)]]=>match S.h c with
  |some (.cells [.sl cs,.v (.int .i64 s),.row r])=>match S.h r with
   |some (.row _ _ xs)=>some { pre:=cs=(cs.map qj).map qz∧xs=(xs.map dTk).map eTk∧xs.length≤100,hs:=[c,r],ar:=[.ptr 0 0,.agg [.v (.int .i64 a),.v (.int .i64 b),.v (.int .i64 d),.v (.int .i64 e),.v (.int .i64 f),.v (.int .i64 g),.v (.bool k)]],L0:=qJ (cs.map qj) s (xs.map dTk),v:=aB (decide (zq ⟨a,b,d,e,f,g,k⟩ (xs.map dTk)=0)),L1:=(qJ (cs.map qj) s (xs.map dTk)).map some }
   |_=>none
  |_=>none
 |_=>none
theorem eFits {A:Frm→Prop}:qm A Tryz.prog 81 (fnE Vg):=qZ fun S bs q h hp=>by
 unfold Vg at h
 split at h
 ·rename_i a b d e f g k
  split at h
  ·split at h
   ·rename_i s _ _ _ _ xs _
    cases h
    obtain ⟨h1,h2,h3⟩:=hp
    exact QjM _ _ _ ⟨a,b,d,e,f,g,k⟩ (by rw [List.length_map];exact h3)
   ·cases h
  ·cases h
 ·cases h
theorem Qjv {l:List Tk} {r:List DV} {d:DV} (hr:r ∈ l.map eTk) (hd:d ∈ r):∃ x,d=.v x:=by
 obtain ⟨t,_,rfl⟩:=List.mem_map.1 hr
 simp only [eTk,List.mem_cons,List.not_mem_nil,or_false] at hd
 rcases hd with rfl|rfl|rfl|rfl|rfl|rfl|rfl <;> exact ⟨_,rfl⟩
def Vy (cs:List Cabin) (s:Int) (l:List Tk) (t:Tk):List AObj:=[qf cs s 4,qh l,.cells [.row 1],.cells [.ptr 0 0],qh (l++[t])]
def QeX:=kk @yP (kk @wh (kk @wP (kk @QZ (kk @Wj (kk @yh.eq_1 (kk @zQ.eq_1 (kk @wI.eq_1 (kk @kV.eq_1 @Ql.eq_1))))))))
theorem Qj9 (cs:List Cabin) (s:Int) (sold:List Tk) (t:Tk) (hl:sold.length≤100):Fn noB Tryz.prog 87 [.ptr 0 0,aTk t] (qc (qD 0 (qJ cs s sold))) (.clo 122 [.ptr 2 0,.ptr 3 0]) (qc (zm 0 ((Vy cs s sold t).map some))) 0:=by
 have env:Env (fun _=>True) Tryz.prog tyB (tab [(116,fnE ZH)]):=qA ⟨Qdk,trivial⟩
 refine Fn.of (A:=fun _=>True) (n0:=2) (D:=noD) (Fn0 Tryz.func87 rfl (fun vs w=>by kernel_rfl) (by kernel_rfl)) (by simp) (by simp [AV.ids,AV.idsL,aTk,cTk]) jB (fun _ _ _ _=>trivial) qw ?_
 have hm:(100:Nat)+1≤maxLen:=by decide
 show Sym _ _ _ (qX [.ptr 0 0,aTk t] 2 (qc [(0,qf cs s 1),(1,qh sold)])) (wK tyB noD Tryz.f87 fun S rv=>Fin S rv _ 2 (qc [(0,qf cs s 4),(1,qh sold),(2,.cells [.row 1]),(3,.cells [.ptr 0 0]),(4,qh (sold++[t]))]) 0)
 repeat' (first|(apply nx;with_reducible constructor)|refine jq (by decide) ?_|((first|refine kz env fun Q hQ=>?_|refine kj fun Q hQ=>?_);simp only [vkt,seval,QeX,aTk,cTk,rTk,qf,qh,ZH,ite_and];(repeat' first|with_reducible assumption|apply kk|intro hp);all_goals (first|(refine hQ _ ?_;clear hQ Q)|(refine hQ _ (fun h=>?_) (fun h=>?_) <;> clear hQ Q <;> (try simp only [vki,reduceCtorEq] at h))|(refine kx ?_;kernel_rfl)|omega|assumption|with_reducible rfl|skip)))
 ·exact ⟨_,_,rfl⟩
 ·exact Qjv (by assumption) (by assumption)
 (simp only [vrt,Tryz.results87,vkt,seval,eTk,qf,qh,List.map_append];refine Fin.ok (fun j=>[0,1,4,2,7][j]?) [] ?_ ?_ ?_ ?_ ?_ rfl;all_goals (try simp only [vle,vkt,seval]))
 all_goals first|rfl|(simp;done)|exact fun i hi=>(match i,hi with|0,_=>rfl|1,_=>rfl)
def QcU (S:St):List AV→Option Pk
 |[.ptr c 0,.agg [.v (.int .i64 a),.v (.int .i64 b),.v (.int .i64 d),.v (.int .i64 e),.v (.int .i64 f),.v (.int .i64 g),.v (.bool k)]]=>match S.h c with
  |some (.cells [.sl cs,.v (.int .i64 s),.row r])=>match S.h r with
   |some (.row _ _ xs)=>some { pre:=cs=(cs.map qj).map qz∧xs=(xs.map dTk).map eTk∧xs.length≤100,hs:=[c,r],ar:=[.ptr 0 0,.agg [.v (.int .i64 a),.v (.int .i64 b),.v (.int .i64 d),.v (.int .i64 e),.v (.int .i64 f),.v (.int .i64 g),.v (.bool k)]],L0:=qJ (cs.map qj) s (xs.map dTk),v:=.clo 122 [.ptr 2 0,.ptr 3 0],L1:=(Vy (cs.map qj) s (xs.map dTk) ⟨a,b,d,e,f,g,k⟩).map some }
   |_=>none
  |_=>none
 |_=>none
theorem eSell {A:Frm→Prop}:qm A Tryz.prog 87 (fnE QcU):=qZ fun S bs q h hp=>by
 unfold QcU at h
 split at h
 ·rename_i a b d e f g k
  split at h
  ·split at h
   ·cases h
    obtain ⟨h1,h2,h3⟩:=hp
    exact Qj9 _ _ _ ⟨a,b,d,e,f,g,k⟩ (by rw [List.length_map];exact h3)
   ·cases h
  ·cases h
 ·cases h
def Qa8:=kk @yP (kk @wh (kk @wP (kk @QZ (kk @Wj (kk @yh.eq_1 (kk @zQ.eq_1 (kk @wI.eq_1 (kk @kV.eq_1 @Ql.eq_1))))))))
theorem Qh6 (cs:List Cabin) (s:Int) (sold:List Tk) (t:Tk):FnD Tryz.prog 122 [.ptr 2 0,.ptr 3 0] (qc (qD 0 (Vy cs s sold t))) (.tup []) (qc (zm 0 ([qf cs s 1,qh sold,.cells [.row 1],.cells [.ptr 0 0],qh (sold++[t])].map some))):=by
 have env:Env (fun F=>F.r=none) Tryz.prog tyB (tab []):=qA trivial
 refine FnD.of (n0:=5) (Fn0 Tryz.func122 rfl (fun vs w=>by kernel_rfl) (by kernel_rfl)) (by simp) (by simp [AV.ids]) ?_ ?_
 ·intro i o hi
  have h:=qF hi
  simp [qD,Vy] at h
  rcases h with ⟨rfl,rfl⟩|⟨rfl,rfl⟩|⟨rfl,rfl⟩|⟨rfl,rfl⟩|⟨rfl,rfl⟩ <;> simp [AObj.ids,AV.ids,AV.idsL,qf,qh]
 show Sym _ _ _ (qX [.ptr 2 0,.ptr 3 0] 5 (qc [(0,qf cs s 4),(1,qh sold),(2,.cells [.row 1]),(3,.cells [.ptr 0 0]),(4,qh (sold++[t]))])) (Qgv tyB Tryz.f122 fun S rv=>Fin S rv _ 5 (qc [(0,qf cs s 1),(1,qh sold),(2,.cells [.row 1]),(3,.cells [.ptr 0 0]),(4,qh (sold++[t]))]) 0)
 repeat' (first|(apply nx;with_reducible constructor)|refine jq (by decide) ?_|((first|refine kz env fun Q hQ=>?_|refine kj fun Q hQ=>?_);simp only [vkt,seval,Qa8,qf,qh,ite_and];(repeat' first|with_reducible assumption|apply kk|intro hp);all_goals (first|(refine hQ _ ?_;clear hQ Q)|(refine hQ _ (fun h=>?_) (fun h=>?_) <;> clear hQ Q <;> (try simp only [vki,reduceCtorEq] at h))|(refine kx ?_;kernel_rfl)|omega|assumption|with_reducible rfl|skip)))
 simp only [Qgv.eq_1]
 refine ⟨trivial, ?_⟩
 (simp only [vrt,Tryz.results122,vkt,seval,qf,qh];refine Fin.ok some [] ?_ ?_ ?_ ?_ ?_ rfl;all_goals (try simp only [vle,vkt,seval]))
 all_goals first|rfl|simp
def RV (S:St):List AV→Option Pk
 |[.ptr b 0,.ptr q 0]=>match S.h b,S.h q with
  |some (.cells [.row r]),some (.cells [.ptr c 0])=>match S.h c with
   |some (.cells [.sl cs,.v (.int .i64 s),.row r'])=>match S.h r,S.h r' with
    |some (.row _ _ xs),some (.row _ _ ys)=>some { pre:=cs=(cs.map qj).map qz∧ys=(xs.map dTk).map eTk++[ys.getLastD []]∧ys.getLastD []=eTk (dTk (ys.getLastD [])),hs:=[c,r,b,q,r'],ar:=[.ptr 2 0,.ptr 3 0],L0:=Vy (cs.map qj) s (xs.map dTk) (dTk (ys.getLastD [])),v:=.tup [],L1:=[qf (cs.map qj) s 1,qh (xs.map dTk),.cells [.row 1],.cells [.ptr 0 0],qh (xs.map dTk++[dTk (ys.getLastD [])])].map some }
    |_,_=>none
   |_=>none
  |_,_=>none
 |_=>none
theorem Qlo {A:Frm→Prop}:kR.OK A Tryz.prog (dfE 122 RV):=QgZ fun S bs q h hp=>by
 unfold RV at h
 split at h
 ·split at h
  ·split at h
   ·split at h
    ·cases h
     exact Qh6 _ _ _ _
    ·cases h
   ·cases h
  ·cases h
 ·cases h
def zz (cs:List Cabin) (a:Ask):Nat→List Tk→List Bunk→List (List Bunk × List Tk)
 |0,sold,begun=>[(begun,sold)]
 |m+1,sold,begun=>(qK cs).flatMap fun b=>if goB cs a sold begun b then zz cs a m (sold++[yV a begun.length b]) (begun++[b]) else []
structure GrowOk (cs:List Cabin) (s:Int) (a:Ask) (m:Nat) (sold:List Tk) (begun:List Bunk) (ys:Nat→List AV) (hl:Nat→List AObj) (ans:Nat→Bool) (R:Nat):Prop where
 sz:begun.length+m=a.sexes.length
 sx:a.sexes.length≤10
 cab:CabsOk cs
 c100:cs.length≤100
 many:sold.length+m≤100
 mem:∀ b ∈ begun,0≤b.cab∧b.cab.toNat < cs.length
 rounds:Rounds ans R (zz cs a m sold begun).length
 ys:∀ j,j < (zz cs a m sold begun).length→ys j=[qb ((zz cs a m sold begun).getD j default).1]
 hl:∀ j,j < (zz cs a m sold begun).length→hl j=qJ cs s ((zz cs a m sold begun).getD j default).2
def VB (cs:List Cabin) (s:Int) (a:Ask) (m:Nat):Prop:=∀ (sold:List Tk) (begun:List Bunk) (ys:Nat→List AV) (hl:Nat→List AObj) (ans:Nat→Bool) (R:Nat),GrowOk cs s a m sold begun ys hl ans R →
 Fn (Bcc Tryz.prog (qc (qD 0 [qf cs s 1])) (qc (qD 0 (qJ cs s sold))) ys (fun j=>nth (hl j)) ans R) Tryz.prog 104 [.ptr 0 0,qI a,qb begun,.cb] (qc (qD 0 (qJ cs s sold))) (aB (vR ans R)) (qc (zm 0 ((qJ cs s sold).map some))) R
def Qds (cs:List Cabin) (s:Int) (a:Ask) (m:Nat) (ys:Nat→List AV) (hl:Nat→List AObj) (ans:Nat→Bool) (R:Nat) (S:St):List AV→Option PkI
 |[.ptr c 0,.agg aa,.sl bs,.cb]=>match S.h c with
  |some (.cells [.sl cc,.v (.int .i64 s'),.row r])=>match S.h r with
   |some (.row _ _ xs)=>some { q:={ pre:=cc=cs.map qz∧s'=s∧aa=qg a∧bs=(bs.map zg).map qO∧xs=(xs.map dTk).map eTk∧GrowOk cs s a m (xs.map dTk) (bs.map zg) (fun j=>ys (S.j+j)) (fun j=>hl (S.j+j)) (fun j=>ans (S.j+j)) (min (zz cs a m (xs.map dTk) (bs.map zg)).length (R - S.j)),hs:=[c,r],ar:=[.ptr 0 0,.agg aa,.sl bs,.cb],L0:=qJ cs s (xs.map dTk),v:=aB (vR (fun j=>ans (S.j+j)) (min (zz cs a m (xs.map dTk) (bs.map zg)).length (R - S.j))),L1:=(qJ cs s (xs.map dTk)).map some },dj:=min (zz cs a m (xs.map dTk) (bs.map zg)).length (R - S.j) }
   |_=>none
  |_=>none
 |_=>none
theorem eGrow {A:Frm→Prop} {cs:List Cabin} {s:Int} {a:Ask} {m:Nat} {ys:Nat→List AV} {hl:Nat→List AObj} {ans:Nat→Bool} {R:Nat} {h0:Nat→Option AObj} (ih:VB cs s a m) (hA:∀ F,A F→Acb Tryz.prog (qc (qD 0 [qf cs s 1])) h0 ys (fun j=>nth (hl j)) ans R F) :
  qm A Tryz.prog 104 (fnI [qf cs s 1] R (Qds cs s a m ys hl ans R)):=Ri hA fun S bs q h hp=>by
 unfold Qds at h
 split at h
 ·split at h
  ·split at h
   ·cases h
    obtain ⟨_,_,h3,h4,_,h6⟩:=hp
    have:=ih _ _ _ _ _ _ h6
    rw [qb,← h4,qI,← h3] at this
    exact this
   ·cases h
  ·cases h
 ·cases h
def g1L (cs:List Cabin) (s:Int) (a:Ask) (sold:List Tk) (begun:List Bunk):List AObj:=[qf cs s 1,qh sold,.cells [.ptr 0 0],.cells (qg a),.cells [.sl (begun.map qO)],.cells [.cb]]
theorem Qgd {cs:List Cabin} {s:Int} {a:Ask} {sold:List Tk} {begun:List Bunk}:∀ i o,qc (qD 0 (g1L cs s a sold begun)) i=some o→i < 6∧∀ id ∈ o.ids,id < 6:=by
 intro i o hi
 have h:=qF hi
 simp [qD,g1L] at h
 rcases h with ⟨rfl,rfl⟩|⟨rfl,rfl⟩|⟨rfl,rfl⟩|⟨rfl,rfl⟩|⟨rfl,rfl⟩|⟨rfl,rfl⟩ <;> simp [AObj.ids,AV.ids,AV.idsL,qf,qh,qg]
theorem Qfv {cs:List Cabin} {s:Int} {r:List AObj}:∀ i o,qc (qD 0 [qf cs s 1]) i=some o→∃ o',qc (qD 0 (qf cs s 1 :: r)) i=some o':=fun i o hi=>by
 rw [zX] at hi
 cases i with
 |zero=>exact ⟨_,rfl⟩
 |succ i=>simp at hi
def KY (cs:List Cabin) (s:Int) (a:Ask) (m:Nat):Prop:=∀ (sold:List Tk) (begun:List Bunk) (ys:Nat→List AV) (hl:Nat→List AObj) (ans:Nat→Bool) (R:Nat),GrowOk cs s a m sold begun ys hl ans R →
 Fn (Bcc Tryz.prog (qc (qD 0 [qf cs s 1])) (qc (qD 0 (g1L cs s a sold begun))) ys (fun j=>nth (hl j)) ans R) Tryz.prog 132 [.ptr 2 0,.ptr 3 0,.ptr 4 0,.ptr 5 0] (qc (qD 0 (g1L cs s a sold begun))) (aB (vR ans R)) (qc (zm 0 ((g1L cs s a sold begun).map some))) R
def QaW:=kk @jL (kk @Q0 (kk @yu (kk @QZ (kk @Qk2 (kk @wY.eq_1 (kk @kU.eq_1 (kk @jQ.eq_1 (kk @kV.eq_1 @UG.eq_1))))))))
def Qhp:=kk @aI.eq_1 (@aB.eq_1)
theorem QgV {cs:List Cabin} {s:Int} {a:Ask} {m:Nat} (ih:VB cs s a m):KY cs s a m:=by
 intro sold begun ys hl ans R ok
 obtain ⟨A0,hA0⟩:∃ A0:Frm→Prop,A0=Acb Tryz.prog (qc (qD 0 [qf cs s 1])) (qc (qD 0 (g1L cs s a sold begun))) ys (fun j=>nth (hl j)) ans R:=⟨_,rfl⟩
 have hA:∀ F,A0 F→Acb Tryz.prog (qc (qD 0 [qf cs s 1])) (qc (qD 0 (g1L cs s a sold begun))) ys (fun j=>nth (hl j)) ans R F:=fun F h=>hA0 ▸ h
 have env:Env A0 Tryz.prog tyB (tab [(104,fnI [qf cs s 1] R (Qds cs s a m ys hl ans R))]):=qA ⟨eGrow ih hA,trivial⟩
 refine Fn.of (A:=A0) (n0:=6) (D:=noD) (Fn0 Tryz.func132 rfl (fun vs w=>by kernel_rfl) (by kernel_rfl)) (by simp) (by simp [AV.ids]) Qgd (fun F hb h0 _=>hA0 ▸ ⟨h0,Qfv,hb⟩) qw ?_
 have hle:=ok.rounds.le
 have eR:min (zz cs a m sold begun).length R=R:=by omega
 have ea1:a.sexes=a.sexes:=rfl
 show Sym _ _ _ (qX [.ptr 2 0,.ptr 3 0,.ptr 4 0,.ptr 5 0] 6 (qc [(0,qf cs s 1),(1,qh sold),(2,.cells [.ptr 0 0]),(3,.cells (qg a)),(4,.cells [.sl (begun.map qO)]),(5,.cells [.cb])])) (wK tyB noD Tryz.f132 fun S rv=>Fin S rv _ 6 (qc [(0,qf cs s 1),(1,qh sold),(2,.cells [.ptr 0 0]),(3,.cells (qg a)),(4,.cells [.sl (begun.map qO)]),(5,.cells [.cb])]) R)
 repeat' (first|(apply nx;with_reducible constructor)|refine jq (by decide) ?_|((first|refine kz env fun Q hQ=>?_|refine kj fun Q hQ=>?_);simp only [vkt,seval,QaW,Qhp,qg,yX,mTk,qf,qh,qJ,Qds,fnI,J8,hwL,Nat.sub_zero,eR,ok,ite_and];(repeat' first|with_reducible assumption|apply kk|intro hp);all_goals (first|(refine hQ _ ?_;clear hQ Q)|(refine hQ _ (fun h=>?_) (fun h=>?_) <;> clear hQ Q <;> (try simp only [vki,reduceCtorEq] at h))|(refine kx ?_;kernel_rfl)|omega|assumption|with_reducible rfl|skip)))
 (simp only [vrt,Tryz.results132,vkt,seval,Qhp,qg,qf,qh];refine Fin.ok some [] ?_ ?_ ?_ ?_ ?_ rfl;all_goals (try simp only [vle,vkt,seval]))
 all_goals first|rfl|(simp;done)|exact fun i hi=>(match i,hi with|0,_=>rfl|1,_=>rfl)
def Rb (cs:List Cabin) (s:Int) (a:Ask) (m:Nat) (ys:Nat→List AV) (hl:Nat→List AObj) (ans:Nat→Bool) (R:Nat) (S:St):List AV→Option PkI
 |[.ptr p2 0,.ptr p3 0,.ptr p4 0,.ptr p5 0]=>match S.h p2,S.h p3,S.h p4,S.h p5 with
  |some (.cells [.ptr c 0]),some (.cells aa),some (.cells [.sl bs]),some (.cells [.cb])=>match S.h c with
   |some (.cells [.sl cc,.v (.int .i64 s'),.row r])=>match S.h r with
    |some (.row _ _ xs)=>some { q:={ pre:=cc=cs.map qz∧s'=s∧aa=qg a∧bs=(bs.map zg).map qO∧xs=(xs.map dTk).map eTk∧GrowOk cs s a m (xs.map dTk) (bs.map zg) (fun j=>ys (S.j+j)) (fun j=>hl (S.j+j)) (fun j=>ans (S.j+j)) (min (zz cs a m (xs.map dTk) (bs.map zg)).length (R - S.j)),hs:=[c,r,p2,p3,p4,p5],ar:=[.ptr 2 0,.ptr 3 0,.ptr 4 0,.ptr 5 0],L0:=g1L cs s a (xs.map dTk) (bs.map zg),v:=aB (vR (fun j=>ans (S.j+j)) (min (zz cs a m (xs.map dTk) (bs.map zg)).length (R - S.j))),L1:=(g1L cs s a (xs.map dTk) (bs.map zg)).map some },dj:=min (zz cs a m (xs.map dTk) (bs.map zg)).length (R - S.j) }
    |_=>none
   |_=>none
  |_,_,_,_=>none
 |_=>none
theorem QlO {A:Frm→Prop} {cs:List Cabin} {s:Int} {a:Ask} {m:Nat} {ys:Nat→List AV} {hl:Nat→List AObj} {ans:Nat→Bool} {R:Nat} {h0:Nat→Option AObj} (ih:KY cs s a m) (hA:∀ F,A F→Acb Tryz.prog (qc (qD 0 [qf cs s 1])) h0 ys (fun j=>nth (hl j)) ans R F) :
  qm A Tryz.prog 132 (fnI [qf cs s 1] R (Rb cs s a m ys hl ans R)):=Ri hA fun S bs q h hp=>by
 unfold Rb at h
 split at h
 ·split at h
  ·split at h
   ·split at h
    ·cases h
     obtain ⟨_,_,_,_,_,h6⟩:=hp
     exact ih _ _ _ _ _ _ h6
    ·cases h
   ·cases h
  ·cases h
 ·cases h
def QbR (cs:List Cabin) (s:Int) (a:Ask) (m:Nat):Prop:=∀ (sold:List Tk) (t:Tk) (begun:List Bunk) (ys:Nat→List AV) (hl:Nat→List AObj) (ans:Nat→Bool) (R:Nat),GrowOk cs s a m (sold++[t]) begun ys hl ans R →
 Fn (Bcc Tryz.prog (qc (qD 0 [qf cs s 1])) (qc (qD 0 (g1L cs s a sold begun))) ys (fun j=>nth (hl j)) ans R) Tryz.prog 131 [.ptr 0 0,aTk t,.clo 132 [.ptr 2 0,.ptr 3 0,.ptr 4 0,.ptr 5 0]] (qc (qD 0 (g1L cs s a sold begun))) (aB (vR ans R)) (qc (zm 0 ((g1L cs s a sold begun).map some))) R
def Qd3:=kk @wP @wI.eq_1
def Qf8:=kk @aI.eq_1 (@aB.eq_1)
theorem QiR {cs:List Cabin} {s:Int} {a:Ask} {m:Nat} (ih:KY cs s a m):QbR cs s a m:=by
 intro sold t begun ys hl ans R ok
 obtain ⟨A0,hA0⟩:∃ A0:Frm→Prop,A0=fun F=>F.r=none∧Acb Tryz.prog (qc (qD 0 [qf cs s 1])) (qc (qD 0 (g1L cs s a sold begun))) ys (fun j=>nth (hl j)) ans R F:=⟨_,rfl⟩
 have hr:∀ F,A0 F→F.r=none:=fun F h=>by rw [hA0] at h;exact h.1
 have hA:∀ F,A0 F→Acb Tryz.prog (qc (qD 0 [qf cs s 1])) (qc (qD 0 (g1L cs s a sold begun))) ys (fun j=>nth (hl j)) ans R F:=fun F h=>by rw [hA0] at h;exact h.2
 have env:Env A0 Tryz.prog tyB (tab [(87,fnE QcU),(132,fnI [qf cs s 1] R (Rb cs s a m ys hl ans R))]):=qA ⟨eSell,QlO ih hA,trivial⟩
 refine Fn.of (A:=A0) (n0:=6) (D:=dfE 122 RV) (Fn0 Tryz.func131 rfl (fun vs w=>by kernel_rfl) (by kernel_rfl)) (by simp) (by simp [AV.ids,AV.idsL,aTk,cTk]) Qgd (fun F hb h0 h1=>by rw [hA0];exact ⟨h1,h0,Qfv,hb⟩) Qlo ?_
 have hle:=ok.rounds.le
 have eR:min (zz cs a m (sold++[t]) begun).length R=R:=by omega
 have hs1:=ok.many
 have hs2:sold.length≤100:=by rw [List.length_append] at hs1;omega
 have et:(⟨t.party,t.sex,t.cab,t.bed,t.frm,t.to,t.dog⟩:Tk)=t:=rfl
 have hgl:(List.map eTk sold++[eTk t]).getLastD []=eTk t:=by simp
 have hma:List.map eTk (sold++[t])=List.map eTk sold++[eTk t]:=by simp
 show Sym _ _ _ (qX [.ptr 0 0,aTk t,.clo 132 [.ptr 2 0,.ptr 3 0,.ptr 4 0,.ptr 5 0]] 6 (qc [(0,qf cs s 1),(1,qh sold),(2,.cells [.ptr 0 0]),(3,.cells (qg a)),(4,.cells [.sl (begun.map qO)]),(5,.cells [.cb])])) (wK tyB _ Tryz.f131 fun S rv=>Fin S rv _ 6 (qc [(0,qf cs s 1),(1,qh sold),(2,.cells [.ptr 0 0]),(3,.cells (qg a)),(4,.cells [.sl (begun.map qO)]),(5,.cells [.cb])]) R)
 repeat' (first|(apply nx;with_reducible constructor)|refine jq (by decide) ?_)
 (refine kz env fun Q hQ=>?_;simp only [vkt,seval,aTk,cTk,qg,qf,qh,ite_and];(repeat' first|with_reducible assumption|apply kk|intro hp);all_goals (first|(refine hQ _ ?_;clear hQ Q)|(refine kx ?_;kernel_rfl)|omega|assumption|with_reducible rfl|skip))
 repeat' (first|(apply nx;with_reducible constructor)|refine jq (by decide) ?_)
 refine QaN hr env rfl rfl rfl fun Q hQ=>?_
 simp only [List.dropLast]
 simp only [vkt,seval,Qd3,mTk,qy,qf,qh,qJ,Vy,QcU,hwL,et,hs2]
 repeat' (first|with_reducible assumption|apply kk|intro hp)
 all_goals first|(refine hQ _ _ _ (by simp only [vkt,seval];rfl) ?_;clear hQ Q)|skip
 dsimp only [put]
 repeat' (first|(apply nx;with_reducible constructor)|refine jq (by decide) ?_|((first|refine kz env fun Q hQ=>?_|refine kj fun Q hQ=>?_);simp only [vkt,seval,Qf8,qg,yX,mTk,qf,qh,g1L,Rb,fnI,J8,hwL,Nat.sub_zero,eR,ok,ite_and];(repeat' first|with_reducible assumption|apply kk|intro hp);all_goals (first|(refine hQ _ ?_;clear hQ Q)|(refine hQ _ (fun h=>?_) (fun h=>?_) <;> clear hQ Q <;> (try simp only [vki,reduceCtorEq] at h))|(refine kx ?_;kernel_rfl)|omega|assumption|with_reducible rfl|skip)))
 simp only [vrt,Tryz.results131,vkt,seval,Qf8,qg,mTk,qy,qf,qh,Vy,RV,dfE,hwL,hgl,hma,Qk6]
 refine Fin.ok some [] ?_ ?_ ?_ ?_ ?_ rfl
 all_goals (try simp only [vle,vkt,seval])
 all_goals first|rfl|simp
def X9 (cs:List Cabin) (s:Int) (a:Ask) (m:Nat) (ys:Nat→List AV) (hl:Nat→List AObj) (ans:Nat→Bool) (R:Nat) (S:St):List AV→Option PkI
 |[.ptr c 0,.agg [.v (.int .i64 t0),.v (.int .i64 t1),.v (.int .i64 t2),.v (.int .i64 t3),.v (.int .i64 t4),.v (.int .i64 t5),.v (.bool t6)],.clo f [.ptr p2 0,.ptr p3 0,.ptr p4 0,.ptr p5 0]]=>match S.h p2,S.h p3,S.h p4,S.h p5 with
  |some (.cells [.ptr c' 0]),some (.cells aa),some (.cells [.sl bs]),some (.cells [.cb])=>match S.h c with
   |some (.cells [.sl cc,.v (.int .i64 s'),.row r])=>match S.h r with
    |some (.row _ _ xs)=>some { q:={ pre:=f=132∧c'=c∧cc=cs.map qz∧s'=s∧aa=qg a∧bs=(bs.map zg).map qO∧xs=(xs.map dTk).map eTk∧GrowOk cs s a m (xs.map dTk++[⟨t0,t1,t2,t3,t4,t5,t6⟩]) (bs.map zg) (fun j=>ys (S.j+j)) (fun j=>hl (S.j+j)) (fun j=>ans (S.j+j)) (min (zz cs a m (xs.map dTk++[⟨t0,t1,t2,t3,t4,t5,t6⟩]) (bs.map zg)).length (R - S.j)),hs:=[c,r,p2,p3,p4,p5],ar:=[.ptr 0 0,.agg [.v (.int .i64 t0),.v (.int .i64 t1),.v (.int .i64 t2),.v (.int .i64 t3),.v (.int .i64 t4),.v (.int .i64 t5),.v (.bool t6)],.clo 132 [.ptr 2 0,.ptr 3 0,.ptr 4 0,.ptr 5 0]],L0:=g1L cs s a (xs.map dTk) (bs.map zg),v:=aB (vR (fun j=>ans (S.j+j)) (min (zz cs a m (xs.map dTk++[⟨t0,t1,t2,t3,t4,t5,t6⟩]) (bs.map zg)).length (R - S.j))),L1:=(g1L cs s a (xs.map dTk) (bs.map zg)).map some },dj:=min (zz cs a m (xs.map dTk++[⟨t0,t1,t2,t3,t4,t5,t6⟩]) (bs.map zg)).length (R - S.j) }
    |_=>none
   |_=>none
  |_,_,_,_=>none
 |_=>none
theorem eWith {A:Frm→Prop} {cs:List Cabin} {s:Int} {a:Ask} {m:Nat} {ys:Nat→List AV} {hl:Nat→List AObj} {ans:Nat→Bool} {R:Nat} {h0:Nat→Option AObj} (ih:QbR cs s a m) (hA:∀ F,A F→Acb Tryz.prog (qc (qD 0 [qf cs s 1])) h0 ys (fun j=>nth (hl j)) ans R F) :
  qm A Tryz.prog 131 (fnI [qf cs s 1] R (X9 cs s a m ys hl ans R)):=Ri hA fun S bs q h hp=>by
 unfold X9 at h
 split at h
 ·split at h
  ·split at h
   ·split at h
    ·cases h
     obtain ⟨_,_,_,_,_,_,_,h6⟩:=hp
     exact ih _ _ _ _ _ _ _ h6
    ·cases h
   ·cases h
  ·cases h
 ·cases h
theorem Qey {cs:List Cabin} {s:Int} {l:List Tk}:∀ i o,qc (qD 0 [qf cs s 1]) i=some o→([0,1]:List Nat)[i]?=some i:=fun i o hi=>by
 rw [zX] at hi
 cases i with
 |zero=>rfl
 |succ i=>simp at hi
def zP:=kk @ty3 (kk @ty4 (kk @wh (kk @yf (kk @jL (kk @Q0 (kk @yu (kk @wP (kk @QZ (kk @Wj (kk @Qk2 (kk @ti3.eq_1 (kk @ti4.eq_1 (kk @zQ.eq_1 (kk @jK.eq_1 (kk @wY.eq_1 (kk @kU.eq_1 (kk @jQ.eq_1 (kk @wI.eq_1 (kk @kV.eq_1 (kk @Ql.eq_1 @UG.eq_1))))))))))))))))))))
def Qmf:=kk @aI.eq_1 (@aB.eq_1)
theorem QdZ (cs:List Cabin) (s:Int) (a:Ask):VB cs s a 0:=by
 intro sold begun ys hl ans R ok
 obtain ⟨A0,hA0⟩:∃ A0:Frm→Prop,A0=Acb Tryz.prog (qc (qD 0 [qf cs s 1])) (qc (qD 0 (qJ cs s sold))) ys (fun j=>nth (hl j)) ans R:=⟨_,rfl⟩
 have hA:∀ F,A0 F→Acb Tryz.prog (qc (qD 0 [qf cs s 1])) (qc (qD 0 (qJ cs s sold))) ys (fun j=>nth (hl j)) ans R F:=fun F h=>hA0 ▸ h
 have env:Env A0 Tryz.prog tyB (Go.Sym.tabC (cbX [0,1] ys hl ans R) []):=⟨Vr,K6 (fun S bs h hS ops o g args tys caps hw ho hg hb=>JP hA (Qey (l:=sold)) (by simp) h hS hw ho hg hb) trivial,by kernel_rfl⟩
 refine Fn.of (A:=A0) (n0:=2) (D:=noD) (Fn0 Tryz.func104 rfl (fun vs w=>by kernel_rfl) (by kernel_rfl)) (by simp) (by simp [AV.ids,AV.idsL,qI,qg,qb]) jB (fun F hb h0 _=>hA0 ▸ ⟨h0,Qfv,hb⟩) qw ?_
 have hr:=ok.rounds
 have hy:=ok.ys 0 (by simp [zz])
 have hh:=ok.hl 0 (by simp [zz])
 have hsz:=ok.sz
 simp only [zz,List.length_cons,List.length_nil,List.getD_cons_zero] at hr hy hh
 have hR:R=1:=by
  have h1:=hr.le
  have h2:=hr.lt (k:=0) (by omega) (fun j hj=>by omega)
  omega
 subst hR
 rw [qb] at hy
 rw [show vR ans 1=ans 0 by simp [vR]]
 have d1:decide ((begun.length:Int)=(a.sexes.length:Int))=true:=decide_eq_true (by omega)
 show Sym _ _ _ (qX [.ptr 0 0,qI a,qb begun,.cb] 2 (qc [(0,qf cs s 1),(1,qh sold)])) (wK tyB noD Tryz.f104 fun S rv=>Fin S rv _ 2 (qc [(0,qf cs s 1),(1,qh sold)]) 1)
 repeat' (first|(apply nx;with_reducible constructor)|refine jq (by decide) ?_|((first|refine kz env fun Q hQ=>?_|refine kj fun Q hQ=>?_);simp only [vkt,seval,zP,qI,qg,qb,qf,qh,qJ,Go.Sym.tabC,cbX,vo,hwL,hy,hh,d1,ite_and];(repeat' first|with_reducible assumption|apply kk|intro hp);all_goals (first|(refine hQ _ ?_;clear hQ Q)|(refine hQ _ (fun h=>?_) (fun h=>?_) <;> clear hQ Q <;> (try simp only [reduceCtorEq] at h))|(refine kx ?_;kernel_rfl)|omega|assumption|with_reducible rfl|skip)))
 (simp only [vrt,Tryz.results104,vkt,seval,zP,Qmf,qf,qh];refine Fin.ok some [] ?_ ?_ ?_ ?_ ?_ rfl;all_goals (try simp only [vle,vkt,seval]))
 all_goals first|rfl|(simp;done)|exact fun i hi=>(match i,hi with|0,_=>rfl|1,_=>rfl)
def gbL (cs:List Cabin) (a:Ask) (m:Nat) (sold:List Tk) (begun:List Bunk) (b:Bunk):List (List Bunk × List Tk):=if goB cs a sold begun b then zz cs a m (sold++[yV a begun.length b]) (begun++[b]) else []
def gsL (cs:List Cabin) (a:Ask) (m:Nat) (sold:List Tk) (begun:List Bunk):List Nat:=(qK cs).map fun b=>(gbL cs a m sold begun b).length
theorem yB (cs:List Cabin) (a:Ask) (m:Nat) (sold:List Tk) (begun:List Bunk):zz cs a (m+1) sold begun=(qK cs).flatMap (gbL cs a m sold begun):=rfl
theorem KN (cs:List Cabin) (a:Ask) (m:Nat) (sold:List Tk) (begun:List Bunk):(zz cs a (m+1) sold begun).length=(gsL cs a m sold begun).sum:=by rw [yB,QgB];rfl
theorem Qe2 {cs:List Cabin} {a:Ask} {m:Nat} {sold:List Tk} {begun:List Bunk} {i k:Nat} (hi:i < (qK cs).length) (hk:k < (gbL cs a m sold begun ((qK cs).getD i default)).length) :
  (zz cs a (m+1) sold begun).getD (((gsL cs a m sold begun).take i).sum+k) default=(gbL cs a m sold begun ((qK cs).getD i default)).getD k default:=by
 have:=Qa2 (gbL cs a m sold begun) default default (qK cs) i k hi hk
 rw [yB,gsL,← List.map_take]
 exact this
theorem Qgi {cs:List Cabin} {a:Ask} {m:Nat} {sold:List Tk} {begun:List Bunk} {i:Nat} (hi:i < (qK cs).length):(gsL cs a m sold begun).getD i 0=(gbL cs a m sold begun ((qK cs).getD i default)).length:=by
 simp [gsL,List.getD_eq_getElem?_getD,hi]
theorem Qck {cs:List Cabin} {i:Nat} (hi:i < (qK cs).length):0≤((qK cs).getD i default).cab∧((qK cs).getD i default).cab.toNat < cs.length:=by
 obtain ⟨x,y,h1,h2,h3⟩:=VK.1 (wC (d:=default) hi)
 rw [h3]
 exact ⟨Int.natCast_nonneg _,by simpa using h1⟩
theorem Qa6 {cs:List Cabin} {s:Int} {a:Ask} {m:Nat} {sold:List Tk} {begun:List Bunk} {ys:Nat→List AV} {hl:Nat→List AObj} {ans:Nat→Bool} {R:Nat} (ok:GrowOk cs s a (m+1) sold begun ys hl ans R) {i o:Nat} {b:Bunk} (hi:i < (qK cs).length) (hb:(qK cs).getD i default=b)
  (ho:((gsL cs a m sold begun).take i).sum=o) (hg:goB cs a sold begun b=true) {D:Nat} (hr:Rounds (fun j=>ans (o+j)) D (zz cs a m (sold++[yV a begun.length b]) (begun++[b])).length) :
  GrowOk cs s a m (sold++[yV a begun.length b]) (begun++[b]) (fun j=>ys (o+j)) (fun j=>hl (o+j)) (fun j=>ans (o+j)) D:=by
 have hgb:gbL cs a m sold begun b=zz cs a m (sold++[yV a begun.length b]) (begun++[b]):=by unfold gbL;rw [if_pos hg]
 have hlen:∀ j,j < (zz cs a m (sold++[yV a begun.length b]) (begun++[b])).length→o+j < (zz cs a (m+1) sold begun).length:=fun j hj=>by
  rw [KN,← ho]
  have h1:=WY (g:=gsL cs a m sold begun) (i:=i) (by simpa [gsL] using hi)
  have h2:=xg (g:=gsL cs a m sold begun) (show i+1≤(gsL cs a m sold begun).length by simp [gsL];omega)
  rw [List.take_length] at h2
  rw [Qgi hi,hb,hgb] at h1
  omega
 have hget:∀ j,j < (zz cs a m (sold++[yV a begun.length b]) (begun++[b])).length→(zz cs a (m+1) sold begun).getD (o+j) default=(zz cs a m (sold++[yV a begun.length b]) (begun++[b])).getD j default:=fun j hj=>by
  rw [← ho,Qe2 hi (by rw [hb,hgb];exact hj),hb,hgb]
 have h1:=ok.sz
 have h2:=ok.many
 refine ⟨by simp;omega,ok.sx,ok.cab,ok.c100,by simp;omega,fun x hx=>?_,hr,fun j hj=>?_,fun j hj=>?_⟩
 ·rcases List.mem_append.1 hx with hx|hx
  ·exact ok.mem x hx
  ·rw [List.mem_singleton.1 hx,← hb];exact Qck hi
 ·show ys (o+j)=_
  rw [ok.ys _ (hlen j hj),hget j hj]
 ·show hl (o+j)=_
  rw [ok.hl _ (hlen j hj),hget j hj]
def gwL:List (Nat × AV):=[(4,.ptr 2 0),(5,.ptr 3 0),(6,.ptr 4 0),(7,.ptr 5 0),(8,.ptr 6 0),(25,.clo 117 [.ptr 7 0])]
def gwH (cs:List Cabin) (s:Int) (a:Ask) (sold:List Tk) (begun:List Bunk):List (Nat × AObj):=[(0,qf cs s 1),(1,qh sold),(2,.cells [.ptr 0 0]),(3,.cells (qg a)),(4,.cells [.sl (begun.map qO)]),(5,.cells [.cb]),(6,.cells [aB false])]
theorem QiW (cs:List Cabin) (s:Int):qN [7] 9 0 [buO cs s]=[(7,buO cs s)]:=rfl
def jE:=kk @aI.eq_1 (kk @aB.eq_1 (kk @jJ (kk @JN (@qU.eq_1))))
end Go.Sym.B
