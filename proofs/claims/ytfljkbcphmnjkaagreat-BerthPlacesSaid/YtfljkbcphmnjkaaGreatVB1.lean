/- Walks and what they compute, joined: part 1. -/
import Derived.Test.YtfljkbcphmnjkaaGreatVS3
import Derived.Test.YtfljkbcphmnjkaaGreatProg
import Derived.KernelRfl
set_option linter.all false
namespace Go.Sym.B
open Go Go.Sym Go.Proofs
theorem _root_.Go.Sym.kk {a b:Prop} (x:a) (y:b):a∧b:=⟨x,y⟩
def _root_.Go.Sym.jq:=@Vv
def _root_.Go.Sym.jx:=@JR
def _root_.Go.Sym.jz:=@V5
def _root_.Go.Sym.jk:=@XG
def _root_.Go.Sym.jw:=@R7
def _root_.Go.Sym.jv:=@UO
def _root_.Go.Sym.kq:=@Uw
def _root_.Go.Sym.kx:=@LF
def _root_.Go.Sym.kz:=@Qdg
def _root_.Go.Sym.kj:=@Qgh
def ti3:TI:={ cells:=1,bytes:=8,td:=.int .i64,zero:=[.v (.int .i64 0)],eqk:=none }
theorem tf3:TyFact Tryz.prog 3 ti3:=by
  refine ⟨⟨Tryz.t3,.int .i64 0,by kernel_rfl,rfl,rfl,rfl,rfl,rfl,by simp [Value.cells,Value.oneCell']⟩,⟨_,Tryz.underlying3,rfl⟩,fun fs h=>?_,fun ks h=>?_,fun q h=>?_⟩
  · cases h
  · cases h
  · cases h
def ti4:TI:={ cells:=1,bytes:=1,td:=.bool,zero:=[.v (.bool false)],eqk:=none }
theorem tf4:TyFact Tryz.prog 4 ti4:=by
  refine ⟨⟨Tryz.t4,.bool false,by kernel_rfl,rfl,rfl,rfl,rfl,rfl,by simp [Value.cells,Value.oneCell']⟩,⟨_,Tryz.underlying4,rfl⟩,fun fs h=>?_,fun ks h=>?_,fun q h=>?_⟩
  · cases h
  · cases h
  · cases h
def ZG:TI:={ cells:=1,bytes:=24,td:=.slice 89,zero:=[.nil],eqk:=none }
theorem tf22:TyFact Tryz.prog 22 ZG:=by
  refine ⟨⟨Tryz.t22,.slice none 0 0,by kernel_rfl,rfl,rfl,rfl,rfl,rfl,by simp [Value.cells,Value.oneCell']⟩,⟨_,Tryz.underlying22,rfl⟩,fun fs h=>?_,fun ks h=>?_,fun q h=>?_⟩
  · cases h
  · cases h
  · cases h
def xw:TI:={ cells:=1,bytes:=24,td:=.slice 64,zero:=[.nil],eqk:=none }
theorem tf23:TyFact Tryz.prog 23 xw:=by
  refine ⟨⟨Tryz.t23,.slice none 0 0,by kernel_rfl,rfl,rfl,rfl,rfl,rfl,by simp [Value.cells,Value.oneCell']⟩,⟨_,Tryz.underlying23,rfl⟩,fun fs h=>?_,fun ks h=>?_,fun q h=>?_⟩
  · cases h
  · cases h
  · cases h
def jo:TI:={ cells:=3,bytes:=56,td:=.struct [(0,1,22),(1,1,3),(2,1,23)],zero:=[.nil,.v (.int .i64 0),.nil],eqk:=none }
theorem tf25:TyFact Tryz.prog 25 jo:=by
  refine ⟨⟨Tryz.t25,.agg #[.slice none 0 0,.int .i64 0,.slice none 0 0],by kernel_rfl,rfl,rfl,rfl,rfl,rfl,by simp [Value.cells,Value.oneCell']⟩,⟨_,Tryz.underlying25,⟨_,rfl,rfl⟩⟩,fun fs h=>?_,fun ks h=>?_,fun q h=>?_⟩
  · cases h
    simp only [List.mem_cons,List.not_mem_nil,or_false,forall_eq_or_imp,forall_eq]
    exact ⟨⟨Tryz.t22,by kernel_rfl,rfl⟩,⟨Tryz.t3,by kernel_rfl,rfl⟩,⟨Tryz.t23,by kernel_rfl,rfl⟩⟩
  · cases h
  · cases h
def kX:TI:={ cells:=1,bytes:=24,td:=.slice 3,zero:=[.nil],eqk:=none }
theorem tf26:TyFact Tryz.prog 26 kX:=by
  refine ⟨⟨Tryz.t26,.slice none 0 0,by kernel_rfl,rfl,rfl,rfl,rfl,rfl,by simp [Value.cells,Value.oneCell']⟩,⟨_,Tryz.underlying26,rfl⟩,fun fs h=>?_,fun ks h=>?_,fun q h=>?_⟩
  · cases h
  · cases h
  · cases h
def kU:TI:={ cells:=5,bytes:=56,td:=.struct [(0,1,3),(1,1,3),(2,1,3),(3,1,26),(4,1,4)],zero:=[.v (.int .i64 0),.v (.int .i64 0),.v (.int .i64 0),.nil,.v (.bool false)],eqk:=none }
theorem tf28:TyFact Tryz.prog 28 kU:=by
  refine ⟨⟨Tryz.t28,.agg #[.int .i64 0,.int .i64 0,.int .i64 0,.slice none 0 0,.bool false],by kernel_rfl,rfl,rfl,rfl,rfl,rfl,by simp [Value.cells,Value.oneCell']⟩,⟨_,Tryz.underlying28,⟨_,rfl,rfl⟩⟩,fun fs h=>?_,fun ks h=>?_,fun q h=>?_⟩
  · cases h
    simp only [List.mem_cons,List.not_mem_nil,or_false,forall_eq_or_imp,forall_eq]
    exact ⟨⟨Tryz.t3,by kernel_rfl,rfl⟩,⟨Tryz.t3,by kernel_rfl,rfl⟩,⟨Tryz.t3,by kernel_rfl,rfl⟩,⟨Tryz.t26,by kernel_rfl,rfl⟩,⟨Tryz.t4,by kernel_rfl,rfl⟩⟩
  · cases h
  · cases h
def ti30:TI:={ cells:=1,bytes:=8,td:=.func,zero:=[.v (.nilFunc)],eqk:=none }
theorem tf30:TyFact Tryz.prog 30 ti30:=by
  refine ⟨⟨Tryz.t30,.nilFunc,by kernel_rfl,rfl,rfl,rfl,rfl,rfl,by simp [Value.cells,Value.oneCell']⟩,⟨_,Tryz.underlying30,⟨_,_,_,rfl⟩⟩,fun fs h=>?_,fun ks h=>?_,fun q h=>?_⟩
  · cases h
  · cases h
  · cases h
def ti31:TI:={ cells:=1,bytes:=8,td:=.ptr,zero:=[.v (.pointer none)],eqk:=none }
theorem tf31:TyFact Tryz.prog 31 ti31:=by
  refine ⟨⟨Tryz.t31,.pointer none,by kernel_rfl,rfl,rfl,rfl,rfl,rfl,by simp [Value.cells,Value.oneCell']⟩,⟨_,Tryz.underlying31,⟨_,rfl⟩⟩,fun fs h=>?_,fun ks h=>?_,fun q h=>?_⟩
  · cases h
  · cases h
  · cases h
def ti34:TI:={ cells:=1,bytes:=24,td:=.slice 25,zero:=[.nil],eqk:=none }
theorem tf34:TyFact Tryz.prog 34 ti34:=by
  refine ⟨⟨Tryz.t34,.slice none 0 0,by kernel_rfl,rfl,rfl,rfl,rfl,rfl,by simp [Value.cells,Value.oneCell']⟩,⟨_,Tryz.underlying34,rfl⟩,fun fs h=>?_,fun ks h=>?_,fun q h=>?_⟩
  · cases h
  · cases h
  · cases h
def ti37:TI:={ cells:=1,bytes:=24,td:=.slice 28,zero:=[.nil],eqk:=none }
theorem tf37:TyFact Tryz.prog 37 ti37:=by
  refine ⟨⟨Tryz.t37,.slice none 0 0,by kernel_rfl,rfl,rfl,rfl,rfl,rfl,by simp [Value.cells,Value.oneCell']⟩,⟨_,Tryz.underlying37,rfl⟩,fun fs h=>?_,fun ks h=>?_,fun q h=>?_⟩
  · cases h
  · cases h
  · cases h
def Xd:TI:={ cells:=1,bytes:=24,td:=.slice 44,zero:=[.nil],eqk:=none }
theorem tf40:TyFact Tryz.prog 40 Xd:=by
  refine ⟨⟨Tryz.t40,.slice none 0 0,by kernel_rfl,rfl,rfl,rfl,rfl,rfl,by simp [Value.cells,Value.oneCell']⟩,⟨_,Tryz.underlying40,rfl⟩,fun fs h=>?_,fun ks h=>?_,fun q h=>?_⟩
  · cases h
  · cases h
  · cases h
def Qt:TI:={ cells:=1,bytes:=8,td:=.int .i64,zero:=[.v (.int .i64 0)],eqk:=none }
theorem tf41:TyFact Tryz.prog 41 Qt:=by
  refine ⟨⟨Tryz.t41,.int .i64 0,by kernel_rfl,rfl,rfl,rfl,rfl,rfl,by simp [Value.cells,Value.oneCell']⟩,⟨_,Tryz.underlying41,rfl⟩,fun fs h=>?_,fun ks h=>?_,fun q h=>?_⟩
  · cases h
  · cases h
  · cases h
def Zl:TI:={ cells:=1,bytes:=24,td:=.slice 62,zero:=[.nil],eqk:=none }
theorem tf44:TyFact Tryz.prog 44 Zl:=by
  refine ⟨⟨Tryz.t44,.slice none 0 0,by kernel_rfl,rfl,rfl,rfl,rfl,rfl,by simp [Value.cells,Value.oneCell']⟩,⟨_,Tryz.underlying44,rfl⟩,fun fs h=>?_,fun ks h=>?_,fun q h=>?_⟩
  · cases h
  · cases h
  · cases h
def UR:TI:={ cells:=1,bytes:=24,td:=.slice 83,zero:=[.nil],eqk:=none }
theorem tf51:TyFact Tryz.prog 51 UR:=by
  refine ⟨⟨Tryz.t51,.slice none 0 0,by kernel_rfl,rfl,rfl,rfl,rfl,rfl,by simp [Value.cells,Value.oneCell']⟩,⟨_,Tryz.underlying51,rfl⟩,fun fs h=>?_,fun ks h=>?_,fun q h=>?_⟩
  · cases h
  · cases h
  · cases h
theorem Qc2 (d:Nat) (w:World) (a0 b0:Int) (a1 b1:Int):(Op.equalIn (d+2) 62 (.agg #[.int .i64 a0,.int .i64 a1]) (.agg #[.int .i64 b0,.int .i64 b1])).run Tryz.prog w=.ok (kG [.int .i64 a0,.int .i64 a1] [.int .i64 b0,.int .i64 b1]) w:=by
  have h1:Tryz.prog.underlying 62=some (.struct (Tryz.prog.fieldsOf 62)):=by kernel_rfl
  have h2 : (Tryz.prog.fieldsOf 62).toList = [{ name := "Cabin", type := 3, offset := 0, embedded := false, tag := "", pkgPath := "", byteOffset := 0 }, { name := "Bed", type := 3, offset := 1, embedded := false, tag := "", pkgPath := "", byteOffset := 8 }] := by kernel_rfl
  rw [run_equalIn_agg w (d+1) 62 _ _ h1 (by kernel_rfl),h2]
  refine Eq.trans (b:=Result.ok (a0 == b0 && (a1 == b1 && true)) w) ?_ (congrArg (fun r=>Result.ok r w) (by simp [kG,veq,Bool.and_assoc]))
  exact y7 (by simp) (zH (Tryz.isAgg3) rfl) (zH (Tryz.isAgg3) rfl) (run_equalIn_int w (d+0) 3 _ _ _ _ Tryz.underlying3) (y7 (by simp) (zH (Tryz.isAgg3) rfl) (zH (Tryz.isAgg3) rfl) (run_equalIn_int w (d+0) 3 _ _ _ _ Tryz.underlying3) (ky))
def vB:TI:={ cells:=2,bytes:=16,td:=.struct [(0,1,3),(1,1,3)],zero:=[.v (.int .i64 0),.v (.int .i64 0)],eqk:=some [some .i64,some .i64] }
theorem tf62:TyFact Tryz.prog 62 vB:=by
  refine ⟨⟨Tryz.t62,.agg #[.int .i64 0,.int .i64 0],by kernel_rfl,rfl,rfl,rfl,rfl,rfl,by simp [Value.cells,Value.oneCell']⟩,⟨_,Tryz.underlying62,⟨_,rfl,rfl⟩⟩,fun fs h=>?_,fun ks h=>?_,fun q h=>?_⟩
  · cases h
    simp only [List.mem_cons,List.not_mem_nil,or_false,forall_eq_or_imp,forall_eq]
    exact ⟨⟨Tryz.t3,by kernel_rfl,rfl⟩,⟨Tryz.t3,by kernel_rfl,rfl⟩⟩
  · cases h
    refine ⟨by kernel_rfl,fun w xs ys hx hy=>?_⟩
    cases xs with
    |nil=>simp [qH] at hx
    |cons x0 xs1 =>
    cases xs1 with
    |nil=>simp [qH] at hx
    |cons x1 xs2 =>
    cases xs2 with
    |cons _ _=>simp [qH] at hx
    |nil =>
    cases ys with
    |nil=>simp [qH] at hy
    |cons y0 ys1 =>
    cases ys1 with
    |nil=>simp [qH] at hy
    |cons y1 ys2 =>
    cases ys2 with
    |cons _ _=>simp [qH] at hy
    |nil =>
    simp only [qH] at hx hy
    obtain ⟨⟨nx0,rfl⟩,⟨nx1,rfl⟩,_⟩:=hx
    obtain ⟨⟨ny0,rfl⟩,⟨ny1,rfl⟩,_⟩:=hy
    exact Qc2 9998 w nx0 ny0 nx1 ny1
  · cases h
theorem eqd64 (d:Nat) (w:World) (a0 b0:Int) (a1 b1:Int) (a2 b2:Int) (a3 b3:Int) (a4 b4:Int) (a5 b5:Int) (a6 b6:Bool):(Op.equalIn (d+3) 64 (.agg #[.int .i64 a0,.int .i64 a1,.int .i64 a2,.int .i64 a3,.int .i64 a4,.int .i64 a5,.bool a6]) (.agg #[.int .i64 b0,.int .i64 b1,.int .i64 b2,.int .i64 b3,.int .i64 b4,.int .i64 b5,.bool b6])).run Tryz.prog w=.ok (kG [.int .i64 a0,.int .i64 a1,.int .i64 a2,.int .i64 a3,.int .i64 a4,.int .i64 a5,.bool a6] [.int .i64 b0,.int .i64 b1,.int .i64 b2,.int .i64 b3,.int .i64 b4,.int .i64 b5,.bool b6]) w:=by
  have h1:Tryz.prog.underlying 64=some (.struct (Tryz.prog.fieldsOf 64)):=by kernel_rfl
  have h2 : (Tryz.prog.fieldsOf 64).toList = [{ name := "Party", type := 3, offset := 0, embedded := false, tag := "", pkgPath := "", byteOffset := 0 }, { name := "Sex", type := 3, offset := 1, embedded := false, tag := "", pkgPath := "", byteOffset := 8 }, { name := "Bunk", type := 62, offset := 2, embedded := true, tag := "", pkgPath := "", byteOffset := 16 }, { name := "From", type := 3, offset := 4, embedded := false, tag := "", pkgPath := "", byteOffset := 32 }, { name := "To", type := 3, offset := 5, embedded := false, tag := "", pkgPath := "", byteOffset := 40 }, { name := "Dog", type := 4, offset := 6, embedded := false, tag := "", pkgPath := "", byteOffset := 48 }] := by kernel_rfl
  rw [run_equalIn_agg w (d+2) 64 _ _ h1 (by kernel_rfl),h2]
  refine Eq.trans (b:=Result.ok (a0 == b0 && (a1 == b1 && (kG [.int .i64 a2,.int .i64 a3] [.int .i64 b2,.int .i64 b3] && (a4 == b4 && (a5 == b5 && (a6 == b6 && true)))))) w) ?_ (congrArg (fun r=>Result.ok r w) (by simp [kG,veq,Bool.and_assoc]))
  exact y7 (by simp) (zH (Tryz.isAgg3) rfl) (zH (Tryz.isAgg3) rfl) (run_equalIn_int w (d+1) 3 _ _ _ _ Tryz.underlying3) (y7 (by simp) (zH (Tryz.isAgg3) rfl) (zH (Tryz.isAgg3) rfl) (run_equalIn_int w (d+1) 3 _ _ _ _ Tryz.underlying3) (y7 (by simp) (QX (Tryz.isAgg62) (Tryz.sizeOf62) rfl) (QX (Tryz.isAgg62) (Tryz.sizeOf62) rfl) (Qc2 (d+0) w a2 b2 a3 b3) (y7 (by simp) (zH (Tryz.isAgg3) rfl) (zH (Tryz.isAgg3) rfl) (run_equalIn_int w (d+1) 3 _ _ _ _ Tryz.underlying3) (y7 (by simp) (zH (Tryz.isAgg3) rfl) (zH (Tryz.isAgg3) rfl) (run_equalIn_int w (d+1) 3 _ _ _ _ Tryz.underlying3) (y7 (by simp) (zH (Tryz.isAgg4) rfl) (zH (Tryz.isAgg4) rfl) (run_equalIn_bool' w (d+1) 4 _ _ Tryz.underlying4) (ky))))))
def yn:TI:={ cells:=7,bytes:=56,td:=.struct [(0,1,3),(1,1,3),(2,2,62),(4,1,3),(5,1,3),(6,1,4)],zero:=[.v (.int .i64 0),.v (.int .i64 0),.v (.int .i64 0),.v (.int .i64 0),.v (.int .i64 0),.v (.int .i64 0),.v (.bool false)],eqk:=some [some .i64,some .i64,some .i64,some .i64,some .i64,some .i64,none] }
theorem tf64:TyFact Tryz.prog 64 yn:=by
  refine ⟨⟨Tryz.t64,.agg #[.int .i64 0,.int .i64 0,.int .i64 0,.int .i64 0,.int .i64 0,.int .i64 0,.bool false],by kernel_rfl,rfl,rfl,rfl,rfl,rfl,by simp [Value.cells,Value.oneCell']⟩,⟨_,Tryz.underlying64,⟨_,rfl,rfl⟩⟩,fun fs h=>?_,fun ks h=>?_,fun q h=>?_⟩
  · cases h
    simp only [List.mem_cons,List.not_mem_nil,or_false,forall_eq_or_imp,forall_eq]
    exact ⟨⟨Tryz.t3,by kernel_rfl,rfl⟩,⟨Tryz.t3,by kernel_rfl,rfl⟩,⟨Tryz.t62,by kernel_rfl,rfl⟩,⟨Tryz.t3,by kernel_rfl,rfl⟩,⟨Tryz.t3,by kernel_rfl,rfl⟩,⟨Tryz.t4,by kernel_rfl,rfl⟩⟩
  · cases h
    refine ⟨by kernel_rfl,fun w xs ys hx hy=>?_⟩
    cases xs with
    |nil=>simp [qH] at hx
    |cons x0 xs1 =>
    cases xs1 with
    |nil=>simp [qH] at hx
    |cons x1 xs2 =>
    cases xs2 with
    |nil=>simp [qH] at hx
    |cons x2 xs3 =>
    cases xs3 with
    |nil=>simp [qH] at hx
    |cons x3 xs4 =>
    cases xs4 with
    |nil=>simp [qH] at hx
    |cons x4 xs5 =>
    cases xs5 with
    |nil=>simp [qH] at hx
    |cons x5 xs6 =>
    cases xs6 with
    |nil=>simp [qH] at hx
    |cons x6 xs7 =>
    cases xs7 with
    |cons _ _=>simp [qH] at hx
    |nil =>
    cases ys with
    |nil=>simp [qH] at hy
    |cons y0 ys1 =>
    cases ys1 with
    |nil=>simp [qH] at hy
    |cons y1 ys2 =>
    cases ys2 with
    |nil=>simp [qH] at hy
    |cons y2 ys3 =>
    cases ys3 with
    |nil=>simp [qH] at hy
    |cons y3 ys4 =>
    cases ys4 with
    |nil=>simp [qH] at hy
    |cons y4 ys5 =>
    cases ys5 with
    |nil=>simp [qH] at hy
    |cons y5 ys6 =>
    cases ys6 with
    |nil=>simp [qH] at hy
    |cons y6 ys7 =>
    cases ys7 with
    |cons _ _=>simp [qH] at hy
    |nil =>
    simp only [qH] at hx hy
    obtain ⟨⟨nx0,rfl⟩,⟨nx1,rfl⟩,⟨nx2,rfl⟩,⟨nx3,rfl⟩,⟨nx4,rfl⟩,⟨nx5,rfl⟩,⟨nx6,rfl⟩,_⟩:=hx
    obtain ⟨⟨ny0,rfl⟩,⟨ny1,rfl⟩,⟨ny2,rfl⟩,⟨ny3,rfl⟩,⟨ny4,rfl⟩,⟨ny5,rfl⟩,⟨ny6,rfl⟩,_⟩:=hy
    exact eqd64 9997 w nx0 ny0 nx1 ny1 nx2 ny2 nx3 ny3 nx4 ny4 nx5 ny5 nx6 ny6
  · cases h
def ti72:TI:={ cells:=1,bytes:=24,td:=.slice 37,zero:=[.nil],eqk:=none }
theorem tf72:TyFact Tryz.prog 72 ti72:=by
  refine ⟨⟨Tryz.t72,.slice none 0 0,by kernel_rfl,rfl,rfl,rfl,rfl,rfl,by simp [Value.cells,Value.oneCell']⟩,⟨_,Tryz.underlying72,rfl⟩,fun fs h=>?_,fun ks h=>?_,fun q h=>?_⟩
  · cases h
  · cases h
  · cases h
theorem eqd83 (d:Nat) (w:World) (a0 b0:Int) (a1 b1:Int) (a2 b2:Int):(Op.equalIn (d+3) 83 (.agg #[.int .i64 a0,.int .i64 a1,.int .i64 a2]) (.agg #[.int .i64 b0,.int .i64 b1,.int .i64 b2])).run Tryz.prog w=.ok (kG [.int .i64 a0,.int .i64 a1,.int .i64 a2] [.int .i64 b0,.int .i64 b1,.int .i64 b2]) w:=by
  have h1:Tryz.prog.underlying 83=some (.struct (Tryz.prog.fieldsOf 83)):=by kernel_rfl
  have h2 : (Tryz.prog.fieldsOf 83).toList = [{ name := "Ticket", type := 3, offset := 0, embedded := false, tag := "", pkgPath := "", byteOffset := 0 }, { name := "Bunk", type := 62, offset := 1, embedded := true, tag := "", pkgPath := "", byteOffset := 8 }] := by kernel_rfl
  rw [run_equalIn_agg w (d+2) 83 _ _ h1 (by kernel_rfl),h2]
  refine Eq.trans (b:=Result.ok (a0 == b0 && (kG [.int .i64 a1,.int .i64 a2] [.int .i64 b1,.int .i64 b2] && true)) w) ?_ (congrArg (fun r=>Result.ok r w) (by simp [kG,veq,Bool.and_assoc]))
  exact y7 (by simp) (zH (Tryz.isAgg3) rfl) (zH (Tryz.isAgg3) rfl) (run_equalIn_int w (d+1) 3 _ _ _ _ Tryz.underlying3) (y7 (by simp) (QX (Tryz.isAgg62) (Tryz.sizeOf62) rfl) (QX (Tryz.isAgg62) (Tryz.sizeOf62) rfl) (Qc2 (d+0) w a1 b1 a2 b2) (ky))
def Un:TI:={ cells:=3,bytes:=24,td:=.struct [(0,1,3),(1,2,62)],zero:=[.v (.int .i64 0),.v (.int .i64 0),.v (.int .i64 0)],eqk:=some [some .i64,some .i64,some .i64] }
theorem tf83:TyFact Tryz.prog 83 Un:=by
  refine ⟨⟨Tryz.t83,.agg #[.int .i64 0,.int .i64 0,.int .i64 0],by kernel_rfl,rfl,rfl,rfl,rfl,rfl,by simp [Value.cells,Value.oneCell']⟩,⟨_,Tryz.underlying83,⟨_,rfl,rfl⟩⟩,fun fs h=>?_,fun ks h=>?_,fun q h=>?_⟩
  · cases h
    simp only [List.mem_cons,List.not_mem_nil,or_false,forall_eq_or_imp,forall_eq]
    exact ⟨⟨Tryz.t3,by kernel_rfl,rfl⟩,⟨Tryz.t62,by kernel_rfl,rfl⟩⟩
  · cases h
    refine ⟨by kernel_rfl,fun w xs ys hx hy=>?_⟩
    cases xs with
    |nil=>simp [qH] at hx
    |cons x0 xs1 =>
    cases xs1 with
    |nil=>simp [qH] at hx
    |cons x1 xs2 =>
    cases xs2 with
    |nil=>simp [qH] at hx
    |cons x2 xs3 =>
    cases xs3 with
    |cons _ _=>simp [qH] at hx
    |nil =>
    cases ys with
    |nil=>simp [qH] at hy
    |cons y0 ys1 =>
    cases ys1 with
    |nil=>simp [qH] at hy
    |cons y1 ys2 =>
    cases ys2 with
    |nil=>simp [qH] at hy
    |cons y2 ys3 =>
    cases ys3 with
    |cons _ _=>simp [qH] at hy
    |nil =>
    simp only [qH] at hx hy
    obtain ⟨⟨nx0,rfl⟩,⟨nx1,rfl⟩,⟨nx2,rfl⟩,_⟩:=hx
    obtain ⟨⟨ny0,rfl⟩,⟨ny1,rfl⟩,⟨ny2,rfl⟩,_⟩:=hy
    exact eqd83 9997 w nx0 ny0 nx1 ny1 nx2 ny2
  · cases h
def QdB:TI:={ cells:=1,bytes:=8,td:=.int .u64,zero:=[.v (.int .u64 0)],eqk:=none }
theorem tf84:TyFact Tryz.prog 84 QdB:=by
  refine ⟨⟨Tryz.t84,.int .u64 0,by kernel_rfl,rfl,rfl,rfl,rfl,rfl,by simp [Value.cells,Value.oneCell']⟩,⟨_,Tryz.underlying84,rfl⟩,fun fs h=>?_,fun ks h=>?_,fun q h=>?_⟩
  · cases h
  · cases h
  · cases h
def Qgv:TI:={ cells:=1,bytes:=8,td:=.struct [(0,1,84)],zero:=[.v (.int .u64 0)],eqk:=none }
theorem tf86:TyFact Tryz.prog 86 Qgv:=by
  refine ⟨⟨Tryz.t86,.agg #[.int .u64 0],by kernel_rfl,rfl,rfl,rfl,rfl,rfl,by simp [Value.cells,Value.oneCell']⟩,⟨_,Tryz.underlying86,⟨_,rfl,rfl⟩⟩,fun fs h=>?_,fun ks h=>?_,fun q h=>?_⟩
  · cases h
    simp only [List.mem_cons,List.not_mem_nil,or_false,forall_eq_or_imp,forall_eq]
    exact ⟨Tryz.t84,by kernel_rfl,rfl⟩
  · cases h
  · cases h
theorem eqd89 (d:Nat) (w:World) (a0 b0:Int) (a1 b1:Bool):(Op.equalIn (d+2) 89 (.agg #[.int .i64 a0,.bool a1]) (.agg #[.int .i64 b0,.bool b1])).run Tryz.prog w=.ok (kG [.int .i64 a0,.bool a1] [.int .i64 b0,.bool b1]) w:=by
  have h1:Tryz.prog.underlying 89=some (.struct (Tryz.prog.fieldsOf 89)):=by kernel_rfl
  have h2 : (Tryz.prog.fieldsOf 89).toList = [{ name := "Beds", type := 3, offset := 0, embedded := false, tag := "", pkgPath := "", byteOffset := 0 }, { name := "Door", type := 4, offset := 1, embedded := false, tag := "", pkgPath := "", byteOffset := 8 }] := by kernel_rfl
  rw [run_equalIn_agg w (d+1) 89 _ _ h1 (by kernel_rfl),h2]
  refine Eq.trans (b:=Result.ok (a0 == b0 && (a1 == b1 && true)) w) ?_ (congrArg (fun r=>Result.ok r w) (by simp [kG,veq,Bool.and_assoc]))
  exact y7 (by simp) (zH (Tryz.isAgg3) rfl) (zH (Tryz.isAgg3) rfl) (run_equalIn_int w (d+0) 3 _ _ _ _ Tryz.underlying3) (y7 (by simp) (zH (Tryz.isAgg4) rfl) (zH (Tryz.isAgg4) rfl) (run_equalIn_bool' w (d+0) 4 _ _ Tryz.underlying4) (ky))
def ZC:TI:={ cells:=2,bytes:=16,td:=.struct [(0,1,3),(1,1,4)],zero:=[.v (.int .i64 0),.v (.bool false)],eqk:=some [some .i64,none] }
theorem tf89:TyFact Tryz.prog 89 ZC:=by
  refine ⟨⟨Tryz.t89,.agg #[.int .i64 0,.bool false],by kernel_rfl,rfl,rfl,rfl,rfl,rfl,by simp [Value.cells,Value.oneCell']⟩,⟨_,Tryz.underlying89,⟨_,rfl,rfl⟩⟩,fun fs h=>?_,fun ks h=>?_,fun q h=>?_⟩
  · cases h
    simp only [List.mem_cons,List.not_mem_nil,or_false,forall_eq_or_imp,forall_eq]
    exact ⟨⟨Tryz.t3,by kernel_rfl,rfl⟩,⟨Tryz.t4,by kernel_rfl,rfl⟩⟩
  · cases h
    refine ⟨by kernel_rfl,fun w xs ys hx hy=>?_⟩
    cases xs with
    |nil=>simp [qH] at hx
    |cons x0 xs1 =>
    cases xs1 with
    |nil=>simp [qH] at hx
    |cons x1 xs2 =>
    cases xs2 with
    |cons _ _=>simp [qH] at hx
    |nil =>
    cases ys with
    |nil=>simp [qH] at hy
    |cons y0 ys1 =>
    cases ys1 with
    |nil=>simp [qH] at hy
    |cons y1 ys2 =>
    cases ys2 with
    |cons _ _=>simp [qH] at hy
    |nil =>
    simp only [qH] at hx hy
    obtain ⟨⟨nx0,rfl⟩,⟨nx1,rfl⟩,_⟩:=hx
    obtain ⟨⟨ny0,rfl⟩,⟨ny1,rfl⟩,_⟩:=hy
    exact eqd89 9998 w nx0 ny0 nx1 ny1
  · cases h
def JK:TI:={ cells:=1,bytes:=8,td:=.ptr,zero:=[.v (.pointer none)],eqk:=none }
theorem tf93:TyFact Tryz.prog 93 JK:=by
  refine ⟨⟨Tryz.t93,.pointer none,by kernel_rfl,rfl,rfl,rfl,rfl,rfl,by simp [Value.cells,Value.oneCell']⟩,⟨_,Tryz.underlying93,⟨_,rfl⟩⟩,fun fs h=>?_,fun ks h=>?_,fun q h=>?_⟩
  · cases h
  · cases h
  · cases h
def ti98:TI:={ cells:=1,bytes:=8,td:=.func,zero:=[.v (.nilFunc)],eqk:=none }
theorem tf98:TyFact Tryz.prog 98 ti98:=by
  refine ⟨⟨Tryz.t98,.nilFunc,by kernel_rfl,rfl,rfl,rfl,rfl,rfl,by simp [Value.cells,Value.oneCell']⟩,⟨_,Tryz.underlying98,⟨_,_,_,rfl⟩⟩,fun fs h=>?_,fun ks h=>?_,fun q h=>?_⟩
  · cases h
  · cases h
  · cases h
def QcH:TI:={ cells:=1,bytes:=8,td:=.func,zero:=[.v (.nilFunc)],eqk:=none }
theorem tf104:TyFact Tryz.prog 104 QcH:=by
  refine ⟨⟨Tryz.t104,.nilFunc,by kernel_rfl,rfl,rfl,rfl,rfl,rfl,by simp [Value.cells,Value.oneCell']⟩,⟨_,Tryz.underlying104,⟨_,_,_,rfl⟩⟩,fun fs h=>?_,fun ks h=>?_,fun q h=>?_⟩
  · cases h
  · cases h
  · cases h
def ZR:TI:={ cells:=3,bytes:=56,td:=.struct [(0,3,25)],zero:=[.nil,.v (.int .i64 0),.nil],eqk:=none }
theorem tf107:TyFact Tryz.prog 107 ZR:=by
  refine ⟨⟨Tryz.t107,.agg #[.slice none 0 0,.int .i64 0,.slice none 0 0],by kernel_rfl,rfl,rfl,rfl,rfl,rfl,by simp [Value.cells,Value.oneCell']⟩,⟨_,Tryz.underlying107,⟨_,rfl,rfl⟩⟩,fun fs h=>?_,fun ks h=>?_,fun q h=>?_⟩
  · cases h
    simp only [List.mem_cons,List.not_mem_nil,or_false,forall_eq_or_imp,forall_eq]
    exact ⟨Tryz.t25,by kernel_rfl,rfl⟩
  · cases h
  · cases h
def QcG:TI:={ cells:=1,bytes:=8,td:=.func,zero:=[.v (.nilFunc)],eqk:=none }
theorem tf108:TyFact Tryz.prog 108 QcG:=by
  refine ⟨⟨Tryz.t108,.nilFunc,by kernel_rfl,rfl,rfl,rfl,rfl,rfl,by simp [Value.cells,Value.oneCell']⟩,⟨_,Tryz.underlying108,⟨_,_,_,rfl⟩⟩,fun fs h=>?_,fun ks h=>?_,fun q h=>?_⟩
  · cases h
  · cases h
  · cases h
def Lu:TI:={ cells:=2,bytes:=32,td:=.struct [(0,1,44),(1,1,108)],zero:=[.nil,.v (.nilFunc)],eqk:=none }
theorem tf110:TyFact Tryz.prog 110 Lu:=by
  refine ⟨⟨Tryz.t110,.agg #[.slice none 0 0,.nilFunc],by kernel_rfl,rfl,rfl,rfl,rfl,rfl,by simp [Value.cells,Value.oneCell']⟩,⟨_,Tryz.underlying110,⟨_,rfl,rfl⟩⟩,fun fs h=>?_,fun ks h=>?_,fun q h=>?_⟩
  · cases h
    simp only [List.mem_cons,List.not_mem_nil,or_false,forall_eq_or_imp,forall_eq]
    exact ⟨⟨Tryz.t44,by kernel_rfl,rfl⟩,⟨Tryz.t108,by kernel_rfl,rfl⟩⟩
  · cases h
  · cases h
def Qcs:TI:={ cells:=1,bytes:=8,td:=.func,zero:=[.v (.nilFunc)],eqk:=none }
theorem tf120:TyFact Tryz.prog 120 Qcs:=by
  refine ⟨⟨Tryz.t120,.nilFunc,by kernel_rfl,rfl,rfl,rfl,rfl,rfl,by simp [Value.cells,Value.oneCell']⟩,⟨_,Tryz.underlying120,⟨_,_,_,rfl⟩⟩,fun fs h=>?_,fun ks h=>?_,fun q h=>?_⟩
  · cases h
  · cases h
  · cases h
def Qi6:TI:={ cells:=1,bytes:=24,td:=.slice 26,zero:=[.nil],eqk:=none }
theorem tf121:TyFact Tryz.prog 121 Qi6:=by
  refine ⟨⟨Tryz.t121,.slice none 0 0,by kernel_rfl,rfl,rfl,rfl,rfl,rfl,by simp [Value.cells,Value.oneCell']⟩,⟨_,Tryz.underlying121,rfl⟩,fun fs h=>?_,fun ks h=>?_,fun q h=>?_⟩
  · cases h
  · cases h
  · cases h
theorem Qjh (d:Nat) (w:World) (a0 b0:Int) (a1 b1:Int) (a2 b2:Int):(Op.equalIn (d+3) 129 (.agg #[.int .i64 a0,.int .i64 a1,.int .i64 a2]) (.agg #[.int .i64 b0,.int .i64 b1,.int .i64 b2])).run Tryz.prog w=.ok (kG [.int .i64 a0,.int .i64 a1,.int .i64 a2] [.int .i64 b0,.int .i64 b1,.int .i64 b2]) w:=by
  have h1:Tryz.prog.underlying 129=some (.struct (Tryz.prog.fieldsOf 129)):=by kernel_rfl
  have h2 : (Tryz.prog.fieldsOf 129).toList = [{ name := "at", type := 3, offset := 0, embedded := false, tag := "", pkgPath := "couchette/berth", byteOffset := 0 }, { name := "bunk", type := 62, offset := 1, embedded := false, tag := "", pkgPath := "couchette/berth", byteOffset := 8 }] := by kernel_rfl
  rw [run_equalIn_agg w (d+2) 129 _ _ h1 (by kernel_rfl),h2]
  refine Eq.trans (b:=Result.ok (a0 == b0 && (kG [.int .i64 a1,.int .i64 a2] [.int .i64 b1,.int .i64 b2] && true)) w) ?_ (congrArg (fun r=>Result.ok r w) (by simp [kG,veq,Bool.and_assoc]))
  exact y7 (by simp) (zH (Tryz.isAgg3) rfl) (zH (Tryz.isAgg3) rfl) (run_equalIn_int w (d+1) 3 _ _ _ _ Tryz.underlying3) (y7 (by simp) (QX (Tryz.isAgg62) (Tryz.sizeOf62) rfl) (QX (Tryz.isAgg62) (Tryz.sizeOf62) rfl) (Qc2 (d+0) w a1 b1 a2 b2) (ky))
theorem Qj0 (w:World) (em:Bool) (a0:Int) (a1:Int) (a2:Int):(Instr.checkKey em 10000 129 (.agg #[.int .i64 a0,.int .i64 a1,.int .i64 a2])).run Tryz.prog w=.ok () w:=by kernel_rfl
def QaG:TI:={ cells:=1,bytes:=8,td:=.map 129 3,zero:=[.v (.map none)],eqk:=none,key:=some { kd:=.agg [some .i64,some .i64,some .i64],z:=.v (.int .i64 0),agg:=false } }
theorem tf127:TyFact Tryz.prog 127 QaG:=by
  refine ⟨⟨Tryz.t127,.map none,by kernel_rfl,rfl,rfl,rfl,rfl,rfl,by simp [Value.cells,Value.oneCell']⟩,⟨_,Tryz.underlying127,rfl⟩,fun fs h=>?_,fun ks h=>?_,fun q h=>?_⟩
  · cases h
  · cases h
  · cases h
    refine ⟨129,3,rfl,LH Tryz.underlying129 (fun w xs ys hx hy=>?_) (fun w em xs hx=>?_),fun w=>⟨.int .i64 0,by simp [zeroValue,typeInfo,show Tryz.prog.info? 3=some Tryz.t3 by kernel_rfl,Tryz.t3],fun w' ok ρ y=>?_⟩⟩
    · skip
      cases xs with
      |nil=>simp [qH] at hx
      |cons x0 xs1 =>
      cases xs1 with
      |nil=>simp [qH] at hx
      |cons x1 xs2 =>
      cases xs2 with
      |nil=>simp [qH] at hx
      |cons x2 xs3 =>
      cases xs3 with
      |cons _ _=>simp [qH] at hx
      |nil =>
      cases ys with
      |nil=>simp [qH] at hy
      |cons y0 ys1 =>
      cases ys1 with
      |nil=>simp [qH] at hy
      |cons y1 ys2 =>
      cases ys2 with
      |nil=>simp [qH] at hy
      |cons y2 ys3 =>
      cases ys3 with
      |cons _ _=>simp [qH] at hy
      |nil =>
      simp only [qH] at hx
      obtain ⟨⟨nx0,rfl⟩,⟨nx1,rfl⟩,⟨nx2,rfl⟩,_⟩:=hx
      simp only [qH] at hy
      obtain ⟨⟨ny0,rfl⟩,⟨ny1,rfl⟩,⟨ny2,rfl⟩,_⟩:=hy
      exact Qjh 9997 w nx0 ny0 nx1 ny1 nx2 ny2
    · skip
      cases xs with
      |nil=>simp [qH] at hx
      |cons x0 xs1 =>
      cases xs1 with
      |nil=>simp [qH] at hx
      |cons x1 xs2 =>
      cases xs2 with
      |nil=>simp [qH] at hx
      |cons x2 xs3 =>
      cases xs3 with
      |cons _ _=>simp [qH] at hx
      |nil =>
      simp only [qH] at hx
      obtain ⟨⟨nx0,rfl⟩,⟨nx1,rfl⟩,⟨nx2,rfl⟩,_⟩:=hx
      exact Qj0 w em nx0 nx1 nx2
    · exact .v rfl
def Qaz:TI:={ cells:=3,bytes:=24,td:=.struct [(0,1,3),(1,2,62)],zero:=[.v (.int .i64 0),.v (.int .i64 0),.v (.int .i64 0)],eqk:=none }
theorem tf129:TyFact Tryz.prog 129 Qaz:=by
  refine ⟨⟨Tryz.t129,.agg #[.int .i64 0,.int .i64 0,.int .i64 0],by kernel_rfl,rfl,rfl,rfl,rfl,rfl,by simp [Value.cells,Value.oneCell']⟩,⟨_,Tryz.underlying129,⟨_,rfl,rfl⟩⟩,fun fs h=>?_,fun ks h=>?_,fun q h=>?_⟩
  · cases h
    simp only [List.mem_cons,List.not_mem_nil,or_false,forall_eq_or_imp,forall_eq]
    exact ⟨⟨Tryz.t3,by kernel_rfl,rfl⟩,⟨Tryz.t62,by kernel_rfl,rfl⟩⟩
  · cases h
  · cases h
def Qi1:TI:={ cells:=1,bytes:=8,td:=.func,zero:=[.v (.nilFunc)],eqk:=none }
theorem tf142:TyFact Tryz.prog 142 Qi1:=by
  refine ⟨⟨Tryz.t142,.nilFunc,by kernel_rfl,rfl,rfl,rfl,rfl,rfl,by simp [Value.cells,Value.oneCell']⟩,⟨_,Tryz.underlying142,⟨_,_,_,rfl⟩⟩,fun fs h=>?_,fun ks h=>?_,fun q h=>?_⟩
  · cases h
  · cases h
  · cases h
def QiT:TI:={ cells:=1,bytes:=8,td:=.func,zero:=[.v (.nilFunc)],eqk:=none }
theorem tf149:TyFact Tryz.prog 149 QiT:=by
  refine ⟨⟨Tryz.t149,.nilFunc,by kernel_rfl,rfl,rfl,rfl,rfl,rfl,by simp [Value.cells,Value.oneCell']⟩,⟨_,Tryz.underlying149,⟨_,_,_,rfl⟩⟩,fun fs h=>?_,fun ks h=>?_,fun q h=>?_⟩
  · cases h
  · cases h
  · cases h
theorem Qjs (d:Nat) (w:World) (a0 b0:Int):(Op.equalIn (d+2) 153 (.agg #[.int .u64 a0]) (.agg #[.int .u64 b0])).run Tryz.prog w=.ok (kG [.int .u64 a0] [.int .u64 b0]) w:=by
  have h1:Tryz.prog.underlying 153=some (.struct (Tryz.prog.fieldsOf 153)):=by kernel_rfl
  have h2 : (Tryz.prog.fieldsOf 153).toList = [{ name := "set", type := 151, offset := 0, embedded := false, tag := "", pkgPath := "couchette/berth", byteOffset := 0 }] := by kernel_rfl
  rw [run_equalIn_agg w (d+1) 153 _ _ h1 (by kernel_rfl),h2]
  refine Eq.trans (b:=Result.ok (a0 == b0 && true) w) ?_ (congrArg (fun r=>Result.ok r w) (by simp [kG,veq,Bool.and_assoc]))
  exact y7 (by simp) (zH (Tryz.isAgg151) rfl) (zH (Tryz.isAgg151) rfl) (run_equalIn_int w (d+0) 151 _ _ _ _ Tryz.underlying151) (ky)
theorem Qjw (w:World) (em:Bool) (a0:Int):(Instr.checkKey em 10000 153 (.agg #[.int .u64 a0])).run Tryz.prog w=.ok () w:=by kernel_rfl
def QiY:TI:={ cells:=1,bytes:=8,td:=.map 153 4,zero:=[.v (.map none)],eqk:=none,key:=some { kd:=.agg [some .u64],z:=.v (.bool false),agg:=false } }
theorem tf150:TyFact Tryz.prog 150 QiY:=by
  refine ⟨⟨Tryz.t150,.map none,by kernel_rfl,rfl,rfl,rfl,rfl,rfl,by simp [Value.cells,Value.oneCell']⟩,⟨_,Tryz.underlying150,rfl⟩,fun fs h=>?_,fun ks h=>?_,fun q h=>?_⟩
  · cases h
  · cases h
  · cases h
    refine ⟨153,4,rfl,LH Tryz.underlying153 (fun w xs ys hx hy=>?_) (fun w em xs hx=>?_),fun w=>⟨.bool false,by simp [zeroValue,typeInfo,show Tryz.prog.info? 4=some Tryz.t4 by kernel_rfl,Tryz.t4],fun w' ok ρ y=>?_⟩⟩
    · skip
      cases xs with
      |nil=>simp [qH] at hx
      |cons x0 xs1 =>
      cases xs1 with
      |cons _ _=>simp [qH] at hx
      |nil =>
      cases ys with
      |nil=>simp [qH] at hy
      |cons y0 ys1 =>
      cases ys1 with
      |cons _ _=>simp [qH] at hy
      |nil =>
      simp only [qH] at hx
      obtain ⟨⟨nx0,rfl⟩,_⟩:=hx
      simp only [qH] at hy
      obtain ⟨⟨ny0,rfl⟩,_⟩:=hy
      exact Qjs 9998 w nx0 ny0
    · skip
      cases xs with
      |nil=>simp [qH] at hx
      |cons x0 xs1 =>
      cases xs1 with
      |cons _ _=>simp [qH] at hx
      |nil =>
      simp only [qH] at hx
      obtain ⟨⟨nx0,rfl⟩,_⟩:=hx
      exact Qjw w em nx0
    · exact .v rfl
def KQ:TI:={ cells:=1,bytes:=8,td:=.int .u64,zero:=[.v (.int .u64 0)],eqk:=none }
theorem tf151:TyFact Tryz.prog 151 KQ:=by
  refine ⟨⟨Tryz.t151,.int .u64 0,by kernel_rfl,rfl,rfl,rfl,rfl,rfl,by simp [Value.cells,Value.oneCell']⟩,⟨_,Tryz.underlying151,rfl⟩,fun fs h=>?_,fun ks h=>?_,fun q h=>?_⟩
  · cases h
  · cases h
  · cases h
def QiW:TI:={ cells:=1,bytes:=8,td:=.struct [(0,1,151)],zero:=[.v (.int .u64 0)],eqk:=none }
theorem tf153:TyFact Tryz.prog 153 QiW:=by
  refine ⟨⟨Tryz.t153,.agg #[.int .u64 0],by kernel_rfl,rfl,rfl,rfl,rfl,rfl,by simp [Value.cells,Value.oneCell']⟩,⟨_,Tryz.underlying153,⟨_,rfl,rfl⟩⟩,fun fs h=>?_,fun ks h=>?_,fun q h=>?_⟩
  · cases h
    simp only [List.mem_cons,List.not_mem_nil,or_false,forall_eq_or_imp,forall_eq]
    exact ⟨Tryz.t151,by kernel_rfl,rfl⟩
  · cases h
  · cases h
def Qab:TI:={ cells:=1,bytes:=8,td:=.func,zero:=[.v (.nilFunc)],eqk:=none }
theorem tf161:TyFact Tryz.prog 161 Qab:=by
  refine ⟨⟨Tryz.t161,.nilFunc,by kernel_rfl,rfl,rfl,rfl,rfl,rfl,by simp [Value.cells,Value.oneCell']⟩,⟨_,Tryz.underlying161,⟨_,_,_,rfl⟩⟩,fun fs h=>?_,fun ks h=>?_,fun q h=>?_⟩
  · cases h
  · cases h
  · cases h
def QiZ:TI:={ cells:=1,bytes:=8,td:=.func,zero:=[.v (.nilFunc)],eqk:=none }
theorem tf164:TyFact Tryz.prog 164 QiZ:=by
  refine ⟨⟨Tryz.t164,.nilFunc,by kernel_rfl,rfl,rfl,rfl,rfl,rfl,by simp [Value.cells,Value.oneCell']⟩,⟨_,Tryz.underlying164,⟨_,_,_,rfl⟩⟩,fun fs h=>?_,fun ks h=>?_,fun q h=>?_⟩
  · cases h
  · cases h
  · cases h
def QaM:TI:={ cells:=3,bytes:=24,td:=.array 3 151,zero:=[.v (.int .u64 0),.v (.int .u64 0),.v (.int .u64 0)],eqk:=none }
theorem tf166:TyFact Tryz.prog 166 QaM:=by
  refine ⟨⟨Tryz.t166,.agg #[.int .u64 0,.int .u64 0,.int .u64 0],by kernel_rfl,rfl,rfl,rfl,rfl,rfl,by simp [Value.cells,Value.oneCell']⟩,⟨_,Tryz.underlying166,rfl⟩,fun fs h=>?_,fun ks h=>?_,fun q h=>?_⟩
  · cases h
  · cases h
  · cases h
def Qc5:TI:={ cells:=1,bytes:=8,td:=.map 3 3,zero:=[.v (.map none)],eqk:=none,key:=some { kd:=.one (.int .i64),z:=.v (.int .i64 0),agg:=false } }
theorem tf169:TyFact Tryz.prog 169 Qc5:=by
  refine ⟨⟨Tryz.t169,.map none,by kernel_rfl,rfl,rfl,rfl,rfl,rfl,by simp [Value.cells,Value.oneCell']⟩,⟨_,Tryz.underlying169,rfl⟩,fun fs h=>?_,fun ks h=>?_,fun q h=>?_⟩
  · cases h
  · cases h
  · cases h
    refine ⟨3,3,rfl,Qci Tryz.underlying3,fun w=>⟨.int .i64 0,by simp [zeroValue,typeInfo,show Tryz.prog.info? 3=some Tryz.t3 by kernel_rfl,Tryz.t3],fun w' ok ρ y=>?_⟩⟩
    exact .v rfl
def U7:TI:={ cells:=1,bytes:=8,td:=.func,zero:=[.v (.nilFunc)],eqk:=none }
theorem tf170:TyFact Tryz.prog 170 U7:=by
  refine ⟨⟨Tryz.t170,.nilFunc,by kernel_rfl,rfl,rfl,rfl,rfl,rfl,by simp [Value.cells,Value.oneCell']⟩,⟨_,Tryz.underlying170,⟨_,_,_,rfl⟩⟩,fun fs h=>?_,fun ks h=>?_,fun q h=>?_⟩
  · cases h
  · cases h
  · cases h
def tyL:List (Nat × TI):=[(3,ti3),(4,ti4),(22,ZG),(23,xw),(25,jo),(26,kX),(28,kU),(30,ti30),(31,ti31),(34,ti34),(37,ti37),(40,Xd),(41,Qt),(44,Zl),(51,UR),(62,vB),(64,yn),(72,ti72),(83,Un),(84,QdB),(86,Qgv),(89,ZC),(93,JK),(98,ti98),(104,QcH),(107,ZR),(108,QcG),(110,Lu),(120,Qcs),(121,Qi6),(127,QaG),(129,Qaz),(142,Qi1),(149,QiT),(150,QiY),(151,KQ),(153,QiW),(161,Qab),(164,QiZ),(166,QaM),(169,Qc5),(170,U7)]
def tyOf:List (Nat × TI)→Tys
  |[],_=>none
  |p :: r,t=>if t=p.1 then some p.2 else tyOf r t
def tyB:Tys:=tyOf tyL
theorem ty3:tyB 3=some ti3:=rfl
theorem ty4:tyB 4=some ti4:=rfl
theorem WM:tyB 22=some ZG:=rfl
theorem x8:tyB 23=some xw:=rfl
theorem jO:tyB 25=some jo:=rfl
theorem QG:tyB 26=some kX:=rfl
theorem Qy:tyB 28=some kU:=rfl
theorem ty34:tyB 34=some ti34:=rfl
theorem ty37:tyB 37=some ti37:=rfl
theorem LU:tyB 40=some Xd:=rfl
theorem Zi:tyB 41=some Qt:=rfl
theorem Wp:tyB 44=some Zl:=rfl
theorem QeE:tyB 51=some UR:=rfl
theorem xf:tyB 62=some vB:=rfl
theorem yK:tyB 64=some yn:=rfl
theorem Qdo:tyB 83=some Un:=rfl
theorem ty84:tyB 84=some QdB:=rfl
theorem ty86:tyB 86=some Qgv:=rfl
theorem WL:tyB 89=some ZC:=rfl
theorem YQ:tyB 93=some JK:=rfl
theorem ty104:tyB 104=some QcH:=rfl
theorem JQ:tyB 107=some ZR:=rfl
theorem ty108:tyB 108=some QcG:=rfl
theorem Qi2:tyB 110=some Lu:=rfl
theorem ty120:tyB 120=some Qcs:=rfl
theorem QiO:tyB 127=some QaG:=rfl
theorem Qi3:tyB 129=some Qaz:=rfl
theorem Qft:tyB 151=some KQ:=rfl
theorem QiK:tyB 161=some Qab:=rfl
theorem QiQ:tyB 166=some QaM:=rfl
theorem ty169:tyB 169=some Qc5:=rfl
theorem Qi0:tyB 170=some U7:=rfl
theorem LQ:∀ {L:List (Nat × TI)} {t:Nat} {i:TI},tyOf L t=some i→(t,i) ∈ L
  |p :: r,t,i,h=>by
    simp only [tyOf] at h
    split at h
    · rename_i ht;cases h;rw [ht];exact List.mem_cons_self
    · exact List.mem_cons_of_mem _ (LQ h)
theorem Xj:jX Tryz.prog tyB:=fun t i h=>by
  have h:=LQ h
  simp only [tyL,List.mem_cons,List.not_mem_nil,or_false,Prod.mk.injEq] at h
  rcases h with ⟨rfl,rfl⟩|⟨rfl,rfl⟩|⟨rfl,rfl⟩|⟨rfl,rfl⟩|⟨rfl,rfl⟩|⟨rfl,rfl⟩|⟨rfl,rfl⟩|⟨rfl,rfl⟩|⟨rfl,rfl⟩|⟨rfl,rfl⟩|⟨rfl,rfl⟩|⟨rfl,rfl⟩|⟨rfl,rfl⟩|⟨rfl,rfl⟩|⟨rfl,rfl⟩|⟨rfl,rfl⟩|⟨rfl,rfl⟩|⟨rfl,rfl⟩|⟨rfl,rfl⟩|⟨rfl,rfl⟩|⟨rfl,rfl⟩|⟨rfl,rfl⟩|⟨rfl,rfl⟩|⟨rfl,rfl⟩|⟨rfl,rfl⟩|⟨rfl,rfl⟩|⟨rfl,rfl⟩|⟨rfl,rfl⟩|⟨rfl,rfl⟩|⟨rfl,rfl⟩|⟨rfl,rfl⟩|⟨rfl,rfl⟩|⟨rfl,rfl⟩|⟨rfl,rfl⟩|⟨rfl,rfl⟩|⟨rfl,rfl⟩|⟨rfl,rfl⟩|⟨rfl,rfl⟩|⟨rfl,rfl⟩|⟨rfl,rfl⟩|⟨rfl,rfl⟩|⟨rfl,rfl⟩
  · exact tf3
  · exact tf4
  · exact tf22
  · exact tf23
  · exact tf25
  · exact tf26
  · exact tf28
  · exact tf30
  · exact tf31
  · exact tf34
  · exact tf37
  · exact tf40
  · exact tf41
  · exact tf44
  · exact tf51
  · exact tf62
  · exact tf64
  · exact tf72
  · exact tf83
  · exact tf84
  · exact tf86
  · exact tf89
  · exact tf93
  · exact tf98
  · exact tf104
  · exact tf107
  · exact tf108
  · exact tf110
  · exact tf120
  · exact tf121
  · exact tf127
  · exact tf129
  · exact tf142
  · exact tf149
  · exact tf150
  · exact tf151
  · exact tf153
  · exact tf161
  · exact tf164
  · exact tf166
  · exact tf169
  · exact tf170
end Go.Sym.B
namespace Go.Sym.C
def Bd (B:Nat) (q:Rat):Prop:=q.den ∣ 27720∧q.num≤B * q.den∧-(B * q.den:Int)≤q.num
theorem Bd.mono {B C:Nat} {q:Rat} (h:Bd B q) (hB:B≤C):Bd C q:=by
  obtain ⟨h1,h2,h3⟩:=h
  have h4:(B:Int) * q.den≤C * q.den:=by exact_mod_cast Nat.mul_le_mul_right _ hB
  exact ⟨h1,by omega,by omega⟩
end Go.Sym.C
namespace Go.Sym.B
open Go Go.Sym Go.Proofs Go.Sym.C
structure Bunk where
  cab:Int
  bed:Int
deriving DecidableEq,Inhabited
structure Cabin where
  beds:Int
  door:Bool
deriving DecidableEq,Inhabited
structure Tk where
  party:Int
  sex:Int
  cab:Int
  bed:Int
  frm:Int
  to:Int
  dog:Bool
deriving DecidableEq,Inhabited
structure Tr where
  ticket:Int
  cab:Int
  bed:Int
deriving DecidableEq,Inhabited
structure Chart where
  cabins:List Cabin
  secs:Int
  sold:List Tk
deriving DecidableEq,Inhabited
structure Ask where
  party:Int
  frm:Int
  to:Int
  sexes:List Int
  dog:Bool
deriving DecidableEq,Inhabited
def Tk.bunk (t:Tk):Bunk:=⟨t.cab,t.bed⟩
def dI:DV→Int
  |.v (.int _ n)=>n
  |_=>0
def dB:DV→Bool
  |.v (.bool b)=>b
  |_=>false
def dL:DV→List (List DV)
  |.sl xs=>xs
  |_=>[]
def zJ (n:Int):List DV:=[.v (.int .i64 n)]
def qm (b:Bunk):List DV:=[.v (.int .i64 b.cab),.v (.int .i64 b.bed)]
def qg (c:Cabin):List DV:=[.v (.int .i64 c.beds),.v (.bool c.door)]
def eTk (t:Tk):List DV:=[.v (.int .i64 t.party),.v (.int .i64 t.sex),.v (.int .i64 t.cab),.v (.int .i64 t.bed),.v (.int .i64 t.frm),.v (.int .i64 t.to),.v (.bool t.dog)]
def eTr (t:Tr):List DV:=[.v (.int .i64 t.ticket),.v (.int .i64 t.cab),.v (.int .i64 t.bed)]
def ZE (a:Ask):List DV:=[.v (.int .i64 a.party),.v (.int .i64 a.frm),.v (.int .i64 a.to),.sl (a.sexes.map zJ),.v (.bool a.dog)]
def yG (c:Chart):List DV:=[.sl (c.cabins.map qg),.v (.int .i64 c.secs),.sl (c.sold.map eTk)]
def qA (l:List Bunk):List DV:=[.sl (l.map qm)]
def za (r:List DV):Int:=dI (r.headD (.sl []))
def zB:List DV→Bunk
  |[a,b]=>⟨dI a,dI b⟩
  |_=>default
def qp:List DV→Cabin
  |[a,b]=>⟨dI a,dB b⟩
  |_=>default
def dTk:List DV→Tk
  |[a,b,c,d,e,f,g]=>⟨dI a,dI b,dI c,dI d,dI e,dI f,dB g⟩
  |_=>default
def dTr:List DV→Tr
  |[a,b,c]=>⟨dI a,dI b,dI c⟩
  |_=>default
def WU:List DV→List Bunk
  |[a]=>(dL a).map zB
  |_=>[]
theorem Qjl (n:Int):za (zJ n)=n:=rfl
theorem Qhq (b:Bunk):zB (qm b)=b:=rfl
theorem QgR (b:Cabin):qp (qg b)=b:=rfl
theorem QiU (b:Tk):dTk (eTk b)=b:=rfl
theorem dTr_e (b:Tr):dTr (eTr b)=b:=rfl
theorem QT (l:List Int):(l.map zJ).map za=l:=by simp [Function.comp_def,Qjl]
theorem qJ (l:List Bunk):(l.map qm).map zB=l:=by simp [Function.comp_def,Qhq]
theorem qd (l:List Cabin):(l.map qg).map qp=l:=by simp [Function.comp_def,QgR]
theorem mTk (l:List Tk):(l.map eTk).map dTk=l:=by simp [Function.comp_def,QiU]
theorem mTr (l:List Tr):(l.map eTr).map dTr=l:=by simp [Function.comp_def,dTr_e]
theorem QfR (l:List Bunk):WU (qA l)=l:=qJ l
theorem wG (l:List (List Bunk)):(l.map qA).map WU=l:=by simp [Function.comp_def,QfR]
theorem Ud (l:List (Int)) (n:Nat):(l.map zJ).getD n [.v (.int .i64 0)]=zJ (l.getD n 0):=QY zJ l n 0
theorem hInt {l:List (Int)} {n:Nat} (h:n < l.length):(l.map zJ).getD n []=zJ (l.getD n 0):=by simp [List.getD_eq_getElem?_getD,h]
theorem QbF (l:List (Int)):zK 1 (l.map zJ)=True:=vk (f:=zJ) (k:=1) (fun _=>rfl) l
theorem qD (l:List (Bunk)) (n:Nat):(l.map qm).getD n [.v (.int .i64 0),.v (.int .i64 0)]=qm (l.getD n default):=QY qm l n default
theorem hBunk {l:List (Bunk)} {n:Nat} (h:n < l.length):(l.map qm).getD n []=qm (l.getD n default):=by simp [List.getD_eq_getElem?_getD,h]
theorem qP (l:List (Bunk)):zK 2 (l.map qm)=True:=vk (f:=qm) (k:=2) (fun _=>rfl) l
theorem qz (l:List (Cabin)) (n:Nat):(l.map qg).getD n [.v (.int .i64 0),.v (.bool false)]=qg (l.getD n default):=QY qg l n default
theorem Qkg {l:List (Cabin)} {n:Nat} (h:n < l.length):(l.map qg).getD n []=qg (l.getD n default):=by simp [List.getD_eq_getElem?_getD,h]
theorem zo (l:List (Cabin)):zK 2 (l.map qg)=True:=vk (f:=qg) (k:=2) (fun _=>rfl) l
theorem gTk (l:List (Tk)) (n:Nat):(l.map eTk).getD n [.v (.int .i64 0),.v (.int .i64 0),.v (.int .i64 0),.v (.int .i64 0),.v (.int .i64 0),.v (.int .i64 0),.v (.bool false)]=eTk (l.getD n default):=QY eTk l n default
theorem hTk {l:List (Tk)} {n:Nat} (h:n < l.length):(l.map eTk).getD n []=eTk (l.getD n default):=by simp [List.getD_eq_getElem?_getD,h]
theorem rTk (l:List (Tk)):zK 7 (l.map eTk)=True:=vk (f:=eTk) (k:=7) (fun _=>rfl) l
theorem gTr (l:List (Tr)) (n:Nat):(l.map eTr).getD n [.v (.int .i64 0),.v (.int .i64 0),.v (.int .i64 0)]=eTr (l.getD n default):=QY eTr l n default
theorem rTr (l:List (Tr)):zK 3 (l.map eTr)=True:=vk (f:=eTr) (k:=3) (fun _=>rfl) l
theorem qG (l:List (List Bunk)) (n:Nat):(l.map qA).getD n [.sl []]=qA (l.getD n []):=QY qA l n []
theorem Ye {l:List (List Bunk)} {n:Nat} (h:n < l.length):(l.map qA).getD n []=qA (l.getD n []):=by simp [List.getD_eq_getElem?_getD,h]
theorem qI (l:List (List Bunk)):zK 1 (l.map qA)=True:=vk (f:=qA) (k:=1) (fun _=>rfl) l
theorem hAsk {l:List (Ask)} {n:Nat} (h:n < l.length):(l.map ZE).getD n []=ZE (l.getD n default):=by simp [List.getD_eq_getElem?_getD,h]
theorem JM (l:List (Ask)):zK 5 (l.map ZE)=True:=vk (f:=ZE) (k:=5) (fun _=>rfl) l
theorem Qjc {l:List (Chart)} {n:Nat} (h:n < l.length):(l.map yG).getD n []=yG (l.getD n default):=by simp [List.getD_eq_getElem?_getD,h]
theorem xD (l:List (Chart)):zK 3 (l.map yG)=True:=vk (f:=yG) (k:=3) (fun _=>rfl) l
def aI (n:Int):AV:=.v (.int .i64 n)
def aB (b:Bool):AV:=.v (.bool b)
def qf (b:Bunk):AV:=.agg [.v (.int .i64 b.cab),.v (.int .i64 b.bed)]
def cTk (t:Tk):List AV:=[.v (.int .i64 t.party),.v (.int .i64 t.sex),.v (.int .i64 t.cab),.v (.int .i64 t.bed),.v (.int .i64 t.frm),.v (.int .i64 t.to),.v (.bool t.dog)]
def aTk (t:Tk):AV:=.agg (cTk t)
def qh (a:Ask):List AV:=[.v (.int .i64 a.party),.v (.int .i64 a.frm),.v (.int .i64 a.to),.sl (a.sexes.map zJ),.v (.bool a.dog)]
def qx (a:Ask):AV:=.agg (qh a)
def qb (c:Chart):List AV:=[.sl (c.cabins.map qg),.v (.int .i64 c.secs),.sl (c.sold.map eTk)]
def qa (c:Chart):AV:=.agg (qb c)
def qB (l:List Int):AV:=.sl (l.map zJ)
def qc (l:List Bunk):AV:=.sl (l.map qm)
def ze (l:List (List Bunk)):AV:=.sl (l.map qA)
def ql (l:List Tk):AV:=.sl (l.map eTk)
def qR (l:List Cabin):AV:=.sl (l.map qg)
def zk (l:List Tr):AV:=.sl (l.map eTr)
theorem Fn0 {fn:Func} {c:Code} {f:FuncId} (hf:Tryz.prog.funcs[f]?=some fn) (hb:fn.body=some c) (he:∀ vs w,(callFunc f vs).run Tryz.prog w=.ok (.enter f vs) w) (hd:kP fn.ntmps c=true):FnData Tryz.prog tyB f fn c:=⟨Xj,hf,hb,he,hd⟩
theorem qL {L:List (FuncId × Entry)} {A:Frm→Prop} (h:Qcx A Tryz.prog L):Env A Tryz.prog tyB (tab L):=⟨Xj,QfT h,by kernel_rfl⟩
end Go.Sym.B
namespace Go.Sym.B
open Go Go.Sym Go.Proofs Go.Sym.C
def zP (x:Int):List (Nat × AObj):=[(0,.cells [.v (.int .u64 x)])]
def xsh (s:Int) (k:Nat):Int:=IntKind.u64.wrap (BitVec.ofInt IntKind.u64.bits s ^^^ BitVec.ofInt IntKind.u64.bits (s.fdiv (2 ^ min k IntKind.u64.bits))).toNat
def nxS (x:Int):Int:=IntKind.u64.wrap (IntKind.u64.wrap (x * 2862933555777941757)+3037000493)
def nxV (x:Int):Int:=xsh (IntKind.u64.wrap (xsh (nxS x) 31 * 10723151780598845931)) 30
def YW:=kk @ty84 (kk @ty86 (kk @QdB.eq_1 @Qgv.eq_1))
def Qcd:=kk @aI.eq_1 (@aB.eq_1)
theorem QhW (x:Int):Fn noB Tryz.prog 86 [.ptr 0 0] (qj (zP x)) (.v (.int .u64 (nxV x))) (qj (zP (nxS x))) 0:=by
  have env:Env (fun _=>True) Tryz.prog tyB (tab []):=qL trivial
  refine Fn.of (A:=fun _=>True) (n0:=1) (D:=noD) (Fn0 Tryz.func86 rfl (fun vs w=>by kernel_rfl) (by kernel_rfl)) (by simp) (by simp [AV.ids]) ?_ (fun _ _ _ _=>trivial) qF ?_
  · intro i o hi
    have h:=qQ hi
    simp [zP] at h
    rcases h with ⟨rfl,rfl⟩;simp [AObj.ids,AV.ids,AV.idsL]
  repeat' (first|(apply nx;with_reducible constructor)|refine jq (by decide) ?_|((first|refine kz env fun Q hQ=>?_|refine kj fun Q hQ=>?_);simp only [vkt,seval,YW,Qcd,zP];(try simp only [ite_and]);(repeat' (first|with_reducible assumption|refine And.intro ?_ ?_|intro hp));all_goals (first|(refine hQ _ ?_;clear hQ Q)|(refine hQ _ (fun h=>?_) (fun h=>?_) <;> clear hQ Q <;> (try simp only [vki,reduceCtorEq] at h))|(refine kx ?_;kernel_rfl)|omega|assumption|with_reducible rfl|skip)))
  (simp only [vrt,Tryz.results86,vkt,seval,YW,Qcd,zP];refine Fin.ok some [] ?_ ?_ ?_ ?_ ?_ rfl;all_goals (try simp only [vle,vkt,seval,YW,Qcd,zP]))
  all_goals rfl
def YD (S:St):List AV→Option Pk
  |[.ptr i 0]=>match S.h i with
    |some (.cells [.v (.int .u64 x)])=>some { hs:=[i],ar:=[.ptr 0 0],L0:=[.cells [.v (.int .u64 x)]],v:=.v (.int .u64 (nxV x)),L1:=[some (.cells [.v (.int .u64 (nxS x))])] }
    |_=>none
  |_=>none
theorem eNext {A:Frm→Prop}:qE A Tryz.prog 86 (fnE YD):=wh fun S bs q h hp=>by
  unfold YD at h
  split at h
  · split at h
    · cases h;exact QhW _
    · cases h
  · cases h
def QdN (x m:Int):Int:=if m < 1 then 0 else IntKind.i64.wrap (((nxV x).fdiv (2 ^ min 13 IntKind.u64.bits)).tmod (IntKind.u64.wrap (IntKind.i64.wrap (m+1))))
def Qfj (x m:Int):Int:=if m < 1 then x else nxS x
theorem QcT:∃ f:Int→Int→Int × Int,∀ x m,f x m=(QdN x m,Qfj x m):=⟨fun x m=>(QdN x m,Qfj x m),fun _ _=>rfl⟩
noncomputable def upV (x m:Int):Int:=(Classical.choose QcT x m).1
noncomputable def upS (x m:Int):Int:=(Classical.choose QcT x m).2
theorem Qgp (x m:Int):upV x m=QdN x m:=by unfold upV;rw [Classical.choose_spec QcT]
theorem QjJ (x m:Int):upS x m=Qfj x m:=by unfold upS;rw [Classical.choose_spec QcT]
theorem Qgg {n:Int} (h0:0≤n) (h1:n < 18446744073709551616):IntKind.u64.wrap n=n:=by
  unfold IntKind.wrap
  simp only [IntKind.bits,IntKind.signed]
  simp
  omega
theorem QeZ (n:Int):0≤IntKind.u64.wrap n:=by
  unfold IntKind.wrap
  simp only [IntKind.bits,IntKind.signed]
  simp
  omega
theorem QbC {x m:Int} (h:m < 9223372036854775807):0≤upV x m∧(upV x m≤m∨upV x m=0):=by
  rw [Qgp]
  unfold QdN
  split
  · exact ⟨Int.le_refl _,.inr rfl⟩
  · have h1:IntKind.i64.wrap (m+1)=m+1:=wrap64 (by omega) (by omega)
    have h2:IntKind.u64.wrap (m+1)=m+1:=Qgg (by omega) (by omega)
    rw [h1,h2]
    have h3:0≤(nxV x).fdiv (2 ^ min 13 IntKind.u64.bits):=Int.fdiv_nonneg (by unfold nxV xsh;exact QeZ _) (by decide)
    rw [Int.tmod_eq_emod_of_nonneg h3]
    have h4:=Int.emod_nonneg ((nxV x).fdiv (2 ^ min 13 IntKind.u64.bits)) (show m+1 ≠ 0 by omega)
    have h5:=Int.emod_lt_of_pos ((nxV x).fdiv (2 ^ min 13 IntKind.u64.bits)) (show 0 < m+1 by omega)
    rw [wrap64 (by omega) (by omega)]
    omega
def Jv:=kk @ty3 (kk @ty84 (kk @ti3.eq_1 @QdB.eq_1))
def Y1:=kk @aI.eq_1 (@aB.eq_1)
theorem up_fn (x m:Int) (h:m < 9223372036854775807):Fn noB Tryz.prog 31 [.ptr 0 0,aI m] (qj (zP x)) (aI (upV x m)) (qj (zP (upS x m))) 0:=by
  have env:Env (fun _=>True) Tryz.prog tyB (tab [(86,fnE YD)]):=qL ⟨eNext,trivial⟩
  refine Fn.of (A:=fun _=>True) (n0:=1) (D:=noD) (Fn0 Tryz.func31 rfl (fun vs w=>by kernel_rfl) (by kernel_rfl)) (by simp) (by simp [AV.ids,AV.idsL,aI]) ?_ (fun _ _ _ _=>trivial) qF ?_
  · intro i o hi
    have h:=qQ hi
    simp [zP] at h
    rcases h with ⟨rfl,rfl⟩;simp [AObj.ids,AV.ids,AV.idsL]
  rw [Qgp,QjJ]
  by_cases c1:m < 1
  · rw [show QdN x m=0 from if_pos c1,show Qfj x m=x from if_pos c1]
    repeat' (first|(apply nx;with_reducible constructor)|refine jq (by decide) ?_|((first|refine kz env fun Q hQ=>?_|refine kj fun Q hQ=>?_);simp only [vkt,seval,Jv,Y1,zP,YD,c1];(try simp only [ite_and]);(repeat' (first|with_reducible assumption|refine And.intro ?_ ?_|intro hp));all_goals (first|(refine hQ _ ?_;clear hQ Q)|(refine hQ _ (fun h=>?_) (fun h=>?_) <;> clear hQ Q <;> (try simp only [vki,reduceCtorEq] at h))|(refine kx ?_;kernel_rfl)|omega|assumption|with_reducible rfl|skip)))
    (simp only [vrt,Tryz.results31,vkt,seval,Jv,Y1,zP,YD];refine Fin.ok some [] ?_ ?_ ?_ ?_ ?_ rfl;all_goals (try simp only [vle,vkt,seval,Jv,Y1,zP,YD]))
    all_goals simp
  · rw [show QdN x m=_ from if_neg c1,show Qfj x m=_ from if_neg c1]
    have h1:IntKind.i64.wrap (m+1)=m+1:=wrap64 (by omega) (by omega)
    have h2:IntKind.u64.wrap (m+1)=m+1:=Qgg (by omega) (by omega)
    have h0:¬ m+1=0:=by omega
    repeat' (first|(apply nx;with_reducible constructor)|refine jq (by decide) ?_|((first|refine kz env fun Q hQ=>?_|refine kj fun Q hQ=>?_);simp only [vkt,seval,Jv,Y1,zP,YD,c1,h1,h2,h0];(try simp only [ite_and]);(repeat' (first|with_reducible assumption|refine And.intro ?_ ?_|intro hp));all_goals (first|(refine hQ _ ?_;clear hQ Q)|(refine hQ _ (fun h=>?_) (fun h=>?_) <;> clear hQ Q <;> (try simp only [vki,reduceCtorEq] at h))|(refine kx ?_;kernel_rfl)|omega|assumption|with_reducible rfl|skip)))
    (simp only [vrt,Tryz.results31,vkt,seval,Jv,Y1,zP,YD];refine Fin.ok some [] ?_ ?_ ?_ ?_ ?_ rfl;all_goals (try simp only [vle,vkt,seval,Jv,Y1,zP,YD]))
    all_goals (first|rfl|rw [h1,h2])
noncomputable def pUp (S:St):List AV→Option Pk
  |[.ptr i 0,.v (.int .i64 m)]=>match S.h i with
    |some (.cells [.v (.int .u64 x)])=>some { pre:=m < 9223372036854775807,hs:=[i],ar:=[.ptr 0 0,.v (.int .i64 m)],L0:=[.cells [.v (.int .u64 x)]],v:=.v (.int .i64 (upV x m)),L1:=[some (.cells [.v (.int .u64 (upS x m))])] }
    |_=>none
  |_=>none
theorem eUp {A:Frm→Prop}:qE A Tryz.prog 31 (fnE pUp):=wh fun S bs q h hp=>by
  unfold pUp at h
  split at h
  · split at h
    · cases h;exact up_fn _ _ hp
    · cases h
  · cases h
def Vl:=kk @ty3 @ti3.eq_1
def QbE:=kk @aI.eq_1 (@aB.eq_1)
theorem Qit (x a b:Int) (h:-100000≤a∧a≤100000∧-100000≤b∧b≤100000):Fn noB Tryz.prog 13 [.ptr 0 0,aI a,aI b] (qj (zP x)) (aI (a+upV x (b - a))) (qj (zP (upS x (b - a)))) 0:=by
  have env:Env (fun _=>True) Tryz.prog tyB (tab [(31,fnE pUp)]):=qL ⟨eUp,trivial⟩
  refine Fn.of (A:=fun _=>True) (n0:=1) (D:=noD) (Fn0 Tryz.func13 rfl (fun vs w=>by kernel_rfl) (by kernel_rfl)) (by simp) (by simp [AV.ids,AV.idsL,aI]) ?_ (fun _ _ _ _=>trivial) qF ?_
  · intro i o hi
    have h:=qQ hi
    simp [zP] at h
    rcases h with ⟨rfl,rfl⟩;simp [AObj.ids,AV.ids,AV.idsL]
  have b1:=QbC (x:=x) (m:=b - a) (by omega)
  have h1:IntKind.i64.wrap (b - a)=b - a:=wrap64 (by omega) (by omega)
  have h2:IntKind.i64.wrap (a+upV x (b - a))=a+upV x (b - a):=wrap64 (by omega) (by omega)
  have h3:b - a < 9223372036854775807:=by omega
  repeat' (first|(apply nx;with_reducible constructor)|refine jq (by decide) ?_|((first|refine kz env fun Q hQ=>?_|refine kj fun Q hQ=>?_);simp only [vkt,seval,Vl,QbE,zP,pUp,h1,h2];(try simp only [ite_and]);(repeat' (first|with_reducible assumption|refine And.intro ?_ ?_|intro hp));all_goals (first|(refine hQ _ ?_;clear hQ Q)|(refine hQ _ (fun h=>?_) (fun h=>?_) <;> clear hQ Q <;> (try simp only [vki,reduceCtorEq] at h))|(refine kx ?_;kernel_rfl)|omega|assumption|with_reducible rfl|skip)))
  (simp only [vrt,Tryz.results13,vkt,seval,Vl,QbE,zP,pUp];refine Fin.ok some [] ?_ ?_ ?_ ?_ ?_ rfl;all_goals (try simp only [vle,vkt,seval,Vl,QbE,zP,pUp]))
  all_goals rfl
noncomputable def zQ (S:St):List AV→Option Pk
  |[.ptr i 0,.v (.int .i64 a),.v (.int .i64 b)]=>match S.h i with
    |some (.cells [.v (.int .u64 x)])=>some { pre:=-100000≤a∧a≤100000∧-100000≤b∧b≤100000,hs:=[i],ar:=[.ptr 0 0,.v (.int .i64 a),.v (.int .i64 b)],L0:=[.cells [.v (.int .u64 x)]],v:=.v (.int .i64 (a+upV x (b - a))),L1:=[some (.cells [.v (.int .u64 (upS x (b - a)))])] }
    |_=>none
  |_=>none
theorem Qha {A:Frm→Prop}:qE A Tryz.prog 13 (fnE zQ):=wh fun S bs q h hp=>by
  unfold zQ at h
  split at h
  · split at h
    · cases h;exact Qit _ _ _ hp
    · cases h
  · cases h
def nbK (l:List Int):Nat→Int
  |0=>11400714819323198485
  |k+1=>xsh (IntKind.u64.wrap (IntKind.u64.wrap (nbK l k+IntKind.u64.wrap (l.getD k 0)) * 13787848793156543929)) 29
def nbS (l:List Int):Int:=nbK l l.length
def nbI (l:List Int) (k:Nat):St:={ t:=asg [(0,qB l),(3,.ptr 0 0),(4,aI k)],h:=qj (zP (nbK l k)),n:=1 }
def kQ:=kk @ty3 (kk @QG (kk @ty84 (kk @ty86 (kk @ti3.eq_1 (kk @kX.eq_1 (kk @QdB.eq_1 @Qgv.eq_1))))))
def Wv:=kk @aI.eq_1 (kk @aB.eq_1 (kk @nbI.eq_1 (kk @qB.eq_1 (kk @Ud (@zJ.eq_1)))))
theorem QjW (l:List Int) (hl:l.length≤maxLen):Fn noB Tryz.prog 10 [qB l] noH (.ptr 0 0) (qj (zP (nbS l))) 0:=by
  have env:Env (fun _=>True) Tryz.prog tyB (tab []):=qL trivial
  refine Fn.of (A:=fun _=>True) (n0:=0) (D:=noD) (Fn0 Tryz.func10 rfl (fun vs w=>by kernel_rfl) (by kernel_rfl)) (by simp) (by simp [AV.ids,AV.idsL,qB]) (fun i o h=>by cases h) (fun _ _ _ _=>trivial) qF ?_
  repeat' (first|(apply nx;with_reducible constructor)|refine jq (by decide) ?_|((first|refine kz env fun Q hQ=>?_|refine kj fun Q hQ=>?_);simp only [vkt,seval,kQ,Wv,zP];(try simp only [ite_and]);(repeat' (first|with_reducible assumption|refine And.intro ?_ ?_|intro hp));all_goals (first|(refine hQ _ ?_;clear hQ Q)|(refine hQ _ (fun h=>?_) (fun h=>?_) <;> clear hQ Q <;> (try simp only [vki,reduceCtorEq] at h))|(refine kx ?_;kernel_rfl)|omega|assumption|with_reducible rfl|skip)))
  refine qO (fun k:{ k:Nat // k≤l.length }=>nbI l k.1) (fun k=>l.length - k.1) ⟨0,Nat.zero_le _⟩ ?_ fun ⟨k,hk⟩=>?_
  · (refine Le.ok some [] ?_;constructor;all_goals (try simp only [vle,vkt,seval,kQ,Wv,zP]))
    all_goals first|rfl|simp
  · repeat' (first|(apply nx;with_reducible constructor)|refine jq (by decide) ?_)
    (refine kz env fun Q hQ=>?_;simp only [vkt,seval,kQ,Wv,zP];(try simp only [ite_and]);(repeat' (first|with_reducible assumption|refine And.intro ?_ ?_|intro hp));all_goals (first|(refine hQ _ ?_;clear hQ Q)|(refine kx ?_;kernel_rfl)|omega|assumption|with_reducible rfl|skip))
    repeat' (first|(apply nx;with_reducible constructor)|refine jq (by decide) ?_)
    (refine yO (by simp only [vkt,seval,kQ,Wv,zP];rfl) (fun h=>?_) (fun h=>?_) <;> (try simp only [vki,reduceCtorEq] at h))
    · have hlt:k < l.length:=by omega
      have e9:=Qea hlt hl
      repeat' (first|(apply nx;with_reducible constructor)|refine jq (by decide) ?_|((first|refine kz env fun Q hQ=>?_|refine kj fun Q hQ=>?_);simp only [vkt,seval,kQ,Wv,zP,e9];(try simp only [ite_and]);(repeat' (first|with_reducible assumption|refine And.intro ?_ ?_|intro hp));all_goals (first|(refine hQ _ ?_;clear hQ Q)|(refine hQ _ (fun h=>?_) (fun h=>?_) <;> clear hQ Q <;> (try simp only [vki,reduceCtorEq] at h))|(refine kx ?_;kernel_rfl)|omega|assumption|with_reducible rfl|skip)))
      refine ⟨⟨k+1,hlt⟩,by show l.length - (k+1) < l.length - k;omega, ?_⟩
      (refine Le.ok some [] ?_;constructor;all_goals (try simp only [vle,vkt,seval,kQ,Wv,zP]))
      all_goals first|rfl|(simp [e9];done)
    · have hkn:k=l.length:=by omega
      subst hkn
      repeat' (first|(apply nx;with_reducible constructor)|refine jq (by decide) ?_|((first|refine kz env fun Q hQ=>?_|refine kj fun Q hQ=>?_);simp only [vkt,seval,kQ,Wv,zP];(try simp only [ite_and]);(repeat' (first|with_reducible assumption|refine And.intro ?_ ?_|intro hp));all_goals (first|(refine hQ _ ?_;clear hQ Q)|(refine hQ _ (fun h=>?_) (fun h=>?_) <;> clear hQ Q <;> (try simp only [vki,reduceCtorEq] at h))|(refine kx ?_;kernel_rfl)|omega|assumption|with_reducible rfl|skip)))
      (simp only [vrt,Tryz.results10,vkt,seval,kQ,Wv,zP];refine Fin.ok some [] ?_ ?_ ?_ ?_ ?_ rfl;all_goals (try simp only [vle,vkt,seval,kQ,Wv,zP]))
      all_goals rfl
def Z7 (_:St):List AV→Option Pk
  |[.sl xs]=>some { pre:=xs=(xs.map za).map zJ∧xs.length≤maxLen,ar:=[.sl xs],v:=.ptr 0 0,L1:=[some (.cells [.v (.int .u64 (nbS (xs.map za)))])] }
  |_=>none
theorem eBag {A:Frm→Prop}:qE A Tryz.prog 10 (fnE Z7):=wh fun S bs q h hp=>by
  unfold Z7 at h
  split at h <;> cases h
  have:=QjW (List.map za _) (by rw [List.length_map];exact hp.2)
  simp only [qB,← hp.1] at this
  exact this
end Go.Sym.B
namespace Go.Sym.B
open Go Go.Sym Go.Proofs Go.Sym.C
def inB (n lo hi:Int):Bool:=decide (lo≤n) && decide (n≤hi)
theorem jc {n lo hi:Int}:inB n lo hi=true ↔ lo≤n∧n≤hi:=by simp [inB]
def zG (n a b:Int):Int:=if n < a then 7 else if b < n then 6 else 0
def yo:List Int→Int
  |[]=>0
  |e :: r=>if e=0 then yo r else e
theorem kw {l:List Int} {k:Nat} (h:∀ j,j < k→l.getD j 0=0) (hk:k < l.length) (he:l.getD k 0 ≠ 0):yo l=l.getD k 0:=by
  induction l generalizing k with
  |nil=>simp at hk
  |cons e r ih =>
    cases k with
    |zero=>rw [yo,if_neg (by simpa using he)];rfl
    |succ k =>
      rw [yo,if_pos (by simpa using h 0 (by omega))]
      have:=ih (k:=k) (fun j hj=>by simpa using h (j+1) (by omega)) (by simpa using hk) (by simpa using he)
      rw [this];rfl
theorem yD {l:List Int} (h:∀ j,j < l.length→l.getD j 0=0):yo l=0:=by
  induction l with
  |nil=>rfl
  |cons e r ih =>
    rw [yo,if_pos (by simpa using h 0 (by simp))]
    exact ih fun j hj=>by simpa using h (j+1) (by simpa using hj)
theorem Zr {l:List Int} (h:yo l=0):∀ e ∈ l,e=0:=by
  induction l with
  |nil=>simp
  |cons e r ih =>
    rw [yo] at h
    split at h
    · rename_i h0
      intro x hx
      rcases List.mem_cons.1 hx with rfl|hx
      · exact h0
      · exact ih h x hx
    · rename_i h0;exact absurd h h0
def xz (a b:Tk):Bool:=decide (a.frm < b.to) && decide (b.frm < a.to)
def QB (a b:Tk):Bool:=decide (a.party=b.party) || decide (a.cab ≠ b.cab) || !xz a b || (decide (a.sex=b.sex) && !a.dog && !b.dog)
def QI (secs frm to:Int):Int:=if frm < 0∨to≤frm∨secs < to then 5 else 0
def vV (t x:Tk):Bool:=decide (x.cab=t.cab) && decide (x.bed=t.bed) && xz x t
def zX (t:Tk) (l:List Tk):Int:=if l.any (vV t) then 4 else if l.any (fun x=>!QB x t) then 9 else 0
def jF (cs:List Cabin) (cab bed:Int):Bool:=inB cab 0 ((cs.length:Int) - 1) && inB bed 0 ((cs.getD cab.toNat default).beds - 1)
def zD (c:Chart) (t:Tk) (l:List Tk):Int :=
  if !inB t.party 1 99 then 1 else if !inB t.sex 1 2 then 8 else if !jF c.cabins t.cab t.bed then 3 else if QI c.secs t.frm t.to ≠ 0 then QI c.secs t.frm t.to else zX t l
def kY (x:Cabin):Int:=if !inB x.beds 1 3 then 1 else 0
def Wi (c:Chart):Int :=
  if zG c.cabins.length 1 3 ≠ 0 then zG c.cabins.length 1 3 else if yo (c.cabins.map kY) ≠ 0 then yo (c.cabins.map kY) else if !inB c.secs 1 5 then 1 else zG c.sold.length 0 8
def jC (c:Chart) (l:List Tk):Int:=yo ((List.range l.length).map fun i=>zD c (l.getD i default) (l.take i))
def wH (c:Chart):Int:=if Wi c ≠ 0 then Wi c else jC c c.sold
structure CarOk (c:Chart):Prop where
  cabs:1≤c.cabins.length∧c.cabins.length≤3
  beds:∀ x ∈ c.cabins,1≤x.beds∧x.beds≤3
  secs:1≤c.secs∧c.secs≤5
theorem QcI {c:Chart} (h:Wi c=0):CarOk c∧c.sold.length≤8:=by
  unfold Wi at h
  split at h
  · exact absurd h ‹_›
  rename_i h1
  split at h
  · exact absurd h ‹_›
  rename_i h2
  split at h
  · exact absurd h (by decide)
  rename_i h3
  have h1:=Decidable.not_not.1 h1
  have h2:=Decidable.not_not.1 h2
  have h3:inB c.secs 1 5=true:=by simpa using h3
  unfold zG at h1 h
  refine ⟨⟨?_,fun x hx=>?_,jc.1 h3⟩, ?_⟩
  · split at h1
    · exact absurd h1 (by decide)
    · split at h1
      · exact absurd h1 (by decide)
      · omega
  · have:=Zr h2 _ (List.mem_map.2 ⟨x,hx,rfl⟩)
    unfold kY at this
    split at this
    · exact absurd this (by decide)
    · rename_i h4
      exact jc.1 (by simpa using h4)
  · split at h
    · exact absurd h (by decide)
    · split at h
      · exact absurd h (by decide)
      · omega
structure TkOk (c:Chart) (t:Tk):Prop where
  party:1≤t.party∧t.party≤99
  sex:1≤t.sex∧t.sex≤2
  cab:0≤t.cab∧t.cab.toNat < c.cabins.length
  bed:0≤t.bed∧t.bed < (c.cabins.getD t.cab.toNat default).beds
  frm:0≤t.frm
  way:t.frm < t.to
  to:t.to≤c.secs
theorem UK {s a b:Int} (h:QI s a b=0):0≤a∧a < b∧b≤s:=by
  unfold QI at h
  split at h
  · exact absurd h (by decide)
  · omega
theorem KJ {cs:List Cabin} {a b:Int} (h:jF cs a b=true):0≤a∧a.toNat < cs.length∧0≤b∧b < (cs.getD a.toNat default).beds:=by
  unfold jF at h
  rw [Bool.and_eq_true,jc,jc] at h
  omega
theorem Qb2 {c:Chart} {t:Tk} {l:List Tk} (h:zD c t l=0):TkOk c t∧zX t l=0:=by
  unfold zD at h
  split at h
  · exact absurd h (by decide)
  rename_i h1
  split at h
  · exact absurd h (by decide)
  rename_i h2
  split at h
  · exact absurd h (by decide)
  rename_i h3
  split at h
  · exact absurd h ‹_›
  rename_i h4
  have nf:∀ {p:Bool},¬ (!p)=true→p=true:=fun h=>by simpa using h
  have g1:=jc.1 (nf h1)
  have g2:=jc.1 (nf h2)
  obtain ⟨g3,g4,g5,g6⟩:=KJ (nf h3)
  obtain ⟨g7,g8,g9⟩:=UK (Decidable.not_not.1 h4)
  exact ⟨⟨g1,g2,⟨g3,g4⟩,⟨g5,g6⟩,g7,g8,g9⟩,h⟩
theorem yL {α:Type} {l:List α} {k:Nat} {d:α} (h:k < l.length):l.getD k d ∈ l:=by
  rw [List.getD_eq_getElem?_getD,List.getElem?_eq_getElem h];exact List.getElem_mem h
theorem JU {c:Chart} {l:List Tk} (h:jC c l=0):∀ i,i < l.length→TkOk c (l.getD i default)∧zX (l.getD i default) (l.take i)=0:=fun i hi =>
  Qb2 (Zr h _ (List.mem_map.2 ⟨i,List.mem_range.2 hi,rfl⟩))
structure Val (c:Chart):Prop where
  car:CarOk c
  many:c.sold.length≤8
  tk:∀ t ∈ c.sold,TkOk c t
theorem Qg {c:Chart} (h:wH c=0):Val c:=by
  unfold wH at h
  split at h
  · exact absurd h ‹_›
  rename_i h1
  obtain ⟨g1,g2⟩:=QcI (Decidable.not_not.1 h1)
  refine ⟨g1,g2,fun t ht=>?_⟩
  obtain ⟨i,hi,rfl⟩:=List.mem_iff_getElem.1 ht
  have:=(JU h i hi).1
  rwa [show c.sold.getD i default=c.sold[i] by simp [List.getD_eq_getElem?_getD,hi]] at this
def qY (cs:List Cabin):List Bunk:=(List.range cs.length).flatMap fun i=>(List.range (cs.getD i default).beds.toNat).map fun (k:Nat)=>⟨(i:Int),(k:Int)⟩
def Q7 (cs:List Cabin) (l:List Bunk):Bool :=
  let lo:=l.foldl (fun m b=>min m b.cab) (l.getD 0 default).cab
  let hi:=l.foldl (fun m b=>max m b.cab) (l.getD 0 default).cab
  decide (lo=hi) || (decide (lo+1=hi) && (cs.getD lo.toNat default).door)
def kW (a:Ask) (i:Nat) (b:Bunk):Tk:=⟨a.party,a.sexes.getD i 0,b.cab,b.bed,a.frm,a.to,a.dog⟩
def goB (cs:List Cabin) (a:Ask) (sold:List Tk) (begun:List Bunk) (b:Bunk):Bool:=!begun.contains b && Q7 cs (begun++[b]) && decide (zX (kW a begun.length b) sold=0)
def atB (s:Int) (t:Tk):Bool:=decide (t.frm≤s) && decide (s < t.to)
def jl (sold:List Tk) (s i:Int):Bool:=sold.all fun t=>!(atB s t && decide (t.cab=i))
def vS (cs:List Cabin) (secs:Int) (sold:List Tk):Int:=(((List.range secs.toNat).flatMap fun (s:Nat)=>(List.range cs.length).filter fun (i:Nat)=>jl sold s i).length:Int)
def xg (c:Chart) (a:Ask):Int :=
  if !inB a.party 1 99 then 1 else if c.sold.any (fun t=>decide (t.party=a.party)) then 4 else if QI c.secs a.frm a.to ≠ 0 then QI c.secs a.frm a.to else if zG a.sexes.length 1 3 ≠ 0 then zG a.sexes.length 1 3 else
  yo (a.sexes.map fun s=>if !inB s 1 2 then 8 else 0)
def zu (c:Chart) (a:Ask):Int:=if wH c ≠ 0 then wH c else xg c a
end Go.Sym.B
namespace Go.Sym.B
open Go Go.Sym Go.Proofs Go.Sym.C
def Qc6:=kk @ty3 @ti3.eq_1
def ZI:=kk @aI.eq_1 (@aB.eq_1)
theorem in_fn (n a b:Int):FnV Tryz.prog 77 [aI n,aI a,aI b] (aB (inB n a b)):=by
  have env:Env (fun _=>True) Tryz.prog tyB (tab []):=qL trivial
  refine Fn.of (A:=fun _=>True) (n0:=0) (D:=noD) (Fn0 Tryz.func77 rfl (fun vs w=>by kernel_rfl) (by kernel_rfl)) (by simp) (by simp [AV.ids,aI]) (fun i o h=>by cases h) (fun _ _ _ _=>trivial) qF ?_
  repeat' (first|(apply nx;with_reducible constructor)|refine jq (by decide) ?_|((first|refine kz env fun Q hQ=>?_|refine kj fun Q hQ=>?_);simp only [vkt,seval,Qc6,ZI,aTk,cTk,qa,qb];(try simp only [ite_and]);(repeat' (first|with_reducible assumption|refine And.intro ?_ ?_|intro hp));all_goals (first|(refine hQ _ ?_;clear hQ Q)|(refine hQ _ (fun h=>?_) (fun h=>?_) <;> clear hQ Q <;> (try simp only [vki,reduceCtorEq] at h))|(refine kx ?_;kernel_rfl)|omega|assumption|with_reducible rfl|skip)))
  all_goals (simp only [vrt,Tryz.results77,vkt,seval,Qc6,ZI,aTk,cTk,qa,qb];refine Fin.val rfl ?_;(try simp only [AV.le,AV.leL]))
  all_goals simp [inB, *]
def sin:List AV→Prop × AV
  |[.v (.int .i64 n),.v (.int .i64 a),.v (.int .i64 b)]=>(True,aB (inB n a b))
  |_=>(False,.junk)
theorem ein {A:Frm→Prop}:qE A Tryz.prog 77 (qU true sin):=qW fun vs hv h=>by
  clear hv
  unfold sin at h ⊢
  split at h
  · rename_i n a b;clear h
    refine ⟨by first|trivial|(simp [AV.plain,AV.plainL,aI,aB,qB,qc,ql,qf,aTk,cTk];done)|(repeat' split) <;> simp [AV.plain,AV.plainL,aI,aB,qB,qc,ql,qf,aTk,cTk],fun _=>(by simp [AV.flat,AV.flatL,aI,aB]), ?_⟩
    have:=in_fn n a b
    simp only [aI] at this
    first|exact this|(simp only [aI];exact this)
  · exact h.elim
def KT:=kk @ty3 @ti3.eq_1
theorem Qiv (n a b:Int):FnV Tryz.prog 83 [aI n,aI a,aI b] (aB (inB n a b)):=by
  have env:Env (fun _=>True) Tryz.prog tyB (tab []):=qL trivial
  refine Fn.of (A:=fun _=>True) (n0:=0) (D:=noD) (Fn0 Tryz.func83 rfl (fun vs w=>by kernel_rfl) (by kernel_rfl)) (by simp) (by simp [AV.ids,aI]) (fun i o h=>by cases h) (fun _ _ _ _=>trivial) qF ?_
  repeat' (first|(apply nx;with_reducible constructor)|refine jq (by decide) ?_|((first|refine kz env fun Q hQ=>?_|refine kj fun Q hQ=>?_);simp only [vkt,seval,KT,ZI,aTk,cTk,qa,qb];(try simp only [ite_and]);(repeat' (first|with_reducible assumption|refine And.intro ?_ ?_|intro hp));all_goals (first|(refine hQ _ ?_;clear hQ Q)|(refine hQ _ (fun h=>?_) (fun h=>?_) <;> clear hQ Q <;> (try simp only [vki,reduceCtorEq] at h))|(refine kx ?_;kernel_rfl)|omega|assumption|with_reducible rfl|skip)))
  all_goals (simp only [vrt,Tryz.results83,vkt,seval,KT,ZI,aTk,cTk,qa,qb];refine Fin.val rfl ?_;(try simp only [AV.le,AV.leL]))
  all_goals simp [inB, *]
def zb:List AV→Prop × AV
  |[.v (.int .i64 n),.v (.int .i64 a),.v (.int .i64 b)]=>(True,aB (inB n a b))
  |_=>(False,.junk)
theorem QaD {A:Frm→Prop}:qE A Tryz.prog 83 (qU true zb):=qW fun vs hv h=>by
  clear hv
  unfold zb at h ⊢
  split at h
  · rename_i n a b;clear h
    refine ⟨by first|trivial|(simp [AV.plain,AV.plainL,aI,aB,qB,qc,ql,qf,aTk,cTk];done)|(repeat' split) <;> simp [AV.plain,AV.plainL,aI,aB,qB,qc,ql,qf,aTk,cTk],fun _=>(by simp [AV.flat,AV.flatL,aI,aB]), ?_⟩
    have:=Qiv n a b
    simp only [aI] at this
    first|exact this|(simp only [aI];exact this)
  · exact h.elim
def YG:=kk @ty3 @ti3.eq_1
theorem Qa3 (n a b:Int):FnV Tryz.prog 91 [aI n,aI a,aI b] (aI (zG n a b)):=by
  have env:Env (fun _=>True) Tryz.prog tyB (tab []):=qL trivial
  refine Fn.of (A:=fun _=>True) (n0:=0) (D:=noD) (Fn0 Tryz.func91 rfl (fun vs w=>by kernel_rfl) (by kernel_rfl)) (by simp) (by simp [AV.ids,aI]) (fun i o h=>by cases h) (fun _ _ _ _=>trivial) qF ?_
  repeat' (first|(apply nx;with_reducible constructor)|refine jq (by decide) ?_|((first|refine kz env fun Q hQ=>?_|refine kj fun Q hQ=>?_);simp only [vkt,seval,YG,ZI,aTk,cTk,qa,qb];(try simp only [ite_and]);(repeat' (first|with_reducible assumption|refine And.intro ?_ ?_|intro hp));all_goals (first|(refine hQ _ ?_;clear hQ Q)|(refine hQ _ (fun h=>?_) (fun h=>?_) <;> clear hQ Q <;> (try simp only [vki,reduceCtorEq] at h))|(refine kx ?_;kernel_rfl)|omega|assumption|with_reducible rfl|skip)))
  all_goals (simp only [vrt,Tryz.results91,vkt,seval,YG,ZI,aTk,cTk,qa,qb];refine Fin.val rfl ?_;(try simp only [AV.le,AV.leL]))
  all_goals (unfold zG;simp [*])
  all_goals omega
def zl:List AV→Prop × AV
  |[.v (.int .i64 n),.v (.int .i64 a),.v (.int .i64 b)]=>(True,aI (zG n a b))
  |_=>(False,.junk)
theorem L9 {A:Frm→Prop}:qE A Tryz.prog 91 (qU true zl):=qW fun vs hv h=>by
  clear hv
  unfold zl at h ⊢
  split at h
  · rename_i n a b;clear h
    refine ⟨by first|trivial|(simp [AV.plain,AV.plainL,aI,aB,qB,qc,ql,qf,aTk,cTk];done)|(repeat' split) <;> simp [AV.plain,AV.plainL,aI,aB,qB,qc,ql,qf,aTk,cTk],fun _=>(by simp [AV.flat,AV.flatL,aI,aB]), ?_⟩
    have:=Qa3 n a b
    simp only [aI] at this
    first|exact this|(simp only [aI];exact this)
  · exact h.elim
def Kw:=kk @ty3 (kk @yK (kk @ti3.eq_1 @yn.eq_1))
theorem Qhz (a b:Tk):FnV Tryz.prog 137 [aTk a,aTk b] (aB (xz a b)):=by
  have env:Env (fun _=>True) Tryz.prog tyB (tab []):=qL trivial
  refine Fn.of (A:=fun _=>True) (n0:=0) (D:=noD) (Fn0 Tryz.func137 rfl (fun vs w=>by kernel_rfl) (by kernel_rfl)) (by simp) (by simp [AV.ids,AV.idsL,aTk,cTk]) (fun i o h=>by cases h) (fun _ _ _ _=>trivial) qF ?_
  repeat' (first|(apply nx;with_reducible constructor)|refine jq (by decide) ?_|((first|refine kz env fun Q hQ=>?_|refine kj fun Q hQ=>?_);simp only [vkt,seval,Kw,ZI,aTk,cTk,qa,qb];(try simp only [ite_and]);(repeat' (first|with_reducible assumption|refine And.intro ?_ ?_|intro hp));all_goals (first|(refine hQ _ ?_;clear hQ Q)|(refine hQ _ (fun h=>?_) (fun h=>?_) <;> clear hQ Q <;> (try simp only [vki,reduceCtorEq] at h))|(refine kx ?_;kernel_rfl)|omega|assumption|with_reducible rfl|skip)))
  all_goals (simp only [vrt,Tryz.results137,vkt,seval,Kw,ZI,aTk,cTk,qa,qb];refine Fin.val rfl ?_;(try simp only [AV.le,AV.leL]))
  all_goals simp [xz, *]
def Zq:List AV→Prop × AV
  |[.agg [.v (.int .i64 a0),.v (.int .i64 a1),.v (.int .i64 a2),.v (.int .i64 a3),.v (.int .i64 a4),.v (.int .i64 a5),.v (.bool a6)],.agg [.v (.int .i64 b0),.v (.int .i64 b1),.v (.int .i64 b2),.v (.int .i64 b3),.v (.int .i64 b4),.v (.int .i64 b5),.v (.bool b6)]]=>(True,aB (xz (⟨a0,a1,a2,a3,a4,a5,a6⟩:Tk) (⟨b0,b1,b2,b3,b4,b5,b6⟩:Tk)))
  |_=>(False,.junk)
theorem Qi7 {A:Frm→Prop}:qE A Tryz.prog 137 (qU true Zq):=qW fun vs hv h=>by
  clear hv
  unfold Zq at h ⊢
  split at h
  · rename_i a0 a1 a2 a3 a4 a5 a6 b0 b1 b2 b3 b4 b5 b6;clear h
    refine ⟨by first|trivial|(simp [AV.plain,AV.plainL,aI,aB,qB,qc,ql,qf,aTk,cTk];done)|(repeat' split) <;> simp [AV.plain,AV.plainL,aI,aB,qB,qc,ql,qf,aTk,cTk],fun _=>(by simp [AV.flat,AV.flatL,aI,aB]), ?_⟩
    have:=Qhz (⟨a0,a1,a2,a3,a4,a5,a6⟩:Tk) (⟨b0,b1,b2,b3,b4,b5,b6⟩:Tk)
    simp only [aB,aI,aTk,cTk] at this
    first|exact this|(simp only [aB,aI,aTk,cTk];exact this)
  · exact h.elim
def VT:=kk @ty3 (kk @yK (kk @ti3.eq_1 @yn.eq_1))
theorem Qfn (a b:Tk):FnV Tryz.prog 120 [aTk a,aTk b] (aB (xz a b)):=by
  have env:Env (fun _=>True) Tryz.prog tyB (tab []):=qL trivial
  refine Fn.of (A:=fun _=>True) (n0:=0) (D:=noD) (Fn0 Tryz.func120 rfl (fun vs w=>by kernel_rfl) (by kernel_rfl)) (by simp) (by simp [AV.ids,AV.idsL,aTk,cTk]) (fun i o h=>by cases h) (fun _ _ _ _=>trivial) qF ?_
  repeat' (first|(apply nx;with_reducible constructor)|refine jq (by decide) ?_|((first|refine kz env fun Q hQ=>?_|refine kj fun Q hQ=>?_);simp only [vkt,seval,VT,ZI,aTk,cTk,qa,qb];(try simp only [ite_and]);(repeat' (first|with_reducible assumption|refine And.intro ?_ ?_|intro hp));all_goals (first|(refine hQ _ ?_;clear hQ Q)|(refine hQ _ (fun h=>?_) (fun h=>?_) <;> clear hQ Q <;> (try simp only [vki,reduceCtorEq] at h))|(refine kx ?_;kernel_rfl)|omega|assumption|with_reducible rfl|skip)))
  all_goals (simp only [vrt,Tryz.results120,vkt,seval,VT,ZI,aTk,cTk,qa,qb];refine Fin.val rfl ?_;(try simp only [AV.le,AV.leL]))
  all_goals simp [xz, *]
def wK:List AV→Prop × AV
  |[.agg [.v (.int .i64 a0),.v (.int .i64 a1),.v (.int .i64 a2),.v (.int .i64 a3),.v (.int .i64 a4),.v (.int .i64 a5),.v (.bool a6)],.agg [.v (.int .i64 b0),.v (.int .i64 b1),.v (.int .i64 b2),.v (.int .i64 b3),.v (.int .i64 b4),.v (.int .i64 b5),.v (.bool b6)]]=>(True,aB (xz (⟨a0,a1,a2,a3,a4,a5,a6⟩:Tk) (⟨b0,b1,b2,b3,b4,b5,b6⟩:Tk)))
  |_=>(False,.junk)
theorem Qf3 {A:Frm→Prop}:qE A Tryz.prog 120 (qU true wK):=qW fun vs hv h=>by
  clear hv
  unfold wK at h ⊢
  split at h
  · rename_i a0 a1 a2 a3 a4 a5 a6 b0 b1 b2 b3 b4 b5 b6;clear h
    refine ⟨by first|trivial|(simp [AV.plain,AV.plainL,aI,aB,qB,qc,ql,qf,aTk,cTk];done)|(repeat' split) <;> simp [AV.plain,AV.plainL,aI,aB,qB,qc,ql,qf,aTk,cTk],fun _=>(by simp [AV.flat,AV.flatL,aI,aB]), ?_⟩
    have:=Qfn (⟨a0,a1,a2,a3,a4,a5,a6⟩:Tk) (⟨b0,b1,b2,b3,b4,b5,b6⟩:Tk)
    simp only [aB,aI,aTk,cTk] at this
    first|exact this|(simp only [aB,aI,aTk,cTk];exact this)
  · exact h.elim
def Ld:=kk @ty3 (kk @ty4 (kk @xf (kk @yK (kk @ti3.eq_1 (kk @ti4.eq_1 (kk @vB.eq_1 @yn.eq_1))))))
def UF:=kk @aI.eq_1 (@aB.eq_1)
theorem Qj1 (a b:Tk):FnV Tryz.prog 139 [aTk a,aTk b] (aB (QB a b)):=by
  have env:Env (fun _=>True) Tryz.prog tyB (tab [(137,qU true Zq)]):=qL ⟨Qi7,trivial⟩
  refine Fn.of (A:=fun _=>True) (n0:=0) (D:=noD) (Fn0 Tryz.func139 rfl (fun vs w=>by kernel_rfl) (by kernel_rfl)) (by simp) (by simp [AV.ids,AV.idsL,aTk,cTk]) (fun i o h=>by cases h) (fun _ _ _ _=>trivial) qF ?_
  have em:xz ⟨a.party,a.sex,a.cab,a.bed,a.frm,a.to,a.dog⟩ ⟨b.party,b.sex,b.cab,b.bed,b.frm,b.to,b.dog⟩=xz a b:=rfl
  repeat' (first|(apply nx;with_reducible constructor)|refine jq (by decide) ?_|((first|refine kz env fun Q hQ=>?_|refine kj fun Q hQ=>?_);simp only [vkt,seval,Ld,UF,aTk,cTk,Zq,wK,em];(try simp only [ite_and]);(repeat' (first|with_reducible assumption|refine And.intro ?_ ?_|intro hp));all_goals (first|(refine hQ _ ?_;clear hQ Q)|(refine hQ _ (fun h=>?_) (fun h=>?_) <;> clear hQ Q <;> (try simp only [vki,reduceCtorEq] at h))|(refine kx ?_;kernel_rfl)|omega|assumption|with_reducible rfl|skip)))
  all_goals (simp only [vrt,Tryz.results139,vkt,seval,Ld,UF,aTk,cTk,Zq,wK];refine Fin.val rfl ?_;(try simp only [AV.le,AV.leL]))
  all_goals first|(simp [QB, *];done)|(simp_all [QB];done)
def Ut:List AV→Prop × AV
  |[.agg [.v (.int .i64 a0),.v (.int .i64 a1),.v (.int .i64 a2),.v (.int .i64 a3),.v (.int .i64 a4),.v (.int .i64 a5),.v (.bool a6)],.agg [.v (.int .i64 b0),.v (.int .i64 b1),.v (.int .i64 b2),.v (.int .i64 b3),.v (.int .i64 b4),.v (.int .i64 b5),.v (.bool b6)]]=>(True,aB (QB (⟨a0,a1,a2,a3,a4,a5,a6⟩:Tk) (⟨b0,b1,b2,b3,b4,b5,b6⟩:Tk)))
  |_=>(False,.junk)
theorem etog {A:Frm→Prop}:qE A Tryz.prog 139 (qU true Ut):=qW fun vs hv h=>by
  clear hv
  unfold Ut at h ⊢
  split at h
  · rename_i a0 a1 a2 a3 a4 a5 a6 b0 b1 b2 b3 b4 b5 b6;clear h
    refine ⟨by first|trivial|(simp [AV.plain,AV.plainL,aI,aB,qB,qc,ql,qf,aTk,cTk];done)|(repeat' split) <;> simp [AV.plain,AV.plainL,aI,aB,qB,qc,ql,qf,aTk,cTk],fun _=>(by simp [AV.flat,AV.flatL,aI,aB]), ?_⟩
    have:=Qj1 (⟨a0,a1,a2,a3,a4,a5,a6⟩:Tk) (⟨b0,b1,b2,b3,b4,b5,b6⟩:Tk)
    simp only [aB,aI,aTk,cTk] at this
    first|exact this|(simp only [aB,aI,aTk,cTk];exact this)
  · exact h.elim
def K7:=kk @ty3 (kk @ty4 (kk @xf (kk @yK (kk @ti3.eq_1 (kk @ti4.eq_1 (kk @vB.eq_1 @yn.eq_1))))))
theorem Qil (a b:Tk):FnV Tryz.prog 121 [aTk a,aTk b] (aB (QB a b)):=by
  have env:Env (fun _=>True) Tryz.prog tyB (tab [(120,qU true wK)]):=qL ⟨Qf3,trivial⟩
  refine Fn.of (A:=fun _=>True) (n0:=0) (D:=noD) (Fn0 Tryz.func121 rfl (fun vs w=>by kernel_rfl) (by kernel_rfl)) (by simp) (by simp [AV.ids,AV.idsL,aTk,cTk]) (fun i o h=>by cases h) (fun _ _ _ _=>trivial) qF ?_
  have em:xz ⟨a.party,a.sex,a.cab,a.bed,a.frm,a.to,a.dog⟩ ⟨b.party,b.sex,b.cab,b.bed,b.frm,b.to,b.dog⟩=xz a b:=rfl
  repeat' (first|(apply nx;with_reducible constructor)|refine jq (by decide) ?_|((first|refine kz env fun Q hQ=>?_|refine kj fun Q hQ=>?_);simp only [vkt,seval,K7,UF,aTk,cTk,Zq,wK,em];(try simp only [ite_and]);(repeat' (first|with_reducible assumption|refine And.intro ?_ ?_|intro hp));all_goals (first|(refine hQ _ ?_;clear hQ Q)|(refine hQ _ (fun h=>?_) (fun h=>?_) <;> clear hQ Q <;> (try simp only [vki,reduceCtorEq] at h))|(refine kx ?_;kernel_rfl)|omega|assumption|with_reducible rfl|skip)))
  all_goals (simp only [vrt,Tryz.results121,vkt,seval,K7,UF,aTk,cTk,Zq,wK];refine Fin.val rfl ?_;(try simp only [AV.le,AV.leL]))
  all_goals first|(simp [QB, *];done)|(simp_all [QB];done)
def yN:List AV→Prop × AV
  |[.agg [.v (.int .i64 a0),.v (.int .i64 a1),.v (.int .i64 a2),.v (.int .i64 a3),.v (.int .i64 a4),.v (.int .i64 a5),.v (.bool a6)],.agg [.v (.int .i64 b0),.v (.int .i64 b1),.v (.int .i64 b2),.v (.int .i64 b3),.v (.int .i64 b4),.v (.int .i64 b5),.v (.bool b6)]]=>(True,aB (QB (⟨a0,a1,a2,a3,a4,a5,a6⟩:Tk) (⟨b0,b1,b2,b3,b4,b5,b6⟩:Tk)))
  |_=>(False,.junk)
theorem ertog {A:Frm→Prop}:qE A Tryz.prog 121 (qU true yN):=qW fun vs hv h=>by
  clear hv
  unfold yN at h ⊢
  split at h
  · rename_i a0 a1 a2 a3 a4 a5 a6 b0 b1 b2 b3 b4 b5 b6;clear h
    refine ⟨by first|trivial|(simp [AV.plain,AV.plainL,aI,aB,qB,qc,ql,qf,aTk,cTk];done)|(repeat' split) <;> simp [AV.plain,AV.plainL,aI,aB,qB,qc,ql,qf,aTk,cTk],fun _=>(by simp [AV.flat,AV.flatL,aI,aB]), ?_⟩
    have:=Qil (⟨a0,a1,a2,a3,a4,a5,a6⟩:Tk) (⟨b0,b1,b2,b3,b4,b5,b6⟩:Tk)
    simp only [aB,aI,aTk,cTk] at this
    first|exact this|(simp only [aB,aI,aTk,cTk];exact this)
  · exact h.elim
def QaL:=kk @ty3 (kk @jO (kk @ti3.eq_1 @jo.eq_1))
def UL:=kk @aI.eq_1 (@aB.eq_1)
theorem Qjn (c:Chart) (a b:Int):FnV Tryz.prog 78 [qa c,aI a,aI b] (aI (QI c.secs a b)):=by
  have env:Env (fun _=>True) Tryz.prog tyB (tab []):=qL trivial
  refine Fn.of (A:=fun _=>True) (n0:=0) (D:=noD) (Fn0 Tryz.func78 rfl (fun vs w=>by kernel_rfl) (by kernel_rfl)) (by simp) (by simp [AV.ids,AV.idsL,aI,qa,qb]) (fun i o h=>by cases h) (fun _ _ _ _=>trivial) qF ?_
  repeat' (first|(apply nx;with_reducible constructor)|refine jq (by decide) ?_|((first|refine kz env fun Q hQ=>?_|refine kj fun Q hQ=>?_);simp only [vkt,seval,QaL,UL,qa,qb];(try simp only [ite_and]);(repeat' (first|with_reducible assumption|refine And.intro ?_ ?_|intro hp));all_goals (first|(refine hQ _ ?_;clear hQ Q)|(refine hQ _ (fun h=>?_) (fun h=>?_) <;> clear hQ Q <;> (try simp only [vki,reduceCtorEq] at h))|(refine kx ?_;kernel_rfl)|omega|assumption|with_reducible rfl|skip)))
  all_goals (simp only [vrt,Tryz.results78,vkt,seval,QaL,UL,qa,qb];refine Fin.val rfl ?_;(try simp only [AV.le,AV.leL]))
  all_goals (unfold QI;simp [*])
  all_goals omega
def xu:List AV→Prop × AV
  |[.agg [.sl c0,.v (.int .i64 c1),.sl c2],.v (.int .i64 a),.v (.int .i64 b)]=>(c0=(c0.map qp).map qg∧c2=(c2.map dTk).map eTk,aI (QI c1 a b))
  |_=>(False,.junk)
theorem eway {A:Frm→Prop}:qE A Tryz.prog 78 (qU true xu):=qW fun vs hv h=>by
  clear hv
  unfold xu at h ⊢
  split at h
  · rename_i c0 c1 c2 a b;obtain ⟨q0,q1⟩:=h
    refine ⟨by first|trivial|(simp [AV.plain,AV.plainL,aI,aB,qB,qc,ql,qf,aTk,cTk];done)|(repeat' split) <;> simp [AV.plain,AV.plainL,aI,aB,qB,qc,ql,qf,aTk,cTk],fun _=>(by simp [AV.flat,AV.flatL,aI,aB]), ?_⟩
    have:=Qjn ⟨c0.map qp,c1,c2.map dTk⟩ a b
    simp only [qR,qa,aI,ql,qb,← q0,← q1] at this
    first|exact this|(simp only [qR,qa,aI,ql,qb,← q0,← q1];exact this)
  · exact h.elim
def KY:=kk @ty3 (kk @jO (kk @ti3.eq_1 @jo.eq_1))
theorem Qiw (c:Chart) (a b:Int):FnV Tryz.prog 84 [qa c,aI a,aI b] (aI (QI c.secs a b)):=by
  have env:Env (fun _=>True) Tryz.prog tyB (tab []):=qL trivial
  refine Fn.of (A:=fun _=>True) (n0:=0) (D:=noD) (Fn0 Tryz.func84 rfl (fun vs w=>by kernel_rfl) (by kernel_rfl)) (by simp) (by simp [AV.ids,AV.idsL,aI,qa,qb]) (fun i o h=>by cases h) (fun _ _ _ _=>trivial) qF ?_
  repeat' (first|(apply nx;with_reducible constructor)|refine jq (by decide) ?_|((first|refine kz env fun Q hQ=>?_|refine kj fun Q hQ=>?_);simp only [vkt,seval,KY,UL,qa,qb];(try simp only [ite_and]);(repeat' (first|with_reducible assumption|refine And.intro ?_ ?_|intro hp));all_goals (first|(refine hQ _ ?_;clear hQ Q)|(refine hQ _ (fun h=>?_) (fun h=>?_) <;> clear hQ Q <;> (try simp only [vki,reduceCtorEq] at h))|(refine kx ?_;kernel_rfl)|omega|assumption|with_reducible rfl|skip)))
  all_goals (simp only [vrt,Tryz.results84,vkt,seval,KY,UL,qa,qb];refine Fin.val rfl ?_;(try simp only [AV.le,AV.leL]))
  all_goals (unfold QI;simp [*])
  all_goals omega
def zU:List AV→Prop × AV
  |[.agg [.sl c0,.v (.int .i64 c1),.sl c2],.v (.int .i64 a),.v (.int .i64 b)]=>(c0=(c0.map qp).map qg∧c2=(c2.map dTk).map eTk,aI (QI c1 a b))
  |_=>(False,.junk)
theorem Qjb {A:Frm→Prop}:qE A Tryz.prog 84 (qU true zU):=qW fun vs hv h=>by
  clear hv
  unfold zU at h ⊢
  split at h
  · rename_i c0 c1 c2 a b;obtain ⟨q0,q1⟩:=h
    refine ⟨by first|trivial|(simp [AV.plain,AV.plainL,aI,aB,qB,qc,ql,qf,aTk,cTk];done)|(repeat' split) <;> simp [AV.plain,AV.plainL,aI,aB,qB,qc,ql,qf,aTk,cTk],fun _=>(by simp [AV.flat,AV.flatL,aI,aB]), ?_⟩
    have:=Qiw ⟨c0.map qp,c1,c2.map dTk⟩ a b
    simp only [qR,qa,aI,ql,qb,← q0,← q1] at this
    first|exact this|(simp only [qR,qa,aI,ql,qb,← q0,← q1];exact this)
  · exact h.elim
end Go.Sym.B
namespace Go.Sym.B
open Go Go.Sym Go.Proofs Go.Sym.C
theorem QbW {α β:Type} (f:α→List β) (d:β) (da:α):∀ (l:List α) (i k:Nat),i < l.length→k < (f (l.getD i da)).length→(l.flatMap f).getD (((l.take i).map fun a=>(f a).length).sum+k) d=(f (l.getD i da)).getD k d
  |[],i,_,h,_=>by simp at h
  |a :: l,0,k,_,hk=>by
    have hk:k < (f a).length:=hk
    rw [List.flatMap_cons,List.take_zero,List.map_nil,List.sum_nil,Nat.zero_add,List.getD_eq_getElem?_getD,List.getElem?_append_left hk,← List.getD_eq_getElem?_getD]
    rfl
  |a :: l,i+1,k,h,hk=>by
    have ih:=QbW f d da l i k (by simpa using h) (by simpa using hk)
    rw [List.flatMap_cons,List.take_succ_cons,List.map_cons,List.sum_cons,List.getD_eq_getElem?_getD,List.getElem?_append_right (by omega),← List.getD_eq_getElem?_getD,show (f a).length+((l.take i).map fun a=>(f a).length).sum+k - (f a).length=((l.take i).map fun a=>(f a).length).sum+k by omega,ih]
    rfl
theorem QgZ {α β:Type} (f:α→List β) (l:List α):(l.flatMap f).length=(l.map fun a=>(f a).length).sum:=by
  rw [List.length_flatMap]
theorem Yq {g:List Nat} {i:Nat} (h:i < g.length):(g.take (i+1)).sum=(g.take i).sum+g.getD i 0:=by
  rw [List.take_succ_eq_append_getElem h,List.sum_append]
  simp [List.getD_eq_getElem?_getD,h]
theorem QD {g:List Nat}:∀ {i j:Nat},i≤j→(g.take i).sum≤(g.take j).sum:=by
  induction g with
  |nil=>simp
  |cons a g ih =>
    intro i j h
    cases i with
    |zero=>simp
    |succ i =>
      cases j with
      |zero=>omega
      |succ j =>
        simp only [List.take_succ_cons,List.sum_cons]
        have:=ih (show i≤j by omega)
        omega
theorem Qam:∀ (g:List Nat) (q:Nat),q < g.sum→∃ i,i < g.length∧(g.take i).sum≤q∧q < (g.take (i+1)).sum
  |[],q,h=>by simp at h
  |a :: g,q,h=>by
    rw [List.sum_cons] at h
    by_cases h1:q < a
    · exact ⟨0,by simp,by simp,by simpa using h1⟩
    · obtain ⟨i,h2,h3,h4⟩:=Qam g (q - a) (by omega)
      refine ⟨i+1,by simpa using h2, ?_, ?_⟩
      · rw [List.take_succ_cons,List.sum_cons];omega
      · rw [List.take_succ_cons,List.sum_cons];omega
def Qu (ans:Nat→Bool) (R:Nat):Bool:=decide (R=0) || ans (R - 1)
theorem nest (g:List Nat) {ans:Nat→Bool} {R:Nat} (h:Rounds ans R g.sum):∃ (RB:Nat) (ansB:Nat→Bool),Rounds ansB RB g.length ∧
    (∀ i,i < RB→(g.take i).sum≤R∧Rounds (fun j=>ans ((g.take i).sum+j)) (min (g.getD i 0) (R - (g.take i).sum)) (g.getD i 0)∧ansB i=Qu (fun j=>ans ((g.take i).sum+j)) (min (g.getD i 0) (R - (g.take i).sum)) ∧
      min (g.take (i+1)).sum R=(g.take i).sum+min (g.getD i 0) (R - (g.take i).sum))∧min (g.take RB).sum R=R∧Qu ans R=Qu ansB RB:=by
  have hle:=h.le
  by_cases hB:0 < R∧ans (R - 1)=false
  · obtain ⟨hR,hf⟩:=hB
    obtain ⟨i,hi,h1,h2⟩:=Qam g (R - 1) (by omega)
    refine ⟨i+1,fun k=>decide (k ≠ i),⟨hi,fun j hj=>by simp;omega,fun _=>⟨by omega,by simp⟩⟩,fun k hk=>?_,by omega, ?_⟩
    · have hkl:k < g.length:=by omega
      have ho:=QD (g:=g) (show k≤i by omega)
      have hs:=Yq hkl
      have hoR:(g.take k).sum≤R:=by omega
      refine ⟨hoR,⟨Nat.min_le_left _ _,fun j hj=>h.yes _ (by omega),fun hlt=>⟨by omega, ?_⟩⟩, ?_,by omega⟩
      · show ans _=false
        rw [show (g.take k).sum+(min (g.getD k 0) (R - (g.take k).sum) - 1)=R - 1 by omega];exact hf
      · by_cases hki:k=i
        · subst hki
          have e:(g.take k).sum+(min (g.getD k 0) (R - (g.take k).sum) - 1)=R - 1:=by omega
          have e0:¬ min (g.getD k 0) (R - (g.take k).sum)=0:=by omega
          simp only [Qu,e,hf,e0,ne_eq,not_true_eq_false,decide_false,Bool.or_self]
        · have h3:=QD (g:=g) (show k+1≤i by omega)
          have e1:min (g.getD k 0) (R - (g.take k).sum)=g.getD k 0:=by omega
          rw [e1]
          by_cases h0:g.getD k 0=0
          · simp [-List.getD_eq_getElem?_getD,Qu,h0,hki]
          · have:=h.yes ((g.take k).sum+(g.getD k 0 - 1)) (by omega)
            simp [-List.getD_eq_getElem?_getD,Qu,h0,hki,this]
    · simp [Qu,hf,show ¬ R=0 by omega]
  · have hRN:R=g.sum:=by
      refine Nat.le_antisymm hle (Nat.le_of_not_lt fun hlt=>?_)
      exact hB (h.stop hlt)
    have hall:∀ j,j < R→ans j=true:=fun j hj=>by
      by_cases hj1:j+1 < R
      · exact h.yes j hj1
      · have:j=R - 1:=by omega
        subst this
        cases ha:ans (R - 1) with
        |true=>rfl
        |false=>exact absurd ⟨by omega,ha⟩ hB
    have hfull:(g.take g.length).sum=g.sum:=by rw [List.take_length]
    refine ⟨g.length,fun _=>true,⟨Nat.le_refl _,fun _ _=>rfl,fun h=>absurd h (Nat.lt_irrefl _)⟩,fun k hk=>?_,by omega, ?_⟩
    · have hs:=Yq hk
      have h3:=QD (g:=g) (show k+1≤g.length by omega)
      have e1:min (g.getD k 0) (R - (g.take k).sum)=g.getD k 0:=by omega
      refine ⟨by omega, ?_, ?_,by omega⟩
      · rw [e1]
        exact ⟨Nat.le_refl _,fun j hj=>hall _ (by omega),fun h=>absurd h (Nat.lt_irrefl _)⟩
      · rw [e1]
        by_cases h0:g.getD k 0=0
        · simp [-List.getD_eq_getElem?_getD,Qu,h0]
        · simp [-List.getD_eq_getElem?_getD,Qu,h0,hall ((g.take k).sum+(g.getD k 0 - 1)) (by omega)]
    · by_cases h0:R=0
      · simp [Qu,h0]
      · simp [Qu,hall (R - 1) (by omega)]
def ZJ (cs:List Cabin):List Nat:=cs.map fun x=>x.beds.toNat
theorem YH (cs:List Cabin):qY cs=(List.range cs.length).flatMap fun i=>(List.range (cs.getD i default).beds.toNat).map fun (k:Nat)=>(⟨(i:Int),(k:Int)⟩:Bunk):=rfl
theorem LV (cs:List Cabin) {i:Nat} (hi:i≤cs.length):(((List.range cs.length).take i).map fun (j:Nat)=>(List.map (fun (k:Nat)=>(⟨(j:Int),(k:Int)⟩:Bunk)) (List.range (cs.getD j default).beds.toNat)).length)=(ZJ cs).take i:=by
  apply List.ext_getElem
  · simp [ZJ]
  · intro n h1 h2
    simp only [List.length_map,List.length_take,List.length_range] at h1
    have hn:n < cs.length:=by omega
    simp [ZJ,List.getD_eq_getElem?_getD,hn]
theorem KN (cs:List Cabin):(qY cs).length=(ZJ cs).sum:=by
  rw [YH,QgZ]
  have:=LV cs (Nat.le_refl cs.length)
  rw [List.take_of_length_le (by simp),List.take_of_length_le (by simp [ZJ])] at this
  rw [this]
theorem QdI {cs:List Cabin} {i k:Nat} (hi:i < cs.length) (hk:k < (cs.getD i default).beds.toNat):(qY cs).getD (((ZJ cs).take i).sum+k) default=⟨(i:Int),(k:Int)⟩:=by
  have hr:(List.range cs.length).getD i 0=i:=by simp [List.getD_eq_getElem?_getD,hi]
  have:=QbW (fun i=>(List.range (cs.getD i default).beds.toNat).map fun (k:Nat)=>(⟨(i:Int),(k:Int)⟩:Bunk)) default 0 (List.range cs.length) i k (by simpa using hi) (by rw [hr];simpa using hk)
  rw [LV cs (by omega),hr] at this
  rw [YH,this]
  generalize (cs.getD i default).beds.toNat=m at hk ⊢
  simp [List.getD_eq_getElem?_getD,hk]
theorem XN {cs:List Cabin} {b:Bunk}:b ∈ qY cs ↔ ∃ i k:Nat,i < cs.length∧k < (cs.getD i default).beds.toNat∧b=⟨(i:Int),(k:Int)⟩:=by
  rw [YH,List.mem_flatMap]
  constructor
  · rintro ⟨i,hi,hb⟩
    obtain ⟨k,hk,rfl⟩:=List.mem_map.1 hb
    exact ⟨i,k,List.mem_range.1 hi,List.mem_range.1 hk,rfl⟩
  · rintro ⟨i,k,hi,hk,rfl⟩
    exact ⟨i,List.mem_range.2 hi,List.mem_map.2 ⟨k,List.mem_range.2 hk,rfl⟩⟩
theorem Qhx {cs:List Cabin} {i:Nat} (hi:i < cs.length):(ZJ cs).getD i 0=(cs.getD i default).beds.toNat:=by
  simp [ZJ,List.getD_eq_getElem?_getD,hi]
end Go.Sym.B
namespace Go.Sym.B
open Go Go.Sym Go.Proofs Go.Sym.C
def Ll (p:Tk→Bool) (l:List Tk):Int:=match l.findIdx? p with
  |some i=>(i:Int)
  |none=>-1
theorem Qgd {p:Tk→Bool} {l:List Tk} {k:Nat} (hk:k < l.length) (h:∀ j,j < k→p (l.getD j default)=false) (hp:p (l.getD k default)=true):Ll p l=(k:Int):=by
  have:l.findIdx? p=some k:=by
    rw [List.findIdx?_eq_some_iff_getElem]
    refine ⟨hk,by simpa [List.getD_eq_getElem?_getD,hk] using hp,fun j hj=>?_⟩
    have:=h j hj
    simpa [List.getD_eq_getElem?_getD,show j < l.length by omega] using this
  simp [Ll,this]
theorem QdR {p:Tk→Bool} {l:List Tk} (h:∀ j,j < l.length→p (l.getD j default)=false):Ll p l=-1:=by
  have:l.findIdx? p=none:=by
    rw [List.findIdx?_eq_none_iff]
    intro x hx
    obtain ⟨j,hj,rfl⟩:=List.mem_iff_getElem.1 hx
    have:=h j hj
    simpa [List.getD_eq_getElem?_getD,hj] using this
  simp [Ll,this]
theorem QgV (p:Tk→Bool) (l:List Tk):decide (0≤Ll p l)=l.any p:=by
  unfold Ll
  cases h:l.findIdx? p with
  |none =>
    rw [List.findIdx?_eq_none_iff] at h
    symm
    simpa using h
  |some i =>
    rw [List.findIdx?_eq_some_iff_getElem] at h
    obtain ⟨hi,hp,_⟩:=h
    symm
    simp only [Int.natCast_nonneg,decide_true,List.any_eq_true]
    exact ⟨_,List.getElem_mem hi,hp⟩
structure PCs (cs:List AV):Prop where
  ids:AV.idsL cs=[]
  le:∀ h σ,AV.leL h σ cs cs=True
  ren:∀ τ,AV.renL τ cs=cs
theorem Qg0 (t:Tk):PCs (cTk t):=⟨by simp [cTk,AV.idsL,AV.ids],by simp [cTk,AV.leL,AV.le],by simp [cTk,AV.renL,AV.ren]⟩
def pTk (cs:List AV) (p:Tk→Bool) (S:St):List AV→Option Pk
  |[.agg [.v (.int .i64 a),.v (.int .i64 b),.v (.int .i64 c),.v (.int .i64 d),.v (.int .i64 e),.v (.int .i64 f),.v (.bool g)],.ptr t 0]=>match S.h t with
    |some (.cells cs')=>some { pre:=cs'=cs,hs:=[t],ar:=[.agg [.v (.int .i64 a),.v (.int .i64 b),.v (.int .i64 c),.v (.int .i64 d),.v (.int .i64 e),.v (.int .i64 f),.v (.bool g)],.ptr 0 0],L0:=[.cells cs],v:=aB (p ⟨a,b,c,d,e,f,g⟩),L1:=[some (.cells cs)] }
    |_=>none
  |_=>none
def J4 (cl:Nat) (cs:List AV) (p:Tk→Bool):Prop:=∀ x,Fn noB Tryz.prog cl [aTk x,.ptr 0 0] (qj [(0,.cells cs)]) (aB (p x)) (qj [(0,.cells cs)]) 0
theorem eTkp {A:Frm→Prop} {cl:Nat} {cs:List AV} {p:Tk→Bool} (h0:J4 cl cs p):qE A Tryz.prog cl (fnE (pTk cs p)):=wh fun S bs q h hp=>by
  unfold pTk at h
  split at h
  · split at h
    · rename_i a b c d e f g t _ cs' _
      cases h
      exact h0 ⟨a,b,c,d,e,f,g⟩
    · cases h
  · cases h
def ixS (l:List Tk) (cl:Nat) (cs:List AV) (k:Nat):St:={ t:=asg [(0,ql l),(1,.clo cl [.ptr 0 0]),(4,aI 0),(6,ql l),(7,aI l.length),(8,aI k)],h:=qj [(0,.cells cs)],n:=1,m:=1 }
def jQ:=kk @ty3 (kk @x8 (kk @yK (kk @ti3.eq_1 (kk @xw.eq_1 @yn.eq_1))))
def QH:=kk @aI.eq_1 (kk @aB.eq_1 (@ixS.eq_1))
theorem Qf5 {cl:Nat} {cs:List AV} {p:Tk→Bool} (hc:PCs cs) (h0:J4 cl cs p) (l:List Tk) (hl:l.length≤100):Fn noB Tryz.prog 123 [ql l,.clo cl [.ptr 0 0]] (qj [(0,.cells cs)]) (aI (Ll p l)) (qj [(0,.cells cs)]) 0:=by
  have env:Env (fun _=>True) Tryz.prog tyB (tab [(cl,fnE (pTk cs p))]):=qL ⟨eTkp h0,trivial⟩
  obtain ⟨c1,c2,c4⟩:=hc
  refine Fn.of (A:=fun _=>True) (n0:=1) (D:=noD) (Fn0 Tryz.func123 rfl (fun vs w=>by kernel_rfl) (by kernel_rfl)) (by simp) (by simp [AV.ids,AV.idsL,ql]) ?_ (fun _ _ _ _=>trivial) qF ?_
  · intro i o hi
    have h:=qQ hi
    simp at h;obtain ⟨rfl,rfl⟩:=h;simp [AObj.ids,c1]
  repeat' (first|(apply nx;with_reducible constructor)|refine jq (by decide) ?_|((first|refine kz env fun Q hQ=>?_|refine kj fun Q hQ=>?_);simp only [vkt,seval,jQ,QH,aTk,cTk,ql,eTk,gTk,mTk,pTk];(try simp only [ite_and]);(repeat' (first|with_reducible assumption|refine And.intro ?_ ?_|intro hp));all_goals (first|(refine hQ _ ?_;clear hQ Q)|(refine hQ _ (fun h=>?_) (fun h=>?_) <;> clear hQ Q <;> (try simp only [vki,reduceCtorEq] at h))|(refine kx ?_;kernel_rfl)|omega|assumption|with_reducible rfl|skip)))
  refine qO (fun k:{ k:Nat // k≤l.length∧∀ j,j < k→p (l.getD j default)=false }=>ixS l cl cs k.1) (fun k=>l.length - k.1) ⟨0,Nat.zero_le _,fun j h=>absurd h (Nat.not_lt_zero _)⟩ ?_ fun ⟨k,hk,hno⟩=>?_
  · (refine Le.ok some [] ?_;constructor;all_goals (try simp only [vle,vkt,seval,jQ,QH,aTk,cTk,ql,eTk,gTk,mTk,pTk]))
    all_goals first|rfl|(simp [c1,c2];done)
  · repeat' (first|(apply nx;with_reducible constructor)|refine jq (by decide) ?_)
    (refine kz env fun Q hQ=>?_;simp only [vkt,seval,jQ,QH,aTk,cTk,ql,eTk,gTk,mTk,pTk];(try simp only [ite_and]);(repeat' (first|with_reducible assumption|refine And.intro ?_ ?_|intro hp));all_goals (first|(refine hQ _ ?_;clear hQ Q)|(refine kx ?_;kernel_rfl)|omega|assumption|with_reducible rfl|skip))
    repeat' (first|(apply nx;with_reducible constructor)|refine jq (by decide) ?_)
    (refine yO (by simp only [vkt,seval,jQ,QH,aTk,cTk,ql,eTk,gTk,mTk,pTk];rfl) (fun h=>?_) (fun h=>?_) <;> (try simp only [vki,reduceCtorEq] at h))
    · have hlt:k < l.length:=by omega
      have e9:IntKind.wrap .i64 ((k:Int)+1)=((k+1:Nat):Int):=by rw [wrap64 (by omega) (by omega)];rfl
      obtain ⟨x,hx⟩:∃ x,l.getD k default=x:=⟨_,rfl⟩
      have ex:(⟨x.party,x.sex,x.cab,x.bed,x.frm,x.to,x.dog⟩:Tk)=x:=rfl
      cases hp:p x
      · repeat' (first|(apply nx;with_reducible constructor)|refine jq (by decide) ?_|((first|refine kz env fun Q hQ=>?_|refine kj fun Q hQ=>?_);simp only [vkt,seval,jQ,QH,aTk,cTk,ql,eTk,gTk,mTk,pTk,hx,ex,hp,e9,c1,c2,c4];(try simp only [ite_and]);(repeat' (first|with_reducible assumption|refine And.intro ?_ ?_|intro hp));all_goals (first|(refine hQ _ ?_;clear hQ Q)|(refine hQ _ (fun h=>?_) (fun h=>?_) <;> clear hQ Q <;> (try simp only [vki,reduceCtorEq] at h))|(refine kx ?_;kernel_rfl)|omega|assumption|with_reducible rfl|skip)))
        refine ⟨⟨k+1,hlt,fun j hj=>?_⟩,by show l.length - (k+1) < l.length - k;omega, ?_⟩
        · rcases Nat.lt_or_eq_of_le (Nat.le_of_lt_succ hj) with h1|h1
          · exact hno j h1
          · rw [h1,hx];exact hp
        · (refine Le.ok some [] ?_;constructor;all_goals (try simp only [vle,vkt,seval,jQ,QH,aTk,cTk,ql,eTk,gTk,mTk,pTk]))
          all_goals first|rfl|(simp [c1,c2];done)
      · have hh:=Qgd hlt hno (by rw [hx];exact hp)
        rw [hh]
        repeat' (first|(apply nx;with_reducible constructor)|refine jq (by decide) ?_|((first|refine kz env fun Q hQ=>?_|refine kj fun Q hQ=>?_);simp only [vkt,seval,jQ,QH,aTk,cTk,ql,eTk,gTk,mTk,pTk,hx,ex,hp,e9,c1,c2,c4];(try simp only [ite_and]);(repeat' (first|with_reducible assumption|refine And.intro ?_ ?_|intro hp));all_goals (first|(refine hQ _ ?_;clear hQ Q)|(refine hQ _ (fun h=>?_) (fun h=>?_) <;> clear hQ Q <;> (try simp only [vki,reduceCtorEq] at h))|(refine kx ?_;kernel_rfl)|omega|assumption|with_reducible rfl|skip)))
        (simp only [vrt,Tryz.results123,c1,c2,vkt,seval,jQ,QH,aTk,cTk,ql,eTk,gTk,mTk,pTk];refine Fin.ok some [] ?_ ?_ ?_ ?_ ?_ rfl;all_goals (try simp only [vle,vkt,seval,jQ,QH,aTk,cTk,ql,eTk,gTk,mTk,pTk]))
        all_goals first|rfl|(simp [c1,c2];done)
    · have hke:k=l.length:=by omega
      subst hke
      rw [QdR hno]
      repeat' (first|(apply nx;with_reducible constructor)|refine jq (by decide) ?_|((first|refine kz env fun Q hQ=>?_|refine kj fun Q hQ=>?_);simp only [vkt,seval,jQ,QH,aTk,cTk,ql,eTk,gTk,mTk,pTk,c1,c2];(try simp only [ite_and]);(repeat' (first|with_reducible assumption|refine And.intro ?_ ?_|intro hp));all_goals (first|(refine hQ _ ?_;clear hQ Q)|(refine hQ _ (fun h=>?_) (fun h=>?_) <;> clear hQ Q <;> (try simp only [vki,reduceCtorEq] at h))|(refine kx ?_;kernel_rfl)|omega|assumption|with_reducible rfl|skip)))
      (simp only [vrt,Tryz.results123,c1,c2,vkt,seval,jQ,QH,aTk,cTk,ql,eTk,gTk,mTk,pTk];refine Fin.ok some [] ?_ ?_ ?_ ?_ ?_ rfl;all_goals (try simp only [vle,vkt,seval,jQ,QH,aTk,cTk,ql,eTk,gTk,mTk,pTk]))
      all_goals first|rfl|(simp [c1,c2];done)
def QdU (cl:Nat) (cs:List AV) (p:Tk→Bool) (S:St):List AV→Option Pk
  |[.sl xs,.clo f [.ptr t 0]]=>match S.h t with
    |some (.cells cs')=>some { pre:=f=cl∧cs'=cs∧xs=(xs.map dTk).map eTk∧xs.length≤100,hs:=[t],ar:=[.sl xs,.clo cl [.ptr 0 0]],L0:=[.cells cs],v:=aI (Ll p (xs.map dTk)),L1:=[some (.cells cs)] }
    |_=>none
  |_=>none
theorem eIdx {A:Frm→Prop} {cl:Nat} {cs:List AV} {p:Tk→Bool} (hc:PCs cs) (h0:J4 cl cs p):qE A Tryz.prog 123 (fnE (QdU cl cs p)):=wh fun S bs q h hp=>by
  unfold QdU at h
  split at h
  · split at h
    · cases h
      obtain ⟨_,_,h1,h2⟩:=hp
      have:=Qf5 hc h0 (List.map dTk _) (by rw [List.length_map];exact h2)
      rw [ql,← h1] at this
      exact this
    · cases h
  · cases h
def Vd:=kk @ty3 @ti3.eq_1
def Qce:=kk @aI.eq_1 (@aB.eq_1)
theorem Us {cl:Nat} {cs:List AV} {p:Tk→Bool} (hc:PCs cs) (h0:J4 cl cs p) (l:List Tk) (hl:l.length≤100):Fn noB Tryz.prog 124 [ql l,.clo cl [.ptr 0 0]] (qj [(0,.cells cs)]) (aB (l.any p)) (qj [(0,.cells cs)]) 0:=by
  have env:Env (fun _=>True) Tryz.prog tyB (tab [(123,fnE (QdU cl cs p))]):=qL ⟨eIdx hc h0,trivial⟩
  obtain ⟨c1,c2,c4⟩:=hc
  refine Fn.of (A:=fun _=>True) (n0:=1) (D:=noD) (Fn0 Tryz.func124 rfl (fun vs w=>by kernel_rfl) (by kernel_rfl)) (by simp) (by simp [AV.ids,AV.idsL,ql]) ?_ (fun _ _ _ _=>trivial) qF ?_
  · intro i o hi
    have h:=qQ hi
    simp at h;obtain ⟨rfl,rfl⟩:=h;simp [AObj.ids,c1]
  repeat' (first|(apply nx;with_reducible constructor)|refine jq (by decide) ?_|((first|refine kz env fun Q hQ=>?_|refine kj fun Q hQ=>?_);simp only [vkt,seval,Vd,Qce,ql,eTk,mTk,QdU,List.length_map,c1,c2,c4];(try simp only [ite_and]);(repeat' (first|with_reducible assumption|refine And.intro ?_ ?_|intro hp));all_goals (first|(refine hQ _ ?_;clear hQ Q)|(refine hQ _ (fun h=>?_) (fun h=>?_) <;> clear hQ Q <;> (try simp only [vki,reduceCtorEq] at h))|(refine kx ?_;kernel_rfl)|omega|assumption|with_reducible rfl|skip)))
  (simp only [vrt,Tryz.results124,QgV,c1,c2,vkt,seval,Vd,Qce,ql,eTk,mTk,QdU,List.length_map];refine Fin.ok some [] ?_ ?_ ?_ ?_ ?_ rfl;all_goals (try simp only [vle,vkt,seval,Vd,Qce,ql,eTk,mTk,QdU,List.length_map]))
  all_goals first|rfl|(simp [c1,c2];done)
def Vh:=kk @xf (kk @yK (kk @vB.eq_1 @yn.eq_1))
def YN:=kk @aI.eq_1 (@aB.eq_1)
theorem Qip (t:Tk):J4 136 (cTk t) (vV t):=fun x=>by
  have env:Env (fun _=>True) Tryz.prog tyB (tab [(137,qU true Zq)]):=qL ⟨Qi7,trivial⟩
  refine Fn.of (A:=fun _=>True) (n0:=1) (D:=noD) (Fn0 Tryz.func136 rfl (fun vs w=>by kernel_rfl) (by kernel_rfl)) (by simp) (by simp [AV.ids,AV.idsL,aTk,cTk]) ?_ (fun _ _ _ _=>trivial) qF ?_
  · intro i o hi
    have h:=qQ hi
    simp at h;obtain ⟨rfl,rfl⟩:=h;simp [cTk,AObj.ids,AV.ids,AV.idsL]
  have em:xz ⟨x.party,x.sex,x.cab,x.bed,x.frm,x.to,x.dog⟩ ⟨t.party,t.sex,t.cab,t.bed,t.frm,t.to,t.dog⟩=xz x t:=rfl
  repeat' (first|(apply nx;with_reducible constructor)|refine jq (by decide) ?_|((first|refine kz env fun Q hQ=>?_|refine kj fun Q hQ=>?_);simp only [vkt,seval,Vh,YN,aTk,cTk,Zq,Ut,em];(try simp only [ite_and]);(repeat' (first|with_reducible assumption|refine And.intro ?_ ?_|intro hp));all_goals (first|(refine hQ _ ?_;clear hQ Q)|(refine hQ _ (fun h=>?_) (fun h=>?_) <;> clear hQ Q <;> (try simp only [vki,reduceCtorEq] at h))|(refine kx ?_;kernel_rfl)|omega|assumption|with_reducible rfl|skip)))
  all_goals (simp only [vrt,Tryz.results136,vkt,seval,Vh,YN,aTk,cTk,Zq,Ut];refine Fin.ok some [] ?_ ?_ ?_ ?_ ?_ rfl;all_goals (try simp only [vle,vkt,seval,Vh,YN,aTk,cTk,Zq,Ut]))
  all_goals first|rfl|(simp [vV, *];done)|(simp_all [vV];done)
def Vm:=kk @yK @yn.eq_1
theorem Qh5 (t:Tk):J4 138 (cTk t) (fun x=>!QB x t):=fun x=>by
  have env:Env (fun _=>True) Tryz.prog tyB (tab [(139,qU true Ut)]):=qL ⟨etog,trivial⟩
  refine Fn.of (A:=fun _=>True) (n0:=1) (D:=noD) (Fn0 Tryz.func138 rfl (fun vs w=>by kernel_rfl) (by kernel_rfl)) (by simp) (by simp [AV.ids,AV.idsL,aTk,cTk]) ?_ (fun _ _ _ _=>trivial) qF ?_
  · intro i o hi
    have h:=qQ hi
    simp at h;obtain ⟨rfl,rfl⟩:=h;simp [cTk,AObj.ids,AV.ids,AV.idsL]
  have em:QB ⟨x.party,x.sex,x.cab,x.bed,x.frm,x.to,x.dog⟩ ⟨t.party,t.sex,t.cab,t.bed,t.frm,t.to,t.dog⟩=QB x t:=rfl
  repeat' (first|(apply nx;with_reducible constructor)|refine jq (by decide) ?_|((first|refine kz env fun Q hQ=>?_|refine kj fun Q hQ=>?_);simp only [vkt,seval,Vm,YN,aTk,cTk,Zq,Ut,em];(try simp only [ite_and]);(repeat' (first|with_reducible assumption|refine And.intro ?_ ?_|intro hp));all_goals (first|(refine hQ _ ?_;clear hQ Q)|(refine hQ _ (fun h=>?_) (fun h=>?_) <;> clear hQ Q <;> (try simp only [vki,reduceCtorEq] at h))|(refine kx ?_;kernel_rfl)|omega|assumption|with_reducible rfl|skip)))
  all_goals (simp only [vrt,Tryz.results138,vkt,seval,Vm,YN,aTk,cTk,Zq,Ut];refine Fin.ok some [] ?_ ?_ ?_ ?_ ?_ rfl;all_goals (try simp only [vle,vkt,seval,Vm,YN,aTk,cTk,Zq,Ut]))
  all_goals first|rfl|(simp;done)
def Yk (S:St):List AV→Option Pk
  |[.sl xs,.clo 136 [.ptr t 0]]=>match S.h t with
    |some (.cells [.v (.int .i64 a),.v (.int .i64 b),.v (.int .i64 c),.v (.int .i64 d),.v (.int .i64 e),.v (.int .i64 f),.v (.bool g)])=>some { pre:=xs=(xs.map dTk).map eTk∧xs.length≤100,hs:=[t],ar:=[.sl xs,.clo 136 [.ptr 0 0]],L0:=[.cells (cTk ⟨a,b,c,d,e,f,g⟩)],v:=aB ((xs.map dTk).any (vV ⟨a,b,c,d,e,f,g⟩)),L1:=[some (.cells (cTk ⟨a,b,c,d,e,f,g⟩))] }
    |_=>none
  |[.sl xs,.clo 138 [.ptr t 0]]=>match S.h t with
    |some (.cells [.v (.int .i64 a),.v (.int .i64 b),.v (.int .i64 c),.v (.int .i64 d),.v (.int .i64 e),.v (.int .i64 f),.v (.bool g)])=>some { pre:=xs=(xs.map dTk).map eTk∧xs.length≤100,hs:=[t],ar:=[.sl xs,.clo 138 [.ptr 0 0]],L0:=[.cells (cTk ⟨a,b,c,d,e,f,g⟩)],v:=aB ((xs.map dTk).any fun x=>!QB x ⟨a,b,c,d,e,f,g⟩),L1:=[some (.cells (cTk ⟨a,b,c,d,e,f,g⟩))] }
    |_=>none
  |_=>none
theorem eCont {A:Frm→Prop}:qE A Tryz.prog 124 (fnE Yk):=wh fun S bs q h hp=>by
  unfold Yk at h
  split at h
  · split at h
    · rename_i xs t _ a b c d e f g _
      cases h
      obtain ⟨h1,h2⟩:=hp
      have:=Us (Qg0 ⟨a,b,c,d,e,f,g⟩) (Qip ⟨a,b,c,d,e,f,g⟩) (xs.map dTk) (by rw [List.length_map];exact h2)
      rw [ql,← h1] at this
      exact this
    · cases h
  · split at h
    · rename_i xs t _ a b c d e f g _
      cases h
      obtain ⟨h1,h2⟩:=hp
      have:=Us (Qg0 ⟨a,b,c,d,e,f,g⟩) (Qh5 ⟨a,b,c,d,e,f,g⟩) (xs.map dTk) (by rw [List.length_map];exact h2)
      rw [ql,← h1] at this
      exact this
    · cases h
  · cases h
def Y2:=kk @aI.eq_1 (@aB.eq_1)
theorem Qdp (t:Tk) (l:List Tk) (hl:l.length≤100):FnV Tryz.prog 118 [aTk t,ql l] (aI (zX t l)):=by
  have env:Env (fun _=>True) Tryz.prog tyB (tab [(124,fnE Yk)]):=qL ⟨eCont,trivial⟩
  refine Fn.of (A:=fun _=>True) (n0:=0) (D:=noD) (Fn0 Tryz.func118 rfl (fun vs w=>by kernel_rfl) (by kernel_rfl)) (by simp) (by simp [AV.ids,AV.idsL,aTk,cTk,ql]) (fun i o h=>by cases h) (fun _ _ _ _=>trivial) qF ?_
  have et:(⟨t.party,t.sex,t.cab,t.bed,t.frm,t.to,t.dog⟩:Tk)=t:=rfl
  cases h1:l.any (vV t)
  · cases h2:l.any (fun x=>!QB x t)
    · rw [show zX t l=0 by simp [zX,h1,h2]]
      repeat' (first|(apply nx;with_reducible constructor)|refine jq (by decide) ?_|((first|refine kz env fun Q hQ=>?_|refine kj fun Q hQ=>?_);simp only [vkt,seval,Y2,aTk,cTk,ql,eTk,mTk,Yk,List.length_map,et,h1,h2];(try simp only [ite_and]);(repeat' (first|with_reducible assumption|refine And.intro ?_ ?_|intro hp));all_goals (first|(refine hQ _ ?_;clear hQ Q)|(refine hQ _ (fun h=>?_) (fun h=>?_) <;> clear hQ Q <;> (try simp only [vki,reduceCtorEq] at h))|(refine kx ?_;kernel_rfl)|omega|assumption|with_reducible rfl|skip)))
      (simp only [vrt,Tryz.results118,vkt,seval,Y2,aTk,cTk,ql,eTk,mTk,Yk,List.length_map];refine Fin.val rfl ?_;(try simp only [AV.le,AV.leL]))
      all_goals first|rfl|(simp;done)
    · rw [show zX t l=9 by simp [zX,h1,h2]]
      repeat' (first|(apply nx;with_reducible constructor)|refine jq (by decide) ?_|((first|refine kz env fun Q hQ=>?_|refine kj fun Q hQ=>?_);simp only [vkt,seval,Y2,aTk,cTk,ql,eTk,mTk,Yk,List.length_map,et,h1,h2];(try simp only [ite_and]);(repeat' (first|with_reducible assumption|refine And.intro ?_ ?_|intro hp));all_goals (first|(refine hQ _ ?_;clear hQ Q)|(refine hQ _ (fun h=>?_) (fun h=>?_) <;> clear hQ Q <;> (try simp only [vki,reduceCtorEq] at h))|(refine kx ?_;kernel_rfl)|omega|assumption|with_reducible rfl|skip)))
      (simp only [vrt,Tryz.results118,vkt,seval,Y2,aTk,cTk,ql,eTk,mTk,Yk,List.length_map];refine Fin.val rfl ?_;(try simp only [AV.le,AV.leL]))
      all_goals first|rfl|(simp;done)
  · rw [show zX t l=4 by simp [zX,h1]]
    repeat' (first|(apply nx;with_reducible constructor)|refine jq (by decide) ?_|((first|refine kz env fun Q hQ=>?_|refine kj fun Q hQ=>?_);simp only [vkt,seval,Y2,aTk,cTk,ql,eTk,mTk,Yk,List.length_map,et,h1];(try simp only [ite_and]);(repeat' (first|with_reducible assumption|refine And.intro ?_ ?_|intro hp));all_goals (first|(refine hQ _ ?_;clear hQ Q)|(refine hQ _ (fun h=>?_) (fun h=>?_) <;> clear hQ Q <;> (try simp only [vki,reduceCtorEq] at h))|(refine kx ?_;kernel_rfl)|omega|assumption|with_reducible rfl|skip)))
    (simp only [vrt,Tryz.results118,vkt,seval,Y2,aTk,cTk,ql,eTk,mTk,Yk,List.length_map];refine Fin.val rfl ?_;(try simp only [AV.le,AV.leL]))
    all_goals first|rfl|(simp;done)
def jT:List AV→Prop × AV
  |[.agg [.v (.int .i64 t0),.v (.int .i64 t1),.v (.int .i64 t2),.v (.int .i64 t3),.v (.int .i64 t4),.v (.int .i64 t5),.v (.bool t6)],.sl l]=>(l=(l.map dTk).map eTk∧(l.map dTk).length≤100,aI (zX (⟨t0,t1,t2,t3,t4,t5,t6⟩:Tk) (l.map dTk)))
  |_=>(False,.junk)
theorem QcC {A:Frm→Prop}:qE A Tryz.prog 118 (qU true jT):=qW fun vs hv h=>by
  clear hv
  unfold jT at h ⊢
  split at h
  · rename_i t0 t1 t2 t3 t4 t5 t6 l;obtain ⟨q0,k0⟩:=h
    refine ⟨by first|trivial|(simp [AV.plain,AV.plainL,aI,aB,qB,qc,ql,qf,aTk,cTk];done)|(repeat' split) <;> simp [AV.plain,AV.plainL,aI,aB,qB,qc,ql,qf,aTk,cTk],fun _=>(by simp [AV.flat,AV.flatL,aI,aB]), ?_⟩
    have:=Qdp (⟨t0,t1,t2,t3,t4,t5,t6⟩:Tk) (l.map dTk) k0
    simp only [aB,aI,aTk,ql,cTk,← q0] at this
    first|exact this|(simp only [aB,aI,aTk,ql,cTk,← q0];exact this)
  · exact h.elim
end Go.Sym.B
namespace Go.Sym.B
open Go Go.Sym Go.Proofs Go.Sym.C
theorem mapD {α:Type} [Inhabited α] {f:α→Int} {l:List α} {j:Nat} (h:j < l.length):(l.map f).getD j 0=f (l.getD j default):=by simp [List.getD_eq_getElem?_getD,h]
theorem Qdz {f:Nat→Int} {n j:Nat} (h:j < n):((List.range n).map f).getD j 0=f j:=by simp [List.getD_eq_getElem?_getD,h]
def crS (c:Chart) (k:Nat):St:={ t:=asg [(1,.ptr 0 0),(2,aI 0),(14,.sl (c.cabins.map qg)),(15,aI c.cabins.length),(16,aI k)],h:=qj [(0,.cells (qb c))],n:=1 }
def yB:=kk @ty3 (kk @WM (kk @x8 (kk @jO (kk @Zi (kk @yK (kk @WL (kk @ti3.eq_1 (kk @ZG.eq_1 (kk @xw.eq_1 (kk @jo.eq_1 (kk @Qt.eq_1 (kk @yn.eq_1 @ZC.eq_1))))))))))))
def kT:=kk @aI.eq_1 (@aB.eq_1)
theorem Qjj (c:Chart) (hc:c.cabins.length≤maxLen):FnV Tryz.prog 113 [qa c] (aI (Wi c)):=by
  have env:Env (fun _=>True) Tryz.prog tyB (tab [(77,qU true sin),(91,qU true zl)]):=qL ⟨ein,L9,trivial⟩
  refine Fn.of (A:=fun _=>True) (n0:=0) (D:=noD) (Fn0 Tryz.func113 rfl (fun vs w=>by kernel_rfl) (by kernel_rfl)) (by simp) (by simp [AV.ids,AV.idsL,qa,qb]) (fun i o h=>by cases h) (fun _ _ _ _=>trivial) qF ?_
  by_cases h1:zG c.cabins.length 1 3=0
  · have hl:c.cabins.length≤3:=by
      unfold zG at h1
      split at h1
      · exact absurd h1 (by decide)
      · split at h1
        · exact absurd h1 (by decide)
        · omega
    repeat' (first|(apply nx;with_reducible constructor)|refine jq (by decide) ?_|((first|refine kz env fun Q hQ=>?_|refine kj fun Q hQ=>?_);simp only [vkt,seval,yB,kT,qa,qb,qg,qz,crS,sin,zl,h1];(try simp only [ite_and]);(repeat' (first|with_reducible assumption|refine And.intro ?_ ?_|intro hp));all_goals (first|(refine hQ _ ?_;clear hQ Q)|(refine hQ _ (fun h=>?_) (fun h=>?_) <;> clear hQ Q <;> (try simp only [vki,reduceCtorEq] at h))|(refine kx ?_;kernel_rfl)|omega|assumption|with_reducible rfl|skip)))
    refine qO (fun k:{ k:Nat // k≤c.cabins.length∧∀ j,j < k→(c.cabins.map kY).getD j 0=0 }=>crS c k.1) (fun k=>c.cabins.length - k.1) ⟨0,Nat.zero_le _,fun j h=>absurd h (Nat.not_lt_zero _)⟩ ?_ fun ⟨k,hk,hno⟩=>?_
    · (refine Le.ok some [] ?_;constructor;all_goals (try simp only [vle,vkt,seval,yB,kT,qa,qb,qg,qz,crS,sin,zl]))
      all_goals first|rfl|(simp;done)
    · repeat' (first|(apply nx;with_reducible constructor)|refine jq (by decide) ?_)
      (refine kz env fun Q hQ=>?_;simp only [vkt,seval,yB,kT,qa,qb,qg,qz,crS,sin,zl];(try simp only [ite_and]);(repeat' (first|with_reducible assumption|refine And.intro ?_ ?_|intro hp));all_goals (first|(refine hQ _ ?_;clear hQ Q)|(refine kx ?_;kernel_rfl)|omega|assumption|with_reducible rfl|skip))
      repeat' (first|(apply nx;with_reducible constructor)|refine jq (by decide) ?_)
      (refine yO (by simp only [vkt,seval,yB,kT,qa,qb,qg,qz,crS,sin,zl];rfl) (fun h=>?_) (fun h=>?_) <;> (try simp only [vki,reduceCtorEq] at h))
      · have hlt:k < c.cabins.length:=by omega
        have e9:IntKind.wrap .i64 ((k:Int)+1)=((k+1:Nat):Int):=by rw [wrap64 (by omega) (by omega)];rfl
        obtain ⟨x,hx⟩:∃ x,c.cabins.getD k default=x:=⟨_,rfl⟩
        have hm:(c.cabins.map kY).getD k 0=kY x:=by rw [mapD hlt,hx]
        cases hb:inB x.beds 1 3
        · have hE:kY x=1:=by simp [kY,hb]
          have hf:=kw hno (by simpa using hlt) (by rw [hm,hE];decide)
          rw [hm,hE] at hf
          rw [show Wi c=1 by unfold Wi;rw [if_neg (by rw [h1];simp),hf];simp]
          repeat' (first|(apply nx;with_reducible constructor)|refine jq (by decide) ?_|((first|refine kz env fun Q hQ=>?_|refine kj fun Q hQ=>?_);simp only [vkt,seval,yB,kT,qa,qb,qg,qz,crS,sin,zl,hx,hb,e9];(try simp only [ite_and]);(repeat' (first|with_reducible assumption|refine And.intro ?_ ?_|intro hp));all_goals (first|(refine hQ _ ?_;clear hQ Q)|(refine hQ _ (fun h=>?_) (fun h=>?_) <;> clear hQ Q <;> (try simp only [vki,reduceCtorEq] at h))|(refine kx ?_;kernel_rfl)|omega|assumption|with_reducible rfl|skip)))
          (simp only [vrt,Tryz.results113,vkt,seval,yB,kT,qa,qb,qg,qz,crS,sin,zl];refine Fin.val rfl ?_;(try simp only [AV.le,AV.leL]))
          all_goals first|rfl|(simp;done)
        · have hE:kY x=0:=by simp [kY,hb]
          repeat' (first|(apply nx;with_reducible constructor)|refine jq (by decide) ?_|((first|refine kz env fun Q hQ=>?_|refine kj fun Q hQ=>?_);simp only [vkt,seval,yB,kT,qa,qb,qg,qz,crS,sin,zl,hx,hb,e9];(try simp only [ite_and]);(repeat' (first|with_reducible assumption|refine And.intro ?_ ?_|intro hp));all_goals (first|(refine hQ _ ?_;clear hQ Q)|(refine hQ _ (fun h=>?_) (fun h=>?_) <;> clear hQ Q <;> (try simp only [vki,reduceCtorEq] at h))|(refine kx ?_;kernel_rfl)|omega|assumption|with_reducible rfl|skip)))
          refine ⟨⟨k+1,hlt,fun j hj=>?_⟩,by show c.cabins.length - (k+1) < c.cabins.length - k;omega, ?_⟩
          · rcases Nat.lt_or_eq_of_le (Nat.le_of_lt_succ hj) with h2|h2
            · exact hno j h2
            · rw [h2,hm,hE]
          · (refine Le.ok some [] ?_;constructor;all_goals (try simp only [vle,vkt,seval,yB,kT,qa,qb,qg,qz,crS,sin,zl]))
            all_goals first|rfl|(simp;done)
      · have hke:k=c.cabins.length:=by omega
        subst hke
        have hf:yo (c.cabins.map kY)=0:=yD (by simpa using hno)
        cases hs:inB c.secs 1 5
        · rw [show Wi c=1 by unfold Wi;rw [if_neg (by rw [h1];simp),if_neg (by rw [hf];simp),hs];rfl]
          repeat' (first|(apply nx;with_reducible constructor)|refine jq (by decide) ?_|((first|refine kz env fun Q hQ=>?_|refine kj fun Q hQ=>?_);simp only [vkt,seval,yB,kT,qa,qb,qg,qz,crS,sin,zl,hs];(try simp only [ite_and]);(repeat' (first|with_reducible assumption|refine And.intro ?_ ?_|intro hp));all_goals (first|(refine hQ _ ?_;clear hQ Q)|(refine hQ _ (fun h=>?_) (fun h=>?_) <;> clear hQ Q <;> (try simp only [vki,reduceCtorEq] at h))|(refine kx ?_;kernel_rfl)|omega|assumption|with_reducible rfl|skip)))
          (simp only [vrt,Tryz.results113,vkt,seval,yB,kT,qa,qb,qg,qz,crS,sin,zl];refine Fin.val rfl ?_;(try simp only [AV.le,AV.leL]))
          all_goals first|rfl|(simp;done)
        · rw [show Wi c=zG c.sold.length 0 8 by unfold Wi;rw [if_neg (by rw [h1];simp),if_neg (by rw [hf];simp),hs];rfl]
          repeat' (first|(apply nx;with_reducible constructor)|refine jq (by decide) ?_|((first|refine kz env fun Q hQ=>?_|refine kj fun Q hQ=>?_);simp only [vkt,seval,yB,kT,qa,qb,qg,qz,crS,sin,zl,hs];(try simp only [ite_and]);(repeat' (first|with_reducible assumption|refine And.intro ?_ ?_|intro hp));all_goals (first|(refine hQ _ ?_;clear hQ Q)|(refine hQ _ (fun h=>?_) (fun h=>?_) <;> clear hQ Q <;> (try simp only [vki,reduceCtorEq] at h))|(refine kx ?_;kernel_rfl)|omega|assumption|with_reducible rfl|skip)))
          (simp only [vrt,Tryz.results113,vkt,seval,yB,kT,qa,qb,qg,qz,crS,sin,zl];refine Fin.val rfl ?_;(try simp only [AV.le,AV.leL]))
          all_goals first|rfl|(simp;done)
  · rw [show Wi c=zG c.cabins.length 1 3 by unfold Wi;rw [if_pos h1]]
    repeat' (first|(apply nx;with_reducible constructor)|refine jq (by decide) ?_|((first|refine kz env fun Q hQ=>?_|refine kj fun Q hQ=>?_);simp only [vkt,seval,yB,kT,qa,qb,qg,qz,crS,sin,zl,h1];(try simp only [ite_and]);(repeat' (first|with_reducible assumption|refine And.intro ?_ ?_|intro hp));all_goals (first|(refine hQ _ ?_;clear hQ Q)|(refine hQ _ (fun h=>?_) (fun h=>?_) <;> clear hQ Q <;> (try simp only [vki,reduceCtorEq] at h))|(refine kx ?_;kernel_rfl)|omega|assumption|with_reducible rfl|skip)))
    (simp only [vrt,Tryz.results113,vkt,seval,yB,kT,qa,qb,qg,qz,crS,sin,zl];refine Fin.val rfl ?_;(try simp only [AV.le,AV.leL]))
    all_goals first|rfl|(simp;done)
def J5:List AV→Prop × AV
  |[.agg [.sl c0,.v (.int .i64 c1),.sl c2]]=>(c0=(c0.map qp).map qg∧c2=(c2.map dTk).map eTk∧c0.length≤maxLen,aI (Wi (⟨(c0.map qp),c1,(c2.map dTk)⟩:Chart)))
  |_=>(False,.junk)
theorem ecar {A:Frm→Prop}:qE A Tryz.prog 113 (qU true J5):=qW fun vs hv h=>by
  clear hv
  unfold J5 at h ⊢
  split at h
  · rename_i c0 c1 c2;obtain ⟨q0,q1,k0⟩:=h
    refine ⟨by first|trivial|(simp [AV.plain,AV.plainL,aI,aB,qB,qc,ql,qf,aTk,cTk];done)|(repeat' split) <;> simp [AV.plain,AV.plainL,aI,aB,qB,qc,ql,qf,aTk,cTk],fun _=>(by simp [AV.flat,AV.flatL,aI,aB]), ?_⟩
    have:=Qjj (⟨(c0.map qp),c1,(c2.map dTk)⟩:Chart) (by simpa using k0)
    simp only [qR,qa,aI,ql,qb,← q0,← q1] at this
    first|exact this|(simp only [qR,qa,aI,ql,qb,← q0,← q1];exact this)
  · exact h.elim
def ja:=kk @ty3 (kk @WM (kk @jO (kk @Zi (kk @xf (kk @yK (kk @WL (kk @ti3.eq_1 (kk @ZG.eq_1 (kk @jo.eq_1 (kk @Qt.eq_1 (kk @vB.eq_1 (kk @yn.eq_1 @ZC.eq_1))))))))))))
def QE:=kk @aI.eq_1 (@aB.eq_1)
theorem QeL (c:Chart) (t:Tk) (l:List Tk) (hc:CarOk c) (hl:l.length≤100):FnV Tryz.prog 114 [qa c,aTk t,ql l] (aI (zD c t l)):=by
  have env:Env (fun _=>True) Tryz.prog tyB (tab [(77,qU true sin),(78,qU true xu),(118,qU true jT)]):=qL ⟨ein,eway,QcC,trivial⟩
  refine Fn.of (A:=fun _=>True) (n0:=0) (D:=noD) (Fn0 Tryz.func114 rfl (fun vs w=>by kernel_rfl) (by kernel_rfl)) (by simp) (by simp [AV.ids,AV.idsL,qa,qb,aTk,cTk,ql]) (fun i o h=>by cases h) (fun _ _ _ _=>trivial) qF ?_
  have hcl:=hc.cabs
  have et:(⟨t.party,t.sex,t.cab,t.bed,t.frm,t.to,t.dog⟩:Tk)=t:=rfl
  have w1:IntKind.wrap .i64 ((c.cabins.length:Int) - 1)=(c.cabins.length:Int) - 1:=wrap64 (by omega) (by omega)
  have rest:inB t.party 1 99=true→inB t.sex 1 2=true→jF c.cabins t.cab t.bed=true→zD c t l=if QI c.secs t.frm t.to ≠ 0 then QI c.secs t.frm t.to else zX t l:=fun a1 a2 a3=>by
    unfold zD;simp [a1,a2,a3]
  cases h1:inB t.party 1 99
  · rw [show zD c t l=1 by simp [zD,h1]]
    repeat' (first|(apply nx;with_reducible constructor)|refine jq (by decide) ?_|((first|refine kz env fun Q hQ=>?_|refine kj fun Q hQ=>?_);simp only [vkt,seval,ja,QE,qa,qb,aTk,cTk,ql,qg,qz,qd,mTk,sin,xu,jT,List.length_map,h1,et];(try simp only [ite_and]);(repeat' (first|with_reducible assumption|refine And.intro ?_ ?_|intro hp));all_goals (first|(refine hQ _ ?_;clear hQ Q)|(refine hQ _ (fun h=>?_) (fun h=>?_) <;> clear hQ Q <;> (try simp only [vki,reduceCtorEq] at h))|(refine kx ?_;kernel_rfl)|omega|assumption|with_reducible rfl|skip)))
    (simp only [vrt,Tryz.results114,vkt,seval,ja,QE,qa,qb,aTk,cTk,ql,qg,qz,qd,mTk,sin,xu,jT,List.length_map];refine Fin.val rfl ?_;(try simp only [AV.le,AV.leL]))
    all_goals first|rfl|(simp;done)
  cases h2:inB t.sex 1 2
  · rw [show zD c t l=8 by simp [zD,h1,h2]]
    repeat' (first|(apply nx;with_reducible constructor)|refine jq (by decide) ?_|((first|refine kz env fun Q hQ=>?_|refine kj fun Q hQ=>?_);simp only [vkt,seval,ja,QE,qa,qb,aTk,cTk,ql,qg,qz,qd,mTk,sin,xu,jT,List.length_map,h1,h2,et];(try simp only [ite_and]);(repeat' (first|with_reducible assumption|refine And.intro ?_ ?_|intro hp));all_goals (first|(refine hQ _ ?_;clear hQ Q)|(refine hQ _ (fun h=>?_) (fun h=>?_) <;> clear hQ Q <;> (try simp only [vki,reduceCtorEq] at h))|(refine kx ?_;kernel_rfl)|omega|assumption|with_reducible rfl|skip)))
    (simp only [vrt,Tryz.results114,vkt,seval,ja,QE,qa,qb,aTk,cTk,ql,qg,qz,qd,mTk,sin,xu,jT,List.length_map];refine Fin.val rfl ?_;(try simp only [AV.le,AV.leL]))
    all_goals first|rfl|(simp;done)
  cases h3:inB t.cab 0 ((c.cabins.length:Int) - 1)
  · rw [show zD c t l=3 by simp [zD,h1,h2,jF,h3]]
    repeat' (first|(apply nx;with_reducible constructor)|refine jq (by decide) ?_|((first|refine kz env fun Q hQ=>?_|refine kj fun Q hQ=>?_);simp only [vkt,seval,ja,QE,qa,qb,aTk,cTk,ql,qg,qz,qd,mTk,sin,xu,jT,List.length_map,h1,h2,h3,w1,et];(try simp only [ite_and]);(repeat' (first|with_reducible assumption|refine And.intro ?_ ?_|intro hp));all_goals (first|(refine hQ _ ?_;clear hQ Q)|(refine hQ _ (fun h=>?_) (fun h=>?_) <;> clear hQ Q <;> (try simp only [vki,reduceCtorEq] at h))|(refine kx ?_;kernel_rfl)|omega|assumption|with_reducible rfl|skip)))
    (simp only [vrt,Tryz.results114,vkt,seval,ja,QE,qa,qb,aTk,cTk,ql,qg,qz,qd,mTk,sin,xu,jT,List.length_map];refine Fin.val rfl ?_;(try simp only [AV.le,AV.leL]))
    all_goals first|rfl|(simp;done)
  have b3:=jc.1 h3
  have g1:0≤t.cab:=b3.1
  have g2:t.cab.toNat < c.cabins.length:=by omega
  obtain ⟨x,hx⟩:∃ x,c.cabins.getD t.cab.toNat default=x:=⟨_,rfl⟩
  have hxb:=hc.beds _ (yL (d:=default) g2)
  rw [hx] at hxb
  have w2:IntKind.wrap .i64 (x.beds - 1)=x.beds - 1:=wrap64 (by omega) (by omega)
  cases h4:inB t.bed 0 (x.beds - 1)
  · rw [show zD c t l=3 by simp [-List.getD_eq_getElem?_getD,zD,h1,h2,jF,h3,hx,h4]]
    repeat' (first|(apply nx;with_reducible constructor)|refine jq (by decide) ?_|((first|refine kz env fun Q hQ=>?_|refine kj fun Q hQ=>?_);simp only [vkt,seval,ja,QE,qa,qb,aTk,cTk,ql,qg,qz,qd,mTk,sin,xu,jT,List.length_map,h1,h2,h3,h4,w1,w2,hx,g1,g2,et];(try simp only [ite_and]);(repeat' (first|with_reducible assumption|refine And.intro ?_ ?_|intro hp));all_goals (first|(refine hQ _ ?_;clear hQ Q)|(refine hQ _ (fun h=>?_) (fun h=>?_) <;> clear hQ Q <;> (try simp only [vki,reduceCtorEq] at h))|(refine kx ?_;kernel_rfl)|omega|assumption|with_reducible rfl|skip)))
    (simp only [vrt,Tryz.results114,vkt,seval,ja,QE,qa,qb,aTk,cTk,ql,qg,qz,qd,mTk,sin,xu,jT,List.length_map];refine Fin.val rfl ?_;(try simp only [AV.le,AV.leL]))
    all_goals first|rfl|(simp;done)
  have hr:=rest h1 h2 (by simp [-List.getD_eq_getElem?_getD,jF,h3,hx,h4])
  by_cases h5:QI c.secs t.frm t.to=0
  · rw [if_neg (by rw [h5];simp)] at hr
    rw [hr]
    repeat' (first|(apply nx;with_reducible constructor)|refine jq (by decide) ?_|((first|refine kz env fun Q hQ=>?_|refine kj fun Q hQ=>?_);simp only [vkt,seval,ja,QE,qa,qb,aTk,cTk,ql,qg,qz,qd,mTk,sin,xu,jT,List.length_map,h1,h2,h3,h4,h5,w1,w2,hx,g1,g2,et];(try simp only [ite_and]);(repeat' (first|with_reducible assumption|refine And.intro ?_ ?_|intro hp));all_goals (first|(refine hQ _ ?_;clear hQ Q)|(refine hQ _ (fun h=>?_) (fun h=>?_) <;> clear hQ Q <;> (try simp only [vki,reduceCtorEq] at h))|(refine kx ?_;kernel_rfl)|omega|assumption|with_reducible rfl|skip)))
    (simp only [vrt,Tryz.results114,vkt,seval,ja,QE,qa,qb,aTk,cTk,ql,qg,qz,qd,mTk,sin,xu,jT,List.length_map];refine Fin.val rfl ?_;(try simp only [AV.le,AV.leL]))
    all_goals first|rfl|(simp;done)
  · rw [if_pos h5] at hr
    rw [hr]
    repeat' (first|(apply nx;with_reducible constructor)|refine jq (by decide) ?_|((first|refine kz env fun Q hQ=>?_|refine kj fun Q hQ=>?_);simp only [vkt,seval,ja,QE,qa,qb,aTk,cTk,ql,qg,qz,qd,mTk,sin,xu,jT,List.length_map,h1,h2,h3,h4,h5,w1,w2,hx,g1,g2,et];(try simp only [ite_and]);(repeat' (first|with_reducible assumption|refine And.intro ?_ ?_|intro hp));all_goals (first|(refine hQ _ ?_;clear hQ Q)|(refine hQ _ (fun h=>?_) (fun h=>?_) <;> clear hQ Q <;> (try simp only [vki,reduceCtorEq] at h))|(refine kx ?_;kernel_rfl)|omega|assumption|with_reducible rfl|skip)))
    (simp only [vrt,Tryz.results114,vkt,seval,ja,QE,qa,qb,aTk,cTk,ql,qg,qz,qd,mTk,sin,xu,jT,List.length_map];refine Fin.val rfl ?_;(try simp only [AV.le,AV.leL]))
    all_goals first|rfl|(simp;done)
def y8:List AV→Prop × AV
  |[.agg [.sl c0,.v (.int .i64 c1),.sl c2],.agg [.v (.int .i64 t0),.v (.int .i64 t1),.v (.int .i64 t2),.v (.int .i64 t3),.v (.int .i64 t4),.v (.int .i64 t5),.v (.bool t6)],.sl l]=>(c0=(c0.map qp).map qg∧c2=(c2.map dTk).map eTk∧l=(l.map dTk).map eTk∧CarOk (⟨(c0.map qp),c1,(c2.map dTk)⟩:Chart)∧(l.map dTk).length≤100,aI (zD (⟨(c0.map qp),c1,(c2.map dTk)⟩:Chart) (⟨t0,t1,t2,t3,t4,t5,t6⟩:Tk) (l.map dTk)))
  |_=>(False,.junk)
theorem Qho {A:Frm→Prop}:qE A Tryz.prog 114 (qU true y8):=qW fun vs hv h=>by
  clear hv
  unfold y8 at h ⊢
  split at h
  · rename_i c0 c1 c2 t0 t1 t2 t3 t4 t5 t6 l;obtain ⟨q0,q1,q2,k0,k1⟩:=h
    refine ⟨by first|trivial|(simp [AV.plain,AV.plainL,aI,aB,qB,qc,ql,qf,aTk,cTk];done)|(repeat' split) <;> simp [AV.plain,AV.plainL,aI,aB,qB,qc,ql,qf,aTk,cTk],fun _=>(by simp [AV.flat,AV.flatL,aI,aB]), ?_⟩
    have:=QeL (⟨(c0.map qp),c1,(c2.map dTk)⟩:Chart) (⟨t0,t1,t2,t3,t4,t5,t6⟩:Tk) (l.map dTk) k0 k1
    simp only [aB,qR,qa,aI,aTk,ql,qb,cTk,← q0,← q1,← q2] at this
    first|exact this|(simp only [aB,qR,qa,aI,aTk,ql,qb,cTk,← q0,← q1,← q2];exact this)
  · exact h.elim
def ckS (c:Chart) (k:Nat):St:={ t:=asg [(1,.ptr 0 0),(2,aI 0),(13,ql c.sold),(14,aI c.sold.length),(15,aI k)],h:=qj [(0,.cells (qb c))],n:=1 }
def jP:=kk @ty3 (kk @x8 (kk @jO (kk @Zi (kk @yK (kk @ti3.eq_1 (kk @xw.eq_1 (kk @jo.eq_1 (kk @Qt.eq_1 @yn.eq_1))))))))
def QF:=kk @aI.eq_1 (@aB.eq_1)
theorem QfX (c:Chart) (hc:c.cabins.length≤maxLen):FnV Tryz.prog 76 [qa c] (aI (wH c)):=by
  have env:Env (fun _=>True) Tryz.prog tyB (tab [(113,qU true J5),(114,qU true y8)]):=qL ⟨ecar,Qho,trivial⟩
  refine Fn.of (A:=fun _=>True) (n0:=0) (D:=noD) (Fn0 Tryz.func76 rfl (fun vs w=>by kernel_rfl) (by kernel_rfl)) (by simp) (by simp [AV.ids,AV.idsL,qa,qb]) (fun i o h=>by cases h) (fun _ _ _ _=>trivial) qF ?_
  have ec:(⟨c.cabins,c.secs,c.sold⟩:Chart)=c:=rfl
  by_cases h1:Wi c=0
  · obtain ⟨hcar,hsl⟩:=QcI h1
    have hE:wH c=jC c c.sold:=by unfold wH;rw [if_neg (by rw [h1];simp)]
    rw [hE]
    repeat' (first|(apply nx;with_reducible constructor)|refine jq (by decide) ?_|((first|refine kz env fun Q hQ=>?_|refine kj fun Q hQ=>?_);simp only [vkt,seval,jP,QF,qa,qb,aTk,cTk,ql,eTk,gTk,rTk,qd,mTk,ckS,J5,y8,List.length_map,h1,ec];(try simp only [ite_and]);(repeat' (first|with_reducible assumption|refine And.intro ?_ ?_|intro hp));all_goals (first|(refine hQ _ ?_;clear hQ Q)|(refine hQ _ (fun h=>?_) (fun h=>?_) <;> clear hQ Q <;> (try simp only [vki,reduceCtorEq] at h))|(refine kx ?_;kernel_rfl)|omega|assumption|with_reducible rfl|skip)))
    refine qO (fun k:{ k:Nat // k≤c.sold.length∧∀ j,j < k→zD c (c.sold.getD j default) (c.sold.take j)=0 }=>ckS c k.1) (fun k=>c.sold.length - k.1) ⟨0,Nat.zero_le _,fun j h=>absurd h (Nat.not_lt_zero _)⟩ ?_ fun ⟨k,hk,hno⟩=>?_
    · (refine Le.ok some [] ?_;constructor;all_goals (try simp only [vle,vkt,seval,jP,QF,qa,qb,aTk,cTk,ql,eTk,gTk,rTk,qd,mTk,ckS,J5,y8,List.length_map]))
      all_goals first|rfl|(simp;done)
    · repeat' (first|(apply nx;with_reducible constructor)|refine jq (by decide) ?_)
      (refine kz env fun Q hQ=>?_;simp only [vkt,seval,jP,QF,qa,qb,aTk,cTk,ql,eTk,gTk,rTk,qd,mTk,ckS,J5,y8,List.length_map];(try simp only [ite_and]);(repeat' (first|with_reducible assumption|refine And.intro ?_ ?_|intro hp));all_goals (first|(refine hQ _ ?_;clear hQ Q)|(refine kx ?_;kernel_rfl)|omega|assumption|with_reducible rfl|skip))
      repeat' (first|(apply nx;with_reducible constructor)|refine jq (by decide) ?_)
      (refine yO (by simp only [vkt,seval,jP,QF,qa,qb,aTk,cTk,ql,eTk,gTk,rTk,qd,mTk,ckS,J5,y8,List.length_map];rfl) (fun h=>?_) (fun h=>?_) <;> (try simp only [vki,reduceCtorEq] at h))
      · have hlt:k < c.sold.length:=by omega
        have e9:IntKind.wrap .i64 ((k:Int)+1)=((k+1:Nat):Int):=by rw [wrap64 (by omega) (by omega)];rfl
        obtain ⟨x,hx⟩:∃ x,c.sold.getD k default=x:=⟨_,rfl⟩
        have ex:(⟨x.party,x.sex,x.cab,x.bed,x.frm,x.to,x.dog⟩:Tk)=x:=rfl
        have tk:List.take k (c.sold.map eTk)=(c.sold.take k).map eTk:=List.map_take.symm
        have t100:(c.sold.take k).length≤100:=by rw [List.length_take];omega
        have hcar':CarOk ⟨c.cabins,c.secs,c.sold⟩:=hcar
        have hg:=Qdz (f:=fun i=>zD c (c.sold.getD i default) (c.sold.take i)) hlt
        by_cases h2:zD c x (c.sold.take k)=0
        · repeat' (first|(apply nx;with_reducible constructor)|refine jq (by decide) ?_|((first|refine kz env fun Q hQ=>?_|refine kj fun Q hQ=>?_);simp only [vkt,seval,jP,QF,qa,qb,aTk,cTk,ql,eTk,gTk,rTk,qd,mTk,ckS,J5,y8,List.length_map,hx,ex,ec,tk,h2,e9];(try simp only [ite_and]);(repeat' (first|with_reducible assumption|refine And.intro ?_ ?_|intro hp));all_goals (first|(refine hQ _ ?_;clear hQ Q)|(refine hQ _ (fun h=>?_) (fun h=>?_) <;> clear hQ Q <;> (try simp only [vki,reduceCtorEq] at h))|(refine kx ?_;kernel_rfl)|omega|assumption|with_reducible rfl|skip)))
          refine ⟨⟨k+1,hlt,fun j hj=>?_⟩,by show c.sold.length - (k+1) < c.sold.length - k;omega, ?_⟩
          · rcases Nat.lt_or_eq_of_le (Nat.le_of_lt_succ hj) with h3|h3
            · exact hno j h3
            · rw [h3,hx];exact h2
          · (refine Le.ok some [] ?_;constructor;all_goals (try simp only [vle,vkt,seval,jP,QF,qa,qb,aTk,cTk,ql,eTk,gTk,rTk,qd,mTk,ckS,J5,y8,List.length_map]))
            all_goals first|rfl|(simp;done)
        · have hf:jC c c.sold=zD c x (c.sold.take k):=by
            unfold jC
            rw [kw (k:=k) (fun j hj=>by rw [Qdz (by omega)];exact hno j hj) (by simpa using hlt) (by rw [hg,hx];exact h2),hg,hx]
          rw [hf]
          repeat' (first|(apply nx;with_reducible constructor)|refine jq (by decide) ?_|((first|refine kz env fun Q hQ=>?_|refine kj fun Q hQ=>?_);simp only [vkt,seval,jP,QF,qa,qb,aTk,cTk,ql,eTk,gTk,rTk,qd,mTk,ckS,J5,y8,List.length_map,hx,ex,ec,tk,h2,e9];(try simp only [ite_and]);(repeat' (first|with_reducible assumption|refine And.intro ?_ ?_|intro hp));all_goals (first|(refine hQ _ ?_;clear hQ Q)|(refine hQ _ (fun h=>?_) (fun h=>?_) <;> clear hQ Q <;> (try simp only [vki,reduceCtorEq] at h))|(refine kx ?_;kernel_rfl)|omega|assumption|with_reducible rfl|skip)))
          (simp only [vrt,Tryz.results76,vkt,seval,jP,QF,qa,qb,aTk,cTk,ql,eTk,gTk,rTk,qd,mTk,ckS,J5,y8,List.length_map];refine Fin.val rfl ?_;(try simp only [AV.le,AV.leL]))
          all_goals first|rfl|(simp;done)
      · have hke:k=c.sold.length:=by omega
        subst hke
        rw [show jC c c.sold=0 from yD fun j hj=>by
          have hj':j < c.sold.length:=by simpa using hj
          rw [Qdz hj'];exact hno j hj']
        repeat' (first|(apply nx;with_reducible constructor)|refine jq (by decide) ?_|((first|refine kz env fun Q hQ=>?_|refine kj fun Q hQ=>?_);simp only [vkt,seval,jP,QF,qa,qb,aTk,cTk,ql,eTk,gTk,rTk,qd,mTk,ckS,J5,y8,List.length_map];(try simp only [ite_and]);(repeat' (first|with_reducible assumption|refine And.intro ?_ ?_|intro hp));all_goals (first|(refine hQ _ ?_;clear hQ Q)|(refine hQ _ (fun h=>?_) (fun h=>?_) <;> clear hQ Q <;> (try simp only [vki,reduceCtorEq] at h))|(refine kx ?_;kernel_rfl)|omega|assumption|with_reducible rfl|skip)))
        (simp only [vrt,Tryz.results76,vkt,seval,jP,QF,qa,qb,aTk,cTk,ql,eTk,gTk,rTk,qd,mTk,ckS,J5,y8,List.length_map];refine Fin.val rfl ?_;(try simp only [AV.le,AV.leL]))
        all_goals first|rfl|(simp;done)
  · have hE:wH c=Wi c:=by unfold wH;rw [if_pos h1]
    rw [hE]
    repeat' (first|(apply nx;with_reducible constructor)|refine jq (by decide) ?_|((first|refine kz env fun Q hQ=>?_|refine kj fun Q hQ=>?_);simp only [vkt,seval,jP,QF,qa,qb,aTk,cTk,ql,eTk,gTk,rTk,qd,mTk,ckS,J5,y8,List.length_map,h1,ec];(try simp only [ite_and]);(repeat' (first|with_reducible assumption|refine And.intro ?_ ?_|intro hp));all_goals (first|(refine hQ _ ?_;clear hQ Q)|(refine hQ _ (fun h=>?_) (fun h=>?_) <;> clear hQ Q <;> (try simp only [vki,reduceCtorEq] at h))|(refine kx ?_;kernel_rfl)|omega|assumption|with_reducible rfl|skip)))
    (simp only [vrt,Tryz.results76,vkt,seval,jP,QF,qa,qb,aTk,cTk,ql,eTk,gTk,rTk,qd,mTk,ckS,J5,y8,List.length_map];refine Fin.val rfl ?_;(try simp only [AV.le,AV.leL]))
    all_goals first|rfl|(simp;done)
def wS:List AV→Prop × AV
  |[.agg [.sl c0,.v (.int .i64 c1),.sl c2]]=>(c0=(c0.map qp).map qg∧c2=(c2.map dTk).map eTk∧c0.length≤maxLen,aI (wH (⟨(c0.map qp),c1,(c2.map dTk)⟩:Chart)))
  |_=>(False,.junk)
theorem UG {A:Frm→Prop}:qE A Tryz.prog 76 (qU true wS):=qW fun vs hv h=>by
  clear hv
  unfold wS at h ⊢
  split at h
  · rename_i c0 c1 c2;obtain ⟨q0,q1,k0⟩:=h
    refine ⟨by first|trivial|(simp [AV.plain,AV.plainL,aI,aB,qB,qc,ql,qf,aTk,cTk];done)|(repeat' split) <;> simp [AV.plain,AV.plainL,aI,aB,qB,qc,ql,qf,aTk,cTk],fun _=>(by simp [AV.flat,AV.flatL,aI,aB]), ?_⟩
    have:=QfX (⟨(c0.map qp),c1,(c2.map dTk)⟩:Chart) (by simpa using k0)
    simp only [qR,qa,aI,ql,qb,← q0,← q1] at this
    first|exact this|(simp only [qR,qa,aI,ql,qb,← q0,← q1];exact this)
  · exact h.elim
end Go.Sym.B
namespace Go.Sym.B
open Go Go.Sym Go.Proofs Go.Sym.C
def buO (cs:List Cabin) (s:Int):AObj:=.cells [.sl (cs.map qg),.v (.int .i64 s),.any]
def buY (cs:List Cabin) (j:Nat):List AV:=[qf ((qY cs).getD j default)]
def bu1 (cs:List Cabin) (s:Int) (i j:Nat):St:={ t:=asg [(0,.cb),(1,.ptr 0 0),(7,.sl (cs.map qg)),(8,aI cs.length),(9,aI i)],h:=qj [(0,.cells [.sl (cs.map qg),.v (.int .i64 s),.any])],n:=1,j:=j,m:=1 }
def bu2 (cs:List Cabin) (s:Int) (i:Nat) (b:Int) (k j:Nat):St:={ t:=asg [(0,.cb),(1,.ptr 0 0),(3,aI i),(7,.sl (cs.map qg)),(8,aI cs.length),(9,aI i),(15,aI b),(16,aI k)],h:=qj [(0,.cells [.sl (cs.map qg),.v (.int .i64 s),.any])],n:=1,j:=j,m:=1 }
structure CabsOk (cs:List Cabin):Prop where
  len:cs.length≤1000
  beds:∀ x ∈ cs,x.beds≤1000
def zL:=kk @ty3 (kk @WM (kk @jO (kk @xf (kk @WL (kk @ti3.eq_1 (kk @ZG.eq_1 (kk @jo.eq_1 (kk @vB.eq_1 @ZC.eq_1))))))))
def vM:=kk @aI.eq_1 (@aB.eq_1)
set_option maxHeartbeats 1000000 in
theorem Qal (cs:List Cabin) (s:Int) (hc:CabsOk cs):Iter Tryz.prog 117 [.cb,.ptr 0 0] (nth [buO cs s]) (buY cs) (qY cs).length (fun _=>nth [buO cs s]) fun _ _=>.tup []:=by
  intro ans R hr
  have e0:(nth [buO cs s])=qj (qN 0 [buO cs s]):=by
    funext i
    match i with
    |0=>rfl
    |i+1=>simp [nth,qN,qj]
  obtain ⟨A0,hA0⟩:∃ A0:Frm→Prop,A0=Acb Tryz.prog (qj (qN 0 [buO cs s])) (qj (qN 0 [buO cs s])) (buY cs) (fun _=>nth [buO cs s]) ans R:=⟨_,rfl⟩
  have hA:∀ F,A0 F→Acb Tryz.prog (qj (qN 0 [buO cs s])) (qj (qN 0 [buO cs s])) (buY cs) (fun _=>nth [buO cs s]) ans R F:=fun F h=>hA0 ▸ h
  have env:Env A0 Tryz.prog tyB (Go.Sym.tabC (cbX [0] (buY cs) (fun _=>[buO cs s]) ans R) []):=⟨Xj,UB (fun S bs h hS ops o g args tys caps hw ho hg hb=>YU hA (fun i o hi=>by
    rw [jI] at hi
    cases i with
    |zero=>rfl
    |succ i=>simp at hi) (by simp) h hS hw ho hg hb) trivial,by kernel_rfl⟩
  rw [KN] at hr
  have hcl:=hc.len
  rw [e0]
  refine Fn.of (A:=A0) (n0:=1) (D:=noD) (Fn0 Tryz.func117 rfl (fun vs w=>by kernel_rfl) (by kernel_rfl)) (by simp) (by simp [AV.ids]) ?_ (fun F hb h0 _=>hA0 ▸ ⟨h0,fun i o hi=>⟨o,hi⟩,by rw [← e0] at hb ⊢;exact hb⟩) qF ?_
  · intro i o hi
    have h:=qQ hi
    simp [qN,buO] at h;obtain ⟨rfl,rfl⟩:=h;simp [AObj.ids,AV.ids,AV.idsL]
  show Sym _ _ _ (zT [.cb,.ptr 0 0] 1 (qj [(0,.cells [.sl (cs.map qg),.v (.int .i64 s),.any])])) (xG tyB noD Tryz.f117 fun S rv=>Fin S rv (.tup []) 1 (qj [(0,.cells [.sl (cs.map qg),.v (.int .i64 s),.any])]) R)
  have eo:buO cs s=.cells [.sl (cs.map qg),.v (.int .i64 s),.any]:=rfl
  repeat' (first|(apply nx;with_reducible constructor)|refine jq (by decide) ?_|((first|refine kz env fun Q hQ=>?_|refine kj fun Q hQ=>?_);simp only [vkt,seval,zL,vM,qf,qg,qz,bu1,bu2,Go.Sym.tabC,cbX,zZ,qV,nth,hwL];(try simp only [ite_and]);(repeat' (first|with_reducible assumption|refine And.intro ?_ ?_|intro hp));all_goals (first|(refine hQ _ ?_;clear hQ Q)|(refine hQ _ (fun h=>?_) (fun h=>?_) <;> clear hQ Q <;> (try simp only [vki,reduceCtorEq] at h))|(refine kx ?_;kernel_rfl)|omega|assumption|with_reducible rfl|skip)))
  refine qO (fun x:{ x:Nat × Nat // x.1≤cs.length∧x.2=((ZJ cs).take x.1).sum∧∀ q,q < x.2→ans q=true }=>bu1 cs s x.1.1 x.1.2) (fun x=>cs.length - x.1.1) ⟨(0,0),Nat.zero_le _,by simp,fun q h=>absurd h (Nat.not_lt_zero _)⟩ ?_ fun ⟨(i,o),hi,ho,hy⟩=>?_
  · (refine Le.ok some [] ?_;constructor;all_goals (try simp only [vle,vkt,seval,zL,vM,qf,qg,qz,bu1,bu2,Go.Sym.tabC,cbX,zZ,qV,nth,hwL]))
    all_goals first|rfl|(simp;done)
  simp only at hi ho hy ⊢
  repeat' (first|(apply nx;with_reducible constructor)|refine jq (by decide) ?_)
  (refine kz env fun Q hQ=>?_;simp only [vkt,seval,zL,vM,qf,qg,qz,bu1,bu2,Go.Sym.tabC,cbX,zZ,qV,nth,hwL];(try simp only [ite_and]);(repeat' (first|with_reducible assumption|refine And.intro ?_ ?_|intro hp));all_goals (first|(refine hQ _ ?_;clear hQ Q)|(refine kx ?_;kernel_rfl)|omega|assumption|with_reducible rfl|skip))
  repeat' (first|(apply nx;with_reducible constructor)|refine jq (by decide) ?_)
  (refine yO (by simp only [vkt,seval,zL,vM,qf,qg,qz,bu1,bu2,Go.Sym.tabC,cbX,zZ,qV,nth,hwL];rfl) (fun h=>?_) (fun h=>?_) <;> (try simp only [vki,reduceCtorEq] at h))
  · have hlt:i < cs.length:=by omega
    have hts:=Yq (g:=ZJ cs) (i:=i) (by simp [ZJ];omega)
    rw [Qhx hlt] at hts
    have hsm:((ZJ cs).take (i+1)).sum≤(ZJ cs).sum:=by
      have:=QD (g:=ZJ cs) (show i+1≤(ZJ cs).length by simp [ZJ];omega)
      rwa [List.take_length] at this
    have hbx:=hc.beds _ (yL (d:=default) hlt)
    have hget:=fun k=>QdI (cs:=cs) (i:=i) (k:=k) hlt
    obtain ⟨x,hx⟩:∃ x,cs.getD i default=x:=⟨_,rfl⟩
    rw [hx] at hts hbx
    simp only [hx] at hget
    have e9:IntKind.wrap .i64 ((i:Int)+1)=((i+1:Nat):Int):=by rw [wrap64 (by omega) (by omega)];rfl
    repeat' (first|(apply nx;with_reducible constructor)|refine jq (by decide) ?_|((first|refine kz env fun Q hQ=>?_|refine kj fun Q hQ=>?_);simp only [vkt,seval,zL,vM,qf,qg,qz,bu1,bu2,Go.Sym.tabC,cbX,zZ,qV,nth,hwL,hx];(try simp only [ite_and]);(repeat' (first|with_reducible assumption|refine And.intro ?_ ?_|intro hp));all_goals (first|(refine hQ _ ?_;clear hQ Q)|(refine hQ _ (fun h=>?_) (fun h=>?_) <;> clear hQ Q <;> (try simp only [vki,reduceCtorEq] at h))|(refine kx ?_;kernel_rfl)|omega|assumption|with_reducible rfl|skip)))
    refine qO (fun y:{ y:Nat × Nat // y.1≤x.beds.toNat∧y.2=o+y.1∧∀ q,q < y.2→ans q=true }=>bu2 cs s i x.beds y.1.1 y.1.2) (fun y=>x.beds.toNat - y.1.1) ⟨(0,o),Nat.zero_le _,rfl,hy⟩ ?_ fun ⟨(k,q),hk,hq,hz⟩=>?_
    · (refine Le.ok some [] ?_;constructor;all_goals (try simp only [vle,vkt,seval,zL,vM,qf,qg,qz,bu1,bu2,Go.Sym.tabC,cbX,zZ,qV,nth,hwL]))
      all_goals first|rfl|(simp;done)
    simp only at hk hq hz ⊢
    repeat' (first|(apply nx;with_reducible constructor)|refine jq (by decide) ?_)
    (refine kz env fun Q hQ=>?_;simp only [vkt,seval,zL,vM,qf,qg,qz,bu1,bu2,Go.Sym.tabC,cbX,zZ,qV,nth,hwL];(try simp only [ite_and]);(repeat' (first|with_reducible assumption|refine And.intro ?_ ?_|intro hp));all_goals (first|(refine hQ _ ?_;clear hQ Q)|(refine kx ?_;kernel_rfl)|omega|assumption|with_reducible rfl|skip))
    repeat' (first|(apply nx;with_reducible constructor)|refine jq (by decide) ?_)
    (refine yO (by simp only [vkt,seval,zL,vM,qf,qg,qz,bu1,bu2,Go.Sym.tabC,cbX,zZ,qV,nth,hwL];rfl) (fun h=>?_) (fun h=>?_) <;> (try simp only [vki,reduceCtorEq] at h))
    · have hkl:k < x.beds.toNat:=by omega
      have e8:IntKind.wrap .i64 ((k:Int)+1)=((k+1:Nat):Int):=by rw [wrap64 (by omega) (by omega)];rfl
      have hqR:q < R:=hr.lt (by omega) hz
      have hbq:buY cs q=[.agg [.v (.int .i64 (i:Int)),.v (.int .i64 (k:Int))]]:=by
        unfold buY
        rw [hq,ho,hget k hkl]
        rfl
      cases hb:ans q with
      |false =>
        have eR:R=q+1:=by have:=hr.last hqR hb;omega
        subst eR
        repeat' (first|(apply nx;with_reducible constructor)|refine jq (by decide) ?_|((first|refine kz env fun Q hQ=>?_|refine kj fun Q hQ=>?_);simp only [vkt,seval,zL,vM,qf,qg,qz,bu1,bu2,Go.Sym.tabC,cbX,zZ,qV,nth,hwL,hqR,hbq,eo,hb];(try simp only [ite_and]);(repeat' (first|with_reducible assumption|refine And.intro ?_ ?_|intro hp));all_goals (first|(refine hQ _ ?_;clear hQ Q)|(refine hQ _ (fun h=>?_) (fun h=>?_) <;> clear hQ Q <;> (try simp only [vki,reduceCtorEq] at h))|(refine kx ?_;kernel_rfl)|omega|assumption|with_reducible rfl|skip)))
        (simp only [vrt,Tryz.results117,vkt,seval,zL,vM,qf,qg,qz,bu1,bu2,Go.Sym.tabC,cbX,zZ,qV,nth,hwL];refine Fin.ok some [] ?_ ?_ ?_ ?_ ?_ rfl;all_goals (try simp only [vle,vkt,seval,zL,vM,qf,qg,qz,bu1,bu2,Go.Sym.tabC,cbX,zZ,qV,nth,hwL]))
        all_goals first|rfl|(simp;done)
      |true =>
        have hz':∀ p,p < q+1→ans p=true:=fun p hp=>by
          rcases Nat.lt_or_eq_of_le (Nat.le_of_lt_succ hp) with h1|h1
          · exact hz p h1
          · rw [h1];exact hb
        repeat' (first|(apply nx;with_reducible constructor)|refine jq (by decide) ?_|((first|refine kz env fun Q hQ=>?_|refine kj fun Q hQ=>?_);simp only [vkt,seval,zL,vM,qf,qg,qz,bu1,bu2,Go.Sym.tabC,cbX,zZ,qV,nth,hwL,hqR,hbq,eo,hb,e8];(try simp only [ite_and]);(repeat' (first|with_reducible assumption|refine And.intro ?_ ?_|intro hp));all_goals (first|(refine hQ _ ?_;clear hQ Q)|(refine hQ _ (fun h=>?_) (fun h=>?_) <;> clear hQ Q <;> (try simp only [vki,reduceCtorEq] at h))|(refine kx ?_;kernel_rfl)|omega|assumption|with_reducible rfl|skip)))
        refine ⟨⟨(k+1,q+1),hkl,by omega,hz'⟩,by show x.beds.toNat - (k+1) < x.beds.toNat - k;omega, ?_⟩
        (refine Le.ok some [] ?_;constructor;all_goals (try simp only [vle,vkt,seval,zL,vM,qf,qg,qz,bu1,bu2,Go.Sym.tabC,cbX,zZ,qV,nth,hwL]))
        all_goals first|rfl|(simp;done)
    · have hkn:q=((ZJ cs).take (i+1)).sum:=by omega
      repeat' (first|(apply nx;with_reducible constructor)|refine jq (by decide) ?_|((first|refine kz env fun Q hQ=>?_|refine kj fun Q hQ=>?_);simp only [vkt,seval,zL,vM,qf,qg,qz,bu1,bu2,Go.Sym.tabC,cbX,zZ,qV,nth,hwL,e9];(try simp only [ite_and]);(repeat' (first|with_reducible assumption|refine And.intro ?_ ?_|intro hp));all_goals (first|(refine hQ _ ?_;clear hQ Q)|(refine hQ _ (fun h=>?_) (fun h=>?_) <;> clear hQ Q <;> (try simp only [vki,reduceCtorEq] at h))|(refine kx ?_;kernel_rfl)|omega|assumption|with_reducible rfl|skip)))
      refine ⟨⟨(i+1,q),hlt,hkn,hz⟩,by show cs.length - (i+1) < cs.length - i;omega, ?_⟩
      (refine Le.ok some [] ?_;constructor;all_goals (try simp only [vle,vkt,seval,zL,vM,qf,qg,qz,bu1,bu2,Go.Sym.tabC,cbX,zZ,qV,nth,hwL]))
      all_goals first|rfl|(simp;done)
  · have hie:i=cs.length:=by omega
    subst hie
    have hoN:o=(ZJ cs).sum:=by rw [ho,List.take_of_length_le (by simp [ZJ])]
    have eR:R=o:=by rw [hoN];exact hr.all (Nat.le_of_eq hoN.symm) hy
    subst eR
    repeat' (first|(apply nx;with_reducible constructor)|refine jq (by decide) ?_|((first|refine kz env fun Q hQ=>?_|refine kj fun Q hQ=>?_);simp only [vkt,seval,zL,vM,qf,qg,qz,bu1,bu2,Go.Sym.tabC,cbX,zZ,qV,nth,hwL];(try simp only [ite_and]);(repeat' (first|with_reducible assumption|refine And.intro ?_ ?_|intro hp));all_goals (first|(refine hQ _ ?_;clear hQ Q)|(refine hQ _ (fun h=>?_) (fun h=>?_) <;> clear hQ Q <;> (try simp only [vki,reduceCtorEq] at h))|(refine kx ?_;kernel_rfl)|omega|assumption|with_reducible rfl|skip)))
    (simp only [vrt,Tryz.results117,vkt,seval,zL,vM,qf,qg,qz,bu1,bu2,Go.Sym.tabC,cbX,zZ,qV,nth,hwL];refine Fin.ok some [] ?_ ?_ ?_ ?_ ?_ rfl;all_goals (try simp only [vle,vkt,seval,zL,vM,qf,qg,qz,bu1,bu2,Go.Sym.tabC,cbX,zZ,qV,nth,hwL]))
    all_goals first|rfl|(simp;done)
def Qa5:=kk @aI.eq_1 (@aB.eq_1)
theorem QgL (cs:List Cabin) (s:Int):Fn noB Tryz.prog 80 [.agg [.sl (cs.map qg),.v (.int .i64 s),.any]] (qj []) (.clo 117 [.ptr 0 0]) (qj [(0,.cells [.sl (cs.map qg),.v (.int .i64 s),.any])]) 0:=by
  have env:Env (fun _=>True) Tryz.prog tyB (tab []):=qL trivial
  refine Fn.of (A:=fun _=>True) (n0:=0) (D:=noD) (Fn0 Tryz.func80 rfl (fun vs w=>by kernel_rfl) (by kernel_rfl)) (by simp) (by simp [AV.ids,AV.idsL]) (fun i o h=>by cases h) (fun _ _ _ _=>trivial) qF ?_
  repeat' (first|(apply nx;with_reducible constructor)|refine jq (by decide) ?_|((first|refine kz env fun Q hQ=>?_|refine kj fun Q hQ=>?_);simp only [vkt,seval,Qa5];(try simp only [ite_and]);(repeat' (first|with_reducible assumption|refine And.intro ?_ ?_|intro hp));all_goals (first|(refine hQ _ ?_;clear hQ Q)|(refine hQ _ (fun h=>?_) (fun h=>?_) <;> clear hQ Q <;> (try simp only [vki,reduceCtorEq] at h))|(refine kx ?_;kernel_rfl)|omega|assumption|with_reducible rfl|skip)))
  (simp only [vrt,Tryz.results80,vkt,seval,Qa5];refine Fin.ok some [] ?_ ?_ ?_ ?_ ?_ rfl;all_goals (try simp only [vle,vkt,seval,Qa5]))
  all_goals first|rfl|(simp;done)
def zx (_:St):List AV→Option Pk
  |[.agg [.sl cs,.v (.int .i64 s),_]]=>some { pre:=cs=(cs.map qp).map qg,ar:=[.agg [.sl cs,.v (.int .i64 s),.any]],v:=.clo 117 [.ptr 0 0],L1:=[some (.cells [.sl cs,.v (.int .i64 s),.any])] }
  |_=>none
theorem QcL {A:Frm→Prop}:qE A Tryz.prog 80 (fnE zx):=wh fun S bs q h hp=>by
  unfold zx at h
  split at h
  · rename_i cs s _
    cases h
    have:=QgL (cs.map qp) s
    rw [← (show cs=(cs.map qp).map qg from hp)] at this
    exact this
  · cases h
end Go.Sym.B
namespace Go.Sym.B
open Go Go.Sym Go.Proofs Go.Sym.C
theorem b47 {n:Nat} (h:n≤100000):n * 8≤140737488355328∧n * 24≤140737488355328∧n * 16≤140737488355328∧n * 56≤140737488355328∧n≤maxLen:=by
  have:(100000:Nat)≤maxLen:=by decide
  omega
def yU:=kk @x8 (kk @yK (kk @xw.eq_1 @yn.eq_1))
theorem KP (xs:List (List DV)) (h1:zK 7 xs) (h2:xs.length≤100000):Fn noB Tryz.prog 116 [.sl xs] noH (.row 0) (qj [(0,.row 64 7 xs)]) 0:=by
  have env:Env (fun _=>True) Tryz.prog tyB (tab []):=qL trivial
  obtain ⟨b1,b2,b3,b5,b4⟩:=b47 h2
  refine Fn.of (A:=fun _=>True) (n0:=0) (D:=noD) (Fn0 Tryz.func116 rfl (fun vs w=>by kernel_rfl) (by kernel_rfl)) (by simp) (by simp [AV.ids]) (fun i o h=>by cases h) (fun _ _ _ _=>trivial) qF ?_
  repeat' (first|(apply nx;with_reducible constructor)|refine jq (by decide) ?_)
  (refine kz env fun Q hQ=>?_;simp only [vkt,seval,yU,@true_and];(try simp only [ite_and]);(repeat' (first|with_reducible assumption|refine And.intro ?_ ?_|intro hp));all_goals (first|(refine hQ _ ?_;clear hQ Q)|(refine kx ?_;kernel_rfl)|omega|assumption|with_reducible rfl|skip))
  repeat' (first|(apply nx;with_reducible constructor)|refine jq (by decide) ?_)
  refine Zy (d1:=3) (d2:=4) (t:=23) (e:=64) (x:=.tmp 0) (xs:=xs) rfl rfl rfl rfl rfl rfl Tryz.underlying23 rfl fun b hb=>?_
  repeat' (first|(apply nx;with_reducible constructor)|refine jq (by decide) ?_)
  (refine yO (by simp only [vkt,seval,yU,@true_and];rfl) (fun h=>?_) (fun h=>?_) <;> (try simp only [vki,reduceCtorEq] at h))
  · have hx:=hb h
    subst hx
    repeat' (first|(apply nx;with_reducible constructor)|refine jq (by decide) ?_|((first|refine kz env fun Q hQ=>?_|refine kj fun Q hQ=>?_);simp only [vkt,seval,yU,@true_and];(try simp only [ite_and]);(repeat' (first|with_reducible assumption|refine And.intro ?_ ?_|intro hp));all_goals (first|(refine hQ _ ?_;clear hQ Q)|(refine hQ _ (fun h=>?_) (fun h=>?_) <;> clear hQ Q <;> (try simp only [vki,reduceCtorEq] at h))|(refine kx ?_;kernel_rfl)|omega|assumption|with_reducible rfl|skip)))
    (simp only [vrt,Tryz.results116,vkt,seval,yU,@true_and];refine Fin.ok (fun _=>none) [] ?_ ?_ ?_ ?_ ?_ rfl;all_goals (try simp only [vle,vkt,seval,yU,@true_and]))
    all_goals simp
  · repeat' (first|(apply nx;with_reducible constructor)|refine jq (by decide) ?_|((first|refine kz env fun Q hQ=>?_|refine kj fun Q hQ=>?_);simp only [vkt,seval,yU,@true_and];(try simp only [ite_and]);(repeat' (first|with_reducible assumption|refine And.intro ?_ ?_|intro hp));all_goals (first|(refine hQ _ ?_;clear hQ Q)|(refine hQ _ (fun h=>?_) (fun h=>?_) <;> clear hQ Q <;> (try simp only [vki,reduceCtorEq] at h))|(refine kx ?_;kernel_rfl)|omega|assumption|with_reducible rfl|skip)))
    (simp only [vrt,Tryz.results116,vkt,seval,yU,@true_and];refine Fin.ok some [] ?_ ?_ ?_ ?_ ?_ rfl;all_goals (try simp only [vle,vkt,seval,yU,@true_and]))
    all_goals simp
def yS:=kk @Wp (kk @xf (kk @Zl.eq_1 @vB.eq_1))
theorem Qdq (xs:List (List DV)) (h1:zK 2 xs) (h2:xs.length≤100000):Fn noB Tryz.prog 128 [.sl xs] noH (.row 0) (qj [(0,.row 62 2 xs)]) 0:=by
  have env:Env (fun _=>True) Tryz.prog tyB (tab []):=qL trivial
  obtain ⟨b1,b2,b3,b5,b4⟩:=b47 h2
  refine Fn.of (A:=fun _=>True) (n0:=0) (D:=noD) (Fn0 Tryz.func128 rfl (fun vs w=>by kernel_rfl) (by kernel_rfl)) (by simp) (by simp [AV.ids]) (fun i o h=>by cases h) (fun _ _ _ _=>trivial) qF ?_
  repeat' (first|(apply nx;with_reducible constructor)|refine jq (by decide) ?_)
  (refine kz env fun Q hQ=>?_;simp only [vkt,seval,yS,@true_and];(try simp only [ite_and]);(repeat' (first|with_reducible assumption|refine And.intro ?_ ?_|intro hp));all_goals (first|(refine hQ _ ?_;clear hQ Q)|(refine kx ?_;kernel_rfl)|omega|assumption|with_reducible rfl|skip))
  repeat' (first|(apply nx;with_reducible constructor)|refine jq (by decide) ?_)
  refine Zy (d1:=3) (d2:=4) (t:=44) (e:=62) (x:=.tmp 0) (xs:=xs) rfl rfl rfl rfl rfl rfl Tryz.underlying44 rfl fun b hb=>?_
  repeat' (first|(apply nx;with_reducible constructor)|refine jq (by decide) ?_)
  (refine yO (by simp only [vkt,seval,yS,@true_and];rfl) (fun h=>?_) (fun h=>?_) <;> (try simp only [vki,reduceCtorEq] at h))
  · have hx:=hb h
    subst hx
    repeat' (first|(apply nx;with_reducible constructor)|refine jq (by decide) ?_|((first|refine kz env fun Q hQ=>?_|refine kj fun Q hQ=>?_);simp only [vkt,seval,yS,@true_and];(try simp only [ite_and]);(repeat' (first|with_reducible assumption|refine And.intro ?_ ?_|intro hp));all_goals (first|(refine hQ _ ?_;clear hQ Q)|(refine hQ _ (fun h=>?_) (fun h=>?_) <;> clear hQ Q <;> (try simp only [vki,reduceCtorEq] at h))|(refine kx ?_;kernel_rfl)|omega|assumption|with_reducible rfl|skip)))
    (simp only [vrt,Tryz.results128,vkt,seval,yS,@true_and];refine Fin.ok (fun _=>none) [] ?_ ?_ ?_ ?_ ?_ rfl;all_goals (try simp only [vle,vkt,seval,yS,@true_and]))
    all_goals simp
  · repeat' (first|(apply nx;with_reducible constructor)|refine jq (by decide) ?_|((first|refine kz env fun Q hQ=>?_|refine kj fun Q hQ=>?_);simp only [vkt,seval,yS,@true_and];(try simp only [ite_and]);(repeat' (first|with_reducible assumption|refine And.intro ?_ ?_|intro hp));all_goals (first|(refine hQ _ ?_;clear hQ Q)|(refine hQ _ (fun h=>?_) (fun h=>?_) <;> clear hQ Q <;> (try simp only [vki,reduceCtorEq] at h))|(refine kx ?_;kernel_rfl)|omega|assumption|with_reducible rfl|skip)))
    (simp only [vrt,Tryz.results128,vkt,seval,yS,@true_and];refine Fin.ok some [] ?_ ?_ ?_ ?_ ?_ rfl;all_goals (try simp only [vle,vkt,seval,yS,@true_and]))
    all_goals simp
def Qr (S:St):List AV→Option Pk
  |[.sl xs]=>some { pre:=zK 7 xs∧xs.length≤100000,ar:=[.sl xs],v:=.row 0,L1:=[some (.row 64 7 xs)] }
  |[.row r]=>match S.h r with
    |some (.row _ _ xs)=>some { pre:=zK 7 xs∧xs.length≤100000,bo:=[r],fl:=true,ar:=[.sl xs],v:=.row 0,L1:=[some (.row 64 7 xs)] }
    |_=>none
  |_=>none
theorem Qcw {A:Frm→Prop}:qE A Tryz.prog 116 (fnE Qr):=wh fun S bs q h hp=>by
  unfold Qr at h
  split at h
  · cases h;exact KP _ hp.1 hp.2
  · split at h
    · cases h;exact KP _ hp.1 hp.2
    · cases h
  · cases h
def wM (_:St):List AV→Option Pk
  |[.sl xs]=>some { pre:=zK 2 xs∧xs.length≤100000,ar:=[.sl xs],v:=.row 0,L1:=[some (.row 62 2 xs)] }
  |_=>none
theorem QhC {A:Frm→Prop}:qE A Tryz.prog 128 (fnE wM):=wh fun S bs q h hp=>by
  unfold wM at h
  split at h
  · cases h;exact Qdq _ hp.1 hp.2
  · cases h
def ibS (b:Bunk) (l:List Bunk) (k:Nat):St:={ t:=asg [(0,qc l),(3,.ptr 0 0),(4,aI 0),(6,qc l),(7,aI l.length),(8,aI k)],h:=qj [(0,.cells [.v (.int .i64 b.cab),.v (.int .i64 b.bed)])],n:=1 }
def Qad (b:Bunk) (l:List Bunk):Int:=match l.findIdx? (· == b) with
  |some i=>(i:Int)
  |none=>-1
theorem Qgl {b:Bunk} {l:List Bunk} {k:Nat} (hk:k < l.length) (h:∀ j,j < k→l.getD j default ≠ b) (hp:l.getD k default=b):Qad b l=(k:Int):=by
  have:l.findIdx? (· == b)=some k:=by
    rw [List.findIdx?_eq_some_iff_getElem]
    refine ⟨hk,by simpa [List.getD_eq_getElem?_getD,hk] using hp,fun j hj=>?_⟩
    have:=h j hj
    simpa [List.getD_eq_getElem?_getD,show j < l.length by omega] using this
  simp [Qad,this]
theorem QdO {b:Bunk} {l:List Bunk} (h:∀ j,j < l.length→l.getD j default ≠ b):Qad b l=-1:=by
  have:l.findIdx? (· == b)=none:=by
    rw [List.findIdx?_eq_none_iff]
    intro x hx
    obtain ⟨j,hj,rfl⟩:=List.mem_iff_getElem.1 hx
    have:=h j hj
    simpa [List.getD_eq_getElem?_getD,hj] using this
  simp [Qad,this]
theorem Qfy (b:Bunk) (l:List Bunk):decide (0≤Qad b l)=l.contains b:=by
  unfold Qad
  cases h:l.findIdx? (· == b) with
  |none =>
    rw [List.findIdx?_eq_none_iff] at h
    symm
    simp only [show ¬ (0:Int)≤-1 by decide,decide_false]
    rw [Bool.eq_false_iff]
    intro hc
    have:=h b (by simpa using hc)
    simp at this
  |some i =>
    rw [List.findIdx?_eq_some_iff_getElem] at h
    obtain ⟨hi,hp,_⟩:=h
    symm
    simp only [Int.natCast_nonneg,decide_true]
    have:l[i]=b:=by simpa using hp
    rw [← this];simp
def jb:=kk @ty3 (kk @Wp (kk @xf (kk @ti3.eq_1 (kk @Zl.eq_1 @vB.eq_1))))
def QK:=kk @aI.eq_1 (@aB.eq_1)
theorem QdK (b:Bunk) (l:List Bunk) (hl:l.length≤100):FnV Tryz.prog 141 [qc l,qf b] (aI (Qad b l)):=by
  have env:Env (fun _=>True) Tryz.prog tyB (tab []):=qL trivial
  refine Fn.of (A:=fun _=>True) (n0:=0) (D:=noD) (Fn0 Tryz.func141 rfl (fun vs w=>by kernel_rfl) (by kernel_rfl)) (by simp) (by simp [AV.ids,AV.idsL,qc,qf]) (fun i o h=>by cases h) (fun _ _ _ _=>trivial) qF ?_
  repeat' (first|(apply nx;with_reducible constructor)|refine jq (by decide) ?_|((first|refine kz env fun Q hQ=>?_|refine kj fun Q hQ=>?_);simp only [vkt,seval,jb,QK,qf,qc,qm,qD,ibS,Bool.true_and,Bool.false_and];(try simp only [ite_and]);(repeat' (first|with_reducible assumption|refine And.intro ?_ ?_|intro hp));all_goals (first|(refine hQ _ ?_;clear hQ Q)|(refine hQ _ (fun h=>?_) (fun h=>?_) <;> clear hQ Q <;> (try simp only [vki,reduceCtorEq] at h))|(refine kx ?_;kernel_rfl)|omega|assumption|with_reducible rfl|skip)))
  refine qO (fun k:{ k:Nat // k≤l.length∧∀ j,j < k→l.getD j default ≠ b }=>ibS b l k.1) (fun k=>l.length - k.1) ⟨0,Nat.zero_le _,fun j h=>absurd h (Nat.not_lt_zero _)⟩ ?_ fun ⟨k,hk,hno⟩=>?_
  · (refine Le.ok some [] ?_;constructor;all_goals (try simp only [vle,vkt,seval,jb,QK,qf,qc,qm,qD,ibS,Bool.true_and,Bool.false_and]))
    all_goals first|rfl|(simp;done)
  · repeat' (first|(apply nx;with_reducible constructor)|refine jq (by decide) ?_)
    (refine kz env fun Q hQ=>?_;simp only [vkt,seval,jb,QK,qf,qc,qm,qD,ibS,Bool.true_and,Bool.false_and];(try simp only [ite_and]);(repeat' (first|with_reducible assumption|refine And.intro ?_ ?_|intro hp));all_goals (first|(refine hQ _ ?_;clear hQ Q)|(refine kx ?_;kernel_rfl)|omega|assumption|with_reducible rfl|skip))
    repeat' (first|(apply nx;with_reducible constructor)|refine jq (by decide) ?_)
    (refine yO (by simp only [vkt,seval,jb,QK,qf,qc,qm,qD,ibS,Bool.true_and,Bool.false_and];rfl) (fun h=>?_) (fun h=>?_) <;> (try simp only [vki,reduceCtorEq] at h))
    · have hlt:k < l.length:=by omega
      have e9:IntKind.wrap .i64 ((k:Int)+1)=((k+1:Nat):Int):=by rw [wrap64 (by omega) (by omega)];rfl
      obtain ⟨x,hx⟩:∃ x,l.getD k default=x:=⟨_,rfl⟩
      have hxb:(x=b)=(b.cab=x.cab∧b.bed=x.bed):=by
        cases x;cases b;simp;exact ⟨fun ⟨a,b⟩=>⟨a.symm,b.symm⟩,fun ⟨a,b⟩=>⟨a.symm,b.symm⟩⟩
      have hnx:¬ x=b→∀ j,j < k+1→l.getD j default ≠ b:=fun hp j hj=>by
        rcases Nat.lt_or_eq_of_le (Nat.le_of_lt_succ hj) with h1|h1
        · exact hno j h1
        · rw [h1,hx];exact hp
      cases q1:decide (b.cab=x.cab)
      · have hp:¬ x=b:=by rw [hxb];exact fun h=>of_decide_eq_false q1 h.1
        repeat' (first|(apply nx;with_reducible constructor)|refine jq (by decide) ?_|((first|refine kz env fun Q hQ=>?_|refine kj fun Q hQ=>?_);simp only [vkt,seval,jb,QK,qf,qc,qm,qD,ibS,Bool.true_and,Bool.false_and,hx,q1,e9];(try simp only [ite_and]);(repeat' (first|with_reducible assumption|refine And.intro ?_ ?_|intro hp));all_goals (first|(refine hQ _ ?_;clear hQ Q)|(refine hQ _ (fun h=>?_) (fun h=>?_) <;> clear hQ Q <;> (try simp only [vki,reduceCtorEq] at h))|(refine kx ?_;kernel_rfl)|omega|assumption|with_reducible rfl|skip)))
        refine ⟨⟨k+1,hlt,hnx hp⟩,by show l.length - (k+1) < l.length - k;omega, ?_⟩
        (refine Le.ok some [] ?_;constructor;all_goals (try simp only [vle,vkt,seval,jb,QK,qf,qc,qm,qD,ibS,Bool.true_and,Bool.false_and]))
        all_goals first|rfl|(simp;done)
      · cases q2:decide (b.bed=x.bed)
        · have hp:¬ x=b:=by rw [hxb];exact fun h=>of_decide_eq_false q2 h.2
          repeat' (first|(apply nx;with_reducible constructor)|refine jq (by decide) ?_|((first|refine kz env fun Q hQ=>?_|refine kj fun Q hQ=>?_);simp only [vkt,seval,jb,QK,qf,qc,qm,qD,ibS,Bool.true_and,Bool.false_and,hx,q1,q2,e9];(try simp only [ite_and]);(repeat' (first|with_reducible assumption|refine And.intro ?_ ?_|intro hp));all_goals (first|(refine hQ _ ?_;clear hQ Q)|(refine hQ _ (fun h=>?_) (fun h=>?_) <;> clear hQ Q <;> (try simp only [vki,reduceCtorEq] at h))|(refine kx ?_;kernel_rfl)|omega|assumption|with_reducible rfl|skip)))
          refine ⟨⟨k+1,hlt,hnx hp⟩,by show l.length - (k+1) < l.length - k;omega, ?_⟩
          (refine Le.ok some [] ?_;constructor;all_goals (try simp only [vle,vkt,seval,jb,QK,qf,qc,qm,qD,ibS,Bool.true_and,Bool.false_and]))
          all_goals first|rfl|(simp;done)
        · have hh:=Qgl hlt hno (by rw [hx,hxb];exact ⟨of_decide_eq_true q1,of_decide_eq_true q2⟩)
          rw [hh]
          repeat' (first|(apply nx;with_reducible constructor)|refine jq (by decide) ?_|((first|refine kz env fun Q hQ=>?_|refine kj fun Q hQ=>?_);simp only [vkt,seval,jb,QK,qf,qc,qm,qD,ibS,Bool.true_and,Bool.false_and,hx,q1,q2,e9];(try simp only [ite_and]);(repeat' (first|with_reducible assumption|refine And.intro ?_ ?_|intro hp));all_goals (first|(refine hQ _ ?_;clear hQ Q)|(refine hQ _ (fun h=>?_) (fun h=>?_) <;> clear hQ Q <;> (try simp only [vki,reduceCtorEq] at h))|(refine kx ?_;kernel_rfl)|omega|assumption|with_reducible rfl|skip)))
          (simp only [vrt,Tryz.results141,vkt,seval,jb,QK,qf,qc,qm,qD,ibS,Bool.true_and,Bool.false_and];refine Fin.val rfl ?_;(try simp only [AV.le,AV.leL]))
          all_goals first|rfl|(simp;done)
    · have hke:k=l.length:=by omega
      subst hke
      rw [QdO hno]
      repeat' (first|(apply nx;with_reducible constructor)|refine jq (by decide) ?_|((first|refine kz env fun Q hQ=>?_|refine kj fun Q hQ=>?_);simp only [vkt,seval,jb,QK,qf,qc,qm,qD,ibS,Bool.true_and,Bool.false_and];(try simp only [ite_and]);(repeat' (first|with_reducible assumption|refine And.intro ?_ ?_|intro hp));all_goals (first|(refine hQ _ ?_;clear hQ Q)|(refine hQ _ (fun h=>?_) (fun h=>?_) <;> clear hQ Q <;> (try simp only [vki,reduceCtorEq] at h))|(refine kx ?_;kernel_rfl)|omega|assumption|with_reducible rfl|skip)))
      (simp only [vrt,Tryz.results141,vkt,seval,jb,QK,qf,qc,qm,qD,ibS,Bool.true_and,Bool.false_and];refine Fin.val rfl ?_;(try simp only [AV.le,AV.leL]))
      all_goals first|rfl|(simp;done)
def Yn:List AV→Prop × AV
  |[.sl l,.agg [.v (.int .i64 b0),.v (.int .i64 b1)]]=>(l=(l.map zB).map qm∧(l.map zB).length≤100,aI (Qad (⟨b0,b1⟩:Bunk) (l.map zB)))
  |_=>(False,.junk)
theorem Qhs {A:Frm→Prop}:qE A Tryz.prog 141 (qU true Yn):=qW fun vs hv h=>by
  clear hv
  unfold Yn at h ⊢
  split at h
  · rename_i l b0 b1;obtain ⟨q0,k0⟩:=h
    refine ⟨by first|trivial|(simp [AV.plain,AV.plainL,aI,aB,qB,qc,ql,qf,aTk,cTk];done)|(repeat' split) <;> simp [AV.plain,AV.plainL,aI,aB,qB,qc,ql,qf,aTk,cTk],fun _=>(by simp [AV.flat,AV.flatL,aI,aB]), ?_⟩
    have:=QdK (⟨b0,b1⟩:Bunk) (l.map zB) k0
    simp only [qf,qc,aI,← q0] at this
    first|exact this|(simp only [qf,qc,aI,← q0];exact this)
  · exact h.elim
def VX:=kk @ty3 (kk @xf (kk @ti3.eq_1 @vB.eq_1))
def QgD:=kk @aI.eq_1 (@aB.eq_1)
theorem Qg6 (b:Bunk) (l:List Bunk) (hl:l.length≤100):FnV Tryz.prog 129 [qc l,qf b] (aB (l.contains b)):=by
  have env:Env (fun _=>True) Tryz.prog tyB (tab [(141,qU true Yn)]):=qL ⟨Qhs,trivial⟩
  refine Fn.of (A:=fun _=>True) (n0:=0) (D:=noD) (Fn0 Tryz.func129 rfl (fun vs w=>by kernel_rfl) (by kernel_rfl)) (by simp) (by simp [AV.ids,AV.idsL,qc,qf]) (fun i o h=>by cases h) (fun _ _ _ _=>trivial) qF ?_
  have ex:(⟨b.cab,b.bed⟩:Bunk)=b:=rfl
  have ea:=Qfy b l
  repeat' (first|(apply nx;with_reducible constructor)|refine jq (by decide) ?_|((first|refine kz env fun Q hQ=>?_|refine kj fun Q hQ=>?_);simp only [vkt,seval,VX,QgD,qf,qc,qm,qJ,Yn,List.length_map,ex,ea];(try simp only [ite_and]);(repeat' (first|with_reducible assumption|refine And.intro ?_ ?_|intro hp));all_goals (first|(refine hQ _ ?_;clear hQ Q)|(refine hQ _ (fun h=>?_) (fun h=>?_) <;> clear hQ Q <;> (try simp only [vki,reduceCtorEq] at h))|(refine kx ?_;kernel_rfl)|omega|assumption|with_reducible rfl|skip)))
  (simp only [vrt,Tryz.results129,vkt,seval,VX,QgD,qf,qc,qm,qJ,Yn,List.length_map];refine Fin.val rfl ?_;(try simp only [AV.le,AV.leL]))
  all_goals first|rfl|(simp;done)
def jL:List AV→Prop × AV
  |[.sl l,.agg [.v (.int .i64 b0),.v (.int .i64 b1)]]=>(l=(l.map zB).map qm∧(l.map zB).length≤100,aB ((l.map zB).contains (⟨b0,b1⟩:Bunk)))
  |_=>(False,.junk)
theorem Qj2 {A:Frm→Prop}:qE A Tryz.prog 129 (qU true jL):=qW fun vs hv h=>by
  clear hv
  unfold jL at h ⊢
  split at h
  · rename_i l b0 b1;obtain ⟨q0,k0⟩:=h
    refine ⟨by first|trivial|(simp [AV.plain,AV.plainL,aI,aB,qB,qc,ql,qf,aTk,cTk];done)|(repeat' split) <;> simp [AV.plain,AV.plainL,aI,aB,qB,qc,ql,qf,aTk,cTk],fun _=>(by simp [AV.flat,AV.flatL,aI,aB]), ?_⟩
    have:=Qg6 (⟨b0,b1⟩:Bunk) (l.map zB) k0
    simp only [qf,qc,aI,← q0] at this
    first|exact this|(simp only [qf,qc,aI,← q0];exact this)
  · exact h.elim
def qo (cs:List Cabin) (s:Int) (r:Nat):AObj:=.cells [.sl (cs.map qg),.v (.int .i64 s),.row r]
def qw (l:List Tk):AObj:=.row 64 7 (l.map eTk)
def qy (cs:List Cabin) (s:Int) (l:List Tk):List AObj:=[qo cs s 1,qw l]
structure NearOk (cs:List Cabin) (l:List Bunk):Prop where
  ne:0 < l.length
  len:l.length≤100
  cabs:cs.length≤100
  mem:∀ b ∈ l,0≤b.cab∧b.cab.toNat < cs.length
def loK (l:List Bunk) (k:Nat):Int:=(l.take k).foldl (fun m b=>min m b.cab) (l.getD 0 default).cab
def hiK (l:List Bunk) (k:Nat):Int:=(l.take k).foldl (fun m b=>max m b.cab) (l.getD 0 default).cab
theorem VS {l:List Bunk} {k:Nat} (h:k < l.length):loK l (k+1)=min (loK l k) (l.getD k default).cab:=by
  unfold loK
  rw [List.take_succ_eq_append_getElem h,List.foldl_append]
  simp [List.getD_eq_getElem?_getD,h]
theorem XL {l:List Bunk} {k:Nat} (h:k < l.length):hiK l (k+1)=max (hiK l k) (l.getD k default).cab:=by
  unfold hiK
  rw [List.take_succ_eq_append_getElem h,List.foldl_append]
  simp [List.getD_eq_getElem?_getD,h]
theorem Qc7 (cs:List Cabin) (l:List Bunk):Q7 cs l=(decide (loK l l.length=hiK l l.length) || (decide (loK l l.length+1=hiK l l.length) && (cs.getD (loK l l.length).toNat default).door)):=by
  unfold Q7 loK hiK
  rw [List.take_length]
theorem KO {cs:List Cabin} {l:List Bunk} (h:NearOk cs l):∀ k,k≤l.length→0≤loK l k∧(loK l k).toNat < cs.length∧0≤hiK l k∧(hiK l k).toNat < cs.length:=by
  intro k
  induction k with
  |zero =>
    intro _
    have:=h.mem _ (yL (d:=default) h.ne)
    simp only [loK,hiK,List.take_zero,List.foldl_nil]
    exact ⟨this.1,this.2,this.1,this.2⟩
  |succ k ih =>
    intro hk
    have h1:=ih (by omega)
    have h2:=h.mem _ (yL (d:=default) (show k < l.length by omega))
    rw [VS (by omega),XL (by omega)]
    omega
def nrS (cs:List Cabin) (s:Int) (sold:List Tk) (l:List Bunk) (k:Nat) (lo hi:Int):St:={ t:=asg [(0,.ptr 0 0),(1,qc l),(4,aB false),(5,aI lo),(6,aI hi),(17,qc l),(18,aI l.length),(19,aI k)],h:=qj [(0,qo cs s 1),(1,qw sold)],n:=2,m:=2 }
def ji:=kk @ty3 (kk @ty4 (kk @WM (kk @jO (kk @Wp (kk @xf (kk @WL (kk @JQ (kk @ti3.eq_1 (kk @ti4.eq_1 (kk @ZG.eq_1 (kk @jo.eq_1 (kk @Zl.eq_1 (kk @vB.eq_1 (kk @ZC.eq_1 @ZR.eq_1))))))))))))))
def xX:=kk @aI.eq_1 (@aB.eq_1)
theorem QhT (cs:List Cabin) (s:Int) (sold:List Tk) (l:List Bunk) (ok:NearOk cs l):Fn noB Tryz.prog 130 [.ptr 0 0,qc l] (qj (qN 0 (qy cs s sold))) (aB (Q7 cs l)) (qj (wE 0 ((qy cs s sold).map some))) 0:=by
  have env:Env (fun _=>True) Tryz.prog tyB (tab []):=qL trivial
  refine Fn.of (A:=fun _=>True) (n0:=2) (D:=noD) (Fn0 Tryz.func130 rfl (fun vs w=>by kernel_rfl) (by kernel_rfl)) (by simp) (by simp [AV.ids,AV.idsL,qc]) ?_ (fun _ _ _ _=>trivial) qF ?_
  · intro i o hi
    have h:=qQ hi
    simp [qN,qy] at h
    rcases h with ⟨rfl,rfl⟩|⟨rfl,rfl⟩ <;> simp [AObj.ids,AV.ids,AV.idsL,qo,qw]
  have hne:=ok.ne
  have hll:=ok.len
  have hcl:=ok.cabs
  have hbd:=KO ok
  obtain ⟨x0,hx0⟩:∃ x,l.getD 0 default=x:=⟨_,rfl⟩
  have l0:loK l 0=x0.cab:=by rw [← hx0];rfl
  have h0:hiK l 0=x0.cab:=by rw [← hx0];rfl
  rw [Qc7]
  show Sym _ _ _ (zT [.ptr 0 0,qc l] 2 (qj [(0,qo cs s 1),(1,qw sold)])) (xG tyB noD Tryz.f130 fun S rv=>Fin S rv _ 2 (qj [(0,qo cs s 1),(1,qw sold)]) 0)
  repeat' (first|(apply nx;with_reducible constructor)|refine jq (by decide) ?_|((first|refine kz env fun Q hQ=>?_|refine kj fun Q hQ=>?_);simp only [vkt,seval,ji,xX,qf,qc,qm,qD,qg,qz,qo,qw,qy,nrS,List.length_map,hx0];(try simp only [ite_and]);(repeat' (first|with_reducible assumption|refine And.intro ?_ ?_|intro hp));all_goals (first|(refine hQ _ ?_;clear hQ Q)|(refine hQ _ (fun h=>?_) (fun h=>?_) <;> clear hQ Q <;> (try simp only [vki,reduceCtorEq] at h))|(refine kx ?_;kernel_rfl)|omega|assumption|with_reducible rfl|skip)))
  refine qO (fun k:{ k:Nat // k≤l.length }=>nrS cs s sold l k.1 (loK l k.1) (hiK l k.1)) (fun k=>l.length - k.1) ⟨0,Nat.zero_le _⟩ ?_ fun ⟨k,hk⟩=>?_
  · simp only [l0,h0]
    (refine Le.ok some [] ?_;constructor;all_goals (try simp only [vle,vkt,seval,ji,xX,qf,qc,qm,qD,qg,qz,qo,qw,qy,nrS,List.length_map]))
    all_goals first|rfl|(simp;done)
  · repeat' (first|(apply nx;with_reducible constructor)|refine jq (by decide) ?_)
    (refine kz env fun Q hQ=>?_;simp only [vkt,seval,ji,xX,qf,qc,qm,qD,qg,qz,qo,qw,qy,nrS,List.length_map];(try simp only [ite_and]);(repeat' (first|with_reducible assumption|refine And.intro ?_ ?_|intro hp));all_goals (first|(refine hQ _ ?_;clear hQ Q)|(refine kx ?_;kernel_rfl)|omega|assumption|with_reducible rfl|skip))
    repeat' (first|(apply nx;with_reducible constructor)|refine jq (by decide) ?_)
    (refine yO (by simp only [vkt,seval,ji,xX,qf,qc,qm,qD,qg,qz,qo,qw,qy,nrS,List.length_map];rfl) (fun h=>?_) (fun h=>?_) <;> (try simp only [vki,reduceCtorEq] at h))
    · have hlt:k < l.length:=by omega
      have e9:IntKind.wrap .i64 ((k:Int)+1)=((k+1:Nat):Int):=by rw [wrap64 (by omega) (by omega)];rfl
      obtain ⟨x,hx⟩:∃ x,l.getD k default=x:=⟨_,rfl⟩
      have hl1:=VS hlt
      have hh1:=XL hlt
      rw [hx] at hl1 hh1
      repeat' (first|(apply nx;with_reducible constructor)|refine jq (by decide) ?_|((first|refine kz env fun Q hQ=>?_|refine kj fun Q hQ=>?_);simp only [vkt,seval,ji,xX,qf,qc,qm,qD,qg,qz,qo,qw,qy,nrS,List.length_map,hx,e9];(try simp only [ite_and]);(repeat' (first|with_reducible assumption|refine And.intro ?_ ?_|intro hp));all_goals (first|(refine hQ _ ?_;clear hQ Q)|(refine hQ _ (fun h=>?_) (fun h=>?_) <;> clear hQ Q <;> (try simp only [vki,reduceCtorEq] at h))|(refine kx ?_;kernel_rfl)|omega|assumption|with_reducible rfl|skip)))
      refine ⟨⟨k+1,hlt⟩,by show l.length - (k+1) < l.length - k;omega, ?_⟩
      simp only [hl1,hh1]
      (refine Le.ok some [] ?_;constructor;all_goals (try simp only [vle,vkt,seval,ji,xX,qf,qc,qm,qD,qg,qz,qo,qw,qy,nrS,List.length_map]))
      all_goals first|rfl|(simp;done)
    · have hke:k=l.length:=by omega
      subst hke
      obtain ⟨g1,g2,g3,g4⟩:=hbd l.length (Nat.le_refl _)
      obtain ⟨lo,hlo⟩:∃ x,loK l l.length=x:=⟨_,rfl⟩
      obtain ⟨hi,hhi⟩:∃ x,hiK l l.length=x:=⟨_,rfl⟩
      rw [hlo] at g1 g2
      rw [hhi] at g3 g4
      obtain ⟨x,hx⟩:∃ x,cs.getD lo.toNat default=x:=⟨_,rfl⟩
      have w1:IntKind.wrap .i64 (lo+1)=lo+1:=wrap64 (by omega) (by omega)
      simp only [hlo,hhi]
      by_cases c1:lo=hi
      · rw [show (decide (lo=hi) || (decide (lo+1=hi) && (cs.getD lo.toNat default).door))=true by simp [c1]]
        have d1:decide (lo=hi)=true:=decide_eq_true c1
        have d1':(lo == hi)=true:=by simpa using c1
        repeat' (first|(apply nx;with_reducible constructor)|refine jq (by decide) ?_|((first|refine kz env fun Q hQ=>?_|refine kj fun Q hQ=>?_);simp only [vkt,seval,ji,xX,qf,qc,qm,qD,qg,qz,qo,qw,qy,nrS,List.length_map,d1,d1',w1,hx,g1,g2];(try simp only [ite_and]);(repeat' (first|with_reducible assumption|refine And.intro ?_ ?_|intro hp));all_goals (first|(refine hQ _ ?_;clear hQ Q)|(refine hQ _ (fun h=>?_) (fun h=>?_) <;> clear hQ Q <;> (try simp only [vki,reduceCtorEq] at h))|(refine kx ?_;kernel_rfl)|omega|assumption|with_reducible rfl|skip)))
        (simp only [vrt,Tryz.results130,vkt,seval,ji,xX,qf,qc,qm,qD,qg,qz,qo,qw,qy,nrS,List.length_map];refine Fin.ok some [] ?_ ?_ ?_ ?_ ?_ rfl;all_goals (try simp only [vle,vkt,seval,ji,xX,qf,qc,qm,qD,qg,qz,qo,qw,qy,nrS,List.length_map]))
        all_goals first|rfl|(simp;done)
      · have d1:decide (lo=hi)=false:=decide_eq_false c1
        have d1':(lo == hi)=false:=by simpa using c1
        by_cases c2:lo+1=hi
        · rw [show (decide (lo=hi) || (decide (lo+1=hi) && (cs.getD lo.toNat default).door))=x.door by rw [d1,hx,decide_eq_true c2];simp]
          have d2:decide (lo+1=hi)=true:=decide_eq_true c2
          have d2':(lo+1 == hi)=true:=by simpa using c2
          repeat' (first|(apply nx;with_reducible constructor)|refine jq (by decide) ?_|((first|refine kz env fun Q hQ=>?_|refine kj fun Q hQ=>?_);simp only [vkt,seval,ji,xX,qf,qc,qm,qD,qg,qz,qo,qw,qy,nrS,List.length_map,d1,d1',d2,d2',w1,hx,g1,g2];(try simp only [ite_and]);(repeat' (first|with_reducible assumption|refine And.intro ?_ ?_|intro hp));all_goals (first|(refine hQ _ ?_;clear hQ Q)|(refine hQ _ (fun h=>?_) (fun h=>?_) <;> clear hQ Q <;> (try simp only [vki,reduceCtorEq] at h))|(refine kx ?_;kernel_rfl)|omega|assumption|with_reducible rfl|skip)))
          (simp only [vrt,Tryz.results130,vkt,seval,ji,xX,qf,qc,qm,qD,qg,qz,qo,qw,qy,nrS,List.length_map];refine Fin.ok some [] ?_ ?_ ?_ ?_ ?_ rfl;all_goals (try simp only [vle,vkt,seval,ji,xX,qf,qc,qm,qD,qg,qz,qo,qw,qy,nrS,List.length_map]))
          all_goals first|rfl|(simp;done)
        · rw [show (decide (lo=hi) || (decide (lo+1=hi) && (cs.getD lo.toNat default).door))=false by rw [d1,decide_eq_false c2];rfl]
          have d2:decide (lo+1=hi)=false:=decide_eq_false c2
          have d2':(lo+1 == hi)=false:=by simpa using c2
          repeat' (first|(apply nx;with_reducible constructor)|refine jq (by decide) ?_|((first|refine kz env fun Q hQ=>?_|refine kj fun Q hQ=>?_);simp only [vkt,seval,ji,xX,qf,qc,qm,qD,qg,qz,qo,qw,qy,nrS,List.length_map,d1,d1',d2,d2',w1,hx,g1,g2];(try simp only [ite_and]);(repeat' (first|with_reducible assumption|refine And.intro ?_ ?_|intro hp));all_goals (first|(refine hQ _ ?_;clear hQ Q)|(refine hQ _ (fun h=>?_) (fun h=>?_) <;> clear hQ Q <;> (try simp only [vki,reduceCtorEq] at h))|(refine kx ?_;kernel_rfl)|omega|assumption|with_reducible rfl|skip)))
          (simp only [vrt,Tryz.results130,vkt,seval,ji,xX,qf,qc,qm,qD,qg,qz,qo,qw,qy,nrS,List.length_map];refine Fin.ok some [] ?_ ?_ ?_ ?_ ?_ rfl;all_goals (try simp only [vle,vkt,seval,ji,xX,qf,qc,qm,qD,qg,qz,qo,qw,qy,nrS,List.length_map]))
          all_goals first|rfl|(simp;done)
end Go.Sym.B
namespace Go.Sym.B
open Go Go.Sym Go.Proofs Go.Sym.C
def WO:=kk @ty3 @ti3.eq_1
def Qbd:=kk @aI.eq_1 (@aB.eq_1)
theorem QdX (x n m:Int) (h:0≤m∧m≤100000):Fn noB Tryz.prog 26 [.ptr 0 0,aI n,aI m] (qj (zP x)) (aB (decide (upV x (m - 1) < n))) (qj (zP (upS x (m - 1)))) 0:=by
  have env:Env (fun _=>True) Tryz.prog tyB (tab [(31,fnE pUp)]):=qL ⟨eUp,trivial⟩
  refine Fn.of (A:=fun _=>True) (n0:=1) (D:=noD) (Fn0 Tryz.func26 rfl (fun vs w=>by kernel_rfl) (by kernel_rfl)) (by simp) (by simp [AV.ids,AV.idsL,aI]) ?_ (fun _ _ _ _=>trivial) qF ?_
  · intro i o hi
    have h:=qQ hi
    simp [zP] at h
    rcases h with ⟨rfl,rfl⟩;simp [AObj.ids,AV.ids,AV.idsL]
  have h1:IntKind.wrap .i64 (m - 1)=m - 1:=wrap64 (by omega) (by omega)
  have h2:m - 1 < 9223372036854775807:=by omega
  repeat' (first|(apply nx;with_reducible constructor)|refine jq (by decide) ?_|((first|refine kz env fun Q hQ=>?_|refine kj fun Q hQ=>?_);simp only [vkt,seval,WO,Qbd,zP,pUp,h1,h2];(try simp only [ite_and]);(repeat' (first|with_reducible assumption|refine And.intro ?_ ?_|intro hp));all_goals (first|(refine hQ _ ?_;clear hQ Q)|(refine hQ _ (fun h=>?_) (fun h=>?_) <;> clear hQ Q <;> (try simp only [vki,reduceCtorEq] at h))|(refine kx ?_;kernel_rfl)|omega|assumption|with_reducible rfl|skip)))
  (simp only [vrt,Tryz.results26,vkt,seval,WO,Qbd,zP,pUp];refine Fin.ok some [] ?_ ?_ ?_ ?_ ?_ rfl;all_goals (try simp only [vle,vkt,seval,WO,Qbd,zP,pUp]))
  all_goals first|rfl|(simp;done)
noncomputable def zz (S:St):List AV→Option Pk
  |[.ptr i 0,.v (.int .i64 n),.v (.int .i64 m)]=>match S.h i with
    |some (.cells [.v (.int .u64 x)])=>some { pre:=0≤m∧m≤100000,hs:=[i],ar:=[.ptr 0 0,.v (.int .i64 n),.v (.int .i64 m)],L0:=[.cells [.v (.int .u64 x)]],v:=.v (.bool (decide (upV x (m - 1) < n))),L1:=[some (.cells [.v (.int .u64 (upS x (m - 1)))])] }
    |_=>none
  |_=>none
theorem QcE {A:Frm→Prop}:qE A Tryz.prog 26 (fnE zz):=wh fun S bs q h hp=>by
  unfold zz at h
  split at h
  · split at h
    · cases h;exact QdX _ _ _ hp
    · cases h
  · cases h
def VU:=kk @ty3 (kk @QG (kk @ti3.eq_1 @kX.eq_1))
def Qb9:=kk @aI.eq_1 (kk @aB.eq_1 (kk @qB.eq_1 (kk @zJ.eq_1 (@Ud))))
theorem Qkc (x:Int) (l:List Int) (h:0 < l.length∧l.length≤100000):Fn noB Tryz.prog 47 [.ptr 0 0,qB l] (qj (zP x)) (aI (l.getD (upV x ((l.length:Int) - 1)).toNat 0)) (qj (zP (upS x ((l.length:Int) - 1)))) 0:=by
  have env:Env (fun _=>True) Tryz.prog tyB (tab [(31,fnE pUp)]):=qL ⟨eUp,trivial⟩
  refine Fn.of (A:=fun _=>True) (n0:=1) (D:=noD) (Fn0 Tryz.func47 rfl (fun vs w=>by kernel_rfl) (by kernel_rfl)) (by simp) (by simp [AV.ids,AV.idsL,qB]) ?_ (fun _ _ _ _=>trivial) qF ?_
  · intro i o hi
    have h:=qQ hi
    simp [zP] at h
    rcases h with ⟨rfl,rfl⟩;simp [AObj.ids,AV.ids,AV.idsL]
  have h1:IntKind.wrap .i64 ((l.length:Int) - 1)=(l.length:Int) - 1:=wrap64 (by omega) (by omega)
  have h2:(l.length:Int) - 1 < 9223372036854775807:=by omega
  have hb:=QbC (x:=x) (m:=(l.length:Int) - 1) h2
  obtain ⟨i,hi⟩:∃ i:Nat,upV x ((l.length:Int) - 1)=i:=⟨(upV x ((l.length:Int) - 1)).toNat,by omega⟩
  rw [hi] at hb ⊢
  have i0:((i:Int)).toNat=i:=rfl
  have hil:i < l.length:=by omega
  have d0:decide ((l.length:Int)=0)=false:=decide_eq_false (by omega)
  obtain ⟨y,hy⟩:∃ y,l.getD i 0=y:=⟨_,rfl⟩
  rw [i0,hy]
  repeat' (first|(apply nx;with_reducible constructor)|refine jq (by decide) ?_|((first|refine kz env fun Q hQ=>?_|refine kj fun Q hQ=>?_);simp only [vkt,seval,VU,Qb9,zP,pUp,List.length_map,h1,h2,hi,i0,hil,d0,hy];(try simp only [ite_and]);(repeat' (first|with_reducible assumption|refine And.intro ?_ ?_|intro hp));all_goals (first|(refine hQ _ ?_;clear hQ Q)|(refine hQ _ (fun h=>?_) (fun h=>?_) <;> clear hQ Q <;> (try simp only [vki,reduceCtorEq] at h))|(refine kx ?_;kernel_rfl)|omega|assumption|with_reducible rfl|skip)))
  (simp only [vrt,Tryz.results47,vkt,seval,VU,Qb9,zP,pUp,List.length_map];refine Fin.ok some [] ?_ ?_ ?_ ?_ ?_ rfl;all_goals (try simp only [vle,vkt,seval,VU,Qb9,zP,pUp,List.length_map]))
  all_goals first|rfl|(simp;done)
noncomputable def vU (S:St):List AV→Option Pk
  |[.ptr i 0,.row r]=>match S.h i,S.h r with
    |some (.cells [.v (.int .u64 x)]),some (.row _ _ xs)=>some { pre:=xs=(xs.map za).map zJ∧0 < (xs.map za).length∧(xs.map za).length≤100000,hs:=[i],bo:=[r],ar:=[.ptr 0 0,.sl xs],L0:=[.cells [.v (.int .u64 x)]],v:=.v (.int .i64 ((xs.map za).getD (upV x (((xs.map za).length:Int) - 1)).toNat 0)),L1:=[some (.cells [.v (.int .u64 (upS x (((xs.map za).length:Int) - 1)))])] }
    |_,_=>none
  |_=>none
theorem eOne {A:Frm→Prop}:qE A Tryz.prog 47 (fnE vU):=wh fun S bs q h hp=>by
  unfold vU at h
  split at h
  · split at h
    · cases h
      have:=Qkc (by assumption) _ hp.2
      rw [qB,← hp.1] at this
      exact this
    · cases h
  · cases h
def Y6 (t x:Tk):Bool:=decide (x.cab=t.cab) && !decide (t.to≤x.frm) && !decide (x.to≤t.frm) && (decide (x.bed=t.bed) || (!decide (x.party=t.party) && (!decide (x.sex=t.sex) || x.dog || t.dog)))
def WI (l:List Tk) (t:Tk):Bool:=!l.any (Y6 t)
theorem QgB {l:List Tk} {t:Tk} {k:Nat} (hk:k < l.length) (h:Y6 t (l.getD k default)=true):WI l t=false:=by
  unfold WI
  rw [List.any_eq_true.2 ⟨_,yL hk,h⟩];rfl
theorem Qdm {l:List Tk} {t:Tk} (h:∀ j,j < l.length→Y6 t (l.getD j default)=false):WI l t=true:=by
  unfold WI
  rw [show l.any (Y6 t)=false from List.any_eq_false.2 fun x hx=>?_]
  · rfl
  · obtain ⟨j,hj,rfl⟩:=List.mem_iff_getElem.1 hx
    have:=h j hj
    rw [show l.getD j default=l[j] by simp [List.getD_eq_getElem?_getD,hj]] at this
    rw [this];simp
def goS (l:List Tk) (t:Tk) (k:Nat):St:={ t:=asg [(0,ql l),(3,.ptr 0 0),(4,aB false),(5,aI k)],h:=qj [(0,.cells (cTk t))],n:=1 }
def zR:=kk @ty3 (kk @ty4 (kk @x8 (kk @xf (kk @yK (kk @ti3.eq_1 (kk @ti4.eq_1 (kk @xw.eq_1 (kk @vB.eq_1 @yn.eq_1))))))))
def yl:=kk @aI.eq_1 (@aB.eq_1)
set_option maxHeartbeats 1000000 in
theorem QhV (l:List Tk) (t:Tk) (hl:l.length≤100):FnV Tryz.prog 48 [ql l,aTk t] (aB (WI l t)):=by
  have env:Env (fun _=>True) Tryz.prog tyB (tab []):=qL trivial
  refine Fn.of (A:=fun _=>True) (n0:=0) (D:=noD) (Fn0 Tryz.func48 rfl (fun vs w=>by kernel_rfl) (by kernel_rfl)) (by simp) (by simp [AV.ids,AV.idsL,ql,aTk,cTk]) (fun i o h=>by cases h) (fun _ _ _ _=>trivial) qF ?_
  repeat' (first|(apply nx;with_reducible constructor)|refine jq (by decide) ?_|((first|refine kz env fun Q hQ=>?_|refine kj fun Q hQ=>?_);simp only [vkt,seval,zR,yl,aTk,cTk,ql,eTk,gTk,goS,List.length_map];(try simp only [ite_and]);(repeat' (first|with_reducible assumption|refine And.intro ?_ ?_|intro hp));all_goals (first|(refine hQ _ ?_;clear hQ Q)|(refine hQ _ (fun h=>?_) (fun h=>?_) <;> clear hQ Q <;> (try simp only [vki,reduceCtorEq] at h))|(refine kx ?_;kernel_rfl)|omega|assumption|with_reducible rfl|skip)))
  refine qO (fun k:{ k:Nat // k≤l.length∧∀ j,j < k→Y6 t (l.getD j default)=false }=>goS l t k.1) (fun k=>l.length - k.1) ⟨0,Nat.zero_le _,fun j h=>absurd h (Nat.not_lt_zero _)⟩ ?_ fun ⟨k,hk,hno⟩=>?_
  · (refine Le.ok some [] ?_;constructor;all_goals (try simp only [vle,vkt,seval,zR,yl,aTk,cTk,ql,eTk,gTk,goS,List.length_map]))
    all_goals first|rfl|(simp;done)
  simp only at hk hno ⊢
  by_cases hkl:k < l.length
  · have d1:decide ((k:Int) < (l.length:Int))=true:=decide_eq_true (by omega)
    have e9:IntKind.wrap .i64 ((k:Int)+1)=((k+1:Nat):Int):=by rw [wrap64 (by omega) (by omega)];rfl
    have i0:((k:Int)).toNat=k:=rfl
    obtain ⟨x,hx⟩:∃ x,l.getD k default=x:=⟨_,rfl⟩
    have nxt:Y6 t x=false→∀ S,Le S (goS l t (k+1))→∃ y:{ k:Nat // k≤l.length∧∀ j,j < k→Y6 t (l.getD j default)=false },(l.length - y.1 < l.length - k)∧Le S (goS l t y.1):=fun hb S hS=>⟨⟨k+1,hkl,fun j hj=>by
      rcases Nat.lt_or_eq_of_le (Nat.le_of_lt_succ hj) with h1|h1
      · exact hno j h1
      · rw [h1,hx];exact hb⟩,by show l.length - (k+1) < l.length - k;omega,hS⟩
    have fin:Y6 t x=true→WI l t=false:=fun hb=>QgB hkl (by rw [hx];exact hb)
    have hbx:Y6 t x=(decide (x.cab=t.cab) && !decide (t.to≤x.frm) && !decide (x.to≤t.frm) && (decide (x.bed=t.bed) || (!decide (x.party=t.party) && (!decide (x.sex=t.sex) || x.dog || t.dog)))):=rfl
    cases q1:decide (x.cab=t.cab)
    · repeat' (first|(apply nx;with_reducible constructor)|refine jq (by decide) ?_|((first|refine kz env fun Q hQ=>?_|refine kj fun Q hQ=>?_);simp only [vkt,seval,zR,yl,aTk,cTk,ql,eTk,gTk,goS,List.length_map,d1,e9,i0,hkl,hx,q1,Bool.not_false];(try simp only [ite_and]);(repeat' (first|with_reducible assumption|refine And.intro ?_ ?_|intro hp));all_goals (first|(refine hQ _ ?_;clear hQ Q)|(refine hQ _ (fun h=>?_) (fun h=>?_) <;> clear hQ Q <;> (try simp only [vki,reduceCtorEq] at h))|(refine kx ?_;kernel_rfl)|omega|assumption|with_reducible rfl|skip)))
      refine nxt (by rw [hbx,q1];rfl) _ ?_
      (refine Le.ok some [] ?_;constructor;all_goals (try simp only [vle,vkt,seval,zR,yl,aTk,cTk,ql,eTk,gTk,goS,List.length_map]))
      all_goals first|rfl|(simp;done)
    cases q2:decide (t.to≤x.frm)
    case true =>
      repeat' (first|(apply nx;with_reducible constructor)|refine jq (by decide) ?_|((first|refine kz env fun Q hQ=>?_|refine kj fun Q hQ=>?_);simp only [vkt,seval,zR,yl,aTk,cTk,ql,eTk,gTk,goS,List.length_map,d1,e9,i0,hkl,hx,q1,q2,Bool.not_true];(try simp only [ite_and]);(repeat' (first|with_reducible assumption|refine And.intro ?_ ?_|intro hp));all_goals (first|(refine hQ _ ?_;clear hQ Q)|(refine hQ _ (fun h=>?_) (fun h=>?_) <;> clear hQ Q <;> (try simp only [vki,reduceCtorEq] at h))|(refine kx ?_;kernel_rfl)|omega|assumption|with_reducible rfl|skip)))
      refine nxt (by rw [hbx,q1,q2];rfl) _ ?_
      (refine Le.ok some [] ?_;constructor;all_goals (try simp only [vle,vkt,seval,zR,yl,aTk,cTk,ql,eTk,gTk,goS,List.length_map]))
      all_goals first|rfl|(simp;done)
    cases q3:decide (x.to≤t.frm)
    case true =>
      repeat' (first|(apply nx;with_reducible constructor)|refine jq (by decide) ?_|((first|refine kz env fun Q hQ=>?_|refine kj fun Q hQ=>?_);simp only [vkt,seval,zR,yl,aTk,cTk,ql,eTk,gTk,goS,List.length_map,d1,e9,i0,hkl,hx,q1,q2,q3,Bool.not_true];(try simp only [ite_and]);(repeat' (first|with_reducible assumption|refine And.intro ?_ ?_|intro hp));all_goals (first|(refine hQ _ ?_;clear hQ Q)|(refine hQ _ (fun h=>?_) (fun h=>?_) <;> clear hQ Q <;> (try simp only [vki,reduceCtorEq] at h))|(refine kx ?_;kernel_rfl)|omega|assumption|with_reducible rfl|skip)))
      refine nxt (by rw [hbx,q1,q2,q3];rfl) _ ?_
      (refine Le.ok some [] ?_;constructor;all_goals (try simp only [vle,vkt,seval,zR,yl,aTk,cTk,ql,eTk,gTk,goS,List.length_map]))
      all_goals first|rfl|(simp;done)
    cases q4:decide (x.bed=t.bed)
    case true =>
      rw [fin (by rw [hbx,q1,q2,q3,q4];rfl)]
      repeat' (first|(apply nx;with_reducible constructor)|refine jq (by decide) ?_|((first|refine kz env fun Q hQ=>?_|refine kj fun Q hQ=>?_);simp only [vkt,seval,zR,yl,aTk,cTk,ql,eTk,gTk,goS,List.length_map,d1,e9,i0,hkl,hx,q1,q2,q3,q4,Bool.not_true];(try simp only [ite_and]);(repeat' (first|with_reducible assumption|refine And.intro ?_ ?_|intro hp));all_goals (first|(refine hQ _ ?_;clear hQ Q)|(refine hQ _ (fun h=>?_) (fun h=>?_) <;> clear hQ Q <;> (try simp only [vki,reduceCtorEq] at h))|(refine kx ?_;kernel_rfl)|omega|assumption|with_reducible rfl|skip)))
      (simp only [vrt,Tryz.results48,vkt,seval,zR,yl,aTk,cTk,ql,eTk,gTk,goS,List.length_map];refine Fin.val rfl ?_;(try simp only [AV.le,AV.leL]))
      all_goals first|rfl|(simp;done)
    cases q5:decide (x.party=t.party)
    case true =>
      repeat' (first|(apply nx;with_reducible constructor)|refine jq (by decide) ?_|((first|refine kz env fun Q hQ=>?_|refine kj fun Q hQ=>?_);simp only [vkt,seval,zR,yl,aTk,cTk,ql,eTk,gTk,goS,List.length_map,d1,e9,i0,hkl,hx,q1,q2,q3,q4,q5,Bool.not_true];(try simp only [ite_and]);(repeat' (first|with_reducible assumption|refine And.intro ?_ ?_|intro hp));all_goals (first|(refine hQ _ ?_;clear hQ Q)|(refine hQ _ (fun h=>?_) (fun h=>?_) <;> clear hQ Q <;> (try simp only [vki,reduceCtorEq] at h))|(refine kx ?_;kernel_rfl)|omega|assumption|with_reducible rfl|skip)))
      refine nxt (by rw [hbx,q1,q2,q3,q4,q5];rfl) _ ?_
      (refine Le.ok some [] ?_;constructor;all_goals (try simp only [vle,vkt,seval,zR,yl,aTk,cTk,ql,eTk,gTk,goS,List.length_map]))
      all_goals first|rfl|(simp;done)
    cases q6:decide (x.sex=t.sex)
    · rw [fin (by rw [hbx,q1,q2,q3,q4,q5,q6];rfl)]
      repeat' (first|(apply nx;with_reducible constructor)|refine jq (by decide) ?_|((first|refine kz env fun Q hQ=>?_|refine kj fun Q hQ=>?_);simp only [vkt,seval,zR,yl,aTk,cTk,ql,eTk,gTk,goS,List.length_map,d1,e9,i0,hkl,hx,q1,q2,q3,q4,q5,q6,Bool.not_true,Bool.not_false];(try simp only [ite_and]);(repeat' (first|with_reducible assumption|refine And.intro ?_ ?_|intro hp));all_goals (first|(refine hQ _ ?_;clear hQ Q)|(refine hQ _ (fun h=>?_) (fun h=>?_) <;> clear hQ Q <;> (try simp only [vki,reduceCtorEq] at h))|(refine kx ?_;kernel_rfl)|omega|assumption|with_reducible rfl|skip)))
      (simp only [vrt,Tryz.results48,vkt,seval,zR,yl,aTk,cTk,ql,eTk,gTk,goS,List.length_map];refine Fin.val rfl ?_;(try simp only [AV.le,AV.leL]))
      all_goals first|rfl|(simp;done)
    cases q7:x.dog
    case true =>
      rw [fin (by rw [hbx,q1,q2,q3,q4,q5,q6,q7];rfl)]
      repeat' (first|(apply nx;with_reducible constructor)|refine jq (by decide) ?_|((first|refine kz env fun Q hQ=>?_|refine kj fun Q hQ=>?_);simp only [vkt,seval,zR,yl,aTk,cTk,ql,eTk,gTk,goS,List.length_map,d1,e9,i0,hkl,hx,q1,q2,q3,q4,q5,q6,q7,Bool.not_true,Bool.not_false];(try simp only [ite_and]);(repeat' (first|with_reducible assumption|refine And.intro ?_ ?_|intro hp));all_goals (first|(refine hQ _ ?_;clear hQ Q)|(refine hQ _ (fun h=>?_) (fun h=>?_) <;> clear hQ Q <;> (try simp only [vki,reduceCtorEq] at h))|(refine kx ?_;kernel_rfl)|omega|assumption|with_reducible rfl|skip)))
      (simp only [vrt,Tryz.results48,vkt,seval,zR,yl,aTk,cTk,ql,eTk,gTk,goS,List.length_map];refine Fin.val rfl ?_;(try simp only [AV.le,AV.leL]))
      all_goals first|rfl|(simp;done)
    cases q8:t.dog
    · repeat' (first|(apply nx;with_reducible constructor)|refine jq (by decide) ?_|((first|refine kz env fun Q hQ=>?_|refine kj fun Q hQ=>?_);simp only [vkt,seval,zR,yl,aTk,cTk,ql,eTk,gTk,goS,List.length_map,d1,e9,i0,hkl,hx,q1,q2,q3,q4,q5,q6,q7,q8,Bool.not_true,Bool.not_false];(try simp only [ite_and]);(repeat' (first|with_reducible assumption|refine And.intro ?_ ?_|intro hp));all_goals (first|(refine hQ _ ?_;clear hQ Q)|(refine hQ _ (fun h=>?_) (fun h=>?_) <;> clear hQ Q <;> (try simp only [vki,reduceCtorEq] at h))|(refine kx ?_;kernel_rfl)|omega|assumption|with_reducible rfl|skip)))
      refine nxt (by rw [hbx,q1,q2,q3,q4,q5,q6,q7,q8];rfl) _ ?_
      (refine Le.ok some [] ?_;constructor;all_goals (try simp only [vle,vkt,seval,zR,yl,aTk,cTk,ql,eTk,gTk,goS,List.length_map]))
      all_goals first|rfl|(simp [q8];done)
    · rw [fin (by rw [hbx,q1,q2,q3,q4,q5,q6,q7,q8];rfl)]
      repeat' (first|(apply nx;with_reducible constructor)|refine jq (by decide) ?_|((first|refine kz env fun Q hQ=>?_|refine kj fun Q hQ=>?_);simp only [vkt,seval,zR,yl,aTk,cTk,ql,eTk,gTk,goS,List.length_map,d1,e9,i0,hkl,hx,q1,q2,q3,q4,q5,q6,q7,q8,Bool.not_true,Bool.not_false];(try simp only [ite_and]);(repeat' (first|with_reducible assumption|refine And.intro ?_ ?_|intro hp));all_goals (first|(refine hQ _ ?_;clear hQ Q)|(refine hQ _ (fun h=>?_) (fun h=>?_) <;> clear hQ Q <;> (try simp only [vki,reduceCtorEq] at h))|(refine kx ?_;kernel_rfl)|omega|assumption|with_reducible rfl|skip)))
      (simp only [vrt,Tryz.results48,vkt,seval,zR,yl,aTk,cTk,ql,eTk,gTk,goS,List.length_map];refine Fin.val rfl ?_;(try simp only [AV.le,AV.leL]))
      all_goals first|rfl|(simp;done)
  · have d1:decide ((k:Int) < (l.length:Int))=false:=decide_eq_false (by omega)
    rw [Qdm (fun j hj=>hno j (by omega))]
    repeat' (first|(apply nx;with_reducible constructor)|refine jq (by decide) ?_|((first|refine kz env fun Q hQ=>?_|refine kj fun Q hQ=>?_);simp only [vkt,seval,zR,yl,aTk,cTk,ql,eTk,gTk,goS,List.length_map,d1];(try simp only [ite_and]);(repeat' (first|with_reducible assumption|refine And.intro ?_ ?_|intro hp));all_goals (first|(refine hQ _ ?_;clear hQ Q)|(refine hQ _ (fun h=>?_) (fun h=>?_) <;> clear hQ Q <;> (try simp only [vki,reduceCtorEq] at h))|(refine kx ?_;kernel_rfl)|omega|assumption|with_reducible rfl|skip)))
    (simp only [vrt,Tryz.results48,vkt,seval,zR,yl,aTk,cTk,ql,eTk,gTk,goS,List.length_map];refine Fin.val rfl ?_;(try simp only [AV.le,AV.leL]))
    all_goals first|rfl|(simp;done)
def yJ:List AV→Prop × AV
  |[.sl l,.agg [.v (.int .i64 t0),.v (.int .i64 t1),.v (.int .i64 t2),.v (.int .i64 t3),.v (.int .i64 t4),.v (.int .i64 t5),.v (.bool t6)]]=>(l=(l.map dTk).map eTk∧(l.map dTk).length≤100,aB (WI (l.map dTk) (⟨t0,t1,t2,t3,t4,t5,t6⟩:Tk)))
  |_=>(False,.junk)
theorem egoes {A:Frm→Prop}:qE A Tryz.prog 48 (qU true yJ):=qW fun vs hv h=>by
  clear hv
  unfold yJ at h ⊢
  split at h
  · rename_i l t0 t1 t2 t3 t4 t5 t6;obtain ⟨q0,k0⟩:=h
    refine ⟨by first|trivial|(simp [AV.plain,AV.plainL,aI,aB,qB,qc,ql,qf,aTk,cTk];done)|(repeat' split) <;> simp [AV.plain,AV.plainL,aI,aB,qB,qc,ql,qf,aTk,cTk],fun _=>(by simp [AV.flat,AV.flatL,aI,aB]), ?_⟩
    have:=QhV (l.map dTk) (⟨t0,t1,t2,t3,t4,t5,t6⟩:Tk) k0
    simp only [aB,aI,aTk,ql,cTk,← q0] at this
    first|exact this|(simp only [aB,aI,aTk,ql,cTk,← q0];exact this)
  · exact h.elim
end Go.Sym.B
namespace Go.Sym.B
open Go Go.Sym Go.Proofs Go.Sym.C
theorem dI1 (a:Int):za [.v (.int .i64 a)]=a:=rfl
noncomputable def xH (x:Int):Nat→List Cabin × Int
  |0=>([],x)
  |k+1=>((xH x k).1++[⟨1+upV (xH x k).2 2,decide (upV (upS (xH x k).2 2) 2 < 2)⟩],upS (upS (xH x k).2 2) 2)
noncomputable def pA (p s:Int):Int × Int:=if p=0 then (p+(1+upV s 2),upS s 2) else if upV s 3 < 1 then (p,upS s 3) else (p+(1+upV (upS s 3) 2),upS (upS s 3) 2)
noncomputable def xB (cs:List Cabin) (secs p s1:Int):Tk × Int :=
  let n:=upV s1 ((cs.length:Int) - 1)
  let s2:=upS s1 ((cs.length:Int) - 1)
  let s3:=upS s2 1
  let b:=(cs.getD n.toNat default).beds
  let s4:=upS s3 (b - 1)
  let f:=upV s4 (secs - 1)
  let s5:=upS s4 (secs - 1)
  let s6:=upS s5 7
  (⟨p,([1,2]:List Int).getD (upV s2 1).toNat 0,n,upV s3 (b - 1),f,f+1+upV s6 (secs - (f+1)),decide (upV s5 7 < 1)⟩,upS s6 (secs - (f+1)))
noncomputable def tkK (cs:List Cabin) (secs x:Int):Nat→Int × List Tk × Int
  |0=>(0,[],x)
  |k+1=>((pA (tkK cs secs x k).1 (tkK cs secs x k).2.2).1,if WI (tkK cs secs x k).2.1 (xB cs secs (pA (tkK cs secs x k).1 (tkK cs secs x k).2.2).1 (pA (tkK cs secs x k).1 (tkK cs secs x k).2.2).2).1 then (tkK cs secs x k).2.1++[(xB cs secs (pA (tkK cs secs x k).1 (tkK cs secs x k).2.2).1 (pA (tkK cs secs x k).1 (tkK cs secs x k).2.2).2).1] else (tkK cs secs x k).2.1,
      (xB cs secs (pA (tkK cs secs x k).1 (tkK cs secs x k).2.2).1 (pA (tkK cs secs x k).1 (tkK cs secs x k).2.2).2).2)
noncomputable def Q9 (x g:Int):Int:=1+upV x (g - 1)
noncomputable def Xw (x g:Int):Int:=upS x (g - 1)
noncomputable def xI (x g a:Int):List Cabin × Int:=xH (upS (Xw x g) (a - 1)) (1+upV (Xw x g) (a - 1)).toNat
noncomputable def QdQ (x g a s:Int):Int × List Tk × Int:=tkK (xI x g a).1 (Q9 x g) (upS (xI x g a).2 s) (upV (xI x g a).2 s).toNat
noncomputable def coC (x a g s:Int):Chart:=⟨(xI x g a).1,Q9 x g,(QdQ x g a s).2.1⟩
noncomputable def coX (x a g s:Int):Int:=(QdQ x g a s).2.2
theorem up2 (x:Int) {m:Int} (h0:0≤m) (h:m≤100000):0≤upV x m∧upV x m≤m:=by
  have:=QbC (x:=x) (m:=m) (by omega)
  omega
theorem QfW {p s p1 s1:Int} (h:pA p s=(p1,s1)) (hp:0≤p∧p≤1000) :
    ∃ (b:Bool) (sB:Int),((decide (p=0)=true∧True∧b=true∧sB=s)∨(decide (p=0)=false∧decide (upV s 3 < 1)=!b∧True∧sB=upS s 3))∧((b=true∧IntKind.wrap .i64 (p+(1+upV sB 2))=p1∧upS sB 2=s1)∨(b=false∧p=p1∧sB=s1)):=by
  unfold pA at h
  split at h
  · rename_i h0
    have:=up2 s (m:=2) (by omega) (by omega)
    cases h
    exact ⟨true,s,.inl ⟨decide_eq_true h0,trivial,rfl,rfl⟩,.inl ⟨rfl,wrap64 (by omega) (by omega),rfl⟩⟩
  · rename_i h0
    split at h
    · rename_i h1
      cases h
      exact ⟨false,upS s 3,.inr ⟨decide_eq_false h0,decide_eq_true h1,trivial,rfl⟩,.inr ⟨rfl,rfl,rfl⟩⟩
    · rename_i h1
      have:=up2 (upS s 3) (m:=2) (by omega) (by omega)
      cases h
      exact ⟨true,upS s 3,.inr ⟨decide_eq_false h0,decide_eq_false h1,trivial,rfl⟩,.inl ⟨rfl,wrap64 (by omega) (by omega),rfl⟩⟩
theorem QiP {p s:Int} (hp:0≤p):p≤(pA p s).1∧1≤(pA p s).1∧(pA p s).1≤p+3:=by
  have h1:=up2 s (m:=2) (by omega) (by omega)
  have h2:=up2 (upS s 3) (m:=2) (by omega) (by omega)
  unfold pA
  split
  · simp only;omega
  · split
    · simp only;omega
    · simp only;omega
theorem Ub (cs:List Cabin) (secs x:Int):∀ k,0≤(tkK cs secs x k).1∧(tkK cs secs x k).1≤3 * k∧(tkK cs secs x k).2.1.length≤k
  |0=>⟨Int.le_refl _,Int.le_refl _,Nat.le_refl _⟩
  |k+1=>by
    obtain ⟨h1,h2,h3⟩:=Ub cs secs x k
    have h4:=QiP (s:=(tkK cs secs x k).2.2) h1
    rw [tkK]
    refine ⟨by simp only;omega,by simp only;omega, ?_⟩
    simp only
    split
    · rw [List.length_append,List.length_singleton];omega
    · omega
theorem Rq (x:Int):∀ k,(xH x k).1.length=k∧∀ c ∈ (xH x k).1,1≤c.beds∧c.beds≤3
  |0=>⟨rfl,by simp [xH]⟩
  |k+1=>by
    obtain ⟨h1,h2⟩:=Rq x k
    have h3:=up2 (xH x k).2 (m:=2) (by omega) (by omega)
    rw [xH]
    refine ⟨by simp [h1],fun c hc=>?_⟩
    rcases List.mem_append.1 hc with hc|hc
    · exact h2 c hc
    · rw [List.mem_singleton.1 hc];simp only;omega
def coA (secs s m:Int) (i:Nat) (cs:List Cabin):St:={ t:=asg [(0,.ptr 0 0),(3,aI m),(8,.ptr 1 0),(9,.ptr 2 0),(10,aI i)],h:=qj [(0,.cells [.v (.int .u64 s)]),(1,.cells [.nil,aI 0,.nil]),(2,.cells [.row 3,aI secs,.nil]),(3,.row 89 2 (cs.map qg))],n:=4,m:=1 }
def coB (cs:List Cabin) (secs s p:Int) (i:Nat) (l:List Tk):St:={ t:=asg [(0,.ptr 0 0),(8,.ptr 1 0),(9,.ptr 2 0),(11,aI p),(12,aI i)],h:=qj [(0,.cells [.v (.int .u64 s)]),(1,.cells [.nil,aI 0,.nil]),(2,.cells [.row 3,aI secs,.row 4]),(3,.row 89 2 (cs.map qg)),(4,.row 64 7 (l.map eTk))],n:=5,m:=1 }
def coM (cs:List Cabin) (secs s p:Int) (i:Nat) (l:List Tk) (T:List (Nat × AV)) (O:List (Nat × AObj)) (n:Nat):St:={ t:=asg (T++[(0,.ptr 0 0),(8,.ptr 1 0),(9,.ptr 2 0),(11,aI p),(12,aI i)]),h:=qj ([(0,.cells [.v (.int .u64 s)]),(1,.cells [.nil,aI 0,.nil]),(2,.cells [.row 3,aI secs,.row 4]),(3,.row 89 2 (cs.map qg)),(4,.row 64 7 (l.map eTk))]++O),n:=n,m:=1 }
def qZ:=kk @ty3 (kk @WM (kk @x8 (kk @jO (kk @QG (kk @xf (kk @yK (kk @WL (kk @ti3.eq_1 (kk @ZG.eq_1 (kk @xw.eq_1 (kk @jo.eq_1 (kk @kX.eq_1 (kk @vB.eq_1 (kk @yn.eq_1 @ZC.eq_1))))))))))))))
def jM:=kk @aI.eq_1 (kk @aB.eq_1 (@zJ.eq_1))
set_option maxHeartbeats 4000000 in
theorem QbG (x a g s:Int) (ha:1≤a∧a≤3) (hg:1≤g∧g≤5) (hs:0≤s∧s≤8):Fn noB Tryz.prog 11 [.ptr 0 0,aI a,aI g,aI s] (qj (zP x)) (qa (coC x a g s)) (qj (zP (coX x a g s))) 0:=by
  have env:Env (fun _=>True) Tryz.prog tyB (tab [(13,fnE zQ),(31,fnE pUp),(26,fnE zz),(47,fnE vU),(48,qU true yJ)]):=qL ⟨Qha,eUp,QcE,eOne,egoes,trivial⟩
  refine Fn.of (A:=fun _=>True) (n0:=1) (D:=noD) (Fn0 Tryz.func11 rfl (fun vs w=>by kernel_rfl) (by kernel_rfl)) (by simp) (by simp [AV.ids,AV.idsL,aI]) ?_ (fun _ _ _ _=>trivial) qF ?_
  · intro i o hi
    have h:=qQ hi
    simp [zP] at h
    rcases h with ⟨rfl,rfl⟩;simp [AObj.ids,AV.ids,AV.idsL]
  have m1:min g 5=g:=by omega
  have m2:min a 3=a:=by omega
  have m3:min s 8=s:=by omega
  have hmx:(100000:Nat)≤maxLen:=by decide
  have hsc:=up2 x (m:=g - 1) (by omega) (by omega)
  have hx1:upS x (g - 1)=Xw x g:=rfl
  have hsb:1≤Q9 x g∧Q9 x g≤5:=by unfold Q9;omega
  have hcs:1+upV x (g - 1)=Q9 x g:=rfl
  have hnc:=up2 (Xw x g) (m:=a - 1) (by omega) (by omega)
  obtain ⟨nc,hnc1⟩:∃ nc:Nat,1+upV (Xw x g) (a - 1)=nc:=⟨(1+upV (Xw x g) (a - 1)).toNat,by omega⟩
  obtain ⟨y,hy⟩:∃ y,upS (Xw x g) (a - 1)=y:=⟨_,rfl⟩
  have hcc:xI x g a=xH y nc:=by unfold xI;rw [hy,hnc1];rfl
  have hcb:=Rq y
  have hnt:=up2 (xH y nc).2 (m:=s) (by omega) (by omega)
  obtain ⟨nt,hnt1⟩:∃ nt:Nat,upV (xH y nc).2 s=nt:=⟨(upV (xH y nc).2 s).toNat,by omega⟩
  obtain ⟨z,hz⟩:∃ z,upS (xH y nc).2 s=z:=⟨_,rfl⟩
  have htk:QdQ x g a s=tkK (xH y nc).1 (Q9 x g) z nt:=by unfold QdQ;rw [hcc,hz,hnt1];rfl
  unfold coC coX
  rw [hcc,htk]
  obtain ⟨S,hS⟩:∃ S,Q9 x g=S:=⟨_,rfl⟩
  rw [hS] at hsb hcs ⊢
  obtain ⟨X1,hX1⟩:∃ X1,Xw x g=X1:=⟨_,rfl⟩
  rw [hX1] at hx1 hnc1 hy hnc
  have hal:-100000≤(1:Int):=by decide
  have b1:g≤100000:=by omega
  have b2:a≤100000:=by omega
  have b3:-100000≤g:=by omega
  have b4:-100000≤a:=by omega
  have b5:s < 9223372036854775807:=by omega
  show Sym _ _ _ (zT [.ptr 0 0,aI a,aI g,aI s] 1 (qj [(0,.cells [.v (.int .u64 x)])])) (xG tyB noD Tryz.f11 fun S' rv=>Fin S' rv _ 1 (qj [(0,.cells [.v (.int .u64 (tkK (xH y nc).1 S z nt).2.2)])]) 0)
  repeat' (first|(apply nx;with_reducible constructor)|refine jq (by decide) ?_|((first|refine kz env fun Q hQ=>?_|refine kj fun Q hQ=>?_);simp only [vkt,seval,qZ,jM,aTk,cTk,ql,eTk,gTk,rTk,mTk,qg,qz,zo,dI1,zP,qa,qb,coA,coB,coM,zQ,pUp,zz,vU,yJ,List.length_map,List.map_cons,List.map_nil,m1,m2,hcs,hx1,hnc1,hy];(try simp only [ite_and]);(repeat' (first|with_reducible assumption|refine And.intro ?_ ?_|intro hp));all_goals (first|(refine hQ _ ?_;clear hQ Q)|(refine hQ _ (fun h=>?_) (fun h=>?_) <;> clear hQ Q <;> (try simp only [vki,reduceCtorEq] at h))|(refine kx ?_;kernel_rfl)|omega|assumption|with_reducible rfl|skip)))
  refine qO (fun k:{ k:Nat // k≤nc }=>coA S (xH y k.1).2 s (nc - k.1) (xH y k.1).1) (fun k=>nc - k.1) ⟨0,Nat.zero_le _⟩ ?_ fun ⟨k,hk⟩=>?_
  · (refine Le.ok (fun i=>if i=3 then none else some i) [] ?_;constructor;all_goals (try simp only [vle,vkt,seval,qZ,jM,aTk,cTk,ql,eTk,gTk,rTk,mTk,qg,qz,zo,dI1,zP,qa,qb,coA,coB,coM,zQ,pUp,zz,vU,yJ,List.length_map,List.map_cons,List.map_nil]))
    all_goals first|rfl|(simp [xH];done)|(intro i hi;rw [if_neg (by omega)];done)
  simp only at hk ⊢
  by_cases hkl:k < nc
  · have d1:decide ((0:Int) < ((nc - k:Nat):Int))=true:=decide_eq_true (by omega)
    have w1:IntKind.wrap .i64 (((nc - k:Nat):Int) - 1)=((nc - (k+1):Nat):Int):=by rw [wrap64 (by omega) (by omega)];omega
    have hl:=(hcb k).1
    have hl1:(xH y k).1.length+1≤maxLen:=by omega
    have hS1:(xH y (k+1)).1=(xH y k).1++[⟨1+upV (xH y k).2 2,decide (upV (upS (xH y k).2 2) 2 < 2)⟩]:=by rw [xH]
    have hS2:(xH y (k+1)).2=upS (upS (xH y k).2 2) 2:=by rw [xH]
    repeat' (first|(apply nx;with_reducible constructor)|refine jq (by decide) ?_|((first|refine kz env fun Q hQ=>?_|refine kj fun Q hQ=>?_);simp only [vkt,seval,qZ,jM,aTk,cTk,ql,eTk,gTk,rTk,mTk,qg,qz,zo,dI1,zP,qa,qb,coA,coB,coM,zQ,pUp,zz,vU,yJ,List.length_map,List.map_cons,List.map_nil,d1,w1,hl1];(try simp only [ite_and]);(repeat' (first|with_reducible assumption|refine And.intro ?_ ?_|intro hp));all_goals (first|(refine hQ _ ?_;clear hQ Q)|(refine hQ _ (fun h=>?_) (fun h=>?_) <;> clear hQ Q <;> (try simp only [vki,reduceCtorEq] at h))|(refine kx ?_;kernel_rfl)|omega|assumption|with_reducible rfl|skip)))
    refine ⟨⟨k+1,hkl⟩,by show nc - (k+1) < nc - k;omega, ?_⟩
    show Le _ (coA S (xH y (k+1)).2 s (nc - (k+1)) (xH y (k+1)).1)
    rw [hS1,hS2]
    (refine Le.ok (fun i=>if i=3 then some 5 else some i) [] ?_;constructor;all_goals (try simp only [vle,vkt,seval,qZ,jM,aTk,cTk,ql,eTk,gTk,rTk,mTk,qg,qz,zo,dI1,zP,qa,qb,coA,coB,coM,zQ,pUp,zz,vU,yJ,List.length_map,List.map_cons,List.map_nil]))
    all_goals first|rfl|(rw [List.map_append];rfl)|(simp;done)|(intro i hi;rw [if_neg (by omega)];done)
  · have d1:decide ((0:Int) < ((nc - k:Nat):Int))=false:=decide_eq_false (by omega)
    obtain rfl:k=nc:=by omega
    obtain ⟨hcl,hcm⟩:=hcb k
    obtain ⟨⟨cs,u⟩,hcu⟩:∃ c,xH y k=c:=⟨_,rfl⟩
    rw [hcu] at hcl hcm hnt hnt1 hz ⊢
    simp only at hcl hcm hnt hnt1 hz ⊢
    repeat' (first|(apply nx;with_reducible constructor)|refine jq (by decide) ?_|((first|refine kz env fun Q hQ=>?_|refine kj fun Q hQ=>?_);simp only [vkt,seval,qZ,jM,aTk,cTk,ql,eTk,gTk,rTk,mTk,qg,qz,zo,dI1,zP,qa,qb,coA,coB,coM,zQ,pUp,zz,vU,yJ,List.length_map,List.map_cons,List.map_nil,d1,m3,hnt1,hz];(try simp only [ite_and]);(repeat' (first|with_reducible assumption|refine And.intro ?_ ?_|intro hp));all_goals (first|(refine hQ _ ?_;clear hQ Q)|(refine hQ _ (fun h=>?_) (fun h=>?_) <;> clear hQ Q <;> (try simp only [vki,reduceCtorEq] at h))|(refine kx ?_;kernel_rfl)|omega|assumption|with_reducible rfl|skip)))
    refine qO (fun j:{ j:Nat // j≤nt }=>coB cs S (tkK cs S z j.1).2.2 (tkK cs S z j.1).1 (nt - j.1) (tkK cs S z j.1).2.1) (fun j=>nt - j.1) ⟨0,Nat.zero_le _⟩ ?_ fun ⟨j,hj⟩=>?_
    · (refine Le.ok (fun i=>if i=4 then none else some i) [] ?_;constructor;all_goals (try simp only [vle,vkt,seval,qZ,jM,aTk,cTk,ql,eTk,gTk,rTk,mTk,qg,qz,zo,dI1,zP,qa,qb,coA,coB,coM,zQ,pUp,zz,vU,yJ,List.length_map,List.map_cons,List.map_nil]))
      all_goals first|rfl|(simp [tkK];done)|(intro i hi;rw [if_neg (by omega)];done)
    simp only at hj ⊢
    by_cases hjl:j < nt
    · have d1:decide ((0:Int) < ((nt - j:Nat):Int))=true:=decide_eq_true (by omega)
      have w1:IntKind.wrap .i64 (((nt - j:Nat):Int) - 1)=((nt - (j+1):Nat):Int):=by rw [wrap64 (by omega) (by omega)];omega
      obtain ⟨hp0,hp3,hll⟩:=Ub cs S z j
      have hK1:tkK cs S z (j+1)=((pA (tkK cs S z j).1 (tkK cs S z j).2.2).1,if WI (tkK cs S z j).2.1 (xB cs S (pA (tkK cs S z j).1 (tkK cs S z j).2.2).1 (pA (tkK cs S z j).1 (tkK cs S z j).2.2).2).1 then (tkK cs S z j).2.1++[(xB cs S (pA (tkK cs S z j).1 (tkK cs S z j).2.2).1 (pA (tkK cs S z j).1 (tkK cs S z j).2.2).2).1] else (tkK cs S z j).2.1,(xB cs S (pA (tkK cs S z j).1 (tkK cs S z j).2.2).1 (pA (tkK cs S z j).1 (tkK cs S z j).2.2).2).2):=by rw [tkK]
      obtain ⟨⟨p,l,s0⟩,hK⟩:∃ q,tkK cs S z j=q:=⟨_,rfl⟩
      rw [hK] at hp0 hp3 hll hK1 ⊢
      simp only at hp0 hp3 hll hK1 ⊢
      have hl1:l.length+1≤maxLen:=by omega
      have hl100:l.length≤100:=by omega
      obtain ⟨⟨p1,s1⟩,hA⟩:∃ q,pA p s0=q:=⟨_,rfl⟩
      have hAc:=QfW hA ⟨hp0,by omega⟩
      rw [hA] at hK1
      simp only at hK1
      have hn0:=up2 s1 (m:=(k:Int) - 1) (by omega) (by omega)
      obtain ⟨n,hn⟩:∃ n:Nat,upV s1 ((k:Int) - 1)=n:=⟨(upV s1 ((k:Int) - 1)).toNat,by omega⟩
      obtain ⟨s2,hs2⟩:∃ q,upS s1 ((k:Int) - 1)=q:=⟨_,rfl⟩
      obtain ⟨sx,hsx⟩:∃ q,([1,2]:List Int).getD (upV s2 1).toNat 0=q:=⟨_,rfl⟩
      obtain ⟨s3,hs3⟩:∃ q,upS s2 1=q:=⟨_,rfl⟩
      have hnk:n < cs.length:=by omega
      obtain ⟨cb,hcbv⟩:∃ q,cs.getD n default=q:=⟨_,rfl⟩
      have hcg:=Qkg hnk
      rw [hcbv] at hcg
      have hbb:=hcm cb (by rw [← hcbv];exact yL hnk)
      obtain ⟨bd,hbd⟩:∃ q,upV s3 (cb.beds - 1)=q:=⟨_,rfl⟩
      obtain ⟨s4,hs4⟩:∃ q,upS s3 (cb.beds - 1)=q:=⟨_,rfl⟩
      have hf0:=up2 s4 (m:=S - 1) (by omega) (by omega)
      obtain ⟨f,hf⟩:∃ q,upV s4 (S - 1)=q:=⟨_,rfl⟩
      rw [hf] at hf0
      obtain ⟨s5,hs5⟩:∃ q,upS s4 (S - 1)=q:=⟨_,rfl⟩
      obtain ⟨dg,hdg⟩:∃ q,decide (upV s5 7 < 1)=q:=⟨_,rfl⟩
      obtain ⟨s6,hs6⟩:∃ q,upS s5 7=q:=⟨_,rfl⟩
      obtain ⟨tt,htt⟩:∃ q,f+1+upV s6 (S - (f+1))=q:=⟨_,rfl⟩
      obtain ⟨s7,hs7⟩:∃ q,upS s6 (S - (f+1))=q:=⟨_,rfl⟩
      have hTn:xB cs S p1 s1=(⟨p1,sx,n,bd,f,tt,dg⟩,s7):=by
        unfold xB
        simp only [hcl,hn,hs2,hsx,hs3,Int.toNat_natCast,hcbv,hbd,hs4,hf,hs5,hdg,hs6,htt,hs7]
      rw [hTn] at hK1
      simp only at hK1
      have w2:IntKind.wrap .i64 ((k:Int) - 1)=(k:Int) - 1:=wrap64 (by omega) (by omega)
      have w3:IntKind.wrap .i64 (cb.beds - 1)=cb.beds - 1:=wrap64 (by omega) (by omega)
      have w4:IntKind.wrap .i64 (S - 1)=S - 1:=wrap64 (by omega) (by omega)
      have w5:IntKind.wrap .i64 (f+1)=f+1:=wrap64 (by omega) (by omega)
      have e1:(k:Int) - 1 < 9223372036854775807:=by omega
      have e2:cb.beds - 1 < 9223372036854775807:=by omega
      have e3:S - 1 < 9223372036854775807:=by omega
      have e4:-100000≤f+1:=by omega
      have e5:f+1≤100000:=by omega
      have e6:-100000≤S:=by omega
      have e7:S≤100000:=by omega
      have i0:((n:Int)).toNat=n:=rfl
      obtain ⟨gb,hgb⟩:∃ q,WI l ⟨p1,sx,n,bd,f,tt,dg⟩=q:=⟨_,rfl⟩
      rw [hgb] at hK1
      obtain ⟨bb,sB,hc1,hc2⟩:=hAc
      repeat' (first|(apply nx;with_reducible constructor)|refine jq (by decide) ?_)
      ((first|refine kz env fun Q hQ=>?_|refine kj fun Q hQ=>?_);simp only [vkt,seval,qZ,jM,aTk,cTk,ql,eTk,gTk,rTk,mTk,qg,qz,zo,dI1,zP,qa,qb,coA,coB,coM,zQ,pUp,zz,vU,yJ,List.length_map,List.map_cons,List.map_nil,d1];(try simp only [ite_and]);(repeat' (first|with_reducible assumption|refine And.intro ?_ ?_|intro hp));all_goals (first|(refine hQ _ ?_;clear hQ Q)|(refine hQ _ (fun h=>?_) (fun h=>?_) <;> clear hQ Q <;> (try simp only [vki,reduceCtorEq] at h))|(refine kx ?_;kernel_rfl)|omega|assumption|with_reducible rfl|skip))
      repeat' (first|(apply nx;with_reducible constructor)|refine jq (by decide) ?_)
      ((first|refine kz env fun Q hQ=>?_|refine kj fun Q hQ=>?_);simp only [vkt,seval,qZ,jM,aTk,cTk,ql,eTk,gTk,rTk,mTk,qg,qz,zo,dI1,zP,qa,qb,coA,coB,coM,zQ,pUp,zz,vU,yJ,List.length_map,List.map_cons,List.map_nil];(try simp only [ite_and]);(repeat' (first|with_reducible assumption|refine And.intro ?_ ?_|intro hp));all_goals (first|(refine hQ _ ?_;clear hQ Q)|(refine hQ _ (fun h=>?_) (fun h=>?_) <;> clear hQ Q <;> (try simp only [vki,reduceCtorEq] at h))|(refine kx ?_;kernel_rfl)|omega|assumption|with_reducible rfl|skip))
      repeat' (first|(apply nx;with_reducible constructor)|refine jq (by decide) ?_)
      refine Sym.mono (K:=fun e S1=>e=.normal∧Le S1 (coM cs S sB p (nt - j) l [(52,aB bb)] [] 5)) ?_ ?_
      · rcases hc1 with ⟨q0,q1,rfl,rfl⟩|⟨q0,q1,q2,rfl⟩
        all_goals
          ((first|refine kz env fun Q hQ=>?_|refine kj fun Q hQ=>?_);simp only [vkt,seval,qZ,jM,aTk,cTk,ql,eTk,gTk,rTk,mTk,qg,qz,zo,dI1,zP,qa,qb,coA,coB,coM,zQ,pUp,zz,vU,yJ,List.length_map,List.map_cons,List.map_nil,q0,q1,Bool.not_true,Bool.not_false,Bool.not_not];(try simp only [ite_and]);(repeat' (first|with_reducible assumption|refine And.intro ?_ ?_|intro hp));all_goals (first|(refine hQ _ ?_;clear hQ Q)|(refine hQ _ (fun h=>?_) (fun h=>?_) <;> clear hQ Q <;> (try simp only [vki,reduceCtorEq] at h))|(refine kx ?_;kernel_rfl)|omega|assumption|with_reducible rfl|skip))
          refine ⟨rfl, ?_⟩
          simp only [coM,List.cons_append,List.nil_append]
          (refine Le.ok some [] ?_;constructor;all_goals (try simp only [vle,vkt,seval,qZ,jM,aTk,cTk,ql,eTk,gTk,rTk,mTk,qg,qz,zo,dI1,zP,qa,qb,coA,coB,coM,zQ,pUp,zz,vU,yJ,List.length_map,List.map_cons,List.map_nil]))
          all_goals first|rfl|(simp;done)
      rintro e S1 ⟨rfl,hle⟩
      refine (Qf hle ?_:Sym _ _ _ S1 _)
      clear hle S1 hc1
      refine Sym.mono (K:=fun e S1=>e=.normal∧Le S1 (coM cs S s1 p1 (nt - j) l [] [] 5)) ?_ ?_
      · rcases hc2 with ⟨rfl,wp,hs1⟩|⟨rfl,wp,hs1⟩
        all_goals
          repeat' (first|(apply nx;with_reducible constructor)|refine jq (by decide) ?_|((first|refine kz env fun Q hQ=>?_|refine kj fun Q hQ=>?_);simp only [vkt,seval,qZ,jM,aTk,cTk,ql,eTk,gTk,rTk,mTk,qg,qz,zo,dI1,zP,qa,qb,coA,coB,coM,zQ,pUp,zz,vU,yJ,List.length_map,List.map_cons,List.map_nil,wp,hs1,List.cons_append,List.nil_append];(try simp only [ite_and]);(repeat' (first|with_reducible assumption|refine And.intro ?_ ?_|intro hp));all_goals (first|(refine hQ _ ?_;clear hQ Q)|(refine hQ _ (fun h=>?_) (fun h=>?_) <;> clear hQ Q <;> (try simp only [vki,reduceCtorEq] at h))|(refine kx ?_;kernel_rfl)|omega|assumption|with_reducible rfl|skip)))
          refine ⟨rfl, ?_⟩
          simp only [coM,List.cons_append,List.nil_append]
          (refine Le.ok some [] ?_;constructor;all_goals (try simp only [vle,vkt,seval,qZ,jM,aTk,cTk,ql,eTk,gTk,rTk,mTk,qg,qz,zo,dI1,zP,qa,qb,coA,coB,coM,zQ,pUp,zz,vU,yJ,List.length_map,List.map_cons,List.map_nil]))
          all_goals first|rfl|(rw [wp];done)|(rw [hs1];done)|(simp;done)
      rintro e S1 ⟨rfl,hle⟩
      refine (Qf hle ?_:Sym _ _ _ S1 _)
      clear hle S1 hc2
      simp only [coM,List.cons_append,List.nil_append,List.append_nil]
      repeat' (first|(apply nx;with_reducible constructor)|refine jq (by decide) ?_)
      refine Sym.mono (K:=fun e S1=>e=.normal∧Le S1 (coM cs S s2 p1 (nt - j) l [(13,aI n)] [] 5)) ?_ ?_
      · ((first|refine kz env fun Q hQ=>?_|refine kj fun Q hQ=>?_);simp only [vkt,seval,qZ,jM,aTk,cTk,ql,eTk,gTk,rTk,mTk,qg,qz,zo,dI1,zP,qa,qb,coA,coB,coM,zQ,pUp,zz,vU,yJ,List.length_map,List.map_cons,List.map_nil,hcl,w2,hn,hs2];(try simp only [ite_and]);(repeat' (first|with_reducible assumption|refine And.intro ?_ ?_|intro hp));all_goals (first|(refine hQ _ ?_;clear hQ Q)|(refine hQ _ (fun h=>?_) (fun h=>?_) <;> clear hQ Q <;> (try simp only [vki,reduceCtorEq] at h))|(refine kx ?_;kernel_rfl)|omega|assumption|with_reducible rfl|skip))
        refine ⟨rfl, ?_⟩
        simp only [coM,List.cons_append,List.nil_append]
        (refine Le.ok some [] ?_;constructor;all_goals (try simp only [vle,vkt,seval,qZ,jM,aTk,cTk,ql,eTk,gTk,rTk,mTk,qg,qz,zo,dI1,zP,qa,qb,coA,coB,coM,zQ,pUp,zz,vU,yJ,List.length_map,List.map_cons,List.map_nil]))
        all_goals first|rfl|(simp;done)
      rintro e S1 ⟨rfl,hle⟩
      refine (Qf hle ?_:Sym _ _ _ S1 _)
      clear hle S1
      simp only [coM,List.cons_append,List.nil_append,List.append_nil]
      repeat' (first|(apply nx;with_reducible constructor)|refine jq (by decide) ?_)
      refine Sym.mono (K:=fun e S1=>e=.normal∧Le S1 (coM cs S s6 p1 (nt - j) l [(14,.ptr 5 0)] [(5,.cells [aI p1,aI sx,aI n,aI bd,aI f,aI 0,aB dg])] 6)) ?_ ?_
      · ((first|refine kz env fun Q hQ=>?_|refine kj fun Q hQ=>?_);simp only [vkt,seval,qZ,jM,aTk,cTk,ql,eTk,gTk,rTk,mTk,qg,qz,zo,dI1,zP,qa,qb,coA,coB,coM,zQ,pUp,zz,vU,yJ,List.length_map,List.map_cons,List.map_nil,hsx,hs3,i0,hnk,hcg,w3,hbd,hs4,w4,hf,hs5,hdg,hs6];(try simp only [ite_and]);(repeat' (first|with_reducible assumption|refine And.intro ?_ ?_|intro hp));all_goals (first|(refine hQ _ ?_;clear hQ Q)|(refine hQ _ (fun h=>?_) (fun h=>?_) <;> clear hQ Q <;> (try simp only [vki,reduceCtorEq] at h))|(refine kx ?_;kernel_rfl)|omega|assumption|with_reducible rfl|skip))
        · exact ⟨_,_,rfl⟩
        refine ⟨rfl, ?_⟩
        simp only [coM,List.cons_append,List.nil_append]
        (refine Le.ok (fun i=>if i=5 then some 6 else some i) [] ?_;constructor;all_goals (try simp only [vle,vkt,seval,qZ,jM,aTk,cTk,ql,eTk,gTk,rTk,mTk,qg,qz,zo,dI1,zP,qa,qb,coA,coB,coM,zQ,pUp,zz,vU,yJ,List.length_map,List.map_cons,List.map_nil]))
        all_goals first|rfl|(simp;done)|(intro i hi;rw [if_neg (by omega)];done)
      rintro e S1 ⟨rfl,hle⟩
      refine (Qf hle ?_:Sym _ _ _ S1 _)
      clear hle S1
      simp only [coM,List.cons_append,List.nil_append,List.append_nil]
      repeat' (first|(apply nx;with_reducible constructor)|refine jq (by decide) ?_)
      ((first|refine kz env fun Q hQ=>?_|refine kj fun Q hQ=>?_);simp only [vkt,seval,qZ,jM,aTk,cTk,ql,eTk,gTk,rTk,mTk,qg,qz,zo,dI1,zP,qa,qb,coA,coB,coM,zQ,pUp,zz,vU,yJ,List.length_map,List.map_cons,List.map_nil,w5,htt,hs7];(try simp only [ite_and]);(repeat' (first|with_reducible assumption|refine And.intro ?_ ?_|intro hp));all_goals (first|(refine hQ _ ?_;clear hQ Q)|(refine hQ _ (fun h=>?_) (fun h=>?_) <;> clear hQ Q <;> (try simp only [vki,reduceCtorEq] at h))|(refine kx ?_;kernel_rfl)|omega|assumption|with_reducible rfl|skip))
      repeat' (first|(apply nx;with_reducible constructor)|refine jq (by decide) ?_)
      ((first|refine kz env fun Q hQ=>?_|refine kj fun Q hQ=>?_);simp only [vkt,seval,qZ,jM,aTk,cTk,ql,eTk,gTk,rTk,mTk,qg,qz,zo,dI1,zP,qa,qb,coA,coB,coM,zQ,pUp,zz,vU,yJ,List.length_map,List.map_cons,List.map_nil,hl100,hgb];(try simp only [ite_and]);(repeat' (first|with_reducible assumption|refine And.intro ?_ ?_|intro hp));all_goals (first|(refine hQ _ ?_;clear hQ Q)|(refine hQ _ (fun h=>?_) (fun h=>?_) <;> clear hQ Q <;> (try simp only [vki,reduceCtorEq] at h))|(refine kx ?_;kernel_rfl)|omega|assumption|with_reducible rfl|skip))
      cases gb with
      |true =>
        rw [if_pos rfl] at hK1
        repeat' (first|(apply nx;with_reducible constructor)|refine jq (by decide) ?_|((first|refine kz env fun Q hQ=>?_|refine kj fun Q hQ=>?_);simp only [vkt,seval,qZ,jM,aTk,cTk,ql,eTk,gTk,rTk,mTk,qg,qz,zo,dI1,zP,qa,qb,coA,coB,coM,zQ,pUp,zz,vU,yJ,List.length_map,List.map_cons,List.map_nil,hl1,w1];(try simp only [ite_and]);(repeat' (first|with_reducible assumption|refine And.intro ?_ ?_|intro hp));all_goals (first|(refine hQ _ ?_;clear hQ Q)|(refine hQ _ (fun h=>?_) (fun h=>?_) <;> clear hQ Q <;> (try simp only [vki,reduceCtorEq] at h))|(refine kx ?_;kernel_rfl)|omega|assumption|with_reducible rfl|skip)))
        refine ⟨⟨j+1,hjl⟩,by show nt - (j+1) < nt - j;omega, ?_⟩
        show Le _ (coB cs S (tkK cs S z (j+1)).2.2 (tkK cs S z (j+1)).1 (nt - (j+1)) (tkK cs S z (j+1)).2.1)
        rw [hK1]
        (refine Le.ok (fun i=>if i=4 then some 7 else some i) [] ?_;constructor;all_goals (try simp only [vle,vkt,seval,qZ,jM,aTk,cTk,ql,eTk,gTk,rTk,mTk,qg,qz,zo,dI1,zP,qa,qb,coA,coB,coM,zQ,pUp,zz,vU,yJ,List.length_map,List.map_cons,List.map_nil]))
        all_goals first|rfl|(rw [List.map_append];rfl)|(simp;done)|(intro i hi;rw [if_neg (by omega)];done)
      |false =>
        rw [if_neg (by decide)] at hK1
        repeat' (first|(apply nx;with_reducible constructor)|refine jq (by decide) ?_|((first|refine kz env fun Q hQ=>?_|refine kj fun Q hQ=>?_);simp only [vkt,seval,qZ,jM,aTk,cTk,ql,eTk,gTk,rTk,mTk,qg,qz,zo,dI1,zP,qa,qb,coA,coB,coM,zQ,pUp,zz,vU,yJ,List.length_map,List.map_cons,List.map_nil,hl1,w1];(try simp only [ite_and]);(repeat' (first|with_reducible assumption|refine And.intro ?_ ?_|intro hp));all_goals (first|(refine hQ _ ?_;clear hQ Q)|(refine hQ _ (fun h=>?_) (fun h=>?_) <;> clear hQ Q <;> (try simp only [vki,reduceCtorEq] at h))|(refine kx ?_;kernel_rfl)|omega|assumption|with_reducible rfl|skip)))
        refine ⟨⟨j+1,hjl⟩,by show nt - (j+1) < nt - j;omega, ?_⟩
        show Le _ (coB cs S (tkK cs S z (j+1)).2.2 (tkK cs S z (j+1)).1 (nt - (j+1)) (tkK cs S z (j+1)).2.1)
        rw [hK1]
        (refine Le.ok some [] ?_;constructor;all_goals (try simp only [vle,vkt,seval,qZ,jM,aTk,cTk,ql,eTk,gTk,rTk,mTk,qg,qz,zo,dI1,zP,qa,qb,coA,coB,coM,zQ,pUp,zz,vU,yJ,List.length_map,List.map_cons,List.map_nil]))
        all_goals first|rfl|(simp;done)
    · have d1:decide ((0:Int) < ((nt - j:Nat):Int))=false:=decide_eq_false (by omega)
      obtain rfl:j=nt:=by omega
      obtain ⟨⟨p,l,s0⟩,hK⟩:∃ q,tkK cs S z j=q:=⟨_,rfl⟩
      rw [hK]
      repeat' (first|(apply nx;with_reducible constructor)|refine jq (by decide) ?_|((first|refine kz env fun Q hQ=>?_|refine kj fun Q hQ=>?_);simp only [vkt,seval,qZ,jM,aTk,cTk,ql,eTk,gTk,rTk,mTk,qg,qz,zo,dI1,zP,qa,qb,coA,coB,coM,zQ,pUp,zz,vU,yJ,List.length_map,List.map_cons,List.map_nil,d1];(try simp only [ite_and]);(repeat' (first|with_reducible assumption|refine And.intro ?_ ?_|intro hp));all_goals (first|(refine hQ _ ?_;clear hQ Q)|(refine hQ _ (fun h=>?_) (fun h=>?_) <;> clear hQ Q <;> (try simp only [vki,reduceCtorEq] at h))|(refine kx ?_;kernel_rfl)|omega|assumption|with_reducible rfl|skip)))
      (simp only [vrt,Tryz.results11,vkt,seval,qZ,jM,aTk,cTk,ql,eTk,gTk,rTk,mTk,qg,qz,zo,dI1,zP,qa,qb,coA,coB,coM,zQ,pUp,zz,vU,yJ,List.length_map,List.map_cons,List.map_nil];refine Fin.ok some [3,4] ?_ ?_ ?_ ?_ ?_ rfl;all_goals (try simp only [vle,vkt,seval,qZ,jM,aTk,cTk,ql,eTk,gTk,rTk,mTk,qg,qz,zo,dI1,zP,qa,qb,coA,coB,coM,zQ,pUp,zz,vU,yJ,List.length_map,List.map_cons,List.map_nil]))
      all_goals first|rfl|(simp;done)
end Go.Sym.B
namespace Go.Sym.B
open Go Go.Sym Go.Proofs Go.Sym.C
noncomputable def sxV (s:Int):Int:=([1,2]:List Int).getD (upV s 1).toNat 0
noncomputable def sxK (x:Int):Nat→List Int × Int
  |0=>([],x)
  |k+1=>((sxK x k).1++[sxV (sxK x k).2],upS (sxK x k).2 1)
noncomputable def aoF (x secs:Int):Int:=upV (upS x 39) (secs - 1)
noncomputable def aoX2 (x secs:Int):Int:=upS (upS x 39) (secs - 1)
noncomputable def Qdr (x secs:Int):Int:=upS (aoX2 x secs) 5
noncomputable def aoT (x secs:Int):Int:=aoF x secs+1+upV (Qdr x secs) (secs - (aoF x secs+1))
noncomputable def Qcb (x secs:Int):Int:=upS (Qdr x secs) (secs - (aoF x secs+1))
noncomputable def aoS (x secs n:Int):List Int × Int:=sxK (upS (Qcb x secs) (n - 1)) (1+upV (Qcb x secs) (n - 1)).toNat
noncomputable def aoA (x secs n:Int):Ask:=⟨60+upV x 39,aoF x secs,aoT x secs,(aoS x secs n).1,decide (upV (aoX2 x secs) 5 < 1)⟩
noncomputable def aoX (x secs n:Int):Int:=(aoS x secs n).2
theorem QfP (s:Int):1≤sxV s∧sxV s≤2:=by
  have h:=up2 s (m:=1) (by omega) (by omega)
  unfold sxV
  obtain h0|h0:(upV s 1).toNat=0∨(upV s 1).toNat=1:=by omega
  · rw [h0];decide
  · rw [h0];decide
theorem QbV (x:Int):∀ k,(sxK x k).1.length=k∧∀ c ∈ (sxK x k).1,1≤c∧c≤2
  |0=>⟨rfl,by simp [sxK]⟩
  |k+1=>by
    obtain ⟨h1,h2⟩:=QbV x k
    have h3:=QfP (sxK x k).2
    rw [sxK]
    refine ⟨by simp [h1],fun c hc=>?_⟩
    rcases List.mem_append.1 hc with hc|hc
    · exact h2 c hc
    · rw [List.mem_singleton.1 hc];exact h3
def aoI (c:Chart) (s pt f t:Int) (d:Bool) (i:Nat) (l:List Int):St:={ t:=asg [(0,.ptr 0 0),(6,.ptr 2 0),(7,.ptr 3 0),(8,aI i)],h:=qj [(0,.cells [.v (.int .u64 s)]),(2,.cells [aI 0,aI 0,aI 0,.nil,aB false]),(3,.cells [aI pt,aI f,aI t,.row 4,aB d]),(4,.row 3 1 (l.map zJ))],n:=5,m:=1 }
def ve:=kk @ty3 (kk @jO (kk @QG (kk @Qy (kk @ti3.eq_1 (kk @jo.eq_1 (kk @kX.eq_1 @kU.eq_1))))))
def Yd:=kk @aI.eq_1 (kk @aB.eq_1 (kk @qB.eq_1 (kk @zJ.eq_1 (@QbF))))
set_option maxHeartbeats 2000000 in
theorem QaY (x:Int) (c:Chart) (n:Int) (hg:1≤c.secs∧c.secs≤5) (hn:1≤n∧n≤3):Fn noB Tryz.prog 12 [.ptr 0 0,qa c,aI n] (qj (zP x)) (qx (aoA x c.secs n)) (qj (zP (aoX x c.secs n))) 0:=by
  have env:Env (fun _=>True) Tryz.prog tyB (tab [(13,fnE zQ),(31,fnE pUp),(26,fnE zz),(47,fnE vU)]):=qL ⟨Qha,eUp,QcE,eOne,trivial⟩
  refine Fn.of (A:=fun _=>True) (n0:=1) (D:=noD) (Fn0 Tryz.func12 rfl (fun vs w=>by kernel_rfl) (by kernel_rfl)) (by simp) (by simp [AV.ids,AV.idsL,aI,qa,qb]) ?_ (fun _ _ _ _=>trivial) qF ?_
  · intro i o hi
    have h:=qQ hi
    simp [zP] at h
    rcases h with ⟨rfl,rfl⟩;simp [AObj.ids,AV.ids,AV.idsL]
  have m1:min n 3=n:=by omega
  have hmx:(100000:Nat)≤maxLen:=by decide
  obtain ⟨S,hS⟩:∃ S,c.secs=S:=⟨_,rfl⟩
  rw [hS] at hg ⊢
  have hpt:=up2 x (m:=39) (by omega) (by omega)
  obtain ⟨pt,hpt1⟩:∃ q,60+upV x 39=q:=⟨_,rfl⟩
  obtain ⟨x1,hx1⟩:∃ q,upS x 39=q:=⟨_,rfl⟩
  have hf0:=up2 x1 (m:=S - 1) (by omega) (by omega)
  obtain ⟨f,hf⟩:∃ q,upV x1 (S - 1)=q:=⟨_,rfl⟩
  rw [hf] at hf0
  obtain ⟨x2,hx2⟩:∃ q,upS x1 (S - 1)=q:=⟨_,rfl⟩
  obtain ⟨dg,hdg⟩:∃ q,decide (upV x2 5 < 1)=q:=⟨_,rfl⟩
  obtain ⟨x3,hx3⟩:∃ q,upS x2 5=q:=⟨_,rfl⟩
  obtain ⟨tt,htt⟩:∃ q,f+1+upV x3 (S - (f+1))=q:=⟨_,rfl⟩
  obtain ⟨x4,hx4⟩:∃ q,upS x3 (S - (f+1))=q:=⟨_,rfl⟩
  have hnp:=up2 x4 (m:=n - 1) (by omega) (by omega)
  obtain ⟨np,hnp1⟩:∃ q:Nat,1+upV x4 (n - 1)=q:=⟨(1+upV x4 (n - 1)).toNat,by omega⟩
  obtain ⟨y,hy⟩:∃ q,upS x4 (n - 1)=q:=⟨_,rfl⟩
  have e1:aoF x S=f:=by unfold aoF;rw [hx1,hf]
  have e2:aoX2 x S=x2:=by unfold aoX2;rw [hx1,hx2]
  have e3:Qdr x S=x3:=by unfold Qdr;rw [e2,hx3]
  have e4:aoT x S=tt:=by unfold aoT;rw [e1,e3,htt]
  have e5:Qcb x S=x4:=by unfold Qcb;rw [e3,e1,hx4]
  have e6:aoS x S n=sxK y np:=by unfold aoS;rw [e5,hy,hnp1];rfl
  unfold aoX aoA
  rw [e1,e2,e4,e6,hpt1,hdg]
  have w4:IntKind.wrap .i64 (S - 1)=S - 1:=wrap64 (by omega) (by omega)
  have w5:IntKind.wrap .i64 (f+1)=f+1:=wrap64 (by omega) (by omega)
  have b3:S - 1 < 9223372036854775807:=by omega
  have b4:-100000≤f+1:=by omega
  have b5:f+1≤100000:=by omega
  have b6:-100000≤S:=by omega
  have b7:S≤100000:=by omega
  have b8:-100000≤n:=by omega
  have b9:n≤100000:=by omega
  show Sym _ _ _ (zT [.ptr 0 0,qa c,aI n] 1 (qj [(0,.cells [.v (.int .u64 x)])])) (xG tyB noD Tryz.f12 fun S' rv=>Fin S' rv _ 1 (qj [(0,.cells [.v (.int .u64 (sxK y np).2)])]) 0)
  repeat' (first|(apply nx;with_reducible constructor)|refine jq (by decide) ?_|((first|refine kz env fun Q hQ=>?_|refine kj fun Q hQ=>?_);simp only [vkt,seval,ve,Yd,dI1,zP,qa,qb,qx,qh,aoI,zQ,pUp,zz,vU,List.length_map,List.map_cons,List.map_nil,hS,m1,hpt1,hx1,w4,hf,hx2,hdg,hx3,w5,htt,hx4,hnp1,hy];(try simp only [ite_and]);(repeat' (first|with_reducible assumption|refine And.intro ?_ ?_|intro hp));all_goals (first|(refine hQ _ ?_;clear hQ Q)|(refine hQ _ (fun h=>?_) (fun h=>?_) <;> clear hQ Q <;> (try simp only [vki,reduceCtorEq] at h))|(refine kx ?_;kernel_rfl)|omega|assumption|with_reducible rfl|skip)))
  refine qO (fun k:{ k:Nat // k≤np }=>aoI c (sxK y k.1).2 pt f tt dg (np - k.1) (sxK y k.1).1) (fun k=>np - k.1) ⟨0,Nat.zero_le _⟩ ?_ fun ⟨k,hk⟩=>?_
  · (refine Le.ok (fun i=>if i=4 then none else some i) [] ?_;constructor;all_goals (try simp only [vle,vkt,seval,ve,Yd,dI1,zP,qa,qb,qx,qh,aoI,zQ,pUp,zz,vU,List.length_map,List.map_cons,List.map_nil]))
    all_goals first|rfl|(simp [sxK];done)|(intro i hi;rw [if_neg (by omega)];done)
  simp only at hk ⊢
  by_cases hkl:k < np
  · have d1:decide ((0:Int) < ((np - k:Nat):Int))=true:=decide_eq_true (by omega)
    have w1:IntKind.wrap .i64 (((np - k:Nat):Int) - 1)=((np - (k+1):Nat):Int):=by rw [wrap64 (by omega) (by omega)];omega
    have hl:=(QbV y k).1
    have hl1:(sxK y k).1.length+1≤maxLen:=by omega
    have hK1:sxK y (k+1)=((sxK y k).1++[sxV (sxK y k).2],upS (sxK y k).2 1):=by rw [sxK]
    obtain ⟨⟨l,s⟩,hK⟩:∃ q,sxK y k=q:=⟨_,rfl⟩
    rw [hK] at hl hl1 hK1 ⊢
    have hl8:(l.length+1) * 8≤140737488355328:=by simp only at hl;omega
    obtain ⟨v,hv⟩:∃ v,sxV s=v:=⟨_,rfl⟩
    simp only [hv] at hK1
    have hv:([1,2]:List Int).getD (upV s 1).toNat 0=v:=hv
    repeat' (first|(apply nx;with_reducible constructor)|refine jq (by decide) ?_|((first|refine kz env fun Q hQ=>?_|refine kj fun Q hQ=>?_);simp only [vkt,seval,ve,Yd,dI1,zP,qa,qb,qx,qh,aoI,zQ,pUp,zz,vU,List.length_map,List.map_cons,List.map_nil,d1,w1,hl1,hl8,hv];(try simp only [ite_and]);(repeat' (first|with_reducible assumption|refine And.intro ?_ ?_|intro hp));all_goals (first|(refine hQ _ ?_;clear hQ Q)|(refine hQ _ (fun h=>?_) (fun h=>?_) <;> clear hQ Q <;> (try simp only [vki,reduceCtorEq] at h))|(refine kx ?_;kernel_rfl)|omega|assumption|with_reducible rfl|skip)))
    · exact ⟨_,_,rfl⟩
    refine ⟨⟨k+1,hkl⟩,by show np - (k+1) < np - k;omega, ?_⟩
    show Le _ (aoI c (sxK y (k+1)).2 pt f tt dg (np - (k+1)) (sxK y (k+1)).1)
    rw [hK1]
    (refine Le.ok (fun i=>if i=4 then some 7 else some i) [] ?_;constructor;all_goals (try simp only [vle,vkt,seval,ve,Yd,dI1,zP,qa,qb,qx,qh,aoI,zQ,pUp,zz,vU,List.length_map,List.map_cons,List.map_nil]))
    all_goals first|rfl|(rw [List.map_append];rfl)|(simp;done)|(intro i hi;rw [if_neg (by omega)];done)
  · have d1:decide ((0:Int) < ((np - k:Nat):Int))=false:=decide_eq_false (by omega)
    obtain rfl:k=np:=by omega
    obtain ⟨⟨l,s⟩,hK⟩:∃ q,sxK y k=q:=⟨_,rfl⟩
    rw [hK]
    repeat' (first|(apply nx;with_reducible constructor)|refine jq (by decide) ?_|((first|refine kz env fun Q hQ=>?_|refine kj fun Q hQ=>?_);simp only [vkt,seval,ve,Yd,dI1,zP,qa,qb,qx,qh,aoI,zQ,pUp,zz,vU,List.length_map,List.map_cons,List.map_nil,d1];(try simp only [ite_and]);(repeat' (first|with_reducible assumption|refine And.intro ?_ ?_|intro hp));all_goals (first|(refine hQ _ ?_;clear hQ Q)|(refine hQ _ (fun h=>?_) (fun h=>?_) <;> clear hQ Q <;> (try simp only [vki,reduceCtorEq] at h))|(refine kx ?_;kernel_rfl)|omega|assumption|with_reducible rfl|skip)))
    (simp only [vrt,Tryz.results12,vkt,seval,ve,Yd,dI1,zP,qa,qb,qx,qh,aoI,zQ,pUp,zz,vU,List.length_map,List.map_cons,List.map_nil];refine Fin.ok some [4] ?_ ?_ ?_ ?_ ?_ rfl;all_goals (try simp only [vle,vkt,seval,ve,Yd,dI1,zP,qa,qb,qx,qh,aoI,zQ,pUp,zz,vU,List.length_map,List.map_cons,List.map_nil]))
    all_goals first|rfl|(simp;done)
end Go.Sym.B
namespace Go.Sym.B
open Go Go.Sym Go.Proofs Go.Sym.C
theorem Qj {cs:List Cabin} {s:Int} {l:List Tk}:∀ i o,qj (qN 0 (qy cs s l)) i=some o→i < 2∧∀ id ∈ o.ids,id < 2:=by
  intro i o hi
  have h:=qQ hi
  simp [qN,qy] at h
  rcases h with ⟨rfl,rfl⟩|⟨rfl,rfl⟩ <;> simp [AObj.ids,AV.ids,AV.idsL,qo,qw]
def vw (S:St):List AV→Option Pk
  |[.ptr c 0,.sl bs]=>match S.h c with
    |some (.cells [.sl cs,.v (.int .i64 s),.row r])=>match S.h r with
      |some (.row _ _ xs)=>some { pre:=bs=(bs.map zB).map qm∧cs=(cs.map qp).map qg∧xs=(xs.map dTk).map eTk∧NearOk (cs.map qp) (bs.map zB),hs:=[c,r],ar:=[.ptr 0 0,.sl bs],L0:=qy (cs.map qp) s (xs.map dTk),v:=aB (Q7 (cs.map qp) (bs.map zB)),L1:=(qy (cs.map qp) s (xs.map dTk)).map some }
      |_=>none
    |_=>none
  |_=>none
theorem eNear {A:Frm→Prop}:qE A Tryz.prog 130 (fnE vw):=wh fun S bs q h hp=>by
  unfold vw at h
  split at h
  · split at h
    · split at h
      · cases h
        obtain ⟨h1,h2,h3,h4⟩:=hp
        have:=QhT _ (by assumption) (List.map dTk (by assumption)) _ h4
        rw [qc,← h1] at this
        exact this
      · cases h
    · cases h
  · cases h
def Vf:=kk @x8 (kk @jO (kk @Zi (kk @yK (kk @JQ (kk @xw.eq_1 (kk @jo.eq_1 (kk @Qt.eq_1 (kk @yn.eq_1 @ZR.eq_1))))))))
def QbO:=kk @aI.eq_1 (@aB.eq_1)
theorem QhL (cs:List Cabin) (s:Int) (sold:List Tk) (t:Tk) (hl:sold.length≤100):Fn noB Tryz.prog 81 [.ptr 0 0,aTk t] (qj (qN 0 (qy cs s sold))) (aB (decide (zX t sold=0))) (qj (wE 0 ((qy cs s sold).map some))) 0:=by
  have env:Env (fun _=>True) Tryz.prog tyB (tab [(118,qU true jT)]):=qL ⟨QcC,trivial⟩
  refine Fn.of (A:=fun _=>True) (n0:=2) (D:=noD) (Fn0 Tryz.func81 rfl (fun vs w=>by kernel_rfl) (by kernel_rfl)) (by simp) (by simp [AV.ids,AV.idsL,aTk,cTk]) Qj (fun _ _ _ _=>trivial) qF ?_
  have et:(⟨t.party,t.sex,t.cab,t.bed,t.frm,t.to,t.dog⟩:Tk)=t:=rfl
  show Sym _ _ _ (zT [.ptr 0 0,aTk t] 2 (qj [(0,qo cs s 1),(1,qw sold)])) (xG tyB noD Tryz.f81 fun S rv=>Fin S rv _ 2 (qj [(0,qo cs s 1),(1,qw sold)]) 0)
  repeat' (first|(apply nx;with_reducible constructor)|refine jq (by decide) ?_|((first|refine kz env fun Q hQ=>?_|refine kj fun Q hQ=>?_);simp only [vkt,seval,Vf,QbO,aTk,cTk,ql,mTk,qo,qw,qy,jT,List.length_map,et];(try simp only [ite_and]);(repeat' (first|with_reducible assumption|refine And.intro ?_ ?_|intro hp));all_goals (first|(refine hQ _ ?_;clear hQ Q)|(refine hQ _ (fun h=>?_) (fun h=>?_) <;> clear hQ Q <;> (try simp only [vki,reduceCtorEq] at h))|(refine kx ?_;kernel_rfl)|omega|assumption|with_reducible rfl|skip)))
  (simp only [vrt,Tryz.results81,vkt,seval,Vf,QbO,aTk,cTk,ql,mTk,qo,qw,qy,jT,List.length_map];refine Fin.ok some [] ?_ ?_ ?_ ?_ ?_ rfl;all_goals (try simp only [vle,vkt,seval,Vf,QbO,aTk,cTk,ql,mTk,qo,qw,qy,jT,List.length_map]))
  all_goals first|rfl|(simp;done)
def vo (S:St):List AV→Option Pk
  |[.ptr c 0,.agg [.v (.int .i64 a),.v (.int .i64 b),.v (.int .i64 d),.v (.int .i64 e),.v (.int .i64 f),.v (.int .i64 g),.v (.bool k)]]=>match S.h c with
    |some (.cells [.sl cs,.v (.int .i64 s),.row r])=>match S.h r with
      |some (.row _ _ xs)=>some { pre:=cs=(cs.map qp).map qg∧xs=(xs.map dTk).map eTk∧xs.length≤100,hs:=[c,r],ar:=[.ptr 0 0,.agg [.v (.int .i64 a),.v (.int .i64 b),.v (.int .i64 d),.v (.int .i64 e),.v (.int .i64 f),.v (.int .i64 g),.v (.bool k)]],L0:=qy (cs.map qp) s (xs.map dTk),v:=aB (decide (zX ⟨a,b,d,e,f,g,k⟩ (xs.map dTk)=0)),L1:=(qy (cs.map qp) s (xs.map dTk)).map some }
      |_=>none
    |_=>none
  |_=>none
theorem eFits {A:Frm→Prop}:qE A Tryz.prog 81 (fnE vo):=wh fun S bs q h hp=>by
  unfold vo at h
  split at h
  · rename_i a b d e f g k
    split at h
    · split at h
      · rename_i s _ _ _ _ xs _
        cases h
        obtain ⟨h1,h2,h3⟩:=hp
        exact QhL _ _ _ ⟨a,b,d,e,f,g,k⟩ (by rw [List.length_map];exact h3)
      · cases h
    · cases h
  · cases h
theorem Qhw {l:List Tk} {r:List DV} {d:DV} (hr:r ∈ l.map eTk) (hd:d ∈ r):∃ x,d=.v x:=by
  obtain ⟨t,_,rfl⟩:=List.mem_map.1 hr
  simp only [eTk,List.mem_cons,List.not_mem_nil,or_false] at hd
  rcases hd with rfl|rfl|rfl|rfl|rfl|rfl|rfl <;> exact ⟨_,rfl⟩
def Qv (cs:List Cabin) (s:Int) (l:List Tk) (t:Tk):List AObj:=[qo cs s 4,qw l,.cells [.row 1],.cells [.ptr 0 0],qw (l++[t])]
def Vo:=kk @x8 (kk @jO (kk @yK (kk @YQ (kk @JQ (kk @xw.eq_1 (kk @jo.eq_1 (kk @yn.eq_1 (kk @JK.eq_1 @ZR.eq_1))))))))
def Qbq:=kk @aI.eq_1 (@aB.eq_1)
theorem QhJ (cs:List Cabin) (s:Int) (sold:List Tk) (t:Tk) (hl:sold.length≤100):Fn noB Tryz.prog 87 [.ptr 0 0,aTk t] (qj (qN 0 (qy cs s sold))) (.clo 122 [.ptr 2 0,.ptr 3 0]) (qj (wE 0 ((Qv cs s sold t).map some))) 0:=by
  have env:Env (fun _=>True) Tryz.prog tyB (tab [(116,fnE Qr)]):=qL ⟨Qcw,trivial⟩
  refine Fn.of (A:=fun _=>True) (n0:=2) (D:=noD) (Fn0 Tryz.func87 rfl (fun vs w=>by kernel_rfl) (by kernel_rfl)) (by simp) (by simp [AV.ids,AV.idsL,aTk,cTk]) Qj (fun _ _ _ _=>trivial) qF ?_
  have hm:(100:Nat)+1≤maxLen:=by decide
  show Sym _ _ _ (zT [.ptr 0 0,aTk t] 2 (qj [(0,qo cs s 1),(1,qw sold)])) (xG tyB noD Tryz.f87 fun S rv=>Fin S rv _ 2 (qj [(0,qo cs s 4),(1,qw sold),(2,.cells [.row 1]),(3,.cells [.ptr 0 0]),(4,qw (sold++[t]))]) 0)
  repeat' (first|(apply nx;with_reducible constructor)|refine jq (by decide) ?_|((first|refine kz env fun Q hQ=>?_|refine kj fun Q hQ=>?_);simp only [vkt,seval,Vo,Qbq,aTk,cTk,ql,mTk,eTk,rTk,qo,qw,qy,Qv,Qr,List.length_map,List.length_append,List.map_append];(try simp only [ite_and]);(repeat' (first|with_reducible assumption|refine And.intro ?_ ?_|intro hp));all_goals (first|(refine hQ _ ?_;clear hQ Q)|(refine hQ _ (fun h=>?_) (fun h=>?_) <;> clear hQ Q <;> (try simp only [vki,reduceCtorEq] at h))|(refine kx ?_;kernel_rfl)|omega|assumption|with_reducible rfl|skip)))
  · exact ⟨_,_,rfl⟩
  · exact Qhw (by assumption) (by assumption)
  (simp only [vrt,Tryz.results87,vkt,seval,Vo,Qbq,aTk,cTk,ql,mTk,eTk,rTk,qo,qw,qy,Qv,Qr,List.length_map,List.length_append,List.map_append];refine Fin.ok (fun j=>[0,1,4,2,7][j]?) [] ?_ ?_ ?_ ?_ ?_ rfl;all_goals (try simp only [vle,vkt,seval,Vo,Qbq,aTk,cTk,ql,mTk,eTk,rTk,qo,qw,qy,Qv,Qr,List.length_map,List.length_append,List.map_append]))
  all_goals first|rfl|(simp;done)|exact fun i hi=>(match i,hi with|0,_=>rfl|1,_=>rfl)
def Yx (S:St):List AV→Option Pk
  |[.ptr c 0,.agg [.v (.int .i64 a),.v (.int .i64 b),.v (.int .i64 d),.v (.int .i64 e),.v (.int .i64 f),.v (.int .i64 g),.v (.bool k)]]=>match S.h c with
    |some (.cells [.sl cs,.v (.int .i64 s),.row r])=>match S.h r with
      |some (.row _ _ xs)=>some { pre:=cs=(cs.map qp).map qg∧xs=(xs.map dTk).map eTk∧xs.length≤100,hs:=[c,r],ar:=[.ptr 0 0,.agg [.v (.int .i64 a),.v (.int .i64 b),.v (.int .i64 d),.v (.int .i64 e),.v (.int .i64 f),.v (.int .i64 g),.v (.bool k)]],L0:=qy (cs.map qp) s (xs.map dTk),v:=.clo 122 [.ptr 2 0,.ptr 3 0],L1:=(Qv (cs.map qp) s (xs.map dTk) ⟨a,b,d,e,f,g,k⟩).map some }
      |_=>none
    |_=>none
  |_=>none
theorem eSell {A:Frm→Prop}:qE A Tryz.prog 87 (fnE Yx):=wh fun S bs q h hp=>by
  unfold Yx at h
  split at h
  · rename_i a b d e f g k
    split at h
    · split at h
      · cases h
        obtain ⟨h1,h2,h3⟩:=hp
        exact QhJ _ _ _ ⟨a,b,d,e,f,g,k⟩ (by rw [List.length_map];exact h3)
      · cases h
    · cases h
  · cases h
def JS:=kk @x8 (kk @jO (kk @yK (kk @YQ (kk @JQ (kk @xw.eq_1 (kk @jo.eq_1 (kk @yn.eq_1 (kk @JK.eq_1 @ZR.eq_1))))))))
def Qbl:=kk @aI.eq_1 (@aB.eq_1)
theorem Qg2 (cs:List Cabin) (s:Int) (sold:List Tk) (t:Tk):FnD Tryz.prog 122 [.ptr 2 0,.ptr 3 0] (qj (qN 0 (Qv cs s sold t))) (.tup []) (qj (wE 0 ([qo cs s 1,qw sold,.cells [.row 1],.cells [.ptr 0 0],qw (sold++[t])].map some))):=by
  have env:Env (fun F=>F.r=none) Tryz.prog tyB (tab []):=qL trivial
  refine FnD.of (n0:=5) (Fn0 Tryz.func122 rfl (fun vs w=>by kernel_rfl) (by kernel_rfl)) (by simp) (by simp [AV.ids,AV.idsL]) ?_ ?_
  · intro i o hi
    have h:=qQ hi
    simp [qN,Qv] at h
    rcases h with ⟨rfl,rfl⟩|⟨rfl,rfl⟩|⟨rfl,rfl⟩|⟨rfl,rfl⟩|⟨rfl,rfl⟩ <;> simp [AObj.ids,AV.ids,AV.idsL,qo,qw]
  show Sym _ _ _ (zT [.ptr 2 0,.ptr 3 0] 5 (qj [(0,qo cs s 4),(1,qw sold),(2,.cells [.row 1]),(3,.cells [.ptr 0 0]),(4,qw (sold++[t]))])) (QgQ tyB Tryz.f122 fun S rv=>Fin S rv _ 5 (qj [(0,qo cs s 1),(1,qw sold),(2,.cells [.row 1]),(3,.cells [.ptr 0 0]),(4,qw (sold++[t]))]) 0)
  repeat' (first|(apply nx;with_reducible constructor)|refine jq (by decide) ?_|((first|refine kz env fun Q hQ=>?_|refine kj fun Q hQ=>?_);simp only [vkt,seval,JS,Qbl,qo,qw,Qv];(try simp only [ite_and]);(repeat' (first|with_reducible assumption|refine And.intro ?_ ?_|intro hp));all_goals (first|(refine hQ _ ?_;clear hQ Q)|(refine hQ _ (fun h=>?_) (fun h=>?_) <;> clear hQ Q <;> (try simp only [vki,reduceCtorEq] at h))|(refine kx ?_;kernel_rfl)|omega|assumption|with_reducible rfl|skip)))
  simp only [QgQ.eq_1]
  refine ⟨trivial, ?_⟩
  (simp only [vrt,Tryz.results122,vkt,seval,JS,Qbl,qo,qw,Qv];refine Fin.ok some [] ?_ ?_ ?_ ?_ ?_ rfl;all_goals (try simp only [vle,vkt,seval,JS,Qbl,qo,qw,Qv]))
  all_goals first|rfl|(simp;done)
def Z5 (S:St):List AV→Option Pk
  |[.ptr b 0,.ptr q 0]=>match S.h b,S.h q with
    |some (.cells [.row r]),some (.cells [.ptr c 0])=>match S.h c with
      |some (.cells [.sl cs,.v (.int .i64 s),.row r'])=>match S.h r,S.h r' with
        |some (.row _ _ xs),some (.row _ _ ys)=>some { pre:=cs=(cs.map qp).map qg∧ys=(xs.map dTk).map eTk++[ys.getLastD []]∧ys.getLastD []=eTk (dTk (ys.getLastD [])),hs:=[c,r,b,q,r'],ar:=[.ptr 2 0,.ptr 3 0],L0:=Qv (cs.map qp) s (xs.map dTk) (dTk (ys.getLastD [])),v:=.tup [],L1:=[qo (cs.map qp) s 1,qw (xs.map dTk),.cells [.row 1],.cells [.ptr 0 0],qw (xs.map dTk++[dTk (ys.getLastD [])])].map some }
        |_,_=>none
      |_=>none
    |_,_=>none
  |_=>none
theorem Qji {A:Frm→Prop}:Zv.OK A Tryz.prog (dfE 122 Z5):=Qg3 fun S bs q h hp=>by
  unfold Z5 at h
  split at h
  · split at h
    · split at h
      · split at h
        · cases h
          exact Qg2 _ _ _ _
        · cases h
      · cases h
    · cases h
  · cases h
end Go.Sym.B
namespace Go.Sym.B
open Go Go.Sym Go.Proofs Go.Sym.C
def wz (cs:List Cabin) (a:Ask):Nat→List Tk→List Bunk→List (List Bunk × List Tk)
  |0,sold,begun=>[(begun,sold)]
  |m+1,sold,begun=>(qY cs).flatMap fun b=>if goB cs a sold begun b then wz cs a m (sold++[kW a begun.length b]) (begun++[b]) else []
structure GrowOk (cs:List Cabin) (s:Int) (a:Ask) (m:Nat) (sold:List Tk) (begun:List Bunk) (ys:Nat→List AV) (hl:Nat→List AObj) (ans:Nat→Bool) (R:Nat):Prop where
  sz:begun.length+m=a.sexes.length
  sx:a.sexes.length≤10
  cab:CabsOk cs
  c100:cs.length≤100
  many:sold.length+m≤100
  mem:∀ b ∈ begun,0≤b.cab∧b.cab.toNat < cs.length
  rounds:Rounds ans R (wz cs a m sold begun).length
  ys:∀ j,j < (wz cs a m sold begun).length→ys j=[qc ((wz cs a m sold begun).getD j default).1]
  hl:∀ j,j < (wz cs a m sold begun).length→hl j=qy cs s ((wz cs a m sold begun).getD j default).2
def XB (cs:List Cabin) (s:Int) (a:Ask) (m:Nat):Prop:=∀ (sold:List Tk) (begun:List Bunk) (ys:Nat→List AV) (hl:Nat→List AObj) (ans:Nat→Bool) (R:Nat),GrowOk cs s a m sold begun ys hl ans R →
  Fn (Bcc Tryz.prog (qj (qN 0 [qo cs s 1])) (qj (qN 0 (qy cs s sold))) ys (fun j=>nth (hl j)) ans R) Tryz.prog 104 [.ptr 0 0,qx a,qc begun,.cb] (qj (qN 0 (qy cs s sold))) (aB (Qu ans R)) (qj (wE 0 ((qy cs s sold).map some))) R
def KW (cs:List Cabin) (s:Int) (a:Ask) (m:Nat) (ys:Nat→List AV) (hl:Nat→List AObj) (ans:Nat→Bool) (R:Nat) (S:St):List AV→Option PkI
  |[.ptr c 0,.agg aa,.sl bs,.cb]=>match S.h c with
    |some (.cells [.sl cc,.v (.int .i64 s'),.row r])=>match S.h r with
      |some (.row _ _ xs)=>some { q:={ pre:=cc=cs.map qg∧s'=s∧aa=qh a∧bs=(bs.map zB).map qm∧xs=(xs.map dTk).map eTk∧GrowOk cs s a m (xs.map dTk) (bs.map zB) (fun j=>ys (S.j+j)) (fun j=>hl (S.j+j)) (fun j=>ans (S.j+j)) (min (wz cs a m (xs.map dTk) (bs.map zB)).length (R - S.j)),hs:=[c,r],ar:=[.ptr 0 0,.agg aa,.sl bs,.cb],L0:=qy cs s (xs.map dTk),v:=aB (Qu (fun j=>ans (S.j+j)) (min (wz cs a m (xs.map dTk) (bs.map zB)).length (R - S.j))),L1:=(qy cs s (xs.map dTk)).map some },dj:=min (wz cs a m (xs.map dTk) (bs.map zB)).length (R - S.j) }
      |_=>none
    |_=>none
  |_=>none
theorem eGrow {A:Frm→Prop} {cs:List Cabin} {s:Int} {a:Ask} {m:Nat} {ys:Nat→List AV} {hl:Nat→List AObj} {ans:Nat→Bool} {R:Nat} {h0:Nat→Option AObj} (ih:XB cs s a m) (hA:∀ F,A F→Acb Tryz.prog (qj (qN 0 [qo cs s 1])) h0 ys (fun j=>nth (hl j)) ans R F) :
    qE A Tryz.prog 104 (fnI [qo cs s 1] R (KW cs s a m ys hl ans R)):=Rx hA fun S bs q h hp=>by
  unfold KW at h
  split at h
  · split at h
    · split at h
      · cases h
        obtain ⟨_,_,h3,h4,_,h6⟩:=hp
        have:=ih _ _ _ _ _ _ h6
        rw [qc,← h4,qx,← h3] at this
        exact this
      · cases h
    · cases h
  · cases h
def g1L (cs:List Cabin) (s:Int) (a:Ask) (sold:List Tk) (begun:List Bunk):List AObj:=[qo cs s 1,qw sold,.cells [.ptr 0 0],.cells (qh a),.cells [.sl (begun.map qm)],.cells [.cb]]
theorem Qfz {cs:List Cabin} {s:Int} {a:Ask} {sold:List Tk} {begun:List Bunk}:∀ i o,qj (qN 0 (g1L cs s a sold begun)) i=some o→i < 6∧∀ id ∈ o.ids,id < 6:=by
  intro i o hi
  have h:=qQ hi
  simp [qN,g1L] at h
  rcases h with ⟨rfl,rfl⟩|⟨rfl,rfl⟩|⟨rfl,rfl⟩|⟨rfl,rfl⟩|⟨rfl,rfl⟩|⟨rfl,rfl⟩ <;> simp [AObj.ids,AV.ids,AV.idsL,qo,qw,qh]
theorem Qe5 {cs:List Cabin} {s:Int} {r:List AObj}:∀ i o,qj (qN 0 [qo cs s 1]) i=some o→∃ o',qj (qN 0 (qo cs s 1 :: r)) i=some o':=fun i o hi=>by
  rw [jI] at hi
  cases i with
  |zero=>exact ⟨_,rfl⟩
  |succ i=>simp at hi
def Uf (cs:List Cabin) (s:Int) (a:Ask) (m:Nat):Prop:=∀ (sold:List Tk) (begun:List Bunk) (ys:Nat→List AV) (hl:Nat→List AObj) (ans:Nat→Bool) (R:Nat),GrowOk cs s a m sold begun ys hl ans R →
  Fn (Bcc Tryz.prog (qj (qN 0 [qo cs s 1])) (qj (qN 0 (g1L cs s a sold begun))) ys (fun j=>nth (hl j)) ans R) Tryz.prog 132 [.ptr 2 0,.ptr 3 0,.ptr 4 0,.ptr 5 0] (qj (qN 0 (g1L cs s a sold begun))) (aB (Qu ans R)) (qj (wE 0 ((g1L cs s a sold begun).map some))) R
def J2:=kk @Qy (kk @Wp (kk @xf (kk @YQ (kk @QiK (kk @kU.eq_1 (kk @Zl.eq_1 (kk @vB.eq_1 (kk @JK.eq_1 @Qab.eq_1))))))))
def Qbg:=kk @aI.eq_1 (@aB.eq_1)
theorem QfH {cs:List Cabin} {s:Int} {a:Ask} {m:Nat} (ih:XB cs s a m):Uf cs s a m:=by
  intro sold begun ys hl ans R ok
  obtain ⟨A0,hA0⟩:∃ A0:Frm→Prop,A0=Acb Tryz.prog (qj (qN 0 [qo cs s 1])) (qj (qN 0 (g1L cs s a sold begun))) ys (fun j=>nth (hl j)) ans R:=⟨_,rfl⟩
  have hA:∀ F,A0 F→Acb Tryz.prog (qj (qN 0 [qo cs s 1])) (qj (qN 0 (g1L cs s a sold begun))) ys (fun j=>nth (hl j)) ans R F:=fun F h=>hA0 ▸ h
  have env:Env A0 Tryz.prog tyB (tab [(104,fnI [qo cs s 1] R (KW cs s a m ys hl ans R))]):=qL ⟨eGrow ih hA,trivial⟩
  refine Fn.of (A:=A0) (n0:=6) (D:=noD) (Fn0 Tryz.func132 rfl (fun vs w=>by kernel_rfl) (by kernel_rfl)) (by simp) (by simp [AV.ids]) Qfz (fun F hb h0 _=>hA0 ▸ ⟨h0,Qe5,hb⟩) qF ?_
  have hle:=ok.rounds.le
  have eR:min (wz cs a m sold begun).length R=R:=by omega
  have ea1:a.sexes=a.sexes:=rfl
  show Sym _ _ _ (zT [.ptr 2 0,.ptr 3 0,.ptr 4 0,.ptr 5 0] 6 (qj [(0,qo cs s 1),(1,qw sold),(2,.cells [.ptr 0 0]),(3,.cells (qh a)),(4,.cells [.sl (begun.map qm)]),(5,.cells [.cb])])) (xG tyB noD Tryz.f132 fun S rv=>Fin S rv _ 6 (qj [(0,qo cs s 1),(1,qw sold),(2,.cells [.ptr 0 0]),(3,.cells (qh a)),(4,.cells [.sl (begun.map qm)]),(5,.cells [.cb])]) R)
  repeat' (first|(apply nx;with_reducible constructor)|refine jq (by decide) ?_|((first|refine kz env fun Q hQ=>?_|refine kj fun Q hQ=>?_);simp only [vkt,seval,J2,Qbg,aTk,cTk,qx,qh,qc,qJ,mTk,qd,qo,qw,qy,g1L,KW,List.length_map,Go.Sym.tabC,cbX,fnI,zZ,qV,nth,hwL,Nat.zero_add,Nat.sub_zero,eR,ok];(try simp only [ite_and]);(repeat' (first|with_reducible assumption|refine And.intro ?_ ?_|intro hp));all_goals (first|(refine hQ _ ?_;clear hQ Q)|(refine hQ _ (fun h=>?_) (fun h=>?_) <;> clear hQ Q <;> (try simp only [vki,reduceCtorEq] at h))|(refine kx ?_;kernel_rfl)|omega|assumption|with_reducible rfl|skip)))
  (simp only [vrt,Tryz.results132,vkt,seval,J2,Qbg,aTk,cTk,qx,qh,qc,qJ,mTk,qd,qo,qw,qy,g1L,KW,List.length_map,Go.Sym.tabC,cbX,fnI,zZ,qV,nth,hwL,Nat.zero_add,Nat.sub_zero];refine Fin.ok some [] ?_ ?_ ?_ ?_ ?_ rfl;all_goals (try simp only [vle,vkt,seval,J2,Qbg,aTk,cTk,qx,qh,qc,qJ,mTk,qd,qo,qw,qy,g1L,KW,List.length_map,Go.Sym.tabC,cbX,fnI,zZ,qV,nth,hwL,Nat.zero_add,Nat.sub_zero]))
  all_goals first|rfl|(simp;done)|exact fun i hi=>(match i,hi with|0,_=>rfl|1,_=>rfl)
def Wj (cs:List Cabin) (s:Int) (a:Ask) (m:Nat) (ys:Nat→List AV) (hl:Nat→List AObj) (ans:Nat→Bool) (R:Nat) (S:St):List AV→Option PkI
  |[.ptr p2 0,.ptr p3 0,.ptr p4 0,.ptr p5 0]=>match S.h p2,S.h p3,S.h p4,S.h p5 with
    |some (.cells [.ptr c 0]),some (.cells aa),some (.cells [.sl bs]),some (.cells [.cb])=>match S.h c with
      |some (.cells [.sl cc,.v (.int .i64 s'),.row r])=>match S.h r with
        |some (.row _ _ xs)=>some { q:={ pre:=cc=cs.map qg∧s'=s∧aa=qh a∧bs=(bs.map zB).map qm∧xs=(xs.map dTk).map eTk∧GrowOk cs s a m (xs.map dTk) (bs.map zB) (fun j=>ys (S.j+j)) (fun j=>hl (S.j+j)) (fun j=>ans (S.j+j)) (min (wz cs a m (xs.map dTk) (bs.map zB)).length (R - S.j)),hs:=[c,r,p2,p3,p4,p5],ar:=[.ptr 2 0,.ptr 3 0,.ptr 4 0,.ptr 5 0],L0:=g1L cs s a (xs.map dTk) (bs.map zB),v:=aB (Qu (fun j=>ans (S.j+j)) (min (wz cs a m (xs.map dTk) (bs.map zB)).length (R - S.j))),L1:=(g1L cs s a (xs.map dTk) (bs.map zB)).map some },dj:=min (wz cs a m (xs.map dTk) (bs.map zB)).length (R - S.j) }
        |_=>none
      |_=>none
    |_,_,_,_=>none
  |_=>none
theorem QjX {A:Frm→Prop} {cs:List Cabin} {s:Int} {a:Ask} {m:Nat} {ys:Nat→List AV} {hl:Nat→List AObj} {ans:Nat→Bool} {R:Nat} {h0:Nat→Option AObj} (ih:Uf cs s a m) (hA:∀ F,A F→Acb Tryz.prog (qj (qN 0 [qo cs s 1])) h0 ys (fun j=>nth (hl j)) ans R F) :
    qE A Tryz.prog 132 (fnI [qo cs s 1] R (Wj cs s a m ys hl ans R)):=Rx hA fun S bs q h hp=>by
  unfold Wj at h
  split at h
  · split at h
    · split at h
      · split at h
        · cases h
          obtain ⟨_,_,_,_,_,h6⟩:=hp
          exact ih _ _ _ _ _ _ h6
        · cases h
      · cases h
    · cases h
  · cases h
def Qa1 (cs:List Cabin) (s:Int) (a:Ask) (m:Nat):Prop:=∀ (sold:List Tk) (t:Tk) (begun:List Bunk) (ys:Nat→List AV) (hl:Nat→List AObj) (ans:Nat→Bool) (R:Nat),GrowOk cs s a m (sold++[t]) begun ys hl ans R →
  Fn (Bcc Tryz.prog (qj (qN 0 [qo cs s 1])) (qj (qN 0 (g1L cs s a sold begun))) ys (fun j=>nth (hl j)) ans R) Tryz.prog 131 [.ptr 0 0,aTk t,.clo 132 [.ptr 2 0,.ptr 3 0,.ptr 4 0,.ptr 5 0]] (qj (qN 0 (g1L cs s a sold begun))) (aB (Qu ans R)) (qj (wE 0 ((g1L cs s a sold begun).map some))) R
def QW:=kk @yK @yn.eq_1
def Ve:=kk @aI.eq_1 (@aB.eq_1)
end Go.Sym.B
