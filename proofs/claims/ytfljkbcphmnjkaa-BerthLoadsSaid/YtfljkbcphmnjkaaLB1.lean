/- Walks and what they compute, joined: part 1. -/
import Derived.Test.YtfljkbcphmnjkaaLS3
import Derived.Test.YtfljkbcphmnjkaaProg
import Derived.KernelRfl
set_option linter.all false
namespace Go.Sym.B
open Go Go.Sym Go.Proofs
theorem _root_.Go.Sym.kk {a b:Prop} (x:a) (y:b):a∧b:=⟨x,y⟩
def _root_.Go.Sym.jq:=@Y6
def _root_.Go.Sym.jx:=@JC
def _root_.Go.Sym.jz:=@VF
def _root_.Go.Sym.jk:=@Xy
def _root_.Go.Sym.jw:=@KT
def _root_.Go.Sym.jv:=@KV
def _root_.Go.Sym.kq:=@Rl
def _root_.Go.Sym.kx:=@UB
def _root_.Go.Sym.kz:=@QcE
def _root_.Go.Sym.kj:=@Qfk
def ti3:TI:={ cells:=1,bytes:=8,td:=.int .i64,zero:=[.v (.int .i64 0)],eqk:=none }
theorem tf3:TyFact Try.prog 3 ti3:=by
  refine ⟨⟨Try.t3,.int .i64 0,by kernel_rfl,rfl,rfl,rfl,rfl,rfl,by simp [Value.cells,Value.oneCell']⟩,⟨_,Try.underlying3,rfl⟩,fun fs h=>?_,fun ks h=>?_,fun q h=>?_⟩
  · cases h
  · cases h
  · cases h
def ti4:TI:={ cells:=1,bytes:=1,td:=.bool,zero:=[.v (.bool false)],eqk:=none }
theorem tf4:TyFact Try.prog 4 ti4:=by
  refine ⟨⟨Try.t4,.bool false,by kernel_rfl,rfl,rfl,rfl,rfl,rfl,by simp [Value.cells,Value.oneCell']⟩,⟨_,Try.underlying4,rfl⟩,fun fs h=>?_,fun ks h=>?_,fun q h=>?_⟩
  · cases h
  · cases h
  · cases h
def ti5:TI:={ cells:=1,bytes:=1,td:=.int .u8,zero:=[.v (.int .u8 0)],eqk:=none }
theorem tf5:TyFact Try.prog 5 ti5:=by
  refine ⟨⟨Try.t5,.int .u8 0,by kernel_rfl,rfl,rfl,rfl,rfl,rfl,by simp [Value.cells,Value.oneCell']⟩,⟨_,Try.underlying5,rfl⟩,fun fs h=>?_,fun ks h=>?_,fun q h=>?_⟩
  · cases h
  · cases h
  · cases h
def ti9:TI:={ cells:=1,bytes:=16,td:=.string,zero:=[.v (.string ⟨#[]⟩)],eqk:=none }
theorem tf9:TyFact Try.prog 9 ti9:=by
  refine ⟨⟨Try.t9,.string ⟨#[]⟩,by kernel_rfl,rfl,rfl,rfl,rfl,rfl,by simp [Value.cells,Value.oneCell']⟩,⟨_,Try.underlying9,rfl⟩,fun fs h=>?_,fun ks h=>?_,fun q h=>?_⟩
  · cases h
  · cases h
  · cases h
def Zk:TI:={ cells:=1,bytes:=24,td:=.slice 3,zero:=[.nil],eqk:=none }
theorem tf22:TyFact Try.prog 22 Zk:=by
  refine ⟨⟨Try.t22,.slice none 0 0,by kernel_rfl,rfl,rfl,rfl,rfl,rfl,by simp [Value.cells,Value.oneCell']⟩,⟨_,Try.underlying22,rfl⟩,fun fs h=>?_,fun ks h=>?_,fun q h=>?_⟩
  · cases h
  · cases h
  · cases h
def ti23:TI:={ cells:=1,bytes:=8,td:=.ptr,zero:=[.v (.pointer none)],eqk:=none }
theorem tf23:TyFact Try.prog 23 ti23:=by
  refine ⟨⟨Try.t23,.pointer none,by kernel_rfl,rfl,rfl,rfl,rfl,rfl,by simp [Value.cells,Value.oneCell']⟩,⟨_,Try.underlying23,⟨_,rfl⟩⟩,fun fs h=>?_,fun ks h=>?_,fun q h=>?_⟩
  · cases h
  · cases h
  · cases h
def Zv:TI:={ cells:=1,bytes:=24,td:=.slice 51,zero:=[.nil],eqk:=none }
theorem tf25:TyFact Try.prog 25 Zv:=by
  refine ⟨⟨Try.t25,.slice none 0 0,by kernel_rfl,rfl,rfl,rfl,rfl,rfl,by simp [Value.cells,Value.oneCell']⟩,⟨_,Try.underlying25,rfl⟩,fun fs h=>?_,fun ks h=>?_,fun q h=>?_⟩
  · cases h
  · cases h
  · cases h
def vP:TI:={ cells:=1,bytes:=24,td:=.slice 81,zero:=[.nil],eqk:=none }
theorem tf26:TyFact Try.prog 26 vP:=by
  refine ⟨⟨Try.t26,.slice none 0 0,by kernel_rfl,rfl,rfl,rfl,rfl,rfl,by simp [Value.cells,Value.oneCell']⟩,⟨_,Try.underlying26,rfl⟩,fun fs h=>?_,fun ks h=>?_,fun q h=>?_⟩
  · cases h
  · cases h
  · cases h
def jE:TI:={ cells:=3,bytes:=56,td:=.struct [(0,1,25),(1,1,3),(2,1,26)],zero:=[.nil,.v (.int .i64 0),.nil],eqk:=none }
theorem tf28:TyFact Try.prog 28 jE:=by
  refine ⟨⟨Try.t28,.agg #[.slice none 0 0,.int .i64 0,.slice none 0 0],by kernel_rfl,rfl,rfl,rfl,rfl,rfl,by simp [Value.cells,Value.oneCell']⟩,⟨_,Try.underlying28,⟨_,rfl,rfl⟩⟩,fun fs h=>?_,fun ks h=>?_,fun q h=>?_⟩
  · cases h
    simp only [List.mem_cons,List.not_mem_nil,or_false,forall_eq_or_imp,forall_eq]
    exact ⟨⟨Try.t25,by kernel_rfl,rfl⟩,⟨Try.t3,by kernel_rfl,rfl⟩,⟨Try.t26,by kernel_rfl,rfl⟩⟩
  · cases h
  · cases h
def Wm:TI:={ cells:=5,bytes:=56,td:=.struct [(0,1,3),(1,1,3),(2,1,3),(3,1,22),(4,1,4)],zero:=[.v (.int .i64 0),.v (.int .i64 0),.v (.int .i64 0),.nil,.v (.bool false)],eqk:=none }
theorem tf31:TyFact Try.prog 31 Wm:=by
  refine ⟨⟨Try.t31,.agg #[.int .i64 0,.int .i64 0,.int .i64 0,.slice none 0 0,.bool false],by kernel_rfl,rfl,rfl,rfl,rfl,rfl,by simp [Value.cells,Value.oneCell']⟩,⟨_,Try.underlying31,⟨_,rfl,rfl⟩⟩,fun fs h=>?_,fun ks h=>?_,fun q h=>?_⟩
  · cases h
    simp only [List.mem_cons,List.not_mem_nil,or_false,forall_eq_or_imp,forall_eq]
    exact ⟨⟨Try.t3,by kernel_rfl,rfl⟩,⟨Try.t3,by kernel_rfl,rfl⟩,⟨Try.t3,by kernel_rfl,rfl⟩,⟨Try.t22,by kernel_rfl,rfl⟩,⟨Try.t4,by kernel_rfl,rfl⟩⟩
  · cases h
  · cases h
def Qbb:TI:={ cells:=1,bytes:=24,td:=.slice 37,zero:=[.nil],eqk:=none }
theorem tf33:TyFact Try.prog 33 Qbb:=by
  refine ⟨⟨Try.t33,.slice none 0 0,by kernel_rfl,rfl,rfl,rfl,rfl,rfl,by simp [Value.cells,Value.oneCell']⟩,⟨_,Try.underlying33,rfl⟩,fun fs h=>?_,fun ks h=>?_,fun q h=>?_⟩
  · cases h
  · cases h
  · cases h
def Qb:TI:={ cells:=1,bytes:=8,td:=.int .i64,zero:=[.v (.int .i64 0)],eqk:=none }
theorem tf34:TyFact Try.prog 34 Qb:=by
  refine ⟨⟨Try.t34,.int .i64 0,by kernel_rfl,rfl,rfl,rfl,rfl,rfl,by simp [Value.cells,Value.oneCell']⟩,⟨_,Try.underlying34,rfl⟩,fun fs h=>?_,fun ks h=>?_,fun q h=>?_⟩
  · cases h
  · cases h
  · cases h
def WF:TI:={ cells:=1,bytes:=24,td:=.slice 49,zero:=[.nil],eqk:=none }
theorem tf37:TyFact Try.prog 37 WF:=by
  refine ⟨⟨Try.t37,.slice none 0 0,by kernel_rfl,rfl,rfl,rfl,rfl,rfl,by simp [Value.cells,Value.oneCell']⟩,⟨_,Try.underlying37,rfl⟩,fun fs h=>?_,fun ks h=>?_,fun q h=>?_⟩
  · cases h
  · cases h
  · cases h
def ti44:TI:={ cells:=1,bytes:=8,td:=.func,zero:=[.v (.nilFunc)],eqk:=none }
theorem tf44:TyFact Try.prog 44 ti44:=by
  refine ⟨⟨Try.t44,.nilFunc,by kernel_rfl,rfl,rfl,rfl,rfl,rfl,by simp [Value.cells,Value.oneCell']⟩,⟨_,Try.underlying44,⟨_,_,_,rfl⟩⟩,fun fs h=>?_,fun ks h=>?_,fun q h=>?_⟩
  · cases h
  · cases h
  · cases h
def ti45:TI:={ cells:=1,bytes:=8,td:=.func,zero:=[.v (.nilFunc)],eqk:=none }
theorem tf45:TyFact Try.prog 45 ti45:=by
  refine ⟨⟨Try.t45,.nilFunc,by kernel_rfl,rfl,rfl,rfl,rfl,rfl,by simp [Value.cells,Value.oneCell']⟩,⟨_,Try.underlying45,⟨_,_,_,rfl⟩⟩,fun fs h=>?_,fun ks h=>?_,fun q h=>?_⟩
  · cases h
  · cases h
  · cases h
theorem Qb9 (d:Nat) (w:World) (a0 b0:Int) (a1 b1:Int):(Op.equalIn (d+2) 49 (.agg #[.int .i64 a0,.int .i64 a1]) (.agg #[.int .i64 b0,.int .i64 b1])).run Try.prog w=.ok (xW [.int .i64 a0,.int .i64 a1] [.int .i64 b0,.int .i64 b1]) w:=by
  have h1:Try.prog.underlying 49=some (.struct (Try.prog.fieldsOf 49)):=by kernel_rfl
  have h2 : (Try.prog.fieldsOf 49).toList = [{ name := "Cabin", type := 3, offset := 0, embedded := false, tag := "", pkgPath := "", byteOffset := 0 }, { name := "Bed", type := 3, offset := 1, embedded := false, tag := "", pkgPath := "", byteOffset := 8 }] := by kernel_rfl
  rw [run_equalIn_agg w (d+1) 49 _ _ h1 (by kernel_rfl),h2]
  refine Eq.trans (b:=Result.ok (a0 == b0 && (a1 == b1 && true)) w) ?_ (congrArg (fun r=>Result.ok r w) (by simp [xW,veq,Bool.and_assoc]))
  exact yN (by simp) (zO (Try.isAgg3) rfl) (zO (Try.isAgg3) rfl) (run_equalIn_int w (d+0) 3 _ _ _ _ Try.underlying3) (yN (by simp) (zO (Try.isAgg3) rfl) (zO (Try.isAgg3) rfl) (run_equalIn_int w (d+0) 3 _ _ _ _ Try.underlying3) (xL))
def vR:TI:={ cells:=2,bytes:=16,td:=.struct [(0,1,3),(1,1,3)],zero:=[.v (.int .i64 0),.v (.int .i64 0)],eqk:=some [some .i64,some .i64] }
theorem tf49:TyFact Try.prog 49 vR:=by
  refine ⟨⟨Try.t49,.agg #[.int .i64 0,.int .i64 0],by kernel_rfl,rfl,rfl,rfl,rfl,rfl,by simp [Value.cells,Value.oneCell']⟩,⟨_,Try.underlying49,⟨_,rfl,rfl⟩⟩,fun fs h=>?_,fun ks h=>?_,fun q h=>?_⟩
  · cases h
    simp only [List.mem_cons,List.not_mem_nil,or_false,forall_eq_or_imp,forall_eq]
    exact ⟨⟨Try.t3,by kernel_rfl,rfl⟩,⟨Try.t3,by kernel_rfl,rfl⟩⟩
  · cases h
    refine ⟨by kernel_rfl,fun w xs ys hx hy=>?_⟩
    cases xs with
    |nil=>simp [qJ] at hx
    |cons x0 xs1 =>
    cases xs1 with
    |nil=>simp [qJ] at hx
    |cons x1 xs2 =>
    cases xs2 with
    |cons _ _=>simp [qJ] at hx
    |nil =>
    cases ys with
    |nil=>simp [qJ] at hy
    |cons y0 ys1 =>
    cases ys1 with
    |nil=>simp [qJ] at hy
    |cons y1 ys2 =>
    cases ys2 with
    |cons _ _=>simp [qJ] at hy
    |nil =>
    simp only [qJ] at hx hy
    obtain ⟨⟨nx0,rfl⟩,⟨nx1,rfl⟩,_⟩:=hx
    obtain ⟨⟨ny0,rfl⟩,⟨ny1,rfl⟩,_⟩:=hy
    exact Qb9 9998 w nx0 ny0 nx1 ny1
  · cases h
theorem eqd51 (d:Nat) (w:World) (a0 b0:Int) (a1 b1:Bool):(Op.equalIn (d+2) 51 (.agg #[.int .i64 a0,.bool a1]) (.agg #[.int .i64 b0,.bool b1])).run Try.prog w=.ok (xW [.int .i64 a0,.bool a1] [.int .i64 b0,.bool b1]) w:=by
  have h1:Try.prog.underlying 51=some (.struct (Try.prog.fieldsOf 51)):=by kernel_rfl
  have h2 : (Try.prog.fieldsOf 51).toList = [{ name := "Beds", type := 3, offset := 0, embedded := false, tag := "", pkgPath := "", byteOffset := 0 }, { name := "Door", type := 4, offset := 1, embedded := false, tag := "", pkgPath := "", byteOffset := 8 }] := by kernel_rfl
  rw [run_equalIn_agg w (d+1) 51 _ _ h1 (by kernel_rfl),h2]
  refine Eq.trans (b:=Result.ok (a0 == b0 && (a1 == b1 && true)) w) ?_ (congrArg (fun r=>Result.ok r w) (by simp [xW,veq,Bool.and_assoc]))
  exact yN (by simp) (zO (Try.isAgg3) rfl) (zO (Try.isAgg3) rfl) (run_equalIn_int w (d+0) 3 _ _ _ _ Try.underlying3) (yN (by simp) (zO (Try.isAgg4) rfl) (zO (Try.isAgg4) rfl) (run_equalIn_bool' w (d+0) 4 _ _ Try.underlying4) (xL))
def Zq:TI:={ cells:=2,bytes:=16,td:=.struct [(0,1,3),(1,1,4)],zero:=[.v (.int .i64 0),.v (.bool false)],eqk:=some [some .i64,none] }
theorem tf51:TyFact Try.prog 51 Zq:=by
  refine ⟨⟨Try.t51,.agg #[.int .i64 0,.bool false],by kernel_rfl,rfl,rfl,rfl,rfl,rfl,by simp [Value.cells,Value.oneCell']⟩,⟨_,Try.underlying51,⟨_,rfl,rfl⟩⟩,fun fs h=>?_,fun ks h=>?_,fun q h=>?_⟩
  · cases h
    simp only [List.mem_cons,List.not_mem_nil,or_false,forall_eq_or_imp,forall_eq]
    exact ⟨⟨Try.t3,by kernel_rfl,rfl⟩,⟨Try.t4,by kernel_rfl,rfl⟩⟩
  · cases h
    refine ⟨by kernel_rfl,fun w xs ys hx hy=>?_⟩
    cases xs with
    |nil=>simp [qJ] at hx
    |cons x0 xs1 =>
    cases xs1 with
    |nil=>simp [qJ] at hx
    |cons x1 xs2 =>
    cases xs2 with
    |cons _ _=>simp [qJ] at hx
    |nil =>
    cases ys with
    |nil=>simp [qJ] at hy
    |cons y0 ys1 =>
    cases ys1 with
    |nil=>simp [qJ] at hy
    |cons y1 ys2 =>
    cases ys2 with
    |cons _ _=>simp [qJ] at hy
    |nil =>
    simp only [qJ] at hx hy
    obtain ⟨⟨nx0,rfl⟩,⟨nx1,rfl⟩,_⟩:=hx
    obtain ⟨⟨ny0,rfl⟩,⟨ny1,rfl⟩,_⟩:=hy
    exact eqd51 9998 w nx0 ny0 nx1 ny1
  · cases h
def Ub:TI:={ cells:=1,bytes:=24,td:=.slice 65,zero:=[.nil],eqk:=none }
theorem tf58:TyFact Try.prog 58 Ub:=by
  refine ⟨⟨Try.t58,.slice none 0 0,by kernel_rfl,rfl,rfl,rfl,rfl,rfl,by simp [Value.cells,Value.oneCell']⟩,⟨_,Try.underlying58,rfl⟩,fun fs h=>?_,fun ks h=>?_,fun q h=>?_⟩
  · cases h
  · cases h
  · cases h
theorem eqd65 (d:Nat) (w:World) (a0 b0:Int) (a1 b1:Int) (a2 b2:Int):(Op.equalIn (d+3) 65 (.agg #[.int .i64 a0,.int .i64 a1,.int .i64 a2]) (.agg #[.int .i64 b0,.int .i64 b1,.int .i64 b2])).run Try.prog w=.ok (xW [.int .i64 a0,.int .i64 a1,.int .i64 a2] [.int .i64 b0,.int .i64 b1,.int .i64 b2]) w:=by
  have h1:Try.prog.underlying 65=some (.struct (Try.prog.fieldsOf 65)):=by kernel_rfl
  have h2 : (Try.prog.fieldsOf 65).toList = [{ name := "Ticket", type := 3, offset := 0, embedded := false, tag := "", pkgPath := "", byteOffset := 0 }, { name := "Bunk", type := 49, offset := 1, embedded := true, tag := "", pkgPath := "", byteOffset := 8 }] := by kernel_rfl
  rw [run_equalIn_agg w (d+2) 65 _ _ h1 (by kernel_rfl),h2]
  refine Eq.trans (b:=Result.ok (a0 == b0 && (xW [.int .i64 a1,.int .i64 a2] [.int .i64 b1,.int .i64 b2] && true)) w) ?_ (congrArg (fun r=>Result.ok r w) (by simp [xW,veq,Bool.and_assoc]))
  exact yN (by simp) (zO (Try.isAgg3) rfl) (zO (Try.isAgg3) rfl) (run_equalIn_int w (d+1) 3 _ _ _ _ Try.underlying3) (yN (by simp) (QF (Try.isAgg49) (Try.sizeOf49) rfl) (QF (Try.isAgg49) (Try.sizeOf49) rfl) (Qb9 (d+0) w a1 b1 a2 b2) (xL))
def R8:TI:={ cells:=3,bytes:=24,td:=.struct [(0,1,3),(1,2,49)],zero:=[.v (.int .i64 0),.v (.int .i64 0),.v (.int .i64 0)],eqk:=some [some .i64,some .i64,some .i64] }
theorem tf65:TyFact Try.prog 65 R8:=by
  refine ⟨⟨Try.t65,.agg #[.int .i64 0,.int .i64 0,.int .i64 0],by kernel_rfl,rfl,rfl,rfl,rfl,rfl,by simp [Value.cells,Value.oneCell']⟩,⟨_,Try.underlying65,⟨_,rfl,rfl⟩⟩,fun fs h=>?_,fun ks h=>?_,fun q h=>?_⟩
  · cases h
    simp only [List.mem_cons,List.not_mem_nil,or_false,forall_eq_or_imp,forall_eq]
    exact ⟨⟨Try.t3,by kernel_rfl,rfl⟩,⟨Try.t49,by kernel_rfl,rfl⟩⟩
  · cases h
    refine ⟨by kernel_rfl,fun w xs ys hx hy=>?_⟩
    cases xs with
    |nil=>simp [qJ] at hx
    |cons x0 xs1 =>
    cases xs1 with
    |nil=>simp [qJ] at hx
    |cons x1 xs2 =>
    cases xs2 with
    |nil=>simp [qJ] at hx
    |cons x2 xs3 =>
    cases xs3 with
    |cons _ _=>simp [qJ] at hx
    |nil =>
    cases ys with
    |nil=>simp [qJ] at hy
    |cons y0 ys1 =>
    cases ys1 with
    |nil=>simp [qJ] at hy
    |cons y1 ys2 =>
    cases ys2 with
    |nil=>simp [qJ] at hy
    |cons y2 ys3 =>
    cases ys3 with
    |cons _ _=>simp [qJ] at hy
    |nil =>
    simp only [qJ] at hx hy
    obtain ⟨⟨nx0,rfl⟩,⟨nx1,rfl⟩,⟨nx2,rfl⟩,_⟩:=hx
    obtain ⟨⟨ny0,rfl⟩,⟨ny1,rfl⟩,⟨ny2,rfl⟩,_⟩:=hy
    exact eqd65 9997 w nx0 ny0 nx1 ny1 nx2 ny2
  · cases h
theorem eqd81 (d:Nat) (w:World) (a0 b0:Int) (a1 b1:Int) (a2 b2:Int) (a3 b3:Int) (a4 b4:Int) (a5 b5:Int) (a6 b6:Bool):(Op.equalIn (d+3) 81 (.agg #[.int .i64 a0,.int .i64 a1,.int .i64 a2,.int .i64 a3,.int .i64 a4,.int .i64 a5,.bool a6]) (.agg #[.int .i64 b0,.int .i64 b1,.int .i64 b2,.int .i64 b3,.int .i64 b4,.int .i64 b5,.bool b6])).run Try.prog w=.ok (xW [.int .i64 a0,.int .i64 a1,.int .i64 a2,.int .i64 a3,.int .i64 a4,.int .i64 a5,.bool a6] [.int .i64 b0,.int .i64 b1,.int .i64 b2,.int .i64 b3,.int .i64 b4,.int .i64 b5,.bool b6]) w:=by
  have h1:Try.prog.underlying 81=some (.struct (Try.prog.fieldsOf 81)):=by kernel_rfl
  have h2 : (Try.prog.fieldsOf 81).toList = [{ name := "Party", type := 3, offset := 0, embedded := false, tag := "", pkgPath := "", byteOffset := 0 }, { name := "Sex", type := 3, offset := 1, embedded := false, tag := "", pkgPath := "", byteOffset := 8 }, { name := "Bunk", type := 49, offset := 2, embedded := true, tag := "", pkgPath := "", byteOffset := 16 }, { name := "From", type := 3, offset := 4, embedded := false, tag := "", pkgPath := "", byteOffset := 32 }, { name := "To", type := 3, offset := 5, embedded := false, tag := "", pkgPath := "", byteOffset := 40 }, { name := "Dog", type := 4, offset := 6, embedded := false, tag := "", pkgPath := "", byteOffset := 48 }] := by kernel_rfl
  rw [run_equalIn_agg w (d+2) 81 _ _ h1 (by kernel_rfl),h2]
  refine Eq.trans (b:=Result.ok (a0 == b0 && (a1 == b1 && (xW [.int .i64 a2,.int .i64 a3] [.int .i64 b2,.int .i64 b3] && (a4 == b4 && (a5 == b5 && (a6 == b6 && true)))))) w) ?_ (congrArg (fun r=>Result.ok r w) (by simp [xW,veq,Bool.and_assoc]))
  exact yN (by simp) (zO (Try.isAgg3) rfl) (zO (Try.isAgg3) rfl) (run_equalIn_int w (d+1) 3 _ _ _ _ Try.underlying3) (yN (by simp) (zO (Try.isAgg3) rfl) (zO (Try.isAgg3) rfl) (run_equalIn_int w (d+1) 3 _ _ _ _ Try.underlying3) (yN (by simp) (QF (Try.isAgg49) (Try.sizeOf49) rfl) (QF (Try.isAgg49) (Try.sizeOf49) rfl) (Qb9 (d+0) w a2 b2 a3 b3) (yN (by simp) (zO (Try.isAgg3) rfl) (zO (Try.isAgg3) rfl) (run_equalIn_int w (d+1) 3 _ _ _ _ Try.underlying3) (yN (by simp) (zO (Try.isAgg3) rfl) (zO (Try.isAgg3) rfl) (run_equalIn_int w (d+1) 3 _ _ _ _ Try.underlying3) (yN (by simp) (zO (Try.isAgg4) rfl) (zO (Try.isAgg4) rfl) (run_equalIn_bool' w (d+1) 4 _ _ Try.underlying4) (xL))))))
def j3:TI:={ cells:=7,bytes:=56,td:=.struct [(0,1,3),(1,1,3),(2,2,49),(4,1,3),(5,1,3),(6,1,4)],zero:=[.v (.int .i64 0),.v (.int .i64 0),.v (.int .i64 0),.v (.int .i64 0),.v (.int .i64 0),.v (.int .i64 0),.v (.bool false)],eqk:=some [some .i64,some .i64,some .i64,some .i64,some .i64,some .i64,none] }
theorem tf81:TyFact Try.prog 81 j3:=by
  refine ⟨⟨Try.t81,.agg #[.int .i64 0,.int .i64 0,.int .i64 0,.int .i64 0,.int .i64 0,.int .i64 0,.bool false],by kernel_rfl,rfl,rfl,rfl,rfl,rfl,by simp [Value.cells,Value.oneCell']⟩,⟨_,Try.underlying81,⟨_,rfl,rfl⟩⟩,fun fs h=>?_,fun ks h=>?_,fun q h=>?_⟩
  · cases h
    simp only [List.mem_cons,List.not_mem_nil,or_false,forall_eq_or_imp,forall_eq]
    exact ⟨⟨Try.t3,by kernel_rfl,rfl⟩,⟨Try.t3,by kernel_rfl,rfl⟩,⟨Try.t49,by kernel_rfl,rfl⟩,⟨Try.t3,by kernel_rfl,rfl⟩,⟨Try.t3,by kernel_rfl,rfl⟩,⟨Try.t4,by kernel_rfl,rfl⟩⟩
  · cases h
    refine ⟨by kernel_rfl,fun w xs ys hx hy=>?_⟩
    cases xs with
    |nil=>simp [qJ] at hx
    |cons x0 xs1 =>
    cases xs1 with
    |nil=>simp [qJ] at hx
    |cons x1 xs2 =>
    cases xs2 with
    |nil=>simp [qJ] at hx
    |cons x2 xs3 =>
    cases xs3 with
    |nil=>simp [qJ] at hx
    |cons x3 xs4 =>
    cases xs4 with
    |nil=>simp [qJ] at hx
    |cons x4 xs5 =>
    cases xs5 with
    |nil=>simp [qJ] at hx
    |cons x5 xs6 =>
    cases xs6 with
    |nil=>simp [qJ] at hx
    |cons x6 xs7 =>
    cases xs7 with
    |cons _ _=>simp [qJ] at hx
    |nil =>
    cases ys with
    |nil=>simp [qJ] at hy
    |cons y0 ys1 =>
    cases ys1 with
    |nil=>simp [qJ] at hy
    |cons y1 ys2 =>
    cases ys2 with
    |nil=>simp [qJ] at hy
    |cons y2 ys3 =>
    cases ys3 with
    |nil=>simp [qJ] at hy
    |cons y3 ys4 =>
    cases ys4 with
    |nil=>simp [qJ] at hy
    |cons y4 ys5 =>
    cases ys5 with
    |nil=>simp [qJ] at hy
    |cons y5 ys6 =>
    cases ys6 with
    |nil=>simp [qJ] at hy
    |cons y6 ys7 =>
    cases ys7 with
    |cons _ _=>simp [qJ] at hy
    |nil =>
    simp only [qJ] at hx hy
    obtain ⟨⟨nx0,rfl⟩,⟨nx1,rfl⟩,⟨nx2,rfl⟩,⟨nx3,rfl⟩,⟨nx4,rfl⟩,⟨nx5,rfl⟩,⟨nx6,rfl⟩,_⟩:=hx
    obtain ⟨⟨ny0,rfl⟩,⟨ny1,rfl⟩,⟨ny2,rfl⟩,⟨ny3,rfl⟩,⟨ny4,rfl⟩,⟨ny5,rfl⟩,⟨ny6,rfl⟩,_⟩:=hy
    exact eqd81 9997 w nx0 ny0 nx1 ny1 nx2 ny2 nx3 ny3 nx4 ny4 nx5 ny5 nx6 ny6
  · cases h
def ti84:TI:={ cells:=1,bytes:=24,td:=.slice 31,zero:=[.nil],eqk:=none }
theorem tf84:TyFact Try.prog 84 ti84:=by
  refine ⟨⟨Try.t84,.slice none 0 0,by kernel_rfl,rfl,rfl,rfl,rfl,rfl,by simp [Value.cells,Value.oneCell']⟩,⟨_,Try.underlying84,rfl⟩,fun fs h=>?_,fun ks h=>?_,fun q h=>?_⟩
  · cases h
  · cases h
  · cases h
def ti88:TI:={ cells:=1,bytes:=24,td:=.slice 22,zero:=[.nil],eqk:=none }
theorem tf88:TyFact Try.prog 88 ti88:=by
  refine ⟨⟨Try.t88,.slice none 0 0,by kernel_rfl,rfl,rfl,rfl,rfl,rfl,by simp [Value.cells,Value.oneCell']⟩,⟨_,Try.underlying88,rfl⟩,fun fs h=>?_,fun ks h=>?_,fun q h=>?_⟩
  · cases h
  · cases h
  · cases h
def ti94:TI:={ cells:=1,bytes:=24,td:=.slice 28,zero:=[.nil],eqk:=none }
theorem tf94:TyFact Try.prog 94 ti94:=by
  refine ⟨⟨Try.t94,.slice none 0 0,by kernel_rfl,rfl,rfl,rfl,rfl,rfl,by simp [Value.cells,Value.oneCell']⟩,⟨_,Try.underlying94,rfl⟩,fun fs h=>?_,fun ks h=>?_,fun q h=>?_⟩
  · cases h
  · cases h
  · cases h
def V6:TI:={ cells:=1,bytes:=8,td:=.int .u64,zero:=[.v (.int .u64 0)],eqk:=none }
theorem tf100:TyFact Try.prog 100 V6:=by
  refine ⟨⟨Try.t100,.int .u64 0,by kernel_rfl,rfl,rfl,rfl,rfl,rfl,by simp [Value.cells,Value.oneCell']⟩,⟨_,Try.underlying100,rfl⟩,fun fs h=>?_,fun ks h=>?_,fun q h=>?_⟩
  · cases h
  · cases h
  · cases h
def UD:TI:={ cells:=1,bytes:=8,td:=.struct [(0,1,100)],zero:=[.v (.int .u64 0)],eqk:=none }
theorem tf102:TyFact Try.prog 102 UD:=by
  refine ⟨⟨Try.t102,.agg #[.int .u64 0],by kernel_rfl,rfl,rfl,rfl,rfl,rfl,by simp [Value.cells,Value.oneCell']⟩,⟨_,Try.underlying102,⟨_,rfl,rfl⟩⟩,fun fs h=>?_,fun ks h=>?_,fun q h=>?_⟩
  · cases h
    simp only [List.mem_cons,List.not_mem_nil,or_false,forall_eq_or_imp,forall_eq]
    exact ⟨Try.t100,by kernel_rfl,rfl⟩
  · cases h
  · cases h
def QbZ:TI:={ cells:=1,bytes:=8,td:=.int .u64,zero:=[.v (.int .u64 0)],eqk:=none }
theorem tf103:TyFact Try.prog 103 QbZ:=by
  refine ⟨⟨Try.t103,.int .u64 0,by kernel_rfl,rfl,rfl,rfl,rfl,rfl,by simp [Value.cells,Value.oneCell']⟩,⟨_,Try.underlying103,rfl⟩,fun fs h=>?_,fun ks h=>?_,fun q h=>?_⟩
  · cases h
  · cases h
  · cases h
def Qv:TI:={ cells:=1,bytes:=8,td:=.ptr,zero:=[.v (.pointer none)],eqk:=none }
theorem tf106:TyFact Try.prog 106 Qv:=by
  refine ⟨⟨Try.t106,.pointer none,by kernel_rfl,rfl,rfl,rfl,rfl,rfl,by simp [Value.cells,Value.oneCell']⟩,⟨_,Try.underlying106,⟨_,rfl⟩⟩,fun fs h=>?_,fun ks h=>?_,fun q h=>?_⟩
  · cases h
  · cases h
  · cases h
def Qh6:TI:={ cells:=1,bytes:=8,td:=.func,zero:=[.v (.nilFunc)],eqk:=none }
theorem tf111:TyFact Try.prog 111 Qh6:=by
  refine ⟨⟨Try.t111,.nilFunc,by kernel_rfl,rfl,rfl,rfl,rfl,rfl,by simp [Value.cells,Value.oneCell']⟩,⟨_,Try.underlying111,⟨_,_,_,rfl⟩⟩,fun fs h=>?_,fun ks h=>?_,fun q h=>?_⟩
  · cases h
  · cases h
  · cases h
def Qcm:TI:={ cells:=1,bytes:=8,td:=.func,zero:=[.v (.nilFunc)],eqk:=none }
theorem tf115:TyFact Try.prog 115 Qcm:=by
  refine ⟨⟨Try.t115,.nilFunc,by kernel_rfl,rfl,rfl,rfl,rfl,rfl,by simp [Value.cells,Value.oneCell']⟩,⟨_,Try.underlying115,⟨_,_,_,rfl⟩⟩,fun fs h=>?_,fun ks h=>?_,fun q h=>?_⟩
  · cases h
  · cases h
  · cases h
def Zy:TI:={ cells:=3,bytes:=56,td:=.struct [(0,3,28)],zero:=[.nil,.v (.int .i64 0),.nil],eqk:=none }
theorem tf118:TyFact Try.prog 118 Zy:=by
  refine ⟨⟨Try.t118,.agg #[.slice none 0 0,.int .i64 0,.slice none 0 0],by kernel_rfl,rfl,rfl,rfl,rfl,rfl,by simp [Value.cells,Value.oneCell']⟩,⟨_,Try.underlying118,⟨_,rfl,rfl⟩⟩,fun fs h=>?_,fun ks h=>?_,fun q h=>?_⟩
  · cases h
    simp only [List.mem_cons,List.not_mem_nil,or_false,forall_eq_or_imp,forall_eq]
    exact ⟨Try.t28,by kernel_rfl,rfl⟩
  · cases h
  · cases h
def Qcr:TI:={ cells:=1,bytes:=8,td:=.func,zero:=[.v (.nilFunc)],eqk:=none }
theorem tf119:TyFact Try.prog 119 Qcr:=by
  refine ⟨⟨Try.t119,.nilFunc,by kernel_rfl,rfl,rfl,rfl,rfl,rfl,by simp [Value.cells,Value.oneCell']⟩,⟨_,Try.underlying119,⟨_,_,_,rfl⟩⟩,fun fs h=>?_,fun ks h=>?_,fun q h=>?_⟩
  · cases h
  · cases h
  · cases h
def U5:TI:={ cells:=2,bytes:=32,td:=.struct [(0,1,37),(1,1,119)],zero:=[.nil,.v (.nilFunc)],eqk:=none }
theorem tf121:TyFact Try.prog 121 U5:=by
  refine ⟨⟨Try.t121,.agg #[.slice none 0 0,.nilFunc],by kernel_rfl,rfl,rfl,rfl,rfl,rfl,by simp [Value.cells,Value.oneCell']⟩,⟨_,Try.underlying121,⟨_,rfl,rfl⟩⟩,fun fs h=>?_,fun ks h=>?_,fun q h=>?_⟩
  · cases h
    simp only [List.mem_cons,List.not_mem_nil,or_false,forall_eq_or_imp,forall_eq]
    exact ⟨⟨Try.t37,by kernel_rfl,rfl⟩,⟨Try.t119,by kernel_rfl,rfl⟩⟩
  · cases h
  · cases h
theorem QiJ (d:Nat) (w:World) (a0 b0:Int) (a1 b1:Int) (a2 b2:Int):(Op.equalIn (d+3) 134 (.agg #[.int .i64 a0,.int .i64 a1,.int .i64 a2]) (.agg #[.int .i64 b0,.int .i64 b1,.int .i64 b2])).run Try.prog w=.ok (xW [.int .i64 a0,.int .i64 a1,.int .i64 a2] [.int .i64 b0,.int .i64 b1,.int .i64 b2]) w:=by
  have h1:Try.prog.underlying 134=some (.struct (Try.prog.fieldsOf 134)):=by kernel_rfl
  have h2 : (Try.prog.fieldsOf 134).toList = [{ name := "at", type := 3, offset := 0, embedded := false, tag := "", pkgPath := "couchette/berth", byteOffset := 0 }, { name := "bunk", type := 49, offset := 1, embedded := false, tag := "", pkgPath := "couchette/berth", byteOffset := 8 }] := by kernel_rfl
  rw [run_equalIn_agg w (d+2) 134 _ _ h1 (by kernel_rfl),h2]
  refine Eq.trans (b:=Result.ok (a0 == b0 && (xW [.int .i64 a1,.int .i64 a2] [.int .i64 b1,.int .i64 b2] && true)) w) ?_ (congrArg (fun r=>Result.ok r w) (by simp [xW,veq,Bool.and_assoc]))
  exact yN (by simp) (zO (Try.isAgg3) rfl) (zO (Try.isAgg3) rfl) (run_equalIn_int w (d+1) 3 _ _ _ _ Try.underlying3) (yN (by simp) (QF (Try.isAgg49) (Try.sizeOf49) rfl) (QF (Try.isAgg49) (Try.sizeOf49) rfl) (Qb9 (d+0) w a1 b1 a2 b2) (xL))
theorem Qiw (w:World) (em:Bool) (a0:Int) (a1:Int) (a2:Int):(Instr.checkKey em 10000 134 (.agg #[.int .i64 a0,.int .i64 a1,.int .i64 a2])).run Try.prog w=.ok () w:=by kernel_rfl
def LC:TI:={ cells:=1,bytes:=8,td:=.map 134 3,zero:=[.v (.map none)],eqk:=none,key:=some { kd:=.agg [some .i64,some .i64,some .i64],z:=.v (.int .i64 0),agg:=false } }
theorem tf132:TyFact Try.prog 132 LC:=by
  refine ⟨⟨Try.t132,.map none,by kernel_rfl,rfl,rfl,rfl,rfl,rfl,by simp [Value.cells,Value.oneCell']⟩,⟨_,Try.underlying132,rfl⟩,fun fs h=>?_,fun ks h=>?_,fun q h=>?_⟩
  · cases h
  · cases h
  · cases h
    refine ⟨134,3,rfl,LY Try.underlying134 (fun w xs ys hx hy=>?_) (fun w em xs hx=>?_),fun w=>⟨.int .i64 0,by simp [zeroValue,typeInfo,show Try.prog.info? 3=some Try.t3 by kernel_rfl,Try.t3],fun w' ok ρ y=>?_⟩⟩
    · skip
      cases xs with
      |nil=>simp [qJ] at hx
      |cons x0 xs1 =>
      cases xs1 with
      |nil=>simp [qJ] at hx
      |cons x1 xs2 =>
      cases xs2 with
      |nil=>simp [qJ] at hx
      |cons x2 xs3 =>
      cases xs3 with
      |cons _ _=>simp [qJ] at hx
      |nil =>
      cases ys with
      |nil=>simp [qJ] at hy
      |cons y0 ys1 =>
      cases ys1 with
      |nil=>simp [qJ] at hy
      |cons y1 ys2 =>
      cases ys2 with
      |nil=>simp [qJ] at hy
      |cons y2 ys3 =>
      cases ys3 with
      |cons _ _=>simp [qJ] at hy
      |nil =>
      simp only [qJ] at hx
      obtain ⟨⟨nx0,rfl⟩,⟨nx1,rfl⟩,⟨nx2,rfl⟩,_⟩:=hx
      simp only [qJ] at hy
      obtain ⟨⟨ny0,rfl⟩,⟨ny1,rfl⟩,⟨ny2,rfl⟩,_⟩:=hy
      exact QiJ 9997 w nx0 ny0 nx1 ny1 nx2 ny2
    · skip
      cases xs with
      |nil=>simp [qJ] at hx
      |cons x0 xs1 =>
      cases xs1 with
      |nil=>simp [qJ] at hx
      |cons x1 xs2 =>
      cases xs2 with
      |nil=>simp [qJ] at hx
      |cons x2 xs3 =>
      cases xs3 with
      |cons _ _=>simp [qJ] at hx
      |nil =>
      simp only [qJ] at hx
      obtain ⟨⟨nx0,rfl⟩,⟨nx1,rfl⟩,⟨nx2,rfl⟩,_⟩:=hx
      exact Qiw w em nx0 nx1 nx2
    · exact .v rfl
def Ls:TI:={ cells:=3,bytes:=24,td:=.struct [(0,1,3),(1,2,49)],zero:=[.v (.int .i64 0),.v (.int .i64 0),.v (.int .i64 0)],eqk:=none }
theorem tf134:TyFact Try.prog 134 Ls:=by
  refine ⟨⟨Try.t134,.agg #[.int .i64 0,.int .i64 0,.int .i64 0],by kernel_rfl,rfl,rfl,rfl,rfl,rfl,by simp [Value.cells,Value.oneCell']⟩,⟨_,Try.underlying134,⟨_,rfl,rfl⟩⟩,fun fs h=>?_,fun ks h=>?_,fun q h=>?_⟩
  · cases h
    simp only [List.mem_cons,List.not_mem_nil,or_false,forall_eq_or_imp,forall_eq]
    exact ⟨⟨Try.t3,by kernel_rfl,rfl⟩,⟨Try.t49,by kernel_rfl,rfl⟩⟩
  · cases h
  · cases h
def Qih:TI:={ cells:=1,bytes:=8,td:=.func,zero:=[.v (.nilFunc)],eqk:=none }
theorem tf149:TyFact Try.prog 149 Qih:=by
  refine ⟨⟨Try.t149,.nilFunc,by kernel_rfl,rfl,rfl,rfl,rfl,rfl,by simp [Value.cells,Value.oneCell']⟩,⟨_,Try.underlying149,⟨_,_,_,rfl⟩⟩,fun fs h=>?_,fun ks h=>?_,fun q h=>?_⟩
  · cases h
  · cases h
  · cases h
def Qh8:TI:={ cells:=1,bytes:=8,td:=.func,zero:=[.v (.nilFunc)],eqk:=none }
theorem tf156:TyFact Try.prog 156 Qh8:=by
  refine ⟨⟨Try.t156,.nilFunc,by kernel_rfl,rfl,rfl,rfl,rfl,rfl,by simp [Value.cells,Value.oneCell']⟩,⟨_,Try.underlying156,⟨_,_,_,rfl⟩⟩,fun fs h=>?_,fun ks h=>?_,fun q h=>?_⟩
  · cases h
  · cases h
  · cases h
theorem Qi9 (d:Nat) (w:World) (a0 b0:Int):(Op.equalIn (d+2) 160 (.agg #[.int .u64 a0]) (.agg #[.int .u64 b0])).run Try.prog w=.ok (xW [.int .u64 a0] [.int .u64 b0]) w:=by
  have h1:Try.prog.underlying 160=some (.struct (Try.prog.fieldsOf 160)):=by kernel_rfl
  have h2 : (Try.prog.fieldsOf 160).toList = [{ name := "set", type := 158, offset := 0, embedded := false, tag := "", pkgPath := "couchette/berth", byteOffset := 0 }] := by kernel_rfl
  rw [run_equalIn_agg w (d+1) 160 _ _ h1 (by kernel_rfl),h2]
  refine Eq.trans (b:=Result.ok (a0 == b0 && true) w) ?_ (congrArg (fun r=>Result.ok r w) (by simp [xW,veq,Bool.and_assoc]))
  exact yN (by simp) (zO (Try.isAgg158) rfl) (zO (Try.isAgg158) rfl) (run_equalIn_int w (d+0) 158 _ _ _ _ Try.underlying158) (xL)
theorem Qje (w:World) (em:Bool) (a0:Int):(Instr.checkKey em 10000 160 (.agg #[.int .u64 a0])).run Try.prog w=.ok () w:=by kernel_rfl
def Qh2:TI:={ cells:=1,bytes:=8,td:=.map 160 4,zero:=[.v (.map none)],eqk:=none,key:=some { kd:=.agg [some .u64],z:=.v (.bool false),agg:=false } }
theorem tf157:TyFact Try.prog 157 Qh2:=by
  refine ⟨⟨Try.t157,.map none,by kernel_rfl,rfl,rfl,rfl,rfl,rfl,by simp [Value.cells,Value.oneCell']⟩,⟨_,Try.underlying157,rfl⟩,fun fs h=>?_,fun ks h=>?_,fun q h=>?_⟩
  · cases h
  · cases h
  · cases h
    refine ⟨160,4,rfl,LY Try.underlying160 (fun w xs ys hx hy=>?_) (fun w em xs hx=>?_),fun w=>⟨.bool false,by simp [zeroValue,typeInfo,show Try.prog.info? 4=some Try.t4 by kernel_rfl,Try.t4],fun w' ok ρ y=>?_⟩⟩
    · skip
      cases xs with
      |nil=>simp [qJ] at hx
      |cons x0 xs1 =>
      cases xs1 with
      |cons _ _=>simp [qJ] at hx
      |nil =>
      cases ys with
      |nil=>simp [qJ] at hy
      |cons y0 ys1 =>
      cases ys1 with
      |cons _ _=>simp [qJ] at hy
      |nil =>
      simp only [qJ] at hx
      obtain ⟨⟨nx0,rfl⟩,_⟩:=hx
      simp only [qJ] at hy
      obtain ⟨⟨ny0,rfl⟩,_⟩:=hy
      exact Qi9 9998 w nx0 ny0
    · skip
      cases xs with
      |nil=>simp [qJ] at hx
      |cons x0 xs1 =>
      cases xs1 with
      |cons _ _=>simp [qJ] at hx
      |nil =>
      simp only [qJ] at hx
      obtain ⟨⟨nx0,rfl⟩,_⟩:=hx
      exact Qje w em nx0
    · exact .v rfl
def Yq:TI:={ cells:=1,bytes:=8,td:=.int .u64,zero:=[.v (.int .u64 0)],eqk:=none }
theorem tf158:TyFact Try.prog 158 Yq:=by
  refine ⟨⟨Try.t158,.int .u64 0,by kernel_rfl,rfl,rfl,rfl,rfl,rfl,by simp [Value.cells,Value.oneCell']⟩,⟨_,Try.underlying158,rfl⟩,fun fs h=>?_,fun ks h=>?_,fun q h=>?_⟩
  · cases h
  · cases h
  · cases h
def Qid:TI:={ cells:=1,bytes:=8,td:=.struct [(0,1,158)],zero:=[.v (.int .u64 0)],eqk:=none }
theorem tf160:TyFact Try.prog 160 Qid:=by
  refine ⟨⟨Try.t160,.agg #[.int .u64 0],by kernel_rfl,rfl,rfl,rfl,rfl,rfl,by simp [Value.cells,Value.oneCell']⟩,⟨_,Try.underlying160,⟨_,rfl,rfl⟩⟩,fun fs h=>?_,fun ks h=>?_,fun q h=>?_⟩
  · cases h
    simp only [List.mem_cons,List.not_mem_nil,or_false,forall_eq_or_imp,forall_eq]
    exact ⟨Try.t158,by kernel_rfl,rfl⟩
  · cases h
  · cases h
def Xh:TI:={ cells:=3,bytes:=24,td:=.array 3 158,zero:=[.v (.int .u64 0),.v (.int .u64 0),.v (.int .u64 0)],eqk:=none }
theorem tf164:TyFact Try.prog 164 Xh:=by
  refine ⟨⟨Try.t164,.agg #[.int .u64 0,.int .u64 0,.int .u64 0],by kernel_rfl,rfl,rfl,rfl,rfl,rfl,by simp [Value.cells,Value.oneCell']⟩,⟨_,Try.underlying164,rfl⟩,fun fs h=>?_,fun ks h=>?_,fun q h=>?_⟩
  · cases h
  · cases h
  · cases h
def Lc:TI:={ cells:=1,bytes:=8,td:=.func,zero:=[.v (.nilFunc)],eqk:=none }
theorem tf168:TyFact Try.prog 168 Lc:=by
  refine ⟨⟨Try.t168,.nilFunc,by kernel_rfl,rfl,rfl,rfl,rfl,rfl,by simp [Value.cells,Value.oneCell']⟩,⟨_,Try.underlying168,⟨_,_,_,rfl⟩⟩,fun fs h=>?_,fun ks h=>?_,fun q h=>?_⟩
  · cases h
  · cases h
  · cases h
def QhY:TI:={ cells:=1,bytes:=8,td:=.func,zero:=[.v (.nilFunc)],eqk:=none }
theorem tf170:TyFact Try.prog 170 QhY:=by
  refine ⟨⟨Try.t170,.nilFunc,by kernel_rfl,rfl,rfl,rfl,rfl,rfl,by simp [Value.cells,Value.oneCell']⟩,⟨_,Try.underlying170,⟨_,_,_,rfl⟩⟩,fun fs h=>?_,fun ks h=>?_,fun q h=>?_⟩
  · cases h
  · cases h
  · cases h
def Qb7:TI:={ cells:=1,bytes:=8,td:=.map 3 3,zero:=[.v (.map none)],eqk:=none,key:=some { kd:=.one (.int .i64),z:=.v (.int .i64 0),agg:=false } }
theorem tf172:TyFact Try.prog 172 Qb7:=by
  refine ⟨⟨Try.t172,.map none,by kernel_rfl,rfl,rfl,rfl,rfl,rfl,by simp [Value.cells,Value.oneCell']⟩,⟨_,Try.underlying172,rfl⟩,fun fs h=>?_,fun ks h=>?_,fun q h=>?_⟩
  · cases h
  · cases h
  · cases h
    refine ⟨3,3,rfl,Qax Try.underlying3,fun w=>⟨.int .i64 0,by simp [zeroValue,typeInfo,show Try.prog.info? 3=some Try.t3 by kernel_rfl,Try.t3],fun w' ok ρ y=>?_⟩⟩
    exact .v rfl
def Qac:TI:={ cells:=1,bytes:=8,td:=.func,zero:=[.v (.nilFunc)],eqk:=none }
theorem tf173:TyFact Try.prog 173 Qac:=by
  refine ⟨⟨Try.t173,.nilFunc,by kernel_rfl,rfl,rfl,rfl,rfl,rfl,by simp [Value.cells,Value.oneCell']⟩,⟨_,Try.underlying173,⟨_,_,_,rfl⟩⟩,fun fs h=>?_,fun ks h=>?_,fun q h=>?_⟩
  · cases h
  · cases h
  · cases h
def Qcv:TI:={ cells:=1,bytes:=4,td:=.int .u32,zero:=[.v (.int .u32 0)],eqk:=none }
theorem tf188:TyFact Try.prog 188 Qcv:=by
  refine ⟨⟨Try.t188,.int .u32 0,by kernel_rfl,rfl,rfl,rfl,rfl,rfl,by simp [Value.cells,Value.oneCell']⟩,⟨_,Try.underlying188,rfl⟩,fun fs h=>?_,fun ks h=>?_,fun q h=>?_⟩
  · cases h
  · cases h
  · cases h
def tyL:List (Nat × TI):=[(3,ti3),(4,ti4),(5,ti5),(9,ti9),(22,Zk),(23,ti23),(25,Zv),(26,vP),(28,jE),(31,Wm),(33,Qbb),(34,Qb),(37,WF),(44,ti44),(45,ti45),(49,vR),(51,Zq),(58,Ub),(65,R8),(81,j3),(84,ti84),(88,ti88),(94,ti94),(100,V6),(102,UD),(103,QbZ),(106,Qv),(111,Qh6),(115,Qcm),(118,Zy),(119,Qcr),(121,U5),(132,LC),(134,Ls),(149,Qih),(156,Qh8),(157,Qh2),(158,Yq),(160,Qid),(164,Xh),(168,Lc),(170,QhY),(172,Qb7),(173,Qac),(188,Qcv)]
def tyOf:List (Nat × TI)→Tys
  |[],_=>none
  |p :: r,t=>if t=p.1 then some p.2 else tyOf r t
def tyB:Tys:=tyOf tyL
theorem ty3:tyB 3=some ti3:=rfl
theorem ty4:tyB 4=some ti4:=rfl
theorem Wl:tyB 22=some Zk:=rfl
theorem WT:tyB 25=some Zv:=rfl
theorem xC:tyB 26=some vP:=rfl
theorem jO:tyB 28=some jE:=rfl
theorem JE:tyB 31=some Wm:=rfl
theorem ty33:tyB 33=some Qbb:=rfl
theorem QN:tyB 34=some Qb:=rfl
theorem J8:tyB 37=some WF:=rfl
theorem ty45:tyB 45=some ti45:=rfl
theorem xA:tyB 49=some vR:=rfl
theorem WP:tyB 51=some Zq:=rfl
theorem Qdf:tyB 58=some Ub:=rfl
theorem QdC:tyB 65=some R8:=rfl
theorem yw:tyB 81=some j3:=rfl
theorem ty94:tyB 94=some ti94:=rfl
theorem Qco:tyB 100=some V6:=rfl
theorem Qig:tyB 102=some UD:=rfl
theorem ty103:tyB 103=some QbZ:=rfl
theorem Zu:tyB 106=some Qv:=rfl
theorem ty115:tyB 115=some Qcm:=rfl
theorem Jt:tyB 118=some Zy:=rfl
theorem ty119:tyB 119=some Qcr:=rfl
theorem Qh0:tyB 121=some U5:=rfl
theorem Qie:tyB 132=some LC:=rfl
theorem Qh7:tyB 134=some Ls:=rfl
theorem XL:tyB 158=some Yq:=rfl
theorem Qcp:tyB 164=some Xh:=rfl
theorem Qh3:tyB 168=some Lc:=rfl
theorem ty172:tyB 172=some Qb7:=rfl
theorem Qil:tyB 173=some Qac:=rfl
theorem ty188:tyB 188=some Qcv:=rfl
theorem U4:∀ {L:List (Nat × TI)} {t:Nat} {i:TI},tyOf L t=some i→(t,i) ∈ L
  |p :: r,t,i,h=>by
    simp only [tyOf] at h
    split at h
    · rename_i ht;cases h;rw [ht];exact List.mem_cons_self
    · exact List.mem_cons_of_mem _ (U4 h)
theorem V5:jM Try.prog tyB:=fun t i h=>by
  have h:=U4 h
  simp only [tyL,List.mem_cons,List.not_mem_nil,or_false,Prod.mk.injEq] at h
  rcases h with ⟨rfl,rfl⟩|⟨rfl,rfl⟩|⟨rfl,rfl⟩|⟨rfl,rfl⟩|⟨rfl,rfl⟩|⟨rfl,rfl⟩|⟨rfl,rfl⟩|⟨rfl,rfl⟩|⟨rfl,rfl⟩|⟨rfl,rfl⟩|⟨rfl,rfl⟩|⟨rfl,rfl⟩|⟨rfl,rfl⟩|⟨rfl,rfl⟩|⟨rfl,rfl⟩|⟨rfl,rfl⟩|⟨rfl,rfl⟩|⟨rfl,rfl⟩|⟨rfl,rfl⟩|⟨rfl,rfl⟩|⟨rfl,rfl⟩|⟨rfl,rfl⟩|⟨rfl,rfl⟩|⟨rfl,rfl⟩|⟨rfl,rfl⟩|⟨rfl,rfl⟩|⟨rfl,rfl⟩|⟨rfl,rfl⟩|⟨rfl,rfl⟩|⟨rfl,rfl⟩|⟨rfl,rfl⟩|⟨rfl,rfl⟩|⟨rfl,rfl⟩|⟨rfl,rfl⟩|⟨rfl,rfl⟩|⟨rfl,rfl⟩|⟨rfl,rfl⟩|⟨rfl,rfl⟩|⟨rfl,rfl⟩|⟨rfl,rfl⟩|⟨rfl,rfl⟩|⟨rfl,rfl⟩|⟨rfl,rfl⟩|⟨rfl,rfl⟩|⟨rfl,rfl⟩
  · exact tf3
  · exact tf4
  · exact tf5
  · exact tf9
  · exact tf22
  · exact tf23
  · exact tf25
  · exact tf26
  · exact tf28
  · exact tf31
  · exact tf33
  · exact tf34
  · exact tf37
  · exact tf44
  · exact tf45
  · exact tf49
  · exact tf51
  · exact tf58
  · exact tf65
  · exact tf81
  · exact tf84
  · exact tf88
  · exact tf94
  · exact tf100
  · exact tf102
  · exact tf103
  · exact tf106
  · exact tf111
  · exact tf115
  · exact tf118
  · exact tf119
  · exact tf121
  · exact tf132
  · exact tf134
  · exact tf149
  · exact tf156
  · exact tf157
  · exact tf158
  · exact tf160
  · exact tf164
  · exact tf168
  · exact tf170
  · exact tf172
  · exact tf173
  · exact tf188
end Go.Sym.B
namespace Go.Sym.C
def Bd (B:Nat) (q:Rat):Prop:=q.den ∣ 27720∧q.num≤B * q.den∧-(B * q.den:Int)≤q.num
theorem Bd.mono {B C:Nat} {q:Rat} (h:Bd B q) (hB:B≤C):Bd C q:=by
  obtain ⟨h1,h2,h3⟩:=h
  have h4:(B:Int) * q.den≤C * q.den:=by exact_mod_cast Nat.mul_le_mul_right _ hB
  exact ⟨h1,by omega,by omega⟩
end Go.Sym.C
namespace Go.Sym.B
open Go Go.Sym Go.Proofs Go.Sym.C
structure Bunk where
  cab:Int
  bed:Int
deriving DecidableEq,Inhabited
structure Cabin where
  beds:Int
  door:Bool
deriving DecidableEq,Inhabited
structure Tk where
  party:Int
  sex:Int
  cab:Int
  bed:Int
  frm:Int
  to:Int
  dog:Bool
deriving DecidableEq,Inhabited
structure Tr where
  ticket:Int
  cab:Int
  bed:Int
deriving DecidableEq,Inhabited
structure Chart where
  cabins:List Cabin
  secs:Int
  sold:List Tk
deriving DecidableEq,Inhabited
structure Ask where
  party:Int
  frm:Int
  to:Int
  sexes:List Int
  dog:Bool
deriving DecidableEq,Inhabited
def Tk.bunk (t:Tk):Bunk:=⟨t.cab,t.bed⟩
def dI:DV→Int
  |.v (.int _ n)=>n
  |_=>0
def dB:DV→Bool
  |.v (.bool b)=>b
  |_=>false
def dL:DV→List (List DV)
  |.sl xs=>xs
  |_=>[]
def zX (n:Int):List DV:=[.v (.int .i64 n)]
def qx (b:Bunk):List DV:=[.v (.int .i64 b.cab),.v (.int .i64 b.bed)]
def qj (c:Cabin):List DV:=[.v (.int .i64 c.beds),.v (.bool c.door)]
def eTk (t:Tk):List DV:=[.v (.int .i64 t.party),.v (.int .i64 t.sex),.v (.int .i64 t.cab),.v (.int .i64 t.bed),.v (.int .i64 t.frm),.v (.int .i64 t.to),.v (.bool t.dog)]
def eTr (t:Tr):List DV:=[.v (.int .i64 t.ticket),.v (.int .i64 t.cab),.v (.int .i64 t.bed)]
def xG (c:Chart):List DV:=[.sl (c.cabins.map qj),.v (.int .i64 c.secs),.sl (c.sold.map eTk)]
def qG (l:List Bunk):List DV:=[.sl (l.map qx)]
def zY (r:List DV):Int:=dI (r.headD (.sl []))
def wS:List DV→Bunk
  |[a,b]=>⟨dI a,dI b⟩
  |_=>default
def qp:List DV→Cabin
  |[a,b]=>⟨dI a,dB b⟩
  |_=>default
def dTk:List DV→Tk
  |[a,b,c,d,e,f,g]=>⟨dI a,dI b,dI c,dI d,dI e,dI f,dB g⟩
  |_=>default
def dTr:List DV→Tr
  |[a,b,c]=>⟨dI a,dI b,dI c⟩
  |_=>default
def WE:List DV→List Bunk
  |[a]=>(dL a).map wS
  |_=>[]
theorem Qi8 (n:Int):zY (zX n)=n:=rfl
theorem QhN (b:Bunk):wS (qx b)=b:=rfl
theorem QfQ (b:Cabin):qp (qj b)=b:=rfl
theorem Qh1 (b:Tk):dTk (eTk b)=b:=rfl
theorem dTr_e (b:Tr):dTr (eTr b)=b:=rfl
theorem WS (l:List Int):(l.map zX).map zY=l:=by simp [Function.comp_def,Qi8]
theorem zf (l:List Bunk):(l.map qx).map wS=l:=by simp [Function.comp_def,QhN]
theorem qc (l:List Cabin):(l.map qj).map qp=l:=by simp [Function.comp_def,QfQ]
theorem mTk (l:List Tk):(l.map eTk).map dTk=l:=by simp [Function.comp_def,Qh1]
theorem mTr (l:List Tr):(l.map eTr).map dTr=l:=by simp [Function.comp_def,dTr_e]
theorem Qe8 (l:List Bunk):WE (qG l)=l:=zf l
theorem wM (l:List (List Bunk)):(l.map qG).map WE=l:=by simp [Function.comp_def,Qe8]
theorem U3 (l:List (Int)) (n:Nat):(l.map zX).getD n [.v (.int .i64 0)]=zX (l.getD n 0):=QE zX l n 0
theorem hInt {l:List (Int)} {n:Nat} (h:n < l.length):(l.map zX).getD n []=zX (l.getD n 0):=by simp [List.getD_eq_getElem?_getD,h]
theorem QaE (l:List (Int)):zT 1 (l.map zX)=True:=vD (f:=zX) (k:=1) (fun _=>rfl) l
theorem qE (l:List (Bunk)) (n:Nat):(l.map qx).getD n [.v (.int .i64 0),.v (.int .i64 0)]=qx (l.getD n default):=QE qx l n default
theorem hBunk {l:List (Bunk)} {n:Nat} (h:n < l.length):(l.map qx).getD n []=qx (l.getD n default):=by simp [List.getD_eq_getElem?_getD,h]
theorem zz (l:List (Bunk)):zT 2 (l.map qx)=True:=vD (f:=qx) (k:=2) (fun _=>rfl) l
theorem qz (l:List (Cabin)) (n:Nat):(l.map qj).getD n [.v (.int .i64 0),.v (.bool false)]=qj (l.getD n default):=QE qj l n default
theorem Qi4 {l:List (Cabin)} {n:Nat} (h:n < l.length):(l.map qj).getD n []=qj (l.getD n default):=by simp [List.getD_eq_getElem?_getD,h]
theorem zJ (l:List (Cabin)):zT 2 (l.map qj)=True:=vD (f:=qj) (k:=2) (fun _=>rfl) l
theorem gTk (l:List (Tk)) (n:Nat):(l.map eTk).getD n [.v (.int .i64 0),.v (.int .i64 0),.v (.int .i64 0),.v (.int .i64 0),.v (.int .i64 0),.v (.int .i64 0),.v (.bool false)]=eTk (l.getD n default):=QE eTk l n default
theorem hTk {l:List (Tk)} {n:Nat} (h:n < l.length):(l.map eTk).getD n []=eTk (l.getD n default):=by simp [List.getD_eq_getElem?_getD,h]
theorem rTk (l:List (Tk)):zT 7 (l.map eTk)=True:=vD (f:=eTk) (k:=7) (fun _=>rfl) l
theorem gTr (l:List (Tr)) (n:Nat):(l.map eTr).getD n [.v (.int .i64 0),.v (.int .i64 0),.v (.int .i64 0)]=eTr (l.getD n default):=QE eTr l n default
theorem rTr (l:List (Tr)):zT 3 (l.map eTr)=True:=vD (f:=eTr) (k:=3) (fun _=>rfl) l
theorem zw (l:List (List Bunk)) (n:Nat):(l.map qG).getD n [.sl []]=qG (l.getD n []):=QE qG l n []
theorem Qfa {l:List (List Bunk)} {n:Nat} (h:n < l.length):(l.map qG).getD n []=qG (l.getD n []):=by simp [List.getD_eq_getElem?_getD,h]
theorem zx (l:List (List Bunk)):zT 1 (l.map qG)=True:=vD (f:=qG) (k:=1) (fun _=>rfl) l
theorem QiG {l:List (Chart)} {n:Nat} (h:n < l.length):(l.map xG).getD n []=xG (l.getD n default):=by simp [List.getD_eq_getElem?_getD,h]
theorem Zm (l:List (Chart)):zT 3 (l.map xG)=True:=vD (f:=xG) (k:=3) (fun _=>rfl) l
def aI (n:Int):AV:=.v (.int .i64 n)
def aB (b:Bool):AV:=.v (.bool b)
def qf (b:Bunk):AV:=.agg [.v (.int .i64 b.cab),.v (.int .i64 b.bed)]
def cTk (t:Tk):List AV:=[.v (.int .i64 t.party),.v (.int .i64 t.sex),.v (.int .i64 t.cab),.v (.int .i64 t.bed),.v (.int .i64 t.frm),.v (.int .i64 t.to),.v (.bool t.dog)]
def aTk (t:Tk):AV:=.agg (cTk t)
def qo (a:Ask):List AV:=[.v (.int .i64 a.party),.v (.int .i64 a.frm),.v (.int .i64 a.to),.sl (a.sexes.map zX),.v (.bool a.dog)]
def qD (a:Ask):AV:=.agg (qo a)
def qb (c:Chart):List AV:=[.sl (c.cabins.map qj),.v (.int .i64 c.secs),.sl (c.sold.map eTk)]
def qa (c:Chart):AV:=.agg (qb c)
def qA (l:List Int):AV:=.sl (l.map zX)
def qd (l:List Bunk):AV:=.sl (l.map qx)
def qh (l:List Tk):AV:=.sl (l.map eTk)
def q9 (l:List Cabin):AV:=.sl (l.map qj)
def zq (l:List Tr):AV:=.sl (l.map eTr)
theorem Fn0 {fn:Func} {c:Code} {f:FuncId} (hf:Try.prog.funcs[f]?=some fn) (hb:fn.body=some c) (he:∀ vs w,(callFunc f vs).run Try.prog w=.ok (.enter f vs) w) (hd:xZ fn.ntmps c=true):FnData Try.prog tyB f fn c:=⟨V5,hf,hb,he,hd⟩
theorem qP {L:List (FuncId × Entry)} {A:Frm→Prop} (h:Qcg A Try.prog L):Env A Try.prog tyB (tab L):=⟨V5,QeA h,by kernel_rfl⟩
theorem z0 {a b:Int} (h:-9223372036854775808≤a+b∧a+b < 9223372036854775808):IntKind.wrap .i64 (a+b)=a+b:=wrap64 h.1 h.2
end Go.Sym.B
namespace Go.Sym.B
open Go Go.Sym Go.Proofs Go.Sym.C
def wz (x:Int):List (Nat × AObj):=[(0,.cells [.v (.int .u64 x)])]
def xsh (s:Int) (k:Nat):Int:=IntKind.u64.wrap (BitVec.ofInt IntKind.u64.bits s ^^^ BitVec.ofInt IntKind.u64.bits (s.fdiv (2 ^ min k IntKind.u64.bits))).toNat
def nxS (x:Int):Int:=IntKind.u64.wrap (IntKind.u64.wrap (x * 2862933555777941757)+3037000493)
def nxV (x:Int):Int:=xsh (IntKind.u64.wrap (xsh (nxS x) 31 * 10723151780598845931)) 30
def Yu:=kk @Qco (kk @Qig (kk @V6.eq_1 @UD.eq_1))
def Qaw:=kk @aI.eq_1 (@aB.eq_1)
theorem Qg5 (x:Int):Fn noB Try.prog 90 [.ptr 0 0] (qg (wz x)) (.v (.int .u64 (nxV x))) (qg (wz (nxS x))) 0:=by
  have env:Env (fun _=>True) Try.prog tyB (tab []):=qP trivial
  refine Fn.of (A:=fun _=>True) (n0:=1) (D:=noD) (Fn0 Try.func90 rfl (fun vs w=>by kernel_rfl) (by kernel_rfl)) (by simp) (by simp [AV.ids]) ?_ (fun _ _ _ _=>trivial) qF ?_
  · intro i o hi
    have h:=qV hi
    simp [wz] at h
    rcases h with ⟨rfl,rfl⟩;simp [AObj.ids,AV.ids,AV.idsL]
  repeat' (first|(apply nx;with_reducible constructor)|refine jq (by decide) ?_|((first|refine kz env fun Q hQ=>?_|refine kj fun Q hQ=>?_);simp only [vkt,seval,Yu,Qaw,wz];(try simp only [ite_and]);(repeat' (first|with_reducible assumption|refine And.intro ?_ ?_|intro hp));all_goals (first|(refine hQ _ ?_;clear hQ Q)|(refine hQ _ (fun h=>?_) (fun h=>?_) <;> clear hQ Q <;> (try simp only [vki,reduceCtorEq] at h))|(refine kx ?_;kernel_rfl)|omega|assumption|with_reducible rfl|skip)))
  (simp only [vrt,Try.results90,vkt,seval,Yu,Qaw,wz];refine Fin.ok some [] ?_ ?_ ?_ ?_ ?_ rfl;all_goals (try simp only [vle,vkt,seval,Yu,Qaw,wz]))
  all_goals rfl
def Yo (S:St):List AV→Option Pk
  |[.ptr i 0]=>match S.h i with
    |some (.cells [.v (.int .u64 x)])=>some { hs:=[i],ar:=[.ptr 0 0],L0:=[.cells [.v (.int .u64 x)]],v:=.v (.int .u64 (nxV x)),L1:=[some (.cells [.v (.int .u64 (nxS x))])] }
    |_=>none
  |_=>none
theorem eNext {A:Frm→Prop}:qB A Try.prog 90 (fnE Yo):=wE fun S bs q h hp=>by
  unfold Yo at h
  split at h
  · split at h
    · cases h;exact Qg5 _
    · cases h
  · cases h
def Qc7 (x m:Int):Int:=if m < 1 then 0 else IntKind.i64.wrap (((nxV x).fdiv (2 ^ min 13 IntKind.u64.bits)).tmod (IntKind.u64.wrap (IntKind.i64.wrap (m+1))))
def QfL (x m:Int):Int:=if m < 1 then x else nxS x
theorem Qb8:∃ f:Int→Int→Int × Int,∀ x m,f x m=(Qc7 x m,QfL x m):=⟨fun x m=>(Qc7 x m,QfL x m),fun _ _=>rfl⟩
noncomputable def upV (x m:Int):Int:=(Classical.choose Qb8 x m).1
noncomputable def upS (x m:Int):Int:=(Classical.choose Qb8 x m).2
theorem Qgg (x m:Int):upV x m=Qc7 x m:=by unfold upV;rw [Classical.choose_spec Qb8]
theorem QiA (x m:Int):upS x m=QfL x m:=by unfold upS;rw [Classical.choose_spec Qb8]
theorem Qe9 {n:Int} (h0:0≤n) (h1:n < 18446744073709551616):IntKind.u64.wrap n=n:=by
  unfold IntKind.wrap
  simp only [IntKind.bits,IntKind.signed]
  simp
  omega
theorem Qfe (n:Int):0≤IntKind.u64.wrap n:=by
  unfold IntKind.wrap
  simp only [IntKind.bits,IntKind.signed]
  simp
  omega
theorem QaV {x m:Int} (h:m < 9223372036854775807):0≤upV x m∧(upV x m≤m∨upV x m=0):=by
  rw [Qgg]
  unfold Qc7
  split
  · exact ⟨Int.le_refl _,.inr rfl⟩
  · have h1:IntKind.i64.wrap (m+1)=m+1:=wrap64 (by omega) (by omega)
    have h2:IntKind.u64.wrap (m+1)=m+1:=Qe9 (by omega) (by omega)
    rw [h1,h2]
    have h3:0≤(nxV x).fdiv (2 ^ min 13 IntKind.u64.bits):=Int.fdiv_nonneg (by unfold nxV xsh;exact Qfe _) (by decide)
    rw [Int.tmod_eq_emod_of_nonneg h3]
    have h4:=Int.emod_nonneg ((nxV x).fdiv (2 ^ min 13 IntKind.u64.bits)) (show m+1 ≠ 0 by omega)
    have h5:=Int.emod_lt_of_pos ((nxV x).fdiv (2 ^ min 13 IntKind.u64.bits)) (show 0 < m+1 by omega)
    rw [wrap64 (by omega) (by omega)]
    omega
def Jg:=kk @ty3 (kk @Qco (kk @ti3.eq_1 @V6.eq_1))
def YQ:=kk @aI.eq_1 (@aB.eq_1)
theorem up_fn (x m:Int) (h:m < 9223372036854775807):Fn noB Try.prog 40 [.ptr 0 0,aI m] (qg (wz x)) (aI (upV x m)) (qg (wz (upS x m))) 0:=by
  have env:Env (fun _=>True) Try.prog tyB (tab [(90,fnE Yo)]):=qP ⟨eNext,trivial⟩
  refine Fn.of (A:=fun _=>True) (n0:=1) (D:=noD) (Fn0 Try.func40 rfl (fun vs w=>by kernel_rfl) (by kernel_rfl)) (by simp) (by simp [AV.ids,AV.idsL,aI]) ?_ (fun _ _ _ _=>trivial) qF ?_
  · intro i o hi
    have h:=qV hi
    simp [wz] at h
    rcases h with ⟨rfl,rfl⟩;simp [AObj.ids,AV.ids,AV.idsL]
  rw [Qgg,QiA]
  by_cases c1:m < 1
  · rw [show Qc7 x m=0 from if_pos c1,show QfL x m=x from if_pos c1]
    repeat' (first|(apply nx;with_reducible constructor)|refine jq (by decide) ?_|((first|refine kz env fun Q hQ=>?_|refine kj fun Q hQ=>?_);simp only [vkt,seval,Jg,YQ,wz,Yo,c1];(try simp only [ite_and]);(repeat' (first|with_reducible assumption|refine And.intro ?_ ?_|intro hp));all_goals (first|(refine hQ _ ?_;clear hQ Q)|(refine hQ _ (fun h=>?_) (fun h=>?_) <;> clear hQ Q <;> (try simp only [vki,reduceCtorEq] at h))|(refine kx ?_;kernel_rfl)|omega|assumption|with_reducible rfl|skip)))
    (simp only [vrt,Try.results40,vkt,seval,Jg,YQ,wz,Yo];refine Fin.ok some [] ?_ ?_ ?_ ?_ ?_ rfl;all_goals (try simp only [vle,vkt,seval,Jg,YQ,wz,Yo]))
    all_goals simp
  · rw [show Qc7 x m=_ from if_neg c1,show QfL x m=_ from if_neg c1]
    have h1:IntKind.i64.wrap (m+1)=m+1:=wrap64 (by omega) (by omega)
    have h2:IntKind.u64.wrap (m+1)=m+1:=Qe9 (by omega) (by omega)
    have h0:¬ m+1=0:=by omega
    repeat' (first|(apply nx;with_reducible constructor)|refine jq (by decide) ?_|((first|refine kz env fun Q hQ=>?_|refine kj fun Q hQ=>?_);simp only [vkt,seval,Jg,YQ,wz,Yo,c1,h1,h2,h0];(try simp only [ite_and]);(repeat' (first|with_reducible assumption|refine And.intro ?_ ?_|intro hp));all_goals (first|(refine hQ _ ?_;clear hQ Q)|(refine hQ _ (fun h=>?_) (fun h=>?_) <;> clear hQ Q <;> (try simp only [vki,reduceCtorEq] at h))|(refine kx ?_;kernel_rfl)|omega|assumption|with_reducible rfl|skip)))
    (simp only [vrt,Try.results40,vkt,seval,Jg,YQ,wz,Yo];refine Fin.ok some [] ?_ ?_ ?_ ?_ ?_ rfl;all_goals (try simp only [vle,vkt,seval,Jg,YQ,wz,Yo]))
    all_goals (first|rfl|rw [h1,h2])
noncomputable def pUp (S:St):List AV→Option Pk
  |[.ptr i 0,.v (.int .i64 m)]=>match S.h i with
    |some (.cells [.v (.int .u64 x)])=>some { pre:=m < 9223372036854775807,hs:=[i],ar:=[.ptr 0 0,.v (.int .i64 m)],L0:=[.cells [.v (.int .u64 x)]],v:=.v (.int .i64 (upV x m)),L1:=[some (.cells [.v (.int .u64 (upS x m))])] }
    |_=>none
  |_=>none
theorem eUp {A:Frm→Prop}:qB A Try.prog 40 (fnE pUp):=wE fun S bs q h hp=>by
  unfold pUp at h
  split at h
  · split at h
    · cases h;exact up_fn _ _ hp
    · cases h
  · cases h
def YF:=kk @ty3 @ti3.eq_1
def QbC:=kk @aI.eq_1 (@aB.eq_1)
theorem Qgy (x a b:Int) (h:-100000≤a∧a≤100000∧-100000≤b∧b≤100000):Fn noB Try.prog 37 [.ptr 0 0,aI a,aI b] (qg (wz x)) (aI (a+upV x (b - a))) (qg (wz (upS x (b - a)))) 0:=by
  have env:Env (fun _=>True) Try.prog tyB (tab [(40,fnE pUp)]):=qP ⟨eUp,trivial⟩
  refine Fn.of (A:=fun _=>True) (n0:=1) (D:=noD) (Fn0 Try.func37 rfl (fun vs w=>by kernel_rfl) (by kernel_rfl)) (by simp) (by simp [AV.ids,AV.idsL,aI]) ?_ (fun _ _ _ _=>trivial) qF ?_
  · intro i o hi
    have h:=qV hi
    simp [wz] at h
    rcases h with ⟨rfl,rfl⟩;simp [AObj.ids,AV.ids,AV.idsL]
  have b1:=QaV (x:=x) (m:=b - a) (by omega)
  have h1:IntKind.i64.wrap (b - a)=b - a:=wrap64 (by omega) (by omega)
  have h2:IntKind.i64.wrap (a+upV x (b - a))=a+upV x (b - a):=wrap64 (by omega) (by omega)
  have h3:b - a < 9223372036854775807:=by omega
  repeat' (first|(apply nx;with_reducible constructor)|refine jq (by decide) ?_|((first|refine kz env fun Q hQ=>?_|refine kj fun Q hQ=>?_);simp only [vkt,seval,YF,QbC,wz,pUp,h1,h2];(try simp only [ite_and]);(repeat' (first|with_reducible assumption|refine And.intro ?_ ?_|intro hp));all_goals (first|(refine hQ _ ?_;clear hQ Q)|(refine hQ _ (fun h=>?_) (fun h=>?_) <;> clear hQ Q <;> (try simp only [vki,reduceCtorEq] at h))|(refine kx ?_;kernel_rfl)|omega|assumption|with_reducible rfl|skip)))
  (simp only [vrt,Try.results37,vkt,seval,YF,QbC,wz,pUp];refine Fin.ok some [] ?_ ?_ ?_ ?_ ?_ rfl;all_goals (try simp only [vle,vkt,seval,YF,QbC,wz,pUp]))
  all_goals rfl
noncomputable def yt (S:St):List AV→Option Pk
  |[.ptr i 0,.v (.int .i64 a),.v (.int .i64 b)]=>match S.h i with
    |some (.cells [.v (.int .u64 x)])=>some { pre:=-100000≤a∧a≤100000∧-100000≤b∧b≤100000,hs:=[i],ar:=[.ptr 0 0,.v (.int .i64 a),.v (.int .i64 b)],L0:=[.cells [.v (.int .u64 x)]],v:=.v (.int .i64 (a+upV x (b - a))),L1:=[some (.cells [.v (.int .u64 (upS x (b - a)))])] }
    |_=>none
  |_=>none
theorem eFrom {A:Frm→Prop}:qB A Try.prog 37 (fnE yt):=wE fun S bs q h hp=>by
  unfold yt at h
  split at h
  · split at h
    · cases h;exact Qgy _ _ _ hp
    · cases h
  · cases h
def nbK (l:List Int):Nat→Int
  |0=>11400714819323198485
  |k+1=>xsh (IntKind.u64.wrap (IntKind.u64.wrap (nbK l k+IntKind.u64.wrap (l.getD k 0)) * 13787848793156543929)) 29
def nbS (l:List Int):Int:=nbK l l.length
def nbI (l:List Int) (k:Nat):St:={ t:=asg [(0,qA l),(3,.ptr 0 0),(4,aI k)],h:=qg (wz (nbK l k)),n:=1 }
def ko:=kk @ty3 (kk @Wl (kk @Qco (kk @Qig (kk @ti3.eq_1 (kk @Zk.eq_1 (kk @V6.eq_1 @UD.eq_1))))))
def ZJ:=kk @aI.eq_1 (kk @aB.eq_1 (kk @nbI.eq_1 (kk @qA.eq_1 (kk @U3 (@zX.eq_1)))))
theorem QiO (l:List Int) (hl:l.length≤maxLen):Fn noB Try.prog 15 [qA l] noH (.ptr 0 0) (qg (wz (nbS l))) 0:=by
  have env:Env (fun _=>True) Try.prog tyB (tab []):=qP trivial
  refine Fn.of (A:=fun _=>True) (n0:=0) (D:=noD) (Fn0 Try.func15 rfl (fun vs w=>by kernel_rfl) (by kernel_rfl)) (by simp) (by simp [AV.ids,AV.idsL,qA]) (fun i o h=>by cases h) (fun _ _ _ _=>trivial) qF ?_
  repeat' (first|(apply nx;with_reducible constructor)|refine jq (by decide) ?_|((first|refine kz env fun Q hQ=>?_|refine kj fun Q hQ=>?_);simp only [vkt,seval,ko,ZJ,wz];(try simp only [ite_and]);(repeat' (first|with_reducible assumption|refine And.intro ?_ ?_|intro hp));all_goals (first|(refine hQ _ ?_;clear hQ Q)|(refine hQ _ (fun h=>?_) (fun h=>?_) <;> clear hQ Q <;> (try simp only [vki,reduceCtorEq] at h))|(refine kx ?_;kernel_rfl)|omega|assumption|with_reducible rfl|skip)))
  refine qX (fun k:{ k:Nat // k≤l.length }=>nbI l k.1) (fun k=>l.length - k.1) ⟨0,Nat.zero_le _⟩ ?_ fun ⟨k,hk⟩=>?_
  · (refine Le.ok some [] ?_;constructor;all_goals (try simp only [vle,vkt,seval,ko,ZJ,wz]))
    all_goals first|rfl|simp
  · repeat' (first|(apply nx;with_reducible constructor)|refine jq (by decide) ?_)
    (refine kz env fun Q hQ=>?_;simp only [vkt,seval,ko,ZJ,wz];(try simp only [ite_and]);(repeat' (first|with_reducible assumption|refine And.intro ?_ ?_|intro hp));all_goals (first|(refine hQ _ ?_;clear hQ Q)|(refine kx ?_;kernel_rfl)|omega|assumption|with_reducible rfl|skip))
    repeat' (first|(apply nx;with_reducible constructor)|refine jq (by decide) ?_)
    (refine yH (by simp only [vkt,seval,ko,ZJ,wz];rfl) (fun h=>?_) (fun h=>?_) <;> (try simp only [vki,reduceCtorEq] at h))
    · have hlt:k < l.length:=by omega
      have e9:=Qc4 hlt hl
      repeat' (first|(apply nx;with_reducible constructor)|refine jq (by decide) ?_|((first|refine kz env fun Q hQ=>?_|refine kj fun Q hQ=>?_);simp only [vkt,seval,ko,ZJ,wz,e9];(try simp only [ite_and]);(repeat' (first|with_reducible assumption|refine And.intro ?_ ?_|intro hp));all_goals (first|(refine hQ _ ?_;clear hQ Q)|(refine hQ _ (fun h=>?_) (fun h=>?_) <;> clear hQ Q <;> (try simp only [vki,reduceCtorEq] at h))|(refine kx ?_;kernel_rfl)|omega|assumption|with_reducible rfl|skip)))
      refine ⟨⟨k+1,hlt⟩,by show l.length - (k+1) < l.length - k;omega, ?_⟩
      (refine Le.ok some [] ?_;constructor;all_goals (try simp only [vle,vkt,seval,ko,ZJ,wz]))
      all_goals first|rfl|(simp [e9];done)
    · have hkn:k=l.length:=by omega
      subst hkn
      repeat' (first|(apply nx;with_reducible constructor)|refine jq (by decide) ?_|((first|refine kz env fun Q hQ=>?_|refine kj fun Q hQ=>?_);simp only [vkt,seval,ko,ZJ,wz];(try simp only [ite_and]);(repeat' (first|with_reducible assumption|refine And.intro ?_ ?_|intro hp));all_goals (first|(refine hQ _ ?_;clear hQ Q)|(refine hQ _ (fun h=>?_) (fun h=>?_) <;> clear hQ Q <;> (try simp only [vki,reduceCtorEq] at h))|(refine kx ?_;kernel_rfl)|omega|assumption|with_reducible rfl|skip)))
      (simp only [vrt,Try.results15,vkt,seval,ko,ZJ,wz];refine Fin.ok some [] ?_ ?_ ?_ ?_ ?_ rfl;all_goals (try simp only [vle,vkt,seval,ko,ZJ,wz]))
      all_goals rfl
def Yz (_:St):List AV→Option Pk
  |[.sl xs]=>some { pre:=xs=(xs.map zY).map zX∧xs.length≤maxLen,ar:=[.sl xs],v:=.ptr 0 0,L1:=[some (.cells [.v (.int .u64 (nbS (xs.map zY)))])] }
  |_=>none
theorem eBag {A:Frm→Prop}:qB A Try.prog 15 (fnE Yz):=wE fun S bs q h hp=>by
  unfold Yz at h
  split at h <;> cases h
  have:=QiO (List.map zY _) (by rw [List.length_map];exact hp.2)
  simp only [qA,← hp.1] at this
  exact this
end Go.Sym.B
namespace Go.Sym.B
open Go Go.Sym Go.Proofs Go.Sym.C
def inB (n lo hi:Int):Bool:=decide (lo≤n) && decide (n≤hi)
theorem jV {n lo hi:Int}:inB n lo hi=true ↔ lo≤n∧n≤hi:=by simp [inB]
def wI (n a b:Int):Int:=if n < a then 7 else if b < n then 6 else 0
def ym:List Int→Int
  |[]=>0
  |e :: r=>if e=0 then ym r else e
theorem Qi {l:List Int} {k:Nat} (h:∀ j,j < k→l.getD j 0=0) (hk:k < l.length) (he:l.getD k 0 ≠ 0):ym l=l.getD k 0:=by
  induction l generalizing k with
  |nil=>simp at hk
  |cons e r ih =>
    cases k with
    |zero=>rw [ym,if_neg (by simpa using he)];rfl
    |succ k =>
      rw [ym,if_pos (by simpa using h 0 (by omega))]
      have:=ih (k:=k) (fun j hj=>by simpa using h (j+1) (by omega)) (by simpa using hk) (by simpa using he)
      rw [this];rfl
theorem xB {l:List Int} (h:∀ j,j < l.length→l.getD j 0=0):ym l=0:=by
  induction l with
  |nil=>rfl
  |cons e r ih =>
    rw [ym,if_pos (by simpa using h 0 (by simp))]
    exact ih fun j hj=>by simpa using h (j+1) (by simpa using hj)
theorem Q3 {l:List Int} (h:ym l=0):∀ e ∈ l,e=0:=by
  induction l with
  |nil=>simp
  |cons e r ih =>
    rw [ym] at h
    split at h
    · rename_i h0
      intro x hx
      rcases List.mem_cons.1 hx with rfl|hx
      · exact h0
      · exact ih h x hx
    · rename_i h0;exact absurd h h0
def Qd (a b:Tk):Bool:=decide (a.frm < b.to) && decide (b.frm < a.to)
def Zx (a b:Tk):Bool:=decide (a.party=b.party) || decide (a.cab ≠ b.cab) || !Qd a b || (decide (a.sex=b.sex) && !a.dog && !b.dog)
def QX (secs frm to:Int):Int:=if frm < 0∨to≤frm∨secs < to then 5 else 0
def Zg (t x:Tk):Bool:=decide (x.cab=t.cab) && decide (x.bed=t.bed) && Qd x t
def ji (t:Tk) (l:List Tk):Int:=if l.any (Zg t) then 4 else if l.any (fun x=>!Zx x t) then 9 else 0
def vU (cs:List Cabin) (cab bed:Int):Bool:=inB cab 0 ((cs.length:Int) - 1) && inB bed 0 ((cs.getD cab.toNat default).beds - 1)
def zM (c:Chart) (t:Tk) (l:List Tk):Int :=
  if !inB t.party 1 99 then 1 else if !inB t.sex 1 2 then 8 else if !vU c.cabins t.cab t.bed then 3 else if QX c.secs t.frm t.to ≠ 0 then QX c.secs t.frm t.to else ji t l
def ku (x:Cabin):Int:=if !inB x.beds 1 3 then 1 else 0
def ZR (c:Chart):Int :=
  if wI c.cabins.length 1 3 ≠ 0 then wI c.cabins.length 1 3 else if ym (c.cabins.map ku) ≠ 0 then ym (c.cabins.map ku) else if !inB c.secs 1 5 then 1 else wI c.sold.length 0 8
def yC (c:Chart) (l:List Tk):Int:=ym ((List.range l.length).map fun i=>zM c (l.getD i default) (l.take i))
def zV (c:Chart):Int:=if ZR c ≠ 0 then ZR c else yC c c.sold
structure CarOk (c:Chart):Prop where
  cabs:1≤c.cabins.length∧c.cabins.length≤3
  beds:∀ x ∈ c.cabins,1≤x.beds∧x.beds≤3
  secs:1≤c.secs∧c.secs≤5
theorem Qcb {c:Chart} (h:ZR c=0):CarOk c∧c.sold.length≤8:=by
  unfold ZR at h
  split at h
  · exact absurd h ‹_›
  rename_i h1
  split at h
  · exact absurd h ‹_›
  rename_i h2
  split at h
  · exact absurd h (by decide)
  rename_i h3
  have h1:=Decidable.not_not.1 h1
  have h2:=Decidable.not_not.1 h2
  have h3:inB c.secs 1 5=true:=by simpa using h3
  unfold wI at h1 h
  refine ⟨⟨?_,fun x hx=>?_,jV.1 h3⟩, ?_⟩
  · split at h1
    · exact absurd h1 (by decide)
    · split at h1
      · exact absurd h1 (by decide)
      · omega
  · have:=Q3 h2 _ (List.mem_map.2 ⟨x,hx,rfl⟩)
    unfold ku at this
    split at this
    · exact absurd this (by decide)
    · rename_i h4
      exact jV.1 (by simpa using h4)
  · split at h
    · exact absurd h (by decide)
    · split at h
      · exact absurd h (by decide)
      · omega
structure TkOk (c:Chart) (t:Tk):Prop where
  party:1≤t.party∧t.party≤99
  sex:1≤t.sex∧t.sex≤2
  cab:0≤t.cab∧t.cab.toNat < c.cabins.length
  bed:0≤t.bed∧t.bed < (c.cabins.getD t.cab.toNat default).beds
  frm:0≤t.frm
  way:t.frm < t.to
  to:t.to≤c.secs
theorem Uc {s a b:Int} (h:QX s a b=0):0≤a∧a < b∧b≤s:=by
  unfold QX at h
  split at h
  · exact absurd h (by decide)
  · omega
theorem Qdq {cs:List Cabin} {a b:Int} (h:vU cs a b=true):0≤a∧a.toNat < cs.length∧0≤b∧b < (cs.getD a.toNat default).beds:=by
  unfold vU at h
  rw [Bool.and_eq_true,jV,jV] at h
  omega
theorem Qbi {c:Chart} {t:Tk} {l:List Tk} (h:zM c t l=0):TkOk c t∧ji t l=0:=by
  unfold zM at h
  split at h
  · exact absurd h (by decide)
  rename_i h1
  split at h
  · exact absurd h (by decide)
  rename_i h2
  split at h
  · exact absurd h (by decide)
  rename_i h3
  split at h
  · exact absurd h ‹_›
  rename_i h4
  have nf:∀ {p:Bool},¬ (!p)=true→p=true:=fun h=>by simpa using h
  have g1:=jV.1 (nf h1)
  have g2:=jV.1 (nf h2)
  obtain ⟨g3,g4,g5,g6⟩:=Qdq (nf h3)
  obtain ⟨g7,g8,g9⟩:=Uc (Decidable.not_not.1 h4)
  exact ⟨⟨g1,g2,⟨g3,g4⟩,⟨g5,g6⟩,g7,g8,g9⟩,h⟩
theorem vK {α:Type} {l:List α} {k:Nat} {d:α} (h:k < l.length):l.getD k d ∈ l:=by
  rw [List.getD_eq_getElem?_getD,List.getElem?_eq_getElem h];exact List.getElem_mem h
theorem Qa2 {c:Chart} {l:List Tk} (h:yC c l=0):∀ i,i < l.length→TkOk c (l.getD i default)∧ji (l.getD i default) (l.take i)=0:=fun i hi =>
  Qbi (Q3 h _ (List.mem_map.2 ⟨i,List.mem_range.2 hi,rfl⟩))
structure Val (c:Chart):Prop where
  car:CarOk c
  many:c.sold.length≤8
  tk:∀ t ∈ c.sold,TkOk c t
theorem kD {c:Chart} (h:zV c=0):Val c:=by
  unfold zV at h
  split at h
  · exact absurd h ‹_›
  rename_i h1
  obtain ⟨g1,g2⟩:=Qcb (Decidable.not_not.1 h1)
  refine ⟨g1,g2,fun t ht=>?_⟩
  obtain ⟨i,hi,rfl⟩:=List.mem_iff_getElem.1 ht
  have:=(Qa2 h i hi).1
  rwa [show c.sold.getD i default=c.sold[i] by simp [List.getD_eq_getElem?_getD,hi]] at this
def qQ (cs:List Cabin):List Bunk:=(List.range cs.length).flatMap fun i=>(List.range (cs.getD i default).beds.toNat).map fun (k:Nat)=>⟨(i:Int),(k:Int)⟩
def KF (cs:List Cabin) (l:List Bunk):Bool :=
  let lo:=l.foldl (fun m b=>min m b.cab) (l.getD 0 default).cab
  let hi:=l.foldl (fun m b=>max m b.cab) (l.getD 0 default).cab
  decide (lo=hi) || (decide (lo+1=hi) && (cs.getD lo.toNat default).door)
def Jq (a:Ask) (i:Nat) (b:Bunk):Tk:=⟨a.party,a.sexes.getD i 0,b.cab,b.bed,a.frm,a.to,a.dog⟩
def goB (cs:List Cabin) (a:Ask) (sold:List Tk) (begun:List Bunk) (b:Bunk):Bool:=!begun.contains b && KF cs (begun++[b]) && decide (ji (Jq a begun.length b) sold=0)
def atB (s:Int) (t:Tk):Bool:=decide (t.frm≤s) && decide (s < t.to)
def QJ (sold:List Tk) (s i:Int):Bool:=sold.all fun t=>!(atB s t && decide (t.cab=i))
def ky (cs:List Cabin) (secs:Int) (sold:List Tk):Int:=(((List.range secs.toNat).flatMap fun (s:Nat)=>(List.range cs.length).filter fun (i:Nat)=>QJ sold s i).length:Int)
def ZZ (c:Chart) (a:Ask):Int :=
  if !inB a.party 1 99 then 1 else if c.sold.any (fun t=>decide (t.party=a.party)) then 4 else if QX c.secs a.frm a.to ≠ 0 then QX c.secs a.frm a.to else if wI a.sexes.length 1 3 ≠ 0 then wI a.sexes.length 1 3 else
  ym (a.sexes.map fun s=>if !inB s 1 2 then 8 else 0)
def je (c:Chart) (a:Ask):Int:=if zV c ≠ 0 then zV c else ZZ c a
end Go.Sym.B
namespace Go.Sym.B
open Go Go.Sym Go.Proofs Go.Sym.C
def Qch:=kk @ty3 @ti3.eq_1
def Zi:=kk @aI.eq_1 (@aB.eq_1)
theorem in_fn (n a b:Int):FnV Try.prog 91 [aI n,aI a,aI b] (aB (inB n a b)):=by
  have env:Env (fun _=>True) Try.prog tyB (tab []):=qP trivial
  refine Fn.of (A:=fun _=>True) (n0:=0) (D:=noD) (Fn0 Try.func91 rfl (fun vs w=>by kernel_rfl) (by kernel_rfl)) (by simp) (by simp [AV.ids,aI]) (fun i o h=>by cases h) (fun _ _ _ _=>trivial) qF ?_
  repeat' (first|(apply nx;with_reducible constructor)|refine jq (by decide) ?_|((first|refine kz env fun Q hQ=>?_|refine kj fun Q hQ=>?_);simp only [vkt,seval,Qch,Zi,aTk,cTk,qa,qb];(try simp only [ite_and]);(repeat' (first|with_reducible assumption|refine And.intro ?_ ?_|intro hp));all_goals (first|(refine hQ _ ?_;clear hQ Q)|(refine hQ _ (fun h=>?_) (fun h=>?_) <;> clear hQ Q <;> (try simp only [vki,reduceCtorEq] at h))|(refine kx ?_;kernel_rfl)|omega|assumption|with_reducible rfl|skip)))
  all_goals (simp only [vrt,Try.results91,vkt,seval,Qch,Zi,aTk,cTk,qa,qb];refine Fin.val rfl ?_;(try simp only [AV.le,AV.leL]))
  all_goals simp [inB, *]
def sin:List AV→Prop × AV
  |[.v (.int .i64 n),.v (.int .i64 a),.v (.int .i64 b)]=>(True,aB (inB n a b))
  |_=>(False,.junk)
theorem ein {A:Frm→Prop}:qB A Try.prog 91 (qU true sin):=za fun vs hv h=>by
  clear hv
  unfold sin at h ⊢
  split at h
  · rename_i n a b;clear h
    refine ⟨by first|trivial|(simp [AV.plain,AV.plainL,aI,aB,qA,qd,qh,qf,aTk,cTk];done)|(repeat' split) <;> simp [AV.plain,AV.plainL,aI,aB,qA,qd,qh,qf,aTk,cTk],fun _=>(by simp [AV.flat,AV.flatL,aI,aB]), ?_⟩
    have:=in_fn n a b
    simp only [aI] at this
    first|exact this|(simp only [aI];exact this)
  · exact h.elim
def X5:=kk @ty3 @ti3.eq_1
theorem Qhe (n a b:Int):FnV Try.prog 81 [aI n,aI a,aI b] (aB (inB n a b)):=by
  have env:Env (fun _=>True) Try.prog tyB (tab []):=qP trivial
  refine Fn.of (A:=fun _=>True) (n0:=0) (D:=noD) (Fn0 Try.func81 rfl (fun vs w=>by kernel_rfl) (by kernel_rfl)) (by simp) (by simp [AV.ids,aI]) (fun i o h=>by cases h) (fun _ _ _ _=>trivial) qF ?_
  repeat' (first|(apply nx;with_reducible constructor)|refine jq (by decide) ?_|((first|refine kz env fun Q hQ=>?_|refine kj fun Q hQ=>?_);simp only [vkt,seval,X5,Zi,aTk,cTk,qa,qb];(try simp only [ite_and]);(repeat' (first|with_reducible assumption|refine And.intro ?_ ?_|intro hp));all_goals (first|(refine hQ _ ?_;clear hQ Q)|(refine hQ _ (fun h=>?_) (fun h=>?_) <;> clear hQ Q <;> (try simp only [vki,reduceCtorEq] at h))|(refine kx ?_;kernel_rfl)|omega|assumption|with_reducible rfl|skip)))
  all_goals (simp only [vrt,Try.results81,vkt,seval,X5,Zi,aTk,cTk,qa,qb];refine Fin.val rfl ?_;(try simp only [AV.le,AV.leL]))
  all_goals simp [inB, *]
def zN:List AV→Prop × AV
  |[.v (.int .i64 n),.v (.int .i64 a),.v (.int .i64 b)]=>(True,aB (inB n a b))
  |_=>(False,.junk)
theorem QbL {A:Frm→Prop}:qB A Try.prog 81 (qU true zN):=za fun vs hv h=>by
  clear hv
  unfold zN at h ⊢
  split at h
  · rename_i n a b;clear h
    refine ⟨by first|trivial|(simp [AV.plain,AV.plainL,aI,aB,qA,qd,qh,qf,aTk,cTk];done)|(repeat' split) <;> simp [AV.plain,AV.plainL,aI,aB,qA,qd,qh,qf,aTk,cTk],fun _=>(by simp [AV.flat,AV.flatL,aI,aB]), ?_⟩
    have:=Qhe n a b
    simp only [aI] at this
    first|exact this|(simp only [aI];exact this)
  · exact h.elim
def Yg:=kk @ty3 @ti3.eq_1
theorem QaG (n a b:Int):FnV Try.prog 101 [aI n,aI a,aI b] (aI (wI n a b)):=by
  have env:Env (fun _=>True) Try.prog tyB (tab []):=qP trivial
  refine Fn.of (A:=fun _=>True) (n0:=0) (D:=noD) (Fn0 Try.func101 rfl (fun vs w=>by kernel_rfl) (by kernel_rfl)) (by simp) (by simp [AV.ids,aI]) (fun i o h=>by cases h) (fun _ _ _ _=>trivial) qF ?_
  repeat' (first|(apply nx;with_reducible constructor)|refine jq (by decide) ?_|((first|refine kz env fun Q hQ=>?_|refine kj fun Q hQ=>?_);simp only [vkt,seval,Yg,Zi,aTk,cTk,qa,qb];(try simp only [ite_and]);(repeat' (first|with_reducible assumption|refine And.intro ?_ ?_|intro hp));all_goals (first|(refine hQ _ ?_;clear hQ Q)|(refine hQ _ (fun h=>?_) (fun h=>?_) <;> clear hQ Q <;> (try simp only [vki,reduceCtorEq] at h))|(refine kx ?_;kernel_rfl)|omega|assumption|with_reducible rfl|skip)))
  all_goals (simp only [vrt,Try.results101,vkt,seval,Yg,Zi,aTk,cTk,qa,qb];refine Fin.val rfl ?_;(try simp only [AV.le,AV.leL]))
  all_goals (unfold wI;simp [*])
  all_goals omega
def zt:List AV→Prop × AV
  |[.v (.int .i64 n),.v (.int .i64 a),.v (.int .i64 b)]=>(True,aI (wI n a b))
  |_=>(False,.junk)
theorem UR {A:Frm→Prop}:qB A Try.prog 101 (qU true zt):=za fun vs hv h=>by
  clear hv
  unfold zt at h ⊢
  split at h
  · rename_i n a b;clear h
    refine ⟨by first|trivial|(simp [AV.plain,AV.plainL,aI,aB,qA,qd,qh,qf,aTk,cTk];done)|(repeat' split) <;> simp [AV.plain,AV.plainL,aI,aB,qA,qd,qh,qf,aTk,cTk],fun _=>(by simp [AV.flat,AV.flatL,aI,aB]), ?_⟩
    have:=QaG n a b
    simp only [aI] at this
    first|exact this|(simp only [aI];exact this)
  · exact h.elim
def KL:=kk @ty3 (kk @yw (kk @ti3.eq_1 @j3.eq_1))
theorem Qg1 (a b:Tk):FnV Try.prog 141 [aTk a,aTk b] (aB (Qd a b)):=by
  have env:Env (fun _=>True) Try.prog tyB (tab []):=qP trivial
  refine Fn.of (A:=fun _=>True) (n0:=0) (D:=noD) (Fn0 Try.func141 rfl (fun vs w=>by kernel_rfl) (by kernel_rfl)) (by simp) (by simp [AV.ids,AV.idsL,aTk,cTk]) (fun i o h=>by cases h) (fun _ _ _ _=>trivial) qF ?_
  repeat' (first|(apply nx;with_reducible constructor)|refine jq (by decide) ?_|((first|refine kz env fun Q hQ=>?_|refine kj fun Q hQ=>?_);simp only [vkt,seval,KL,Zi,aTk,cTk,qa,qb];(try simp only [ite_and]);(repeat' (first|with_reducible assumption|refine And.intro ?_ ?_|intro hp));all_goals (first|(refine hQ _ ?_;clear hQ Q)|(refine hQ _ (fun h=>?_) (fun h=>?_) <;> clear hQ Q <;> (try simp only [vki,reduceCtorEq] at h))|(refine kx ?_;kernel_rfl)|omega|assumption|with_reducible rfl|skip)))
  all_goals (simp only [vrt,Try.results141,vkt,seval,KL,Zi,aTk,cTk,qa,qb];refine Fin.val rfl ?_;(try simp only [AV.le,AV.leL]))
  all_goals simp [Qd, *]
def Q8:List AV→Prop × AV
  |[.agg [.v (.int .i64 a0),.v (.int .i64 a1),.v (.int .i64 a2),.v (.int .i64 a3),.v (.int .i64 a4),.v (.int .i64 a5),.v (.bool a6)],.agg [.v (.int .i64 b0),.v (.int .i64 b1),.v (.int .i64 b2),.v (.int .i64 b3),.v (.int .i64 b4),.v (.int .i64 b5),.v (.bool b6)]]=>(True,aB (Qd (⟨a0,a1,a2,a3,a4,a5,a6⟩:Tk) (⟨b0,b1,b2,b3,b4,b5,b6⟩:Tk)))
  |_=>(False,.junk)
theorem Qia {A:Frm→Prop}:qB A Try.prog 141 (qU true Q8):=za fun vs hv h=>by
  clear hv
  unfold Q8 at h ⊢
  split at h
  · rename_i a0 a1 a2 a3 a4 a5 a6 b0 b1 b2 b3 b4 b5 b6;clear h
    refine ⟨by first|trivial|(simp [AV.plain,AV.plainL,aI,aB,qA,qd,qh,qf,aTk,cTk];done)|(repeat' split) <;> simp [AV.plain,AV.plainL,aI,aB,qA,qd,qh,qf,aTk,cTk],fun _=>(by simp [AV.flat,AV.flatL,aI,aB]), ?_⟩
    have:=Qg1 (⟨a0,a1,a2,a3,a4,a5,a6⟩:Tk) (⟨b0,b1,b2,b3,b4,b5,b6⟩:Tk)
    simp only [aB,aI,aTk,cTk] at this
    first|exact this|(simp only [aB,aI,aTk,cTk];exact this)
  · exact h.elim
def VJ:=kk @ty3 (kk @yw (kk @ti3.eq_1 @j3.eq_1))
theorem Qgm (a b:Tk):FnV Try.prog 138 [aTk a,aTk b] (aB (Qd a b)):=by
  have env:Env (fun _=>True) Try.prog tyB (tab []):=qP trivial
  refine Fn.of (A:=fun _=>True) (n0:=0) (D:=noD) (Fn0 Try.func138 rfl (fun vs w=>by kernel_rfl) (by kernel_rfl)) (by simp) (by simp [AV.ids,AV.idsL,aTk,cTk]) (fun i o h=>by cases h) (fun _ _ _ _=>trivial) qF ?_
  repeat' (first|(apply nx;with_reducible constructor)|refine jq (by decide) ?_|((first|refine kz env fun Q hQ=>?_|refine kj fun Q hQ=>?_);simp only [vkt,seval,VJ,Zi,aTk,cTk,qa,qb];(try simp only [ite_and]);(repeat' (first|with_reducible assumption|refine And.intro ?_ ?_|intro hp));all_goals (first|(refine hQ _ ?_;clear hQ Q)|(refine hQ _ (fun h=>?_) (fun h=>?_) <;> clear hQ Q <;> (try simp only [vki,reduceCtorEq] at h))|(refine kx ?_;kernel_rfl)|omega|assumption|with_reducible rfl|skip)))
  all_goals (simp only [vrt,Try.results138,vkt,seval,VJ,Zi,aTk,cTk,qa,qb];refine Fin.val rfl ?_;(try simp only [AV.le,AV.leL]))
  all_goals simp [Qd, *]
def wP:List AV→Prop × AV
  |[.agg [.v (.int .i64 a0),.v (.int .i64 a1),.v (.int .i64 a2),.v (.int .i64 a3),.v (.int .i64 a4),.v (.int .i64 a5),.v (.bool a6)],.agg [.v (.int .i64 b0),.v (.int .i64 b1),.v (.int .i64 b2),.v (.int .i64 b3),.v (.int .i64 b4),.v (.int .i64 b5),.v (.bool b6)]]=>(True,aB (Qd (⟨a0,a1,a2,a3,a4,a5,a6⟩:Tk) (⟨b0,b1,b2,b3,b4,b5,b6⟩:Tk)))
  |_=>(False,.junk)
theorem QfR {A:Frm→Prop}:qB A Try.prog 138 (qU true wP):=za fun vs hv h=>by
  clear hv
  unfold wP at h ⊢
  split at h
  · rename_i a0 a1 a2 a3 a4 a5 a6 b0 b1 b2 b3 b4 b5 b6;clear h
    refine ⟨by first|trivial|(simp [AV.plain,AV.plainL,aI,aB,qA,qd,qh,qf,aTk,cTk];done)|(repeat' split) <;> simp [AV.plain,AV.plainL,aI,aB,qA,qd,qh,qf,aTk,cTk],fun _=>(by simp [AV.flat,AV.flatL,aI,aB]), ?_⟩
    have:=Qgm (⟨a0,a1,a2,a3,a4,a5,a6⟩:Tk) (⟨b0,b1,b2,b3,b4,b5,b6⟩:Tk)
    simp only [aB,aI,aTk,cTk] at this
    first|exact this|(simp only [aB,aI,aTk,cTk];exact this)
  · exact h.elim
def UY:=kk @ty3 (kk @ty4 (kk @xA (kk @yw (kk @ti3.eq_1 (kk @ti4.eq_1 (kk @vR.eq_1 @j3.eq_1))))))
def Uf:=kk @aI.eq_1 (@aB.eq_1)
theorem QiB (a b:Tk):FnV Try.prog 143 [aTk a,aTk b] (aB (Zx a b)):=by
  have env:Env (fun _=>True) Try.prog tyB (tab [(141,qU true Q8)]):=qP ⟨Qia,trivial⟩
  refine Fn.of (A:=fun _=>True) (n0:=0) (D:=noD) (Fn0 Try.func143 rfl (fun vs w=>by kernel_rfl) (by kernel_rfl)) (by simp) (by simp [AV.ids,AV.idsL,aTk,cTk]) (fun i o h=>by cases h) (fun _ _ _ _=>trivial) qF ?_
  have em:Qd ⟨a.party,a.sex,a.cab,a.bed,a.frm,a.to,a.dog⟩ ⟨b.party,b.sex,b.cab,b.bed,b.frm,b.to,b.dog⟩=Qd a b:=rfl
  repeat' (first|(apply nx;with_reducible constructor)|refine jq (by decide) ?_|((first|refine kz env fun Q hQ=>?_|refine kj fun Q hQ=>?_);simp only [vkt,seval,UY,Uf,aTk,cTk,Q8,wP,em];(try simp only [ite_and]);(repeat' (first|with_reducible assumption|refine And.intro ?_ ?_|intro hp));all_goals (first|(refine hQ _ ?_;clear hQ Q)|(refine hQ _ (fun h=>?_) (fun h=>?_) <;> clear hQ Q <;> (try simp only [vki,reduceCtorEq] at h))|(refine kx ?_;kernel_rfl)|omega|assumption|with_reducible rfl|skip)))
  all_goals (simp only [vrt,Try.results143,vkt,seval,UY,Uf,aTk,cTk,Q8,wP];refine Fin.val rfl ?_;(try simp only [AV.le,AV.leL]))
  all_goals first|(simp [Zx, *];done)|(simp_all [Zx];done)
def Rz:List AV→Prop × AV
  |[.agg [.v (.int .i64 a0),.v (.int .i64 a1),.v (.int .i64 a2),.v (.int .i64 a3),.v (.int .i64 a4),.v (.int .i64 a5),.v (.bool a6)],.agg [.v (.int .i64 b0),.v (.int .i64 b1),.v (.int .i64 b2),.v (.int .i64 b3),.v (.int .i64 b4),.v (.int .i64 b5),.v (.bool b6)]]=>(True,aB (Zx (⟨a0,a1,a2,a3,a4,a5,a6⟩:Tk) (⟨b0,b1,b2,b3,b4,b5,b6⟩:Tk)))
  |_=>(False,.junk)
theorem etog {A:Frm→Prop}:qB A Try.prog 143 (qU true Rz):=za fun vs hv h=>by
  clear hv
  unfold Rz at h ⊢
  split at h
  · rename_i a0 a1 a2 a3 a4 a5 a6 b0 b1 b2 b3 b4 b5 b6;clear h
    refine ⟨by first|trivial|(simp [AV.plain,AV.plainL,aI,aB,qA,qd,qh,qf,aTk,cTk];done)|(repeat' split) <;> simp [AV.plain,AV.plainL,aI,aB,qA,qd,qh,qf,aTk,cTk],fun _=>(by simp [AV.flat,AV.flatL,aI,aB]), ?_⟩
    have:=QiB (⟨a0,a1,a2,a3,a4,a5,a6⟩:Tk) (⟨b0,b1,b2,b3,b4,b5,b6⟩:Tk)
    simp only [aB,aI,aTk,cTk] at this
    first|exact this|(simp only [aB,aI,aTk,cTk];exact this)
  · exact h.elim
def XV:=kk @ty3 (kk @ty4 (kk @xA (kk @yw (kk @ti3.eq_1 (kk @ti4.eq_1 (kk @vR.eq_1 @j3.eq_1))))))
theorem QhK (a b:Tk):FnV Try.prog 139 [aTk a,aTk b] (aB (Zx a b)):=by
  have env:Env (fun _=>True) Try.prog tyB (tab [(138,qU true wP)]):=qP ⟨QfR,trivial⟩
  refine Fn.of (A:=fun _=>True) (n0:=0) (D:=noD) (Fn0 Try.func139 rfl (fun vs w=>by kernel_rfl) (by kernel_rfl)) (by simp) (by simp [AV.ids,AV.idsL,aTk,cTk]) (fun i o h=>by cases h) (fun _ _ _ _=>trivial) qF ?_
  have em:Qd ⟨a.party,a.sex,a.cab,a.bed,a.frm,a.to,a.dog⟩ ⟨b.party,b.sex,b.cab,b.bed,b.frm,b.to,b.dog⟩=Qd a b:=rfl
  repeat' (first|(apply nx;with_reducible constructor)|refine jq (by decide) ?_|((first|refine kz env fun Q hQ=>?_|refine kj fun Q hQ=>?_);simp only [vkt,seval,XV,Uf,aTk,cTk,Q8,wP,em];(try simp only [ite_and]);(repeat' (first|with_reducible assumption|refine And.intro ?_ ?_|intro hp));all_goals (first|(refine hQ _ ?_;clear hQ Q)|(refine hQ _ (fun h=>?_) (fun h=>?_) <;> clear hQ Q <;> (try simp only [vki,reduceCtorEq] at h))|(refine kx ?_;kernel_rfl)|omega|assumption|with_reducible rfl|skip)))
  all_goals (simp only [vrt,Try.results139,vkt,seval,XV,Uf,aTk,cTk,Q8,wP];refine Fin.val rfl ?_;(try simp only [AV.le,AV.leL]))
  all_goals first|(simp [Zx, *];done)|(simp_all [Zx];done)
def yD:List AV→Prop × AV
  |[.agg [.v (.int .i64 a0),.v (.int .i64 a1),.v (.int .i64 a2),.v (.int .i64 a3),.v (.int .i64 a4),.v (.int .i64 a5),.v (.bool a6)],.agg [.v (.int .i64 b0),.v (.int .i64 b1),.v (.int .i64 b2),.v (.int .i64 b3),.v (.int .i64 b4),.v (.int .i64 b5),.v (.bool b6)]]=>(True,aB (Zx (⟨a0,a1,a2,a3,a4,a5,a6⟩:Tk) (⟨b0,b1,b2,b3,b4,b5,b6⟩:Tk)))
  |_=>(False,.junk)
theorem ertog {A:Frm→Prop}:qB A Try.prog 139 (qU true yD):=za fun vs hv h=>by
  clear hv
  unfold yD at h ⊢
  split at h
  · rename_i a0 a1 a2 a3 a4 a5 a6 b0 b1 b2 b3 b4 b5 b6;clear h
    refine ⟨by first|trivial|(simp [AV.plain,AV.plainL,aI,aB,qA,qd,qh,qf,aTk,cTk];done)|(repeat' split) <;> simp [AV.plain,AV.plainL,aI,aB,qA,qd,qh,qf,aTk,cTk],fun _=>(by simp [AV.flat,AV.flatL,aI,aB]), ?_⟩
    have:=QhK (⟨a0,a1,a2,a3,a4,a5,a6⟩:Tk) (⟨b0,b1,b2,b3,b4,b5,b6⟩:Tk)
    simp only [aB,aI,aTk,cTk] at this
    first|exact this|(simp only [aB,aI,aTk,cTk];exact this)
  · exact h.elim
def Ux:=kk @ty3 (kk @jO (kk @ti3.eq_1 @jE.eq_1))
def Rh:=kk @aI.eq_1 (@aB.eq_1)
theorem Qiv (c:Chart) (a b:Int):FnV Try.prog 92 [qa c,aI a,aI b] (aI (QX c.secs a b)):=by
  have env:Env (fun _=>True) Try.prog tyB (tab []):=qP trivial
  refine Fn.of (A:=fun _=>True) (n0:=0) (D:=noD) (Fn0 Try.func92 rfl (fun vs w=>by kernel_rfl) (by kernel_rfl)) (by simp) (by simp [AV.ids,AV.idsL,aI,qa,qb]) (fun i o h=>by cases h) (fun _ _ _ _=>trivial) qF ?_
  repeat' (first|(apply nx;with_reducible constructor)|refine jq (by decide) ?_|((first|refine kz env fun Q hQ=>?_|refine kj fun Q hQ=>?_);simp only [vkt,seval,Ux,Rh,qa,qb];(try simp only [ite_and]);(repeat' (first|with_reducible assumption|refine And.intro ?_ ?_|intro hp));all_goals (first|(refine hQ _ ?_;clear hQ Q)|(refine hQ _ (fun h=>?_) (fun h=>?_) <;> clear hQ Q <;> (try simp only [vki,reduceCtorEq] at h))|(refine kx ?_;kernel_rfl)|omega|assumption|with_reducible rfl|skip)))
  all_goals (simp only [vrt,Try.results92,vkt,seval,Ux,Rh,qa,qb];refine Fin.val rfl ?_;(try simp only [AV.le,AV.leL]))
  all_goals (unfold QX;simp [*])
  all_goals omega
def vS:List AV→Prop × AV
  |[.agg [.sl c0,.v (.int .i64 c1),.sl c2],.v (.int .i64 a),.v (.int .i64 b)]=>(c0=(c0.map qp).map qj∧c2=(c2.map dTk).map eTk,aI (QX c1 a b))
  |_=>(False,.junk)
theorem eway {A:Frm→Prop}:qB A Try.prog 92 (qU true vS):=za fun vs hv h=>by
  clear hv
  unfold vS at h ⊢
  split at h
  · rename_i c0 c1 c2 a b;obtain ⟨q0,q1⟩:=h
    refine ⟨by first|trivial|(simp [AV.plain,AV.plainL,aI,aB,qA,qd,qh,qf,aTk,cTk];done)|(repeat' split) <;> simp [AV.plain,AV.plainL,aI,aB,qA,qd,qh,qf,aTk,cTk],fun _=>(by simp [AV.flat,AV.flatL,aI,aB]), ?_⟩
    have:=Qiv ⟨c0.map qp,c1,c2.map dTk⟩ a b
    simp only [q9,qa,aI,qh,qb,← q0,← q1] at this
    first|exact this|(simp only [q9,qa,aI,qh,qb,← q0,← q1];exact this)
  · exact h.elim
def Kz:=kk @ty3 (kk @jO (kk @ti3.eq_1 @jE.eq_1))
theorem QhE (c:Chart) (a b:Int):FnV Try.prog 137 [qa c,aI a,aI b] (aI (QX c.secs a b)):=by
  have env:Env (fun _=>True) Try.prog tyB (tab []):=qP trivial
  refine Fn.of (A:=fun _=>True) (n0:=0) (D:=noD) (Fn0 Try.func137 rfl (fun vs w=>by kernel_rfl) (by kernel_rfl)) (by simp) (by simp [AV.ids,AV.idsL,aI,qa,qb]) (fun i o h=>by cases h) (fun _ _ _ _=>trivial) qF ?_
  repeat' (first|(apply nx;with_reducible constructor)|refine jq (by decide) ?_|((first|refine kz env fun Q hQ=>?_|refine kj fun Q hQ=>?_);simp only [vkt,seval,Kz,Rh,qa,qb];(try simp only [ite_and]);(repeat' (first|with_reducible assumption|refine And.intro ?_ ?_|intro hp));all_goals (first|(refine hQ _ ?_;clear hQ Q)|(refine hQ _ (fun h=>?_) (fun h=>?_) <;> clear hQ Q <;> (try simp only [vki,reduceCtorEq] at h))|(refine kx ?_;kernel_rfl)|omega|assumption|with_reducible rfl|skip)))
  all_goals (simp only [vrt,Try.results137,vkt,seval,Kz,Rh,qa,qb];refine Fin.val rfl ?_;(try simp only [AV.le,AV.leL]))
  all_goals (unfold QX;simp [*])
  all_goals omega
def yE:List AV→Prop × AV
  |[.agg [.sl c0,.v (.int .i64 c1),.sl c2],.v (.int .i64 a),.v (.int .i64 b)]=>(c0=(c0.map qp).map qj∧c2=(c2.map dTk).map eTk,aI (QX c1 a b))
  |_=>(False,.junk)
theorem erway {A:Frm→Prop}:qB A Try.prog 137 (qU true yE):=za fun vs hv h=>by
  clear hv
  unfold yE at h ⊢
  split at h
  · rename_i c0 c1 c2 a b;obtain ⟨q0,q1⟩:=h
    refine ⟨by first|trivial|(simp [AV.plain,AV.plainL,aI,aB,qA,qd,qh,qf,aTk,cTk];done)|(repeat' split) <;> simp [AV.plain,AV.plainL,aI,aB,qA,qd,qh,qf,aTk,cTk],fun _=>(by simp [AV.flat,AV.flatL,aI,aB]), ?_⟩
    have:=QhE ⟨c0.map qp,c1,c2.map dTk⟩ a b
    simp only [q9,qa,aI,qh,qb,← q0,← q1] at this
    first|exact this|(simp only [q9,qa,aI,qh,qb,← q0,← q1];exact this)
  · exact h.elim
end Go.Sym.B
namespace Go.Sym.B
open Go Go.Sym Go.Proofs Go.Sym.C
theorem QbF {α β:Type} (f:α→List β) (d:β) (da:α):∀ (l:List α) (i k:Nat),i < l.length→k < (f (l.getD i da)).length→(l.flatMap f).getD (((l.take i).map fun a=>(f a).length).sum+k) d=(f (l.getD i da)).getD k d
  |[],i,_,h,_=>by simp at h
  |a :: l,0,k,_,hk=>by
    have hk:k < (f a).length:=hk
    rw [List.flatMap_cons,List.take_zero,List.map_nil,List.sum_nil,Nat.zero_add,List.getD_eq_getElem?_getD,List.getElem?_append_left hk,← List.getD_eq_getElem?_getD]
    rfl
  |a :: l,i+1,k,h,hk=>by
    have ih:=QbF f d da l i k (by simpa using h) (by simpa using hk)
    rw [List.flatMap_cons,List.take_succ_cons,List.map_cons,List.sum_cons,List.getD_eq_getElem?_getD,List.getElem?_append_right (by omega),← List.getD_eq_getElem?_getD,show (f a).length+((l.take i).map fun a=>(f a).length).sum+k - (f a).length=((l.take i).map fun a=>(f a).length).sum+k by omega,ih]
    rfl
theorem Qfv {α β:Type} (f:α→List β) (l:List α):(l.flatMap f).length=(l.map fun a=>(f a).length).sum:=by
  rw [List.length_flatMap]
theorem Yf {g:List Nat} {i:Nat} (h:i < g.length):(g.take (i+1)).sum=(g.take i).sum+g.getD i 0:=by
  rw [List.take_succ_eq_append_getElem h,List.sum_append]
  simp [List.getD_eq_getElem?_getD,h]
theorem Qc {g:List Nat}:∀ {i j:Nat},i≤j→(g.take i).sum≤(g.take j).sum:=by
  induction g with
  |nil=>simp
  |cons a g ih =>
    intro i j h
    cases i with
    |zero=>simp
    |succ i =>
      cases j with
      |zero=>omega
      |succ j =>
        simp only [List.take_succ_cons,List.sum_cons]
        have:=ih (show i≤j by omega)
        omega
theorem Ll:∀ (g:List Nat) (q:Nat),q < g.sum→∃ i,i < g.length∧(g.take i).sum≤q∧q < (g.take (i+1)).sum
  |[],q,h=>by simp at h
  |a :: g,q,h=>by
    rw [List.sum_cons] at h
    by_cases h1:q < a
    · exact ⟨0,by simp,by simp,by simpa using h1⟩
    · obtain ⟨i,h2,h3,h4⟩:=Ll g (q - a) (by omega)
      refine ⟨i+1,by simpa using h2, ?_, ?_⟩
      · rw [List.take_succ_cons,List.sum_cons];omega
      · rw [List.take_succ_cons,List.sum_cons];omega
def Qj (ans:Nat→Bool) (R:Nat):Bool:=decide (R=0) || ans (R - 1)
theorem nest (g:List Nat) {ans:Nat→Bool} {R:Nat} (h:Rounds ans R g.sum):∃ (RB:Nat) (ansB:Nat→Bool),Rounds ansB RB g.length ∧
    (∀ i,i < RB→(g.take i).sum≤R∧Rounds (fun j=>ans ((g.take i).sum+j)) (min (g.getD i 0) (R - (g.take i).sum)) (g.getD i 0)∧ansB i=Qj (fun j=>ans ((g.take i).sum+j)) (min (g.getD i 0) (R - (g.take i).sum)) ∧
      min (g.take (i+1)).sum R=(g.take i).sum+min (g.getD i 0) (R - (g.take i).sum))∧min (g.take RB).sum R=R∧Qj ans R=Qj ansB RB:=by
  have hle:=h.le
  by_cases hB:0 < R∧ans (R - 1)=false
  · obtain ⟨hR,hf⟩:=hB
    obtain ⟨i,hi,h1,h2⟩:=Ll g (R - 1) (by omega)
    refine ⟨i+1,fun k=>decide (k ≠ i),⟨hi,fun j hj=>by simp;omega,fun _=>⟨by omega,by simp⟩⟩,fun k hk=>?_,by omega, ?_⟩
    · have hkl:k < g.length:=by omega
      have ho:=Qc (g:=g) (show k≤i by omega)
      have hs:=Yf hkl
      have hoR:(g.take k).sum≤R:=by omega
      refine ⟨hoR,⟨Nat.min_le_left _ _,fun j hj=>h.yes _ (by omega),fun hlt=>⟨by omega, ?_⟩⟩, ?_,by omega⟩
      · show ans _=false
        rw [show (g.take k).sum+(min (g.getD k 0) (R - (g.take k).sum) - 1)=R - 1 by omega];exact hf
      · by_cases hki:k=i
        · subst hki
          have e:(g.take k).sum+(min (g.getD k 0) (R - (g.take k).sum) - 1)=R - 1:=by omega
          have e0:¬ min (g.getD k 0) (R - (g.take k).sum)=0:=by omega
          simp only [Qj,e,hf,e0,ne_eq,not_true_eq_false,decide_false,Bool.or_self]
        · have h3:=Qc (g:=g) (show k+1≤i by omega)
          have e1:min (g.getD k 0) (R - (g.take k).sum)=g.getD k 0:=by omega
          rw [e1]
          by_cases h0:g.getD k 0=0
          · simp [-List.getD_eq_getElem?_getD,Qj,h0,hki]
          · have:=h.yes ((g.take k).sum+(g.getD k 0 - 1)) (by omega)
            simp [-List.getD_eq_getElem?_getD,Qj,h0,hki,this]
    · simp [Qj,hf,show ¬ R=0 by omega]
  · have hRN:R=g.sum:=by
      refine Nat.le_antisymm hle (Nat.le_of_not_lt fun hlt=>?_)
      exact hB (h.stop hlt)
    have hall:∀ j,j < R→ans j=true:=fun j hj=>by
      by_cases hj1:j+1 < R
      · exact h.yes j hj1
      · have:j=R - 1:=by omega
        subst this
        cases ha:ans (R - 1) with
        |true=>rfl
        |false=>exact absurd ⟨by omega,ha⟩ hB
    have hfull:(g.take g.length).sum=g.sum:=by rw [List.take_length]
    refine ⟨g.length,fun _=>true,⟨Nat.le_refl _,fun _ _=>rfl,fun h=>absurd h (Nat.lt_irrefl _)⟩,fun k hk=>?_,by omega, ?_⟩
    · have hs:=Yf hk
      have h3:=Qc (g:=g) (show k+1≤g.length by omega)
      have e1:min (g.getD k 0) (R - (g.take k).sum)=g.getD k 0:=by omega
      refine ⟨by omega, ?_, ?_,by omega⟩
      · rw [e1]
        exact ⟨Nat.le_refl _,fun j hj=>hall _ (by omega),fun h=>absurd h (Nat.lt_irrefl _)⟩
      · rw [e1]
        by_cases h0:g.getD k 0=0
        · simp [-List.getD_eq_getElem?_getD,Qj,h0]
        · simp [-List.getD_eq_getElem?_getD,Qj,h0,hall ((g.take k).sum+(g.getD k 0 - 1)) (by omega)]
    · by_cases h0:R=0
      · simp [Qj,h0]
      · simp [Qj,hall (R - 1) (by omega)]
def Zl (cs:List Cabin):List Nat:=cs.map fun x=>x.beds.toNat
theorem J7 (cs:List Cabin):qQ cs=(List.range cs.length).flatMap fun i=>(List.range (cs.getD i default).beds.toNat).map fun (k:Nat)=>(⟨(i:Int),(k:Int)⟩:Bunk):=rfl
theorem Qaf (cs:List Cabin) {i:Nat} (hi:i≤cs.length):(((List.range cs.length).take i).map fun (j:Nat)=>(List.map (fun (k:Nat)=>(⟨(j:Int),(k:Int)⟩:Bunk)) (List.range (cs.getD j default).beds.toNat)).length)=(Zl cs).take i:=by
  apply List.ext_getElem
  · simp [Zl]
  · intro n h1 h2
    simp only [List.length_map,List.length_take,List.length_range] at h1
    have hn:n < cs.length:=by omega
    simp [Zl,List.getD_eq_getElem?_getD,hn]
theorem KP (cs:List Cabin):(qQ cs).length=(Zl cs).sum:=by
  rw [J7,Qfv]
  have:=Qaf cs (Nat.le_refl cs.length)
  rw [List.take_of_length_le (by simp),List.take_of_length_le (by simp [Zl])] at this
  rw [this]
theorem QcL {cs:List Cabin} {i k:Nat} (hi:i < cs.length) (hk:k < (cs.getD i default).beds.toNat):(qQ cs).getD (((Zl cs).take i).sum+k) default=⟨(i:Int),(k:Int)⟩:=by
  have hr:(List.range cs.length).getD i 0=i:=by simp [List.getD_eq_getElem?_getD,hi]
  have:=QbF (fun i=>(List.range (cs.getD i default).beds.toNat).map fun (k:Nat)=>(⟨(i:Int),(k:Int)⟩:Bunk)) default 0 (List.range cs.length) i k (by simpa using hi) (by rw [hr];simpa using hk)
  rw [Qaf cs (by omega),hr] at this
  rw [J7,this]
  generalize (cs.getD i default).beds.toNat=m at hk ⊢
  simp [List.getD_eq_getElem?_getD,hk]
theorem Xz {cs:List Cabin} {b:Bunk}:b ∈ qQ cs ↔ ∃ i k:Nat,i < cs.length∧k < (cs.getD i default).beds.toNat∧b=⟨(i:Int),(k:Int)⟩:=by
  rw [J7,List.mem_flatMap]
  constructor
  · rintro ⟨i,hi,hb⟩
    obtain ⟨k,hk,rfl⟩:=List.mem_map.1 hb
    exact ⟨i,k,List.mem_range.1 hi,List.mem_range.1 hk,rfl⟩
  · rintro ⟨i,k,hi,hk,rfl⟩
    exact ⟨i,List.mem_range.2 hi,List.mem_map.2 ⟨k,List.mem_range.2 hk,rfl⟩⟩
theorem QhL {cs:List Cabin} {i:Nat} (hi:i < cs.length):(Zl cs).getD i 0=(cs.getD i default).beds.toNat:=by
  simp [Zl,List.getD_eq_getElem?_getD,hi]
end Go.Sym.B
namespace Go.Sym.B
open Go Go.Sym Go.Proofs Go.Sym.C
def UM (p:Tk→Bool) (l:List Tk):Int:=match l.findIdx? p with
  |some i=>(i:Int)
  |none=>-1
theorem QeX {p:Tk→Bool} {l:List Tk} {k:Nat} (hk:k < l.length) (h:∀ j,j < k→p (l.getD j default)=false) (hp:p (l.getD k default)=true):UM p l=(k:Int):=by
  have:l.findIdx? p=some k:=by
    rw [List.findIdx?_eq_some_iff_getElem]
    refine ⟨hk,by simpa [List.getD_eq_getElem?_getD,hk] using hp,fun j hj=>?_⟩
    have:=h j hj
    simpa [List.getD_eq_getElem?_getD,show j < l.length by omega] using this
  simp [UM,this]
theorem QdU {p:Tk→Bool} {l:List Tk} (h:∀ j,j < l.length→p (l.getD j default)=false):UM p l=-1:=by
  have:l.findIdx? p=none:=by
    rw [List.findIdx?_eq_none_iff]
    intro x hx
    obtain ⟨j,hj,rfl⟩:=List.mem_iff_getElem.1 hx
    have:=h j hj
    simpa [List.getD_eq_getElem?_getD,hj] using this
  simp [UM,this]
theorem Qej (p:Tk→Bool) (l:List Tk):decide (0≤UM p l)=l.any p:=by
  unfold UM
  cases h:l.findIdx? p with
  |none =>
    rw [List.findIdx?_eq_none_iff] at h
    symm
    simpa using h
  |some i =>
    rw [List.findIdx?_eq_some_iff_getElem] at h
    obtain ⟨hi,hp,_⟩:=h
    symm
    simp only [Int.natCast_nonneg,decide_true,List.any_eq_true]
    exact ⟨_,List.getElem_mem hi,hp⟩
structure PCs (cs:List AV):Prop where
  ids:AV.idsL cs=[]
  le:∀ h σ,AV.leL h σ cs cs=True
  ren:∀ τ,AV.renL τ cs=cs
theorem QfY (t:Tk):PCs (cTk t):=⟨by simp [cTk,AV.idsL,AV.ids],by simp [cTk,AV.leL,AV.le],by simp [cTk,AV.renL,AV.ren]⟩
def pTk (cs:List AV) (p:Tk→Bool) (S:St):List AV→Option Pk
  |[.agg [.v (.int .i64 a),.v (.int .i64 b),.v (.int .i64 c),.v (.int .i64 d),.v (.int .i64 e),.v (.int .i64 f),.v (.bool g)],.ptr t 0]=>match S.h t with
    |some (.cells cs')=>some { pre:=cs'=cs,hs:=[t],ar:=[.agg [.v (.int .i64 a),.v (.int .i64 b),.v (.int .i64 c),.v (.int .i64 d),.v (.int .i64 e),.v (.int .i64 f),.v (.bool g)],.ptr 0 0],L0:=[.cells cs],v:=aB (p ⟨a,b,c,d,e,f,g⟩),L1:=[some (.cells cs)] }
    |_=>none
  |_=>none
def JF (cl:Nat) (cs:List AV) (p:Tk→Bool):Prop:=∀ x,Fn noB Try.prog cl [aTk x,.ptr 0 0] (qg [(0,.cells cs)]) (aB (p x)) (qg [(0,.cells cs)]) 0
theorem eTkp {A:Frm→Prop} {cl:Nat} {cs:List AV} {p:Tk→Bool} (h0:JF cl cs p):qB A Try.prog cl (fnE (pTk cs p)):=wE fun S bs q h hp=>by
  unfold pTk at h
  split at h
  · split at h
    · rename_i a b c d e f g t _ cs' _
      cases h
      exact h0 ⟨a,b,c,d,e,f,g⟩
    · cases h
  · cases h
def ixS (l:List Tk) (cl:Nat) (cs:List AV) (k:Nat):St:={ t:=asg [(0,qh l),(1,.clo cl [.ptr 0 0]),(4,aI 0),(6,qh l),(7,aI l.length),(8,aI k)],h:=qg [(0,.cells cs)],n:=1,m:=1 }
def jD:=kk @ty3 (kk @xC (kk @yw (kk @ti3.eq_1 (kk @vP.eq_1 @j3.eq_1))))
def Qr:=kk @aI.eq_1 (kk @aB.eq_1 (@ixS.eq_1))
theorem Qe3 {cl:Nat} {cs:List AV} {p:Tk→Bool} (hc:PCs cs) (h0:JF cl cs p) (l:List Tk) (hl:l.length≤100):Fn noB Try.prog 126 [qh l,.clo cl [.ptr 0 0]] (qg [(0,.cells cs)]) (aI (UM p l)) (qg [(0,.cells cs)]) 0:=by
  have env:Env (fun _=>True) Try.prog tyB (tab [(cl,fnE (pTk cs p))]):=qP ⟨eTkp h0,trivial⟩
  obtain ⟨c1,c2,c4⟩:=hc
  refine Fn.of (A:=fun _=>True) (n0:=1) (D:=noD) (Fn0 Try.func126 rfl (fun vs w=>by kernel_rfl) (by kernel_rfl)) (by simp) (by simp [AV.ids,AV.idsL,qh]) ?_ (fun _ _ _ _=>trivial) qF ?_
  · intro i o hi
    have h:=qV hi
    simp at h;obtain ⟨rfl,rfl⟩:=h;simp [AObj.ids,c1]
  repeat' (first|(apply nx;with_reducible constructor)|refine jq (by decide) ?_|((first|refine kz env fun Q hQ=>?_|refine kj fun Q hQ=>?_);simp only [vkt,seval,jD,Qr,aTk,cTk,qh,eTk,gTk,mTk,pTk];(try simp only [ite_and]);(repeat' (first|with_reducible assumption|refine And.intro ?_ ?_|intro hp));all_goals (first|(refine hQ _ ?_;clear hQ Q)|(refine hQ _ (fun h=>?_) (fun h=>?_) <;> clear hQ Q <;> (try simp only [vki,reduceCtorEq] at h))|(refine kx ?_;kernel_rfl)|omega|assumption|with_reducible rfl|skip)))
  refine qX (fun k:{ k:Nat // k≤l.length∧∀ j,j < k→p (l.getD j default)=false }=>ixS l cl cs k.1) (fun k=>l.length - k.1) ⟨0,Nat.zero_le _,fun j h=>absurd h (Nat.not_lt_zero _)⟩ ?_ fun ⟨k,hk,hno⟩=>?_
  · (refine Le.ok some [] ?_;constructor;all_goals (try simp only [vle,vkt,seval,jD,Qr,aTk,cTk,qh,eTk,gTk,mTk,pTk]))
    all_goals first|rfl|(simp [c1,c2];done)
  · repeat' (first|(apply nx;with_reducible constructor)|refine jq (by decide) ?_)
    (refine kz env fun Q hQ=>?_;simp only [vkt,seval,jD,Qr,aTk,cTk,qh,eTk,gTk,mTk,pTk];(try simp only [ite_and]);(repeat' (first|with_reducible assumption|refine And.intro ?_ ?_|intro hp));all_goals (first|(refine hQ _ ?_;clear hQ Q)|(refine kx ?_;kernel_rfl)|omega|assumption|with_reducible rfl|skip))
    repeat' (first|(apply nx;with_reducible constructor)|refine jq (by decide) ?_)
    (refine yH (by simp only [vkt,seval,jD,Qr,aTk,cTk,qh,eTk,gTk,mTk,pTk];rfl) (fun h=>?_) (fun h=>?_) <;> (try simp only [vki,reduceCtorEq] at h))
    · have hlt:k < l.length:=by omega
      have e9:IntKind.wrap .i64 ((k:Int)+1)=((k+1:Nat):Int):=by rw [wrap64 (by omega) (by omega)];rfl
      obtain ⟨x,hx⟩:∃ x,l.getD k default=x:=⟨_,rfl⟩
      have ex:(⟨x.party,x.sex,x.cab,x.bed,x.frm,x.to,x.dog⟩:Tk)=x:=rfl
      cases hp:p x
      · repeat' (first|(apply nx;with_reducible constructor)|refine jq (by decide) ?_|((first|refine kz env fun Q hQ=>?_|refine kj fun Q hQ=>?_);simp only [vkt,seval,jD,Qr,aTk,cTk,qh,eTk,gTk,mTk,pTk,hx,ex,hp,e9,c1,c2,c4];(try simp only [ite_and]);(repeat' (first|with_reducible assumption|refine And.intro ?_ ?_|intro hp));all_goals (first|(refine hQ _ ?_;clear hQ Q)|(refine hQ _ (fun h=>?_) (fun h=>?_) <;> clear hQ Q <;> (try simp only [vki,reduceCtorEq] at h))|(refine kx ?_;kernel_rfl)|omega|assumption|with_reducible rfl|skip)))
        refine ⟨⟨k+1,hlt,fun j hj=>?_⟩,by show l.length - (k+1) < l.length - k;omega, ?_⟩
        · rcases Nat.lt_or_eq_of_le (Nat.le_of_lt_succ hj) with h1|h1
          · exact hno j h1
          · rw [h1,hx];exact hp
        · (refine Le.ok some [] ?_;constructor;all_goals (try simp only [vle,vkt,seval,jD,Qr,aTk,cTk,qh,eTk,gTk,mTk,pTk]))
          all_goals first|rfl|(simp [c1,c2];done)
      · have hh:=QeX hlt hno (by rw [hx];exact hp)
        rw [hh]
        repeat' (first|(apply nx;with_reducible constructor)|refine jq (by decide) ?_|((first|refine kz env fun Q hQ=>?_|refine kj fun Q hQ=>?_);simp only [vkt,seval,jD,Qr,aTk,cTk,qh,eTk,gTk,mTk,pTk,hx,ex,hp,e9,c1,c2,c4];(try simp only [ite_and]);(repeat' (first|with_reducible assumption|refine And.intro ?_ ?_|intro hp));all_goals (first|(refine hQ _ ?_;clear hQ Q)|(refine hQ _ (fun h=>?_) (fun h=>?_) <;> clear hQ Q <;> (try simp only [vki,reduceCtorEq] at h))|(refine kx ?_;kernel_rfl)|omega|assumption|with_reducible rfl|skip)))
        (simp only [vrt,Try.results126,c1,c2,vkt,seval,jD,Qr,aTk,cTk,qh,eTk,gTk,mTk,pTk];refine Fin.ok some [] ?_ ?_ ?_ ?_ ?_ rfl;all_goals (try simp only [vle,vkt,seval,jD,Qr,aTk,cTk,qh,eTk,gTk,mTk,pTk]))
        all_goals first|rfl|(simp [c1,c2];done)
    · have hke:k=l.length:=by omega
      subst hke
      rw [QdU hno]
      repeat' (first|(apply nx;with_reducible constructor)|refine jq (by decide) ?_|((first|refine kz env fun Q hQ=>?_|refine kj fun Q hQ=>?_);simp only [vkt,seval,jD,Qr,aTk,cTk,qh,eTk,gTk,mTk,pTk,c1,c2];(try simp only [ite_and]);(repeat' (first|with_reducible assumption|refine And.intro ?_ ?_|intro hp));all_goals (first|(refine hQ _ ?_;clear hQ Q)|(refine hQ _ (fun h=>?_) (fun h=>?_) <;> clear hQ Q <;> (try simp only [vki,reduceCtorEq] at h))|(refine kx ?_;kernel_rfl)|omega|assumption|with_reducible rfl|skip)))
      (simp only [vrt,Try.results126,c1,c2,vkt,seval,jD,Qr,aTk,cTk,qh,eTk,gTk,mTk,pTk];refine Fin.ok some [] ?_ ?_ ?_ ?_ ?_ rfl;all_goals (try simp only [vle,vkt,seval,jD,Qr,aTk,cTk,qh,eTk,gTk,mTk,pTk]))
      all_goals first|rfl|(simp [c1,c2];done)
def Qdi (cl:Nat) (cs:List AV) (p:Tk→Bool) (S:St):List AV→Option Pk
  |[.sl xs,.clo f [.ptr t 0]]=>match S.h t with
    |some (.cells cs')=>some { pre:=f=cl∧cs'=cs∧xs=(xs.map dTk).map eTk∧xs.length≤100,hs:=[t],ar:=[.sl xs,.clo cl [.ptr 0 0]],L0:=[.cells cs],v:=aI (UM p (xs.map dTk)),L1:=[some (.cells cs)] }
    |_=>none
  |_=>none
theorem eIdx {A:Frm→Prop} {cl:Nat} {cs:List AV} {p:Tk→Bool} (hc:PCs cs) (h0:JF cl cs p):qB A Try.prog 126 (fnE (Qdi cl cs p)):=wE fun S bs q h hp=>by
  unfold Qdi at h
  split at h
  · split at h
    · cases h
      obtain ⟨_,_,h1,h2⟩:=hp
      have:=Qe3 hc h0 (List.map dTk _) (by rw [List.length_map];exact h2)
      rw [qh,← h1] at this
      exact this
    · cases h
  · cases h
def YY:=kk @ty3 @ti3.eq_1
def QaI:=kk @aI.eq_1 (@aB.eq_1)
theorem Re {cl:Nat} {cs:List AV} {p:Tk→Bool} (hc:PCs cs) (h0:JF cl cs p) (l:List Tk) (hl:l.length≤100):Fn noB Try.prog 127 [qh l,.clo cl [.ptr 0 0]] (qg [(0,.cells cs)]) (aB (l.any p)) (qg [(0,.cells cs)]) 0:=by
  have env:Env (fun _=>True) Try.prog tyB (tab [(126,fnE (Qdi cl cs p))]):=qP ⟨eIdx hc h0,trivial⟩
  obtain ⟨c1,c2,c4⟩:=hc
  refine Fn.of (A:=fun _=>True) (n0:=1) (D:=noD) (Fn0 Try.func127 rfl (fun vs w=>by kernel_rfl) (by kernel_rfl)) (by simp) (by simp [AV.ids,AV.idsL,qh]) ?_ (fun _ _ _ _=>trivial) qF ?_
  · intro i o hi
    have h:=qV hi
    simp at h;obtain ⟨rfl,rfl⟩:=h;simp [AObj.ids,c1]
  repeat' (first|(apply nx;with_reducible constructor)|refine jq (by decide) ?_|((first|refine kz env fun Q hQ=>?_|refine kj fun Q hQ=>?_);simp only [vkt,seval,YY,QaI,qh,eTk,mTk,Qdi,List.length_map,c1,c2,c4];(try simp only [ite_and]);(repeat' (first|with_reducible assumption|refine And.intro ?_ ?_|intro hp));all_goals (first|(refine hQ _ ?_;clear hQ Q)|(refine hQ _ (fun h=>?_) (fun h=>?_) <;> clear hQ Q <;> (try simp only [vki,reduceCtorEq] at h))|(refine kx ?_;kernel_rfl)|omega|assumption|with_reducible rfl|skip)))
  (simp only [vrt,Try.results127,Qej,c1,c2,vkt,seval,YY,QaI,qh,eTk,mTk,Qdi,List.length_map];refine Fin.ok some [] ?_ ?_ ?_ ?_ ?_ rfl;all_goals (try simp only [vle,vkt,seval,YY,QaI,qh,eTk,mTk,Qdi,List.length_map]))
  all_goals first|rfl|(simp [c1,c2];done)
def YM:=kk @xA (kk @yw (kk @vR.eq_1 @j3.eq_1))
def Yv:=kk @aI.eq_1 (@aB.eq_1)
theorem QhR (t:Tk):JF 140 (cTk t) (Zg t):=fun x=>by
  have env:Env (fun _=>True) Try.prog tyB (tab [(141,qU true Q8)]):=qP ⟨Qia,trivial⟩
  refine Fn.of (A:=fun _=>True) (n0:=1) (D:=noD) (Fn0 Try.func140 rfl (fun vs w=>by kernel_rfl) (by kernel_rfl)) (by simp) (by simp [AV.ids,AV.idsL,aTk,cTk]) ?_ (fun _ _ _ _=>trivial) qF ?_
  · intro i o hi
    have h:=qV hi
    simp at h;obtain ⟨rfl,rfl⟩:=h;simp [cTk,AObj.ids,AV.ids,AV.idsL]
  have em:Qd ⟨x.party,x.sex,x.cab,x.bed,x.frm,x.to,x.dog⟩ ⟨t.party,t.sex,t.cab,t.bed,t.frm,t.to,t.dog⟩=Qd x t:=rfl
  repeat' (first|(apply nx;with_reducible constructor)|refine jq (by decide) ?_|((first|refine kz env fun Q hQ=>?_|refine kj fun Q hQ=>?_);simp only [vkt,seval,YM,Yv,aTk,cTk,Q8,Rz,em];(try simp only [ite_and]);(repeat' (first|with_reducible assumption|refine And.intro ?_ ?_|intro hp));all_goals (first|(refine hQ _ ?_;clear hQ Q)|(refine hQ _ (fun h=>?_) (fun h=>?_) <;> clear hQ Q <;> (try simp only [vki,reduceCtorEq] at h))|(refine kx ?_;kernel_rfl)|omega|assumption|with_reducible rfl|skip)))
  all_goals (simp only [vrt,Try.results140,vkt,seval,YM,Yv,aTk,cTk,Q8,Rz];refine Fin.ok some [] ?_ ?_ ?_ ?_ ?_ rfl;all_goals (try simp only [vle,vkt,seval,YM,Yv,aTk,cTk,Q8,Rz]))
  all_goals first|rfl|(simp [Zg, *];done)|(simp_all [Zg];done)
def YH:=kk @yw @j3.eq_1
theorem Qhv (t:Tk):JF 142 (cTk t) (fun x=>!Zx x t):=fun x=>by
  have env:Env (fun _=>True) Try.prog tyB (tab [(143,qU true Rz)]):=qP ⟨etog,trivial⟩
  refine Fn.of (A:=fun _=>True) (n0:=1) (D:=noD) (Fn0 Try.func142 rfl (fun vs w=>by kernel_rfl) (by kernel_rfl)) (by simp) (by simp [AV.ids,AV.idsL,aTk,cTk]) ?_ (fun _ _ _ _=>trivial) qF ?_
  · intro i o hi
    have h:=qV hi
    simp at h;obtain ⟨rfl,rfl⟩:=h;simp [cTk,AObj.ids,AV.ids,AV.idsL]
  have em:Zx ⟨x.party,x.sex,x.cab,x.bed,x.frm,x.to,x.dog⟩ ⟨t.party,t.sex,t.cab,t.bed,t.frm,t.to,t.dog⟩=Zx x t:=rfl
  repeat' (first|(apply nx;with_reducible constructor)|refine jq (by decide) ?_|((first|refine kz env fun Q hQ=>?_|refine kj fun Q hQ=>?_);simp only [vkt,seval,YH,Yv,aTk,cTk,Q8,Rz,em];(try simp only [ite_and]);(repeat' (first|with_reducible assumption|refine And.intro ?_ ?_|intro hp));all_goals (first|(refine hQ _ ?_;clear hQ Q)|(refine hQ _ (fun h=>?_) (fun h=>?_) <;> clear hQ Q <;> (try simp only [vki,reduceCtorEq] at h))|(refine kx ?_;kernel_rfl)|omega|assumption|with_reducible rfl|skip)))
  all_goals (simp only [vrt,Try.results142,vkt,seval,YH,Yv,aTk,cTk,Q8,Rz];refine Fin.ok some [] ?_ ?_ ?_ ?_ ?_ rfl;all_goals (try simp only [vle,vkt,seval,YH,Yv,aTk,cTk,Q8,Rz]))
  all_goals first|rfl|(simp;done)
def JY (S:St):List AV→Option Pk
  |[.sl xs,.clo 140 [.ptr t 0]]=>match S.h t with
    |some (.cells [.v (.int .i64 a),.v (.int .i64 b),.v (.int .i64 c),.v (.int .i64 d),.v (.int .i64 e),.v (.int .i64 f),.v (.bool g)])=>some { pre:=xs=(xs.map dTk).map eTk∧xs.length≤100,hs:=[t],ar:=[.sl xs,.clo 140 [.ptr 0 0]],L0:=[.cells (cTk ⟨a,b,c,d,e,f,g⟩)],v:=aB ((xs.map dTk).any (Zg ⟨a,b,c,d,e,f,g⟩)),L1:=[some (.cells (cTk ⟨a,b,c,d,e,f,g⟩))] }
    |_=>none
  |[.sl xs,.clo 142 [.ptr t 0]]=>match S.h t with
    |some (.cells [.v (.int .i64 a),.v (.int .i64 b),.v (.int .i64 c),.v (.int .i64 d),.v (.int .i64 e),.v (.int .i64 f),.v (.bool g)])=>some { pre:=xs=(xs.map dTk).map eTk∧xs.length≤100,hs:=[t],ar:=[.sl xs,.clo 142 [.ptr 0 0]],L0:=[.cells (cTk ⟨a,b,c,d,e,f,g⟩)],v:=aB ((xs.map dTk).any fun x=>!Zx x ⟨a,b,c,d,e,f,g⟩),L1:=[some (.cells (cTk ⟨a,b,c,d,e,f,g⟩))] }
    |_=>none
  |_=>none
theorem eCont {A:Frm→Prop}:qB A Try.prog 127 (fnE JY):=wE fun S bs q h hp=>by
  unfold JY at h
  split at h
  · split at h
    · rename_i xs t _ a b c d e f g _
      cases h
      obtain ⟨h1,h2⟩:=hp
      have:=Re (QfY ⟨a,b,c,d,e,f,g⟩) (QhR ⟨a,b,c,d,e,f,g⟩) (xs.map dTk) (by rw [List.length_map];exact h2)
      rw [qh,← h1] at this
      exact this
    · cases h
  · split at h
    · rename_i xs t _ a b c d e f g _
      cases h
      obtain ⟨h1,h2⟩:=hp
      have:=Re (QfY ⟨a,b,c,d,e,f,g⟩) (Qhv ⟨a,b,c,d,e,f,g⟩) (xs.map dTk) (by rw [List.length_map];exact h2)
      rw [qh,← h1] at this
      exact this
    · cases h
  · cases h
def YJ:=kk @aI.eq_1 (@aB.eq_1)
theorem QdW (t:Tk) (l:List Tk) (hl:l.length≤100):FnV Try.prog 124 [aTk t,qh l] (aI (ji t l)):=by
  have env:Env (fun _=>True) Try.prog tyB (tab [(127,fnE JY)]):=qP ⟨eCont,trivial⟩
  refine Fn.of (A:=fun _=>True) (n0:=0) (D:=noD) (Fn0 Try.func124 rfl (fun vs w=>by kernel_rfl) (by kernel_rfl)) (by simp) (by simp [AV.ids,AV.idsL,aTk,cTk,qh]) (fun i o h=>by cases h) (fun _ _ _ _=>trivial) qF ?_
  have et:(⟨t.party,t.sex,t.cab,t.bed,t.frm,t.to,t.dog⟩:Tk)=t:=rfl
  cases h1:l.any (Zg t)
  · cases h2:l.any (fun x=>!Zx x t)
    · rw [show ji t l=0 by simp [ji,h1,h2]]
      repeat' (first|(apply nx;with_reducible constructor)|refine jq (by decide) ?_|((first|refine kz env fun Q hQ=>?_|refine kj fun Q hQ=>?_);simp only [vkt,seval,YJ,aTk,cTk,qh,eTk,mTk,JY,List.length_map,et,h1,h2];(try simp only [ite_and]);(repeat' (first|with_reducible assumption|refine And.intro ?_ ?_|intro hp));all_goals (first|(refine hQ _ ?_;clear hQ Q)|(refine hQ _ (fun h=>?_) (fun h=>?_) <;> clear hQ Q <;> (try simp only [vki,reduceCtorEq] at h))|(refine kx ?_;kernel_rfl)|omega|assumption|with_reducible rfl|skip)))
      (simp only [vrt,Try.results124,vkt,seval,YJ,aTk,cTk,qh,eTk,mTk,JY,List.length_map];refine Fin.val rfl ?_;(try simp only [AV.le,AV.leL]))
      all_goals first|rfl|(simp;done)
    · rw [show ji t l=9 by simp [ji,h1,h2]]
      repeat' (first|(apply nx;with_reducible constructor)|refine jq (by decide) ?_|((first|refine kz env fun Q hQ=>?_|refine kj fun Q hQ=>?_);simp only [vkt,seval,YJ,aTk,cTk,qh,eTk,mTk,JY,List.length_map,et,h1,h2];(try simp only [ite_and]);(repeat' (first|with_reducible assumption|refine And.intro ?_ ?_|intro hp));all_goals (first|(refine hQ _ ?_;clear hQ Q)|(refine hQ _ (fun h=>?_) (fun h=>?_) <;> clear hQ Q <;> (try simp only [vki,reduceCtorEq] at h))|(refine kx ?_;kernel_rfl)|omega|assumption|with_reducible rfl|skip)))
      (simp only [vrt,Try.results124,vkt,seval,YJ,aTk,cTk,qh,eTk,mTk,JY,List.length_map];refine Fin.val rfl ?_;(try simp only [AV.le,AV.leL]))
      all_goals first|rfl|(simp;done)
  · rw [show ji t l=4 by simp [ji,h1]]
    repeat' (first|(apply nx;with_reducible constructor)|refine jq (by decide) ?_|((first|refine kz env fun Q hQ=>?_|refine kj fun Q hQ=>?_);simp only [vkt,seval,YJ,aTk,cTk,qh,eTk,mTk,JY,List.length_map,et,h1];(try simp only [ite_and]);(repeat' (first|with_reducible assumption|refine And.intro ?_ ?_|intro hp));all_goals (first|(refine hQ _ ?_;clear hQ Q)|(refine hQ _ (fun h=>?_) (fun h=>?_) <;> clear hQ Q <;> (try simp only [vki,reduceCtorEq] at h))|(refine kx ?_;kernel_rfl)|omega|assumption|with_reducible rfl|skip)))
    (simp only [vrt,Try.results124,vkt,seval,YJ,aTk,cTk,qh,eTk,mTk,JY,List.length_map];refine Fin.val rfl ?_;(try simp only [AV.le,AV.leL]))
    all_goals first|rfl|(simp;done)
def jL:List AV→Prop × AV
  |[.agg [.v (.int .i64 t0),.v (.int .i64 t1),.v (.int .i64 t2),.v (.int .i64 t3),.v (.int .i64 t4),.v (.int .i64 t5),.v (.bool t6)],.sl l]=>(l=(l.map dTk).map eTk∧(l.map dTk).length≤100,aI (ji (⟨t0,t1,t2,t3,t4,t5,t6⟩:Tk) (l.map dTk)))
  |_=>(False,.junk)
theorem Qcw {A:Frm→Prop}:qB A Try.prog 124 (qU true jL):=za fun vs hv h=>by
  clear hv
  unfold jL at h ⊢
  split at h
  · rename_i t0 t1 t2 t3 t4 t5 t6 l;obtain ⟨q0,k0⟩:=h
    refine ⟨by first|trivial|(simp [AV.plain,AV.plainL,aI,aB,qA,qd,qh,qf,aTk,cTk];done)|(repeat' split) <;> simp [AV.plain,AV.plainL,aI,aB,qA,qd,qh,qf,aTk,cTk],fun _=>(by simp [AV.flat,AV.flatL,aI,aB]), ?_⟩
    have:=QdW (⟨t0,t1,t2,t3,t4,t5,t6⟩:Tk) (l.map dTk) k0
    simp only [aB,aI,aTk,qh,cTk,← q0] at this
    first|exact this|(simp only [aB,aI,aTk,qh,cTk,← q0];exact this)
  · exact h.elim
end Go.Sym.B
namespace Go.Sym.B
open Go Go.Sym Go.Proofs Go.Sym.C
theorem mapD {α:Type} [Inhabited α] {f:α→Int} {l:List α} {j:Nat} (h:j < l.length):(l.map f).getD j 0=f (l.getD j default):=by simp [List.getD_eq_getElem?_getD,h]
theorem Qbf {f:Nat→Int} {n j:Nat} (h:j < n):((List.range n).map f).getD j 0=f j:=by simp [List.getD_eq_getElem?_getD,h]
def crS (c:Chart) (k:Nat):St:={ t:=asg [(1,.ptr 0 0),(2,aI 0),(14,.sl (c.cabins.map qj)),(15,aI c.cabins.length),(16,aI k)],h:=qg [(0,.cells (qb c))],n:=1 }
def yh:=kk @ty3 (kk @WT (kk @xC (kk @jO (kk @QN (kk @WP (kk @yw (kk @ti3.eq_1 (kk @Zv.eq_1 (kk @vP.eq_1 (kk @jE.eq_1 (kk @Qb.eq_1 (kk @Zq.eq_1 @j3.eq_1))))))))))))
def xQ:=kk @aI.eq_1 (@aB.eq_1)
theorem QiS (c:Chart) (hc:c.cabins.length≤maxLen):FnV Try.prog 97 [qa c] (aI (ZR c)):=by
  have env:Env (fun _=>True) Try.prog tyB (tab [(91,qU true sin),(101,qU true zt)]):=qP ⟨ein,UR,trivial⟩
  refine Fn.of (A:=fun _=>True) (n0:=0) (D:=noD) (Fn0 Try.func97 rfl (fun vs w=>by kernel_rfl) (by kernel_rfl)) (by simp) (by simp [AV.ids,AV.idsL,qa,qb]) (fun i o h=>by cases h) (fun _ _ _ _=>trivial) qF ?_
  by_cases h1:wI c.cabins.length 1 3=0
  · have hl:c.cabins.length≤3:=by
      unfold wI at h1
      split at h1
      · exact absurd h1 (by decide)
      · split at h1
        · exact absurd h1 (by decide)
        · omega
    repeat' (first|(apply nx;with_reducible constructor)|refine jq (by decide) ?_|((first|refine kz env fun Q hQ=>?_|refine kj fun Q hQ=>?_);simp only [vkt,seval,yh,xQ,qa,qb,qj,qz,crS,sin,zt,h1];(try simp only [ite_and]);(repeat' (first|with_reducible assumption|refine And.intro ?_ ?_|intro hp));all_goals (first|(refine hQ _ ?_;clear hQ Q)|(refine hQ _ (fun h=>?_) (fun h=>?_) <;> clear hQ Q <;> (try simp only [vki,reduceCtorEq] at h))|(refine kx ?_;kernel_rfl)|omega|assumption|with_reducible rfl|skip)))
    refine qX (fun k:{ k:Nat // k≤c.cabins.length∧∀ j,j < k→(c.cabins.map ku).getD j 0=0 }=>crS c k.1) (fun k=>c.cabins.length - k.1) ⟨0,Nat.zero_le _,fun j h=>absurd h (Nat.not_lt_zero _)⟩ ?_ fun ⟨k,hk,hno⟩=>?_
    · (refine Le.ok some [] ?_;constructor;all_goals (try simp only [vle,vkt,seval,yh,xQ,qa,qb,qj,qz,crS,sin,zt]))
      all_goals first|rfl|(simp;done)
    · repeat' (first|(apply nx;with_reducible constructor)|refine jq (by decide) ?_)
      (refine kz env fun Q hQ=>?_;simp only [vkt,seval,yh,xQ,qa,qb,qj,qz,crS,sin,zt];(try simp only [ite_and]);(repeat' (first|with_reducible assumption|refine And.intro ?_ ?_|intro hp));all_goals (first|(refine hQ _ ?_;clear hQ Q)|(refine kx ?_;kernel_rfl)|omega|assumption|with_reducible rfl|skip))
      repeat' (first|(apply nx;with_reducible constructor)|refine jq (by decide) ?_)
      (refine yH (by simp only [vkt,seval,yh,xQ,qa,qb,qj,qz,crS,sin,zt];rfl) (fun h=>?_) (fun h=>?_) <;> (try simp only [vki,reduceCtorEq] at h))
      · have hlt:k < c.cabins.length:=by omega
        have e9:IntKind.wrap .i64 ((k:Int)+1)=((k+1:Nat):Int):=by rw [wrap64 (by omega) (by omega)];rfl
        obtain ⟨x,hx⟩:∃ x,c.cabins.getD k default=x:=⟨_,rfl⟩
        have hm:(c.cabins.map ku).getD k 0=ku x:=by rw [mapD hlt,hx]
        cases hb:inB x.beds 1 3
        · have hE:ku x=1:=by simp [ku,hb]
          have hf:=Qi hno (by simpa using hlt) (by rw [hm,hE];decide)
          rw [hm,hE] at hf
          rw [show ZR c=1 by unfold ZR;rw [if_neg (by rw [h1];simp),hf];simp]
          repeat' (first|(apply nx;with_reducible constructor)|refine jq (by decide) ?_|((first|refine kz env fun Q hQ=>?_|refine kj fun Q hQ=>?_);simp only [vkt,seval,yh,xQ,qa,qb,qj,qz,crS,sin,zt,hx,hb,e9];(try simp only [ite_and]);(repeat' (first|with_reducible assumption|refine And.intro ?_ ?_|intro hp));all_goals (first|(refine hQ _ ?_;clear hQ Q)|(refine hQ _ (fun h=>?_) (fun h=>?_) <;> clear hQ Q <;> (try simp only [vki,reduceCtorEq] at h))|(refine kx ?_;kernel_rfl)|omega|assumption|with_reducible rfl|skip)))
          (simp only [vrt,Try.results97,vkt,seval,yh,xQ,qa,qb,qj,qz,crS,sin,zt];refine Fin.val rfl ?_;(try simp only [AV.le,AV.leL]))
          all_goals first|rfl|(simp;done)
        · have hE:ku x=0:=by simp [ku,hb]
          repeat' (first|(apply nx;with_reducible constructor)|refine jq (by decide) ?_|((first|refine kz env fun Q hQ=>?_|refine kj fun Q hQ=>?_);simp only [vkt,seval,yh,xQ,qa,qb,qj,qz,crS,sin,zt,hx,hb,e9];(try simp only [ite_and]);(repeat' (first|with_reducible assumption|refine And.intro ?_ ?_|intro hp));all_goals (first|(refine hQ _ ?_;clear hQ Q)|(refine hQ _ (fun h=>?_) (fun h=>?_) <;> clear hQ Q <;> (try simp only [vki,reduceCtorEq] at h))|(refine kx ?_;kernel_rfl)|omega|assumption|with_reducible rfl|skip)))
          refine ⟨⟨k+1,hlt,fun j hj=>?_⟩,by show c.cabins.length - (k+1) < c.cabins.length - k;omega, ?_⟩
          · rcases Nat.lt_or_eq_of_le (Nat.le_of_lt_succ hj) with h2|h2
            · exact hno j h2
            · rw [h2,hm,hE]
          · (refine Le.ok some [] ?_;constructor;all_goals (try simp only [vle,vkt,seval,yh,xQ,qa,qb,qj,qz,crS,sin,zt]))
            all_goals first|rfl|(simp;done)
      · have hke:k=c.cabins.length:=by omega
        subst hke
        have hf:ym (c.cabins.map ku)=0:=xB (by simpa using hno)
        cases hs:inB c.secs 1 5
        · rw [show ZR c=1 by unfold ZR;rw [if_neg (by rw [h1];simp),if_neg (by rw [hf];simp),hs];rfl]
          repeat' (first|(apply nx;with_reducible constructor)|refine jq (by decide) ?_|((first|refine kz env fun Q hQ=>?_|refine kj fun Q hQ=>?_);simp only [vkt,seval,yh,xQ,qa,qb,qj,qz,crS,sin,zt,hs];(try simp only [ite_and]);(repeat' (first|with_reducible assumption|refine And.intro ?_ ?_|intro hp));all_goals (first|(refine hQ _ ?_;clear hQ Q)|(refine hQ _ (fun h=>?_) (fun h=>?_) <;> clear hQ Q <;> (try simp only [vki,reduceCtorEq] at h))|(refine kx ?_;kernel_rfl)|omega|assumption|with_reducible rfl|skip)))
          (simp only [vrt,Try.results97,vkt,seval,yh,xQ,qa,qb,qj,qz,crS,sin,zt];refine Fin.val rfl ?_;(try simp only [AV.le,AV.leL]))
          all_goals first|rfl|(simp;done)
        · rw [show ZR c=wI c.sold.length 0 8 by unfold ZR;rw [if_neg (by rw [h1];simp),if_neg (by rw [hf];simp),hs];rfl]
          repeat' (first|(apply nx;with_reducible constructor)|refine jq (by decide) ?_|((first|refine kz env fun Q hQ=>?_|refine kj fun Q hQ=>?_);simp only [vkt,seval,yh,xQ,qa,qb,qj,qz,crS,sin,zt,hs];(try simp only [ite_and]);(repeat' (first|with_reducible assumption|refine And.intro ?_ ?_|intro hp));all_goals (first|(refine hQ _ ?_;clear hQ Q)|(refine hQ _ (fun h=>?_) (fun h=>?_) <;> clear hQ Q <;> (try simp only [vki,reduceCtorEq] at h))|(refine kx ?_;kernel_rfl)|omega|assumption|with_reducible rfl|skip)))
          (simp only [vrt,Try.results97,vkt,seval,yh,xQ,qa,qb,qj,qz,crS,sin,zt];refine Fin.val rfl ?_;(try simp only [AV.le,AV.leL]))
          all_goals first|rfl|(simp;done)
  · rw [show ZR c=wI c.cabins.length 1 3 by unfold ZR;rw [if_pos h1]]
    repeat' (first|(apply nx;with_reducible constructor)|refine jq (by decide) ?_|((first|refine kz env fun Q hQ=>?_|refine kj fun Q hQ=>?_);simp only [vkt,seval,yh,xQ,qa,qb,qj,qz,crS,sin,zt,h1];(try simp only [ite_and]);(repeat' (first|with_reducible assumption|refine And.intro ?_ ?_|intro hp));all_goals (first|(refine hQ _ ?_;clear hQ Q)|(refine hQ _ (fun h=>?_) (fun h=>?_) <;> clear hQ Q <;> (try simp only [vki,reduceCtorEq] at h))|(refine kx ?_;kernel_rfl)|omega|assumption|with_reducible rfl|skip)))
    (simp only [vrt,Try.results97,vkt,seval,yh,xQ,qa,qb,qj,qz,crS,sin,zt];refine Fin.val rfl ?_;(try simp only [AV.le,AV.leL]))
    all_goals first|rfl|(simp;done)
def JA:List AV→Prop × AV
  |[.agg [.sl c0,.v (.int .i64 c1),.sl c2]]=>(c0=(c0.map qp).map qj∧c2=(c2.map dTk).map eTk∧c0.length≤maxLen,aI (ZR (⟨(c0.map qp),c1,(c2.map dTk)⟩:Chart)))
  |_=>(False,.junk)
theorem ecar {A:Frm→Prop}:qB A Try.prog 97 (qU true JA):=za fun vs hv h=>by
  clear hv
  unfold JA at h ⊢
  split at h
  · rename_i c0 c1 c2;obtain ⟨q0,q1,k0⟩:=h
    refine ⟨by first|trivial|(simp [AV.plain,AV.plainL,aI,aB,qA,qd,qh,qf,aTk,cTk];done)|(repeat' split) <;> simp [AV.plain,AV.plainL,aI,aB,qA,qd,qh,qf,aTk,cTk],fun _=>(by simp [AV.flat,AV.flatL,aI,aB]), ?_⟩
    have:=QiS (⟨(c0.map qp),c1,(c2.map dTk)⟩:Chart) (by simpa using k0)
    simp only [q9,qa,aI,qh,qb,← q0,← q1] at this
    first|exact this|(simp only [q9,qa,aI,qh,qb,← q0,← q1];exact this)
  · exact h.elim
def ja:=kk @ty3 (kk @WT (kk @jO (kk @QN (kk @xA (kk @WP (kk @yw (kk @ti3.eq_1 (kk @Zv.eq_1 (kk @jE.eq_1 (kk @Qb.eq_1 (kk @vR.eq_1 (kk @Zq.eq_1 @j3.eq_1))))))))))))
def Qo:=kk @aI.eq_1 (@aB.eq_1)
theorem QdY (c:Chart) (t:Tk) (l:List Tk) (hc:CarOk c) (hl:l.length≤100):FnV Try.prog 98 [qa c,aTk t,qh l] (aI (zM c t l)):=by
  have env:Env (fun _=>True) Try.prog tyB (tab [(91,qU true sin),(92,qU true vS),(124,qU true jL)]):=qP ⟨ein,eway,Qcw,trivial⟩
  refine Fn.of (A:=fun _=>True) (n0:=0) (D:=noD) (Fn0 Try.func98 rfl (fun vs w=>by kernel_rfl) (by kernel_rfl)) (by simp) (by simp [AV.ids,AV.idsL,qa,qb,aTk,cTk,qh]) (fun i o h=>by cases h) (fun _ _ _ _=>trivial) qF ?_
  have hcl:=hc.cabs
  have et:(⟨t.party,t.sex,t.cab,t.bed,t.frm,t.to,t.dog⟩:Tk)=t:=rfl
  have w1:IntKind.wrap .i64 ((c.cabins.length:Int) - 1)=(c.cabins.length:Int) - 1:=wrap64 (by omega) (by omega)
  have rest:inB t.party 1 99=true→inB t.sex 1 2=true→vU c.cabins t.cab t.bed=true→zM c t l=if QX c.secs t.frm t.to ≠ 0 then QX c.secs t.frm t.to else ji t l:=fun a1 a2 a3=>by
    unfold zM;simp [a1,a2,a3]
  cases h1:inB t.party 1 99
  · rw [show zM c t l=1 by simp [zM,h1]]
    repeat' (first|(apply nx;with_reducible constructor)|refine jq (by decide) ?_|((first|refine kz env fun Q hQ=>?_|refine kj fun Q hQ=>?_);simp only [vkt,seval,ja,Qo,qa,qb,aTk,cTk,qh,qj,qz,qc,mTk,sin,vS,jL,List.length_map,h1,et];(try simp only [ite_and]);(repeat' (first|with_reducible assumption|refine And.intro ?_ ?_|intro hp));all_goals (first|(refine hQ _ ?_;clear hQ Q)|(refine hQ _ (fun h=>?_) (fun h=>?_) <;> clear hQ Q <;> (try simp only [vki,reduceCtorEq] at h))|(refine kx ?_;kernel_rfl)|omega|assumption|with_reducible rfl|skip)))
    (simp only [vrt,Try.results98,vkt,seval,ja,Qo,qa,qb,aTk,cTk,qh,qj,qz,qc,mTk,sin,vS,jL,List.length_map];refine Fin.val rfl ?_;(try simp only [AV.le,AV.leL]))
    all_goals first|rfl|(simp;done)
  cases h2:inB t.sex 1 2
  · rw [show zM c t l=8 by simp [zM,h1,h2]]
    repeat' (first|(apply nx;with_reducible constructor)|refine jq (by decide) ?_|((first|refine kz env fun Q hQ=>?_|refine kj fun Q hQ=>?_);simp only [vkt,seval,ja,Qo,qa,qb,aTk,cTk,qh,qj,qz,qc,mTk,sin,vS,jL,List.length_map,h1,h2,et];(try simp only [ite_and]);(repeat' (first|with_reducible assumption|refine And.intro ?_ ?_|intro hp));all_goals (first|(refine hQ _ ?_;clear hQ Q)|(refine hQ _ (fun h=>?_) (fun h=>?_) <;> clear hQ Q <;> (try simp only [vki,reduceCtorEq] at h))|(refine kx ?_;kernel_rfl)|omega|assumption|with_reducible rfl|skip)))
    (simp only [vrt,Try.results98,vkt,seval,ja,Qo,qa,qb,aTk,cTk,qh,qj,qz,qc,mTk,sin,vS,jL,List.length_map];refine Fin.val rfl ?_;(try simp only [AV.le,AV.leL]))
    all_goals first|rfl|(simp;done)
  cases h3:inB t.cab 0 ((c.cabins.length:Int) - 1)
  · rw [show zM c t l=3 by simp [zM,h1,h2,vU,h3]]
    repeat' (first|(apply nx;with_reducible constructor)|refine jq (by decide) ?_|((first|refine kz env fun Q hQ=>?_|refine kj fun Q hQ=>?_);simp only [vkt,seval,ja,Qo,qa,qb,aTk,cTk,qh,qj,qz,qc,mTk,sin,vS,jL,List.length_map,h1,h2,h3,w1,et];(try simp only [ite_and]);(repeat' (first|with_reducible assumption|refine And.intro ?_ ?_|intro hp));all_goals (first|(refine hQ _ ?_;clear hQ Q)|(refine hQ _ (fun h=>?_) (fun h=>?_) <;> clear hQ Q <;> (try simp only [vki,reduceCtorEq] at h))|(refine kx ?_;kernel_rfl)|omega|assumption|with_reducible rfl|skip)))
    (simp only [vrt,Try.results98,vkt,seval,ja,Qo,qa,qb,aTk,cTk,qh,qj,qz,qc,mTk,sin,vS,jL,List.length_map];refine Fin.val rfl ?_;(try simp only [AV.le,AV.leL]))
    all_goals first|rfl|(simp;done)
  have b3:=jV.1 h3
  have g1:0≤t.cab:=b3.1
  have g2:t.cab.toNat < c.cabins.length:=by omega
  obtain ⟨x,hx⟩:∃ x,c.cabins.getD t.cab.toNat default=x:=⟨_,rfl⟩
  have hxb:=hc.beds _ (vK (d:=default) g2)
  rw [hx] at hxb
  have w2:IntKind.wrap .i64 (x.beds - 1)=x.beds - 1:=wrap64 (by omega) (by omega)
  cases h4:inB t.bed 0 (x.beds - 1)
  · rw [show zM c t l=3 by simp [-List.getD_eq_getElem?_getD,zM,h1,h2,vU,h3,hx,h4]]
    repeat' (first|(apply nx;with_reducible constructor)|refine jq (by decide) ?_|((first|refine kz env fun Q hQ=>?_|refine kj fun Q hQ=>?_);simp only [vkt,seval,ja,Qo,qa,qb,aTk,cTk,qh,qj,qz,qc,mTk,sin,vS,jL,List.length_map,h1,h2,h3,h4,w1,w2,hx,g1,g2,et];(try simp only [ite_and]);(repeat' (first|with_reducible assumption|refine And.intro ?_ ?_|intro hp));all_goals (first|(refine hQ _ ?_;clear hQ Q)|(refine hQ _ (fun h=>?_) (fun h=>?_) <;> clear hQ Q <;> (try simp only [vki,reduceCtorEq] at h))|(refine kx ?_;kernel_rfl)|omega|assumption|with_reducible rfl|skip)))
    (simp only [vrt,Try.results98,vkt,seval,ja,Qo,qa,qb,aTk,cTk,qh,qj,qz,qc,mTk,sin,vS,jL,List.length_map];refine Fin.val rfl ?_;(try simp only [AV.le,AV.leL]))
    all_goals first|rfl|(simp;done)
  have hr:=rest h1 h2 (by simp [-List.getD_eq_getElem?_getD,vU,h3,hx,h4])
  by_cases h5:QX c.secs t.frm t.to=0
  · rw [if_neg (by rw [h5];simp)] at hr
    rw [hr]
    repeat' (first|(apply nx;with_reducible constructor)|refine jq (by decide) ?_|((first|refine kz env fun Q hQ=>?_|refine kj fun Q hQ=>?_);simp only [vkt,seval,ja,Qo,qa,qb,aTk,cTk,qh,qj,qz,qc,mTk,sin,vS,jL,List.length_map,h1,h2,h3,h4,h5,w1,w2,hx,g1,g2,et];(try simp only [ite_and]);(repeat' (first|with_reducible assumption|refine And.intro ?_ ?_|intro hp));all_goals (first|(refine hQ _ ?_;clear hQ Q)|(refine hQ _ (fun h=>?_) (fun h=>?_) <;> clear hQ Q <;> (try simp only [vki,reduceCtorEq] at h))|(refine kx ?_;kernel_rfl)|omega|assumption|with_reducible rfl|skip)))
    (simp only [vrt,Try.results98,vkt,seval,ja,Qo,qa,qb,aTk,cTk,qh,qj,qz,qc,mTk,sin,vS,jL,List.length_map];refine Fin.val rfl ?_;(try simp only [AV.le,AV.leL]))
    all_goals first|rfl|(simp;done)
  · rw [if_pos h5] at hr
    rw [hr]
    repeat' (first|(apply nx;with_reducible constructor)|refine jq (by decide) ?_|((first|refine kz env fun Q hQ=>?_|refine kj fun Q hQ=>?_);simp only [vkt,seval,ja,Qo,qa,qb,aTk,cTk,qh,qj,qz,qc,mTk,sin,vS,jL,List.length_map,h1,h2,h3,h4,h5,w1,w2,hx,g1,g2,et];(try simp only [ite_and]);(repeat' (first|with_reducible assumption|refine And.intro ?_ ?_|intro hp));all_goals (first|(refine hQ _ ?_;clear hQ Q)|(refine hQ _ (fun h=>?_) (fun h=>?_) <;> clear hQ Q <;> (try simp only [vki,reduceCtorEq] at h))|(refine kx ?_;kernel_rfl)|omega|assumption|with_reducible rfl|skip)))
    (simp only [vrt,Try.results98,vkt,seval,ja,Qo,qa,qb,aTk,cTk,qh,qj,qz,qc,mTk,sin,vS,jL,List.length_map];refine Fin.val rfl ?_;(try simp only [AV.le,AV.leL]))
    all_goals first|rfl|(simp;done)
def yL:List AV→Prop × AV
  |[.agg [.sl c0,.v (.int .i64 c1),.sl c2],.agg [.v (.int .i64 t0),.v (.int .i64 t1),.v (.int .i64 t2),.v (.int .i64 t3),.v (.int .i64 t4),.v (.int .i64 t5),.v (.bool t6)],.sl l]=>(c0=(c0.map qp).map qj∧c2=(c2.map dTk).map eTk∧l=(l.map dTk).map eTk∧CarOk (⟨(c0.map qp),c1,(c2.map dTk)⟩:Chart)∧(l.map dTk).length≤100,aI (zM (⟨(c0.map qp),c1,(c2.map dTk)⟩:Chart) (⟨t0,t1,t2,t3,t4,t5,t6⟩:Tk) (l.map dTk)))
  |_=>(False,.junk)
theorem Qha {A:Frm→Prop}:qB A Try.prog 98 (qU true yL):=za fun vs hv h=>by
  clear hv
  unfold yL at h ⊢
  split at h
  · rename_i c0 c1 c2 t0 t1 t2 t3 t4 t5 t6 l;obtain ⟨q0,q1,q2,k0,k1⟩:=h
    refine ⟨by first|trivial|(simp [AV.plain,AV.plainL,aI,aB,qA,qd,qh,qf,aTk,cTk];done)|(repeat' split) <;> simp [AV.plain,AV.plainL,aI,aB,qA,qd,qh,qf,aTk,cTk],fun _=>(by simp [AV.flat,AV.flatL,aI,aB]), ?_⟩
    have:=QdY (⟨(c0.map qp),c1,(c2.map dTk)⟩:Chart) (⟨t0,t1,t2,t3,t4,t5,t6⟩:Tk) (l.map dTk) k0 k1
    simp only [aB,q9,qa,aI,aTk,qh,qb,cTk,← q0,← q1,← q2] at this
    first|exact this|(simp only [aB,q9,qa,aI,aTk,qh,qb,cTk,← q0,← q1,← q2];exact this)
  · exact h.elim
def ckS (c:Chart) (k:Nat):St:={ t:=asg [(1,.ptr 0 0),(2,aI 0),(13,qh c.sold),(14,aI c.sold.length),(15,aI k)],h:=qg [(0,.cells (qb c))],n:=1 }
def jI:=kk @ty3 (kk @xC (kk @jO (kk @QN (kk @yw (kk @ti3.eq_1 (kk @vP.eq_1 (kk @jE.eq_1 (kk @Qb.eq_1 @j3.eq_1))))))))
def Qs:=kk @aI.eq_1 (@aB.eq_1)
theorem Qgf (c:Chart) (hc:c.cabins.length≤maxLen):FnV Try.prog 44 [qa c] (aI (zV c)):=by
  have env:Env (fun _=>True) Try.prog tyB (tab [(97,qU true JA),(98,qU true yL)]):=qP ⟨ecar,Qha,trivial⟩
  refine Fn.of (A:=fun _=>True) (n0:=0) (D:=noD) (Fn0 Try.func44 rfl (fun vs w=>by kernel_rfl) (by kernel_rfl)) (by simp) (by simp [AV.ids,AV.idsL,qa,qb]) (fun i o h=>by cases h) (fun _ _ _ _=>trivial) qF ?_
  have ec:(⟨c.cabins,c.secs,c.sold⟩:Chart)=c:=rfl
  by_cases h1:ZR c=0
  · obtain ⟨hcar,hsl⟩:=Qcb h1
    have hE:zV c=yC c c.sold:=by unfold zV;rw [if_neg (by rw [h1];simp)]
    rw [hE]
    repeat' (first|(apply nx;with_reducible constructor)|refine jq (by decide) ?_|((first|refine kz env fun Q hQ=>?_|refine kj fun Q hQ=>?_);simp only [vkt,seval,jI,Qs,qa,qb,aTk,cTk,qh,eTk,gTk,rTk,qc,mTk,ckS,JA,yL,List.length_map,h1,ec];(try simp only [ite_and]);(repeat' (first|with_reducible assumption|refine And.intro ?_ ?_|intro hp));all_goals (first|(refine hQ _ ?_;clear hQ Q)|(refine hQ _ (fun h=>?_) (fun h=>?_) <;> clear hQ Q <;> (try simp only [vki,reduceCtorEq] at h))|(refine kx ?_;kernel_rfl)|omega|assumption|with_reducible rfl|skip)))
    refine qX (fun k:{ k:Nat // k≤c.sold.length∧∀ j,j < k→zM c (c.sold.getD j default) (c.sold.take j)=0 }=>ckS c k.1) (fun k=>c.sold.length - k.1) ⟨0,Nat.zero_le _,fun j h=>absurd h (Nat.not_lt_zero _)⟩ ?_ fun ⟨k,hk,hno⟩=>?_
    · (refine Le.ok some [] ?_;constructor;all_goals (try simp only [vle,vkt,seval,jI,Qs,qa,qb,aTk,cTk,qh,eTk,gTk,rTk,qc,mTk,ckS,JA,yL,List.length_map]))
      all_goals first|rfl|(simp;done)
    · repeat' (first|(apply nx;with_reducible constructor)|refine jq (by decide) ?_)
      (refine kz env fun Q hQ=>?_;simp only [vkt,seval,jI,Qs,qa,qb,aTk,cTk,qh,eTk,gTk,rTk,qc,mTk,ckS,JA,yL,List.length_map];(try simp only [ite_and]);(repeat' (first|with_reducible assumption|refine And.intro ?_ ?_|intro hp));all_goals (first|(refine hQ _ ?_;clear hQ Q)|(refine kx ?_;kernel_rfl)|omega|assumption|with_reducible rfl|skip))
      repeat' (first|(apply nx;with_reducible constructor)|refine jq (by decide) ?_)
      (refine yH (by simp only [vkt,seval,jI,Qs,qa,qb,aTk,cTk,qh,eTk,gTk,rTk,qc,mTk,ckS,JA,yL,List.length_map];rfl) (fun h=>?_) (fun h=>?_) <;> (try simp only [vki,reduceCtorEq] at h))
      · have hlt:k < c.sold.length:=by omega
        have e9:IntKind.wrap .i64 ((k:Int)+1)=((k+1:Nat):Int):=by rw [wrap64 (by omega) (by omega)];rfl
        obtain ⟨x,hx⟩:∃ x,c.sold.getD k default=x:=⟨_,rfl⟩
        have ex:(⟨x.party,x.sex,x.cab,x.bed,x.frm,x.to,x.dog⟩:Tk)=x:=rfl
        have tk:List.take k (c.sold.map eTk)=(c.sold.take k).map eTk:=List.map_take.symm
        have t100:(c.sold.take k).length≤100:=by rw [List.length_take];omega
        have hcar':CarOk ⟨c.cabins,c.secs,c.sold⟩:=hcar
        have hg:=Qbf (f:=fun i=>zM c (c.sold.getD i default) (c.sold.take i)) hlt
        by_cases h2:zM c x (c.sold.take k)=0
        · repeat' (first|(apply nx;with_reducible constructor)|refine jq (by decide) ?_|((first|refine kz env fun Q hQ=>?_|refine kj fun Q hQ=>?_);simp only [vkt,seval,jI,Qs,qa,qb,aTk,cTk,qh,eTk,gTk,rTk,qc,mTk,ckS,JA,yL,List.length_map,hx,ex,ec,tk,h2,e9];(try simp only [ite_and]);(repeat' (first|with_reducible assumption|refine And.intro ?_ ?_|intro hp));all_goals (first|(refine hQ _ ?_;clear hQ Q)|(refine hQ _ (fun h=>?_) (fun h=>?_) <;> clear hQ Q <;> (try simp only [vki,reduceCtorEq] at h))|(refine kx ?_;kernel_rfl)|omega|assumption|with_reducible rfl|skip)))
          refine ⟨⟨k+1,hlt,fun j hj=>?_⟩,by show c.sold.length - (k+1) < c.sold.length - k;omega, ?_⟩
          · rcases Nat.lt_or_eq_of_le (Nat.le_of_lt_succ hj) with h3|h3
            · exact hno j h3
            · rw [h3,hx];exact h2
          · (refine Le.ok some [] ?_;constructor;all_goals (try simp only [vle,vkt,seval,jI,Qs,qa,qb,aTk,cTk,qh,eTk,gTk,rTk,qc,mTk,ckS,JA,yL,List.length_map]))
            all_goals first|rfl|(simp;done)
        · have hf:yC c c.sold=zM c x (c.sold.take k):=by
            unfold yC
            rw [Qi (k:=k) (fun j hj=>by rw [Qbf (by omega)];exact hno j hj) (by simpa using hlt) (by rw [hg,hx];exact h2),hg,hx]
          rw [hf]
          repeat' (first|(apply nx;with_reducible constructor)|refine jq (by decide) ?_|((first|refine kz env fun Q hQ=>?_|refine kj fun Q hQ=>?_);simp only [vkt,seval,jI,Qs,qa,qb,aTk,cTk,qh,eTk,gTk,rTk,qc,mTk,ckS,JA,yL,List.length_map,hx,ex,ec,tk,h2,e9];(try simp only [ite_and]);(repeat' (first|with_reducible assumption|refine And.intro ?_ ?_|intro hp));all_goals (first|(refine hQ _ ?_;clear hQ Q)|(refine hQ _ (fun h=>?_) (fun h=>?_) <;> clear hQ Q <;> (try simp only [vki,reduceCtorEq] at h))|(refine kx ?_;kernel_rfl)|omega|assumption|with_reducible rfl|skip)))
          (simp only [vrt,Try.results44,vkt,seval,jI,Qs,qa,qb,aTk,cTk,qh,eTk,gTk,rTk,qc,mTk,ckS,JA,yL,List.length_map];refine Fin.val rfl ?_;(try simp only [AV.le,AV.leL]))
          all_goals first|rfl|(simp;done)
      · have hke:k=c.sold.length:=by omega
        subst hke
        rw [show yC c c.sold=0 from xB fun j hj=>by
          have hj':j < c.sold.length:=by simpa using hj
          rw [Qbf hj'];exact hno j hj']
        repeat' (first|(apply nx;with_reducible constructor)|refine jq (by decide) ?_|((first|refine kz env fun Q hQ=>?_|refine kj fun Q hQ=>?_);simp only [vkt,seval,jI,Qs,qa,qb,aTk,cTk,qh,eTk,gTk,rTk,qc,mTk,ckS,JA,yL,List.length_map];(try simp only [ite_and]);(repeat' (first|with_reducible assumption|refine And.intro ?_ ?_|intro hp));all_goals (first|(refine hQ _ ?_;clear hQ Q)|(refine hQ _ (fun h=>?_) (fun h=>?_) <;> clear hQ Q <;> (try simp only [vki,reduceCtorEq] at h))|(refine kx ?_;kernel_rfl)|omega|assumption|with_reducible rfl|skip)))
        (simp only [vrt,Try.results44,vkt,seval,jI,Qs,qa,qb,aTk,cTk,qh,eTk,gTk,rTk,qc,mTk,ckS,JA,yL,List.length_map];refine Fin.val rfl ?_;(try simp only [AV.le,AV.leL]))
        all_goals first|rfl|(simp;done)
  · have hE:zV c=ZR c:=by unfold zV;rw [if_pos h1]
    rw [hE]
    repeat' (first|(apply nx;with_reducible constructor)|refine jq (by decide) ?_|((first|refine kz env fun Q hQ=>?_|refine kj fun Q hQ=>?_);simp only [vkt,seval,jI,Qs,qa,qb,aTk,cTk,qh,eTk,gTk,rTk,qc,mTk,ckS,JA,yL,List.length_map,h1,ec];(try simp only [ite_and]);(repeat' (first|with_reducible assumption|refine And.intro ?_ ?_|intro hp));all_goals (first|(refine hQ _ ?_;clear hQ Q)|(refine hQ _ (fun h=>?_) (fun h=>?_) <;> clear hQ Q <;> (try simp only [vki,reduceCtorEq] at h))|(refine kx ?_;kernel_rfl)|omega|assumption|with_reducible rfl|skip)))
    (simp only [vrt,Try.results44,vkt,seval,jI,Qs,qa,qb,aTk,cTk,qh,eTk,gTk,rTk,qc,mTk,ckS,JA,yL,List.length_map];refine Fin.val rfl ?_;(try simp only [AV.le,AV.leL]))
    all_goals first|rfl|(simp;done)
def qK:List AV→Prop × AV
  |[.agg [.sl c0,.v (.int .i64 c1),.sl c2]]=>(c0=(c0.map qp).map qj∧c2=(c2.map dTk).map eTk∧c0.length≤maxLen,aI (zV (⟨(c0.map qp),c1,(c2.map dTk)⟩:Chart)))
  |_=>(False,.junk)
theorem Jw {A:Frm→Prop}:qB A Try.prog 44 (qU true qK):=za fun vs hv h=>by
  clear hv
  unfold qK at h ⊢
  split at h
  · rename_i c0 c1 c2;obtain ⟨q0,q1,k0⟩:=h
    refine ⟨by first|trivial|(simp [AV.plain,AV.plainL,aI,aB,qA,qd,qh,qf,aTk,cTk];done)|(repeat' split) <;> simp [AV.plain,AV.plainL,aI,aB,qA,qd,qh,qf,aTk,cTk],fun _=>(by simp [AV.flat,AV.flatL,aI,aB]), ?_⟩
    have:=Qgf (⟨(c0.map qp),c1,(c2.map dTk)⟩:Chart) (by simpa using k0)
    simp only [q9,qa,aI,qh,qb,← q0,← q1] at this
    first|exact this|(simp only [q9,qa,aI,qh,qb,← q0,← q1];exact this)
  · exact h.elim
end Go.Sym.B
namespace Go.Sym.B
open Go Go.Sym Go.Proofs Go.Sym.C
def buO (cs:List Cabin) (s:Int):AObj:=.cells [.sl (cs.map qj),.v (.int .i64 s),.any]
def buY (cs:List Cabin) (j:Nat):List AV:=[qf ((qQ cs).getD j default)]
def bu1 (cs:List Cabin) (s:Int) (i j:Nat):St:={ t:=asg [(0,.cb),(1,.ptr 0 0),(7,.sl (cs.map qj)),(8,aI cs.length),(9,aI i)],h:=qg [(0,.cells [.sl (cs.map qj),.v (.int .i64 s),.any])],n:=1,j:=j,m:=1 }
def bu2 (cs:List Cabin) (s:Int) (i:Nat) (b:Int) (k j:Nat):St:={ t:=asg [(0,.cb),(1,.ptr 0 0),(3,aI i),(7,.sl (cs.map qj)),(8,aI cs.length),(9,aI i),(15,aI b),(16,aI k)],h:=qg [(0,.cells [.sl (cs.map qj),.v (.int .i64 s),.any])],n:=1,j:=j,m:=1 }
structure CabsOk (cs:List Cabin):Prop where
  len:cs.length≤1000
  beds:∀ x ∈ cs,x.beds≤1000
def zR:=kk @ty3 (kk @WT (kk @jO (kk @xA (kk @WP (kk @ti3.eq_1 (kk @Zv.eq_1 (kk @jE.eq_1 (kk @vR.eq_1 @Zq.eq_1))))))))
def ve:=kk @aI.eq_1 (@aB.eq_1)
set_option maxHeartbeats 1000000 in
theorem VV (cs:List Cabin) (s:Int) (hc:CabsOk cs):Iter Try.prog 123 [.cb,.ptr 0 0] (nth [buO cs s]) (buY cs) (qQ cs).length (fun _=>nth [buO cs s]) fun _ _=>.tup []:=by
  intro ans R hr
  have e0:(nth [buO cs s])=qg (qO 0 [buO cs s]):=by
    funext i
    match i with
    |0=>rfl
    |i+1=>simp [nth,qO,qg]
  obtain ⟨A0,hA0⟩:∃ A0:Frm→Prop,A0=Acb Try.prog (qg (qO 0 [buO cs s])) (qg (qO 0 [buO cs s])) (buY cs) (fun _=>nth [buO cs s]) ans R:=⟨_,rfl⟩
  have hA:∀ F,A0 F→Acb Try.prog (qg (qO 0 [buO cs s])) (qg (qO 0 [buO cs s])) (buY cs) (fun _=>nth [buO cs s]) ans R F:=fun F h=>hA0 ▸ h
  have env:Env A0 Try.prog tyB (Go.Sym.tabC (cbX [0] (buY cs) (fun _=>[buO cs s]) ans R) []):=⟨V5,RD (fun S bs h hS ops o g args tys caps hw ho hg hb=>YO hA (fun i o hi=>by
    rw [jB] at hi
    cases i with
    |zero=>rfl
    |succ i=>simp at hi) (by simp) h hS hw ho hg hb) trivial,by kernel_rfl⟩
  rw [KP] at hr
  have hcl:=hc.len
  rw [e0]
  refine Fn.of (A:=A0) (n0:=1) (D:=noD) (Fn0 Try.func123 rfl (fun vs w=>by kernel_rfl) (by kernel_rfl)) (by simp) (by simp [AV.ids]) ?_ (fun F hb h0 _=>hA0 ▸ ⟨h0,fun i o hi=>⟨o,hi⟩,by rw [← e0] at hb ⊢;exact hb⟩) qF ?_
  · intro i o hi
    have h:=qV hi
    simp [qO,buO] at h;obtain ⟨rfl,rfl⟩:=h;simp [AObj.ids,AV.ids,AV.idsL]
  show Sym _ _ _ (zZ [.cb,.ptr 0 0] 1 (qg [(0,.cells [.sl (cs.map qj),.v (.int .i64 s),.any])])) (xN tyB noD Try.f123 fun S rv=>Fin S rv (.tup []) 1 (qg [(0,.cells [.sl (cs.map qj),.v (.int .i64 s),.any])]) R)
  have eo:buO cs s=.cells [.sl (cs.map qj),.v (.int .i64 s),.any]:=rfl
  repeat' (first|(apply nx;with_reducible constructor)|refine jq (by decide) ?_|((first|refine kz env fun Q hQ=>?_|refine kj fun Q hQ=>?_);simp only [vkt,seval,zR,ve,qf,qj,qz,bu1,bu2,Go.Sym.tabC,cbX,ww,qW,nth,hwL];(try simp only [ite_and]);(repeat' (first|with_reducible assumption|refine And.intro ?_ ?_|intro hp));all_goals (first|(refine hQ _ ?_;clear hQ Q)|(refine hQ _ (fun h=>?_) (fun h=>?_) <;> clear hQ Q <;> (try simp only [vki,reduceCtorEq] at h))|(refine kx ?_;kernel_rfl)|omega|assumption|with_reducible rfl|skip)))
  refine qX (fun x:{ x:Nat × Nat // x.1≤cs.length∧x.2=((Zl cs).take x.1).sum∧∀ q,q < x.2→ans q=true }=>bu1 cs s x.1.1 x.1.2) (fun x=>cs.length - x.1.1) ⟨(0,0),Nat.zero_le _,by simp,fun q h=>absurd h (Nat.not_lt_zero _)⟩ ?_ fun ⟨(i,o),hi,ho,hy⟩=>?_
  · (refine Le.ok some [] ?_;constructor;all_goals (try simp only [vle,vkt,seval,zR,ve,qf,qj,qz,bu1,bu2,Go.Sym.tabC,cbX,ww,qW,nth,hwL]))
    all_goals first|rfl|(simp;done)
  simp only at hi ho hy ⊢
  repeat' (first|(apply nx;with_reducible constructor)|refine jq (by decide) ?_)
  (refine kz env fun Q hQ=>?_;simp only [vkt,seval,zR,ve,qf,qj,qz,bu1,bu2,Go.Sym.tabC,cbX,ww,qW,nth,hwL];(try simp only [ite_and]);(repeat' (first|with_reducible assumption|refine And.intro ?_ ?_|intro hp));all_goals (first|(refine hQ _ ?_;clear hQ Q)|(refine kx ?_;kernel_rfl)|omega|assumption|with_reducible rfl|skip))
  repeat' (first|(apply nx;with_reducible constructor)|refine jq (by decide) ?_)
  (refine yH (by simp only [vkt,seval,zR,ve,qf,qj,qz,bu1,bu2,Go.Sym.tabC,cbX,ww,qW,nth,hwL];rfl) (fun h=>?_) (fun h=>?_) <;> (try simp only [vki,reduceCtorEq] at h))
  · have hlt:i < cs.length:=by omega
    have hts:=Yf (g:=Zl cs) (i:=i) (by simp [Zl];omega)
    rw [QhL hlt] at hts
    have hsm:((Zl cs).take (i+1)).sum≤(Zl cs).sum:=by
      have:=Qc (g:=Zl cs) (show i+1≤(Zl cs).length by simp [Zl];omega)
      rwa [List.take_length] at this
    have hbx:=hc.beds _ (vK (d:=default) hlt)
    have hget:=fun k=>QcL (cs:=cs) (i:=i) (k:=k) hlt
    obtain ⟨x,hx⟩:∃ x,cs.getD i default=x:=⟨_,rfl⟩
    rw [hx] at hts hbx
    simp only [hx] at hget
    have e9:IntKind.wrap .i64 ((i:Int)+1)=((i+1:Nat):Int):=by rw [wrap64 (by omega) (by omega)];rfl
    repeat' (first|(apply nx;with_reducible constructor)|refine jq (by decide) ?_|((first|refine kz env fun Q hQ=>?_|refine kj fun Q hQ=>?_);simp only [vkt,seval,zR,ve,qf,qj,qz,bu1,bu2,Go.Sym.tabC,cbX,ww,qW,nth,hwL,hx];(try simp only [ite_and]);(repeat' (first|with_reducible assumption|refine And.intro ?_ ?_|intro hp));all_goals (first|(refine hQ _ ?_;clear hQ Q)|(refine hQ _ (fun h=>?_) (fun h=>?_) <;> clear hQ Q <;> (try simp only [vki,reduceCtorEq] at h))|(refine kx ?_;kernel_rfl)|omega|assumption|with_reducible rfl|skip)))
    refine qX (fun y:{ y:Nat × Nat // y.1≤x.beds.toNat∧y.2=o+y.1∧∀ q,q < y.2→ans q=true }=>bu2 cs s i x.beds y.1.1 y.1.2) (fun y=>x.beds.toNat - y.1.1) ⟨(0,o),Nat.zero_le _,rfl,hy⟩ ?_ fun ⟨(k,q),hk,hq,hz⟩=>?_
    · (refine Le.ok some [] ?_;constructor;all_goals (try simp only [vle,vkt,seval,zR,ve,qf,qj,qz,bu1,bu2,Go.Sym.tabC,cbX,ww,qW,nth,hwL]))
      all_goals first|rfl|(simp;done)
    simp only at hk hq hz ⊢
    repeat' (first|(apply nx;with_reducible constructor)|refine jq (by decide) ?_)
    (refine kz env fun Q hQ=>?_;simp only [vkt,seval,zR,ve,qf,qj,qz,bu1,bu2,Go.Sym.tabC,cbX,ww,qW,nth,hwL];(try simp only [ite_and]);(repeat' (first|with_reducible assumption|refine And.intro ?_ ?_|intro hp));all_goals (first|(refine hQ _ ?_;clear hQ Q)|(refine kx ?_;kernel_rfl)|omega|assumption|with_reducible rfl|skip))
    repeat' (first|(apply nx;with_reducible constructor)|refine jq (by decide) ?_)
    (refine yH (by simp only [vkt,seval,zR,ve,qf,qj,qz,bu1,bu2,Go.Sym.tabC,cbX,ww,qW,nth,hwL];rfl) (fun h=>?_) (fun h=>?_) <;> (try simp only [vki,reduceCtorEq] at h))
    · have hkl:k < x.beds.toNat:=by omega
      have e8:IntKind.wrap .i64 ((k:Int)+1)=((k+1:Nat):Int):=by rw [wrap64 (by omega) (by omega)];rfl
      have hqR:q < R:=hr.lt (by omega) hz
      have hbq:buY cs q=[.agg [.v (.int .i64 (i:Int)),.v (.int .i64 (k:Int))]]:=by
        unfold buY
        rw [hq,ho,hget k hkl]
        rfl
      cases hb:ans q with
      |false =>
        have eR:R=q+1:=by have:=hr.last hqR hb;omega
        subst eR
        repeat' (first|(apply nx;with_reducible constructor)|refine jq (by decide) ?_|((first|refine kz env fun Q hQ=>?_|refine kj fun Q hQ=>?_);simp only [vkt,seval,zR,ve,qf,qj,qz,bu1,bu2,Go.Sym.tabC,cbX,ww,qW,nth,hwL,hqR,hbq,eo,hb];(try simp only [ite_and]);(repeat' (first|with_reducible assumption|refine And.intro ?_ ?_|intro hp));all_goals (first|(refine hQ _ ?_;clear hQ Q)|(refine hQ _ (fun h=>?_) (fun h=>?_) <;> clear hQ Q <;> (try simp only [vki,reduceCtorEq] at h))|(refine kx ?_;kernel_rfl)|omega|assumption|with_reducible rfl|skip)))
        (simp only [vrt,Try.results123,vkt,seval,zR,ve,qf,qj,qz,bu1,bu2,Go.Sym.tabC,cbX,ww,qW,nth,hwL];refine Fin.ok some [] ?_ ?_ ?_ ?_ ?_ rfl;all_goals (try simp only [vle,vkt,seval,zR,ve,qf,qj,qz,bu1,bu2,Go.Sym.tabC,cbX,ww,qW,nth,hwL]))
        all_goals first|rfl|(simp;done)
      |true =>
        have hz':∀ p,p < q+1→ans p=true:=fun p hp=>by
          rcases Nat.lt_or_eq_of_le (Nat.le_of_lt_succ hp) with h1|h1
          · exact hz p h1
          · rw [h1];exact hb
        repeat' (first|(apply nx;with_reducible constructor)|refine jq (by decide) ?_|((first|refine kz env fun Q hQ=>?_|refine kj fun Q hQ=>?_);simp only [vkt,seval,zR,ve,qf,qj,qz,bu1,bu2,Go.Sym.tabC,cbX,ww,qW,nth,hwL,hqR,hbq,eo,hb,e8];(try simp only [ite_and]);(repeat' (first|with_reducible assumption|refine And.intro ?_ ?_|intro hp));all_goals (first|(refine hQ _ ?_;clear hQ Q)|(refine hQ _ (fun h=>?_) (fun h=>?_) <;> clear hQ Q <;> (try simp only [vki,reduceCtorEq] at h))|(refine kx ?_;kernel_rfl)|omega|assumption|with_reducible rfl|skip)))
        refine ⟨⟨(k+1,q+1),hkl,by omega,hz'⟩,by show x.beds.toNat - (k+1) < x.beds.toNat - k;omega, ?_⟩
        (refine Le.ok some [] ?_;constructor;all_goals (try simp only [vle,vkt,seval,zR,ve,qf,qj,qz,bu1,bu2,Go.Sym.tabC,cbX,ww,qW,nth,hwL]))
        all_goals first|rfl|(simp;done)
    · have hkn:q=((Zl cs).take (i+1)).sum:=by omega
      repeat' (first|(apply nx;with_reducible constructor)|refine jq (by decide) ?_|((first|refine kz env fun Q hQ=>?_|refine kj fun Q hQ=>?_);simp only [vkt,seval,zR,ve,qf,qj,qz,bu1,bu2,Go.Sym.tabC,cbX,ww,qW,nth,hwL,e9];(try simp only [ite_and]);(repeat' (first|with_reducible assumption|refine And.intro ?_ ?_|intro hp));all_goals (first|(refine hQ _ ?_;clear hQ Q)|(refine hQ _ (fun h=>?_) (fun h=>?_) <;> clear hQ Q <;> (try simp only [vki,reduceCtorEq] at h))|(refine kx ?_;kernel_rfl)|omega|assumption|with_reducible rfl|skip)))
      refine ⟨⟨(i+1,q),hlt,hkn,hz⟩,by show cs.length - (i+1) < cs.length - i;omega, ?_⟩
      (refine Le.ok some [] ?_;constructor;all_goals (try simp only [vle,vkt,seval,zR,ve,qf,qj,qz,bu1,bu2,Go.Sym.tabC,cbX,ww,qW,nth,hwL]))
      all_goals first|rfl|(simp;done)
  · have hie:i=cs.length:=by omega
    subst hie
    have hoN:o=(Zl cs).sum:=by rw [ho,List.take_of_length_le (by simp [Zl])]
    have eR:R=o:=by rw [hoN];exact hr.all (Nat.le_of_eq hoN.symm) hy
    subst eR
    repeat' (first|(apply nx;with_reducible constructor)|refine jq (by decide) ?_|((first|refine kz env fun Q hQ=>?_|refine kj fun Q hQ=>?_);simp only [vkt,seval,zR,ve,qf,qj,qz,bu1,bu2,Go.Sym.tabC,cbX,ww,qW,nth,hwL];(try simp only [ite_and]);(repeat' (first|with_reducible assumption|refine And.intro ?_ ?_|intro hp));all_goals (first|(refine hQ _ ?_;clear hQ Q)|(refine hQ _ (fun h=>?_) (fun h=>?_) <;> clear hQ Q <;> (try simp only [vki,reduceCtorEq] at h))|(refine kx ?_;kernel_rfl)|omega|assumption|with_reducible rfl|skip)))
    (simp only [vrt,Try.results123,vkt,seval,zR,ve,qf,qj,qz,bu1,bu2,Go.Sym.tabC,cbX,ww,qW,nth,hwL];refine Fin.ok some [] ?_ ?_ ?_ ?_ ?_ rfl;all_goals (try simp only [vle,vkt,seval,zR,ve,qf,qj,qz,bu1,bu2,Go.Sym.tabC,cbX,ww,qW,nth,hwL]))
    all_goals first|rfl|(simp;done)
def Qas:=kk @aI.eq_1 (@aB.eq_1)
theorem QeB (cs:List Cabin) (s:Int):Fn noB Try.prog 94 [.agg [.sl (cs.map qj),.v (.int .i64 s),.any]] (qg []) (.clo 123 [.ptr 0 0]) (qg [(0,.cells [.sl (cs.map qj),.v (.int .i64 s),.any])]) 0:=by
  have env:Env (fun _=>True) Try.prog tyB (tab []):=qP trivial
  refine Fn.of (A:=fun _=>True) (n0:=0) (D:=noD) (Fn0 Try.func94 rfl (fun vs w=>by kernel_rfl) (by kernel_rfl)) (by simp) (by simp [AV.ids,AV.idsL]) (fun i o h=>by cases h) (fun _ _ _ _=>trivial) qF ?_
  repeat' (first|(apply nx;with_reducible constructor)|refine jq (by decide) ?_|((first|refine kz env fun Q hQ=>?_|refine kj fun Q hQ=>?_);simp only [vkt,seval,Qas];(try simp only [ite_and]);(repeat' (first|with_reducible assumption|refine And.intro ?_ ?_|intro hp));all_goals (first|(refine hQ _ ?_;clear hQ Q)|(refine hQ _ (fun h=>?_) (fun h=>?_) <;> clear hQ Q <;> (try simp only [vki,reduceCtorEq] at h))|(refine kx ?_;kernel_rfl)|omega|assumption|with_reducible rfl|skip)))
  (simp only [vrt,Try.results94,vkt,seval,Qas];refine Fin.ok some [] ?_ ?_ ?_ ?_ ?_ rfl;all_goals (try simp only [vle,vkt,seval,Qas]))
  all_goals first|rfl|(simp;done)
def qR (_:St):List AV→Option Pk
  |[.agg [.sl cs,.v (.int .i64 s),_]]=>some { pre:=cs=(cs.map qp).map qj,ar:=[.agg [.sl cs,.v (.int .i64 s),.any]],v:=.clo 123 [.ptr 0 0],L1:=[some (.cells [.sl cs,.v (.int .i64 s),.any])] }
  |_=>none
theorem RU {A:Frm→Prop}:qB A Try.prog 94 (fnE qR):=wE fun S bs q h hp=>by
  unfold qR at h
  split at h
  · rename_i cs s _
    cases h
    have:=QeB (cs.map qp) s
    rw [← (show cs=(cs.map qp).map qj from hp)] at this
    exact this
  · cases h
end Go.Sym.B
namespace Go.Sym.B
open Go Go.Sym Go.Proofs Go.Sym.C
theorem b47 {n:Nat} (h:n≤100000):n * 8≤140737488355328∧n * 24≤140737488355328∧n * 16≤140737488355328∧n * 56≤140737488355328∧n≤maxLen:=by
  have:(100000:Nat)≤maxLen:=by decide
  omega
def yI:=kk @xC (kk @yw (kk @vP.eq_1 @j3.eq_1))
theorem KA (xs:List (List DV)) (h1:zT 7 xs) (h2:xs.length≤100000):Fn noB Try.prog 122 [.sl xs] noH (.row 0) (qg [(0,.row 81 7 xs)]) 0:=by
  have env:Env (fun _=>True) Try.prog tyB (tab []):=qP trivial
  obtain ⟨b1,b2,b3,b5,b4⟩:=b47 h2
  refine Fn.of (A:=fun _=>True) (n0:=0) (D:=noD) (Fn0 Try.func122 rfl (fun vs w=>by kernel_rfl) (by kernel_rfl)) (by simp) (by simp [AV.ids]) (fun i o h=>by cases h) (fun _ _ _ _=>trivial) qF ?_
  repeat' (first|(apply nx;with_reducible constructor)|refine jq (by decide) ?_)
  (refine kz env fun Q hQ=>?_;simp only [vkt,seval,yI,@true_and];(try simp only [ite_and]);(repeat' (first|with_reducible assumption|refine And.intro ?_ ?_|intro hp));all_goals (first|(refine hQ _ ?_;clear hQ Q)|(refine kx ?_;kernel_rfl)|omega|assumption|with_reducible rfl|skip))
  repeat' (first|(apply nx;with_reducible constructor)|refine jq (by decide) ?_)
  refine Ze (d1:=3) (d2:=4) (t:=26) (e:=81) (x:=.tmp 0) (xs:=xs) rfl rfl rfl rfl rfl rfl Try.underlying26 rfl fun b hb=>?_
  repeat' (first|(apply nx;with_reducible constructor)|refine jq (by decide) ?_)
  (refine yH (by simp only [vkt,seval,yI,@true_and];rfl) (fun h=>?_) (fun h=>?_) <;> (try simp only [vki,reduceCtorEq] at h))
  · have hx:=hb h
    subst hx
    repeat' (first|(apply nx;with_reducible constructor)|refine jq (by decide) ?_|((first|refine kz env fun Q hQ=>?_|refine kj fun Q hQ=>?_);simp only [vkt,seval,yI,@true_and];(try simp only [ite_and]);(repeat' (first|with_reducible assumption|refine And.intro ?_ ?_|intro hp));all_goals (first|(refine hQ _ ?_;clear hQ Q)|(refine hQ _ (fun h=>?_) (fun h=>?_) <;> clear hQ Q <;> (try simp only [vki,reduceCtorEq] at h))|(refine kx ?_;kernel_rfl)|omega|assumption|with_reducible rfl|skip)))
    (simp only [vrt,Try.results122,vkt,seval,yI,@true_and];refine Fin.ok (fun _=>none) [] ?_ ?_ ?_ ?_ ?_ rfl;all_goals (try simp only [vle,vkt,seval,yI,@true_and]))
    all_goals simp
  · repeat' (first|(apply nx;with_reducible constructor)|refine jq (by decide) ?_|((first|refine kz env fun Q hQ=>?_|refine kj fun Q hQ=>?_);simp only [vkt,seval,yI,@true_and];(try simp only [ite_and]);(repeat' (first|with_reducible assumption|refine And.intro ?_ ?_|intro hp));all_goals (first|(refine hQ _ ?_;clear hQ Q)|(refine hQ _ (fun h=>?_) (fun h=>?_) <;> clear hQ Q <;> (try simp only [vki,reduceCtorEq] at h))|(refine kx ?_;kernel_rfl)|omega|assumption|with_reducible rfl|skip)))
    (simp only [vrt,Try.results122,vkt,seval,yI,@true_and];refine Fin.ok some [] ?_ ?_ ?_ ?_ ?_ rfl;all_goals (try simp only [vle,vkt,seval,yI,@true_and]))
    all_goals simp
def yJ:=kk @J8 (kk @xA (kk @WF.eq_1 @vR.eq_1))
theorem Qeb (xs:List (List DV)) (h1:zT 2 xs) (h2:xs.length≤100000):Fn noB Try.prog 132 [.sl xs] noH (.row 0) (qg [(0,.row 49 2 xs)]) 0:=by
  have env:Env (fun _=>True) Try.prog tyB (tab []):=qP trivial
  obtain ⟨b1,b2,b3,b5,b4⟩:=b47 h2
  refine Fn.of (A:=fun _=>True) (n0:=0) (D:=noD) (Fn0 Try.func132 rfl (fun vs w=>by kernel_rfl) (by kernel_rfl)) (by simp) (by simp [AV.ids]) (fun i o h=>by cases h) (fun _ _ _ _=>trivial) qF ?_
  repeat' (first|(apply nx;with_reducible constructor)|refine jq (by decide) ?_)
  (refine kz env fun Q hQ=>?_;simp only [vkt,seval,yJ,@true_and];(try simp only [ite_and]);(repeat' (first|with_reducible assumption|refine And.intro ?_ ?_|intro hp));all_goals (first|(refine hQ _ ?_;clear hQ Q)|(refine kx ?_;kernel_rfl)|omega|assumption|with_reducible rfl|skip))
  repeat' (first|(apply nx;with_reducible constructor)|refine jq (by decide) ?_)
  refine Ze (d1:=3) (d2:=4) (t:=37) (e:=49) (x:=.tmp 0) (xs:=xs) rfl rfl rfl rfl rfl rfl Try.underlying37 rfl fun b hb=>?_
  repeat' (first|(apply nx;with_reducible constructor)|refine jq (by decide) ?_)
  (refine yH (by simp only [vkt,seval,yJ,@true_and];rfl) (fun h=>?_) (fun h=>?_) <;> (try simp only [vki,reduceCtorEq] at h))
  · have hx:=hb h
    subst hx
    repeat' (first|(apply nx;with_reducible constructor)|refine jq (by decide) ?_|((first|refine kz env fun Q hQ=>?_|refine kj fun Q hQ=>?_);simp only [vkt,seval,yJ,@true_and];(try simp only [ite_and]);(repeat' (first|with_reducible assumption|refine And.intro ?_ ?_|intro hp));all_goals (first|(refine hQ _ ?_;clear hQ Q)|(refine hQ _ (fun h=>?_) (fun h=>?_) <;> clear hQ Q <;> (try simp only [vki,reduceCtorEq] at h))|(refine kx ?_;kernel_rfl)|omega|assumption|with_reducible rfl|skip)))
    (simp only [vrt,Try.results132,vkt,seval,yJ,@true_and];refine Fin.ok (fun _=>none) [] ?_ ?_ ?_ ?_ ?_ rfl;all_goals (try simp only [vle,vkt,seval,yJ,@true_and]))
    all_goals simp
  · repeat' (first|(apply nx;with_reducible constructor)|refine jq (by decide) ?_|((first|refine kz env fun Q hQ=>?_|refine kj fun Q hQ=>?_);simp only [vkt,seval,yJ,@true_and];(try simp only [ite_and]);(repeat' (first|with_reducible assumption|refine And.intro ?_ ?_|intro hp));all_goals (first|(refine hQ _ ?_;clear hQ Q)|(refine hQ _ (fun h=>?_) (fun h=>?_) <;> clear hQ Q <;> (try simp only [vki,reduceCtorEq] at h))|(refine kx ?_;kernel_rfl)|omega|assumption|with_reducible rfl|skip)))
    (simp only [vrt,Try.results132,vkt,seval,yJ,@true_and];refine Fin.ok some [] ?_ ?_ ?_ ?_ ?_ rfl;all_goals (try simp only [vle,vkt,seval,yJ,@true_and]))
    all_goals simp
def kV (S:St):List AV→Option Pk
  |[.sl xs]=>some { pre:=zT 7 xs∧xs.length≤100000,ar:=[.sl xs],v:=.row 0,L1:=[some (.row 81 7 xs)] }
  |[.row r]=>match S.h r with
    |some (.row _ _ xs)=>some { pre:=zT 7 xs∧xs.length≤100000,bo:=[r],fl:=true,ar:=[.sl xs],v:=.row 0,L1:=[some (.row 81 7 xs)] }
    |_=>none
  |_=>none
theorem Qcy {A:Frm→Prop}:qB A Try.prog 122 (fnE kV):=wE fun S bs q h hp=>by
  unfold kV at h
  split at h
  · cases h;exact KA _ hp.1 hp.2
  · split at h
    · cases h;exact KA _ hp.1 hp.2
    · cases h
  · cases h
def wQ (_:St):List AV→Option Pk
  |[.sl xs]=>some { pre:=zT 2 xs∧xs.length≤100000,ar:=[.sl xs],v:=.row 0,L1:=[some (.row 49 2 xs)] }
  |_=>none
theorem QhB {A:Frm→Prop}:qB A Try.prog 132 (fnE wQ):=wE fun S bs q h hp=>by
  unfold wQ at h
  split at h
  · cases h;exact Qeb _ hp.1 hp.2
  · cases h
def ibS (b:Bunk) (l:List Bunk) (k:Nat):St:={ t:=asg [(0,qd l),(3,.ptr 0 0),(4,aI 0),(6,qd l),(7,aI l.length),(8,aI k)],h:=qg [(0,.cells [.v (.int .i64 b.cab),.v (.int .i64 b.bed)])],n:=1 }
def Lm (b:Bunk) (l:List Bunk):Int:=match l.findIdx? (· == b) with
  |some i=>(i:Int)
  |none=>-1
theorem Qek {b:Bunk} {l:List Bunk} {k:Nat} (hk:k < l.length) (h:∀ j,j < k→l.getD j default ≠ b) (hp:l.getD k default=b):Lm b l=(k:Int):=by
  have:l.findIdx? (· == b)=some k:=by
    rw [List.findIdx?_eq_some_iff_getElem]
    refine ⟨hk,by simpa [List.getD_eq_getElem?_getD,hk] using hp,fun j hj=>?_⟩
    have:=h j hj
    simpa [List.getD_eq_getElem?_getD,show j < l.length by omega] using this
  simp [Lm,this]
theorem Qdm {b:Bunk} {l:List Bunk} (h:∀ j,j < l.length→l.getD j default ≠ b):Lm b l=-1:=by
  have:l.findIdx? (· == b)=none:=by
    rw [List.findIdx?_eq_none_iff]
    intro x hx
    obtain ⟨j,hj,rfl⟩:=List.mem_iff_getElem.1 hx
    have:=h j hj
    simpa [List.getD_eq_getElem?_getD,hj] using this
  simp [Lm,this]
theorem QfS (b:Bunk) (l:List Bunk):decide (0≤Lm b l)=l.contains b:=by
  unfold Lm
  cases h:l.findIdx? (· == b) with
  |none =>
    rw [List.findIdx?_eq_none_iff] at h
    symm
    simp only [show ¬ (0:Int)≤-1 by decide,decide_false]
    rw [Bool.eq_false_iff]
    intro hc
    have:=h b (by simpa using hc)
    simp at this
  |some i =>
    rw [List.findIdx?_eq_some_iff_getElem] at h
    obtain ⟨hi,hp,_⟩:=h
    symm
    simp only [Int.natCast_nonneg,decide_true]
    have:l[i]=b:=by simpa using hp
    rw [← this];simp
def w9:=kk @ty3 (kk @J8 (kk @xA (kk @ti3.eq_1 (kk @WF.eq_1 @vR.eq_1))))
def Qn:=kk @aI.eq_1 (@aB.eq_1)
theorem Qdr (b:Bunk) (l:List Bunk) (hl:l.length≤100):FnV Try.prog 146 [qd l,qf b] (aI (Lm b l)):=by
  have env:Env (fun _=>True) Try.prog tyB (tab []):=qP trivial
  refine Fn.of (A:=fun _=>True) (n0:=0) (D:=noD) (Fn0 Try.func146 rfl (fun vs w=>by kernel_rfl) (by kernel_rfl)) (by simp) (by simp [AV.ids,AV.idsL,qd,qf]) (fun i o h=>by cases h) (fun _ _ _ _=>trivial) qF ?_
  repeat' (first|(apply nx;with_reducible constructor)|refine jq (by decide) ?_|((first|refine kz env fun Q hQ=>?_|refine kj fun Q hQ=>?_);simp only [vkt,seval,w9,Qn,qf,qd,qx,qE,ibS,Bool.true_and,Bool.false_and];(try simp only [ite_and]);(repeat' (first|with_reducible assumption|refine And.intro ?_ ?_|intro hp));all_goals (first|(refine hQ _ ?_;clear hQ Q)|(refine hQ _ (fun h=>?_) (fun h=>?_) <;> clear hQ Q <;> (try simp only [vki,reduceCtorEq] at h))|(refine kx ?_;kernel_rfl)|omega|assumption|with_reducible rfl|skip)))
  refine qX (fun k:{ k:Nat // k≤l.length∧∀ j,j < k→l.getD j default ≠ b }=>ibS b l k.1) (fun k=>l.length - k.1) ⟨0,Nat.zero_le _,fun j h=>absurd h (Nat.not_lt_zero _)⟩ ?_ fun ⟨k,hk,hno⟩=>?_
  · (refine Le.ok some [] ?_;constructor;all_goals (try simp only [vle,vkt,seval,w9,Qn,qf,qd,qx,qE,ibS,Bool.true_and,Bool.false_and]))
    all_goals first|rfl|(simp;done)
  · repeat' (first|(apply nx;with_reducible constructor)|refine jq (by decide) ?_)
    (refine kz env fun Q hQ=>?_;simp only [vkt,seval,w9,Qn,qf,qd,qx,qE,ibS,Bool.true_and,Bool.false_and];(try simp only [ite_and]);(repeat' (first|with_reducible assumption|refine And.intro ?_ ?_|intro hp));all_goals (first|(refine hQ _ ?_;clear hQ Q)|(refine kx ?_;kernel_rfl)|omega|assumption|with_reducible rfl|skip))
    repeat' (first|(apply nx;with_reducible constructor)|refine jq (by decide) ?_)
    (refine yH (by simp only [vkt,seval,w9,Qn,qf,qd,qx,qE,ibS,Bool.true_and,Bool.false_and];rfl) (fun h=>?_) (fun h=>?_) <;> (try simp only [vki,reduceCtorEq] at h))
    · have hlt:k < l.length:=by omega
      have e9:IntKind.wrap .i64 ((k:Int)+1)=((k+1:Nat):Int):=by rw [wrap64 (by omega) (by omega)];rfl
      obtain ⟨x,hx⟩:∃ x,l.getD k default=x:=⟨_,rfl⟩
      have hxb:(x=b)=(b.cab=x.cab∧b.bed=x.bed):=by
        cases x;cases b;simp;exact ⟨fun ⟨a,b⟩=>⟨a.symm,b.symm⟩,fun ⟨a,b⟩=>⟨a.symm,b.symm⟩⟩
      have hnx:¬ x=b→∀ j,j < k+1→l.getD j default ≠ b:=fun hp j hj=>by
        rcases Nat.lt_or_eq_of_le (Nat.le_of_lt_succ hj) with h1|h1
        · exact hno j h1
        · rw [h1,hx];exact hp
      cases q1:decide (b.cab=x.cab)
      · have hp:¬ x=b:=by rw [hxb];exact fun h=>of_decide_eq_false q1 h.1
        repeat' (first|(apply nx;with_reducible constructor)|refine jq (by decide) ?_|((first|refine kz env fun Q hQ=>?_|refine kj fun Q hQ=>?_);simp only [vkt,seval,w9,Qn,qf,qd,qx,qE,ibS,Bool.true_and,Bool.false_and,hx,q1,e9];(try simp only [ite_and]);(repeat' (first|with_reducible assumption|refine And.intro ?_ ?_|intro hp));all_goals (first|(refine hQ _ ?_;clear hQ Q)|(refine hQ _ (fun h=>?_) (fun h=>?_) <;> clear hQ Q <;> (try simp only [vki,reduceCtorEq] at h))|(refine kx ?_;kernel_rfl)|omega|assumption|with_reducible rfl|skip)))
        refine ⟨⟨k+1,hlt,hnx hp⟩,by show l.length - (k+1) < l.length - k;omega, ?_⟩
        (refine Le.ok some [] ?_;constructor;all_goals (try simp only [vle,vkt,seval,w9,Qn,qf,qd,qx,qE,ibS,Bool.true_and,Bool.false_and]))
        all_goals first|rfl|(simp;done)
      · cases q2:decide (b.bed=x.bed)
        · have hp:¬ x=b:=by rw [hxb];exact fun h=>of_decide_eq_false q2 h.2
          repeat' (first|(apply nx;with_reducible constructor)|refine jq (by decide) ?_|((first|refine kz env fun Q hQ=>?_|refine kj fun Q hQ=>?_);simp only [vkt,seval,w9,Qn,qf,qd,qx,qE,ibS,Bool.true_and,Bool.false_and,hx,q1,q2,e9];(try simp only [ite_and]);(repeat' (first|with_reducible assumption|refine And.intro ?_ ?_|intro hp));all_goals (first|(refine hQ _ ?_;clear hQ Q)|(refine hQ _ (fun h=>?_) (fun h=>?_) <;> clear hQ Q <;> (try simp only [vki,reduceCtorEq] at h))|(refine kx ?_;kernel_rfl)|omega|assumption|with_reducible rfl|skip)))
          refine ⟨⟨k+1,hlt,hnx hp⟩,by show l.length - (k+1) < l.length - k;omega, ?_⟩
          (refine Le.ok some [] ?_;constructor;all_goals (try simp only [vle,vkt,seval,w9,Qn,qf,qd,qx,qE,ibS,Bool.true_and,Bool.false_and]))
          all_goals first|rfl|(simp;done)
        · have hh:=Qek hlt hno (by rw [hx,hxb];exact ⟨of_decide_eq_true q1,of_decide_eq_true q2⟩)
          rw [hh]
          repeat' (first|(apply nx;with_reducible constructor)|refine jq (by decide) ?_|((first|refine kz env fun Q hQ=>?_|refine kj fun Q hQ=>?_);simp only [vkt,seval,w9,Qn,qf,qd,qx,qE,ibS,Bool.true_and,Bool.false_and,hx,q1,q2,e9];(try simp only [ite_and]);(repeat' (first|with_reducible assumption|refine And.intro ?_ ?_|intro hp));all_goals (first|(refine hQ _ ?_;clear hQ Q)|(refine hQ _ (fun h=>?_) (fun h=>?_) <;> clear hQ Q <;> (try simp only [vki,reduceCtorEq] at h))|(refine kx ?_;kernel_rfl)|omega|assumption|with_reducible rfl|skip)))
          (simp only [vrt,Try.results146,vkt,seval,w9,Qn,qf,qd,qx,qE,ibS,Bool.true_and,Bool.false_and];refine Fin.val rfl ?_;(try simp only [AV.le,AV.leL]))
          all_goals first|rfl|(simp;done)
    · have hke:k=l.length:=by omega
      subst hke
      rw [Qdm hno]
      repeat' (first|(apply nx;with_reducible constructor)|refine jq (by decide) ?_|((first|refine kz env fun Q hQ=>?_|refine kj fun Q hQ=>?_);simp only [vkt,seval,w9,Qn,qf,qd,qx,qE,ibS,Bool.true_and,Bool.false_and];(try simp only [ite_and]);(repeat' (first|with_reducible assumption|refine And.intro ?_ ?_|intro hp));all_goals (first|(refine hQ _ ?_;clear hQ Q)|(refine hQ _ (fun h=>?_) (fun h=>?_) <;> clear hQ Q <;> (try simp only [vki,reduceCtorEq] at h))|(refine kx ?_;kernel_rfl)|omega|assumption|with_reducible rfl|skip)))
      (simp only [vrt,Try.results146,vkt,seval,w9,Qn,qf,qd,qx,qE,ibS,Bool.true_and,Bool.false_and];refine Fin.val rfl ?_;(try simp only [AV.le,AV.leL]))
      all_goals first|rfl|(simp;done)
def Yn:List AV→Prop × AV
  |[.sl l,.agg [.v (.int .i64 b0),.v (.int .i64 b1)]]=>(l=(l.map wS).map qx∧(l.map wS).length≤100,aI (Lm (⟨b0,b1⟩:Bunk) (l.map wS)))
  |_=>(False,.junk)
theorem Qhc {A:Frm→Prop}:qB A Try.prog 146 (qU true Yn):=za fun vs hv h=>by
  clear hv
  unfold Yn at h ⊢
  split at h
  · rename_i l b0 b1;obtain ⟨q0,k0⟩:=h
    refine ⟨by first|trivial|(simp [AV.plain,AV.plainL,aI,aB,qA,qd,qh,qf,aTk,cTk];done)|(repeat' split) <;> simp [AV.plain,AV.plainL,aI,aB,qA,qd,qh,qf,aTk,cTk],fun _=>(by simp [AV.flat,AV.flatL,aI,aB]), ?_⟩
    have:=Qdr (⟨b0,b1⟩:Bunk) (l.map wS) k0
    simp only [qf,qd,aI,← q0] at this
    first|exact this|(simp only [qf,qd,aI,← q0];exact this)
  · exact h.elim
def Xc:=kk @ty3 (kk @xA (kk @ti3.eq_1 @vR.eq_1))
def Qfc:=kk @aI.eq_1 (@aB.eq_1)
theorem QeK (b:Bunk) (l:List Bunk) (hl:l.length≤100):FnV Try.prog 133 [qd l,qf b] (aB (l.contains b)):=by
  have env:Env (fun _=>True) Try.prog tyB (tab [(146,qU true Yn)]):=qP ⟨Qhc,trivial⟩
  refine Fn.of (A:=fun _=>True) (n0:=0) (D:=noD) (Fn0 Try.func133 rfl (fun vs w=>by kernel_rfl) (by kernel_rfl)) (by simp) (by simp [AV.ids,AV.idsL,qd,qf]) (fun i o h=>by cases h) (fun _ _ _ _=>trivial) qF ?_
  have ex:(⟨b.cab,b.bed⟩:Bunk)=b:=rfl
  have ea:=QfS b l
  repeat' (first|(apply nx;with_reducible constructor)|refine jq (by decide) ?_|((first|refine kz env fun Q hQ=>?_|refine kj fun Q hQ=>?_);simp only [vkt,seval,Xc,Qfc,qf,qd,qx,zf,Yn,List.length_map,ex,ea];(try simp only [ite_and]);(repeat' (first|with_reducible assumption|refine And.intro ?_ ?_|intro hp));all_goals (first|(refine hQ _ ?_;clear hQ Q)|(refine hQ _ (fun h=>?_) (fun h=>?_) <;> clear hQ Q <;> (try simp only [vki,reduceCtorEq] at h))|(refine kx ?_;kernel_rfl)|omega|assumption|with_reducible rfl|skip)))
  (simp only [vrt,Try.results133,vkt,seval,Xc,Qfc,qf,qd,qx,zf,Yn,List.length_map];refine Fin.val rfl ?_;(try simp only [AV.le,AV.leL]))
  all_goals first|rfl|(simp;done)
def jF:List AV→Prop × AV
  |[.sl l,.agg [.v (.int .i64 b0),.v (.int .i64 b1)]]=>(l=(l.map wS).map qx∧(l.map wS).length≤100,aB ((l.map wS).contains (⟨b0,b1⟩:Bunk)))
  |_=>(False,.junk)
theorem Qjt {A:Frm→Prop}:qB A Try.prog 133 (qU true jF):=za fun vs hv h=>by
  clear hv
  unfold jF at h ⊢
  split at h
  · rename_i l b0 b1;obtain ⟨q0,k0⟩:=h
    refine ⟨by first|trivial|(simp [AV.plain,AV.plainL,aI,aB,qA,qd,qh,qf,aTk,cTk];done)|(repeat' split) <;> simp [AV.plain,AV.plainL,aI,aB,qA,qd,qh,qf,aTk,cTk],fun _=>(by simp [AV.flat,AV.flatL,aI,aB]), ?_⟩
    have:=QeK (⟨b0,b1⟩:Bunk) (l.map wS) k0
    simp only [qf,qd,aI,← q0] at this
    first|exact this|(simp only [qf,qd,aI,← q0];exact this)
  · exact h.elim
def qm (cs:List Cabin) (s:Int) (r:Nat):AObj:=.cells [.sl (cs.map qj),.v (.int .i64 s),.row r]
def ql (l:List Tk):AObj:=.row 81 7 (l.map eTk)
def qw (cs:List Cabin) (s:Int) (l:List Tk):List AObj:=[qm cs s 1,ql l]
structure NearOk (cs:List Cabin) (l:List Bunk):Prop where
  ne:0 < l.length
  len:l.length≤100
  cabs:cs.length≤100
  mem:∀ b ∈ l,0≤b.cab∧b.cab.toNat < cs.length
def loK (l:List Bunk) (k:Nat):Int:=(l.take k).foldl (fun m b=>min m b.cab) (l.getD 0 default).cab
def hiK (l:List Bunk) (k:Nat):Int:=(l.take k).foldl (fun m b=>max m b.cab) (l.getD 0 default).cab
theorem U0 {l:List Bunk} {k:Nat} (h:k < l.length):loK l (k+1)=min (loK l k) (l.getD k default).cab:=by
  unfold loK
  rw [List.take_succ_eq_append_getElem h,List.foldl_append]
  simp [List.getD_eq_getElem?_getD,h]
theorem UH {l:List Bunk} {k:Nat} (h:k < l.length):hiK l (k+1)=max (hiK l k) (l.getD k default).cab:=by
  unfold hiK
  rw [List.take_succ_eq_append_getElem h,List.foldl_append]
  simp [List.getD_eq_getElem?_getD,h]
theorem Qhj (cs:List Cabin) (l:List Bunk):KF cs l=(decide (loK l l.length=hiK l l.length) || (decide (loK l l.length+1=hiK l l.length) && (cs.getD (loK l l.length).toNat default).door)):=by
  unfold KF loK hiK
  rw [List.take_length]
theorem Qdl {cs:List Cabin} {l:List Bunk} (h:NearOk cs l):∀ k,k≤l.length→0≤loK l k∧(loK l k).toNat < cs.length∧0≤hiK l k∧(hiK l k).toNat < cs.length:=by
  intro k
  induction k with
  |zero =>
    intro _
    have:=h.mem _ (vK (d:=default) h.ne)
    simp only [loK,hiK,List.take_zero,List.foldl_nil]
    exact ⟨this.1,this.2,this.1,this.2⟩
  |succ k ih =>
    intro hk
    have h1:=ih (by omega)
    have h2:=h.mem _ (vK (d:=default) (show k < l.length by omega))
    rw [U0 (by omega),UH (by omega)]
    omega
def nrS (cs:List Cabin) (s:Int) (sold:List Tk) (l:List Bunk) (k:Nat) (lo hi:Int):St:={ t:=asg [(0,.ptr 0 0),(1,qd l),(4,aB false),(5,aI lo),(6,aI hi),(17,qd l),(18,aI l.length),(19,aI k)],h:=qg [(0,qm cs s 1),(1,ql sold)],n:=2,m:=2 }
def jg:=kk @ty3 (kk @ty4 (kk @WT (kk @jO (kk @J8 (kk @xA (kk @WP (kk @Jt (kk @ti3.eq_1 (kk @ti4.eq_1 (kk @Zv.eq_1 (kk @jE.eq_1 (kk @WF.eq_1 (kk @vR.eq_1 (kk @Zq.eq_1 @Zy.eq_1))))))))))))))
def xw:=kk @aI.eq_1 (@aB.eq_1)
theorem QgQ (cs:List Cabin) (s:Int) (sold:List Tk) (l:List Bunk) (ok:NearOk cs l):Fn noB Try.prog 134 [.ptr 0 0,qd l] (qg (qO 0 (qw cs s sold))) (aB (KF cs l)) (qg (wH 0 ((qw cs s sold).map some))) 0:=by
  have env:Env (fun _=>True) Try.prog tyB (tab []):=qP trivial
  refine Fn.of (A:=fun _=>True) (n0:=2) (D:=noD) (Fn0 Try.func134 rfl (fun vs w=>by kernel_rfl) (by kernel_rfl)) (by simp) (by simp [AV.ids,AV.idsL,qd]) ?_ (fun _ _ _ _=>trivial) qF ?_
  · intro i o hi
    have h:=qV hi
    simp [qO,qw] at h
    rcases h with ⟨rfl,rfl⟩|⟨rfl,rfl⟩ <;> simp [AObj.ids,AV.ids,AV.idsL,qm,ql]
  have hne:=ok.ne
  have hll:=ok.len
  have hcl:=ok.cabs
  have hbd:=Qdl ok
  obtain ⟨x0,hx0⟩:∃ x,l.getD 0 default=x:=⟨_,rfl⟩
  have l0:loK l 0=x0.cab:=by rw [← hx0];rfl
  have h0:hiK l 0=x0.cab:=by rw [← hx0];rfl
  rw [Qhj]
  show Sym _ _ _ (zZ [.ptr 0 0,qd l] 2 (qg [(0,qm cs s 1),(1,ql sold)])) (xN tyB noD Try.f134 fun S rv=>Fin S rv _ 2 (qg [(0,qm cs s 1),(1,ql sold)]) 0)
  repeat' (first|(apply nx;with_reducible constructor)|refine jq (by decide) ?_|((first|refine kz env fun Q hQ=>?_|refine kj fun Q hQ=>?_);simp only [vkt,seval,jg,xw,qf,qd,qx,qE,qj,qz,qm,ql,qw,nrS,List.length_map,hx0];(try simp only [ite_and]);(repeat' (first|with_reducible assumption|refine And.intro ?_ ?_|intro hp));all_goals (first|(refine hQ _ ?_;clear hQ Q)|(refine hQ _ (fun h=>?_) (fun h=>?_) <;> clear hQ Q <;> (try simp only [vki,reduceCtorEq] at h))|(refine kx ?_;kernel_rfl)|omega|assumption|with_reducible rfl|skip)))
  refine qX (fun k:{ k:Nat // k≤l.length }=>nrS cs s sold l k.1 (loK l k.1) (hiK l k.1)) (fun k=>l.length - k.1) ⟨0,Nat.zero_le _⟩ ?_ fun ⟨k,hk⟩=>?_
  · simp only [l0,h0]
    (refine Le.ok some [] ?_;constructor;all_goals (try simp only [vle,vkt,seval,jg,xw,qf,qd,qx,qE,qj,qz,qm,ql,qw,nrS,List.length_map]))
    all_goals first|rfl|(simp;done)
  · repeat' (first|(apply nx;with_reducible constructor)|refine jq (by decide) ?_)
    (refine kz env fun Q hQ=>?_;simp only [vkt,seval,jg,xw,qf,qd,qx,qE,qj,qz,qm,ql,qw,nrS,List.length_map];(try simp only [ite_and]);(repeat' (first|with_reducible assumption|refine And.intro ?_ ?_|intro hp));all_goals (first|(refine hQ _ ?_;clear hQ Q)|(refine kx ?_;kernel_rfl)|omega|assumption|with_reducible rfl|skip))
    repeat' (first|(apply nx;with_reducible constructor)|refine jq (by decide) ?_)
    (refine yH (by simp only [vkt,seval,jg,xw,qf,qd,qx,qE,qj,qz,qm,ql,qw,nrS,List.length_map];rfl) (fun h=>?_) (fun h=>?_) <;> (try simp only [vki,reduceCtorEq] at h))
    · have hlt:k < l.length:=by omega
      have e9:IntKind.wrap .i64 ((k:Int)+1)=((k+1:Nat):Int):=by rw [wrap64 (by omega) (by omega)];rfl
      obtain ⟨x,hx⟩:∃ x,l.getD k default=x:=⟨_,rfl⟩
      have hl1:=U0 hlt
      have hh1:=UH hlt
      rw [hx] at hl1 hh1
      repeat' (first|(apply nx;with_reducible constructor)|refine jq (by decide) ?_|((first|refine kz env fun Q hQ=>?_|refine kj fun Q hQ=>?_);simp only [vkt,seval,jg,xw,qf,qd,qx,qE,qj,qz,qm,ql,qw,nrS,List.length_map,hx,e9];(try simp only [ite_and]);(repeat' (first|with_reducible assumption|refine And.intro ?_ ?_|intro hp));all_goals (first|(refine hQ _ ?_;clear hQ Q)|(refine hQ _ (fun h=>?_) (fun h=>?_) <;> clear hQ Q <;> (try simp only [vki,reduceCtorEq] at h))|(refine kx ?_;kernel_rfl)|omega|assumption|with_reducible rfl|skip)))
      refine ⟨⟨k+1,hlt⟩,by show l.length - (k+1) < l.length - k;omega, ?_⟩
      simp only [hl1,hh1]
      (refine Le.ok some [] ?_;constructor;all_goals (try simp only [vle,vkt,seval,jg,xw,qf,qd,qx,qE,qj,qz,qm,ql,qw,nrS,List.length_map]))
      all_goals first|rfl|(simp;done)
    · have hke:k=l.length:=by omega
      subst hke
      obtain ⟨g1,g2,g3,g4⟩:=hbd l.length (Nat.le_refl _)
      obtain ⟨lo,hlo⟩:∃ x,loK l l.length=x:=⟨_,rfl⟩
      obtain ⟨hi,hhi⟩:∃ x,hiK l l.length=x:=⟨_,rfl⟩
      rw [hlo] at g1 g2
      rw [hhi] at g3 g4
      obtain ⟨x,hx⟩:∃ x,cs.getD lo.toNat default=x:=⟨_,rfl⟩
      have w1:IntKind.wrap .i64 (lo+1)=lo+1:=wrap64 (by omega) (by omega)
      simp only [hlo,hhi]
      by_cases c1:lo=hi
      · rw [show (decide (lo=hi) || (decide (lo+1=hi) && (cs.getD lo.toNat default).door))=true by simp [c1]]
        have d1:decide (lo=hi)=true:=decide_eq_true c1
        have d1':(lo == hi)=true:=by simpa using c1
        repeat' (first|(apply nx;with_reducible constructor)|refine jq (by decide) ?_|((first|refine kz env fun Q hQ=>?_|refine kj fun Q hQ=>?_);simp only [vkt,seval,jg,xw,qf,qd,qx,qE,qj,qz,qm,ql,qw,nrS,List.length_map,d1,d1',w1,hx,g1,g2];(try simp only [ite_and]);(repeat' (first|with_reducible assumption|refine And.intro ?_ ?_|intro hp));all_goals (first|(refine hQ _ ?_;clear hQ Q)|(refine hQ _ (fun h=>?_) (fun h=>?_) <;> clear hQ Q <;> (try simp only [vki,reduceCtorEq] at h))|(refine kx ?_;kernel_rfl)|omega|assumption|with_reducible rfl|skip)))
        (simp only [vrt,Try.results134,vkt,seval,jg,xw,qf,qd,qx,qE,qj,qz,qm,ql,qw,nrS,List.length_map];refine Fin.ok some [] ?_ ?_ ?_ ?_ ?_ rfl;all_goals (try simp only [vle,vkt,seval,jg,xw,qf,qd,qx,qE,qj,qz,qm,ql,qw,nrS,List.length_map]))
        all_goals first|rfl|(simp;done)
      · have d1:decide (lo=hi)=false:=decide_eq_false c1
        have d1':(lo == hi)=false:=by simpa using c1
        by_cases c2:lo+1=hi
        · rw [show (decide (lo=hi) || (decide (lo+1=hi) && (cs.getD lo.toNat default).door))=x.door by rw [d1,hx,decide_eq_true c2];simp]
          have d2:decide (lo+1=hi)=true:=decide_eq_true c2
          have d2':(lo+1 == hi)=true:=by simpa using c2
          repeat' (first|(apply nx;with_reducible constructor)|refine jq (by decide) ?_|((first|refine kz env fun Q hQ=>?_|refine kj fun Q hQ=>?_);simp only [vkt,seval,jg,xw,qf,qd,qx,qE,qj,qz,qm,ql,qw,nrS,List.length_map,d1,d1',d2,d2',w1,hx,g1,g2];(try simp only [ite_and]);(repeat' (first|with_reducible assumption|refine And.intro ?_ ?_|intro hp));all_goals (first|(refine hQ _ ?_;clear hQ Q)|(refine hQ _ (fun h=>?_) (fun h=>?_) <;> clear hQ Q <;> (try simp only [vki,reduceCtorEq] at h))|(refine kx ?_;kernel_rfl)|omega|assumption|with_reducible rfl|skip)))
          (simp only [vrt,Try.results134,vkt,seval,jg,xw,qf,qd,qx,qE,qj,qz,qm,ql,qw,nrS,List.length_map];refine Fin.ok some [] ?_ ?_ ?_ ?_ ?_ rfl;all_goals (try simp only [vle,vkt,seval,jg,xw,qf,qd,qx,qE,qj,qz,qm,ql,qw,nrS,List.length_map]))
          all_goals first|rfl|(simp;done)
        · rw [show (decide (lo=hi) || (decide (lo+1=hi) && (cs.getD lo.toNat default).door))=false by rw [d1,decide_eq_false c2];rfl]
          have d2:decide (lo+1=hi)=false:=decide_eq_false c2
          have d2':(lo+1 == hi)=false:=by simpa using c2
          repeat' (first|(apply nx;with_reducible constructor)|refine jq (by decide) ?_|((first|refine kz env fun Q hQ=>?_|refine kj fun Q hQ=>?_);simp only [vkt,seval,jg,xw,qf,qd,qx,qE,qj,qz,qm,ql,qw,nrS,List.length_map,d1,d1',d2,d2',w1,hx,g1,g2];(try simp only [ite_and]);(repeat' (first|with_reducible assumption|refine And.intro ?_ ?_|intro hp));all_goals (first|(refine hQ _ ?_;clear hQ Q)|(refine hQ _ (fun h=>?_) (fun h=>?_) <;> clear hQ Q <;> (try simp only [vki,reduceCtorEq] at h))|(refine kx ?_;kernel_rfl)|omega|assumption|with_reducible rfl|skip)))
          (simp only [vrt,Try.results134,vkt,seval,jg,xw,qf,qd,qx,qE,qj,qz,qm,ql,qw,nrS,List.length_map];refine Fin.ok some [] ?_ ?_ ?_ ?_ ?_ rfl;all_goals (try simp only [vle,vkt,seval,jg,xw,qf,qd,qx,qE,qj,qz,qm,ql,qw,nrS,List.length_map]))
          all_goals first|rfl|(simp;done)
end Go.Sym.B
namespace Go.Sym.B
open Go Go.Sym Go.Proofs Go.Sym.C
def WX:=kk @ty3 @ti3.eq_1
def Qbv:=kk @aI.eq_1 (@aB.eq_1)
theorem Qdt (x n m:Int) (h:0≤m∧m≤100000):Fn noB Try.prog 45 [.ptr 0 0,aI n,aI m] (qg (wz x)) (aB (decide (upV x (m - 1) < n))) (qg (wz (upS x (m - 1)))) 0:=by
  have env:Env (fun _=>True) Try.prog tyB (tab [(40,fnE pUp)]):=qP ⟨eUp,trivial⟩
  refine Fn.of (A:=fun _=>True) (n0:=1) (D:=noD) (Fn0 Try.func45 rfl (fun vs w=>by kernel_rfl) (by kernel_rfl)) (by simp) (by simp [AV.ids,AV.idsL,aI]) ?_ (fun _ _ _ _=>trivial) qF ?_
  · intro i o hi
    have h:=qV hi
    simp [wz] at h
    rcases h with ⟨rfl,rfl⟩;simp [AObj.ids,AV.ids,AV.idsL]
  have h1:IntKind.wrap .i64 (m - 1)=m - 1:=wrap64 (by omega) (by omega)
  have h2:m - 1 < 9223372036854775807:=by omega
  repeat' (first|(apply nx;with_reducible constructor)|refine jq (by decide) ?_|((first|refine kz env fun Q hQ=>?_|refine kj fun Q hQ=>?_);simp only [vkt,seval,WX,Qbv,wz,pUp,h1,h2];(try simp only [ite_and]);(repeat' (first|with_reducible assumption|refine And.intro ?_ ?_|intro hp));all_goals (first|(refine hQ _ ?_;clear hQ Q)|(refine hQ _ (fun h=>?_) (fun h=>?_) <;> clear hQ Q <;> (try simp only [vki,reduceCtorEq] at h))|(refine kx ?_;kernel_rfl)|omega|assumption|with_reducible rfl|skip)))
  (simp only [vrt,Try.results45,vkt,seval,WX,Qbv,wz,pUp];refine Fin.ok some [] ?_ ?_ ?_ ?_ ?_ rfl;all_goals (try simp only [vle,vkt,seval,WX,Qbv,wz,pUp]))
  all_goals first|rfl|(simp;done)
noncomputable def wB (S:St):List AV→Option Pk
  |[.ptr i 0,.v (.int .i64 n),.v (.int .i64 m)]=>match S.h i with
    |some (.cells [.v (.int .u64 x)])=>some { pre:=0≤m∧m≤100000,hs:=[i],ar:=[.ptr 0 0,.v (.int .i64 n),.v (.int .i64 m)],L0:=[.cells [.v (.int .u64 x)]],v:=.v (.bool (decide (upV x (m - 1) < n))),L1:=[some (.cells [.v (.int .u64 (upS x (m - 1)))])] }
    |_=>none
  |_=>none
theorem Qgz {A:Frm→Prop}:qB A Try.prog 45 (fnE wB):=wE fun S bs q h hp=>by
  unfold wB at h
  split at h
  · split at h
    · cases h;exact Qdt _ _ _ hp
    · cases h
  · cases h
def VM:=kk @ty3 (kk @Wl (kk @ti3.eq_1 @Zk.eq_1))
def QaS:=kk @aI.eq_1 (kk @aB.eq_1 (kk @qA.eq_1 (kk @zX.eq_1 (@U3))))
theorem QiV (x:Int) (l:List Int) (h:0 < l.length∧l.length≤100000):Fn noB Try.prog 64 [.ptr 0 0,qA l] (qg (wz x)) (aI (l.getD (upV x ((l.length:Int) - 1)).toNat 0)) (qg (wz (upS x ((l.length:Int) - 1)))) 0:=by
  have env:Env (fun _=>True) Try.prog tyB (tab [(40,fnE pUp)]):=qP ⟨eUp,trivial⟩
  refine Fn.of (A:=fun _=>True) (n0:=1) (D:=noD) (Fn0 Try.func64 rfl (fun vs w=>by kernel_rfl) (by kernel_rfl)) (by simp) (by simp [AV.ids,AV.idsL,qA]) ?_ (fun _ _ _ _=>trivial) qF ?_
  · intro i o hi
    have h:=qV hi
    simp [wz] at h
    rcases h with ⟨rfl,rfl⟩;simp [AObj.ids,AV.ids,AV.idsL]
  have h1:IntKind.wrap .i64 ((l.length:Int) - 1)=(l.length:Int) - 1:=wrap64 (by omega) (by omega)
  have h2:(l.length:Int) - 1 < 9223372036854775807:=by omega
  have hb:=QaV (x:=x) (m:=(l.length:Int) - 1) h2
  obtain ⟨i,hi⟩:∃ i:Nat,upV x ((l.length:Int) - 1)=i:=⟨(upV x ((l.length:Int) - 1)).toNat,by omega⟩
  rw [hi] at hb ⊢
  have i0:((i:Int)).toNat=i:=rfl
  have hil:i < l.length:=by omega
  have d0:decide ((l.length:Int)=0)=false:=decide_eq_false (by omega)
  obtain ⟨y,hy⟩:∃ y,l.getD i 0=y:=⟨_,rfl⟩
  rw [i0,hy]
  repeat' (first|(apply nx;with_reducible constructor)|refine jq (by decide) ?_|((first|refine kz env fun Q hQ=>?_|refine kj fun Q hQ=>?_);simp only [vkt,seval,VM,QaS,wz,pUp,List.length_map,h1,h2,hi,i0,hil,d0,hy];(try simp only [ite_and]);(repeat' (first|with_reducible assumption|refine And.intro ?_ ?_|intro hp));all_goals (first|(refine hQ _ ?_;clear hQ Q)|(refine hQ _ (fun h=>?_) (fun h=>?_) <;> clear hQ Q <;> (try simp only [vki,reduceCtorEq] at h))|(refine kx ?_;kernel_rfl)|omega|assumption|with_reducible rfl|skip)))
  (simp only [vrt,Try.results64,vkt,seval,VM,QaS,wz,pUp,List.length_map];refine Fin.ok some [] ?_ ?_ ?_ ?_ ?_ rfl;all_goals (try simp only [vle,vkt,seval,VM,QaS,wz,pUp,List.length_map]))
  all_goals first|rfl|(simp;done)
noncomputable def kw (S:St):List AV→Option Pk
  |[.ptr i 0,.row r]=>match S.h i,S.h r with
    |some (.cells [.v (.int .u64 x)]),some (.row _ _ xs)=>some { pre:=xs=(xs.map zY).map zX∧0 < (xs.map zY).length∧(xs.map zY).length≤100000,hs:=[i],bo:=[r],ar:=[.ptr 0 0,.sl xs],L0:=[.cells [.v (.int .u64 x)]],v:=.v (.int .i64 ((xs.map zY).getD (upV x (((xs.map zY).length:Int) - 1)).toNat 0)),L1:=[some (.cells [.v (.int .u64 (upS x (((xs.map zY).length:Int) - 1)))])] }
    |_,_=>none
  |_=>none
theorem eOne {A:Frm→Prop}:qB A Try.prog 64 (fnE kw):=wE fun S bs q h hp=>by
  unfold kw at h
  split at h
  · split at h
    · cases h
      have:=QiV (by assumption) _ hp.2
      rw [qA,← hp.1] at this
      exact this
    · cases h
  · cases h
def YK (t x:Tk):Bool:=decide (x.cab=t.cab) && !decide (t.to≤x.frm) && !decide (x.to≤t.frm) && (decide (x.bed=t.bed) || (!decide (x.party=t.party) && (!decide (x.sex=t.sex) || x.dog || t.dog)))
def Z8 (l:List Tk) (t:Tk):Bool:=!l.any (YK t)
theorem Qgt {l:List Tk} {t:Tk} {k:Nat} (hk:k < l.length) (h:YK t (l.getD k default)=true):Z8 l t=false:=by
  unfold Z8
  rw [List.any_eq_true.2 ⟨_,vK hk,h⟩];rfl
theorem QcV {l:List Tk} {t:Tk} (h:∀ j,j < l.length→YK t (l.getD j default)=false):Z8 l t=true:=by
  unfold Z8
  rw [show l.any (YK t)=false from List.any_eq_false.2 fun x hx=>?_]
  · rfl
  · obtain ⟨j,hj,rfl⟩:=List.mem_iff_getElem.1 hx
    have:=h j hj
    rw [show l.getD j default=l[j] by simp [List.getD_eq_getElem?_getD,hj]] at this
    rw [this];simp
def goS (l:List Tk) (t:Tk) (k:Nat):St:={ t:=asg [(0,qh l),(3,.ptr 0 0),(4,aB false),(5,aI k)],h:=qg [(0,.cells (cTk t))],n:=1 }
def zW:=kk @ty3 (kk @ty4 (kk @xC (kk @xA (kk @yw (kk @ti3.eq_1 (kk @ti4.eq_1 (kk @vP.eq_1 (kk @vR.eq_1 @j3.eq_1))))))))
def jY:=kk @aI.eq_1 (@aB.eq_1)
set_option maxHeartbeats 1000000 in
theorem Qhk (l:List Tk) (t:Tk) (hl:l.length≤100):FnV Try.prog 65 [qh l,aTk t] (aB (Z8 l t)):=by
  have env:Env (fun _=>True) Try.prog tyB (tab []):=qP trivial
  refine Fn.of (A:=fun _=>True) (n0:=0) (D:=noD) (Fn0 Try.func65 rfl (fun vs w=>by kernel_rfl) (by kernel_rfl)) (by simp) (by simp [AV.ids,AV.idsL,qh,aTk,cTk]) (fun i o h=>by cases h) (fun _ _ _ _=>trivial) qF ?_
  repeat' (first|(apply nx;with_reducible constructor)|refine jq (by decide) ?_|((first|refine kz env fun Q hQ=>?_|refine kj fun Q hQ=>?_);simp only [vkt,seval,zW,jY,aTk,cTk,qh,eTk,gTk,goS,List.length_map];(try simp only [ite_and]);(repeat' (first|with_reducible assumption|refine And.intro ?_ ?_|intro hp));all_goals (first|(refine hQ _ ?_;clear hQ Q)|(refine hQ _ (fun h=>?_) (fun h=>?_) <;> clear hQ Q <;> (try simp only [vki,reduceCtorEq] at h))|(refine kx ?_;kernel_rfl)|omega|assumption|with_reducible rfl|skip)))
  refine qX (fun k:{ k:Nat // k≤l.length∧∀ j,j < k→YK t (l.getD j default)=false }=>goS l t k.1) (fun k=>l.length - k.1) ⟨0,Nat.zero_le _,fun j h=>absurd h (Nat.not_lt_zero _)⟩ ?_ fun ⟨k,hk,hno⟩=>?_
  · (refine Le.ok some [] ?_;constructor;all_goals (try simp only [vle,vkt,seval,zW,jY,aTk,cTk,qh,eTk,gTk,goS,List.length_map]))
    all_goals first|rfl|(simp;done)
  simp only at hk hno ⊢
  by_cases hkl:k < l.length
  · have d1:decide ((k:Int) < (l.length:Int))=true:=decide_eq_true (by omega)
    have e9:IntKind.wrap .i64 ((k:Int)+1)=((k+1:Nat):Int):=by rw [wrap64 (by omega) (by omega)];rfl
    have i0:((k:Int)).toNat=k:=rfl
    obtain ⟨x,hx⟩:∃ x,l.getD k default=x:=⟨_,rfl⟩
    have nxt:YK t x=false→∀ S,Le S (goS l t (k+1))→∃ y:{ k:Nat // k≤l.length∧∀ j,j < k→YK t (l.getD j default)=false },(l.length - y.1 < l.length - k)∧Le S (goS l t y.1):=fun hb S hS=>⟨⟨k+1,hkl,fun j hj=>by
      rcases Nat.lt_or_eq_of_le (Nat.le_of_lt_succ hj) with h1|h1
      · exact hno j h1
      · rw [h1,hx];exact hb⟩,by show l.length - (k+1) < l.length - k;omega,hS⟩
    have fin:YK t x=true→Z8 l t=false:=fun hb=>Qgt hkl (by rw [hx];exact hb)
    have hbx:YK t x=(decide (x.cab=t.cab) && !decide (t.to≤x.frm) && !decide (x.to≤t.frm) && (decide (x.bed=t.bed) || (!decide (x.party=t.party) && (!decide (x.sex=t.sex) || x.dog || t.dog)))):=rfl
    cases q1:decide (x.cab=t.cab)
    · repeat' (first|(apply nx;with_reducible constructor)|refine jq (by decide) ?_|((first|refine kz env fun Q hQ=>?_|refine kj fun Q hQ=>?_);simp only [vkt,seval,zW,jY,aTk,cTk,qh,eTk,gTk,goS,List.length_map,d1,e9,i0,hkl,hx,q1,Bool.not_false];(try simp only [ite_and]);(repeat' (first|with_reducible assumption|refine And.intro ?_ ?_|intro hp));all_goals (first|(refine hQ _ ?_;clear hQ Q)|(refine hQ _ (fun h=>?_) (fun h=>?_) <;> clear hQ Q <;> (try simp only [vki,reduceCtorEq] at h))|(refine kx ?_;kernel_rfl)|omega|assumption|with_reducible rfl|skip)))
      refine nxt (by rw [hbx,q1];rfl) _ ?_
      (refine Le.ok some [] ?_;constructor;all_goals (try simp only [vle,vkt,seval,zW,jY,aTk,cTk,qh,eTk,gTk,goS,List.length_map]))
      all_goals first|rfl|(simp;done)
    cases q2:decide (t.to≤x.frm)
    case true =>
      repeat' (first|(apply nx;with_reducible constructor)|refine jq (by decide) ?_|((first|refine kz env fun Q hQ=>?_|refine kj fun Q hQ=>?_);simp only [vkt,seval,zW,jY,aTk,cTk,qh,eTk,gTk,goS,List.length_map,d1,e9,i0,hkl,hx,q1,q2,Bool.not_true];(try simp only [ite_and]);(repeat' (first|with_reducible assumption|refine And.intro ?_ ?_|intro hp));all_goals (first|(refine hQ _ ?_;clear hQ Q)|(refine hQ _ (fun h=>?_) (fun h=>?_) <;> clear hQ Q <;> (try simp only [vki,reduceCtorEq] at h))|(refine kx ?_;kernel_rfl)|omega|assumption|with_reducible rfl|skip)))
      refine nxt (by rw [hbx,q1,q2];rfl) _ ?_
      (refine Le.ok some [] ?_;constructor;all_goals (try simp only [vle,vkt,seval,zW,jY,aTk,cTk,qh,eTk,gTk,goS,List.length_map]))
      all_goals first|rfl|(simp;done)
    cases q3:decide (x.to≤t.frm)
    case true =>
      repeat' (first|(apply nx;with_reducible constructor)|refine jq (by decide) ?_|((first|refine kz env fun Q hQ=>?_|refine kj fun Q hQ=>?_);simp only [vkt,seval,zW,jY,aTk,cTk,qh,eTk,gTk,goS,List.length_map,d1,e9,i0,hkl,hx,q1,q2,q3,Bool.not_true];(try simp only [ite_and]);(repeat' (first|with_reducible assumption|refine And.intro ?_ ?_|intro hp));all_goals (first|(refine hQ _ ?_;clear hQ Q)|(refine hQ _ (fun h=>?_) (fun h=>?_) <;> clear hQ Q <;> (try simp only [vki,reduceCtorEq] at h))|(refine kx ?_;kernel_rfl)|omega|assumption|with_reducible rfl|skip)))
      refine nxt (by rw [hbx,q1,q2,q3];rfl) _ ?_
      (refine Le.ok some [] ?_;constructor;all_goals (try simp only [vle,vkt,seval,zW,jY,aTk,cTk,qh,eTk,gTk,goS,List.length_map]))
      all_goals first|rfl|(simp;done)
    cases q4:decide (x.bed=t.bed)
    case true =>
      rw [fin (by rw [hbx,q1,q2,q3,q4];rfl)]
      repeat' (first|(apply nx;with_reducible constructor)|refine jq (by decide) ?_|((first|refine kz env fun Q hQ=>?_|refine kj fun Q hQ=>?_);simp only [vkt,seval,zW,jY,aTk,cTk,qh,eTk,gTk,goS,List.length_map,d1,e9,i0,hkl,hx,q1,q2,q3,q4,Bool.not_true];(try simp only [ite_and]);(repeat' (first|with_reducible assumption|refine And.intro ?_ ?_|intro hp));all_goals (first|(refine hQ _ ?_;clear hQ Q)|(refine hQ _ (fun h=>?_) (fun h=>?_) <;> clear hQ Q <;> (try simp only [vki,reduceCtorEq] at h))|(refine kx ?_;kernel_rfl)|omega|assumption|with_reducible rfl|skip)))
      (simp only [vrt,Try.results65,vkt,seval,zW,jY,aTk,cTk,qh,eTk,gTk,goS,List.length_map];refine Fin.val rfl ?_;(try simp only [AV.le,AV.leL]))
      all_goals first|rfl|(simp;done)
    cases q5:decide (x.party=t.party)
    case true =>
      repeat' (first|(apply nx;with_reducible constructor)|refine jq (by decide) ?_|((first|refine kz env fun Q hQ=>?_|refine kj fun Q hQ=>?_);simp only [vkt,seval,zW,jY,aTk,cTk,qh,eTk,gTk,goS,List.length_map,d1,e9,i0,hkl,hx,q1,q2,q3,q4,q5,Bool.not_true];(try simp only [ite_and]);(repeat' (first|with_reducible assumption|refine And.intro ?_ ?_|intro hp));all_goals (first|(refine hQ _ ?_;clear hQ Q)|(refine hQ _ (fun h=>?_) (fun h=>?_) <;> clear hQ Q <;> (try simp only [vki,reduceCtorEq] at h))|(refine kx ?_;kernel_rfl)|omega|assumption|with_reducible rfl|skip)))
      refine nxt (by rw [hbx,q1,q2,q3,q4,q5];rfl) _ ?_
      (refine Le.ok some [] ?_;constructor;all_goals (try simp only [vle,vkt,seval,zW,jY,aTk,cTk,qh,eTk,gTk,goS,List.length_map]))
      all_goals first|rfl|(simp;done)
    cases q6:decide (x.sex=t.sex)
    · rw [fin (by rw [hbx,q1,q2,q3,q4,q5,q6];rfl)]
      repeat' (first|(apply nx;with_reducible constructor)|refine jq (by decide) ?_|((first|refine kz env fun Q hQ=>?_|refine kj fun Q hQ=>?_);simp only [vkt,seval,zW,jY,aTk,cTk,qh,eTk,gTk,goS,List.length_map,d1,e9,i0,hkl,hx,q1,q2,q3,q4,q5,q6,Bool.not_true,Bool.not_false];(try simp only [ite_and]);(repeat' (first|with_reducible assumption|refine And.intro ?_ ?_|intro hp));all_goals (first|(refine hQ _ ?_;clear hQ Q)|(refine hQ _ (fun h=>?_) (fun h=>?_) <;> clear hQ Q <;> (try simp only [vki,reduceCtorEq] at h))|(refine kx ?_;kernel_rfl)|omega|assumption|with_reducible rfl|skip)))
      (simp only [vrt,Try.results65,vkt,seval,zW,jY,aTk,cTk,qh,eTk,gTk,goS,List.length_map];refine Fin.val rfl ?_;(try simp only [AV.le,AV.leL]))
      all_goals first|rfl|(simp;done)
    cases q7:x.dog
    case true =>
      rw [fin (by rw [hbx,q1,q2,q3,q4,q5,q6,q7];rfl)]
      repeat' (first|(apply nx;with_reducible constructor)|refine jq (by decide) ?_|((first|refine kz env fun Q hQ=>?_|refine kj fun Q hQ=>?_);simp only [vkt,seval,zW,jY,aTk,cTk,qh,eTk,gTk,goS,List.length_map,d1,e9,i0,hkl,hx,q1,q2,q3,q4,q5,q6,q7,Bool.not_true,Bool.not_false];(try simp only [ite_and]);(repeat' (first|with_reducible assumption|refine And.intro ?_ ?_|intro hp));all_goals (first|(refine hQ _ ?_;clear hQ Q)|(refine hQ _ (fun h=>?_) (fun h=>?_) <;> clear hQ Q <;> (try simp only [vki,reduceCtorEq] at h))|(refine kx ?_;kernel_rfl)|omega|assumption|with_reducible rfl|skip)))
      (simp only [vrt,Try.results65,vkt,seval,zW,jY,aTk,cTk,qh,eTk,gTk,goS,List.length_map];refine Fin.val rfl ?_;(try simp only [AV.le,AV.leL]))
      all_goals first|rfl|(simp;done)
    cases q8:t.dog
    · repeat' (first|(apply nx;with_reducible constructor)|refine jq (by decide) ?_|((first|refine kz env fun Q hQ=>?_|refine kj fun Q hQ=>?_);simp only [vkt,seval,zW,jY,aTk,cTk,qh,eTk,gTk,goS,List.length_map,d1,e9,i0,hkl,hx,q1,q2,q3,q4,q5,q6,q7,q8,Bool.not_true,Bool.not_false];(try simp only [ite_and]);(repeat' (first|with_reducible assumption|refine And.intro ?_ ?_|intro hp));all_goals (first|(refine hQ _ ?_;clear hQ Q)|(refine hQ _ (fun h=>?_) (fun h=>?_) <;> clear hQ Q <;> (try simp only [vki,reduceCtorEq] at h))|(refine kx ?_;kernel_rfl)|omega|assumption|with_reducible rfl|skip)))
      refine nxt (by rw [hbx,q1,q2,q3,q4,q5,q6,q7,q8];rfl) _ ?_
      (refine Le.ok some [] ?_;constructor;all_goals (try simp only [vle,vkt,seval,zW,jY,aTk,cTk,qh,eTk,gTk,goS,List.length_map]))
      all_goals first|rfl|(simp [q8];done)
    · rw [fin (by rw [hbx,q1,q2,q3,q4,q5,q6,q7,q8];rfl)]
      repeat' (first|(apply nx;with_reducible constructor)|refine jq (by decide) ?_|((first|refine kz env fun Q hQ=>?_|refine kj fun Q hQ=>?_);simp only [vkt,seval,zW,jY,aTk,cTk,qh,eTk,gTk,goS,List.length_map,d1,e9,i0,hkl,hx,q1,q2,q3,q4,q5,q6,q7,q8,Bool.not_true,Bool.not_false];(try simp only [ite_and]);(repeat' (first|with_reducible assumption|refine And.intro ?_ ?_|intro hp));all_goals (first|(refine hQ _ ?_;clear hQ Q)|(refine hQ _ (fun h=>?_) (fun h=>?_) <;> clear hQ Q <;> (try simp only [vki,reduceCtorEq] at h))|(refine kx ?_;kernel_rfl)|omega|assumption|with_reducible rfl|skip)))
      (simp only [vrt,Try.results65,vkt,seval,zW,jY,aTk,cTk,qh,eTk,gTk,goS,List.length_map];refine Fin.val rfl ?_;(try simp only [AV.le,AV.leL]))
      all_goals first|rfl|(simp;done)
  · have d1:decide ((k:Int) < (l.length:Int))=false:=decide_eq_false (by omega)
    rw [QcV (fun j hj=>hno j (by omega))]
    repeat' (first|(apply nx;with_reducible constructor)|refine jq (by decide) ?_|((first|refine kz env fun Q hQ=>?_|refine kj fun Q hQ=>?_);simp only [vkt,seval,zW,jY,aTk,cTk,qh,eTk,gTk,goS,List.length_map,d1];(try simp only [ite_and]);(repeat' (first|with_reducible assumption|refine And.intro ?_ ?_|intro hp));all_goals (first|(refine hQ _ ?_;clear hQ Q)|(refine hQ _ (fun h=>?_) (fun h=>?_) <;> clear hQ Q <;> (try simp only [vki,reduceCtorEq] at h))|(refine kx ?_;kernel_rfl)|omega|assumption|with_reducible rfl|skip)))
    (simp only [vrt,Try.results65,vkt,seval,zW,jY,aTk,cTk,qh,eTk,gTk,goS,List.length_map];refine Fin.val rfl ?_;(try simp only [AV.le,AV.leL]))
    all_goals first|rfl|(simp;done)
def yn:List AV→Prop × AV
  |[.sl l,.agg [.v (.int .i64 t0),.v (.int .i64 t1),.v (.int .i64 t2),.v (.int .i64 t3),.v (.int .i64 t4),.v (.int .i64 t5),.v (.bool t6)]]=>(l=(l.map dTk).map eTk∧(l.map dTk).length≤100,aB (Z8 (l.map dTk) (⟨t0,t1,t2,t3,t4,t5,t6⟩:Tk)))
  |_=>(False,.junk)
theorem egoes {A:Frm→Prop}:qB A Try.prog 65 (qU true yn):=za fun vs hv h=>by
  clear hv
  unfold yn at h ⊢
  split at h
  · rename_i l t0 t1 t2 t3 t4 t5 t6;obtain ⟨q0,k0⟩:=h
    refine ⟨by first|trivial|(simp [AV.plain,AV.plainL,aI,aB,qA,qd,qh,qf,aTk,cTk];done)|(repeat' split) <;> simp [AV.plain,AV.plainL,aI,aB,qA,qd,qh,qf,aTk,cTk],fun _=>(by simp [AV.flat,AV.flatL,aI,aB]), ?_⟩
    have:=Qhk (l.map dTk) (⟨t0,t1,t2,t3,t4,t5,t6⟩:Tk) k0
    simp only [aB,aI,aTk,qh,cTk,← q0] at this
    first|exact this|(simp only [aB,aI,aTk,qh,cTk,← q0];exact this)
  · exact h.elim
end Go.Sym.B
namespace Go.Sym.B
open Go Go.Sym Go.Proofs Go.Sym.C
theorem dI1 (a:Int):zY [.v (.int .i64 a)]=a:=rfl
noncomputable def xc (x:Int):Nat→List Cabin × Int
  |0=>([],x)
  |k+1=>((xc x k).1++[⟨1+upV (xc x k).2 2,decide (upV (upS (xc x k).2 2) 2 < 2)⟩],upS (upS (xc x k).2 2) 2)
noncomputable def pA (p s:Int):Int × Int:=if p=0 then (p+(1+upV s 2),upS s 2) else if upV s 3 < 1 then (p,upS s 3) else (p+(1+upV (upS s 3) 2),upS (upS s 3) 2)
noncomputable def vW (cs:List Cabin) (secs p s1:Int):Tk × Int :=
  let n:=upV s1 ((cs.length:Int) - 1)
  let s2:=upS s1 ((cs.length:Int) - 1)
  let s3:=upS s2 1
  let b:=(cs.getD n.toNat default).beds
  let s4:=upS s3 (b - 1)
  let f:=upV s4 (secs - 1)
  let s5:=upS s4 (secs - 1)
  let s6:=upS s5 7
  (⟨p,([1,2]:List Int).getD (upV s2 1).toNat 0,n,upV s3 (b - 1),f,f+1+upV s6 (secs - (f+1)),decide (upV s5 7 < 1)⟩,upS s6 (secs - (f+1)))
noncomputable def tkK (cs:List Cabin) (secs x:Int):Nat→Int × List Tk × Int
  |0=>(0,[],x)
  |k+1=>((pA (tkK cs secs x k).1 (tkK cs secs x k).2.2).1,if Z8 (tkK cs secs x k).2.1 (vW cs secs (pA (tkK cs secs x k).1 (tkK cs secs x k).2.2).1 (pA (tkK cs secs x k).1 (tkK cs secs x k).2.2).2).1 then (tkK cs secs x k).2.1++[(vW cs secs (pA (tkK cs secs x k).1 (tkK cs secs x k).2.2).1 (pA (tkK cs secs x k).1 (tkK cs secs x k).2.2).2).1] else (tkK cs secs x k).2.1,
      (vW cs secs (pA (tkK cs secs x k).1 (tkK cs secs x k).2.2).1 (pA (tkK cs secs x k).1 (tkK cs secs x k).2.2).2).2)
noncomputable def QO (x g:Int):Int:=1+upV x (g - 1)
noncomputable def Xo (x g:Int):Int:=upS x (g - 1)
noncomputable def vY (x g a:Int):List Cabin × Int:=xc (upS (Xo x g) (a - 1)) (1+upV (Xo x g) (a - 1)).toNat
noncomputable def Qdo (x g a s:Int):Int × List Tk × Int:=tkK (vY x g a).1 (QO x g) (upS (vY x g a).2 s) (upV (vY x g a).2 s).toNat
noncomputable def coC (x a g s:Int):Chart:=⟨(vY x g a).1,QO x g,(Qdo x g a s).2.1⟩
noncomputable def coX (x a g s:Int):Int:=(Qdo x g a s).2.2
theorem up2 (x:Int) {m:Int} (h0:0≤m) (h:m≤100000):0≤upV x m∧upV x m≤m:=by
  have:=QaV (x:=x) (m:=m) (by omega)
  omega
theorem QfN {p s p1 s1:Int} (h:pA p s=(p1,s1)) (hp:0≤p∧p≤1000) :
    ∃ (b:Bool) (sB:Int),((decide (p=0)=true∧True∧b=true∧sB=s)∨(decide (p=0)=false∧decide (upV s 3 < 1)=!b∧True∧sB=upS s 3))∧((b=true∧IntKind.wrap .i64 (p+(1+upV sB 2))=p1∧upS sB 2=s1)∨(b=false∧p=p1∧sB=s1)):=by
  unfold pA at h
  split at h
  · rename_i h0
    have:=up2 s (m:=2) (by omega) (by omega)
    cases h
    exact ⟨true,s,.inl ⟨decide_eq_true h0,trivial,rfl,rfl⟩,.inl ⟨rfl,wrap64 (by omega) (by omega),rfl⟩⟩
  · rename_i h0
    split at h
    · rename_i h1
      cases h
      exact ⟨false,upS s 3,.inr ⟨decide_eq_false h0,decide_eq_true h1,trivial,rfl⟩,.inr ⟨rfl,rfl,rfl⟩⟩
    · rename_i h1
      have:=up2 (upS s 3) (m:=2) (by omega) (by omega)
      cases h
      exact ⟨true,upS s 3,.inr ⟨decide_eq_false h0,decide_eq_false h1,trivial,rfl⟩,.inl ⟨rfl,wrap64 (by omega) (by omega),rfl⟩⟩
theorem Qii {p s:Int} (hp:0≤p):p≤(pA p s).1∧1≤(pA p s).1∧(pA p s).1≤p+3:=by
  have h1:=up2 s (m:=2) (by omega) (by omega)
  have h2:=up2 (upS s 3) (m:=2) (by omega) (by omega)
  unfold pA
  split
  · simp only;omega
  · split
    · simp only;omega
    · simp only;omega
theorem KX (cs:List Cabin) (secs x:Int):∀ k,0≤(tkK cs secs x k).1∧(tkK cs secs x k).1≤3 * k∧(tkK cs secs x k).2.1.length≤k
  |0=>⟨Int.le_refl _,Int.le_refl _,Nat.le_refl _⟩
  |k+1=>by
    obtain ⟨h1,h2,h3⟩:=KX cs secs x k
    have h4:=Qii (s:=(tkK cs secs x k).2.2) h1
    rw [tkK]
    refine ⟨by simp only;omega,by simp only;omega, ?_⟩
    simp only
    split
    · rw [List.length_append,List.length_singleton];omega
    · omega
theorem KS (x:Int):∀ k,(xc x k).1.length=k∧∀ c ∈ (xc x k).1,1≤c.beds∧c.beds≤3
  |0=>⟨rfl,by simp [xc]⟩
  |k+1=>by
    obtain ⟨h1,h2⟩:=KS x k
    have h3:=up2 (xc x k).2 (m:=2) (by omega) (by omega)
    rw [xc]
    refine ⟨by simp [h1],fun c hc=>?_⟩
    rcases List.mem_append.1 hc with hc|hc
    · exact h2 c hc
    · rw [List.mem_singleton.1 hc];simp only;omega
def coA (secs s m:Int) (i:Nat) (cs:List Cabin):St:={ t:=asg [(0,.ptr 0 0),(3,aI m),(8,.ptr 1 0),(9,.ptr 2 0),(10,aI i)],h:=qg [(0,.cells [.v (.int .u64 s)]),(1,.cells [.nil,aI 0,.nil]),(2,.cells [.row 3,aI secs,.nil]),(3,.row 51 2 (cs.map qj))],n:=4,m:=1 }
def coB (cs:List Cabin) (secs s p:Int) (i:Nat) (l:List Tk):St:={ t:=asg [(0,.ptr 0 0),(8,.ptr 1 0),(9,.ptr 2 0),(11,aI p),(12,aI i)],h:=qg [(0,.cells [.v (.int .u64 s)]),(1,.cells [.nil,aI 0,.nil]),(2,.cells [.row 3,aI secs,.row 4]),(3,.row 51 2 (cs.map qj)),(4,.row 81 7 (l.map eTk))],n:=5,m:=1 }
def coM (cs:List Cabin) (secs s p:Int) (i:Nat) (l:List Tk) (T:List (Nat × AV)) (O:List (Nat × AObj)) (n:Nat):St:={ t:=asg (T++[(0,.ptr 0 0),(8,.ptr 1 0),(9,.ptr 2 0),(11,aI p),(12,aI i)]),h:=qg ([(0,.cells [.v (.int .u64 s)]),(1,.cells [.nil,aI 0,.nil]),(2,.cells [.row 3,aI secs,.row 4]),(3,.row 51 2 (cs.map qj)),(4,.row 81 7 (l.map eTk))]++O),n:=n,m:=1 }
def zg:=kk @ty3 (kk @Wl (kk @WT (kk @xC (kk @jO (kk @xA (kk @WP (kk @yw (kk @ti3.eq_1 (kk @Zk.eq_1 (kk @Zv.eq_1 (kk @vP.eq_1 (kk @jE.eq_1 (kk @vR.eq_1 (kk @Zq.eq_1 @j3.eq_1))))))))))))))
def jH:=kk @aI.eq_1 (kk @aB.eq_1 (@zX.eq_1))
set_option maxHeartbeats 4000000 in
theorem Qay (x a g s:Int) (ha:1≤a∧a≤3) (hg:1≤g∧g≤5) (hs:0≤s∧s≤8):Fn noB Try.prog 16 [.ptr 0 0,aI a,aI g,aI s] (qg (wz x)) (qa (coC x a g s)) (qg (wz (coX x a g s))) 0:=by
  have env:Env (fun _=>True) Try.prog tyB (tab [(37,fnE yt),(40,fnE pUp),(45,fnE wB),(64,fnE kw),(65,qU true yn)]):=qP ⟨eFrom,eUp,Qgz,eOne,egoes,trivial⟩
  refine Fn.of (A:=fun _=>True) (n0:=1) (D:=noD) (Fn0 Try.func16 rfl (fun vs w=>by kernel_rfl) (by kernel_rfl)) (by simp) (by simp [AV.ids,AV.idsL,aI]) ?_ (fun _ _ _ _=>trivial) qF ?_
  · intro i o hi
    have h:=qV hi
    simp [wz] at h
    rcases h with ⟨rfl,rfl⟩;simp [AObj.ids,AV.ids,AV.idsL]
  have m1:min g 5=g:=by omega
  have m2:min a 3=a:=by omega
  have m3:min s 8=s:=by omega
  have hmx:(100000:Nat)≤maxLen:=by decide
  have hsc:=up2 x (m:=g - 1) (by omega) (by omega)
  have hx1:upS x (g - 1)=Xo x g:=rfl
  have hsb:1≤QO x g∧QO x g≤5:=by unfold QO;omega
  have hcs:1+upV x (g - 1)=QO x g:=rfl
  have hnc:=up2 (Xo x g) (m:=a - 1) (by omega) (by omega)
  obtain ⟨nc,hnc1⟩:∃ nc:Nat,1+upV (Xo x g) (a - 1)=nc:=⟨(1+upV (Xo x g) (a - 1)).toNat,by omega⟩
  obtain ⟨y,hy⟩:∃ y,upS (Xo x g) (a - 1)=y:=⟨_,rfl⟩
  have hcc:vY x g a=xc y nc:=by unfold vY;rw [hy,hnc1];rfl
  have hcb:=KS y
  have hnt:=up2 (xc y nc).2 (m:=s) (by omega) (by omega)
  obtain ⟨nt,hnt1⟩:∃ nt:Nat,upV (xc y nc).2 s=nt:=⟨(upV (xc y nc).2 s).toNat,by omega⟩
  obtain ⟨z,hz⟩:∃ z,upS (xc y nc).2 s=z:=⟨_,rfl⟩
  have htk:Qdo x g a s=tkK (xc y nc).1 (QO x g) z nt:=by unfold Qdo;rw [hcc,hz,hnt1];rfl
  unfold coC coX
  rw [hcc,htk]
  obtain ⟨S,hS⟩:∃ S,QO x g=S:=⟨_,rfl⟩
  rw [hS] at hsb hcs ⊢
  obtain ⟨X1,hX1⟩:∃ X1,Xo x g=X1:=⟨_,rfl⟩
  rw [hX1] at hx1 hnc1 hy hnc
  have hal:-100000≤(1:Int):=by decide
  have b1:g≤100000:=by omega
  have b2:a≤100000:=by omega
  have b3:-100000≤g:=by omega
  have b4:-100000≤a:=by omega
  have b5:s < 9223372036854775807:=by omega
  show Sym _ _ _ (zZ [.ptr 0 0,aI a,aI g,aI s] 1 (qg [(0,.cells [.v (.int .u64 x)])])) (xN tyB noD Try.f16 fun S' rv=>Fin S' rv _ 1 (qg [(0,.cells [.v (.int .u64 (tkK (xc y nc).1 S z nt).2.2)])]) 0)
  repeat' (first|(apply nx;with_reducible constructor)|refine jq (by decide) ?_|((first|refine kz env fun Q hQ=>?_|refine kj fun Q hQ=>?_);simp only [vkt,seval,zg,jH,aTk,cTk,qh,eTk,gTk,rTk,mTk,qj,qz,zJ,dI1,wz,qa,qb,coA,coB,coM,yt,pUp,wB,kw,yn,List.length_map,List.map_cons,List.map_nil,m1,m2,hcs,hx1,hnc1,hy];(try simp only [ite_and]);(repeat' (first|with_reducible assumption|refine And.intro ?_ ?_|intro hp));all_goals (first|(refine hQ _ ?_;clear hQ Q)|(refine hQ _ (fun h=>?_) (fun h=>?_) <;> clear hQ Q <;> (try simp only [vki,reduceCtorEq] at h))|(refine kx ?_;kernel_rfl)|omega|assumption|with_reducible rfl|skip)))
  refine qX (fun k:{ k:Nat // k≤nc }=>coA S (xc y k.1).2 s (nc - k.1) (xc y k.1).1) (fun k=>nc - k.1) ⟨0,Nat.zero_le _⟩ ?_ fun ⟨k,hk⟩=>?_
  · (refine Le.ok (fun i=>if i=3 then none else some i) [] ?_;constructor;all_goals (try simp only [vle,vkt,seval,zg,jH,aTk,cTk,qh,eTk,gTk,rTk,mTk,qj,qz,zJ,dI1,wz,qa,qb,coA,coB,coM,yt,pUp,wB,kw,yn,List.length_map,List.map_cons,List.map_nil]))
    all_goals first|rfl|(simp [xc];done)|(intro i hi;rw [if_neg (by omega)];done)
  simp only at hk ⊢
  by_cases hkl:k < nc
  · have d1:decide ((0:Int) < ((nc - k:Nat):Int))=true:=decide_eq_true (by omega)
    have w1:IntKind.wrap .i64 (((nc - k:Nat):Int) - 1)=((nc - (k+1):Nat):Int):=by rw [wrap64 (by omega) (by omega)];omega
    have hl:=(hcb k).1
    have hl1:(xc y k).1.length+1≤maxLen:=by omega
    have hS1:(xc y (k+1)).1=(xc y k).1++[⟨1+upV (xc y k).2 2,decide (upV (upS (xc y k).2 2) 2 < 2)⟩]:=by rw [xc]
    have hS2:(xc y (k+1)).2=upS (upS (xc y k).2 2) 2:=by rw [xc]
    repeat' (first|(apply nx;with_reducible constructor)|refine jq (by decide) ?_|((first|refine kz env fun Q hQ=>?_|refine kj fun Q hQ=>?_);simp only [vkt,seval,zg,jH,aTk,cTk,qh,eTk,gTk,rTk,mTk,qj,qz,zJ,dI1,wz,qa,qb,coA,coB,coM,yt,pUp,wB,kw,yn,List.length_map,List.map_cons,List.map_nil,d1,w1,hl1];(try simp only [ite_and]);(repeat' (first|with_reducible assumption|refine And.intro ?_ ?_|intro hp));all_goals (first|(refine hQ _ ?_;clear hQ Q)|(refine hQ _ (fun h=>?_) (fun h=>?_) <;> clear hQ Q <;> (try simp only [vki,reduceCtorEq] at h))|(refine kx ?_;kernel_rfl)|omega|assumption|with_reducible rfl|skip)))
    refine ⟨⟨k+1,hkl⟩,by show nc - (k+1) < nc - k;omega, ?_⟩
    show Le _ (coA S (xc y (k+1)).2 s (nc - (k+1)) (xc y (k+1)).1)
    rw [hS1,hS2]
    (refine Le.ok (fun i=>if i=3 then some 5 else some i) [] ?_;constructor;all_goals (try simp only [vle,vkt,seval,zg,jH,aTk,cTk,qh,eTk,gTk,rTk,mTk,qj,qz,zJ,dI1,wz,qa,qb,coA,coB,coM,yt,pUp,wB,kw,yn,List.length_map,List.map_cons,List.map_nil]))
    all_goals first|rfl|(rw [List.map_append];rfl)|(simp;done)|(intro i hi;rw [if_neg (by omega)];done)
  · have d1:decide ((0:Int) < ((nc - k:Nat):Int))=false:=decide_eq_false (by omega)
    obtain rfl:k=nc:=by omega
    obtain ⟨hcl,hcm⟩:=hcb k
    obtain ⟨⟨cs,u⟩,hcu⟩:∃ c,xc y k=c:=⟨_,rfl⟩
    rw [hcu] at hcl hcm hnt hnt1 hz ⊢
    simp only at hcl hcm hnt hnt1 hz ⊢
    repeat' (first|(apply nx;with_reducible constructor)|refine jq (by decide) ?_|((first|refine kz env fun Q hQ=>?_|refine kj fun Q hQ=>?_);simp only [vkt,seval,zg,jH,aTk,cTk,qh,eTk,gTk,rTk,mTk,qj,qz,zJ,dI1,wz,qa,qb,coA,coB,coM,yt,pUp,wB,kw,yn,List.length_map,List.map_cons,List.map_nil,d1,m3,hnt1,hz];(try simp only [ite_and]);(repeat' (first|with_reducible assumption|refine And.intro ?_ ?_|intro hp));all_goals (first|(refine hQ _ ?_;clear hQ Q)|(refine hQ _ (fun h=>?_) (fun h=>?_) <;> clear hQ Q <;> (try simp only [vki,reduceCtorEq] at h))|(refine kx ?_;kernel_rfl)|omega|assumption|with_reducible rfl|skip)))
    refine qX (fun j:{ j:Nat // j≤nt }=>coB cs S (tkK cs S z j.1).2.2 (tkK cs S z j.1).1 (nt - j.1) (tkK cs S z j.1).2.1) (fun j=>nt - j.1) ⟨0,Nat.zero_le _⟩ ?_ fun ⟨j,hj⟩=>?_
    · (refine Le.ok (fun i=>if i=4 then none else some i) [] ?_;constructor;all_goals (try simp only [vle,vkt,seval,zg,jH,aTk,cTk,qh,eTk,gTk,rTk,mTk,qj,qz,zJ,dI1,wz,qa,qb,coA,coB,coM,yt,pUp,wB,kw,yn,List.length_map,List.map_cons,List.map_nil]))
      all_goals first|rfl|(simp [tkK];done)|(intro i hi;rw [if_neg (by omega)];done)
    simp only at hj ⊢
    by_cases hjl:j < nt
    · have d1:decide ((0:Int) < ((nt - j:Nat):Int))=true:=decide_eq_true (by omega)
      have w1:IntKind.wrap .i64 (((nt - j:Nat):Int) - 1)=((nt - (j+1):Nat):Int):=by rw [wrap64 (by omega) (by omega)];omega
      obtain ⟨hp0,hp3,hll⟩:=KX cs S z j
      have hK1:tkK cs S z (j+1)=((pA (tkK cs S z j).1 (tkK cs S z j).2.2).1,if Z8 (tkK cs S z j).2.1 (vW cs S (pA (tkK cs S z j).1 (tkK cs S z j).2.2).1 (pA (tkK cs S z j).1 (tkK cs S z j).2.2).2).1 then (tkK cs S z j).2.1++[(vW cs S (pA (tkK cs S z j).1 (tkK cs S z j).2.2).1 (pA (tkK cs S z j).1 (tkK cs S z j).2.2).2).1] else (tkK cs S z j).2.1,(vW cs S (pA (tkK cs S z j).1 (tkK cs S z j).2.2).1 (pA (tkK cs S z j).1 (tkK cs S z j).2.2).2).2):=by rw [tkK]
      obtain ⟨⟨p,l,s0⟩,hK⟩:∃ q,tkK cs S z j=q:=⟨_,rfl⟩
      rw [hK] at hp0 hp3 hll hK1 ⊢
      simp only at hp0 hp3 hll hK1 ⊢
      have hl1:l.length+1≤maxLen:=by omega
      have hl100:l.length≤100:=by omega
      obtain ⟨⟨p1,s1⟩,hA⟩:∃ q,pA p s0=q:=⟨_,rfl⟩
      have hAc:=QfN hA ⟨hp0,by omega⟩
      rw [hA] at hK1
      simp only at hK1
      have hn0:=up2 s1 (m:=(k:Int) - 1) (by omega) (by omega)
      obtain ⟨n,hn⟩:∃ n:Nat,upV s1 ((k:Int) - 1)=n:=⟨(upV s1 ((k:Int) - 1)).toNat,by omega⟩
      obtain ⟨s2,hs2⟩:∃ q,upS s1 ((k:Int) - 1)=q:=⟨_,rfl⟩
      obtain ⟨sx,hsx⟩:∃ q,([1,2]:List Int).getD (upV s2 1).toNat 0=q:=⟨_,rfl⟩
      obtain ⟨s3,hs3⟩:∃ q,upS s2 1=q:=⟨_,rfl⟩
      have hnk:n < cs.length:=by omega
      obtain ⟨cb,hcbv⟩:∃ q,cs.getD n default=q:=⟨_,rfl⟩
      have hcg:=Qi4 hnk
      rw [hcbv] at hcg
      have hbb:=hcm cb (by rw [← hcbv];exact vK hnk)
      obtain ⟨bd,hbd⟩:∃ q,upV s3 (cb.beds - 1)=q:=⟨_,rfl⟩
      obtain ⟨s4,hs4⟩:∃ q,upS s3 (cb.beds - 1)=q:=⟨_,rfl⟩
      have hf0:=up2 s4 (m:=S - 1) (by omega) (by omega)
      obtain ⟨f,hf⟩:∃ q,upV s4 (S - 1)=q:=⟨_,rfl⟩
      rw [hf] at hf0
      obtain ⟨s5,hs5⟩:∃ q,upS s4 (S - 1)=q:=⟨_,rfl⟩
      obtain ⟨dg,hdg⟩:∃ q,decide (upV s5 7 < 1)=q:=⟨_,rfl⟩
      obtain ⟨s6,hs6⟩:∃ q,upS s5 7=q:=⟨_,rfl⟩
      obtain ⟨tt,htt⟩:∃ q,f+1+upV s6 (S - (f+1))=q:=⟨_,rfl⟩
      obtain ⟨s7,hs7⟩:∃ q,upS s6 (S - (f+1))=q:=⟨_,rfl⟩
      have hTn:vW cs S p1 s1=(⟨p1,sx,n,bd,f,tt,dg⟩,s7):=by
        unfold vW
        simp only [hcl,hn,hs2,hsx,hs3,Int.toNat_natCast,hcbv,hbd,hs4,hf,hs5,hdg,hs6,htt,hs7]
      rw [hTn] at hK1
      simp only at hK1
      have w2:IntKind.wrap .i64 ((k:Int) - 1)=(k:Int) - 1:=wrap64 (by omega) (by omega)
      have w3:IntKind.wrap .i64 (cb.beds - 1)=cb.beds - 1:=wrap64 (by omega) (by omega)
      have w4:IntKind.wrap .i64 (S - 1)=S - 1:=wrap64 (by omega) (by omega)
      have w5:IntKind.wrap .i64 (f+1)=f+1:=wrap64 (by omega) (by omega)
      have e1:(k:Int) - 1 < 9223372036854775807:=by omega
      have e2:cb.beds - 1 < 9223372036854775807:=by omega
      have e3:S - 1 < 9223372036854775807:=by omega
      have e4:-100000≤f+1:=by omega
      have e5:f+1≤100000:=by omega
      have e6:-100000≤S:=by omega
      have e7:S≤100000:=by omega
      have i0:((n:Int)).toNat=n:=rfl
      obtain ⟨gb,hgb⟩:∃ q,Z8 l ⟨p1,sx,n,bd,f,tt,dg⟩=q:=⟨_,rfl⟩
      rw [hgb] at hK1
      obtain ⟨bb,sB,hc1,hc2⟩:=hAc
      repeat' (first|(apply nx;with_reducible constructor)|refine jq (by decide) ?_)
      ((first|refine kz env fun Q hQ=>?_|refine kj fun Q hQ=>?_);simp only [vkt,seval,zg,jH,aTk,cTk,qh,eTk,gTk,rTk,mTk,qj,qz,zJ,dI1,wz,qa,qb,coA,coB,coM,yt,pUp,wB,kw,yn,List.length_map,List.map_cons,List.map_nil,d1];(try simp only [ite_and]);(repeat' (first|with_reducible assumption|refine And.intro ?_ ?_|intro hp));all_goals (first|(refine hQ _ ?_;clear hQ Q)|(refine hQ _ (fun h=>?_) (fun h=>?_) <;> clear hQ Q <;> (try simp only [vki,reduceCtorEq] at h))|(refine kx ?_;kernel_rfl)|omega|assumption|with_reducible rfl|skip))
      repeat' (first|(apply nx;with_reducible constructor)|refine jq (by decide) ?_)
      ((first|refine kz env fun Q hQ=>?_|refine kj fun Q hQ=>?_);simp only [vkt,seval,zg,jH,aTk,cTk,qh,eTk,gTk,rTk,mTk,qj,qz,zJ,dI1,wz,qa,qb,coA,coB,coM,yt,pUp,wB,kw,yn,List.length_map,List.map_cons,List.map_nil];(try simp only [ite_and]);(repeat' (first|with_reducible assumption|refine And.intro ?_ ?_|intro hp));all_goals (first|(refine hQ _ ?_;clear hQ Q)|(refine hQ _ (fun h=>?_) (fun h=>?_) <;> clear hQ Q <;> (try simp only [vki,reduceCtorEq] at h))|(refine kx ?_;kernel_rfl)|omega|assumption|with_reducible rfl|skip))
      repeat' (first|(apply nx;with_reducible constructor)|refine jq (by decide) ?_)
      refine Sym.mono (K:=fun e S1=>e=.normal∧Le S1 (coM cs S sB p (nt - j) l [(52,aB bb)] [] 5)) ?_ ?_
      · rcases hc1 with ⟨q0,q1,rfl,rfl⟩|⟨q0,q1,q2,rfl⟩
        all_goals
          ((first|refine kz env fun Q hQ=>?_|refine kj fun Q hQ=>?_);simp only [vkt,seval,zg,jH,aTk,cTk,qh,eTk,gTk,rTk,mTk,qj,qz,zJ,dI1,wz,qa,qb,coA,coB,coM,yt,pUp,wB,kw,yn,List.length_map,List.map_cons,List.map_nil,q0,q1,Bool.not_true,Bool.not_false,Bool.not_not];(try simp only [ite_and]);(repeat' (first|with_reducible assumption|refine And.intro ?_ ?_|intro hp));all_goals (first|(refine hQ _ ?_;clear hQ Q)|(refine hQ _ (fun h=>?_) (fun h=>?_) <;> clear hQ Q <;> (try simp only [vki,reduceCtorEq] at h))|(refine kx ?_;kernel_rfl)|omega|assumption|with_reducible rfl|skip))
          refine ⟨rfl, ?_⟩
          simp only [coM,List.cons_append,List.nil_append]
          (refine Le.ok some [] ?_;constructor;all_goals (try simp only [vle,vkt,seval,zg,jH,aTk,cTk,qh,eTk,gTk,rTk,mTk,qj,qz,zJ,dI1,wz,qa,qb,coA,coB,coM,yt,pUp,wB,kw,yn,List.length_map,List.map_cons,List.map_nil]))
          all_goals first|rfl|(simp;done)
      rintro e S1 ⟨rfl,hle⟩
      refine (xy hle ?_:Sym _ _ _ S1 _)
      clear hle S1 hc1
      refine Sym.mono (K:=fun e S1=>e=.normal∧Le S1 (coM cs S s1 p1 (nt - j) l [] [] 5)) ?_ ?_
      · rcases hc2 with ⟨rfl,wp,hs1⟩|⟨rfl,wp,hs1⟩
        all_goals
          repeat' (first|(apply nx;with_reducible constructor)|refine jq (by decide) ?_|((first|refine kz env fun Q hQ=>?_|refine kj fun Q hQ=>?_);simp only [vkt,seval,zg,jH,aTk,cTk,qh,eTk,gTk,rTk,mTk,qj,qz,zJ,dI1,wz,qa,qb,coA,coB,coM,yt,pUp,wB,kw,yn,List.length_map,List.map_cons,List.map_nil,wp,hs1,List.cons_append,List.nil_append];(try simp only [ite_and]);(repeat' (first|with_reducible assumption|refine And.intro ?_ ?_|intro hp));all_goals (first|(refine hQ _ ?_;clear hQ Q)|(refine hQ _ (fun h=>?_) (fun h=>?_) <;> clear hQ Q <;> (try simp only [vki,reduceCtorEq] at h))|(refine kx ?_;kernel_rfl)|omega|assumption|with_reducible rfl|skip)))
          refine ⟨rfl, ?_⟩
          simp only [coM,List.cons_append,List.nil_append]
          (refine Le.ok some [] ?_;constructor;all_goals (try simp only [vle,vkt,seval,zg,jH,aTk,cTk,qh,eTk,gTk,rTk,mTk,qj,qz,zJ,dI1,wz,qa,qb,coA,coB,coM,yt,pUp,wB,kw,yn,List.length_map,List.map_cons,List.map_nil]))
          all_goals first|rfl|(rw [wp];done)|(rw [hs1];done)|(simp;done)
      rintro e S1 ⟨rfl,hle⟩
      refine (xy hle ?_:Sym _ _ _ S1 _)
      clear hle S1 hc2
      simp only [coM,List.cons_append,List.nil_append,List.append_nil]
      repeat' (first|(apply nx;with_reducible constructor)|refine jq (by decide) ?_)
      refine Sym.mono (K:=fun e S1=>e=.normal∧Le S1 (coM cs S s2 p1 (nt - j) l [(13,aI n)] [] 5)) ?_ ?_
      · ((first|refine kz env fun Q hQ=>?_|refine kj fun Q hQ=>?_);simp only [vkt,seval,zg,jH,aTk,cTk,qh,eTk,gTk,rTk,mTk,qj,qz,zJ,dI1,wz,qa,qb,coA,coB,coM,yt,pUp,wB,kw,yn,List.length_map,List.map_cons,List.map_nil,hcl,w2,hn,hs2];(try simp only [ite_and]);(repeat' (first|with_reducible assumption|refine And.intro ?_ ?_|intro hp));all_goals (first|(refine hQ _ ?_;clear hQ Q)|(refine hQ _ (fun h=>?_) (fun h=>?_) <;> clear hQ Q <;> (try simp only [vki,reduceCtorEq] at h))|(refine kx ?_;kernel_rfl)|omega|assumption|with_reducible rfl|skip))
        refine ⟨rfl, ?_⟩
        simp only [coM,List.cons_append,List.nil_append]
        (refine Le.ok some [] ?_;constructor;all_goals (try simp only [vle,vkt,seval,zg,jH,aTk,cTk,qh,eTk,gTk,rTk,mTk,qj,qz,zJ,dI1,wz,qa,qb,coA,coB,coM,yt,pUp,wB,kw,yn,List.length_map,List.map_cons,List.map_nil]))
        all_goals first|rfl|(simp;done)
      rintro e S1 ⟨rfl,hle⟩
      refine (xy hle ?_:Sym _ _ _ S1 _)
      clear hle S1
      simp only [coM,List.cons_append,List.nil_append,List.append_nil]
      repeat' (first|(apply nx;with_reducible constructor)|refine jq (by decide) ?_)
      refine Sym.mono (K:=fun e S1=>e=.normal∧Le S1 (coM cs S s6 p1 (nt - j) l [(14,.ptr 5 0)] [(5,.cells [aI p1,aI sx,aI n,aI bd,aI f,aI 0,aB dg])] 6)) ?_ ?_
      · ((first|refine kz env fun Q hQ=>?_|refine kj fun Q hQ=>?_);simp only [vkt,seval,zg,jH,aTk,cTk,qh,eTk,gTk,rTk,mTk,qj,qz,zJ,dI1,wz,qa,qb,coA,coB,coM,yt,pUp,wB,kw,yn,List.length_map,List.map_cons,List.map_nil,hsx,hs3,i0,hnk,hcg,w3,hbd,hs4,w4,hf,hs5,hdg,hs6];(try simp only [ite_and]);(repeat' (first|with_reducible assumption|refine And.intro ?_ ?_|intro hp));all_goals (first|(refine hQ _ ?_;clear hQ Q)|(refine hQ _ (fun h=>?_) (fun h=>?_) <;> clear hQ Q <;> (try simp only [vki,reduceCtorEq] at h))|(refine kx ?_;kernel_rfl)|omega|assumption|with_reducible rfl|skip))
        · exact ⟨_,_,rfl⟩
        refine ⟨rfl, ?_⟩
        simp only [coM,List.cons_append,List.nil_append]
        (refine Le.ok (fun i=>if i=5 then some 6 else some i) [] ?_;constructor;all_goals (try simp only [vle,vkt,seval,zg,jH,aTk,cTk,qh,eTk,gTk,rTk,mTk,qj,qz,zJ,dI1,wz,qa,qb,coA,coB,coM,yt,pUp,wB,kw,yn,List.length_map,List.map_cons,List.map_nil]))
        all_goals first|rfl|(simp;done)|(intro i hi;rw [if_neg (by omega)];done)
      rintro e S1 ⟨rfl,hle⟩
      refine (xy hle ?_:Sym _ _ _ S1 _)
      clear hle S1
      simp only [coM,List.cons_append,List.nil_append,List.append_nil]
      repeat' (first|(apply nx;with_reducible constructor)|refine jq (by decide) ?_)
      ((first|refine kz env fun Q hQ=>?_|refine kj fun Q hQ=>?_);simp only [vkt,seval,zg,jH,aTk,cTk,qh,eTk,gTk,rTk,mTk,qj,qz,zJ,dI1,wz,qa,qb,coA,coB,coM,yt,pUp,wB,kw,yn,List.length_map,List.map_cons,List.map_nil,w5,htt,hs7];(try simp only [ite_and]);(repeat' (first|with_reducible assumption|refine And.intro ?_ ?_|intro hp));all_goals (first|(refine hQ _ ?_;clear hQ Q)|(refine hQ _ (fun h=>?_) (fun h=>?_) <;> clear hQ Q <;> (try simp only [vki,reduceCtorEq] at h))|(refine kx ?_;kernel_rfl)|omega|assumption|with_reducible rfl|skip))
      repeat' (first|(apply nx;with_reducible constructor)|refine jq (by decide) ?_)
      ((first|refine kz env fun Q hQ=>?_|refine kj fun Q hQ=>?_);simp only [vkt,seval,zg,jH,aTk,cTk,qh,eTk,gTk,rTk,mTk,qj,qz,zJ,dI1,wz,qa,qb,coA,coB,coM,yt,pUp,wB,kw,yn,List.length_map,List.map_cons,List.map_nil,hl100,hgb];(try simp only [ite_and]);(repeat' (first|with_reducible assumption|refine And.intro ?_ ?_|intro hp));all_goals (first|(refine hQ _ ?_;clear hQ Q)|(refine hQ _ (fun h=>?_) (fun h=>?_) <;> clear hQ Q <;> (try simp only [vki,reduceCtorEq] at h))|(refine kx ?_;kernel_rfl)|omega|assumption|with_reducible rfl|skip))
      cases gb with
      |true =>
        rw [if_pos rfl] at hK1
        repeat' (first|(apply nx;with_reducible constructor)|refine jq (by decide) ?_|((first|refine kz env fun Q hQ=>?_|refine kj fun Q hQ=>?_);simp only [vkt,seval,zg,jH,aTk,cTk,qh,eTk,gTk,rTk,mTk,qj,qz,zJ,dI1,wz,qa,qb,coA,coB,coM,yt,pUp,wB,kw,yn,List.length_map,List.map_cons,List.map_nil,hl1,w1];(try simp only [ite_and]);(repeat' (first|with_reducible assumption|refine And.intro ?_ ?_|intro hp));all_goals (first|(refine hQ _ ?_;clear hQ Q)|(refine hQ _ (fun h=>?_) (fun h=>?_) <;> clear hQ Q <;> (try simp only [vki,reduceCtorEq] at h))|(refine kx ?_;kernel_rfl)|omega|assumption|with_reducible rfl|skip)))
        refine ⟨⟨j+1,hjl⟩,by show nt - (j+1) < nt - j;omega, ?_⟩
        show Le _ (coB cs S (tkK cs S z (j+1)).2.2 (tkK cs S z (j+1)).1 (nt - (j+1)) (tkK cs S z (j+1)).2.1)
        rw [hK1]
        (refine Le.ok (fun i=>if i=4 then some 7 else some i) [] ?_;constructor;all_goals (try simp only [vle,vkt,seval,zg,jH,aTk,cTk,qh,eTk,gTk,rTk,mTk,qj,qz,zJ,dI1,wz,qa,qb,coA,coB,coM,yt,pUp,wB,kw,yn,List.length_map,List.map_cons,List.map_nil]))
        all_goals first|rfl|(rw [List.map_append];rfl)|(simp;done)|(intro i hi;rw [if_neg (by omega)];done)
      |false =>
        rw [if_neg (by decide)] at hK1
        repeat' (first|(apply nx;with_reducible constructor)|refine jq (by decide) ?_|((first|refine kz env fun Q hQ=>?_|refine kj fun Q hQ=>?_);simp only [vkt,seval,zg,jH,aTk,cTk,qh,eTk,gTk,rTk,mTk,qj,qz,zJ,dI1,wz,qa,qb,coA,coB,coM,yt,pUp,wB,kw,yn,List.length_map,List.map_cons,List.map_nil,hl1,w1];(try simp only [ite_and]);(repeat' (first|with_reducible assumption|refine And.intro ?_ ?_|intro hp));all_goals (first|(refine hQ _ ?_;clear hQ Q)|(refine hQ _ (fun h=>?_) (fun h=>?_) <;> clear hQ Q <;> (try simp only [vki,reduceCtorEq] at h))|(refine kx ?_;kernel_rfl)|omega|assumption|with_reducible rfl|skip)))
        refine ⟨⟨j+1,hjl⟩,by show nt - (j+1) < nt - j;omega, ?_⟩
        show Le _ (coB cs S (tkK cs S z (j+1)).2.2 (tkK cs S z (j+1)).1 (nt - (j+1)) (tkK cs S z (j+1)).2.1)
        rw [hK1]
        (refine Le.ok some [] ?_;constructor;all_goals (try simp only [vle,vkt,seval,zg,jH,aTk,cTk,qh,eTk,gTk,rTk,mTk,qj,qz,zJ,dI1,wz,qa,qb,coA,coB,coM,yt,pUp,wB,kw,yn,List.length_map,List.map_cons,List.map_nil]))
        all_goals first|rfl|(simp;done)
    · have d1:decide ((0:Int) < ((nt - j:Nat):Int))=false:=decide_eq_false (by omega)
      obtain rfl:j=nt:=by omega
      obtain ⟨⟨p,l,s0⟩,hK⟩:∃ q,tkK cs S z j=q:=⟨_,rfl⟩
      rw [hK]
      repeat' (first|(apply nx;with_reducible constructor)|refine jq (by decide) ?_|((first|refine kz env fun Q hQ=>?_|refine kj fun Q hQ=>?_);simp only [vkt,seval,zg,jH,aTk,cTk,qh,eTk,gTk,rTk,mTk,qj,qz,zJ,dI1,wz,qa,qb,coA,coB,coM,yt,pUp,wB,kw,yn,List.length_map,List.map_cons,List.map_nil,d1];(try simp only [ite_and]);(repeat' (first|with_reducible assumption|refine And.intro ?_ ?_|intro hp));all_goals (first|(refine hQ _ ?_;clear hQ Q)|(refine hQ _ (fun h=>?_) (fun h=>?_) <;> clear hQ Q <;> (try simp only [vki,reduceCtorEq] at h))|(refine kx ?_;kernel_rfl)|omega|assumption|with_reducible rfl|skip)))
      (simp only [vrt,Try.results16,vkt,seval,zg,jH,aTk,cTk,qh,eTk,gTk,rTk,mTk,qj,qz,zJ,dI1,wz,qa,qb,coA,coB,coM,yt,pUp,wB,kw,yn,List.length_map,List.map_cons,List.map_nil];refine Fin.ok some [3,4] ?_ ?_ ?_ ?_ ?_ rfl;all_goals (try simp only [vle,vkt,seval,zg,jH,aTk,cTk,qh,eTk,gTk,rTk,mTk,qj,qz,zJ,dI1,wz,qa,qb,coA,coB,coM,yt,pUp,wB,kw,yn,List.length_map,List.map_cons,List.map_nil]))
      all_goals first|rfl|(simp;done)
end Go.Sym.B
namespace Go.Sym.B
open Go Go.Sym Go.Proofs Go.Sym.C
noncomputable def sxV (s:Int):Int:=([1,2]:List Int).getD (upV s 1).toNat 0
theorem Qi7 (s:Int):1≤sxV s∧sxV s≤2:=by
  have h:=up2 s (m:=1) (by omega) (by omega)
  unfold sxV
  obtain h0|h0:(upV s 1).toNat=0∨(upV s 1).toNat=1:=by omega
  · rw [h0];decide
  · rw [h0];decide
end Go.Sym.B
namespace Go.Sym.B
open Go Go.Sym Go.Proofs Go.Sym.C
theorem kL {cs:List Cabin} {s:Int} {l:List Tk}:∀ i o,qg (qO 0 (qw cs s l)) i=some o→i < 2∧∀ id ∈ o.ids,id < 2:=by
  intro i o hi
  have h:=qV hi
  simp [qO,qw] at h
  rcases h with ⟨rfl,rfl⟩|⟨rfl,rfl⟩ <;> simp [AObj.ids,AV.ids,AV.idsL,qm,ql]
def yP (S:St):List AV→Option Pk
  |[.ptr c 0,.sl bs]=>match S.h c with
    |some (.cells [.sl cs,.v (.int .i64 s),.row r])=>match S.h r with
      |some (.row _ _ xs)=>some { pre:=bs=(bs.map wS).map qx∧cs=(cs.map qp).map qj∧xs=(xs.map dTk).map eTk∧NearOk (cs.map qp) (bs.map wS),hs:=[c,r],ar:=[.ptr 0 0,.sl bs],L0:=qw (cs.map qp) s (xs.map dTk),v:=aB (KF (cs.map qp) (bs.map wS)),L1:=(qw (cs.map qp) s (xs.map dTk)).map some }
      |_=>none
    |_=>none
  |_=>none
theorem eNear {A:Frm→Prop}:qB A Try.prog 134 (fnE yP):=wE fun S bs q h hp=>by
  unfold yP at h
  split at h
  · split at h
    · split at h
      · cases h
        obtain ⟨h1,h2,h3,h4⟩:=hp
        have:=QgQ _ (by assumption) (List.map dTk (by assumption)) _ h4
        rw [qd,← h1] at this
        exact this
      · cases h
    · cases h
  · cases h
def YG:=kk @xC (kk @jO (kk @QN (kk @yw (kk @Jt (kk @vP.eq_1 (kk @jE.eq_1 (kk @Qb.eq_1 (kk @j3.eq_1 @Zy.eq_1))))))))
def Qbh:=kk @aI.eq_1 (@aB.eq_1)
theorem QgA (cs:List Cabin) (s:Int) (sold:List Tk) (t:Tk) (hl:sold.length≤100):Fn noB Try.prog 95 [.ptr 0 0,aTk t] (qg (qO 0 (qw cs s sold))) (aB (decide (ji t sold=0))) (qg (wH 0 ((qw cs s sold).map some))) 0:=by
  have env:Env (fun _=>True) Try.prog tyB (tab [(124,qU true jL)]):=qP ⟨Qcw,trivial⟩
  refine Fn.of (A:=fun _=>True) (n0:=2) (D:=noD) (Fn0 Try.func95 rfl (fun vs w=>by kernel_rfl) (by kernel_rfl)) (by simp) (by simp [AV.ids,AV.idsL,aTk,cTk]) kL (fun _ _ _ _=>trivial) qF ?_
  have et:(⟨t.party,t.sex,t.cab,t.bed,t.frm,t.to,t.dog⟩:Tk)=t:=rfl
  show Sym _ _ _ (zZ [.ptr 0 0,aTk t] 2 (qg [(0,qm cs s 1),(1,ql sold)])) (xN tyB noD Try.f95 fun S rv=>Fin S rv _ 2 (qg [(0,qm cs s 1),(1,ql sold)]) 0)
  repeat' (first|(apply nx;with_reducible constructor)|refine jq (by decide) ?_|((first|refine kz env fun Q hQ=>?_|refine kj fun Q hQ=>?_);simp only [vkt,seval,YG,Qbh,aTk,cTk,qh,mTk,qm,ql,qw,jL,List.length_map,et];(try simp only [ite_and]);(repeat' (first|with_reducible assumption|refine And.intro ?_ ?_|intro hp));all_goals (first|(refine hQ _ ?_;clear hQ Q)|(refine hQ _ (fun h=>?_) (fun h=>?_) <;> clear hQ Q <;> (try simp only [vki,reduceCtorEq] at h))|(refine kx ?_;kernel_rfl)|omega|assumption|with_reducible rfl|skip)))
  (simp only [vrt,Try.results95,vkt,seval,YG,Qbh,aTk,cTk,qh,mTk,qm,ql,qw,jL,List.length_map];refine Fin.ok some [] ?_ ?_ ?_ ?_ ?_ rfl;all_goals (try simp only [vle,vkt,seval,YG,Qbh,aTk,cTk,qh,mTk,qm,ql,qw,jL,List.length_map]))
  all_goals first|rfl|(simp;done)
def yS (S:St):List AV→Option Pk
  |[.ptr c 0,.agg [.v (.int .i64 a),.v (.int .i64 b),.v (.int .i64 d),.v (.int .i64 e),.v (.int .i64 f),.v (.int .i64 g),.v (.bool k)]]=>match S.h c with
    |some (.cells [.sl cs,.v (.int .i64 s),.row r])=>match S.h r with
      |some (.row _ _ xs)=>some { pre:=cs=(cs.map qp).map qj∧xs=(xs.map dTk).map eTk∧xs.length≤100,hs:=[c,r],ar:=[.ptr 0 0,.agg [.v (.int .i64 a),.v (.int .i64 b),.v (.int .i64 d),.v (.int .i64 e),.v (.int .i64 f),.v (.int .i64 g),.v (.bool k)]],L0:=qw (cs.map qp) s (xs.map dTk),v:=aB (decide (ji ⟨a,b,d,e,f,g,k⟩ (xs.map dTk)=0)),L1:=(qw (cs.map qp) s (xs.map dTk)).map some }
      |_=>none
    |_=>none
  |_=>none
theorem eFits {A:Frm→Prop}:qB A Try.prog 95 (fnE yS):=wE fun S bs q h hp=>by
  unfold yS at h
  split at h
  · rename_i a b d e f g k
    split at h
    · split at h
      · rename_i s _ _ _ _ xs _
        cases h
        obtain ⟨h1,h2,h3⟩:=hp
        exact QgA _ _ _ ⟨a,b,d,e,f,g,k⟩ (by rw [List.length_map];exact h3)
      · cases h
    · cases h
  · cases h
theorem Qhz {l:List Tk} {r:List DV} {d:DV} (hr:r ∈ l.map eTk) (hd:d ∈ r):∃ x,d=.v x:=by
  obtain ⟨t,_,rfl⟩:=List.mem_map.1 hr
  simp only [eTk,List.mem_cons,List.not_mem_nil,or_false] at hd
  rcases hd with rfl|rfl|rfl|rfl|rfl|rfl|rfl <;> exact ⟨_,rfl⟩
def Qf (cs:List Cabin) (s:Int) (l:List Tk) (t:Tk):List AObj:=[qm cs s 4,ql l,.cells [.row 1],.cells [.ptr 0 0],ql (l++[t])]
def Yr:=kk @xC (kk @jO (kk @yw (kk @Zu (kk @Jt (kk @vP.eq_1 (kk @jE.eq_1 (kk @j3.eq_1 (kk @Qv.eq_1 @Zy.eq_1))))))))
def QaO:=kk @aI.eq_1 (@aB.eq_1)
theorem Qhp (cs:List Cabin) (s:Int) (sold:List Tk) (t:Tk) (hl:sold.length≤100):Fn noB Try.prog 96 [.ptr 0 0,aTk t] (qg (qO 0 (qw cs s sold))) (.clo 125 [.ptr 2 0,.ptr 3 0]) (qg (wH 0 ((Qf cs s sold t).map some))) 0:=by
  have env:Env (fun _=>True) Try.prog tyB (tab [(122,fnE kV)]):=qP ⟨Qcy,trivial⟩
  refine Fn.of (A:=fun _=>True) (n0:=2) (D:=noD) (Fn0 Try.func96 rfl (fun vs w=>by kernel_rfl) (by kernel_rfl)) (by simp) (by simp [AV.ids,AV.idsL,aTk,cTk]) kL (fun _ _ _ _=>trivial) qF ?_
  have hm:(100:Nat)+1≤maxLen:=by decide
  show Sym _ _ _ (zZ [.ptr 0 0,aTk t] 2 (qg [(0,qm cs s 1),(1,ql sold)])) (xN tyB noD Try.f96 fun S rv=>Fin S rv _ 2 (qg [(0,qm cs s 4),(1,ql sold),(2,.cells [.row 1]),(3,.cells [.ptr 0 0]),(4,ql (sold++[t]))]) 0)
  repeat' (first|(apply nx;with_reducible constructor)|refine jq (by decide) ?_|((first|refine kz env fun Q hQ=>?_|refine kj fun Q hQ=>?_);simp only [vkt,seval,Yr,QaO,aTk,cTk,qh,mTk,eTk,rTk,qm,ql,qw,Qf,kV,List.length_map,List.length_append,List.map_append];(try simp only [ite_and]);(repeat' (first|with_reducible assumption|refine And.intro ?_ ?_|intro hp));all_goals (first|(refine hQ _ ?_;clear hQ Q)|(refine hQ _ (fun h=>?_) (fun h=>?_) <;> clear hQ Q <;> (try simp only [vki,reduceCtorEq] at h))|(refine kx ?_;kernel_rfl)|omega|assumption|with_reducible rfl|skip)))
  · exact ⟨_,_,rfl⟩
  · exact Qhz (by assumption) (by assumption)
  (simp only [vrt,Try.results96,vkt,seval,Yr,QaO,aTk,cTk,qh,mTk,eTk,rTk,qm,ql,qw,Qf,kV,List.length_map,List.length_append,List.map_append];refine Fin.ok (fun j=>[0,1,4,2,7][j]?) [] ?_ ?_ ?_ ?_ ?_ rfl;all_goals (try simp only [vle,vkt,seval,Yr,QaO,aTk,cTk,qh,mTk,eTk,rTk,qm,ql,qw,Qf,kV,List.length_map,List.length_append,List.map_append]))
  all_goals first|rfl|(simp;done)|exact fun i hi=>(match i,hi with|0,_=>rfl|1,_=>rfl)
def Ym (S:St):List AV→Option Pk
  |[.ptr c 0,.agg [.v (.int .i64 a),.v (.int .i64 b),.v (.int .i64 d),.v (.int .i64 e),.v (.int .i64 f),.v (.int .i64 g),.v (.bool k)]]=>match S.h c with
    |some (.cells [.sl cs,.v (.int .i64 s),.row r])=>match S.h r with
      |some (.row _ _ xs)=>some { pre:=cs=(cs.map qp).map qj∧xs=(xs.map dTk).map eTk∧xs.length≤100,hs:=[c,r],ar:=[.ptr 0 0,.agg [.v (.int .i64 a),.v (.int .i64 b),.v (.int .i64 d),.v (.int .i64 e),.v (.int .i64 f),.v (.int .i64 g),.v (.bool k)]],L0:=qw (cs.map qp) s (xs.map dTk),v:=.clo 125 [.ptr 2 0,.ptr 3 0],L1:=(Qf (cs.map qp) s (xs.map dTk) ⟨a,b,d,e,f,g,k⟩).map some }
      |_=>none
    |_=>none
  |_=>none
theorem eSell {A:Frm→Prop}:qB A Try.prog 96 (fnE Ym):=wE fun S bs q h hp=>by
  unfold Ym at h
  split at h
  · rename_i a b d e f g k
    split at h
    · split at h
      · cases h
        obtain ⟨h1,h2,h3⟩:=hp
        exact Qhp _ _ _ ⟨a,b,d,e,f,g,k⟩ (by rw [List.length_map];exact h3)
      · cases h
    · cases h
  · cases h
def JG:=kk @xC (kk @jO (kk @yw (kk @Zu (kk @Jt (kk @vP.eq_1 (kk @jE.eq_1 (kk @j3.eq_1 (kk @Qv.eq_1 @Zy.eq_1))))))))
def Qa6:=kk @aI.eq_1 (@aB.eq_1)
theorem QeO (cs:List Cabin) (s:Int) (sold:List Tk) (t:Tk):FnD Try.prog 125 [.ptr 2 0,.ptr 3 0] (qg (qO 0 (Qf cs s sold t))) (.tup []) (qg (wH 0 ([qm cs s 1,ql sold,.cells [.row 1],.cells [.ptr 0 0],ql (sold++[t])].map some))):=by
  have env:Env (fun F=>F.r=none) Try.prog tyB (tab []):=qP trivial
  refine FnD.of (n0:=5) (Fn0 Try.func125 rfl (fun vs w=>by kernel_rfl) (by kernel_rfl)) (by simp) (by simp [AV.ids,AV.idsL]) ?_ ?_
  · intro i o hi
    have h:=qV hi
    simp [qO,Qf] at h
    rcases h with ⟨rfl,rfl⟩|⟨rfl,rfl⟩|⟨rfl,rfl⟩|⟨rfl,rfl⟩|⟨rfl,rfl⟩ <;> simp [AObj.ids,AV.ids,AV.idsL,qm,ql]
  show Sym _ _ _ (zZ [.ptr 2 0,.ptr 3 0] 5 (qg [(0,qm cs s 4),(1,ql sold),(2,.cells [.row 1]),(3,.cells [.ptr 0 0]),(4,ql (sold++[t]))])) (Qge tyB Try.f125 fun S rv=>Fin S rv _ 5 (qg [(0,qm cs s 1),(1,ql sold),(2,.cells [.row 1]),(3,.cells [.ptr 0 0]),(4,ql (sold++[t]))]) 0)
  repeat' (first|(apply nx;with_reducible constructor)|refine jq (by decide) ?_|((first|refine kz env fun Q hQ=>?_|refine kj fun Q hQ=>?_);simp only [vkt,seval,JG,Qa6,qm,ql,Qf];(try simp only [ite_and]);(repeat' (first|with_reducible assumption|refine And.intro ?_ ?_|intro hp));all_goals (first|(refine hQ _ ?_;clear hQ Q)|(refine hQ _ (fun h=>?_) (fun h=>?_) <;> clear hQ Q <;> (try simp only [vki,reduceCtorEq] at h))|(refine kx ?_;kernel_rfl)|omega|assumption|with_reducible rfl|skip)))
  simp only [Qge.eq_1]
  refine ⟨trivial, ?_⟩
  (simp only [vrt,Try.results125,vkt,seval,JG,Qa6,qm,ql,Qf];refine Fin.ok some [] ?_ ?_ ?_ ?_ ?_ rfl;all_goals (try simp only [vle,vkt,seval,JG,Qa6,qm,ql,Qf]))
  all_goals first|rfl|(simp;done)
def ZT (S:St):List AV→Option Pk
  |[.ptr b 0,.ptr q 0]=>match S.h b,S.h q with
    |some (.cells [.row r]),some (.cells [.ptr c 0])=>match S.h c with
      |some (.cells [.sl cs,.v (.int .i64 s),.row r'])=>match S.h r,S.h r' with
        |some (.row _ _ xs),some (.row _ _ ys)=>some { pre:=cs=(cs.map qp).map qj∧ys=(xs.map dTk).map eTk++[ys.getLastD []]∧ys.getLastD []=eTk (dTk (ys.getLastD [])),hs:=[c,r,b,q,r'],ar:=[.ptr 2 0,.ptr 3 0],L0:=Qf (cs.map qp) s (xs.map dTk) (dTk (ys.getLastD [])),v:=.tup [],L1:=[qm (cs.map qp) s 1,ql (xs.map dTk),.cells [.row 1],.cells [.ptr 0 0],ql (xs.map dTk++[dTk (ys.getLastD [])])].map some }
        |_,_=>none
      |_=>none
    |_,_=>none
  |_=>none
theorem Qip {A:Frm→Prop}:Q7.OK A Try.prog (dfE 125 ZT):=Qfl fun S bs q h hp=>by
  unfold ZT at h
  split at h
  · split at h
    · split at h
      · split at h
        · cases h
          exact QeO _ _ _ _
        · cases h
      · cases h
    · cases h
  · cases h
end Go.Sym.B
namespace Go.Sym.B
open Go Go.Sym Go.Proofs Go.Sym.C
def wU (cs:List Cabin) (a:Ask):Nat→List Tk→List Bunk→List (List Bunk × List Tk)
  |0,sold,begun=>[(begun,sold)]
  |m+1,sold,begun=>(qQ cs).flatMap fun b=>if goB cs a sold begun b then wU cs a m (sold++[Jq a begun.length b]) (begun++[b]) else []
structure GrowOk (cs:List Cabin) (s:Int) (a:Ask) (m:Nat) (sold:List Tk) (begun:List Bunk) (ys:Nat→List AV) (hl:Nat→List AObj) (ans:Nat→Bool) (R:Nat):Prop where
  sz:begun.length+m=a.sexes.length
  sx:a.sexes.length≤10
  cab:CabsOk cs
  c100:cs.length≤100
  many:sold.length+m≤100
  mem:∀ b ∈ begun,0≤b.cab∧b.cab.toNat < cs.length
  rounds:Rounds ans R (wU cs a m sold begun).length
  ys:∀ j,j < (wU cs a m sold begun).length→ys j=[qd ((wU cs a m sold begun).getD j default).1]
  hl:∀ j,j < (wU cs a m sold begun).length→hl j=qw cs s ((wU cs a m sold begun).getD j default).2
def Xf (cs:List Cabin) (s:Int) (a:Ask) (m:Nat):Prop:=∀ (sold:List Tk) (begun:List Bunk) (ys:Nat→List AV) (hl:Nat→List AObj) (ans:Nat→Bool) (R:Nat),GrowOk cs s a m sold begun ys hl ans R →
  Fn (Bcc Try.prog (qg (qO 0 [qm cs s 1])) (qg (qO 0 (qw cs s sold))) ys (fun j=>nth (hl j)) ans R) Try.prog 115 [.ptr 0 0,qD a,qd begun,.cb] (qg (qO 0 (qw cs s sold))) (aB (Qj ans R)) (qg (wH 0 ((qw cs s sold).map some))) R
def Kv (cs:List Cabin) (s:Int) (a:Ask) (m:Nat) (ys:Nat→List AV) (hl:Nat→List AObj) (ans:Nat→Bool) (R:Nat) (S:St):List AV→Option PkI
  |[.ptr c 0,.agg aa,.sl bs,.cb]=>match S.h c with
    |some (.cells [.sl cc,.v (.int .i64 s'),.row r])=>match S.h r with
      |some (.row _ _ xs)=>some { q:={ pre:=cc=cs.map qj∧s'=s∧aa=qo a∧bs=(bs.map wS).map qx∧xs=(xs.map dTk).map eTk∧GrowOk cs s a m (xs.map dTk) (bs.map wS) (fun j=>ys (S.j+j)) (fun j=>hl (S.j+j)) (fun j=>ans (S.j+j)) (min (wU cs a m (xs.map dTk) (bs.map wS)).length (R - S.j)),hs:=[c,r],ar:=[.ptr 0 0,.agg aa,.sl bs,.cb],L0:=qw cs s (xs.map dTk),v:=aB (Qj (fun j=>ans (S.j+j)) (min (wU cs a m (xs.map dTk) (bs.map wS)).length (R - S.j))),L1:=(qw cs s (xs.map dTk)).map some },dj:=min (wU cs a m (xs.map dTk) (bs.map wS)).length (R - S.j) }
      |_=>none
    |_=>none
  |_=>none
theorem eGrow {A:Frm→Prop} {cs:List Cabin} {s:Int} {a:Ask} {m:Nat} {ys:Nat→List AV} {hl:Nat→List AObj} {ans:Nat→Bool} {R:Nat} {h0:Nat→Option AObj} (ih:Xf cs s a m) (hA:∀ F,A F→Acb Try.prog (qg (qO 0 [qm cs s 1])) h0 ys (fun j=>nth (hl j)) ans R F) :
    qB A Try.prog 115 (fnI [qm cs s 1] R (Kv cs s a m ys hl ans R)):=Ud hA fun S bs q h hp=>by
  unfold Kv at h
  split at h
  · split at h
    · split at h
      · cases h
        obtain ⟨_,_,h3,h4,_,h6⟩:=hp
        have:=ih _ _ _ _ _ _ h6
        rw [qd,← h4,qD,← h3] at this
        exact this
      · cases h
    · cases h
  · cases h
def g1L (cs:List Cabin) (s:Int) (a:Ask) (sold:List Tk) (begun:List Bunk):List AObj:=[qm cs s 1,ql sold,.cells [.ptr 0 0],.cells (qo a),.cells [.sl (begun.map qx)],.cells [.cb]]
theorem QfA {cs:List Cabin} {s:Int} {a:Ask} {sold:List Tk} {begun:List Bunk}:∀ i o,qg (qO 0 (g1L cs s a sold begun)) i=some o→i < 6∧∀ id ∈ o.ids,id < 6:=by
  intro i o hi
  have h:=qV hi
  simp [qO,g1L] at h
  rcases h with ⟨rfl,rfl⟩|⟨rfl,rfl⟩|⟨rfl,rfl⟩|⟨rfl,rfl⟩|⟨rfl,rfl⟩|⟨rfl,rfl⟩ <;> simp [AObj.ids,AV.ids,AV.idsL,qm,ql,qo]
theorem Qfj {cs:List Cabin} {s:Int} {r:List AObj}:∀ i o,qg (qO 0 [qm cs s 1]) i=some o→∃ o',qg (qO 0 (qm cs s 1 :: r)) i=some o':=fun i o hi=>by
  rw [jB] at hi
  cases i with
  |zero=>exact ⟨_,rfl⟩
  |succ i=>simp at hi
def Rk (cs:List Cabin) (s:Int) (a:Ask) (m:Nat):Prop:=∀ (sold:List Tk) (begun:List Bunk) (ys:Nat→List AV) (hl:Nat→List AObj) (ans:Nat→Bool) (R:Nat),GrowOk cs s a m sold begun ys hl ans R →
  Fn (Bcc Try.prog (qg (qO 0 [qm cs s 1])) (qg (qO 0 (g1L cs s a sold begun))) ys (fun j=>nth (hl j)) ans R) Try.prog 136 [.ptr 2 0,.ptr 3 0,.ptr 4 0,.ptr 5 0] (qg (qO 0 (g1L cs s a sold begun))) (aB (Qj ans R)) (qg (wH 0 ((g1L cs s a sold begun).map some))) R
def JP:=kk @JE (kk @J8 (kk @xA (kk @Zu (kk @Qh3 (kk @Wm.eq_1 (kk @WF.eq_1 (kk @vR.eq_1 (kk @Qv.eq_1 @Lc.eq_1))))))))
def Qba:=kk @aI.eq_1 (@aB.eq_1)
theorem Qf6 {cs:List Cabin} {s:Int} {a:Ask} {m:Nat} (ih:Xf cs s a m):Rk cs s a m:=by
  intro sold begun ys hl ans R ok
  obtain ⟨A0,hA0⟩:∃ A0:Frm→Prop,A0=Acb Try.prog (qg (qO 0 [qm cs s 1])) (qg (qO 0 (g1L cs s a sold begun))) ys (fun j=>nth (hl j)) ans R:=⟨_,rfl⟩
  have hA:∀ F,A0 F→Acb Try.prog (qg (qO 0 [qm cs s 1])) (qg (qO 0 (g1L cs s a sold begun))) ys (fun j=>nth (hl j)) ans R F:=fun F h=>hA0 ▸ h
  have env:Env A0 Try.prog tyB (tab [(115,fnI [qm cs s 1] R (Kv cs s a m ys hl ans R))]):=qP ⟨eGrow ih hA,trivial⟩
  refine Fn.of (A:=A0) (n0:=6) (D:=noD) (Fn0 Try.func136 rfl (fun vs w=>by kernel_rfl) (by kernel_rfl)) (by simp) (by simp [AV.ids]) QfA (fun F hb h0 _=>hA0 ▸ ⟨h0,Qfj,hb⟩) qF ?_
  have hle:=ok.rounds.le
  have eR:min (wU cs a m sold begun).length R=R:=by omega
  have ea1:a.sexes=a.sexes:=rfl
  show Sym _ _ _ (zZ [.ptr 2 0,.ptr 3 0,.ptr 4 0,.ptr 5 0] 6 (qg [(0,qm cs s 1),(1,ql sold),(2,.cells [.ptr 0 0]),(3,.cells (qo a)),(4,.cells [.sl (begun.map qx)]),(5,.cells [.cb])])) (xN tyB noD Try.f136 fun S rv=>Fin S rv _ 6 (qg [(0,qm cs s 1),(1,ql sold),(2,.cells [.ptr 0 0]),(3,.cells (qo a)),(4,.cells [.sl (begun.map qx)]),(5,.cells [.cb])]) R)
  repeat' (first|(apply nx;with_reducible constructor)|refine jq (by decide) ?_|((first|refine kz env fun Q hQ=>?_|refine kj fun Q hQ=>?_);simp only [vkt,seval,JP,Qba,aTk,cTk,qD,qo,qd,zf,mTk,qc,qm,ql,qw,g1L,Kv,List.length_map,Go.Sym.tabC,cbX,fnI,ww,qW,nth,hwL,Nat.zero_add,Nat.sub_zero,eR,ok];(try simp only [ite_and]);(repeat' (first|with_reducible assumption|refine And.intro ?_ ?_|intro hp));all_goals (first|(refine hQ _ ?_;clear hQ Q)|(refine hQ _ (fun h=>?_) (fun h=>?_) <;> clear hQ Q <;> (try simp only [vki,reduceCtorEq] at h))|(refine kx ?_;kernel_rfl)|omega|assumption|with_reducible rfl|skip)))
  (simp only [vrt,Try.results136,vkt,seval,JP,Qba,aTk,cTk,qD,qo,qd,zf,mTk,qc,qm,ql,qw,g1L,Kv,List.length_map,Go.Sym.tabC,cbX,fnI,ww,qW,nth,hwL,Nat.zero_add,Nat.sub_zero];refine Fin.ok some [] ?_ ?_ ?_ ?_ ?_ rfl;all_goals (try simp only [vle,vkt,seval,JP,Qba,aTk,cTk,qD,qo,qd,zf,mTk,qc,qm,ql,qw,g1L,Kv,List.length_map,Go.Sym.tabC,cbX,fnI,ww,qW,nth,hwL,Nat.zero_add,Nat.sub_zero]))
  all_goals first|rfl|(simp;done)|exact fun i hi=>(match i,hi with|0,_=>rfl|1,_=>rfl)
def ZE (cs:List Cabin) (s:Int) (a:Ask) (m:Nat) (ys:Nat→List AV) (hl:Nat→List AObj) (ans:Nat→Bool) (R:Nat) (S:St):List AV→Option PkI
  |[.ptr p2 0,.ptr p3 0,.ptr p4 0,.ptr p5 0]=>match S.h p2,S.h p3,S.h p4,S.h p5 with
    |some (.cells [.ptr c 0]),some (.cells aa),some (.cells [.sl bs]),some (.cells [.cb])=>match S.h c with
      |some (.cells [.sl cc,.v (.int .i64 s'),.row r])=>match S.h r with
        |some (.row _ _ xs)=>some { q:={ pre:=cc=cs.map qj∧s'=s∧aa=qo a∧bs=(bs.map wS).map qx∧xs=(xs.map dTk).map eTk∧GrowOk cs s a m (xs.map dTk) (bs.map wS) (fun j=>ys (S.j+j)) (fun j=>hl (S.j+j)) (fun j=>ans (S.j+j)) (min (wU cs a m (xs.map dTk) (bs.map wS)).length (R - S.j)),hs:=[c,r,p2,p3,p4,p5],ar:=[.ptr 2 0,.ptr 3 0,.ptr 4 0,.ptr 5 0],L0:=g1L cs s a (xs.map dTk) (bs.map wS),v:=aB (Qj (fun j=>ans (S.j+j)) (min (wU cs a m (xs.map dTk) (bs.map wS)).length (R - S.j))),L1:=(g1L cs s a (xs.map dTk) (bs.map wS)).map some },dj:=min (wU cs a m (xs.map dTk) (bs.map wS)).length (R - S.j) }
        |_=>none
      |_=>none
    |_,_,_,_=>none
  |_=>none
theorem Qjg {A:Frm→Prop} {cs:List Cabin} {s:Int} {a:Ask} {m:Nat} {ys:Nat→List AV} {hl:Nat→List AObj} {ans:Nat→Bool} {R:Nat} {h0:Nat→Option AObj} (ih:Rk cs s a m) (hA:∀ F,A F→Acb Try.prog (qg (qO 0 [qm cs s 1])) h0 ys (fun j=>nth (hl j)) ans R F) :
    qB A Try.prog 136 (fnI [qm cs s 1] R (ZE cs s a m ys hl ans R)):=Ud hA fun S bs q h hp=>by
  unfold ZE at h
  split at h
  · split at h
    · split at h
      · split at h
        · cases h
          obtain ⟨_,_,_,_,_,h6⟩:=hp
          exact ih _ _ _ _ _ _ h6
        · cases h
      · cases h
    · cases h
  · cases h
def QaW (cs:List Cabin) (s:Int) (a:Ask) (m:Nat):Prop:=∀ (sold:List Tk) (t:Tk) (begun:List Bunk) (ys:Nat→List AV) (hl:Nat→List AObj) (ans:Nat→Bool) (R:Nat),GrowOk cs s a m (sold++[t]) begun ys hl ans R →
  Fn (Bcc Try.prog (qg (qO 0 [qm cs s 1])) (qg (qO 0 (g1L cs s a sold begun))) ys (fun j=>nth (hl j)) ans R) Try.prog 135 [.ptr 0 0,aTk t,.clo 136 [.ptr 2 0,.ptr 3 0,.ptr 4 0,.ptr 5 0]] (qg (qO 0 (g1L cs s a sold begun))) (aB (Qj ans R)) (qg (wH 0 ((g1L cs s a sold begun).map some))) R
def QG:=kk @yw @j3.eq_1
def Y1:=kk @aI.eq_1 (@aB.eq_1)
theorem QgJ {cs:List Cabin} {s:Int} {a:Ask} {m:Nat} (ih:Rk cs s a m):QaW cs s a m:=by
  intro sold t begun ys hl ans R ok
  obtain ⟨A0,hA0⟩:∃ A0:Frm→Prop,A0=fun F=>F.r=none∧Acb Try.prog (qg (qO 0 [qm cs s 1])) (qg (qO 0 (g1L cs s a sold begun))) ys (fun j=>nth (hl j)) ans R F:=⟨_,rfl⟩
  have hr:∀ F,A0 F→F.r=none:=fun F h=>by rw [hA0] at h;exact h.1
  have hA:∀ F,A0 F→Acb Try.prog (qg (qO 0 [qm cs s 1])) (qg (qO 0 (g1L cs s a sold begun))) ys (fun j=>nth (hl j)) ans R F:=fun F h=>by rw [hA0] at h;exact h.2
  have env:Env A0 Try.prog tyB (tab [(96,fnE Ym),(136,fnI [qm cs s 1] R (ZE cs s a m ys hl ans R))]):=qP ⟨eSell,Qjg ih hA,trivial⟩
  refine Fn.of (A:=A0) (n0:=6) (D:=dfE 125 ZT) (Fn0 Try.func135 rfl (fun vs w=>by kernel_rfl) (by kernel_rfl)) (by simp) (by simp [AV.ids,AV.idsL,aTk,cTk]) QfA (fun F hb h0 h1=>by rw [hA0];exact ⟨h1,h0,Qfj,hb⟩) Qip ?_
  have hle:=ok.rounds.le
  have eR:min (wU cs a m (sold++[t]) begun).length R=R:=by omega
  have hs1:=ok.many
  have hs2:sold.length≤100:=by rw [List.length_append] at hs1;omega
  have et:(⟨t.party,t.sex,t.cab,t.bed,t.frm,t.to,t.dog⟩:Tk)=t:=rfl
  have hgl:(List.map eTk sold++[eTk t]).getLastD []=eTk t:=by simp
  have hma:List.map eTk (sold++[t])=List.map eTk sold++[eTk t]:=by simp
  show Sym _ _ _ (zZ [.ptr 0 0,aTk t,.clo 136 [.ptr 2 0,.ptr 3 0,.ptr 4 0,.ptr 5 0]] 6 (qg [(0,qm cs s 1),(1,ql sold),(2,.cells [.ptr 0 0]),(3,.cells (qo a)),(4,.cells [.sl (begun.map qx)]),(5,.cells [.cb])])) (xN tyB _ Try.f135 fun S rv=>Fin S rv _ 6 (qg [(0,qm cs s 1),(1,ql sold),(2,.cells [.ptr 0 0]),(3,.cells (qo a)),(4,.cells [.sl (begun.map qx)]),(5,.cells [.cb])]) R)
  repeat' (first|(apply nx;with_reducible constructor)|refine jq (by decide) ?_)
  (refine kz env fun Q hQ=>?_;simp only [vkt,seval,QG,Y1,aTk,cTk,qo,zf,mTk,qc,qm,ql,qw,Qf,g1L,Ym,ZE,ZT,dfE,List.length_map,fnI,ww,qW,nth,hwL,Nat.zero_add,Nat.sub_zero];(try simp only [ite_and]);(repeat' (first|with_reducible assumption|refine And.intro ?_ ?_|intro hp));all_goals (first|(refine hQ _ ?_;clear hQ Q)|(refine kx ?_;kernel_rfl)|omega|assumption|with_reducible rfl|skip))
  repeat' (first|(apply nx;with_reducible constructor)|refine jq (by decide) ?_)
  refine UJ hr env rfl rfl rfl fun Q hQ=>?_
  simp only [List.dropLast]
  simp only [vkt,seval,QG,Y1,aTk,cTk,qo,zf,mTk,qc,qm,ql,qw,Qf,g1L,Ym,ZE,ZT,dfE,List.length_map,fnI,ww,qW,nth,hwL,Nat.zero_add,Nat.sub_zero,et,hs2]
  repeat' (first|with_reducible assumption|refine And.intro ?_ ?_|intro hp)
  all_goals first|(refine hQ _ _ _ (by simp only [vkt,seval,QG,Y1,aTk,cTk,qo,zf,mTk,qc,qm,ql,qw,Qf,g1L,Ym,ZE,ZT,dfE,List.length_map,fnI,ww,qW,nth,hwL,Nat.zero_add,Nat.sub_zero];rfl) ?_;clear hQ Q)|skip
  dsimp only [put]
  repeat' (first|(apply nx;with_reducible constructor)|refine jq (by decide) ?_|((first|refine kz env fun Q hQ=>?_|refine kj fun Q hQ=>?_);simp only [vkt,seval,QG,Y1,aTk,cTk,qo,zf,mTk,qc,qm,ql,qw,Qf,g1L,Ym,ZE,ZT,dfE,List.length_map,fnI,ww,qW,nth,hwL,Nat.zero_add,Nat.sub_zero,eR,ok,List.append_nil];(try simp only [ite_and]);(repeat' (first|with_reducible assumption|refine And.intro ?_ ?_|intro hp));all_goals (first|(refine hQ _ ?_;clear hQ Q)|(refine hQ _ (fun h=>?_) (fun h=>?_) <;> clear hQ Q <;> (try simp only [vki,reduceCtorEq] at h))|(refine kx ?_;kernel_rfl)|omega|assumption|with_reducible rfl|skip)))
  simp only [vrt,Try.results135,x8.eq_3,vkt,seval,QG,Y1,aTk,cTk,qo,zf,mTk,qc,qm,ql,qw,Qf,g1L,Ym,ZE,ZT,dfE,List.length_map,fnI,ww,qW,nth,hwL,Nat.zero_add,Nat.sub_zero,hgl,hma,Qh1]
  refine Fin.ok some [] ?_ ?_ ?_ ?_ ?_ rfl
  all_goals (try simp only [vle,vkt,seval,QG,Y1,aTk,cTk,qo,zf,mTk,qc,qm,ql,qw,Qf,g1L,Ym,ZE,ZT,dfE,List.length_map,fnI,ww,qW,nth,hwL,Nat.zero_add,Nat.sub_zero])
  all_goals first|rfl|(simp;done)
end Go.Sym.B
namespace Go.Sym.B
open Go Go.Sym Go.Proofs Go.Sym.C
def yR (cs:List Cabin) (s:Int) (a:Ask) (m:Nat) (ys:Nat→List AV) (hl:Nat→List AObj) (ans:Nat→Bool) (R:Nat) (S:St):List AV→Option PkI
  |[.ptr c 0,.agg [.v (.int .i64 t0),.v (.int .i64 t1),.v (.int .i64 t2),.v (.int .i64 t3),.v (.int .i64 t4),.v (.int .i64 t5),.v (.bool t6)],.clo f [.ptr p2 0,.ptr p3 0,.ptr p4 0,.ptr p5 0]]=>match S.h p2,S.h p3,S.h p4,S.h p5 with
    |some (.cells [.ptr c' 0]),some (.cells aa),some (.cells [.sl bs]),some (.cells [.cb])=>match S.h c with
      |some (.cells [.sl cc,.v (.int .i64 s'),.row r])=>match S.h r with
        |some (.row _ _ xs)=>some { q:={ pre:=f=136∧c'=c∧cc=cs.map qj∧s'=s∧aa=qo a∧bs=(bs.map wS).map qx∧xs=(xs.map dTk).map eTk∧GrowOk cs s a m (xs.map dTk++[⟨t0,t1,t2,t3,t4,t5,t6⟩]) (bs.map wS) (fun j=>ys (S.j+j)) (fun j=>hl (S.j+j)) (fun j=>ans (S.j+j)) (min (wU cs a m (xs.map dTk++[⟨t0,t1,t2,t3,t4,t5,t6⟩]) (bs.map wS)).length (R - S.j)),hs:=[c,r,p2,p3,p4,p5],ar:=[.ptr 0 0,.agg [.v (.int .i64 t0),.v (.int .i64 t1),.v (.int .i64 t2),.v (.int .i64 t3),.v (.int .i64 t4),.v (.int .i64 t5),.v (.bool t6)],.clo 136 [.ptr 2 0,.ptr 3 0,.ptr 4 0,.ptr 5 0]],L0:=g1L cs s a (xs.map dTk) (bs.map wS),v:=aB (Qj (fun j=>ans (S.j+j)) (min (wU cs a m (xs.map dTk++[⟨t0,t1,t2,t3,t4,t5,t6⟩]) (bs.map wS)).length (R - S.j))),L1:=(g1L cs s a (xs.map dTk) (bs.map wS)).map some },dj:=min (wU cs a m (xs.map dTk++[⟨t0,t1,t2,t3,t4,t5,t6⟩]) (bs.map wS)).length (R - S.j) }
        |_=>none
      |_=>none
    |_,_,_,_=>none
  |_=>none
theorem eWith {A:Frm→Prop} {cs:List Cabin} {s:Int} {a:Ask} {m:Nat} {ys:Nat→List AV} {hl:Nat→List AObj} {ans:Nat→Bool} {R:Nat} {h0:Nat→Option AObj} (ih:QaW cs s a m) (hA:∀ F,A F→Acb Try.prog (qg (qO 0 [qm cs s 1])) h0 ys (fun j=>nth (hl j)) ans R F) :
    qB A Try.prog 135 (fnI [qm cs s 1] R (yR cs s a m ys hl ans R)):=Ud hA fun S bs q h hp=>by
  unfold yR at h
  split at h
  · split at h
    · split at h
      · split at h
        · cases h
          obtain ⟨_,_,_,_,_,_,_,h6⟩:=hp
          exact ih _ _ _ _ _ _ _ h6
        · cases h
      · cases h
    · cases h
  · cases h
theorem QdO {cs:List Cabin} {s:Int} {l:List Tk}:∀ i o,qg (qO 0 [qm cs s 1]) i=some o→([0,1]:List Nat)[i]?=some i:=fun i o hi=>by
  rw [jB] at hi
  cases i with
  |zero=>rfl
  |succ i=>simp at hi
def zK:=kk @ty3 (kk @ty4 (kk @Wl (kk @jO (kk @JE (kk @J8 (kk @xA (kk @yw (kk @Zu (kk @Jt (kk @Qh3 (kk @ti3.eq_1 (kk @ti4.eq_1 (kk @Zk.eq_1 (kk @jE.eq_1 (kk @Wm.eq_1 (kk @WF.eq_1 (kk @vR.eq_1 (kk @j3.eq_1 (kk @Qv.eq_1 (kk @Zy.eq_1 @Lc.eq_1))))))))))))))))))))
def QaN:=kk @aI.eq_1 (@aB.eq_1)
theorem QcQ (cs:List Cabin) (s:Int) (a:Ask):Xf cs s a 0:=by
  intro sold begun ys hl ans R ok
  obtain ⟨A0,hA0⟩:∃ A0:Frm→Prop,A0=Acb Try.prog (qg (qO 0 [qm cs s 1])) (qg (qO 0 (qw cs s sold))) ys (fun j=>nth (hl j)) ans R:=⟨_,rfl⟩
  have hA:∀ F,A0 F→Acb Try.prog (qg (qO 0 [qm cs s 1])) (qg (qO 0 (qw cs s sold))) ys (fun j=>nth (hl j)) ans R F:=fun F h=>hA0 ▸ h
  have env:Env A0 Try.prog tyB (Go.Sym.tabC (cbX [0,1] ys hl ans R) []):=⟨V5,RD (fun S bs h hS ops o g args tys caps hw ho hg hb=>YO hA (QdO (l:=sold)) (by simp) h hS hw ho hg hb) trivial,by kernel_rfl⟩
  refine Fn.of (A:=A0) (n0:=2) (D:=noD) (Fn0 Try.func115 rfl (fun vs w=>by kernel_rfl) (by kernel_rfl)) (by simp) (by simp [AV.ids,AV.idsL,qD,qo,qd]) kL (fun F hb h0 _=>hA0 ▸ ⟨h0,Qfj,hb⟩) qF ?_
  have hr:=ok.rounds
  have hy:=ok.ys 0 (by simp [wU])
  have hh:=ok.hl 0 (by simp [wU])
  have hsz:=ok.sz
  simp only [wU,List.length_cons,List.length_nil,List.getD_cons_zero] at hr hy hh
  have hR:R=1:=by
    have h1:=hr.le
    have h2:=hr.lt (k:=0) (by omega) (fun j hj=>by omega)
    omega
  subst hR
  rw [qd] at hy
  rw [show Qj ans 1=ans 0 by simp [Qj]]
  have d1:decide ((begun.length:Int)=(a.sexes.length:Int))=true:=decide_eq_true (by omega)
  show Sym _ _ _ (zZ [.ptr 0 0,qD a,qd begun,.cb] 2 (qg [(0,qm cs s 1),(1,ql sold)])) (xN tyB noD Try.f115 fun S rv=>Fin S rv _ 2 (qg [(0,qm cs s 1),(1,ql sold)]) 1)
  repeat' (first|(apply nx;with_reducible constructor)|refine jq (by decide) ?_|((first|refine kz env fun Q hQ=>?_|refine kj fun Q hQ=>?_);simp only [vkt,seval,zK,QaN,qD,qo,qd,zf,mTk,qc,qm,ql,qw,List.length_map,Go.Sym.tabC,cbX,ww,qW,nth,hwL,Nat.zero_add,Nat.sub_zero,hy,hh,d1];(try simp only [ite_and]);(repeat' (first|with_reducible assumption|refine And.intro ?_ ?_|intro hp));all_goals (first|(refine hQ _ ?_;clear hQ Q)|(refine hQ _ (fun h=>?_) (fun h=>?_) <;> clear hQ Q <;> (try simp only [vki,reduceCtorEq] at h))|(refine kx ?_;kernel_rfl)|omega|assumption|with_reducible rfl|skip)))
  (simp only [vrt,Try.results115,vkt,seval,zK,QaN,qD,qo,qd,zf,mTk,qc,qm,ql,qw,List.length_map,Go.Sym.tabC,cbX,ww,qW,nth,hwL,Nat.zero_add,Nat.sub_zero];refine Fin.ok some [] ?_ ?_ ?_ ?_ ?_ rfl;all_goals (try simp only [vle,vkt,seval,zK,QaN,qD,qo,qd,zf,mTk,qc,qm,ql,qw,List.length_map,Go.Sym.tabC,cbX,ww,qW,nth,hwL,Nat.zero_add,Nat.sub_zero]))
  all_goals first|rfl|(simp;done)|exact fun i hi=>(match i,hi with|0,_=>rfl|1,_=>rfl)
def gbL (cs:List Cabin) (a:Ask) (m:Nat) (sold:List Tk) (begun:List Bunk) (b:Bunk):List (List Bunk × List Tk):=if goB cs a sold begun b then wU cs a m (sold++[Jq a begun.length b]) (begun++[b]) else []
def gsL (cs:List Cabin) (a:Ask) (m:Nat) (sold:List Tk) (begun:List Bunk):List Nat:=(qQ cs).map fun b=>(gbL cs a m sold begun b).length
theorem ZL (cs:List Cabin) (a:Ask) (m:Nat) (sold:List Tk) (begun:List Bunk):wU cs a (m+1) sold begun=(qQ cs).flatMap (gbL cs a m sold begun):=rfl
theorem X0 (cs:List Cabin) (a:Ask) (m:Nat) (sold:List Tk) (begun:List Bunk):(wU cs a (m+1) sold begun).length=(gsL cs a m sold begun).sum:=by rw [ZL,Qfv];rfl
theorem Qc3 {cs:List Cabin} {a:Ask} {m:Nat} {sold:List Tk} {begun:List Bunk} {i k:Nat} (hi:i < (qQ cs).length) (hk:k < (gbL cs a m sold begun ((qQ cs).getD i default)).length) :
    (wU cs a (m+1) sold begun).getD (((gsL cs a m sold begun).take i).sum+k) default=(gbL cs a m sold begun ((qQ cs).getD i default)).getD k default:=by
  have:=QbF (gbL cs a m sold begun) default default (qQ cs) i k hi hk
  rw [ZL,gsL,← List.map_take]
  exact this
theorem QeE {cs:List Cabin} {a:Ask} {m:Nat} {sold:List Tk} {begun:List Bunk} {i:Nat} (hi:i < (qQ cs).length):(gsL cs a m sold begun).getD i 0=(gbL cs a m sold begun ((qQ cs).getD i default)).length:=by
  simp [gsL,List.getD_eq_getElem?_getD,hi]
theorem RX {cs:List Cabin} {i:Nat} (hi:i < (qQ cs).length):0≤((qQ cs).getD i default).cab∧((qQ cs).getD i default).cab.toNat < cs.length:=by
  obtain ⟨x,y,h1,h2,h3⟩:=Xz.1 (vK (d:=default) hi)
  rw [h3]
  exact ⟨Int.natCast_nonneg _,by simpa using h1⟩
end Go.Sym.B
