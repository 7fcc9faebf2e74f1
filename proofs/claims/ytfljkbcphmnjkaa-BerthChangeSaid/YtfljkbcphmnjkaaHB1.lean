/- Walks and what they compute, joined: part 1. -/
import Derived.Test.YtfljkbcphmnjkaaHS3
import Derived.Test.YtfljkbcphmnjkaaProg
import Derived.KernelRfl
set_option linter.all false
namespace Go.Sym.B
open Go Go.Sym Go.Proofs
theorem _root_.Go.Sym.kk {a b:Prop} (x:a) (y:b):a∧b:=⟨x,y⟩
def _root_.Go.Sym.jq:=@blockK_miss
def _root_.Go.Sym.jx:=@blockK_hit
def _root_.Go.Sym.jz:=@blockK_n
def _root_.Go.Sym.jk:=@blockK_r
def _root_.Go.Sym.jw:=@thenK_x
def _root_.Go.Sym.jv:=@thenK_r
def _root_.Go.Sym.kq:=@thenK_n
def _root_.Go.Sym.kx:=@drawB_of
def _root_.Go.Sym.kz:=@sym_reg
def _root_.Go.Sym.kj:=@sym_cz
def ti3:TI:={ cells:=1,bytes:=8,td:=.int .i64,zero:=[.v (.int .i64 0)],eqk:=none }
theorem tf3:TyFact Try.prog 3 ti3:=by
  refine ⟨⟨Try.t3,.int .i64 0,by kernel_rfl,rfl,rfl,rfl,rfl,rfl,by simp [Value.cells,Value.oneCell']⟩,⟨_,Try.underlying3,rfl⟩,fun fs h=>?_,fun ks h=>?_,fun q h=>?_⟩
  · cases h
  · cases h
  · cases h
def ti4:TI:={ cells:=1,bytes:=1,td:=.bool,zero:=[.v (.bool false)],eqk:=none }
theorem tf4:TyFact Try.prog 4 ti4:=by
  refine ⟨⟨Try.t4,.bool false,by kernel_rfl,rfl,rfl,rfl,rfl,rfl,by simp [Value.cells,Value.oneCell']⟩,⟨_,Try.underlying4,rfl⟩,fun fs h=>?_,fun ks h=>?_,fun q h=>?_⟩
  · cases h
  · cases h
  · cases h
def ti5:TI:={ cells:=1,bytes:=1,td:=.int .u8,zero:=[.v (.int .u8 0)],eqk:=none }
theorem tf5:TyFact Try.prog 5 ti5:=by
  refine ⟨⟨Try.t5,.int .u8 0,by kernel_rfl,rfl,rfl,rfl,rfl,rfl,by simp [Value.cells,Value.oneCell']⟩,⟨_,Try.underlying5,rfl⟩,fun fs h=>?_,fun ks h=>?_,fun q h=>?_⟩
  · cases h
  · cases h
  · cases h
def ti9:TI:={ cells:=1,bytes:=16,td:=.string,zero:=[.v (.string ⟨#[]⟩)],eqk:=none }
theorem tf9:TyFact Try.prog 9 ti9:=by
  refine ⟨⟨Try.t9,.string ⟨#[]⟩,by kernel_rfl,rfl,rfl,rfl,rfl,rfl,by simp [Value.cells,Value.oneCell']⟩,⟨_,Try.underlying9,rfl⟩,fun fs h=>?_,fun ks h=>?_,fun q h=>?_⟩
  · cases h
  · cases h
  · cases h
def ti22:TI:={ cells:=1,bytes:=24,td:=.slice 3,zero:=[.nil],eqk:=none }
theorem tf22:TyFact Try.prog 22 ti22:=by
  refine ⟨⟨Try.t22,.slice none 0 0,by kernel_rfl,rfl,rfl,rfl,rfl,rfl,by simp [Value.cells,Value.oneCell']⟩,⟨_,Try.underlying22,rfl⟩,fun fs h=>?_,fun ks h=>?_,fun q h=>?_⟩
  · cases h
  · cases h
  · cases h
def ti23:TI:={ cells:=1,bytes:=8,td:=.ptr,zero:=[.v (.pointer none)],eqk:=none }
theorem tf23:TyFact Try.prog 23 ti23:=by
  refine ⟨⟨Try.t23,.pointer none,by kernel_rfl,rfl,rfl,rfl,rfl,rfl,by simp [Value.cells,Value.oneCell']⟩,⟨_,Try.underlying23,⟨_,rfl⟩⟩,fun fs h=>?_,fun ks h=>?_,fun q h=>?_⟩
  · cases h
  · cases h
  · cases h
def ti25:TI:={ cells:=1,bytes:=24,td:=.slice 51,zero:=[.nil],eqk:=none }
theorem tf25:TyFact Try.prog 25 ti25:=by
  refine ⟨⟨Try.t25,.slice none 0 0,by kernel_rfl,rfl,rfl,rfl,rfl,rfl,by simp [Value.cells,Value.oneCell']⟩,⟨_,Try.underlying25,rfl⟩,fun fs h=>?_,fun ks h=>?_,fun q h=>?_⟩
  · cases h
  · cases h
  · cases h
def ti26:TI:={ cells:=1,bytes:=24,td:=.slice 81,zero:=[.nil],eqk:=none }
theorem tf26:TyFact Try.prog 26 ti26:=by
  refine ⟨⟨Try.t26,.slice none 0 0,by kernel_rfl,rfl,rfl,rfl,rfl,rfl,by simp [Value.cells,Value.oneCell']⟩,⟨_,Try.underlying26,rfl⟩,fun fs h=>?_,fun ks h=>?_,fun q h=>?_⟩
  · cases h
  · cases h
  · cases h
def ti28:TI:={ cells:=3,bytes:=56,td:=.struct [(0,1,25),(1,1,3),(2,1,26)],zero:=[.nil,.v (.int .i64 0),.nil],eqk:=none }
theorem tf28:TyFact Try.prog 28 ti28:=by
  refine ⟨⟨Try.t28,.agg #[.slice none 0 0,.int .i64 0,.slice none 0 0],by kernel_rfl,rfl,rfl,rfl,rfl,rfl,by simp [Value.cells,Value.oneCell']⟩,⟨_,Try.underlying28,⟨_,rfl,rfl⟩⟩,fun fs h=>?_,fun ks h=>?_,fun q h=>?_⟩
  · cases h
    simp only [List.mem_cons,List.not_mem_nil,or_false,forall_eq_or_imp,forall_eq]
    exact ⟨⟨Try.t25,by kernel_rfl,rfl⟩,⟨Try.t3,by kernel_rfl,rfl⟩,⟨Try.t26,by kernel_rfl,rfl⟩⟩
  · cases h
  · cases h
def ti31:TI:={ cells:=5,bytes:=56,td:=.struct [(0,1,3),(1,1,3),(2,1,3),(3,1,22),(4,1,4)],zero:=[.v (.int .i64 0),.v (.int .i64 0),.v (.int .i64 0),.nil,.v (.bool false)],eqk:=none }
theorem tf31:TyFact Try.prog 31 ti31:=by
  refine ⟨⟨Try.t31,.agg #[.int .i64 0,.int .i64 0,.int .i64 0,.slice none 0 0,.bool false],by kernel_rfl,rfl,rfl,rfl,rfl,rfl,by simp [Value.cells,Value.oneCell']⟩,⟨_,Try.underlying31,⟨_,rfl,rfl⟩⟩,fun fs h=>?_,fun ks h=>?_,fun q h=>?_⟩
  · cases h
    simp only [List.mem_cons,List.not_mem_nil,or_false,forall_eq_or_imp,forall_eq]
    exact ⟨⟨Try.t3,by kernel_rfl,rfl⟩,⟨Try.t3,by kernel_rfl,rfl⟩,⟨Try.t3,by kernel_rfl,rfl⟩,⟨Try.t22,by kernel_rfl,rfl⟩,⟨Try.t4,by kernel_rfl,rfl⟩⟩
  · cases h
  · cases h
def ti33:TI:={ cells:=1,bytes:=24,td:=.slice 37,zero:=[.nil],eqk:=none }
theorem tf33:TyFact Try.prog 33 ti33:=by
  refine ⟨⟨Try.t33,.slice none 0 0,by kernel_rfl,rfl,rfl,rfl,rfl,rfl,by simp [Value.cells,Value.oneCell']⟩,⟨_,Try.underlying33,rfl⟩,fun fs h=>?_,fun ks h=>?_,fun q h=>?_⟩
  · cases h
  · cases h
  · cases h
def ti34:TI:={ cells:=1,bytes:=8,td:=.int .i64,zero:=[.v (.int .i64 0)],eqk:=none }
theorem tf34:TyFact Try.prog 34 ti34:=by
  refine ⟨⟨Try.t34,.int .i64 0,by kernel_rfl,rfl,rfl,rfl,rfl,rfl,by simp [Value.cells,Value.oneCell']⟩,⟨_,Try.underlying34,rfl⟩,fun fs h=>?_,fun ks h=>?_,fun q h=>?_⟩
  · cases h
  · cases h
  · cases h
def ti37:TI:={ cells:=1,bytes:=24,td:=.slice 49,zero:=[.nil],eqk:=none }
theorem tf37:TyFact Try.prog 37 ti37:=by
  refine ⟨⟨Try.t37,.slice none 0 0,by kernel_rfl,rfl,rfl,rfl,rfl,rfl,by simp [Value.cells,Value.oneCell']⟩,⟨_,Try.underlying37,rfl⟩,fun fs h=>?_,fun ks h=>?_,fun q h=>?_⟩
  · cases h
  · cases h
  · cases h
def ti44:TI:={ cells:=1,bytes:=8,td:=.func,zero:=[.v (.nilFunc)],eqk:=none }
theorem tf44:TyFact Try.prog 44 ti44:=by
  refine ⟨⟨Try.t44,.nilFunc,by kernel_rfl,rfl,rfl,rfl,rfl,rfl,by simp [Value.cells,Value.oneCell']⟩,⟨_,Try.underlying44,⟨_,_,_,rfl⟩⟩,fun fs h=>?_,fun ks h=>?_,fun q h=>?_⟩
  · cases h
  · cases h
  · cases h
def ti45:TI:={ cells:=1,bytes:=8,td:=.func,zero:=[.v (.nilFunc)],eqk:=none }
theorem tf45:TyFact Try.prog 45 ti45:=by
  refine ⟨⟨Try.t45,.nilFunc,by kernel_rfl,rfl,rfl,rfl,rfl,rfl,by simp [Value.cells,Value.oneCell']⟩,⟨_,Try.underlying45,⟨_,_,_,rfl⟩⟩,fun fs h=>?_,fun ks h=>?_,fun q h=>?_⟩
  · cases h
  · cases h
  · cases h
theorem eqd49 (d:Nat) (w:World) (a0 b0:Int) (a1 b1:Int):(Op.equalIn (d+2) 49 (.agg #[.int .i64 a0,.int .i64 a1]) (.agg #[.int .i64 b0,.int .i64 b1])).run Try.prog w=.ok (veqL [.int .i64 a0,.int .i64 a1] [.int .i64 b0,.int .i64 b1]) w:=by
  have h1:Try.prog.underlying 49=some (.struct (Try.prog.fieldsOf 49)):=by kernel_rfl
  have h2 : (Try.prog.fieldsOf 49).toList = [{ name := "Cabin", type := 3, offset := 0, embedded := false, tag := "", pkgPath := "", byteOffset := 0 }, { name := "Bed", type := 3, offset := 1, embedded := false, tag := "", pkgPath := "", byteOffset := 8 }] := by kernel_rfl
  rw [run_equalIn_agg w (d+1) 49 _ _ h1 (by kernel_rfl),h2]
  refine Eq.trans (b:=Result.ok (a0 == b0 && (a1 == b1 && true)) w) ?_ (congrArg (fun r=>Result.ok r w) (by simp [veqL,veq,Bool.and_assoc]))
  exact run_eqF (by simp) (run_part1 (Try.isAgg3) rfl) (run_part1 (Try.isAgg3) rfl) (run_equalIn_int w (d+0) 3 _ _ _ _ Try.underlying3) (run_eqF (by simp) (run_part1 (Try.isAgg3) rfl) (run_part1 (Try.isAgg3) rfl) (run_equalIn_int w (d+0) 3 _ _ _ _ Try.underlying3) (run_eqF_nil))
def ti49:TI:={ cells:=2,bytes:=16,td:=.struct [(0,1,3),(1,1,3)],zero:=[.v (.int .i64 0),.v (.int .i64 0)],eqk:=some [some .i64,some .i64] }
theorem tf49:TyFact Try.prog 49 ti49:=by
  refine ⟨⟨Try.t49,.agg #[.int .i64 0,.int .i64 0],by kernel_rfl,rfl,rfl,rfl,rfl,rfl,by simp [Value.cells,Value.oneCell']⟩,⟨_,Try.underlying49,⟨_,rfl,rfl⟩⟩,fun fs h=>?_,fun ks h=>?_,fun q h=>?_⟩
  · cases h
    simp only [List.mem_cons,List.not_mem_nil,or_false,forall_eq_or_imp,forall_eq]
    exact ⟨⟨Try.t3,by kernel_rfl,rfl⟩,⟨Try.t3,by kernel_rfl,rfl⟩⟩
  · cases h
    refine ⟨by kernel_rfl,fun w xs ys hx hy=>?_⟩
    cases xs with
    |nil=>simp [kindsB] at hx
    |cons x0 xs1 =>
    cases xs1 with
    |nil=>simp [kindsB] at hx
    |cons x1 xs2 =>
    cases xs2 with
    |cons _ _=>simp [kindsB] at hx
    |nil =>
    cases ys with
    |nil=>simp [kindsB] at hy
    |cons y0 ys1 =>
    cases ys1 with
    |nil=>simp [kindsB] at hy
    |cons y1 ys2 =>
    cases ys2 with
    |cons _ _=>simp [kindsB] at hy
    |nil =>
    simp only [kindsB] at hx hy
    obtain ⟨⟨nx0,rfl⟩,⟨nx1,rfl⟩,_⟩:=hx
    obtain ⟨⟨ny0,rfl⟩,⟨ny1,rfl⟩,_⟩:=hy
    exact eqd49 9998 w nx0 ny0 nx1 ny1
  · cases h
theorem eqd51 (d:Nat) (w:World) (a0 b0:Int) (a1 b1:Bool):(Op.equalIn (d+2) 51 (.agg #[.int .i64 a0,.bool a1]) (.agg #[.int .i64 b0,.bool b1])).run Try.prog w=.ok (veqL [.int .i64 a0,.bool a1] [.int .i64 b0,.bool b1]) w:=by
  have h1:Try.prog.underlying 51=some (.struct (Try.prog.fieldsOf 51)):=by kernel_rfl
  have h2 : (Try.prog.fieldsOf 51).toList = [{ name := "Beds", type := 3, offset := 0, embedded := false, tag := "", pkgPath := "", byteOffset := 0 }, { name := "Door", type := 4, offset := 1, embedded := false, tag := "", pkgPath := "", byteOffset := 8 }] := by kernel_rfl
  rw [run_equalIn_agg w (d+1) 51 _ _ h1 (by kernel_rfl),h2]
  refine Eq.trans (b:=Result.ok (a0 == b0 && (a1 == b1 && true)) w) ?_ (congrArg (fun r=>Result.ok r w) (by simp [veqL,veq,Bool.and_assoc]))
  exact run_eqF (by simp) (run_part1 (Try.isAgg3) rfl) (run_part1 (Try.isAgg3) rfl) (run_equalIn_int w (d+0) 3 _ _ _ _ Try.underlying3) (run_eqF (by simp) (run_part1 (Try.isAgg4) rfl) (run_part1 (Try.isAgg4) rfl) (run_equalIn_bool' w (d+0) 4 _ _ Try.underlying4) (run_eqF_nil))
def ti51:TI:={ cells:=2,bytes:=16,td:=.struct [(0,1,3),(1,1,4)],zero:=[.v (.int .i64 0),.v (.bool false)],eqk:=some [some .i64,none] }
theorem tf51:TyFact Try.prog 51 ti51:=by
  refine ⟨⟨Try.t51,.agg #[.int .i64 0,.bool false],by kernel_rfl,rfl,rfl,rfl,rfl,rfl,by simp [Value.cells,Value.oneCell']⟩,⟨_,Try.underlying51,⟨_,rfl,rfl⟩⟩,fun fs h=>?_,fun ks h=>?_,fun q h=>?_⟩
  · cases h
    simp only [List.mem_cons,List.not_mem_nil,or_false,forall_eq_or_imp,forall_eq]
    exact ⟨⟨Try.t3,by kernel_rfl,rfl⟩,⟨Try.t4,by kernel_rfl,rfl⟩⟩
  · cases h
    refine ⟨by kernel_rfl,fun w xs ys hx hy=>?_⟩
    cases xs with
    |nil=>simp [kindsB] at hx
    |cons x0 xs1 =>
    cases xs1 with
    |nil=>simp [kindsB] at hx
    |cons x1 xs2 =>
    cases xs2 with
    |cons _ _=>simp [kindsB] at hx
    |nil =>
    cases ys with
    |nil=>simp [kindsB] at hy
    |cons y0 ys1 =>
    cases ys1 with
    |nil=>simp [kindsB] at hy
    |cons y1 ys2 =>
    cases ys2 with
    |cons _ _=>simp [kindsB] at hy
    |nil =>
    simp only [kindsB] at hx hy
    obtain ⟨⟨nx0,rfl⟩,⟨nx1,rfl⟩,_⟩:=hx
    obtain ⟨⟨ny0,rfl⟩,⟨ny1,rfl⟩,_⟩:=hy
    exact eqd51 9998 w nx0 ny0 nx1 ny1
  · cases h
def ti58:TI:={ cells:=1,bytes:=24,td:=.slice 65,zero:=[.nil],eqk:=none }
theorem tf58:TyFact Try.prog 58 ti58:=by
  refine ⟨⟨Try.t58,.slice none 0 0,by kernel_rfl,rfl,rfl,rfl,rfl,rfl,by simp [Value.cells,Value.oneCell']⟩,⟨_,Try.underlying58,rfl⟩,fun fs h=>?_,fun ks h=>?_,fun q h=>?_⟩
  · cases h
  · cases h
  · cases h
theorem eqd65 (d:Nat) (w:World) (a0 b0:Int) (a1 b1:Int) (a2 b2:Int):(Op.equalIn (d+3) 65 (.agg #[.int .i64 a0,.int .i64 a1,.int .i64 a2]) (.agg #[.int .i64 b0,.int .i64 b1,.int .i64 b2])).run Try.prog w=.ok (veqL [.int .i64 a0,.int .i64 a1,.int .i64 a2] [.int .i64 b0,.int .i64 b1,.int .i64 b2]) w:=by
  have h1:Try.prog.underlying 65=some (.struct (Try.prog.fieldsOf 65)):=by kernel_rfl
  have h2 : (Try.prog.fieldsOf 65).toList = [{ name := "Ticket", type := 3, offset := 0, embedded := false, tag := "", pkgPath := "", byteOffset := 0 }, { name := "Bunk", type := 49, offset := 1, embedded := true, tag := "", pkgPath := "", byteOffset := 8 }] := by kernel_rfl
  rw [run_equalIn_agg w (d+2) 65 _ _ h1 (by kernel_rfl),h2]
  refine Eq.trans (b:=Result.ok (a0 == b0 && (veqL [.int .i64 a1,.int .i64 a2] [.int .i64 b1,.int .i64 b2] && true)) w) ?_ (congrArg (fun r=>Result.ok r w) (by simp [veqL,veq,Bool.and_assoc]))
  exact run_eqF (by simp) (run_part1 (Try.isAgg3) rfl) (run_part1 (Try.isAgg3) rfl) (run_equalIn_int w (d+1) 3 _ _ _ _ Try.underlying3) (run_eqF (by simp) (run_partA (Try.isAgg49) (Try.sizeOf49) rfl) (run_partA (Try.isAgg49) (Try.sizeOf49) rfl) (eqd49 (d+0) w a1 b1 a2 b2) (run_eqF_nil))
def ti65:TI:={ cells:=3,bytes:=24,td:=.struct [(0,1,3),(1,2,49)],zero:=[.v (.int .i64 0),.v (.int .i64 0),.v (.int .i64 0)],eqk:=some [some .i64,some .i64,some .i64] }
theorem tf65:TyFact Try.prog 65 ti65:=by
  refine ⟨⟨Try.t65,.agg #[.int .i64 0,.int .i64 0,.int .i64 0],by kernel_rfl,rfl,rfl,rfl,rfl,rfl,by simp [Value.cells,Value.oneCell']⟩,⟨_,Try.underlying65,⟨_,rfl,rfl⟩⟩,fun fs h=>?_,fun ks h=>?_,fun q h=>?_⟩
  · cases h
    simp only [List.mem_cons,List.not_mem_nil,or_false,forall_eq_or_imp,forall_eq]
    exact ⟨⟨Try.t3,by kernel_rfl,rfl⟩,⟨Try.t49,by kernel_rfl,rfl⟩⟩
  · cases h
    refine ⟨by kernel_rfl,fun w xs ys hx hy=>?_⟩
    cases xs with
    |nil=>simp [kindsB] at hx
    |cons x0 xs1 =>
    cases xs1 with
    |nil=>simp [kindsB] at hx
    |cons x1 xs2 =>
    cases xs2 with
    |nil=>simp [kindsB] at hx
    |cons x2 xs3 =>
    cases xs3 with
    |cons _ _=>simp [kindsB] at hx
    |nil =>
    cases ys with
    |nil=>simp [kindsB] at hy
    |cons y0 ys1 =>
    cases ys1 with
    |nil=>simp [kindsB] at hy
    |cons y1 ys2 =>
    cases ys2 with
    |nil=>simp [kindsB] at hy
    |cons y2 ys3 =>
    cases ys3 with
    |cons _ _=>simp [kindsB] at hy
    |nil =>
    simp only [kindsB] at hx hy
    obtain ⟨⟨nx0,rfl⟩,⟨nx1,rfl⟩,⟨nx2,rfl⟩,_⟩:=hx
    obtain ⟨⟨ny0,rfl⟩,⟨ny1,rfl⟩,⟨ny2,rfl⟩,_⟩:=hy
    exact eqd65 9997 w nx0 ny0 nx1 ny1 nx2 ny2
  · cases h
theorem eqd81 (d:Nat) (w:World) (a0 b0:Int) (a1 b1:Int) (a2 b2:Int) (a3 b3:Int) (a4 b4:Int) (a5 b5:Int) (a6 b6:Bool):(Op.equalIn (d+3) 81 (.agg #[.int .i64 a0,.int .i64 a1,.int .i64 a2,.int .i64 a3,.int .i64 a4,.int .i64 a5,.bool a6]) (.agg #[.int .i64 b0,.int .i64 b1,.int .i64 b2,.int .i64 b3,.int .i64 b4,.int .i64 b5,.bool b6])).run Try.prog w=.ok (veqL [.int .i64 a0,.int .i64 a1,.int .i64 a2,.int .i64 a3,.int .i64 a4,.int .i64 a5,.bool a6] [.int .i64 b0,.int .i64 b1,.int .i64 b2,.int .i64 b3,.int .i64 b4,.int .i64 b5,.bool b6]) w:=by
  have h1:Try.prog.underlying 81=some (.struct (Try.prog.fieldsOf 81)):=by kernel_rfl
  have h2 : (Try.prog.fieldsOf 81).toList = [{ name := "Party", type := 3, offset := 0, embedded := false, tag := "", pkgPath := "", byteOffset := 0 }, { name := "Sex", type := 3, offset := 1, embedded := false, tag := "", pkgPath := "", byteOffset := 8 }, { name := "Bunk", type := 49, offset := 2, embedded := true, tag := "", pkgPath := "", byteOffset := 16 }, { name := "From", type := 3, offset := 4, embedded := false, tag := "", pkgPath := "", byteOffset := 32 }, { name := "To", type := 3, offset := 5, embedded := false, tag := "", pkgPath := "", byteOffset := 40 }, { name := "Dog", type := 4, offset := 6, embedded := false, tag := "", pkgPath := "", byteOffset := 48 }] := by kernel_rfl
  rw [run_equalIn_agg w (d+2) 81 _ _ h1 (by kernel_rfl),h2]
  refine Eq.trans (b:=Result.ok (a0 == b0 && (a1 == b1 && (veqL [.int .i64 a2,.int .i64 a3] [.int .i64 b2,.int .i64 b3] && (a4 == b4 && (a5 == b5 && (a6 == b6 && true)))))) w) ?_ (congrArg (fun r=>Result.ok r w) (by simp [veqL,veq,Bool.and_assoc]))
  exact run_eqF (by simp) (run_part1 (Try.isAgg3) rfl) (run_part1 (Try.isAgg3) rfl) (run_equalIn_int w (d+1) 3 _ _ _ _ Try.underlying3) (run_eqF (by simp) (run_part1 (Try.isAgg3) rfl) (run_part1 (Try.isAgg3) rfl) (run_equalIn_int w (d+1) 3 _ _ _ _ Try.underlying3) (run_eqF (by simp) (run_partA (Try.isAgg49) (Try.sizeOf49) rfl) (run_partA (Try.isAgg49) (Try.sizeOf49) rfl) (eqd49 (d+0) w a2 b2 a3 b3) (run_eqF (by simp) (run_part1 (Try.isAgg3) rfl) (run_part1 (Try.isAgg3) rfl) (run_equalIn_int w (d+1) 3 _ _ _ _ Try.underlying3) (run_eqF (by simp) (run_part1 (Try.isAgg3) rfl) (run_part1 (Try.isAgg3) rfl) (run_equalIn_int w (d+1) 3 _ _ _ _ Try.underlying3) (run_eqF (by simp) (run_part1 (Try.isAgg4) rfl) (run_part1 (Try.isAgg4) rfl) (run_equalIn_bool' w (d+1) 4 _ _ Try.underlying4) (run_eqF_nil))))))
def ti81:TI:={ cells:=7,bytes:=56,td:=.struct [(0,1,3),(1,1,3),(2,2,49),(4,1,3),(5,1,3),(6,1,4)],zero:=[.v (.int .i64 0),.v (.int .i64 0),.v (.int .i64 0),.v (.int .i64 0),.v (.int .i64 0),.v (.int .i64 0),.v (.bool false)],eqk:=some [some .i64,some .i64,some .i64,some .i64,some .i64,some .i64,none] }
theorem tf81:TyFact Try.prog 81 ti81:=by
  refine ⟨⟨Try.t81,.agg #[.int .i64 0,.int .i64 0,.int .i64 0,.int .i64 0,.int .i64 0,.int .i64 0,.bool false],by kernel_rfl,rfl,rfl,rfl,rfl,rfl,by simp [Value.cells,Value.oneCell']⟩,⟨_,Try.underlying81,⟨_,rfl,rfl⟩⟩,fun fs h=>?_,fun ks h=>?_,fun q h=>?_⟩
  · cases h
    simp only [List.mem_cons,List.not_mem_nil,or_false,forall_eq_or_imp,forall_eq]
    exact ⟨⟨Try.t3,by kernel_rfl,rfl⟩,⟨Try.t3,by kernel_rfl,rfl⟩,⟨Try.t49,by kernel_rfl,rfl⟩,⟨Try.t3,by kernel_rfl,rfl⟩,⟨Try.t3,by kernel_rfl,rfl⟩,⟨Try.t4,by kernel_rfl,rfl⟩⟩
  · cases h
    refine ⟨by kernel_rfl,fun w xs ys hx hy=>?_⟩
    cases xs with
    |nil=>simp [kindsB] at hx
    |cons x0 xs1 =>
    cases xs1 with
    |nil=>simp [kindsB] at hx
    |cons x1 xs2 =>
    cases xs2 with
    |nil=>simp [kindsB] at hx
    |cons x2 xs3 =>
    cases xs3 with
    |nil=>simp [kindsB] at hx
    |cons x3 xs4 =>
    cases xs4 with
    |nil=>simp [kindsB] at hx
    |cons x4 xs5 =>
    cases xs5 with
    |nil=>simp [kindsB] at hx
    |cons x5 xs6 =>
    cases xs6 with
    |nil=>simp [kindsB] at hx
    |cons x6 xs7 =>
    cases xs7 with
    |cons _ _=>simp [kindsB] at hx
    |nil =>
    cases ys with
    |nil=>simp [kindsB] at hy
    |cons y0 ys1 =>
    cases ys1 with
    |nil=>simp [kindsB] at hy
    |cons y1 ys2 =>
    cases ys2 with
    |nil=>simp [kindsB] at hy
    |cons y2 ys3 =>
    cases ys3 with
    |nil=>simp [kindsB] at hy
    |cons y3 ys4 =>
    cases ys4 with
    |nil=>simp [kindsB] at hy
    |cons y4 ys5 =>
    cases ys5 with
    |nil=>simp [kindsB] at hy
    |cons y5 ys6 =>
    cases ys6 with
    |nil=>simp [kindsB] at hy
    |cons y6 ys7 =>
    cases ys7 with
    |cons _ _=>simp [kindsB] at hy
    |nil =>
    simp only [kindsB] at hx hy
    obtain ⟨⟨nx0,rfl⟩,⟨nx1,rfl⟩,⟨nx2,rfl⟩,⟨nx3,rfl⟩,⟨nx4,rfl⟩,⟨nx5,rfl⟩,⟨nx6,rfl⟩,_⟩:=hx
    obtain ⟨⟨ny0,rfl⟩,⟨ny1,rfl⟩,⟨ny2,rfl⟩,⟨ny3,rfl⟩,⟨ny4,rfl⟩,⟨ny5,rfl⟩,⟨ny6,rfl⟩,_⟩:=hy
    exact eqd81 9997 w nx0 ny0 nx1 ny1 nx2 ny2 nx3 ny3 nx4 ny4 nx5 ny5 nx6 ny6
  · cases h
def ti84:TI:={ cells:=1,bytes:=24,td:=.slice 31,zero:=[.nil],eqk:=none }
theorem tf84:TyFact Try.prog 84 ti84:=by
  refine ⟨⟨Try.t84,.slice none 0 0,by kernel_rfl,rfl,rfl,rfl,rfl,rfl,by simp [Value.cells,Value.oneCell']⟩,⟨_,Try.underlying84,rfl⟩,fun fs h=>?_,fun ks h=>?_,fun q h=>?_⟩
  · cases h
  · cases h
  · cases h
def ti88:TI:={ cells:=1,bytes:=24,td:=.slice 22,zero:=[.nil],eqk:=none }
theorem tf88:TyFact Try.prog 88 ti88:=by
  refine ⟨⟨Try.t88,.slice none 0 0,by kernel_rfl,rfl,rfl,rfl,rfl,rfl,by simp [Value.cells,Value.oneCell']⟩,⟨_,Try.underlying88,rfl⟩,fun fs h=>?_,fun ks h=>?_,fun q h=>?_⟩
  · cases h
  · cases h
  · cases h
def ti94:TI:={ cells:=1,bytes:=24,td:=.slice 28,zero:=[.nil],eqk:=none }
theorem tf94:TyFact Try.prog 94 ti94:=by
  refine ⟨⟨Try.t94,.slice none 0 0,by kernel_rfl,rfl,rfl,rfl,rfl,rfl,by simp [Value.cells,Value.oneCell']⟩,⟨_,Try.underlying94,rfl⟩,fun fs h=>?_,fun ks h=>?_,fun q h=>?_⟩
  · cases h
  · cases h
  · cases h
def ti100:TI:={ cells:=1,bytes:=8,td:=.int .u64,zero:=[.v (.int .u64 0)],eqk:=none }
theorem tf100:TyFact Try.prog 100 ti100:=by
  refine ⟨⟨Try.t100,.int .u64 0,by kernel_rfl,rfl,rfl,rfl,rfl,rfl,by simp [Value.cells,Value.oneCell']⟩,⟨_,Try.underlying100,rfl⟩,fun fs h=>?_,fun ks h=>?_,fun q h=>?_⟩
  · cases h
  · cases h
  · cases h
def ti102:TI:={ cells:=1,bytes:=8,td:=.struct [(0,1,100)],zero:=[.v (.int .u64 0)],eqk:=none }
theorem tf102:TyFact Try.prog 102 ti102:=by
  refine ⟨⟨Try.t102,.agg #[.int .u64 0],by kernel_rfl,rfl,rfl,rfl,rfl,rfl,by simp [Value.cells,Value.oneCell']⟩,⟨_,Try.underlying102,⟨_,rfl,rfl⟩⟩,fun fs h=>?_,fun ks h=>?_,fun q h=>?_⟩
  · cases h
    simp only [List.mem_cons,List.not_mem_nil,or_false,forall_eq_or_imp,forall_eq]
    exact ⟨Try.t100,by kernel_rfl,rfl⟩
  · cases h
  · cases h
def ti103:TI:={ cells:=1,bytes:=8,td:=.int .u64,zero:=[.v (.int .u64 0)],eqk:=none }
theorem tf103:TyFact Try.prog 103 ti103:=by
  refine ⟨⟨Try.t103,.int .u64 0,by kernel_rfl,rfl,rfl,rfl,rfl,rfl,by simp [Value.cells,Value.oneCell']⟩,⟨_,Try.underlying103,rfl⟩,fun fs h=>?_,fun ks h=>?_,fun q h=>?_⟩
  · cases h
  · cases h
  · cases h
def ti106:TI:={ cells:=1,bytes:=8,td:=.ptr,zero:=[.v (.pointer none)],eqk:=none }
theorem tf106:TyFact Try.prog 106 ti106:=by
  refine ⟨⟨Try.t106,.pointer none,by kernel_rfl,rfl,rfl,rfl,rfl,rfl,by simp [Value.cells,Value.oneCell']⟩,⟨_,Try.underlying106,⟨_,rfl⟩⟩,fun fs h=>?_,fun ks h=>?_,fun q h=>?_⟩
  · cases h
  · cases h
  · cases h
def ti111:TI:={ cells:=1,bytes:=8,td:=.func,zero:=[.v (.nilFunc)],eqk:=none }
theorem tf111:TyFact Try.prog 111 ti111:=by
  refine ⟨⟨Try.t111,.nilFunc,by kernel_rfl,rfl,rfl,rfl,rfl,rfl,by simp [Value.cells,Value.oneCell']⟩,⟨_,Try.underlying111,⟨_,_,_,rfl⟩⟩,fun fs h=>?_,fun ks h=>?_,fun q h=>?_⟩
  · cases h
  · cases h
  · cases h
def ti115:TI:={ cells:=1,bytes:=8,td:=.func,zero:=[.v (.nilFunc)],eqk:=none }
theorem tf115:TyFact Try.prog 115 ti115:=by
  refine ⟨⟨Try.t115,.nilFunc,by kernel_rfl,rfl,rfl,rfl,rfl,rfl,by simp [Value.cells,Value.oneCell']⟩,⟨_,Try.underlying115,⟨_,_,_,rfl⟩⟩,fun fs h=>?_,fun ks h=>?_,fun q h=>?_⟩
  · cases h
  · cases h
  · cases h
def ti118:TI:={ cells:=3,bytes:=56,td:=.struct [(0,3,28)],zero:=[.nil,.v (.int .i64 0),.nil],eqk:=none }
theorem tf118:TyFact Try.prog 118 ti118:=by
  refine ⟨⟨Try.t118,.agg #[.slice none 0 0,.int .i64 0,.slice none 0 0],by kernel_rfl,rfl,rfl,rfl,rfl,rfl,by simp [Value.cells,Value.oneCell']⟩,⟨_,Try.underlying118,⟨_,rfl,rfl⟩⟩,fun fs h=>?_,fun ks h=>?_,fun q h=>?_⟩
  · cases h
    simp only [List.mem_cons,List.not_mem_nil,or_false,forall_eq_or_imp,forall_eq]
    exact ⟨Try.t28,by kernel_rfl,rfl⟩
  · cases h
  · cases h
def ti119:TI:={ cells:=1,bytes:=8,td:=.func,zero:=[.v (.nilFunc)],eqk:=none }
theorem tf119:TyFact Try.prog 119 ti119:=by
  refine ⟨⟨Try.t119,.nilFunc,by kernel_rfl,rfl,rfl,rfl,rfl,rfl,by simp [Value.cells,Value.oneCell']⟩,⟨_,Try.underlying119,⟨_,_,_,rfl⟩⟩,fun fs h=>?_,fun ks h=>?_,fun q h=>?_⟩
  · cases h
  · cases h
  · cases h
def ti121:TI:={ cells:=2,bytes:=32,td:=.struct [(0,1,37),(1,1,119)],zero:=[.nil,.v (.nilFunc)],eqk:=none }
theorem tf121:TyFact Try.prog 121 ti121:=by
  refine ⟨⟨Try.t121,.agg #[.slice none 0 0,.nilFunc],by kernel_rfl,rfl,rfl,rfl,rfl,rfl,by simp [Value.cells,Value.oneCell']⟩,⟨_,Try.underlying121,⟨_,rfl,rfl⟩⟩,fun fs h=>?_,fun ks h=>?_,fun q h=>?_⟩
  · cases h
    simp only [List.mem_cons,List.not_mem_nil,or_false,forall_eq_or_imp,forall_eq]
    exact ⟨⟨Try.t37,by kernel_rfl,rfl⟩,⟨Try.t119,by kernel_rfl,rfl⟩⟩
  · cases h
  · cases h
theorem eqd134 (d:Nat) (w:World) (a0 b0:Int) (a1 b1:Int) (a2 b2:Int):(Op.equalIn (d+3) 134 (.agg #[.int .i64 a0,.int .i64 a1,.int .i64 a2]) (.agg #[.int .i64 b0,.int .i64 b1,.int .i64 b2])).run Try.prog w=.ok (veqL [.int .i64 a0,.int .i64 a1,.int .i64 a2] [.int .i64 b0,.int .i64 b1,.int .i64 b2]) w:=by
  have h1:Try.prog.underlying 134=some (.struct (Try.prog.fieldsOf 134)):=by kernel_rfl
  have h2 : (Try.prog.fieldsOf 134).toList = [{ name := "at", type := 3, offset := 0, embedded := false, tag := "", pkgPath := "couchette/berth", byteOffset := 0 }, { name := "bunk", type := 49, offset := 1, embedded := false, tag := "", pkgPath := "couchette/berth", byteOffset := 8 }] := by kernel_rfl
  rw [run_equalIn_agg w (d+2) 134 _ _ h1 (by kernel_rfl),h2]
  refine Eq.trans (b:=Result.ok (a0 == b0 && (veqL [.int .i64 a1,.int .i64 a2] [.int .i64 b1,.int .i64 b2] && true)) w) ?_ (congrArg (fun r=>Result.ok r w) (by simp [veqL,veq,Bool.and_assoc]))
  exact run_eqF (by simp) (run_part1 (Try.isAgg3) rfl) (run_part1 (Try.isAgg3) rfl) (run_equalIn_int w (d+1) 3 _ _ _ _ Try.underlying3) (run_eqF (by simp) (run_partA (Try.isAgg49) (Try.sizeOf49) rfl) (run_partA (Try.isAgg49) (Try.sizeOf49) rfl) (eqd49 (d+0) w a1 b1 a2 b2) (run_eqF_nil))
theorem chk134 (w:World) (em:Bool) (a0:Int) (a1:Int) (a2:Int):(Instr.checkKey em 10000 134 (.agg #[.int .i64 a0,.int .i64 a1,.int .i64 a2])).run Try.prog w=.ok () w:=by kernel_rfl
def ti132:TI:={ cells:=1,bytes:=8,td:=.map 134 3,zero:=[.v (.map none)],eqk:=none,key:=some { kd:=.agg [some .i64,some .i64,some .i64],z:=.v (.int .i64 0),agg:=false } }
theorem tf132:TyFact Try.prog 132 ti132:=by
  refine ⟨⟨Try.t132,.map none,by kernel_rfl,rfl,rfl,rfl,rfl,rfl,by simp [Value.cells,Value.oneCell']⟩,⟨_,Try.underlying132,rfl⟩,fun fs h=>?_,fun ks h=>?_,fun q h=>?_⟩
  · cases h
  · cases h
  · cases h
    refine ⟨134,3,rfl,mkey_agg Try.underlying134 (fun w xs ys hx hy=>?_) (fun w em xs hx=>?_),fun w=>⟨.int .i64 0,by simp [zeroValue,typeInfo,show Try.prog.info? 3=some Try.t3 by kernel_rfl,Try.t3],fun w' ok ρ y=>?_⟩⟩
    · skip
      cases xs with
      |nil=>simp [kindsB] at hx
      |cons x0 xs1 =>
      cases xs1 with
      |nil=>simp [kindsB] at hx
      |cons x1 xs2 =>
      cases xs2 with
      |nil=>simp [kindsB] at hx
      |cons x2 xs3 =>
      cases xs3 with
      |cons _ _=>simp [kindsB] at hx
      |nil =>
      cases ys with
      |nil=>simp [kindsB] at hy
      |cons y0 ys1 =>
      cases ys1 with
      |nil=>simp [kindsB] at hy
      |cons y1 ys2 =>
      cases ys2 with
      |nil=>simp [kindsB] at hy
      |cons y2 ys3 =>
      cases ys3 with
      |cons _ _=>simp [kindsB] at hy
      |nil =>
      simp only [kindsB] at hx
      obtain ⟨⟨nx0,rfl⟩,⟨nx1,rfl⟩,⟨nx2,rfl⟩,_⟩:=hx
      simp only [kindsB] at hy
      obtain ⟨⟨ny0,rfl⟩,⟨ny1,rfl⟩,⟨ny2,rfl⟩,_⟩:=hy
      exact eqd134 9997 w nx0 ny0 nx1 ny1 nx2 ny2
    · skip
      cases xs with
      |nil=>simp [kindsB] at hx
      |cons x0 xs1 =>
      cases xs1 with
      |nil=>simp [kindsB] at hx
      |cons x1 xs2 =>
      cases xs2 with
      |nil=>simp [kindsB] at hx
      |cons x2 xs3 =>
      cases xs3 with
      |cons _ _=>simp [kindsB] at hx
      |nil =>
      simp only [kindsB] at hx
      obtain ⟨⟨nx0,rfl⟩,⟨nx1,rfl⟩,⟨nx2,rfl⟩,_⟩:=hx
      exact chk134 w em nx0 nx1 nx2
    · exact .v rfl
def ti134:TI:={ cells:=3,bytes:=24,td:=.struct [(0,1,3),(1,2,49)],zero:=[.v (.int .i64 0),.v (.int .i64 0),.v (.int .i64 0)],eqk:=none }
theorem tf134:TyFact Try.prog 134 ti134:=by
  refine ⟨⟨Try.t134,.agg #[.int .i64 0,.int .i64 0,.int .i64 0],by kernel_rfl,rfl,rfl,rfl,rfl,rfl,by simp [Value.cells,Value.oneCell']⟩,⟨_,Try.underlying134,⟨_,rfl,rfl⟩⟩,fun fs h=>?_,fun ks h=>?_,fun q h=>?_⟩
  · cases h
    simp only [List.mem_cons,List.not_mem_nil,or_false,forall_eq_or_imp,forall_eq]
    exact ⟨⟨Try.t3,by kernel_rfl,rfl⟩,⟨Try.t49,by kernel_rfl,rfl⟩⟩
  · cases h
  · cases h
def ti149:TI:={ cells:=1,bytes:=8,td:=.func,zero:=[.v (.nilFunc)],eqk:=none }
theorem tf149:TyFact Try.prog 149 ti149:=by
  refine ⟨⟨Try.t149,.nilFunc,by kernel_rfl,rfl,rfl,rfl,rfl,rfl,by simp [Value.cells,Value.oneCell']⟩,⟨_,Try.underlying149,⟨_,_,_,rfl⟩⟩,fun fs h=>?_,fun ks h=>?_,fun q h=>?_⟩
  · cases h
  · cases h
  · cases h
def ti156:TI:={ cells:=1,bytes:=8,td:=.func,zero:=[.v (.nilFunc)],eqk:=none }
theorem tf156:TyFact Try.prog 156 ti156:=by
  refine ⟨⟨Try.t156,.nilFunc,by kernel_rfl,rfl,rfl,rfl,rfl,rfl,by simp [Value.cells,Value.oneCell']⟩,⟨_,Try.underlying156,⟨_,_,_,rfl⟩⟩,fun fs h=>?_,fun ks h=>?_,fun q h=>?_⟩
  · cases h
  · cases h
  · cases h
theorem eqd160 (d:Nat) (w:World) (a0 b0:Int):(Op.equalIn (d+2) 160 (.agg #[.int .u64 a0]) (.agg #[.int .u64 b0])).run Try.prog w=.ok (veqL [.int .u64 a0] [.int .u64 b0]) w:=by
  have h1:Try.prog.underlying 160=some (.struct (Try.prog.fieldsOf 160)):=by kernel_rfl
  have h2 : (Try.prog.fieldsOf 160).toList = [{ name := "set", type := 158, offset := 0, embedded := false, tag := "", pkgPath := "couchette/berth", byteOffset := 0 }] := by kernel_rfl
  rw [run_equalIn_agg w (d+1) 160 _ _ h1 (by kernel_rfl),h2]
  refine Eq.trans (b:=Result.ok (a0 == b0 && true) w) ?_ (congrArg (fun r=>Result.ok r w) (by simp [veqL,veq,Bool.and_assoc]))
  exact run_eqF (by simp) (run_part1 (Try.isAgg158) rfl) (run_part1 (Try.isAgg158) rfl) (run_equalIn_int w (d+0) 158 _ _ _ _ Try.underlying158) (run_eqF_nil)
theorem chk160 (w:World) (em:Bool) (a0:Int):(Instr.checkKey em 10000 160 (.agg #[.int .u64 a0])).run Try.prog w=.ok () w:=by kernel_rfl
def ti157:TI:={ cells:=1,bytes:=8,td:=.map 160 4,zero:=[.v (.map none)],eqk:=none,key:=some { kd:=.agg [some .u64],z:=.v (.bool false),agg:=false } }
theorem tf157:TyFact Try.prog 157 ti157:=by
  refine ⟨⟨Try.t157,.map none,by kernel_rfl,rfl,rfl,rfl,rfl,rfl,by simp [Value.cells,Value.oneCell']⟩,⟨_,Try.underlying157,rfl⟩,fun fs h=>?_,fun ks h=>?_,fun q h=>?_⟩
  · cases h
  · cases h
  · cases h
    refine ⟨160,4,rfl,mkey_agg Try.underlying160 (fun w xs ys hx hy=>?_) (fun w em xs hx=>?_),fun w=>⟨.bool false,by simp [zeroValue,typeInfo,show Try.prog.info? 4=some Try.t4 by kernel_rfl,Try.t4],fun w' ok ρ y=>?_⟩⟩
    · skip
      cases xs with
      |nil=>simp [kindsB] at hx
      |cons x0 xs1 =>
      cases xs1 with
      |cons _ _=>simp [kindsB] at hx
      |nil =>
      cases ys with
      |nil=>simp [kindsB] at hy
      |cons y0 ys1 =>
      cases ys1 with
      |cons _ _=>simp [kindsB] at hy
      |nil =>
      simp only [kindsB] at hx
      obtain ⟨⟨nx0,rfl⟩,_⟩:=hx
      simp only [kindsB] at hy
      obtain ⟨⟨ny0,rfl⟩,_⟩:=hy
      exact eqd160 9998 w nx0 ny0
    · skip
      cases xs with
      |nil=>simp [kindsB] at hx
      |cons x0 xs1 =>
      cases xs1 with
      |cons _ _=>simp [kindsB] at hx
      |nil =>
      simp only [kindsB] at hx
      obtain ⟨⟨nx0,rfl⟩,_⟩:=hx
      exact chk160 w em nx0
    · exact .v rfl
def ti158:TI:={ cells:=1,bytes:=8,td:=.int .u64,zero:=[.v (.int .u64 0)],eqk:=none }
theorem tf158:TyFact Try.prog 158 ti158:=by
  refine ⟨⟨Try.t158,.int .u64 0,by kernel_rfl,rfl,rfl,rfl,rfl,rfl,by simp [Value.cells,Value.oneCell']⟩,⟨_,Try.underlying158,rfl⟩,fun fs h=>?_,fun ks h=>?_,fun q h=>?_⟩
  · cases h
  · cases h
  · cases h
def ti160:TI:={ cells:=1,bytes:=8,td:=.struct [(0,1,158)],zero:=[.v (.int .u64 0)],eqk:=none }
theorem tf160:TyFact Try.prog 160 ti160:=by
  refine ⟨⟨Try.t160,.agg #[.int .u64 0],by kernel_rfl,rfl,rfl,rfl,rfl,rfl,by simp [Value.cells,Value.oneCell']⟩,⟨_,Try.underlying160,⟨_,rfl,rfl⟩⟩,fun fs h=>?_,fun ks h=>?_,fun q h=>?_⟩
  · cases h
    simp only [List.mem_cons,List.not_mem_nil,or_false,forall_eq_or_imp,forall_eq]
    exact ⟨Try.t158,by kernel_rfl,rfl⟩
  · cases h
  · cases h
def ti164:TI:={ cells:=3,bytes:=24,td:=.array 3 158,zero:=[.v (.int .u64 0),.v (.int .u64 0),.v (.int .u64 0)],eqk:=none }
theorem tf164:TyFact Try.prog 164 ti164:=by
  refine ⟨⟨Try.t164,.agg #[.int .u64 0,.int .u64 0,.int .u64 0],by kernel_rfl,rfl,rfl,rfl,rfl,rfl,by simp [Value.cells,Value.oneCell']⟩,⟨_,Try.underlying164,rfl⟩,fun fs h=>?_,fun ks h=>?_,fun q h=>?_⟩
  · cases h
  · cases h
  · cases h
def ti168:TI:={ cells:=1,bytes:=8,td:=.func,zero:=[.v (.nilFunc)],eqk:=none }
theorem tf168:TyFact Try.prog 168 ti168:=by
  refine ⟨⟨Try.t168,.nilFunc,by kernel_rfl,rfl,rfl,rfl,rfl,rfl,by simp [Value.cells,Value.oneCell']⟩,⟨_,Try.underlying168,⟨_,_,_,rfl⟩⟩,fun fs h=>?_,fun ks h=>?_,fun q h=>?_⟩
  · cases h
  · cases h
  · cases h
def ti170:TI:={ cells:=1,bytes:=8,td:=.func,zero:=[.v (.nilFunc)],eqk:=none }
theorem tf170:TyFact Try.prog 170 ti170:=by
  refine ⟨⟨Try.t170,.nilFunc,by kernel_rfl,rfl,rfl,rfl,rfl,rfl,by simp [Value.cells,Value.oneCell']⟩,⟨_,Try.underlying170,⟨_,_,_,rfl⟩⟩,fun fs h=>?_,fun ks h=>?_,fun q h=>?_⟩
  · cases h
  · cases h
  · cases h
def ti172:TI:={ cells:=1,bytes:=8,td:=.map 3 3,zero:=[.v (.map none)],eqk:=none,key:=some { kd:=.one (.int .i64),z:=.v (.int .i64 0),agg:=false } }
theorem tf172:TyFact Try.prog 172 ti172:=by
  refine ⟨⟨Try.t172,.map none,by kernel_rfl,rfl,rfl,rfl,rfl,rfl,by simp [Value.cells,Value.oneCell']⟩,⟨_,Try.underlying172,rfl⟩,fun fs h=>?_,fun ks h=>?_,fun q h=>?_⟩
  · cases h
  · cases h
  · cases h
    refine ⟨3,3,rfl,mkey_plain Try.underlying3,fun w=>⟨.int .i64 0,by simp [zeroValue,typeInfo,show Try.prog.info? 3=some Try.t3 by kernel_rfl,Try.t3],fun w' ok ρ y=>?_⟩⟩
    exact .v rfl
def ti173:TI:={ cells:=1,bytes:=8,td:=.func,zero:=[.v (.nilFunc)],eqk:=none }
theorem tf173:TyFact Try.prog 173 ti173:=by
  refine ⟨⟨Try.t173,.nilFunc,by kernel_rfl,rfl,rfl,rfl,rfl,rfl,by simp [Value.cells,Value.oneCell']⟩,⟨_,Try.underlying173,⟨_,_,_,rfl⟩⟩,fun fs h=>?_,fun ks h=>?_,fun q h=>?_⟩
  · cases h
  · cases h
  · cases h
def ti188:TI:={ cells:=1,bytes:=4,td:=.int .u32,zero:=[.v (.int .u32 0)],eqk:=none }
theorem tf188:TyFact Try.prog 188 ti188:=by
  refine ⟨⟨Try.t188,.int .u32 0,by kernel_rfl,rfl,rfl,rfl,rfl,rfl,by simp [Value.cells,Value.oneCell']⟩,⟨_,Try.underlying188,rfl⟩,fun fs h=>?_,fun ks h=>?_,fun q h=>?_⟩
  · cases h
  · cases h
  · cases h
def tyL:List (Nat × TI):=[(3,ti3),(4,ti4),(5,ti5),(9,ti9),(22,ti22),(23,ti23),(25,ti25),(26,ti26),(28,ti28),(31,ti31),(33,ti33),(34,ti34),(37,ti37),(44,ti44),(45,ti45),(49,ti49),(51,ti51),(58,ti58),(65,ti65),(81,ti81),(84,ti84),(88,ti88),(94,ti94),(100,ti100),(102,ti102),(103,ti103),(106,ti106),(111,ti111),(115,ti115),(118,ti118),(119,ti119),(121,ti121),(132,ti132),(134,ti134),(149,ti149),(156,ti156),(157,ti157),(158,ti158),(160,ti160),(164,ti164),(168,ti168),(170,ti170),(172,ti172),(173,ti173),(188,ti188)]
def tyOf:List (Nat × TI)→Tys
  |[],_=>none
  |p :: r,t=>if t=p.1 then some p.2 else tyOf r t
def tyB:Tys:=tyOf tyL
theorem ty3:tyB 3=some ti3:=rfl
theorem ty4:tyB 4=some ti4:=rfl
theorem ty22:tyB 22=some ti22:=rfl
theorem ty25:tyB 25=some ti25:=rfl
theorem ty26:tyB 26=some ti26:=rfl
theorem ty28:tyB 28=some ti28:=rfl
theorem ty31:tyB 31=some ti31:=rfl
theorem ty33:tyB 33=some ti33:=rfl
theorem ty34:tyB 34=some ti34:=rfl
theorem ty37:tyB 37=some ti37:=rfl
theorem ty45:tyB 45=some ti45:=rfl
theorem ty49:tyB 49=some ti49:=rfl
theorem ty51:tyB 51=some ti51:=rfl
theorem ty58:tyB 58=some ti58:=rfl
theorem ty65:tyB 65=some ti65:=rfl
theorem ty81:tyB 81=some ti81:=rfl
theorem ty100:tyB 100=some ti100:=rfl
theorem ty102:tyB 102=some ti102:=rfl
theorem ty106:tyB 106=some ti106:=rfl
theorem ty115:tyB 115=some ti115:=rfl
theorem ty118:tyB 118=some ti118:=rfl
theorem ty119:tyB 119=some ti119:=rfl
theorem ty121:tyB 121=some ti121:=rfl
theorem ty132:tyB 132=some ti132:=rfl
theorem ty134:tyB 134=some ti134:=rfl
theorem ty158:tyB 158=some ti158:=rfl
theorem ty164:tyB 164=some ti164:=rfl
theorem ty168:tyB 168=some ti168:=rfl
theorem ty172:tyB 172=some ti172:=rfl
theorem ty173:tyB 173=some ti173:=rfl
theorem tyOf_mem:∀ {L:List (Nat × TI)} {t:Nat} {i:TI},tyOf L t=some i→(t,i) ∈ L
  |p :: r,t,i,h=>by
    simp only [tyOf] at h
    split at h
    · rename_i ht;cases h;rw [ht];exact List.mem_cons_self
    · exact List.mem_cons_of_mem _ (tyOf_mem h)
theorem tyB_ok:TysOK Try.prog tyB:=fun t i h=>by
  have h:=tyOf_mem h
  simp only [tyL,List.mem_cons,List.not_mem_nil,or_false,Prod.mk.injEq] at h
  rcases h with ⟨rfl,rfl⟩|⟨rfl,rfl⟩|⟨rfl,rfl⟩|⟨rfl,rfl⟩|⟨rfl,rfl⟩|⟨rfl,rfl⟩|⟨rfl,rfl⟩|⟨rfl,rfl⟩|⟨rfl,rfl⟩|⟨rfl,rfl⟩|⟨rfl,rfl⟩|⟨rfl,rfl⟩|⟨rfl,rfl⟩|⟨rfl,rfl⟩|⟨rfl,rfl⟩|⟨rfl,rfl⟩|⟨rfl,rfl⟩|⟨rfl,rfl⟩|⟨rfl,rfl⟩|⟨rfl,rfl⟩|⟨rfl,rfl⟩|⟨rfl,rfl⟩|⟨rfl,rfl⟩|⟨rfl,rfl⟩|⟨rfl,rfl⟩|⟨rfl,rfl⟩|⟨rfl,rfl⟩|⟨rfl,rfl⟩|⟨rfl,rfl⟩|⟨rfl,rfl⟩|⟨rfl,rfl⟩|⟨rfl,rfl⟩|⟨rfl,rfl⟩|⟨rfl,rfl⟩|⟨rfl,rfl⟩|⟨rfl,rfl⟩|⟨rfl,rfl⟩|⟨rfl,rfl⟩|⟨rfl,rfl⟩|⟨rfl,rfl⟩|⟨rfl,rfl⟩|⟨rfl,rfl⟩|⟨rfl,rfl⟩|⟨rfl,rfl⟩|⟨rfl,rfl⟩
  · exact tf3
  · exact tf4
  · exact tf5
  · exact tf9
  · exact tf22
  · exact tf23
  · exact tf25
  · exact tf26
  · exact tf28
  · exact tf31
  · exact tf33
  · exact tf34
  · exact tf37
  · exact tf44
  · exact tf45
  · exact tf49
  · exact tf51
  · exact tf58
  · exact tf65
  · exact tf81
  · exact tf84
  · exact tf88
  · exact tf94
  · exact tf100
  · exact tf102
  · exact tf103
  · exact tf106
  · exact tf111
  · exact tf115
  · exact tf118
  · exact tf119
  · exact tf121
  · exact tf132
  · exact tf134
  · exact tf149
  · exact tf156
  · exact tf157
  · exact tf158
  · exact tf160
  · exact tf164
  · exact tf168
  · exact tf170
  · exact tf172
  · exact tf173
  · exact tf188
end Go.Sym.B
namespace Go.Sym.C
def Bd (B:Nat) (q:Rat):Prop:=q.den ∣ 27720∧q.num≤B * q.den∧-(B * q.den:Int)≤q.num
theorem Bd.mono {B C:Nat} {q:Rat} (h:Bd B q) (hB:B≤C):Bd C q:=by
  obtain ⟨h1,h2,h3⟩:=h
  have h4:(B:Int) * q.den≤C * q.den:=by exact_mod_cast Nat.mul_le_mul_right _ hB
  exact ⟨h1,by omega,by omega⟩
theorem den_pos (q:Rat):0 < (q.den:Int):=by have:=q.den_nz;omega
theorem ic (n:Nat):(((n:Nat):Int):Rat)=(n:Rat):=Rat.intCast_natCast n
theorem mul_le {a b c:Rat} (h:0 < c):a * c≤b * c ↔ a≤b:=by rw [← Rat.not_lt,← Rat.not_lt,Rat.mul_lt_mul_right h]
theorem q_mul (q:Rat):q * ((q.den:Int):Rat)=(q.num:Rat):=by
  have g:((q.den:Nat):Rat) ≠ 0:=by exact_mod_cast q.den_nz
  have:q=(q.num:Rat) / ((q.den:Nat):Rat):=by rw [← Rat.mkRat_eq_div,Rat.mkRat_self]
  rw [ic]
  generalize ((q.den:Nat):Rat)=d at *
  generalize (q.num:Rat)=n at *
  grind
theorem den_of {q:Rat} {n:Int} {d:Nat} (hd:d ≠ 0) (h:q * (d:Rat)=n):q.den ∣ d:=by
  have:q=mkRat n d:=by
    rw [Rat.mkRat_eq_div]
    have g:((d:Nat):Rat) ≠ 0:=by exact_mod_cast hd
    generalize ((d:Nat):Rat)=c at *
    grind
  rw [this,Rat.den_mkRat,if_neg hd]
  exact Nat.div_dvd_of_dvd (Nat.gcd_dvd_left _ _)
theorem whole_of {q:Rat} (h:q.den ∣ 27720):∃ n:Int,q * ((27720:Nat):Rat)=n:=by
  obtain ⟨k,hk⟩:=h
  refine ⟨q.num * k, ?_⟩
  have e1:=q_mul q
  rw [hk,ic] at *
  simp only [Rat.natCast_mul,Rat.intCast_mul,ic]
  grind
theorem den_add {q r:Rat} (h:q.den ∣ 27720) (h':r.den ∣ 27720):(q+r).den ∣ 27720:=by
  obtain ⟨n,hn⟩:=whole_of h
  obtain ⟨m,hm⟩:=whole_of h'
  refine den_of (n:=n+m) (by decide) ?_
  simp only [Rat.intCast_add]
  rw [← hn,← hm]
  generalize ((27720:Nat):Rat)=d
  grind
theorem bd_iff {B:Nat} {q:Rat}:Bd B q ↔ q.den ∣ 27720∧q≤(B:Rat)∧-(B:Rat)≤q:=by
  have hp:(0:Rat) < ((q.den:Int):Rat):=by exact_mod_cast den_pos q
  have e:=q_mul q
  have k1:q≤(B:Rat) ↔ q.num≤B * q.den:=by
    rw [← mul_le hp,e]
    rw [show (B:Rat) * ((q.den:Int):Rat)=(((B:Int) * (q.den:Int):Int):Rat) by rw [Rat.intCast_mul,ic B]]
    exact Rat.intCast_le_intCast
  have k2:-(B:Rat)≤q ↔ -(B * q.den:Int)≤q.num:=by
    rw [← mul_le hp,e]
    rw [show -(B:Rat) * ((q.den:Int):Rat)=((-((B:Int) * (q.den:Int)):Int):Rat) by rw [Rat.intCast_neg,Rat.intCast_mul,ic B,Rat.neg_mul]]
    exact Rat.intCast_le_intCast
  unfold Bd
  rw [k1,k2]
theorem Bd.add {B C:Nat} {q r:Rat} (h:Bd B q) (h':Bd C r):Bd (B+C) (q+r):=by
  rw [bd_iff] at *
  refine ⟨den_add h.1 h'.1, ?_, ?_⟩ <;> simp only [Rat.natCast_add] <;> grind
end Go.Sym.C
namespace Go.Sym.B
open Go Go.Sym Go.Proofs Go.Sym.C
structure Bunk where
  cab:Int
  bed:Int
deriving DecidableEq,Inhabited
structure Cabin where
  beds:Int
  door:Bool
deriving DecidableEq,Inhabited
structure Tk where
  party:Int
  sex:Int
  cab:Int
  bed:Int
  frm:Int
  to:Int
  dog:Bool
deriving DecidableEq,Inhabited
structure Tr where
  ticket:Int
  cab:Int
  bed:Int
deriving DecidableEq,Inhabited
structure Chart where
  cabins:List Cabin
  secs:Int
  sold:List Tk
deriving DecidableEq,Inhabited
structure Ask where
  party:Int
  frm:Int
  to:Int
  sexes:List Int
  dog:Bool
deriving DecidableEq,Inhabited
def Tk.bunk (t:Tk):Bunk:=⟨t.cab,t.bed⟩
def dI:DV→Int
  |.v (.int _ n)=>n
  |_=>0
def dB:DV→Bool
  |.v (.bool b)=>b
  |_=>false
def dL:DV→List (List DV)
  |.sl xs=>xs
  |_=>[]
def eInt (n:Int):List DV:=[.v (.int .i64 n)]
def eBunk (b:Bunk):List DV:=[.v (.int .i64 b.cab),.v (.int .i64 b.bed)]
def eCabin (c:Cabin):List DV:=[.v (.int .i64 c.beds),.v (.bool c.door)]
def eTk (t:Tk):List DV:=[.v (.int .i64 t.party),.v (.int .i64 t.sex),.v (.int .i64 t.cab),.v (.int .i64 t.bed),.v (.int .i64 t.frm),.v (.int .i64 t.to),.v (.bool t.dog)]
def eTr (t:Tr):List DV:=[.v (.int .i64 t.ticket),.v (.int .i64 t.cab),.v (.int .i64 t.bed)]
def eBunks (l:List Bunk):List DV:=[.sl (l.map eBunk)]
def dInt (r:List DV):Int:=dI (r.headD (.sl []))
def dBunk:List DV→Bunk
  |[a,b]=>⟨dI a,dI b⟩
  |_=>default
def dCabin:List DV→Cabin
  |[a,b]=>⟨dI a,dB b⟩
  |_=>default
def dTk:List DV→Tk
  |[a,b,c,d,e,f,g]=>⟨dI a,dI b,dI c,dI d,dI e,dI f,dB g⟩
  |_=>default
def dTr:List DV→Tr
  |[a,b,c]=>⟨dI a,dI b,dI c⟩
  |_=>default
def dBunks:List DV→List Bunk
  |[a]=>(dL a).map dBunk
  |_=>[]
theorem dInt_e (n:Int):dInt (eInt n)=n:=rfl
theorem dBunk_e (b:Bunk):dBunk (eBunk b)=b:=rfl
theorem dCabin_e (b:Cabin):dCabin (eCabin b)=b:=rfl
theorem dTk_e (b:Tk):dTk (eTk b)=b:=rfl
theorem dTr_e (b:Tr):dTr (eTr b)=b:=rfl
theorem mInt (l:List Int):(l.map eInt).map dInt=l:=by simp [Function.comp_def,dInt_e]
theorem mBunk (l:List Bunk):(l.map eBunk).map dBunk=l:=by simp [Function.comp_def,dBunk_e]
theorem mCabin (l:List Cabin):(l.map eCabin).map dCabin=l:=by simp [Function.comp_def,dCabin_e]
theorem mTk (l:List Tk):(l.map eTk).map dTk=l:=by simp [Function.comp_def,dTk_e]
theorem mTr (l:List Tr):(l.map eTr).map dTr=l:=by simp [Function.comp_def,dTr_e]
theorem dBunks_e (l:List Bunk):dBunks (eBunks l)=l:=mBunk l
theorem mBunks (l:List (List Bunk)):(l.map eBunks).map dBunks=l:=by simp [Function.comp_def,dBunks_e]
theorem gInt (l:List (Int)) (n:Nat):(l.map eInt).getD n [.v (.int .i64 0)]=eInt (l.getD n 0):=getD_mapD eInt l n 0
theorem rInt (l:List (Int)):rowsOK 1 (l.map eInt)=True:=rowsOK_map (f:=eInt) (k:=1) (fun _=>rfl) l
theorem gBunk (l:List (Bunk)) (n:Nat):(l.map eBunk).getD n [.v (.int .i64 0),.v (.int .i64 0)]=eBunk (l.getD n default):=getD_mapD eBunk l n default
theorem hBunk {l:List (Bunk)} {n:Nat} (h:n < l.length):(l.map eBunk).getD n []=eBunk (l.getD n default):=by simp [List.getD_eq_getElem?_getD,h]
theorem rBunk (l:List (Bunk)):rowsOK 2 (l.map eBunk)=True:=rowsOK_map (f:=eBunk) (k:=2) (fun _=>rfl) l
theorem gCabin (l:List (Cabin)) (n:Nat):(l.map eCabin).getD n [.v (.int .i64 0),.v (.bool false)]=eCabin (l.getD n default):=getD_mapD eCabin l n default
theorem hCabin {l:List (Cabin)} {n:Nat} (h:n < l.length):(l.map eCabin).getD n []=eCabin (l.getD n default):=by simp [List.getD_eq_getElem?_getD,h]
theorem rCabin (l:List (Cabin)):rowsOK 2 (l.map eCabin)=True:=rowsOK_map (f:=eCabin) (k:=2) (fun _=>rfl) l
theorem gTk (l:List (Tk)) (n:Nat):(l.map eTk).getD n [.v (.int .i64 0),.v (.int .i64 0),.v (.int .i64 0),.v (.int .i64 0),.v (.int .i64 0),.v (.int .i64 0),.v (.bool false)]=eTk (l.getD n default):=getD_mapD eTk l n default
theorem hTk {l:List (Tk)} {n:Nat} (h:n < l.length):(l.map eTk).getD n []=eTk (l.getD n default):=by simp [List.getD_eq_getElem?_getD,h]
theorem rTk (l:List (Tk)):rowsOK 7 (l.map eTk)=True:=rowsOK_map (f:=eTk) (k:=7) (fun _=>rfl) l
theorem gTr (l:List (Tr)) (n:Nat):(l.map eTr).getD n [.v (.int .i64 0),.v (.int .i64 0),.v (.int .i64 0)]=eTr (l.getD n default):=getD_mapD eTr l n default
theorem rTr (l:List (Tr)):rowsOK 3 (l.map eTr)=True:=rowsOK_map (f:=eTr) (k:=3) (fun _=>rfl) l
theorem gBunks (l:List (List Bunk)) (n:Nat):(l.map eBunks).getD n [.sl []]=eBunks (l.getD n []):=getD_mapD eBunks l n []
theorem hBunks {l:List (List Bunk)} {n:Nat} (h:n < l.length):(l.map eBunks).getD n []=eBunks (l.getD n []):=by simp [List.getD_eq_getElem?_getD,h]
theorem rBunks (l:List (List Bunk)):rowsOK 1 (l.map eBunks)=True:=rowsOK_map (f:=eBunks) (k:=1) (fun _=>rfl) l
def aI (n:Int):AV:=.v (.int .i64 n)
def aB (b:Bool):AV:=.v (.bool b)
def aBunk (b:Bunk):AV:=.agg [.v (.int .i64 b.cab),.v (.int .i64 b.bed)]
def cTk (t:Tk):List AV:=[.v (.int .i64 t.party),.v (.int .i64 t.sex),.v (.int .i64 t.cab),.v (.int .i64 t.bed),.v (.int .i64 t.frm),.v (.int .i64 t.to),.v (.bool t.dog)]
def aTk (t:Tk):AV:=.agg (cTk t)
def cAsk (a:Ask):List AV:=[.v (.int .i64 a.party),.v (.int .i64 a.frm),.v (.int .i64 a.to),.sl (a.sexes.map eInt),.v (.bool a.dog)]
def aAsk (a:Ask):AV:=.agg (cAsk a)
def cChart (c:Chart):List AV:=[.sl (c.cabins.map eCabin),.v (.int .i64 c.secs),.sl (c.sold.map eTk)]
def aChart (c:Chart):AV:=.agg (cChart c)
def aInts (l:List Int):AV:=.sl (l.map eInt)
def aBunks (l:List Bunk):AV:=.sl (l.map eBunk)
def aBunkss (l:List (List Bunk)):AV:=.sl (l.map eBunks)
def aTks (l:List Tk):AV:=.sl (l.map eTk)
def aCabins (l:List Cabin):AV:=.sl (l.map eCabin)
def aTrs (l:List Tr):AV:=.sl (l.map eTr)
theorem Fn0 {fn:Func} {c:Code} {f:FuncId} (hf:Try.prog.funcs[f]?=some fn) (hb:fn.body=some c) (he:∀ vs w,(callFunc f vs).run Try.prog w=.ok (.enter f vs) w) (hd:dstOK fn.ntmps c=true):FnData Try.prog tyB f fn c:=⟨tyB_ok,hf,hb,he,hd⟩
theorem mkEnv {L:List (FuncId × Entry)} {A:Frm→Prop} (h:allOK A Try.prog L):Env A Try.prog tyB (tab L):=⟨tyB_ok,tab_ok h,by kernel_rfl⟩
end Go.Sym.B
namespace Go.Sym.B
open Go Go.Sym Go.Proofs Go.Sym.C
def bagH (x:Int):List (Nat × AObj):=[(0,.cells [.v (.int .u64 x)])]
def xsh (s:Int) (k:Nat):Int:=IntKind.u64.wrap (BitVec.ofInt IntKind.u64.bits s ^^^ BitVec.ofInt IntKind.u64.bits (s.fdiv (2 ^ min k IntKind.u64.bits))).toNat
def nxS (x:Int):Int:=IntKind.u64.wrap (IntKind.u64.wrap (x * 2862933555777941757)+3037000493)
def nxV (x:Int):Int:=xsh (IntKind.u64.wrap (xsh (nxS x) 31 * 10723151780598845931)) 30
def tbE1_next:=kk @ty100 (kk @ty102 (kk @ti100.eq_1 @ti102.eq_1))
def xbE1_1:=kk @aI.eq_1 (@aB.eq_1)
theorem next_fn (x:Int):Fn noB Try.prog 90 [.ptr 0 0] (hasg (bagH x)) (.v (.int .u64 (nxV x))) (hasg (bagH (nxS x))) 0:=by
  have env:Env (fun _=>True) Try.prog tyB (tab []):=mkEnv trivial
  refine Fn.of (A:=fun _=>True) (n0:=1) (D:=noD) (Fn0 Try.func90 rfl (fun vs w=>by kernel_rfl) (by kernel_rfl)) (by simp) (by simp [AV.ids]) ?_ (fun _ _ _ _=>trivial) noD_ok ?_
  · intro i o hi
    have h:=hasg_mem hi
    simp [bagH] at h
    rcases h with ⟨rfl,rfl⟩;simp [AObj.ids,AV.ids,AV.idsL]
  repeat' (first|(apply nx;with_reducible constructor)|refine jq (by decide) ?_|((first|refine kz env fun Q hQ=>?_|refine kj fun Q hQ=>?_);simp only [vkt,seval,tbE1_next,xbE1_1,bagH];(try simp only [ite_and]);(repeat' (first|with_reducible assumption|refine And.intro ?_ ?_|intro hp));all_goals (first|(refine hQ _ ?_;clear hQ Q)|(refine hQ _ (fun h=>?_) (fun h=>?_) <;> clear hQ Q <;> (try simp only [vki,reduceCtorEq] at h))|(refine kx ?_;kernel_rfl)|omega|assumption|with_reducible rfl|skip)))
  (simp only [vrt,Try.results90,vkt,seval,tbE1_next,xbE1_1,bagH];refine Fin.ok some [] ?_ ?_ ?_ ?_ ?_ rfl;all_goals (try simp only [vle,vkt,seval,tbE1_next,xbE1_1,bagH]))
  all_goals rfl
def pNext (S:St):List AV→Option Pk
  |[.ptr i 0]=>match S.h i with
    |some (.cells [.v (.int .u64 x)])=>some { hs:=[i],ar:=[.ptr 0 0],L0:=[.cells [.v (.int .u64 x)]],v:=.v (.int .u64 (nxV x)),L1:=[some (.cells [.v (.int .u64 (nxS x))])] }
    |_=>none
  |_=>none
theorem eNext {A:Frm→Prop}:EntryOK A Try.prog 90 (fnE pNext):=fnE_ok fun S bs q h hp=>by
  unfold pNext at h
  split at h
  · split at h
    · cases h;exact next_fn _
    · cases h
  · cases h
def upV0 (x m:Int):Int:=if m < 1 then 0 else IntKind.i64.wrap (((nxV x).fdiv (2 ^ min 13 IntKind.u64.bits)).tmod (IntKind.u64.wrap (IntKind.i64.wrap (m+1))))
def upS0 (x m:Int):Int:=if m < 1 then x else nxS x
theorem up_ex:∃ f:Int→Int→Int × Int,∀ x m,f x m=(upV0 x m,upS0 x m):=⟨fun x m=>(upV0 x m,upS0 x m),fun _ _=>rfl⟩
noncomputable def upV (x m:Int):Int:=(Classical.choose up_ex x m).1
noncomputable def upS (x m:Int):Int:=(Classical.choose up_ex x m).2
theorem upV_eq (x m:Int):upV x m=upV0 x m:=by unfold upV;rw [Classical.choose_spec up_ex]
theorem upS_eq (x m:Int):upS x m=upS0 x m:=by unfold upS;rw [Classical.choose_spec up_ex]
theorem wrapU2 {n:Int} (h0:0≤n) (h1:n < 18446744073709551616):IntKind.u64.wrap n=n:=by
  unfold IntKind.wrap
  simp only [IntKind.bits,IntKind.signed]
  simp
  omega
theorem wrapU_nn (n:Int):0≤IntKind.u64.wrap n:=by
  unfold IntKind.wrap
  simp only [IntKind.bits,IntKind.signed]
  simp
  omega
theorem upV_bd {x m:Int} (h:m < 9223372036854775807):0≤upV x m∧(upV x m≤m∨upV x m=0):=by
  rw [upV_eq]
  unfold upV0
  split
  · exact ⟨Int.le_refl _,.inr rfl⟩
  · have h1:IntKind.i64.wrap (m+1)=m+1:=wrap64 (by omega) (by omega)
    have h2:IntKind.u64.wrap (m+1)=m+1:=wrapU2 (by omega) (by omega)
    rw [h1,h2]
    have h3:0≤(nxV x).fdiv (2 ^ min 13 IntKind.u64.bits):=Int.fdiv_nonneg (by unfold nxV xsh;exact wrapU_nn _) (by decide)
    rw [Int.tmod_eq_emod_of_nonneg h3]
    have h4:=Int.emod_nonneg ((nxV x).fdiv (2 ^ min 13 IntKind.u64.bits)) (show m+1 ≠ 0 by omega)
    have h5:=Int.emod_lt_of_pos ((nxV x).fdiv (2 ^ min 13 IntKind.u64.bits)) (show 0 < m+1 by omega)
    rw [wrap64 (by omega) (by omega)]
    omega
def tbE1_up:=kk @ty3 (kk @ty100 (kk @ti3.eq_1 @ti100.eq_1))
def xbE1_2:=kk @aI.eq_1 (@aB.eq_1)
theorem up_fn (x m:Int) (h:m < 9223372036854775807):Fn noB Try.prog 40 [.ptr 0 0,aI m] (hasg (bagH x)) (aI (upV x m)) (hasg (bagH (upS x m))) 0:=by
  have env:Env (fun _=>True) Try.prog tyB (tab [(90,fnE pNext)]):=mkEnv ⟨eNext,trivial⟩
  refine Fn.of (A:=fun _=>True) (n0:=1) (D:=noD) (Fn0 Try.func40 rfl (fun vs w=>by kernel_rfl) (by kernel_rfl)) (by simp) (by simp [AV.ids,AV.idsL,aI]) ?_ (fun _ _ _ _=>trivial) noD_ok ?_
  · intro i o hi
    have h:=hasg_mem hi
    simp [bagH] at h
    rcases h with ⟨rfl,rfl⟩;simp [AObj.ids,AV.ids,AV.idsL]
  rw [upV_eq,upS_eq]
  by_cases c1:m < 1
  · rw [show upV0 x m=0 from if_pos c1,show upS0 x m=x from if_pos c1]
    repeat' (first|(apply nx;with_reducible constructor)|refine jq (by decide) ?_|((first|refine kz env fun Q hQ=>?_|refine kj fun Q hQ=>?_);simp only [vkt,seval,tbE1_up,xbE1_2,bagH,pNext,c1];(try simp only [ite_and]);(repeat' (first|with_reducible assumption|refine And.intro ?_ ?_|intro hp));all_goals (first|(refine hQ _ ?_;clear hQ Q)|(refine hQ _ (fun h=>?_) (fun h=>?_) <;> clear hQ Q <;> (try simp only [vki,reduceCtorEq] at h))|(refine kx ?_;kernel_rfl)|omega|assumption|with_reducible rfl|skip)))
    (simp only [vrt,Try.results40,vkt,seval,tbE1_up,xbE1_2,bagH,pNext];refine Fin.ok some [] ?_ ?_ ?_ ?_ ?_ rfl;all_goals (try simp only [vle,vkt,seval,tbE1_up,xbE1_2,bagH,pNext]))
    all_goals simp
  · rw [show upV0 x m=_ from if_neg c1,show upS0 x m=_ from if_neg c1]
    have h1:IntKind.i64.wrap (m+1)=m+1:=wrap64 (by omega) (by omega)
    have h2:IntKind.u64.wrap (m+1)=m+1:=wrapU2 (by omega) (by omega)
    have h0:¬ m+1=0:=by omega
    repeat' (first|(apply nx;with_reducible constructor)|refine jq (by decide) ?_|((first|refine kz env fun Q hQ=>?_|refine kj fun Q hQ=>?_);simp only [vkt,seval,tbE1_up,xbE1_2,bagH,pNext,c1,h1,h2,h0];(try simp only [ite_and]);(repeat' (first|with_reducible assumption|refine And.intro ?_ ?_|intro hp));all_goals (first|(refine hQ _ ?_;clear hQ Q)|(refine hQ _ (fun h=>?_) (fun h=>?_) <;> clear hQ Q <;> (try simp only [vki,reduceCtorEq] at h))|(refine kx ?_;kernel_rfl)|omega|assumption|with_reducible rfl|skip)))
    (simp only [vrt,Try.results40,vkt,seval,tbE1_up,xbE1_2,bagH,pNext];refine Fin.ok some [] ?_ ?_ ?_ ?_ ?_ rfl;all_goals (try simp only [vle,vkt,seval,tbE1_up,xbE1_2,bagH,pNext]))
    all_goals (first|rfl|rw [h1,h2])
noncomputable def pUp (S:St):List AV→Option Pk
  |[.ptr i 0,.v (.int .i64 m)]=>match S.h i with
    |some (.cells [.v (.int .u64 x)])=>some { pre:=m < 9223372036854775807,hs:=[i],ar:=[.ptr 0 0,.v (.int .i64 m)],L0:=[.cells [.v (.int .u64 x)]],v:=.v (.int .i64 (upV x m)),L1:=[some (.cells [.v (.int .u64 (upS x m))])] }
    |_=>none
  |_=>none
theorem eUp {A:Frm→Prop}:EntryOK A Try.prog 40 (fnE pUp):=fnE_ok fun S bs q h hp=>by
  unfold pUp at h
  split at h
  · split at h
    · cases h;exact up_fn _ _ hp
    · cases h
  · cases h
def tbE1_from:=kk @ty3 @ti3.eq_1
def xbE1_3:=kk @aI.eq_1 (@aB.eq_1)
theorem from_fn (x a b:Int) (h:-100000≤a∧a≤100000∧-100000≤b∧b≤100000):Fn noB Try.prog 37 [.ptr 0 0,aI a,aI b] (hasg (bagH x)) (aI (a+upV x (b - a))) (hasg (bagH (upS x (b - a)))) 0:=by
  have env:Env (fun _=>True) Try.prog tyB (tab [(40,fnE pUp)]):=mkEnv ⟨eUp,trivial⟩
  refine Fn.of (A:=fun _=>True) (n0:=1) (D:=noD) (Fn0 Try.func37 rfl (fun vs w=>by kernel_rfl) (by kernel_rfl)) (by simp) (by simp [AV.ids,AV.idsL,aI]) ?_ (fun _ _ _ _=>trivial) noD_ok ?_
  · intro i o hi
    have h:=hasg_mem hi
    simp [bagH] at h
    rcases h with ⟨rfl,rfl⟩;simp [AObj.ids,AV.ids,AV.idsL]
  have b1:=upV_bd (x:=x) (m:=b - a) (by omega)
  have h1:IntKind.i64.wrap (b - a)=b - a:=wrap64 (by omega) (by omega)
  have h2:IntKind.i64.wrap (a+upV x (b - a))=a+upV x (b - a):=wrap64 (by omega) (by omega)
  have h3:b - a < 9223372036854775807:=by omega
  repeat' (first|(apply nx;with_reducible constructor)|refine jq (by decide) ?_|((first|refine kz env fun Q hQ=>?_|refine kj fun Q hQ=>?_);simp only [vkt,seval,tbE1_from,xbE1_3,bagH,pUp,h1,h2];(try simp only [ite_and]);(repeat' (first|with_reducible assumption|refine And.intro ?_ ?_|intro hp));all_goals (first|(refine hQ _ ?_;clear hQ Q)|(refine hQ _ (fun h=>?_) (fun h=>?_) <;> clear hQ Q <;> (try simp only [vki,reduceCtorEq] at h))|(refine kx ?_;kernel_rfl)|omega|assumption|with_reducible rfl|skip)))
  (simp only [vrt,Try.results37,vkt,seval,tbE1_from,xbE1_3,bagH,pUp];refine Fin.ok some [] ?_ ?_ ?_ ?_ ?_ rfl;all_goals (try simp only [vle,vkt,seval,tbE1_from,xbE1_3,bagH,pUp]))
  all_goals rfl
noncomputable def pFrom (S:St):List AV→Option Pk
  |[.ptr i 0,.v (.int .i64 a),.v (.int .i64 b)]=>match S.h i with
    |some (.cells [.v (.int .u64 x)])=>some { pre:=-100000≤a∧a≤100000∧-100000≤b∧b≤100000,hs:=[i],ar:=[.ptr 0 0,.v (.int .i64 a),.v (.int .i64 b)],L0:=[.cells [.v (.int .u64 x)]],v:=.v (.int .i64 (a+upV x (b - a))),L1:=[some (.cells [.v (.int .u64 (upS x (b - a)))])] }
    |_=>none
  |_=>none
theorem eFrom {A:Frm→Prop}:EntryOK A Try.prog 37 (fnE pFrom):=fnE_ok fun S bs q h hp=>by
  unfold pFrom at h
  split at h
  · split at h
    · cases h;exact from_fn _ _ _ hp
    · cases h
  · cases h
def nbK (l:List Int):Nat→Int
  |0=>11400714819323198485
  |k+1=>xsh (IntKind.u64.wrap (IntKind.u64.wrap (nbK l k+IntKind.u64.wrap (l.getD k 0)) * 13787848793156543929)) 29
def nbS (l:List Int):Int:=nbK l l.length
def nbI (l:List Int) (k:Nat):St:={ t:=asg [(0,aInts l),(3,.ptr 0 0),(4,aI k)],h:=hasg (bagH (nbK l k)),n:=1 }
def tbE1_bag:=kk @ty3 (kk @ty22 (kk @ty100 (kk @ty102 (kk @ti3.eq_1 (kk @ti22.eq_1 (kk @ti100.eq_1 @ti102.eq_1))))))
def xbE1_4:=kk @aI.eq_1 (kk @aB.eq_1 (kk @nbI.eq_1 (kk @aInts.eq_1 (kk @gInt (@eInt.eq_1)))))
theorem bag_fn (l:List Int) (hl:l.length≤maxLen):Fn noB Try.prog 15 [aInts l] noH (.ptr 0 0) (hasg (bagH (nbS l))) 0:=by
  have env:Env (fun _=>True) Try.prog tyB (tab []):=mkEnv trivial
  refine Fn.of (A:=fun _=>True) (n0:=0) (D:=noD) (Fn0 Try.func15 rfl (fun vs w=>by kernel_rfl) (by kernel_rfl)) (by simp) (by simp [AV.ids,AV.idsL,aInts]) (fun i o h=>by cases h) (fun _ _ _ _=>trivial) noD_ok ?_
  repeat' (first|(apply nx;with_reducible constructor)|refine jq (by decide) ?_|((first|refine kz env fun Q hQ=>?_|refine kj fun Q hQ=>?_);simp only [vkt,seval,tbE1_bag,xbE1_4,bagH];(try simp only [ite_and]);(repeat' (first|with_reducible assumption|refine And.intro ?_ ?_|intro hp));all_goals (first|(refine hQ _ ?_;clear hQ Q)|(refine hQ _ (fun h=>?_) (fun h=>?_) <;> clear hQ Q <;> (try simp only [vki,reduceCtorEq] at h))|(refine kx ?_;kernel_rfl)|omega|assumption|with_reducible rfl|skip)))
  refine sym_loop (fun k:{ k:Nat // k≤l.length }=>nbI l k.1) (fun k=>l.length - k.1) ⟨0,Nat.zero_le _⟩ ?_ fun ⟨k,hk⟩=>?_
  · (refine Le.ok some [] ?_;constructor;all_goals (try simp only [vle,vkt,seval,tbE1_bag,xbE1_4,bagH]))
    all_goals first|rfl|simp
  · repeat' (first|(apply nx;with_reducible constructor)|refine jq (by decide) ?_)
    (refine kz env fun Q hQ=>?_;simp only [vkt,seval,tbE1_bag,xbE1_4,bagH];(try simp only [ite_and]);(repeat' (first|with_reducible assumption|refine And.intro ?_ ?_|intro hp));all_goals (first|(refine hQ _ ?_;clear hQ Q)|(refine kx ?_;kernel_rfl)|omega|assumption|with_reducible rfl|skip))
    repeat' (first|(apply nx;with_reducible constructor)|refine jq (by decide) ?_)
    (refine sym_cd (by simp only [vkt,seval,tbE1_bag,xbE1_4,bagH];rfl) (fun h=>?_) (fun h=>?_) <;> (try simp only [vki,reduceCtorEq] at h))
    · have hlt:k < l.length:=by omega
      have e9:=wrap_succ hlt hl
      repeat' (first|(apply nx;with_reducible constructor)|refine jq (by decide) ?_|((first|refine kz env fun Q hQ=>?_|refine kj fun Q hQ=>?_);simp only [vkt,seval,tbE1_bag,xbE1_4,bagH,e9];(try simp only [ite_and]);(repeat' (first|with_reducible assumption|refine And.intro ?_ ?_|intro hp));all_goals (first|(refine hQ _ ?_;clear hQ Q)|(refine hQ _ (fun h=>?_) (fun h=>?_) <;> clear hQ Q <;> (try simp only [vki,reduceCtorEq] at h))|(refine kx ?_;kernel_rfl)|omega|assumption|with_reducible rfl|skip)))
      refine ⟨⟨k+1,hlt⟩,by show l.length - (k+1) < l.length - k;omega, ?_⟩
      (refine Le.ok some [] ?_;constructor;all_goals (try simp only [vle,vkt,seval,tbE1_bag,xbE1_4,bagH]))
      all_goals first|rfl|(simp [e9];done)
    · have hkn:k=l.length:=by omega
      subst hkn
      repeat' (first|(apply nx;with_reducible constructor)|refine jq (by decide) ?_|((first|refine kz env fun Q hQ=>?_|refine kj fun Q hQ=>?_);simp only [vkt,seval,tbE1_bag,xbE1_4,bagH];(try simp only [ite_and]);(repeat' (first|with_reducible assumption|refine And.intro ?_ ?_|intro hp));all_goals (first|(refine hQ _ ?_;clear hQ Q)|(refine hQ _ (fun h=>?_) (fun h=>?_) <;> clear hQ Q <;> (try simp only [vki,reduceCtorEq] at h))|(refine kx ?_;kernel_rfl)|omega|assumption|with_reducible rfl|skip)))
      (simp only [vrt,Try.results15,vkt,seval,tbE1_bag,xbE1_4,bagH];refine Fin.ok some [] ?_ ?_ ?_ ?_ ?_ rfl;all_goals (try simp only [vle,vkt,seval,tbE1_bag,xbE1_4,bagH]))
      all_goals rfl
def pBag (_:St):List AV→Option Pk
  |[.sl xs]=>some { pre:=xs=(xs.map dInt).map eInt∧xs.length≤maxLen,ar:=[.sl xs],v:=.ptr 0 0,L1:=[some (.cells [.v (.int .u64 (nbS (xs.map dInt)))])] }
  |_=>none
theorem eBag {A:Frm→Prop}:EntryOK A Try.prog 15 (fnE pBag):=fnE_ok fun S bs q h hp=>by
  unfold pBag at h
  split at h <;> cases h
  have:=bag_fn (List.map dInt _) (by rw [List.length_map];exact hp.2)
  simp only [aInts,← hp.1] at this
  exact this
end Go.Sym.B
namespace Go.Sym.B
open Go Go.Sym Go.Proofs Go.Sym.C
def inB (n lo hi:Int):Bool:=decide (lo≤n) && decide (n≤hi)
theorem inB_iff {n lo hi:Int}:inB n lo hi=true ↔ lo≤n∧n≤hi:=by simp [inB]
def countedE (n a b:Int):Int:=if n < a then 7 else if b < n then 6 else 0
def firstE:List Int→Int
  |[]=>0
  |e :: r=>if e=0 then firstE r else e
theorem firstE_take {l:List Int} {k:Nat} (h:∀ j,j < k→l.getD j 0=0) (hk:k < l.length) (he:l.getD k 0 ≠ 0):firstE l=l.getD k 0:=by
  induction l generalizing k with
  |nil=>simp at hk
  |cons e r ih =>
    cases k with
    |zero=>rw [firstE,if_neg (by simpa using he)];rfl
    |succ k =>
      rw [firstE,if_pos (by simpa using h 0 (by omega))]
      have:=ih (k:=k) (fun j hj=>by simpa using h (j+1) (by omega)) (by simpa using hk) (by simpa using he)
      rw [this];rfl
theorem firstE_all {l:List Int} (h:∀ j,j < l.length→l.getD j 0=0):firstE l=0:=by
  induction l with
  |nil=>rfl
  |cons e r ih =>
    rw [firstE,if_pos (by simpa using h 0 (by simp))]
    exact ih fun j hj=>by simpa using h (j+1) (by simpa using hj)
theorem firstE_zero {l:List Int} (h:firstE l=0):∀ e ∈ l,e=0:=by
  induction l with
  |nil=>simp
  |cons e r ih =>
    rw [firstE] at h
    split at h
    · rename_i h0
      intro x hx
      rcases List.mem_cons.1 hx with rfl|hx
      · exact h0
      · exact ih h x hx
    · rename_i h0;exact absurd h h0
def meetB (a b:Tk):Bool:=decide (a.frm < b.to) && decide (b.frm < a.to)
def togB (a b:Tk):Bool:=decide (a.party=b.party) || decide (a.cab ≠ b.cab) || !meetB a b || (decide (a.sex=b.sex) && !a.dog && !b.dog)
def wayE (secs frm to:Int):Int:=if frm < 0∨to≤frm∨secs < to then 5 else 0
def twiceB (t x:Tk):Bool:=decide (x.cab=t.cab) && decide (x.bed=t.bed) && meetB x t
def besideE (t:Tk) (l:List Tk):Int:=if l.any (twiceB t) then 4 else if l.any (fun x=>!togB x t) then 9 else 0
def isBunkB (cs:List Cabin) (cab bed:Int):Bool:=inB cab 0 ((cs.length:Int) - 1) && inB bed 0 ((cs.getD cab.toNat default).beds - 1)
def ticketE (c:Chart) (t:Tk) (l:List Tk):Int :=
  if !inB t.party 1 99 then 1 else if !inB t.sex 1 2 then 8 else if !isBunkB c.cabins t.cab t.bed then 3 else if wayE c.secs t.frm t.to ≠ 0 then wayE c.secs t.frm t.to else besideE t l
def cabE (x:Cabin):Int:=if !inB x.beds 1 3 then 1 else 0
def carE (c:Chart):Int :=
  if countedE c.cabins.length 1 3 ≠ 0 then countedE c.cabins.length 1 3 else if firstE (c.cabins.map cabE) ≠ 0 then firstE (c.cabins.map cabE) else if !inB c.secs 1 5 then 1 else countedE c.sold.length 0 8
def ticketsE (c:Chart) (l:List Tk):Int:=firstE ((List.range l.length).map fun i=>ticketE c (l.getD i default) (l.take i))
def checkE (c:Chart):Int:=if carE c ≠ 0 then carE c else ticketsE c c.sold
structure CarOk (c:Chart):Prop where
  cabs:1≤c.cabins.length∧c.cabins.length≤3
  beds:∀ x ∈ c.cabins,1≤x.beds∧x.beds≤3
  secs:1≤c.secs∧c.secs≤5
theorem carE_ok {c:Chart} (h:carE c=0):CarOk c∧c.sold.length≤8:=by
  unfold carE at h
  split at h
  · exact absurd h ‹_›
  rename_i h1
  split at h
  · exact absurd h ‹_›
  rename_i h2
  split at h
  · exact absurd h (by decide)
  rename_i h3
  have h1:=Decidable.not_not.1 h1
  have h2:=Decidable.not_not.1 h2
  have h3:inB c.secs 1 5=true:=by simpa using h3
  unfold countedE at h1 h
  refine ⟨⟨?_,fun x hx=>?_,inB_iff.1 h3⟩, ?_⟩
  · split at h1
    · exact absurd h1 (by decide)
    · split at h1
      · exact absurd h1 (by decide)
      · omega
  · have:=firstE_zero h2 _ (List.mem_map.2 ⟨x,hx,rfl⟩)
    unfold cabE at this
    split at this
    · exact absurd this (by decide)
    · rename_i h4
      exact inB_iff.1 (by simpa using h4)
  · split at h
    · exact absurd h (by decide)
    · split at h
      · exact absurd h (by decide)
      · omega
structure TkOk (c:Chart) (t:Tk):Prop where
  party:1≤t.party∧t.party≤99
  sex:1≤t.sex∧t.sex≤2
  cab:0≤t.cab∧t.cab.toNat < c.cabins.length
  bed:0≤t.bed∧t.bed < (c.cabins.getD t.cab.toNat default).beds
  frm:0≤t.frm
  way:t.frm < t.to
  to:t.to≤c.secs
theorem wayE_ok {s a b:Int} (h:wayE s a b=0):0≤a∧a < b∧b≤s:=by
  unfold wayE at h
  split at h
  · exact absurd h (by decide)
  · omega
theorem isBunk_ok {cs:List Cabin} {a b:Int} (h:isBunkB cs a b=true):0≤a∧a.toNat < cs.length∧0≤b∧b < (cs.getD a.toNat default).beds:=by
  unfold isBunkB at h
  rw [Bool.and_eq_true,inB_iff,inB_iff] at h
  omega
theorem ticketE_ok {c:Chart} {t:Tk} {l:List Tk} (h:ticketE c t l=0):TkOk c t∧besideE t l=0:=by
  unfold ticketE at h
  split at h
  · exact absurd h (by decide)
  rename_i h1
  split at h
  · exact absurd h (by decide)
  rename_i h2
  split at h
  · exact absurd h (by decide)
  rename_i h3
  split at h
  · exact absurd h ‹_›
  rename_i h4
  have nf:∀ {p:Bool},¬ (!p)=true→p=true:=fun h=>by simpa using h
  have g1:=inB_iff.1 (nf h1)
  have g2:=inB_iff.1 (nf h2)
  obtain ⟨g3,g4,g5,g6⟩:=isBunk_ok (nf h3)
  obtain ⟨g7,g8,g9⟩:=wayE_ok (Decidable.not_not.1 h4)
  exact ⟨⟨g1,g2,⟨g3,g4⟩,⟨g5,g6⟩,g7,g8,g9⟩,h⟩
theorem gMem {α:Type} {l:List α} {k:Nat} {d:α} (h:k < l.length):l.getD k d ∈ l:=by
  rw [List.getD_eq_getElem?_getD,List.getElem?_eq_getElem h];exact List.getElem_mem h
theorem tickets_ok {c:Chart} {l:List Tk} (h:ticketsE c l=0):∀ i,i < l.length→TkOk c (l.getD i default)∧besideE (l.getD i default) (l.take i)=0:=fun i hi =>
  ticketE_ok (firstE_zero h _ (List.mem_map.2 ⟨i,List.mem_range.2 hi,rfl⟩))
structure Val (c:Chart):Prop where
  car:CarOk c
  many:c.sold.length≤8
  tk:∀ t ∈ c.sold,TkOk c t
theorem val_of {c:Chart} (h:checkE c=0):Val c:=by
  unfold checkE at h
  split at h
  · exact absurd h ‹_›
  rename_i h1
  obtain ⟨g1,g2⟩:=carE_ok (Decidable.not_not.1 h1)
  refine ⟨g1,g2,fun t ht=>?_⟩
  obtain ⟨i,hi,rfl⟩:=List.mem_iff_getElem.1 ht
  have:=(tickets_ok h i hi).1
  rwa [show c.sold.getD i default=c.sold[i] by simp [List.getD_eq_getElem?_getD,hi]] at this
def bunksL (cs:List Cabin):List Bunk:=(List.range cs.length).flatMap fun i=>(List.range (cs.getD i default).beds.toNat).map fun (k:Nat)=>⟨(i:Int),(k:Int)⟩
def nearB (cs:List Cabin) (l:List Bunk):Bool :=
  let lo:=l.foldl (fun m b=>min m b.cab) (l.getD 0 default).cab
  let hi:=l.foldl (fun m b=>max m b.cab) (l.getD 0 default).cab
  decide (lo=hi) || (decide (lo+1=hi) && (cs.getD lo.toNat default).door)
def tkOf (a:Ask) (i:Nat) (b:Bunk):Tk:=⟨a.party,a.sexes.getD i 0,b.cab,b.bed,a.frm,a.to,a.dog⟩
def goB (cs:List Cabin) (a:Ask) (sold:List Tk) (begun:List Bunk) (b:Bunk):Bool:=!begun.contains b && nearB cs (begun++[b]) && decide (besideE (tkOf a begun.length b) sold=0)
def atB (s:Int) (t:Tk):Bool:=decide (t.frm≤s) && decide (s < t.to)
def emptyB (sold:List Tk) (s i:Int):Bool:=sold.all fun t=>!(atB s t && decide (t.cab=i))
def restN (cs:List Cabin) (secs:Int) (sold:List Tk):Int:=(((List.range secs.toNat).flatMap fun (s:Nat)=>(List.range cs.length).filter fun (i:Nat)=>emptyB sold s i).length:Int)
def askE (c:Chart) (a:Ask):Int :=
  if !inB a.party 1 99 then 1 else if c.sold.any (fun t=>decide (t.party=a.party)) then 4 else if wayE c.secs a.frm a.to ≠ 0 then wayE c.secs a.frm a.to else if countedE a.sexes.length 1 3 ≠ 0 then countedE a.sexes.length 1 3 else
  firstE (a.sexes.map fun s=>if !inB s 1 2 then 8 else 0)
def bothE (c:Chart) (a:Ask):Int:=if checkE c ≠ 0 then checkE c else askE c a
end Go.Sym.B
namespace Go.Sym.B
open Go Go.Sym Go.Proofs Go.Sym.C
def tbD1_in:=kk @ty3 @ti3.eq_1
def xbD1_1:=kk @aI.eq_1 (@aB.eq_1)
theorem in_fn (n a b:Int):FnV Try.prog 91 [aI n,aI a,aI b] (aB (inB n a b)):=by
  have env:Env (fun _=>True) Try.prog tyB (tab []):=mkEnv trivial
  refine Fn.of (A:=fun _=>True) (n0:=0) (D:=noD) (Fn0 Try.func91 rfl (fun vs w=>by kernel_rfl) (by kernel_rfl)) (by simp) (by simp [AV.ids,aI]) (fun i o h=>by cases h) (fun _ _ _ _=>trivial) noD_ok ?_
  repeat' (first|(apply nx;with_reducible constructor)|refine jq (by decide) ?_|((first|refine kz env fun Q hQ=>?_|refine kj fun Q hQ=>?_);simp only [vkt,seval,tbD1_in,xbD1_1,aTk,cTk,aChart,cChart];(try simp only [ite_and]);(repeat' (first|with_reducible assumption|refine And.intro ?_ ?_|intro hp));all_goals (first|(refine hQ _ ?_;clear hQ Q)|(refine hQ _ (fun h=>?_) (fun h=>?_) <;> clear hQ Q <;> (try simp only [vki,reduceCtorEq] at h))|(refine kx ?_;kernel_rfl)|omega|assumption|with_reducible rfl|skip)))
  all_goals (simp only [vrt,Try.results91,vkt,seval,tbD1_in,xbD1_1,aTk,cTk,aChart,cChart];refine Fin.val rfl ?_;(try simp only [AV.le,AV.leL]))
  all_goals simp [inB, *]
def sin:List AV→Prop × AV
  |[.v (.int .i64 n),.v (.int .i64 a),.v (.int .i64 b)]=>(True,aB (inB n a b))
  |_=>(False,.junk)
theorem ein {A:Frm→Prop}:EntryOK A Try.prog 91 (valE true sin):=valE_ok fun vs hv h=>by
  clear hv
  unfold sin at h ⊢
  split at h
  · rename_i n a b;clear h
    refine ⟨by first|trivial|(simp [AV.plain,AV.plainL,aI,aB,aInts,aBunks,aTks,aBunk,aTk,cTk];done)|(repeat' split) <;> simp [AV.plain,AV.plainL,aI,aB,aInts,aBunks,aTks,aBunk,aTk,cTk],fun _=>(by simp [AV.flat,AV.flatL,aI,aB]), ?_⟩
    have:=in_fn n a b
    simp only [aI] at this
    first|exact this|(simp only [aI];exact this)
  · exact h.elim
def tbD1_betw:=kk @ty3 @ti3.eq_1
theorem betw_fn (n a b:Int):FnV Try.prog 81 [aI n,aI a,aI b] (aB (inB n a b)):=by
  have env:Env (fun _=>True) Try.prog tyB (tab []):=mkEnv trivial
  refine Fn.of (A:=fun _=>True) (n0:=0) (D:=noD) (Fn0 Try.func81 rfl (fun vs w=>by kernel_rfl) (by kernel_rfl)) (by simp) (by simp [AV.ids,aI]) (fun i o h=>by cases h) (fun _ _ _ _=>trivial) noD_ok ?_
  repeat' (first|(apply nx;with_reducible constructor)|refine jq (by decide) ?_|((first|refine kz env fun Q hQ=>?_|refine kj fun Q hQ=>?_);simp only [vkt,seval,tbD1_betw,xbD1_1,aTk,cTk,aChart,cChart];(try simp only [ite_and]);(repeat' (first|with_reducible assumption|refine And.intro ?_ ?_|intro hp));all_goals (first|(refine hQ _ ?_;clear hQ Q)|(refine hQ _ (fun h=>?_) (fun h=>?_) <;> clear hQ Q <;> (try simp only [vki,reduceCtorEq] at h))|(refine kx ?_;kernel_rfl)|omega|assumption|with_reducible rfl|skip)))
  all_goals (simp only [vrt,Try.results81,vkt,seval,tbD1_betw,xbD1_1,aTk,cTk,aChart,cChart];refine Fin.val rfl ?_;(try simp only [AV.le,AV.leL]))
  all_goals simp [inB, *]
def sbetw:List AV→Prop × AV
  |[.v (.int .i64 n),.v (.int .i64 a),.v (.int .i64 b)]=>(True,aB (inB n a b))
  |_=>(False,.junk)
theorem ebetw {A:Frm→Prop}:EntryOK A Try.prog 81 (valE true sbetw):=valE_ok fun vs hv h=>by
  clear hv
  unfold sbetw at h ⊢
  split at h
  · rename_i n a b;clear h
    refine ⟨by first|trivial|(simp [AV.plain,AV.plainL,aI,aB,aInts,aBunks,aTks,aBunk,aTk,cTk];done)|(repeat' split) <;> simp [AV.plain,AV.plainL,aI,aB,aInts,aBunks,aTks,aBunk,aTk,cTk],fun _=>(by simp [AV.flat,AV.flatL,aI,aB]), ?_⟩
    have:=betw_fn n a b
    simp only [aI] at this
    first|exact this|(simp only [aI];exact this)
  · exact h.elim
def tbD1_counted:=kk @ty3 @ti3.eq_1
theorem counted_fn (n a b:Int):FnV Try.prog 101 [aI n,aI a,aI b] (aI (countedE n a b)):=by
  have env:Env (fun _=>True) Try.prog tyB (tab []):=mkEnv trivial
  refine Fn.of (A:=fun _=>True) (n0:=0) (D:=noD) (Fn0 Try.func101 rfl (fun vs w=>by kernel_rfl) (by kernel_rfl)) (by simp) (by simp [AV.ids,aI]) (fun i o h=>by cases h) (fun _ _ _ _=>trivial) noD_ok ?_
  repeat' (first|(apply nx;with_reducible constructor)|refine jq (by decide) ?_|((first|refine kz env fun Q hQ=>?_|refine kj fun Q hQ=>?_);simp only [vkt,seval,tbD1_counted,xbD1_1,aTk,cTk,aChart,cChart];(try simp only [ite_and]);(repeat' (first|with_reducible assumption|refine And.intro ?_ ?_|intro hp));all_goals (first|(refine hQ _ ?_;clear hQ Q)|(refine hQ _ (fun h=>?_) (fun h=>?_) <;> clear hQ Q <;> (try simp only [vki,reduceCtorEq] at h))|(refine kx ?_;kernel_rfl)|omega|assumption|with_reducible rfl|skip)))
  all_goals (simp only [vrt,Try.results101,vkt,seval,tbD1_counted,xbD1_1,aTk,cTk,aChart,cChart];refine Fin.val rfl ?_;(try simp only [AV.le,AV.leL]))
  all_goals (unfold countedE;simp [*])
  all_goals omega
def scounted:List AV→Prop × AV
  |[.v (.int .i64 n),.v (.int .i64 a),.v (.int .i64 b)]=>(True,aI (countedE n a b))
  |_=>(False,.junk)
theorem ecounted {A:Frm→Prop}:EntryOK A Try.prog 101 (valE true scounted):=valE_ok fun vs hv h=>by
  clear hv
  unfold scounted at h ⊢
  split at h
  · rename_i n a b;clear h
    refine ⟨by first|trivial|(simp [AV.plain,AV.plainL,aI,aB,aInts,aBunks,aTks,aBunk,aTk,cTk];done)|(repeat' split) <;> simp [AV.plain,AV.plainL,aI,aB,aInts,aBunks,aTks,aBunk,aTk,cTk],fun _=>(by simp [AV.flat,AV.flatL,aI,aB]), ?_⟩
    have:=counted_fn n a b
    simp only [aI] at this
    first|exact this|(simp only [aI];exact this)
  · exact h.elim
def tbD1_meet:=kk @ty3 (kk @ty81 (kk @ti3.eq_1 @ti81.eq_1))
theorem meet_fn (a b:Tk):FnV Try.prog 141 [aTk a,aTk b] (aB (meetB a b)):=by
  have env:Env (fun _=>True) Try.prog tyB (tab []):=mkEnv trivial
  refine Fn.of (A:=fun _=>True) (n0:=0) (D:=noD) (Fn0 Try.func141 rfl (fun vs w=>by kernel_rfl) (by kernel_rfl)) (by simp) (by simp [AV.ids,AV.idsL,aTk,cTk]) (fun i o h=>by cases h) (fun _ _ _ _=>trivial) noD_ok ?_
  repeat' (first|(apply nx;with_reducible constructor)|refine jq (by decide) ?_|((first|refine kz env fun Q hQ=>?_|refine kj fun Q hQ=>?_);simp only [vkt,seval,tbD1_meet,xbD1_1,aTk,cTk,aChart,cChart];(try simp only [ite_and]);(repeat' (first|with_reducible assumption|refine And.intro ?_ ?_|intro hp));all_goals (first|(refine hQ _ ?_;clear hQ Q)|(refine hQ _ (fun h=>?_) (fun h=>?_) <;> clear hQ Q <;> (try simp only [vki,reduceCtorEq] at h))|(refine kx ?_;kernel_rfl)|omega|assumption|with_reducible rfl|skip)))
  all_goals (simp only [vrt,Try.results141,vkt,seval,tbD1_meet,xbD1_1,aTk,cTk,aChart,cChart];refine Fin.val rfl ?_;(try simp only [AV.le,AV.leL]))
  all_goals simp [meetB, *]
def smeet:List AV→Prop × AV
  |[.agg [.v (.int .i64 a0),.v (.int .i64 a1),.v (.int .i64 a2),.v (.int .i64 a3),.v (.int .i64 a4),.v (.int .i64 a5),.v (.bool a6)],.agg [.v (.int .i64 b0),.v (.int .i64 b1),.v (.int .i64 b2),.v (.int .i64 b3),.v (.int .i64 b4),.v (.int .i64 b5),.v (.bool b6)]]=>(True,aB (meetB (⟨a0,a1,a2,a3,a4,a5,a6⟩:Tk) (⟨b0,b1,b2,b3,b4,b5,b6⟩:Tk)))
  |_=>(False,.junk)
theorem emeet {A:Frm→Prop}:EntryOK A Try.prog 141 (valE true smeet):=valE_ok fun vs hv h=>by
  clear hv
  unfold smeet at h ⊢
  split at h
  · rename_i a0 a1 a2 a3 a4 a5 a6 b0 b1 b2 b3 b4 b5 b6;clear h
    refine ⟨by first|trivial|(simp [AV.plain,AV.plainL,aI,aB,aInts,aBunks,aTks,aBunk,aTk,cTk];done)|(repeat' split) <;> simp [AV.plain,AV.plainL,aI,aB,aInts,aBunks,aTks,aBunk,aTk,cTk],fun _=>(by simp [AV.flat,AV.flatL,aI,aB]), ?_⟩
    have:=meet_fn (⟨a0,a1,a2,a3,a4,a5,a6⟩:Tk) (⟨b0,b1,b2,b3,b4,b5,b6⟩:Tk)
    simp only [aB,aI,aTk,cTk] at this
    first|exact this|(simp only [aB,aI,aTk,cTk];exact this)
  · exact h.elim
def tbD1_rmeet:=kk @ty3 (kk @ty81 (kk @ti3.eq_1 @ti81.eq_1))
theorem rmeet_fn (a b:Tk):FnV Try.prog 138 [aTk a,aTk b] (aB (meetB a b)):=by
  have env:Env (fun _=>True) Try.prog tyB (tab []):=mkEnv trivial
  refine Fn.of (A:=fun _=>True) (n0:=0) (D:=noD) (Fn0 Try.func138 rfl (fun vs w=>by kernel_rfl) (by kernel_rfl)) (by simp) (by simp [AV.ids,AV.idsL,aTk,cTk]) (fun i o h=>by cases h) (fun _ _ _ _=>trivial) noD_ok ?_
  repeat' (first|(apply nx;with_reducible constructor)|refine jq (by decide) ?_|((first|refine kz env fun Q hQ=>?_|refine kj fun Q hQ=>?_);simp only [vkt,seval,tbD1_rmeet,xbD1_1,aTk,cTk,aChart,cChart];(try simp only [ite_and]);(repeat' (first|with_reducible assumption|refine And.intro ?_ ?_|intro hp));all_goals (first|(refine hQ _ ?_;clear hQ Q)|(refine hQ _ (fun h=>?_) (fun h=>?_) <;> clear hQ Q <;> (try simp only [vki,reduceCtorEq] at h))|(refine kx ?_;kernel_rfl)|omega|assumption|with_reducible rfl|skip)))
  all_goals (simp only [vrt,Try.results138,vkt,seval,tbD1_rmeet,xbD1_1,aTk,cTk,aChart,cChart];refine Fin.val rfl ?_;(try simp only [AV.le,AV.leL]))
  all_goals simp [meetB, *]
def srmeet:List AV→Prop × AV
  |[.agg [.v (.int .i64 a0),.v (.int .i64 a1),.v (.int .i64 a2),.v (.int .i64 a3),.v (.int .i64 a4),.v (.int .i64 a5),.v (.bool a6)],.agg [.v (.int .i64 b0),.v (.int .i64 b1),.v (.int .i64 b2),.v (.int .i64 b3),.v (.int .i64 b4),.v (.int .i64 b5),.v (.bool b6)]]=>(True,aB (meetB (⟨a0,a1,a2,a3,a4,a5,a6⟩:Tk) (⟨b0,b1,b2,b3,b4,b5,b6⟩:Tk)))
  |_=>(False,.junk)
theorem ermeet {A:Frm→Prop}:EntryOK A Try.prog 138 (valE true srmeet):=valE_ok fun vs hv h=>by
  clear hv
  unfold srmeet at h ⊢
  split at h
  · rename_i a0 a1 a2 a3 a4 a5 a6 b0 b1 b2 b3 b4 b5 b6;clear h
    refine ⟨by first|trivial|(simp [AV.plain,AV.plainL,aI,aB,aInts,aBunks,aTks,aBunk,aTk,cTk];done)|(repeat' split) <;> simp [AV.plain,AV.plainL,aI,aB,aInts,aBunks,aTks,aBunk,aTk,cTk],fun _=>(by simp [AV.flat,AV.flatL,aI,aB]), ?_⟩
    have:=rmeet_fn (⟨a0,a1,a2,a3,a4,a5,a6⟩:Tk) (⟨b0,b1,b2,b3,b4,b5,b6⟩:Tk)
    simp only [aB,aI,aTk,cTk] at this
    first|exact this|(simp only [aB,aI,aTk,cTk];exact this)
  · exact h.elim
def tbD1_tog:=kk @ty3 (kk @ty4 (kk @ty49 (kk @ty81 (kk @ti3.eq_1 (kk @ti4.eq_1 (kk @ti49.eq_1 @ti81.eq_1))))))
def xbD1_2:=kk @aI.eq_1 (@aB.eq_1)
theorem tog_fn (a b:Tk):FnV Try.prog 143 [aTk a,aTk b] (aB (togB a b)):=by
  have env:Env (fun _=>True) Try.prog tyB (tab [(141,valE true smeet)]):=mkEnv ⟨emeet,trivial⟩
  refine Fn.of (A:=fun _=>True) (n0:=0) (D:=noD) (Fn0 Try.func143 rfl (fun vs w=>by kernel_rfl) (by kernel_rfl)) (by simp) (by simp [AV.ids,AV.idsL,aTk,cTk]) (fun i o h=>by cases h) (fun _ _ _ _=>trivial) noD_ok ?_
  have em:meetB ⟨a.party,a.sex,a.cab,a.bed,a.frm,a.to,a.dog⟩ ⟨b.party,b.sex,b.cab,b.bed,b.frm,b.to,b.dog⟩=meetB a b:=rfl
  repeat' (first|(apply nx;with_reducible constructor)|refine jq (by decide) ?_|((first|refine kz env fun Q hQ=>?_|refine kj fun Q hQ=>?_);simp only [vkt,seval,tbD1_tog,xbD1_2,aTk,cTk,smeet,srmeet,em];(try simp only [ite_and]);(repeat' (first|with_reducible assumption|refine And.intro ?_ ?_|intro hp));all_goals (first|(refine hQ _ ?_;clear hQ Q)|(refine hQ _ (fun h=>?_) (fun h=>?_) <;> clear hQ Q <;> (try simp only [vki,reduceCtorEq] at h))|(refine kx ?_;kernel_rfl)|omega|assumption|with_reducible rfl|skip)))
  all_goals (simp only [vrt,Try.results143,vkt,seval,tbD1_tog,xbD1_2,aTk,cTk,smeet,srmeet];refine Fin.val rfl ?_;(try simp only [AV.le,AV.leL]))
  all_goals first|(simp [togB, *];done)|(simp_all [togB];done)
def stog:List AV→Prop × AV
  |[.agg [.v (.int .i64 a0),.v (.int .i64 a1),.v (.int .i64 a2),.v (.int .i64 a3),.v (.int .i64 a4),.v (.int .i64 a5),.v (.bool a6)],.agg [.v (.int .i64 b0),.v (.int .i64 b1),.v (.int .i64 b2),.v (.int .i64 b3),.v (.int .i64 b4),.v (.int .i64 b5),.v (.bool b6)]]=>(True,aB (togB (⟨a0,a1,a2,a3,a4,a5,a6⟩:Tk) (⟨b0,b1,b2,b3,b4,b5,b6⟩:Tk)))
  |_=>(False,.junk)
theorem etog {A:Frm→Prop}:EntryOK A Try.prog 143 (valE true stog):=valE_ok fun vs hv h=>by
  clear hv
  unfold stog at h ⊢
  split at h
  · rename_i a0 a1 a2 a3 a4 a5 a6 b0 b1 b2 b3 b4 b5 b6;clear h
    refine ⟨by first|trivial|(simp [AV.plain,AV.plainL,aI,aB,aInts,aBunks,aTks,aBunk,aTk,cTk];done)|(repeat' split) <;> simp [AV.plain,AV.plainL,aI,aB,aInts,aBunks,aTks,aBunk,aTk,cTk],fun _=>(by simp [AV.flat,AV.flatL,aI,aB]), ?_⟩
    have:=tog_fn (⟨a0,a1,a2,a3,a4,a5,a6⟩:Tk) (⟨b0,b1,b2,b3,b4,b5,b6⟩:Tk)
    simp only [aB,aI,aTk,cTk] at this
    first|exact this|(simp only [aB,aI,aTk,cTk];exact this)
  · exact h.elim
def tbD1_rtog:=kk @ty3 (kk @ty4 (kk @ty49 (kk @ty81 (kk @ti3.eq_1 (kk @ti4.eq_1 (kk @ti49.eq_1 @ti81.eq_1))))))
theorem rtog_fn (a b:Tk):FnV Try.prog 139 [aTk a,aTk b] (aB (togB a b)):=by
  have env:Env (fun _=>True) Try.prog tyB (tab [(138,valE true srmeet)]):=mkEnv ⟨ermeet,trivial⟩
  refine Fn.of (A:=fun _=>True) (n0:=0) (D:=noD) (Fn0 Try.func139 rfl (fun vs w=>by kernel_rfl) (by kernel_rfl)) (by simp) (by simp [AV.ids,AV.idsL,aTk,cTk]) (fun i o h=>by cases h) (fun _ _ _ _=>trivial) noD_ok ?_
  have em:meetB ⟨a.party,a.sex,a.cab,a.bed,a.frm,a.to,a.dog⟩ ⟨b.party,b.sex,b.cab,b.bed,b.frm,b.to,b.dog⟩=meetB a b:=rfl
  repeat' (first|(apply nx;with_reducible constructor)|refine jq (by decide) ?_|((first|refine kz env fun Q hQ=>?_|refine kj fun Q hQ=>?_);simp only [vkt,seval,tbD1_rtog,xbD1_2,aTk,cTk,smeet,srmeet,em];(try simp only [ite_and]);(repeat' (first|with_reducible assumption|refine And.intro ?_ ?_|intro hp));all_goals (first|(refine hQ _ ?_;clear hQ Q)|(refine hQ _ (fun h=>?_) (fun h=>?_) <;> clear hQ Q <;> (try simp only [vki,reduceCtorEq] at h))|(refine kx ?_;kernel_rfl)|omega|assumption|with_reducible rfl|skip)))
  all_goals (simp only [vrt,Try.results139,vkt,seval,tbD1_rtog,xbD1_2,aTk,cTk,smeet,srmeet];refine Fin.val rfl ?_;(try simp only [AV.le,AV.leL]))
  all_goals first|(simp [togB, *];done)|(simp_all [togB];done)
def srtog:List AV→Prop × AV
  |[.agg [.v (.int .i64 a0),.v (.int .i64 a1),.v (.int .i64 a2),.v (.int .i64 a3),.v (.int .i64 a4),.v (.int .i64 a5),.v (.bool a6)],.agg [.v (.int .i64 b0),.v (.int .i64 b1),.v (.int .i64 b2),.v (.int .i64 b3),.v (.int .i64 b4),.v (.int .i64 b5),.v (.bool b6)]]=>(True,aB (togB (⟨a0,a1,a2,a3,a4,a5,a6⟩:Tk) (⟨b0,b1,b2,b3,b4,b5,b6⟩:Tk)))
  |_=>(False,.junk)
theorem ertog {A:Frm→Prop}:EntryOK A Try.prog 139 (valE true srtog):=valE_ok fun vs hv h=>by
  clear hv
  unfold srtog at h ⊢
  split at h
  · rename_i a0 a1 a2 a3 a4 a5 a6 b0 b1 b2 b3 b4 b5 b6;clear h
    refine ⟨by first|trivial|(simp [AV.plain,AV.plainL,aI,aB,aInts,aBunks,aTks,aBunk,aTk,cTk];done)|(repeat' split) <;> simp [AV.plain,AV.plainL,aI,aB,aInts,aBunks,aTks,aBunk,aTk,cTk],fun _=>(by simp [AV.flat,AV.flatL,aI,aB]), ?_⟩
    have:=rtog_fn (⟨a0,a1,a2,a3,a4,a5,a6⟩:Tk) (⟨b0,b1,b2,b3,b4,b5,b6⟩:Tk)
    simp only [aB,aI,aTk,cTk] at this
    first|exact this|(simp only [aB,aI,aTk,cTk];exact this)
  · exact h.elim
def tbD1_way:=kk @ty3 (kk @ty28 (kk @ti3.eq_1 @ti28.eq_1))
def xbD1_3:=kk @aI.eq_1 (@aB.eq_1)
theorem way_fn (c:Chart) (a b:Int):FnV Try.prog 92 [aChart c,aI a,aI b] (aI (wayE c.secs a b)):=by
  have env:Env (fun _=>True) Try.prog tyB (tab []):=mkEnv trivial
  refine Fn.of (A:=fun _=>True) (n0:=0) (D:=noD) (Fn0 Try.func92 rfl (fun vs w=>by kernel_rfl) (by kernel_rfl)) (by simp) (by simp [AV.ids,AV.idsL,aI,aChart,cChart]) (fun i o h=>by cases h) (fun _ _ _ _=>trivial) noD_ok ?_
  repeat' (first|(apply nx;with_reducible constructor)|refine jq (by decide) ?_|((first|refine kz env fun Q hQ=>?_|refine kj fun Q hQ=>?_);simp only [vkt,seval,tbD1_way,xbD1_3,aChart,cChart];(try simp only [ite_and]);(repeat' (first|with_reducible assumption|refine And.intro ?_ ?_|intro hp));all_goals (first|(refine hQ _ ?_;clear hQ Q)|(refine hQ _ (fun h=>?_) (fun h=>?_) <;> clear hQ Q <;> (try simp only [vki,reduceCtorEq] at h))|(refine kx ?_;kernel_rfl)|omega|assumption|with_reducible rfl|skip)))
  all_goals (simp only [vrt,Try.results92,vkt,seval,tbD1_way,xbD1_3,aChart,cChart];refine Fin.val rfl ?_;(try simp only [AV.le,AV.leL]))
  all_goals (unfold wayE;simp [*])
  all_goals omega
def sway:List AV→Prop × AV
  |[.agg [.sl c0,.v (.int .i64 c1),.sl c2],.v (.int .i64 a),.v (.int .i64 b)]=>(c0=(c0.map dCabin).map eCabin∧c2=(c2.map dTk).map eTk,aI (wayE c1 a b))
  |_=>(False,.junk)
theorem eway {A:Frm→Prop}:EntryOK A Try.prog 92 (valE true sway):=valE_ok fun vs hv h=>by
  clear hv
  unfold sway at h ⊢
  split at h
  · rename_i c0 c1 c2 a b;obtain ⟨q0,q1⟩:=h
    refine ⟨by first|trivial|(simp [AV.plain,AV.plainL,aI,aB,aInts,aBunks,aTks,aBunk,aTk,cTk];done)|(repeat' split) <;> simp [AV.plain,AV.plainL,aI,aB,aInts,aBunks,aTks,aBunk,aTk,cTk],fun _=>(by simp [AV.flat,AV.flatL,aI,aB]), ?_⟩
    have:=way_fn ⟨c0.map dCabin,c1,c2.map dTk⟩ a b
    simp only [aCabins,aChart,aI,aTks,cChart,← q0,← q1] at this
    first|exact this|(simp only [aCabins,aChart,aI,aTks,cChart,← q0,← q1];exact this)
  · exact h.elim
def tbD1_rway:=kk @ty3 (kk @ty28 (kk @ti3.eq_1 @ti28.eq_1))
theorem rway_fn (c:Chart) (a b:Int):FnV Try.prog 137 [aChart c,aI a,aI b] (aI (wayE c.secs a b)):=by
  have env:Env (fun _=>True) Try.prog tyB (tab []):=mkEnv trivial
  refine Fn.of (A:=fun _=>True) (n0:=0) (D:=noD) (Fn0 Try.func137 rfl (fun vs w=>by kernel_rfl) (by kernel_rfl)) (by simp) (by simp [AV.ids,AV.idsL,aI,aChart,cChart]) (fun i o h=>by cases h) (fun _ _ _ _=>trivial) noD_ok ?_
  repeat' (first|(apply nx;with_reducible constructor)|refine jq (by decide) ?_|((first|refine kz env fun Q hQ=>?_|refine kj fun Q hQ=>?_);simp only [vkt,seval,tbD1_rway,xbD1_3,aChart,cChart];(try simp only [ite_and]);(repeat' (first|with_reducible assumption|refine And.intro ?_ ?_|intro hp));all_goals (first|(refine hQ _ ?_;clear hQ Q)|(refine hQ _ (fun h=>?_) (fun h=>?_) <;> clear hQ Q <;> (try simp only [vki,reduceCtorEq] at h))|(refine kx ?_;kernel_rfl)|omega|assumption|with_reducible rfl|skip)))
  all_goals (simp only [vrt,Try.results137,vkt,seval,tbD1_rway,xbD1_3,aChart,cChart];refine Fin.val rfl ?_;(try simp only [AV.le,AV.leL]))
  all_goals (unfold wayE;simp [*])
  all_goals omega
def srway:List AV→Prop × AV
  |[.agg [.sl c0,.v (.int .i64 c1),.sl c2],.v (.int .i64 a),.v (.int .i64 b)]=>(c0=(c0.map dCabin).map eCabin∧c2=(c2.map dTk).map eTk,aI (wayE c1 a b))
  |_=>(False,.junk)
theorem erway {A:Frm→Prop}:EntryOK A Try.prog 137 (valE true srway):=valE_ok fun vs hv h=>by
  clear hv
  unfold srway at h ⊢
  split at h
  · rename_i c0 c1 c2 a b;obtain ⟨q0,q1⟩:=h
    refine ⟨by first|trivial|(simp [AV.plain,AV.plainL,aI,aB,aInts,aBunks,aTks,aBunk,aTk,cTk];done)|(repeat' split) <;> simp [AV.plain,AV.plainL,aI,aB,aInts,aBunks,aTks,aBunk,aTk,cTk],fun _=>(by simp [AV.flat,AV.flatL,aI,aB]), ?_⟩
    have:=rway_fn ⟨c0.map dCabin,c1,c2.map dTk⟩ a b
    simp only [aCabins,aChart,aI,aTks,cChart,← q0,← q1] at this
    first|exact this|(simp only [aCabins,aChart,aI,aTks,cChart,← q0,← q1];exact this)
  · exact h.elim
end Go.Sym.B
namespace Go.Sym.B
open Go Go.Sym Go.Proofs Go.Sym.C
theorem fm_get {α β:Type} (f:α→List β) (d:β) (da:α):∀ (l:List α) (i k:Nat),i < l.length→k < (f (l.getD i da)).length→(l.flatMap f).getD (((l.take i).map fun a=>(f a).length).sum+k) d=(f (l.getD i da)).getD k d
  |[],i,_,h,_=>by simp at h
  |a :: l,0,k,_,hk=>by
    have hk:k < (f a).length:=hk
    rw [List.flatMap_cons,List.take_zero,List.map_nil,List.sum_nil,Nat.zero_add,List.getD_eq_getElem?_getD,List.getElem?_append_left hk,← List.getD_eq_getElem?_getD]
    rfl
  |a :: l,i+1,k,h,hk=>by
    have ih:=fm_get f d da l i k (by simpa using h) (by simpa using hk)
    rw [List.flatMap_cons,List.take_succ_cons,List.map_cons,List.sum_cons,List.getD_eq_getElem?_getD,List.getElem?_append_right (by omega),← List.getD_eq_getElem?_getD,show (f a).length+((l.take i).map fun a=>(f a).length).sum+k - (f a).length=((l.take i).map fun a=>(f a).length).sum+k by omega,ih]
    rfl
theorem fm_len {α β:Type} (f:α→List β) (l:List α):(l.flatMap f).length=(l.map fun a=>(f a).length).sum:=by
  rw [List.length_flatMap]
theorem take_sum {g:List Nat} {i:Nat} (h:i < g.length):(g.take (i+1)).sum=(g.take i).sum+g.getD i 0:=by
  rw [List.take_succ_eq_append_getElem h,List.sum_append]
  simp [List.getD_eq_getElem?_getD,h]
theorem take_sum_le {g:List Nat}:∀ {i j:Nat},i≤j→(g.take i).sum≤(g.take j).sum:=by
  induction g with
  |nil=>simp
  |cons a g ih =>
    intro i j h
    cases i with
    |zero=>simp
    |succ i =>
      cases j with
      |zero=>omega
      |succ j =>
        simp only [List.take_succ_cons,List.sum_cons]
        have:=ih (show i≤j by omega)
        omega
theorem sum_find:∀ (g:List Nat) (q:Nat),q < g.sum→∃ i,i < g.length∧(g.take i).sum≤q∧q < (g.take (i+1)).sum
  |[],q,h=>by simp at h
  |a :: g,q,h=>by
    rw [List.sum_cons] at h
    by_cases h1:q < a
    · exact ⟨0,by simp,by simp,by simpa using h1⟩
    · obtain ⟨i,h2,h3,h4⟩:=sum_find g (q - a) (by omega)
      refine ⟨i+1,by simpa using h2, ?_, ?_⟩
      · rw [List.take_succ_cons,List.sum_cons];omega
      · rw [List.take_succ_cons,List.sum_cons];omega
def resB (ans:Nat→Bool) (R:Nat):Bool:=decide (R=0) || ans (R - 1)
theorem nest (g:List Nat) {ans:Nat→Bool} {R:Nat} (h:Rounds ans R g.sum):∃ (RB:Nat) (ansB:Nat→Bool),Rounds ansB RB g.length ∧
    (∀ i,i < RB→(g.take i).sum≤R∧Rounds (fun j=>ans ((g.take i).sum+j)) (min (g.getD i 0) (R - (g.take i).sum)) (g.getD i 0)∧ansB i=resB (fun j=>ans ((g.take i).sum+j)) (min (g.getD i 0) (R - (g.take i).sum)) ∧
      min (g.take (i+1)).sum R=(g.take i).sum+min (g.getD i 0) (R - (g.take i).sum))∧min (g.take RB).sum R=R∧resB ans R=resB ansB RB:=by
  have hle:=h.le
  by_cases hB:0 < R∧ans (R - 1)=false
  · obtain ⟨hR,hf⟩:=hB
    obtain ⟨i,hi,h1,h2⟩:=sum_find g (R - 1) (by omega)
    refine ⟨i+1,fun k=>decide (k ≠ i),⟨hi,fun j hj=>by simp;omega,fun _=>⟨by omega,by simp⟩⟩,fun k hk=>?_,by omega, ?_⟩
    · have hkl:k < g.length:=by omega
      have ho:=take_sum_le (g:=g) (show k≤i by omega)
      have hs:=take_sum hkl
      have hoR:(g.take k).sum≤R:=by omega
      refine ⟨hoR,⟨Nat.min_le_left _ _,fun j hj=>h.yes _ (by omega),fun hlt=>⟨by omega, ?_⟩⟩, ?_,by omega⟩
      · show ans _=false
        rw [show (g.take k).sum+(min (g.getD k 0) (R - (g.take k).sum) - 1)=R - 1 by omega];exact hf
      · by_cases hki:k=i
        · subst hki
          have e:(g.take k).sum+(min (g.getD k 0) (R - (g.take k).sum) - 1)=R - 1:=by omega
          have e0:¬ min (g.getD k 0) (R - (g.take k).sum)=0:=by omega
          simp only [resB,e,hf,e0,ne_eq,not_true_eq_false,decide_false,Bool.or_self]
        · have h3:=take_sum_le (g:=g) (show k+1≤i by omega)
          have e1:min (g.getD k 0) (R - (g.take k).sum)=g.getD k 0:=by omega
          rw [e1]
          by_cases h0:g.getD k 0=0
          · simp [-List.getD_eq_getElem?_getD,resB,h0,hki]
          · have:=h.yes ((g.take k).sum+(g.getD k 0 - 1)) (by omega)
            simp [-List.getD_eq_getElem?_getD,resB,h0,hki,this]
    · simp [resB,hf,show ¬ R=0 by omega]
  · have hRN:R=g.sum:=by
      refine Nat.le_antisymm hle (Nat.le_of_not_lt fun hlt=>?_)
      exact hB (h.stop hlt)
    have hall:∀ j,j < R→ans j=true:=fun j hj=>by
      by_cases hj1:j+1 < R
      · exact h.yes j hj1
      · have:j=R - 1:=by omega
        subst this
        cases ha:ans (R - 1) with
        |true=>rfl
        |false=>exact absurd ⟨by omega,ha⟩ hB
    have hfull:(g.take g.length).sum=g.sum:=by rw [List.take_length]
    refine ⟨g.length,fun _=>true,⟨Nat.le_refl _,fun _ _=>rfl,fun h=>absurd h (Nat.lt_irrefl _)⟩,fun k hk=>?_,by omega, ?_⟩
    · have hs:=take_sum hk
      have h3:=take_sum_le (g:=g) (show k+1≤g.length by omega)
      have e1:min (g.getD k 0) (R - (g.take k).sum)=g.getD k 0:=by omega
      refine ⟨by omega, ?_, ?_,by omega⟩
      · rw [e1]
        exact ⟨Nat.le_refl _,fun j hj=>hall _ (by omega),fun h=>absurd h (Nat.lt_irrefl _)⟩
      · rw [e1]
        by_cases h0:g.getD k 0=0
        · simp [-List.getD_eq_getElem?_getD,resB,h0]
        · simp [-List.getD_eq_getElem?_getD,resB,h0,hall ((g.take k).sum+(g.getD k 0 - 1)) (by omega)]
    · by_cases h0:R=0
      · simp [resB,h0]
      · simp [resB,hall (R - 1) (by omega)]
def bdsL (cs:List Cabin):List Nat:=cs.map fun x=>x.beds.toNat
theorem bunks_eq (cs:List Cabin):bunksL cs=(List.range cs.length).flatMap fun i=>(List.range (cs.getD i default).beds.toNat).map fun (k:Nat)=>(⟨(i:Int),(k:Int)⟩:Bunk):=rfl
theorem bds_take (cs:List Cabin) {i:Nat} (hi:i≤cs.length):(((List.range cs.length).take i).map fun (j:Nat)=>(List.map (fun (k:Nat)=>(⟨(j:Int),(k:Int)⟩:Bunk)) (List.range (cs.getD j default).beds.toNat)).length)=(bdsL cs).take i:=by
  apply List.ext_getElem
  · simp [bdsL]
  · intro n h1 h2
    simp only [List.length_map,List.length_take,List.length_range] at h1
    have hn:n < cs.length:=by omega
    simp [bdsL,List.getD_eq_getElem?_getD,hn]
theorem bunks_len (cs:List Cabin):(bunksL cs).length=(bdsL cs).sum:=by
  rw [bunks_eq,fm_len]
  have:=bds_take cs (Nat.le_refl cs.length)
  rw [List.take_of_length_le (by simp),List.take_of_length_le (by simp [bdsL])] at this
  rw [this]
theorem bunks_get {cs:List Cabin} {i k:Nat} (hi:i < cs.length) (hk:k < (cs.getD i default).beds.toNat):(bunksL cs).getD (((bdsL cs).take i).sum+k) default=⟨(i:Int),(k:Int)⟩:=by
  have hr:(List.range cs.length).getD i 0=i:=by simp [List.getD_eq_getElem?_getD,hi]
  have:=fm_get (fun i=>(List.range (cs.getD i default).beds.toNat).map fun (k:Nat)=>(⟨(i:Int),(k:Int)⟩:Bunk)) default 0 (List.range cs.length) i k (by simpa using hi) (by rw [hr];simpa using hk)
  rw [bds_take cs (by omega),hr] at this
  rw [bunks_eq,this]
  generalize (cs.getD i default).beds.toNat=m at hk ⊢
  simp [List.getD_eq_getElem?_getD,hk]
theorem bunk_mem {cs:List Cabin} {b:Bunk}:b ∈ bunksL cs ↔ ∃ i k:Nat,i < cs.length∧k < (cs.getD i default).beds.toNat∧b=⟨(i:Int),(k:Int)⟩:=by
  rw [bunks_eq,List.mem_flatMap]
  constructor
  · rintro ⟨i,hi,hb⟩
    obtain ⟨k,hk,rfl⟩:=List.mem_map.1 hb
    exact ⟨i,k,List.mem_range.1 hi,List.mem_range.1 hk,rfl⟩
  · rintro ⟨i,k,hi,hk,rfl⟩
    exact ⟨i,List.mem_range.2 hi,List.mem_map.2 ⟨k,List.mem_range.2 hk,rfl⟩⟩
theorem bds_get {cs:List Cabin} {i:Nat} (hi:i < cs.length):(bdsL cs).getD i 0=(cs.getD i default).beds.toNat:=by
  simp [bdsL,List.getD_eq_getElem?_getD,hi]
end Go.Sym.B
namespace Go.Sym.B
open Go Go.Sym Go.Proofs Go.Sym.C
def idxT (p:Tk→Bool) (l:List Tk):Int:=match l.findIdx? p with
  |some i=>(i:Int)
  |none=>-1
theorem idxT_hit {p:Tk→Bool} {l:List Tk} {k:Nat} (hk:k < l.length) (h:∀ j,j < k→p (l.getD j default)=false) (hp:p (l.getD k default)=true):idxT p l=(k:Int):=by
  have:l.findIdx? p=some k:=by
    rw [List.findIdx?_eq_some_iff_getElem]
    refine ⟨hk,by simpa [List.getD_eq_getElem?_getD,hk] using hp,fun j hj=>?_⟩
    have:=h j hj
    simpa [List.getD_eq_getElem?_getD,show j < l.length by omega] using this
  simp [idxT,this]
theorem idxT_none {p:Tk→Bool} {l:List Tk} (h:∀ j,j < l.length→p (l.getD j default)=false):idxT p l=-1:=by
  have:l.findIdx? p=none:=by
    rw [List.findIdx?_eq_none_iff]
    intro x hx
    obtain ⟨j,hj,rfl⟩:=List.mem_iff_getElem.1 hx
    have:=h j hj
    simpa [List.getD_eq_getElem?_getD,hj] using this
  simp [idxT,this]
theorem idxT_any (p:Tk→Bool) (l:List Tk):decide (0≤idxT p l)=l.any p:=by
  unfold idxT
  cases h:l.findIdx? p with
  |none =>
    rw [List.findIdx?_eq_none_iff] at h
    symm
    simpa using h
  |some i =>
    rw [List.findIdx?_eq_some_iff_getElem] at h
    obtain ⟨hi,hp,_⟩:=h
    symm
    simp only [Int.natCast_nonneg,decide_true,List.any_eq_true]
    exact ⟨_,List.getElem_mem hi,hp⟩
structure PCs (cs:List AV):Prop where
  ids:AV.idsL cs=[]
  le:∀ h σ,AV.leL h σ cs cs=True
  ren:∀ τ,AV.renL τ cs=cs
theorem pcs_tk (t:Tk):PCs (cTk t):=⟨by simp [cTk,AV.idsL,AV.ids],by simp [cTk,AV.leL,AV.le],by simp [cTk,AV.renL,AV.ren]⟩
def pTk (cs:List AV) (p:Tk→Bool) (S:St):List AV→Option Pk
  |[.agg [.v (.int .i64 a),.v (.int .i64 b),.v (.int .i64 c),.v (.int .i64 d),.v (.int .i64 e),.v (.int .i64 f),.v (.bool g)],.ptr t 0]=>match S.h t with
    |some (.cells cs')=>some { pre:=cs'=cs,hs:=[t],ar:=[.agg [.v (.int .i64 a),.v (.int .i64 b),.v (.int .i64 c),.v (.int .i64 d),.v (.int .i64 e),.v (.int .i64 f),.v (.bool g)],.ptr 0 0],L0:=[.cells cs],v:=aB (p ⟨a,b,c,d,e,f,g⟩),L1:=[some (.cells cs)] }
    |_=>none
  |_=>none
def PredFn (cl:Nat) (cs:List AV) (p:Tk→Bool):Prop:=∀ x,Fn noB Try.prog cl [aTk x,.ptr 0 0] (hasg [(0,.cells cs)]) (aB (p x)) (hasg [(0,.cells cs)]) 0
theorem eTkp {A:Frm→Prop} {cl:Nat} {cs:List AV} {p:Tk→Bool} (h0:PredFn cl cs p):EntryOK A Try.prog cl (fnE (pTk cs p)):=fnE_ok fun S bs q h hp=>by
  unfold pTk at h
  split at h
  · split at h
    · rename_i a b c d e f g t _ cs' _
      cases h
      exact h0 ⟨a,b,c,d,e,f,g⟩
    · cases h
  · cases h
def ixS (l:List Tk) (cl:Nat) (cs:List AV) (k:Nat):St:={ t:=asg [(0,aTks l),(1,.clo cl [.ptr 0 0]),(4,aI 0),(6,aTks l),(7,aI l.length),(8,aI k)],h:=hasg [(0,.cells cs)],n:=1,m:=1 }
def tbD2_index:=kk @ty3 (kk @ty26 (kk @ty81 (kk @ti3.eq_1 (kk @ti26.eq_1 @ti81.eq_1))))
def xbD2_1:=kk @aI.eq_1 (kk @aB.eq_1 (@ixS.eq_1))
theorem index_fn {cl:Nat} {cs:List AV} {p:Tk→Bool} (hc:PCs cs) (h0:PredFn cl cs p) (l:List Tk) (hl:l.length≤100):Fn noB Try.prog 126 [aTks l,.clo cl [.ptr 0 0]] (hasg [(0,.cells cs)]) (aI (idxT p l)) (hasg [(0,.cells cs)]) 0:=by
  have env:Env (fun _=>True) Try.prog tyB (tab [(cl,fnE (pTk cs p))]):=mkEnv ⟨eTkp h0,trivial⟩
  obtain ⟨c1,c2,c4⟩:=hc
  refine Fn.of (A:=fun _=>True) (n0:=1) (D:=noD) (Fn0 Try.func126 rfl (fun vs w=>by kernel_rfl) (by kernel_rfl)) (by simp) (by simp [AV.ids,AV.idsL,aTks]) ?_ (fun _ _ _ _=>trivial) noD_ok ?_
  · intro i o hi
    have h:=hasg_mem hi
    simp at h;obtain ⟨rfl,rfl⟩:=h;simp [AObj.ids,c1]
  repeat' (first|(apply nx;with_reducible constructor)|refine jq (by decide) ?_|((first|refine kz env fun Q hQ=>?_|refine kj fun Q hQ=>?_);simp only [vkt,seval,tbD2_index,xbD2_1,aTk,cTk,aTks,eTk,gTk,mTk,pTk];(try simp only [ite_and]);(repeat' (first|with_reducible assumption|refine And.intro ?_ ?_|intro hp));all_goals (first|(refine hQ _ ?_;clear hQ Q)|(refine hQ _ (fun h=>?_) (fun h=>?_) <;> clear hQ Q <;> (try simp only [vki,reduceCtorEq] at h))|(refine kx ?_;kernel_rfl)|omega|assumption|with_reducible rfl|skip)))
  refine sym_loop (fun k:{ k:Nat // k≤l.length∧∀ j,j < k→p (l.getD j default)=false }=>ixS l cl cs k.1) (fun k=>l.length - k.1) ⟨0,Nat.zero_le _,fun j h=>absurd h (Nat.not_lt_zero _)⟩ ?_ fun ⟨k,hk,hno⟩=>?_
  · (refine Le.ok some [] ?_;constructor;all_goals (try simp only [vle,vkt,seval,tbD2_index,xbD2_1,aTk,cTk,aTks,eTk,gTk,mTk,pTk]))
    all_goals first|rfl|(simp [c1,c2];done)
  · repeat' (first|(apply nx;with_reducible constructor)|refine jq (by decide) ?_)
    (refine kz env fun Q hQ=>?_;simp only [vkt,seval,tbD2_index,xbD2_1,aTk,cTk,aTks,eTk,gTk,mTk,pTk];(try simp only [ite_and]);(repeat' (first|with_reducible assumption|refine And.intro ?_ ?_|intro hp));all_goals (first|(refine hQ _ ?_;clear hQ Q)|(refine kx ?_;kernel_rfl)|omega|assumption|with_reducible rfl|skip))
    repeat' (first|(apply nx;with_reducible constructor)|refine jq (by decide) ?_)
    (refine sym_cd (by simp only [vkt,seval,tbD2_index,xbD2_1,aTk,cTk,aTks,eTk,gTk,mTk,pTk];rfl) (fun h=>?_) (fun h=>?_) <;> (try simp only [vki,reduceCtorEq] at h))
    · have hlt:k < l.length:=by omega
      have e9:IntKind.wrap .i64 ((k:Int)+1)=((k+1:Nat):Int):=by rw [wrap64 (by omega) (by omega)];rfl
      obtain ⟨x,hx⟩:∃ x,l.getD k default=x:=⟨_,rfl⟩
      have ex:(⟨x.party,x.sex,x.cab,x.bed,x.frm,x.to,x.dog⟩:Tk)=x:=rfl
      cases hp:p x
      · repeat' (first|(apply nx;with_reducible constructor)|refine jq (by decide) ?_|((first|refine kz env fun Q hQ=>?_|refine kj fun Q hQ=>?_);simp only [vkt,seval,tbD2_index,xbD2_1,aTk,cTk,aTks,eTk,gTk,mTk,pTk,hx,ex,hp,e9,c1,c2,c4];(try simp only [ite_and]);(repeat' (first|with_reducible assumption|refine And.intro ?_ ?_|intro hp));all_goals (first|(refine hQ _ ?_;clear hQ Q)|(refine hQ _ (fun h=>?_) (fun h=>?_) <;> clear hQ Q <;> (try simp only [vki,reduceCtorEq] at h))|(refine kx ?_;kernel_rfl)|omega|assumption|with_reducible rfl|skip)))
        refine ⟨⟨k+1,hlt,fun j hj=>?_⟩,by show l.length - (k+1) < l.length - k;omega, ?_⟩
        · rcases Nat.lt_or_eq_of_le (Nat.le_of_lt_succ hj) with h1|h1
          · exact hno j h1
          · rw [h1,hx];exact hp
        · (refine Le.ok some [] ?_;constructor;all_goals (try simp only [vle,vkt,seval,tbD2_index,xbD2_1,aTk,cTk,aTks,eTk,gTk,mTk,pTk]))
          all_goals first|rfl|(simp [c1,c2];done)
      · have hh:=idxT_hit hlt hno (by rw [hx];exact hp)
        rw [hh]
        repeat' (first|(apply nx;with_reducible constructor)|refine jq (by decide) ?_|((first|refine kz env fun Q hQ=>?_|refine kj fun Q hQ=>?_);simp only [vkt,seval,tbD2_index,xbD2_1,aTk,cTk,aTks,eTk,gTk,mTk,pTk,hx,ex,hp,e9,c1,c2,c4];(try simp only [ite_and]);(repeat' (first|with_reducible assumption|refine And.intro ?_ ?_|intro hp));all_goals (first|(refine hQ _ ?_;clear hQ Q)|(refine hQ _ (fun h=>?_) (fun h=>?_) <;> clear hQ Q <;> (try simp only [vki,reduceCtorEq] at h))|(refine kx ?_;kernel_rfl)|omega|assumption|with_reducible rfl|skip)))
        (simp only [vrt,Try.results126,c1,c2,vkt,seval,tbD2_index,xbD2_1,aTk,cTk,aTks,eTk,gTk,mTk,pTk];refine Fin.ok some [] ?_ ?_ ?_ ?_ ?_ rfl;all_goals (try simp only [vle,vkt,seval,tbD2_index,xbD2_1,aTk,cTk,aTks,eTk,gTk,mTk,pTk]))
        all_goals first|rfl|(simp [c1,c2];done)
    · have hke:k=l.length:=by omega
      subst hke
      rw [idxT_none hno]
      repeat' (first|(apply nx;with_reducible constructor)|refine jq (by decide) ?_|((first|refine kz env fun Q hQ=>?_|refine kj fun Q hQ=>?_);simp only [vkt,seval,tbD2_index,xbD2_1,aTk,cTk,aTks,eTk,gTk,mTk,pTk,c1,c2];(try simp only [ite_and]);(repeat' (first|with_reducible assumption|refine And.intro ?_ ?_|intro hp));all_goals (first|(refine hQ _ ?_;clear hQ Q)|(refine hQ _ (fun h=>?_) (fun h=>?_) <;> clear hQ Q <;> (try simp only [vki,reduceCtorEq] at h))|(refine kx ?_;kernel_rfl)|omega|assumption|with_reducible rfl|skip)))
      (simp only [vrt,Try.results126,c1,c2,vkt,seval,tbD2_index,xbD2_1,aTk,cTk,aTks,eTk,gTk,mTk,pTk];refine Fin.ok some [] ?_ ?_ ?_ ?_ ?_ rfl;all_goals (try simp only [vle,vkt,seval,tbD2_index,xbD2_1,aTk,cTk,aTks,eTk,gTk,mTk,pTk]))
      all_goals first|rfl|(simp [c1,c2];done)
def pIdx (cl:Nat) (cs:List AV) (p:Tk→Bool) (S:St):List AV→Option Pk
  |[.sl xs,.clo f [.ptr t 0]]=>match S.h t with
    |some (.cells cs')=>some { pre:=f=cl∧cs'=cs∧xs=(xs.map dTk).map eTk∧xs.length≤100,hs:=[t],ar:=[.sl xs,.clo cl [.ptr 0 0]],L0:=[.cells cs],v:=aI (idxT p (xs.map dTk)),L1:=[some (.cells cs)] }
    |_=>none
  |_=>none
theorem eIdx {A:Frm→Prop} {cl:Nat} {cs:List AV} {p:Tk→Bool} (hc:PCs cs) (h0:PredFn cl cs p):EntryOK A Try.prog 126 (fnE (pIdx cl cs p)):=fnE_ok fun S bs q h hp=>by
  unfold pIdx at h
  split at h
  · split at h
    · cases h
      obtain ⟨_,_,h1,h2⟩:=hp
      have:=index_fn hc h0 (List.map dTk _) (by rw [List.length_map];exact h2)
      rw [aTks,← h1] at this
      exact this
    · cases h
  · cases h
def tbD2_cont:=kk @ty3 @ti3.eq_1
def xbD2_2:=kk @aI.eq_1 (@aB.eq_1)
theorem cont_fn {cl:Nat} {cs:List AV} {p:Tk→Bool} (hc:PCs cs) (h0:PredFn cl cs p) (l:List Tk) (hl:l.length≤100):Fn noB Try.prog 127 [aTks l,.clo cl [.ptr 0 0]] (hasg [(0,.cells cs)]) (aB (l.any p)) (hasg [(0,.cells cs)]) 0:=by
  have env:Env (fun _=>True) Try.prog tyB (tab [(126,fnE (pIdx cl cs p))]):=mkEnv ⟨eIdx hc h0,trivial⟩
  obtain ⟨c1,c2,c4⟩:=hc
  refine Fn.of (A:=fun _=>True) (n0:=1) (D:=noD) (Fn0 Try.func127 rfl (fun vs w=>by kernel_rfl) (by kernel_rfl)) (by simp) (by simp [AV.ids,AV.idsL,aTks]) ?_ (fun _ _ _ _=>trivial) noD_ok ?_
  · intro i o hi
    have h:=hasg_mem hi
    simp at h;obtain ⟨rfl,rfl⟩:=h;simp [AObj.ids,c1]
  repeat' (first|(apply nx;with_reducible constructor)|refine jq (by decide) ?_|((first|refine kz env fun Q hQ=>?_|refine kj fun Q hQ=>?_);simp only [vkt,seval,tbD2_cont,xbD2_2,aTks,eTk,mTk,pIdx,List.length_map,c1,c2,c4];(try simp only [ite_and]);(repeat' (first|with_reducible assumption|refine And.intro ?_ ?_|intro hp));all_goals (first|(refine hQ _ ?_;clear hQ Q)|(refine hQ _ (fun h=>?_) (fun h=>?_) <;> clear hQ Q <;> (try simp only [vki,reduceCtorEq] at h))|(refine kx ?_;kernel_rfl)|omega|assumption|with_reducible rfl|skip)))
  (simp only [vrt,Try.results127,idxT_any,c1,c2,vkt,seval,tbD2_cont,xbD2_2,aTks,eTk,mTk,pIdx,List.length_map];refine Fin.ok some [] ?_ ?_ ?_ ?_ ?_ rfl;all_goals (try simp only [vle,vkt,seval,tbD2_cont,xbD2_2,aTks,eTk,mTk,pIdx,List.length_map]))
  all_goals first|rfl|(simp [c1,c2];done)
def tbD2_bes1:=kk @ty49 (kk @ty81 (kk @ti49.eq_1 @ti81.eq_1))
def xbD2_3:=kk @aI.eq_1 (@aB.eq_1)
theorem bes1_fn (t:Tk):PredFn 140 (cTk t) (twiceB t):=fun x=>by
  have env:Env (fun _=>True) Try.prog tyB (tab [(141,valE true smeet)]):=mkEnv ⟨emeet,trivial⟩
  refine Fn.of (A:=fun _=>True) (n0:=1) (D:=noD) (Fn0 Try.func140 rfl (fun vs w=>by kernel_rfl) (by kernel_rfl)) (by simp) (by simp [AV.ids,AV.idsL,aTk,cTk]) ?_ (fun _ _ _ _=>trivial) noD_ok ?_
  · intro i o hi
    have h:=hasg_mem hi
    simp at h;obtain ⟨rfl,rfl⟩:=h;simp [cTk,AObj.ids,AV.ids,AV.idsL]
  have em:meetB ⟨x.party,x.sex,x.cab,x.bed,x.frm,x.to,x.dog⟩ ⟨t.party,t.sex,t.cab,t.bed,t.frm,t.to,t.dog⟩=meetB x t:=rfl
  repeat' (first|(apply nx;with_reducible constructor)|refine jq (by decide) ?_|((first|refine kz env fun Q hQ=>?_|refine kj fun Q hQ=>?_);simp only [vkt,seval,tbD2_bes1,xbD2_3,aTk,cTk,smeet,stog,em];(try simp only [ite_and]);(repeat' (first|with_reducible assumption|refine And.intro ?_ ?_|intro hp));all_goals (first|(refine hQ _ ?_;clear hQ Q)|(refine hQ _ (fun h=>?_) (fun h=>?_) <;> clear hQ Q <;> (try simp only [vki,reduceCtorEq] at h))|(refine kx ?_;kernel_rfl)|omega|assumption|with_reducible rfl|skip)))
  all_goals (simp only [vrt,Try.results140,vkt,seval,tbD2_bes1,xbD2_3,aTk,cTk,smeet,stog];refine Fin.ok some [] ?_ ?_ ?_ ?_ ?_ rfl;all_goals (try simp only [vle,vkt,seval,tbD2_bes1,xbD2_3,aTk,cTk,smeet,stog]))
  all_goals first|rfl|(simp [twiceB, *];done)|(simp_all [twiceB];done)
def tbD2_bes2:=kk @ty81 @ti81.eq_1
theorem bes2_fn (t:Tk):PredFn 142 (cTk t) (fun x=>!togB x t):=fun x=>by
  have env:Env (fun _=>True) Try.prog tyB (tab [(143,valE true stog)]):=mkEnv ⟨etog,trivial⟩
  refine Fn.of (A:=fun _=>True) (n0:=1) (D:=noD) (Fn0 Try.func142 rfl (fun vs w=>by kernel_rfl) (by kernel_rfl)) (by simp) (by simp [AV.ids,AV.idsL,aTk,cTk]) ?_ (fun _ _ _ _=>trivial) noD_ok ?_
  · intro i o hi
    have h:=hasg_mem hi
    simp at h;obtain ⟨rfl,rfl⟩:=h;simp [cTk,AObj.ids,AV.ids,AV.idsL]
  have em:togB ⟨x.party,x.sex,x.cab,x.bed,x.frm,x.to,x.dog⟩ ⟨t.party,t.sex,t.cab,t.bed,t.frm,t.to,t.dog⟩=togB x t:=rfl
  repeat' (first|(apply nx;with_reducible constructor)|refine jq (by decide) ?_|((first|refine kz env fun Q hQ=>?_|refine kj fun Q hQ=>?_);simp only [vkt,seval,tbD2_bes2,xbD2_3,aTk,cTk,smeet,stog,em];(try simp only [ite_and]);(repeat' (first|with_reducible assumption|refine And.intro ?_ ?_|intro hp));all_goals (first|(refine hQ _ ?_;clear hQ Q)|(refine hQ _ (fun h=>?_) (fun h=>?_) <;> clear hQ Q <;> (try simp only [vki,reduceCtorEq] at h))|(refine kx ?_;kernel_rfl)|omega|assumption|with_reducible rfl|skip)))
  all_goals (simp only [vrt,Try.results142,vkt,seval,tbD2_bes2,xbD2_3,aTk,cTk,smeet,stog];refine Fin.ok some [] ?_ ?_ ?_ ?_ ?_ rfl;all_goals (try simp only [vle,vkt,seval,tbD2_bes2,xbD2_3,aTk,cTk,smeet,stog]))
  all_goals first|rfl|(simp;done)
def pCont (S:St):List AV→Option Pk
  |[.sl xs,.clo 140 [.ptr t 0]]=>match S.h t with
    |some (.cells [.v (.int .i64 a),.v (.int .i64 b),.v (.int .i64 c),.v (.int .i64 d),.v (.int .i64 e),.v (.int .i64 f),.v (.bool g)])=>some { pre:=xs=(xs.map dTk).map eTk∧xs.length≤100,hs:=[t],ar:=[.sl xs,.clo 140 [.ptr 0 0]],L0:=[.cells (cTk ⟨a,b,c,d,e,f,g⟩)],v:=aB ((xs.map dTk).any (twiceB ⟨a,b,c,d,e,f,g⟩)),L1:=[some (.cells (cTk ⟨a,b,c,d,e,f,g⟩))] }
    |_=>none
  |[.sl xs,.clo 142 [.ptr t 0]]=>match S.h t with
    |some (.cells [.v (.int .i64 a),.v (.int .i64 b),.v (.int .i64 c),.v (.int .i64 d),.v (.int .i64 e),.v (.int .i64 f),.v (.bool g)])=>some { pre:=xs=(xs.map dTk).map eTk∧xs.length≤100,hs:=[t],ar:=[.sl xs,.clo 142 [.ptr 0 0]],L0:=[.cells (cTk ⟨a,b,c,d,e,f,g⟩)],v:=aB ((xs.map dTk).any fun x=>!togB x ⟨a,b,c,d,e,f,g⟩),L1:=[some (.cells (cTk ⟨a,b,c,d,e,f,g⟩))] }
    |_=>none
  |_=>none
theorem eCont {A:Frm→Prop}:EntryOK A Try.prog 127 (fnE pCont):=fnE_ok fun S bs q h hp=>by
  unfold pCont at h
  split at h
  · split at h
    · rename_i xs t _ a b c d e f g _
      cases h
      obtain ⟨h1,h2⟩:=hp
      have:=cont_fn (pcs_tk ⟨a,b,c,d,e,f,g⟩) (bes1_fn ⟨a,b,c,d,e,f,g⟩) (xs.map dTk) (by rw [List.length_map];exact h2)
      rw [aTks,← h1] at this
      exact this
    · cases h
  · split at h
    · rename_i xs t _ a b c d e f g _
      cases h
      obtain ⟨h1,h2⟩:=hp
      have:=cont_fn (pcs_tk ⟨a,b,c,d,e,f,g⟩) (bes2_fn ⟨a,b,c,d,e,f,g⟩) (xs.map dTk) (by rw [List.length_map];exact h2)
      rw [aTks,← h1] at this
      exact this
    · cases h
  · cases h
def xbD2_4:=kk @aI.eq_1 (@aB.eq_1)
theorem beside_fn (t:Tk) (l:List Tk) (hl:l.length≤100):FnV Try.prog 124 [aTk t,aTks l] (aI (besideE t l)):=by
  have env:Env (fun _=>True) Try.prog tyB (tab [(127,fnE pCont)]):=mkEnv ⟨eCont,trivial⟩
  refine Fn.of (A:=fun _=>True) (n0:=0) (D:=noD) (Fn0 Try.func124 rfl (fun vs w=>by kernel_rfl) (by kernel_rfl)) (by simp) (by simp [AV.ids,AV.idsL,aTk,cTk,aTks]) (fun i o h=>by cases h) (fun _ _ _ _=>trivial) noD_ok ?_
  have et:(⟨t.party,t.sex,t.cab,t.bed,t.frm,t.to,t.dog⟩:Tk)=t:=rfl
  cases h1:l.any (twiceB t)
  · cases h2:l.any (fun x=>!togB x t)
    · rw [show besideE t l=0 by simp [besideE,h1,h2]]
      repeat' (first|(apply nx;with_reducible constructor)|refine jq (by decide) ?_|((first|refine kz env fun Q hQ=>?_|refine kj fun Q hQ=>?_);simp only [vkt,seval,xbD2_4,aTk,cTk,aTks,eTk,mTk,pCont,List.length_map,et,h1,h2];(try simp only [ite_and]);(repeat' (first|with_reducible assumption|refine And.intro ?_ ?_|intro hp));all_goals (first|(refine hQ _ ?_;clear hQ Q)|(refine hQ _ (fun h=>?_) (fun h=>?_) <;> clear hQ Q <;> (try simp only [vki,reduceCtorEq] at h))|(refine kx ?_;kernel_rfl)|omega|assumption|with_reducible rfl|skip)))
      (simp only [vrt,Try.results124,vkt,seval,xbD2_4,aTk,cTk,aTks,eTk,mTk,pCont,List.length_map];refine Fin.val rfl ?_;(try simp only [AV.le,AV.leL]))
      all_goals first|rfl|(simp;done)
    · rw [show besideE t l=9 by simp [besideE,h1,h2]]
      repeat' (first|(apply nx;with_reducible constructor)|refine jq (by decide) ?_|((first|refine kz env fun Q hQ=>?_|refine kj fun Q hQ=>?_);simp only [vkt,seval,xbD2_4,aTk,cTk,aTks,eTk,mTk,pCont,List.length_map,et,h1,h2];(try simp only [ite_and]);(repeat' (first|with_reducible assumption|refine And.intro ?_ ?_|intro hp));all_goals (first|(refine hQ _ ?_;clear hQ Q)|(refine hQ _ (fun h=>?_) (fun h=>?_) <;> clear hQ Q <;> (try simp only [vki,reduceCtorEq] at h))|(refine kx ?_;kernel_rfl)|omega|assumption|with_reducible rfl|skip)))
      (simp only [vrt,Try.results124,vkt,seval,xbD2_4,aTk,cTk,aTks,eTk,mTk,pCont,List.length_map];refine Fin.val rfl ?_;(try simp only [AV.le,AV.leL]))
      all_goals first|rfl|(simp;done)
  · rw [show besideE t l=4 by simp [besideE,h1]]
    repeat' (first|(apply nx;with_reducible constructor)|refine jq (by decide) ?_|((first|refine kz env fun Q hQ=>?_|refine kj fun Q hQ=>?_);simp only [vkt,seval,xbD2_4,aTk,cTk,aTks,eTk,mTk,pCont,List.length_map,et,h1];(try simp only [ite_and]);(repeat' (first|with_reducible assumption|refine And.intro ?_ ?_|intro hp));all_goals (first|(refine hQ _ ?_;clear hQ Q)|(refine hQ _ (fun h=>?_) (fun h=>?_) <;> clear hQ Q <;> (try simp only [vki,reduceCtorEq] at h))|(refine kx ?_;kernel_rfl)|omega|assumption|with_reducible rfl|skip)))
    (simp only [vrt,Try.results124,vkt,seval,xbD2_4,aTk,cTk,aTks,eTk,mTk,pCont,List.length_map];refine Fin.val rfl ?_;(try simp only [AV.le,AV.leL]))
    all_goals first|rfl|(simp;done)
def sbeside:List AV→Prop × AV
  |[.agg [.v (.int .i64 t0),.v (.int .i64 t1),.v (.int .i64 t2),.v (.int .i64 t3),.v (.int .i64 t4),.v (.int .i64 t5),.v (.bool t6)],.sl l]=>(l=(l.map dTk).map eTk∧(l.map dTk).length≤100,aI (besideE (⟨t0,t1,t2,t3,t4,t5,t6⟩:Tk) (l.map dTk)))
  |_=>(False,.junk)
theorem ebeside {A:Frm→Prop}:EntryOK A Try.prog 124 (valE true sbeside):=valE_ok fun vs hv h=>by
  clear hv
  unfold sbeside at h ⊢
  split at h
  · rename_i t0 t1 t2 t3 t4 t5 t6 l;obtain ⟨q0,k0⟩:=h
    refine ⟨by first|trivial|(simp [AV.plain,AV.plainL,aI,aB,aInts,aBunks,aTks,aBunk,aTk,cTk];done)|(repeat' split) <;> simp [AV.plain,AV.plainL,aI,aB,aInts,aBunks,aTks,aBunk,aTk,cTk],fun _=>(by simp [AV.flat,AV.flatL,aI,aB]), ?_⟩
    have:=beside_fn (⟨t0,t1,t2,t3,t4,t5,t6⟩:Tk) (l.map dTk) k0
    simp only [aB,aI,aTk,aTks,cTk,← q0] at this
    first|exact this|(simp only [aB,aI,aTk,aTks,cTk,← q0];exact this)
  · exact h.elim
end Go.Sym.B
namespace Go.Sym.B
open Go Go.Sym Go.Proofs Go.Sym.C
theorem mapD {α:Type} [Inhabited α] {f:α→Int} {l:List α} {j:Nat} (h:j < l.length):(l.map f).getD j 0=f (l.getD j default):=by simp [List.getD_eq_getElem?_getD,h]
theorem rngD {f:Nat→Int} {n j:Nat} (h:j < n):((List.range n).map f).getD j 0=f j:=by simp [List.getD_eq_getElem?_getD,h]
def crS (c:Chart) (k:Nat):St:={ t:=asg [(1,.ptr 0 0),(2,aI 0),(14,.sl (c.cabins.map eCabin)),(15,aI c.cabins.length),(16,aI k)],h:=hasg [(0,.cells (cChart c))],n:=1 }
def tbD3_car:=kk @ty3 (kk @ty25 (kk @ty26 (kk @ty28 (kk @ty34 (kk @ty51 (kk @ty81 (kk @ti3.eq_1 (kk @ti25.eq_1 (kk @ti26.eq_1 (kk @ti28.eq_1 (kk @ti34.eq_1 (kk @ti51.eq_1 @ti81.eq_1))))))))))))
def xbD3_1:=kk @aI.eq_1 (@aB.eq_1)
theorem car_fn (c:Chart) (hc:c.cabins.length≤maxLen):FnV Try.prog 97 [aChart c] (aI (carE c)):=by
  have env:Env (fun _=>True) Try.prog tyB (tab [(91,valE true sin),(101,valE true scounted)]):=mkEnv ⟨ein,ecounted,trivial⟩
  refine Fn.of (A:=fun _=>True) (n0:=0) (D:=noD) (Fn0 Try.func97 rfl (fun vs w=>by kernel_rfl) (by kernel_rfl)) (by simp) (by simp [AV.ids,AV.idsL,aChart,cChart]) (fun i o h=>by cases h) (fun _ _ _ _=>trivial) noD_ok ?_
  by_cases h1:countedE c.cabins.length 1 3=0
  · have hl:c.cabins.length≤3:=by
      unfold countedE at h1
      split at h1
      · exact absurd h1 (by decide)
      · split at h1
        · exact absurd h1 (by decide)
        · omega
    repeat' (first|(apply nx;with_reducible constructor)|refine jq (by decide) ?_|((first|refine kz env fun Q hQ=>?_|refine kj fun Q hQ=>?_);simp only [vkt,seval,tbD3_car,xbD3_1,aChart,cChart,eCabin,gCabin,crS,sin,scounted,h1];(try simp only [ite_and]);(repeat' (first|with_reducible assumption|refine And.intro ?_ ?_|intro hp));all_goals (first|(refine hQ _ ?_;clear hQ Q)|(refine hQ _ (fun h=>?_) (fun h=>?_) <;> clear hQ Q <;> (try simp only [vki,reduceCtorEq] at h))|(refine kx ?_;kernel_rfl)|omega|assumption|with_reducible rfl|skip)))
    refine sym_loop (fun k:{ k:Nat // k≤c.cabins.length∧∀ j,j < k→(c.cabins.map cabE).getD j 0=0 }=>crS c k.1) (fun k=>c.cabins.length - k.1) ⟨0,Nat.zero_le _,fun j h=>absurd h (Nat.not_lt_zero _)⟩ ?_ fun ⟨k,hk,hno⟩=>?_
    · (refine Le.ok some [] ?_;constructor;all_goals (try simp only [vle,vkt,seval,tbD3_car,xbD3_1,aChart,cChart,eCabin,gCabin,crS,sin,scounted]))
      all_goals first|rfl|(simp;done)
    · repeat' (first|(apply nx;with_reducible constructor)|refine jq (by decide) ?_)
      (refine kz env fun Q hQ=>?_;simp only [vkt,seval,tbD3_car,xbD3_1,aChart,cChart,eCabin,gCabin,crS,sin,scounted];(try simp only [ite_and]);(repeat' (first|with_reducible assumption|refine And.intro ?_ ?_|intro hp));all_goals (first|(refine hQ _ ?_;clear hQ Q)|(refine kx ?_;kernel_rfl)|omega|assumption|with_reducible rfl|skip))
      repeat' (first|(apply nx;with_reducible constructor)|refine jq (by decide) ?_)
      (refine sym_cd (by simp only [vkt,seval,tbD3_car,xbD3_1,aChart,cChart,eCabin,gCabin,crS,sin,scounted];rfl) (fun h=>?_) (fun h=>?_) <;> (try simp only [vki,reduceCtorEq] at h))
      · have hlt:k < c.cabins.length:=by omega
        have e9:IntKind.wrap .i64 ((k:Int)+1)=((k+1:Nat):Int):=by rw [wrap64 (by omega) (by omega)];rfl
        obtain ⟨x,hx⟩:∃ x,c.cabins.getD k default=x:=⟨_,rfl⟩
        have hm:(c.cabins.map cabE).getD k 0=cabE x:=by rw [mapD hlt,hx]
        cases hb:inB x.beds 1 3
        · have hE:cabE x=1:=by simp [cabE,hb]
          have hf:=firstE_take hno (by simpa using hlt) (by rw [hm,hE];decide)
          rw [hm,hE] at hf
          rw [show carE c=1 by unfold carE;rw [if_neg (by rw [h1];simp),hf];simp]
          repeat' (first|(apply nx;with_reducible constructor)|refine jq (by decide) ?_|((first|refine kz env fun Q hQ=>?_|refine kj fun Q hQ=>?_);simp only [vkt,seval,tbD3_car,xbD3_1,aChart,cChart,eCabin,gCabin,crS,sin,scounted,hx,hb,e9];(try simp only [ite_and]);(repeat' (first|with_reducible assumption|refine And.intro ?_ ?_|intro hp));all_goals (first|(refine hQ _ ?_;clear hQ Q)|(refine hQ _ (fun h=>?_) (fun h=>?_) <;> clear hQ Q <;> (try simp only [vki,reduceCtorEq] at h))|(refine kx ?_;kernel_rfl)|omega|assumption|with_reducible rfl|skip)))
          (simp only [vrt,Try.results97,vkt,seval,tbD3_car,xbD3_1,aChart,cChart,eCabin,gCabin,crS,sin,scounted];refine Fin.val rfl ?_;(try simp only [AV.le,AV.leL]))
          all_goals first|rfl|(simp;done)
        · have hE:cabE x=0:=by simp [cabE,hb]
          repeat' (first|(apply nx;with_reducible constructor)|refine jq (by decide) ?_|((first|refine kz env fun Q hQ=>?_|refine kj fun Q hQ=>?_);simp only [vkt,seval,tbD3_car,xbD3_1,aChart,cChart,eCabin,gCabin,crS,sin,scounted,hx,hb,e9];(try simp only [ite_and]);(repeat' (first|with_reducible assumption|refine And.intro ?_ ?_|intro hp));all_goals (first|(refine hQ _ ?_;clear hQ Q)|(refine hQ _ (fun h=>?_) (fun h=>?_) <;> clear hQ Q <;> (try simp only [vki,reduceCtorEq] at h))|(refine kx ?_;kernel_rfl)|omega|assumption|with_reducible rfl|skip)))
          refine ⟨⟨k+1,hlt,fun j hj=>?_⟩,by show c.cabins.length - (k+1) < c.cabins.length - k;omega, ?_⟩
          · rcases Nat.lt_or_eq_of_le (Nat.le_of_lt_succ hj) with h2|h2
            · exact hno j h2
            · rw [h2,hm,hE]
          · (refine Le.ok some [] ?_;constructor;all_goals (try simp only [vle,vkt,seval,tbD3_car,xbD3_1,aChart,cChart,eCabin,gCabin,crS,sin,scounted]))
            all_goals first|rfl|(simp;done)
      · have hke:k=c.cabins.length:=by omega
        subst hke
        have hf:firstE (c.cabins.map cabE)=0:=firstE_all (by simpa using hno)
        cases hs:inB c.secs 1 5
        · rw [show carE c=1 by unfold carE;rw [if_neg (by rw [h1];simp),if_neg (by rw [hf];simp),hs];rfl]
          repeat' (first|(apply nx;with_reducible constructor)|refine jq (by decide) ?_|((first|refine kz env fun Q hQ=>?_|refine kj fun Q hQ=>?_);simp only [vkt,seval,tbD3_car,xbD3_1,aChart,cChart,eCabin,gCabin,crS,sin,scounted,hs];(try simp only [ite_and]);(repeat' (first|with_reducible assumption|refine And.intro ?_ ?_|intro hp));all_goals (first|(refine hQ _ ?_;clear hQ Q)|(refine hQ _ (fun h=>?_) (fun h=>?_) <;> clear hQ Q <;> (try simp only [vki,reduceCtorEq] at h))|(refine kx ?_;kernel_rfl)|omega|assumption|with_reducible rfl|skip)))
          (simp only [vrt,Try.results97,vkt,seval,tbD3_car,xbD3_1,aChart,cChart,eCabin,gCabin,crS,sin,scounted];refine Fin.val rfl ?_;(try simp only [AV.le,AV.leL]))
          all_goals first|rfl|(simp;done)
        · rw [show carE c=countedE c.sold.length 0 8 by unfold carE;rw [if_neg (by rw [h1];simp),if_neg (by rw [hf];simp),hs];rfl]
          repeat' (first|(apply nx;with_reducible constructor)|refine jq (by decide) ?_|((first|refine kz env fun Q hQ=>?_|refine kj fun Q hQ=>?_);simp only [vkt,seval,tbD3_car,xbD3_1,aChart,cChart,eCabin,gCabin,crS,sin,scounted,hs];(try simp only [ite_and]);(repeat' (first|with_reducible assumption|refine And.intro ?_ ?_|intro hp));all_goals (first|(refine hQ _ ?_;clear hQ Q)|(refine hQ _ (fun h=>?_) (fun h=>?_) <;> clear hQ Q <;> (try simp only [vki,reduceCtorEq] at h))|(refine kx ?_;kernel_rfl)|omega|assumption|with_reducible rfl|skip)))
          (simp only [vrt,Try.results97,vkt,seval,tbD3_car,xbD3_1,aChart,cChart,eCabin,gCabin,crS,sin,scounted];refine Fin.val rfl ?_;(try simp only [AV.le,AV.leL]))
          all_goals first|rfl|(simp;done)
  · rw [show carE c=countedE c.cabins.length 1 3 by unfold carE;rw [if_pos h1]]
    repeat' (first|(apply nx;with_reducible constructor)|refine jq (by decide) ?_|((first|refine kz env fun Q hQ=>?_|refine kj fun Q hQ=>?_);simp only [vkt,seval,tbD3_car,xbD3_1,aChart,cChart,eCabin,gCabin,crS,sin,scounted,h1];(try simp only [ite_and]);(repeat' (first|with_reducible assumption|refine And.intro ?_ ?_|intro hp));all_goals (first|(refine hQ _ ?_;clear hQ Q)|(refine hQ _ (fun h=>?_) (fun h=>?_) <;> clear hQ Q <;> (try simp only [vki,reduceCtorEq] at h))|(refine kx ?_;kernel_rfl)|omega|assumption|with_reducible rfl|skip)))
    (simp only [vrt,Try.results97,vkt,seval,tbD3_car,xbD3_1,aChart,cChart,eCabin,gCabin,crS,sin,scounted];refine Fin.val rfl ?_;(try simp only [AV.le,AV.leL]))
    all_goals first|rfl|(simp;done)
def scar:List AV→Prop × AV
  |[.agg [.sl c0,.v (.int .i64 c1),.sl c2]]=>(c0=(c0.map dCabin).map eCabin∧c2=(c2.map dTk).map eTk∧c0.length≤maxLen,aI (carE (⟨(c0.map dCabin),c1,(c2.map dTk)⟩:Chart)))
  |_=>(False,.junk)
theorem ecar {A:Frm→Prop}:EntryOK A Try.prog 97 (valE true scar):=valE_ok fun vs hv h=>by
  clear hv
  unfold scar at h ⊢
  split at h
  · rename_i c0 c1 c2;obtain ⟨q0,q1,k0⟩:=h
    refine ⟨by first|trivial|(simp [AV.plain,AV.plainL,aI,aB,aInts,aBunks,aTks,aBunk,aTk,cTk];done)|(repeat' split) <;> simp [AV.plain,AV.plainL,aI,aB,aInts,aBunks,aTks,aBunk,aTk,cTk],fun _=>(by simp [AV.flat,AV.flatL,aI,aB]), ?_⟩
    have:=car_fn (⟨(c0.map dCabin),c1,(c2.map dTk)⟩:Chart) (by simpa using k0)
    simp only [aCabins,aChart,aI,aTks,cChart,← q0,← q1] at this
    first|exact this|(simp only [aCabins,aChart,aI,aTks,cChart,← q0,← q1];exact this)
  · exact h.elim
def tbD3_ticket:=kk @ty3 (kk @ty25 (kk @ty28 (kk @ty34 (kk @ty49 (kk @ty51 (kk @ty81 (kk @ti3.eq_1 (kk @ti25.eq_1 (kk @ti28.eq_1 (kk @ti34.eq_1 (kk @ti49.eq_1 (kk @ti51.eq_1 @ti81.eq_1))))))))))))
def xbD3_2:=kk @aI.eq_1 (@aB.eq_1)
theorem ticket_fn (c:Chart) (t:Tk) (l:List Tk) (hc:CarOk c) (hl:l.length≤100):FnV Try.prog 98 [aChart c,aTk t,aTks l] (aI (ticketE c t l)):=by
  have env:Env (fun _=>True) Try.prog tyB (tab [(91,valE true sin),(92,valE true sway),(124,valE true sbeside)]):=mkEnv ⟨ein,eway,ebeside,trivial⟩
  refine Fn.of (A:=fun _=>True) (n0:=0) (D:=noD) (Fn0 Try.func98 rfl (fun vs w=>by kernel_rfl) (by kernel_rfl)) (by simp) (by simp [AV.ids,AV.idsL,aChart,cChart,aTk,cTk,aTks]) (fun i o h=>by cases h) (fun _ _ _ _=>trivial) noD_ok ?_
  have hcl:=hc.cabs
  have et:(⟨t.party,t.sex,t.cab,t.bed,t.frm,t.to,t.dog⟩:Tk)=t:=rfl
  have w1:IntKind.wrap .i64 ((c.cabins.length:Int) - 1)=(c.cabins.length:Int) - 1:=wrap64 (by omega) (by omega)
  have rest:inB t.party 1 99=true→inB t.sex 1 2=true→isBunkB c.cabins t.cab t.bed=true→ticketE c t l=if wayE c.secs t.frm t.to ≠ 0 then wayE c.secs t.frm t.to else besideE t l:=fun a1 a2 a3=>by
    unfold ticketE;simp [a1,a2,a3]
  cases h1:inB t.party 1 99
  · rw [show ticketE c t l=1 by simp [ticketE,h1]]
    repeat' (first|(apply nx;with_reducible constructor)|refine jq (by decide) ?_|((first|refine kz env fun Q hQ=>?_|refine kj fun Q hQ=>?_);simp only [vkt,seval,tbD3_ticket,xbD3_2,aChart,cChart,aTk,cTk,aTks,eCabin,gCabin,mCabin,mTk,sin,sway,sbeside,List.length_map,h1,et];(try simp only [ite_and]);(repeat' (first|with_reducible assumption|refine And.intro ?_ ?_|intro hp));all_goals (first|(refine hQ _ ?_;clear hQ Q)|(refine hQ _ (fun h=>?_) (fun h=>?_) <;> clear hQ Q <;> (try simp only [vki,reduceCtorEq] at h))|(refine kx ?_;kernel_rfl)|omega|assumption|with_reducible rfl|skip)))
    (simp only [vrt,Try.results98,vkt,seval,tbD3_ticket,xbD3_2,aChart,cChart,aTk,cTk,aTks,eCabin,gCabin,mCabin,mTk,sin,sway,sbeside,List.length_map];refine Fin.val rfl ?_;(try simp only [AV.le,AV.leL]))
    all_goals first|rfl|(simp;done)
  cases h2:inB t.sex 1 2
  · rw [show ticketE c t l=8 by simp [ticketE,h1,h2]]
    repeat' (first|(apply nx;with_reducible constructor)|refine jq (by decide) ?_|((first|refine kz env fun Q hQ=>?_|refine kj fun Q hQ=>?_);simp only [vkt,seval,tbD3_ticket,xbD3_2,aChart,cChart,aTk,cTk,aTks,eCabin,gCabin,mCabin,mTk,sin,sway,sbeside,List.length_map,h1,h2,et];(try simp only [ite_and]);(repeat' (first|with_reducible assumption|refine And.intro ?_ ?_|intro hp));all_goals (first|(refine hQ _ ?_;clear hQ Q)|(refine hQ _ (fun h=>?_) (fun h=>?_) <;> clear hQ Q <;> (try simp only [vki,reduceCtorEq] at h))|(refine kx ?_;kernel_rfl)|omega|assumption|with_reducible rfl|skip)))
    (simp only [vrt,Try.results98,vkt,seval,tbD3_ticket,xbD3_2,aChart,cChart,aTk,cTk,aTks,eCabin,gCabin,mCabin,mTk,sin,sway,sbeside,List.length_map];refine Fin.val rfl ?_;(try simp only [AV.le,AV.leL]))
    all_goals first|rfl|(simp;done)
  cases h3:inB t.cab 0 ((c.cabins.length:Int) - 1)
  · rw [show ticketE c t l=3 by simp [ticketE,h1,h2,isBunkB,h3]]
    repeat' (first|(apply nx;with_reducible constructor)|refine jq (by decide) ?_|((first|refine kz env fun Q hQ=>?_|refine kj fun Q hQ=>?_);simp only [vkt,seval,tbD3_ticket,xbD3_2,aChart,cChart,aTk,cTk,aTks,eCabin,gCabin,mCabin,mTk,sin,sway,sbeside,List.length_map,h1,h2,h3,w1,et];(try simp only [ite_and]);(repeat' (first|with_reducible assumption|refine And.intro ?_ ?_|intro hp));all_goals (first|(refine hQ _ ?_;clear hQ Q)|(refine hQ _ (fun h=>?_) (fun h=>?_) <;> clear hQ Q <;> (try simp only [vki,reduceCtorEq] at h))|(refine kx ?_;kernel_rfl)|omega|assumption|with_reducible rfl|skip)))
    (simp only [vrt,Try.results98,vkt,seval,tbD3_ticket,xbD3_2,aChart,cChart,aTk,cTk,aTks,eCabin,gCabin,mCabin,mTk,sin,sway,sbeside,List.length_map];refine Fin.val rfl ?_;(try simp only [AV.le,AV.leL]))
    all_goals first|rfl|(simp;done)
  have b3:=inB_iff.1 h3
  have g1:0≤t.cab:=b3.1
  have g2:t.cab.toNat < c.cabins.length:=by omega
  obtain ⟨x,hx⟩:∃ x,c.cabins.getD t.cab.toNat default=x:=⟨_,rfl⟩
  have hxb:=hc.beds _ (gMem (d:=default) g2)
  rw [hx] at hxb
  have w2:IntKind.wrap .i64 (x.beds - 1)=x.beds - 1:=wrap64 (by omega) (by omega)
  cases h4:inB t.bed 0 (x.beds - 1)
  · rw [show ticketE c t l=3 by simp [-List.getD_eq_getElem?_getD,ticketE,h1,h2,isBunkB,h3,hx,h4]]
    repeat' (first|(apply nx;with_reducible constructor)|refine jq (by decide) ?_|((first|refine kz env fun Q hQ=>?_|refine kj fun Q hQ=>?_);simp only [vkt,seval,tbD3_ticket,xbD3_2,aChart,cChart,aTk,cTk,aTks,eCabin,gCabin,mCabin,mTk,sin,sway,sbeside,List.length_map,h1,h2,h3,h4,w1,w2,hx,g1,g2,et];(try simp only [ite_and]);(repeat' (first|with_reducible assumption|refine And.intro ?_ ?_|intro hp));all_goals (first|(refine hQ _ ?_;clear hQ Q)|(refine hQ _ (fun h=>?_) (fun h=>?_) <;> clear hQ Q <;> (try simp only [vki,reduceCtorEq] at h))|(refine kx ?_;kernel_rfl)|omega|assumption|with_reducible rfl|skip)))
    (simp only [vrt,Try.results98,vkt,seval,tbD3_ticket,xbD3_2,aChart,cChart,aTk,cTk,aTks,eCabin,gCabin,mCabin,mTk,sin,sway,sbeside,List.length_map];refine Fin.val rfl ?_;(try simp only [AV.le,AV.leL]))
    all_goals first|rfl|(simp;done)
  have hr:=rest h1 h2 (by simp [-List.getD_eq_getElem?_getD,isBunkB,h3,hx,h4])
  by_cases h5:wayE c.secs t.frm t.to=0
  · rw [if_neg (by rw [h5];simp)] at hr
    rw [hr]
    repeat' (first|(apply nx;with_reducible constructor)|refine jq (by decide) ?_|((first|refine kz env fun Q hQ=>?_|refine kj fun Q hQ=>?_);simp only [vkt,seval,tbD3_ticket,xbD3_2,aChart,cChart,aTk,cTk,aTks,eCabin,gCabin,mCabin,mTk,sin,sway,sbeside,List.length_map,h1,h2,h3,h4,h5,w1,w2,hx,g1,g2,et];(try simp only [ite_and]);(repeat' (first|with_reducible assumption|refine And.intro ?_ ?_|intro hp));all_goals (first|(refine hQ _ ?_;clear hQ Q)|(refine hQ _ (fun h=>?_) (fun h=>?_) <;> clear hQ Q <;> (try simp only [vki,reduceCtorEq] at h))|(refine kx ?_;kernel_rfl)|omega|assumption|with_reducible rfl|skip)))
    (simp only [vrt,Try.results98,vkt,seval,tbD3_ticket,xbD3_2,aChart,cChart,aTk,cTk,aTks,eCabin,gCabin,mCabin,mTk,sin,sway,sbeside,List.length_map];refine Fin.val rfl ?_;(try simp only [AV.le,AV.leL]))
    all_goals first|rfl|(simp;done)
  · rw [if_pos h5] at hr
    rw [hr]
    repeat' (first|(apply nx;with_reducible constructor)|refine jq (by decide) ?_|((first|refine kz env fun Q hQ=>?_|refine kj fun Q hQ=>?_);simp only [vkt,seval,tbD3_ticket,xbD3_2,aChart,cChart,aTk,cTk,aTks,eCabin,gCabin,mCabin,mTk,sin,sway,sbeside,List.length_map,h1,h2,h3,h4,h5,w1,w2,hx,g1,g2,et];(try simp only [ite_and]);(repeat' (first|with_reducible assumption|refine And.intro ?_ ?_|intro hp));all_goals (first|(refine hQ _ ?_;clear hQ Q)|(refine hQ _ (fun h=>?_) (fun h=>?_) <;> clear hQ Q <;> (try simp only [vki,reduceCtorEq] at h))|(refine kx ?_;kernel_rfl)|omega|assumption|with_reducible rfl|skip)))
    (simp only [vrt,Try.results98,vkt,seval,tbD3_ticket,xbD3_2,aChart,cChart,aTk,cTk,aTks,eCabin,gCabin,mCabin,mTk,sin,sway,sbeside,List.length_map];refine Fin.val rfl ?_;(try simp only [AV.le,AV.leL]))
    all_goals first|rfl|(simp;done)
def sticket:List AV→Prop × AV
  |[.agg [.sl c0,.v (.int .i64 c1),.sl c2],.agg [.v (.int .i64 t0),.v (.int .i64 t1),.v (.int .i64 t2),.v (.int .i64 t3),.v (.int .i64 t4),.v (.int .i64 t5),.v (.bool t6)],.sl l]=>(c0=(c0.map dCabin).map eCabin∧c2=(c2.map dTk).map eTk∧l=(l.map dTk).map eTk∧CarOk (⟨(c0.map dCabin),c1,(c2.map dTk)⟩:Chart)∧(l.map dTk).length≤100,aI (ticketE (⟨(c0.map dCabin),c1,(c2.map dTk)⟩:Chart) (⟨t0,t1,t2,t3,t4,t5,t6⟩:Tk) (l.map dTk)))
  |_=>(False,.junk)
theorem eticket {A:Frm→Prop}:EntryOK A Try.prog 98 (valE true sticket):=valE_ok fun vs hv h=>by
  clear hv
  unfold sticket at h ⊢
  split at h
  · rename_i c0 c1 c2 t0 t1 t2 t3 t4 t5 t6 l;obtain ⟨q0,q1,q2,k0,k1⟩:=h
    refine ⟨by first|trivial|(simp [AV.plain,AV.plainL,aI,aB,aInts,aBunks,aTks,aBunk,aTk,cTk];done)|(repeat' split) <;> simp [AV.plain,AV.plainL,aI,aB,aInts,aBunks,aTks,aBunk,aTk,cTk],fun _=>(by simp [AV.flat,AV.flatL,aI,aB]), ?_⟩
    have:=ticket_fn (⟨(c0.map dCabin),c1,(c2.map dTk)⟩:Chart) (⟨t0,t1,t2,t3,t4,t5,t6⟩:Tk) (l.map dTk) k0 k1
    simp only [aB,aCabins,aChart,aI,aTk,aTks,cChart,cTk,← q0,← q1,← q2] at this
    first|exact this|(simp only [aB,aCabins,aChart,aI,aTk,aTks,cChart,cTk,← q0,← q1,← q2];exact this)
  · exact h.elim
def ckS (c:Chart) (k:Nat):St:={ t:=asg [(1,.ptr 0 0),(2,aI 0),(13,aTks c.sold),(14,aI c.sold.length),(15,aI k)],h:=hasg [(0,.cells (cChart c))],n:=1 }
def tbD3_check:=kk @ty3 (kk @ty26 (kk @ty28 (kk @ty34 (kk @ty81 (kk @ti3.eq_1 (kk @ti26.eq_1 (kk @ti28.eq_1 (kk @ti34.eq_1 @ti81.eq_1))))))))
def xbD3_3:=kk @aI.eq_1 (@aB.eq_1)
theorem check_fn (c:Chart) (hc:c.cabins.length≤maxLen):FnV Try.prog 44 [aChart c] (aI (checkE c)):=by
  have env:Env (fun _=>True) Try.prog tyB (tab [(97,valE true scar),(98,valE true sticket)]):=mkEnv ⟨ecar,eticket,trivial⟩
  refine Fn.of (A:=fun _=>True) (n0:=0) (D:=noD) (Fn0 Try.func44 rfl (fun vs w=>by kernel_rfl) (by kernel_rfl)) (by simp) (by simp [AV.ids,AV.idsL,aChart,cChart]) (fun i o h=>by cases h) (fun _ _ _ _=>trivial) noD_ok ?_
  have ec:(⟨c.cabins,c.secs,c.sold⟩:Chart)=c:=rfl
  by_cases h1:carE c=0
  · obtain ⟨hcar,hsl⟩:=carE_ok h1
    have hE:checkE c=ticketsE c c.sold:=by unfold checkE;rw [if_neg (by rw [h1];simp)]
    rw [hE]
    repeat' (first|(apply nx;with_reducible constructor)|refine jq (by decide) ?_|((first|refine kz env fun Q hQ=>?_|refine kj fun Q hQ=>?_);simp only [vkt,seval,tbD3_check,xbD3_3,aChart,cChart,aTk,cTk,aTks,eTk,gTk,rTk,mCabin,mTk,ckS,scar,sticket,List.length_map,h1,ec];(try simp only [ite_and]);(repeat' (first|with_reducible assumption|refine And.intro ?_ ?_|intro hp));all_goals (first|(refine hQ _ ?_;clear hQ Q)|(refine hQ _ (fun h=>?_) (fun h=>?_) <;> clear hQ Q <;> (try simp only [vki,reduceCtorEq] at h))|(refine kx ?_;kernel_rfl)|omega|assumption|with_reducible rfl|skip)))
    refine sym_loop (fun k:{ k:Nat // k≤c.sold.length∧∀ j,j < k→ticketE c (c.sold.getD j default) (c.sold.take j)=0 }=>ckS c k.1) (fun k=>c.sold.length - k.1) ⟨0,Nat.zero_le _,fun j h=>absurd h (Nat.not_lt_zero _)⟩ ?_ fun ⟨k,hk,hno⟩=>?_
    · (refine Le.ok some [] ?_;constructor;all_goals (try simp only [vle,vkt,seval,tbD3_check,xbD3_3,aChart,cChart,aTk,cTk,aTks,eTk,gTk,rTk,mCabin,mTk,ckS,scar,sticket,List.length_map]))
      all_goals first|rfl|(simp;done)
    · repeat' (first|(apply nx;with_reducible constructor)|refine jq (by decide) ?_)
      (refine kz env fun Q hQ=>?_;simp only [vkt,seval,tbD3_check,xbD3_3,aChart,cChart,aTk,cTk,aTks,eTk,gTk,rTk,mCabin,mTk,ckS,scar,sticket,List.length_map];(try simp only [ite_and]);(repeat' (first|with_reducible assumption|refine And.intro ?_ ?_|intro hp));all_goals (first|(refine hQ _ ?_;clear hQ Q)|(refine kx ?_;kernel_rfl)|omega|assumption|with_reducible rfl|skip))
      repeat' (first|(apply nx;with_reducible constructor)|refine jq (by decide) ?_)
      (refine sym_cd (by simp only [vkt,seval,tbD3_check,xbD3_3,aChart,cChart,aTk,cTk,aTks,eTk,gTk,rTk,mCabin,mTk,ckS,scar,sticket,List.length_map];rfl) (fun h=>?_) (fun h=>?_) <;> (try simp only [vki,reduceCtorEq] at h))
      · have hlt:k < c.sold.length:=by omega
        have e9:IntKind.wrap .i64 ((k:Int)+1)=((k+1:Nat):Int):=by rw [wrap64 (by omega) (by omega)];rfl
        obtain ⟨x,hx⟩:∃ x,c.sold.getD k default=x:=⟨_,rfl⟩
        have ex:(⟨x.party,x.sex,x.cab,x.bed,x.frm,x.to,x.dog⟩:Tk)=x:=rfl
        have tk:List.take k (c.sold.map eTk)=(c.sold.take k).map eTk:=List.map_take.symm
        have t100:(c.sold.take k).length≤100:=by rw [List.length_take];omega
        have hcar':CarOk ⟨c.cabins,c.secs,c.sold⟩:=hcar
        have hg:=rngD (f:=fun i=>ticketE c (c.sold.getD i default) (c.sold.take i)) hlt
        by_cases h2:ticketE c x (c.sold.take k)=0
        · repeat' (first|(apply nx;with_reducible constructor)|refine jq (by decide) ?_|((first|refine kz env fun Q hQ=>?_|refine kj fun Q hQ=>?_);simp only [vkt,seval,tbD3_check,xbD3_3,aChart,cChart,aTk,cTk,aTks,eTk,gTk,rTk,mCabin,mTk,ckS,scar,sticket,List.length_map,hx,ex,ec,tk,h2,e9];(try simp only [ite_and]);(repeat' (first|with_reducible assumption|refine And.intro ?_ ?_|intro hp));all_goals (first|(refine hQ _ ?_;clear hQ Q)|(refine hQ _ (fun h=>?_) (fun h=>?_) <;> clear hQ Q <;> (try simp only [vki,reduceCtorEq] at h))|(refine kx ?_;kernel_rfl)|omega|assumption|with_reducible rfl|skip)))
          refine ⟨⟨k+1,hlt,fun j hj=>?_⟩,by show c.sold.length - (k+1) < c.sold.length - k;omega, ?_⟩
          · rcases Nat.lt_or_eq_of_le (Nat.le_of_lt_succ hj) with h3|h3
            · exact hno j h3
            · rw [h3,hx];exact h2
          · (refine Le.ok some [] ?_;constructor;all_goals (try simp only [vle,vkt,seval,tbD3_check,xbD3_3,aChart,cChart,aTk,cTk,aTks,eTk,gTk,rTk,mCabin,mTk,ckS,scar,sticket,List.length_map]))
            all_goals first|rfl|(simp;done)
        · have hf:ticketsE c c.sold=ticketE c x (c.sold.take k):=by
            unfold ticketsE
            rw [firstE_take (k:=k) (fun j hj=>by rw [rngD (by omega)];exact hno j hj) (by simpa using hlt) (by rw [hg,hx];exact h2),hg,hx]
          rw [hf]
          repeat' (first|(apply nx;with_reducible constructor)|refine jq (by decide) ?_|((first|refine kz env fun Q hQ=>?_|refine kj fun Q hQ=>?_);simp only [vkt,seval,tbD3_check,xbD3_3,aChart,cChart,aTk,cTk,aTks,eTk,gTk,rTk,mCabin,mTk,ckS,scar,sticket,List.length_map,hx,ex,ec,tk,h2,e9];(try simp only [ite_and]);(repeat' (first|with_reducible assumption|refine And.intro ?_ ?_|intro hp));all_goals (first|(refine hQ _ ?_;clear hQ Q)|(refine hQ _ (fun h=>?_) (fun h=>?_) <;> clear hQ Q <;> (try simp only [vki,reduceCtorEq] at h))|(refine kx ?_;kernel_rfl)|omega|assumption|with_reducible rfl|skip)))
          (simp only [vrt,Try.results44,vkt,seval,tbD3_check,xbD3_3,aChart,cChart,aTk,cTk,aTks,eTk,gTk,rTk,mCabin,mTk,ckS,scar,sticket,List.length_map];refine Fin.val rfl ?_;(try simp only [AV.le,AV.leL]))
          all_goals first|rfl|(simp;done)
      · have hke:k=c.sold.length:=by omega
        subst hke
        rw [show ticketsE c c.sold=0 from firstE_all fun j hj=>by
          have hj':j < c.sold.length:=by simpa using hj
          rw [rngD hj'];exact hno j hj']
        repeat' (first|(apply nx;with_reducible constructor)|refine jq (by decide) ?_|((first|refine kz env fun Q hQ=>?_|refine kj fun Q hQ=>?_);simp only [vkt,seval,tbD3_check,xbD3_3,aChart,cChart,aTk,cTk,aTks,eTk,gTk,rTk,mCabin,mTk,ckS,scar,sticket,List.length_map];(try simp only [ite_and]);(repeat' (first|with_reducible assumption|refine And.intro ?_ ?_|intro hp));all_goals (first|(refine hQ _ ?_;clear hQ Q)|(refine hQ _ (fun h=>?_) (fun h=>?_) <;> clear hQ Q <;> (try simp only [vki,reduceCtorEq] at h))|(refine kx ?_;kernel_rfl)|omega|assumption|with_reducible rfl|skip)))
        (simp only [vrt,Try.results44,vkt,seval,tbD3_check,xbD3_3,aChart,cChart,aTk,cTk,aTks,eTk,gTk,rTk,mCabin,mTk,ckS,scar,sticket,List.length_map];refine Fin.val rfl ?_;(try simp only [AV.le,AV.leL]))
        all_goals first|rfl|(simp;done)
  · have hE:checkE c=carE c:=by unfold checkE;rw [if_pos h1]
    rw [hE]
    repeat' (first|(apply nx;with_reducible constructor)|refine jq (by decide) ?_|((first|refine kz env fun Q hQ=>?_|refine kj fun Q hQ=>?_);simp only [vkt,seval,tbD3_check,xbD3_3,aChart,cChart,aTk,cTk,aTks,eTk,gTk,rTk,mCabin,mTk,ckS,scar,sticket,List.length_map,h1,ec];(try simp only [ite_and]);(repeat' (first|with_reducible assumption|refine And.intro ?_ ?_|intro hp));all_goals (first|(refine hQ _ ?_;clear hQ Q)|(refine hQ _ (fun h=>?_) (fun h=>?_) <;> clear hQ Q <;> (try simp only [vki,reduceCtorEq] at h))|(refine kx ?_;kernel_rfl)|omega|assumption|with_reducible rfl|skip)))
    (simp only [vrt,Try.results44,vkt,seval,tbD3_check,xbD3_3,aChart,cChart,aTk,cTk,aTks,eTk,gTk,rTk,mCabin,mTk,ckS,scar,sticket,List.length_map];refine Fin.val rfl ?_;(try simp only [AV.le,AV.leL]))
    all_goals first|rfl|(simp;done)
def scheck:List AV→Prop × AV
  |[.agg [.sl c0,.v (.int .i64 c1),.sl c2]]=>(c0=(c0.map dCabin).map eCabin∧c2=(c2.map dTk).map eTk∧c0.length≤maxLen,aI (checkE (⟨(c0.map dCabin),c1,(c2.map dTk)⟩:Chart)))
  |_=>(False,.junk)
theorem echeck {A:Frm→Prop}:EntryOK A Try.prog 44 (valE true scheck):=valE_ok fun vs hv h=>by
  clear hv
  unfold scheck at h ⊢
  split at h
  · rename_i c0 c1 c2;obtain ⟨q0,q1,k0⟩:=h
    refine ⟨by first|trivial|(simp [AV.plain,AV.plainL,aI,aB,aInts,aBunks,aTks,aBunk,aTk,cTk];done)|(repeat' split) <;> simp [AV.plain,AV.plainL,aI,aB,aInts,aBunks,aTks,aBunk,aTk,cTk],fun _=>(by simp [AV.flat,AV.flatL,aI,aB]), ?_⟩
    have:=check_fn (⟨(c0.map dCabin),c1,(c2.map dTk)⟩:Chart) (by simpa using k0)
    simp only [aCabins,aChart,aI,aTks,cChart,← q0,← q1] at this
    first|exact this|(simp only [aCabins,aChart,aI,aTks,cChart,← q0,← q1];exact this)
  · exact h.elim
end Go.Sym.B
namespace Go.Sym.B
open Go Go.Sym Go.Proofs Go.Sym.C
def buO (cs:List Cabin) (s:Int):AObj:=.cells [.sl (cs.map eCabin),.v (.int .i64 s),.any]
def buY (cs:List Cabin) (j:Nat):List AV:=[aBunk ((bunksL cs).getD j default)]
def bu1 (cs:List Cabin) (s:Int) (i j:Nat):St:={ t:=asg [(0,.cb),(1,.ptr 0 0),(7,.sl (cs.map eCabin)),(8,aI cs.length),(9,aI i)],h:=hasg [(0,.cells [.sl (cs.map eCabin),.v (.int .i64 s),.any])],n:=1,j:=j,m:=1 }
def bu2 (cs:List Cabin) (s:Int) (i:Nat) (b:Int) (k j:Nat):St:={ t:=asg [(0,.cb),(1,.ptr 0 0),(3,aI i),(7,.sl (cs.map eCabin)),(8,aI cs.length),(9,aI i),(15,aI b),(16,aI k)],h:=hasg [(0,.cells [.sl (cs.map eCabin),.v (.int .i64 s),.any])],n:=1,j:=j,m:=1 }
structure CabsOk (cs:List Cabin):Prop where
  len:cs.length≤1000
  beds:∀ x ∈ cs,x.beds≤1000
def tbD4_bunks1:=kk @ty3 (kk @ty25 (kk @ty28 (kk @ty49 (kk @ty51 (kk @ti3.eq_1 (kk @ti25.eq_1 (kk @ti28.eq_1 (kk @ti49.eq_1 @ti51.eq_1))))))))
def xbD4_1:=kk @aI.eq_1 (@aB.eq_1)
set_option maxHeartbeats 1000000 in
theorem bunks_it (cs:List Cabin) (s:Int) (hc:CabsOk cs):Iter Try.prog 123 [.cb,.ptr 0 0] (nth [buO cs s]) (buY cs) (bunksL cs).length (fun _=>nth [buO cs s]) fun _ _=>.tup []:=by
  intro ans R hr
  have e0:(nth [buO cs s])=hasg (enumA 0 [buO cs s]):=by
    funext i
    match i with
    |0=>rfl
    |i+1=>simp [nth,enumA,hasg]
  obtain ⟨A0,hA0⟩:∃ A0:Frm→Prop,A0=Acb Try.prog (hasg (enumA 0 [buO cs s])) (hasg (enumA 0 [buO cs s])) (buY cs) (fun _=>nth [buO cs s]) ans R:=⟨_,rfl⟩
  have hA:∀ F,A0 F→Acb Try.prog (hasg (enumA 0 [buO cs s])) (hasg (enumA 0 [buO cs s])) (buY cs) (fun _=>nth [buO cs s]) ans R F:=fun F h=>hA0 ▸ h
  have env:Env A0 Try.prog tyB (Go.Sym.tabC (cbX [0] (buY cs) (fun _=>[buO cs s]) ans R) []):=⟨tyB_ok,tabC_ok (fun S bs h hS ops o g args tys caps hw ho hg hb=>cbX_sound hA (fun i o hi=>by
    rw [enumA_get] at hi
    cases i with
    |zero=>rfl
    |succ i=>simp at hi) (by simp) h hS hw ho hg hb) trivial,by kernel_rfl⟩
  rw [bunks_len] at hr
  have hcl:=hc.len
  rw [e0]
  refine Fn.of (A:=A0) (n0:=1) (D:=noD) (Fn0 Try.func123 rfl (fun vs w=>by kernel_rfl) (by kernel_rfl)) (by simp) (by simp [AV.ids]) ?_ (fun F hb h0 _=>hA0 ▸ ⟨h0,fun i o hi=>⟨o,hi⟩,by rw [← e0] at hb ⊢;exact hb⟩) noD_ok ?_
  · intro i o hi
    have h:=hasg_mem hi
    simp [enumA,buO] at h;obtain ⟨rfl,rfl⟩:=h;simp [AObj.ids,AV.ids,AV.idsL]
  show Sym _ _ _ (startS [.cb,.ptr 0 0] 1 (hasg [(0,.cells [.sl (cs.map eCabin),.v (.int .i64 s),.any])])) (retK tyB noD Try.f123 fun S rv=>Fin S rv (.tup []) 1 (hasg [(0,.cells [.sl (cs.map eCabin),.v (.int .i64 s),.any])]) R)
  have eo:buO cs s=.cells [.sl (cs.map eCabin),.v (.int .i64 s),.any]:=rfl
  repeat' (first|(apply nx;with_reducible constructor)|refine jq (by decide) ?_|((first|refine kz env fun Q hQ=>?_|refine kj fun Q hQ=>?_);simp only [vkt,seval,tbD4_bunks1,xbD4_1,aBunk,eCabin,gCabin,bu1,bu2,Go.Sym.tabC,cbX,pinB,lentOK,nth,hwL];(try simp only [ite_and]);(repeat' (first|with_reducible assumption|refine And.intro ?_ ?_|intro hp));all_goals (first|(refine hQ _ ?_;clear hQ Q)|(refine hQ _ (fun h=>?_) (fun h=>?_) <;> clear hQ Q <;> (try simp only [vki,reduceCtorEq] at h))|(refine kx ?_;kernel_rfl)|omega|assumption|with_reducible rfl|skip)))
  refine sym_loop (fun x:{ x:Nat × Nat // x.1≤cs.length∧x.2=((bdsL cs).take x.1).sum∧∀ q,q < x.2→ans q=true }=>bu1 cs s x.1.1 x.1.2) (fun x=>cs.length - x.1.1) ⟨(0,0),Nat.zero_le _,by simp,fun q h=>absurd h (Nat.not_lt_zero _)⟩ ?_ fun ⟨(i,o),hi,ho,hy⟩=>?_
  · (refine Le.ok some [] ?_;constructor;all_goals (try simp only [vle,vkt,seval,tbD4_bunks1,xbD4_1,aBunk,eCabin,gCabin,bu1,bu2,Go.Sym.tabC,cbX,pinB,lentOK,nth,hwL]))
    all_goals first|rfl|(simp;done)
  simp only at hi ho hy ⊢
  repeat' (first|(apply nx;with_reducible constructor)|refine jq (by decide) ?_)
  (refine kz env fun Q hQ=>?_;simp only [vkt,seval,tbD4_bunks1,xbD4_1,aBunk,eCabin,gCabin,bu1,bu2,Go.Sym.tabC,cbX,pinB,lentOK,nth,hwL];(try simp only [ite_and]);(repeat' (first|with_reducible assumption|refine And.intro ?_ ?_|intro hp));all_goals (first|(refine hQ _ ?_;clear hQ Q)|(refine kx ?_;kernel_rfl)|omega|assumption|with_reducible rfl|skip))
  repeat' (first|(apply nx;with_reducible constructor)|refine jq (by decide) ?_)
  (refine sym_cd (by simp only [vkt,seval,tbD4_bunks1,xbD4_1,aBunk,eCabin,gCabin,bu1,bu2,Go.Sym.tabC,cbX,pinB,lentOK,nth,hwL];rfl) (fun h=>?_) (fun h=>?_) <;> (try simp only [vki,reduceCtorEq] at h))
  · have hlt:i < cs.length:=by omega
    have hts:=take_sum (g:=bdsL cs) (i:=i) (by simp [bdsL];omega)
    rw [bds_get hlt] at hts
    have hsm:((bdsL cs).take (i+1)).sum≤(bdsL cs).sum:=by
      have:=take_sum_le (g:=bdsL cs) (show i+1≤(bdsL cs).length by simp [bdsL];omega)
      rwa [List.take_length] at this
    have hbx:=hc.beds _ (gMem (d:=default) hlt)
    have hget:=fun k=>bunks_get (cs:=cs) (i:=i) (k:=k) hlt
    obtain ⟨x,hx⟩:∃ x,cs.getD i default=x:=⟨_,rfl⟩
    rw [hx] at hts hbx
    simp only [hx] at hget
    have e9:IntKind.wrap .i64 ((i:Int)+1)=((i+1:Nat):Int):=by rw [wrap64 (by omega) (by omega)];rfl
    repeat' (first|(apply nx;with_reducible constructor)|refine jq (by decide) ?_|((first|refine kz env fun Q hQ=>?_|refine kj fun Q hQ=>?_);simp only [vkt,seval,tbD4_bunks1,xbD4_1,aBunk,eCabin,gCabin,bu1,bu2,Go.Sym.tabC,cbX,pinB,lentOK,nth,hwL,hx];(try simp only [ite_and]);(repeat' (first|with_reducible assumption|refine And.intro ?_ ?_|intro hp));all_goals (first|(refine hQ _ ?_;clear hQ Q)|(refine hQ _ (fun h=>?_) (fun h=>?_) <;> clear hQ Q <;> (try simp only [vki,reduceCtorEq] at h))|(refine kx ?_;kernel_rfl)|omega|assumption|with_reducible rfl|skip)))
    refine sym_loop (fun y:{ y:Nat × Nat // y.1≤x.beds.toNat∧y.2=o+y.1∧∀ q,q < y.2→ans q=true }=>bu2 cs s i x.beds y.1.1 y.1.2) (fun y=>x.beds.toNat - y.1.1) ⟨(0,o),Nat.zero_le _,rfl,hy⟩ ?_ fun ⟨(k,q),hk,hq,hz⟩=>?_
    · (refine Le.ok some [] ?_;constructor;all_goals (try simp only [vle,vkt,seval,tbD4_bunks1,xbD4_1,aBunk,eCabin,gCabin,bu1,bu2,Go.Sym.tabC,cbX,pinB,lentOK,nth,hwL]))
      all_goals first|rfl|(simp;done)
    simp only at hk hq hz ⊢
    repeat' (first|(apply nx;with_reducible constructor)|refine jq (by decide) ?_)
    (refine kz env fun Q hQ=>?_;simp only [vkt,seval,tbD4_bunks1,xbD4_1,aBunk,eCabin,gCabin,bu1,bu2,Go.Sym.tabC,cbX,pinB,lentOK,nth,hwL];(try simp only [ite_and]);(repeat' (first|with_reducible assumption|refine And.intro ?_ ?_|intro hp));all_goals (first|(refine hQ _ ?_;clear hQ Q)|(refine kx ?_;kernel_rfl)|omega|assumption|with_reducible rfl|skip))
    repeat' (first|(apply nx;with_reducible constructor)|refine jq (by decide) ?_)
    (refine sym_cd (by simp only [vkt,seval,tbD4_bunks1,xbD4_1,aBunk,eCabin,gCabin,bu1,bu2,Go.Sym.tabC,cbX,pinB,lentOK,nth,hwL];rfl) (fun h=>?_) (fun h=>?_) <;> (try simp only [vki,reduceCtorEq] at h))
    · have hkl:k < x.beds.toNat:=by omega
      have e8:IntKind.wrap .i64 ((k:Int)+1)=((k+1:Nat):Int):=by rw [wrap64 (by omega) (by omega)];rfl
      have hqR:q < R:=hr.lt (by omega) hz
      have hbq:buY cs q=[.agg [.v (.int .i64 (i:Int)),.v (.int .i64 (k:Int))]]:=by
        unfold buY
        rw [hq,ho,hget k hkl]
        rfl
      cases hb:ans q with
      |false =>
        have eR:R=q+1:=by have:=hr.last hqR hb;omega
        subst eR
        repeat' (first|(apply nx;with_reducible constructor)|refine jq (by decide) ?_|((first|refine kz env fun Q hQ=>?_|refine kj fun Q hQ=>?_);simp only [vkt,seval,tbD4_bunks1,xbD4_1,aBunk,eCabin,gCabin,bu1,bu2,Go.Sym.tabC,cbX,pinB,lentOK,nth,hwL,hqR,hbq,eo,hb];(try simp only [ite_and]);(repeat' (first|with_reducible assumption|refine And.intro ?_ ?_|intro hp));all_goals (first|(refine hQ _ ?_;clear hQ Q)|(refine hQ _ (fun h=>?_) (fun h=>?_) <;> clear hQ Q <;> (try simp only [vki,reduceCtorEq] at h))|(refine kx ?_;kernel_rfl)|omega|assumption|with_reducible rfl|skip)))
        (simp only [vrt,Try.results123,vkt,seval,tbD4_bunks1,xbD4_1,aBunk,eCabin,gCabin,bu1,bu2,Go.Sym.tabC,cbX,pinB,lentOK,nth,hwL];refine Fin.ok some [] ?_ ?_ ?_ ?_ ?_ rfl;all_goals (try simp only [vle,vkt,seval,tbD4_bunks1,xbD4_1,aBunk,eCabin,gCabin,bu1,bu2,Go.Sym.tabC,cbX,pinB,lentOK,nth,hwL]))
        all_goals first|rfl|(simp;done)
      |true =>
        have hz':∀ p,p < q+1→ans p=true:=fun p hp=>by
          rcases Nat.lt_or_eq_of_le (Nat.le_of_lt_succ hp) with h1|h1
          · exact hz p h1
          · rw [h1];exact hb
        repeat' (first|(apply nx;with_reducible constructor)|refine jq (by decide) ?_|((first|refine kz env fun Q hQ=>?_|refine kj fun Q hQ=>?_);simp only [vkt,seval,tbD4_bunks1,xbD4_1,aBunk,eCabin,gCabin,bu1,bu2,Go.Sym.tabC,cbX,pinB,lentOK,nth,hwL,hqR,hbq,eo,hb,e8];(try simp only [ite_and]);(repeat' (first|with_reducible assumption|refine And.intro ?_ ?_|intro hp));all_goals (first|(refine hQ _ ?_;clear hQ Q)|(refine hQ _ (fun h=>?_) (fun h=>?_) <;> clear hQ Q <;> (try simp only [vki,reduceCtorEq] at h))|(refine kx ?_;kernel_rfl)|omega|assumption|with_reducible rfl|skip)))
        refine ⟨⟨(k+1,q+1),hkl,by omega,hz'⟩,by show x.beds.toNat - (k+1) < x.beds.toNat - k;omega, ?_⟩
        (refine Le.ok some [] ?_;constructor;all_goals (try simp only [vle,vkt,seval,tbD4_bunks1,xbD4_1,aBunk,eCabin,gCabin,bu1,bu2,Go.Sym.tabC,cbX,pinB,lentOK,nth,hwL]))
        all_goals first|rfl|(simp;done)
    · have hkn:q=((bdsL cs).take (i+1)).sum:=by omega
      repeat' (first|(apply nx;with_reducible constructor)|refine jq (by decide) ?_|((first|refine kz env fun Q hQ=>?_|refine kj fun Q hQ=>?_);simp only [vkt,seval,tbD4_bunks1,xbD4_1,aBunk,eCabin,gCabin,bu1,bu2,Go.Sym.tabC,cbX,pinB,lentOK,nth,hwL,e9];(try simp only [ite_and]);(repeat' (first|with_reducible assumption|refine And.intro ?_ ?_|intro hp));all_goals (first|(refine hQ _ ?_;clear hQ Q)|(refine hQ _ (fun h=>?_) (fun h=>?_) <;> clear hQ Q <;> (try simp only [vki,reduceCtorEq] at h))|(refine kx ?_;kernel_rfl)|omega|assumption|with_reducible rfl|skip)))
      refine ⟨⟨(i+1,q),hlt,hkn,hz⟩,by show cs.length - (i+1) < cs.length - i;omega, ?_⟩
      (refine Le.ok some [] ?_;constructor;all_goals (try simp only [vle,vkt,seval,tbD4_bunks1,xbD4_1,aBunk,eCabin,gCabin,bu1,bu2,Go.Sym.tabC,cbX,pinB,lentOK,nth,hwL]))
      all_goals first|rfl|(simp;done)
  · have hie:i=cs.length:=by omega
    subst hie
    have hoN:o=(bdsL cs).sum:=by rw [ho,List.take_of_length_le (by simp [bdsL])]
    have eR:R=o:=by rw [hoN];exact hr.all (Nat.le_of_eq hoN.symm) hy
    subst eR
    repeat' (first|(apply nx;with_reducible constructor)|refine jq (by decide) ?_|((first|refine kz env fun Q hQ=>?_|refine kj fun Q hQ=>?_);simp only [vkt,seval,tbD4_bunks1,xbD4_1,aBunk,eCabin,gCabin,bu1,bu2,Go.Sym.tabC,cbX,pinB,lentOK,nth,hwL];(try simp only [ite_and]);(repeat' (first|with_reducible assumption|refine And.intro ?_ ?_|intro hp));all_goals (first|(refine hQ _ ?_;clear hQ Q)|(refine hQ _ (fun h=>?_) (fun h=>?_) <;> clear hQ Q <;> (try simp only [vki,reduceCtorEq] at h))|(refine kx ?_;kernel_rfl)|omega|assumption|with_reducible rfl|skip)))
    (simp only [vrt,Try.results123,vkt,seval,tbD4_bunks1,xbD4_1,aBunk,eCabin,gCabin,bu1,bu2,Go.Sym.tabC,cbX,pinB,lentOK,nth,hwL];refine Fin.ok some [] ?_ ?_ ?_ ?_ ?_ rfl;all_goals (try simp only [vle,vkt,seval,tbD4_bunks1,xbD4_1,aBunk,eCabin,gCabin,bu1,bu2,Go.Sym.tabC,cbX,pinB,lentOK,nth,hwL]))
    all_goals first|rfl|(simp;done)
def xbD4_2:=kk @aI.eq_1 (@aB.eq_1)
theorem bunks_fn (cs:List Cabin) (s:Int):Fn noB Try.prog 94 [.agg [.sl (cs.map eCabin),.v (.int .i64 s),.any]] (hasg []) (.clo 123 [.ptr 0 0]) (hasg [(0,.cells [.sl (cs.map eCabin),.v (.int .i64 s),.any])]) 0:=by
  have env:Env (fun _=>True) Try.prog tyB (tab []):=mkEnv trivial
  refine Fn.of (A:=fun _=>True) (n0:=0) (D:=noD) (Fn0 Try.func94 rfl (fun vs w=>by kernel_rfl) (by kernel_rfl)) (by simp) (by simp [AV.ids,AV.idsL]) (fun i o h=>by cases h) (fun _ _ _ _=>trivial) noD_ok ?_
  repeat' (first|(apply nx;with_reducible constructor)|refine jq (by decide) ?_|((first|refine kz env fun Q hQ=>?_|refine kj fun Q hQ=>?_);simp only [vkt,seval,xbD4_2];(try simp only [ite_and]);(repeat' (first|with_reducible assumption|refine And.intro ?_ ?_|intro hp));all_goals (first|(refine hQ _ ?_;clear hQ Q)|(refine hQ _ (fun h=>?_) (fun h=>?_) <;> clear hQ Q <;> (try simp only [vki,reduceCtorEq] at h))|(refine kx ?_;kernel_rfl)|omega|assumption|with_reducible rfl|skip)))
  (simp only [vrt,Try.results94,vkt,seval,xbD4_2];refine Fin.ok some [] ?_ ?_ ?_ ?_ ?_ rfl;all_goals (try simp only [vle,vkt,seval,xbD4_2]))
  all_goals first|rfl|(simp;done)
def pBunks (_:St):List AV→Option Pk
  |[.agg [.sl cs,.v (.int .i64 s),_]]=>some { pre:=cs=(cs.map dCabin).map eCabin,ar:=[.agg [.sl cs,.v (.int .i64 s),.any]],v:=.clo 123 [.ptr 0 0],L1:=[some (.cells [.sl cs,.v (.int .i64 s),.any])] }
  |_=>none
theorem eBunksF {A:Frm→Prop}:EntryOK A Try.prog 94 (fnE pBunks):=fnE_ok fun S bs q h hp=>by
  unfold pBunks at h
  split at h
  · rename_i cs s _
    cases h
    have:=bunks_fn (cs.map dCabin) s
    rw [← (show cs=(cs.map dCabin).map eCabin from hp)] at this
    exact this
  · cases h
end Go.Sym.B
namespace Go.Sym.B
open Go Go.Sym Go.Proofs Go.Sym.C
theorem b47 {n:Nat} (h:n≤100000):n * 8≤140737488355328∧n * 24≤140737488355328∧n * 16≤140737488355328∧n * 56≤140737488355328∧n≤maxLen:=by
  have:(100000:Nat)≤maxLen:=by decide
  omega
def tbD5_cloneT:=kk @ty26 (kk @ty81 (kk @ti26.eq_1 @ti81.eq_1))
theorem cloneT_fn (xs:List (List DV)) (h1:rowsOK 7 xs) (h2:xs.length≤100000):Fn noB Try.prog 122 [.sl xs] noH (.row 0) (hasg [(0,.row 81 7 xs)]) 0:=by
  have env:Env (fun _=>True) Try.prog tyB (tab []):=mkEnv trivial
  obtain ⟨b1,b2,b3,b5,b4⟩:=b47 h2
  refine Fn.of (A:=fun _=>True) (n0:=0) (D:=noD) (Fn0 Try.func122 rfl (fun vs w=>by kernel_rfl) (by kernel_rfl)) (by simp) (by simp [AV.ids]) (fun i o h=>by cases h) (fun _ _ _ _=>trivial) noD_ok ?_
  repeat' (first|(apply nx;with_reducible constructor)|refine jq (by decide) ?_)
  (refine kz env fun Q hQ=>?_;simp only [vkt,seval,tbD5_cloneT,@true_and];(try simp only [ite_and]);(repeat' (first|with_reducible assumption|refine And.intro ?_ ?_|intro hp));all_goals (first|(refine hQ _ ?_;clear hQ Q)|(refine kx ?_;kernel_rfl)|omega|assumption|with_reducible rfl|skip))
  repeat' (first|(apply nx;with_reducible constructor)|refine jq (by decide) ?_)
  refine sym_niltest (d1:=3) (d2:=4) (t:=26) (e:=81) (x:=.tmp 0) (xs:=xs) rfl rfl rfl rfl rfl rfl Try.underlying26 rfl fun b hb=>?_
  repeat' (first|(apply nx;with_reducible constructor)|refine jq (by decide) ?_)
  (refine sym_cd (by simp only [vkt,seval,tbD5_cloneT,@true_and];rfl) (fun h=>?_) (fun h=>?_) <;> (try simp only [vki,reduceCtorEq] at h))
  · have hx:=hb h
    subst hx
    repeat' (first|(apply nx;with_reducible constructor)|refine jq (by decide) ?_|((first|refine kz env fun Q hQ=>?_|refine kj fun Q hQ=>?_);simp only [vkt,seval,tbD5_cloneT,@true_and];(try simp only [ite_and]);(repeat' (first|with_reducible assumption|refine And.intro ?_ ?_|intro hp));all_goals (first|(refine hQ _ ?_;clear hQ Q)|(refine hQ _ (fun h=>?_) (fun h=>?_) <;> clear hQ Q <;> (try simp only [vki,reduceCtorEq] at h))|(refine kx ?_;kernel_rfl)|omega|assumption|with_reducible rfl|skip)))
    (simp only [vrt,Try.results122,vkt,seval,tbD5_cloneT,@true_and];refine Fin.ok (fun _=>none) [] ?_ ?_ ?_ ?_ ?_ rfl;all_goals (try simp only [vle,vkt,seval,tbD5_cloneT,@true_and]))
    all_goals simp
  · repeat' (first|(apply nx;with_reducible constructor)|refine jq (by decide) ?_|((first|refine kz env fun Q hQ=>?_|refine kj fun Q hQ=>?_);simp only [vkt,seval,tbD5_cloneT,@true_and];(try simp only [ite_and]);(repeat' (first|with_reducible assumption|refine And.intro ?_ ?_|intro hp));all_goals (first|(refine hQ _ ?_;clear hQ Q)|(refine hQ _ (fun h=>?_) (fun h=>?_) <;> clear hQ Q <;> (try simp only [vki,reduceCtorEq] at h))|(refine kx ?_;kernel_rfl)|omega|assumption|with_reducible rfl|skip)))
    (simp only [vrt,Try.results122,vkt,seval,tbD5_cloneT,@true_and];refine Fin.ok some [] ?_ ?_ ?_ ?_ ?_ rfl;all_goals (try simp only [vle,vkt,seval,tbD5_cloneT,@true_and]))
    all_goals simp
def tbD5_cloneB:=kk @ty37 (kk @ty49 (kk @ti37.eq_1 @ti49.eq_1))
theorem cloneB_fn (xs:List (List DV)) (h1:rowsOK 2 xs) (h2:xs.length≤100000):Fn noB Try.prog 132 [.sl xs] noH (.row 0) (hasg [(0,.row 49 2 xs)]) 0:=by
  have env:Env (fun _=>True) Try.prog tyB (tab []):=mkEnv trivial
  obtain ⟨b1,b2,b3,b5,b4⟩:=b47 h2
  refine Fn.of (A:=fun _=>True) (n0:=0) (D:=noD) (Fn0 Try.func132 rfl (fun vs w=>by kernel_rfl) (by kernel_rfl)) (by simp) (by simp [AV.ids]) (fun i o h=>by cases h) (fun _ _ _ _=>trivial) noD_ok ?_
  repeat' (first|(apply nx;with_reducible constructor)|refine jq (by decide) ?_)
  (refine kz env fun Q hQ=>?_;simp only [vkt,seval,tbD5_cloneB,@true_and];(try simp only [ite_and]);(repeat' (first|with_reducible assumption|refine And.intro ?_ ?_|intro hp));all_goals (first|(refine hQ _ ?_;clear hQ Q)|(refine kx ?_;kernel_rfl)|omega|assumption|with_reducible rfl|skip))
  repeat' (first|(apply nx;with_reducible constructor)|refine jq (by decide) ?_)
  refine sym_niltest (d1:=3) (d2:=4) (t:=37) (e:=49) (x:=.tmp 0) (xs:=xs) rfl rfl rfl rfl rfl rfl Try.underlying37 rfl fun b hb=>?_
  repeat' (first|(apply nx;with_reducible constructor)|refine jq (by decide) ?_)
  (refine sym_cd (by simp only [vkt,seval,tbD5_cloneB,@true_and];rfl) (fun h=>?_) (fun h=>?_) <;> (try simp only [vki,reduceCtorEq] at h))
  · have hx:=hb h
    subst hx
    repeat' (first|(apply nx;with_reducible constructor)|refine jq (by decide) ?_|((first|refine kz env fun Q hQ=>?_|refine kj fun Q hQ=>?_);simp only [vkt,seval,tbD5_cloneB,@true_and];(try simp only [ite_and]);(repeat' (first|with_reducible assumption|refine And.intro ?_ ?_|intro hp));all_goals (first|(refine hQ _ ?_;clear hQ Q)|(refine hQ _ (fun h=>?_) (fun h=>?_) <;> clear hQ Q <;> (try simp only [vki,reduceCtorEq] at h))|(refine kx ?_;kernel_rfl)|omega|assumption|with_reducible rfl|skip)))
    (simp only [vrt,Try.results132,vkt,seval,tbD5_cloneB,@true_and];refine Fin.ok (fun _=>none) [] ?_ ?_ ?_ ?_ ?_ rfl;all_goals (try simp only [vle,vkt,seval,tbD5_cloneB,@true_and]))
    all_goals simp
  · repeat' (first|(apply nx;with_reducible constructor)|refine jq (by decide) ?_|((first|refine kz env fun Q hQ=>?_|refine kj fun Q hQ=>?_);simp only [vkt,seval,tbD5_cloneB,@true_and];(try simp only [ite_and]);(repeat' (first|with_reducible assumption|refine And.intro ?_ ?_|intro hp));all_goals (first|(refine hQ _ ?_;clear hQ Q)|(refine hQ _ (fun h=>?_) (fun h=>?_) <;> clear hQ Q <;> (try simp only [vki,reduceCtorEq] at h))|(refine kx ?_;kernel_rfl)|omega|assumption|with_reducible rfl|skip)))
    (simp only [vrt,Try.results132,vkt,seval,tbD5_cloneB,@true_and];refine Fin.ok some [] ?_ ?_ ?_ ?_ ?_ rfl;all_goals (try simp only [vle,vkt,seval,tbD5_cloneB,@true_and]))
    all_goals simp
def pCloneT (S:St):List AV→Option Pk
  |[.sl xs]=>some { pre:=rowsOK 7 xs∧xs.length≤100000,ar:=[.sl xs],v:=.row 0,L1:=[some (.row 81 7 xs)] }
  |[.row r]=>match S.h r with
    |some (.row _ _ xs)=>some { pre:=rowsOK 7 xs∧xs.length≤100000,bo:=[r],fl:=true,ar:=[.sl xs],v:=.row 0,L1:=[some (.row 81 7 xs)] }
    |_=>none
  |_=>none
theorem eCloneT {A:Frm→Prop}:EntryOK A Try.prog 122 (fnE pCloneT):=fnE_ok fun S bs q h hp=>by
  unfold pCloneT at h
  split at h
  · cases h;exact cloneT_fn _ hp.1 hp.2
  · split at h
    · cases h;exact cloneT_fn _ hp.1 hp.2
    · cases h
  · cases h
def pCloneB (_:St):List AV→Option Pk
  |[.sl xs]=>some { pre:=rowsOK 2 xs∧xs.length≤100000,ar:=[.sl xs],v:=.row 0,L1:=[some (.row 49 2 xs)] }
  |_=>none
theorem eCloneB {A:Frm→Prop}:EntryOK A Try.prog 132 (fnE pCloneB):=fnE_ok fun S bs q h hp=>by
  unfold pCloneB at h
  split at h
  · cases h;exact cloneB_fn _ hp.1 hp.2
  · cases h
def ibS (b:Bunk) (l:List Bunk) (k:Nat):St:={ t:=asg [(0,aBunks l),(3,.ptr 0 0),(4,aI 0),(6,aBunks l),(7,aI l.length),(8,aI k)],h:=hasg [(0,.cells [.v (.int .i64 b.cab),.v (.int .i64 b.bed)])],n:=1 }
def idxB (b:Bunk) (l:List Bunk):Int:=match l.findIdx? (· == b) with
  |some i=>(i:Int)
  |none=>-1
theorem idxB_hit {b:Bunk} {l:List Bunk} {k:Nat} (hk:k < l.length) (h:∀ j,j < k→l.getD j default ≠ b) (hp:l.getD k default=b):idxB b l=(k:Int):=by
  have:l.findIdx? (· == b)=some k:=by
    rw [List.findIdx?_eq_some_iff_getElem]
    refine ⟨hk,by simpa [List.getD_eq_getElem?_getD,hk] using hp,fun j hj=>?_⟩
    have:=h j hj
    simpa [List.getD_eq_getElem?_getD,show j < l.length by omega] using this
  simp [idxB,this]
theorem idxB_none {b:Bunk} {l:List Bunk} (h:∀ j,j < l.length→l.getD j default ≠ b):idxB b l=-1:=by
  have:l.findIdx? (· == b)=none:=by
    rw [List.findIdx?_eq_none_iff]
    intro x hx
    obtain ⟨j,hj,rfl⟩:=List.mem_iff_getElem.1 hx
    have:=h j hj
    simpa [List.getD_eq_getElem?_getD,hj] using this
  simp [idxB,this]
theorem idxB_any (b:Bunk) (l:List Bunk):decide (0≤idxB b l)=l.contains b:=by
  unfold idxB
  cases h:l.findIdx? (· == b) with
  |none =>
    rw [List.findIdx?_eq_none_iff] at h
    symm
    simp only [show ¬ (0:Int)≤-1 by decide,decide_false]
    rw [Bool.eq_false_iff]
    intro hc
    have:=h b (by simpa using hc)
    simp at this
  |some i =>
    rw [List.findIdx?_eq_some_iff_getElem] at h
    obtain ⟨hi,hp,_⟩:=h
    symm
    simp only [Int.natCast_nonneg,decide_true]
    have:l[i]=b:=by simpa using hp
    rw [← this];simp
def tbD5_indexB:=kk @ty3 (kk @ty37 (kk @ty49 (kk @ti3.eq_1 (kk @ti37.eq_1 @ti49.eq_1))))
def xbD5_2:=kk @aI.eq_1 (@aB.eq_1)
theorem indexB_fn (b:Bunk) (l:List Bunk) (hl:l.length≤100):FnV Try.prog 146 [aBunks l,aBunk b] (aI (idxB b l)):=by
  have env:Env (fun _=>True) Try.prog tyB (tab []):=mkEnv trivial
  refine Fn.of (A:=fun _=>True) (n0:=0) (D:=noD) (Fn0 Try.func146 rfl (fun vs w=>by kernel_rfl) (by kernel_rfl)) (by simp) (by simp [AV.ids,AV.idsL,aBunks,aBunk]) (fun i o h=>by cases h) (fun _ _ _ _=>trivial) noD_ok ?_
  repeat' (first|(apply nx;with_reducible constructor)|refine jq (by decide) ?_|((first|refine kz env fun Q hQ=>?_|refine kj fun Q hQ=>?_);simp only [vkt,seval,tbD5_indexB,xbD5_2,aBunk,aBunks,eBunk,gBunk,ibS,Bool.true_and,Bool.false_and];(try simp only [ite_and]);(repeat' (first|with_reducible assumption|refine And.intro ?_ ?_|intro hp));all_goals (first|(refine hQ _ ?_;clear hQ Q)|(refine hQ _ (fun h=>?_) (fun h=>?_) <;> clear hQ Q <;> (try simp only [vki,reduceCtorEq] at h))|(refine kx ?_;kernel_rfl)|omega|assumption|with_reducible rfl|skip)))
  refine sym_loop (fun k:{ k:Nat // k≤l.length∧∀ j,j < k→l.getD j default ≠ b }=>ibS b l k.1) (fun k=>l.length - k.1) ⟨0,Nat.zero_le _,fun j h=>absurd h (Nat.not_lt_zero _)⟩ ?_ fun ⟨k,hk,hno⟩=>?_
  · (refine Le.ok some [] ?_;constructor;all_goals (try simp only [vle,vkt,seval,tbD5_indexB,xbD5_2,aBunk,aBunks,eBunk,gBunk,ibS,Bool.true_and,Bool.false_and]))
    all_goals first|rfl|(simp;done)
  · repeat' (first|(apply nx;with_reducible constructor)|refine jq (by decide) ?_)
    (refine kz env fun Q hQ=>?_;simp only [vkt,seval,tbD5_indexB,xbD5_2,aBunk,aBunks,eBunk,gBunk,ibS,Bool.true_and,Bool.false_and];(try simp only [ite_and]);(repeat' (first|with_reducible assumption|refine And.intro ?_ ?_|intro hp));all_goals (first|(refine hQ _ ?_;clear hQ Q)|(refine kx ?_;kernel_rfl)|omega|assumption|with_reducible rfl|skip))
    repeat' (first|(apply nx;with_reducible constructor)|refine jq (by decide) ?_)
    (refine sym_cd (by simp only [vkt,seval,tbD5_indexB,xbD5_2,aBunk,aBunks,eBunk,gBunk,ibS,Bool.true_and,Bool.false_and];rfl) (fun h=>?_) (fun h=>?_) <;> (try simp only [vki,reduceCtorEq] at h))
    · have hlt:k < l.length:=by omega
      have e9:IntKind.wrap .i64 ((k:Int)+1)=((k+1:Nat):Int):=by rw [wrap64 (by omega) (by omega)];rfl
      obtain ⟨x,hx⟩:∃ x,l.getD k default=x:=⟨_,rfl⟩
      have hxb:(x=b)=(b.cab=x.cab∧b.bed=x.bed):=by
        cases x;cases b;simp;exact ⟨fun ⟨a,b⟩=>⟨a.symm,b.symm⟩,fun ⟨a,b⟩=>⟨a.symm,b.symm⟩⟩
      have hnx:¬ x=b→∀ j,j < k+1→l.getD j default ≠ b:=fun hp j hj=>by
        rcases Nat.lt_or_eq_of_le (Nat.le_of_lt_succ hj) with h1|h1
        · exact hno j h1
        · rw [h1,hx];exact hp
      cases q1:decide (b.cab=x.cab)
      · have hp:¬ x=b:=by rw [hxb];exact fun h=>of_decide_eq_false q1 h.1
        repeat' (first|(apply nx;with_reducible constructor)|refine jq (by decide) ?_|((first|refine kz env fun Q hQ=>?_|refine kj fun Q hQ=>?_);simp only [vkt,seval,tbD5_indexB,xbD5_2,aBunk,aBunks,eBunk,gBunk,ibS,Bool.true_and,Bool.false_and,hx,q1,e9];(try simp only [ite_and]);(repeat' (first|with_reducible assumption|refine And.intro ?_ ?_|intro hp));all_goals (first|(refine hQ _ ?_;clear hQ Q)|(refine hQ _ (fun h=>?_) (fun h=>?_) <;> clear hQ Q <;> (try simp only [vki,reduceCtorEq] at h))|(refine kx ?_;kernel_rfl)|omega|assumption|with_reducible rfl|skip)))
        refine ⟨⟨k+1,hlt,hnx hp⟩,by show l.length - (k+1) < l.length - k;omega, ?_⟩
        (refine Le.ok some [] ?_;constructor;all_goals (try simp only [vle,vkt,seval,tbD5_indexB,xbD5_2,aBunk,aBunks,eBunk,gBunk,ibS,Bool.true_and,Bool.false_and]))
        all_goals first|rfl|(simp;done)
      · cases q2:decide (b.bed=x.bed)
        · have hp:¬ x=b:=by rw [hxb];exact fun h=>of_decide_eq_false q2 h.2
          repeat' (first|(apply nx;with_reducible constructor)|refine jq (by decide) ?_|((first|refine kz env fun Q hQ=>?_|refine kj fun Q hQ=>?_);simp only [vkt,seval,tbD5_indexB,xbD5_2,aBunk,aBunks,eBunk,gBunk,ibS,Bool.true_and,Bool.false_and,hx,q1,q2,e9];(try simp only [ite_and]);(repeat' (first|with_reducible assumption|refine And.intro ?_ ?_|intro hp));all_goals (first|(refine hQ _ ?_;clear hQ Q)|(refine hQ _ (fun h=>?_) (fun h=>?_) <;> clear hQ Q <;> (try simp only [vki,reduceCtorEq] at h))|(refine kx ?_;kernel_rfl)|omega|assumption|with_reducible rfl|skip)))
          refine ⟨⟨k+1,hlt,hnx hp⟩,by show l.length - (k+1) < l.length - k;omega, ?_⟩
          (refine Le.ok some [] ?_;constructor;all_goals (try simp only [vle,vkt,seval,tbD5_indexB,xbD5_2,aBunk,aBunks,eBunk,gBunk,ibS,Bool.true_and,Bool.false_and]))
          all_goals first|rfl|(simp;done)
        · have hh:=idxB_hit hlt hno (by rw [hx,hxb];exact ⟨of_decide_eq_true q1,of_decide_eq_true q2⟩)
          rw [hh]
          repeat' (first|(apply nx;with_reducible constructor)|refine jq (by decide) ?_|((first|refine kz env fun Q hQ=>?_|refine kj fun Q hQ=>?_);simp only [vkt,seval,tbD5_indexB,xbD5_2,aBunk,aBunks,eBunk,gBunk,ibS,Bool.true_and,Bool.false_and,hx,q1,q2,e9];(try simp only [ite_and]);(repeat' (first|with_reducible assumption|refine And.intro ?_ ?_|intro hp));all_goals (first|(refine hQ _ ?_;clear hQ Q)|(refine hQ _ (fun h=>?_) (fun h=>?_) <;> clear hQ Q <;> (try simp only [vki,reduceCtorEq] at h))|(refine kx ?_;kernel_rfl)|omega|assumption|with_reducible rfl|skip)))
          (simp only [vrt,Try.results146,vkt,seval,tbD5_indexB,xbD5_2,aBunk,aBunks,eBunk,gBunk,ibS,Bool.true_and,Bool.false_and];refine Fin.val rfl ?_;(try simp only [AV.le,AV.leL]))
          all_goals first|rfl|(simp;done)
    · have hke:k=l.length:=by omega
      subst hke
      rw [idxB_none hno]
      repeat' (first|(apply nx;with_reducible constructor)|refine jq (by decide) ?_|((first|refine kz env fun Q hQ=>?_|refine kj fun Q hQ=>?_);simp only [vkt,seval,tbD5_indexB,xbD5_2,aBunk,aBunks,eBunk,gBunk,ibS,Bool.true_and,Bool.false_and];(try simp only [ite_and]);(repeat' (first|with_reducible assumption|refine And.intro ?_ ?_|intro hp));all_goals (first|(refine hQ _ ?_;clear hQ Q)|(refine hQ _ (fun h=>?_) (fun h=>?_) <;> clear hQ Q <;> (try simp only [vki,reduceCtorEq] at h))|(refine kx ?_;kernel_rfl)|omega|assumption|with_reducible rfl|skip)))
      (simp only [vrt,Try.results146,vkt,seval,tbD5_indexB,xbD5_2,aBunk,aBunks,eBunk,gBunk,ibS,Bool.true_and,Bool.false_and];refine Fin.val rfl ?_;(try simp only [AV.le,AV.leL]))
      all_goals first|rfl|(simp;done)
def sindexB:List AV→Prop × AV
  |[.sl l,.agg [.v (.int .i64 b0),.v (.int .i64 b1)]]=>(l=(l.map dBunk).map eBunk∧(l.map dBunk).length≤100,aI (idxB (⟨b0,b1⟩:Bunk) (l.map dBunk)))
  |_=>(False,.junk)
theorem eindexB {A:Frm→Prop}:EntryOK A Try.prog 146 (valE true sindexB):=valE_ok fun vs hv h=>by
  clear hv
  unfold sindexB at h ⊢
  split at h
  · rename_i l b0 b1;obtain ⟨q0,k0⟩:=h
    refine ⟨by first|trivial|(simp [AV.plain,AV.plainL,aI,aB,aInts,aBunks,aTks,aBunk,aTk,cTk];done)|(repeat' split) <;> simp [AV.plain,AV.plainL,aI,aB,aInts,aBunks,aTks,aBunk,aTk,cTk],fun _=>(by simp [AV.flat,AV.flatL,aI,aB]), ?_⟩
    have:=indexB_fn (⟨b0,b1⟩:Bunk) (l.map dBunk) k0
    simp only [aBunk,aBunks,aI,← q0] at this
    first|exact this|(simp only [aBunk,aBunks,aI,← q0];exact this)
  · exact h.elim
def tbD5_contB:=kk @ty3 (kk @ty49 (kk @ti3.eq_1 @ti49.eq_1))
def xbD5_3:=kk @aI.eq_1 (@aB.eq_1)
theorem contB_fn (b:Bunk) (l:List Bunk) (hl:l.length≤100):FnV Try.prog 133 [aBunks l,aBunk b] (aB (l.contains b)):=by
  have env:Env (fun _=>True) Try.prog tyB (tab [(146,valE true sindexB)]):=mkEnv ⟨eindexB,trivial⟩
  refine Fn.of (A:=fun _=>True) (n0:=0) (D:=noD) (Fn0 Try.func133 rfl (fun vs w=>by kernel_rfl) (by kernel_rfl)) (by simp) (by simp [AV.ids,AV.idsL,aBunks,aBunk]) (fun i o h=>by cases h) (fun _ _ _ _=>trivial) noD_ok ?_
  have ex:(⟨b.cab,b.bed⟩:Bunk)=b:=rfl
  have ea:=idxB_any b l
  repeat' (first|(apply nx;with_reducible constructor)|refine jq (by decide) ?_|((first|refine kz env fun Q hQ=>?_|refine kj fun Q hQ=>?_);simp only [vkt,seval,tbD5_contB,xbD5_3,aBunk,aBunks,eBunk,mBunk,sindexB,List.length_map,ex,ea];(try simp only [ite_and]);(repeat' (first|with_reducible assumption|refine And.intro ?_ ?_|intro hp));all_goals (first|(refine hQ _ ?_;clear hQ Q)|(refine hQ _ (fun h=>?_) (fun h=>?_) <;> clear hQ Q <;> (try simp only [vki,reduceCtorEq] at h))|(refine kx ?_;kernel_rfl)|omega|assumption|with_reducible rfl|skip)))
  (simp only [vrt,Try.results133,vkt,seval,tbD5_contB,xbD5_3,aBunk,aBunks,eBunk,mBunk,sindexB,List.length_map];refine Fin.val rfl ?_;(try simp only [AV.le,AV.leL]))
  all_goals first|rfl|(simp;done)
def scontB:List AV→Prop × AV
  |[.sl l,.agg [.v (.int .i64 b0),.v (.int .i64 b1)]]=>(l=(l.map dBunk).map eBunk∧(l.map dBunk).length≤100,aB ((l.map dBunk).contains (⟨b0,b1⟩:Bunk)))
  |_=>(False,.junk)
theorem econtB {A:Frm→Prop}:EntryOK A Try.prog 133 (valE true scontB):=valE_ok fun vs hv h=>by
  clear hv
  unfold scontB at h ⊢
  split at h
  · rename_i l b0 b1;obtain ⟨q0,k0⟩:=h
    refine ⟨by first|trivial|(simp [AV.plain,AV.plainL,aI,aB,aInts,aBunks,aTks,aBunk,aTk,cTk];done)|(repeat' split) <;> simp [AV.plain,AV.plainL,aI,aB,aInts,aBunks,aTks,aBunk,aTk,cTk],fun _=>(by simp [AV.flat,AV.flatL,aI,aB]), ?_⟩
    have:=contB_fn (⟨b0,b1⟩:Bunk) (l.map dBunk) k0
    simp only [aBunk,aBunks,aI,← q0] at this
    first|exact this|(simp only [aBunk,aBunks,aI,← q0];exact this)
  · exact h.elim
def carC (cs:List Cabin) (s:Int) (r:Nat):AObj:=.cells [.sl (cs.map eCabin),.v (.int .i64 s),.row r]
def rowT (l:List Tk):AObj:=.row 81 7 (l.map eTk)
def lent2 (cs:List Cabin) (s:Int) (l:List Tk):List AObj:=[carC cs s 1,rowT l]
structure NearOk (cs:List Cabin) (l:List Bunk):Prop where
  ne:0 < l.length
  len:l.length≤100
  cabs:cs.length≤100
  mem:∀ b ∈ l,0≤b.cab∧b.cab.toNat < cs.length
def loK (l:List Bunk) (k:Nat):Int:=(l.take k).foldl (fun m b=>min m b.cab) (l.getD 0 default).cab
def hiK (l:List Bunk) (k:Nat):Int:=(l.take k).foldl (fun m b=>max m b.cab) (l.getD 0 default).cab
theorem loK_succ {l:List Bunk} {k:Nat} (h:k < l.length):loK l (k+1)=min (loK l k) (l.getD k default).cab:=by
  unfold loK
  rw [List.take_succ_eq_append_getElem h,List.foldl_append]
  simp [List.getD_eq_getElem?_getD,h]
theorem hiK_succ {l:List Bunk} {k:Nat} (h:k < l.length):hiK l (k+1)=max (hiK l k) (l.getD k default).cab:=by
  unfold hiK
  rw [List.take_succ_eq_append_getElem h,List.foldl_append]
  simp [List.getD_eq_getElem?_getD,h]
theorem near_eq (cs:List Cabin) (l:List Bunk):nearB cs l=(decide (loK l l.length=hiK l l.length) || (decide (loK l l.length+1=hiK l l.length) && (cs.getD (loK l l.length).toNat default).door)):=by
  unfold nearB loK hiK
  rw [List.take_length]
theorem nearOk_bd {cs:List Cabin} {l:List Bunk} (h:NearOk cs l):∀ k,k≤l.length→0≤loK l k∧(loK l k).toNat < cs.length∧0≤hiK l k∧(hiK l k).toNat < cs.length:=by
  intro k
  induction k with
  |zero =>
    intro _
    have:=h.mem _ (gMem (d:=default) h.ne)
    simp only [loK,hiK,List.take_zero,List.foldl_nil]
    exact ⟨this.1,this.2,this.1,this.2⟩
  |succ k ih =>
    intro hk
    have h1:=ih (by omega)
    have h2:=h.mem _ (gMem (d:=default) (show k < l.length by omega))
    rw [loK_succ (by omega),hiK_succ (by omega)]
    omega
def nrS (cs:List Cabin) (s:Int) (sold:List Tk) (l:List Bunk) (k:Nat) (lo hi:Int):St:={ t:=asg [(0,.ptr 0 0),(1,aBunks l),(4,aB false),(5,aI lo),(6,aI hi),(17,aBunks l),(18,aI l.length),(19,aI k)],h:=hasg [(0,carC cs s 1),(1,rowT sold)],n:=2,m:=2 }
def tbD5_near:=kk @ty3 (kk @ty4 (kk @ty25 (kk @ty28 (kk @ty37 (kk @ty49 (kk @ty51 (kk @ty118 (kk @ti3.eq_1 (kk @ti4.eq_1 (kk @ti25.eq_1 (kk @ti28.eq_1 (kk @ti37.eq_1 (kk @ti49.eq_1 (kk @ti51.eq_1 @ti118.eq_1))))))))))))))
def xbD5_4:=kk @aI.eq_1 (@aB.eq_1)
theorem near_fn (cs:List Cabin) (s:Int) (sold:List Tk) (l:List Bunk) (ok:NearOk cs l):Fn noB Try.prog 134 [.ptr 0 0,aBunks l] (hasg (enumA 0 (lent2 cs s sold))) (aB (nearB cs l)) (hasg (enumO 0 ((lent2 cs s sold).map some))) 0:=by
  have env:Env (fun _=>True) Try.prog tyB (tab []):=mkEnv trivial
  refine Fn.of (A:=fun _=>True) (n0:=2) (D:=noD) (Fn0 Try.func134 rfl (fun vs w=>by kernel_rfl) (by kernel_rfl)) (by simp) (by simp [AV.ids,AV.idsL,aBunks]) ?_ (fun _ _ _ _=>trivial) noD_ok ?_
  · intro i o hi
    have h:=hasg_mem hi
    simp [enumA,lent2] at h
    rcases h with ⟨rfl,rfl⟩|⟨rfl,rfl⟩ <;> simp [AObj.ids,AV.ids,AV.idsL,carC,rowT]
  have hne:=ok.ne
  have hll:=ok.len
  have hcl:=ok.cabs
  have hbd:=nearOk_bd ok
  obtain ⟨x0,hx0⟩:∃ x,l.getD 0 default=x:=⟨_,rfl⟩
  have l0:loK l 0=x0.cab:=by rw [← hx0];rfl
  have h0:hiK l 0=x0.cab:=by rw [← hx0];rfl
  rw [near_eq]
  show Sym _ _ _ (startS [.ptr 0 0,aBunks l] 2 (hasg [(0,carC cs s 1),(1,rowT sold)])) (retK tyB noD Try.f134 fun S rv=>Fin S rv _ 2 (hasg [(0,carC cs s 1),(1,rowT sold)]) 0)
  repeat' (first|(apply nx;with_reducible constructor)|refine jq (by decide) ?_|((first|refine kz env fun Q hQ=>?_|refine kj fun Q hQ=>?_);simp only [vkt,seval,tbD5_near,xbD5_4,aBunk,aBunks,eBunk,gBunk,eCabin,gCabin,carC,rowT,lent2,nrS,List.length_map,hx0];(try simp only [ite_and]);(repeat' (first|with_reducible assumption|refine And.intro ?_ ?_|intro hp));all_goals (first|(refine hQ _ ?_;clear hQ Q)|(refine hQ _ (fun h=>?_) (fun h=>?_) <;> clear hQ Q <;> (try simp only [vki,reduceCtorEq] at h))|(refine kx ?_;kernel_rfl)|omega|assumption|with_reducible rfl|skip)))
  refine sym_loop (fun k:{ k:Nat // k≤l.length }=>nrS cs s sold l k.1 (loK l k.1) (hiK l k.1)) (fun k=>l.length - k.1) ⟨0,Nat.zero_le _⟩ ?_ fun ⟨k,hk⟩=>?_
  · simp only [l0,h0]
    (refine Le.ok some [] ?_;constructor;all_goals (try simp only [vle,vkt,seval,tbD5_near,xbD5_4,aBunk,aBunks,eBunk,gBunk,eCabin,gCabin,carC,rowT,lent2,nrS,List.length_map]))
    all_goals first|rfl|(simp;done)
  · repeat' (first|(apply nx;with_reducible constructor)|refine jq (by decide) ?_)
    (refine kz env fun Q hQ=>?_;simp only [vkt,seval,tbD5_near,xbD5_4,aBunk,aBunks,eBunk,gBunk,eCabin,gCabin,carC,rowT,lent2,nrS,List.length_map];(try simp only [ite_and]);(repeat' (first|with_reducible assumption|refine And.intro ?_ ?_|intro hp));all_goals (first|(refine hQ _ ?_;clear hQ Q)|(refine kx ?_;kernel_rfl)|omega|assumption|with_reducible rfl|skip))
    repeat' (first|(apply nx;with_reducible constructor)|refine jq (by decide) ?_)
    (refine sym_cd (by simp only [vkt,seval,tbD5_near,xbD5_4,aBunk,aBunks,eBunk,gBunk,eCabin,gCabin,carC,rowT,lent2,nrS,List.length_map];rfl) (fun h=>?_) (fun h=>?_) <;> (try simp only [vki,reduceCtorEq] at h))
    · have hlt:k < l.length:=by omega
      have e9:IntKind.wrap .i64 ((k:Int)+1)=((k+1:Nat):Int):=by rw [wrap64 (by omega) (by omega)];rfl
      obtain ⟨x,hx⟩:∃ x,l.getD k default=x:=⟨_,rfl⟩
      have hl1:=loK_succ hlt
      have hh1:=hiK_succ hlt
      rw [hx] at hl1 hh1
      repeat' (first|(apply nx;with_reducible constructor)|refine jq (by decide) ?_|((first|refine kz env fun Q hQ=>?_|refine kj fun Q hQ=>?_);simp only [vkt,seval,tbD5_near,xbD5_4,aBunk,aBunks,eBunk,gBunk,eCabin,gCabin,carC,rowT,lent2,nrS,List.length_map,hx,e9];(try simp only [ite_and]);(repeat' (first|with_reducible assumption|refine And.intro ?_ ?_|intro hp));all_goals (first|(refine hQ _ ?_;clear hQ Q)|(refine hQ _ (fun h=>?_) (fun h=>?_) <;> clear hQ Q <;> (try simp only [vki,reduceCtorEq] at h))|(refine kx ?_;kernel_rfl)|omega|assumption|with_reducible rfl|skip)))
      refine ⟨⟨k+1,hlt⟩,by show l.length - (k+1) < l.length - k;omega, ?_⟩
      simp only [hl1,hh1]
      (refine Le.ok some [] ?_;constructor;all_goals (try simp only [vle,vkt,seval,tbD5_near,xbD5_4,aBunk,aBunks,eBunk,gBunk,eCabin,gCabin,carC,rowT,lent2,nrS,List.length_map]))
      all_goals first|rfl|(simp;done)
    · have hke:k=l.length:=by omega
      subst hke
      obtain ⟨g1,g2,g3,g4⟩:=hbd l.length (Nat.le_refl _)
      obtain ⟨lo,hlo⟩:∃ x,loK l l.length=x:=⟨_,rfl⟩
      obtain ⟨hi,hhi⟩:∃ x,hiK l l.length=x:=⟨_,rfl⟩
      rw [hlo] at g1 g2
      rw [hhi] at g3 g4
      obtain ⟨x,hx⟩:∃ x,cs.getD lo.toNat default=x:=⟨_,rfl⟩
      have w1:IntKind.wrap .i64 (lo+1)=lo+1:=wrap64 (by omega) (by omega)
      simp only [hlo,hhi]
      by_cases c1:lo=hi
      · rw [show (decide (lo=hi) || (decide (lo+1=hi) && (cs.getD lo.toNat default).door))=true by simp [c1]]
        have d1:decide (lo=hi)=true:=decide_eq_true c1
        have d1':(lo == hi)=true:=by simpa using c1
        repeat' (first|(apply nx;with_reducible constructor)|refine jq (by decide) ?_|((first|refine kz env fun Q hQ=>?_|refine kj fun Q hQ=>?_);simp only [vkt,seval,tbD5_near,xbD5_4,aBunk,aBunks,eBunk,gBunk,eCabin,gCabin,carC,rowT,lent2,nrS,List.length_map,d1,d1',w1,hx,g1,g2];(try simp only [ite_and]);(repeat' (first|with_reducible assumption|refine And.intro ?_ ?_|intro hp));all_goals (first|(refine hQ _ ?_;clear hQ Q)|(refine hQ _ (fun h=>?_) (fun h=>?_) <;> clear hQ Q <;> (try simp only [vki,reduceCtorEq] at h))|(refine kx ?_;kernel_rfl)|omega|assumption|with_reducible rfl|skip)))
        (simp only [vrt,Try.results134,vkt,seval,tbD5_near,xbD5_4,aBunk,aBunks,eBunk,gBunk,eCabin,gCabin,carC,rowT,lent2,nrS,List.length_map];refine Fin.ok some [] ?_ ?_ ?_ ?_ ?_ rfl;all_goals (try simp only [vle,vkt,seval,tbD5_near,xbD5_4,aBunk,aBunks,eBunk,gBunk,eCabin,gCabin,carC,rowT,lent2,nrS,List.length_map]))
        all_goals first|rfl|(simp;done)
      · have d1:decide (lo=hi)=false:=decide_eq_false c1
        have d1':(lo == hi)=false:=by simpa using c1
        by_cases c2:lo+1=hi
        · rw [show (decide (lo=hi) || (decide (lo+1=hi) && (cs.getD lo.toNat default).door))=x.door by rw [d1,hx,decide_eq_true c2];simp]
          have d2:decide (lo+1=hi)=true:=decide_eq_true c2
          have d2':(lo+1 == hi)=true:=by simpa using c2
          repeat' (first|(apply nx;with_reducible constructor)|refine jq (by decide) ?_|((first|refine kz env fun Q hQ=>?_|refine kj fun Q hQ=>?_);simp only [vkt,seval,tbD5_near,xbD5_4,aBunk,aBunks,eBunk,gBunk,eCabin,gCabin,carC,rowT,lent2,nrS,List.length_map,d1,d1',d2,d2',w1,hx,g1,g2];(try simp only [ite_and]);(repeat' (first|with_reducible assumption|refine And.intro ?_ ?_|intro hp));all_goals (first|(refine hQ _ ?_;clear hQ Q)|(refine hQ _ (fun h=>?_) (fun h=>?_) <;> clear hQ Q <;> (try simp only [vki,reduceCtorEq] at h))|(refine kx ?_;kernel_rfl)|omega|assumption|with_reducible rfl|skip)))
          (simp only [vrt,Try.results134,vkt,seval,tbD5_near,xbD5_4,aBunk,aBunks,eBunk,gBunk,eCabin,gCabin,carC,rowT,lent2,nrS,List.length_map];refine Fin.ok some [] ?_ ?_ ?_ ?_ ?_ rfl;all_goals (try simp only [vle,vkt,seval,tbD5_near,xbD5_4,aBunk,aBunks,eBunk,gBunk,eCabin,gCabin,carC,rowT,lent2,nrS,List.length_map]))
          all_goals first|rfl|(simp;done)
        · rw [show (decide (lo=hi) || (decide (lo+1=hi) && (cs.getD lo.toNat default).door))=false by rw [d1,decide_eq_false c2];rfl]
          have d2:decide (lo+1=hi)=false:=decide_eq_false c2
          have d2':(lo+1 == hi)=false:=by simpa using c2
          repeat' (first|(apply nx;with_reducible constructor)|refine jq (by decide) ?_|((first|refine kz env fun Q hQ=>?_|refine kj fun Q hQ=>?_);simp only [vkt,seval,tbD5_near,xbD5_4,aBunk,aBunks,eBunk,gBunk,eCabin,gCabin,carC,rowT,lent2,nrS,List.length_map,d1,d1',d2,d2',w1,hx,g1,g2];(try simp only [ite_and]);(repeat' (first|with_reducible assumption|refine And.intro ?_ ?_|intro hp));all_goals (first|(refine hQ _ ?_;clear hQ Q)|(refine hQ _ (fun h=>?_) (fun h=>?_) <;> clear hQ Q <;> (try simp only [vki,reduceCtorEq] at h))|(refine kx ?_;kernel_rfl)|omega|assumption|with_reducible rfl|skip)))
          (simp only [vrt,Try.results134,vkt,seval,tbD5_near,xbD5_4,aBunk,aBunks,eBunk,gBunk,eCabin,gCabin,carC,rowT,lent2,nrS,List.length_map];refine Fin.ok some [] ?_ ?_ ?_ ?_ ?_ rfl;all_goals (try simp only [vle,vkt,seval,tbD5_near,xbD5_4,aBunk,aBunks,eBunk,gBunk,eCabin,gCabin,carC,rowT,lent2,nrS,List.length_map]))
          all_goals first|rfl|(simp;done)
end Go.Sym.B
namespace Go.Sym.B
open Go Go.Sym Go.Proofs Go.Sym.C
def tbE2_chance:=kk @ty3 @ti3.eq_1
def xbE2_1:=kk @aI.eq_1 (@aB.eq_1)
theorem chance_fn (x n m:Int) (h:0≤m∧m≤100000):Fn noB Try.prog 45 [.ptr 0 0,aI n,aI m] (hasg (bagH x)) (aB (decide (upV x (m - 1) < n))) (hasg (bagH (upS x (m - 1)))) 0:=by
  have env:Env (fun _=>True) Try.prog tyB (tab [(40,fnE pUp)]):=mkEnv ⟨eUp,trivial⟩
  refine Fn.of (A:=fun _=>True) (n0:=1) (D:=noD) (Fn0 Try.func45 rfl (fun vs w=>by kernel_rfl) (by kernel_rfl)) (by simp) (by simp [AV.ids,AV.idsL,aI]) ?_ (fun _ _ _ _=>trivial) noD_ok ?_
  · intro i o hi
    have h:=hasg_mem hi
    simp [bagH] at h
    rcases h with ⟨rfl,rfl⟩;simp [AObj.ids,AV.ids,AV.idsL]
  have h1:IntKind.wrap .i64 (m - 1)=m - 1:=wrap64 (by omega) (by omega)
  have h2:m - 1 < 9223372036854775807:=by omega
  repeat' (first|(apply nx;with_reducible constructor)|refine jq (by decide) ?_|((first|refine kz env fun Q hQ=>?_|refine kj fun Q hQ=>?_);simp only [vkt,seval,tbE2_chance,xbE2_1,bagH,pUp,h1,h2];(try simp only [ite_and]);(repeat' (first|with_reducible assumption|refine And.intro ?_ ?_|intro hp));all_goals (first|(refine hQ _ ?_;clear hQ Q)|(refine hQ _ (fun h=>?_) (fun h=>?_) <;> clear hQ Q <;> (try simp only [vki,reduceCtorEq] at h))|(refine kx ?_;kernel_rfl)|omega|assumption|with_reducible rfl|skip)))
  (simp only [vrt,Try.results45,vkt,seval,tbE2_chance,xbE2_1,bagH,pUp];refine Fin.ok some [] ?_ ?_ ?_ ?_ ?_ rfl;all_goals (try simp only [vle,vkt,seval,tbE2_chance,xbE2_1,bagH,pUp]))
  all_goals first|rfl|(simp;done)
noncomputable def pChance (S:St):List AV→Option Pk
  |[.ptr i 0,.v (.int .i64 n),.v (.int .i64 m)]=>match S.h i with
    |some (.cells [.v (.int .u64 x)])=>some { pre:=0≤m∧m≤100000,hs:=[i],ar:=[.ptr 0 0,.v (.int .i64 n),.v (.int .i64 m)],L0:=[.cells [.v (.int .u64 x)]],v:=.v (.bool (decide (upV x (m - 1) < n))),L1:=[some (.cells [.v (.int .u64 (upS x (m - 1)))])] }
    |_=>none
  |_=>none
theorem eChance {A:Frm→Prop}:EntryOK A Try.prog 45 (fnE pChance):=fnE_ok fun S bs q h hp=>by
  unfold pChance at h
  split at h
  · split at h
    · cases h;exact chance_fn _ _ _ hp
    · cases h
  · cases h
def tbE2_one:=kk @ty3 (kk @ty22 (kk @ti3.eq_1 @ti22.eq_1))
def xbE2_2:=kk @aI.eq_1 (kk @aB.eq_1 (kk @aInts.eq_1 (kk @eInt.eq_1 (@gInt))))
theorem one_fn (x:Int) (l:List Int) (h:0 < l.length∧l.length≤100000):Fn noB Try.prog 64 [.ptr 0 0,aInts l] (hasg (bagH x)) (aI (l.getD (upV x ((l.length:Int) - 1)).toNat 0)) (hasg (bagH (upS x ((l.length:Int) - 1)))) 0:=by
  have env:Env (fun _=>True) Try.prog tyB (tab [(40,fnE pUp)]):=mkEnv ⟨eUp,trivial⟩
  refine Fn.of (A:=fun _=>True) (n0:=1) (D:=noD) (Fn0 Try.func64 rfl (fun vs w=>by kernel_rfl) (by kernel_rfl)) (by simp) (by simp [AV.ids,AV.idsL,aInts]) ?_ (fun _ _ _ _=>trivial) noD_ok ?_
  · intro i o hi
    have h:=hasg_mem hi
    simp [bagH] at h
    rcases h with ⟨rfl,rfl⟩;simp [AObj.ids,AV.ids,AV.idsL]
  have h1:IntKind.wrap .i64 ((l.length:Int) - 1)=(l.length:Int) - 1:=wrap64 (by omega) (by omega)
  have h2:(l.length:Int) - 1 < 9223372036854775807:=by omega
  have hb:=upV_bd (x:=x) (m:=(l.length:Int) - 1) h2
  obtain ⟨i,hi⟩:∃ i:Nat,upV x ((l.length:Int) - 1)=i:=⟨(upV x ((l.length:Int) - 1)).toNat,by omega⟩
  rw [hi] at hb ⊢
  have i0:((i:Int)).toNat=i:=rfl
  have hil:i < l.length:=by omega
  have d0:decide ((l.length:Int)=0)=false:=decide_eq_false (by omega)
  obtain ⟨y,hy⟩:∃ y,l.getD i 0=y:=⟨_,rfl⟩
  rw [i0,hy]
  repeat' (first|(apply nx;with_reducible constructor)|refine jq (by decide) ?_|((first|refine kz env fun Q hQ=>?_|refine kj fun Q hQ=>?_);simp only [vkt,seval,tbE2_one,xbE2_2,bagH,pUp,List.length_map,h1,h2,hi,i0,hil,d0,hy];(try simp only [ite_and]);(repeat' (first|with_reducible assumption|refine And.intro ?_ ?_|intro hp));all_goals (first|(refine hQ _ ?_;clear hQ Q)|(refine hQ _ (fun h=>?_) (fun h=>?_) <;> clear hQ Q <;> (try simp only [vki,reduceCtorEq] at h))|(refine kx ?_;kernel_rfl)|omega|assumption|with_reducible rfl|skip)))
  (simp only [vrt,Try.results64,vkt,seval,tbE2_one,xbE2_2,bagH,pUp,List.length_map];refine Fin.ok some [] ?_ ?_ ?_ ?_ ?_ rfl;all_goals (try simp only [vle,vkt,seval,tbE2_one,xbE2_2,bagH,pUp,List.length_map]))
  all_goals first|rfl|(simp;done)
noncomputable def pOne (S:St):List AV→Option Pk
  |[.ptr i 0,.row r]=>match S.h i,S.h r with
    |some (.cells [.v (.int .u64 x)]),some (.row _ _ xs)=>some { pre:=xs=(xs.map dInt).map eInt∧0 < (xs.map dInt).length∧(xs.map dInt).length≤100000,hs:=[i],bo:=[r],ar:=[.ptr 0 0,.sl xs],L0:=[.cells [.v (.int .u64 x)]],v:=.v (.int .i64 ((xs.map dInt).getD (upV x (((xs.map dInt).length:Int) - 1)).toNat 0)),L1:=[some (.cells [.v (.int .u64 (upS x (((xs.map dInt).length:Int) - 1)))])] }
    |_,_=>none
  |_=>none
theorem eOne {A:Frm→Prop}:EntryOK A Try.prog 64 (fnE pOne):=fnE_ok fun S bs q h hp=>by
  unfold pOne at h
  split at h
  · split at h
    · cases h
      have:=one_fn (by assumption) _ hp.2
      rw [aInts,← hp.1] at this
      exact this
    · cases h
  · cases h
def badX (t x:Tk):Bool:=decide (x.cab=t.cab) && !decide (t.to≤x.frm) && !decide (x.to≤t.frm) && (decide (x.bed=t.bed) || (!decide (x.party=t.party) && (!decide (x.sex=t.sex) || x.dog || t.dog)))
def goesB (l:List Tk) (t:Tk):Bool:=!l.any (badX t)
theorem goes_hit {l:List Tk} {t:Tk} {k:Nat} (hk:k < l.length) (h:badX t (l.getD k default)=true):goesB l t=false:=by
  unfold goesB
  rw [List.any_eq_true.2 ⟨_,gMem hk,h⟩];rfl
theorem goes_none {l:List Tk} {t:Tk} (h:∀ j,j < l.length→badX t (l.getD j default)=false):goesB l t=true:=by
  unfold goesB
  rw [show l.any (badX t)=false from List.any_eq_false.2 fun x hx=>?_]
  · rfl
  · obtain ⟨j,hj,rfl⟩:=List.mem_iff_getElem.1 hx
    have:=h j hj
    rw [show l.getD j default=l[j] by simp [List.getD_eq_getElem?_getD,hj]] at this
    rw [this];simp
def goS (l:List Tk) (t:Tk) (k:Nat):St:={ t:=asg [(0,aTks l),(3,.ptr 0 0),(4,aB false),(5,aI k)],h:=hasg [(0,.cells (cTk t))],n:=1 }
def tbE2_goes:=kk @ty3 (kk @ty4 (kk @ty26 (kk @ty49 (kk @ty81 (kk @ti3.eq_1 (kk @ti4.eq_1 (kk @ti26.eq_1 (kk @ti49.eq_1 @ti81.eq_1))))))))
def xbE2_3:=kk @aI.eq_1 (@aB.eq_1)
set_option maxHeartbeats 1000000 in
theorem goes_fn (l:List Tk) (t:Tk) (hl:l.length≤100):FnV Try.prog 65 [aTks l,aTk t] (aB (goesB l t)):=by
  have env:Env (fun _=>True) Try.prog tyB (tab []):=mkEnv trivial
  refine Fn.of (A:=fun _=>True) (n0:=0) (D:=noD) (Fn0 Try.func65 rfl (fun vs w=>by kernel_rfl) (by kernel_rfl)) (by simp) (by simp [AV.ids,AV.idsL,aTks,aTk,cTk]) (fun i o h=>by cases h) (fun _ _ _ _=>trivial) noD_ok ?_
  repeat' (first|(apply nx;with_reducible constructor)|refine jq (by decide) ?_|((first|refine kz env fun Q hQ=>?_|refine kj fun Q hQ=>?_);simp only [vkt,seval,tbE2_goes,xbE2_3,aTk,cTk,aTks,eTk,gTk,goS,List.length_map];(try simp only [ite_and]);(repeat' (first|with_reducible assumption|refine And.intro ?_ ?_|intro hp));all_goals (first|(refine hQ _ ?_;clear hQ Q)|(refine hQ _ (fun h=>?_) (fun h=>?_) <;> clear hQ Q <;> (try simp only [vki,reduceCtorEq] at h))|(refine kx ?_;kernel_rfl)|omega|assumption|with_reducible rfl|skip)))
  refine sym_loop (fun k:{ k:Nat // k≤l.length∧∀ j,j < k→badX t (l.getD j default)=false }=>goS l t k.1) (fun k=>l.length - k.1) ⟨0,Nat.zero_le _,fun j h=>absurd h (Nat.not_lt_zero _)⟩ ?_ fun ⟨k,hk,hno⟩=>?_
  · (refine Le.ok some [] ?_;constructor;all_goals (try simp only [vle,vkt,seval,tbE2_goes,xbE2_3,aTk,cTk,aTks,eTk,gTk,goS,List.length_map]))
    all_goals first|rfl|(simp;done)
  simp only at hk hno ⊢
  by_cases hkl:k < l.length
  · have d1:decide ((k:Int) < (l.length:Int))=true:=decide_eq_true (by omega)
    have e9:IntKind.wrap .i64 ((k:Int)+1)=((k+1:Nat):Int):=by rw [wrap64 (by omega) (by omega)];rfl
    have i0:((k:Int)).toNat=k:=rfl
    obtain ⟨x,hx⟩:∃ x,l.getD k default=x:=⟨_,rfl⟩
    have nxt:badX t x=false→∀ S,Le S (goS l t (k+1))→∃ y:{ k:Nat // k≤l.length∧∀ j,j < k→badX t (l.getD j default)=false },(l.length - y.1 < l.length - k)∧Le S (goS l t y.1):=fun hb S hS=>⟨⟨k+1,hkl,fun j hj=>by
      rcases Nat.lt_or_eq_of_le (Nat.le_of_lt_succ hj) with h1|h1
      · exact hno j h1
      · rw [h1,hx];exact hb⟩,by show l.length - (k+1) < l.length - k;omega,hS⟩
    have fin:badX t x=true→goesB l t=false:=fun hb=>goes_hit hkl (by rw [hx];exact hb)
    have hbx:badX t x=(decide (x.cab=t.cab) && !decide (t.to≤x.frm) && !decide (x.to≤t.frm) && (decide (x.bed=t.bed) || (!decide (x.party=t.party) && (!decide (x.sex=t.sex) || x.dog || t.dog)))):=rfl
    cases q1:decide (x.cab=t.cab)
    · repeat' (first|(apply nx;with_reducible constructor)|refine jq (by decide) ?_|((first|refine kz env fun Q hQ=>?_|refine kj fun Q hQ=>?_);simp only [vkt,seval,tbE2_goes,xbE2_3,aTk,cTk,aTks,eTk,gTk,goS,List.length_map,d1,e9,i0,hkl,hx,q1,Bool.not_false];(try simp only [ite_and]);(repeat' (first|with_reducible assumption|refine And.intro ?_ ?_|intro hp));all_goals (first|(refine hQ _ ?_;clear hQ Q)|(refine hQ _ (fun h=>?_) (fun h=>?_) <;> clear hQ Q <;> (try simp only [vki,reduceCtorEq] at h))|(refine kx ?_;kernel_rfl)|omega|assumption|with_reducible rfl|skip)))
      refine nxt (by rw [hbx,q1];rfl) _ ?_
      (refine Le.ok some [] ?_;constructor;all_goals (try simp only [vle,vkt,seval,tbE2_goes,xbE2_3,aTk,cTk,aTks,eTk,gTk,goS,List.length_map]))
      all_goals first|rfl|(simp;done)
    cases q2:decide (t.to≤x.frm)
    case true =>
      repeat' (first|(apply nx;with_reducible constructor)|refine jq (by decide) ?_|((first|refine kz env fun Q hQ=>?_|refine kj fun Q hQ=>?_);simp only [vkt,seval,tbE2_goes,xbE2_3,aTk,cTk,aTks,eTk,gTk,goS,List.length_map,d1,e9,i0,hkl,hx,q1,q2,Bool.not_true];(try simp only [ite_and]);(repeat' (first|with_reducible assumption|refine And.intro ?_ ?_|intro hp));all_goals (first|(refine hQ _ ?_;clear hQ Q)|(refine hQ _ (fun h=>?_) (fun h=>?_) <;> clear hQ Q <;> (try simp only [vki,reduceCtorEq] at h))|(refine kx ?_;kernel_rfl)|omega|assumption|with_reducible rfl|skip)))
      refine nxt (by rw [hbx,q1,q2];rfl) _ ?_
      (refine Le.ok some [] ?_;constructor;all_goals (try simp only [vle,vkt,seval,tbE2_goes,xbE2_3,aTk,cTk,aTks,eTk,gTk,goS,List.length_map]))
      all_goals first|rfl|(simp;done)
    cases q3:decide (x.to≤t.frm)
    case true =>
      repeat' (first|(apply nx;with_reducible constructor)|refine jq (by decide) ?_|((first|refine kz env fun Q hQ=>?_|refine kj fun Q hQ=>?_);simp only [vkt,seval,tbE2_goes,xbE2_3,aTk,cTk,aTks,eTk,gTk,goS,List.length_map,d1,e9,i0,hkl,hx,q1,q2,q3,Bool.not_true];(try simp only [ite_and]);(repeat' (first|with_reducible assumption|refine And.intro ?_ ?_|intro hp));all_goals (first|(refine hQ _ ?_;clear hQ Q)|(refine hQ _ (fun h=>?_) (fun h=>?_) <;> clear hQ Q <;> (try simp only [vki,reduceCtorEq] at h))|(refine kx ?_;kernel_rfl)|omega|assumption|with_reducible rfl|skip)))
      refine nxt (by rw [hbx,q1,q2,q3];rfl) _ ?_
      (refine Le.ok some [] ?_;constructor;all_goals (try simp only [vle,vkt,seval,tbE2_goes,xbE2_3,aTk,cTk,aTks,eTk,gTk,goS,List.length_map]))
      all_goals first|rfl|(simp;done)
    cases q4:decide (x.bed=t.bed)
    case true =>
      rw [fin (by rw [hbx,q1,q2,q3,q4];rfl)]
      repeat' (first|(apply nx;with_reducible constructor)|refine jq (by decide) ?_|((first|refine kz env fun Q hQ=>?_|refine kj fun Q hQ=>?_);simp only [vkt,seval,tbE2_goes,xbE2_3,aTk,cTk,aTks,eTk,gTk,goS,List.length_map,d1,e9,i0,hkl,hx,q1,q2,q3,q4,Bool.not_true];(try simp only [ite_and]);(repeat' (first|with_reducible assumption|refine And.intro ?_ ?_|intro hp));all_goals (first|(refine hQ _ ?_;clear hQ Q)|(refine hQ _ (fun h=>?_) (fun h=>?_) <;> clear hQ Q <;> (try simp only [vki,reduceCtorEq] at h))|(refine kx ?_;kernel_rfl)|omega|assumption|with_reducible rfl|skip)))
      (simp only [vrt,Try.results65,vkt,seval,tbE2_goes,xbE2_3,aTk,cTk,aTks,eTk,gTk,goS,List.length_map];refine Fin.val rfl ?_;(try simp only [AV.le,AV.leL]))
      all_goals first|rfl|(simp;done)
    cases q5:decide (x.party=t.party)
    case true =>
      repeat' (first|(apply nx;with_reducible constructor)|refine jq (by decide) ?_|((first|refine kz env fun Q hQ=>?_|refine kj fun Q hQ=>?_);simp only [vkt,seval,tbE2_goes,xbE2_3,aTk,cTk,aTks,eTk,gTk,goS,List.length_map,d1,e9,i0,hkl,hx,q1,q2,q3,q4,q5,Bool.not_true];(try simp only [ite_and]);(repeat' (first|with_reducible assumption|refine And.intro ?_ ?_|intro hp));all_goals (first|(refine hQ _ ?_;clear hQ Q)|(refine hQ _ (fun h=>?_) (fun h=>?_) <;> clear hQ Q <;> (try simp only [vki,reduceCtorEq] at h))|(refine kx ?_;kernel_rfl)|omega|assumption|with_reducible rfl|skip)))
      refine nxt (by rw [hbx,q1,q2,q3,q4,q5];rfl) _ ?_
      (refine Le.ok some [] ?_;constructor;all_goals (try simp only [vle,vkt,seval,tbE2_goes,xbE2_3,aTk,cTk,aTks,eTk,gTk,goS,List.length_map]))
      all_goals first|rfl|(simp;done)
    cases q6:decide (x.sex=t.sex)
    · rw [fin (by rw [hbx,q1,q2,q3,q4,q5,q6];rfl)]
      repeat' (first|(apply nx;with_reducible constructor)|refine jq (by decide) ?_|((first|refine kz env fun Q hQ=>?_|refine kj fun Q hQ=>?_);simp only [vkt,seval,tbE2_goes,xbE2_3,aTk,cTk,aTks,eTk,gTk,goS,List.length_map,d1,e9,i0,hkl,hx,q1,q2,q3,q4,q5,q6,Bool.not_true,Bool.not_false];(try simp only [ite_and]);(repeat' (first|with_reducible assumption|refine And.intro ?_ ?_|intro hp));all_goals (first|(refine hQ _ ?_;clear hQ Q)|(refine hQ _ (fun h=>?_) (fun h=>?_) <;> clear hQ Q <;> (try simp only [vki,reduceCtorEq] at h))|(refine kx ?_;kernel_rfl)|omega|assumption|with_reducible rfl|skip)))
      (simp only [vrt,Try.results65,vkt,seval,tbE2_goes,xbE2_3,aTk,cTk,aTks,eTk,gTk,goS,List.length_map];refine Fin.val rfl ?_;(try simp only [AV.le,AV.leL]))
      all_goals first|rfl|(simp;done)
    cases q7:x.dog
    case true =>
      rw [fin (by rw [hbx,q1,q2,q3,q4,q5,q6,q7];rfl)]
      repeat' (first|(apply nx;with_reducible constructor)|refine jq (by decide) ?_|((first|refine kz env fun Q hQ=>?_|refine kj fun Q hQ=>?_);simp only [vkt,seval,tbE2_goes,xbE2_3,aTk,cTk,aTks,eTk,gTk,goS,List.length_map,d1,e9,i0,hkl,hx,q1,q2,q3,q4,q5,q6,q7,Bool.not_true,Bool.not_false];(try simp only [ite_and]);(repeat' (first|with_reducible assumption|refine And.intro ?_ ?_|intro hp));all_goals (first|(refine hQ _ ?_;clear hQ Q)|(refine hQ _ (fun h=>?_) (fun h=>?_) <;> clear hQ Q <;> (try simp only [vki,reduceCtorEq] at h))|(refine kx ?_;kernel_rfl)|omega|assumption|with_reducible rfl|skip)))
      (simp only [vrt,Try.results65,vkt,seval,tbE2_goes,xbE2_3,aTk,cTk,aTks,eTk,gTk,goS,List.length_map];refine Fin.val rfl ?_;(try simp only [AV.le,AV.leL]))
      all_goals first|rfl|(simp;done)
    cases q8:t.dog
    · repeat' (first|(apply nx;with_reducible constructor)|refine jq (by decide) ?_|((first|refine kz env fun Q hQ=>?_|refine kj fun Q hQ=>?_);simp only [vkt,seval,tbE2_goes,xbE2_3,aTk,cTk,aTks,eTk,gTk,goS,List.length_map,d1,e9,i0,hkl,hx,q1,q2,q3,q4,q5,q6,q7,q8,Bool.not_true,Bool.not_false];(try simp only [ite_and]);(repeat' (first|with_reducible assumption|refine And.intro ?_ ?_|intro hp));all_goals (first|(refine hQ _ ?_;clear hQ Q)|(refine hQ _ (fun h=>?_) (fun h=>?_) <;> clear hQ Q <;> (try simp only [vki,reduceCtorEq] at h))|(refine kx ?_;kernel_rfl)|omega|assumption|with_reducible rfl|skip)))
      refine nxt (by rw [hbx,q1,q2,q3,q4,q5,q6,q7,q8];rfl) _ ?_
      (refine Le.ok some [] ?_;constructor;all_goals (try simp only [vle,vkt,seval,tbE2_goes,xbE2_3,aTk,cTk,aTks,eTk,gTk,goS,List.length_map]))
      all_goals first|rfl|(simp [q8];done)
    · rw [fin (by rw [hbx,q1,q2,q3,q4,q5,q6,q7,q8];rfl)]
      repeat' (first|(apply nx;with_reducible constructor)|refine jq (by decide) ?_|((first|refine kz env fun Q hQ=>?_|refine kj fun Q hQ=>?_);simp only [vkt,seval,tbE2_goes,xbE2_3,aTk,cTk,aTks,eTk,gTk,goS,List.length_map,d1,e9,i0,hkl,hx,q1,q2,q3,q4,q5,q6,q7,q8,Bool.not_true,Bool.not_false];(try simp only [ite_and]);(repeat' (first|with_reducible assumption|refine And.intro ?_ ?_|intro hp));all_goals (first|(refine hQ _ ?_;clear hQ Q)|(refine hQ _ (fun h=>?_) (fun h=>?_) <;> clear hQ Q <;> (try simp only [vki,reduceCtorEq] at h))|(refine kx ?_;kernel_rfl)|omega|assumption|with_reducible rfl|skip)))
      (simp only [vrt,Try.results65,vkt,seval,tbE2_goes,xbE2_3,aTk,cTk,aTks,eTk,gTk,goS,List.length_map];refine Fin.val rfl ?_;(try simp only [AV.le,AV.leL]))
      all_goals first|rfl|(simp;done)
  · have d1:decide ((k:Int) < (l.length:Int))=false:=decide_eq_false (by omega)
    rw [goes_none (fun j hj=>hno j (by omega))]
    repeat' (first|(apply nx;with_reducible constructor)|refine jq (by decide) ?_|((first|refine kz env fun Q hQ=>?_|refine kj fun Q hQ=>?_);simp only [vkt,seval,tbE2_goes,xbE2_3,aTk,cTk,aTks,eTk,gTk,goS,List.length_map,d1];(try simp only [ite_and]);(repeat' (first|with_reducible assumption|refine And.intro ?_ ?_|intro hp));all_goals (first|(refine hQ _ ?_;clear hQ Q)|(refine hQ _ (fun h=>?_) (fun h=>?_) <;> clear hQ Q <;> (try simp only [vki,reduceCtorEq] at h))|(refine kx ?_;kernel_rfl)|omega|assumption|with_reducible rfl|skip)))
    (simp only [vrt,Try.results65,vkt,seval,tbE2_goes,xbE2_3,aTk,cTk,aTks,eTk,gTk,goS,List.length_map];refine Fin.val rfl ?_;(try simp only [AV.le,AV.leL]))
    all_goals first|rfl|(simp;done)
def sgoes:List AV→Prop × AV
  |[.sl l,.agg [.v (.int .i64 t0),.v (.int .i64 t1),.v (.int .i64 t2),.v (.int .i64 t3),.v (.int .i64 t4),.v (.int .i64 t5),.v (.bool t6)]]=>(l=(l.map dTk).map eTk∧(l.map dTk).length≤100,aB (goesB (l.map dTk) (⟨t0,t1,t2,t3,t4,t5,t6⟩:Tk)))
  |_=>(False,.junk)
theorem egoes {A:Frm→Prop}:EntryOK A Try.prog 65 (valE true sgoes):=valE_ok fun vs hv h=>by
  clear hv
  unfold sgoes at h ⊢
  split at h
  · rename_i l t0 t1 t2 t3 t4 t5 t6;obtain ⟨q0,k0⟩:=h
    refine ⟨by first|trivial|(simp [AV.plain,AV.plainL,aI,aB,aInts,aBunks,aTks,aBunk,aTk,cTk];done)|(repeat' split) <;> simp [AV.plain,AV.plainL,aI,aB,aInts,aBunks,aTks,aBunk,aTk,cTk],fun _=>(by simp [AV.flat,AV.flatL,aI,aB]), ?_⟩
    have:=goes_fn (l.map dTk) (⟨t0,t1,t2,t3,t4,t5,t6⟩:Tk) k0
    simp only [aB,aI,aTk,aTks,cTk,← q0] at this
    first|exact this|(simp only [aB,aI,aTk,aTks,cTk,← q0];exact this)
  · exact h.elim
end Go.Sym.B
namespace Go.Sym.B
open Go Go.Sym Go.Proofs Go.Sym.C
theorem dI1 (a:Int):dInt [.v (.int .i64 a)]=a:=rfl
noncomputable def cabS (x:Int):Nat→List Cabin × Int
  |0=>([],x)
  |k+1=>((cabS x k).1++[⟨1+upV (cabS x k).2 2,decide (upV (upS (cabS x k).2 2) 2 < 2)⟩],upS (upS (cabS x k).2 2) 2)
noncomputable def pA (p s:Int):Int × Int:=if p=0 then (p+(1+upV s 2),upS s 2) else if upV s 3 < 1 then (p,upS s 3) else (p+(1+upV (upS s 3) 2),upS (upS s 3) 2)
noncomputable def tkNew (cs:List Cabin) (secs p s1:Int):Tk × Int :=
  let n:=upV s1 ((cs.length:Int) - 1)
  let s2:=upS s1 ((cs.length:Int) - 1)
  let s3:=upS s2 1
  let b:=(cs.getD n.toNat default).beds
  let s4:=upS s3 (b - 1)
  let f:=upV s4 (secs - 1)
  let s5:=upS s4 (secs - 1)
  let s6:=upS s5 7
  (⟨p,([1,2]:List Int).getD (upV s2 1).toNat 0,n,upV s3 (b - 1),f,f+1+upV s6 (secs - (f+1)),decide (upV s5 7 < 1)⟩,upS s6 (secs - (f+1)))
noncomputable def tkK (cs:List Cabin) (secs x:Int):Nat→Int × List Tk × Int
  |0=>(0,[],x)
  |k+1=>((pA (tkK cs secs x k).1 (tkK cs secs x k).2.2).1,if goesB (tkK cs secs x k).2.1 (tkNew cs secs (pA (tkK cs secs x k).1 (tkK cs secs x k).2.2).1 (pA (tkK cs secs x k).1 (tkK cs secs x k).2.2).2).1 then (tkK cs secs x k).2.1++[(tkNew cs secs (pA (tkK cs secs x k).1 (tkK cs secs x k).2.2).1 (pA (tkK cs secs x k).1 (tkK cs secs x k).2.2).2).1] else (tkK cs secs x k).2.1,
      (tkNew cs secs (pA (tkK cs secs x k).1 (tkK cs secs x k).2.2).1 (pA (tkK cs secs x k).1 (tkK cs secs x k).2.2).2).2)
noncomputable def coSec (x g:Int):Int:=1+upV x (g - 1)
noncomputable def coX1 (x g:Int):Int:=upS x (g - 1)
noncomputable def coCab (x g a:Int):List Cabin × Int:=cabS (upS (coX1 x g) (a - 1)) (1+upV (coX1 x g) (a - 1)).toNat
noncomputable def coTk (x g a s:Int):Int × List Tk × Int:=tkK (coCab x g a).1 (coSec x g) (upS (coCab x g a).2 s) (upV (coCab x g a).2 s).toNat
noncomputable def coC (x a g s:Int):Chart:=⟨(coCab x g a).1,coSec x g,(coTk x g a s).2.1⟩
noncomputable def coX (x a g s:Int):Int:=(coTk x g a s).2.2
theorem up2 (x:Int) {m:Int} (h0:0≤m) (h:m≤100000):0≤upV x m∧upV x m≤m:=by
  have:=upV_bd (x:=x) (m:=m) (by omega)
  omega
theorem pA_cases {p s p1 s1:Int} (h:pA p s=(p1,s1)) (hp:0≤p∧p≤1000) :
    ∃ (b:Bool) (sB:Int),((decide (p=0)=true∧True∧b=true∧sB=s)∨(decide (p=0)=false∧decide (upV s 3 < 1)=!b∧True∧sB=upS s 3))∧((b=true∧IntKind.wrap .i64 (p+(1+upV sB 2))=p1∧upS sB 2=s1)∨(b=false∧p=p1∧sB=s1)):=by
  unfold pA at h
  split at h
  · rename_i h0
    have:=up2 s (m:=2) (by omega) (by omega)
    cases h
    exact ⟨true,s,.inl ⟨decide_eq_true h0,trivial,rfl,rfl⟩,.inl ⟨rfl,wrap64 (by omega) (by omega),rfl⟩⟩
  · rename_i h0
    split at h
    · rename_i h1
      cases h
      exact ⟨false,upS s 3,.inr ⟨decide_eq_false h0,decide_eq_true h1,trivial,rfl⟩,.inr ⟨rfl,rfl,rfl⟩⟩
    · rename_i h1
      have:=up2 (upS s 3) (m:=2) (by omega) (by omega)
      cases h
      exact ⟨true,upS s 3,.inr ⟨decide_eq_false h0,decide_eq_false h1,trivial,rfl⟩,.inl ⟨rfl,wrap64 (by omega) (by omega),rfl⟩⟩
theorem pA_bd {p s:Int} (hp:0≤p):p≤(pA p s).1∧1≤(pA p s).1∧(pA p s).1≤p+3:=by
  have h1:=up2 s (m:=2) (by omega) (by omega)
  have h2:=up2 (upS s 3) (m:=2) (by omega) (by omega)
  unfold pA
  split
  · simp only;omega
  · split
    · simp only;omega
    · simp only;omega
theorem tkK_bd (cs:List Cabin) (secs x:Int):∀ k,0≤(tkK cs secs x k).1∧(tkK cs secs x k).1≤3 * k∧(tkK cs secs x k).2.1.length≤k
  |0=>⟨Int.le_refl _,Int.le_refl _,Nat.le_refl _⟩
  |k+1=>by
    obtain ⟨h1,h2,h3⟩:=tkK_bd cs secs x k
    have h4:=pA_bd (s:=(tkK cs secs x k).2.2) h1
    rw [tkK]
    refine ⟨by simp only;omega,by simp only;omega, ?_⟩
    simp only
    split
    · rw [List.length_append,List.length_singleton];omega
    · omega
theorem cabS_bd (x:Int):∀ k,(cabS x k).1.length=k∧∀ c ∈ (cabS x k).1,1≤c.beds∧c.beds≤3
  |0=>⟨rfl,by simp [cabS]⟩
  |k+1=>by
    obtain ⟨h1,h2⟩:=cabS_bd x k
    have h3:=up2 (cabS x k).2 (m:=2) (by omega) (by omega)
    rw [cabS]
    refine ⟨by simp [h1],fun c hc=>?_⟩
    rcases List.mem_append.1 hc with hc|hc
    · exact h2 c hc
    · rw [List.mem_singleton.1 hc];simp only;omega
def coA (secs s m:Int) (i:Nat) (cs:List Cabin):St:={ t:=asg [(0,.ptr 0 0),(3,aI m),(8,.ptr 1 0),(9,.ptr 2 0),(10,aI i)],h:=hasg [(0,.cells [.v (.int .u64 s)]),(1,.cells [.nil,aI 0,.nil]),(2,.cells [.row 3,aI secs,.nil]),(3,.row 51 2 (cs.map eCabin))],n:=4,m:=1 }
def coB (cs:List Cabin) (secs s p:Int) (i:Nat) (l:List Tk):St:={ t:=asg [(0,.ptr 0 0),(8,.ptr 1 0),(9,.ptr 2 0),(11,aI p),(12,aI i)],h:=hasg [(0,.cells [.v (.int .u64 s)]),(1,.cells [.nil,aI 0,.nil]),(2,.cells [.row 3,aI secs,.row 4]),(3,.row 51 2 (cs.map eCabin)),(4,.row 81 7 (l.map eTk))],n:=5,m:=1 }
def coM (cs:List Cabin) (secs s p:Int) (i:Nat) (l:List Tk) (T:List (Nat × AV)) (O:List (Nat × AObj)) (n:Nat):St:={ t:=asg (T++[(0,.ptr 0 0),(8,.ptr 1 0),(9,.ptr 2 0),(11,aI p),(12,aI i)]),h:=hasg ([(0,.cells [.v (.int .u64 s)]),(1,.cells [.nil,aI 0,.nil]),(2,.cells [.row 3,aI secs,.row 4]),(3,.row 51 2 (cs.map eCabin)),(4,.row 81 7 (l.map eTk))]++O),n:=n,m:=1 }
def tbE3_chartOf:=kk @ty3 (kk @ty22 (kk @ty25 (kk @ty26 (kk @ty28 (kk @ty49 (kk @ty51 (kk @ty81 (kk @ti3.eq_1 (kk @ti22.eq_1 (kk @ti25.eq_1 (kk @ti26.eq_1 (kk @ti28.eq_1 (kk @ti49.eq_1 (kk @ti51.eq_1 @ti81.eq_1))))))))))))))
def xbE3_1:=kk @aI.eq_1 (kk @aB.eq_1 (@eInt.eq_1))
set_option maxHeartbeats 4000000 in
theorem chartOf_fn (x a g s:Int) (ha:1≤a∧a≤3) (hg:1≤g∧g≤5) (hs:0≤s∧s≤8):Fn noB Try.prog 16 [.ptr 0 0,aI a,aI g,aI s] (hasg (bagH x)) (aChart (coC x a g s)) (hasg (bagH (coX x a g s))) 0:=by
  have env:Env (fun _=>True) Try.prog tyB (tab [(37,fnE pFrom),(40,fnE pUp),(45,fnE pChance),(64,fnE pOne),(65,valE true sgoes)]):=mkEnv ⟨eFrom,eUp,eChance,eOne,egoes,trivial⟩
  refine Fn.of (A:=fun _=>True) (n0:=1) (D:=noD) (Fn0 Try.func16 rfl (fun vs w=>by kernel_rfl) (by kernel_rfl)) (by simp) (by simp [AV.ids,AV.idsL,aI]) ?_ (fun _ _ _ _=>trivial) noD_ok ?_
  · intro i o hi
    have h:=hasg_mem hi
    simp [bagH] at h
    rcases h with ⟨rfl,rfl⟩;simp [AObj.ids,AV.ids,AV.idsL]
  have m1:min g 5=g:=by omega
  have m2:min a 3=a:=by omega
  have m3:min s 8=s:=by omega
  have hmx:(100000:Nat)≤maxLen:=by decide
  have hsc:=up2 x (m:=g - 1) (by omega) (by omega)
  have hx1:upS x (g - 1)=coX1 x g:=rfl
  have hsb:1≤coSec x g∧coSec x g≤5:=by unfold coSec;omega
  have hcs:1+upV x (g - 1)=coSec x g:=rfl
  have hnc:=up2 (coX1 x g) (m:=a - 1) (by omega) (by omega)
  obtain ⟨nc,hnc1⟩:∃ nc:Nat,1+upV (coX1 x g) (a - 1)=nc:=⟨(1+upV (coX1 x g) (a - 1)).toNat,by omega⟩
  obtain ⟨y,hy⟩:∃ y,upS (coX1 x g) (a - 1)=y:=⟨_,rfl⟩
  have hcc:coCab x g a=cabS y nc:=by unfold coCab;rw [hy,hnc1];rfl
  have hcb:=cabS_bd y
  have hnt:=up2 (cabS y nc).2 (m:=s) (by omega) (by omega)
  obtain ⟨nt,hnt1⟩:∃ nt:Nat,upV (cabS y nc).2 s=nt:=⟨(upV (cabS y nc).2 s).toNat,by omega⟩
  obtain ⟨z,hz⟩:∃ z,upS (cabS y nc).2 s=z:=⟨_,rfl⟩
  have htk:coTk x g a s=tkK (cabS y nc).1 (coSec x g) z nt:=by unfold coTk;rw [hcc,hz,hnt1];rfl
  unfold coC coX
  rw [hcc,htk]
  obtain ⟨S,hS⟩:∃ S,coSec x g=S:=⟨_,rfl⟩
  rw [hS] at hsb hcs ⊢
  obtain ⟨X1,hX1⟩:∃ X1,coX1 x g=X1:=⟨_,rfl⟩
  rw [hX1] at hx1 hnc1 hy hnc
  have hal:-100000≤(1:Int):=by decide
  have b1:g≤100000:=by omega
  have b2:a≤100000:=by omega
  have b3:-100000≤g:=by omega
  have b4:-100000≤a:=by omega
  have b5:s < 9223372036854775807:=by omega
  show Sym _ _ _ (startS [.ptr 0 0,aI a,aI g,aI s] 1 (hasg [(0,.cells [.v (.int .u64 x)])])) (retK tyB noD Try.f16 fun S' rv=>Fin S' rv _ 1 (hasg [(0,.cells [.v (.int .u64 (tkK (cabS y nc).1 S z nt).2.2)])]) 0)
  repeat' (first|(apply nx;with_reducible constructor)|refine jq (by decide) ?_|((first|refine kz env fun Q hQ=>?_|refine kj fun Q hQ=>?_);simp only [vkt,seval,tbE3_chartOf,xbE3_1,aTk,cTk,aTks,eTk,gTk,rTk,mTk,eCabin,gCabin,rCabin,dI1,bagH,aChart,cChart,coA,coB,coM,pFrom,pUp,pChance,pOne,sgoes,List.length_map,List.map_cons,List.map_nil,m1,m2,hcs,hx1,hnc1,hy];(try simp only [ite_and]);(repeat' (first|with_reducible assumption|refine And.intro ?_ ?_|intro hp));all_goals (first|(refine hQ _ ?_;clear hQ Q)|(refine hQ _ (fun h=>?_) (fun h=>?_) <;> clear hQ Q <;> (try simp only [vki,reduceCtorEq] at h))|(refine kx ?_;kernel_rfl)|omega|assumption|with_reducible rfl|skip)))
  refine sym_loop (fun k:{ k:Nat // k≤nc }=>coA S (cabS y k.1).2 s (nc - k.1) (cabS y k.1).1) (fun k=>nc - k.1) ⟨0,Nat.zero_le _⟩ ?_ fun ⟨k,hk⟩=>?_
  · (refine Le.ok (fun i=>if i=3 then none else some i) [] ?_;constructor;all_goals (try simp only [vle,vkt,seval,tbE3_chartOf,xbE3_1,aTk,cTk,aTks,eTk,gTk,rTk,mTk,eCabin,gCabin,rCabin,dI1,bagH,aChart,cChart,coA,coB,coM,pFrom,pUp,pChance,pOne,sgoes,List.length_map,List.map_cons,List.map_nil]))
    all_goals first|rfl|(simp [cabS];done)|(intro i hi;rw [if_neg (by omega)];done)
  simp only at hk ⊢
  by_cases hkl:k < nc
  · have d1:decide ((0:Int) < ((nc - k:Nat):Int))=true:=decide_eq_true (by omega)
    have w1:IntKind.wrap .i64 (((nc - k:Nat):Int) - 1)=((nc - (k+1):Nat):Int):=by rw [wrap64 (by omega) (by omega)];omega
    have hl:=(hcb k).1
    have hl1:(cabS y k).1.length+1≤maxLen:=by omega
    have hS1:(cabS y (k+1)).1=(cabS y k).1++[⟨1+upV (cabS y k).2 2,decide (upV (upS (cabS y k).2 2) 2 < 2)⟩]:=by rw [cabS]
    have hS2:(cabS y (k+1)).2=upS (upS (cabS y k).2 2) 2:=by rw [cabS]
    repeat' (first|(apply nx;with_reducible constructor)|refine jq (by decide) ?_|((first|refine kz env fun Q hQ=>?_|refine kj fun Q hQ=>?_);simp only [vkt,seval,tbE3_chartOf,xbE3_1,aTk,cTk,aTks,eTk,gTk,rTk,mTk,eCabin,gCabin,rCabin,dI1,bagH,aChart,cChart,coA,coB,coM,pFrom,pUp,pChance,pOne,sgoes,List.length_map,List.map_cons,List.map_nil,d1,w1,hl1];(try simp only [ite_and]);(repeat' (first|with_reducible assumption|refine And.intro ?_ ?_|intro hp));all_goals (first|(refine hQ _ ?_;clear hQ Q)|(refine hQ _ (fun h=>?_) (fun h=>?_) <;> clear hQ Q <;> (try simp only [vki,reduceCtorEq] at h))|(refine kx ?_;kernel_rfl)|omega|assumption|with_reducible rfl|skip)))
    refine ⟨⟨k+1,hkl⟩,by show nc - (k+1) < nc - k;omega, ?_⟩
    show Le _ (coA S (cabS y (k+1)).2 s (nc - (k+1)) (cabS y (k+1)).1)
    rw [hS1,hS2]
    (refine Le.ok (fun i=>if i=3 then some 5 else some i) [] ?_;constructor;all_goals (try simp only [vle,vkt,seval,tbE3_chartOf,xbE3_1,aTk,cTk,aTks,eTk,gTk,rTk,mTk,eCabin,gCabin,rCabin,dI1,bagH,aChart,cChart,coA,coB,coM,pFrom,pUp,pChance,pOne,sgoes,List.length_map,List.map_cons,List.map_nil]))
    all_goals first|rfl|(rw [List.map_append];rfl)|(simp;done)|(intro i hi;rw [if_neg (by omega)];done)
  · have d1:decide ((0:Int) < ((nc - k:Nat):Int))=false:=decide_eq_false (by omega)
    obtain rfl:k=nc:=by omega
    obtain ⟨hcl,hcm⟩:=hcb k
    obtain ⟨⟨cs,u⟩,hcu⟩:∃ c,cabS y k=c:=⟨_,rfl⟩
    rw [hcu] at hcl hcm hnt hnt1 hz ⊢
    simp only at hcl hcm hnt hnt1 hz ⊢
    repeat' (first|(apply nx;with_reducible constructor)|refine jq (by decide) ?_|((first|refine kz env fun Q hQ=>?_|refine kj fun Q hQ=>?_);simp only [vkt,seval,tbE3_chartOf,xbE3_1,aTk,cTk,aTks,eTk,gTk,rTk,mTk,eCabin,gCabin,rCabin,dI1,bagH,aChart,cChart,coA,coB,coM,pFrom,pUp,pChance,pOne,sgoes,List.length_map,List.map_cons,List.map_nil,d1,m3,hnt1,hz];(try simp only [ite_and]);(repeat' (first|with_reducible assumption|refine And.intro ?_ ?_|intro hp));all_goals (first|(refine hQ _ ?_;clear hQ Q)|(refine hQ _ (fun h=>?_) (fun h=>?_) <;> clear hQ Q <;> (try simp only [vki,reduceCtorEq] at h))|(refine kx ?_;kernel_rfl)|omega|assumption|with_reducible rfl|skip)))
    refine sym_loop (fun j:{ j:Nat // j≤nt }=>coB cs S (tkK cs S z j.1).2.2 (tkK cs S z j.1).1 (nt - j.1) (tkK cs S z j.1).2.1) (fun j=>nt - j.1) ⟨0,Nat.zero_le _⟩ ?_ fun ⟨j,hj⟩=>?_
    · (refine Le.ok (fun i=>if i=4 then none else some i) [] ?_;constructor;all_goals (try simp only [vle,vkt,seval,tbE3_chartOf,xbE3_1,aTk,cTk,aTks,eTk,gTk,rTk,mTk,eCabin,gCabin,rCabin,dI1,bagH,aChart,cChart,coA,coB,coM,pFrom,pUp,pChance,pOne,sgoes,List.length_map,List.map_cons,List.map_nil]))
      all_goals first|rfl|(simp [tkK];done)|(intro i hi;rw [if_neg (by omega)];done)
    simp only at hj ⊢
    by_cases hjl:j < nt
    · have d1:decide ((0:Int) < ((nt - j:Nat):Int))=true:=decide_eq_true (by omega)
      have w1:IntKind.wrap .i64 (((nt - j:Nat):Int) - 1)=((nt - (j+1):Nat):Int):=by rw [wrap64 (by omega) (by omega)];omega
      obtain ⟨hp0,hp3,hll⟩:=tkK_bd cs S z j
      have hK1:tkK cs S z (j+1)=((pA (tkK cs S z j).1 (tkK cs S z j).2.2).1,if goesB (tkK cs S z j).2.1 (tkNew cs S (pA (tkK cs S z j).1 (tkK cs S z j).2.2).1 (pA (tkK cs S z j).1 (tkK cs S z j).2.2).2).1 then (tkK cs S z j).2.1++[(tkNew cs S (pA (tkK cs S z j).1 (tkK cs S z j).2.2).1 (pA (tkK cs S z j).1 (tkK cs S z j).2.2).2).1] else (tkK cs S z j).2.1,(tkNew cs S (pA (tkK cs S z j).1 (tkK cs S z j).2.2).1 (pA (tkK cs S z j).1 (tkK cs S z j).2.2).2).2):=by rw [tkK]
      obtain ⟨⟨p,l,s0⟩,hK⟩:∃ q,tkK cs S z j=q:=⟨_,rfl⟩
      rw [hK] at hp0 hp3 hll hK1 ⊢
      simp only at hp0 hp3 hll hK1 ⊢
      have hl1:l.length+1≤maxLen:=by omega
      have hl100:l.length≤100:=by omega
      obtain ⟨⟨p1,s1⟩,hA⟩:∃ q,pA p s0=q:=⟨_,rfl⟩
      have hAc:=pA_cases hA ⟨hp0,by omega⟩
      rw [hA] at hK1
      simp only at hK1
      have hn0:=up2 s1 (m:=(k:Int) - 1) (by omega) (by omega)
      obtain ⟨n,hn⟩:∃ n:Nat,upV s1 ((k:Int) - 1)=n:=⟨(upV s1 ((k:Int) - 1)).toNat,by omega⟩
      obtain ⟨s2,hs2⟩:∃ q,upS s1 ((k:Int) - 1)=q:=⟨_,rfl⟩
      obtain ⟨sx,hsx⟩:∃ q,([1,2]:List Int).getD (upV s2 1).toNat 0=q:=⟨_,rfl⟩
      obtain ⟨s3,hs3⟩:∃ q,upS s2 1=q:=⟨_,rfl⟩
      have hnk:n < cs.length:=by omega
      obtain ⟨cb,hcbv⟩:∃ q,cs.getD n default=q:=⟨_,rfl⟩
      have hcg:=hCabin hnk
      rw [hcbv] at hcg
      have hbb:=hcm cb (by rw [← hcbv];exact gMem hnk)
      obtain ⟨bd,hbd⟩:∃ q,upV s3 (cb.beds - 1)=q:=⟨_,rfl⟩
      obtain ⟨s4,hs4⟩:∃ q,upS s3 (cb.beds - 1)=q:=⟨_,rfl⟩
      have hf0:=up2 s4 (m:=S - 1) (by omega) (by omega)
      obtain ⟨f,hf⟩:∃ q,upV s4 (S - 1)=q:=⟨_,rfl⟩
      rw [hf] at hf0
      obtain ⟨s5,hs5⟩:∃ q,upS s4 (S - 1)=q:=⟨_,rfl⟩
      obtain ⟨dg,hdg⟩:∃ q,decide (upV s5 7 < 1)=q:=⟨_,rfl⟩
      obtain ⟨s6,hs6⟩:∃ q,upS s5 7=q:=⟨_,rfl⟩
      obtain ⟨tt,htt⟩:∃ q,f+1+upV s6 (S - (f+1))=q:=⟨_,rfl⟩
      obtain ⟨s7,hs7⟩:∃ q,upS s6 (S - (f+1))=q:=⟨_,rfl⟩
      have hTn:tkNew cs S p1 s1=(⟨p1,sx,n,bd,f,tt,dg⟩,s7):=by
        unfold tkNew
        simp only [hcl,hn,hs2,hsx,hs3,Int.toNat_natCast,hcbv,hbd,hs4,hf,hs5,hdg,hs6,htt,hs7]
      rw [hTn] at hK1
      simp only at hK1
      have w2:IntKind.wrap .i64 ((k:Int) - 1)=(k:Int) - 1:=wrap64 (by omega) (by omega)
      have w3:IntKind.wrap .i64 (cb.beds - 1)=cb.beds - 1:=wrap64 (by omega) (by omega)
      have w4:IntKind.wrap .i64 (S - 1)=S - 1:=wrap64 (by omega) (by omega)
      have w5:IntKind.wrap .i64 (f+1)=f+1:=wrap64 (by omega) (by omega)
      have e1:(k:Int) - 1 < 9223372036854775807:=by omega
      have e2:cb.beds - 1 < 9223372036854775807:=by omega
      have e3:S - 1 < 9223372036854775807:=by omega
      have e4:-100000≤f+1:=by omega
      have e5:f+1≤100000:=by omega
      have e6:-100000≤S:=by omega
      have e7:S≤100000:=by omega
      have i0:((n:Int)).toNat=n:=rfl
      obtain ⟨gb,hgb⟩:∃ q,goesB l ⟨p1,sx,n,bd,f,tt,dg⟩=q:=⟨_,rfl⟩
      rw [hgb] at hK1
      obtain ⟨bb,sB,hc1,hc2⟩:=hAc
      repeat' (first|(apply nx;with_reducible constructor)|refine jq (by decide) ?_)
      ((first|refine kz env fun Q hQ=>?_|refine kj fun Q hQ=>?_);simp only [vkt,seval,tbE3_chartOf,xbE3_1,aTk,cTk,aTks,eTk,gTk,rTk,mTk,eCabin,gCabin,rCabin,dI1,bagH,aChart,cChart,coA,coB,coM,pFrom,pUp,pChance,pOne,sgoes,List.length_map,List.map_cons,List.map_nil,d1];(try simp only [ite_and]);(repeat' (first|with_reducible assumption|refine And.intro ?_ ?_|intro hp));all_goals (first|(refine hQ _ ?_;clear hQ Q)|(refine hQ _ (fun h=>?_) (fun h=>?_) <;> clear hQ Q <;> (try simp only [vki,reduceCtorEq] at h))|(refine kx ?_;kernel_rfl)|omega|assumption|with_reducible rfl|skip))
      repeat' (first|(apply nx;with_reducible constructor)|refine jq (by decide) ?_)
      ((first|refine kz env fun Q hQ=>?_|refine kj fun Q hQ=>?_);simp only [vkt,seval,tbE3_chartOf,xbE3_1,aTk,cTk,aTks,eTk,gTk,rTk,mTk,eCabin,gCabin,rCabin,dI1,bagH,aChart,cChart,coA,coB,coM,pFrom,pUp,pChance,pOne,sgoes,List.length_map,List.map_cons,List.map_nil];(try simp only [ite_and]);(repeat' (first|with_reducible assumption|refine And.intro ?_ ?_|intro hp));all_goals (first|(refine hQ _ ?_;clear hQ Q)|(refine hQ _ (fun h=>?_) (fun h=>?_) <;> clear hQ Q <;> (try simp only [vki,reduceCtorEq] at h))|(refine kx ?_;kernel_rfl)|omega|assumption|with_reducible rfl|skip))
      repeat' (first|(apply nx;with_reducible constructor)|refine jq (by decide) ?_)
      refine Sym.mono (K:=fun e S1=>e=.normal∧Le S1 (coM cs S sB p (nt - j) l [(52,aB bb)] [] 5)) ?_ ?_
      · rcases hc1 with ⟨q0,q1,rfl,rfl⟩|⟨q0,q1,q2,rfl⟩
        all_goals
          ((first|refine kz env fun Q hQ=>?_|refine kj fun Q hQ=>?_);simp only [vkt,seval,tbE3_chartOf,xbE3_1,aTk,cTk,aTks,eTk,gTk,rTk,mTk,eCabin,gCabin,rCabin,dI1,bagH,aChart,cChart,coA,coB,coM,pFrom,pUp,pChance,pOne,sgoes,List.length_map,List.map_cons,List.map_nil,q0,q1,Bool.not_true,Bool.not_false,Bool.not_not];(try simp only [ite_and]);(repeat' (first|with_reducible assumption|refine And.intro ?_ ?_|intro hp));all_goals (first|(refine hQ _ ?_;clear hQ Q)|(refine hQ _ (fun h=>?_) (fun h=>?_) <;> clear hQ Q <;> (try simp only [vki,reduceCtorEq] at h))|(refine kx ?_;kernel_rfl)|omega|assumption|with_reducible rfl|skip))
          refine ⟨rfl, ?_⟩
          simp only [coM,List.cons_append,List.nil_append]
          (refine Le.ok some [] ?_;constructor;all_goals (try simp only [vle,vkt,seval,tbE3_chartOf,xbE3_1,aTk,cTk,aTks,eTk,gTk,rTk,mTk,eCabin,gCabin,rCabin,dI1,bagH,aChart,cChart,coA,coB,coM,pFrom,pUp,pChance,pOne,sgoes,List.length_map,List.map_cons,List.map_nil]))
          all_goals first|rfl|(simp;done)
      rintro e S1 ⟨rfl,hle⟩
      refine (sym_le hle ?_:Sym _ _ _ S1 _)
      clear hle S1 hc1
      refine Sym.mono (K:=fun e S1=>e=.normal∧Le S1 (coM cs S s1 p1 (nt - j) l [] [] 5)) ?_ ?_
      · rcases hc2 with ⟨rfl,wp,hs1⟩|⟨rfl,wp,hs1⟩
        all_goals
          repeat' (first|(apply nx;with_reducible constructor)|refine jq (by decide) ?_|((first|refine kz env fun Q hQ=>?_|refine kj fun Q hQ=>?_);simp only [vkt,seval,tbE3_chartOf,xbE3_1,aTk,cTk,aTks,eTk,gTk,rTk,mTk,eCabin,gCabin,rCabin,dI1,bagH,aChart,cChart,coA,coB,coM,pFrom,pUp,pChance,pOne,sgoes,List.length_map,List.map_cons,List.map_nil,wp,hs1,List.cons_append,List.nil_append];(try simp only [ite_and]);(repeat' (first|with_reducible assumption|refine And.intro ?_ ?_|intro hp));all_goals (first|(refine hQ _ ?_;clear hQ Q)|(refine hQ _ (fun h=>?_) (fun h=>?_) <;> clear hQ Q <;> (try simp only [vki,reduceCtorEq] at h))|(refine kx ?_;kernel_rfl)|omega|assumption|with_reducible rfl|skip)))
          refine ⟨rfl, ?_⟩
          simp only [coM,List.cons_append,List.nil_append]
          (refine Le.ok some [] ?_;constructor;all_goals (try simp only [vle,vkt,seval,tbE3_chartOf,xbE3_1,aTk,cTk,aTks,eTk,gTk,rTk,mTk,eCabin,gCabin,rCabin,dI1,bagH,aChart,cChart,coA,coB,coM,pFrom,pUp,pChance,pOne,sgoes,List.length_map,List.map_cons,List.map_nil]))
          all_goals first|rfl|(rw [wp];done)|(rw [hs1];done)|(simp;done)
      rintro e S1 ⟨rfl,hle⟩
      refine (sym_le hle ?_:Sym _ _ _ S1 _)
      clear hle S1 hc2
      simp only [coM,List.cons_append,List.nil_append,List.append_nil]
      repeat' (first|(apply nx;with_reducible constructor)|refine jq (by decide) ?_)
      refine Sym.mono (K:=fun e S1=>e=.normal∧Le S1 (coM cs S s2 p1 (nt - j) l [(13,aI n)] [] 5)) ?_ ?_
      · ((first|refine kz env fun Q hQ=>?_|refine kj fun Q hQ=>?_);simp only [vkt,seval,tbE3_chartOf,xbE3_1,aTk,cTk,aTks,eTk,gTk,rTk,mTk,eCabin,gCabin,rCabin,dI1,bagH,aChart,cChart,coA,coB,coM,pFrom,pUp,pChance,pOne,sgoes,List.length_map,List.map_cons,List.map_nil,hcl,w2,hn,hs2];(try simp only [ite_and]);(repeat' (first|with_reducible assumption|refine And.intro ?_ ?_|intro hp));all_goals (first|(refine hQ _ ?_;clear hQ Q)|(refine hQ _ (fun h=>?_) (fun h=>?_) <;> clear hQ Q <;> (try simp only [vki,reduceCtorEq] at h))|(refine kx ?_;kernel_rfl)|omega|assumption|with_reducible rfl|skip))
        refine ⟨rfl, ?_⟩
        simp only [coM,List.cons_append,List.nil_append]
        (refine Le.ok some [] ?_;constructor;all_goals (try simp only [vle,vkt,seval,tbE3_chartOf,xbE3_1,aTk,cTk,aTks,eTk,gTk,rTk,mTk,eCabin,gCabin,rCabin,dI1,bagH,aChart,cChart,coA,coB,coM,pFrom,pUp,pChance,pOne,sgoes,List.length_map,List.map_cons,List.map_nil]))
        all_goals first|rfl|(simp;done)
      rintro e S1 ⟨rfl,hle⟩
      refine (sym_le hle ?_:Sym _ _ _ S1 _)
      clear hle S1
      simp only [coM,List.cons_append,List.nil_append,List.append_nil]
      repeat' (first|(apply nx;with_reducible constructor)|refine jq (by decide) ?_)
      refine Sym.mono (K:=fun e S1=>e=.normal∧Le S1 (coM cs S s6 p1 (nt - j) l [(14,.ptr 5 0)] [(5,.cells [aI p1,aI sx,aI n,aI bd,aI f,aI 0,aB dg])] 6)) ?_ ?_
      · ((first|refine kz env fun Q hQ=>?_|refine kj fun Q hQ=>?_);simp only [vkt,seval,tbE3_chartOf,xbE3_1,aTk,cTk,aTks,eTk,gTk,rTk,mTk,eCabin,gCabin,rCabin,dI1,bagH,aChart,cChart,coA,coB,coM,pFrom,pUp,pChance,pOne,sgoes,List.length_map,List.map_cons,List.map_nil,hsx,hs3,i0,hnk,hcg,w3,hbd,hs4,w4,hf,hs5,hdg,hs6];(try simp only [ite_and]);(repeat' (first|with_reducible assumption|refine And.intro ?_ ?_|intro hp));all_goals (first|(refine hQ _ ?_;clear hQ Q)|(refine hQ _ (fun h=>?_) (fun h=>?_) <;> clear hQ Q <;> (try simp only [vki,reduceCtorEq] at h))|(refine kx ?_;kernel_rfl)|omega|assumption|with_reducible rfl|skip))
        · exact ⟨_,_,rfl⟩
        refine ⟨rfl, ?_⟩
        simp only [coM,List.cons_append,List.nil_append]
        (refine Le.ok (fun i=>if i=5 then some 6 else some i) [] ?_;constructor;all_goals (try simp only [vle,vkt,seval,tbE3_chartOf,xbE3_1,aTk,cTk,aTks,eTk,gTk,rTk,mTk,eCabin,gCabin,rCabin,dI1,bagH,aChart,cChart,coA,coB,coM,pFrom,pUp,pChance,pOne,sgoes,List.length_map,List.map_cons,List.map_nil]))
        all_goals first|rfl|(simp;done)|(intro i hi;rw [if_neg (by omega)];done)
      rintro e S1 ⟨rfl,hle⟩
      refine (sym_le hle ?_:Sym _ _ _ S1 _)
      clear hle S1
      simp only [coM,List.cons_append,List.nil_append,List.append_nil]
      repeat' (first|(apply nx;with_reducible constructor)|refine jq (by decide) ?_)
      ((first|refine kz env fun Q hQ=>?_|refine kj fun Q hQ=>?_);simp only [vkt,seval,tbE3_chartOf,xbE3_1,aTk,cTk,aTks,eTk,gTk,rTk,mTk,eCabin,gCabin,rCabin,dI1,bagH,aChart,cChart,coA,coB,coM,pFrom,pUp,pChance,pOne,sgoes,List.length_map,List.map_cons,List.map_nil,w5,htt,hs7];(try simp only [ite_and]);(repeat' (first|with_reducible assumption|refine And.intro ?_ ?_|intro hp));all_goals (first|(refine hQ _ ?_;clear hQ Q)|(refine hQ _ (fun h=>?_) (fun h=>?_) <;> clear hQ Q <;> (try simp only [vki,reduceCtorEq] at h))|(refine kx ?_;kernel_rfl)|omega|assumption|with_reducible rfl|skip))
      repeat' (first|(apply nx;with_reducible constructor)|refine jq (by decide) ?_)
      ((first|refine kz env fun Q hQ=>?_|refine kj fun Q hQ=>?_);simp only [vkt,seval,tbE3_chartOf,xbE3_1,aTk,cTk,aTks,eTk,gTk,rTk,mTk,eCabin,gCabin,rCabin,dI1,bagH,aChart,cChart,coA,coB,coM,pFrom,pUp,pChance,pOne,sgoes,List.length_map,List.map_cons,List.map_nil,hl100,hgb];(try simp only [ite_and]);(repeat' (first|with_reducible assumption|refine And.intro ?_ ?_|intro hp));all_goals (first|(refine hQ _ ?_;clear hQ Q)|(refine hQ _ (fun h=>?_) (fun h=>?_) <;> clear hQ Q <;> (try simp only [vki,reduceCtorEq] at h))|(refine kx ?_;kernel_rfl)|omega|assumption|with_reducible rfl|skip))
      cases gb with
      |true =>
        rw [if_pos rfl] at hK1
        repeat' (first|(apply nx;with_reducible constructor)|refine jq (by decide) ?_|((first|refine kz env fun Q hQ=>?_|refine kj fun Q hQ=>?_);simp only [vkt,seval,tbE3_chartOf,xbE3_1,aTk,cTk,aTks,eTk,gTk,rTk,mTk,eCabin,gCabin,rCabin,dI1,bagH,aChart,cChart,coA,coB,coM,pFrom,pUp,pChance,pOne,sgoes,List.length_map,List.map_cons,List.map_nil,hl1,w1];(try simp only [ite_and]);(repeat' (first|with_reducible assumption|refine And.intro ?_ ?_|intro hp));all_goals (first|(refine hQ _ ?_;clear hQ Q)|(refine hQ _ (fun h=>?_) (fun h=>?_) <;> clear hQ Q <;> (try simp only [vki,reduceCtorEq] at h))|(refine kx ?_;kernel_rfl)|omega|assumption|with_reducible rfl|skip)))
        refine ⟨⟨j+1,hjl⟩,by show nt - (j+1) < nt - j;omega, ?_⟩
        show Le _ (coB cs S (tkK cs S z (j+1)).2.2 (tkK cs S z (j+1)).1 (nt - (j+1)) (tkK cs S z (j+1)).2.1)
        rw [hK1]
        (refine Le.ok (fun i=>if i=4 then some 7 else some i) [] ?_;constructor;all_goals (try simp only [vle,vkt,seval,tbE3_chartOf,xbE3_1,aTk,cTk,aTks,eTk,gTk,rTk,mTk,eCabin,gCabin,rCabin,dI1,bagH,aChart,cChart,coA,coB,coM,pFrom,pUp,pChance,pOne,sgoes,List.length_map,List.map_cons,List.map_nil]))
        all_goals first|rfl|(rw [List.map_append];rfl)|(simp;done)|(intro i hi;rw [if_neg (by omega)];done)
      |false =>
        rw [if_neg (by decide)] at hK1
        repeat' (first|(apply nx;with_reducible constructor)|refine jq (by decide) ?_|((first|refine kz env fun Q hQ=>?_|refine kj fun Q hQ=>?_);simp only [vkt,seval,tbE3_chartOf,xbE3_1,aTk,cTk,aTks,eTk,gTk,rTk,mTk,eCabin,gCabin,rCabin,dI1,bagH,aChart,cChart,coA,coB,coM,pFrom,pUp,pChance,pOne,sgoes,List.length_map,List.map_cons,List.map_nil,hl1,w1];(try simp only [ite_and]);(repeat' (first|with_reducible assumption|refine And.intro ?_ ?_|intro hp));all_goals (first|(refine hQ _ ?_;clear hQ Q)|(refine hQ _ (fun h=>?_) (fun h=>?_) <;> clear hQ Q <;> (try simp only [vki,reduceCtorEq] at h))|(refine kx ?_;kernel_rfl)|omega|assumption|with_reducible rfl|skip)))
        refine ⟨⟨j+1,hjl⟩,by show nt - (j+1) < nt - j;omega, ?_⟩
        show Le _ (coB cs S (tkK cs S z (j+1)).2.2 (tkK cs S z (j+1)).1 (nt - (j+1)) (tkK cs S z (j+1)).2.1)
        rw [hK1]
        (refine Le.ok some [] ?_;constructor;all_goals (try simp only [vle,vkt,seval,tbE3_chartOf,xbE3_1,aTk,cTk,aTks,eTk,gTk,rTk,mTk,eCabin,gCabin,rCabin,dI1,bagH,aChart,cChart,coA,coB,coM,pFrom,pUp,pChance,pOne,sgoes,List.length_map,List.map_cons,List.map_nil]))
        all_goals first|rfl|(simp;done)
    · have d1:decide ((0:Int) < ((nt - j:Nat):Int))=false:=decide_eq_false (by omega)
      obtain rfl:j=nt:=by omega
      obtain ⟨⟨p,l,s0⟩,hK⟩:∃ q,tkK cs S z j=q:=⟨_,rfl⟩
      rw [hK]
      repeat' (first|(apply nx;with_reducible constructor)|refine jq (by decide) ?_|((first|refine kz env fun Q hQ=>?_|refine kj fun Q hQ=>?_);simp only [vkt,seval,tbE3_chartOf,xbE3_1,aTk,cTk,aTks,eTk,gTk,rTk,mTk,eCabin,gCabin,rCabin,dI1,bagH,aChart,cChart,coA,coB,coM,pFrom,pUp,pChance,pOne,sgoes,List.length_map,List.map_cons,List.map_nil,d1];(try simp only [ite_and]);(repeat' (first|with_reducible assumption|refine And.intro ?_ ?_|intro hp));all_goals (first|(refine hQ _ ?_;clear hQ Q)|(refine hQ _ (fun h=>?_) (fun h=>?_) <;> clear hQ Q <;> (try simp only [vki,reduceCtorEq] at h))|(refine kx ?_;kernel_rfl)|omega|assumption|with_reducible rfl|skip)))
      (simp only [vrt,Try.results16,vkt,seval,tbE3_chartOf,xbE3_1,aTk,cTk,aTks,eTk,gTk,rTk,mTk,eCabin,gCabin,rCabin,dI1,bagH,aChart,cChart,coA,coB,coM,pFrom,pUp,pChance,pOne,sgoes,List.length_map,List.map_cons,List.map_nil];refine Fin.ok some [3,4] ?_ ?_ ?_ ?_ ?_ rfl;all_goals (try simp only [vle,vkt,seval,tbE3_chartOf,xbE3_1,aTk,cTk,aTks,eTk,gTk,rTk,mTk,eCabin,gCabin,rCabin,dI1,bagH,aChart,cChart,coA,coB,coM,pFrom,pUp,pChance,pOne,sgoes,List.length_map,List.map_cons,List.map_nil]))
      all_goals first|rfl|(simp;done)
end Go.Sym.B
namespace Go.Sym.B
open Go Go.Sym Go.Proofs Go.Sym.C
noncomputable def sxV (s:Int):Int:=([1,2]:List Int).getD (upV s 1).toNat 0
noncomputable def sxK (x:Int):Nat→List Int × Int
  |0=>([],x)
  |k+1=>((sxK x k).1++[sxV (sxK x k).2],upS (sxK x k).2 1)
noncomputable def aoF (x secs:Int):Int:=upV (upS x 39) (secs - 1)
noncomputable def aoX2 (x secs:Int):Int:=upS (upS x 39) (secs - 1)
noncomputable def aoX3 (x secs:Int):Int:=upS (aoX2 x secs) 5
noncomputable def aoT (x secs:Int):Int:=aoF x secs+1+upV (aoX3 x secs) (secs - (aoF x secs+1))
noncomputable def aoX4 (x secs:Int):Int:=upS (aoX3 x secs) (secs - (aoF x secs+1))
noncomputable def aoS (x secs n:Int):List Int × Int:=sxK (upS (aoX4 x secs) (n - 1)) (1+upV (aoX4 x secs) (n - 1)).toNat
noncomputable def aoA (x secs n:Int):Ask:=⟨60+upV x 39,aoF x secs,aoT x secs,(aoS x secs n).1,decide (upV (aoX2 x secs) 5 < 1)⟩
noncomputable def aoX (x secs n:Int):Int:=(aoS x secs n).2
theorem sxV_bd (s:Int):1≤sxV s∧sxV s≤2:=by
  have h:=up2 s (m:=1) (by omega) (by omega)
  unfold sxV
  obtain h0|h0:(upV s 1).toNat=0∨(upV s 1).toNat=1:=by omega
  · rw [h0];decide
  · rw [h0];decide
theorem sxK_bd (x:Int):∀ k,(sxK x k).1.length=k∧∀ c ∈ (sxK x k).1,1≤c∧c≤2
  |0=>⟨rfl,by simp [sxK]⟩
  |k+1=>by
    obtain ⟨h1,h2⟩:=sxK_bd x k
    have h3:=sxV_bd (sxK x k).2
    rw [sxK]
    refine ⟨by simp [h1],fun c hc=>?_⟩
    rcases List.mem_append.1 hc with hc|hc
    · exact h2 c hc
    · rw [List.mem_singleton.1 hc];exact h3
def aoI (c:Chart) (s pt f t:Int) (d:Bool) (i:Nat) (l:List Int):St:={ t:=asg [(0,.ptr 0 0),(6,.ptr 2 0),(7,.ptr 3 0),(8,aI i)],h:=hasg [(0,.cells [.v (.int .u64 s)]),(2,.cells [aI 0,aI 0,aI 0,.nil,aB false]),(3,.cells [aI pt,aI f,aI t,.row 4,aB d]),(4,.row 3 1 (l.map eInt))],n:=5,m:=1 }
def tbE4_askedOf:=kk @ty3 (kk @ty22 (kk @ty28 (kk @ty31 (kk @ti3.eq_1 (kk @ti22.eq_1 (kk @ti28.eq_1 @ti31.eq_1))))))
def xbE4_1:=kk @aI.eq_1 (kk @aB.eq_1 (kk @aInts.eq_1 (kk @eInt.eq_1 (@rInt))))
set_option maxHeartbeats 2000000 in
theorem askedOf_fn (x:Int) (c:Chart) (n:Int) (hg:1≤c.secs∧c.secs≤5) (hn:1≤n∧n≤3):Fn noB Try.prog 17 [.ptr 0 0,aChart c,aI n] (hasg (bagH x)) (aAsk (aoA x c.secs n)) (hasg (bagH (aoX x c.secs n))) 0:=by
  have env:Env (fun _=>True) Try.prog tyB (tab [(37,fnE pFrom),(40,fnE pUp),(45,fnE pChance),(64,fnE pOne)]):=mkEnv ⟨eFrom,eUp,eChance,eOne,trivial⟩
  refine Fn.of (A:=fun _=>True) (n0:=1) (D:=noD) (Fn0 Try.func17 rfl (fun vs w=>by kernel_rfl) (by kernel_rfl)) (by simp) (by simp [AV.ids,AV.idsL,aI,aChart,cChart]) ?_ (fun _ _ _ _=>trivial) noD_ok ?_
  · intro i o hi
    have h:=hasg_mem hi
    simp [bagH] at h
    rcases h with ⟨rfl,rfl⟩;simp [AObj.ids,AV.ids,AV.idsL]
  have m1:min n 3=n:=by omega
  have hmx:(100000:Nat)≤maxLen:=by decide
  obtain ⟨S,hS⟩:∃ S,c.secs=S:=⟨_,rfl⟩
  rw [hS] at hg ⊢
  have hpt:=up2 x (m:=39) (by omega) (by omega)
  obtain ⟨pt,hpt1⟩:∃ q,60+upV x 39=q:=⟨_,rfl⟩
  obtain ⟨x1,hx1⟩:∃ q,upS x 39=q:=⟨_,rfl⟩
  have hf0:=up2 x1 (m:=S - 1) (by omega) (by omega)
  obtain ⟨f,hf⟩:∃ q,upV x1 (S - 1)=q:=⟨_,rfl⟩
  rw [hf] at hf0
  obtain ⟨x2,hx2⟩:∃ q,upS x1 (S - 1)=q:=⟨_,rfl⟩
  obtain ⟨dg,hdg⟩:∃ q,decide (upV x2 5 < 1)=q:=⟨_,rfl⟩
  obtain ⟨x3,hx3⟩:∃ q,upS x2 5=q:=⟨_,rfl⟩
  obtain ⟨tt,htt⟩:∃ q,f+1+upV x3 (S - (f+1))=q:=⟨_,rfl⟩
  obtain ⟨x4,hx4⟩:∃ q,upS x3 (S - (f+1))=q:=⟨_,rfl⟩
  have hnp:=up2 x4 (m:=n - 1) (by omega) (by omega)
  obtain ⟨np,hnp1⟩:∃ q:Nat,1+upV x4 (n - 1)=q:=⟨(1+upV x4 (n - 1)).toNat,by omega⟩
  obtain ⟨y,hy⟩:∃ q,upS x4 (n - 1)=q:=⟨_,rfl⟩
  have e1:aoF x S=f:=by unfold aoF;rw [hx1,hf]
  have e2:aoX2 x S=x2:=by unfold aoX2;rw [hx1,hx2]
  have e3:aoX3 x S=x3:=by unfold aoX3;rw [e2,hx3]
  have e4:aoT x S=tt:=by unfold aoT;rw [e1,e3,htt]
  have e5:aoX4 x S=x4:=by unfold aoX4;rw [e3,e1,hx4]
  have e6:aoS x S n=sxK y np:=by unfold aoS;rw [e5,hy,hnp1];rfl
  unfold aoX aoA
  rw [e1,e2,e4,e6,hpt1,hdg]
  have w4:IntKind.wrap .i64 (S - 1)=S - 1:=wrap64 (by omega) (by omega)
  have w5:IntKind.wrap .i64 (f+1)=f+1:=wrap64 (by omega) (by omega)
  have b3:S - 1 < 9223372036854775807:=by omega
  have b4:-100000≤f+1:=by omega
  have b5:f+1≤100000:=by omega
  have b6:-100000≤S:=by omega
  have b7:S≤100000:=by omega
  have b8:-100000≤n:=by omega
  have b9:n≤100000:=by omega
  show Sym _ _ _ (startS [.ptr 0 0,aChart c,aI n] 1 (hasg [(0,.cells [.v (.int .u64 x)])])) (retK tyB noD Try.f17 fun S' rv=>Fin S' rv _ 1 (hasg [(0,.cells [.v (.int .u64 (sxK y np).2)])]) 0)
  repeat' (first|(apply nx;with_reducible constructor)|refine jq (by decide) ?_|((first|refine kz env fun Q hQ=>?_|refine kj fun Q hQ=>?_);simp only [vkt,seval,tbE4_askedOf,xbE4_1,dI1,bagH,aChart,cChart,aAsk,cAsk,aoI,pFrom,pUp,pChance,pOne,List.length_map,List.map_cons,List.map_nil,hS,m1,hpt1,hx1,w4,hf,hx2,hdg,hx3,w5,htt,hx4,hnp1,hy];(try simp only [ite_and]);(repeat' (first|with_reducible assumption|refine And.intro ?_ ?_|intro hp));all_goals (first|(refine hQ _ ?_;clear hQ Q)|(refine hQ _ (fun h=>?_) (fun h=>?_) <;> clear hQ Q <;> (try simp only [vki,reduceCtorEq] at h))|(refine kx ?_;kernel_rfl)|omega|assumption|with_reducible rfl|skip)))
  refine sym_loop (fun k:{ k:Nat // k≤np }=>aoI c (sxK y k.1).2 pt f tt dg (np - k.1) (sxK y k.1).1) (fun k=>np - k.1) ⟨0,Nat.zero_le _⟩ ?_ fun ⟨k,hk⟩=>?_
  · (refine Le.ok (fun i=>if i=4 then none else some i) [] ?_;constructor;all_goals (try simp only [vle,vkt,seval,tbE4_askedOf,xbE4_1,dI1,bagH,aChart,cChart,aAsk,cAsk,aoI,pFrom,pUp,pChance,pOne,List.length_map,List.map_cons,List.map_nil]))
    all_goals first|rfl|(simp [sxK];done)|(intro i hi;rw [if_neg (by omega)];done)
  simp only at hk ⊢
  by_cases hkl:k < np
  · have d1:decide ((0:Int) < ((np - k:Nat):Int))=true:=decide_eq_true (by omega)
    have w1:IntKind.wrap .i64 (((np - k:Nat):Int) - 1)=((np - (k+1):Nat):Int):=by rw [wrap64 (by omega) (by omega)];omega
    have hl:=(sxK_bd y k).1
    have hl1:(sxK y k).1.length+1≤maxLen:=by omega
    have hK1:sxK y (k+1)=((sxK y k).1++[sxV (sxK y k).2],upS (sxK y k).2 1):=by rw [sxK]
    obtain ⟨⟨l,s⟩,hK⟩:∃ q,sxK y k=q:=⟨_,rfl⟩
    rw [hK] at hl hl1 hK1 ⊢
    have hl8:(l.length+1) * 8≤140737488355328:=by simp only at hl;omega
    obtain ⟨v,hv⟩:∃ v,sxV s=v:=⟨_,rfl⟩
    simp only [hv] at hK1
    have hv:([1,2]:List Int).getD (upV s 1).toNat 0=v:=hv
    repeat' (first|(apply nx;with_reducible constructor)|refine jq (by decide) ?_|((first|refine kz env fun Q hQ=>?_|refine kj fun Q hQ=>?_);simp only [vkt,seval,tbE4_askedOf,xbE4_1,dI1,bagH,aChart,cChart,aAsk,cAsk,aoI,pFrom,pUp,pChance,pOne,List.length_map,List.map_cons,List.map_nil,d1,w1,hl1,hl8,hv];(try simp only [ite_and]);(repeat' (first|with_reducible assumption|refine And.intro ?_ ?_|intro hp));all_goals (first|(refine hQ _ ?_;clear hQ Q)|(refine hQ _ (fun h=>?_) (fun h=>?_) <;> clear hQ Q <;> (try simp only [vki,reduceCtorEq] at h))|(refine kx ?_;kernel_rfl)|omega|assumption|with_reducible rfl|skip)))
    · exact ⟨_,_,rfl⟩
    refine ⟨⟨k+1,hkl⟩,by show np - (k+1) < np - k;omega, ?_⟩
    show Le _ (aoI c (sxK y (k+1)).2 pt f tt dg (np - (k+1)) (sxK y (k+1)).1)
    rw [hK1]
    (refine Le.ok (fun i=>if i=4 then some 7 else some i) [] ?_;constructor;all_goals (try simp only [vle,vkt,seval,tbE4_askedOf,xbE4_1,dI1,bagH,aChart,cChart,aAsk,cAsk,aoI,pFrom,pUp,pChance,pOne,List.length_map,List.map_cons,List.map_nil]))
    all_goals first|rfl|(rw [List.map_append];rfl)|(simp;done)|(intro i hi;rw [if_neg (by omega)];done)
  · have d1:decide ((0:Int) < ((np - k:Nat):Int))=false:=decide_eq_false (by omega)
    obtain rfl:k=np:=by omega
    obtain ⟨⟨l,s⟩,hK⟩:∃ q,sxK y k=q:=⟨_,rfl⟩
    rw [hK]
    repeat' (first|(apply nx;with_reducible constructor)|refine jq (by decide) ?_|((first|refine kz env fun Q hQ=>?_|refine kj fun Q hQ=>?_);simp only [vkt,seval,tbE4_askedOf,xbE4_1,dI1,bagH,aChart,cChart,aAsk,cAsk,aoI,pFrom,pUp,pChance,pOne,List.length_map,List.map_cons,List.map_nil,d1];(try simp only [ite_and]);(repeat' (first|with_reducible assumption|refine And.intro ?_ ?_|intro hp));all_goals (first|(refine hQ _ ?_;clear hQ Q)|(refine hQ _ (fun h=>?_) (fun h=>?_) <;> clear hQ Q <;> (try simp only [vki,reduceCtorEq] at h))|(refine kx ?_;kernel_rfl)|omega|assumption|with_reducible rfl|skip)))
    (simp only [vrt,Try.results17,vkt,seval,tbE4_askedOf,xbE4_1,dI1,bagH,aChart,cChart,aAsk,cAsk,aoI,pFrom,pUp,pChance,pOne,List.length_map,List.map_cons,List.map_nil];refine Fin.ok some [4] ?_ ?_ ?_ ?_ ?_ rfl;all_goals (try simp only [vle,vkt,seval,tbE4_askedOf,xbE4_1,dI1,bagH,aChart,cChart,aAsk,cAsk,aoI,pFrom,pUp,pChance,pOne,List.length_map,List.map_cons,List.map_nil]))
    all_goals first|rfl|(simp;done)
end Go.Sym.B
namespace Go.Sym.B
open Go Go.Sym Go.Proofs Go.Sym.C
theorem lent2_ids {cs:List Cabin} {s:Int} {l:List Tk}:∀ i o,hasg (enumA 0 (lent2 cs s l)) i=some o→i < 2∧∀ id ∈ o.ids,id < 2:=by
  intro i o hi
  have h:=hasg_mem hi
  simp [enumA,lent2] at h
  rcases h with ⟨rfl,rfl⟩|⟨rfl,rfl⟩ <;> simp [AObj.ids,AV.ids,AV.idsL,carC,rowT]
def pNear (S:St):List AV→Option Pk
  |[.ptr c 0,.sl bs]=>match S.h c with
    |some (.cells [.sl cs,.v (.int .i64 s),.row r])=>match S.h r with
      |some (.row _ _ xs)=>some { pre:=bs=(bs.map dBunk).map eBunk∧cs=(cs.map dCabin).map eCabin∧xs=(xs.map dTk).map eTk∧NearOk (cs.map dCabin) (bs.map dBunk),hs:=[c,r],ar:=[.ptr 0 0,.sl bs],L0:=lent2 (cs.map dCabin) s (xs.map dTk),v:=aB (nearB (cs.map dCabin) (bs.map dBunk)),L1:=(lent2 (cs.map dCabin) s (xs.map dTk)).map some }
      |_=>none
    |_=>none
  |_=>none
theorem eNear {A:Frm→Prop}:EntryOK A Try.prog 134 (fnE pNear):=fnE_ok fun S bs q h hp=>by
  unfold pNear at h
  split at h
  · split at h
    · split at h
      · cases h
        obtain ⟨h1,h2,h3,h4⟩:=hp
        have:=near_fn _ (by assumption) (List.map dTk (by assumption)) _ h4
        rw [aBunks,← h1] at this
        exact this
      · cases h
    · cases h
  · cases h
def tbD6_fits:=kk @ty26 (kk @ty28 (kk @ty34 (kk @ty81 (kk @ty118 (kk @ti26.eq_1 (kk @ti28.eq_1 (kk @ti34.eq_1 (kk @ti81.eq_1 @ti118.eq_1))))))))
def xbD6_1:=kk @aI.eq_1 (@aB.eq_1)
theorem fits_fn (cs:List Cabin) (s:Int) (sold:List Tk) (t:Tk) (hl:sold.length≤100):Fn noB Try.prog 95 [.ptr 0 0,aTk t] (hasg (enumA 0 (lent2 cs s sold))) (aB (decide (besideE t sold=0))) (hasg (enumO 0 ((lent2 cs s sold).map some))) 0:=by
  have env:Env (fun _=>True) Try.prog tyB (tab [(124,valE true sbeside)]):=mkEnv ⟨ebeside,trivial⟩
  refine Fn.of (A:=fun _=>True) (n0:=2) (D:=noD) (Fn0 Try.func95 rfl (fun vs w=>by kernel_rfl) (by kernel_rfl)) (by simp) (by simp [AV.ids,AV.idsL,aTk,cTk]) lent2_ids (fun _ _ _ _=>trivial) noD_ok ?_
  have et:(⟨t.party,t.sex,t.cab,t.bed,t.frm,t.to,t.dog⟩:Tk)=t:=rfl
  show Sym _ _ _ (startS [.ptr 0 0,aTk t] 2 (hasg [(0,carC cs s 1),(1,rowT sold)])) (retK tyB noD Try.f95 fun S rv=>Fin S rv _ 2 (hasg [(0,carC cs s 1),(1,rowT sold)]) 0)
  repeat' (first|(apply nx;with_reducible constructor)|refine jq (by decide) ?_|((first|refine kz env fun Q hQ=>?_|refine kj fun Q hQ=>?_);simp only [vkt,seval,tbD6_fits,xbD6_1,aTk,cTk,aTks,mTk,carC,rowT,lent2,sbeside,List.length_map,et];(try simp only [ite_and]);(repeat' (first|with_reducible assumption|refine And.intro ?_ ?_|intro hp));all_goals (first|(refine hQ _ ?_;clear hQ Q)|(refine hQ _ (fun h=>?_) (fun h=>?_) <;> clear hQ Q <;> (try simp only [vki,reduceCtorEq] at h))|(refine kx ?_;kernel_rfl)|omega|assumption|with_reducible rfl|skip)))
  (simp only [vrt,Try.results95,vkt,seval,tbD6_fits,xbD6_1,aTk,cTk,aTks,mTk,carC,rowT,lent2,sbeside,List.length_map];refine Fin.ok some [] ?_ ?_ ?_ ?_ ?_ rfl;all_goals (try simp only [vle,vkt,seval,tbD6_fits,xbD6_1,aTk,cTk,aTks,mTk,carC,rowT,lent2,sbeside,List.length_map]))
  all_goals first|rfl|(simp;done)
def pFits (S:St):List AV→Option Pk
  |[.ptr c 0,.agg [.v (.int .i64 a),.v (.int .i64 b),.v (.int .i64 d),.v (.int .i64 e),.v (.int .i64 f),.v (.int .i64 g),.v (.bool k)]]=>match S.h c with
    |some (.cells [.sl cs,.v (.int .i64 s),.row r])=>match S.h r with
      |some (.row _ _ xs)=>some { pre:=cs=(cs.map dCabin).map eCabin∧xs=(xs.map dTk).map eTk∧xs.length≤100,hs:=[c,r],ar:=[.ptr 0 0,.agg [.v (.int .i64 a),.v (.int .i64 b),.v (.int .i64 d),.v (.int .i64 e),.v (.int .i64 f),.v (.int .i64 g),.v (.bool k)]],L0:=lent2 (cs.map dCabin) s (xs.map dTk),v:=aB (decide (besideE ⟨a,b,d,e,f,g,k⟩ (xs.map dTk)=0)),L1:=(lent2 (cs.map dCabin) s (xs.map dTk)).map some }
      |_=>none
    |_=>none
  |_=>none
theorem eFits {A:Frm→Prop}:EntryOK A Try.prog 95 (fnE pFits):=fnE_ok fun S bs q h hp=>by
  unfold pFits at h
  split at h
  · rename_i a b d e f g k
    split at h
    · split at h
      · rename_i s _ _ _ _ xs _
        cases h
        obtain ⟨h1,h2,h3⟩:=hp
        exact fits_fn _ _ _ ⟨a,b,d,e,f,g,k⟩ (by rw [List.length_map];exact h3)
      · cases h
    · cases h
  · cases h
theorem flat_tk {l:List Tk} {r:List DV} {d:DV} (hr:r ∈ l.map eTk) (hd:d ∈ r):∃ x,d=.v x:=by
  obtain ⟨t,_,rfl⟩:=List.mem_map.1 hr
  simp only [eTk,List.mem_cons,List.not_mem_nil,or_false] at hd
  rcases hd with rfl|rfl|rfl|rfl|rfl|rfl|rfl <;> exact ⟨_,rfl⟩
def soldL (cs:List Cabin) (s:Int) (l:List Tk) (t:Tk):List AObj:=[carC cs s 4,rowT l,.cells [.row 1],.cells [.ptr 0 0],rowT (l++[t])]
def tbD6_sell:=kk @ty26 (kk @ty28 (kk @ty81 (kk @ty106 (kk @ty118 (kk @ti26.eq_1 (kk @ti28.eq_1 (kk @ti81.eq_1 (kk @ti106.eq_1 @ti118.eq_1))))))))
def xbD6_2:=kk @aI.eq_1 (@aB.eq_1)
theorem sell_fn (cs:List Cabin) (s:Int) (sold:List Tk) (t:Tk) (hl:sold.length≤100):Fn noB Try.prog 96 [.ptr 0 0,aTk t] (hasg (enumA 0 (lent2 cs s sold))) (.clo 125 [.ptr 2 0,.ptr 3 0]) (hasg (enumO 0 ((soldL cs s sold t).map some))) 0:=by
  have env:Env (fun _=>True) Try.prog tyB (tab [(122,fnE pCloneT)]):=mkEnv ⟨eCloneT,trivial⟩
  refine Fn.of (A:=fun _=>True) (n0:=2) (D:=noD) (Fn0 Try.func96 rfl (fun vs w=>by kernel_rfl) (by kernel_rfl)) (by simp) (by simp [AV.ids,AV.idsL,aTk,cTk]) lent2_ids (fun _ _ _ _=>trivial) noD_ok ?_
  have hm:(100:Nat)+1≤maxLen:=by decide
  show Sym _ _ _ (startS [.ptr 0 0,aTk t] 2 (hasg [(0,carC cs s 1),(1,rowT sold)])) (retK tyB noD Try.f96 fun S rv=>Fin S rv _ 2 (hasg [(0,carC cs s 4),(1,rowT sold),(2,.cells [.row 1]),(3,.cells [.ptr 0 0]),(4,rowT (sold++[t]))]) 0)
  repeat' (first|(apply nx;with_reducible constructor)|refine jq (by decide) ?_|((first|refine kz env fun Q hQ=>?_|refine kj fun Q hQ=>?_);simp only [vkt,seval,tbD6_sell,xbD6_2,aTk,cTk,aTks,mTk,eTk,rTk,carC,rowT,lent2,soldL,pCloneT,List.length_map,List.length_append,List.map_append];(try simp only [ite_and]);(repeat' (first|with_reducible assumption|refine And.intro ?_ ?_|intro hp));all_goals (first|(refine hQ _ ?_;clear hQ Q)|(refine hQ _ (fun h=>?_) (fun h=>?_) <;> clear hQ Q <;> (try simp only [vki,reduceCtorEq] at h))|(refine kx ?_;kernel_rfl)|omega|assumption|with_reducible rfl|skip)))
  · exact ⟨_,_,rfl⟩
  · exact flat_tk (by assumption) (by assumption)
  (simp only [vrt,Try.results96,vkt,seval,tbD6_sell,xbD6_2,aTk,cTk,aTks,mTk,eTk,rTk,carC,rowT,lent2,soldL,pCloneT,List.length_map,List.length_append,List.map_append];refine Fin.ok (fun j=>[0,1,4,2,7][j]?) [] ?_ ?_ ?_ ?_ ?_ rfl;all_goals (try simp only [vle,vkt,seval,tbD6_sell,xbD6_2,aTk,cTk,aTks,mTk,eTk,rTk,carC,rowT,lent2,soldL,pCloneT,List.length_map,List.length_append,List.map_append]))
  all_goals first|rfl|(simp;done)|exact fun i hi=>(match i,hi with|0,_=>rfl|1,_=>rfl)
def pSell (S:St):List AV→Option Pk
  |[.ptr c 0,.agg [.v (.int .i64 a),.v (.int .i64 b),.v (.int .i64 d),.v (.int .i64 e),.v (.int .i64 f),.v (.int .i64 g),.v (.bool k)]]=>match S.h c with
    |some (.cells [.sl cs,.v (.int .i64 s),.row r])=>match S.h r with
      |some (.row _ _ xs)=>some { pre:=cs=(cs.map dCabin).map eCabin∧xs=(xs.map dTk).map eTk∧xs.length≤100,hs:=[c,r],ar:=[.ptr 0 0,.agg [.v (.int .i64 a),.v (.int .i64 b),.v (.int .i64 d),.v (.int .i64 e),.v (.int .i64 f),.v (.int .i64 g),.v (.bool k)]],L0:=lent2 (cs.map dCabin) s (xs.map dTk),v:=.clo 125 [.ptr 2 0,.ptr 3 0],L1:=(soldL (cs.map dCabin) s (xs.map dTk) ⟨a,b,d,e,f,g,k⟩).map some }
      |_=>none
    |_=>none
  |_=>none
theorem eSell {A:Frm→Prop}:EntryOK A Try.prog 96 (fnE pSell):=fnE_ok fun S bs q h hp=>by
  unfold pSell at h
  split at h
  · rename_i a b d e f g k
    split at h
    · split at h
      · cases h
        obtain ⟨h1,h2,h3⟩:=hp
        exact sell_fn _ _ _ ⟨a,b,d,e,f,g,k⟩ (by rw [List.length_map];exact h3)
      · cases h
    · cases h
  · cases h
def tbD6_sell1:=kk @ty26 (kk @ty28 (kk @ty81 (kk @ty106 (kk @ty118 (kk @ti26.eq_1 (kk @ti28.eq_1 (kk @ti81.eq_1 (kk @ti106.eq_1 @ti118.eq_1))))))))
def xbD6_3:=kk @aI.eq_1 (@aB.eq_1)
theorem sell1_fn (cs:List Cabin) (s:Int) (sold:List Tk) (t:Tk):FnD Try.prog 125 [.ptr 2 0,.ptr 3 0] (hasg (enumA 0 (soldL cs s sold t))) (.tup []) (hasg (enumO 0 ([carC cs s 1,rowT sold,.cells [.row 1],.cells [.ptr 0 0],rowT (sold++[t])].map some))):=by
  have env:Env (fun F=>F.r=none) Try.prog tyB (tab []):=mkEnv trivial
  refine FnD.of (n0:=5) (Fn0 Try.func125 rfl (fun vs w=>by kernel_rfl) (by kernel_rfl)) (by simp) (by simp [AV.ids,AV.idsL]) ?_ ?_
  · intro i o hi
    have h:=hasg_mem hi
    simp [enumA,soldL] at h
    rcases h with ⟨rfl,rfl⟩|⟨rfl,rfl⟩|⟨rfl,rfl⟩|⟨rfl,rfl⟩|⟨rfl,rfl⟩ <;> simp [AObj.ids,AV.ids,AV.idsL,carC,rowT]
  show Sym _ _ _ (startS [.ptr 2 0,.ptr 3 0] 5 (hasg [(0,carC cs s 4),(1,rowT sold),(2,.cells [.row 1]),(3,.cells [.ptr 0 0]),(4,rowT (sold++[t]))])) (retD tyB Try.f125 fun S rv=>Fin S rv _ 5 (hasg [(0,carC cs s 1),(1,rowT sold),(2,.cells [.row 1]),(3,.cells [.ptr 0 0]),(4,rowT (sold++[t]))]) 0)
  repeat' (first|(apply nx;with_reducible constructor)|refine jq (by decide) ?_|((first|refine kz env fun Q hQ=>?_|refine kj fun Q hQ=>?_);simp only [vkt,seval,tbD6_sell1,xbD6_3,carC,rowT,soldL];(try simp only [ite_and]);(repeat' (first|with_reducible assumption|refine And.intro ?_ ?_|intro hp));all_goals (first|(refine hQ _ ?_;clear hQ Q)|(refine hQ _ (fun h=>?_) (fun h=>?_) <;> clear hQ Q <;> (try simp only [vki,reduceCtorEq] at h))|(refine kx ?_;kernel_rfl)|omega|assumption|with_reducible rfl|skip)))
  simp only [retD.eq_1]
  refine ⟨trivial, ?_⟩
  (simp only [vrt,Try.results125,vkt,seval,tbD6_sell1,xbD6_3,carC,rowT,soldL];refine Fin.ok some [] ?_ ?_ ?_ ?_ ?_ rfl;all_goals (try simp only [vle,vkt,seval,tbD6_sell1,xbD6_3,carC,rowT,soldL]))
  all_goals first|rfl|(simp;done)
def pSell1 (S:St):List AV→Option Pk
  |[.ptr b 0,.ptr q 0]=>match S.h b,S.h q with
    |some (.cells [.row r]),some (.cells [.ptr c 0])=>match S.h c with
      |some (.cells [.sl cs,.v (.int .i64 s),.row r'])=>match S.h r,S.h r' with
        |some (.row _ _ xs),some (.row _ _ ys)=>some { pre:=cs=(cs.map dCabin).map eCabin∧ys=(xs.map dTk).map eTk++[ys.getLastD []]∧ys.getLastD []=eTk (dTk (ys.getLastD [])),hs:=[c,r,b,q,r'],ar:=[.ptr 2 0,.ptr 3 0],L0:=soldL (cs.map dCabin) s (xs.map dTk) (dTk (ys.getLastD [])),v:=.tup [],L1:=[carC (cs.map dCabin) s 1,rowT (xs.map dTk),.cells [.row 1],.cells [.ptr 0 0],rowT (xs.map dTk++[dTk (ys.getLastD [])])].map some }
        |_,_=>none
      |_=>none
    |_,_=>none
  |_=>none
theorem dSell1 {A:Frm→Prop}:DCall.OK A Try.prog (dfE 125 pSell1):=dfE_ok fun S bs q h hp=>by
  unfold pSell1 at h
  split at h
  · split at h
    · split at h
      · split at h
        · cases h
          exact sell1_fn _ _ _ _
        · cases h
      · cases h
    · cases h
  · cases h
end Go.Sym.B
namespace Go.Sym.B
open Go Go.Sym Go.Proofs Go.Sym.C
def growP (cs:List Cabin) (a:Ask):Nat→List Tk→List Bunk→List (List Bunk × List Tk)
  |0,sold,begun=>[(begun,sold)]
  |m+1,sold,begun=>(bunksL cs).flatMap fun b=>if goB cs a sold begun b then growP cs a m (sold++[tkOf a begun.length b]) (begun++[b]) else []
structure GrowOk (cs:List Cabin) (s:Int) (a:Ask) (m:Nat) (sold:List Tk) (begun:List Bunk) (ys:Nat→List AV) (hl:Nat→List AObj) (ans:Nat→Bool) (R:Nat):Prop where
  sz:begun.length+m=a.sexes.length
  sx:a.sexes.length≤10
  cab:CabsOk cs
  c100:cs.length≤100
  many:sold.length+m≤100
  mem:∀ b ∈ begun,0≤b.cab∧b.cab.toNat < cs.length
  rounds:Rounds ans R (growP cs a m sold begun).length
  ys:∀ j,j < (growP cs a m sold begun).length→ys j=[aBunks ((growP cs a m sold begun).getD j default).1]
  hl:∀ j,j < (growP cs a m sold begun).length→hl j=lent2 cs s ((growP cs a m sold begun).getD j default).2
def GrowFn (cs:List Cabin) (s:Int) (a:Ask) (m:Nat):Prop:=∀ (sold:List Tk) (begun:List Bunk) (ys:Nat→List AV) (hl:Nat→List AObj) (ans:Nat→Bool) (R:Nat),GrowOk cs s a m sold begun ys hl ans R →
  Fn (Bcc Try.prog (hasg (enumA 0 [carC cs s 1])) (hasg (enumA 0 (lent2 cs s sold))) ys (fun j=>nth (hl j)) ans R) Try.prog 115 [.ptr 0 0,aAsk a,aBunks begun,.cb] (hasg (enumA 0 (lent2 cs s sold))) (aB (resB ans R)) (hasg (enumO 0 ((lent2 cs s sold).map some))) R
def pGrow (cs:List Cabin) (s:Int) (a:Ask) (m:Nat) (ys:Nat→List AV) (hl:Nat→List AObj) (ans:Nat→Bool) (R:Nat) (S:St):List AV→Option PkI
  |[.ptr c 0,.agg aa,.sl bs,.cb]=>match S.h c with
    |some (.cells [.sl cc,.v (.int .i64 s'),.row r])=>match S.h r with
      |some (.row _ _ xs)=>some { q:={ pre:=cc=cs.map eCabin∧s'=s∧aa=cAsk a∧bs=(bs.map dBunk).map eBunk∧xs=(xs.map dTk).map eTk∧GrowOk cs s a m (xs.map dTk) (bs.map dBunk) (fun j=>ys (S.j+j)) (fun j=>hl (S.j+j)) (fun j=>ans (S.j+j)) (min (growP cs a m (xs.map dTk) (bs.map dBunk)).length (R - S.j)),hs:=[c,r],ar:=[.ptr 0 0,.agg aa,.sl bs,.cb],L0:=lent2 cs s (xs.map dTk),v:=aB (resB (fun j=>ans (S.j+j)) (min (growP cs a m (xs.map dTk) (bs.map dBunk)).length (R - S.j))),L1:=(lent2 cs s (xs.map dTk)).map some },dj:=min (growP cs a m (xs.map dTk) (bs.map dBunk)).length (R - S.j) }
      |_=>none
    |_=>none
  |_=>none
theorem eGrow {A:Frm→Prop} {cs:List Cabin} {s:Int} {a:Ask} {m:Nat} {ys:Nat→List AV} {hl:Nat→List AObj} {ans:Nat→Bool} {R:Nat} {h0:Nat→Option AObj} (ih:GrowFn cs s a m) (hA:∀ F,A F→Acb Try.prog (hasg (enumA 0 [carC cs s 1])) h0 ys (fun j=>nth (hl j)) ans R F) :
    EntryOK A Try.prog 115 (fnI [carC cs s 1] R (pGrow cs s a m ys hl ans R)):=fnI_ok hA fun S bs q h hp=>by
  unfold pGrow at h
  split at h
  · split at h
    · split at h
      · cases h
        obtain ⟨_,_,h3,h4,_,h6⟩:=hp
        have:=ih _ _ _ _ _ _ h6
        rw [aBunks,← h4,aAsk,← h3] at this
        exact this
      · cases h
    · cases h
  · cases h
def g1L (cs:List Cabin) (s:Int) (a:Ask) (sold:List Tk) (begun:List Bunk):List AObj:=[carC cs s 1,rowT sold,.cells [.ptr 0 0],.cells (cAsk a),.cells [.sl (begun.map eBunk)],.cells [.cb]]
theorem g1_ids {cs:List Cabin} {s:Int} {a:Ask} {sold:List Tk} {begun:List Bunk}:∀ i o,hasg (enumA 0 (g1L cs s a sold begun)) i=some o→i < 6∧∀ id ∈ o.ids,id < 6:=by
  intro i o hi
  have h:=hasg_mem hi
  simp [enumA,g1L] at h
  rcases h with ⟨rfl,rfl⟩|⟨rfl,rfl⟩|⟨rfl,rfl⟩|⟨rfl,rfl⟩|⟨rfl,rfl⟩|⟨rfl,rfl⟩ <;> simp [AObj.ids,AV.ids,AV.idsL,carC,rowT,cAsk]
theorem pin0 {cs:List Cabin} {s:Int} {r:List AObj}:∀ i o,hasg (enumA 0 [carC cs s 1]) i=some o→∃ o',hasg (enumA 0 (carC cs s 1 :: r)) i=some o':=fun i o hi=>by
  rw [enumA_get] at hi
  cases i with
  |zero=>exact ⟨_,rfl⟩
  |succ i=>simp at hi
def Grow1Fn (cs:List Cabin) (s:Int) (a:Ask) (m:Nat):Prop:=∀ (sold:List Tk) (begun:List Bunk) (ys:Nat→List AV) (hl:Nat→List AObj) (ans:Nat→Bool) (R:Nat),GrowOk cs s a m sold begun ys hl ans R →
  Fn (Bcc Try.prog (hasg (enumA 0 [carC cs s 1])) (hasg (enumA 0 (g1L cs s a sold begun))) ys (fun j=>nth (hl j)) ans R) Try.prog 136 [.ptr 2 0,.ptr 3 0,.ptr 4 0,.ptr 5 0] (hasg (enumA 0 (g1L cs s a sold begun))) (aB (resB ans R)) (hasg (enumO 0 ((g1L cs s a sold begun).map some))) R
def tbD7_grow1:=kk @ty31 (kk @ty37 (kk @ty49 (kk @ty106 (kk @ty168 (kk @ti31.eq_1 (kk @ti37.eq_1 (kk @ti49.eq_1 (kk @ti106.eq_1 @ti168.eq_1))))))))
def xbD7_1:=kk @aI.eq_1 (@aB.eq_1)
theorem grow1_fn {cs:List Cabin} {s:Int} {a:Ask} {m:Nat} (ih:GrowFn cs s a m):Grow1Fn cs s a m:=by
  intro sold begun ys hl ans R ok
  obtain ⟨A0,hA0⟩:∃ A0:Frm→Prop,A0=Acb Try.prog (hasg (enumA 0 [carC cs s 1])) (hasg (enumA 0 (g1L cs s a sold begun))) ys (fun j=>nth (hl j)) ans R:=⟨_,rfl⟩
  have hA:∀ F,A0 F→Acb Try.prog (hasg (enumA 0 [carC cs s 1])) (hasg (enumA 0 (g1L cs s a sold begun))) ys (fun j=>nth (hl j)) ans R F:=fun F h=>hA0 ▸ h
  have env:Env A0 Try.prog tyB (tab [(115,fnI [carC cs s 1] R (pGrow cs s a m ys hl ans R))]):=mkEnv ⟨eGrow ih hA,trivial⟩
  refine Fn.of (A:=A0) (n0:=6) (D:=noD) (Fn0 Try.func136 rfl (fun vs w=>by kernel_rfl) (by kernel_rfl)) (by simp) (by simp [AV.ids]) g1_ids (fun F hb h0 _=>hA0 ▸ ⟨h0,pin0,hb⟩) noD_ok ?_
  have hle:=ok.rounds.le
  have eR:min (growP cs a m sold begun).length R=R:=by omega
  have ea1:a.sexes=a.sexes:=rfl
  show Sym _ _ _ (startS [.ptr 2 0,.ptr 3 0,.ptr 4 0,.ptr 5 0] 6 (hasg [(0,carC cs s 1),(1,rowT sold),(2,.cells [.ptr 0 0]),(3,.cells (cAsk a)),(4,.cells [.sl (begun.map eBunk)]),(5,.cells [.cb])])) (retK tyB noD Try.f136 fun S rv=>Fin S rv _ 6 (hasg [(0,carC cs s 1),(1,rowT sold),(2,.cells [.ptr 0 0]),(3,.cells (cAsk a)),(4,.cells [.sl (begun.map eBunk)]),(5,.cells [.cb])]) R)
  repeat' (first|(apply nx;with_reducible constructor)|refine jq (by decide) ?_|((first|refine kz env fun Q hQ=>?_|refine kj fun Q hQ=>?_);simp only [vkt,seval,tbD7_grow1,xbD7_1,aTk,cTk,aAsk,cAsk,aBunks,mBunk,mTk,mCabin,carC,rowT,lent2,g1L,pGrow,List.length_map,Go.Sym.tabC,cbX,fnI,pinB,lentOK,nth,hwL,Nat.zero_add,Nat.sub_zero,eR,ok];(try simp only [ite_and]);(repeat' (first|with_reducible assumption|refine And.intro ?_ ?_|intro hp));all_goals (first|(refine hQ _ ?_;clear hQ Q)|(refine hQ _ (fun h=>?_) (fun h=>?_) <;> clear hQ Q <;> (try simp only [vki,reduceCtorEq] at h))|(refine kx ?_;kernel_rfl)|omega|assumption|with_reducible rfl|skip)))
  (simp only [vrt,Try.results136,vkt,seval,tbD7_grow1,xbD7_1,aTk,cTk,aAsk,cAsk,aBunks,mBunk,mTk,mCabin,carC,rowT,lent2,g1L,pGrow,List.length_map,Go.Sym.tabC,cbX,fnI,pinB,lentOK,nth,hwL,Nat.zero_add,Nat.sub_zero];refine Fin.ok some [] ?_ ?_ ?_ ?_ ?_ rfl;all_goals (try simp only [vle,vkt,seval,tbD7_grow1,xbD7_1,aTk,cTk,aAsk,cAsk,aBunks,mBunk,mTk,mCabin,carC,rowT,lent2,g1L,pGrow,List.length_map,Go.Sym.tabC,cbX,fnI,pinB,lentOK,nth,hwL,Nat.zero_add,Nat.sub_zero]))
  all_goals first|rfl|(simp;done)|exact fun i hi=>(match i,hi with|0,_=>rfl|1,_=>rfl)
def pGrow1 (cs:List Cabin) (s:Int) (a:Ask) (m:Nat) (ys:Nat→List AV) (hl:Nat→List AObj) (ans:Nat→Bool) (R:Nat) (S:St):List AV→Option PkI
  |[.ptr p2 0,.ptr p3 0,.ptr p4 0,.ptr p5 0]=>match S.h p2,S.h p3,S.h p4,S.h p5 with
    |some (.cells [.ptr c 0]),some (.cells aa),some (.cells [.sl bs]),some (.cells [.cb])=>match S.h c with
      |some (.cells [.sl cc,.v (.int .i64 s'),.row r])=>match S.h r with
        |some (.row _ _ xs)=>some { q:={ pre:=cc=cs.map eCabin∧s'=s∧aa=cAsk a∧bs=(bs.map dBunk).map eBunk∧xs=(xs.map dTk).map eTk∧GrowOk cs s a m (xs.map dTk) (bs.map dBunk) (fun j=>ys (S.j+j)) (fun j=>hl (S.j+j)) (fun j=>ans (S.j+j)) (min (growP cs a m (xs.map dTk) (bs.map dBunk)).length (R - S.j)),hs:=[c,r,p2,p3,p4,p5],ar:=[.ptr 2 0,.ptr 3 0,.ptr 4 0,.ptr 5 0],L0:=g1L cs s a (xs.map dTk) (bs.map dBunk),v:=aB (resB (fun j=>ans (S.j+j)) (min (growP cs a m (xs.map dTk) (bs.map dBunk)).length (R - S.j))),L1:=(g1L cs s a (xs.map dTk) (bs.map dBunk)).map some },dj:=min (growP cs a m (xs.map dTk) (bs.map dBunk)).length (R - S.j) }
        |_=>none
      |_=>none
    |_,_,_,_=>none
  |_=>none
theorem eGrow1 {A:Frm→Prop} {cs:List Cabin} {s:Int} {a:Ask} {m:Nat} {ys:Nat→List AV} {hl:Nat→List AObj} {ans:Nat→Bool} {R:Nat} {h0:Nat→Option AObj} (ih:Grow1Fn cs s a m) (hA:∀ F,A F→Acb Try.prog (hasg (enumA 0 [carC cs s 1])) h0 ys (fun j=>nth (hl j)) ans R F) :
    EntryOK A Try.prog 136 (fnI [carC cs s 1] R (pGrow1 cs s a m ys hl ans R)):=fnI_ok hA fun S bs q h hp=>by
  unfold pGrow1 at h
  split at h
  · split at h
    · split at h
      · split at h
        · cases h
          obtain ⟨_,_,_,_,_,h6⟩:=hp
          exact ih _ _ _ _ _ _ h6
        · cases h
      · cases h
    · cases h
  · cases h
def WithFn (cs:List Cabin) (s:Int) (a:Ask) (m:Nat):Prop:=∀ (sold:List Tk) (t:Tk) (begun:List Bunk) (ys:Nat→List AV) (hl:Nat→List AObj) (ans:Nat→Bool) (R:Nat),GrowOk cs s a m (sold++[t]) begun ys hl ans R →
  Fn (Bcc Try.prog (hasg (enumA 0 [carC cs s 1])) (hasg (enumA 0 (g1L cs s a sold begun))) ys (fun j=>nth (hl j)) ans R) Try.prog 135 [.ptr 0 0,aTk t,.clo 136 [.ptr 2 0,.ptr 3 0,.ptr 4 0,.ptr 5 0]] (hasg (enumA 0 (g1L cs s a sold begun))) (aB (resB ans R)) (hasg (enumO 0 ((g1L cs s a sold begun).map some))) R
def tbD7_with:=kk @ty81 @ti81.eq_1
def xbD7_2:=kk @aI.eq_1 (@aB.eq_1)
end Go.Sym.B
