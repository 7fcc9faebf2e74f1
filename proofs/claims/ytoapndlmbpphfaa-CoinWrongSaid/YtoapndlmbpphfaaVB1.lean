/- Walks and what they compute, joined: part 1. -/
import Derived.Test.YtoapndlmbpphfaaVS3
import Derived.Test.YtoapndlmbpphfaaProg
import Derived.KernelRfl
set_option linter.all false
namespace Go.Sym.B
open Go Go.Sym Go.Proofs
theorem _root_.Go.Sym.kj {a b:Prop} (x:a) (y:b):a∧b:=⟨x,y⟩
def _root_.Go.Sym.jq:=@blockK_miss
def _root_.Go.Sym.jx:=@blockK_hit
def _root_.Go.Sym.jz:=@blockK_n
def _root_.Go.Sym.jj:=@blockK_r
def _root_.Go.Sym.jk:=@thenK_x
def _root_.Go.Sym.jw:=@thenK_r
def _root_.Go.Sym.jv:=@thenK_n
def _root_.Go.Sym.kq:=@drawB_of
def _root_.Go.Sym.kx:=@sym_reg
def _root_.Go.Sym.kz:=@sym_cz
def ti3:TI:={ cells:=1,bytes:=8,td:=.int .i64,zero:=[.v (.int .i64 0)],eqk:=none }
theorem tf3:TyFact Try.prog 3 ti3:=by
  refine ⟨⟨Try.t3,.int .i64 0,by kernel_rfl,rfl,rfl,rfl,rfl,rfl,by simp [Value.cells,Value.oneCell']⟩,⟨_,Try.underlying3,rfl⟩,fun fs h=>?_,fun ks h=>?_,fun q h=>?_⟩
  · cases h
  · cases h
  · cases h
def ti4:TI:={ cells:=1,bytes:=1,td:=.bool,zero:=[.v (.bool false)],eqk:=none }
theorem tf4:TyFact Try.prog 4 ti4:=by
  refine ⟨⟨Try.t4,.bool false,by kernel_rfl,rfl,rfl,rfl,rfl,rfl,by simp [Value.cells,Value.oneCell']⟩,⟨_,Try.underlying4,rfl⟩,fun fs h=>?_,fun ks h=>?_,fun q h=>?_⟩
  · cases h
  · cases h
  · cases h
def ti22:TI:={ cells:=1,bytes:=24,td:=.slice 3,zero:=[.nil],eqk:=none }
theorem tf22:TyFact Try.prog 22 ti22:=by
  refine ⟨⟨Try.t22,.slice none 0 0,by kernel_rfl,rfl,rfl,rfl,rfl,rfl,by simp [Value.cells,Value.oneCell']⟩,⟨_,Try.underlying22,rfl⟩,fun fs h=>?_,fun ks h=>?_,fun q h=>?_⟩
  · cases h
  · cases h
  · cases h
def ti24:TI:={ cells:=1,bytes:=8,td:=.ptr,zero:=[.v (.pointer none)],eqk:=none }
theorem tf24:TyFact Try.prog 24 ti24:=by
  refine ⟨⟨Try.t24,.pointer none,by kernel_rfl,rfl,rfl,rfl,rfl,rfl,by simp [Value.cells,Value.oneCell']⟩,⟨_,Try.underlying24,⟨_,rfl⟩⟩,fun fs h=>?_,fun ks h=>?_,fun q h=>?_⟩
  · cases h
  · cases h
  · cases h
def ti26:TI:={ cells:=1,bytes:=8,td:=.func,zero:=[.v (.nilFunc)],eqk:=none }
theorem tf26:TyFact Try.prog 26 ti26:=by
  refine ⟨⟨Try.t26,.nilFunc,by kernel_rfl,rfl,rfl,rfl,rfl,rfl,by simp [Value.cells,Value.oneCell']⟩,⟨_,Try.underlying26,⟨_,_,_,rfl⟩⟩,fun fs h=>?_,fun ks h=>?_,fun q h=>?_⟩
  · cases h
  · cases h
  · cases h
def ti28:TI:={ cells:=1,bytes:=24,td:=.slice 22,zero:=[.nil],eqk:=none }
theorem tf28:TyFact Try.prog 28 ti28:=by
  refine ⟨⟨Try.t28,.slice none 0 0,by kernel_rfl,rfl,rfl,rfl,rfl,rfl,by simp [Value.cells,Value.oneCell']⟩,⟨_,Try.underlying28,rfl⟩,fun fs h=>?_,fun ks h=>?_,fun q h=>?_⟩
  · cases h
  · cases h
  · cases h
def ti30:TI:={ cells:=1,bytes:=8,td:=.int .i64,zero:=[.v (.int .i64 0)],eqk:=none }
theorem tf30:TyFact Try.prog 30 ti30:=by
  refine ⟨⟨Try.t30,.int .i64 0,by kernel_rfl,rfl,rfl,rfl,rfl,rfl,by simp [Value.cells,Value.oneCell']⟩,⟨_,Try.underlying30,rfl⟩,fun fs h=>?_,fun ks h=>?_,fun q h=>?_⟩
  · cases h
  · cases h
  · cases h
def ti35:TI:={ cells:=1,bytes:=24,td:=.slice 55,zero:=[.nil],eqk:=none }
theorem tf35:TyFact Try.prog 35 ti35:=by
  refine ⟨⟨Try.t35,.slice none 0 0,by kernel_rfl,rfl,rfl,rfl,rfl,rfl,by simp [Value.cells,Value.oneCell']⟩,⟨_,Try.underlying35,rfl⟩,fun fs h=>?_,fun ks h=>?_,fun q h=>?_⟩
  · cases h
  · cases h
  · cases h
def ti36:TI:={ cells:=1,bytes:=24,td:=.slice 48,zero:=[.nil],eqk:=none }
theorem tf36:TyFact Try.prog 36 ti36:=by
  refine ⟨⟨Try.t36,.slice none 0 0,by kernel_rfl,rfl,rfl,rfl,rfl,rfl,by simp [Value.cells,Value.oneCell']⟩,⟨_,Try.underlying36,rfl⟩,fun fs h=>?_,fun ks h=>?_,fun q h=>?_⟩
  · cases h
  · cases h
  · cases h
def ti38:TI:={ cells:=4,bytes:=96,td:=.struct [(0,1,28),(1,1,35),(2,1,22),(3,1,36)],zero:=[.nil,.nil,.nil,.nil],eqk:=none }
theorem tf38:TyFact Try.prog 38 ti38:=by
  refine ⟨⟨Try.t38,.agg #[.slice none 0 0,.slice none 0 0,.slice none 0 0,.slice none 0 0],by kernel_rfl,rfl,rfl,rfl,rfl,rfl,by simp [Value.cells,Value.oneCell']⟩,⟨_,Try.underlying38,⟨_,rfl,rfl⟩⟩,fun fs h=>?_,fun ks h=>?_,fun q h=>?_⟩
  · cases h
    simp only [List.mem_cons,List.not_mem_nil,or_false,forall_eq_or_imp,forall_eq]
    exact ⟨⟨Try.t28,by kernel_rfl,rfl⟩,⟨Try.t35,by kernel_rfl,rfl⟩,⟨Try.t22,by kernel_rfl,rfl⟩,⟨Try.t36,by kernel_rfl,rfl⟩⟩
  · cases h
  · cases h
def ti43:TI:={ cells:=1,bytes:=8,td:=.func,zero:=[.v (.nilFunc)],eqk:=none }
theorem tf43:TyFact Try.prog 43 ti43:=by
  refine ⟨⟨Try.t43,.nilFunc,by kernel_rfl,rfl,rfl,rfl,rfl,rfl,by simp [Value.cells,Value.oneCell']⟩,⟨_,Try.underlying43,⟨_,_,_,rfl⟩⟩,fun fs h=>?_,fun ks h=>?_,fun q h=>?_⟩
  · cases h
  · cases h
  · cases h
theorem eqd48 (d:Nat) (w:World) (a0 b0:Int) (a1 b1:Int) (a2 b2:Int) (a3 b3:Int) (a4 b4:Int) (a5 b5:Int):(Op.equalIn (d+2) 48 (.agg #[.int .i64 a0,.int .i64 a1,.int .i64 a2,.int .i64 a3,.int .i64 a4,.int .i64 a5]) (.agg #[.int .i64 b0,.int .i64 b1,.int .i64 b2,.int .i64 b3,.int .i64 b4,.int .i64 b5])).run Try.prog w=.ok (veqL [.int .i64 a0,.int .i64 a1,.int .i64 a2,.int .i64 a3,.int .i64 a4,.int .i64 a5] [.int .i64 b0,.int .i64 b1,.int .i64 b2,.int .i64 b3,.int .i64 b4,.int .i64 b5]) w:=by
  have h1:Try.prog.underlying 48=some (.struct (Try.prog.fieldsOf 48)):=by kernel_rfl
  have h2 : (Try.prog.fieldsOf 48).toList = [{ name := "Day", type := 3, offset := 0, embedded := false, tag := "", pkgPath := "", byteOffset := 0 }, { name := "Kind", type := 3, offset := 1, embedded := false, tag := "", pkgPath := "", byteOffset := 8 }, { name := "Coin", type := 3, offset := 2, embedded := false, tag := "", pkgPath := "", byteOffset := 16 }, { name := "To", type := 3, offset := 3, embedded := false, tag := "", pkgPath := "", byteOffset := 24 }, { name := "Amount", type := 3, offset := 4, embedded := false, tag := "", pkgPath := "", byteOffset := 32 }, { name := "Got", type := 3, offset := 5, embedded := false, tag := "", pkgPath := "", byteOffset := 40 }] := by kernel_rfl
  rw [run_equalIn_agg w (d+1) 48 _ _ h1 (by kernel_rfl),h2]
  refine Eq.trans (b:=Result.ok (a0 == b0 && (a1 == b1 && (a2 == b2 && (a3 == b3 && (a4 == b4 && (a5 == b5 && true)))))) w) ?_ (congrArg (fun r=>Result.ok r w) (by simp [veqL,veq,Bool.and_assoc]))
  exact run_eqF (by simp) (run_part1 (Try.isAgg3) rfl) (run_part1 (Try.isAgg3) rfl) (run_equalIn_int w (d+0) 3 _ _ _ _ Try.underlying3) (run_eqF (by simp) (run_part1 (Try.isAgg3) rfl) (run_part1 (Try.isAgg3) rfl) (run_equalIn_int w (d+0) 3 _ _ _ _ Try.underlying3) (run_eqF (by simp) (run_part1 (Try.isAgg3) rfl) (run_part1 (Try.isAgg3) rfl) (run_equalIn_int w (d+0) 3 _ _ _ _ Try.underlying3) (run_eqF (by simp) (run_part1 (Try.isAgg3) rfl) (run_part1 (Try.isAgg3) rfl) (run_equalIn_int w (d+0) 3 _ _ _ _ Try.underlying3) (run_eqF (by simp) (run_part1 (Try.isAgg3) rfl) (run_part1 (Try.isAgg3) rfl) (run_equalIn_int w (d+0) 3 _ _ _ _ Try.underlying3) (run_eqF (by simp) (run_part1 (Try.isAgg3) rfl) (run_part1 (Try.isAgg3) rfl) (run_equalIn_int w (d+0) 3 _ _ _ _ Try.underlying3) (run_eqF_nil))))))
def ti48:TI:={ cells:=6,bytes:=48,td:=.struct [(0,1,3),(1,1,3),(2,1,3),(3,1,3),(4,1,3),(5,1,3)],zero:=[.v (.int .i64 0),.v (.int .i64 0),.v (.int .i64 0),.v (.int .i64 0),.v (.int .i64 0),.v (.int .i64 0)],eqk:=some [some .i64,some .i64,some .i64,some .i64,some .i64,some .i64] }
theorem tf48:TyFact Try.prog 48 ti48:=by
  refine ⟨⟨Try.t48,.agg #[.int .i64 0,.int .i64 0,.int .i64 0,.int .i64 0,.int .i64 0,.int .i64 0],by kernel_rfl,rfl,rfl,rfl,rfl,rfl,by simp [Value.cells,Value.oneCell']⟩,⟨_,Try.underlying48,⟨_,rfl,rfl⟩⟩,fun fs h=>?_,fun ks h=>?_,fun q h=>?_⟩
  · cases h
    simp only [List.mem_cons,List.not_mem_nil,or_false,forall_eq_or_imp,forall_eq]
    exact ⟨⟨Try.t3,by kernel_rfl,rfl⟩,⟨Try.t3,by kernel_rfl,rfl⟩,⟨Try.t3,by kernel_rfl,rfl⟩,⟨Try.t3,by kernel_rfl,rfl⟩,⟨Try.t3,by kernel_rfl,rfl⟩,⟨Try.t3,by kernel_rfl,rfl⟩⟩
  · cases h
    refine ⟨by kernel_rfl,fun w xs ys hx hy=>?_⟩
    cases xs with
    |nil=>simp [kindsB] at hx
    |cons x0 xs1 =>
    cases xs1 with
    |nil=>simp [kindsB] at hx
    |cons x1 xs2 =>
    cases xs2 with
    |nil=>simp [kindsB] at hx
    |cons x2 xs3 =>
    cases xs3 with
    |nil=>simp [kindsB] at hx
    |cons x3 xs4 =>
    cases xs4 with
    |nil=>simp [kindsB] at hx
    |cons x4 xs5 =>
    cases xs5 with
    |nil=>simp [kindsB] at hx
    |cons x5 xs6 =>
    cases xs6 with
    |cons _ _=>simp [kindsB] at hx
    |nil =>
    cases ys with
    |nil=>simp [kindsB] at hy
    |cons y0 ys1 =>
    cases ys1 with
    |nil=>simp [kindsB] at hy
    |cons y1 ys2 =>
    cases ys2 with
    |nil=>simp [kindsB] at hy
    |cons y2 ys3 =>
    cases ys3 with
    |nil=>simp [kindsB] at hy
    |cons y3 ys4 =>
    cases ys4 with
    |nil=>simp [kindsB] at hy
    |cons y4 ys5 =>
    cases ys5 with
    |nil=>simp [kindsB] at hy
    |cons y5 ys6 =>
    cases ys6 with
    |cons _ _=>simp [kindsB] at hy
    |nil =>
    simp only [kindsB] at hx hy
    obtain ⟨⟨nx0,rfl⟩,⟨nx1,rfl⟩,⟨nx2,rfl⟩,⟨nx3,rfl⟩,⟨nx4,rfl⟩,⟨nx5,rfl⟩,_⟩:=hx
    obtain ⟨⟨ny0,rfl⟩,⟨ny1,rfl⟩,⟨ny2,rfl⟩,⟨ny3,rfl⟩,⟨ny4,rfl⟩,⟨ny5,rfl⟩,_⟩:=hy
    exact eqd48 9998 w nx0 ny0 nx1 ny1 nx2 ny2 nx3 ny3 nx4 ny4 nx5 ny5
  · cases h
def ti50:TI:={ cells:=1,bytes:=24,td:=.slice 28,zero:=[.nil],eqk:=none }
theorem tf50:TyFact Try.prog 50 ti50:=by
  refine ⟨⟨Try.t50,.slice none 0 0,by kernel_rfl,rfl,rfl,rfl,rfl,rfl,by simp [Value.cells,Value.oneCell']⟩,⟨_,Try.underlying50,rfl⟩,fun fs h=>?_,fun ks h=>?_,fun q h=>?_⟩
  · cases h
  · cases h
  · cases h
def ti55:TI:={ cells:=1,bytes:=24,td:=.slice 59,zero:=[.nil],eqk:=none }
theorem tf55:TyFact Try.prog 55 ti55:=by
  refine ⟨⟨Try.t55,.slice none 0 0,by kernel_rfl,rfl,rfl,rfl,rfl,rfl,by simp [Value.cells,Value.oneCell']⟩,⟨_,Try.underlying55,rfl⟩,fun fs h=>?_,fun ks h=>?_,fun q h=>?_⟩
  · cases h
  · cases h
  · cases h
theorem eqd59 (d:Nat) (w:World) (a0 b0:Int) (a1 b1:Int):(Op.equalIn (d+2) 59 (.agg #[.int .i64 a0,.int .i64 a1]) (.agg #[.int .i64 b0,.int .i64 b1])).run Try.prog w=.ok (veqL [.int .i64 a0,.int .i64 a1] [.int .i64 b0,.int .i64 b1]) w:=by
  have h1:Try.prog.underlying 59=some (.struct (Try.prog.fieldsOf 59)):=by kernel_rfl
  have h2 : (Try.prog.fieldsOf 59).toList = [{ name := "Num", type := 3, offset := 0, embedded := false, tag := "", pkgPath := "", byteOffset := 0 }, { name := "Den", type := 3, offset := 1, embedded := false, tag := "", pkgPath := "", byteOffset := 8 }] := by kernel_rfl
  rw [run_equalIn_agg w (d+1) 59 _ _ h1 (by kernel_rfl),h2]
  refine Eq.trans (b:=Result.ok (a0 == b0 && (a1 == b1 && true)) w) ?_ (congrArg (fun r=>Result.ok r w) (by simp [veqL,veq,Bool.and_assoc]))
  exact run_eqF (by simp) (run_part1 (Try.isAgg3) rfl) (run_part1 (Try.isAgg3) rfl) (run_equalIn_int w (d+0) 3 _ _ _ _ Try.underlying3) (run_eqF (by simp) (run_part1 (Try.isAgg3) rfl) (run_part1 (Try.isAgg3) rfl) (run_equalIn_int w (d+0) 3 _ _ _ _ Try.underlying3) (run_eqF_nil))
def ti59:TI:={ cells:=2,bytes:=16,td:=.struct [(0,1,3),(1,1,3)],zero:=[.v (.int .i64 0),.v (.int .i64 0)],eqk:=some [some .i64,some .i64] }
theorem tf59:TyFact Try.prog 59 ti59:=by
  refine ⟨⟨Try.t59,.agg #[.int .i64 0,.int .i64 0],by kernel_rfl,rfl,rfl,rfl,rfl,rfl,by simp [Value.cells,Value.oneCell']⟩,⟨_,Try.underlying59,⟨_,rfl,rfl⟩⟩,fun fs h=>?_,fun ks h=>?_,fun q h=>?_⟩
  · cases h
    simp only [List.mem_cons,List.not_mem_nil,or_false,forall_eq_or_imp,forall_eq]
    exact ⟨⟨Try.t3,by kernel_rfl,rfl⟩,⟨Try.t3,by kernel_rfl,rfl⟩⟩
  · cases h
    refine ⟨by kernel_rfl,fun w xs ys hx hy=>?_⟩
    cases xs with
    |nil=>simp [kindsB] at hx
    |cons x0 xs1 =>
    cases xs1 with
    |nil=>simp [kindsB] at hx
    |cons x1 xs2 =>
    cases xs2 with
    |cons _ _=>simp [kindsB] at hx
    |nil =>
    cases ys with
    |nil=>simp [kindsB] at hy
    |cons y0 ys1 =>
    cases ys1 with
    |nil=>simp [kindsB] at hy
    |cons y1 ys2 =>
    cases ys2 with
    |cons _ _=>simp [kindsB] at hy
    |nil =>
    simp only [kindsB] at hx hy
    obtain ⟨⟨nx0,rfl⟩,⟨nx1,rfl⟩,_⟩:=hx
    obtain ⟨⟨ny0,rfl⟩,⟨ny1,rfl⟩,_⟩:=hy
    exact eqd59 9998 w nx0 ny0 nx1 ny1
  · cases h
theorem eqd61 (d:Nat) (w:World) (a0 b0:Int) (a1 b1:Int) (a2 b2:Int) (a3 b3:Int) (a4 b4:Int) (a5 b5:Int) (a6 b6:Int) (a7 b7:Int) (a8 b8:Int) (a9 b9:Int) (a10 b10:Int) (a11 b11:Int):(Op.equalIn (d+3) 61 (.agg #[.int .i64 a0,.int .i64 a1,.int .i64 a2,.int .i64 a3,.int .i64 a4,.int .i64 a5,.int .i64 a6,.int .i64 a7,.int .i64 a8,.int .i64 a9,.int .i64 a10,.int .i64 a11]) (.agg #[.int .i64 b0,.int .i64 b1,.int .i64 b2,.int .i64 b3,.int .i64 b4,.int .i64 b5,.int .i64 b6,.int .i64 b7,.int .i64 b8,.int .i64 b9,.int .i64 b10,.int .i64 b11])).run Try.prog w=.ok (veqL [.int .i64 a0,.int .i64 a1,.int .i64 a2,.int .i64 a3,.int .i64 a4,.int .i64 a5,.int .i64 a6,.int .i64 a7,.int .i64 a8,.int .i64 a9,.int .i64 a10,.int .i64 a11] [.int .i64 b0,.int .i64 b1,.int .i64 b2,.int .i64 b3,.int .i64 b4,.int .i64 b5,.int .i64 b6,.int .i64 b7,.int .i64 b8,.int .i64 b9,.int .i64 b10,.int .i64 b11]) w:=by
  have h1:Try.prog.underlying 61=some (.struct (Try.prog.fieldsOf 61)):=by kernel_rfl
  have h2 : (Try.prog.fieldsOf 61).toList = [{ name := "Taken", type := 59, offset := 0, embedded := false, tag := "", pkgPath := "", byteOffset := 0 }, { name := "Paid", type := 59, offset := 2, embedded := false, tag := "", pkgPath := "", byteOffset := 16 }, { name := "Gained", type := 59, offset := 4, embedded := false, tag := "", pkgPath := "", byteOffset := 32 }, { name := "Lost", type := 59, offset := 6, embedded := false, tag := "", pkgPath := "", byteOffset := 48 }, { name := "Found", type := 59, offset := 8, embedded := false, tag := "", pkgPath := "", byteOffset := 64 }, { name := "Worth", type := 59, offset := 10, embedded := false, tag := "", pkgPath := "", byteOffset := 80 }] := by kernel_rfl
  rw [run_equalIn_agg w (d+2) 61 _ _ h1 (by kernel_rfl),h2]
  refine Eq.trans (b:=Result.ok (veqL [.int .i64 a0,.int .i64 a1] [.int .i64 b0,.int .i64 b1] && (veqL [.int .i64 a2,.int .i64 a3] [.int .i64 b2,.int .i64 b3] && (veqL [.int .i64 a4,.int .i64 a5] [.int .i64 b4,.int .i64 b5] && (veqL [.int .i64 a6,.int .i64 a7] [.int .i64 b6,.int .i64 b7] && (veqL [.int .i64 a8,.int .i64 a9] [.int .i64 b8,.int .i64 b9] && (veqL [.int .i64 a10,.int .i64 a11] [.int .i64 b10,.int .i64 b11] && true)))))) w) ?_ (congrArg (fun r=>Result.ok r w) (by simp [veqL,veq,Bool.and_assoc]))
  exact run_eqF (by simp) (run_partA (Try.isAgg59) (Try.sizeOf59) rfl) (run_partA (Try.isAgg59) (Try.sizeOf59) rfl) (eqd59 (d+0) w a0 b0 a1 b1) (run_eqF (by simp) (run_partA (Try.isAgg59) (Try.sizeOf59) rfl) (run_partA (Try.isAgg59) (Try.sizeOf59) rfl) (eqd59 (d+0) w a2 b2 a3 b3) (run_eqF (by simp) (run_partA (Try.isAgg59) (Try.sizeOf59) rfl) (run_partA (Try.isAgg59) (Try.sizeOf59) rfl) (eqd59 (d+0) w a4 b4 a5 b5) (run_eqF (by simp) (run_partA (Try.isAgg59) (Try.sizeOf59) rfl) (run_partA (Try.isAgg59) (Try.sizeOf59) rfl) (eqd59 (d+0) w a6 b6 a7 b7) (run_eqF (by simp) (run_partA (Try.isAgg59) (Try.sizeOf59) rfl) (run_partA (Try.isAgg59) (Try.sizeOf59) rfl) (eqd59 (d+0) w a8 b8 a9 b9) (run_eqF (by simp) (run_partA (Try.isAgg59) (Try.sizeOf59) rfl) (run_partA (Try.isAgg59) (Try.sizeOf59) rfl) (eqd59 (d+0) w a10 b10 a11 b11) (run_eqF_nil))))))
def ti61:TI:={ cells:=12,bytes:=96,td:=.struct [(0,2,59),(2,2,59),(4,2,59),(6,2,59),(8,2,59),(10,2,59)],zero:=[.v (.int .i64 0),.v (.int .i64 0),.v (.int .i64 0),.v (.int .i64 0),.v (.int .i64 0),.v (.int .i64 0),.v (.int .i64 0),.v (.int .i64 0),.v (.int .i64 0),.v (.int .i64 0),.v (.int .i64 0),.v (.int .i64 0)],eqk:=some [some .i64,some .i64,some .i64,some .i64,some .i64,some .i64,some .i64,some .i64,some .i64,some .i64,some .i64,some .i64] }
theorem tf61:TyFact Try.prog 61 ti61:=by
  refine ⟨⟨Try.t61,.agg #[.int .i64 0,.int .i64 0,.int .i64 0,.int .i64 0,.int .i64 0,.int .i64 0,.int .i64 0,.int .i64 0,.int .i64 0,.int .i64 0,.int .i64 0,.int .i64 0],by kernel_rfl,rfl,rfl,rfl,rfl,rfl,by simp [Value.cells,Value.oneCell']⟩,⟨_,Try.underlying61,⟨_,rfl,rfl⟩⟩,fun fs h=>?_,fun ks h=>?_,fun q h=>?_⟩
  · cases h
    simp only [List.mem_cons,List.not_mem_nil,or_false,forall_eq_or_imp,forall_eq]
    exact ⟨⟨Try.t59,by kernel_rfl,rfl⟩,⟨Try.t59,by kernel_rfl,rfl⟩,⟨Try.t59,by kernel_rfl,rfl⟩,⟨Try.t59,by kernel_rfl,rfl⟩,⟨Try.t59,by kernel_rfl,rfl⟩,⟨Try.t59,by kernel_rfl,rfl⟩⟩
  · cases h
    refine ⟨by kernel_rfl,fun w xs ys hx hy=>?_⟩
    cases xs with
    |nil=>simp [kindsB] at hx
    |cons x0 xs1 =>
    cases xs1 with
    |nil=>simp [kindsB] at hx
    |cons x1 xs2 =>
    cases xs2 with
    |nil=>simp [kindsB] at hx
    |cons x2 xs3 =>
    cases xs3 with
    |nil=>simp [kindsB] at hx
    |cons x3 xs4 =>
    cases xs4 with
    |nil=>simp [kindsB] at hx
    |cons x4 xs5 =>
    cases xs5 with
    |nil=>simp [kindsB] at hx
    |cons x5 xs6 =>
    cases xs6 with
    |nil=>simp [kindsB] at hx
    |cons x6 xs7 =>
    cases xs7 with
    |nil=>simp [kindsB] at hx
    |cons x7 xs8 =>
    cases xs8 with
    |nil=>simp [kindsB] at hx
    |cons x8 xs9 =>
    cases xs9 with
    |nil=>simp [kindsB] at hx
    |cons x9 xs10 =>
    cases xs10 with
    |nil=>simp [kindsB] at hx
    |cons x10 xs11 =>
    cases xs11 with
    |nil=>simp [kindsB] at hx
    |cons x11 xs12 =>
    cases xs12 with
    |cons _ _=>simp [kindsB] at hx
    |nil =>
    cases ys with
    |nil=>simp [kindsB] at hy
    |cons y0 ys1 =>
    cases ys1 with
    |nil=>simp [kindsB] at hy
    |cons y1 ys2 =>
    cases ys2 with
    |nil=>simp [kindsB] at hy
    |cons y2 ys3 =>
    cases ys3 with
    |nil=>simp [kindsB] at hy
    |cons y3 ys4 =>
    cases ys4 with
    |nil=>simp [kindsB] at hy
    |cons y4 ys5 =>
    cases ys5 with
    |nil=>simp [kindsB] at hy
    |cons y5 ys6 =>
    cases ys6 with
    |nil=>simp [kindsB] at hy
    |cons y6 ys7 =>
    cases ys7 with
    |nil=>simp [kindsB] at hy
    |cons y7 ys8 =>
    cases ys8 with
    |nil=>simp [kindsB] at hy
    |cons y8 ys9 =>
    cases ys9 with
    |nil=>simp [kindsB] at hy
    |cons y9 ys10 =>
    cases ys10 with
    |nil=>simp [kindsB] at hy
    |cons y10 ys11 =>
    cases ys11 with
    |nil=>simp [kindsB] at hy
    |cons y11 ys12 =>
    cases ys12 with
    |cons _ _=>simp [kindsB] at hy
    |nil =>
    simp only [kindsB] at hx hy
    obtain ⟨⟨nx0,rfl⟩,⟨nx1,rfl⟩,⟨nx2,rfl⟩,⟨nx3,rfl⟩,⟨nx4,rfl⟩,⟨nx5,rfl⟩,⟨nx6,rfl⟩,⟨nx7,rfl⟩,⟨nx8,rfl⟩,⟨nx9,rfl⟩,⟨nx10,rfl⟩,⟨nx11,rfl⟩,_⟩:=hx
    obtain ⟨⟨ny0,rfl⟩,⟨ny1,rfl⟩,⟨ny2,rfl⟩,⟨ny3,rfl⟩,⟨ny4,rfl⟩,⟨ny5,rfl⟩,⟨ny6,rfl⟩,⟨ny7,rfl⟩,⟨ny8,rfl⟩,⟨ny9,rfl⟩,⟨ny10,rfl⟩,⟨ny11,rfl⟩,_⟩:=hy
    exact eqd61 9997 w nx0 ny0 nx1 ny1 nx2 ny2 nx3 ny3 nx4 ny4 nx5 ny5 nx6 ny6 nx7 ny7 nx8 ny8 nx9 ny9 nx10 ny10 nx11 ny11
  · cases h
def ti70:TI:={ cells:=1,bytes:=24,td:=.slice 38,zero:=[.nil],eqk:=none }
theorem tf70:TyFact Try.prog 70 ti70:=by
  refine ⟨⟨Try.t70,.slice none 0 0,by kernel_rfl,rfl,rfl,rfl,rfl,rfl,by simp [Value.cells,Value.oneCell']⟩,⟨_,Try.underlying70,rfl⟩,fun fs h=>?_,fun ks h=>?_,fun q h=>?_⟩
  · cases h
  · cases h
  · cases h
def ti95:TI:={ cells:=1,bytes:=8,td:=.int .u64,zero:=[.v (.int .u64 0)],eqk:=none }
theorem tf95:TyFact Try.prog 95 ti95:=by
  refine ⟨⟨Try.t95,.int .u64 0,by kernel_rfl,rfl,rfl,rfl,rfl,rfl,by simp [Value.cells,Value.oneCell']⟩,⟨_,Try.underlying95,rfl⟩,fun fs h=>?_,fun ks h=>?_,fun q h=>?_⟩
  · cases h
  · cases h
  · cases h
def ti97:TI:={ cells:=1,bytes:=8,td:=.struct [(0,1,95)],zero:=[.v (.int .u64 0)],eqk:=none }
theorem tf97:TyFact Try.prog 97 ti97:=by
  refine ⟨⟨Try.t97,.agg #[.int .u64 0],by kernel_rfl,rfl,rfl,rfl,rfl,rfl,by simp [Value.cells,Value.oneCell']⟩,⟨_,Try.underlying97,⟨_,rfl,rfl⟩⟩,fun fs h=>?_,fun ks h=>?_,fun q h=>?_⟩
  · cases h
    simp only [List.mem_cons,List.not_mem_nil,or_false,forall_eq_or_imp,forall_eq]
    exact ⟨Try.t95,by kernel_rfl,rfl⟩
  · cases h
  · cases h
def ti98:TI:={ cells:=1,bytes:=8,td:=.int .u64,zero:=[.v (.int .u64 0)],eqk:=none }
theorem tf98:TyFact Try.prog 98 ti98:=by
  refine ⟨⟨Try.t98,.int .u64 0,by kernel_rfl,rfl,rfl,rfl,rfl,rfl,by simp [Value.cells,Value.oneCell']⟩,⟨_,Try.underlying98,rfl⟩,fun fs h=>?_,fun ks h=>?_,fun q h=>?_⟩
  · cases h
  · cases h
  · cases h
theorem eqd107 (d:Nat) (w:World) (a0 b0:Int) (a1 b1:Int):(Op.equalIn (d+2) 107 (.agg #[.int .i64 a0,.int .i64 a1]) (.agg #[.int .i64 b0,.int .i64 b1])).run Try.prog w=.ok (veqL [.int .i64 a0,.int .i64 a1] [.int .i64 b0,.int .i64 b1]) w:=by
  have h1:Try.prog.underlying 107=some (.struct (Try.prog.fieldsOf 107)):=by kernel_rfl
  have h2 : (Try.prog.fieldsOf 107).toList = [{ name := "Num", type := 3, offset := 0, embedded := false, tag := "", pkgPath := "", byteOffset := 0 }, { name := "Den", type := 3, offset := 1, embedded := false, tag := "", pkgPath := "", byteOffset := 8 }] := by kernel_rfl
  rw [run_equalIn_agg w (d+1) 107 _ _ h1 (by kernel_rfl),h2]
  refine Eq.trans (b:=Result.ok (a0 == b0 && (a1 == b1 && true)) w) ?_ (congrArg (fun r=>Result.ok r w) (by simp [veqL,veq,Bool.and_assoc]))
  exact run_eqF (by simp) (run_part1 (Try.isAgg3) rfl) (run_part1 (Try.isAgg3) rfl) (run_equalIn_int w (d+0) 3 _ _ _ _ Try.underlying3) (run_eqF (by simp) (run_part1 (Try.isAgg3) rfl) (run_part1 (Try.isAgg3) rfl) (run_equalIn_int w (d+0) 3 _ _ _ _ Try.underlying3) (run_eqF_nil))
def ti107:TI:={ cells:=2,bytes:=16,td:=.struct [(0,1,3),(1,1,3)],zero:=[.v (.int .i64 0),.v (.int .i64 0)],eqk:=some [some .i64,some .i64] }
theorem tf107:TyFact Try.prog 107 ti107:=by
  refine ⟨⟨Try.t107,.agg #[.int .i64 0,.int .i64 0],by kernel_rfl,rfl,rfl,rfl,rfl,rfl,by simp [Value.cells,Value.oneCell']⟩,⟨_,Try.underlying107,⟨_,rfl,rfl⟩⟩,fun fs h=>?_,fun ks h=>?_,fun q h=>?_⟩
  · cases h
    simp only [List.mem_cons,List.not_mem_nil,or_false,forall_eq_or_imp,forall_eq]
    exact ⟨⟨Try.t3,by kernel_rfl,rfl⟩,⟨Try.t3,by kernel_rfl,rfl⟩⟩
  · cases h
    refine ⟨by kernel_rfl,fun w xs ys hx hy=>?_⟩
    cases xs with
    |nil=>simp [kindsB] at hx
    |cons x0 xs1 =>
    cases xs1 with
    |nil=>simp [kindsB] at hx
    |cons x1 xs2 =>
    cases xs2 with
    |cons _ _=>simp [kindsB] at hx
    |nil =>
    cases ys with
    |nil=>simp [kindsB] at hy
    |cons y0 ys1 =>
    cases ys1 with
    |nil=>simp [kindsB] at hy
    |cons y1 ys2 =>
    cases ys2 with
    |cons _ _=>simp [kindsB] at hy
    |nil =>
    simp only [kindsB] at hx hy
    obtain ⟨⟨nx0,rfl⟩,⟨nx1,rfl⟩,_⟩:=hx
    obtain ⟨⟨ny0,rfl⟩,⟨ny1,rfl⟩,_⟩:=hy
    exact eqd107 9998 w nx0 ny0 nx1 ny1
  · cases h
def ti111:TI:={ cells:=1,bytes:=8,td:=.func,zero:=[.v (.nilFunc)],eqk:=none }
theorem tf111:TyFact Try.prog 111 ti111:=by
  refine ⟨⟨Try.t111,.nilFunc,by kernel_rfl,rfl,rfl,rfl,rfl,rfl,by simp [Value.cells,Value.oneCell']⟩,⟨_,Try.underlying111,⟨_,_,_,rfl⟩⟩,fun fs h=>?_,fun ks h=>?_,fun q h=>?_⟩
  · cases h
  · cases h
  · cases h
def ti112:TI:={ cells:=1,bytes:=8,td:=.func,zero:=[.v (.nilFunc)],eqk:=none }
theorem tf112:TyFact Try.prog 112 ti112:=by
  refine ⟨⟨Try.t112,.nilFunc,by kernel_rfl,rfl,rfl,rfl,rfl,rfl,by simp [Value.cells,Value.oneCell']⟩,⟨_,Try.underlying112,⟨_,_,_,rfl⟩⟩,fun fs h=>?_,fun ks h=>?_,fun q h=>?_⟩
  · cases h
  · cases h
  · cases h
def ti115:TI:={ cells:=1,bytes:=24,td:=.slice 107,zero:=[.nil],eqk:=none }
theorem tf115:TyFact Try.prog 115 ti115:=by
  refine ⟨⟨Try.t115,.slice none 0 0,by kernel_rfl,rfl,rfl,rfl,rfl,rfl,by simp [Value.cells,Value.oneCell']⟩,⟨_,Try.underlying115,rfl⟩,fun fs h=>?_,fun ks h=>?_,fun q h=>?_⟩
  · cases h
  · cases h
  · cases h
def ti117:TI:={ cells:=1,bytes:=8,td:=.ptr,zero:=[.v (.pointer none)],eqk:=none }
theorem tf117:TyFact Try.prog 117 ti117:=by
  refine ⟨⟨Try.t117,.pointer none,by kernel_rfl,rfl,rfl,rfl,rfl,rfl,by simp [Value.cells,Value.oneCell']⟩,⟨_,Try.underlying117,⟨_,rfl⟩⟩,fun fs h=>?_,fun ks h=>?_,fun q h=>?_⟩
  · cases h
  · cases h
  · cases h
def ti123:TI:={ cells:=5,bytes:=120,td:=.struct [(0,4,38),(4,1,22)],zero:=[.nil,.nil,.nil,.nil,.nil],eqk:=none }
theorem tf123:TyFact Try.prog 123 ti123:=by
  refine ⟨⟨Try.t123,.agg #[.slice none 0 0,.slice none 0 0,.slice none 0 0,.slice none 0 0,.slice none 0 0],by kernel_rfl,rfl,rfl,rfl,rfl,rfl,by simp [Value.cells,Value.oneCell']⟩,⟨_,Try.underlying123,⟨_,rfl,rfl⟩⟩,fun fs h=>?_,fun ks h=>?_,fun q h=>?_⟩
  · cases h
    simp only [List.mem_cons,List.not_mem_nil,or_false,forall_eq_or_imp,forall_eq]
    exact ⟨⟨Try.t38,by kernel_rfl,rfl⟩,⟨Try.t22,by kernel_rfl,rfl⟩⟩
  · cases h
  · cases h
def ti137:TI:={ cells:=1,bytes:=8,td:=.func,zero:=[.v (.nilFunc)],eqk:=none }
theorem tf137:TyFact Try.prog 137 ti137:=by
  refine ⟨⟨Try.t137,.nilFunc,by kernel_rfl,rfl,rfl,rfl,rfl,rfl,by simp [Value.cells,Value.oneCell']⟩,⟨_,Try.underlying137,⟨_,_,_,rfl⟩⟩,fun fs h=>?_,fun ks h=>?_,fun q h=>?_⟩
  · cases h
  · cases h
  · cases h
def ti142:TI:={ cells:=4,bytes:=32,td:=.array 4 3,zero:=[.v (.int .i64 0),.v (.int .i64 0),.v (.int .i64 0),.v (.int .i64 0)],eqk:=none }
theorem tf142:TyFact Try.prog 142 ti142:=by
  refine ⟨⟨Try.t142,.agg #[.int .i64 0,.int .i64 0,.int .i64 0,.int .i64 0],by kernel_rfl,rfl,rfl,rfl,rfl,rfl,by simp [Value.cells,Value.oneCell']⟩,⟨_,Try.underlying142,rfl⟩,fun fs h=>?_,fun ks h=>?_,fun q h=>?_⟩
  · cases h
  · cases h
  · cases h
def ti144:TI:={ cells:=1,bytes:=8,td:=.map 3 142,zero:=[.v (.map none)],eqk:=none,key:=some { kd:=.one (.int .i64),z:=.agg [.v (.int .i64 0),.v (.int .i64 0),.v (.int .i64 0),.v (.int .i64 0)],agg:=true } }
theorem tf144:TyFact Try.prog 144 ti144:=by
  refine ⟨⟨Try.t144,.map none,by kernel_rfl,rfl,rfl,rfl,rfl,rfl,by simp [Value.cells,Value.oneCell']⟩,⟨_,Try.underlying144,rfl⟩,fun fs h=>?_,fun ks h=>?_,fun q h=>?_⟩
  · cases h
  · cases h
  · cases h
    refine ⟨3,142,rfl,mkey_plain Try.underlying3,fun w=>⟨.agg #[.int .i64 0,.int .i64 0,.int .i64 0,.int .i64 0],by simp [zeroValue,typeInfo,show Try.prog.info? 142=some Try.t142 by kernel_rfl,Try.t142],fun w' ok ρ y=>?_⟩⟩
    refine .agg (by simp) fun i c hc=>?_
    match i,hc with
    |0,hc=>cases hc;exact .v rfl
    |1,hc=>cases hc;exact .v rfl
    |2,hc=>cases hc;exact .v rfl
    |3,hc=>cases hc;exact .v rfl
    |n+4,hc=>simp at hc
def ti149:TI:={ cells:=8,bytes:=64,td:=.struct [(0,4,142),(4,4,142)],zero:=[.v (.int .i64 0),.v (.int .i64 0),.v (.int .i64 0),.v (.int .i64 0),.v (.int .i64 0),.v (.int .i64 0),.v (.int .i64 0),.v (.int .i64 0)],eqk:=none }
theorem tf149:TyFact Try.prog 149 ti149:=by
  refine ⟨⟨Try.t149,.agg #[.int .i64 0,.int .i64 0,.int .i64 0,.int .i64 0,.int .i64 0,.int .i64 0,.int .i64 0,.int .i64 0],by kernel_rfl,rfl,rfl,rfl,rfl,rfl,by simp [Value.cells,Value.oneCell']⟩,⟨_,Try.underlying149,⟨_,rfl,rfl⟩⟩,fun fs h=>?_,fun ks h=>?_,fun q h=>?_⟩
  · cases h
    simp only [List.mem_cons,List.not_mem_nil,or_false,forall_eq_or_imp,forall_eq]
    exact ⟨⟨Try.t142,by kernel_rfl,rfl⟩,⟨Try.t142,by kernel_rfl,rfl⟩⟩
  · cases h
  · cases h
def ti150:TI:={ cells:=1,bytes:=8,td:=.func,zero:=[.v (.nilFunc)],eqk:=none }
theorem tf150:TyFact Try.prog 150 ti150:=by
  refine ⟨⟨Try.t150,.nilFunc,by kernel_rfl,rfl,rfl,rfl,rfl,rfl,by simp [Value.cells,Value.oneCell']⟩,⟨_,Try.underlying150,⟨_,_,_,rfl⟩⟩,fun fs h=>?_,fun ks h=>?_,fun q h=>?_⟩
  · cases h
  · cases h
  · cases h
def ti165:TI:={ cells:=1,bytes:=8,td:=.func,zero:=[.v (.nilFunc)],eqk:=none }
theorem tf165:TyFact Try.prog 165 ti165:=by
  refine ⟨⟨Try.t165,.nilFunc,by kernel_rfl,rfl,rfl,rfl,rfl,rfl,by simp [Value.cells,Value.oneCell']⟩,⟨_,Try.underlying165,⟨_,_,_,rfl⟩⟩,fun fs h=>?_,fun ks h=>?_,fun q h=>?_⟩
  · cases h
  · cases h
  · cases h
def ti166:TI:={ cells:=1,bytes:=8,td:=.func,zero:=[.v (.nilFunc)],eqk:=none }
theorem tf166:TyFact Try.prog 166 ti166:=by
  refine ⟨⟨Try.t166,.nilFunc,by kernel_rfl,rfl,rfl,rfl,rfl,rfl,by simp [Value.cells,Value.oneCell']⟩,⟨_,Try.underlying166,⟨_,_,_,rfl⟩⟩,fun fs h=>?_,fun ks h=>?_,fun q h=>?_⟩
  · cases h
  · cases h
  · cases h
def ti167:TI:={ cells:=1,bytes:=8,td:=.func,zero:=[.v (.nilFunc)],eqk:=none }
theorem tf167:TyFact Try.prog 167 ti167:=by
  refine ⟨⟨Try.t167,.nilFunc,by kernel_rfl,rfl,rfl,rfl,rfl,rfl,by simp [Value.cells,Value.oneCell']⟩,⟨_,Try.underlying167,⟨_,_,_,rfl⟩⟩,fun fs h=>?_,fun ks h=>?_,fun q h=>?_⟩
  · cases h
  · cases h
  · cases h
def ti170:TI:={ cells:=1,bytes:=4,td:=.int .u32,zero:=[.v (.int .u32 0)],eqk:=none }
theorem tf170:TyFact Try.prog 170 ti170:=by
  refine ⟨⟨Try.t170,.int .u32 0,by kernel_rfl,rfl,rfl,rfl,rfl,rfl,by simp [Value.cells,Value.oneCell']⟩,⟨_,Try.underlying170,rfl⟩,fun fs h=>?_,fun ks h=>?_,fun q h=>?_⟩
  · cases h
  · cases h
  · cases h
def tyL:List (Nat × TI):=[(3,ti3),(4,ti4),(22,ti22),(24,ti24),(26,ti26),(28,ti28),(30,ti30),(35,ti35),(36,ti36),(38,ti38),(43,ti43),(48,ti48),(50,ti50),(55,ti55),(59,ti59),(61,ti61),(70,ti70),(95,ti95),(97,ti97),(98,ti98),(107,ti107),(111,ti111),(112,ti112),(115,ti115),(117,ti117),(123,ti123),(137,ti137),(142,ti142),(144,ti144),(149,ti149),(150,ti150),(165,ti165),(166,ti166),(167,ti167),(170,ti170)]
def tyOf:List (Nat × TI)→Tys
  |[],_=>none
  |p :: r,t=>if t=p.1 then some p.2 else tyOf r t
def tyB:Tys:=tyOf tyL
theorem ty3:tyB 3=some ti3:=rfl
theorem ty4:tyB 4=some ti4:=rfl
theorem ty22:tyB 22=some ti22:=rfl
theorem ty28:tyB 28=some ti28:=rfl
theorem ty30:tyB 30=some ti30:=rfl
theorem ty35:tyB 35=some ti35:=rfl
theorem ty36:tyB 36=some ti36:=rfl
theorem ty38:tyB 38=some ti38:=rfl
theorem ty48:tyB 48=some ti48:=rfl
theorem ty50:tyB 50=some ti50:=rfl
theorem ty55:tyB 55=some ti55:=rfl
theorem ty59:tyB 59=some ti59:=rfl
theorem ty61:tyB 61=some ti61:=rfl
theorem ty95:tyB 95=some ti95:=rfl
theorem ty97:tyB 97=some ti97:=rfl
theorem ty98:tyB 98=some ti98:=rfl
theorem ty107:tyB 107=some ti107:=rfl
theorem ty111:tyB 111=some ti111:=rfl
theorem ty112:tyB 112=some ti112:=rfl
theorem ty115:tyB 115=some ti115:=rfl
theorem ty123:tyB 123=some ti123:=rfl
theorem ty170:tyB 170=some ti170:=rfl
theorem tyOf_mem:∀ {L:List (Nat × TI)} {t:Nat} {i:TI},tyOf L t=some i→(t,i) ∈ L
  |p :: r,t,i,h=>by
    simp only [tyOf] at h
    split at h
    · rename_i ht;cases h;rw [ht];exact List.mem_cons_self
    · exact List.mem_cons_of_mem _ (tyOf_mem h)
theorem tyB_ok:TysOK Try.prog tyB:=fun t i h=>by
  have h:=tyOf_mem h
  simp only [tyL,List.mem_cons,List.not_mem_nil,or_false,Prod.mk.injEq] at h
  rcases h with ⟨rfl,rfl⟩|⟨rfl,rfl⟩|⟨rfl,rfl⟩|⟨rfl,rfl⟩|⟨rfl,rfl⟩|⟨rfl,rfl⟩|⟨rfl,rfl⟩|⟨rfl,rfl⟩|⟨rfl,rfl⟩|⟨rfl,rfl⟩|⟨rfl,rfl⟩|⟨rfl,rfl⟩|⟨rfl,rfl⟩|⟨rfl,rfl⟩|⟨rfl,rfl⟩|⟨rfl,rfl⟩|⟨rfl,rfl⟩|⟨rfl,rfl⟩|⟨rfl,rfl⟩|⟨rfl,rfl⟩|⟨rfl,rfl⟩|⟨rfl,rfl⟩|⟨rfl,rfl⟩|⟨rfl,rfl⟩|⟨rfl,rfl⟩|⟨rfl,rfl⟩|⟨rfl,rfl⟩|⟨rfl,rfl⟩|⟨rfl,rfl⟩|⟨rfl,rfl⟩|⟨rfl,rfl⟩|⟨rfl,rfl⟩|⟨rfl,rfl⟩|⟨rfl,rfl⟩|⟨rfl,rfl⟩
  · exact tf3
  · exact tf4
  · exact tf22
  · exact tf24
  · exact tf26
  · exact tf28
  · exact tf30
  · exact tf35
  · exact tf36
  · exact tf38
  · exact tf43
  · exact tf48
  · exact tf50
  · exact tf55
  · exact tf59
  · exact tf61
  · exact tf70
  · exact tf95
  · exact tf97
  · exact tf98
  · exact tf107
  · exact tf111
  · exact tf112
  · exact tf115
  · exact tf117
  · exact tf123
  · exact tf137
  · exact tf142
  · exact tf144
  · exact tf149
  · exact tf150
  · exact tf165
  · exact tf166
  · exact tf167
  · exact tf170
end Go.Sym.B
namespace Go.Sym.C
def Sm (q:Rat):Prop:=q.num≤1099511627776∧-1099511627776≤q.num∧q.den≤1048576
def Bd (B:Nat) (q:Rat):Prop:=q.den ∣ 27720∧q.num≤B * q.den∧-(B * q.den:Int)≤q.num
theorem Bd.sm {B:Nat} {q:Rat} (h:Bd B q) (hB:B≤10000000):Sm q:=by
  obtain ⟨h1,h2,h3⟩:=h
  have hd:q.den≤27720:=Nat.le_of_dvd (by decide) h1
  have h4:B * q.den≤10000000 * 27720:=Nat.mul_le_mul hB hd
  generalize hx:B * q.den=x at h4
  have hx':(B:Int) * q.den=x:=by rw [← hx];simp
  rw [hx'] at h2 h3
  refine ⟨?_, ?_,by omega⟩ <;> omega
theorem Bd.mono {B C:Nat} {q:Rat} (h:Bd B q) (hB:B≤C):Bd C q:=by
  obtain ⟨h1,h2,h3⟩:=h
  have h4:(B:Int) * q.den≤C * q.den:=by exact_mod_cast Nat.mul_le_mul_right _ hB
  exact ⟨h1,by omega,by omega⟩
theorem den_pos (q:Rat):0 < (q.den:Int):=by have:=q.den_nz;omega
theorem den_ne (q:Rat):(q.den:Int) ≠ 0:=by have:=q.den_nz;omega
theorem mk_num {a b:Int} (hb:0 < b):(mkRat a b.toNat).num=a.tdiv (Nat.gcd a.natAbs b.toNat):=by
  have h0:b.toNat ≠ 0:=by omega
  rw [Rat.num_mkRat,if_neg h0,Nat.gcd_comm]
  have hd:((Nat.gcd a.natAbs b.toNat:Nat):Int) ∣ a:=by
    have:=Nat.gcd_dvd_left a.natAbs b.toNat
    exact Int.ofNat_dvd_left.2 this
  exact (Int.tdiv_eq_ediv_of_dvd hd).symm
theorem mk_den {a b:Int} (hb:0 < b):((mkRat a b.toNat).den:Int)=b.tdiv (Nat.gcd a.natAbs b.toNat):=by
  have h0:b.toNat ≠ 0:=by omega
  rw [Rat.den_mkRat,if_neg h0,Nat.gcd_comm,Int.natCast_ediv]
  rw [show ((b.toNat:Nat):Int)=b by omega]
  exact (Int.tdiv_eq_ediv_of_nonneg (by omega)).symm
theorem ic (n:Nat):(((n:Nat):Int):Rat)=(n:Rat):=Rat.intCast_natCast n
theorem mul_le {a b c:Rat} (h:0 < c):a * c≤b * c ↔ a≤b:=by rw [← Rat.not_lt,← Rat.not_lt,Rat.mul_lt_mul_right h]
theorem mk_eq {a b:Int} (hb:0 < b):mkRat a b.toNat=(a:Rat) / (b:Rat):=by
  rw [Rat.mkRat_eq_div,← ic,show ((b.toNat:Nat):Int)=b by omega]
theorem q_mul (q:Rat):q * ((q.den:Int):Rat)=(q.num:Rat):=by
  have g:((q.den:Nat):Rat) ≠ 0:=by exact_mod_cast q.den_nz
  have:q=(q.num:Rat) / ((q.den:Nat):Rat):=by rw [← Rat.mkRat_eq_div,Rat.mkRat_self]
  rw [ic]
  generalize ((q.den:Nat):Rat)=d at *
  generalize (q.num:Rat)=n at *
  grind
theorem ne_cast {b:Int} (h:b ≠ 0):(b:Rat) ≠ 0:=by exact_mod_cast h
theorem add_mk (q r:Rat):mkRat (q.num * r.den+r.num * q.den) ((q.den:Int) * r.den).toNat=q+r:=by
  have h1:=den_pos q
  have h2:=den_pos r
  rw [mk_eq (Int.mul_pos h1 h2)]
  have g1:=ne_cast (den_ne q)
  have g2:=ne_cast (den_ne r)
  have e1:=q_mul q
  have e2:=q_mul r
  simp only [Rat.intCast_add,Rat.intCast_mul]
  generalize ((q.den:Int):Rat)=d at *
  generalize ((r.den:Int):Rat)=c at *
  generalize (q.num:Rat)=n at *
  generalize (r.num:Rat)=m at *
  grind
theorem mul_mk (q:Rat) (n:Int):mkRat (q.num * n) ((q.den:Int)).toNat=q * n:=by
  rw [mk_eq (den_pos q)]
  have g1:=ne_cast (den_ne q)
  have e1:=q_mul q
  simp only [Rat.intCast_mul]
  generalize ((q.den:Int):Rat)=d at *
  generalize (q.num:Rat)=n at *
  grind
theorem num_pos {r:Rat} (h:0 < r.num):r ≠ 0:=fun e=>by rw [e] at h;exact absurd h (by decide)
theorem div_mk (q r:Rat) (h:0 < r.num):mkRat (q.num * r.den) ((q.den:Int) * r.num).toNat=q / r:=by
  rw [mk_eq (Int.mul_pos (den_pos q) h)]
  have g1:=ne_cast (den_ne q)
  have g2:=ne_cast (den_ne r)
  have g3:=ne_cast (show r.num ≠ 0 by omega)
  have e1:=q_mul q
  have e2:=q_mul r
  have g4:=num_pos h
  simp only [Rat.intCast_mul]
  generalize ((q.den:Int):Rat)=d at *
  generalize ((r.den:Int):Rat)=c at *
  generalize (q.num:Rat)=n at *
  generalize (r.num:Rat)=m at *
  grind
theorem den_of {q:Rat} {n:Int} {d:Nat} (hd:d ≠ 0) (h:q * (d:Rat)=n):q.den ∣ d:=by
  have:q=mkRat n d:=by
    rw [Rat.mkRat_eq_div]
    have g:((d:Nat):Rat) ≠ 0:=by exact_mod_cast hd
    generalize ((d:Nat):Rat)=c at *
    grind
  rw [this,Rat.den_mkRat,if_neg hd]
  exact Nat.div_dvd_of_dvd (Nat.gcd_dvd_left _ _)
theorem whole_of {q:Rat} (h:q.den ∣ 27720):∃ n:Int,q * ((27720:Nat):Rat)=n:=by
  obtain ⟨k,hk⟩:=h
  refine ⟨q.num * k, ?_⟩
  have e1:=q_mul q
  rw [hk,ic] at *
  simp only [Rat.natCast_mul,Rat.intCast_mul,ic]
  grind
theorem den_add {q r:Rat} (h:q.den ∣ 27720) (h':r.den ∣ 27720):(q+r).den ∣ 27720:=by
  obtain ⟨n,hn⟩:=whole_of h
  obtain ⟨m,hm⟩:=whole_of h'
  refine den_of (n:=n+m) (by decide) ?_
  simp only [Rat.intCast_add]
  rw [← hn,← hm]
  generalize ((27720:Nat):Rat)=d
  grind
theorem den_neg {q:Rat} (h:q.den ∣ 27720):(-q).den ∣ 27720:=by simpa using h
theorem den_sub {q r:Rat} (h:q.den ∣ 27720) (h':r.den ∣ 27720):(q - r).den ∣ 27720:=by
  rw [Rat.sub_eq_add_neg];exact den_add h (den_neg h')
theorem den_muli {q:Rat} (n:Int) (h:q.den ∣ 27720):(q * n).den ∣ 27720:=by
  obtain ⟨m,hm⟩:=whole_of h
  refine den_of (n:=m * n) (by decide) ?_
  simp only [Rat.intCast_mul]
  rw [← hm]
  generalize ((27720:Nat):Rat)=d
  grind
theorem bd_iff {B:Nat} {q:Rat}:Bd B q ↔ q.den ∣ 27720∧q≤(B:Rat)∧-(B:Rat)≤q:=by
  have hp:(0:Rat) < ((q.den:Int):Rat):=by exact_mod_cast den_pos q
  have e:=q_mul q
  have k1:q≤(B:Rat) ↔ q.num≤B * q.den:=by
    rw [← mul_le hp,e]
    rw [show (B:Rat) * ((q.den:Int):Rat)=(((B:Int) * (q.den:Int):Int):Rat) by rw [Rat.intCast_mul,ic B]]
    exact Rat.intCast_le_intCast
  have k2:-(B:Rat)≤q ↔ -(B * q.den:Int)≤q.num:=by
    rw [← mul_le hp,e]
    rw [show -(B:Rat) * ((q.den:Int):Rat)=((-((B:Int) * (q.den:Int)):Int):Rat) by rw [Rat.intCast_neg,Rat.intCast_mul,ic B,Rat.neg_mul]]
    exact Rat.intCast_le_intCast
  unfold Bd
  rw [k1,k2]
theorem Bd.add {B C:Nat} {q r:Rat} (h:Bd B q) (h':Bd C r):Bd (B+C) (q+r):=by
  rw [bd_iff] at *
  refine ⟨den_add h.1 h'.1, ?_, ?_⟩ <;> simp only [Rat.natCast_add] <;> grind
theorem Bd.sub {B C:Nat} {q r:Rat} (h:Bd B q) (h':Bd C r):Bd (B+C) (q - r):=by
  rw [bd_iff] at *
  refine ⟨den_sub h.1 h'.1, ?_, ?_⟩ <;> simp only [Rat.natCast_add] <;> grind
theorem Bd.muli {B C:Nat} {q:Rat} {n:Int} (h:Bd B q) (h1:n≤C) (h2:-(C:Int)≤n):Bd (B * C) (q * n):=by
  rw [bd_iff] at *
  have g1:(n:Rat)≤(C:Rat):=by have:((n:Int):Rat)≤((C:Int):Rat):=Rat.intCast_le_intCast.2 h1;rwa [ic] at this
  have g2:-(C:Rat)≤(n:Rat):=by have:((-(C:Int):Int):Rat)≤((n:Int):Rat):=Rat.intCast_le_intCast.2 h2;rwa [Rat.intCast_neg,ic] at this
  have g3:(0:Rat)≤(B:Rat):=by exact_mod_cast Nat.zero_le B
  have g4:(0:Rat)≤(C:Rat):=by exact_mod_cast Nat.zero_le C
  refine ⟨den_muli n h.1, ?_, ?_⟩ <;> simp only [Rat.natCast_mul]
  · have a1:(0:Rat)≤(B - q) * (C+n):=Rat.mul_nonneg (by grind) (by grind)
    have a2:(0:Rat)≤(B+q) * (C - n):=Rat.mul_nonneg (by grind) (by grind)
    grind
  · have a1:(0:Rat)≤(B - q) * (C - n):=Rat.mul_nonneg (by grind) (by grind)
    have a2:(0:Rat)≤(B+q) * (C+n):=Rat.mul_nonneg (by grind) (by grind)
    grind
theorem mk_num_le {a b:Int} (hb:0 < b):(mkRat a b.toNat).num.natAbs≤a.natAbs:=by
  rw [mk_num hb];exact Int.natAbs_tdiv_le_natAbs _ _
theorem mk_den_le {a b:Int} (hb:0 < b):((mkRat a b.toNat).den:Int)≤b:=by
  rw [mk_den hb,Int.tdiv_eq_ediv_of_nonneg (by omega)]
  exact Int.ediv_le_self _ (by omega)
theorem sm_div {q r:Rat} {B:Nat} (hq:Bd B q) (hB:B≤1000000) (h0:0 < r.num) (h1:r.num≤20) (h2:r.den≤12):Sm (q / r):=by
  rw [← div_mk q r h0]
  have hd:=den_pos q
  have hp:0 < (q.den:Int) * r.num:=Int.mul_pos hd h0
  have g1:=mk_num_le (a:=q.num * r.den) hp
  have g2:=mk_den_le (a:=q.num * r.den) hp
  obtain ⟨k1,k2,k3⟩:=hq
  have k4:q.den≤27720:=Nat.le_of_dvd (by decide) k1
  have k5:B * q.den≤1000000 * 27720:=Nat.mul_le_mul hB k4
  have k6:q.num.natAbs≤1000000 * 27720:=by
    have:((B * q.den:Nat):Int)≤((1000000 * 27720:Nat):Int):=Int.ofNat_le.2 k5
    rw [Int.natCast_mul] at this
    omega
  have k7:(q.num * r.den).natAbs≤1000000 * 27720 * 12:=by
    rw [Int.natAbs_mul]
    exact Nat.mul_le_mul k6 (by simpa using h2)
  have k8:(q.den:Int) * r.num≤27720 * 20:=Int.mul_le_mul (by omega) h1 (by omega) (by omega)
  refine ⟨?_, ?_, ?_⟩ <;> omega
theorem sm_floor {q:Rat} (h:Sm q):Sm (q.floor:Rat):=by
  obtain ⟨h1,h2,h3⟩:=h
  have hd:=den_pos q
  have e:q.floor=q.num / q.den:=Rat.floor_def q
  have g1:q.num / (q.den:Int)≤1099511627776:=by
    have:=Int.ediv_le_ediv hd h1
    have:=Int.ediv_le_self (q.den:Int) (show (0:Int)≤1099511627776 by decide)
    omega
  have g2:-1099511627776≤q.num / (q.den:Int):=by
    rw [Int.le_ediv_iff_mul_le hd]
    have:(1099511627776:Int) * 1≤1099511627776 * q.den:=Int.mul_le_mul_of_nonneg_left (by omega) (by decide)
    omega
  refine ⟨by rw [Rat.num_intCast,e];exact g1,by rw [Rat.num_intCast,e];exact g2,by rw [Rat.den_intCast];decide⟩
theorem bd_zero (B:Nat):Bd B 0:=by
  refine ⟨?_, ?_, ?_⟩
  · exact ⟨27720,rfl⟩
  · show (0:Int)≤B * 1;omega
  · show -((B:Int) * 1)≤0;omega
def qsum (l:List Rat):Rat:=l.foldl (·+·) 0
theorem qsum_snoc (l:List Rat) (x:Rat):qsum (l++[x])=qsum l+x:=by simp [qsum]
theorem foldl_bd {B:Nat}:∀ (l:List Rat) (C:Nat) (a:Rat),Bd C a→(∀ q ∈ l,Bd B q)→Bd (C+l.length * B) (l.foldl (·+·) a)
  |[],C,a,ha,_=>by simpa using ha
  |x :: l,C,a,ha,h=>by
    have:=foldl_bd l (C+B) (a+x) (ha.add (h x (by simp))) fun q hq=>h q (by simp [hq])
    rwa [show C+(x :: l).length * B=C+B+l.length * B by rw [List.length_cons,Nat.add_mul];omega]
theorem qsum_bd {B:Nat} (l:List Rat) (h:∀ q ∈ l,Bd B q):Bd (l.length * B) (qsum l):=by
  have:=foldl_bd l 0 0 (bd_zero 0) h
  rwa [Nat.zero_add] at this
end Go.Sym.C
namespace Go.Sym.B
open Go Go.Sym Go.Proofs Go.Sym.C
structure Sh where
  num:Int
  den:Int
deriving DecidableEq,Inhabited
structure Ent where
  day:Int
  kind:Int
  coin:Int
  to:Int
  amount:Int
  got:Int
deriving DecidableEq,Inhabited
structure Led where
  coins:List (List Int)
  rates:List (List Sh)
  start:List Int
  entries:List Ent
deriving DecidableEq,Inhabited
def eInt (n:Int):List DV:=[.v (.int .i64 n)]
def eSh (b:Sh):List DV:=[.v (.int .i64 b.num),.v (.int .i64 b.den)]
def eEnt (x:Ent):List DV:=[.v (.int .i64 x.day),.v (.int .i64 x.kind),.v (.int .i64 x.coin),.v (.int .i64 x.to),.v (.int .i64 x.amount),.v (.int .i64 x.got)]
def eInts (l:List Int):List DV:=[.sl (l.map eInt)]
def eShs (l:List Sh):List DV:=[.sl (l.map eSh)]
def eIntss (l:List (List Int)):List DV:=[.sl (l.map eInts)]
def dI:DV→Int
  |.v (.int _ n)=>n
  |_=>0
def dL:DV→List (List DV)
  |.sl xs=>xs
  |_=>[]
def dInt (r:List DV):Int:=dI (r.headD (.sl []))
def dSh:List DV→Sh
  |[a,b]=>⟨dI a,dI b⟩
  |_=>default
def dEnt:List DV→Ent
  |[a,b,c,d,e,f]=>⟨dI a,dI b,dI c,dI d,dI e,dI f⟩
  |_=>default
def dInts:List DV→List Int
  |[a]=>(dL a).map dInt
  |_=>[]
def dShs:List DV→List Sh
  |[a]=>(dL a).map dSh
  |_=>[]
theorem dInt_e (n:Int):dInt (eInt n)=n:=rfl
theorem dSh_e (b:Sh):dSh (eSh b)=b:=rfl
theorem dEnt_e (b:Ent):dEnt (eEnt b)=b:=rfl
theorem mInt (l:List Int):(l.map eInt).map dInt=l:=by simp [Function.comp_def,dInt_e]
theorem mSh (l:List Sh):(l.map eSh).map dSh=l:=by simp [Function.comp_def,dSh_e]
theorem mEnt (l:List Ent):(l.map eEnt).map dEnt=l:=by simp [Function.comp_def,dEnt_e]
theorem dInts_e (l:List Int):dInts (eInts l)=l:=mInt l
theorem dShs_e (l:List Sh):dShs (eShs l)=l:=mSh l
theorem mInts (l:List (List Int)):(l.map eInts).map dInts=l:=by simp [Function.comp_def,dInts_e]
theorem mShs (l:List (List Sh)):(l.map eShs).map dShs=l:=by simp [Function.comp_def,dShs_e]
theorem gInt (l:List Int) (n:Nat):(l.map eInt).getD n [.v (.int .i64 0)]=eInt (l.getD n 0):=getD_mapD eInt l n 0
theorem gSh (l:List Sh) (n:Nat):(l.map eSh).getD n [.v (.int .i64 0),.v (.int .i64 0)]=eSh (l.getD n default):=getD_mapD eSh l n default
theorem gEnt (l:List Ent) (n:Nat):(l.map eEnt).getD n [.v (.int .i64 0),.v (.int .i64 0),.v (.int .i64 0),.v (.int .i64 0),.v (.int .i64 0),.v (.int .i64 0)]=eEnt (l.getD n default):=getD_mapD eEnt l n default
theorem gInts (l:List (List Int)) (n:Nat):(l.map eInts).getD n [.sl []]=eInts (l.getD n []):=getD_mapD eInts l n []
theorem gShs (l:List (List Sh)) (n:Nat):(l.map eShs).getD n [.sl []]=eShs (l.getD n []):=getD_mapD eShs l n []
theorem gIntss (l:List (List (List Int))) (n:Nat):(l.map eIntss).getD n [.sl []]=eIntss (l.getD n []):=getD_mapD eIntss l n []
theorem rInt (l:List Int):rowsOK 1 (l.map eInt)=True:=rowsOK_map (f:=eInt) (k:=1) (fun _=>rfl) l
theorem rSh (l:List Sh):rowsOK 2 (l.map eSh)=True:=rowsOK_map (f:=eSh) (k:=2) (fun _=>rfl) l
theorem rEnt (l:List Ent):rowsOK 6 (l.map eEnt)=True:=rowsOK_map (f:=eEnt) (k:=6) (fun _=>rfl) l
theorem rInts (l:List (List Int)):rowsOK 1 (l.map eInts)=True:=rowsOK_map (f:=eInts) (k:=1) (fun _=>rfl) l
theorem rShs (l:List (List Sh)):rowsOK 1 (l.map eShs)=True:=rowsOK_map (f:=eShs) (k:=1) (fun _=>rfl) l
theorem rIntss (l:List (List (List Int))):rowsOK 1 (l.map eIntss)=True:=rowsOK_map (f:=eIntss) (k:=1) (fun _=>rfl) l
def aI (n:Int):AV:=.v (.int .i64 n)
def aB (b:Bool):AV:=.v (.bool b)
def aSh (s:Sh):AV:=.agg [.v (.int .i64 s.num),.v (.int .i64 s.den)]
def aEnt (x:Ent):AV:=.agg [.v (.int .i64 x.day),.v (.int .i64 x.kind),.v (.int .i64 x.coin),.v (.int .i64 x.to),.v (.int .i64 x.amount),.v (.int .i64 x.got)]
def aInts (l:List Int):AV:=.sl (l.map eInt)
def aShs (l:List Sh):AV:=.sl (l.map eSh)
def aIntss (l:List (List Int)):AV:=.sl (l.map eInts)
def cLed (l:Led):List AV:=[.sl (l.coins.map eInts),.sl (l.rates.map eShs),.sl (l.start.map eInt),.sl (l.entries.map eEnt)]
def aLed (l:Led):AV:=.agg (cLed l)
def shQ (q:Rat):Sh:=⟨q.num,q.den⟩
theorem Fn0 {fn:Func} {c:Code} {f:FuncId} (hf:Try.prog.funcs[f]?=some fn) (hb:fn.body=some c) (he:∀ vs w,(callFunc f vs).run Try.prog w=.ok (.enter f vs) w) (hd:dstOK fn.ntmps c=true):FnData Try.prog tyB f fn c:=⟨tyB_ok,hf,hb,he,hd⟩
theorem mkEnv {L:List (FuncId × Entry)} {A:Frm→Prop} (h:allOK A Try.prog L):Env A Try.prog tyB (tab L):=⟨tyB_ok,tab_ok h,by kernel_rfl⟩
theorem z0 {a b:Int} (h:-9223372036854775808≤a+b∧a+b < 9223372036854775808):IntKind.wrap .i64 (a+b)=a+b:=wrap64 h.1 h.2
end Go.Sym.B
namespace Go.Sym.B
open Go Go.Sym Go.Proofs Go.Sym.C
def inB (n a b:Int):Bool:=decide (a≤n) && decide (n≤b)
def s79:List AV→Prop × AV
  |[.v (.int .i64 n),.v (.int .i64 a),.v (.int .i64 b)]=>(True,aB (inB n a b))
  |_=>(False,.junk)
def tbF1_79:=kj @ty3 @ti3.eq_1
def xbF1_1:=kj @aI.eq_1 (kj @aB.eq_1 (kj @aSh.eq_1 (@shQ.eq_1)))
theorem in_fn (n a b:Int):FnV Try.prog 79 [aI n,aI a,aI b] (aB (inB n a b)):=by
  have env:Env (fun _=>True) Try.prog tyB (tab []):=mkEnv trivial
  refine Fn.of (A:=fun _=>True) (n0:=0) (D:=noD) (Fn0 Try.func79 rfl (fun vs w=>by kernel_rfl) (by kernel_rfl)) (by simp) (by simp [AV.ids,aI]) (fun i o h=>by cases h) (fun _ _ _ _=>trivial) noD_ok ?_
  repeat' (first|(apply nx;with_reducible constructor)|refine jq (by decide) ?_|((first|refine kx env fun Q hQ=>?_|refine kz fun Q hQ=>?_);simp only [vkt,seval,tbF1_79,xbF1_1];(try simp only [ite_and]);(repeat' (first|with_reducible assumption|refine And.intro ?_ ?_|intro hp));all_goals (first|(refine hQ _ ?_;clear hQ Q)|(refine hQ _ (fun h=>?_) (fun h=>?_) <;> clear hQ Q <;> (try simp only [vki,reduceCtorEq] at h))|omega|assumption|with_reducible rfl|(refine kq ?_;kernel_rfl)|skip)))
  all_goals (simp only [vrt,Try.results79,vkt,seval,tbF1_79,xbF1_1];refine Fin.val rfl ?_;(try simp only [AV.le,AV.leL]))
  all_goals simp [inB, *]
theorem e79 {A:Frm→Prop}:EntryOK A Try.prog 79 (valE true s79):=valE_ok fun vs _ h=>by
  unfold s79 at h ⊢
  split at h
  · exact ⟨trivial,fun _=>trivial,in_fn _ _ _⟩
  · exact h.elim
def countedE (n a b:Int):Int:=if n < a then 7 else if b < n then 6 else 0
def s78:List AV→Prop × AV
  |[.v (.int .i64 n),.v (.int .i64 a),.v (.int .i64 b)]=>(True,aI (countedE n a b))
  |_=>(False,.junk)
def tbF1_78:=kj @ty3 @ti3.eq_1
theorem counted_fn (n a b:Int):FnV Try.prog 78 [aI n,aI a,aI b] (aI (countedE n a b)):=by
  have env:Env (fun _=>True) Try.prog tyB (tab []):=mkEnv trivial
  refine Fn.of (A:=fun _=>True) (n0:=0) (D:=noD) (Fn0 Try.func78 rfl (fun vs w=>by kernel_rfl) (by kernel_rfl)) (by simp) (by simp [AV.ids,aI]) (fun i o h=>by cases h) (fun _ _ _ _=>trivial) noD_ok ?_
  repeat' (first|(apply nx;with_reducible constructor)|refine jq (by decide) ?_|((first|refine kx env fun Q hQ=>?_|refine kz fun Q hQ=>?_);simp only [vkt,seval,tbF1_78,xbF1_1];(try simp only [ite_and]);(repeat' (first|with_reducible assumption|refine And.intro ?_ ?_|intro hp));all_goals (first|(refine hQ _ ?_;clear hQ Q)|(refine hQ _ (fun h=>?_) (fun h=>?_) <;> clear hQ Q <;> (try simp only [vki,reduceCtorEq] at h))|omega|assumption|with_reducible rfl|(refine kq ?_;kernel_rfl)|skip)))
  all_goals (simp only [vrt,Try.results78,vkt,seval,tbF1_78,xbF1_1];refine Fin.val rfl ?_;(try simp only [AV.le,AV.leL]))
  all_goals (unfold countedE;simp [*])
  all_goals omega
theorem e78 {A:Frm→Prop}:EntryOK A Try.prog 78 (valE true s78):=valE_ok fun vs _ h=>by
  unfold s78 at h ⊢
  split at h
  · exact ⟨trivial,fun _=>trivial,counted_fn _ _ _⟩
  · exact h.elim
theorem tdiv_lo {a x:Int} (h:-9223372036854775807≤a) (h':a < 9223372036854775808):-9223372036854775807≤a.tdiv x:=by
  have h1:=Int.natAbs_tdiv_le_natAbs a x
  omega
theorem tdiv_hi {a x:Int} (h:-9223372036854775808 < a) (h':a < 9223372036854775808):a.tdiv x < 9223372036854775808:=by
  have h1:=Int.natAbs_tdiv_le_natAbs a x
  omega
theorem tdiv_fit {a x:Int} (h:-9223372036854775808 < a) (h':a < 9223372036854775808):IntKind.wrap .i64 (a.tdiv x)=a.tdiv x:=by
  have h1:=Int.natAbs_tdiv_le_natAbs a x
  exact wrap64 (by omega) (by omega)
theorem tdiv_neg {a x:Int} (hx:0 < x) (h:a.tmod x < 0):a.tdiv x - 1=a / x:=by
  have h1:=Int.mul_tdiv_add_tmod a x
  have h2:=Int.mul_ediv_add_emod a x
  have h3:=Int.emod_nonneg a (show x ≠ 0 by omega)
  have h4:=Int.emod_lt_of_pos a hx
  have h5:-x < a.tmod x:=Int.lt_tmod_of_pos a hx
  generalize a.tdiv x=p at *
  generalize a / x=q at *
  have k1:x * (p - q) < x * 2:=by rw [Int.mul_sub];omega
  have k2:x * 0 < x * (p - q):=by rw [Int.mul_sub];omega
  have:=Int.lt_of_mul_lt_mul_left k1 (by omega)
  have:=Int.lt_of_mul_lt_mul_left k2 (by omega)
  omega
theorem tdiv_pos {a x:Int} (hx:0 < x) (h:¬ a.tmod x < 0):a.tdiv x=a / x:=by
  have h1:=Int.mul_tdiv_add_tmod a x
  have h2:=Int.mul_ediv_add_emod a x
  have h3:=Int.emod_nonneg a (show x ≠ 0 by omega)
  have h4:=Int.emod_lt_of_pos a hx
  have h5:a.tmod x < x:=Int.tmod_lt_of_pos a hx
  generalize a.tdiv x=p at *
  generalize a / x=q at *
  have k1:x * (p - q) < x * 1:=by rw [Int.mul_sub];omega
  have k2:x * (-1) < x * (p - q):=by rw [Int.mul_sub];omega
  have:=Int.lt_of_mul_lt_mul_left k1 (by omega)
  have:=Int.lt_of_mul_lt_mul_left k2 (by omega)
  omega
theorem mul_bd' {a d:Int} (h1:a≤1099511627776) (h2:-1099511627776≤a) (h3:d≤1048576) (h4:-1048576≤d):-1152921504606846976≤a * d∧a * d≤1152921504606846976:=by
  have h5:(a * d).natAbs≤1099511627776 * 1048576:=by rw [Int.natAbs_mul];exact Nat.mul_le_mul (by omega) (by omega)
  omega
theorem mul_bd {a d:Int} (h1:a≤1099511627776) (h2:-1099511627776≤a) (h3:0 < d) (h4:d≤1048576):-1152921504606846976≤a * d∧a * d≤1152921504606846976:=mul_bd' h1 h2 h4 (by omega)
def OfOk (a b:Int):Prop:=-9223372036854775808 < a∧a < 9223372036854775808∧0 < b∧b < 9223372036854775808
def FlOk (q:Rat):Prop:=-9223372036854775807 < q.num∧q.num < 9223372036854775808∧(q.den:Int) < 9223372036854775808
def ofI (a b:Int):Type:={ p:Int × Int // 0≤p.1∧0≤p.2∧Nat.gcd p.1.toNat p.2.toNat=Nat.gcd a.natAbs b.toNat∧(0 < p.1∨0 < p.2) }
def ofS (a b x y:Int):St:={ t:=asg [(0,aI a),(1,aI b),(4,.ptr 0 0),(5,aI x),(6,aI y)],h:=hasg [(0,.cells [.v (.int .i64 0),.v (.int .i64 0)])],n:=1 }
def tbF1_139:=kj @ty3 (kj @ty107 (kj @ti3.eq_1 @ti107.eq_1))
def xbF1_2:=kj @aI.eq_1 (kj @aB.eq_1 (kj @aSh.eq_1 (kj @shQ.eq_1 (@ofS.eq_1))))
theorem of_fn (a b:Int) (hab:OfOk a b):FnV Try.prog 139 [aI a,aI b] (aSh (shQ (mkRat a b.toNat))):=by
  have env:Env (fun _=>True) Try.prog tyB (tab []):=mkEnv trivial
  refine Fn.of (A:=fun _=>True) (n0:=0) (D:=noD) (Fn0 Try.func139 rfl (fun vs w=>by kernel_rfl) (by kernel_rfl)) (by simp) (by simp [AV.ids,aI]) (fun i o h=>by cases h) (fun _ _ _ _=>trivial) noD_ok ?_
  obtain ⟨ha,ha',hb,hb'⟩:=hab
  have hw:IntKind.wrap .i64 (0 - a)=-a:=by rw [wrap64 (by omega) (by omega)];omega
  repeat' (first|(apply nx;with_reducible constructor)|refine jq (by decide) ?_|((first|refine kx env fun Q hQ=>?_|refine kz fun Q hQ=>?_);simp only [vkt,seval,tbF1_139,xbF1_2,hw];(try simp only [ite_and]);(repeat' (first|with_reducible assumption|refine And.intro ?_ ?_|intro hp));all_goals (first|(refine hQ _ ?_;clear hQ Q)|(refine hQ _ (fun h=>?_) (fun h=>?_) <;> clear hQ Q <;> (try simp only [vki,reduceCtorEq] at h))|omega|assumption|with_reducible rfl|(refine kq ?_;kernel_rfl)|skip)))
  refine sym_loop (ι:=ofI a b) (fun p=>ofS a b p.1.1 p.1.2) (fun p=>p.1.2.toNat) ⟨(max a (-a),b),by omega,by omega,by congr 1;omega,.inr hb⟩ ?_ fun ⟨(x,y),h1,h2,h3,h4⟩=>?_
  · (refine Le.ok some [] ?_;constructor;all_goals (try simp only [vle,vkt,seval,tbF1_139,xbF1_2]))
    all_goals simp
  · dsimp only at h1 h2 h3 h4
    repeat' (first|(apply nx;with_reducible constructor)|refine jq (by decide) ?_|((first|refine kx env fun Q hQ=>?_|refine kz fun Q hQ=>?_);simp only [vkt,seval,tbF1_139,xbF1_2];(try simp only [ite_and]);(repeat' (first|with_reducible assumption|refine And.intro ?_ ?_|intro hp));all_goals (first|(refine hQ _ ?_;clear hQ Q)|(refine hQ _ (fun h=>?_) (fun h=>?_) <;> clear hQ Q <;> (try simp only [vki,reduceCtorEq] at h))|omega|assumption|with_reducible rfl|(refine kq ?_;kernel_rfl)|skip)))
    · have hy:0 < y:=by simpa using h
      refine ⟨⟨(y,x.tmod y),by omega, ?_, ?_,.inl hy⟩, ?_, ?_⟩
      · show 0≤x.tmod y
        rw [Int.tmod_eq_emod_of_nonneg h1];exact Int.emod_nonneg _ (by omega)
      · show Nat.gcd y.toNat (x.tmod y).toNat=_
        rw [← h3,Int.tmod_eq_emod_of_nonneg h1,Int.toNat_emod h1 h2,Nat.gcd_comm y.toNat,← Nat.gcd_rec,Nat.gcd_comm]
      · show (x.tmod y).toNat < y.toNat
        rw [Int.tmod_eq_emod_of_nonneg h1]
        have:=Int.emod_lt_of_pos x hy
        omega
      · (refine Le.ok some [] ?_;constructor;all_goals (try simp only [vle,vkt,seval,tbF1_139,xbF1_2]))
        all_goals simp
    · have hy:y=0:=by omega
      subst hy
      have hg:x=((Nat.gcd a.natAbs b.toNat:Nat):Int):=by rw [← h3];simp;omega
      have w1:=tdiv_fit (x:=x) ha ha'
      have w2:=tdiv_fit (x:=x) (show -9223372036854775808 < b by omega) hb'
      (simp only [vrt,Try.results139,w1,w2,vkt,seval,tbF1_139,xbF1_2];refine Fin.val rfl ?_;(try simp only [AV.le,AV.leL]))
      rw [mk_num hb,mk_den hb,← hg]
      simp
def s139:List AV→Prop × AV
  |[.v (.int .i64 a),.v (.int .i64 b)]=>(OfOk a b,aSh (shQ (mkRat a b.toNat)))
  |_=>(False,.junk)
theorem e139 {A:Frm→Prop}:EntryOK A Try.prog 139 (valE true s139):=valE_ok fun vs _ h=>by
  unfold s139 at h ⊢
  split at h
  · exact ⟨by simp [AV.plain,AV.plainL,aSh],fun _=>by simp [AV.flat,AV.flatL,aSh],of_fn _ _ h⟩
  · exact h.elim
def tbF1_107:=kj @ty107 @ti107.eq_1
theorem whole_fn (n:Int):FnV Try.prog 107 [aI n] (aSh (shQ (n:Rat))):=by
  have env:Env (fun _=>True) Try.prog tyB (tab []):=mkEnv trivial
  refine Fn.of (A:=fun _=>True) (n0:=0) (D:=noD) (Fn0 Try.func107 rfl (fun vs w=>by kernel_rfl) (by kernel_rfl)) (by simp) (by simp [AV.ids,aI]) (fun i o h=>by cases h) (fun _ _ _ _=>trivial) noD_ok ?_
  repeat' (first|(apply nx;with_reducible constructor)|refine jq (by decide) ?_|((first|refine kx env fun Q hQ=>?_|refine kz fun Q hQ=>?_);simp only [vkt,seval,tbF1_107,xbF1_2];(try simp only [ite_and]);(repeat' (first|with_reducible assumption|refine And.intro ?_ ?_|intro hp));all_goals (first|(refine hQ _ ?_;clear hQ Q)|(refine hQ _ (fun h=>?_) (fun h=>?_) <;> clear hQ Q <;> (try simp only [vki,reduceCtorEq] at h))|omega|assumption|with_reducible rfl|(refine kq ?_;kernel_rfl)|skip)))
  (simp only [vrt,Try.results107,Rat.num_intCast,Rat.den_intCast,vkt,seval,tbF1_107,xbF1_2];refine Fin.val rfl ?_;(try simp only [AV.le,AV.leL]))
  simp
def s107:List AV→Prop × AV
  |[.v (.int .i64 a)]=>(True,aSh (shQ (a:Rat)))
  |_=>(False,.junk)
theorem e107 {A:Frm→Prop}:EntryOK A Try.prog 107 (valE true s107):=valE_ok fun vs _ h=>by
  unfold s107 at h ⊢
  split at h
  · exact ⟨by simp [AV.plain,AV.plainL,aSh],fun _=>by simp [AV.flat,AV.flatL,aSh],whole_fn _⟩
  · exact h.elim
def isQ (a b:Int):Prop:=a=(mkRat a b.toNat).num∧b=((mkRat a b.toNat).den:Int)
theorem isQ_q (q:Rat):isQ q.num (q.den:Int)=True:=by simp [isQ,Rat.mkRat_self]
theorem shQ_of {a b:Int} (h:isQ a b):aSh (shQ (mkRat a b.toNat))=.agg [.v (.int .i64 a),.v (.int .i64 b)]:=by
  simp only [aSh,shQ];rw [← h.1,← h.2]
def qI (a b:Int):Rat:=mkRat a b.toNat
theorem qI_q (q:Rat):qI q.num (q.den:Int)=q:=by simp [qI,Rat.mkRat_self]
def s138:List AV→Prop × AV
  |[.agg [.v (.int .i64 a),.v (.int .i64 b)],.agg [.v (.int .i64 c),.v (.int .i64 d)]]=>(isQ a b∧isQ c d∧Sm (qI a b)∧Sm (qI c d),aSh (shQ (qI a b+qI c d)))
  |_=>(False,.junk)
def s100:List AV→Prop × AV
  |[.agg [.v (.int .i64 a),.v (.int .i64 b)],.agg [.v (.int .i64 c),.v (.int .i64 d)]]=>(isQ a b∧isQ c d∧Sm (qI a b)∧Sm (qI c d),aSh (shQ (qI a b - qI c d)))
  |_=>(False,.junk)
def Tm (q:Rat) (n:Int):Prop:=Sm q∧n≤1048576∧-1048576≤n
def s99:List AV→Prop × AV
  |[.agg [.v (.int .i64 a),.v (.int .i64 b)],.v (.int .i64 n)]=>(isQ a b∧Tm (qI a b) n,aSh (shQ (qI a b * (n:Rat))))
  |_=>(False,.junk)
def s135:List AV→Prop × AV
  |[.agg [.v (.int .i64 a),.v (.int .i64 b)],.agg [.v (.int .i64 c),.v (.int .i64 d)]]=>(isQ a b∧isQ c d∧Sm (qI a b)∧Sm (qI c d)∧0 < (qI c d).num∧(qI c d).num≤1048576,aSh (shQ (qI a b / qI c d)))
  |_=>(False,.junk)
def s90:List AV→Prop × AV
  |[.agg [.v (.int .i64 a),.v (.int .i64 b)]]=>(isQ a b∧FlOk (qI a b),aI (qI a b).floor)
  |_=>(False,.junk)
def tbF1_138:=kj @ty3 (kj @ty107 (kj @ti3.eq_1 @ti107.eq_1))
def xbF1_3:=kj @aI.eq_1 (kj @aB.eq_1 (kj @aSh.eq_1 (kj @shQ.eq_1 (kj @s139.eq_1 (kj @s139.eq_2 (kj @s138.eq_1 (kj @s138.eq_2 (kj @s100.eq_1 (kj @s100.eq_2 (kj @s99.eq_1 (kj @s99.eq_2 (kj @s135.eq_1 (kj @s135.eq_2 (kj @isQ_q (@qI_q)))))))))))))))
theorem plus_fn (q r:Rat) (hq:Sm q) (hr:Sm r):FnV Try.prog 138 [aSh (shQ q),aSh (shQ r)] (aSh (shQ (q+r))):=by
  have env:Env (fun _=>True) Try.prog tyB (tab [(139,valE true s139)]):=mkEnv ⟨e139,trivial⟩
  refine Fn.of (A:=fun _=>True) (n0:=0) (D:=noD) (Fn0 Try.func138 rfl (fun vs w=>by kernel_rfl) (by kernel_rfl)) (by simp) (by simp [AV.ids,AV.idsL,aSh]) (fun i o h=>by cases h) (fun _ _ _ _=>trivial) noD_ok ?_
  have b1:=mul_bd hq.1 hq.2.1 (den_pos r) (Int.ofNat_le.2 hr.2.2)
  have b2:=mul_bd hr.1 hr.2.1 (den_pos q) (Int.ofNat_le.2 hq.2.2)
  have b3:=mul_bd (a:=(q.den:Int)) (by have:=hq.2.2;omega) (by omega) (den_pos r) (Int.ofNat_le.2 hr.2.2)
  have b4:=Int.mul_pos (den_pos q) (den_pos r)
  have w1:=wrap64 (n:=q.num * r.den) (by omega) (by omega)
  have w2:=wrap64 (n:=r.num * q.den) (by omega) (by omega)
  have w3:=wrap64 (n:=(q.den:Int) * r.den) (by omega) (by omega)
  have w4:=wrap64 (n:=q.num * r.den+r.num * q.den) (by omega) (by omega)
  have w5:OfOk (q.num * r.den+r.num * q.den) ((q.den:Int) * r.den):=⟨by omega,by omega,by omega,by omega⟩
  repeat' (first|(apply nx;with_reducible constructor)|refine jq (by decide) ?_|((first|refine kx env fun Q hQ=>?_|refine kz fun Q hQ=>?_);simp only [vkt,seval,tbF1_138,xbF1_3,w1,w2,w3,w4,add_mk];(try simp only [ite_and]);(repeat' (first|with_reducible assumption|refine And.intro ?_ ?_|intro hp));all_goals (first|(refine hQ _ ?_;clear hQ Q)|(refine hQ _ (fun h=>?_) (fun h=>?_) <;> clear hQ Q <;> (try simp only [vki,reduceCtorEq] at h))|omega|assumption|with_reducible rfl|(refine kq ?_;kernel_rfl)|skip)))
  (simp only [vrt,Try.results138,vkt,seval,tbF1_138,xbF1_3];refine Fin.val rfl ?_;(try simp only [AV.le,AV.leL]))
  simp
theorem e138 {A:Frm→Prop}:EntryOK A Try.prog 138 (valE true s138):=valE_ok fun vs _ h=>by
  unfold s138 at h ⊢
  split at h
  · refine ⟨by simp [AV.plain,AV.plainL,aSh],fun _=>by simp [AV.flat,AV.flatL,aSh], ?_⟩
    rw [← shQ_of h.1,← shQ_of h.2.1]
    exact plus_fn _ _ h.2.2.1 h.2.2.2
  · exact h.elim
theorem sm_neg {q:Rat} (h:Sm q):Sm (-q):=by
  refine ⟨?_, ?_, ?_⟩
  · rw [Rat.neg_num];have:=h.2.1;omega
  · rw [Rat.neg_num];have:=h.1;omega
  · rw [Rat.neg_den];exact h.2.2
def tbF1_100:=kj @ty3 (kj @ty107 (kj @ti3.eq_1 @ti107.eq_1))
theorem minus_fn (q r:Rat) (hq:Sm q) (hr:Sm r):FnV Try.prog 100 [aSh (shQ q),aSh (shQ r)] (aSh (shQ (q - r))):=by
  have env:Env (fun _=>True) Try.prog tyB (tab [(138,valE true s138)]):=mkEnv ⟨e138,trivial⟩
  refine Fn.of (A:=fun _=>True) (n0:=0) (D:=noD) (Fn0 Try.func100 rfl (fun vs w=>by kernel_rfl) (by kernel_rfl)) (by simp) (by simp [AV.ids,AV.idsL,aSh]) (fun i o h=>by cases h) (fun _ _ _ _=>trivial) noD_ok ?_
  have w1:IntKind.wrap .i64 (0 - r.num)=(-r).num:=by rw [wrap64 (by have:=hr.1;omega) (by have:=hr.2.1;omega),Rat.neg_num];omega
  have w2:(r.den:Int)=((-r).den:Int):=by rw [Rat.neg_den]
  have w3:=isQ_q (-r)
  have w4:=qI_q (-r)
  rw [← w2] at w3 w4
  have w5:=sm_neg hr
  repeat' (first|(apply nx;with_reducible constructor)|refine jq (by decide) ?_|((first|refine kx env fun Q hQ=>?_|refine kz fun Q hQ=>?_);simp only [vkt,seval,tbF1_100,xbF1_3,w1,w3,w4];(try simp only [ite_and]);(repeat' (first|with_reducible assumption|refine And.intro ?_ ?_|intro hp));all_goals (first|(refine hQ _ ?_;clear hQ Q)|(refine hQ _ (fun h=>?_) (fun h=>?_) <;> clear hQ Q <;> (try simp only [vki,reduceCtorEq] at h))|omega|assumption|with_reducible rfl|(refine kq ?_;kernel_rfl)|skip)))
  (simp only [vrt,Try.results100,Rat.sub_eq_add_neg,vkt,seval,tbF1_100,xbF1_3];refine Fin.val rfl ?_;(try simp only [AV.le,AV.leL]))
  simp
theorem e100 {A:Frm→Prop}:EntryOK A Try.prog 100 (valE true s100):=valE_ok fun vs _ h=>by
  unfold s100 at h ⊢
  split at h
  · refine ⟨by simp [AV.plain,AV.plainL,aSh],fun _=>by simp [AV.flat,AV.flatL,aSh], ?_⟩
    rw [← shQ_of h.1,← shQ_of h.2.1]
    exact minus_fn _ _ h.2.2.1 h.2.2.2
  · exact h.elim
def tbF1_99:=kj @ty3 (kj @ty107 (kj @ti3.eq_1 @ti107.eq_1))
theorem times_fn (q:Rat) (n:Int) (hq:Tm q n):FnV Try.prog 99 [aSh (shQ q),aI n] (aSh (shQ (q * (n:Rat)))):=by
  have env:Env (fun _=>True) Try.prog tyB (tab [(139,valE true s139)]):=mkEnv ⟨e139,trivial⟩
  refine Fn.of (A:=fun _=>True) (n0:=0) (D:=noD) (Fn0 Try.func99 rfl (fun vs w=>by kernel_rfl) (by kernel_rfl)) (by simp) (by simp [AV.ids,AV.idsL,aSh,aI]) (fun i o h=>by cases h) (fun _ _ _ _=>trivial) noD_ok ?_
  obtain ⟨hq,hn,hn'⟩:=hq
  have b1:-1152921504606846976≤q.num * n∧q.num * n≤1152921504606846976:=mul_bd' hq.1 hq.2.1 hn hn'
  have b2:=den_pos q
  have b3:(q.den:Int)≤1048576:=Int.ofNat_le.2 hq.2.2
  have w1:=wrap64 (n:=q.num * n) (by omega) (by omega)
  have w2:=mul_mk q n
  have w5:OfOk (q.num * n) (q.den:Int):=⟨by omega,by omega,by omega,by omega⟩
  repeat' (first|(apply nx;with_reducible constructor)|refine jq (by decide) ?_|((first|refine kx env fun Q hQ=>?_|refine kz fun Q hQ=>?_);simp only [vkt,seval,tbF1_99,xbF1_3,w1,w2];(try simp only [ite_and]);(repeat' (first|with_reducible assumption|refine And.intro ?_ ?_|intro hp));all_goals (first|(refine hQ _ ?_;clear hQ Q)|(refine hQ _ (fun h=>?_) (fun h=>?_) <;> clear hQ Q <;> (try simp only [vki,reduceCtorEq] at h))|omega|assumption|with_reducible rfl|(refine kq ?_;kernel_rfl)|skip)))
  (simp only [vrt,Try.results99,← mul_mk,vkt,seval,tbF1_99,xbF1_3];refine Fin.val rfl ?_;(try simp only [AV.le,AV.leL]))
  simp
theorem e99 {A:Frm→Prop}:EntryOK A Try.prog 99 (valE true s99):=valE_ok fun vs _ h=>by
  unfold s99 at h ⊢
  split at h
  · refine ⟨by simp [AV.plain,AV.plainL,aSh],fun _=>by simp [AV.flat,AV.flatL,aSh], ?_⟩
    rw [← shQ_of h.1]
    exact times_fn _ _ h.2
  · exact h.elim
def tbF1_135:=kj @ty3 (kj @ty107 (kj @ti3.eq_1 @ti107.eq_1))
theorem by_fn (q r:Rat) (hq:Sm q) (hr:Sm r) (h0:0 < r.num) (h1:r.num≤1048576):FnV Try.prog 135 [aSh (shQ q),aSh (shQ r)] (aSh (shQ (q / r))):=by
  have env:Env (fun _=>True) Try.prog tyB (tab [(139,valE true s139)]):=mkEnv ⟨e139,trivial⟩
  refine Fn.of (A:=fun _=>True) (n0:=0) (D:=noD) (Fn0 Try.func135 rfl (fun vs w=>by kernel_rfl) (by kernel_rfl)) (by simp) (by simp [AV.ids,AV.idsL,aSh]) (fun i o h=>by cases h) (fun _ _ _ _=>trivial) noD_ok ?_
  have b1:=mul_bd hq.1 hq.2.1 (den_pos r) (Int.ofNat_le.2 hr.2.2)
  have b3:=mul_bd (a:=(q.den:Int)) (by have:=hq.2.2;omega) (by omega) h0 h1
  have b4:=Int.mul_pos (den_pos q) h0
  have w1:=wrap64 (n:=q.num * r.den) (by omega) (by omega)
  have w3:=wrap64 (n:=(q.den:Int) * r.num) (by omega) (by omega)
  have w4:=div_mk q r h0
  have w5:OfOk (q.num * r.den) ((q.den:Int) * r.num):=⟨by omega,by omega,by omega,by omega⟩
  repeat' (first|(apply nx;with_reducible constructor)|refine jq (by decide) ?_|((first|refine kx env fun Q hQ=>?_|refine kz fun Q hQ=>?_);simp only [vkt,seval,tbF1_135,xbF1_3,w1,w3,w4];(try simp only [ite_and]);(repeat' (first|with_reducible assumption|refine And.intro ?_ ?_|intro hp));all_goals (first|(refine hQ _ ?_;clear hQ Q)|(refine hQ _ (fun h=>?_) (fun h=>?_) <;> clear hQ Q <;> (try simp only [vki,reduceCtorEq] at h))|omega|assumption|with_reducible rfl|(refine kq ?_;kernel_rfl)|skip)))
  (simp only [vrt,Try.results135,vkt,seval,tbF1_135,xbF1_3];refine Fin.val rfl ?_;(try simp only [AV.le,AV.leL]))
  simp
theorem e135 {A:Frm→Prop}:EntryOK A Try.prog 135 (valE true s135):=valE_ok fun vs _ h=>by
  unfold s135 at h ⊢
  split at h
  · refine ⟨by simp [AV.plain,AV.plainL,aSh],fun _=>by simp [AV.flat,AV.flatL,aSh], ?_⟩
    rw [← shQ_of h.1,← shQ_of h.2.1]
    exact by_fn _ _ h.2.2.1 h.2.2.2.1 h.2.2.2.2.1 h.2.2.2.2.2
  · exact h.elim
def tbF1_90:=kj @ty3 (kj @ty107 (kj @ti3.eq_1 @ti107.eq_1))
theorem floor_fn (q:Rat) (hq:FlOk q):FnV Try.prog 90 [aSh (shQ q)] (aI q.floor):=by
  have env:Env (fun _=>True) Try.prog tyB (tab []):=mkEnv trivial
  refine Fn.of (A:=fun _=>True) (n0:=0) (D:=noD) (Fn0 Try.func90 rfl (fun vs w=>by kernel_rfl) (by kernel_rfl)) (by simp) (by simp [AV.ids,AV.idsL,aSh]) (fun i o h=>by cases h) (fun _ _ _ _=>trivial) noD_ok ?_
  obtain ⟨h1,h2,h3⟩:=hq
  have hd:=den_pos q
  have w1:IntKind.wrap .i64 (q.num.tdiv q.den)=q.num.tdiv q.den:=tdiv_fit (by omega) h2
  have hd0:(q.den:Int) ≠ 0:=by omega
  repeat' (first|(apply nx;with_reducible constructor)|refine jq (by decide) ?_|((first|refine kx env fun Q hQ=>?_|refine kz fun Q hQ=>?_);simp only [vkt,seval,tbF1_90,xbF1_3,w1];(try simp only [ite_and]);(repeat' (first|with_reducible assumption|refine And.intro ?_ ?_|intro hp));all_goals (first|(refine hQ _ ?_;clear hQ Q)|(refine hQ _ (fun h=>?_) (fun h=>?_) <;> clear hQ Q <;> (try simp only [vki,reduceCtorEq] at h))|omega|assumption|with_reducible rfl|(refine kq ?_;kernel_rfl)|skip)))
  · have e1:q.floor=q.num.tdiv q.den - 1:=by rw [Rat.floor_def];exact (tdiv_neg hd h).symm
    have w2:IntKind.wrap .i64 (q.num.tdiv q.den - 1)=q.floor:=by rw [e1,wrap64 (by have:=tdiv_lo (x:=(q.den:Int)) (by omega) h2;omega) (by have:=tdiv_hi (x:=(q.den:Int)) (show -9223372036854775808 < q.num by omega) h2;omega)]
    (simp only [vrt,Try.results90,w2,vkt,seval,tbF1_90,xbF1_3];refine Fin.val rfl ?_;(try simp only [AV.le,AV.leL]))
    all_goals simp
  · have e1:q.floor=q.num.tdiv q.den:=by rw [Rat.floor_def];exact (tdiv_pos hd h).symm
    (simp only [vrt,Try.results90,← e1,vkt,seval,tbF1_90,xbF1_3];refine Fin.val rfl ?_;(try simp only [AV.le,AV.leL]))
    all_goals simp
theorem e90 {A:Frm→Prop}:EntryOK A Try.prog 90 (valE true s90):=valE_ok fun vs _ h=>by
  unfold s90 at h ⊢
  split at h
  · refine ⟨by simp [AV.plain,aI],fun _=>by simp [AV.flat,aI], ?_⟩
    rw [← shQ_of h.1]
    exact floor_fn _ h.2
  · exact h.elim
end Go.Sym.B
namespace Go.Sym.B
open Go Go.Sym Go.Proofs Go.Sym.C
def firstE:List Int→Int
  |[]=>0
  |e :: r=>if e=0 then firstE r else e
structure FI (E:List Int) where
  k:Nat
  le:k≤E.length
  eq:firstE (E.drop k)=firstE E
  all:∀ j,j < k→E.getD j 0=0
theorem firstE_lt {E:List Int} {k:Nat} (h:k < E.length):firstE (E.drop k)=if E.getD k 0=0 then firstE (E.drop (k+1)) else E.getD k 0:=by
  rw [List.drop_eq_getElem_cons h,firstE]
  simp [List.getD_eq_getElem?_getD,List.getElem?_eq_getElem h]
theorem firstE_ge {E:List Int} {k:Nat} (h:E.length≤k):firstE (E.drop k)=0:=by rw [List.drop_eq_nil_of_le h];rfl
def errs (n:Nat) (f:Nat→Int):List Int:=(List.range n).map f
theorem errs_len (n:Nat) (f:Nat→Int):(errs n f).length=n:=by simp [errs]
theorem errs_get {n k:Nat} (f:Nat→Int) (h:k < n):(errs n f).getD k 0=f k:=by simp [errs,List.getD_eq_getElem?_getD,h]
theorem FI.hit {n:Nat} {f:Nat→Int} (i:FI (errs n f)) (h:i.k < n) (h0:f i.k ≠ 0):firstE (errs n f)=f i.k:=by
  rw [← i.eq,firstE_lt (by rw [errs_len];exact h),errs_get f h,if_neg h0]
theorem FI.last {n:Nat} {f:Nat→Int} (i:FI (errs n f)) (h:n≤i.k):firstE (errs n f)=0:=by
  rw [← i.eq,firstE_ge (by rw [errs_len];exact h)]
def FI.zero (E:List Int):FI E:=⟨0,Nat.zero_le _,by simp,fun j h=>absurd h (Nat.not_lt_zero _)⟩
def FI.next {n:Nat} {f:Nat→Int} (i:FI (errs n f)) (h:i.k < n) (h0:f i.k=0):FI (errs n f):=⟨i.k+1,by rw [errs_len];exact h,by rw [← i.eq,firstE_lt (k:=i.k) (by rw [errs_len];exact h),errs_get f h,if_pos h0],fun j hj=>by
  rcases Nat.lt_or_eq_of_le (Nat.le_of_lt_succ hj) with h1|h1
  · exact i.all j h1
  · rw [h1,errs_get f h,h0]⟩
structure EQ {α:Type} (a b:List α) where
  k:Nat
  le:k≤a.length
  len:a.length=b.length
  eq:a.take k=b.take k
theorem EQ.differ {α:Type} {a b:List α} (i:EQ a b) {d:α} (hn:a.getD i.k d ≠ b.getD i.k d):a ≠ b:=fun e=>hn (congrArg (fun l=>l.getD i.k d) e)
def EQ.next {α:Type} {a b:List α} (i:EQ a b) {d:α} (h:i.k < a.length) (he:a.getD i.k d=b.getD i.k d):EQ a b:=⟨i.k+1,h,i.len,by
  have h':i.k < b.length:=by rw [← i.len];exact h
  rw [List.take_succ_eq_append_getElem h,List.take_succ_eq_append_getElem h',i.eq]
  simp [List.getD_eq_getElem?_getD,List.getElem?_eq_getElem h,List.getElem?_eq_getElem h'] at he
  rw [he]⟩
theorem EQ.last {α:Type} {a b:List α} (i:EQ a b) (h:a.length≤i.k):a=b:=by
  have:=i.eq
  rwa [List.take_of_length_le h,List.take_of_length_le (by rw [← i.len];exact h)] at this
def eqiS (a b:List Int) (k:Nat):St:={ t:=asg [(0,aInts a),(1,aInts b),(4,aB false),(5,aI k)],h:=hasg [],n:=0 }
def tbF2_26:=kj @ty3 (kj @ty22 (kj @ti3.eq_1 @ti22.eq_1))
def xbF2_1:=kj @aI.eq_1 (kj @aB.eq_1 (kj @aInts.eq_1 (kj @aIntss.eq_1 (kj @gInt (kj @gInts (kj @eInt.eq_1 (kj @eInts.eq_1 (@eqiS.eq_1))))))))
theorem eqInts_fn (a b:List Int) (hl:a.length≤maxLen):FnV Try.prog 26 [aInts a,aInts b] (aB (decide (a=b))):=by
  have env:Env (fun _=>True) Try.prog tyB (tab []):=mkEnv trivial
  refine Fn.of (A:=fun _=>True) (n0:=0) (D:=noD) (Fn0 Try.func26 rfl (fun vs w=>by kernel_rfl) (by kernel_rfl)) (by simp) (by simp [AV.ids,aInts]) (fun i o h=>by cases h) (fun _ _ _ _=>trivial) noD_ok ?_
  repeat' (first|(apply nx;with_reducible constructor)|refine jq (by decide) ?_|((first|refine kx env fun Q hQ=>?_|refine kz fun Q hQ=>?_);simp only [vkt,seval,tbF2_26,xbF2_1];(try simp only [ite_and]);(repeat' (first|with_reducible assumption|refine And.intro ?_ ?_|intro hp));all_goals (first|(refine hQ _ ?_;clear hQ Q)|(refine hQ _ (fun h=>?_) (fun h=>?_) <;> clear hQ Q <;> (try simp only [vki,reduceCtorEq] at h))|omega|assumption|with_reducible rfl|(refine kq ?_;kernel_rfl)|skip)))
  · (simp only [vrt,Try.results26,vkt,seval,tbF2_26,xbF2_1];refine Fin.val rfl ?_;(try simp only [AV.le,AV.leL]))
    all_goals (simp;intro e;subst e;omega)
  · have hab:a.length=b.length:=by omega
    refine sym_loop (ι:=EQ a b) (fun i=>eqiS a b i.k) (fun i=>a.length - i.k) ⟨0,Nat.zero_le _,hab,by simp⟩ ?_ fun i=>?_
    · (refine Le.ok some [] ?_;constructor;all_goals (try simp only [vle,vkt,seval,tbF2_26,xbF2_1]))
      all_goals simp
    · have hk:=i.le
      have hk2:=i.len
      repeat' (first|(apply nx;with_reducible constructor)|refine jq (by decide) ?_|((first|refine kx env fun Q hQ=>?_|refine kz fun Q hQ=>?_);simp only [vkt,seval,tbF2_26,xbF2_1];(try simp only [ite_and]);(repeat' (first|with_reducible assumption|refine And.intro ?_ ?_|intro hp));all_goals (first|(refine hQ _ ?_;clear hQ Q)|(refine hQ _ (fun h=>?_) (fun h=>?_) <;> clear hQ Q <;> (try simp only [vki,reduceCtorEq] at h))|omega|assumption|with_reducible rfl|(refine kq ?_;kernel_rfl)|skip)))
      · (simp only [vrt,Try.results26,vkt,seval,tbF2_26,xbF2_1];refine Fin.val rfl ?_;(try simp only [AV.le,AV.leL]))
        all_goals (simp;exact i.differ (d:=0) (by simpa using ‹_›))
      · have hlt:i.k < a.length:=by omega
        have he:a.getD i.k 0=b.getD i.k 0:=by simpa using ‹_›
        have e1:=wrap_succ hlt hl
        refine ⟨i.next hlt he,by show a.length - (i.k+1) < _;omega, ?_⟩
        (refine Le.ok some [] ?_;constructor;all_goals (try simp only [vle,vkt,seval,tbF2_26,xbF2_1]))
        all_goals simp [EQ.next,e1]
      · (simp only [vrt,Try.results26,vkt,seval,tbF2_26,xbF2_1];refine Fin.val rfl ?_;(try simp only [AV.le,AV.leL]))
        all_goals (simp;exact i.last (by omega))
end Go.Sym.B
namespace Go.Sym.B
open Go Go.Sym Go.Proofs Go.Sym.C
theorem slT {α β:Type} (f:α→β) (l:List α) (n:Nat):List.take n (List.map f l)=List.map f (List.take n l):=by rw [List.map_take]
theorem slD {α β:Type} (f:α→β) (l:List α) (n:Nat):List.drop n (List.map f l)=List.map f (List.drop n l):=by rw [List.map_drop]
theorem gDrop {α:Type} (l:List α) (m k:Nat) (d:α):(l.drop m).getD k d=l.getD (m+k) d:=by simp [List.getD_eq_getElem?_getD]
theorem gMem {α:Type} {l:List α} {k:Nat} {d:α} (h:k < l.length):l.getD k d ∈ l:=by
  rw [List.getD_eq_getElem?_getD,List.getElem?_eq_getElem h];exact List.getElem_mem h
theorem tmax:(20:Nat)≤maxLen:=by decide
def s26:List AV→Prop × AV
  |[.sl xs,.sl ys]=>(xs=(xs.map dInt).map eInt∧ys=(ys.map dInt).map eInt∧xs.length≤maxLen,aB (decide (xs.map dInt=ys.map dInt)))
  |_=>(False,.junk)
theorem e26 {A:Frm→Prop}:EntryOK A Try.prog 26 (valE true s26):=valE_ok fun vs hv h=>by
  clear hv
  unfold s26 at h ⊢
  split at h
  · rename_i xs ys
    refine ⟨trivial,fun _=>trivial, ?_⟩
    have:=eqInts_fn (xs.map dInt) (ys.map dInt) (by simpa using h.2.2)
    rwa [aInts,← h.1,aInts,← h.2.1] at this
  · exact h.elim
def eqrS (a b:List (List Int)) (k:Nat):St:={ t:=asg [(0,aIntss a),(1,aIntss b),(4,aB false),(5,aI k)],h:=hasg [],n:=0 }
def tbF3_36:=kj @ty3 (kj @ty22 (kj @ty28 (kj @ti3.eq_1 (kj @ti22.eq_1 @ti28.eq_1))))
def xbF3_1:=kj @aI.eq_1 (kj @aB.eq_1 (kj @aInts.eq_1 (kj @aIntss.eq_1 (kj @gInt (kj @gInts (kj @eInt.eq_1 (kj @eInts.eq_1 (kj @eqrS.eq_1 (kj @s26.eq_1 (kj @s26.eq_2 (@mInt)))))))))))
theorem eqRows_fn (a b:List (List Int)) (hl:a.length≤maxLen) (hm:∀ p ∈ a,p.length≤maxLen):FnV Try.prog 36 [aIntss a,aIntss b] (aB (decide (a=b))):=by
  have env:Env (fun _=>True) Try.prog tyB (tab [(26,valE true s26)]):=mkEnv ⟨e26,trivial⟩
  refine Fn.of (A:=fun _=>True) (n0:=0) (D:=noD) (Fn0 Try.func36 rfl (fun vs w=>by kernel_rfl) (by kernel_rfl)) (by simp) (by simp [AV.ids,aIntss]) (fun i o h=>by cases h) (fun _ _ _ _=>trivial) noD_ok ?_
  repeat' (first|(apply nx;with_reducible constructor)|refine jq (by decide) ?_|((first|refine kx env fun Q hQ=>?_|refine kz fun Q hQ=>?_);simp only [vkt,seval,tbF3_36,xbF3_1];(try simp only [ite_and]);(repeat' (first|with_reducible assumption|refine And.intro ?_ ?_|intro hp));all_goals (first|(refine hQ _ ?_;clear hQ Q)|(refine hQ _ (fun h=>?_) (fun h=>?_) <;> clear hQ Q <;> (try simp only [vki,reduceCtorEq] at h))|omega|assumption|with_reducible rfl|(refine kq ?_;kernel_rfl)|skip)))
  · (simp only [vrt,Try.results36,vkt,seval,tbF3_36,xbF3_1];refine Fin.val rfl ?_;(try simp only [AV.le,AV.leL]))
    all_goals (simp;intro e;subst e;omega)
  · have hab:a.length=b.length:=by omega
    refine sym_loop (ι:=EQ a b) (fun i=>eqrS a b i.k) (fun i=>a.length - i.k) ⟨0,Nat.zero_le _,hab,by simp⟩ ?_ fun i=>?_
    · (refine Le.ok some [] ?_;constructor;all_goals (try simp only [vle,vkt,seval,tbF3_36,xbF3_1]))
      all_goals simp
    · have hk:=i.le
      have hk2:=i.len
      have hp:i.k < a.length→(a.getD i.k []).length≤maxLen:=fun h=>hm _ (gMem h)
      repeat' (first|(apply nx;with_reducible constructor)|refine jq (by decide) ?_)
      (refine kx env fun Q hQ=>?_;simp only [vkt,seval,tbF3_36,xbF3_1];(try simp only [ite_and]);(repeat' (first|with_reducible assumption|refine And.intro ?_ ?_|intro hp));all_goals (first|(refine hQ _ ?_;clear hQ Q)|omega|assumption|with_reducible rfl|(refine kq ?_;kernel_rfl)|skip))
      repeat' (first|(apply nx;with_reducible constructor)|refine jq (by decide) ?_)
      (refine sym_cd (by simp only [vkt,seval,tbF3_36,xbF3_1];rfl) (fun h=>?_) (fun h=>?_) <;> (try simp only [vki,reduceCtorEq] at h))
      · have hlt:i.k < a.length:=by omega
        have hp:=hp hlt
        repeat' (first|(apply nx;with_reducible constructor)|refine jq (by decide) ?_|((first|refine kx env fun Q hQ=>?_|refine kz fun Q hQ=>?_);simp only [vkt,seval,tbF3_36,xbF3_1];(try simp only [ite_and]);(repeat' (first|with_reducible assumption|refine And.intro ?_ ?_|intro hp));all_goals (first|(refine hQ _ ?_;clear hQ Q)|(refine hQ _ (fun h=>?_) (fun h=>?_) <;> clear hQ Q <;> (try simp only [vki,reduceCtorEq] at h))|omega|assumption|with_reducible rfl|(refine kq ?_;kernel_rfl)|skip)))
        · (simp only [vrt,Try.results36,vkt,seval,tbF3_36,xbF3_1];refine Fin.val rfl ?_;(try simp only [AV.le,AV.leL]))
          all_goals (simp;exact i.differ (d:=[]) (by simpa using ‹_›))
        · have he:a.getD i.k []=b.getD i.k []:=by simpa using ‹_›
          have e1:=wrap_succ hlt hl
          refine ⟨i.next hlt he,by show a.length - (i.k+1) < _;omega, ?_⟩
          (refine Le.ok some [] ?_;constructor;all_goals (try simp only [vle,vkt,seval,tbF3_36,xbF3_1]))
          all_goals simp [EQ.next,e1]
      · repeat' (first|(apply nx;with_reducible constructor)|refine jq (by decide) ?_|((first|refine kx env fun Q hQ=>?_|refine kz fun Q hQ=>?_);simp only [vkt,seval,tbF3_36,xbF3_1];(try simp only [ite_and]);(repeat' (first|with_reducible assumption|refine And.intro ?_ ?_|intro hp));all_goals (first|(refine hQ _ ?_;clear hQ Q)|(refine hQ _ (fun h=>?_) (fun h=>?_) <;> clear hQ Q <;> (try simp only [vki,reduceCtorEq] at h))|omega|assumption|with_reducible rfl|(refine kq ?_;kernel_rfl)|skip)))
        (simp only [vrt,Try.results36,vkt,seval,tbF3_36,xbF3_1];refine Fin.val rfl ?_;(try simp only [AV.le,AV.leL]))
        all_goals (simp;exact i.last (by omega))
def pieceE (p:List Int) (i:Nat):Int:=if 50 < p.getD (1+i) 0 then 1 else if p.getD (1+i) 0≤p.getD i 0 then 5 else 0
def coinE (p:List Int):Int:=if countedE p.length 1 4 ≠ 0 then countedE p.length 1 4 else if p.getD 0 0 ≠ 1 then 1 else firstE (errs (p.length - 1) (pieceE p))
def coinS (p:List Int) (k:Nat):St:={ t:=asg [(0,aInts p),(2,aI 0),(17,aInts (p.drop 1)),(18,aI ((p.length - 1:Nat):Int)),(19,aI k)],h:=hasg [],n:=0 }
def tbF3_110:=kj @ty3 (kj @ty22 (kj @ty30 (kj @ti3.eq_1 (kj @ti22.eq_1 @ti30.eq_1))))
def xbF3_2:=kj @aI.eq_1 (kj @aB.eq_1 (kj @aInts.eq_1 (kj @gInt (kj @eInt.eq_1 (kj @s78.eq_1 (kj @s78.eq_2 (kj @coinS.eq_1 (kj @slT (kj @slD (kj @gDrop (@rInt)))))))))))
theorem coin_fn (p:List Int) (hl:p.length≤maxLen):FnV Try.prog 110 [aInts p] (aI (coinE p)):=by
  have env:Env (fun _=>True) Try.prog tyB (tab [(78,valE true s78)]):=mkEnv ⟨e78,trivial⟩
  refine Fn.of (A:=fun _=>True) (n0:=0) (D:=noD) (Fn0 Try.func110 rfl (fun vs w=>by kernel_rfl) (by kernel_rfl)) (by simp) (by simp [AV.ids,aInts]) (fun i o h=>by cases h) (fun _ _ _ _=>trivial) noD_ok ?_
  have hc:countedE p.length 1 4=0→1≤p.length∧p.length≤4:=fun h=>by unfold countedE at h;split at h <;> simp at h;omega
  by_cases h0:countedE p.length 1 4=0
  · have hc:=hc h0
    repeat' (first|(apply nx;with_reducible constructor)|refine jq (by decide) ?_|((first|refine kx env fun Q hQ=>?_|refine kz fun Q hQ=>?_);simp only [vkt,seval,tbF3_110,xbF3_2,List.take_length,List.length_drop,h0];(try simp only [ite_and]);(repeat' (first|with_reducible assumption|refine And.intro ?_ ?_|intro hp));all_goals (first|(refine hQ _ ?_;clear hQ Q)|(refine hQ _ (fun h=>?_) (fun h=>?_) <;> clear hQ Q <;> (try simp only [vki,reduceCtorEq] at h))|omega|assumption|with_reducible rfl|(refine kq ?_;kernel_rfl)|skip)))
    · (simp only [vrt,Try.results110,vkt,seval,tbF3_110,xbF3_2,List.take_length,List.length_drop];refine Fin.val rfl ?_;(try simp only [AV.le,AV.leL]))
      all_goals (unfold coinE;simp [-List.getD_eq_getElem?_getD,h0, *])
    · have hp1:p.getD 0 0=1:=by assumption
      refine sym_loop (ι:=FI (errs (p.length - 1) (pieceE p))) (fun i=>coinS p i.k) (fun i=>p.length - i.k) (FI.zero _) ?_ fun i=>?_
      · (refine Le.ok some [] ?_;constructor;all_goals (try simp only [vle,vkt,seval,tbF3_110,xbF3_2,List.take_length,List.length_drop]))
        all_goals simp [FI.zero]
      · have hk:=i.le
        rw [errs_len] at hk
        repeat' (first|(apply nx;with_reducible constructor)|refine jq (by decide) ?_|((first|refine kx env fun Q hQ=>?_|refine kz fun Q hQ=>?_);simp only [vkt,seval,tbF3_110,xbF3_2,List.take_length,List.length_drop];(try simp only [ite_and]);(repeat' (first|with_reducible assumption|refine And.intro ?_ ?_|intro hp));all_goals (first|(refine hQ _ ?_;clear hQ Q)|(refine hQ _ (fun h=>?_) (fun h=>?_) <;> clear hQ Q <;> (try simp only [vki,reduceCtorEq] at h))|omega|assumption|with_reducible rfl|(refine kq ?_;kernel_rfl)|skip)))
        · (simp only [vrt,Try.results110,vkt,seval,tbF3_110,xbF3_2,List.take_length,List.length_drop];refine Fin.val rfl ?_;(try simp only [AV.le,AV.leL]))
          all_goals (unfold coinE;rw [i.hit (by omega) (by unfold pieceE;simp [-List.getD_eq_getElem?_getD, *])];unfold pieceE;simp [-List.getD_eq_getElem?_getD, *])
        · (simp only [vrt,Try.results110,vkt,seval,tbF3_110,xbF3_2,List.take_length,List.length_drop];refine Fin.val rfl ?_;(try simp only [AV.le,AV.leL]))
          all_goals (unfold coinE;rw [i.hit (by omega) (by unfold pieceE;simp [-List.getD_eq_getElem?_getD, *])];unfold pieceE;simp [-List.getD_eq_getElem?_getD, *])
        · have hlt:i.k < p.length - 1:=by omega
          have e1:=wrap_succ hlt (show p.length - 1≤maxLen by omega)
          refine ⟨i.next hlt (by unfold pieceE;simp [-List.getD_eq_getElem?_getD, *]),by show p.length - (i.k+1) < _;omega, ?_⟩
          (refine Le.ok some [] ?_;constructor;all_goals (try simp only [vle,vkt,seval,tbF3_110,xbF3_2,List.take_length,List.length_drop]))
          all_goals simp [FI.next,e1]
        · (simp only [vrt,Try.results110,vkt,seval,tbF3_110,xbF3_2,List.take_length,List.length_drop];refine Fin.val rfl ?_;(try simp only [AV.le,AV.leL]))
          all_goals (unfold coinE;rw [i.last (by omega)];simp [-List.getD_eq_getElem?_getD, *])
  · repeat' (first|(apply nx;with_reducible constructor)|refine jq (by decide) ?_|((first|refine kx env fun Q hQ=>?_|refine kz fun Q hQ=>?_);simp only [vkt,seval,tbF3_110,xbF3_2,List.take_length,List.length_drop,h0];(try simp only [ite_and]);(repeat' (first|with_reducible assumption|refine And.intro ?_ ?_|intro hp));all_goals (first|(refine hQ _ ?_;clear hQ Q)|(refine hQ _ (fun h=>?_) (fun h=>?_) <;> clear hQ Q <;> (try simp only [vki,reduceCtorEq] at h))|omega|assumption|with_reducible rfl|(refine kq ?_;kernel_rfl)|skip)))
    (simp only [vrt,Try.results110,vkt,seval,tbF3_110,xbF3_2,List.take_length,List.length_drop];refine Fin.val rfl ?_;(try simp only [AV.le,AV.leL]))
    all_goals (unfold coinE;simp [-List.getD_eq_getElem?_getD,h0])
def s110:List AV→Prop × AV
  |[.sl xs]=>(xs=(xs.map dInt).map eInt∧xs.length≤maxLen,aI (coinE (xs.map dInt)))
  |_=>(False,.junk)
theorem e110 {A:Frm→Prop}:EntryOK A Try.prog 110 (valE true s110):=valE_ok fun vs hv h=>by
  clear hv
  unfold s110 at h ⊢
  split at h
  · rename_i xs
    refine ⟨trivial,fun _=>trivial, ?_⟩
    have:=coin_fn (xs.map dInt) (by simpa using h.2)
    rwa [aInts,← h.1] at this
  · exact h.elim
end Go.Sym.B
namespace Go.Sym.B
open Go Go.Sym Go.Proofs Go.Sym.C
def entryE (l:Led) (x:Ent) (before:Int):Int :=
  if !inB x.day 0 ((l.rates.length:Int) - 1) then 3 else if x.day < before then 5 else if !inB x.kind 1 4 then 8 else if !inB x.coin 0 ((l.coins.length:Int) - 1) then 3
  else if x.kind=3∧inB x.to 0 ((l.coins.length:Int) - 1)=false then 3 else if x.kind=3∧x.to=x.coin then 4 else if x.kind=3∧inB x.got 0 999=false then 1
  else if x.kind ≠ 3∧(x.to ≠ 0∨x.got ≠ 0) then 1 else if !inB x.amount 0 999 then 1 else 0
def tbF5_140:=kj @ty3 (kj @ty22 (kj @ty28 (kj @ty35 (kj @ty38 (kj @ty48 (kj @ty55 (kj @ti3.eq_1 (kj @ti22.eq_1 (kj @ti28.eq_1 (kj @ti35.eq_1 (kj @ti38.eq_1 (kj @ti48.eq_1 @ti55.eq_1))))))))))))
def xbF5_1:=kj @aI.eq_1 (kj @aB.eq_1 (kj @aEnt.eq_1 (kj @aLed.eq_1 (kj @cLed.eq_1 (kj @s79.eq_1 (@s79.eq_2))))))
theorem entry_fn (l:Led) (x:Ent) (before:Int) (h1:l.rates.length≤20) (h2:l.coins.length≤20):FnV Try.prog 140 [aLed l,aEnt x,aI before] (aI (entryE l x before)):=by
  have env:Env (fun _=>True) Try.prog tyB (tab [(79,valE true s79)]):=mkEnv ⟨e79,trivial⟩
  refine Fn.of (A:=fun _=>True) (n0:=0) (D:=noD) (Fn0 Try.func140 rfl (fun vs w=>by kernel_rfl) (by kernel_rfl)) (by simp) (by simp [AV.ids,AV.idsL,aLed,cLed,aEnt,aI]) (fun i o h=>by cases h) (fun _ _ _ _=>trivial) noD_ok ?_
  have w1:IntKind.wrap .i64 ((l.rates.length:Int) - 1)=(l.rates.length:Int) - 1:=wrap64 (by omega) (by omega)
  have w2:IntKind.wrap .i64 ((l.coins.length:Int) - 1)=(l.coins.length:Int) - 1:=wrap64 (by omega) (by omega)
  cases c1:inB x.day 0 ((l.rates.length:Int) - 1)
  · repeat' (first|(apply nx;with_reducible constructor)|refine jq (by decide) ?_|((first|refine kx env fun Q hQ=>?_|refine kz fun Q hQ=>?_);simp only [vkt,seval,tbF5_140,xbF5_1,w1,w2,c1];(try simp only [ite_and]);(repeat' (first|with_reducible assumption|refine And.intro ?_ ?_|intro hp));all_goals (first|(refine hQ _ ?_;clear hQ Q)|(refine hQ _ (fun h=>?_) (fun h=>?_) <;> clear hQ Q <;> (try simp only [vki,reduceCtorEq] at h))|omega|assumption|with_reducible rfl|(refine kq ?_;kernel_rfl)|skip)))
    (simp only [vrt,Try.results140,vkt,seval,tbF5_140,xbF5_1];refine Fin.val rfl ?_;(try simp only [AV.le,AV.leL]))
    all_goals simp [entryE,c1]
  by_cases c2:x.day < before
  · repeat' (first|(apply nx;with_reducible constructor)|refine jq (by decide) ?_|((first|refine kx env fun Q hQ=>?_|refine kz fun Q hQ=>?_);simp only [vkt,seval,tbF5_140,xbF5_1,w1,w2,c1,c2];(try simp only [ite_and]);(repeat' (first|with_reducible assumption|refine And.intro ?_ ?_|intro hp));all_goals (first|(refine hQ _ ?_;clear hQ Q)|(refine hQ _ (fun h=>?_) (fun h=>?_) <;> clear hQ Q <;> (try simp only [vki,reduceCtorEq] at h))|omega|assumption|with_reducible rfl|(refine kq ?_;kernel_rfl)|skip)))
    (simp only [vrt,Try.results140,vkt,seval,tbF5_140,xbF5_1];refine Fin.val rfl ?_;(try simp only [AV.le,AV.leL]))
    all_goals simp [entryE,c1,c2]
  cases c3:inB x.kind 1 4
  · repeat' (first|(apply nx;with_reducible constructor)|refine jq (by decide) ?_|((first|refine kx env fun Q hQ=>?_|refine kz fun Q hQ=>?_);simp only [vkt,seval,tbF5_140,xbF5_1,w1,w2,c1,c2,c3];(try simp only [ite_and]);(repeat' (first|with_reducible assumption|refine And.intro ?_ ?_|intro hp));all_goals (first|(refine hQ _ ?_;clear hQ Q)|(refine hQ _ (fun h=>?_) (fun h=>?_) <;> clear hQ Q <;> (try simp only [vki,reduceCtorEq] at h))|omega|assumption|with_reducible rfl|(refine kq ?_;kernel_rfl)|skip)))
    (simp only [vrt,Try.results140,vkt,seval,tbF5_140,xbF5_1];refine Fin.val rfl ?_;(try simp only [AV.le,AV.leL]))
    all_goals simp [entryE,c1,c2,c3]
  cases c4:inB x.coin 0 ((l.coins.length:Int) - 1)
  · repeat' (first|(apply nx;with_reducible constructor)|refine jq (by decide) ?_|((first|refine kx env fun Q hQ=>?_|refine kz fun Q hQ=>?_);simp only [vkt,seval,tbF5_140,xbF5_1,w1,w2,c1,c2,c3,c4];(try simp only [ite_and]);(repeat' (first|with_reducible assumption|refine And.intro ?_ ?_|intro hp));all_goals (first|(refine hQ _ ?_;clear hQ Q)|(refine hQ _ (fun h=>?_) (fun h=>?_) <;> clear hQ Q <;> (try simp only [vki,reduceCtorEq] at h))|omega|assumption|with_reducible rfl|(refine kq ?_;kernel_rfl)|skip)))
    (simp only [vrt,Try.results140,vkt,seval,tbF5_140,xbF5_1];refine Fin.val rfl ?_;(try simp only [AV.le,AV.leL]))
    all_goals simp [entryE,c1,c2,c3,c4]
  by_cases c5:x.kind=3
  · have c7:inB 3 1 4=true:=by decide
    cases c6:inB x.to 0 ((l.coins.length:Int) - 1)
    · repeat' (first|(apply nx;with_reducible constructor)|refine jq (by decide) ?_|((first|refine kx env fun Q hQ=>?_|refine kz fun Q hQ=>?_);simp only [vkt,seval,tbF5_140,xbF5_1,w1,w2,c1,c2,c7,c4,c5,c6];(try simp only [ite_and]);(repeat' (first|with_reducible assumption|refine And.intro ?_ ?_|intro hp));all_goals (first|(refine hQ _ ?_;clear hQ Q)|(refine hQ _ (fun h=>?_) (fun h=>?_) <;> clear hQ Q <;> (try simp only [vki,reduceCtorEq] at h))|omega|assumption|with_reducible rfl|(refine kq ?_;kernel_rfl)|skip)))
      (simp only [vrt,Try.results140,vkt,seval,tbF5_140,xbF5_1];refine Fin.val rfl ?_;(try simp only [AV.le,AV.leL]))
      all_goals simp [entryE,c1,c2,c7,c4,c5,c6]
    repeat' (first|(apply nx;with_reducible constructor)|refine jq (by decide) ?_|((first|refine kx env fun Q hQ=>?_|refine kz fun Q hQ=>?_);simp only [vkt,seval,tbF5_140,xbF5_1,w1,w2,c1,c2,c7,c4,c5,c6];(try simp only [ite_and]);(repeat' (first|with_reducible assumption|refine And.intro ?_ ?_|intro hp));all_goals (first|(refine hQ _ ?_;clear hQ Q)|(refine hQ _ (fun h=>?_) (fun h=>?_) <;> clear hQ Q <;> (try simp only [vki,reduceCtorEq] at h))|omega|assumption|with_reducible rfl|(refine kq ?_;kernel_rfl)|skip)))
    all_goals (simp only [vrt,Try.results140,vkt,seval,tbF5_140,xbF5_1];refine Fin.val rfl ?_;(try simp only [AV.le,AV.leL]))
    all_goals simp [entryE, *]
  · repeat' (first|(apply nx;with_reducible constructor)|refine jq (by decide) ?_|((first|refine kx env fun Q hQ=>?_|refine kz fun Q hQ=>?_);simp only [vkt,seval,tbF5_140,xbF5_1,w1,w2,c1,c2,c3,c4,c5];(try simp only [ite_and]);(repeat' (first|with_reducible assumption|refine And.intro ?_ ?_|intro hp));all_goals (first|(refine hQ _ ?_;clear hQ Q)|(refine hQ _ (fun h=>?_) (fun h=>?_) <;> clear hQ Q <;> (try simp only [vki,reduceCtorEq] at h))|omega|assumption|with_reducible rfl|(refine kq ?_;kernel_rfl)|skip)))
    all_goals (simp only [vrt,Try.results140,vkt,seval,tbF5_140,xbF5_1];refine Fin.val rfl ?_;(try simp only [AV.le,AV.leL]))
    all_goals simp [entryE, *]
def s140:List AV→Prop × AV
  |[.agg [.sl cs,.sl rs,.sl ss,.sl es],.agg [.v (.int .i64 a),.v (.int .i64 b),.v (.int .i64 c),.v (.int .i64 d),.v (.int .i64 e),.v (.int .i64 f)],.v (.int .i64 n)] =>
    (cs=(cs.map dInts).map eInts∧rs=(rs.map dShs).map eShs∧ss=(ss.map dInt).map eInt∧es=(es.map dEnt).map eEnt∧rs.length≤20∧cs.length≤20,aI (entryE ⟨cs.map dInts,rs.map dShs,ss.map dInt,es.map dEnt⟩ ⟨a,b,c,d,e,f⟩ n))
  |_=>(False,.junk)
theorem e140 {A:Frm→Prop}:EntryOK A Try.prog 140 (valE true s140):=valE_ok fun vs hv h=>by
  clear hv
  unfold s140 at h ⊢
  split at h
  · rename_i cs rs ss es a b c d e f n
    obtain ⟨h1,h2,h3,h4,h5,h6⟩:=h
    refine ⟨trivial,fun _=>trivial, ?_⟩
    have:=entry_fn ⟨cs.map dInts,rs.map dShs,ss.map dInt,es.map dEnt⟩ ⟨a,b,c,d,e,f⟩ n (by simpa using h5) (by simpa using h6)
    simp only [aLed,cLed,← h1,← h2,← h3,← h4] at this
    exact this
  · exact h.elim
end Go.Sym.B
namespace Go.Sym.B
open Go Go.Sym Go.Proofs Go.Sym.C
theorem gI0 {l:List Int} {n:Nat} (h:n < l.length):(l.map eInt).getD n []=eInt (l.getD n 0):=by simp [List.getD_eq_getElem?_getD,h]
theorem setI (l:List Int) (n:Nat) (v:Int):(l.map eInt).set n [.v (.int .i64 v)]=(l.set n v).map eInt:=by rw [List.map_set];rfl
theorem b47 {n:Nat} (h:n≤100000):n * 8≤140737488355328∧n * 24≤140737488355328∧n * 16≤140737488355328∧n≤maxLen:=by
  have:(100000:Nat)≤maxLen:=by decide
  omega
def tbF6_88:=kj @ty3 (kj @ty22 (kj @ti3.eq_1 @ti22.eq_1))
theorem clone88 (xs:List (List DV)) (h1:rowsOK 1 xs) (h2:xs.length≤100000):Fn noB Try.prog 88 [.sl xs] noH (.row 0) (hasg [(0,.row 3 1 xs)]) 0:=by
  have env:Env (fun _=>True) Try.prog tyB (tab []):=mkEnv trivial
  obtain ⟨b1,b2,b3,b4⟩:=b47 h2
  refine Fn.of (A:=fun _=>True) (n0:=0) (D:=noD) (Fn0 Try.func88 rfl (fun vs w=>by kernel_rfl) (by kernel_rfl)) (by simp) (by simp [AV.ids]) (fun i o h=>by cases h) (fun _ _ _ _=>trivial) noD_ok ?_
  repeat' (first|(apply nx;with_reducible constructor)|refine jq (by decide) ?_)
  (refine kx env fun Q hQ=>?_;simp only [vkt,seval,tbF6_88,@true_and];(try simp only [ite_and]);(repeat' (first|with_reducible assumption|refine And.intro ?_ ?_|intro hp));all_goals (first|(refine hQ _ ?_;clear hQ Q)|omega|assumption|with_reducible rfl|(refine kq ?_;kernel_rfl)|skip))
  repeat' (first|(apply nx;with_reducible constructor)|refine jq (by decide) ?_)
  refine sym_niltest (d1:=3) (d2:=4) (t:=22) (e:=3) (x:=.tmp 0) (xs:=xs) rfl rfl rfl rfl rfl rfl Try.underlying22 rfl fun b hb=>?_
  repeat' (first|(apply nx;with_reducible constructor)|refine jq (by decide) ?_)
  (refine sym_cd (by simp only [vkt,seval,tbF6_88,@true_and];rfl) (fun h=>?_) (fun h=>?_) <;> (try simp only [vki,reduceCtorEq] at h))
  · have hx:=hb h
    subst hx
    repeat' (first|(apply nx;with_reducible constructor)|refine jq (by decide) ?_|((first|refine kx env fun Q hQ=>?_|refine kz fun Q hQ=>?_);simp only [vkt,seval,tbF6_88,@true_and];(try simp only [ite_and]);(repeat' (first|with_reducible assumption|refine And.intro ?_ ?_|intro hp));all_goals (first|(refine hQ _ ?_;clear hQ Q)|(refine hQ _ (fun h=>?_) (fun h=>?_) <;> clear hQ Q <;> (try simp only [vki,reduceCtorEq] at h))|omega|assumption|with_reducible rfl|(refine kq ?_;kernel_rfl)|skip)))
    (simp only [vrt,Try.results88,vkt,seval,tbF6_88,@true_and];refine Fin.ok (fun _=>none) [] ?_ ?_ ?_ ?_ ?_ rfl;all_goals (try simp only [vle,vkt,seval,tbF6_88,@true_and]))
    all_goals simp
  · repeat' (first|(apply nx;with_reducible constructor)|refine jq (by decide) ?_|((first|refine kx env fun Q hQ=>?_|refine kz fun Q hQ=>?_);simp only [vkt,seval,tbF6_88,@true_and];(try simp only [ite_and]);(repeat' (first|with_reducible assumption|refine And.intro ?_ ?_|intro hp));all_goals (first|(refine hQ _ ?_;clear hQ Q)|(refine hQ _ (fun h=>?_) (fun h=>?_) <;> clear hQ Q <;> (try simp only [vki,reduceCtorEq] at h))|omega|assumption|with_reducible rfl|(refine kq ?_;kernel_rfl)|skip)))
    (simp only [vrt,Try.results88,vkt,seval,tbF6_88,@true_and];refine Fin.ok some [] ?_ ?_ ?_ ?_ ?_ rfl;all_goals (try simp only [vle,vkt,seval,tbF6_88,@true_and]))
    all_goals simp
def tbF6_95:=kj @ty22 (kj @ty28 (kj @ti22.eq_1 @ti28.eq_1))
theorem clone95 (xs:List (List DV)) (h1:rowsOK 1 xs) (h2:xs.length≤100000):Fn noB Try.prog 95 [.sl xs] noH (.row 0) (hasg [(0,.row 22 1 xs)]) 0:=by
  have env:Env (fun _=>True) Try.prog tyB (tab []):=mkEnv trivial
  obtain ⟨b1,b2,b3,b4⟩:=b47 h2
  refine Fn.of (A:=fun _=>True) (n0:=0) (D:=noD) (Fn0 Try.func95 rfl (fun vs w=>by kernel_rfl) (by kernel_rfl)) (by simp) (by simp [AV.ids]) (fun i o h=>by cases h) (fun _ _ _ _=>trivial) noD_ok ?_
  repeat' (first|(apply nx;with_reducible constructor)|refine jq (by decide) ?_)
  (refine kx env fun Q hQ=>?_;simp only [vkt,seval,tbF6_95,@true_and];(try simp only [ite_and]);(repeat' (first|with_reducible assumption|refine And.intro ?_ ?_|intro hp));all_goals (first|(refine hQ _ ?_;clear hQ Q)|omega|assumption|with_reducible rfl|(refine kq ?_;kernel_rfl)|skip))
  repeat' (first|(apply nx;with_reducible constructor)|refine jq (by decide) ?_)
  refine sym_niltest (d1:=3) (d2:=4) (t:=28) (e:=22) (x:=.tmp 0) (xs:=xs) rfl rfl rfl rfl rfl rfl Try.underlying28 rfl fun b hb=>?_
  repeat' (first|(apply nx;with_reducible constructor)|refine jq (by decide) ?_)
  (refine sym_cd (by simp only [vkt,seval,tbF6_95,@true_and];rfl) (fun h=>?_) (fun h=>?_) <;> (try simp only [vki,reduceCtorEq] at h))
  · have hx:=hb h
    subst hx
    repeat' (first|(apply nx;with_reducible constructor)|refine jq (by decide) ?_|((first|refine kx env fun Q hQ=>?_|refine kz fun Q hQ=>?_);simp only [vkt,seval,tbF6_95,@true_and];(try simp only [ite_and]);(repeat' (first|with_reducible assumption|refine And.intro ?_ ?_|intro hp));all_goals (first|(refine hQ _ ?_;clear hQ Q)|(refine hQ _ (fun h=>?_) (fun h=>?_) <;> clear hQ Q <;> (try simp only [vki,reduceCtorEq] at h))|omega|assumption|with_reducible rfl|(refine kq ?_;kernel_rfl)|skip)))
    (simp only [vrt,Try.results95,vkt,seval,tbF6_95,@true_and];refine Fin.ok (fun _=>none) [] ?_ ?_ ?_ ?_ ?_ rfl;all_goals (try simp only [vle,vkt,seval,tbF6_95,@true_and]))
    all_goals simp
  · repeat' (first|(apply nx;with_reducible constructor)|refine jq (by decide) ?_|((first|refine kx env fun Q hQ=>?_|refine kz fun Q hQ=>?_);simp only [vkt,seval,tbF6_95,@true_and];(try simp only [ite_and]);(repeat' (first|with_reducible assumption|refine And.intro ?_ ?_|intro hp));all_goals (first|(refine hQ _ ?_;clear hQ Q)|(refine hQ _ (fun h=>?_) (fun h=>?_) <;> clear hQ Q <;> (try simp only [vki,reduceCtorEq] at h))|omega|assumption|with_reducible rfl|(refine kq ?_;kernel_rfl)|skip)))
    (simp only [vrt,Try.results95,vkt,seval,tbF6_95,@true_and];refine Fin.ok some [] ?_ ?_ ?_ ?_ ?_ rfl;all_goals (try simp only [vle,vkt,seval,tbF6_95,@true_and]))
    all_goals simp
def p88 (_:St):List AV→Option Pk
  |[.sl xs]=>some { pre:=rowsOK 1 xs∧xs.length≤100000,ar:=[.sl xs],v:=.row 0,L1:=[some (.row 3 1 xs)] }
  |[.nil]=>some { ar:=[.sl []],v:=.row 0,L1:=[some (.row 3 1 [])] }
  |_=>none
theorem e88 {A:Frm→Prop}:EntryOK A Try.prog 88 (fnE p88):=fnE_ok fun S bs q h hp=>by
  unfold p88 at h
  split at h <;> cases h
  · exact clone88 _ hp.1 hp.2
  · exact clone88 [] (by simp [rowsOK]) (by simp)
def p95 (_:St):List AV→Option Pk
  |[.sl xs]=>some { pre:=rowsOK 1 xs∧xs.length≤100000,ar:=[.sl xs],v:=.row 0,L1:=[some (.row 22 1 xs)] }
  |[.nil]=>some { ar:=[.sl []],v:=.row 0,L1:=[some (.row 22 1 [])] }
  |_=>none
theorem e95 {A:Frm→Prop}:EntryOK A Try.prog 95 (fnE p95):=fnE_ok fun S bs q h hp=>by
  unfold p95 at h
  split at h <;> cases h
  · exact clone95 _ hp.1 hp.2
  · exact clone95 [] (by simp [rowsOK]) (by simp)
def oTill (l:Led) (r:Nat):AObj:=.cells (cLed l++[.row r])
def oHas (has:List Int):AObj:=.row 3 1 (has.map eInt)
def tbF6_97:=kj @ty3 (kj @ty22 (kj @ty38 (kj @ty123 (kj @ti3.eq_1 (kj @ti22.eq_1 (kj @ti38.eq_1 @ti123.eq_1))))))
def xbF6_2:=kj @aLed.eq_1 (kj @cLed.eq_1 (kj @p88.eq_1 (kj @p88.eq_2 (kj @p88.eq_3 (kj @rInt (kj @oTill.eq_1 (@oHas.eq_1)))))))
theorem open97 (l:Led) (h:l.start.length≤100000):Fn noB Try.prog 97 [aLed l] noH (.ptr 0 0) (hasg [(0,oTill l 1),(1,oHas l.start)]) 0:=by
  have env:Env (fun _=>True) Try.prog tyB (tab [(88,fnE p88)]):=mkEnv ⟨e88,trivial⟩
  refine Fn.of (A:=fun _=>True) (n0:=0) (D:=noD) (Fn0 Try.func97 rfl (fun vs w=>by kernel_rfl) (by kernel_rfl)) (by simp) (by simp [AV.ids,AV.idsL,aLed,cLed]) (fun i o h=>by cases h) (fun _ _ _ _=>trivial) noD_ok ?_
  repeat' (first|(apply nx;with_reducible constructor)|refine jq (by decide) ?_|((first|refine kx env fun Q hQ=>?_|refine kz fun Q hQ=>?_);simp only [vkt,seval,tbF6_97,xbF6_2];(try simp only [ite_and]);(repeat' (first|with_reducible assumption|refine And.intro ?_ ?_|intro hp));all_goals (first|(refine hQ _ ?_;clear hQ Q)|(refine hQ _ (fun h=>?_) (fun h=>?_) <;> clear hQ Q <;> (try simp only [vki,reduceCtorEq] at h))|omega|assumption|with_reducible rfl|(refine kq ?_;kernel_rfl)|skip)))
  (simp only [vrt,Try.results97,vkt,seval,tbF6_97,xbF6_2];refine Fin.ok (fun j=>if j=0 then some 2 else if j=1 then some 1 else none) [] ?_ ?_ ?_ ?_ ?_ rfl;all_goals (try simp only [vle,vkt,seval,tbF6_97,xbF6_2]))
  all_goals simp
def p97 (_:St):List AV→Option Pk
  |[.agg [.sl cs,.sl rs,.sl ss,.sl es]]=>some { pre:=cs=(cs.map dInts).map eInts∧rs=(rs.map dShs).map eShs∧ss=(ss.map dInt).map eInt∧es=(es.map dEnt).map eEnt∧ss.length≤100000,ar:=[.agg [.sl cs,.sl rs,.sl ss,.sl es]],v:=.ptr 0 0,L1:=[some (.cells [.sl cs,.sl rs,.sl ss,.sl es,.row 1]),some (.row 3 1 ss)] }
  |_=>none
theorem e97 {A:Frm→Prop}:EntryOK A Try.prog 97 (fnE p97):=fnE_ok fun S bs q h hp=>by
  unfold p97 at h
  split at h <;> cases h
  rename_i cs rs ss es
  have:=open97 ⟨cs.map dInts,rs.map dShs,ss.map dInt,es.map dEnt⟩ (by simpa using hp.2.2.2.2)
  simp only [aLed,cLed,oTill,oHas,← hp.1,← hp.2.1,← hp.2.2.1,← hp.2.2.2.1] at this
  exact this
def addAt (has:List Int) (i d:Int):List Int:=has.set i.toNat (has.getD i.toNat 0+d)
def enterF (has:List Int) (x:Ent):List Int :=
  if x.kind=1 then addAt has x.coin x.amount else if x.kind=2 then addAt has x.coin (-x.amount) else if x.kind=3 then addAt (addAt has x.coin (-x.amount)) x.to x.got
  else if x.kind=4 then has.set x.coin.toNat x.amount else has
structure EnOk (has:List Int) (x:Ent):Prop where
  c0:0≤x.coin
  c1:x.coin.toNat < has.length
  t:x.kind=3→0≤x.to∧x.to.toNat < has.length
  a:0≤x.amount∧x.amount≤999
  g:x.kind=3→0≤x.got∧x.got≤999
  b:∀ v ∈ has,-1000000≤v∧v≤1000000
theorem bGet {has:List Int} {n:Nat} (h:∀ v ∈ has,-1000000≤v∧v≤1000000):-1000000≤has.getD n 0∧has.getD n 0≤1000000:=by
  by_cases hn:n < has.length
  · exact h _ (gMem hn)
  · rw [List.getD_eq_getElem?_getD,List.getElem?_eq_none (by omega)];simp
def tbF6_101:=kj @ty3 (kj @ty22 (kj @ty48 (kj @ty123 (kj @ti3.eq_1 (kj @ti22.eq_1 (kj @ti48.eq_1 @ti123.eq_1))))))
def xbF6_3:=kj @aLed.eq_1 (kj @cLed.eq_1 (kj @aEnt.eq_1 (kj @oTill.eq_1 (kj @oHas.eq_1 (@setI)))))
set_option maxHeartbeats 1000000 in
theorem enter101 (l:Led) (has:List Int) (x:Ent) (h:EnOk has x):Fn noB Try.prog 101 [.ptr 0 0,aEnt x] (hasg [(0,oTill l 1),(1,oHas has)]) (.tup []) (hasg [(0,oTill l 1),(1,oHas (enterF has x))]) 0:=by
  have env:Env (fun _=>True) Try.prog tyB (tab []):=mkEnv trivial
  refine Fn.of (A:=fun _=>True) (n0:=2) (D:=noD) (Fn0 Try.func101 rfl (fun vs w=>by kernel_rfl) (by kernel_rfl)) (by simp) (by simp [AV.ids,AV.idsL,aEnt]) ?_ (fun _ _ _ _=>trivial) noD_ok ?_
  · intro i o hi
    rcases List.mem_cons.1 (hasg_mem hi) with h|h
    · cases h;simp [oTill,cLed,AObj.ids,AV.ids,AV.idsL]
    · simp at h;obtain ⟨rfl,rfl⟩:=h;simp [oHas,AObj.ids]
  have c0:=h.c0
  have c1:=h.c1
  have g1:=gI0 h.c1
  have b1:=bGet (n:=x.coin.toNat) h.b
  have ha:=h.a
  by_cases k1:x.kind=1
  · have w1:IntKind.wrap .i64 (has.getD x.coin.toNat 0+x.amount)=has.getD x.coin.toNat 0+x.amount:=wrap64 (by omega) (by omega)
    repeat' (first|(apply nx;with_reducible constructor)|refine jq (by decide) ?_|((first|refine kx env fun Q hQ=>?_|refine kz fun Q hQ=>?_);simp only [vkt,seval,tbF6_101,xbF6_3,k1,g1,w1,eInt];(try simp only [ite_and]);(repeat' (first|with_reducible assumption|refine And.intro ?_ ?_|intro hp));all_goals (first|(refine hQ _ ?_;clear hQ Q)|(refine hQ _ (fun h=>?_) (fun h=>?_) <;> clear hQ Q <;> (try simp only [vki,reduceCtorEq] at h))|omega|assumption|with_reducible rfl|(refine kq ?_;kernel_rfl)|skip)))
    (simp only [vrt,Try.results101,vkt,seval,tbF6_101,xbF6_3];refine Fin.ok some [] ?_ ?_ ?_ ?_ ?_ rfl;all_goals (try simp only [vle,vkt,seval,tbF6_101,xbF6_3]))
    all_goals simp [enterF,k1,addAt]
  by_cases k2:x.kind=2
  · have w1:IntKind.wrap .i64 (has.getD x.coin.toNat 0 - x.amount)=has.getD x.coin.toNat 0+-x.amount:=by rw [wrap64 (by omega) (by omega)];omega
    repeat' (first|(apply nx;with_reducible constructor)|refine jq (by decide) ?_|((first|refine kx env fun Q hQ=>?_|refine kz fun Q hQ=>?_);simp only [vkt,seval,tbF6_101,xbF6_3,k2,g1,w1,eInt];(try simp only [ite_and]);(repeat' (first|with_reducible assumption|refine And.intro ?_ ?_|intro hp));all_goals (first|(refine hQ _ ?_;clear hQ Q)|(refine hQ _ (fun h=>?_) (fun h=>?_) <;> clear hQ Q <;> (try simp only [vki,reduceCtorEq] at h))|omega|assumption|with_reducible rfl|(refine kq ?_;kernel_rfl)|skip)))
    (simp only [vrt,Try.results101,vkt,seval,tbF6_101,xbF6_3];refine Fin.ok some [] ?_ ?_ ?_ ?_ ?_ rfl;all_goals (try simp only [vle,vkt,seval,tbF6_101,xbF6_3]))
    all_goals simp [enterF,k2,addAt]
  by_cases k3:x.kind=3
  · have w1:IntKind.wrap .i64 (has.getD x.coin.toNat 0 - x.amount)=has.getD x.coin.toNat 0+-x.amount:=by rw [wrap64 (by omega) (by omega)];omega
    obtain ⟨t0,t1⟩:=h.t k3
    have hg:=h.g k3
    have hb2:∀ v ∈ addAt has x.coin (-x.amount),-1001000≤v∧v≤1001000:=fun v hv=>by
      rcases List.mem_or_eq_of_mem_set hv with h1|h1
      · have:=h.b v h1;omega
      · omega
    have t2:x.to.toNat < (addAt has x.coin (-x.amount)).length:=by simp [addAt];exact t1
    have g2:=gI0 t2
    have b2:=hb2 _ (gMem (d:=0) t2)
    have w2:IntKind.wrap .i64 ((addAt has x.coin (-x.amount)).getD x.to.toNat 0+x.got)=(addAt has x.coin (-x.amount)).getD x.to.toNat 0+x.got:=wrap64 (by omega) (by omega)
    have e2:has.set x.coin.toNat (has.getD x.coin.toNat 0+-x.amount)=addAt has x.coin (-x.amount):=rfl
    repeat' (first|(apply nx;with_reducible constructor)|refine jq (by decide) ?_|((first|refine kx env fun Q hQ=>?_|refine kz fun Q hQ=>?_);simp only [vkt,seval,tbF6_101,xbF6_3,k3,g1,w1,e2,g2,w2,eInt];(try simp only [ite_and]);(repeat' (first|with_reducible assumption|refine And.intro ?_ ?_|intro hp));all_goals (first|(refine hQ _ ?_;clear hQ Q)|(refine hQ _ (fun h=>?_) (fun h=>?_) <;> clear hQ Q <;> (try simp only [vki,reduceCtorEq] at h))|omega|assumption|with_reducible rfl|(refine kq ?_;kernel_rfl)|skip)))
    (simp only [vrt,Try.results101,vkt,seval,tbF6_101,xbF6_3];refine Fin.ok some [] ?_ ?_ ?_ ?_ ?_ rfl;all_goals (try simp only [vle,vkt,seval,tbF6_101,xbF6_3]))
    all_goals (simp only [enterF,k3];simp;conv=>rhs;rw [addAt,List.map_set])
    all_goals simp
  by_cases k4:x.kind=4
  · repeat' (first|(apply nx;with_reducible constructor)|refine jq (by decide) ?_|((first|refine kx env fun Q hQ=>?_|refine kz fun Q hQ=>?_);simp only [vkt,seval,tbF6_101,xbF6_3,k4,g1,eInt];(try simp only [ite_and]);(repeat' (first|with_reducible assumption|refine And.intro ?_ ?_|intro hp));all_goals (first|(refine hQ _ ?_;clear hQ Q)|(refine hQ _ (fun h=>?_) (fun h=>?_) <;> clear hQ Q <;> (try simp only [vki,reduceCtorEq] at h))|omega|assumption|with_reducible rfl|(refine kq ?_;kernel_rfl)|skip)))
    (simp only [vrt,Try.results101,vkt,seval,tbF6_101,xbF6_3];refine Fin.ok some [] ?_ ?_ ?_ ?_ ?_ rfl;all_goals (try simp only [vle,vkt,seval,tbF6_101,xbF6_3]))
    all_goals simp [enterF,k4]
  · repeat' (first|(apply nx;with_reducible constructor)|refine jq (by decide) ?_|((first|refine kx env fun Q hQ=>?_|refine kz fun Q hQ=>?_);simp only [vkt,seval,tbF6_101,xbF6_3,k1,k2,k3,k4];(try simp only [ite_and]);(repeat' (first|with_reducible assumption|refine And.intro ?_ ?_|intro hp));all_goals (first|(refine hQ _ ?_;clear hQ Q)|(refine hQ _ (fun h=>?_) (fun h=>?_) <;> clear hQ Q <;> (try simp only [vki,reduceCtorEq] at h))|omega|assumption|with_reducible rfl|(refine kq ?_;kernel_rfl)|skip)))
    (simp only [vrt,Try.results101,vkt,seval,tbF6_101,xbF6_3];refine Fin.ok some [] ?_ ?_ ?_ ?_ ?_ rfl;all_goals (try simp only [vle,vkt,seval,tbF6_101,xbF6_3]))
    all_goals simp [enterF,k1,k2,k3,k4]
def p101 (S:St):List AV→Option Pk
  |[.ptr t 0,.agg [.v (.int .i64 a),.v (.int .i64 b),.v (.int .i64 c),.v (.int .i64 d),.v (.int .i64 e),.v (.int .i64 f)]]=>match S.h t with
    |some (.cells [.sl cs,.sl rs,.sl ss,.sl es,.row r])=>match S.h r with
      |some (.row 3 1 hs)=>some { pre:=cs=(cs.map dInts).map eInts∧rs=(rs.map dShs).map eShs∧ss=(ss.map dInt).map eInt∧es=(es.map dEnt).map eEnt∧hs=(hs.map dInt).map eInt∧EnOk (hs.map dInt) ⟨a,b,c,d,e,f⟩,hs:=[t,r],ar:=[.ptr 0 0,.agg [.v (.int .i64 a),.v (.int .i64 b),.v (.int .i64 c),.v (.int .i64 d),.v (.int .i64 e),.v (.int .i64 f)]],L0:=[.cells [.sl cs,.sl rs,.sl ss,.sl es,.row 1],.row 3 1 hs],v:=.tup [],L1:=[some (.cells [.sl cs,.sl rs,.sl ss,.sl es,.row 1]),some (.row 3 1 ((enterF (hs.map dInt) ⟨a,b,c,d,e,f⟩).map eInt))] }
      |_=>none
    |_=>none
  |_=>none
theorem e101 {A:Frm→Prop}:EntryOK A Try.prog 101 (fnE p101):=fnE_ok fun S bs q h hp=>by
  unfold p101 at h
  split at h
  · split at h
    · split at h
      · rename_i t a b c d e f _ cs rs ss es r _ _ hs _
        cases h
        have:=enter101 ⟨cs.map dInts,rs.map dShs,ss.map dInt,es.map dEnt⟩ (hs.map dInt) ⟨a,b,c,d,e,f⟩ hp.2.2.2.2.2
        simp only [oTill,oHas,cLed,← hp.1,← hp.2.1,← hp.2.2.1,← hp.2.2.2.1,← hp.2.2.2.2.1] at this
        exact this
      · cases h
    · cases h
  · cases h
end Go.Sym.B
namespace Go.Sym.B
open Go Go.Sym Go.Proofs Go.Sym.C
def shE (s:Sh):Int:=if !inB s.num 1 20 then 1 else if !inB s.den 1 12 then 1 else if s ≠ shQ (mkRat s.num s.den.toNat) then 8 else 0
def rateE (r:List Sh) (i:Nat):Int:=shE (r.getD (1+i) default)
def ratesE (r:List Sh) (n:Int):Int:=if (r.length:Int) ≠ n then 2 else if r.getD 0 default ≠ ⟨1,1⟩ then 1 else firstE (errs (r.length - 1) (rateE r))
def ratesS (r:List Sh) (n:Int) (k:Nat):St:={ t:=asg [(0,aShs r),(1,aI n),(4,aI 0),(17,aShs (r.drop 1)),(18,aI ((r.length - 1:Nat):Int)),(19,aI k)],h:=hasg [],n:=0 }
theorem sh_eq (s:Sh) (a b:Int):(s=(⟨a,b⟩:Sh)) ↔ s.num=a∧s.den=b:=by cases s;simp
def tbF4_111:=kj @ty3 (kj @ty55 (kj @ty59 (kj @ty107 (kj @ti3.eq_1 (kj @ti55.eq_1 (kj @ti59.eq_1 @ti107.eq_1))))))
def xbF4_1:=kj @aI.eq_1 (kj @aB.eq_1 (kj @aShs.eq_1 (kj @gSh (kj @eSh.eq_1 (kj @s79.eq_1 (kj @s79.eq_2 (kj @s107.eq_1 (kj @s107.eq_2 (kj @s139.eq_1 (kj @s139.eq_2 (kj @ratesS.eq_1 (kj @slT (kj @slD (kj @gDrop (kj @rSh (kj @aSh.eq_1 (@shQ.eq_1)))))))))))))))))
theorem rates_fn (r:List Sh) (n:Int) (hl:r.length≤maxLen) (hn:1≤n):FnV Try.prog 111 [aShs r,aI n] (aI (ratesE r n)):=by
  have env:Env (fun _=>True) Try.prog tyB (tab [(79,valE true s79),(107,valE true s107),(139,valE true s139)]):=mkEnv ⟨e79,e107,e139,trivial⟩
  refine Fn.of (A:=fun _=>True) (n0:=0) (D:=noD) (Fn0 Try.func111 rfl (fun vs w=>by kernel_rfl) (by kernel_rfl)) (by simp) (by simp [AV.ids,aShs,aI]) (fun i o h=>by cases h) (fun _ _ _ _=>trivial) noD_ok ?_
  have en1:((1:Int):Rat).num=1:=by decide
  have en2:((1:Int):Rat).den=1:=by decide
  have eqs:∀ s:Sh,(s=(⟨1,1⟩:Sh)) ↔ s.num=1∧s.den=1:=fun s=>sh_eq s 1 1
  repeat' (first|(apply nx;with_reducible constructor)|refine jq (by decide) ?_|((first|refine kx env fun Q hQ=>?_|refine kz fun Q hQ=>?_);simp only [vkt,seval,tbF4_111,xbF4_1,List.take_length,List.length_drop,en1,en2];(try simp only [ite_and]);(repeat' (first|with_reducible assumption|refine And.intro ?_ ?_|intro hp));all_goals (first|(refine hQ _ ?_;clear hQ Q)|(refine hQ _ (fun h=>?_) (fun h=>?_) <;> clear hQ Q <;> (try simp only [vki,reduceCtorEq] at h))|omega|assumption|with_reducible rfl|(refine kq ?_;kernel_rfl)|skip)))
  · (simp only [vrt,Try.results111,vkt,seval,tbF4_111,xbF4_1,List.take_length,List.length_drop];refine Fin.val rfl ?_;(try simp only [AV.le,AV.leL]))
    all_goals (unfold ratesE;simp [-List.getD_eq_getElem?_getD, *])
  · (simp only [vrt,Try.results111,vkt,seval,tbF4_111,xbF4_1,List.take_length,List.length_drop];refine Fin.val rfl ?_;(try simp only [AV.le,AV.leL]))
    all_goals (unfold ratesE;rw [if_neg (by simp;omega),if_pos (by rw [ne_eq,eqs];simp at *;omega)])
  · have hr1:r.getD 0 default=⟨1,1⟩:=by rw [eqs];simpa using ‹_∧_›
    have hlen:(r.length:Int)=n:=by assumption
    refine sym_loop (ι:=FI (errs (r.length - 1) (rateE r))) (fun i=>ratesS r n i.k) (fun i=>r.length - i.k) (FI.zero _) ?_ fun i=>?_
    · (refine Le.ok some [] ?_;constructor;all_goals (try simp only [vle,vkt,seval,tbF4_111,xbF4_1,List.take_length,List.length_drop]))
      all_goals simp [FI.zero]
    · have hk:=i.le
      rw [errs_len] at hk
      have out:∀ e,rateE r i.k=e→e ≠ 0→i.k < r.length - 1→ratesE r n=e:=fun e he h0 hlt=>by
        unfold ratesE
        rw [if_neg (by simp;omega),if_neg (by rw [hr1];simp),i.hit hlt (by rw [he];exact h0),he]
      have last:r.length - 1≤i.k→ratesE r n=0:=fun h=>by
        unfold ratesE
        rw [if_neg (by simp;omega),if_neg (by rw [hr1];simp),i.last h]
      have hnext:(h1:rateE r i.k=0)→(hlt:i.k < r.length - 1)→∃ i':FI (errs (r.length - 1) (rateE r)),r.length - i'.k < r.length - i.k∧i'.k=i.k+1:=fun h1 hlt=>⟨i.next hlt h1,by show r.length - (i.k+1) < _;omega,rfl⟩
      have e1:i.k < r.length - 1→IntKind.wrap .i64 ((i.k:Int)+1)=((i.k+1:Nat):Int):=fun hlt=>wrap_succ hlt (by omega)
      unfold rateE at out hnext
      generalize hs:r.getD (1+i.k) default=s at *
      by_cases c1:inB s.num 1 20=true
      · by_cases c2:inB s.den 1 12=true
        · have hro:OfOk s.num s.den:=by simp [inB] at c1 c2;exact ⟨by omega,by omega,by omega,by omega⟩
          repeat' (first|(apply nx;with_reducible constructor)|refine jq (by decide) ?_|((first|refine kx env fun Q hQ=>?_|refine kz fun Q hQ=>?_);simp only [vkt,seval,tbF4_111,xbF4_1,List.take_length,List.length_drop,hs,c1,c2];(try simp only [ite_and]);(repeat' (first|with_reducible assumption|refine And.intro ?_ ?_|intro hp));all_goals (first|(refine hQ _ ?_;clear hQ Q)|(refine hQ _ (fun h=>?_) (fun h=>?_) <;> clear hQ Q <;> (try simp only [vki,reduceCtorEq] at h))|omega|assumption|with_reducible rfl|(refine kq ?_;kernel_rfl)|skip)))
          · (simp only [vrt,Try.results111,vkt,seval,tbF4_111,xbF4_1,List.take_length,List.length_drop];refine Fin.val rfl ?_;(try simp only [AV.le,AV.leL]))
            all_goals rw [out 8 (by unfold shE;rw [c1,c2,if_neg (by simp),if_neg (by simp),if_pos (by rw [ne_eq,sh_eq];show ¬(_=(mkRat _ _).num∧_=((mkRat _ _).den:Int));omega)]) (by decide) (by omega)]
          · obtain ⟨i',g1,g2⟩:=hnext (by unfold shE;rw [c1,c2,if_neg (by simp),if_neg (by simp),if_neg (by rw [ne_eq,Decidable.not_not,sh_eq];show (_=(mkRat _ _).num∧_=((mkRat _ _).den:Int));omega)]) (by omega)
            have e1:=e1 (by omega)
            refine ⟨i',g1, ?_⟩
            rw [g2]
            (refine Le.ok some [] ?_;constructor;all_goals (try simp only [vle,vkt,seval,tbF4_111,xbF4_1,List.take_length,List.length_drop]))
            all_goals simp [e1]
          · (simp only [vrt,Try.results111,vkt,seval,tbF4_111,xbF4_1,List.take_length,List.length_drop];refine Fin.val rfl ?_;(try simp only [AV.le,AV.leL]))
            all_goals rw [last (by omega)]
        · have c2:inB s.den 1 12=false:=by simpa using c2
          repeat' (first|(apply nx;with_reducible constructor)|refine jq (by decide) ?_|((first|refine kx env fun Q hQ=>?_|refine kz fun Q hQ=>?_);simp only [vkt,seval,tbF4_111,xbF4_1,List.take_length,List.length_drop,hs,c1,c2];(try simp only [ite_and]);(repeat' (first|with_reducible assumption|refine And.intro ?_ ?_|intro hp));all_goals (first|(refine hQ _ ?_;clear hQ Q)|(refine hQ _ (fun h=>?_) (fun h=>?_) <;> clear hQ Q <;> (try simp only [vki,reduceCtorEq] at h))|omega|assumption|with_reducible rfl|(refine kq ?_;kernel_rfl)|skip)))
          · (simp only [vrt,Try.results111,vkt,seval,tbF4_111,xbF4_1,List.take_length,List.length_drop];refine Fin.val rfl ?_;(try simp only [AV.le,AV.leL]))
            all_goals rw [out 1 (by unfold shE;simp [c1,c2]) (by decide) (by omega)]
          · (simp only [vrt,Try.results111,vkt,seval,tbF4_111,xbF4_1,List.take_length,List.length_drop];refine Fin.val rfl ?_;(try simp only [AV.le,AV.leL]))
            all_goals rw [last (by omega)]
      · have c1:inB s.num 1 20=false:=by simpa using c1
        repeat' (first|(apply nx;with_reducible constructor)|refine jq (by decide) ?_|((first|refine kx env fun Q hQ=>?_|refine kz fun Q hQ=>?_);simp only [vkt,seval,tbF4_111,xbF4_1,List.take_length,List.length_drop,hs,c1];(try simp only [ite_and]);(repeat' (first|with_reducible assumption|refine And.intro ?_ ?_|intro hp));all_goals (first|(refine hQ _ ?_;clear hQ Q)|(refine hQ _ (fun h=>?_) (fun h=>?_) <;> clear hQ Q <;> (try simp only [vki,reduceCtorEq] at h))|omega|assumption|with_reducible rfl|(refine kq ?_;kernel_rfl)|skip)))
        · (simp only [vrt,Try.results111,vkt,seval,tbF4_111,xbF4_1,List.take_length,List.length_drop];refine Fin.val rfl ?_;(try simp only [AV.le,AV.leL]))
          all_goals rw [out 1 (by unfold shE;simp [c1]) (by decide) (by omega)]
        · (simp only [vrt,Try.results111,vkt,seval,tbF4_111,xbF4_1,List.take_length,List.length_drop];refine Fin.val rfl ?_;(try simp only [AV.le,AV.leL]))
          all_goals rw [last (by omega)]
def s111:List AV→Prop × AV
  |[.sl xs,.v (.int .i64 n)]=>(xs=(xs.map dSh).map eSh∧xs.length≤maxLen∧1≤n,aI (ratesE (xs.map dSh) n))
  |_=>(False,.junk)
theorem e111 {A:Frm→Prop}:EntryOK A Try.prog 111 (valE true s111):=valE_ok fun vs hv h=>by
  clear hv
  unfold s111 at h ⊢
  split at h
  · rename_i xs n
    refine ⟨trivial,fun _=>trivial, ?_⟩
    have:=rates_fn (xs.map dSh) n (by simpa using h.2.1) h.2.2
    rwa [aShs,← h.1] at this
  · exact h.elim
end Go.Sym.B
namespace Go.Sym.B
open Go Go.Sym Go.Proofs Go.Sym.C
structure EntryOk (l:Led) (x:Ent) (before:Int):Prop where
  day:0≤x.day∧x.day≤(l.rates.length:Int) - 1
  ord:before≤x.day
  kind:1≤x.kind∧x.kind≤4
  coin:0≤x.coin∧x.coin≤(l.coins.length:Int) - 1
  to:x.kind=3→0≤x.to∧x.to≤(l.coins.length:Int) - 1
  ne:x.kind=3→x.to ≠ x.coin
  got:x.kind=3→0≤x.got∧x.got≤999
  no:x.kind ≠ 3→x.to=0∧x.got=0
  am:0≤x.amount∧x.amount≤999
theorem inB_iff {n a b:Int}:inB n a b=true ↔ a≤n∧n≤b:=by simp [inB]
theorem entryE_ok {l:Led} {x:Ent} {b:Int} (h:entryE l x b=0):EntryOk l x b:=by
  unfold entryE at h
  split at h
  · exact absurd h (by decide)
  rename_i a1
  split at h
  · exact absurd h (by decide)
  rename_i a2
  split at h
  · exact absurd h (by decide)
  rename_i a3
  split at h
  · exact absurd h (by decide)
  rename_i a4
  split at h
  · exact absurd h (by decide)
  rename_i a5
  split at h
  · exact absurd h (by decide)
  rename_i a6
  split at h
  · exact absurd h (by decide)
  rename_i a7
  split at h
  · exact absurd h (by decide)
  rename_i a8
  split at h
  · exact absurd h (by decide)
  rename_i a9
  have nf:∀ {p:Bool},¬ (!p)=true→p=true:=fun h=>by simpa using h
  have nn:∀ {p:Prop} {q:Bool},¬ (p∧q=false)→p→q=true:=fun h hp=>by simpa [hp] using h
  refine ⟨inB_iff.1 (nf a1),by omega,inB_iff.1 (nf a3),inB_iff.1 (nf a4),fun h3=>inB_iff.1 (nn a5 h3),fun h3 h4=>a6 ⟨h3,h4⟩,fun h3=>inB_iff.1 (nn a7 h3),fun h3=>?_,inB_iff.1 (nf a9)⟩
  constructor
  · exact Classical.byContradiction fun hn=>a8 ⟨h3,.inl hn⟩
  · exact Classical.byContradiction fun hn=>a8 ⟨h3,.inr hn⟩
def stK (l:Led) (k:Nat):Int × List Int:=(l.entries.take k).foldl (fun s x=>(x.day,enterF s.2 x)) (0,l.start)
theorem stK_succ {l:Led} {k:Nat} (h:k < l.entries.length):stK l (k+1)=((l.entries.getD k default).day,enterF (stK l k).2 (l.entries.getD k default)):=by
  unfold stK
  rw [List.take_succ_eq_append_getElem h,List.foldl_append,List.getD_eq_getElem?_getD,List.getElem?_eq_getElem h]
  rfl
def eV (l:Led) (x:Ent) (b:Int) (has:List Int):Int:=if entryE l x b ≠ 0 then entryE l x b else if (x.kind=2∨x.kind=3)∧has.getD x.coin.toNat 0 < x.amount then 9 else 0
def eK (l:Led) (k:Nat):Int:=eV l (l.entries.getD k default) (stK l k).1 (stK l k).2
theorem eK_eq (l:Led) (k:Nat):eK l k=eV l (l.entries.getD k default) (stK l k).1 (stK l k).2:=rfl
def entriesE (l:Led):Int:=if countedE l.entries.length 0 6 ≠ 0 then countedE l.entries.length 0 6 else firstE (errs l.entries.length (eK l))
theorem enterF_len (has:List Int) (x:Ent):(enterF has x).length=has.length:=by
  unfold enterF addAt
  repeat' split
  all_goals simp
structure HasOk (l:Led) (k:Nat) (has:List Int):Prop where
  len:has.length=l.coins.length
  b:∀ v ∈ has,0≤v∧v≤999 * (k+1)
theorem hasOk_start {l:Led} (h1:l.start.length=l.coins.length) (h2:∀ v ∈ l.start,0≤v∧v≤999):HasOk l 0 (stK l 0).2:=⟨h1,fun v hv=>by have:=h2 v hv;simp;omega⟩
theorem hasOk_step {l:Led} {k:Nat} {has:List Int} {x:Ent} {b:Int} (h:HasOk l k has) (hx:EntryOk l x b) (hp:¬ ((x.kind=2∨x.kind=3)∧has.getD x.coin.toNat 0 < x.amount)):HasOk l (k+1) (enterF has x):=by
  refine ⟨(enterF_len _ _).trans h.len,fun v hv=>?_⟩
  have hc:x.coin.toNat < has.length:=by have:=hx.coin;have:=h.len;omega
  have hb:=h.b _ (gMem (d:=0) hc)
  have ha:=hx.am
  have set1:∀ {d:Int} {v:Int},v ∈ has.set x.coin.toNat d→(0≤d∧d≤999 * (k+1)+999)→0≤v∧v≤999 * (k+1)+999:=fun hv hd=>by
    rcases List.mem_or_eq_of_mem_set hv with h1|h1
    · have:=h.b _ h1;omega
    · omega
  have hp2:x.kind=2∨x.kind=3→¬ has.getD x.coin.toNat 0 < x.amount:=fun h hlt=>hp ⟨h,hlt⟩
  unfold enterF at hv
  have e:((k+1:Nat):Int)+1=(k:Int)+2:=by omega
  rw [e]
  split at hv
  · have:=set1 hv (by omega);omega
  · split at hv
    · rename_i k2
      have:=set1 hv (by have:=hp2 (.inl k2);omega);omega
    · split at hv
      · rename_i k3
        have hp3:=hp2 (.inr k3)
        have hc0:=hx.coin
        have hg:=hx.got k3
        have ht:=hx.to k3
        have hne:=hx.ne k3
        rcases List.mem_or_eq_of_mem_set hv with h1|h1
        · have:=set1 h1 (by omega);omega
        · have ht':x.to.toNat < (addAt has x.coin (-x.amount)).length:=by simp [addAt];have:=h.len;omega
          have hm:(addAt has x.coin (-x.amount)).getD x.to.toNat 0=has.getD x.to.toNat 0:=by
            simp [addAt,List.getD_eq_getElem?_getD,List.getElem?_set]
            rw [if_neg (by omega)]
          have:=h.b _ (gMem (l:=has) (k:=x.to.toNat) (d:=0) (by have:=h.len;omega))
          rw [hm] at h1
          omega
      · split at hv
        · have:=set1 hv (by omega);omega
        · have:=h.b v hv;omega
theorem hasOk_all {l:Led} (h1:l.start.length=l.coins.length) (h2:∀ v ∈ l.start,0≤v∧v≤999):∀ k,k≤l.entries.length→(∀ j,j < k→eK l j=0)→HasOk l k (stK l k).2
  |0,_,_=>hasOk_start h1 h2
  |k+1,hk,h=>by
    have ih:=hasOk_all h1 h2 k (by omega) fun j hj=>h j (by omega)
    have h0:=h k (by omega)
    rw [stK_succ (by omega)]
    unfold eK eV at h0
    split at h0
    · rename_i hn;exact absurd h0 hn
    · rename_i hn
      have hn:=Decidable.not_not.1 hn
      split at h0
      · exact absurd h0 (by decide)
      · rename_i hp
        exact hasOk_step ih (entryE_ok hn) hp
theorem enOk_of {l:Led} {k:Nat} {has:List Int} {x:Ent} {b:Int} (h:HasOk l k has) (hk:k≤100) (hx:EntryOk l x b):EnOk has x:=by
  refine ⟨hx.coin.1, ?_,fun h3=>⟨(hx.to h3).1, ?_⟩,hx.am,hx.got,fun v hv=>?_⟩
  · have:=hx.coin;have:=h.len;omega
  · have:=hx.to h3;have:=h.len;omega
  · have:=h.b v hv;omega
end Go.Sym.B
namespace Go.Sym.B
open Go Go.Sym Go.Proofs Go.Sym.C
def enS (l:Led) (k:Nat):St:={ t:=asg [(1,.ptr 0 0),(2,aI 0),(4,.ptr 1 0),(5,aI (stK l k).1),(19,.sl (l.entries.map eEnt)),(20,aI l.entries.length),(21,aI k)],h:=hasg [(0,.cells (cLed l)),(1,oTill l 2),(2,oHas (stK l k).2)],n:=3 }
structure EsOk (l:Led):Prop where
  c:l.coins.length≤20
  r:l.rates.length≤20
  e:l.entries.length≤20
  s:l.start.length=l.coins.length
  v:∀ v ∈ l.start,0≤v∧v≤999
def tbF8_112:=kj @ty3 (kj @ty22 (kj @ty30 (kj @ty36 (kj @ty38 (kj @ty48 (kj @ty123 (kj @ti3.eq_1 (kj @ti22.eq_1 (kj @ti30.eq_1 (kj @ti36.eq_1 (kj @ti38.eq_1 (kj @ti48.eq_1 @ti123.eq_1))))))))))))
def xbF8_1:=kj @aI.eq_1 (kj @aLed.eq_1 (kj @cLed.eq_1 (kj @aEnt.eq_1 (kj @oTill.eq_1 (kj @oHas.eq_1 (kj @enS.eq_1 (kj @s78.eq_1 (kj @s78.eq_2 (kj @s140.eq_1 (kj @s140.eq_2 (kj @p97.eq_1 (kj @p97.eq_2 (kj @p101.eq_1 (kj @p101.eq_2 (kj @mInt (kj @mInts (kj @mShs (kj @mEnt (kj @eEnt.eq_1 (@gEnt))))))))))))))))))))
set_option maxHeartbeats 1000000 in
theorem entries_fn (l:Led) (hl:EsOk l):FnV Try.prog 112 [aLed l] (aI (entriesE l)):=by
  have env:Env (fun _=>True) Try.prog tyB (tab [(78,valE true s78),(97,fnE p97),(101,fnE p101),(140,valE true s140)]):=mkEnv ⟨e78,e97,e101,e140,trivial⟩
  refine Fn.of (A:=fun _=>True) (n0:=0) (D:=noD) (Fn0 Try.func112 rfl (fun vs w=>by kernel_rfl) (by kernel_rfl)) (by simp) (by simp [AV.ids,AV.idsL,aLed,cLed]) (fun i o h=>by cases h) (fun _ _ _ _=>trivial) noD_ok ?_
  have q1:=hl.c
  have q2:=hl.r
  have q3:=hl.e
  have q4:l.start.length≤100000:=by have:=hl.s;omega
  by_cases h0:countedE l.entries.length 0 6=0
  · repeat' (first|(apply nx;with_reducible constructor)|refine jq (by decide) ?_|((first|refine kx env fun Q hQ=>?_|refine kz fun Q hQ=>?_);simp only [vkt,seval,tbF8_112,xbF8_1,h0];(try simp only [ite_and]);(repeat' (first|with_reducible assumption|refine And.intro ?_ ?_|intro hp));all_goals (first|(refine hQ _ ?_;clear hQ Q)|(refine hQ _ (fun h=>?_) (fun h=>?_) <;> clear hQ Q <;> (try simp only [vki,reduceCtorEq] at h))|omega|assumption|with_reducible rfl|(refine kq ?_;kernel_rfl)|skip)))
    refine sym_loop (ι:=FI (errs l.entries.length (eK l))) (fun i=>enS l i.k) (fun i=>l.entries.length - i.k) (FI.zero _) ?_ fun i=>?_
    · (refine Le.ok some [] ?_;constructor;all_goals (try simp only [vle,vkt,seval,tbF8_112,xbF8_1]))
      all_goals simp [FI.zero,stK]
    · have hk:=i.le
      rw [errs_len] at hk
      have hall:∀ j,j < i.k→eK l j=0:=fun j hj=>by rw [← errs_get (eK l) (show j < l.entries.length by omega)];exact i.all j hj
      have hok:=hasOk_all hl.s hl.v i.k hk hall
      repeat' (first|(apply nx;with_reducible constructor)|refine jq (by decide) ?_)
      (refine kx env fun Q hQ=>?_;simp only [vkt,seval,tbF8_112,xbF8_1];(try simp only [ite_and]);(repeat' (first|with_reducible assumption|refine And.intro ?_ ?_|intro hp));all_goals (first|(refine hQ _ ?_;clear hQ Q)|omega|assumption|with_reducible rfl|(refine kq ?_;kernel_rfl)|skip))
      repeat' (first|(apply nx;with_reducible constructor)|refine jq (by decide) ?_)
      (refine sym_cd (by simp only [vkt,seval,tbF8_112,xbF8_1];rfl) (fun h=>?_) (fun h=>?_) <;> (try simp only [vki,reduceCtorEq] at h))
      · have hlt:i.k < l.entries.length:=by omega
        have hS:=stK_succ hlt
        have hE:=eK_eq l i.k
        have out:∀ e,eK l i.k=e→e ≠ 0→entriesE l=e:=fun e he h1=>by
          unfold entriesE
          rw [if_neg (by rw [h0];simp),i.hit hlt (by rw [he];exact h1),he]
        have hN:eK l i.k=0→∃ i':FI (errs l.entries.length (eK l)),l.entries.length - i'.k < l.entries.length - i.k∧i'.k=i.k+1:=fun h1=>⟨i.next hlt h1,by show l.entries.length - (i.k+1) < _;omega,rfl⟩
        have e9:=wrap_succ hlt (show l.entries.length≤maxLen by have:=tmax;omega)
        generalize hx:l.entries.getD i.k default=x at *
        generalize hst:stK l i.k=st at *
        obtain ⟨b,has⟩:=st
        dsimp only at hE hok hS
        by_cases c1:entryE l x b=0
        · have ho:=entryE_ok c1
          have hen:=enOk_of hok (by omega) ho
          have hlast:=hen.c1
          have hc0:=hen.c0
          have e1:entryE ⟨l.coins,l.rates,l.start,l.entries⟩ ⟨x.day,x.kind,x.coin,x.to,x.amount,x.got⟩ b=0:=c1
          have g0:=gI0 hlast
          have hen':EnOk has ⟨x.day,x.kind,x.coin,x.to,x.amount,x.got⟩:=hen
          have h9:((x.kind=2∨x.kind=3)∧has.getD x.coin.toNat 0 < x.amount)→entriesE l=9:=fun hh=>out 9 (by rw [hE];unfold eV;rw [if_neg (by rw [c1];simp),if_pos hh]) (by decide)
          have h10:¬ ((x.kind=2∨x.kind=3)∧has.getD x.coin.toNat 0 < x.amount)→∃ i':FI (errs l.entries.length (eK l)),l.entries.length - i'.k < l.entries.length - i.k∧i'.k=i.k+1:=fun hh=>hN (by rw [hE];unfold eV;rw [if_neg (by rw [c1];simp),if_neg hh])
          repeat' (first|(apply nx;with_reducible constructor)|refine jq (by decide) ?_|((first|refine kx env fun Q hQ=>?_|refine kz fun Q hQ=>?_);simp only [vkt,seval,tbF8_112,xbF8_1,hx,e1,g0,eInt];(try simp only [ite_and]);(repeat' (first|with_reducible assumption|refine And.intro ?_ ?_|intro hp));all_goals (first|(refine hQ _ ?_;clear hQ Q)|(refine hQ _ (fun h=>?_) (fun h=>?_) <;> clear hQ Q <;> (try simp only [vki,reduceCtorEq] at h))|omega|assumption|with_reducible rfl|(refine kq ?_;kernel_rfl)|skip)))
          all_goals first
            |((simp only [vrt,Try.results112,vkt,seval,tbF8_112,xbF8_1];refine Fin.val rfl ?_;(try simp only [AV.le,AV.leL]));all_goals rw [h9 (by omega)])
            |(obtain ⟨i',g1,g2⟩:=h10 (by omega);refine ⟨i',g1, ?_⟩;rw [g2];(refine Le.ok some [] ?_;constructor;all_goals (try simp only [vle,vkt,seval,tbF8_112,xbF8_1]));all_goals simp [hS,e9])
        · have e1:¬ entryE ⟨l.coins,l.rates,l.start,l.entries⟩ ⟨x.day,x.kind,x.coin,x.to,x.amount,x.got⟩ b=0:=c1
          repeat' (first|(apply nx;with_reducible constructor)|refine jq (by decide) ?_|((first|refine kx env fun Q hQ=>?_|refine kz fun Q hQ=>?_);simp only [vkt,seval,tbF8_112,xbF8_1,hx,e1];(try simp only [ite_and]);(repeat' (first|with_reducible assumption|refine And.intro ?_ ?_|intro hp));all_goals (first|(refine hQ _ ?_;clear hQ Q)|(refine hQ _ (fun h=>?_) (fun h=>?_) <;> clear hQ Q <;> (try simp only [vki,reduceCtorEq] at h))|omega|assumption|with_reducible rfl|(refine kq ?_;kernel_rfl)|skip)))
          (simp only [vrt,Try.results112,vkt,seval,tbF8_112,xbF8_1];refine Fin.val rfl ?_;(try simp only [AV.le,AV.leL]))
          all_goals rw [out _ hE (by unfold eV;rw [if_pos c1];exact c1)]
          all_goals (unfold eV;rw [if_pos c1])
      · repeat' (first|(apply nx;with_reducible constructor)|refine jq (by decide) ?_|((first|refine kx env fun Q hQ=>?_|refine kz fun Q hQ=>?_);simp only [vkt,seval,tbF8_112,xbF8_1];(try simp only [ite_and]);(repeat' (first|with_reducible assumption|refine And.intro ?_ ?_|intro hp));all_goals (first|(refine hQ _ ?_;clear hQ Q)|(refine hQ _ (fun h=>?_) (fun h=>?_) <;> clear hQ Q <;> (try simp only [vki,reduceCtorEq] at h))|omega|assumption|with_reducible rfl|(refine kq ?_;kernel_rfl)|skip)))
        (simp only [vrt,Try.results112,vkt,seval,tbF8_112,xbF8_1];refine Fin.val rfl ?_;(try simp only [AV.le,AV.leL]))
        all_goals (unfold entriesE;rw [if_neg (by rw [h0];simp),i.last (by omega)])
  · repeat' (first|(apply nx;with_reducible constructor)|refine jq (by decide) ?_|((first|refine kx env fun Q hQ=>?_|refine kz fun Q hQ=>?_);simp only [vkt,seval,tbF8_112,xbF8_1,h0];(try simp only [ite_and]);(repeat' (first|with_reducible assumption|refine And.intro ?_ ?_|intro hp));all_goals (first|(refine hQ _ ?_;clear hQ Q)|(refine hQ _ (fun h=>?_) (fun h=>?_) <;> clear hQ Q <;> (try simp only [vki,reduceCtorEq] at h))|omega|assumption|with_reducible rfl|(refine kq ?_;kernel_rfl)|skip)))
    (simp only [vrt,Try.results112,vkt,seval,tbF8_112,xbF8_1];refine Fin.val rfl ?_;(try simp only [AV.le,AV.leL]))
    all_goals simp [entriesE,h0]
def s112:List AV→Prop × AV
  |[.agg [.sl cs,.sl rs,.sl ss,.sl es]]=>(cs=(cs.map dInts).map eInts∧rs=(rs.map dShs).map eShs∧ss=(ss.map dInt).map eInt∧es=(es.map dEnt).map eEnt∧EsOk ⟨cs.map dInts,rs.map dShs,ss.map dInt,es.map dEnt⟩,aI (entriesE ⟨cs.map dInts,rs.map dShs,ss.map dInt,es.map dEnt⟩))
  |_=>(False,.junk)
theorem e112 {A:Frm→Prop}:EntryOK A Try.prog 112 (valE true s112):=valE_ok fun vs hv h=>by
  clear hv
  unfold s112 at h ⊢
  split at h
  · rename_i cs rs ss es
    obtain ⟨h1,h2,h3,h4,h5⟩:=h
    refine ⟨trivial,fun _=>trivial, ?_⟩
    have:=entries_fn ⟨cs.map dInts,rs.map dShs,ss.map dInt,es.map dEnt⟩ h5
    simp only [aLed,cLed,← h1,← h2,← h3,← h4] at this
    exact this
  · exact h.elim
end Go.Sym.B
namespace Go.Sym.B
open Go Go.Sym Go.Proofs Go.Sym.C
structure Fit (l:Led):Prop where
  c:l.coins.length≤20
  cs:∀ p ∈ l.coins,p.length≤20
  r:l.rates.length≤20
  rs:∀ p ∈ l.rates,p.length≤20
  s:l.start.length≤20
  e:l.entries.length≤20
def startE (l:Led) (k:Nat):Int:=if !inB (l.start.getD k 0) 0 999 then 1 else 0
def ckCoin (l:Led) (k:Nat):Int:=coinE (l.coins.getD k [])
def ckRate (l:Led) (k:Nat):Int:=ratesE (l.rates.getD k []) l.coins.length
def checkE (l:Led):Int :=
  if countedE l.coins.length 1 4 ≠ 0 then countedE l.coins.length 1 4 else if firstE (errs l.coins.length (ckCoin l)) ≠ 0 then firstE (errs l.coins.length (ckCoin l))
  else if countedE l.rates.length 1 4 ≠ 0 then countedE l.rates.length 1 4 else if firstE (errs l.rates.length (ckRate l)) ≠ 0 then firstE (errs l.rates.length (ckRate l))
  else if l.start.length ≠ l.coins.length then 2 else if firstE (errs l.start.length (startE l)) ≠ 0 then firstE (errs l.start.length (startE l)) else entriesE l
def ck1 (l:Led) (k:Nat):St:={ t:=asg [(1,.ptr 0 0),(2,aI 0),(21,.sl (l.coins.map eInts)),(22,aI l.coins.length),(23,aI k)],h:=hasg [(0,.cells (cLed l))],n:=1 }
def ck2 (l:Led) (k:Nat):St:={ t:=asg [(1,.ptr 0 0),(2,aI 0),(41,.sl (l.rates.map eShs)),(42,aI l.rates.length),(43,aI k)],h:=hasg [(0,.cells (cLed l))],n:=1 }
def ck3 (l:Led) (k:Nat):St:={ t:=asg [(1,.ptr 0 0),(2,aI 0),(64,.sl (l.start.map eInt)),(65,aI l.start.length),(66,aI k)],h:=hasg [(0,.cells (cLed l))],n:=1 }
def tbF9_50:=kj @ty3 (kj @ty22 (kj @ty28 (kj @ty30 (kj @ty35 (kj @ty38 (kj @ty55 (kj @ty59 (kj @ti3.eq_1 (kj @ti22.eq_1 (kj @ti28.eq_1 (kj @ti30.eq_1 (kj @ti35.eq_1 (kj @ti38.eq_1 (kj @ti55.eq_1 @ti59.eq_1))))))))))))))
def xbF9_1:=kj @aI.eq_1 (kj @aB.eq_1 (kj @aLed.eq_1 (kj @cLed.eq_1 (kj @ck1.eq_1 (kj @ck2.eq_1 (kj @ck3.eq_1 (kj @gInt (kj @eInt.eq_1 (kj @s78.eq_1 (kj @s78.eq_2 (kj @s79.eq_1 (kj @s79.eq_2 (kj @s110.eq_1 (kj @s110.eq_2 (kj @s111.eq_1 (kj @s111.eq_2 (kj @s112.eq_1 (kj @s112.eq_2 (kj @mInt (kj @mInts (kj @mShs (kj @mSh (kj @mEnt (kj @gInts (kj @gShs (kj @eInts.eq_1 (@eShs.eq_1)))))))))))))))))))))))))))
set_option maxHeartbeats 1000000 in
theorem check_fn (l:Led) (hl:Fit l):FnV Try.prog 50 [aLed l] (aI (checkE l)):=by
  have env:Env (fun _=>True) Try.prog tyB (tab [(78,valE true s78),(79,valE true s79),(110,valE true s110),(111,valE true s111),(112,valE true s112)]):=mkEnv ⟨e78,e79,e110,e111,e112,trivial⟩
  refine Fn.of (A:=fun _=>True) (n0:=0) (D:=noD) (Fn0 Try.func50 rfl (fun vs w=>by kernel_rfl) (by kernel_rfl)) (by simp) (by simp [AV.ids,AV.idsL,aLed,cLed]) (fun i o h=>by cases h) (fun _ _ _ _=>trivial) noD_ok ?_
  have q1:=hl.c
  have q2:=hl.r
  have q3:=hl.e
  have q4:=hl.s
  have q5:=tmax
  by_cases h0:countedE l.coins.length 1 4=0
  · repeat' (first|(apply nx;with_reducible constructor)|refine jq (by decide) ?_|((first|refine kx env fun Q hQ=>?_|refine kz fun Q hQ=>?_);simp only [vkt,seval,tbF9_50,xbF9_1,h0];(try simp only [ite_and]);(repeat' (first|with_reducible assumption|refine And.intro ?_ ?_|intro hp));all_goals (first|(refine hQ _ ?_;clear hQ Q)|(refine hQ _ (fun h=>?_) (fun h=>?_) <;> clear hQ Q <;> (try simp only [vki,reduceCtorEq] at h))|omega|assumption|with_reducible rfl|(refine kq ?_;kernel_rfl)|skip)))
    refine sym_loop (ι:=FI (errs l.coins.length (ckCoin l))) (fun i=>ck1 l i.k) (fun i=>l.coins.length - i.k) (FI.zero _) ?_ fun i=>?_
    · (refine Le.ok some [] ?_;constructor;all_goals (try simp only [vle,vkt,seval,tbF9_50,xbF9_1]))
      all_goals simp [FI.zero]
    · have hk:=i.le
      rw [errs_len] at hk
      repeat' (first|(apply nx;with_reducible constructor)|refine jq (by decide) ?_)
      (refine kx env fun Q hQ=>?_;simp only [vkt,seval,tbF9_50,xbF9_1];(try simp only [ite_and]);(repeat' (first|with_reducible assumption|refine And.intro ?_ ?_|intro hp));all_goals (first|(refine hQ _ ?_;clear hQ Q)|omega|assumption|with_reducible rfl|(refine kq ?_;kernel_rfl)|skip))
      repeat' (first|(apply nx;with_reducible constructor)|refine jq (by decide) ?_)
      (refine sym_cd (by simp only [vkt,seval,tbF9_50,xbF9_1];rfl) (fun h=>?_) (fun h=>?_) <;> (try simp only [vki,reduceCtorEq] at h))
      · have hlt:i.k < l.coins.length:=by omega
        have hp:(l.coins.getD i.k []).length≤maxLen:=by have:=hl.cs _ (gMem (d:=[]) hlt);omega
        have e9:=wrap_succ hlt (show l.coins.length≤maxLen by omega)
        by_cases c1:coinE (l.coins.getD i.k [])=0
        · repeat' (first|(apply nx;with_reducible constructor)|refine jq (by decide) ?_|((first|refine kx env fun Q hQ=>?_|refine kz fun Q hQ=>?_);simp only [vkt,seval,tbF9_50,xbF9_1,c1];(try simp only [ite_and]);(repeat' (first|with_reducible assumption|refine And.intro ?_ ?_|intro hp));all_goals (first|(refine hQ _ ?_;clear hQ Q)|(refine hQ _ (fun h=>?_) (fun h=>?_) <;> clear hQ Q <;> (try simp only [vki,reduceCtorEq] at h))|omega|assumption|with_reducible rfl|(refine kq ?_;kernel_rfl)|skip)))
          refine ⟨i.next hlt c1,by show l.coins.length - (i.k+1) < _;omega, ?_⟩
          (refine Le.ok some [] ?_;constructor;all_goals (try simp only [vle,vkt,seval,tbF9_50,xbF9_1]))
          all_goals simp [FI.next,e9]
        · repeat' (first|(apply nx;with_reducible constructor)|refine jq (by decide) ?_|((first|refine kx env fun Q hQ=>?_|refine kz fun Q hQ=>?_);simp only [vkt,seval,tbF9_50,xbF9_1,c1];(try simp only [ite_and]);(repeat' (first|with_reducible assumption|refine And.intro ?_ ?_|intro hp));all_goals (first|(refine hQ _ ?_;clear hQ Q)|(refine hQ _ (fun h=>?_) (fun h=>?_) <;> clear hQ Q <;> (try simp only [vki,reduceCtorEq] at h))|omega|assumption|with_reducible rfl|(refine kq ?_;kernel_rfl)|skip)))
          (simp only [vrt,Try.results50,vkt,seval,tbF9_50,xbF9_1];refine Fin.val rfl ?_;(try simp only [AV.le,AV.leL]))
          have:=i.hit hlt c1
          all_goals (unfold checkE;rw [if_neg (by rw [h0];simp),if_pos (by rw [this];exact c1),this];rfl)
      · have hf1:=i.last (by omega)
        by_cases h2:countedE l.rates.length 1 4=0
        · repeat' (first|(apply nx;with_reducible constructor)|refine jq (by decide) ?_|((first|refine kx env fun Q hQ=>?_|refine kz fun Q hQ=>?_);simp only [vkt,seval,tbF9_50,xbF9_1,h2];(try simp only [ite_and]);(repeat' (first|with_reducible assumption|refine And.intro ?_ ?_|intro hp));all_goals (first|(refine hQ _ ?_;clear hQ Q)|(refine hQ _ (fun h=>?_) (fun h=>?_) <;> clear hQ Q <;> (try simp only [vki,reduceCtorEq] at h))|omega|assumption|with_reducible rfl|(refine kq ?_;kernel_rfl)|skip)))
          refine sym_loop (ι:=FI (errs l.rates.length (ckRate l))) (fun i=>ck2 l i.k) (fun i=>l.rates.length - i.k) (FI.zero _) ?_ fun i=>?_
          · (refine Le.ok some [] ?_;constructor;all_goals (try simp only [vle,vkt,seval,tbF9_50,xbF9_1]))
            all_goals simp [FI.zero]
          · have hk:=i.le
            rw [errs_len] at hk
            have hco:1≤l.coins.length:=by unfold countedE at h0;split at h0 <;> simp at h0;omega
            repeat' (first|(apply nx;with_reducible constructor)|refine jq (by decide) ?_)
            (refine kx env fun Q hQ=>?_;simp only [vkt,seval,tbF9_50,xbF9_1];(try simp only [ite_and]);(repeat' (first|with_reducible assumption|refine And.intro ?_ ?_|intro hp));all_goals (first|(refine hQ _ ?_;clear hQ Q)|omega|assumption|with_reducible rfl|(refine kq ?_;kernel_rfl)|skip))
            repeat' (first|(apply nx;with_reducible constructor)|refine jq (by decide) ?_)
            (refine sym_cd (by simp only [vkt,seval,tbF9_50,xbF9_1];rfl) (fun h=>?_) (fun h=>?_) <;> (try simp only [vki,reduceCtorEq] at h))
            · have hlt:i.k < l.rates.length:=by omega
              have hp:(l.rates.getD i.k []).length≤maxLen:=by have:=hl.rs _ (gMem (d:=[]) hlt);omega
              have e9:=wrap_succ hlt (show l.rates.length≤maxLen by omega)
              by_cases c1:ratesE (l.rates.getD i.k []) l.coins.length=0
              · repeat' (first|(apply nx;with_reducible constructor)|refine jq (by decide) ?_|((first|refine kx env fun Q hQ=>?_|refine kz fun Q hQ=>?_);simp only [vkt,seval,tbF9_50,xbF9_1,c1];(try simp only [ite_and]);(repeat' (first|with_reducible assumption|refine And.intro ?_ ?_|intro hp));all_goals (first|(refine hQ _ ?_;clear hQ Q)|(refine hQ _ (fun h=>?_) (fun h=>?_) <;> clear hQ Q <;> (try simp only [vki,reduceCtorEq] at h))|omega|assumption|with_reducible rfl|(refine kq ?_;kernel_rfl)|skip)))
                refine ⟨i.next hlt c1,by show l.rates.length - (i.k+1) < _;omega, ?_⟩
                (refine Le.ok some [] ?_;constructor;all_goals (try simp only [vle,vkt,seval,tbF9_50,xbF9_1]))
                all_goals simp [FI.next,e9]
              · repeat' (first|(apply nx;with_reducible constructor)|refine jq (by decide) ?_|((first|refine kx env fun Q hQ=>?_|refine kz fun Q hQ=>?_);simp only [vkt,seval,tbF9_50,xbF9_1,c1];(try simp only [ite_and]);(repeat' (first|with_reducible assumption|refine And.intro ?_ ?_|intro hp));all_goals (first|(refine hQ _ ?_;clear hQ Q)|(refine hQ _ (fun h=>?_) (fun h=>?_) <;> clear hQ Q <;> (try simp only [vki,reduceCtorEq] at h))|omega|assumption|with_reducible rfl|(refine kq ?_;kernel_rfl)|skip)))
                (simp only [vrt,Try.results50,vkt,seval,tbF9_50,xbF9_1];refine Fin.val rfl ?_;(try simp only [AV.le,AV.leL]))
                have:=i.hit hlt c1
                all_goals (unfold checkE;rw [if_neg (by rw [h0];simp),if_neg (by rw [hf1];simp),if_neg (by rw [h2];simp),if_pos (by rw [this];exact c1),this];rfl)
            · have hf2:=i.last (by omega)
              by_cases h3:l.start.length=l.coins.length
              · have h3':(l.start.length:Int)=l.coins.length:=by omega
                repeat' (first|(apply nx;with_reducible constructor)|refine jq (by decide) ?_|((first|refine kx env fun Q hQ=>?_|refine kz fun Q hQ=>?_);simp only [vkt,seval,tbF9_50,xbF9_1,h3'];(try simp only [ite_and]);(repeat' (first|with_reducible assumption|refine And.intro ?_ ?_|intro hp));all_goals (first|(refine hQ _ ?_;clear hQ Q)|(refine hQ _ (fun h=>?_) (fun h=>?_) <;> clear hQ Q <;> (try simp only [vki,reduceCtorEq] at h))|omega|assumption|with_reducible rfl|(refine kq ?_;kernel_rfl)|skip)))
                refine sym_loop (ι:=FI (errs l.start.length (startE l))) (fun i=>ck3 l i.k) (fun i=>l.start.length - i.k) (FI.zero _) ?_ fun i=>?_
                · (refine Le.ok some [] ?_;constructor;all_goals (try simp only [vle,vkt,seval,tbF9_50,xbF9_1]))
                  all_goals simp [FI.zero,h3]
                · have hk:=i.le
                  rw [errs_len] at hk
                  repeat' (first|(apply nx;with_reducible constructor)|refine jq (by decide) ?_)
                  (refine kx env fun Q hQ=>?_;simp only [vkt,seval,tbF9_50,xbF9_1];(try simp only [ite_and]);(repeat' (first|with_reducible assumption|refine And.intro ?_ ?_|intro hp));all_goals (first|(refine hQ _ ?_;clear hQ Q)|omega|assumption|with_reducible rfl|(refine kq ?_;kernel_rfl)|skip))
                  repeat' (first|(apply nx;with_reducible constructor)|refine jq (by decide) ?_)
                  (refine sym_cd (by simp only [vkt,seval,tbF9_50,xbF9_1];rfl) (fun h=>?_) (fun h=>?_) <;> (try simp only [vki,reduceCtorEq] at h))
                  · have hlt:i.k < l.start.length:=by omega
                    have e9:=wrap_succ hlt (show l.start.length≤maxLen by omega)
                    by_cases c1:inB (l.start.getD i.k 0) 0 999=true
                    · repeat' (first|(apply nx;with_reducible constructor)|refine jq (by decide) ?_|((first|refine kx env fun Q hQ=>?_|refine kz fun Q hQ=>?_);simp only [vkt,seval,tbF9_50,xbF9_1,c1];(try simp only [ite_and]);(repeat' (first|with_reducible assumption|refine And.intro ?_ ?_|intro hp));all_goals (first|(refine hQ _ ?_;clear hQ Q)|(refine hQ _ (fun h=>?_) (fun h=>?_) <;> clear hQ Q <;> (try simp only [vki,reduceCtorEq] at h))|omega|assumption|with_reducible rfl|(refine kq ?_;kernel_rfl)|skip)))
                      refine ⟨i.next hlt (by unfold startE;rw [c1];rfl),by show l.start.length - (i.k+1) < _;omega, ?_⟩
                      (refine Le.ok some [] ?_;constructor;all_goals (try simp only [vle,vkt,seval,tbF9_50,xbF9_1]))
                      all_goals simp [FI.next,e9]
                    · have c1:inB (l.start.getD i.k 0) 0 999=false:=by simpa using c1
                      repeat' (first|(apply nx;with_reducible constructor)|refine jq (by decide) ?_|((first|refine kx env fun Q hQ=>?_|refine kz fun Q hQ=>?_);simp only [vkt,seval,tbF9_50,xbF9_1,c1];(try simp only [ite_and]);(repeat' (first|with_reducible assumption|refine And.intro ?_ ?_|intro hp));all_goals (first|(refine hQ _ ?_;clear hQ Q)|(refine hQ _ (fun h=>?_) (fun h=>?_) <;> clear hQ Q <;> (try simp only [vki,reduceCtorEq] at h))|omega|assumption|with_reducible rfl|(refine kq ?_;kernel_rfl)|skip)))
                      (simp only [vrt,Try.results50,vkt,seval,tbF9_50,xbF9_1];refine Fin.val rfl ?_;(try simp only [AV.le,AV.leL]))
                      have:=i.hit hlt (by unfold startE;rw [c1];simp)
                      have h1:startE l i.k=1:=by unfold startE;rw [c1];rfl
                      all_goals (unfold checkE;rw [if_neg (by rw [h0];simp),if_neg (by rw [hf1];simp),if_neg (by rw [h2];simp),if_neg (by rw [hf2];simp),if_neg (by rw [h3];simp),if_pos (by rw [this,h1];simp),this,h1])
                  · have hf3:=i.last (by omega)
                    have hes:EsOk ⟨l.coins,l.rates,l.start,l.entries⟩:=⟨q1,q2,q3,h3,fun v hv=>by
                      have hv:v ∈ l.start:=hv
                      obtain ⟨j,hj,rfl⟩:=List.getElem_of_mem hv
                      have:=i.all j (by omega)
                      rw [errs_get _ hj] at this
                      unfold startE at this
                      cases hb:inB (l.start.getD j 0) 0 999 with
                      |true=>rw [inB_iff] at hb;simpa [List.getD_eq_getElem?_getD,hj] using hb
                      |false=>rw [hb] at this;simp at this⟩
                    repeat' (first|(apply nx;with_reducible constructor)|refine jq (by decide) ?_|((first|refine kx env fun Q hQ=>?_|refine kz fun Q hQ=>?_);simp only [vkt,seval,tbF9_50,xbF9_1];(try simp only [ite_and]);(repeat' (first|with_reducible assumption|refine And.intro ?_ ?_|intro hp));all_goals (first|(refine hQ _ ?_;clear hQ Q)|(refine hQ _ (fun h=>?_) (fun h=>?_) <;> clear hQ Q <;> (try simp only [vki,reduceCtorEq] at h))|omega|assumption|with_reducible rfl|(refine kq ?_;kernel_rfl)|skip)))
                    (simp only [vrt,Try.results50,vkt,seval,tbF9_50,xbF9_1];refine Fin.val rfl ?_;(try simp only [AV.le,AV.leL]))
                    all_goals (unfold checkE;rw [if_neg (by rw [h0];simp),if_neg (by rw [hf1];simp),if_neg (by rw [h2];simp),if_neg (by rw [hf2];simp),if_neg (by rw [h3];simp),if_neg (by rw [hf3];simp)])
              · have h3':¬ (l.start.length:Int)=l.coins.length:=by omega
                repeat' (first|(apply nx;with_reducible constructor)|refine jq (by decide) ?_|((first|refine kx env fun Q hQ=>?_|refine kz fun Q hQ=>?_);simp only [vkt,seval,tbF9_50,xbF9_1,h3'];(try simp only [ite_and]);(repeat' (first|with_reducible assumption|refine And.intro ?_ ?_|intro hp));all_goals (first|(refine hQ _ ?_;clear hQ Q)|(refine hQ _ (fun h=>?_) (fun h=>?_) <;> clear hQ Q <;> (try simp only [vki,reduceCtorEq] at h))|omega|assumption|with_reducible rfl|(refine kq ?_;kernel_rfl)|skip)))
                (simp only [vrt,Try.results50,vkt,seval,tbF9_50,xbF9_1];refine Fin.val rfl ?_;(try simp only [AV.le,AV.leL]))
                all_goals (unfold checkE;rw [if_neg (by rw [h0];simp),if_neg (by rw [hf1];simp),if_neg (by rw [h2];simp),if_neg (by rw [hf2];simp),if_pos h3])
        · repeat' (first|(apply nx;with_reducible constructor)|refine jq (by decide) ?_|((first|refine kx env fun Q hQ=>?_|refine kz fun Q hQ=>?_);simp only [vkt,seval,tbF9_50,xbF9_1,h2];(try simp only [ite_and]);(repeat' (first|with_reducible assumption|refine And.intro ?_ ?_|intro hp));all_goals (first|(refine hQ _ ?_;clear hQ Q)|(refine hQ _ (fun h=>?_) (fun h=>?_) <;> clear hQ Q <;> (try simp only [vki,reduceCtorEq] at h))|omega|assumption|with_reducible rfl|(refine kq ?_;kernel_rfl)|skip)))
          (simp only [vrt,Try.results50,vkt,seval,tbF9_50,xbF9_1];refine Fin.val rfl ?_;(try simp only [AV.le,AV.leL]))
          all_goals (unfold checkE;rw [if_neg (by rw [h0];simp),if_neg (by rw [hf1];simp),if_pos h2])
  · repeat' (first|(apply nx;with_reducible constructor)|refine jq (by decide) ?_|((first|refine kx env fun Q hQ=>?_|refine kz fun Q hQ=>?_);simp only [vkt,seval,tbF9_50,xbF9_1,h0];(try simp only [ite_and]);(repeat' (first|with_reducible assumption|refine And.intro ?_ ?_|intro hp));all_goals (first|(refine hQ _ ?_;clear hQ Q)|(refine hQ _ (fun h=>?_) (fun h=>?_) <;> clear hQ Q <;> (try simp only [vki,reduceCtorEq] at h))|omega|assumption|with_reducible rfl|(refine kq ?_;kernel_rfl)|skip)))
    (simp only [vrt,Try.results50,vkt,seval,tbF9_50,xbF9_1];refine Fin.val rfl ?_;(try simp only [AV.le,AV.leL]))
    all_goals simp [checkE,h0]
end Go.Sym.B
namespace Go.Sym.B
open Go Go.Sym Go.Proofs Go.Sym.C
def isL (cs rs ss es:List (List DV)):Prop:=cs=(cs.map dInts).map eInts∧rs=(rs.map dShs).map eShs∧ss=(ss.map dInt).map eInt∧es=(es.map dEnt).map eEnt
def ldOf (cs rs ss es:List (List DV)):Led:=⟨cs.map dInts,rs.map dShs,ss.map dInt,es.map dEnt⟩
theorem isL_e (l:Led):isL (l.coins.map eInts) (l.rates.map eShs) (l.start.map eInt) (l.entries.map eEnt)=True:=by simp only [isL,mInts,mShs,mInt,mEnt,and_self]
theorem ldOf_e (l:Led):ldOf (l.coins.map eInts) (l.rates.map eShs) (l.start.map eInt) (l.entries.map eEnt)=l:=by simp only [ldOf,mInts,mShs,mInt,mEnt]
theorem aLed_of {cs rs ss es:List (List DV)} (h:isL cs rs ss es):aLed (ldOf cs rs ss es)=.agg [.sl cs,.sl rs,.sl ss,.sl es]:=by
  simp only [aLed,cLed,ldOf,← h.1,← h.2.1,← h.2.2.1,← h.2.2.2]
def c50:List AV→Prop × AV
  |[.agg [.sl cs,.sl rs,.sl ss,.sl es]]=>(isL cs rs ss es∧Fit (ldOf cs rs ss es),aI (checkE (ldOf cs rs ss es)))
  |_=>(False,.junk)
theorem d50 {A:Frm→Prop}:EntryOK A Try.prog 50 (valE true c50):=valE_ok fun vs hv h=>by
  clear hv
  unfold c50 at h ⊢
  split at h
  · refine ⟨trivial,fun _=>trivial, ?_⟩
    rw [← aLed_of h.1];exact check_fn _ h.2
  · exact h.elim
theorem firstE_zero:∀ {E:List Int},firstE E=0→∀ e ∈ E,e=0
  |e :: r,h,x,hx=>by
    unfold firstE at h
    split at h
    · rename_i he
      rcases List.mem_cons.1 hx with rfl|hx
      · exact he
      · exact firstE_zero h x hx
    · exact absurd h ‹_›
theorem errs_zero {n:Nat} {f:Nat→Int} (h:firstE (errs n f)=0) {k:Nat} (hk:k < n):f k=0 :=
  firstE_zero h _ (List.mem_map.2 ⟨k,List.mem_range.2 hk,rfl⟩)
theorem counted_zero {n a b:Int} (h:countedE n a b=0):a≤n∧n≤b:=by
  unfold countedE at h
  split at h
  · exact absurd h (by decide)
  · split at h
    · exact absurd h (by decide)
    · omega
structure Val (l:Led):Prop where
  c:1≤l.coins.length∧l.coins.length≤4
  cs:∀ k,k < l.coins.length→coinE (l.coins.getD k [])=0
  r:1≤l.rates.length∧l.rates.length≤4
  rs:∀ k,k < l.rates.length→ratesE (l.rates.getD k []) l.coins.length=0
  sl:l.start.length=l.coins.length
  s:∀ v ∈ l.start,0≤v∧v≤999
  e:l.entries.length≤6
  es:∀ k,k < l.entries.length→eK l k=0
theorem val_of {l:Led} (h:checkE l=0):Val l:=by
  unfold checkE at h
  split at h
  · exact absurd h ‹_›
  rename_i a1
  split at h
  · exact absurd h ‹_›
  rename_i a2
  split at h
  · exact absurd h ‹_›
  rename_i a3
  split at h
  · exact absurd h ‹_›
  rename_i a4
  split at h
  · exact absurd h (by decide)
  rename_i a5
  split at h
  · exact absurd h ‹_›
  rename_i a6
  unfold entriesE at h
  split at h
  · exact absurd h ‹_›
  rename_i a7
  have a1:=counted_zero (Decidable.not_not.1 a1)
  have a2:=Decidable.not_not.1 a2
  have a3:=counted_zero (Decidable.not_not.1 a3)
  have a4:=Decidable.not_not.1 a4
  have a5:=Decidable.not_not.1 a5
  have a6:=Decidable.not_not.1 a6
  have a7:=counted_zero (Decidable.not_not.1 a7)
  refine ⟨by omega,fun k hk=>errs_zero a2 hk,by omega,fun k hk=>errs_zero a4 hk,a5,fun v hv=>?_,by omega,fun k hk=>errs_zero h hk⟩
  obtain ⟨j,hj,rfl⟩:=List.getElem_of_mem hv
  have:=errs_zero a6 hj
  unfold startE at this
  cases hb:inB (l.start.getD j 0) 0 999 with
  |true=>rw [inB_iff] at hb;simpa [List.getD_eq_getElem?_getD,hj] using hb
  |false=>rw [hb] at this;simp at this
def rsh (l:Led) (d c:Int):Sh:=(l.rates.getD d.toNat []).getD c.toNat default
def rq (l:Led) (d c:Int):Rat:=qI (rsh l d c).num (rsh l d c).den
structure Rt (l:Led) (d c:Int):Prop where
  d0:0≤d
  d1:d.toNat < l.rates.length
  c0:0≤c
  c1:c.toNat < (l.rates.getD d.toNat []).length
  q:rsh l d c=shQ (rq l d c)
  n0:1≤(rq l d c).num
  n1:(rq l d c).num≤20
  e1:(rq l d c).den≤12
theorem val_rt {l:Led} (h:Val l) {d c:Int} (hd:0≤d) (hd':d≤(l.rates.length:Int) - 1) (hc:0≤c) (hc':c≤(l.coins.length:Int) - 1):Rt l d c:=by
  have h1:=h.rs d.toNat (by omega)
  unfold ratesE at h1
  split at h1
  · exact absurd h1 (by decide)
  rename_i a1
  split at h1
  · exact absurd h1 (by decide)
  rename_i a2
  have a1:=Decidable.not_not.1 a1
  have a2:=Decidable.not_not.1 a2
  have key:rsh l d c=shQ (rq l d c)∧1≤(rsh l d c).num∧(rsh l d c).num≤20∧(rsh l d c).den≤12:=by
    by_cases hc0:c.toNat=0
    · have:rsh l d c=⟨1,1⟩:=by unfold rsh;rw [hc0];exact a2
      unfold rq
      rw [this]
      exact ⟨by decide,by decide,by decide,by decide⟩
    · have h2:=errs_zero h1 (k:=c.toNat - 1) (by omega)
      unfold rateE at h2
      rw [show 1+(c.toNat - 1)=c.toNat by omega] at h2
      change shE (rsh l d c)=0 at h2
      generalize hs:rsh l d c=s at *
      unfold shE at h2
      split at h2
      · exact absurd h2 (by decide)
      rename_i b1
      split at h2
      · exact absurd h2 (by decide)
      rename_i b2
      split at h2
      · exact absurd h2 (by decide)
      rename_i b3
      have b1:1≤s.num∧s.num≤20:=by simpa [inB] using b1
      have b2:1≤s.den∧s.den≤12:=by simpa [inB] using b2
      refine ⟨?_,b1.1,b1.2,b2.2⟩
      unfold rq;rw [hs];exact Decidable.not_not.1 b3
  have k1:=congrArg Sh.num key.1
  have k2:=congrArg Sh.den key.1
  refine ⟨hd,by omega,hc,by omega,key.1, ?_, ?_, ?_⟩
  · have:(rsh l d c).num=(rq l d c).num:=k1;omega
  · have:(rsh l d c).num=(rq l d c).num:=k1;omega
  · have:(rsh l d c).den=((rq l d c).den:Int):=k2;omega
theorem rt_bd {l:Led} {d c:Int} (h:Rt l d c):Bd 20 (rq l d c):=by
  have h1:=h.n0
  have h2:=h.n1
  have h3:=h.e1
  have h4:=den_pos (rq l d c)
  refine ⟨?_,by omega,by omega⟩
  generalize (rq l d c).den=n at *
  have:n=1∨n=2∨n=3∨n=4∨n=5∨n=6∨n=7∨n=8∨n=9∨n=10∨n=11∨n=12:=by omega
  rcases this with rfl|rfl|rfl|rfl|rfl|rfl|rfl|rfl|rfl|rfl|rfl|rfl <;> decide
theorem tm_of3 {q:Rat} {n:Int} (hq:Bd 20 q) (h0:-300000≤n) (h1:n≤300000):Tm q n:=⟨hq.sm (by decide),by omega,by omega⟩
theorem tm_of {q:Rat} {n:Int} (hq:Bd 20 q) (h0:-100000≤n) (h1:n≤100000):Tm q n:=⟨hq.sm (by decide),by omega,by omega⟩
def tbF10_98:=kj @ty35 (kj @ty38 (kj @ty55 (kj @ty59 (kj @ty107 (kj @ti35.eq_1 (kj @ti38.eq_1 (kj @ti55.eq_1 (kj @ti59.eq_1 @ti107.eq_1))))))))
def xbF10_1:=kj @aI.eq_1 (kj @aB.eq_1 (kj @aLed.eq_1 (kj @cLed.eq_1 (kj @aSh.eq_1 (kj @gShs (kj @gSh (kj @eShs.eq_1 (@eSh.eq_1))))))))
theorem rate_fn (l:Led) (d c:Int) (h:Rt l d c):FnV Try.prog 98 [aLed l,aI d,aI c] (aSh (shQ (rq l d c))):=by
  have env:Env (fun _=>True) Try.prog tyB (tab []):=mkEnv trivial
  refine Fn.of (A:=fun _=>True) (n0:=0) (D:=noD) (Fn0 Try.func98 rfl (fun vs w=>by kernel_rfl) (by kernel_rfl)) (by simp) (by simp [AV.ids,AV.idsL,aLed,cLed,aI]) (fun i o h=>by cases h) (fun _ _ _ _=>trivial) noD_ok ?_
  have q1:=h.d0
  have q2:=h.d1
  have q3:=h.c0
  have q4:=h.c1
  repeat' (first|(apply nx;with_reducible constructor)|refine jq (by decide) ?_|((first|refine kx env fun Q hQ=>?_|refine kz fun Q hQ=>?_);simp only [vkt,seval,tbF10_98,xbF10_1];(try simp only [ite_and]);(repeat' (first|with_reducible assumption|refine And.intro ?_ ?_|intro hp));all_goals (first|(refine hQ _ ?_;clear hQ Q)|(refine hQ _ (fun h=>?_) (fun h=>?_) <;> clear hQ Q <;> (try simp only [vki,reduceCtorEq] at h))|omega|assumption|with_reducible rfl|(refine kq ?_;kernel_rfl)|skip)))
  (simp only [vrt,Try.results98,vkt,seval,tbF10_98,xbF10_1];refine Fin.val rfl ?_;(try simp only [AV.le,AV.leL]))
  all_goals (rw [← h.q];exact ⟨rfl,rfl,trivial⟩)
def c98:List AV→Prop × AV
  |[.agg [.sl cs,.sl rs,.sl ss,.sl es],.v (.int .i64 d),.v (.int .i64 c)]=>(isL cs rs ss es∧Rt (ldOf cs rs ss es) d c,aSh (shQ (rq (ldOf cs rs ss es) d c)))
  |_=>(False,.junk)
theorem d98 {A:Frm→Prop}:EntryOK A Try.prog 98 (valE true c98):=valE_ok fun vs hv h=>by
  clear hv
  unfold c98 at h ⊢
  split at h
  · refine ⟨by simp [AV.plain,AV.plainL,aSh],fun _=>by simp [AV.flat,AV.flatL,aSh], ?_⟩
    rw [← aLed_of h.1];exact rate_fn _ _ _ h.2
  · exact h.elim
end Go.Sym.B
namespace Go.Sym.B
open Go Go.Sym Go.Proofs Go.Sym.C
def eQ (q:Rat):List DV:=eSh (shQ q)
def dQ (r:List DV):Rat:=qI (dSh r).num (dSh r).den
theorem dQ_e (q:Rat):dQ (eQ q)=q:=qI_q q
theorem mQ (l:List Rat):(l.map eQ).map dQ=l:=by simp [Function.comp_def,dQ_e]
theorem rQ (l:List Rat):rowsOK 2 (l.map eQ)=True:=rowsOK_map (f:=eQ) (k:=2) (fun _=>rfl) l
theorem gQ {l:List Rat} {n:Nat} {z:List DV} (h:n < l.length):(l.map eQ).getD n z=eQ (l.getD n 0):=by simp [List.getD_eq_getElem?_getD,h]
def sumS (l:List Rat) (k:Nat):St:={ t:=asg [(0,.sl (l.map eQ)),(2,.ptr 0 0),(3,.clo 138 []),(4,.ptr 1 0),(8,.sl (l.map eQ)),(9,aI l.length),(10,aI k)],h:=hasg [(0,.cells [.v (.int .i64 0),.v (.int .i64 0)]),(1,.cells [.v (.int .i64 (qsum (l.take k)).num),.v (.int .i64 (qsum (l.take k)).den)])],n:=2 }
structure SumOk (l:List Rat):Prop where
  len:l.length≤10
  bd:∀ q ∈ l,Bd 1000000 q
theorem SumOk.part {l:List Rat} (h:SumOk l) (k:Nat):Sm (qsum (l.take k)):=by
  have h1:=qsum_bd (l.take k) (B:=1000000) fun q hq=>h.bd q (List.mem_of_mem_take hq)
  refine (h1.mono (C:=10000000) ?_).sm (by decide)
  have:(l.take k).length≤10:=by have:=h.len;simp;omega
  calc (l.take k).length * 1000000≤10 * 1000000:=Nat.mul_le_mul_right _ this
    _=10000000:=rfl
theorem qsum_take {l:List Rat} {k:Nat} (h:k < l.length):qsum (l.take (k+1))=qsum (l.take k)+l.getD k 0:=by
  rw [List.take_succ_eq_append_getElem h,qsum_snoc];simp [List.getD_eq_getElem?_getD,h]
def tbF12_102:=kj @ty3 (kj @ty107 (kj @ty115 (kj @ti3.eq_1 (kj @ti107.eq_1 @ti115.eq_1))))
def xbF12_1:=kj @aI.eq_1 (kj @aB.eq_1 (kj @aSh.eq_1 (kj @shQ.eq_1 (kj @eSh.eq_1 (kj @eQ.eq_1 (kj @s107.eq_1 (kj @s107.eq_2 (kj @s138.eq_1 (kj @s138.eq_2 (kj @sumS.eq_1 (kj @isQ_q (kj @qI_q (@rQ)))))))))))))
theorem sum_fn (l:List Rat) (hS:SumOk l):FnV Try.prog 102 [.sl (l.map eQ)] (aSh (shQ (qsum l))):=by
  have env:Env (fun _=>True) Try.prog tyB (tab [(107,valE true s107),(138,valE true s138)]):=mkEnv ⟨e107,e138,trivial⟩
  refine Fn.of (A:=fun _=>True) (n0:=0) (D:=noD) (Fn0 Try.func102 rfl (fun vs w=>by kernel_rfl) (by kernel_rfl)) (by simp) (by simp [AV.ids,AV.idsL]) (fun i o h=>by cases h) (fun _ _ _ _=>trivial) noD_ok ?_
  have hl:=hS.len
  have hm:l.length≤maxLen:=by
      have:=tmax;have:(100:Nat)≤maxLen:=by decide
      omega
  repeat' (first|(apply nx;with_reducible constructor)|refine jq (by decide) ?_|((first|refine kx env fun Q hQ=>?_|refine kz fun Q hQ=>?_);simp only [vkt,seval,tbF12_102,xbF12_1];(try simp only [ite_and]);(repeat' (first|with_reducible assumption|refine And.intro ?_ ?_|intro hp));all_goals (first|(refine hQ _ ?_;clear hQ Q)|(refine hQ _ (fun h=>?_) (fun h=>?_) <;> clear hQ Q <;> (try simp only [vki,reduceCtorEq] at h))|omega|assumption|with_reducible rfl|(refine kq ?_;kernel_rfl)|skip)))
  refine sym_loop (fun k=>sumS l k) (fun k=>l.length - k) 0 ?_ fun k=>?_
  · (refine Le.ok some [] ?_;constructor;all_goals (try simp only [vle,vkt,seval,tbF12_102,xbF12_1]))
    all_goals simp [qsum]
  · have h1:=hS.part k
    repeat' (first|(apply nx;with_reducible constructor)|refine jq (by decide) ?_)
    (refine kx env fun Q hQ=>?_;simp only [vkt,seval,tbF12_102,xbF12_1];(try simp only [ite_and]);(repeat' (first|with_reducible assumption|refine And.intro ?_ ?_|intro hp));all_goals (first|(refine hQ _ ?_;clear hQ Q)|omega|assumption|with_reducible rfl|(refine kq ?_;kernel_rfl)|skip))
    repeat' (first|(apply nx;with_reducible constructor)|refine jq (by decide) ?_)
    (refine sym_cd (by simp only [vkt,seval,tbF12_102,xbF12_1];rfl) (fun h=>?_) (fun h=>?_) <;> (try simp only [vki,reduceCtorEq] at h))
    · have hlt:k < l.length:=by omega
      have h2:=(hS.bd _ (gMem (d:=0) hlt)).sm (by decide)
      have g1:=gQ (z:=[.v (.int .i64 0),.v (.int .i64 0)]) hlt
      have e9:=wrap_succ hlt hm
      repeat' (first|(apply nx;with_reducible constructor)|refine jq (by decide) ?_|((first|refine kx env fun Q hQ=>?_|refine kz fun Q hQ=>?_);simp only [vkt,seval,tbF12_102,xbF12_1,g1];(try simp only [ite_and]);(repeat' (first|with_reducible assumption|refine And.intro ?_ ?_|intro hp));all_goals (first|(refine hQ _ ?_;clear hQ Q)|(refine hQ _ (fun h=>?_) (fun h=>?_) <;> clear hQ Q <;> (try simp only [vki,reduceCtorEq] at h))|omega|assumption|with_reducible rfl|(refine kq ?_;kernel_rfl)|skip)))
      refine ⟨k+1,by omega, ?_⟩
      (refine Le.ok some [] ?_;constructor;all_goals (try simp only [vle,vkt,seval,tbF12_102,xbF12_1]))
      all_goals simp [qsum_take hlt,e9]
    · have hk:l.take k=l:=List.take_of_length_le (by omega)
      repeat' (first|(apply nx;with_reducible constructor)|refine jq (by decide) ?_|((first|refine kx env fun Q hQ=>?_|refine kz fun Q hQ=>?_);simp only [vkt,seval,tbF12_102,xbF12_1,hk];(try simp only [ite_and]);(repeat' (first|with_reducible assumption|refine And.intro ?_ ?_|intro hp));all_goals (first|(refine hQ _ ?_;clear hQ Q)|(refine hQ _ (fun h=>?_) (fun h=>?_) <;> clear hQ Q <;> (try simp only [vki,reduceCtorEq] at h))|omega|assumption|with_reducible rfl|(refine kq ?_;kernel_rfl)|skip)))
      (simp only [vrt,Try.results102,hk,vkt,seval,tbF12_102,xbF12_1];refine Fin.val rfl ?_;(try simp only [AV.le,AV.leL]))
      all_goals simp
def c102:List AV→Prop × AV
  |[.sl xs]=>(xs=(xs.map dQ).map eQ∧SumOk (xs.map dQ),aSh (shQ (qsum (xs.map dQ))))
  |[.nil]=>(True,aSh (shQ (qsum [])))
  |_=>(False,.junk)
theorem d102 {A:Frm→Prop}:EntryOK A Try.prog 102 (valE true c102):=valE_ok fun vs hv h=>by
  unfold c102 at h ⊢
  split at h
  · refine ⟨by simp [AV.plain,AV.plainL,aSh],fun _=>by simp [AV.flat,AV.flatL,aSh], ?_⟩
    have:=sum_fn _ h.2
    rwa [← h.1] at this
  · simp [AV.plainL,AV.plain] at hv
  · exact h.elim
def worthQ (l:Led) (d:Int) (has:List Int) (k:Nat):Rat:=qsum ((List.range k).map fun c:Nat=>rq l d c * (has.getD c 0:Int))
theorem worthQ_succ (l:Led) (d:Int) (has:List Int) (k:Nat):worthQ l d has (k+1)=worthQ l d has k+rq l d (k:Int) * (has.getD k 0:Int):=by
  unfold worthQ;rw [List.range_succ,List.map_append,List.map_cons,List.map_nil,qsum_snoc]
def wS (l:Led) (d:Int) (has:List Int) (k:Nat):St:={ t:=asg [(0,.ptr 0 0),(1,aI d),(4,.ptr 2 0),(5,.ptr 3 0),(12,.row 1),(13,aI has.length),(14,aI k)],h:=hasg [(0,oTill l 1),(1,oHas has),(2,.cells [.v (.int .i64 0),.v (.int .i64 0)]),(3,.cells [.v (.int .i64 (worthQ l d has k).num),.v (.int .i64 (worthQ l d has k).den)])],n:=4,m:=2 }
structure WOk (l:Led) (d:Int) (has:List Int):Prop where
  len:has.length≤4
  rt:∀ c:Nat,c < has.length→Rt l d c
  b:∀ v ∈ has,-10000≤v∧v≤10000
theorem WOk.part {l:Led} {d:Int} {has:List Int} (h:WOk l d has) (k:Nat) (hk:k≤has.length):Bd (k * (20 * 10000)) (worthQ l d has k):=by
  unfold worthQ
  have:=qsum_bd ((List.range k).map fun c:Nat=>rq l d c * (has.getD c 0:Int)) (B:=20 * 10000) fun q hq=>by
    obtain ⟨c,hc,rfl⟩:=List.mem_map.1 hq
    have hc:=List.mem_range.1 hc
    have:=h.b _ (gMem (d:=0) (show c < has.length by omega))
    exact (rt_bd (h.rt c (by omega))).muli (by omega) (by omega)
  simpa using this
def tbF12_103:=kj @ty3 (kj @ty22 (kj @ty38 (kj @ty107 (kj @ty123 (kj @ti3.eq_1 (kj @ti22.eq_1 (kj @ti38.eq_1 (kj @ti107.eq_1 @ti123.eq_1))))))))
def xbF12_2:=kj @aI.eq_1 (kj @aB.eq_1 (kj @aLed.eq_1 (kj @cLed.eq_1 (kj @aSh.eq_1 (kj @shQ.eq_1 (kj @eInt.eq_1 (kj @gInt (kj @oTill.eq_1 (kj @oHas.eq_1 (kj @s107.eq_1 (kj @s107.eq_2 (kj @s138.eq_1 (kj @s138.eq_2 (kj @c98.eq_1 (kj @c98.eq_2 (kj @s99.eq_1 (kj @s99.eq_2 (kj @wS.eq_1 (kj @isL_e (kj @ldOf_e (kj @isQ_q (@qI_q))))))))))))))))))))))
theorem worth_fn (l:Led) (d:Int) (has:List Int) (hW:WOk l d has):Fn noB Try.prog 103 [.ptr 0 0,aI d] (hasg [(0,oTill l 1),(1,oHas has)]) (aSh (shQ (worthQ l d has has.length))) (hasg [(0,oTill l 1),(1,oHas has)]) 0:=by
  have env:Env (fun _=>True) Try.prog tyB (tab [(98,valE true c98),(99,valE true s99),(107,valE true s107),(138,valE true s138)]):=mkEnv ⟨d98,e99,e107,e138,trivial⟩
  refine Fn.of (A:=fun _=>True) (n0:=2) (D:=noD) (Fn0 Try.func103 rfl (fun vs w=>by kernel_rfl) (by kernel_rfl)) (by simp) (by simp [AV.ids,AV.idsL,aI]) ?_ (fun _ _ _ _=>trivial) noD_ok ?_
  · intro i o hi
    rcases List.mem_cons.1 (hasg_mem hi) with h|h
    · cases h;simp [oTill,cLed,AObj.ids,AV.ids,AV.idsL]
    · simp at h;obtain ⟨rfl,rfl⟩:=h;simp [oHas,AObj.ids]
  have hl:=hW.len
  have hm:has.length≤maxLen:=by have:=tmax;omega
  repeat' (first|(apply nx;with_reducible constructor)|refine jq (by decide) ?_|((first|refine kx env fun Q hQ=>?_|refine kz fun Q hQ=>?_);simp only [vkt,seval,tbF12_103,xbF12_2];(try simp only [ite_and]);(repeat' (first|with_reducible assumption|refine And.intro ?_ ?_|intro hp));all_goals (first|(refine hQ _ ?_;clear hQ Q)|(refine hQ _ (fun h=>?_) (fun h=>?_) <;> clear hQ Q <;> (try simp only [vki,reduceCtorEq] at h))|omega|assumption|with_reducible rfl|(refine kq ?_;kernel_rfl)|skip)))
  refine sym_loop (fun k:{ k:Nat // k≤has.length }=>wS l d has k.1) (fun k=>has.length - k.1) ⟨0,Nat.zero_le _⟩ ?_ fun ⟨k,hk⟩=>?_
  · (refine Le.ok some [] ?_;constructor;all_goals (try simp only [vle,vkt,seval,tbF12_103,xbF12_2]))
    all_goals simp [worthQ,qsum]
  · have h1:=((hW.part k hk).mono (C:=4 * (20 * 10000)) (Nat.mul_le_mul_right _ (by omega))).sm (by decide)
    repeat' (first|(apply nx;with_reducible constructor)|refine jq (by decide) ?_)
    (refine kx env fun Q hQ=>?_;simp only [vkt,seval,tbF12_103,xbF12_2];(try simp only [ite_and]);(repeat' (first|with_reducible assumption|refine And.intro ?_ ?_|intro hp));all_goals (first|(refine hQ _ ?_;clear hQ Q)|omega|assumption|with_reducible rfl|(refine kq ?_;kernel_rfl)|skip))
    repeat' (first|(apply nx;with_reducible constructor)|refine jq (by decide) ?_)
    (refine sym_cd (by simp only [vkt,seval,tbF12_103,xbF12_2];rfl) (fun h=>?_) (fun h=>?_) <;> (try simp only [vki,reduceCtorEq] at h))
    · have hlt:k < has.length:=by omega
      have h2:=hW.rt k hlt
      have h3:=hW.b _ (gMem (d:=0) hlt)
      have h4:=tm_of (rt_bd h2) (show -100000≤has.getD k 0 by omega) (by omega)
      have h5:=((rt_bd h2).muli (C:=10000) (n:=has.getD k 0) (by omega) (by omega)).sm (by decide)
      have e9:=wrap_succ hlt hm
      have g0:=gI0 hlt
      repeat' (first|(apply nx;with_reducible constructor)|refine jq (by decide) ?_|((first|refine kx env fun Q hQ=>?_|refine kz fun Q hQ=>?_);simp only [vkt,seval,tbF12_103,xbF12_2,g0];(try simp only [ite_and]);(repeat' (first|with_reducible assumption|refine And.intro ?_ ?_|intro hp));all_goals (first|(refine hQ _ ?_;clear hQ Q)|(refine hQ _ (fun h=>?_) (fun h=>?_) <;> clear hQ Q <;> (try simp only [vki,reduceCtorEq] at h))|omega|assumption|with_reducible rfl|(refine kq ?_;kernel_rfl)|skip)))
      refine ⟨⟨k+1,hlt⟩,by show has.length - (k+1) < has.length - k;omega, ?_⟩
      (refine Le.ok some [] ?_;constructor;all_goals (try simp only [vle,vkt,seval,tbF12_103,xbF12_2]))
      all_goals simp [worthQ_succ,e9]
    · have hk:k=has.length:=by omega
      subst hk
      repeat' (first|(apply nx;with_reducible constructor)|refine jq (by decide) ?_|((first|refine kx env fun Q hQ=>?_|refine kz fun Q hQ=>?_);simp only [vkt,seval,tbF12_103,xbF12_2];(try simp only [ite_and]);(repeat' (first|with_reducible assumption|refine And.intro ?_ ?_|intro hp));all_goals (first|(refine hQ _ ?_;clear hQ Q)|(refine hQ _ (fun h=>?_) (fun h=>?_) <;> clear hQ Q <;> (try simp only [vki,reduceCtorEq] at h))|omega|assumption|with_reducible rfl|(refine kq ?_;kernel_rfl)|skip)))
      (simp only [vrt,Try.results103,vkt,seval,tbF12_103,xbF12_2];refine Fin.ok some [] ?_ ?_ ?_ ?_ ?_ rfl;all_goals (try simp only [vle,vkt,seval,tbF12_103,xbF12_2]))
      all_goals simp
def p103 (S:St):List AV→Option Pk
  |[.ptr t 0,.v (.int .i64 d)]=>match S.h t with
    |some (.cells [.sl cs,.sl rs,.sl ss,.sl es,.row r])=>match S.h r with
      |some (.row 3 1 hs)=>some { pre:=isL cs rs ss es∧hs=(hs.map dInt).map eInt∧WOk (ldOf cs rs ss es) d (hs.map dInt),hs:=[t,r],ar:=[.ptr 0 0,.v (.int .i64 d)],L0:=[.cells [.sl cs,.sl rs,.sl ss,.sl es,.row 1],.row 3 1 hs],v:=aSh (shQ (worthQ (ldOf cs rs ss es) d (hs.map dInt) (hs.map dInt).length)),L1:=[some (.cells [.sl cs,.sl rs,.sl ss,.sl es,.row 1]),some (.row 3 1 hs)] }
      |_=>none
    |_=>none
  |_=>none
theorem cLed_of {cs rs ss es:List (List DV)} (h:isL cs rs ss es):cLed (ldOf cs rs ss es)=[.sl cs,.sl rs,.sl ss,.sl es]:=by
  simp only [cLed,ldOf,← h.1,← h.2.1,← h.2.2.1,← h.2.2.2]
theorem e103 {A:Frm→Prop}:EntryOK A Try.prog 103 (fnE p103):=fnE_ok fun S bs q h hp=>by
  unfold p103 at h
  split at h
  · split at h
    · split at h
      · rename_i t d _ cs rs ss es r _ _ hs _
        cases h
        have:=worth_fn (ldOf cs rs ss es) d (hs.map dInt) hp.2.2
        simp only [oTill,oHas,cLed_of hp.1,← hp.2.1] at this
        exact this
      · cases h
    · cases h
  · cases h
end Go.Sym.B
namespace Go.Sym.B
open Go Go.Sym Go.Proofs Go.Sym.C
theorem and32 {y:Int} (h0:0≤y) (h1:y < 4294967296):IntKind.wrap .u64 (((BitVec.ofInt 64 y &&& BitVec.ofInt 64 4294967295).toNat:Nat):Int)=y:=by
  have e:(BitVec.ofInt 64 y &&& BitVec.ofInt 64 4294967295).toNat=y.toNat:=by
    rw [BitVec.toNat_and,BitVec.toNat_ofInt,BitVec.toNat_ofInt]
    have:(4294967295 % (2 ^ 64:Int)).toNat=2 ^ 32 - 1:=by decide
    rw [show ((2 ^ 64:Nat):Int)=2 ^ 64 by rfl,this,Nat.and_two_pow_sub_one_eq_mod]
    rw [Int.emod_eq_of_lt h0 (by omega),Nat.mod_eq_of_lt (by omega)]
  rw [e]
  simp [IntKind.wrap,IntKind.bits,IntKind.signed]
  omega
theorem shr32 {y:Int} (h0:0≤y) (h1:y < 4294967296):Int.fdiv y 4294967296=0:=by
  rw [Int.fdiv_eq_ediv_of_nonneg _ (by decide)];exact Int.ediv_eq_zero_of_lt h0 h1
theorem wrapU {y:Int} (h0:0≤y) (h1:y < 18446744073709551616):IntKind.wrap .u64 y=y:=by
  simp [IntKind.wrap,IntKind.bits,IntKind.signed];omega
def aU (n:Int):AV:=.v (.int .u64 n)
def aUi (n:Int):AV:=.v (.int .u64 n)
def tbF13_150:=kj @ty95 @ti95.eq_1
def xbF13_1:=kj @aU.eq_1 (kj @aUi.eq_1 (kj @aI.eq_1 (@aB.eq_1)))
theorem mul64_fn (y:Int) (h0:0≤y) (h1:y < 1000000):FnV Try.prog 150 [aUi 1,aUi y] (.tup [aUi 0,aUi y]):=by
  have env:Env (fun _=>True) Try.prog tyB (tab []):=mkEnv trivial
  refine Fn.of (A:=fun _=>True) (n0:=0) (D:=noD) (Fn0 Try.func150 rfl (fun vs w=>by kernel_rfl) (by kernel_rfl)) (by simp) (by simp [AV.ids,aUi]) (fun i o h=>by cases h) (fun _ _ _ _=>trivial) noD_ok ?_
  have a0:IntKind.wrap .u64 (((BitVec.ofInt (IntKind.bits .u64) 0 &&& BitVec.ofInt (IntKind.bits .u64) 4294967295).toNat:Nat):Int)=0:=and32 (y:=0) (by decide) (by decide)
  have a1:IntKind.wrap .u64 (((BitVec.ofInt (IntKind.bits .u64) 1 &&& BitVec.ofInt (IntKind.bits .u64) 4294967295).toNat:Nat):Int)=1:=and32 (y:=1) (by decide) (by decide)
  have a2:IntKind.wrap .u64 (((BitVec.ofInt (IntKind.bits .u64) y &&& BitVec.ofInt (IntKind.bits .u64) 4294967295).toNat:Nat):Int)=y:=and32 h0 (by omega)
  have s0:Int.fdiv 0 (2 ^ min 32 (IntKind.bits .u64))=0:=shr32 (y:=0) (by decide) (by decide)
  have s1:Int.fdiv 1 (2 ^ min 32 (IntKind.bits .u64))=0:=shr32 (y:=1) (by decide) (by decide)
  have s2:Int.fdiv y (2 ^ min 32 (IntKind.bits .u64))=0:=shr32 h0 (by omega)
  have w0:IntKind.wrap .u64 0=0:=by decide
  have w1:IntKind.wrap .u64 1=1:=by decide
  have w2:=wrapU h0 (by omega)
  repeat' (first|(apply nx;with_reducible constructor)|refine jq (by decide) ?_|((first|refine kx env fun Q hQ=>?_|refine kz fun Q hQ=>?_);simp only [vkt,seval,tbF13_150,xbF13_1,a0,a1,a2,s0,s1,s2,w0,w1,w2,Int.one_mul,Int.mul_one,Int.zero_mul,Int.mul_zero,Int.zero_add,Int.add_zero];(try simp only [ite_and]);(repeat' (first|with_reducible assumption|refine And.intro ?_ ?_|intro hp));all_goals (first|(refine hQ _ ?_;clear hQ Q)|(refine hQ _ (fun h=>?_) (fun h=>?_) <;> clear hQ Q <;> (try simp only [vki,reduceCtorEq] at h))|omega|assumption|with_reducible rfl|(refine kq ?_;kernel_rfl)|skip)))
  (simp only [vrt,Try.results150,w0,w1,w2,Int.one_mul,Int.mul_one,vkt,seval,tbF13_150,xbF13_1];refine Fin.val rfl ?_;(try simp only [AV.le,AV.leL]))
  all_goals simp
def s150:List AV→Prop × AV
  |[.v (.int .u64 x),.v (.int .u64 y)]=>(x=1∧0≤y∧y < 1000000,.tup [.v (.int .u64 0),.v (.int .u64 y)])
  |_=>(False,.junk)
theorem e150 {A:Frm→Prop}:EntryOK A Try.prog 150 (valE true s150):=valE_ok fun vs hv h=>by
  clear hv
  unfold s150 at h ⊢
  split at h
  · obtain ⟨rfl,h1,h2⟩:=h
    exact ⟨by simp [AV.plain,AV.plainL],fun _=>by simp [AV.flat,AV.flatL],mul64_fn _ h1 h2⟩
  · exact h.elim
def tbF13_134:=kj @ty98 (kj @ty170 (kj @ti98.eq_1 @ti170.eq_1))
def xbF13_2:=kj @aU.eq_1 (kj @aUi.eq_1 (kj @aI.eq_1 (kj @aB.eq_1 (kj @s150.eq_1 (@s150.eq_2)))))
theorem mul_fn (y:Int) (h0:0≤y) (h1:y < 1000000):FnV Try.prog 134 [aUi 1,aUi y] (.tup [aUi 0,aUi y]):=by
  have env:Env (fun _=>True) Try.prog tyB (tab [(150,valE true s150)]):=mkEnv ⟨e150,trivial⟩
  refine Fn.of (A:=fun _=>True) (n0:=0) (D:=noD) (Fn0 Try.func134 rfl (fun vs w=>by kernel_rfl) (by kernel_rfl)) (by simp) (by simp [AV.ids,aUi]) (fun i o h=>by cases h) (fun _ _ _ _=>trivial) noD_ok ?_
  repeat' (first|(apply nx;with_reducible constructor)|refine jq (by decide) ?_|((first|refine kx env fun Q hQ=>?_|refine kz fun Q hQ=>?_);simp only [vkt,seval,tbF13_134,xbF13_2];(try simp only [ite_and]);(repeat' (first|with_reducible assumption|refine And.intro ?_ ?_|intro hp));all_goals (first|(refine hQ _ ?_;clear hQ Q)|(refine hQ _ (fun h=>?_) (fun h=>?_) <;> clear hQ Q <;> (try simp only [vki,reduceCtorEq] at h))|omega|assumption|with_reducible rfl|(refine kq ?_;kernel_rfl)|skip)))
  (simp only [vrt,Try.results134,vkt,seval,tbF13_134,xbF13_2];refine Fin.val rfl ?_;(try simp only [AV.le,AV.leL]))
  all_goals simp
theorem e134 {A:Frm→Prop}:EntryOK A Try.prog 134 (valE true s150):=valE_ok fun vs hv h=>by
  clear hv
  unfold s150 at h ⊢
  split at h
  · obtain ⟨rfl,h1,h2⟩:=h
    exact ⟨by simp [AV.plain,AV.plainL],fun _=>by simp [AV.flat,AV.flatL],mul_fn _ h1 h2⟩
  · exact h.elim
def repL (r z:List DV) (m n:Nat):List (List DV):=List.replicate m r++List.replicate (n - m) z
theorem repL_len {r z:List DV} {m n:Nat} (h:m≤n):(repL r z m n).length=n:=by simp [repL];omega
theorem repL_take {r z:List DV} {m n:Nat}:(repL r z m n).take m=List.replicate m r:=by simp [repL]
theorem repL_next {r z:List DV} {m n c:Nat} (hm:m≤n) (hc:c=min m (n - m)):(repL r z m n).take m++(List.replicate m r).take c++(repL r z m n).drop (m+c)=repL r z (m+c) n:=by
  rw [repL_take]
  simp only [repL,List.take_replicate,List.drop_append,List.drop_replicate,List.length_replicate]
  rw [show min c m=c by omega,show m - (m+c)=0 by omega,show m+c - m=c by omega]
  simp only [List.replicate_zero,List.nil_append,List.replicate_append_replicate]
  rw [show n - m - c=n - (m+c) by omega]
theorem repL_start {r z:List DV} {n:Nat} (h:1≤n):(List.replicate n z).take 0++[r].take (min 1 n)++(List.replicate n z).drop (0+min 1 n)=repL r z 1 n:=by
  rw [show min 1 n=1 by omega];simp [repL]
theorem rowsRep {k m:Nat} {r:List DV} (h:r.length=k):rowsOK k (List.replicate m r)=True:=eq_true fun x hx=>by rw [List.eq_of_mem_replicate hx,h]
theorem conv_u {n:Int} (h0:0≤n) (h1:n < 1000000):IntKind.wrap .u64 n=n∧IntKind.wrap .i64 n=n:=⟨wrapU h0 (by omega),wrap64 (by omega) (by omega)⟩
def repS (e k:Nat) (r z:List DV) (n m:Nat) (x:AV):St:={ t:=asg [(0,x),(1,aI n),(4,.nil),(7,.row 0),(8,aI m)],h:=hasg [(0,.row e k (repL r z m n))],n:=1 }
def tbF13_87:=kj @ty3 (kj @ty22 (kj @ty98 (kj @ti3.eq_1 (kj @ti22.eq_1 @ti98.eq_1))))
def xbF13_3:=kj @aU.eq_1 (kj @aUi.eq_1 (kj @aI.eq_1 (kj @aB.eq_1 (kj @s150.eq_1 (kj @s150.eq_2 (@repS.eq_1))))))
set_option maxRecDepth 100000 in
theorem rep87 (r:List DV) (n:Nat) (hr:r.length=1) (h1:1≤n) (h2:n≤2000):Fn noB Try.prog 87 [.sl [r],aI n] noH (.row 0) (hasg [(0,.row 3 1 (List.replicate n r))]) 0:=by
  have env:Env (fun _=>True) Try.prog tyB (tab [(134,valE true s150)]):=mkEnv ⟨e134,trivial⟩
  refine Fn.of (A:=fun _=>True) (n0:=0) (D:=noD) (Fn0 Try.func87 rfl (fun vs w=>by kernel_rfl) (by kernel_rfl)) (by simp) (by simp [AV.ids,aI]) (fun i o h=>by cases h) (fun _ _ _ _=>trivial) noD_ok ?_
  obtain ⟨w1,w2⟩:=conv_u (n:=(n:Int)) (by omega) (by omega)
  have w3:IntKind.wrap .u64 1=1:=by decide
  have c1:¬ ((n:Int) < 0):=by omega
  have c2:¬ ((9223372036854775807:Int) < n):=by omega
  have b1:((8:Nat):Int) * n≤140737488355328:=by omega
  have b2:(n:Int)≤maxLen:=by
      have:(2000:Nat)≤maxLen:=by decide
      omega
  repeat' (first|(apply nx;with_reducible constructor)|refine jq (by decide) ?_|((first|refine kx env fun Q hQ=>?_|refine kz fun Q hQ=>?_);simp only [vkt,seval,tbF13_87,xbF13_3,List.length_replicate,Option.getD_none,Nat.min_self,Nat.sub_zero,w1,w2,w3,c1,c2,hr];(try simp only [ite_and]);(repeat' (first|with_reducible assumption|refine And.intro ?_ ?_|intro hp));all_goals (first|(refine hQ _ ?_;clear hQ Q)|(refine hQ _ (fun h=>?_) (fun h=>?_) <;> clear hQ Q <;> (try simp only [vki,reduceCtorEq] at h))|omega|assumption|with_reducible rfl|(refine kq ?_;kernel_rfl)|skip)))
  refine sym_loop (fun m:{ m:Nat // 1≤m∧m≤n }=>repS 3 1 r [.v (.int .i64 0)] n m.1 (.sl [r])) (fun m=>n - m.1) ⟨1,Nat.le_refl _,h1⟩ ?_ fun ⟨m,hm1,hm2⟩=>?_
  · (refine Le.ok some [] ?_;constructor;all_goals (try simp only [vle,vkt,seval,tbF13_87,xbF13_3,List.length_replicate,Option.getD_none,Nat.min_self,Nat.sub_zero]))
    all_goals (first|(simp;omega)|(have:=repL_start (r:=r) (z:=[.v (.int .i64 0)]) h1;simp at this ⊢;first|exact this|(rw [← this];simp)|omega))
  · have f1:(repL r [.v (.int .i64 0)] m n).length=n:=repL_len hm2
    have f2:List.take m (repL r [.v (.int .i64 0)] m n)=List.replicate m r:=repL_take
    have f3:rowsOK 1 (List.replicate m r)=True:=rowsRep hr
    have f4:=repL_next (r:=r) (z:=[.v (.int .i64 0)]) hm2 (c:=min m (n - m)) rfl
    have f5:List.take m (List.drop 0 (repL r [.v (.int .i64 0)] m n))=List.replicate m r:=repL_take
    rw [f2] at f4
    repeat' (first|(apply nx;with_reducible constructor)|refine jq (by decide) ?_)
    (refine kx env fun Q hQ=>?_;simp only [vkt,seval,tbF13_87,xbF13_3,List.length_replicate,Option.getD_none,Nat.min_self,Nat.sub_zero,f1];(try simp only [ite_and]);(repeat' (first|with_reducible assumption|refine And.intro ?_ ?_|intro hp));all_goals (first|(refine hQ _ ?_;clear hQ Q)|omega|assumption|with_reducible rfl|(refine kq ?_;kernel_rfl)|skip))
    repeat' (first|(apply nx;with_reducible constructor)|refine jq (by decide) ?_)
    (refine sym_cd (by simp only [vkt,seval,tbF13_87,xbF13_3,List.length_replicate,Option.getD_none,Nat.min_self,Nat.sub_zero];rfl) (fun h=>?_) (fun h=>?_) <;> (try simp only [vki,reduceCtorEq] at h))
    · have hlt:m < n:=by omega
      have hmi:(m:Int) < (n:Int):=by omega
      have e9:IntKind.wrap .i64 ((m:Int)+((min m (n - m):Nat):Int))=((m+min m (n - m):Nat):Int):=by rw [wrap64 (by omega) (by omega)];omega
      repeat' (first|(apply nx;with_reducible constructor)|refine jq (by decide) ?_|((first|refine kx env fun Q hQ=>?_|refine kz fun Q hQ=>?_);simp only [vkt,seval,tbF13_87,xbF13_3,List.length_replicate,Option.getD_none,Nat.min_self,Nat.sub_zero,f1,f2,f3,f5,hmi];(try simp only [ite_and]);(repeat' (first|with_reducible assumption|refine And.intro ?_ ?_|intro hp));all_goals (first|(refine hQ _ ?_;clear hQ Q)|(refine hQ _ (fun h=>?_) (fun h=>?_) <;> clear hQ Q <;> (try simp only [vki,reduceCtorEq] at h))|omega|assumption|with_reducible rfl|(refine kq ?_;kernel_rfl)|skip)))
      refine ⟨⟨m+min m (n - m),by omega,by omega⟩,by show n - (m+min m (n - m)) < n - m;omega, ?_⟩
      (refine Le.ok some [] ?_;constructor;all_goals (try simp only [vle,vkt,seval,tbF13_87,xbF13_3,List.length_replicate,Option.getD_none,Nat.min_self,Nat.sub_zero]))
      all_goals (first|(simp [e9];done)|(simp only [f2,f4,and_self,and_true,true_and];done)|(rw [← f4];simp))
    · have hmn:m=n:=by omega
      subst hmn
      have f6:repL r [.v (.int .i64 0)] m m=List.replicate m r:=by simp [repL]
      repeat' (first|(apply nx;with_reducible constructor)|refine jq (by decide) ?_|((first|refine kx env fun Q hQ=>?_|refine kz fun Q hQ=>?_);simp only [vkt,seval,tbF13_87,xbF13_3,List.length_replicate,Option.getD_none,Nat.min_self,Nat.sub_zero,f1];(try simp only [ite_and]);(repeat' (first|with_reducible assumption|refine And.intro ?_ ?_|intro hp));all_goals (first|(refine hQ _ ?_;clear hQ Q)|(refine hQ _ (fun h=>?_) (fun h=>?_) <;> clear hQ Q <;> (try simp only [vki,reduceCtorEq] at h))|omega|assumption|with_reducible rfl|(refine kq ?_;kernel_rfl)|skip)))
      (simp only [vrt,Try.results87,vkt,seval,tbF13_87,xbF13_3,List.length_replicate,Option.getD_none,Nat.min_self,Nat.sub_zero];refine Fin.ok some [] ?_ ?_ ?_ ?_ ?_ rfl;all_goals (try simp only [vle,vkt,seval,tbF13_87,xbF13_3,List.length_replicate,Option.getD_none,Nat.min_self,Nat.sub_zero]))
      all_goals simp [f6]
def tbF13_137:=kj @ty3 (kj @ty98 (kj @ty107 (kj @ty115 (kj @ti3.eq_1 (kj @ti98.eq_1 (kj @ti107.eq_1 @ti115.eq_1))))))
def xbF13_4:=kj @aU.eq_1 (kj @aUi.eq_1 (kj @aI.eq_1 (kj @aB.eq_1 (kj @s150.eq_1 (kj @s150.eq_2 (@repS.eq_1))))))
set_option maxRecDepth 100000 in
theorem rep137 (r:List DV) (n:Nat) (hr:r.length=2) (h1:1≤n) (h2:n≤2000):Fn noB Try.prog 137 [.sl [r],aI n] noH (.row 0) (hasg [(0,.row 107 2 (List.replicate n r))]) 0:=by
  have env:Env (fun _=>True) Try.prog tyB (tab [(134,valE true s150)]):=mkEnv ⟨e134,trivial⟩
  refine Fn.of (A:=fun _=>True) (n0:=0) (D:=noD) (Fn0 Try.func137 rfl (fun vs w=>by kernel_rfl) (by kernel_rfl)) (by simp) (by simp [AV.ids,aI]) (fun i o h=>by cases h) (fun _ _ _ _=>trivial) noD_ok ?_
  obtain ⟨w1,w2⟩:=conv_u (n:=(n:Int)) (by omega) (by omega)
  have w3:IntKind.wrap .u64 1=1:=by decide
  have c1:¬ ((n:Int) < 0):=by omega
  have c2:¬ ((9223372036854775807:Int) < n):=by omega
  have b1:((16:Nat):Int) * n≤140737488355328:=by omega
  have b2:(n:Int)≤maxLen:=by
      have:(2000:Nat)≤maxLen:=by decide
      omega
  repeat' (first|(apply nx;with_reducible constructor)|refine jq (by decide) ?_|((first|refine kx env fun Q hQ=>?_|refine kz fun Q hQ=>?_);simp only [vkt,seval,tbF13_137,xbF13_4,List.length_replicate,Option.getD_none,Nat.min_self,Nat.sub_zero,w1,w2,w3,c1,c2,hr];(try simp only [ite_and]);(repeat' (first|with_reducible assumption|refine And.intro ?_ ?_|intro hp));all_goals (first|(refine hQ _ ?_;clear hQ Q)|(refine hQ _ (fun h=>?_) (fun h=>?_) <;> clear hQ Q <;> (try simp only [vki,reduceCtorEq] at h))|omega|assumption|with_reducible rfl|(refine kq ?_;kernel_rfl)|skip)))
  refine sym_loop (fun m:{ m:Nat // 1≤m∧m≤n }=>repS 107 2 r [.v (.int .i64 0),.v (.int .i64 0)] n m.1 (.sl [r])) (fun m=>n - m.1) ⟨1,Nat.le_refl _,h1⟩ ?_ fun ⟨m,hm1,hm2⟩=>?_
  · (refine Le.ok some [] ?_;constructor;all_goals (try simp only [vle,vkt,seval,tbF13_137,xbF13_4,List.length_replicate,Option.getD_none,Nat.min_self,Nat.sub_zero]))
    all_goals (first|(simp;omega)|(have:=repL_start (r:=r) (z:=[.v (.int .i64 0),.v (.int .i64 0)]) h1;simp at this ⊢;first|exact this|(rw [← this];simp)|omega))
  · have f1:(repL r [.v (.int .i64 0),.v (.int .i64 0)] m n).length=n:=repL_len hm2
    have f2:List.take m (repL r [.v (.int .i64 0),.v (.int .i64 0)] m n)=List.replicate m r:=repL_take
    have f3:rowsOK 2 (List.replicate m r)=True:=rowsRep hr
    have f4:=repL_next (r:=r) (z:=[.v (.int .i64 0),.v (.int .i64 0)]) hm2 (c:=min m (n - m)) rfl
    have f5:List.take m (List.drop 0 (repL r [.v (.int .i64 0),.v (.int .i64 0)] m n))=List.replicate m r:=repL_take
    rw [f2] at f4
    repeat' (first|(apply nx;with_reducible constructor)|refine jq (by decide) ?_)
    (refine kx env fun Q hQ=>?_;simp only [vkt,seval,tbF13_137,xbF13_4,List.length_replicate,Option.getD_none,Nat.min_self,Nat.sub_zero,f1];(try simp only [ite_and]);(repeat' (first|with_reducible assumption|refine And.intro ?_ ?_|intro hp));all_goals (first|(refine hQ _ ?_;clear hQ Q)|omega|assumption|with_reducible rfl|(refine kq ?_;kernel_rfl)|skip))
    repeat' (first|(apply nx;with_reducible constructor)|refine jq (by decide) ?_)
    (refine sym_cd (by simp only [vkt,seval,tbF13_137,xbF13_4,List.length_replicate,Option.getD_none,Nat.min_self,Nat.sub_zero];rfl) (fun h=>?_) (fun h=>?_) <;> (try simp only [vki,reduceCtorEq] at h))
    · have hlt:m < n:=by omega
      have hmi:(m:Int) < (n:Int):=by omega
      have e9:IntKind.wrap .i64 ((m:Int)+((min m (n - m):Nat):Int))=((m+min m (n - m):Nat):Int):=by rw [wrap64 (by omega) (by omega)];omega
      repeat' (first|(apply nx;with_reducible constructor)|refine jq (by decide) ?_|((first|refine kx env fun Q hQ=>?_|refine kz fun Q hQ=>?_);simp only [vkt,seval,tbF13_137,xbF13_4,List.length_replicate,Option.getD_none,Nat.min_self,Nat.sub_zero,f1,f2,f3,f5,hmi];(try simp only [ite_and]);(repeat' (first|with_reducible assumption|refine And.intro ?_ ?_|intro hp));all_goals (first|(refine hQ _ ?_;clear hQ Q)|(refine hQ _ (fun h=>?_) (fun h=>?_) <;> clear hQ Q <;> (try simp only [vki,reduceCtorEq] at h))|omega|assumption|with_reducible rfl|(refine kq ?_;kernel_rfl)|skip)))
      refine ⟨⟨m+min m (n - m),by omega,by omega⟩,by show n - (m+min m (n - m)) < n - m;omega, ?_⟩
      (refine Le.ok some [] ?_;constructor;all_goals (try simp only [vle,vkt,seval,tbF13_137,xbF13_4,List.length_replicate,Option.getD_none,Nat.min_self,Nat.sub_zero]))
      all_goals (first|(simp [e9];done)|(simp only [f2,f4,and_self,and_true,true_and];done)|(rw [← f4];simp))
    · have hmn:m=n:=by omega
      subst hmn
      have f6:repL r [.v (.int .i64 0),.v (.int .i64 0)] m m=List.replicate m r:=by simp [repL]
      repeat' (first|(apply nx;with_reducible constructor)|refine jq (by decide) ?_|((first|refine kx env fun Q hQ=>?_|refine kz fun Q hQ=>?_);simp only [vkt,seval,tbF13_137,xbF13_4,List.length_replicate,Option.getD_none,Nat.min_self,Nat.sub_zero,f1];(try simp only [ite_and]);(repeat' (first|with_reducible assumption|refine And.intro ?_ ?_|intro hp));all_goals (first|(refine hQ _ ?_;clear hQ Q)|(refine hQ _ (fun h=>?_) (fun h=>?_) <;> clear hQ Q <;> (try simp only [vki,reduceCtorEq] at h))|omega|assumption|with_reducible rfl|(refine kq ?_;kernel_rfl)|skip)))
      (simp only [vrt,Try.results137,vkt,seval,tbF13_137,xbF13_4,List.length_replicate,Option.getD_none,Nat.min_self,Nat.sub_zero];refine Fin.ok some [] ?_ ?_ ?_ ?_ ?_ rfl;all_goals (try simp only [vle,vkt,seval,tbF13_137,xbF13_4,List.length_replicate,Option.getD_none,Nat.min_self,Nat.sub_zero]))
      all_goals simp [f6]
def p87 (S:St):List AV→Option Pk
  |[.row i,.v (.int .i64 n)]=>match S.h i with
    |some (.row _ _ [r])=>some { pre:=r.length=1∧1≤n∧n≤2000,bo:=[i],ar:=[.sl [r],.v (.int .i64 n)],v:=.row 0,L1:=[some (.row 3 1 (List.replicate n.toNat r))] }
    |_=>none
  |_=>none
theorem e87 {A:Frm→Prop}:EntryOK A Try.prog 87 (fnE p87):=fnE_ok fun S bs q h hp=>by
  unfold p87 at h
  split at h
  · split at h
    · rename_i i n _ _ _ r _
      cases h
      have:=rep87 r n.toNat hp.1 (by have:=hp.2;omega) (by have:=hp.2;omega)
      rw [Int.toNat_of_nonneg (by have:=hp.2;omega)] at this
      exact this
    · cases h
  · cases h
def p137 (S:St):List AV→Option Pk
  |[.row i,.v (.int .i64 n)]=>match S.h i with
    |some (.row _ _ [r])=>some { pre:=r.length=2∧1≤n∧n≤2000,bo:=[i],ar:=[.sl [r],.v (.int .i64 n)],v:=.row 0,L1:=[some (.row 107 2 (List.replicate n.toNat r))] }
    |_=>none
  |_=>none
theorem e137 {A:Frm→Prop}:EntryOK A Try.prog 137 (fnE p137):=fnE_ok fun S bs q h hp=>by
  unfold p137 at h
  split at h
  · split at h
    · rename_i i n _ _ _ r _
      cases h
      have:=rep137 r n.toNat hp.1 (by have:=hp.2;omega) (by have:=hp.2;omega)
      rw [Int.toNat_of_nonneg (by have:=hp.2;omega)] at this
      exact this
    · cases h
  · cases h
end Go.Sym.B
namespace Go.Sym.B
open Go Go.Sym Go.Proofs Go.Sym.C
theorem rowEx2 {a:Nat} {c:TypeId} {xs ys:List (List DV)}:(∃ e k,AObj.row c a xs=AObj.row e k ys)=(xs=ys):=by
  refine propext ⟨fun ⟨e,k,h⟩=>?_,fun h=>⟨c,a,by rw [h]⟩⟩
  cases h;rfl
def kd (l:Led) (d:Int):Nat:=(l.entries.takeWhile fun x=>decide (x.day≤d)).length
theorem takeWhile_get {α:Type} (p:α→Bool):∀ (l:List α) (k:Nat) (d:α),k < (l.takeWhile p).length→p (l.getD k d)=true
  |[],k,d,h=>by simp at h
  |a :: l,k,d,h=>by
    rw [List.takeWhile_cons] at h
    split at h
    · cases k with
      |zero=>simpa
      |succ k=>simpa using takeWhile_get p l k d (by simpa using h)
    · simp at h
theorem takeWhile_end {α:Type} (p:α→Bool):∀ (l:List α) (d:α),(l.takeWhile p).length < l.length→p (l.getD (l.takeWhile p).length d)=false
  |[],d,h=>by simp at h
  |a :: l,d,h=>by
    rw [List.takeWhile_cons] at h ⊢
    split
    · rename_i hp
      rw [if_pos hp] at h
      simpa using takeWhile_end p l d (by simpa using h)
    · rename_i hp;simpa using hp
theorem takeWhile_le {α:Type} (p q:α→Bool) (h:∀ a,p a=true→q a=true):∀ l:List α,(l.takeWhile p).length≤(l.takeWhile q).length
  |[]=>by simp
  |a :: l=>by
    rw [List.takeWhile_cons,List.takeWhile_cons]
    split
    · rename_i hp;rw [if_pos (h a hp)];simpa using takeWhile_le p q h l
    · simp
theorem kd_le (l:Led) (d:Int):kd l d≤l.entries.length:=List.Sublist.length_le (List.takeWhile_sublist _)
theorem kd_lt {l:Led} {d:Int} {k:Nat} (h:k < kd l d):(l.entries.getD k default).day≤d:=by simpa using takeWhile_get _ l.entries k default h
theorem kd_end {l:Led} {d:Int} (h:kd l d < l.entries.length):¬ (l.entries.getD (kd l d) default).day≤d:=by
  have:=takeWhile_end (fun x:Ent=>decide (x.day≤d)) l.entries default h
  change decide ((l.entries.getD (kd l d) default).day≤d)=false at this
  simpa only [decide_eq_false_iff_not] using this
theorem kd_mono (l:Led) {d e:Int} (h:d≤e):kd l d≤kd l e:=takeWhile_le _ _ (fun a ha=>by simp at ha ⊢;omega) _
def evH (l:Led) (d:Int):List Int:=(stK l (kd l d)).2
def gT (l:Led) (c d:Nat):Rat:=(rq l ((d:Int)+1) c - rq l d c) * ((evH l d).getD c 0:Int)
def gQ1 (l:Led) (D c:Nat):Rat:=qsum ((List.range D).map fun d=>gT l c d)
theorem gQ1_succ (l:Led) (D c:Nat):gQ1 l (D+1) c=gQ1 l D c+gT l c D:=by
  unfold gQ1;rw [List.range_succ,List.map_append,List.map_cons,List.map_nil,qsum_snoc]
def outL (l:Led) (D c:Nat):List Rat:=(List.range l.coins.length).map fun i=>if i < c then gQ1 l (D+1) i else gQ1 l D i
def gainsL (l:Led):List Rat:=(List.range l.coins.length).map fun i=>gQ1 l (l.rates.length - 1) i
theorem outL_len (l:Led) (D c:Nat):(outL l D c).length=l.coins.length:=by simp [outL]
theorem outL_get {l:Led} {D c:Nat} (h:c < l.coins.length):(outL l D c).getD c 0=gQ1 l D c:=by simp [outL,List.getD_eq_getElem?_getD,h]
theorem outL_set {l:Led} {D c:Nat} (h:c < l.coins.length):(outL l D c).set c (gQ1 l D c+gT l c D)=outL l D (c+1):=by
  rw [← gQ1_succ]
  apply List.ext_getElem
  · simp [outL]
  · intro i h1 h2
    simp only [outL,List.length_set,List.length_map,List.length_range] at h1
    rw [List.getElem_set]
    split
    · rename_i e;subst e;simp [outL]
    · simp only [outL,List.getElem_map,List.getElem_range]
      by_cases hi:i < c
      · rw [if_pos hi,if_pos (by omega)]
      · rw [if_neg hi,if_neg (by omega)]
theorem outL_next (l:Led) (D:Nat):outL l D l.coins.length=outL l (D+1) 0:=by
  unfold outL
  refine List.map_congr_left fun i hi=>?_
  have:=List.mem_range.1 hi
  rw [if_pos this,if_neg (by omega)]
theorem outL_start (l:Led):(outL l 0 0).map eQ=List.replicate l.coins.length (eQ 0):=by
  unfold outL
  rw [List.map_map]
  refine List.eq_replicate_iff.2 ⟨by simp,fun b hb=>?_⟩
  obtain ⟨i,hi,rfl⟩:=List.mem_map.1 hb
  simp [gQ1,qsum]
theorem outL_end (l:Led) (h:1≤l.rates.length):outL l (l.rates.length - 1) 0=gainsL l:=by
  unfold outL gainsL
  refine List.map_congr_left fun i hi=>?_
  rw [if_neg (by omega)]
theorem val_has {l:Led} (h:Val l) (k:Nat) (hk:k≤l.entries.length):HasOk l k (stK l k).2:=hasOk_all h.sl h.s k hk fun j hj=>h.es j (by omega)
theorem val_entry {l:Led} (h:Val l) {k:Nat} (hk:k < l.entries.length):EntryOk l (l.entries.getD k default) (stK l k).1:=by
  have h0:=h.es k hk
  rw [eK_eq] at h0
  unfold eV at h0
  split at h0
  · exact absurd h0 ‹_›
  · exact entryE_ok (Decidable.not_not.1 ‹_›)
theorem val_hb {l:Led} (h:Val l) (k:Nat) (hk:k≤l.entries.length) (c:Nat):0≤(stK l k).2.getD c 0∧(stK l k).2.getD c 0≤6993:=by
  have h1:=val_has h k hk
  have:=h.e
  by_cases hc:c < (stK l k).2.length
  · have:=h1.b _ (gMem (d:=0) hc);omega
  · rw [List.getD_eq_getElem?_getD,List.getElem?_eq_none (by omega)];simp
theorem gT_bd {l:Led} (h:Val l) {c d:Nat} (hc:c < l.coins.length) (hd:d+1 < l.rates.length):Bd 300000 (gT l c d):=by
  have r1:=rt_bd (val_rt h (d:=(d:Int)+1) (c:=c) (by omega) (by omega) (by omega) (by omega))
  have r2:=rt_bd (val_rt h (d:=(d:Int)) (c:=c) (by omega) (by omega) (by omega) (by omega))
  have hb:=val_hb h (kd l d) (kd_le _ _) c
  exact ((r1.sub r2).muli (C:=7000) (n:=(evH l d).getD c 0) (by unfold evH;omega) (by unfold evH;omega)).mono (by decide)
theorem gQ1_bd {l:Led} (h:Val l) {c D:Nat} (hc:c < l.coins.length) (hd:D < l.rates.length):Bd 900000 (gQ1 l D c):=by
  have:=qsum_bd ((List.range D).map fun d=>gT l c d) (B:=300000) fun q hq=>by
    obtain ⟨d,hd',rfl⟩:=List.mem_map.1 hq
    exact gT_bd h hc (by have:=List.mem_range.1 hd';omega)
  refine this.mono ?_
  have:=h.r
  simp;omega
def gS1 (l:Led) (D k:Nat):St:={ t:=asg [(1,.ptr 0 0),(3,.row 3),(4,.ptr 1 0),(5,aI k),(20,aI ((l.rates.length:Int) - 1)),(21,aI D)],h:=hasg [(0,.cells (cLed l)),(1,oTill l 2),(2,oHas (stK l k).2),(3,.row 107 2 ((outL l D 0).map eQ))],n:=4 }
def gS2 (l:Led) (D k:Nat):St:={ t:=asg [(1,.ptr 0 0),(3,.row 3),(4,.ptr 1 0),(5,aI k),(6,aI D),(20,aI ((l.rates.length:Int) - 1)),(21,aI D)],h:=hasg [(0,.cells (cLed l)),(1,oTill l 2),(2,oHas (stK l k).2),(3,.row 107 2 ((outL l D 0).map eQ))],n:=4 }
def gS3 (l:Led) (D c:Nat):St:={ t:=asg [(1,.ptr 0 0),(3,.row 3),(4,.ptr 1 0),(5,aI (kd l D)),(6,aI D),(20,aI ((l.rates.length:Int) - 1)),(21,aI D),(60,.row 2),(61,aI l.coins.length),(62,aI c)],h:=hasg [(0,.cells (cLed l)),(1,oTill l 2),(2,oHas (evH l D)),(3,.row 107 2 ((outL l D c).map eQ))],n:=4 }
theorem setQ (l:List Rat) (n:Nat) (q:Rat):(l.map eQ).set n [.v (.int .i64 q.num),.v (.int .i64 q.den)]=(l.set n q).map eQ:=by rw [List.map_set];rfl
end Go.Sym.B
namespace Go.Sym.B
open Go Go.Sym Go.Proofs Go.Sym.C
def tbF15_96:=kj @ty3 (kj @ty22 (kj @ty28 (kj @ty35 (kj @ty36 (kj @ty38 (kj @ty48 (kj @ty55 (kj @ty107 (kj @ty115 (kj @ty123 (kj @ti3.eq_1 (kj @ti22.eq_1 (kj @ti28.eq_1 (kj @ti35.eq_1 (kj @ti36.eq_1 (kj @ti38.eq_1 (kj @ti48.eq_1 (kj @ti55.eq_1 (kj @ti107.eq_1 (kj @ti115.eq_1 @ti123.eq_1))))))))))))))))))))
def xbF15_1:=kj @aI.eq_1 (kj @aB.eq_1 (kj @aLed.eq_1 (kj @cLed.eq_1 (kj @aSh.eq_1 (kj @shQ.eq_1 (kj @eQ.eq_1 (kj @eSh.eq_1 (kj @oTill.eq_1 (kj @oHas.eq_1 (kj @gS1.eq_1 (kj @gS2.eq_1 (kj @gS3.eq_1 (kj @s107.eq_1 (kj @s107.eq_2 (kj @p137.eq_1 (kj @p137.eq_2 (kj @p97.eq_1 (kj @p97.eq_2 (kj @p101.eq_1 (kj @p101.eq_2 (kj @c98.eq_1 (kj @c98.eq_2 (kj @s100.eq_1 (kj @s100.eq_2 (kj @s99.eq_1 (kj @s99.eq_2 (kj @s138.eq_1 (kj @s138.eq_2 (kj @isL_e (kj @ldOf_e (kj @isQ_q (kj @qI_q (kj @mInts (kj @mShs (kj @mInt (kj @mEnt (kj @eEnt.eq_1 (kj @gEnt (kj @eInt.eq_1 (@rowEx2))))))))))))))))))))))))))))))))))))))))
set_option maxHeartbeats 2000000 in
theorem gains_fn (l:Led) (hV:Val l):FnV Try.prog 96 [aLed l] (.sl ((gainsL l).map eQ)):=by
  have env:Env (fun _=>True) Try.prog tyB (tab [(107,valE true s107),(137,fnE p137),(97,fnE p97),(101,fnE p101),(98,valE true c98),(100,valE true s100),(99,valE true s99),(138,valE true s138)]):=mkEnv ⟨e107,e137,e97,e101,d98,e100,e99,e138,trivial⟩
  refine Fn.of (A:=fun _=>True) (n0:=0) (D:=noD) (Fn0 Try.func96 rfl (fun vs w=>by kernel_rfl) (by kernel_rfl)) (by simp) (by simp [AV.ids,AV.idsL,aLed,cLed]) (fun i o h=>by cases h) (fun _ _ _ _=>trivial) noD_ok ?_
  have q1:=hV.c
  have q2:=hV.r
  have q3:=hV.sl
  have q4:=hV.e
  have q5:l.start.length≤100000:=by omega
  have w1:IntKind.wrap .i64 ((l.rates.length:Int) - 1)=(l.rates.length:Int) - 1:=wrap64 (by omega) (by omega)
  repeat' (first|(apply nx;with_reducible constructor)|refine jq (by decide) ?_|((first|refine kx env fun Q hQ=>?_|refine kz fun Q hQ=>?_);simp only [vkt,Nat.reduceEqDiff,Nat.reduceAdd,Nat.reduceMul,Nat.reduceSub,Nat.reduceLeDiff,reduceCtorEq,↓reduceIte,↓reduceDIte,Int.reduceToNat,Int.reduceLE,Int.reduceLT,Int.reduceEq,Int.reduceNeg,tbF15_96,xbF15_1,w1];(try simp only [ite_and]);(repeat' (first|with_reducible assumption|refine And.intro ?_ ?_|intro hp));all_goals (first|(refine hQ _ ?_;clear hQ Q)|(refine hQ _ (fun h=>?_) (fun h=>?_) <;> clear hQ Q <;> (try simp only [vki,reduceCtorEq] at h))|omega|assumption|with_reducible rfl|(refine kq ?_;kernel_rfl)|skip)))
  have hst:=outL_start l
  refine sym_loop (fun D:{ D:Nat // D≤l.rates.length - 1 }=>gS1 l D.1 (if D.1=0 then 0 else kd l ((D.1:Int) - 1))) (fun D=>l.rates.length - 1 - D.1) ⟨0,Nat.zero_le _⟩ ?_ fun ⟨D,hD⟩=>?_
  · (refine Le.ok (fun j=>if j=0 then some 0 else if j=1 then some 3 else if j=2 then some 4 else if j=3 then some 2 else none) [] ?_;constructor;all_goals (try simp only [vle,vkt,Nat.reduceEqDiff,Nat.reduceAdd,Nat.reduceMul,Nat.reduceSub,Nat.reduceLeDiff,reduceCtorEq,↓reduceIte,↓reduceDIte,Int.reduceToNat,Int.reduceLE,Int.reduceLT,Int.reduceEq,Int.reduceNeg,tbF15_96,xbF15_1]))
    all_goals (first|(decide;done)|skip)
    · exact ⟨rfl,rfl⟩
    · exact ⟨rfl,hst.symm⟩
  · generalize hk0:(if D=0 then 0 else kd l ((D:Int) - 1))=k0
    have hk0':k0≤kd l D:=by
      rw [← hk0];split
      · exact Nat.zero_le _
      · exact kd_mono l (by omega)
    repeat' (first|(apply nx;with_reducible constructor)|refine jq (by decide) ?_)
    (refine kx env fun Q hQ=>?_;simp only [vkt,Nat.reduceEqDiff,Nat.reduceAdd,Nat.reduceMul,Nat.reduceSub,Nat.reduceLeDiff,reduceCtorEq,↓reduceIte,↓reduceDIte,Int.reduceToNat,Int.reduceLE,Int.reduceLT,Int.reduceEq,Int.reduceNeg,tbF15_96,xbF15_1];(try simp only [ite_and]);(repeat' (first|with_reducible assumption|refine And.intro ?_ ?_|intro hp));all_goals (first|(refine hQ _ ?_;clear hQ Q)|omega|assumption|with_reducible rfl|(refine kq ?_;kernel_rfl)|skip))
    repeat' (first|(apply nx;with_reducible constructor)|refine jq (by decide) ?_)
    (refine sym_cd (by simp only [vkt,Nat.reduceEqDiff,Nat.reduceAdd,Nat.reduceMul,Nat.reduceSub,Nat.reduceLeDiff,reduceCtorEq,↓reduceIte,↓reduceDIte,Int.reduceToNat,Int.reduceLE,Int.reduceLT,Int.reduceEq,Int.reduceNeg,tbF15_96,xbF15_1];rfl) (fun h=>?_) (fun h=>?_) <;> (try simp only [vki,reduceCtorEq] at h))
    · have hDlt:D+1 < l.rates.length:=by omega
      repeat' (first|(apply nx;with_reducible constructor)|refine jq (by decide) ?_|((first|refine kx env fun Q hQ=>?_|refine kz fun Q hQ=>?_);simp only [vkt,Nat.reduceEqDiff,Nat.reduceAdd,Nat.reduceMul,Nat.reduceSub,Nat.reduceLeDiff,reduceCtorEq,↓reduceIte,↓reduceDIte,Int.reduceToNat,Int.reduceLE,Int.reduceLT,Int.reduceEq,Int.reduceNeg,tbF15_96,xbF15_1];(try simp only [ite_and]);(repeat' (first|with_reducible assumption|refine And.intro ?_ ?_|intro hp));all_goals (first|(refine hQ _ ?_;clear hQ Q)|(refine hQ _ (fun h=>?_) (fun h=>?_) <;> clear hQ Q <;> (try simp only [vki,reduceCtorEq] at h))|omega|assumption|with_reducible rfl|(refine kq ?_;kernel_rfl)|skip)))
      refine sym_loop (fun k:{ k:Nat // k≤kd l D }=>gS2 l D k.1) (fun k=>kd l D - k.1) ⟨k0,hk0'⟩ ?_ fun ⟨k,hk⟩=>?_
      · (refine Le.ok some [] ?_;constructor;all_goals (try simp only [vle,vkt,Nat.reduceEqDiff,Nat.reduceAdd,Nat.reduceMul,Nat.reduceSub,Nat.reduceLeDiff,reduceCtorEq,↓reduceIte,↓reduceDIte,Int.reduceToNat,Int.reduceLE,Int.reduceLT,Int.reduceEq,Int.reduceNeg,tbF15_96,xbF15_1]))
        all_goals simp
      · have hkl:=kd_le l D
        have ho:=val_has hV k (by omega)
        by_cases hlt:k < kd l D
        · have hkd:=kd_lt hlt
          have hentry:=val_entry hV (show k < l.entries.length by omega)
          have hen:=enOk_of ho (by omega) hentry
          have hS:=stK_succ (show k < l.entries.length by omega)
          generalize hx:l.entries.getD k default=x at *
          have hen':EnOk (stK l k).2 ⟨x.day,x.kind,x.coin,x.to,x.amount,x.got⟩:=hen
          have c1:((k:Int) < l.entries.length):=by omega
          have e9:=wrap_succ hlt (show kd l D≤maxLen by have:=tmax;omega)
          repeat' (first|(apply nx;with_reducible constructor)|refine jq (by decide) ?_|((first|refine kx env fun Q hQ=>?_|refine kz fun Q hQ=>?_);simp only [vkt,Nat.reduceEqDiff,Nat.reduceAdd,Nat.reduceMul,Nat.reduceSub,Nat.reduceLeDiff,reduceCtorEq,↓reduceIte,↓reduceDIte,Int.reduceToNat,Int.reduceLE,Int.reduceLT,Int.reduceEq,Int.reduceNeg,tbF15_96,xbF15_1,hx,c1,hkd];(try simp only [ite_and]);(repeat' (first|with_reducible assumption|refine And.intro ?_ ?_|intro hp));all_goals (first|(refine hQ _ ?_;clear hQ Q)|(refine hQ _ (fun h=>?_) (fun h=>?_) <;> clear hQ Q <;> (try simp only [vki,reduceCtorEq] at h))|omega|assumption|with_reducible rfl|(refine kq ?_;kernel_rfl)|skip)))
          refine ⟨⟨k+1,hlt⟩,by show kd l D - (k+1) < kd l D - k;omega, ?_⟩
          (refine Le.ok some [] ?_;constructor;all_goals (try simp only [vle,vkt,Nat.reduceEqDiff,Nat.reduceAdd,Nat.reduceMul,Nat.reduceSub,Nat.reduceLeDiff,reduceCtorEq,↓reduceIte,↓reduceDIte,Int.reduceToNat,Int.reduceLE,Int.reduceLT,Int.reduceEq,Int.reduceNeg,tbF15_96,xbF15_1]))
          all_goals simp [hS,e9]
        · have hkk:k=kd l D:=by omega
          subst hkk
          have hcase:(((kd l D:Int) < l.entries.length)∧¬ (l.entries.getD (kd l D) default).day≤D)∨(¬ ((kd l D:Int) < l.entries.length)∧True):=by
            by_cases hend:kd l D < l.entries.length
            · exact .inl ⟨by omega,kd_end hend⟩
            · exact .inr ⟨by omega,trivial⟩
          have hlen:(stK l (kd l D)).2.length=l.coins.length:=ho.len
          have hlen':((stK l (kd l D)).2.length:Int)=l.coins.length:=by omega
          have e8:IntKind.wrap .i64 ((D:Int)+1)=(D:Int)+1:=wrap64 (by omega) (by omega)
          have e7:IntKind.wrap .i64 ((D:Int)+1)=((D+1:Nat):Int):=by rw [e8];rfl
          have e6:((D+1:Nat):Int) - 1=D:=by omega
          rcases hcase with ⟨c1,c2⟩|⟨c1,c2⟩
          all_goals (
            repeat' (first|(apply nx;with_reducible constructor)|refine jq (by decide) ?_|((first|refine kx env fun Q hQ=>?_|refine kz fun Q hQ=>?_);simp only [vkt,Nat.reduceEqDiff,Nat.reduceAdd,Nat.reduceMul,Nat.reduceSub,Nat.reduceLeDiff,reduceCtorEq,↓reduceIte,↓reduceDIte,Int.reduceToNat,Int.reduceLE,Int.reduceLT,Int.reduceEq,Int.reduceNeg,tbF15_96,xbF15_1,c1,c2];(try simp only [ite_and]);(repeat' (first|with_reducible assumption|refine And.intro ?_ ?_|intro hp));all_goals (first|(refine hQ _ ?_;clear hQ Q)|(refine hQ _ (fun h=>?_) (fun h=>?_) <;> clear hQ Q <;> (try simp only [vki,reduceCtorEq] at h))|omega|assumption|with_reducible rfl|(refine kq ?_;kernel_rfl)|skip)))
            refine sym_loop (fun c:{ c:Nat // c≤l.coins.length }=>gS3 l D c.1) (fun c=>l.coins.length - c.1) ⟨0,Nat.zero_le _⟩ ?_ fun ⟨c,hc⟩=>?_
            · (refine Le.ok some [] ?_;constructor;all_goals (try simp only [vle,vkt,Nat.reduceEqDiff,Nat.reduceAdd,Nat.reduceMul,Nat.reduceSub,Nat.reduceLeDiff,reduceCtorEq,↓reduceIte,↓reduceDIte,Int.reduceToNat,Int.reduceLE,Int.reduceLT,Int.reduceEq,Int.reduceNeg,tbF15_96,xbF15_1]))
              all_goals first|exact ⟨rfl,trivial⟩|(simp only [hlen',evH,and_self,and_true,true_and];done)|simp [hlen',evH]
            · repeat' (first|(apply nx;with_reducible constructor)|refine jq (by decide) ?_)
              (refine kx env fun Q hQ=>?_;simp only [vkt,Nat.reduceEqDiff,Nat.reduceAdd,Nat.reduceMul,Nat.reduceSub,Nat.reduceLeDiff,reduceCtorEq,↓reduceIte,↓reduceDIte,Int.reduceToNat,Int.reduceLE,Int.reduceLT,Int.reduceEq,Int.reduceNeg,tbF15_96,xbF15_1];(try simp only [ite_and]);(repeat' (first|with_reducible assumption|refine And.intro ?_ ?_|intro hp));all_goals (first|(refine hQ _ ?_;clear hQ Q)|omega|assumption|with_reducible rfl|(refine kq ?_;kernel_rfl)|skip))
              repeat' (first|(apply nx;with_reducible constructor)|refine jq (by decide) ?_)
              (refine sym_cd (by simp only [vkt,Nat.reduceEqDiff,Nat.reduceAdd,Nat.reduceMul,Nat.reduceSub,Nat.reduceLeDiff,reduceCtorEq,↓reduceIte,↓reduceDIte,Int.reduceToNat,Int.reduceLE,Int.reduceLT,Int.reduceEq,Int.reduceNeg,tbF15_96,xbF15_1];rfl) (fun h=>?_) (fun h=>?_) <;> (try simp only [vki,reduceCtorEq] at h))
              · have hclt:c < l.coins.length:=by omega
                have r1:=val_rt hV (d:=(D:Int)+1) (c:=c) (by omega) (by omega) (by omega) (by omega)
                have r2:=val_rt hV (d:=(D:Int)) (c:=c) (by omega) (by omega) (by omega) (by omega)
                have b1:=rt_bd r1
                have b2:=rt_bd r2
                have s1:=b1.sm (by decide)
                have s2:=b2.sm (by decide)
                have hb:=val_hb hV (kd l D) (kd_le _ _) c
                have b3:=b1.sub b2
                have t3:Tm (rq l ((D:Int)+1) c - rq l D c) ((evH l D).getD c 0):=⟨b3.sm (by decide),by unfold evH;omega,by unfold evH;omega⟩
                have s3:=(gT_bd hV hclt hDlt).sm (by decide)
                unfold gT at s3
                have s4:=(gQ1_bd hV hclt (show D < l.rates.length by omega)).sm (by decide)
                have g1:=gQ (z:=[]) (show c < (outL l D c).length by rw [outL_len];exact hclt)
                rw [outL_get hclt] at g1
                have hcl2:c < (outL l D c).length:=by rw [outL_len];exact hclt
                have hel:c < (evH l D).length:=by unfold evH;omega
                have g2:=gI0 hel
                have g3:=setQ (outL l D c) c
                have e9:=wrap_succ hclt (show l.coins.length≤maxLen by have:=tmax;omega)
                have hset:=outL_set (D:=D) hclt
                unfold gT at hset
                repeat' (first|(apply nx;with_reducible constructor)|refine jq (by decide) ?_|((first|refine kx env fun Q hQ=>?_|refine kz fun Q hQ=>?_);simp only [vkt,Nat.reduceEqDiff,Nat.reduceAdd,Nat.reduceMul,Nat.reduceSub,Nat.reduceLeDiff,reduceCtorEq,↓reduceIte,↓reduceDIte,Int.reduceToNat,Int.reduceLE,Int.reduceLT,Int.reduceEq,Int.reduceNeg,tbF15_96,xbF15_1,g1,g2,g3,e8,hset];(try simp only [ite_and]);(repeat' (first|with_reducible assumption|refine And.intro ?_ ?_|intro hp));all_goals (first|(refine hQ _ ?_;clear hQ Q)|(refine hQ _ (fun h=>?_) (fun h=>?_) <;> clear hQ Q <;> (try simp only [vki,reduceCtorEq] at h))|omega|assumption|with_reducible rfl|(refine kq ?_;kernel_rfl)|skip)))
                refine ⟨⟨c+1,hclt⟩,by show l.coins.length - (c+1) < l.coins.length - c;omega, ?_⟩
                (refine Le.ok some [] ?_;constructor;all_goals (try simp only [vle,vkt,Nat.reduceEqDiff,Nat.reduceAdd,Nat.reduceMul,Nat.reduceSub,Nat.reduceLeDiff,reduceCtorEq,↓reduceIte,↓reduceDIte,Int.reduceToNat,Int.reduceLE,Int.reduceLT,Int.reduceEq,Int.reduceNeg,tbF15_96,xbF15_1]))
                all_goals first|rfl|trivial|(simp [e9];done)|exact ⟨rfl,trivial⟩|exact ⟨rfl,rfl⟩
              · have hcn:c=l.coins.length:=by omega
                subst hcn
                have hnx:=outL_next l D
                repeat' (first|(apply nx;with_reducible constructor)|refine jq (by decide) ?_|((first|refine kx env fun Q hQ=>?_|refine kz fun Q hQ=>?_);simp only [vkt,Nat.reduceEqDiff,Nat.reduceAdd,Nat.reduceMul,Nat.reduceSub,Nat.reduceLeDiff,reduceCtorEq,↓reduceIte,↓reduceDIte,Int.reduceToNat,Int.reduceLE,Int.reduceLT,Int.reduceEq,Int.reduceNeg,tbF15_96,xbF15_1,hnx,e7];(try simp only [ite_and]);(repeat' (first|with_reducible assumption|refine And.intro ?_ ?_|intro hp));all_goals (first|(refine hQ _ ?_;clear hQ Q)|(refine hQ _ (fun h=>?_) (fun h=>?_) <;> clear hQ Q <;> (try simp only [vki,reduceCtorEq] at h))|omega|assumption|with_reducible rfl|(refine kq ?_;kernel_rfl)|skip)))
                refine ⟨⟨D+1,by omega⟩,by show l.rates.length - 1 - (D+1) < l.rates.length - 1 - D;omega, ?_⟩
                rw [show (if D+1=0 then 0 else kd l (((D+1:Nat):Int) - 1))=kd l D by rw [if_neg (by omega),e6]]
                (refine Le.ok some [] ?_;constructor;all_goals (try simp only [vle,vkt,Nat.reduceEqDiff,Nat.reduceAdd,Nat.reduceMul,Nat.reduceSub,Nat.reduceLeDiff,reduceCtorEq,↓reduceIte,↓reduceDIte,Int.reduceToNat,Int.reduceLE,Int.reduceLT,Int.reduceEq,Int.reduceNeg,tbF15_96,xbF15_1]))
                all_goals first|rfl|trivial|exact ⟨rfl,trivial⟩|exact ⟨rfl,rfl⟩|(simp [evH];done))
    · have hDe:D=l.rates.length - 1:=by omega
      subst hDe
      have hfin:=outL_end l q2.1
      repeat' (first|(apply nx;with_reducible constructor)|refine jq (by decide) ?_|((first|refine kx env fun Q hQ=>?_|refine kz fun Q hQ=>?_);simp only [vkt,Nat.reduceEqDiff,Nat.reduceAdd,Nat.reduceMul,Nat.reduceSub,Nat.reduceLeDiff,reduceCtorEq,↓reduceIte,↓reduceDIte,Int.reduceToNat,Int.reduceLE,Int.reduceLT,Int.reduceEq,Int.reduceNeg,tbF15_96,xbF15_1];(try simp only [ite_and]);(repeat' (first|with_reducible assumption|refine And.intro ?_ ?_|intro hp));all_goals (first|(refine hQ _ ?_;clear hQ Q)|(refine hQ _ (fun h=>?_) (fun h=>?_) <;> clear hQ Q <;> (try simp only [vki,reduceCtorEq] at h))|omega|assumption|with_reducible rfl|(refine kq ?_;kernel_rfl)|skip)))
      rw [← hfin]
      (simp only [vrt,Try.results96,vkt,Nat.reduceEqDiff,Nat.reduceAdd,Nat.reduceMul,Nat.reduceSub,Nat.reduceLeDiff,reduceCtorEq,↓reduceIte,↓reduceDIte,Int.reduceToNat,Int.reduceLE,Int.reduceLT,Int.reduceEq,Int.reduceNeg,tbF15_96,xbF15_1];refine Fin.val rfl ?_;(try simp only [AV.le,AV.leL]))
      all_goals exact ⟨_,_,rfl⟩
def c96:List AV→Prop × AV
  |[.agg [.sl cs,.sl rs,.sl ss,.sl es]]=>(isL cs rs ss es∧Val (ldOf cs rs ss es),.sl ((gainsL (ldOf cs rs ss es)).map eQ))
  |_=>(False,.junk)
theorem d96 {A:Frm→Prop}:EntryOK A Try.prog 96 (valE false c96):=valE_ok fun vs hv h=>by
  clear hv
  unfold c96 at h ⊢
  split at h
  · refine ⟨trivial,fun h=>absurd h (by decide), ?_⟩
    rw [← aLed_of h.1];exact gains_fn _ h.2
  · exact h.elim
end Go.Sym.B
namespace Go.Sym.B
open Go Go.Sym Go.Proofs Go.Sym.C
def vE (l:Led) (i:Nat):Rat :=
  let x:=l.entries.getD i default
  if x.kind=3 then rq l x.day x.coin * x.amount - rq l x.day x.to * x.got else if x.kind=4 then rq l x.day x.coin * x.amount - rq l x.day x.coin * ((stK l i).2.getD x.coin.toNat 0:Int) else rq l x.day x.coin * x.amount
def kL (l:Led) (κ:Int) (k:Nat):List Rat:=((List.range k).filter fun i=>decide ((l.entries.getD i default).kind=κ)).map (vE l)
theorem kL_succ (l:Led) (κ:Int) (k:Nat):kL l κ (k+1)=if (l.entries.getD k default).kind=κ then kL l κ k++[vE l k] else kL l κ k:=by
  unfold kL
  rw [List.range_succ,List.filter_append]
  split
  · rename_i h;rw [List.filter_cons,if_pos (by rw [h];simp),List.filter_nil,List.map_append];rfl
  · rename_i h;rw [List.filter_cons,if_neg (by simpa using h),List.filter_nil,List.append_nil]
theorem kL_len (l:Led) (κ:Int) (k:Nat):(kL l κ k).length≤k:=by
  unfold kL
  rw [List.length_map]
  exact Nat.le_trans (List.length_filter_le _ _) (by simp)
theorem vE_bd {l:Led} (h:Val l) {i:Nat} (hi:i < l.entries.length):Bd 1000000 (vE l i):=by
  have hx:=val_entry h hi
  have hb:=val_hb h i (by omega)
  unfold vE
  generalize l.entries.getD i default=x at *
  have r1:=rt_bd (val_rt h hx.day.1 hx.day.2 hx.coin.1 hx.coin.2)
  have a1:=r1.muli (C:=1000) (n:=x.amount) (by have:=hx.am;omega) (by have:=hx.am;omega)
  dsimp only
  split
  · rename_i k3
    have r2:=rt_bd (val_rt h hx.day.1 hx.day.2 (hx.to k3).1 (hx.to k3).2)
    have a2:=r2.muli (C:=1000) (n:=x.got) (by have:=hx.got k3;omega) (by have:=hx.got k3;omega)
    exact (a1.sub a2).mono (by decide)
  · split
    · have hc:=hb x.coin.toNat
      have a2:=r1.muli (C:=7000) (n:=(stK l i).2.getD x.coin.toNat 0) (by omega) (by omega)
      exact (a1.sub a2).mono (by decide)
    · exact a1.mono (by decide)
theorem kL_ok {l:Led} (h:Val l) (κ:Int) {k:Nat} (hk:k≤l.entries.length):SumOk (kL l κ k):=by
  refine ⟨?_,fun q hq=>?_⟩
  · have:=kL_len l κ k;have:=h.e;omega
  · obtain ⟨i,hi,rfl⟩:=List.mem_map.1 hq
    have:=List.mem_range.1 (List.mem_filter.1 hi).1
    exact vE_bd h (by omega)
theorem gains_ok {l:Led} (h:Val l):SumOk (gainsL l):=by
  refine ⟨?_,fun q hq=>?_⟩
  · have:=h.c;simp [gainsL];omega
  · obtain ⟨i,hi,rfl⟩:=List.mem_map.1 hq
    exact (gQ1_bd h (List.mem_range.1 hi) (by have:=h.r;omega)).mono (by decide)
theorem w_ok {l:Led} (h:Val l) {d:Int} (hd:0≤d) (hd':d≤(l.rates.length:Int) - 1) {k:Nat} (hk:k≤l.entries.length):WOk l d (stK l k).2:=by
  have hh:=val_has h k hk
  refine ⟨?_,fun c hc=>?_,fun v hv=>?_⟩
  · rw [hh.len];exact h.c.2
  · exact val_rt h hd hd' (by omega) (by have:=hh.len;omega)
  · have:=hh.b v hv;have:=h.e;omega
structure Acc where
  taken:Rat
  paid:Rat
  gained:Rat
  lost:Rat
  found:Rat
  worth:Rat
deriving DecidableEq
def cAcc (a:Acc):List AV:=[.v (.int .i64 a.taken.num),.v (.int .i64 a.taken.den),.v (.int .i64 a.paid.num),.v (.int .i64 a.paid.den),.v (.int .i64 a.gained.num),.v (.int .i64 a.gained.den),.v (.int .i64 a.lost.num),.v (.int .i64 a.lost.den),.v (.int .i64 a.found.num),.v (.int .i64 a.found.den),.v (.int .i64 a.worth.num),.v (.int .i64 a.worth.den)]
def z12:List AV:=[.v (.int .i64 0),.v (.int .i64 0),.v (.int .i64 0),.v (.int .i64 0),.v (.int .i64 0),.v (.int .i64 0),.v (.int .i64 0),.v (.int .i64 0),.v (.int .i64 0),.v (.int .i64 0),.v (.int .i64 0),.v (.int .i64 0)]
def accOf (l:Led):Acc:=⟨qsum (kL l 1 l.entries.length),qsum (kL l 2 l.entries.length),qsum (gainsL l),qsum (kL l 3 l.entries.length),qsum (kL l 4 l.entries.length),worthQ l ((l.rates.length:Int) - 1) (stK l l.entries.length).2 l.coins.length⟩
def aBal (l:Led):AV:=if checkE l ≠ 0 then .tup [.agg z12,aI (checkE l)] else .tup [.agg (cAcc (accOf l)),aI 0]
def baS (l:Led) (k:Nat):St:={ t:=asg [(1,.ptr 0 0),(2,.ptr 1 0),(3,aI 0),(5,.ptr 2 0),(6,.row 4),(7,.row 5),(8,.row 6),(9,.row 7),(22,.sl (l.entries.map eEnt)),(23,aI l.entries.length),(24,aI k)],h:=hasg [(0,.cells (cLed l)),(1,.cells z12),(2,oTill l 3),(3,oHas (stK l k).2),(4,.row 107 2 ((kL l 1 k).map eQ)),(5,.row 107 2 ((kL l 2 k).map eQ)),(6,.row 107 2 ((kL l 3 k).map eQ)),(7,.row 107 2 ((kL l 4 k).map eQ))],n:=8 }
def tbF16_39:=kj @ty3 (kj @ty22 (kj @ty30 (kj @ty35 (kj @ty36 (kj @ty38 (kj @ty48 (kj @ty55 (kj @ty61 (kj @ty107 (kj @ty115 (kj @ty123 (kj @ti3.eq_1 (kj @ti22.eq_1 (kj @ti30.eq_1 (kj @ti35.eq_1 (kj @ti36.eq_1 (kj @ti38.eq_1 (kj @ti48.eq_1 (kj @ti55.eq_1 (kj @ti61.eq_1 (kj @ti107.eq_1 (kj @ti115.eq_1 @ti123.eq_1))))))))))))))))))))))
def xbF16_1:=kj @aI.eq_1 (kj @aB.eq_1 (kj @aLed.eq_1 (kj @cLed.eq_1 (kj @aSh.eq_1 (kj @shQ.eq_1 (kj @eQ.eq_1 (kj @eSh.eq_1 (kj @oTill.eq_1 (kj @oHas.eq_1 (kj @baS.eq_1 (kj @z12.eq_1 (kj @cAcc.eq_1 (kj @c50.eq_1 (kj @c50.eq_2 (kj @p97.eq_1 (kj @p97.eq_2 (kj @p101.eq_1 (kj @p101.eq_2 (kj @p103.eq_1 (kj @p103.eq_2 (kj @c98.eq_1 (kj @c98.eq_2 (kj @s100.eq_1 (kj @s100.eq_2 (kj @s99.eq_1 (kj @s99.eq_2 (kj @c102.eq_1 (kj @c102.eq_2 (kj @c102.eq_3 (kj @c96.eq_1 (kj @c96.eq_2 (kj @isL_e (kj @ldOf_e (kj @isQ_q (kj @qI_q (kj @mInts (kj @mShs (kj @mInt (kj @mEnt (kj @eEnt.eq_1 (kj @gEnt (kj @eInt.eq_1 (kj @mQ (@rQ))))))))))))))))))))))))))))))))))))))))))))
set_option maxHeartbeats 4000000 in
theorem bal_fn (l:Led) (hl:Fit l):FnV Try.prog 39 [aLed l] (aBal l):=by
  have env:Env (fun _=>True) Try.prog tyB (tab [(50,valE true c50),(97,fnE p97),(101,fnE p101),(103,fnE p103),(98,valE true c98),(100,valE true s100),(99,valE true s99),(102,valE true c102),(96,valE false c96)]):=mkEnv ⟨d50,e97,e101,e103,d98,e100,e99,d102,d96,trivial⟩
  refine Fn.of (A:=fun _=>True) (n0:=0) (D:=noD) (Fn0 Try.func39 rfl (fun vs w=>by kernel_rfl) (by kernel_rfl)) (by simp) (by simp [AV.ids,AV.idsL,aLed,cLed]) (fun i o h=>by cases h) (fun _ _ _ _=>trivial) noD_ok ?_
  by_cases c0:checkE l=0
  · rw [show aBal l=_ from if_neg (by rw [c0];simp)]
    have hV:=val_of c0
    have q1:=hV.c
    have q2:=hV.r
    have q3:=hV.sl
    have q4:=hV.e
    have q5:l.start.length≤100000:=by omega
    repeat' (first|(apply nx;with_reducible constructor)|refine jq (by decide) ?_|((first|refine kx env fun Q hQ=>?_|refine kz fun Q hQ=>?_);simp only [vkt,seval,tbF16_39,xbF16_1,c0];(try simp only [ite_and]);(repeat' (first|with_reducible assumption|refine And.intro ?_ ?_|intro hp));all_goals (first|(refine hQ _ ?_;clear hQ Q)|(refine hQ _ (fun h=>?_) (fun h=>?_) <;> clear hQ Q <;> (try simp only [vki,reduceCtorEq] at h))|omega|assumption|with_reducible rfl|(refine kq ?_;kernel_rfl)|skip)))
    refine sym_loop (fun k:{ k:Nat // k≤l.entries.length }=>baS l k.1) (fun k=>l.entries.length - k.1) ⟨0,Nat.zero_le _⟩ ?_ fun ⟨k,hk⟩=>?_
    · (refine Le.ok (fun j=>if j=0 then some 0 else if j=1 then some 1 else if j=2 then some 2 else if j=3 then some 3 else none) [] ?_;constructor;all_goals (try simp only [vle,vkt,seval,tbF16_39,xbF16_1]))
      all_goals first|rfl|decide|exact ⟨rfl,rfl,rfl,rfl,rfl⟩|exact ⟨rfl,rfl⟩
    · repeat' (first|(apply nx;with_reducible constructor)|refine jq (by decide) ?_)
      (refine kx env fun Q hQ=>?_;simp only [vkt,seval,tbF16_39,xbF16_1];(try simp only [ite_and]);(repeat' (first|with_reducible assumption|refine And.intro ?_ ?_|intro hp));all_goals (first|(refine hQ _ ?_;clear hQ Q)|omega|assumption|with_reducible rfl|(refine kq ?_;kernel_rfl)|skip))
      repeat' (first|(apply nx;with_reducible constructor)|refine jq (by decide) ?_)
      (refine sym_cd (by simp only [vkt,seval,tbF16_39,xbF16_1];rfl) (fun h=>?_) (fun h=>?_) <;> (try simp only [vki,reduceCtorEq] at h))
      · have hlt:k < l.entries.length:=by omega
        have hentry:=val_entry hV hlt
        have ho:=val_has hV k (by omega)
        have hen:=enOk_of ho (by omega) hentry
        have hS:=stK_succ hlt
        have hb:=val_hb hV k (by omega)
        have hvb:=(vE_bd hV hlt).sm (by decide)
        have hkk:∀ κ,kL l κ (k+1)=_:=fun κ=>kL_succ l κ k
        generalize hx:l.entries.getD k default=x at *
        have hen':EnOk (stK l k).2 ⟨x.day,x.kind,x.coin,x.to,x.amount,x.got⟩:=hen
        have r1:=val_rt hV hentry.day.1 hentry.day.2 hentry.coin.1 hentry.coin.2
        have b1:=rt_bd r1
        have t1:Tm (rq l x.day x.coin) x.amount:=tm_of b1 (by have:=hentry.am;omega) (by have:=hentry.am;omega)
        have s1:=(b1.muli (C:=1000) (n:=x.amount) (by have:=hentry.am;omega) (by have:=hentry.am;omega)).sm (by decide)
        have e9:=wrap_succ hlt (show l.entries.length≤maxLen by have:=tmax;omega)
        have l1:=kL_len l 1 k
        have l2:=kL_len l 2 k
        have l3:=kL_len l 3 k
        have l4:=kL_len l 4 k
        have cap:∀ n:Nat,n≤6→(n+1) * 16≤140737488355328∧n+1≤maxLen:=fun n hn=>by have:=tmax;omega
        have fin:∀ κ,¬ x.kind=κ→kL l κ (k+1)=kL l κ k:=fun κ h=>by rw [hkk,if_neg h]
        have fin1:∀ κ,x.kind=κ→kL l κ (k+1)=kL l κ k++[vE l k]:=fun κ h=>by rw [hkk,if_pos h]
        rcases (by have:=hentry.kind;omega:x.kind=1∨x.kind=2∨x.kind=3∨x.kind=4) with k1|k2|k3|k4
        · have n1:=fin1 1 (by omega)
          have n2:=fin 2 (by omega)
          have n3:=fin 3 (by omega)
          have n4:=fin 4 (by omega)
          have hen1:EnOk (stK l k).2 ⟨x.day,1,x.coin,x.to,x.amount,x.got⟩:=by rw [← k1];exact hen'
          have hS1:enterF (stK l k).2 ⟨x.day,1,x.coin,x.to,x.amount,x.got⟩=(stK l (k+1)).2:=by rw [hS,← k1]
          have g1:=cap (kL l 1 k).length (by omega)
          have hve:vE l k=rq l x.day x.coin * x.amount:=by unfold vE;dsimp only;rw [hx,if_neg (by omega),if_neg (by omega)]
          repeat' (first|(apply nx;with_reducible constructor)|refine jq (by decide) ?_|((first|refine kx env fun Q hQ=>?_|refine kz fun Q hQ=>?_);simp only [vkt,seval,tbF16_39,xbF16_1,hx,k1];(try simp only [ite_and]);(repeat' (first|with_reducible assumption|refine And.intro ?_ ?_|intro hp));all_goals (first|(refine hQ _ ?_;clear hQ Q)|(refine hQ _ (fun h=>?_) (fun h=>?_) <;> clear hQ Q <;> (try simp only [vki,reduceCtorEq] at h))|omega|assumption|with_reducible rfl|(refine kq ?_;kernel_rfl)|skip)))
          refine ⟨⟨k+1,hlt⟩,by show l.entries.length - (k+1) < l.entries.length - k;omega, ?_⟩
          (refine Le.ok (fun j=>if j=4 then some 11 else some j) [] ?_;constructor;all_goals (try simp only [vle,vkt,seval,tbF16_39,xbF16_1]))
          all_goals first|rfl|decide|trivial|(rw [e9];done)|exact ⟨by rw [hS1],by rw [n1,hve,List.map_append];rfl,by rw [n2],by rw [n3],by rw [n4]⟩
        · have n1:=fin 1 (by omega)
          have n2:=fin1 2 (by omega)
          have n3:=fin 3 (by omega)
          have n4:=fin 4 (by omega)
          have hen1:EnOk (stK l k).2 ⟨x.day,2,x.coin,x.to,x.amount,x.got⟩:=by rw [← k2];exact hen'
          have hS1:enterF (stK l k).2 ⟨x.day,2,x.coin,x.to,x.amount,x.got⟩=(stK l (k+1)).2:=by rw [hS,← k2]
          have g1:=cap (kL l 2 k).length (by omega)
          have hve:vE l k=rq l x.day x.coin * x.amount:=by unfold vE;dsimp only;rw [hx,if_neg (by omega),if_neg (by omega)]
          repeat' (first|(apply nx;with_reducible constructor)|refine jq (by decide) ?_|((first|refine kx env fun Q hQ=>?_|refine kz fun Q hQ=>?_);simp only [vkt,seval,tbF16_39,xbF16_1,hx,k2];(try simp only [ite_and]);(repeat' (first|with_reducible assumption|refine And.intro ?_ ?_|intro hp));all_goals (first|(refine hQ _ ?_;clear hQ Q)|(refine hQ _ (fun h=>?_) (fun h=>?_) <;> clear hQ Q <;> (try simp only [vki,reduceCtorEq] at h))|omega|assumption|with_reducible rfl|(refine kq ?_;kernel_rfl)|skip)))
          refine ⟨⟨k+1,hlt⟩,by show l.entries.length - (k+1) < l.entries.length - k;omega, ?_⟩
          (refine Le.ok (fun j=>if j=5 then some 11 else some j) [] ?_;constructor;all_goals (try simp only [vle,vkt,seval,tbF16_39,xbF16_1]))
          all_goals first|rfl|decide|trivial|(rw [e9];done)|exact ⟨by rw [hS1],by rw [n1],by rw [n2,hve,List.map_append];rfl,by rw [n3],by rw [n4]⟩
        · have n1:=fin 1 (by omega)
          have n2:=fin 2 (by omega)
          have n3:=fin1 3 (by omega)
          have n4:=fin 4 (by omega)
          have hen1:EnOk (stK l k).2 ⟨x.day,3,x.coin,x.to,x.amount,x.got⟩:=by rw [← k3];exact hen'
          have hS1:enterF (stK l k).2 ⟨x.day,3,x.coin,x.to,x.amount,x.got⟩=(stK l (k+1)).2:=by rw [hS,← k3]
          have g1:=cap (kL l 3 k).length (by omega)
          have r2:=val_rt hV hentry.day.1 hentry.day.2 (hentry.to k3).1 (hentry.to k3).2
          have b2:=rt_bd r2
          have t2:Tm (rq l x.day x.to) x.got:=tm_of b2 (by have:=hentry.got k3;omega) (by have:=hentry.got k3;omega)
          have s2:=(b2.muli (C:=1000) (n:=x.got) (by have:=hentry.got k3;omega) (by have:=hentry.got k3;omega)).sm (by decide)
          have hve:vE l k=rq l x.day x.coin * x.amount - rq l x.day x.to * x.got:=by unfold vE;dsimp only;rw [hx,if_pos k3]
          have s3:Sm (rq l x.day x.coin * x.amount - rq l x.day x.to * x.got):=by rw [← hve];exact hvb
          repeat' (first|(apply nx;with_reducible constructor)|refine jq (by decide) ?_|((first|refine kx env fun Q hQ=>?_|refine kz fun Q hQ=>?_);simp only [vkt,seval,tbF16_39,xbF16_1,hx,k3];(try simp only [ite_and]);(repeat' (first|with_reducible assumption|refine And.intro ?_ ?_|intro hp));all_goals (first|(refine hQ _ ?_;clear hQ Q)|(refine hQ _ (fun h=>?_) (fun h=>?_) <;> clear hQ Q <;> (try simp only [vki,reduceCtorEq] at h))|omega|assumption|with_reducible rfl|(refine kq ?_;kernel_rfl)|skip)))
          refine ⟨⟨k+1,hlt⟩,by show l.entries.length - (k+1) < l.entries.length - k;omega, ?_⟩
          (refine Le.ok (fun j=>if j=6 then some 11 else some j) [] ?_;constructor;all_goals (try simp only [vle,vkt,seval,tbF16_39,xbF16_1]))
          all_goals first|rfl|decide|trivial|(rw [e9];done)|exact ⟨by rw [hS1],by rw [n1],by rw [n2],by rw [n3,hve,List.map_append];rfl,by rw [n4]⟩
        · have n1:=fin 1 (by omega)
          have n2:=fin 2 (by omega)
          have n3:=fin 3 (by omega)
          have n4:=fin1 4 (by omega)
          have hen1:EnOk (stK l k).2 ⟨x.day,4,x.coin,x.to,x.amount,x.got⟩:=by rw [← k4];exact hen'
          have hS1:enterF (stK l k).2 ⟨x.day,4,x.coin,x.to,x.amount,x.got⟩=(stK l (k+1)).2:=by rw [hS,← k4]
          have g1:=cap (kL l 4 k).length (by omega)
          have hcl:x.coin.toNat < (stK l k).2.length:=by have:=hentry.coin;have:=ho.len;omega
          have hc0:0≤x.coin:=hentry.coin.1
          have g2:=gI0 hcl
          have b9:=hb x.coin.toNat
          have t2:Tm (rq l x.day x.coin) ((stK l k).2.getD x.coin.toNat 0):=tm_of b1 (by omega) (by omega)
          have s2:=(b1.muli (C:=7000) (n:=(stK l k).2.getD x.coin.toNat 0) (by omega) (by omega)).sm (by decide)
          have hve:vE l k=rq l x.day x.coin * x.amount - rq l x.day x.coin * ((stK l k).2.getD x.coin.toNat 0:Int):=by unfold vE;dsimp only;rw [hx,if_neg (by omega),if_pos k4]
          have s3:Sm (rq l x.day x.coin * x.amount - rq l x.day x.coin * ((stK l k).2.getD x.coin.toNat 0:Int)):=by rw [← hve];exact hvb
          repeat' (first|(apply nx;with_reducible constructor)|refine jq (by decide) ?_|((first|refine kx env fun Q hQ=>?_|refine kz fun Q hQ=>?_);simp only [vkt,seval,tbF16_39,xbF16_1,hx,k4,g2];(try simp only [ite_and]);(repeat' (first|with_reducible assumption|refine And.intro ?_ ?_|intro hp));all_goals (first|(refine hQ _ ?_;clear hQ Q)|(refine hQ _ (fun h=>?_) (fun h=>?_) <;> clear hQ Q <;> (try simp only [vki,reduceCtorEq] at h))|omega|assumption|with_reducible rfl|(refine kq ?_;kernel_rfl)|skip)))
          refine ⟨⟨k+1,hlt⟩,by show l.entries.length - (k+1) < l.entries.length - k;omega, ?_⟩
          (refine Le.ok (fun j=>if j=7 then some 11 else some j) [] ?_;constructor;all_goals (try simp only [vle,vkt,seval,tbF16_39,xbF16_1]))
          all_goals first|rfl|decide|trivial|(rw [e9];done)|exact ⟨by rw [hS1],by rw [n1],by rw [n2],by rw [n3],by rw [n4,hve,List.map_append];rfl⟩
      · have hkn:k=l.entries.length:=by omega
        subst hkn
        have w1:IntKind.wrap .i64 ((l.rates.length:Int) - 1)=(l.rates.length:Int) - 1:=wrap64 (by omega) (by omega)
        have f1:=kL_ok hV 1 (Nat.le_refl _)
        have f2:=kL_ok hV 2 (Nat.le_refl _)
        have f3:=kL_ok hV 3 (Nat.le_refl _)
        have f4:=kL_ok hV 4 (Nat.le_refl _)
        have f5:=gains_ok hV
        have f6:=w_ok hV (d:=(l.rates.length:Int) - 1) (by omega) (by omega) (Nat.le_refl _)
        have hle:(stK l l.entries.length).2.length=l.coins.length:=(val_has hV _ (Nat.le_refl _)).len
        have e8:accOf l=⟨qsum (kL l 1 l.entries.length),qsum (kL l 2 l.entries.length),qsum (gainsL l),qsum (kL l 3 l.entries.length),qsum (kL l 4 l.entries.length),worthQ l ((l.rates.length:Int) - 1) (stK l l.entries.length).2 (stK l l.entries.length).2.length⟩:=by unfold accOf;rw [hle]
        repeat' (first|(apply nx;with_reducible constructor)|refine jq (by decide) ?_|((first|refine kx env fun Q hQ=>?_|refine kz fun Q hQ=>?_);simp only [vkt,seval,tbF16_39,xbF16_1,w1];(try simp only [ite_and]);(repeat' (first|with_reducible assumption|refine And.intro ?_ ?_|intro hp));all_goals (first|(refine hQ _ ?_;clear hQ Q)|(refine hQ _ (fun h=>?_) (fun h=>?_) <;> clear hQ Q <;> (try simp only [vki,reduceCtorEq] at h))|omega|assumption|with_reducible rfl|(refine kq ?_;kernel_rfl)|skip)))
        rw [e8]
        (simp only [vrt,Try.results39,vkt,seval,tbF16_39,xbF16_1];refine Fin.val rfl ?_;(try simp only [AV.le,AV.leL]))
        all_goals first|rfl|trivial|simp
  · rw [show aBal l=_ from if_pos c0]
    repeat' (first|(apply nx;with_reducible constructor)|refine jq (by decide) ?_|((first|refine kx env fun Q hQ=>?_|refine kz fun Q hQ=>?_);simp only [vkt,seval,tbF16_39,xbF16_1,c0];(try simp only [ite_and]);(repeat' (first|with_reducible assumption|refine And.intro ?_ ?_|intro hp));all_goals (first|(refine hQ _ ?_;clear hQ Q)|(refine hQ _ (fun h=>?_) (fun h=>?_) <;> clear hQ Q <;> (try simp only [vki,reduceCtorEq] at h))|omega|assumption|with_reducible rfl|(refine kq ?_;kernel_rfl)|skip)))
    (simp only [vrt,Try.results39,vkt,seval,tbF16_39,xbF16_1];refine Fin.val rfl ?_;(try simp only [AV.le,AV.leL]))
    all_goals simp
end Go.Sym.B
namespace Go.Sym.B
open Go Go.Sym Go.Proofs Go.Sym.C
def tbF11_89:=kj @ty38 (kj @ty107 (kj @ti38.eq_1 @ti107.eq_1))
def xbF11_1:=kj @aI.eq_1 (kj @aB.eq_1 (kj @aLed.eq_1 (kj @cLed.eq_1 (kj @aSh.eq_1 (kj @shQ.eq_1 (kj @c98.eq_1 (kj @c98.eq_2 (kj @s99.eq_1 (kj @s99.eq_2 (kj @s135.eq_1 (kj @s135.eq_2 (kj @isL_e (kj @ldOf_e (kj @isQ_q (@qI_q)))))))))))))))
theorem exact_fn (l:Led) (d a b n:Int) (h1:Rt l d a) (h2:Rt l d b) (hn:0≤n) (hn':n≤300000):FnV Try.prog 89 [aLed l,aI d,aI a,aI b,aI n] (aSh (shQ (rq l d a * n / rq l d b))):=by
  have env:Env (fun _=>True) Try.prog tyB (tab [(98,valE true c98),(99,valE true s99),(135,valE true s135)]):=mkEnv ⟨d98,e99,e135,trivial⟩
  refine Fn.of (A:=fun _=>True) (n0:=0) (D:=noD) (Fn0 Try.func89 rfl (fun vs w=>by kernel_rfl) (by kernel_rfl)) (by simp) (by simp [AV.ids,AV.idsL,aLed,cLed,aI]) (fun i o h=>by cases h) (fun _ _ _ _=>trivial) noD_ok ?_
  have g1:=rt_bd h1
  have g2:=tm_of3 g1 (show -300000≤n by omega) (by omega)
  have g3:=(g1.muli (C:=300000) (n:=n) (by omega) (by omega)).sm (by decide)
  have g4:=(rt_bd h2).sm (by decide)
  have g5:0 < (rq l d b).num:=by have:=h2.n0;omega
  have g6:(rq l d b).num≤1048576:=by have:=h2.n1;omega
  repeat' (first|(apply nx;with_reducible constructor)|refine jq (by decide) ?_|((first|refine kx env fun Q hQ=>?_|refine kz fun Q hQ=>?_);simp only [vkt,seval,tbF11_89,xbF11_1];(try simp only [ite_and]);(repeat' (first|with_reducible assumption|refine And.intro ?_ ?_|intro hp));all_goals (first|(refine hQ _ ?_;clear hQ Q)|(refine hQ _ (fun h=>?_) (fun h=>?_) <;> clear hQ Q <;> (try simp only [vki,reduceCtorEq] at h))|omega|assumption|with_reducible rfl|(refine kq ?_;kernel_rfl)|skip)))
  (simp only [vrt,Try.results89,vkt,seval,tbF11_89,xbF11_1];refine Fin.val rfl ?_;(try simp only [AV.le,AV.leL]))
  all_goals simp
def c89:List AV→Prop × AV
  |[.agg [.sl cs,.sl rs,.sl ss,.sl es],.v (.int .i64 d),.v (.int .i64 a),.v (.int .i64 b),.v (.int .i64 n)]=>(isL cs rs ss es∧Rt (ldOf cs rs ss es) d a∧Rt (ldOf cs rs ss es) d b∧0≤n∧n≤300000,aSh (shQ (rq (ldOf cs rs ss es) d a * n / rq (ldOf cs rs ss es) d b)))
  |_=>(False,.junk)
theorem d89 {A:Frm→Prop}:EntryOK A Try.prog 89 (valE true c89):=valE_ok fun vs hv h=>by
  clear hv
  unfold c89 at h ⊢
  split at h
  · refine ⟨by simp [AV.plain,AV.plainL,aSh],fun _=>by simp [AV.flat,AV.flatL,aSh], ?_⟩
    rw [← aLed_of h.1];exact exact_fn _ _ _ _ _ h.2.1 h.2.2.1 h.2.2.2.1 h.2.2.2.2
  · exact h.elim
def chkSwapE (l:Led) (d a b n:Int):Int:=if checkE l ≠ 0 then checkE l else if !inB d 0 ((l.rates.length:Int) - 1) then 3 else if !inB a 0 ((l.coins.length:Int) - 1) then 3 else if !inB b 0 ((l.coins.length:Int) - 1) then 3 else if a=b then 4 else if !inB n 0 999 then 1 else 0
def tbF11_106:=kj @ty3 (kj @ty22 (kj @ty28 (kj @ty30 (kj @ty35 (kj @ty38 (kj @ty55 (kj @ti3.eq_1 (kj @ti22.eq_1 (kj @ti28.eq_1 (kj @ti30.eq_1 (kj @ti35.eq_1 (kj @ti38.eq_1 @ti55.eq_1))))))))))))
def xbF11_2:=kj @aI.eq_1 (kj @aB.eq_1 (kj @aLed.eq_1 (kj @cLed.eq_1 (kj @c50.eq_1 (kj @c50.eq_2 (kj @s79.eq_1 (kj @s79.eq_2 (kj @isL_e (@ldOf_e)))))))))
theorem chkSwap_fn (l:Led) (d a b n:Int) (hl:Fit l):FnV Try.prog 106 [aLed l,aI d,aI a,aI b,aI n] (aI (chkSwapE l d a b n)):=by
  have env:Env (fun _=>True) Try.prog tyB (tab [(50,valE true c50),(79,valE true s79)]):=mkEnv ⟨d50,e79,trivial⟩
  refine Fn.of (A:=fun _=>True) (n0:=0) (D:=noD) (Fn0 Try.func106 rfl (fun vs w=>by kernel_rfl) (by kernel_rfl)) (by simp) (by simp [AV.ids,AV.idsL,aLed,cLed,aI]) (fun i o h=>by cases h) (fun _ _ _ _=>trivial) noD_ok ?_
  have q1:=hl.c
  have q2:=hl.r
  have w1:IntKind.wrap .i64 ((l.rates.length:Int) - 1)=(l.rates.length:Int) - 1:=wrap64 (by omega) (by omega)
  have w2:IntKind.wrap .i64 ((l.coins.length:Int) - 1)=(l.coins.length:Int) - 1:=wrap64 (by omega) (by omega)
  by_cases c0:checkE l=0
  · cases c1:inB d 0 ((l.rates.length:Int) - 1)
    · repeat' (first|(apply nx;with_reducible constructor)|refine jq (by decide) ?_|((first|refine kx env fun Q hQ=>?_|refine kz fun Q hQ=>?_);simp only [vkt,seval,tbF11_106,xbF11_2,w1,w2,c0,c1];(try simp only [ite_and]);(repeat' (first|with_reducible assumption|refine And.intro ?_ ?_|intro hp));all_goals (first|(refine hQ _ ?_;clear hQ Q)|(refine hQ _ (fun h=>?_) (fun h=>?_) <;> clear hQ Q <;> (try simp only [vki,reduceCtorEq] at h))|omega|assumption|with_reducible rfl|(refine kq ?_;kernel_rfl)|skip)))
      (simp only [vrt,Try.results106,vkt,seval,tbF11_106,xbF11_2];refine Fin.val rfl ?_;(try simp only [AV.le,AV.leL]))
      all_goals simp [chkSwapE, *]
    cases c2:inB a 0 ((l.coins.length:Int) - 1)
    · repeat' (first|(apply nx;with_reducible constructor)|refine jq (by decide) ?_|((first|refine kx env fun Q hQ=>?_|refine kz fun Q hQ=>?_);simp only [vkt,seval,tbF11_106,xbF11_2,w1,w2,c0,c1,c2];(try simp only [ite_and]);(repeat' (first|with_reducible assumption|refine And.intro ?_ ?_|intro hp));all_goals (first|(refine hQ _ ?_;clear hQ Q)|(refine hQ _ (fun h=>?_) (fun h=>?_) <;> clear hQ Q <;> (try simp only [vki,reduceCtorEq] at h))|omega|assumption|with_reducible rfl|(refine kq ?_;kernel_rfl)|skip)))
      (simp only [vrt,Try.results106,vkt,seval,tbF11_106,xbF11_2];refine Fin.val rfl ?_;(try simp only [AV.le,AV.leL]))
      all_goals simp [chkSwapE, *]
    cases c3:inB b 0 ((l.coins.length:Int) - 1)
    · repeat' (first|(apply nx;with_reducible constructor)|refine jq (by decide) ?_|((first|refine kx env fun Q hQ=>?_|refine kz fun Q hQ=>?_);simp only [vkt,seval,tbF11_106,xbF11_2,w1,w2,c0,c1,c2,c3];(try simp only [ite_and]);(repeat' (first|with_reducible assumption|refine And.intro ?_ ?_|intro hp));all_goals (first|(refine hQ _ ?_;clear hQ Q)|(refine hQ _ (fun h=>?_) (fun h=>?_) <;> clear hQ Q <;> (try simp only [vki,reduceCtorEq] at h))|omega|assumption|with_reducible rfl|(refine kq ?_;kernel_rfl)|skip)))
      (simp only [vrt,Try.results106,vkt,seval,tbF11_106,xbF11_2];refine Fin.val rfl ?_;(try simp only [AV.le,AV.leL]))
      all_goals simp [chkSwapE, *]
    repeat' (first|(apply nx;with_reducible constructor)|refine jq (by decide) ?_|((first|refine kx env fun Q hQ=>?_|refine kz fun Q hQ=>?_);simp only [vkt,seval,tbF11_106,xbF11_2,w1,w2,c0,c1,c2,c3];(try simp only [ite_and]);(repeat' (first|with_reducible assumption|refine And.intro ?_ ?_|intro hp));all_goals (first|(refine hQ _ ?_;clear hQ Q)|(refine hQ _ (fun h=>?_) (fun h=>?_) <;> clear hQ Q <;> (try simp only [vki,reduceCtorEq] at h))|omega|assumption|with_reducible rfl|(refine kq ?_;kernel_rfl)|skip)))
    all_goals (simp only [vrt,Try.results106,vkt,seval,tbF11_106,xbF11_2];refine Fin.val rfl ?_;(try simp only [AV.le,AV.leL]))
    all_goals simp [chkSwapE, *]
  · repeat' (first|(apply nx;with_reducible constructor)|refine jq (by decide) ?_|((first|refine kx env fun Q hQ=>?_|refine kz fun Q hQ=>?_);simp only [vkt,seval,tbF11_106,xbF11_2,w1,w2,c0];(try simp only [ite_and]);(repeat' (first|with_reducible assumption|refine And.intro ?_ ?_|intro hp));all_goals (first|(refine hQ _ ?_;clear hQ Q)|(refine hQ _ (fun h=>?_) (fun h=>?_) <;> clear hQ Q <;> (try simp only [vki,reduceCtorEq] at h))|omega|assumption|with_reducible rfl|(refine kq ?_;kernel_rfl)|skip)))
    (simp only [vrt,Try.results106,vkt,seval,tbF11_106,xbF11_2];refine Fin.val rfl ?_;(try simp only [AV.le,AV.leL]))
    all_goals simp [chkSwapE,c0]
def c106:List AV→Prop × AV
  |[.agg [.sl cs,.sl rs,.sl ss,.sl es],.v (.int .i64 d),.v (.int .i64 a),.v (.int .i64 b),.v (.int .i64 n)]=>(isL cs rs ss es∧Fit (ldOf cs rs ss es),aI (chkSwapE (ldOf cs rs ss es) d a b n))
  |_=>(False,.junk)
theorem d106 {A:Frm→Prop}:EntryOK A Try.prog 106 (valE true c106):=valE_ok fun vs hv h=>by
  clear hv
  unfold c106 at h ⊢
  split at h
  · refine ⟨trivial,fun _=>trivial, ?_⟩
    rw [← aLed_of h.1];exact chkSwap_fn _ _ _ _ _ h.2
  · exact h.elim
end Go.Sym.B
