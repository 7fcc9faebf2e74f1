/- Walks and what they compute, joined: part 1. -/
import Derived.Test.YtfljkbcphmnjkaaNS3
import Derived.Test.YtfljkbcphmnjkaaProg
import Derived.KernelRfl
set_option linter.all false
namespace Go.Sym.B
open Go Go.Sym Go.Proofs
theorem _root_.Go.Sym.kk {a b:Prop} (x:a) (y:b):a∧b:=⟨x,y⟩
def _root_.Go.Sym.jq:=@Vt
def _root_.Go.Sym.jx:=@JY
def _root_.Go.Sym.jz:=@XX
def _root_.Go.Sym.jk:=@XB
def _root_.Go.Sym.jw:=@Um
def _root_.Go.Sym.jv:=@UF
def _root_.Go.Sym.kq:=@RG
def _root_.Go.Sym.kx:=@LX
def _root_.Go.Sym.kz:=@Qdy
def _root_.Go.Sym.kj:=@Qg7
def ti3:TI:={ cells:=1,bytes:=8,td:=.int .i64,zero:=[.v (.int .i64 0)],eqk:=none }
theorem tf3:TyFact Try.prog 3 ti3:=by
  refine ⟨⟨Try.t3,.int .i64 0,by kernel_rfl,rfl,rfl,rfl,rfl,rfl,by simp [Value.cells,Value.oneCell']⟩,⟨_,Try.underlying3,rfl⟩,fun fs h=>?_,fun ks h=>?_,fun q h=>?_⟩
  · cases h
  · cases h
  · cases h
def ti4:TI:={ cells:=1,bytes:=1,td:=.bool,zero:=[.v (.bool false)],eqk:=none }
theorem tf4:TyFact Try.prog 4 ti4:=by
  refine ⟨⟨Try.t4,.bool false,by kernel_rfl,rfl,rfl,rfl,rfl,rfl,by simp [Value.cells,Value.oneCell']⟩,⟨_,Try.underlying4,rfl⟩,fun fs h=>?_,fun ks h=>?_,fun q h=>?_⟩
  · cases h
  · cases h
  · cases h
def ti5:TI:={ cells:=1,bytes:=1,td:=.int .u8,zero:=[.v (.int .u8 0)],eqk:=none }
theorem tf5:TyFact Try.prog 5 ti5:=by
  refine ⟨⟨Try.t5,.int .u8 0,by kernel_rfl,rfl,rfl,rfl,rfl,rfl,by simp [Value.cells,Value.oneCell']⟩,⟨_,Try.underlying5,rfl⟩,fun fs h=>?_,fun ks h=>?_,fun q h=>?_⟩
  · cases h
  · cases h
  · cases h
def ti9:TI:={ cells:=1,bytes:=16,td:=.string,zero:=[.v (.string ⟨#[]⟩)],eqk:=none }
theorem tf9:TyFact Try.prog 9 ti9:=by
  refine ⟨⟨Try.t9,.string ⟨#[]⟩,by kernel_rfl,rfl,rfl,rfl,rfl,rfl,by simp [Value.cells,Value.oneCell']⟩,⟨_,Try.underlying9,rfl⟩,fun fs h=>?_,fun ks h=>?_,fun q h=>?_⟩
  · cases h
  · cases h
  · cases h
def kC:TI:={ cells:=1,bytes:=24,td:=.slice 3,zero:=[.nil],eqk:=none }
theorem tf22:TyFact Try.prog 22 kC:=by
  refine ⟨⟨Try.t22,.slice none 0 0,by kernel_rfl,rfl,rfl,rfl,rfl,rfl,by simp [Value.cells,Value.oneCell']⟩,⟨_,Try.underlying22,rfl⟩,fun fs h=>?_,fun ks h=>?_,fun q h=>?_⟩
  · cases h
  · cases h
  · cases h
def ti23:TI:={ cells:=1,bytes:=8,td:=.ptr,zero:=[.v (.pointer none)],eqk:=none }
theorem tf23:TyFact Try.prog 23 ti23:=by
  refine ⟨⟨Try.t23,.pointer none,by kernel_rfl,rfl,rfl,rfl,rfl,rfl,by simp [Value.cells,Value.oneCell']⟩,⟨_,Try.underlying23,⟨_,rfl⟩⟩,fun fs h=>?_,fun ks h=>?_,fun q h=>?_⟩
  · cases h
  · cases h
  · cases h
def Yc:TI:={ cells:=1,bytes:=24,td:=.slice 51,zero:=[.nil],eqk:=none }
theorem tf25:TyFact Try.prog 25 Yc:=by
  refine ⟨⟨Try.t25,.slice none 0 0,by kernel_rfl,rfl,rfl,rfl,rfl,rfl,by simp [Value.cells,Value.oneCell']⟩,⟨_,Try.underlying25,rfl⟩,fun fs h=>?_,fun ks h=>?_,fun q h=>?_⟩
  · cases h
  · cases h
  · cases h
def Qx:TI:={ cells:=1,bytes:=24,td:=.slice 81,zero:=[.nil],eqk:=none }
theorem tf26:TyFact Try.prog 26 Qx:=by
  refine ⟨⟨Try.t26,.slice none 0 0,by kernel_rfl,rfl,rfl,rfl,rfl,rfl,by simp [Value.cells,Value.oneCell']⟩,⟨_,Try.underlying26,rfl⟩,fun fs h=>?_,fun ks h=>?_,fun q h=>?_⟩
  · cases h
  · cases h
  · cases h
def yI:TI:={ cells:=3,bytes:=56,td:=.struct [(0,1,25),(1,1,3),(2,1,26)],zero:=[.nil,.v (.int .i64 0),.nil],eqk:=none }
theorem tf28:TyFact Try.prog 28 yI:=by
  refine ⟨⟨Try.t28,.agg #[.slice none 0 0,.int .i64 0,.slice none 0 0],by kernel_rfl,rfl,rfl,rfl,rfl,rfl,by simp [Value.cells,Value.oneCell']⟩,⟨_,Try.underlying28,⟨_,rfl,rfl⟩⟩,fun fs h=>?_,fun ks h=>?_,fun q h=>?_⟩
  · cases h
    simp only [List.mem_cons,List.not_mem_nil,or_false,forall_eq_or_imp,forall_eq]
    exact ⟨⟨Try.t25,by kernel_rfl,rfl⟩,⟨Try.t3,by kernel_rfl,rfl⟩,⟨Try.t26,by kernel_rfl,rfl⟩⟩
  · cases h
  · cases h
def xB:TI:={ cells:=5,bytes:=56,td:=.struct [(0,1,3),(1,1,3),(2,1,3),(3,1,22),(4,1,4)],zero:=[.v (.int .i64 0),.v (.int .i64 0),.v (.int .i64 0),.nil,.v (.bool false)],eqk:=none }
theorem tf31:TyFact Try.prog 31 xB:=by
  refine ⟨⟨Try.t31,.agg #[.int .i64 0,.int .i64 0,.int .i64 0,.slice none 0 0,.bool false],by kernel_rfl,rfl,rfl,rfl,rfl,rfl,by simp [Value.cells,Value.oneCell']⟩,⟨_,Try.underlying31,⟨_,rfl,rfl⟩⟩,fun fs h=>?_,fun ks h=>?_,fun q h=>?_⟩
  · cases h
    simp only [List.mem_cons,List.not_mem_nil,or_false,forall_eq_or_imp,forall_eq]
    exact ⟨⟨Try.t3,by kernel_rfl,rfl⟩,⟨Try.t3,by kernel_rfl,rfl⟩,⟨Try.t3,by kernel_rfl,rfl⟩,⟨Try.t22,by kernel_rfl,rfl⟩,⟨Try.t4,by kernel_rfl,rfl⟩⟩
  · cases h
  · cases h
def UY:TI:={ cells:=1,bytes:=24,td:=.slice 37,zero:=[.nil],eqk:=none }
theorem tf33:TyFact Try.prog 33 UY:=by
  refine ⟨⟨Try.t33,.slice none 0 0,by kernel_rfl,rfl,rfl,rfl,rfl,rfl,by simp [Value.cells,Value.oneCell']⟩,⟨_,Try.underlying33,rfl⟩,fun fs h=>?_,fun ks h=>?_,fun q h=>?_⟩
  · cases h
  · cases h
  · cases h
def Wq:TI:={ cells:=1,bytes:=8,td:=.int .i64,zero:=[.v (.int .i64 0)],eqk:=none }
theorem tf34:TyFact Try.prog 34 Wq:=by
  refine ⟨⟨Try.t34,.int .i64 0,by kernel_rfl,rfl,rfl,rfl,rfl,rfl,by simp [Value.cells,Value.oneCell']⟩,⟨_,Try.underlying34,rfl⟩,fun fs h=>?_,fun ks h=>?_,fun q h=>?_⟩
  · cases h
  · cases h
  · cases h
def Wi:TI:={ cells:=1,bytes:=24,td:=.slice 49,zero:=[.nil],eqk:=none }
theorem tf37:TyFact Try.prog 37 Wi:=by
  refine ⟨⟨Try.t37,.slice none 0 0,by kernel_rfl,rfl,rfl,rfl,rfl,rfl,by simp [Value.cells,Value.oneCell']⟩,⟨_,Try.underlying37,rfl⟩,fun fs h=>?_,fun ks h=>?_,fun q h=>?_⟩
  · cases h
  · cases h
  · cases h
def ti44:TI:={ cells:=1,bytes:=8,td:=.func,zero:=[.v (.nilFunc)],eqk:=none }
theorem tf44:TyFact Try.prog 44 ti44:=by
  refine ⟨⟨Try.t44,.nilFunc,by kernel_rfl,rfl,rfl,rfl,rfl,rfl,by simp [Value.cells,Value.oneCell']⟩,⟨_,Try.underlying44,⟨_,_,_,rfl⟩⟩,fun fs h=>?_,fun ks h=>?_,fun q h=>?_⟩
  · cases h
  · cases h
  · cases h
def Qgk:TI:={ cells:=1,bytes:=8,td:=.func,zero:=[.v (.nilFunc)],eqk:=none }
theorem tf45:TyFact Try.prog 45 Qgk:=by
  refine ⟨⟨Try.t45,.nilFunc,by kernel_rfl,rfl,rfl,rfl,rfl,rfl,by simp [Value.cells,Value.oneCell']⟩,⟨_,Try.underlying45,⟨_,_,_,rfl⟩⟩,fun fs h=>?_,fun ks h=>?_,fun q h=>?_⟩
  · cases h
  · cases h
  · cases h
theorem Qdp (d:Nat) (w:World) (a0 b0:Int) (a1 b1:Int):(Op.equalIn (d+2) 49 (.agg #[.int .i64 a0,.int .i64 a1]) (.agg #[.int .i64 b0,.int .i64 b1])).run Try.prog w=.ok (kY [.int .i64 a0,.int .i64 a1] [.int .i64 b0,.int .i64 b1]) w:=by
  have h1:Try.prog.underlying 49=some (.struct (Try.prog.fieldsOf 49)):=by kernel_rfl
  have h2 : (Try.prog.fieldsOf 49).toList = [{ name := "Cabin", type := 3, offset := 0, embedded := false, tag := "", pkgPath := "", byteOffset := 0 }, { name := "Bed", type := 3, offset := 1, embedded := false, tag := "", pkgPath := "", byteOffset := 8 }] := by kernel_rfl
  rw [run_equalIn_agg w (d+1) 49 _ _ h1 (by kernel_rfl),h2]
  refine Eq.trans (b:=Result.ok (a0 == b0 && (a1 == b1 && true)) w) ?_ (congrArg (fun r=>Result.ok r w) (by simp [kY,veq,Bool.and_assoc]))
  exact yU (by simp) (zK (Try.isAgg3) rfl) (zK (Try.isAgg3) rfl) (run_equalIn_int w (d+0) 3 _ _ _ _ Try.underlying3) (yU (by simp) (zK (Try.isAgg3) rfl) (zK (Try.isAgg3) rfl) (run_equalIn_int w (d+0) 3 _ _ _ _ Try.underlying3) (x9))
def xQ:TI:={ cells:=2,bytes:=16,td:=.struct [(0,1,3),(1,1,3)],zero:=[.v (.int .i64 0),.v (.int .i64 0)],eqk:=some [some .i64,some .i64] }
theorem tf49:TyFact Try.prog 49 xQ:=by
  refine ⟨⟨Try.t49,.agg #[.int .i64 0,.int .i64 0],by kernel_rfl,rfl,rfl,rfl,rfl,rfl,by simp [Value.cells,Value.oneCell']⟩,⟨_,Try.underlying49,⟨_,rfl,rfl⟩⟩,fun fs h=>?_,fun ks h=>?_,fun q h=>?_⟩
  · cases h
    simp only [List.mem_cons,List.not_mem_nil,or_false,forall_eq_or_imp,forall_eq]
    exact ⟨⟨Try.t3,by kernel_rfl,rfl⟩,⟨Try.t3,by kernel_rfl,rfl⟩⟩
  · cases h
    refine ⟨by kernel_rfl,fun w xs ys hx hy=>?_⟩
    cases xs with
    |nil=>simp [qK] at hx
    |cons x0 xs1 =>
    cases xs1 with
    |nil=>simp [qK] at hx
    |cons x1 xs2 =>
    cases xs2 with
    |cons _ _=>simp [qK] at hx
    |nil =>
    cases ys with
    |nil=>simp [qK] at hy
    |cons y0 ys1 =>
    cases ys1 with
    |nil=>simp [qK] at hy
    |cons y1 ys2 =>
    cases ys2 with
    |cons _ _=>simp [qK] at hy
    |nil =>
    simp only [qK] at hx hy
    obtain ⟨⟨nx0,rfl⟩,⟨nx1,rfl⟩,_⟩:=hx
    obtain ⟨⟨ny0,rfl⟩,⟨ny1,rfl⟩,_⟩:=hy
    exact Qdp 9998 w nx0 ny0 nx1 ny1
  · cases h
theorem eqd51 (d:Nat) (w:World) (a0 b0:Int) (a1 b1:Bool):(Op.equalIn (d+2) 51 (.agg #[.int .i64 a0,.bool a1]) (.agg #[.int .i64 b0,.bool b1])).run Try.prog w=.ok (kY [.int .i64 a0,.bool a1] [.int .i64 b0,.bool b1]) w:=by
  have h1:Try.prog.underlying 51=some (.struct (Try.prog.fieldsOf 51)):=by kernel_rfl
  have h2 : (Try.prog.fieldsOf 51).toList = [{ name := "Beds", type := 3, offset := 0, embedded := false, tag := "", pkgPath := "", byteOffset := 0 }, { name := "Door", type := 4, offset := 1, embedded := false, tag := "", pkgPath := "", byteOffset := 8 }] := by kernel_rfl
  rw [run_equalIn_agg w (d+1) 51 _ _ h1 (by kernel_rfl),h2]
  refine Eq.trans (b:=Result.ok (a0 == b0 && (a1 == b1 && true)) w) ?_ (congrArg (fun r=>Result.ok r w) (by simp [kY,veq,Bool.and_assoc]))
  exact yU (by simp) (zK (Try.isAgg3) rfl) (zK (Try.isAgg3) rfl) (run_equalIn_int w (d+0) 3 _ _ _ _ Try.underlying3) (yU (by simp) (zK (Try.isAgg4) rfl) (zK (Try.isAgg4) rfl) (run_equalIn_bool' w (d+0) 4 _ _ Try.underlying4) (x9))
def Yb:TI:={ cells:=2,bytes:=16,td:=.struct [(0,1,3),(1,1,4)],zero:=[.v (.int .i64 0),.v (.bool false)],eqk:=some [some .i64,none] }
theorem tf51:TyFact Try.prog 51 Yb:=by
  refine ⟨⟨Try.t51,.agg #[.int .i64 0,.bool false],by kernel_rfl,rfl,rfl,rfl,rfl,rfl,by simp [Value.cells,Value.oneCell']⟩,⟨_,Try.underlying51,⟨_,rfl,rfl⟩⟩,fun fs h=>?_,fun ks h=>?_,fun q h=>?_⟩
  · cases h
    simp only [List.mem_cons,List.not_mem_nil,or_false,forall_eq_or_imp,forall_eq]
    exact ⟨⟨Try.t3,by kernel_rfl,rfl⟩,⟨Try.t4,by kernel_rfl,rfl⟩⟩
  · cases h
    refine ⟨by kernel_rfl,fun w xs ys hx hy=>?_⟩
    cases xs with
    |nil=>simp [qK] at hx
    |cons x0 xs1 =>
    cases xs1 with
    |nil=>simp [qK] at hx
    |cons x1 xs2 =>
    cases xs2 with
    |cons _ _=>simp [qK] at hx
    |nil =>
    cases ys with
    |nil=>simp [qK] at hy
    |cons y0 ys1 =>
    cases ys1 with
    |nil=>simp [qK] at hy
    |cons y1 ys2 =>
    cases ys2 with
    |cons _ _=>simp [qK] at hy
    |nil =>
    simp only [qK] at hx hy
    obtain ⟨⟨nx0,rfl⟩,⟨nx1,rfl⟩,_⟩:=hx
    obtain ⟨⟨ny0,rfl⟩,⟨ny1,rfl⟩,_⟩:=hy
    exact eqd51 9998 w nx0 ny0 nx1 ny1
  · cases h
def R4:TI:={ cells:=1,bytes:=24,td:=.slice 65,zero:=[.nil],eqk:=none }
theorem tf58:TyFact Try.prog 58 R4:=by
  refine ⟨⟨Try.t58,.slice none 0 0,by kernel_rfl,rfl,rfl,rfl,rfl,rfl,by simp [Value.cells,Value.oneCell']⟩,⟨_,Try.underlying58,rfl⟩,fun fs h=>?_,fun ks h=>?_,fun q h=>?_⟩
  · cases h
  · cases h
  · cases h
theorem eqd65 (d:Nat) (w:World) (a0 b0:Int) (a1 b1:Int) (a2 b2:Int):(Op.equalIn (d+3) 65 (.agg #[.int .i64 a0,.int .i64 a1,.int .i64 a2]) (.agg #[.int .i64 b0,.int .i64 b1,.int .i64 b2])).run Try.prog w=.ok (kY [.int .i64 a0,.int .i64 a1,.int .i64 a2] [.int .i64 b0,.int .i64 b1,.int .i64 b2]) w:=by
  have h1:Try.prog.underlying 65=some (.struct (Try.prog.fieldsOf 65)):=by kernel_rfl
  have h2 : (Try.prog.fieldsOf 65).toList = [{ name := "Ticket", type := 3, offset := 0, embedded := false, tag := "", pkgPath := "", byteOffset := 0 }, { name := "Bunk", type := 49, offset := 1, embedded := true, tag := "", pkgPath := "", byteOffset := 8 }] := by kernel_rfl
  rw [run_equalIn_agg w (d+2) 65 _ _ h1 (by kernel_rfl),h2]
  refine Eq.trans (b:=Result.ok (a0 == b0 && (kY [.int .i64 a1,.int .i64 a2] [.int .i64 b1,.int .i64 b2] && true)) w) ?_ (congrArg (fun r=>Result.ok r w) (by simp [kY,veq,Bool.and_assoc]))
  exact yU (by simp) (zK (Try.isAgg3) rfl) (zK (Try.isAgg3) rfl) (run_equalIn_int w (d+1) 3 _ _ _ _ Try.underlying3) (yU (by simp) (Q0 (Try.isAgg49) (Try.sizeOf49) rfl) (Q0 (Try.isAgg49) (Try.sizeOf49) rfl) (Qdp (d+0) w a1 b1 a2 b2) (x9))
def Ul:TI:={ cells:=3,bytes:=24,td:=.struct [(0,1,3),(1,2,49)],zero:=[.v (.int .i64 0),.v (.int .i64 0),.v (.int .i64 0)],eqk:=some [some .i64,some .i64,some .i64] }
theorem tf65:TyFact Try.prog 65 Ul:=by
  refine ⟨⟨Try.t65,.agg #[.int .i64 0,.int .i64 0,.int .i64 0],by kernel_rfl,rfl,rfl,rfl,rfl,rfl,by simp [Value.cells,Value.oneCell']⟩,⟨_,Try.underlying65,⟨_,rfl,rfl⟩⟩,fun fs h=>?_,fun ks h=>?_,fun q h=>?_⟩
  · cases h
    simp only [List.mem_cons,List.not_mem_nil,or_false,forall_eq_or_imp,forall_eq]
    exact ⟨⟨Try.t3,by kernel_rfl,rfl⟩,⟨Try.t49,by kernel_rfl,rfl⟩⟩
  · cases h
    refine ⟨by kernel_rfl,fun w xs ys hx hy=>?_⟩
    cases xs with
    |nil=>simp [qK] at hx
    |cons x0 xs1 =>
    cases xs1 with
    |nil=>simp [qK] at hx
    |cons x1 xs2 =>
    cases xs2 with
    |nil=>simp [qK] at hx
    |cons x2 xs3 =>
    cases xs3 with
    |cons _ _=>simp [qK] at hx
    |nil =>
    cases ys with
    |nil=>simp [qK] at hy
    |cons y0 ys1 =>
    cases ys1 with
    |nil=>simp [qK] at hy
    |cons y1 ys2 =>
    cases ys2 with
    |nil=>simp [qK] at hy
    |cons y2 ys3 =>
    cases ys3 with
    |cons _ _=>simp [qK] at hy
    |nil =>
    simp only [qK] at hx hy
    obtain ⟨⟨nx0,rfl⟩,⟨nx1,rfl⟩,⟨nx2,rfl⟩,_⟩:=hx
    obtain ⟨⟨ny0,rfl⟩,⟨ny1,rfl⟩,⟨ny2,rfl⟩,_⟩:=hy
    exact eqd65 9997 w nx0 ny0 nx1 ny1 nx2 ny2
  · cases h
theorem eqd81 (d:Nat) (w:World) (a0 b0:Int) (a1 b1:Int) (a2 b2:Int) (a3 b3:Int) (a4 b4:Int) (a5 b5:Int) (a6 b6:Bool):(Op.equalIn (d+3) 81 (.agg #[.int .i64 a0,.int .i64 a1,.int .i64 a2,.int .i64 a3,.int .i64 a4,.int .i64 a5,.bool a6]) (.agg #[.int .i64 b0,.int .i64 b1,.int .i64 b2,.int .i64 b3,.int .i64 b4,.int .i64 b5,.bool b6])).run Try.prog w=.ok (kY [.int .i64 a0,.int .i64 a1,.int .i64 a2,.int .i64 a3,.int .i64 a4,.int .i64 a5,.bool a6] [.int .i64 b0,.int .i64 b1,.int .i64 b2,.int .i64 b3,.int .i64 b4,.int .i64 b5,.bool b6]) w:=by
  have h1:Try.prog.underlying 81=some (.struct (Try.prog.fieldsOf 81)):=by kernel_rfl
  have h2 : (Try.prog.fieldsOf 81).toList = [{ name := "Party", type := 3, offset := 0, embedded := false, tag := "", pkgPath := "", byteOffset := 0 }, { name := "Sex", type := 3, offset := 1, embedded := false, tag := "", pkgPath := "", byteOffset := 8 }, { name := "Bunk", type := 49, offset := 2, embedded := true, tag := "", pkgPath := "", byteOffset := 16 }, { name := "From", type := 3, offset := 4, embedded := false, tag := "", pkgPath := "", byteOffset := 32 }, { name := "To", type := 3, offset := 5, embedded := false, tag := "", pkgPath := "", byteOffset := 40 }, { name := "Dog", type := 4, offset := 6, embedded := false, tag := "", pkgPath := "", byteOffset := 48 }] := by kernel_rfl
  rw [run_equalIn_agg w (d+2) 81 _ _ h1 (by kernel_rfl),h2]
  refine Eq.trans (b:=Result.ok (a0 == b0 && (a1 == b1 && (kY [.int .i64 a2,.int .i64 a3] [.int .i64 b2,.int .i64 b3] && (a4 == b4 && (a5 == b5 && (a6 == b6 && true)))))) w) ?_ (congrArg (fun r=>Result.ok r w) (by simp [kY,veq,Bool.and_assoc]))
  exact yU (by simp) (zK (Try.isAgg3) rfl) (zK (Try.isAgg3) rfl) (run_equalIn_int w (d+1) 3 _ _ _ _ Try.underlying3) (yU (by simp) (zK (Try.isAgg3) rfl) (zK (Try.isAgg3) rfl) (run_equalIn_int w (d+1) 3 _ _ _ _ Try.underlying3) (yU (by simp) (Q0 (Try.isAgg49) (Try.sizeOf49) rfl) (Q0 (Try.isAgg49) (Try.sizeOf49) rfl) (Qdp (d+0) w a2 b2 a3 b3) (yU (by simp) (zK (Try.isAgg3) rfl) (zK (Try.isAgg3) rfl) (run_equalIn_int w (d+1) 3 _ _ _ _ Try.underlying3) (yU (by simp) (zK (Try.isAgg3) rfl) (zK (Try.isAgg3) rfl) (run_equalIn_int w (d+1) 3 _ _ _ _ Try.underlying3) (yU (by simp) (zK (Try.isAgg4) rfl) (zK (Try.isAgg4) rfl) (run_equalIn_bool' w (d+1) 4 _ _ Try.underlying4) (x9))))))
def vW:TI:={ cells:=7,bytes:=56,td:=.struct [(0,1,3),(1,1,3),(2,2,49),(4,1,3),(5,1,3),(6,1,4)],zero:=[.v (.int .i64 0),.v (.int .i64 0),.v (.int .i64 0),.v (.int .i64 0),.v (.int .i64 0),.v (.int .i64 0),.v (.bool false)],eqk:=some [some .i64,some .i64,some .i64,some .i64,some .i64,some .i64,none] }
theorem tf81:TyFact Try.prog 81 vW:=by
  refine ⟨⟨Try.t81,.agg #[.int .i64 0,.int .i64 0,.int .i64 0,.int .i64 0,.int .i64 0,.int .i64 0,.bool false],by kernel_rfl,rfl,rfl,rfl,rfl,rfl,by simp [Value.cells,Value.oneCell']⟩,⟨_,Try.underlying81,⟨_,rfl,rfl⟩⟩,fun fs h=>?_,fun ks h=>?_,fun q h=>?_⟩
  · cases h
    simp only [List.mem_cons,List.not_mem_nil,or_false,forall_eq_or_imp,forall_eq]
    exact ⟨⟨Try.t3,by kernel_rfl,rfl⟩,⟨Try.t3,by kernel_rfl,rfl⟩,⟨Try.t49,by kernel_rfl,rfl⟩,⟨Try.t3,by kernel_rfl,rfl⟩,⟨Try.t3,by kernel_rfl,rfl⟩,⟨Try.t4,by kernel_rfl,rfl⟩⟩
  · cases h
    refine ⟨by kernel_rfl,fun w xs ys hx hy=>?_⟩
    cases xs with
    |nil=>simp [qK] at hx
    |cons x0 xs1 =>
    cases xs1 with
    |nil=>simp [qK] at hx
    |cons x1 xs2 =>
    cases xs2 with
    |nil=>simp [qK] at hx
    |cons x2 xs3 =>
    cases xs3 with
    |nil=>simp [qK] at hx
    |cons x3 xs4 =>
    cases xs4 with
    |nil=>simp [qK] at hx
    |cons x4 xs5 =>
    cases xs5 with
    |nil=>simp [qK] at hx
    |cons x5 xs6 =>
    cases xs6 with
    |nil=>simp [qK] at hx
    |cons x6 xs7 =>
    cases xs7 with
    |cons _ _=>simp [qK] at hx
    |nil =>
    cases ys with
    |nil=>simp [qK] at hy
    |cons y0 ys1 =>
    cases ys1 with
    |nil=>simp [qK] at hy
    |cons y1 ys2 =>
    cases ys2 with
    |nil=>simp [qK] at hy
    |cons y2 ys3 =>
    cases ys3 with
    |nil=>simp [qK] at hy
    |cons y3 ys4 =>
    cases ys4 with
    |nil=>simp [qK] at hy
    |cons y4 ys5 =>
    cases ys5 with
    |nil=>simp [qK] at hy
    |cons y5 ys6 =>
    cases ys6 with
    |nil=>simp [qK] at hy
    |cons y6 ys7 =>
    cases ys7 with
    |cons _ _=>simp [qK] at hy
    |nil =>
    simp only [qK] at hx hy
    obtain ⟨⟨nx0,rfl⟩,⟨nx1,rfl⟩,⟨nx2,rfl⟩,⟨nx3,rfl⟩,⟨nx4,rfl⟩,⟨nx5,rfl⟩,⟨nx6,rfl⟩,_⟩:=hx
    obtain ⟨⟨ny0,rfl⟩,⟨ny1,rfl⟩,⟨ny2,rfl⟩,⟨ny3,rfl⟩,⟨ny4,rfl⟩,⟨ny5,rfl⟩,⟨ny6,rfl⟩,_⟩:=hy
    exact eqd81 9997 w nx0 ny0 nx1 ny1 nx2 ny2 nx3 ny3 nx4 ny4 nx5 ny5 nx6 ny6
  · cases h
def VH:TI:={ cells:=1,bytes:=24,td:=.slice 31,zero:=[.nil],eqk:=none }
theorem tf84:TyFact Try.prog 84 VH:=by
  refine ⟨⟨Try.t84,.slice none 0 0,by kernel_rfl,rfl,rfl,rfl,rfl,rfl,by simp [Value.cells,Value.oneCell']⟩,⟨_,Try.underlying84,rfl⟩,fun fs h=>?_,fun ks h=>?_,fun q h=>?_⟩
  · cases h
  · cases h
  · cases h
def Qg5:TI:={ cells:=1,bytes:=24,td:=.slice 22,zero:=[.nil],eqk:=none }
theorem tf88:TyFact Try.prog 88 Qg5:=by
  refine ⟨⟨Try.t88,.slice none 0 0,by kernel_rfl,rfl,rfl,rfl,rfl,rfl,by simp [Value.cells,Value.oneCell']⟩,⟨_,Try.underlying88,rfl⟩,fun fs h=>?_,fun ks h=>?_,fun q h=>?_⟩
  · cases h
  · cases h
  · cases h
def ti94:TI:={ cells:=1,bytes:=24,td:=.slice 28,zero:=[.nil],eqk:=none }
theorem tf94:TyFact Try.prog 94 ti94:=by
  refine ⟨⟨Try.t94,.slice none 0 0,by kernel_rfl,rfl,rfl,rfl,rfl,rfl,by simp [Value.cells,Value.oneCell']⟩,⟨_,Try.underlying94,rfl⟩,fun fs h=>?_,fun ks h=>?_,fun q h=>?_⟩
  · cases h
  · cases h
  · cases h
def KJ:TI:={ cells:=1,bytes:=8,td:=.int .u64,zero:=[.v (.int .u64 0)],eqk:=none }
theorem tf100:TyFact Try.prog 100 KJ:=by
  refine ⟨⟨Try.t100,.int .u64 0,by kernel_rfl,rfl,rfl,rfl,rfl,rfl,by simp [Value.cells,Value.oneCell']⟩,⟨_,Try.underlying100,rfl⟩,fun fs h=>?_,fun ks h=>?_,fun q h=>?_⟩
  · cases h
  · cases h
  · cases h
def Qao:TI:={ cells:=1,bytes:=8,td:=.struct [(0,1,100)],zero:=[.v (.int .u64 0)],eqk:=none }
theorem tf102:TyFact Try.prog 102 Qao:=by
  refine ⟨⟨Try.t102,.agg #[.int .u64 0],by kernel_rfl,rfl,rfl,rfl,rfl,rfl,by simp [Value.cells,Value.oneCell']⟩,⟨_,Try.underlying102,⟨_,rfl,rfl⟩⟩,fun fs h=>?_,fun ks h=>?_,fun q h=>?_⟩
  · cases h
    simp only [List.mem_cons,List.not_mem_nil,or_false,forall_eq_or_imp,forall_eq]
    exact ⟨Try.t100,by kernel_rfl,rfl⟩
  · cases h
  · cases h
def Qjp:TI:={ cells:=1,bytes:=8,td:=.int .u64,zero:=[.v (.int .u64 0)],eqk:=none }
theorem tf103:TyFact Try.prog 103 Qjp:=by
  refine ⟨⟨Try.t103,.int .u64 0,by kernel_rfl,rfl,rfl,rfl,rfl,rfl,by simp [Value.cells,Value.oneCell']⟩,⟨_,Try.underlying103,rfl⟩,fun fs h=>?_,fun ks h=>?_,fun q h=>?_⟩
  · cases h
  · cases h
  · cases h
def xE:TI:={ cells:=1,bytes:=8,td:=.ptr,zero:=[.v (.pointer none)],eqk:=none }
theorem tf106:TyFact Try.prog 106 xE:=by
  refine ⟨⟨Try.t106,.pointer none,by kernel_rfl,rfl,rfl,rfl,rfl,rfl,by simp [Value.cells,Value.oneCell']⟩,⟨_,Try.underlying106,⟨_,rfl⟩⟩,fun fs h=>?_,fun ks h=>?_,fun q h=>?_⟩
  · cases h
  · cases h
  · cases h
def Qjg:TI:={ cells:=1,bytes:=8,td:=.func,zero:=[.v (.nilFunc)],eqk:=none }
theorem tf111:TyFact Try.prog 111 Qjg:=by
  refine ⟨⟨Try.t111,.nilFunc,by kernel_rfl,rfl,rfl,rfl,rfl,rfl,by simp [Value.cells,Value.oneCell']⟩,⟨_,Try.underlying111,⟨_,_,_,rfl⟩⟩,fun fs h=>?_,fun ks h=>?_,fun q h=>?_⟩
  · cases h
  · cases h
  · cases h
def Qc4:TI:={ cells:=1,bytes:=8,td:=.func,zero:=[.v (.nilFunc)],eqk:=none }
theorem tf115:TyFact Try.prog 115 Qc4:=by
  refine ⟨⟨Try.t115,.nilFunc,by kernel_rfl,rfl,rfl,rfl,rfl,rfl,by simp [Value.cells,Value.oneCell']⟩,⟨_,Try.underlying115,⟨_,_,_,rfl⟩⟩,fun fs h=>?_,fun ks h=>?_,fun q h=>?_⟩
  · cases h
  · cases h
  · cases h
def ZL:TI:={ cells:=3,bytes:=56,td:=.struct [(0,3,28)],zero:=[.nil,.v (.int .i64 0),.nil],eqk:=none }
theorem tf118:TyFact Try.prog 118 ZL:=by
  refine ⟨⟨Try.t118,.agg #[.slice none 0 0,.int .i64 0,.slice none 0 0],by kernel_rfl,rfl,rfl,rfl,rfl,rfl,by simp [Value.cells,Value.oneCell']⟩,⟨_,Try.underlying118,⟨_,rfl,rfl⟩⟩,fun fs h=>?_,fun ks h=>?_,fun q h=>?_⟩
  · cases h
    simp only [List.mem_cons,List.not_mem_nil,or_false,forall_eq_or_imp,forall_eq]
    exact ⟨Try.t28,by kernel_rfl,rfl⟩
  · cases h
  · cases h
def Qdl:TI:={ cells:=1,bytes:=8,td:=.func,zero:=[.v (.nilFunc)],eqk:=none }
theorem tf119:TyFact Try.prog 119 Qdl:=by
  refine ⟨⟨Try.t119,.nilFunc,by kernel_rfl,rfl,rfl,rfl,rfl,rfl,by simp [Value.cells,Value.oneCell']⟩,⟨_,Try.underlying119,⟨_,_,_,rfl⟩⟩,fun fs h=>?_,fun ks h=>?_,fun q h=>?_⟩
  · cases h
  · cases h
  · cases h
def La:TI:={ cells:=2,bytes:=32,td:=.struct [(0,1,37),(1,1,119)],zero:=[.nil,.v (.nilFunc)],eqk:=none }
theorem tf121:TyFact Try.prog 121 La:=by
  refine ⟨⟨Try.t121,.agg #[.slice none 0 0,.nilFunc],by kernel_rfl,rfl,rfl,rfl,rfl,rfl,by simp [Value.cells,Value.oneCell']⟩,⟨_,Try.underlying121,⟨_,rfl,rfl⟩⟩,fun fs h=>?_,fun ks h=>?_,fun q h=>?_⟩
  · cases h
    simp only [List.mem_cons,List.not_mem_nil,or_false,forall_eq_or_imp,forall_eq]
    exact ⟨⟨Try.t37,by kernel_rfl,rfl⟩,⟨Try.t119,by kernel_rfl,rfl⟩⟩
  · cases h
  · cases h
theorem QjU (d:Nat) (w:World) (a0 b0:Int) (a1 b1:Int) (a2 b2:Int):(Op.equalIn (d+3) 134 (.agg #[.int .i64 a0,.int .i64 a1,.int .i64 a2]) (.agg #[.int .i64 b0,.int .i64 b1,.int .i64 b2])).run Try.prog w=.ok (kY [.int .i64 a0,.int .i64 a1,.int .i64 a2] [.int .i64 b0,.int .i64 b1,.int .i64 b2]) w:=by
  have h1:Try.prog.underlying 134=some (.struct (Try.prog.fieldsOf 134)):=by kernel_rfl
  have h2 : (Try.prog.fieldsOf 134).toList = [{ name := "at", type := 3, offset := 0, embedded := false, tag := "", pkgPath := "couchette/berth", byteOffset := 0 }, { name := "bunk", type := 49, offset := 1, embedded := false, tag := "", pkgPath := "couchette/berth", byteOffset := 8 }] := by kernel_rfl
  rw [run_equalIn_agg w (d+2) 134 _ _ h1 (by kernel_rfl),h2]
  refine Eq.trans (b:=Result.ok (a0 == b0 && (kY [.int .i64 a1,.int .i64 a2] [.int .i64 b1,.int .i64 b2] && true)) w) ?_ (congrArg (fun r=>Result.ok r w) (by simp [kY,veq,Bool.and_assoc]))
  exact yU (by simp) (zK (Try.isAgg3) rfl) (zK (Try.isAgg3) rfl) (run_equalIn_int w (d+1) 3 _ _ _ _ Try.underlying3) (yU (by simp) (Q0 (Try.isAgg49) (Try.sizeOf49) rfl) (Q0 (Try.isAgg49) (Try.sizeOf49) rfl) (Qdp (d+0) w a1 b1 a2 b2) (x9))
theorem QjO (w:World) (em:Bool) (a0:Int) (a1:Int) (a2:Int):(Instr.checkKey em 10000 134 (.agg #[.int .i64 a0,.int .i64 a1,.int .i64 a2])).run Try.prog w=.ok () w:=by kernel_rfl
def Lc:TI:={ cells:=1,bytes:=8,td:=.map 134 3,zero:=[.v (.map none)],eqk:=none,key:=some { kd:=.agg [some .i64,some .i64,some .i64],z:=.v (.int .i64 0),agg:=false } }
theorem tf132:TyFact Try.prog 132 Lc:=by
  refine ⟨⟨Try.t132,.map none,by kernel_rfl,rfl,rfl,rfl,rfl,rfl,by simp [Value.cells,Value.oneCell']⟩,⟨_,Try.underlying132,rfl⟩,fun fs h=>?_,fun ks h=>?_,fun q h=>?_⟩
  · cases h
  · cases h
  · cases h
    refine ⟨134,3,rfl,Qaz Try.underlying134 (fun w xs ys hx hy=>?_) (fun w em xs hx=>?_),fun w=>⟨.int .i64 0,by simp [zeroValue,typeInfo,show Try.prog.info? 3=some Try.t3 by kernel_rfl,Try.t3],fun w' ok ρ y=>?_⟩⟩
    · skip
      cases xs with
      |nil=>simp [qK] at hx
      |cons x0 xs1 =>
      cases xs1 with
      |nil=>simp [qK] at hx
      |cons x1 xs2 =>
      cases xs2 with
      |nil=>simp [qK] at hx
      |cons x2 xs3 =>
      cases xs3 with
      |cons _ _=>simp [qK] at hx
      |nil =>
      cases ys with
      |nil=>simp [qK] at hy
      |cons y0 ys1 =>
      cases ys1 with
      |nil=>simp [qK] at hy
      |cons y1 ys2 =>
      cases ys2 with
      |nil=>simp [qK] at hy
      |cons y2 ys3 =>
      cases ys3 with
      |cons _ _=>simp [qK] at hy
      |nil =>
      simp only [qK] at hx
      obtain ⟨⟨nx0,rfl⟩,⟨nx1,rfl⟩,⟨nx2,rfl⟩,_⟩:=hx
      simp only [qK] at hy
      obtain ⟨⟨ny0,rfl⟩,⟨ny1,rfl⟩,⟨ny2,rfl⟩,_⟩:=hy
      exact QjU 9997 w nx0 ny0 nx1 ny1 nx2 ny2
    · skip
      cases xs with
      |nil=>simp [qK] at hx
      |cons x0 xs1 =>
      cases xs1 with
      |nil=>simp [qK] at hx
      |cons x1 xs2 =>
      cases xs2 with
      |nil=>simp [qK] at hx
      |cons x2 xs3 =>
      cases xs3 with
      |cons _ _=>simp [qK] at hx
      |nil =>
      simp only [qK] at hx
      obtain ⟨⟨nx0,rfl⟩,⟨nx1,rfl⟩,⟨nx2,rfl⟩,_⟩:=hx
      exact QjO w em nx0 nx1 nx2
    · exact .v rfl
def Qar:TI:={ cells:=3,bytes:=24,td:=.struct [(0,1,3),(1,2,49)],zero:=[.v (.int .i64 0),.v (.int .i64 0),.v (.int .i64 0)],eqk:=none }
theorem tf134:TyFact Try.prog 134 Qar:=by
  refine ⟨⟨Try.t134,.agg #[.int .i64 0,.int .i64 0,.int .i64 0],by kernel_rfl,rfl,rfl,rfl,rfl,rfl,by simp [Value.cells,Value.oneCell']⟩,⟨_,Try.underlying134,⟨_,rfl,rfl⟩⟩,fun fs h=>?_,fun ks h=>?_,fun q h=>?_⟩
  · cases h
    simp only [List.mem_cons,List.not_mem_nil,or_false,forall_eq_or_imp,forall_eq]
    exact ⟨⟨Try.t3,by kernel_rfl,rfl⟩,⟨Try.t49,by kernel_rfl,rfl⟩⟩
  · cases h
  · cases h
def Qjt:TI:={ cells:=1,bytes:=8,td:=.func,zero:=[.v (.nilFunc)],eqk:=none }
theorem tf149:TyFact Try.prog 149 Qjt:=by
  refine ⟨⟨Try.t149,.nilFunc,by kernel_rfl,rfl,rfl,rfl,rfl,rfl,by simp [Value.cells,Value.oneCell']⟩,⟨_,Try.underlying149,⟨_,_,_,rfl⟩⟩,fun fs h=>?_,fun ks h=>?_,fun q h=>?_⟩
  · cases h
  · cases h
  · cases h
def QjD:TI:={ cells:=1,bytes:=8,td:=.func,zero:=[.v (.nilFunc)],eqk:=none }
theorem tf156:TyFact Try.prog 156 QjD:=by
  refine ⟨⟨Try.t156,.nilFunc,by kernel_rfl,rfl,rfl,rfl,rfl,rfl,by simp [Value.cells,Value.oneCell']⟩,⟨_,Try.underlying156,⟨_,_,_,rfl⟩⟩,fun fs h=>?_,fun ks h=>?_,fun q h=>?_⟩
  · cases h
  · cases h
  · cases h
theorem QjP (d:Nat) (w:World) (a0 b0:Int):(Op.equalIn (d+2) 160 (.agg #[.int .u64 a0]) (.agg #[.int .u64 b0])).run Try.prog w=.ok (kY [.int .u64 a0] [.int .u64 b0]) w:=by
  have h1:Try.prog.underlying 160=some (.struct (Try.prog.fieldsOf 160)):=by kernel_rfl
  have h2 : (Try.prog.fieldsOf 160).toList = [{ name := "set", type := 158, offset := 0, embedded := false, tag := "", pkgPath := "couchette/berth", byteOffset := 0 }] := by kernel_rfl
  rw [run_equalIn_agg w (d+1) 160 _ _ h1 (by kernel_rfl),h2]
  refine Eq.trans (b:=Result.ok (a0 == b0 && true) w) ?_ (congrArg (fun r=>Result.ok r w) (by simp [kY,veq,Bool.and_assoc]))
  exact yU (by simp) (zK (Try.isAgg158) rfl) (zK (Try.isAgg158) rfl) (run_equalIn_int w (d+0) 158 _ _ _ _ Try.underlying158) (x9)
theorem Qj6 (w:World) (em:Bool) (a0:Int):(Instr.checkKey em 10000 160 (.agg #[.int .u64 a0])).run Try.prog w=.ok () w:=by kernel_rfl
def K9:TI:={ cells:=1,bytes:=8,td:=.map 160 4,zero:=[.v (.map none)],eqk:=none,key:=some { kd:=.agg [some .u64],z:=.v (.bool false),agg:=false } }
theorem tf157:TyFact Try.prog 157 K9:=by
  refine ⟨⟨Try.t157,.map none,by kernel_rfl,rfl,rfl,rfl,rfl,rfl,by simp [Value.cells,Value.oneCell']⟩,⟨_,Try.underlying157,rfl⟩,fun fs h=>?_,fun ks h=>?_,fun q h=>?_⟩
  · cases h
  · cases h
  · cases h
    refine ⟨160,4,rfl,Qaz Try.underlying160 (fun w xs ys hx hy=>?_) (fun w em xs hx=>?_),fun w=>⟨.bool false,by simp [zeroValue,typeInfo,show Try.prog.info? 4=some Try.t4 by kernel_rfl,Try.t4],fun w' ok ρ y=>?_⟩⟩
    · skip
      cases xs with
      |nil=>simp [qK] at hx
      |cons x0 xs1 =>
      cases xs1 with
      |cons _ _=>simp [qK] at hx
      |nil =>
      cases ys with
      |nil=>simp [qK] at hy
      |cons y0 ys1 =>
      cases ys1 with
      |cons _ _=>simp [qK] at hy
      |nil =>
      simp only [qK] at hx
      obtain ⟨⟨nx0,rfl⟩,_⟩:=hx
      simp only [qK] at hy
      obtain ⟨⟨ny0,rfl⟩,_⟩:=hy
      exact QjP 9998 w nx0 ny0
    · skip
      cases xs with
      |nil=>simp [qK] at hx
      |cons x0 xs1 =>
      cases xs1 with
      |cons _ _=>simp [qK] at hx
      |nil =>
      simp only [qK] at hx
      obtain ⟨⟨nx0,rfl⟩,_⟩:=hx
      exact Qj6 w em nx0
    · exact .v rfl
def WQ:TI:={ cells:=1,bytes:=8,td:=.int .u64,zero:=[.v (.int .u64 0)],eqk:=none }
theorem tf158:TyFact Try.prog 158 WQ:=by
  refine ⟨⟨Try.t158,.int .u64 0,by kernel_rfl,rfl,rfl,rfl,rfl,rfl,by simp [Value.cells,Value.oneCell']⟩,⟨_,Try.underlying158,rfl⟩,fun fs h=>?_,fun ks h=>?_,fun q h=>?_⟩
  · cases h
  · cases h
  · cases h
def KO:TI:={ cells:=1,bytes:=8,td:=.struct [(0,1,158)],zero:=[.v (.int .u64 0)],eqk:=none }
theorem tf160:TyFact Try.prog 160 KO:=by
  refine ⟨⟨Try.t160,.agg #[.int .u64 0],by kernel_rfl,rfl,rfl,rfl,rfl,rfl,by simp [Value.cells,Value.oneCell']⟩,⟨_,Try.underlying160,⟨_,rfl,rfl⟩⟩,fun fs h=>?_,fun ks h=>?_,fun q h=>?_⟩
  · cases h
    simp only [List.mem_cons,List.not_mem_nil,or_false,forall_eq_or_imp,forall_eq]
    exact ⟨Try.t158,by kernel_rfl,rfl⟩
  · cases h
  · cases h
def Qab:TI:={ cells:=3,bytes:=24,td:=.array 3 158,zero:=[.v (.int .u64 0),.v (.int .u64 0),.v (.int .u64 0)],eqk:=none }
theorem tf164:TyFact Try.prog 164 Qab:=by
  refine ⟨⟨Try.t164,.agg #[.int .u64 0,.int .u64 0,.int .u64 0],by kernel_rfl,rfl,rfl,rfl,rfl,rfl,by simp [Value.cells,Value.oneCell']⟩,⟨_,Try.underlying164,rfl⟩,fun fs h=>?_,fun ks h=>?_,fun q h=>?_⟩
  · cases h
  · cases h
  · cases h
def QaR:TI:={ cells:=1,bytes:=8,td:=.func,zero:=[.v (.nilFunc)],eqk:=none }
theorem tf168:TyFact Try.prog 168 QaR:=by
  refine ⟨⟨Try.t168,.nilFunc,by kernel_rfl,rfl,rfl,rfl,rfl,rfl,by simp [Value.cells,Value.oneCell']⟩,⟨_,Try.underlying168,⟨_,_,_,rfl⟩⟩,fun fs h=>?_,fun ks h=>?_,fun q h=>?_⟩
  · cases h
  · cases h
  · cases h
def Qjq:TI:={ cells:=1,bytes:=8,td:=.func,zero:=[.v (.nilFunc)],eqk:=none }
theorem tf170:TyFact Try.prog 170 Qjq:=by
  refine ⟨⟨Try.t170,.nilFunc,by kernel_rfl,rfl,rfl,rfl,rfl,rfl,by simp [Value.cells,Value.oneCell']⟩,⟨_,Try.underlying170,⟨_,_,_,rfl⟩⟩,fun fs h=>?_,fun ks h=>?_,fun q h=>?_⟩
  · cases h
  · cases h
  · cases h
def Qdb:TI:={ cells:=1,bytes:=8,td:=.map 3 3,zero:=[.v (.map none)],eqk:=none,key:=some { kd:=.one (.int .i64),z:=.v (.int .i64 0),agg:=false } }
theorem tf172:TyFact Try.prog 172 Qdb:=by
  refine ⟨⟨Try.t172,.map none,by kernel_rfl,rfl,rfl,rfl,rfl,rfl,by simp [Value.cells,Value.oneCell']⟩,⟨_,Try.underlying172,rfl⟩,fun fs h=>?_,fun ks h=>?_,fun q h=>?_⟩
  · cases h
  · cases h
  · cases h
    refine ⟨3,3,rfl,QbL Try.underlying3,fun w=>⟨.int .i64 0,by simp [zeroValue,typeInfo,show Try.prog.info? 3=some Try.t3 by kernel_rfl,Try.t3],fun w' ok ρ y=>?_⟩⟩
    exact .v rfl
def V5:TI:={ cells:=1,bytes:=8,td:=.func,zero:=[.v (.nilFunc)],eqk:=none }
theorem tf173:TyFact Try.prog 173 V5:=by
  refine ⟨⟨Try.t173,.nilFunc,by kernel_rfl,rfl,rfl,rfl,rfl,rfl,by simp [Value.cells,Value.oneCell']⟩,⟨_,Try.underlying173,⟨_,_,_,rfl⟩⟩,fun fs h=>?_,fun ks h=>?_,fun q h=>?_⟩
  · cases h
  · cases h
  · cases h
def Qjl:TI:={ cells:=1,bytes:=4,td:=.int .u32,zero:=[.v (.int .u32 0)],eqk:=none }
theorem tf188:TyFact Try.prog 188 Qjl:=by
  refine ⟨⟨Try.t188,.int .u32 0,by kernel_rfl,rfl,rfl,rfl,rfl,rfl,by simp [Value.cells,Value.oneCell']⟩,⟨_,Try.underlying188,rfl⟩,fun fs h=>?_,fun ks h=>?_,fun q h=>?_⟩
  · cases h
  · cases h
  · cases h
def tyL:List (Nat × TI):=[(3,ti3),(4,ti4),(5,ti5),(9,ti9),(22,kC),(23,ti23),(25,Yc),(26,Qx),(28,yI),(31,xB),(33,UY),(34,Wq),(37,Wi),(44,ti44),(45,Qgk),(49,xQ),(51,Yb),(58,R4),(65,Ul),(81,vW),(84,VH),(88,Qg5),(94,ti94),(100,KJ),(102,Qao),(103,Qjp),(106,xE),(111,Qjg),(115,Qc4),(118,ZL),(119,Qdl),(121,La),(132,Lc),(134,Qar),(149,Qjt),(156,QjD),(157,K9),(158,WQ),(160,KO),(164,Qab),(168,QaR),(170,Qjq),(172,Qdb),(173,V5),(188,Qjl)]
def tyOf:List (Nat × TI)→Tys
  |[],_=>none
  |p :: r,t=>if t=p.1 then some p.2 else tyOf r t
def tyB:Tys:=tyOf tyL
theorem ty3:tyB 3=some ti3:=rfl
theorem ty4:tyB 4=some ti4:=rfl
theorem Qf:tyB 22=some kC:=rfl
theorem VJ:tyB 25=some Yc:=rfl
theorem Zb:tyB 26=some Qx:=rfl
theorem vg:tyB 28=some yI:=rfl
theorem kX:tyB 31=some xB:=rfl
theorem QeA:tyB 33=some UY:=rfl
theorem JH:tyB 34=some Wq:=rfl
theorem JI:tyB 37=some Wi:=rfl
theorem ty45:tyB 45=some Qgk:=rfl
theorem kZ:tyB 49=some xQ:=rfl
theorem VD:tyB 51=some Yb:=rfl
theorem QeZ:tyB 58=some R4:=rfl
theorem Qd1:tyB 65=some Ul:=rfl
theorem xy:tyB 81=some vW:=rfl
theorem UH:tyB 84=some VH:=rfl
theorem ty88:tyB 88=some Qg5:=rfl
theorem Qhc:tyB 100=some KJ:=rfl
theorem Qi9:tyB 102=some Qao:=rfl
theorem Qb:tyB 106=some xE:=rfl
theorem ty115:tyB 115=some Qc4:=rfl
theorem JO:tyB 118=some ZL:=rfl
theorem ty119:tyB 119=some Qdl:=rfl
theorem QjA:tyB 121=some La:=rfl
theorem Qjm:tyB 132=some Lc:=rfl
theorem Qjz:tyB 134=some Qar:=rfl
theorem Qhj:tyB 157=some K9:=rfl
theorem Vv:tyB 158=some WQ:=rfl
theorem QfL:tyB 160=some KO:=rfl
theorem Qjw:tyB 164=some Qab:=rfl
theorem Qja:tyB 168=some QaR:=rfl
theorem ty172:tyB 172=some Qdb:=rfl
theorem Qdo:tyB 173=some V5:=rfl
theorem LA:∀ {L:List (Nat × TI)} {t:Nat} {i:TI},tyOf L t=some i→(t,i) ∈ L
  |p :: r,t,i,h=>by
    simp only [tyOf] at h
    split at h
    · rename_i ht;cases h;rw [ht];exact List.mem_cons_self
    · exact List.mem_cons_of_mem _ (LA h)
theorem X3:jY Try.prog tyB:=fun t i h=>by
  have h:=LA h
  simp only [tyL,List.mem_cons,List.not_mem_nil,or_false,Prod.mk.injEq] at h
  rcases h with ⟨rfl,rfl⟩|⟨rfl,rfl⟩|⟨rfl,rfl⟩|⟨rfl,rfl⟩|⟨rfl,rfl⟩|⟨rfl,rfl⟩|⟨rfl,rfl⟩|⟨rfl,rfl⟩|⟨rfl,rfl⟩|⟨rfl,rfl⟩|⟨rfl,rfl⟩|⟨rfl,rfl⟩|⟨rfl,rfl⟩|⟨rfl,rfl⟩|⟨rfl,rfl⟩|⟨rfl,rfl⟩|⟨rfl,rfl⟩|⟨rfl,rfl⟩|⟨rfl,rfl⟩|⟨rfl,rfl⟩|⟨rfl,rfl⟩|⟨rfl,rfl⟩|⟨rfl,rfl⟩|⟨rfl,rfl⟩|⟨rfl,rfl⟩|⟨rfl,rfl⟩|⟨rfl,rfl⟩|⟨rfl,rfl⟩|⟨rfl,rfl⟩|⟨rfl,rfl⟩|⟨rfl,rfl⟩|⟨rfl,rfl⟩|⟨rfl,rfl⟩|⟨rfl,rfl⟩|⟨rfl,rfl⟩|⟨rfl,rfl⟩|⟨rfl,rfl⟩|⟨rfl,rfl⟩|⟨rfl,rfl⟩|⟨rfl,rfl⟩|⟨rfl,rfl⟩|⟨rfl,rfl⟩|⟨rfl,rfl⟩|⟨rfl,rfl⟩|⟨rfl,rfl⟩
  · exact tf3
  · exact tf4
  · exact tf5
  · exact tf9
  · exact tf22
  · exact tf23
  · exact tf25
  · exact tf26
  · exact tf28
  · exact tf31
  · exact tf33
  · exact tf34
  · exact tf37
  · exact tf44
  · exact tf45
  · exact tf49
  · exact tf51
  · exact tf58
  · exact tf65
  · exact tf81
  · exact tf84
  · exact tf88
  · exact tf94
  · exact tf100
  · exact tf102
  · exact tf103
  · exact tf106
  · exact tf111
  · exact tf115
  · exact tf118
  · exact tf119
  · exact tf121
  · exact tf132
  · exact tf134
  · exact tf149
  · exact tf156
  · exact tf157
  · exact tf158
  · exact tf160
  · exact tf164
  · exact tf168
  · exact tf170
  · exact tf172
  · exact tf173
  · exact tf188
end Go.Sym.B
namespace Go.Sym.C
def Bd (B:Nat) (q:Rat):Prop:=q.den ∣ 27720∧q.num≤B * q.den∧-(B * q.den:Int)≤q.num
theorem Bd.mono {B C:Nat} {q:Rat} (h:Bd B q) (hB:B≤C):Bd C q:=by
  obtain ⟨h1,h2,h3⟩:=h
  have h4:(B:Int) * q.den≤C * q.den:=by exact_mod_cast Nat.mul_le_mul_right _ hB
  exact ⟨h1,by omega,by omega⟩
end Go.Sym.C
namespace Go.Sym.B
open Go Go.Sym Go.Proofs Go.Sym.C
structure Bunk where
  cab:Int
  bed:Int
deriving DecidableEq,Inhabited
structure Cabin where
  beds:Int
  door:Bool
deriving DecidableEq,Inhabited
structure Tk where
  party:Int
  sex:Int
  cab:Int
  bed:Int
  frm:Int
  to:Int
  dog:Bool
deriving DecidableEq,Inhabited
structure Tr where
  ticket:Int
  cab:Int
  bed:Int
deriving DecidableEq,Inhabited
structure Chart where
  cabins:List Cabin
  secs:Int
  sold:List Tk
deriving DecidableEq,Inhabited
structure Ask where
  party:Int
  frm:Int
  to:Int
  sexes:List Int
  dog:Bool
deriving DecidableEq,Inhabited
def Tk.bunk (t:Tk):Bunk:=⟨t.cab,t.bed⟩
def dI:DV→Int
  |.v (.int _ n)=>n
  |_=>0
def dB:DV→Bool
  |.v (.bool b)=>b
  |_=>false
def dL:DV→List (List DV)
  |.sl xs=>xs
  |_=>[]
def zC (n:Int):List DV:=[.v (.int .i64 n)]
def qp (b:Bunk):List DV:=[.v (.int .i64 b.cab),.v (.int .i64 b.bed)]
def qo (c:Cabin):List DV:=[.v (.int .i64 c.beds),.v (.bool c.door)]
def eTk (t:Tk):List DV:=[.v (.int .i64 t.party),.v (.int .i64 t.sex),.v (.int .i64 t.cab),.v (.int .i64 t.bed),.v (.int .i64 t.frm),.v (.int .i64 t.to),.v (.bool t.dog)]
def eTr (t:Tr):List DV:=[.v (.int .i64 t.ticket),.v (.int .i64 t.cab),.v (.int .i64 t.bed)]
def qO (a:Ask):List DV:=[.v (.int .i64 a.party),.v (.int .i64 a.frm),.v (.int .i64 a.to),.sl (a.sexes.map zC),.v (.bool a.dog)]
def ZG (l:List Int):List DV:=[.sl (l.map zC)]
def qz (l:List Bunk):List DV:=[.sl (l.map qp)]
def zl (r:List DV):Int:=dI (r.headD (.sl []))
def zG:List DV→Bunk
  |[a,b]=>⟨dI a,dI b⟩
  |_=>default
def qB:List DV→Cabin
  |[a,b]=>⟨dI a,dB b⟩
  |_=>default
def dTk:List DV→Tk
  |[a,b,c,d,e,f,g]=>⟨dI a,dI b,dI c,dI d,dI e,dI f,dB g⟩
  |_=>default
def dTr:List DV→Tr
  |[a,b,c]=>⟨dI a,dI b,dI c⟩
  |_=>default
def Qjo:List DV→List Int
  |[a]=>(dL a).map zl
  |_=>[]
def Jm:List DV→List Bunk
  |[a]=>(dL a).map zG
  |_=>[]
def Zo:List DV→Ask
  |[a,b,c,d,e]=>⟨dI a,dI b,dI c,(dL d).map zl,dB e⟩
  |_=>default
theorem Qkl (n:Int):zl (zC n)=n:=rfl
theorem QhN (b:Bunk):zG (qp b)=b:=rfl
theorem Qhq (b:Cabin):qB (qo b)=b:=rfl
theorem Qjd (b:Tk):dTk (eTk b)=b:=rfl
theorem dTr_e (b:Tr):dTr (eTr b)=b:=rfl
theorem kW (l:List Int):(l.map zC).map zl=l:=by simp [Function.comp_def,Qkl]
theorem ze (l:List Bunk):(l.map qp).map zG=l:=by simp [Function.comp_def,QhN]
theorem qd (l:List Cabin):(l.map qo).map qB=l:=by simp [Function.comp_def,Qhq]
theorem mTk (l:List Tk):(l.map eTk).map dTk=l:=by simp [Function.comp_def,Qjd]
theorem mTr (l:List Tr):(l.map eTr).map dTr=l:=by simp [Function.comp_def,dTr_e]
theorem Qif (l:List Int):Qjo (ZG l)=l:=kW l
theorem Qho (l:List Bunk):Jm (qz l)=l:=ze l
theorem QkG (a:Ask):Zo (qO a)=a:=by show (⟨_,_,_,_,_⟩:Ask)=a;simp only [dL,kW];rfl
theorem Qjf (l:List (List Int)):(l.map ZG).map Qjo=l:=by simp [Function.comp_def,Qif]
theorem wE (l:List (List Bunk)):(l.map qz).map Jm=l:=by simp [Function.comp_def,Qho]
theorem jQ (l:List (Ask)):(l.map qO).map Zo=l:=by simp [Function.comp_def,QkG]
theorem Y4 (l:List (Int)) (n:Nat):(l.map zC).getD n [.v (.int .i64 0)]=zC (l.getD n 0):=kg zC l n 0
theorem hInt {l:List (Int)} {n:Nat} (h:n < l.length):(l.map zC).getD n []=zC (l.getD n 0):=by simp [List.getD_eq_getElem?_getD,h]
theorem UN (l:List (Int)):zI 1 (l.map zC)=True:=yV (f:=zC) (k:=1) (fun _=>rfl) l
theorem qE (l:List (Bunk)) (n:Nat):(l.map qp).getD n [.v (.int .i64 0),.v (.int .i64 0)]=qp (l.getD n default):=kg qp l n default
theorem hBunk {l:List (Bunk)} {n:Nat} (h:n < l.length):(l.map qp).getD n []=qp (l.getD n default):=by simp [List.getD_eq_getElem?_getD,h]
theorem qW (l:List (Bunk)):zI 2 (l.map qp)=True:=yV (f:=qp) (k:=2) (fun _=>rfl) l
theorem qG (l:List (Cabin)) (n:Nat):(l.map qo).getD n [.v (.int .i64 0),.v (.bool false)]=qo (l.getD n default):=kg qo l n default
theorem QjZ {l:List (Cabin)} {n:Nat} (h:n < l.length):(l.map qo).getD n []=qo (l.getD n default):=by simp [List.getD_eq_getElem?_getD,h]
theorem wD (l:List (Cabin)):zI 2 (l.map qo)=True:=yV (f:=qo) (k:=2) (fun _=>rfl) l
theorem gTk (l:List (Tk)) (n:Nat):(l.map eTk).getD n [.v (.int .i64 0),.v (.int .i64 0),.v (.int .i64 0),.v (.int .i64 0),.v (.int .i64 0),.v (.int .i64 0),.v (.bool false)]=eTk (l.getD n default):=kg eTk l n default
theorem hTk {l:List (Tk)} {n:Nat} (h:n < l.length):(l.map eTk).getD n []=eTk (l.getD n default):=by simp [List.getD_eq_getElem?_getD,h]
theorem rTk (l:List (Tk)):zI 7 (l.map eTk)=True:=yV (f:=eTk) (k:=7) (fun _=>rfl) l
theorem gTr (l:List (Tr)) (n:Nat):(l.map eTr).getD n [.v (.int .i64 0),.v (.int .i64 0),.v (.int .i64 0)]=eTr (l.getD n default):=kg eTr l n default
theorem rTr (l:List (Tr)):zI 3 (l.map eTr)=True:=yV (f:=eTr) (k:=3) (fun _=>rfl) l
theorem Qji (l:List (List Int)) (n:Nat):(l.map ZG).getD n [.sl []]=ZG (l.getD n []):=kg ZG l n []
theorem Qju {l:List (List Int)} {n:Nat} (h:n < l.length):(l.map ZG).getD n []=ZG (l.getD n []):=by simp [List.getD_eq_getElem?_getD,h]
theorem rInts (l:List (List Int)):zI 1 (l.map ZG)=True:=yV (f:=ZG) (k:=1) (fun _=>rfl) l
theorem qP (l:List (List Bunk)) (n:Nat):(l.map qz).getD n [.sl []]=qz (l.getD n []):=kg qz l n []
theorem UZ {l:List (List Bunk)} {n:Nat} (h:n < l.length):(l.map qz).getD n []=qz (l.getD n []):=by simp [List.getD_eq_getElem?_getD,h]
theorem qQ (l:List (List Bunk)):zI 1 (l.map qz)=True:=yV (f:=qz) (k:=1) (fun _=>rfl) l
theorem yL (l:List (Ask)) (n:Nat):(l.map qO).getD n [.v (.int .i64 0),.v (.int .i64 0),.v (.int .i64 0),.sl [],.v (.bool false)]=qO (l.getD n default):=kg qO l n default
theorem hAsk {l:List (Ask)} {n:Nat} (h:n < l.length):(l.map qO).getD n []=qO (l.getD n default):=by simp [List.getD_eq_getElem?_getD,h]
theorem wZ (l:List (Ask)):zI 5 (l.map qO)=True:=yV (f:=qO) (k:=5) (fun _=>rfl) l
def aI (n:Int):AV:=.v (.int .i64 n)
def aB (b:Bool):AV:=.v (.bool b)
def ql (b:Bunk):AV:=.agg [.v (.int .i64 b.cab),.v (.int .i64 b.bed)]
def cTk (t:Tk):List AV:=[.v (.int .i64 t.party),.v (.int .i64 t.sex),.v (.int .i64 t.cab),.v (.int .i64 t.bed),.v (.int .i64 t.frm),.v (.int .i64 t.to),.v (.bool t.dog)]
def aTk (t:Tk):AV:=.agg (cTk t)
def qj (a:Ask):List AV:=[.v (.int .i64 a.party),.v (.int .i64 a.frm),.v (.int .i64 a.to),.sl (a.sexes.map zC),.v (.bool a.dog)]
def qw (a:Ask):AV:=.agg (qj a)
def qb (c:Chart):List AV:=[.sl (c.cabins.map qo),.v (.int .i64 c.secs),.sl (c.sold.map eTk)]
def qa (c:Chart):AV:=.agg (qb c)
def qA (l:List Int):AV:=.sl (l.map zC)
def qc (l:List Bunk):AV:=.sl (l.map qp)
def xL (l:List (List Bunk)):AV:=.sl (l.map qz)
def Z0 (l:List (List Int)):AV:=.sl (l.map ZG)
def qx (l:List Tk):AV:=.sl (l.map eTk)
def zR (l:List Cabin):AV:=.sl (l.map qo)
def zi (l:List Tr):AV:=.sl (l.map eTr)
def qZ (l:List Ask):AV:=.sl (l.map qO)
theorem Fn0 {fn:Func} {c:Code} {f:FuncId} (hf:Try.prog.funcs[f]?=some fn) (hb:fn.body=some c) (he:∀ vs w,(callFunc f vs).run Try.prog w=.ok (.enter f vs) w) (hd:kQ fn.ntmps c=true):FnData Try.prog tyB f fn c:=⟨X3,hf,hb,he,hd⟩
theorem qM {L:List (FuncId × Entry)} {A:Frm→Prop} (h:QcU A Try.prog L):Env A Try.prog tyB (tab L):=⟨X3,Qhg h,by kernel_rfl⟩
theorem z0 {a b:Int} (h:-9223372036854775808≤a+b∧a+b < 9223372036854775808):IntKind.wrap .i64 (a+b)=a+b:=wrap64 h.1 h.2
end Go.Sym.B
namespace Go.Sym.B
open Go Go.Sym Go.Proofs Go.Sym.C
def zy (x:Int):List (Nat × AObj):=[(0,.cells [.v (.int .u64 x)])]
def xsh (s:Int) (k:Nat):Int:=IntKind.u64.wrap (BitVec.ofInt IntKind.u64.bits s ^^^ BitVec.ofInt IntKind.u64.bits (s.fdiv (2 ^ min k IntKind.u64.bits))).toNat
def nxS (x:Int):Int:=IntKind.u64.wrap (IntKind.u64.wrap (x * 2862933555777941757)+3037000493)
def nxV (x:Int):Int:=xsh (IntKind.u64.wrap (xsh (nxS x) 31 * 10723151780598845931)) 30
def YX:=kk @Qhc (kk @Qi9 (kk @KJ.eq_1 @Qao.eq_1))
def Qa7:=kk @aI.eq_1 (@aB.eq_1)
theorem Qim (x:Int):Fn noB Try.prog 90 [.ptr 0 0] (qg (zy x)) (.v (.int .u64 (nxV x))) (qg (zy (nxS x))) 0:=by
  have env:Env (fun _=>True) Try.prog tyB (tab []):=qM trivial
  refine Fn.of (A:=fun _=>True) (n0:=1) (D:=noD) (Fn0 Try.func90 rfl (fun vs w=>by kernel_rfl) (by kernel_rfl)) (by simp) (by simp [AV.ids]) ?_ (fun _ _ _ _=>trivial) qH ?_
  · intro i o hi
    have h:=qL hi
    simp [zy] at h
    rcases h with ⟨rfl,rfl⟩;simp [AObj.ids,AV.ids,AV.idsL]
  repeat' (first|(apply nx;with_reducible constructor)|refine jq (by decide) ?_|((first|refine kz env fun Q hQ=>?_|refine kj fun Q hQ=>?_);simp only [vkt,seval,YX,Qa7,zy];(try simp only [ite_and]);(repeat' (first|with_reducible assumption|refine And.intro ?_ ?_|intro hp));all_goals (first|(refine hQ _ ?_;clear hQ Q)|(refine hQ _ (fun h=>?_) (fun h=>?_) <;> clear hQ Q <;> (try simp only [vki,reduceCtorEq] at h))|(refine kx ?_;kernel_rfl)|omega|assumption|with_reducible rfl|skip)))
  (simp only [vrt,Try.results90,vkt,seval,YX,Qa7,zy];refine Fin.ok some [] ?_ ?_ ?_ ?_ ?_ rfl;all_goals (try simp only [vle,vkt,seval,YX,Qa7,zy]))
  all_goals rfl
def Yn (S:St):List AV→Option Pk
  |[.ptr i 0]=>match S.h i with
    |some (.cells [.v (.int .u64 x)])=>some { hs:=[i],ar:=[.ptr 0 0],L0:=[.cells [.v (.int .u64 x)]],v:=.v (.int .u64 (nxV x)),L1:=[some (.cells [.v (.int .u64 (nxS x))])] }
    |_=>none
  |_=>none
theorem eNext {A:Frm→Prop}:qC A Try.prog 90 (fnE Yn):=zx fun S bs q h hp=>by
  unfold Yn at h
  split at h
  · split at h
    · cases h;exact Qim _
    · cases h
  · cases h
def Qfb (x m:Int):Int:=if m < 1 then 0 else IntKind.i64.wrap (((nxV x).fdiv (2 ^ min 13 IntKind.u64.bits)).tmod (IntKind.u64.wrap (IntKind.i64.wrap (m+1))))
def Qhb (x m:Int):Int:=if m < 1 then x else nxS x
theorem QcB:∃ f:Int→Int→Int × Int,∀ x m,f x m=(Qfb x m,Qhb x m):=⟨fun x m=>(Qfb x m,Qhb x m),fun _ _=>rfl⟩
noncomputable def upV (x m:Int):Int:=(Classical.choose QcB x m).1
noncomputable def upS (x m:Int):Int:=(Classical.choose QcB x m).2
theorem QhE (x m:Int):upV x m=Qfb x m:=by unfold upV;rw [Classical.choose_spec QcB]
theorem Qj9 (x m:Int):upS x m=Qhb x m:=by unfold upS;rw [Classical.choose_spec QcB]
theorem Qgt {n:Int} (h0:0≤n) (h1:n < 18446744073709551616):IntKind.u64.wrap n=n:=by
  unfold IntKind.wrap
  simp only [IntKind.bits,IntKind.signed]
  simp
  omega
theorem Qhp (n:Int):0≤IntKind.u64.wrap n:=by
  unfold IntKind.wrap
  simp only [IntKind.bits,IntKind.signed]
  simp
  omega
theorem Qa6 {x m:Int} (h:m < 9223372036854775807):0≤upV x m∧(upV x m≤m∨upV x m=0):=by
  rw [QhE]
  unfold Qfb
  split
  · exact ⟨Int.le_refl _,.inr rfl⟩
  · have h1:IntKind.i64.wrap (m+1)=m+1:=wrap64 (by omega) (by omega)
    have h2:IntKind.u64.wrap (m+1)=m+1:=Qgt (by omega) (by omega)
    rw [h1,h2]
    have h3:0≤(nxV x).fdiv (2 ^ min 13 IntKind.u64.bits):=Int.fdiv_nonneg (by unfold nxV xsh;exact Qhp _) (by decide)
    rw [Int.tmod_eq_emod_of_nonneg h3]
    have h4:=Int.emod_nonneg ((nxV x).fdiv (2 ^ min 13 IntKind.u64.bits)) (show m+1 ≠ 0 by omega)
    have h5:=Int.emod_lt_of_pos ((nxV x).fdiv (2 ^ min 13 IntKind.u64.bits)) (show 0 < m+1 by omega)
    rw [wrap64 (by omega) (by omega)]
    omega
def Ju:=kk @ty3 (kk @Qhc (kk @ti3.eq_1 @KJ.eq_1))
def Vi:=kk @aI.eq_1 (@aB.eq_1)
theorem up_fn (x m:Int) (h:m < 9223372036854775807):Fn noB Try.prog 40 [.ptr 0 0,aI m] (qg (zy x)) (aI (upV x m)) (qg (zy (upS x m))) 0:=by
  have env:Env (fun _=>True) Try.prog tyB (tab [(90,fnE Yn)]):=qM ⟨eNext,trivial⟩
  refine Fn.of (A:=fun _=>True) (n0:=1) (D:=noD) (Fn0 Try.func40 rfl (fun vs w=>by kernel_rfl) (by kernel_rfl)) (by simp) (by simp [AV.ids,AV.idsL,aI]) ?_ (fun _ _ _ _=>trivial) qH ?_
  · intro i o hi
    have h:=qL hi
    simp [zy] at h
    rcases h with ⟨rfl,rfl⟩;simp [AObj.ids,AV.ids,AV.idsL]
  rw [QhE,Qj9]
  by_cases c1:m < 1
  · rw [show Qfb x m=0 from if_pos c1,show Qhb x m=x from if_pos c1]
    repeat' (first|(apply nx;with_reducible constructor)|refine jq (by decide) ?_|((first|refine kz env fun Q hQ=>?_|refine kj fun Q hQ=>?_);simp only [vkt,seval,Ju,Vi,zy,Yn,c1];(try simp only [ite_and]);(repeat' (first|with_reducible assumption|refine And.intro ?_ ?_|intro hp));all_goals (first|(refine hQ _ ?_;clear hQ Q)|(refine hQ _ (fun h=>?_) (fun h=>?_) <;> clear hQ Q <;> (try simp only [vki,reduceCtorEq] at h))|(refine kx ?_;kernel_rfl)|omega|assumption|with_reducible rfl|skip)))
    (simp only [vrt,Try.results40,vkt,seval,Ju,Vi,zy,Yn];refine Fin.ok some [] ?_ ?_ ?_ ?_ ?_ rfl;all_goals (try simp only [vle,vkt,seval,Ju,Vi,zy,Yn]))
    all_goals simp
  · rw [show Qfb x m=_ from if_neg c1,show Qhb x m=_ from if_neg c1]
    have h1:IntKind.i64.wrap (m+1)=m+1:=wrap64 (by omega) (by omega)
    have h2:IntKind.u64.wrap (m+1)=m+1:=Qgt (by omega) (by omega)
    have h0:¬ m+1=0:=by omega
    repeat' (first|(apply nx;with_reducible constructor)|refine jq (by decide) ?_|((first|refine kz env fun Q hQ=>?_|refine kj fun Q hQ=>?_);simp only [vkt,seval,Ju,Vi,zy,Yn,c1,h1,h2,h0];(try simp only [ite_and]);(repeat' (first|with_reducible assumption|refine And.intro ?_ ?_|intro hp));all_goals (first|(refine hQ _ ?_;clear hQ Q)|(refine hQ _ (fun h=>?_) (fun h=>?_) <;> clear hQ Q <;> (try simp only [vki,reduceCtorEq] at h))|(refine kx ?_;kernel_rfl)|omega|assumption|with_reducible rfl|skip)))
    (simp only [vrt,Try.results40,vkt,seval,Ju,Vi,zy,Yn];refine Fin.ok some [] ?_ ?_ ?_ ?_ ?_ rfl;all_goals (try simp only [vle,vkt,seval,Ju,Vi,zy,Yn]))
    all_goals (first|rfl|rw [h1,h2])
noncomputable def pUp (S:St):List AV→Option Pk
  |[.ptr i 0,.v (.int .i64 m)]=>match S.h i with
    |some (.cells [.v (.int .u64 x)])=>some { pre:=m < 9223372036854775807,hs:=[i],ar:=[.ptr 0 0,.v (.int .i64 m)],L0:=[.cells [.v (.int .u64 x)]],v:=.v (.int .i64 (upV x m)),L1:=[some (.cells [.v (.int .u64 (upS x m))])] }
    |_=>none
  |_=>none
theorem eUp {A:Frm→Prop}:qC A Try.prog 40 (fnE pUp):=zx fun S bs q h hp=>by
  unfold pUp at h
  split at h
  · split at h
    · cases h;exact up_fn _ _ hp
    · cases h
  · cases h
def Vo:=kk @ty3 @ti3.eq_1
def QbF:=kk @aI.eq_1 (@aB.eq_1)
theorem QiU (x a b:Int) (h:-100000≤a∧a≤100000∧-100000≤b∧b≤100000):Fn noB Try.prog 37 [.ptr 0 0,aI a,aI b] (qg (zy x)) (aI (a+upV x (b - a))) (qg (zy (upS x (b - a)))) 0:=by
  have env:Env (fun _=>True) Try.prog tyB (tab [(40,fnE pUp)]):=qM ⟨eUp,trivial⟩
  refine Fn.of (A:=fun _=>True) (n0:=1) (D:=noD) (Fn0 Try.func37 rfl (fun vs w=>by kernel_rfl) (by kernel_rfl)) (by simp) (by simp [AV.ids,AV.idsL,aI]) ?_ (fun _ _ _ _=>trivial) qH ?_
  · intro i o hi
    have h:=qL hi
    simp [zy] at h
    rcases h with ⟨rfl,rfl⟩;simp [AObj.ids,AV.ids,AV.idsL]
  have b1:=Qa6 (x:=x) (m:=b - a) (by omega)
  have h1:IntKind.i64.wrap (b - a)=b - a:=wrap64 (by omega) (by omega)
  have h2:IntKind.i64.wrap (a+upV x (b - a))=a+upV x (b - a):=wrap64 (by omega) (by omega)
  have h3:b - a < 9223372036854775807:=by omega
  repeat' (first|(apply nx;with_reducible constructor)|refine jq (by decide) ?_|((first|refine kz env fun Q hQ=>?_|refine kj fun Q hQ=>?_);simp only [vkt,seval,Vo,QbF,zy,pUp,h1,h2];(try simp only [ite_and]);(repeat' (first|with_reducible assumption|refine And.intro ?_ ?_|intro hp));all_goals (first|(refine hQ _ ?_;clear hQ Q)|(refine hQ _ (fun h=>?_) (fun h=>?_) <;> clear hQ Q <;> (try simp only [vki,reduceCtorEq] at h))|(refine kx ?_;kernel_rfl)|omega|assumption|with_reducible rfl|skip)))
  (simp only [vrt,Try.results37,vkt,seval,Vo,QbF,zy,pUp];refine Fin.ok some [] ?_ ?_ ?_ ?_ ?_ rfl;all_goals (try simp only [vle,vkt,seval,Vo,QbF,zy,pUp]))
  all_goals rfl
noncomputable def jg (S:St):List AV→Option Pk
  |[.ptr i 0,.v (.int .i64 a),.v (.int .i64 b)]=>match S.h i with
    |some (.cells [.v (.int .u64 x)])=>some { pre:=-100000≤a∧a≤100000∧-100000≤b∧b≤100000,hs:=[i],ar:=[.ptr 0 0,.v (.int .i64 a),.v (.int .i64 b)],L0:=[.cells [.v (.int .u64 x)]],v:=.v (.int .i64 (a+upV x (b - a))),L1:=[some (.cells [.v (.int .u64 (upS x (b - a)))])] }
    |_=>none
  |_=>none
theorem Qjy {A:Frm→Prop}:qC A Try.prog 37 (fnE jg):=zx fun S bs q h hp=>by
  unfold jg at h
  split at h
  · split at h
    · cases h;exact QiU _ _ _ hp
    · cases h
  · cases h
def nbK (l:List Int):Nat→Int
  |0=>11400714819323198485
  |k+1=>xsh (IntKind.u64.wrap (IntKind.u64.wrap (nbK l k+IntKind.u64.wrap (l.getD k 0)) * 13787848793156543929)) 29
def nbS (l:List Int):Int:=nbK l l.length
def nbI (l:List Int) (k:Nat):St:={ t:=asg [(0,qA l),(3,.ptr 0 0),(4,aI k)],h:=qg (zy (nbK l k)),n:=1 }
def kP:=kk @ty3 (kk @Qf (kk @Qhc (kk @Qi9 (kk @ti3.eq_1 (kk @kC.eq_1 (kk @KJ.eq_1 @Qao.eq_1))))))
def Z7:=kk @aI.eq_1 (kk @aB.eq_1 (kk @nbI.eq_1 (kk @qA.eq_1 (kk @Y4 (@zC.eq_1)))))
theorem QkJ (l:List Int) (hl:l.length≤maxLen):Fn noB Try.prog 15 [qA l] noH (.ptr 0 0) (qg (zy (nbS l))) 0:=by
  have env:Env (fun _=>True) Try.prog tyB (tab []):=qM trivial
  refine Fn.of (A:=fun _=>True) (n0:=0) (D:=noD) (Fn0 Try.func15 rfl (fun vs w=>by kernel_rfl) (by kernel_rfl)) (by simp) (by simp [AV.ids,AV.idsL,qA]) (fun i o h=>by cases h) (fun _ _ _ _=>trivial) qH ?_
  repeat' (first|(apply nx;with_reducible constructor)|refine jq (by decide) ?_|((first|refine kz env fun Q hQ=>?_|refine kj fun Q hQ=>?_);simp only [vkt,seval,kP,Z7,zy];(try simp only [ite_and]);(repeat' (first|with_reducible assumption|refine And.intro ?_ ?_|intro hp));all_goals (first|(refine hQ _ ?_;clear hQ Q)|(refine hQ _ (fun h=>?_) (fun h=>?_) <;> clear hQ Q <;> (try simp only [vki,reduceCtorEq] at h))|(refine kx ?_;kernel_rfl)|omega|assumption|with_reducible rfl|skip)))
  refine qU (fun k:{ k:Nat // k≤l.length }=>nbI l k.1) (fun k=>l.length - k.1) ⟨0,Nat.zero_le _⟩ ?_ fun ⟨k,hk⟩=>?_
  · (refine Le.ok some [] ?_;constructor;all_goals (try simp only [vle,vkt,seval,kP,Z7,zy]))
    all_goals first|rfl|simp
  · repeat' (first|(apply nx;with_reducible constructor)|refine jq (by decide) ?_)
    (refine kz env fun Q hQ=>?_;simp only [vkt,seval,kP,Z7,zy];(try simp only [ite_and]);(repeat' (first|with_reducible assumption|refine And.intro ?_ ?_|intro hp));all_goals (first|(refine hQ _ ?_;clear hQ Q)|(refine kx ?_;kernel_rfl)|omega|assumption|with_reducible rfl|skip))
    repeat' (first|(apply nx;with_reducible constructor)|refine jq (by decide) ?_)
    (refine yF (by simp only [vkt,seval,kP,Z7,zy];rfl) (fun h=>?_) (fun h=>?_) <;> (try simp only [vki,reduceCtorEq] at h))
    · have hlt:k < l.length:=by omega
      have e9:=Qd8 hlt hl
      repeat' (first|(apply nx;with_reducible constructor)|refine jq (by decide) ?_|((first|refine kz env fun Q hQ=>?_|refine kj fun Q hQ=>?_);simp only [vkt,seval,kP,Z7,zy,e9];(try simp only [ite_and]);(repeat' (first|with_reducible assumption|refine And.intro ?_ ?_|intro hp));all_goals (first|(refine hQ _ ?_;clear hQ Q)|(refine hQ _ (fun h=>?_) (fun h=>?_) <;> clear hQ Q <;> (try simp only [vki,reduceCtorEq] at h))|(refine kx ?_;kernel_rfl)|omega|assumption|with_reducible rfl|skip)))
      refine ⟨⟨k+1,hlt⟩,by show l.length - (k+1) < l.length - k;omega, ?_⟩
      (refine Le.ok some [] ?_;constructor;all_goals (try simp only [vle,vkt,seval,kP,Z7,zy]))
      all_goals first|rfl|(simp [e9];done)
    · have hkn:k=l.length:=by omega
      subst hkn
      repeat' (first|(apply nx;with_reducible constructor)|refine jq (by decide) ?_|((first|refine kz env fun Q hQ=>?_|refine kj fun Q hQ=>?_);simp only [vkt,seval,kP,Z7,zy];(try simp only [ite_and]);(repeat' (first|with_reducible assumption|refine And.intro ?_ ?_|intro hp));all_goals (first|(refine hQ _ ?_;clear hQ Q)|(refine hQ _ (fun h=>?_) (fun h=>?_) <;> clear hQ Q <;> (try simp only [vki,reduceCtorEq] at h))|(refine kx ?_;kernel_rfl)|omega|assumption|with_reducible rfl|skip)))
      (simp only [vrt,Try.results15,vkt,seval,kP,Z7,zy];refine Fin.ok some [] ?_ ?_ ?_ ?_ ?_ rfl;all_goals (try simp only [vle,vkt,seval,kP,Z7,zy]))
      all_goals rfl
def ZM (_:St):List AV→Option Pk
  |[.sl xs]=>some { pre:=xs=(xs.map zl).map zC∧xs.length≤maxLen,ar:=[.sl xs],v:=.ptr 0 0,L1:=[some (.cells [.v (.int .u64 (nbS (xs.map zl)))])] }
  |_=>none
theorem eBag {A:Frm→Prop}:qC A Try.prog 15 (fnE ZM):=zx fun S bs q h hp=>by
  unfold ZM at h
  split at h <;> cases h
  have:=QkJ (List.map zl _) (by rw [List.length_map];exact hp.2)
  simp only [qA,← hp.1] at this
  exact this
end Go.Sym.B
namespace Go.Sym.B
open Go Go.Sym Go.Proofs Go.Sym.C
def inB (n lo hi:Int):Bool:=decide (lo≤n) && decide (n≤hi)
theorem yc {n lo hi:Int}:inB n lo hi=true ↔ lo≤n∧n≤hi:=by simp [inB]
def zD (n a b:Int):Int:=if n < a then 7 else if b < n then 6 else 0
def yK:List Int→Int
  |[]=>0
  |e :: r=>if e=0 then yK r else e
theorem Zq {l:List Int} {k:Nat} (h:∀ j,j < k→l.getD j 0=0) (hk:k < l.length) (he:l.getD k 0 ≠ 0):yK l=l.getD k 0:=by
  induction l generalizing k with
  |nil=>simp at hk
  |cons e r ih =>
    cases k with
    |zero=>rw [yK,if_neg (by simpa using he)];rfl
    |succ k =>
      rw [yK,if_pos (by simpa using h 0 (by omega))]
      have:=ih (k:=k) (fun j hj=>by simpa using h (j+1) (by omega)) (by simpa using hk) (by simpa using he)
      rw [this];rfl
theorem vS {l:List Int} (h:∀ j,j < l.length→l.getD j 0=0):yK l=0:=by
  induction l with
  |nil=>rfl
  |cons e r ih =>
    rw [yK,if_pos (by simpa using h 0 (by simp))]
    exact ih fun j hj=>by simpa using h (j+1) (by simpa using hj)
theorem Zx {l:List Int} (h:yK l=0):∀ e ∈ l,e=0:=by
  induction l with
  |nil=>simp
  |cons e r ih =>
    rw [yK] at h
    split at h
    · rename_i h0
      intro x hx
      rcases List.mem_cons.1 hx with rfl|hx
      · exact h0
      · exact ih h x hx
    · rename_i h0;exact absurd h h0
def QE (a b:Tk):Bool:=decide (a.frm < b.to) && decide (b.frm < a.to)
def ZT (a b:Tk):Bool:=decide (a.party=b.party) || decide (a.cab ≠ b.cab) || !QE a b || (decide (a.sex=b.sex) && !a.dog && !b.dog)
def WH (secs frm to:Int):Int:=if frm < 0∨to≤frm∨secs < to then 5 else 0
def vY (t x:Tk):Bool:=decide (x.cab=t.cab) && decide (x.bed=t.bed) && QE x t
def wo (t:Tk) (l:List Tk):Int:=if l.any (vY t) then 4 else if l.any (fun x=>!ZT x t) then 9 else 0
def QV (cs:List Cabin) (cab bed:Int):Bool:=inB cab 0 ((cs.length:Int) - 1) && inB bed 0 ((cs.getD cab.toNat default).beds - 1)
def w9 (c:Chart) (t:Tk) (l:List Tk):Int :=
  if !inB t.party 1 99 then 1 else if !inB t.sex 1 2 then 8 else if !QV c.cabins t.cab t.bed then 3 else if WH c.secs t.frm t.to ≠ 0 then WH c.secs t.frm t.to else wo t l
def Yw (x:Cabin):Int:=if !inB x.beds 1 3 then 1 else 0
def WG (c:Chart):Int :=
  if zD c.cabins.length 1 3 ≠ 0 then zD c.cabins.length 1 3 else if yK (c.cabins.map Yw) ≠ 0 then yK (c.cabins.map Yw) else if !inB c.secs 1 5 then 1 else zD c.sold.length 0 8
def Zf (c:Chart) (l:List Tk):Int:=yK ((List.range l.length).map fun i=>w9 c (l.getD i default) (l.take i))
def wB (c:Chart):Int:=if WG c ≠ 0 then WG c else Zf c c.sold
structure CarOk (c:Chart):Prop where
  cabs:1≤c.cabins.length∧c.cabins.length≤3
  beds:∀ x ∈ c.cabins,1≤x.beds∧x.beds≤3
  secs:1≤c.secs∧c.secs≤5
theorem QdD {c:Chart} (h:WG c=0):CarOk c∧c.sold.length≤8:=by
  unfold WG at h
  split at h
  · exact absurd h ‹_›
  rename_i h1
  split at h
  · exact absurd h ‹_›
  rename_i h2
  split at h
  · exact absurd h (by decide)
  rename_i h3
  have h1:=Decidable.not_not.1 h1
  have h2:=Decidable.not_not.1 h2
  have h3:inB c.secs 1 5=true:=by simpa using h3
  unfold zD at h1 h
  refine ⟨⟨?_,fun x hx=>?_,yc.1 h3⟩, ?_⟩
  · split at h1
    · exact absurd h1 (by decide)
    · split at h1
      · exact absurd h1 (by decide)
      · omega
  · have:=Zx h2 _ (List.mem_map.2 ⟨x,hx,rfl⟩)
    unfold Yw at this
    split at this
    · exact absurd this (by decide)
    · rename_i h4
      exact yc.1 (by simpa using h4)
  · split at h
    · exact absurd h (by decide)
    · split at h
      · exact absurd h (by decide)
      · omega
structure TkOk (c:Chart) (t:Tk):Prop where
  party:1≤t.party∧t.party≤99
  sex:1≤t.sex∧t.sex≤2
  cab:0≤t.cab∧t.cab.toNat < c.cabins.length
  bed:0≤t.bed∧t.bed < (c.cabins.getD t.cab.toNat default).beds
  frm:0≤t.frm
  way:t.frm < t.to
  to:t.to≤c.secs
theorem R9 {s a b:Int} (h:WH s a b=0):0≤a∧a < b∧b≤s:=by
  unfold WH at h
  split at h
  · exact absurd h (by decide)
  · omega
theorem QeU {cs:List Cabin} {a b:Int} (h:QV cs a b=true):0≤a∧a.toNat < cs.length∧0≤b∧b < (cs.getD a.toNat default).beds:=by
  unfold QV at h
  rw [Bool.and_eq_true,yc,yc] at h
  omega
theorem QbS {c:Chart} {t:Tk} {l:List Tk} (h:w9 c t l=0):TkOk c t∧wo t l=0:=by
  unfold w9 at h
  split at h
  · exact absurd h (by decide)
  rename_i h1
  split at h
  · exact absurd h (by decide)
  rename_i h2
  split at h
  · exact absurd h (by decide)
  rename_i h3
  split at h
  · exact absurd h ‹_›
  rename_i h4
  have nf:∀ {p:Bool},¬ (!p)=true→p=true:=fun h=>by simpa using h
  have g1:=yc.1 (nf h1)
  have g2:=yc.1 (nf h2)
  obtain ⟨g3,g4,g5,g6⟩:=QeU (nf h3)
  obtain ⟨g7,g8,g9⟩:=R9 (Decidable.not_not.1 h4)
  exact ⟨⟨g1,g2,⟨g3,g4⟩,⟨g5,g6⟩,g7,g8,g9⟩,h⟩
theorem vL {α:Type} {l:List α} {k:Nat} {d:α} (h:k < l.length):l.getD k d ∈ l:=by
  rw [List.getD_eq_getElem?_getD,List.getElem?_eq_getElem h];exact List.getElem_mem h
theorem XD {c:Chart} {l:List Tk} (h:Zf c l=0):∀ i,i < l.length→TkOk c (l.getD i default)∧wo (l.getD i default) (l.take i)=0:=fun i hi =>
  QbS (Zx h _ (List.mem_map.2 ⟨i,List.mem_range.2 hi,rfl⟩))
structure Val (c:Chart):Prop where
  car:CarOk c
  many:c.sold.length≤8
  tk:∀ t ∈ c.sold,TkOk c t
theorem Q7 {c:Chart} (h:wB c=0):Val c:=by
  unfold wB at h
  split at h
  · exact absurd h ‹_›
  rename_i h1
  obtain ⟨g1,g2⟩:=QdD (Decidable.not_not.1 h1)
  refine ⟨g1,g2,fun t ht=>?_⟩
  obtain ⟨i,hi,rfl⟩:=List.mem_iff_getElem.1 ht
  have:=(XD h i hi).1
  rwa [show c.sold.getD i default=c.sold[i] by simp [List.getD_eq_getElem?_getD,hi]] at this
def qV (cs:List Cabin):List Bunk:=(List.range cs.length).flatMap fun i=>(List.range (cs.getD i default).beds.toNat).map fun (k:Nat)=>⟨(i:Int),(k:Int)⟩
def Zz (cs:List Cabin) (l:List Bunk):Bool :=
  let lo:=l.foldl (fun m b=>min m b.cab) (l.getD 0 default).cab
  let hi:=l.foldl (fun m b=>max m b.cab) (l.getD 0 default).cab
  decide (lo=hi) || (decide (lo+1=hi) && (cs.getD lo.toNat default).door)
def kD (a:Ask) (i:Nat) (b:Bunk):Tk:=⟨a.party,a.sexes.getD i 0,b.cab,b.bed,a.frm,a.to,a.dog⟩
def goB (cs:List Cabin) (a:Ask) (sold:List Tk) (begun:List Bunk) (b:Bunk):Bool:=!begun.contains b && Zz cs (begun++[b]) && decide (wo (kD a begun.length b) sold=0)
def atB (s:Int) (t:Tk):Bool:=decide (t.frm≤s) && decide (s < t.to)
def Vp (sold:List Tk) (s i:Int):Bool:=sold.all fun t=>!(atB s t && decide (t.cab=i))
def WC (cs:List Cabin) (secs:Int) (sold:List Tk):Int:=(((List.range secs.toNat).flatMap fun (s:Nat)=>(List.range cs.length).filter fun (i:Nat)=>Vp sold s i).length:Int)
def xh (c:Chart) (a:Ask):Int :=
  if !inB a.party 1 99 then 1 else if c.sold.any (fun t=>decide (t.party=a.party)) then 4 else if WH c.secs a.frm a.to ≠ 0 then WH c.secs a.frm a.to else if zD a.sexes.length 1 3 ≠ 0 then zD a.sexes.length 1 3 else
  yK (a.sexes.map fun s=>if !inB s 1 2 then 8 else 0)
def wy (c:Chart) (a:Ask):Int:=if wB c ≠ 0 then wB c else xh c a
end Go.Sym.B
namespace Go.Sym.B
open Go Go.Sym Go.Proofs Go.Sym.C
def QcZ:=kk @ty3 @ti3.eq_1
def Y2:=kk @aI.eq_1 (@aB.eq_1)
theorem in_fn (n a b:Int):FnV Try.prog 91 [aI n,aI a,aI b] (aB (inB n a b)):=by
  have env:Env (fun _=>True) Try.prog tyB (tab []):=qM trivial
  refine Fn.of (A:=fun _=>True) (n0:=0) (D:=noD) (Fn0 Try.func91 rfl (fun vs w=>by kernel_rfl) (by kernel_rfl)) (by simp) (by simp [AV.ids,aI]) (fun i o h=>by cases h) (fun _ _ _ _=>trivial) qH ?_
  repeat' (first|(apply nx;with_reducible constructor)|refine jq (by decide) ?_|((first|refine kz env fun Q hQ=>?_|refine kj fun Q hQ=>?_);simp only [vkt,seval,QcZ,Y2,aTk,cTk,qa,qb];(try simp only [ite_and]);(repeat' (first|with_reducible assumption|refine And.intro ?_ ?_|intro hp));all_goals (first|(refine hQ _ ?_;clear hQ Q)|(refine hQ _ (fun h=>?_) (fun h=>?_) <;> clear hQ Q <;> (try simp only [vki,reduceCtorEq] at h))|(refine kx ?_;kernel_rfl)|omega|assumption|with_reducible rfl|skip)))
  all_goals (simp only [vrt,Try.results91,vkt,seval,QcZ,Y2,aTk,cTk,qa,qb];refine Fin.val rfl ?_;(try simp only [AV.le,AV.leL]))
  all_goals simp [inB, *]
def sin:List AV→Prop × AV
  |[.v (.int .i64 n),.v (.int .i64 a),.v (.int .i64 b)]=>(True,aB (inB n a b))
  |_=>(False,.junk)
theorem ein {A:Frm→Prop}:qC A Try.prog 91 (zk true sin):=zn fun vs hv h=>by
  clear hv
  unfold sin at h ⊢
  split at h
  · rename_i n a b;clear h
    refine ⟨by first|trivial|(simp [AV.plain,AV.plainL,aI,aB,qA,qc,qx,ql,aTk,cTk];done)|(repeat' split) <;> simp [AV.plain,AV.plainL,aI,aB,qA,qc,qx,ql,aTk,cTk],fun _=>(by simp [AV.flat,AV.flatL,aI,aB]), ?_⟩
    have:=in_fn n a b
    simp only [aI] at this
    first|exact this|(simp only [aI];exact this)
  · exact h.elim
def YA:=kk @ty3 @ti3.eq_1
theorem QbX (n a b:Int):FnV Try.prog 101 [aI n,aI a,aI b] (aI (zD n a b)):=by
  have env:Env (fun _=>True) Try.prog tyB (tab []):=qM trivial
  refine Fn.of (A:=fun _=>True) (n0:=0) (D:=noD) (Fn0 Try.func101 rfl (fun vs w=>by kernel_rfl) (by kernel_rfl)) (by simp) (by simp [AV.ids,aI]) (fun i o h=>by cases h) (fun _ _ _ _=>trivial) qH ?_
  repeat' (first|(apply nx;with_reducible constructor)|refine jq (by decide) ?_|((first|refine kz env fun Q hQ=>?_|refine kj fun Q hQ=>?_);simp only [vkt,seval,YA,Y2,aTk,cTk,qa,qb];(try simp only [ite_and]);(repeat' (first|with_reducible assumption|refine And.intro ?_ ?_|intro hp));all_goals (first|(refine hQ _ ?_;clear hQ Q)|(refine hQ _ (fun h=>?_) (fun h=>?_) <;> clear hQ Q <;> (try simp only [vki,reduceCtorEq] at h))|(refine kx ?_;kernel_rfl)|omega|assumption|with_reducible rfl|skip)))
  all_goals (simp only [vrt,Try.results101,vkt,seval,YA,Y2,aTk,cTk,qa,qb];refine Fin.val rfl ?_;(try simp only [AV.le,AV.leL]))
  all_goals (unfold zD;simp [*])
  all_goals omega
def qJ:List AV→Prop × AV
  |[.v (.int .i64 n),.v (.int .i64 a),.v (.int .i64 b)]=>(True,aI (zD n a b))
  |_=>(False,.junk)
theorem XV {A:Frm→Prop}:qC A Try.prog 101 (zk true qJ):=zn fun vs hv h=>by
  clear hv
  unfold qJ at h ⊢
  split at h
  · rename_i n a b;clear h
    refine ⟨by first|trivial|(simp [AV.plain,AV.plainL,aI,aB,qA,qc,qx,ql,aTk,cTk];done)|(repeat' split) <;> simp [AV.plain,AV.plainL,aI,aB,qA,qc,qx,ql,aTk,cTk],fun _=>(by simp [AV.flat,AV.flatL,aI,aB]), ?_⟩
    have:=QbX n a b
    simp only [aI] at this
    first|exact this|(simp only [aI];exact this)
  · exact h.elim
def KS:=kk @ty3 (kk @xy (kk @ti3.eq_1 @vW.eq_1))
theorem Qik (a b:Tk):FnV Try.prog 141 [aTk a,aTk b] (aB (QE a b)):=by
  have env:Env (fun _=>True) Try.prog tyB (tab []):=qM trivial
  refine Fn.of (A:=fun _=>True) (n0:=0) (D:=noD) (Fn0 Try.func141 rfl (fun vs w=>by kernel_rfl) (by kernel_rfl)) (by simp) (by simp [AV.ids,AV.idsL,aTk,cTk]) (fun i o h=>by cases h) (fun _ _ _ _=>trivial) qH ?_
  repeat' (first|(apply nx;with_reducible constructor)|refine jq (by decide) ?_|((first|refine kz env fun Q hQ=>?_|refine kj fun Q hQ=>?_);simp only [vkt,seval,KS,Y2,aTk,cTk,qa,qb];(try simp only [ite_and]);(repeat' (first|with_reducible assumption|refine And.intro ?_ ?_|intro hp));all_goals (first|(refine hQ _ ?_;clear hQ Q)|(refine hQ _ (fun h=>?_) (fun h=>?_) <;> clear hQ Q <;> (try simp only [vki,reduceCtorEq] at h))|(refine kx ?_;kernel_rfl)|omega|assumption|with_reducible rfl|skip)))
  all_goals (simp only [vrt,Try.results141,vkt,seval,KS,Y2,aTk,cTk,qa,qb];refine Fin.val rfl ?_;(try simp only [AV.le,AV.leL]))
  all_goals simp [QE, *]
def WB:List AV→Prop × AV
  |[.agg [.v (.int .i64 a0),.v (.int .i64 a1),.v (.int .i64 a2),.v (.int .i64 a3),.v (.int .i64 a4),.v (.int .i64 a5),.v (.bool a6)],.agg [.v (.int .i64 b0),.v (.int .i64 b1),.v (.int .i64 b2),.v (.int .i64 b3),.v (.int .i64 b4),.v (.int .i64 b5),.v (.bool b6)]]=>(True,aB (QE (⟨a0,a1,a2,a3,a4,a5,a6⟩:Tk) (⟨b0,b1,b2,b3,b4,b5,b6⟩:Tk)))
  |_=>(False,.junk)
theorem Qje {A:Frm→Prop}:qC A Try.prog 141 (zk true WB):=zn fun vs hv h=>by
  clear hv
  unfold WB at h ⊢
  split at h
  · rename_i a0 a1 a2 a3 a4 a5 a6 b0 b1 b2 b3 b4 b5 b6;clear h
    refine ⟨by first|trivial|(simp [AV.plain,AV.plainL,aI,aB,qA,qc,qx,ql,aTk,cTk];done)|(repeat' split) <;> simp [AV.plain,AV.plainL,aI,aB,qA,qc,qx,ql,aTk,cTk],fun _=>(by simp [AV.flat,AV.flatL,aI,aB]), ?_⟩
    have:=Qik (⟨a0,a1,a2,a3,a4,a5,a6⟩:Tk) (⟨b0,b1,b2,b3,b4,b5,b6⟩:Tk)
    simp only [aB,aI,aTk,cTk] at this
    first|exact this|(simp only [aB,aI,aTk,cTk];exact this)
  · exact h.elim
def QgN:List AV→Prop × AV
  |[.agg [.v (.int .i64 a0),.v (.int .i64 a1),.v (.int .i64 a2),.v (.int .i64 a3),.v (.int .i64 a4),.v (.int .i64 a5),.v (.bool a6)],.agg [.v (.int .i64 b0),.v (.int .i64 b1),.v (.int .i64 b2),.v (.int .i64 b3),.v (.int .i64 b4),.v (.int .i64 b5),.v (.bool b6)]]=>(True,aB (QE (⟨a0,a1,a2,a3,a4,a5,a6⟩:Tk) (⟨b0,b1,b2,b3,b4,b5,b6⟩:Tk)))
  |_=>(False,.junk)
def QaL:=kk @ty3 (kk @ty4 (kk @kZ (kk @xy (kk @ti3.eq_1 (kk @ti4.eq_1 (kk @xQ.eq_1 @vW.eq_1))))))
def Qfp:=kk @aI.eq_1 (@aB.eq_1)
theorem QkI (a b:Tk):FnV Try.prog 143 [aTk a,aTk b] (aB (ZT a b)):=by
  have env:Env (fun _=>True) Try.prog tyB (tab [(141,zk true WB)]):=qM ⟨Qje,trivial⟩
  refine Fn.of (A:=fun _=>True) (n0:=0) (D:=noD) (Fn0 Try.func143 rfl (fun vs w=>by kernel_rfl) (by kernel_rfl)) (by simp) (by simp [AV.ids,AV.idsL,aTk,cTk]) (fun i o h=>by cases h) (fun _ _ _ _=>trivial) qH ?_
  have em:QE ⟨a.party,a.sex,a.cab,a.bed,a.frm,a.to,a.dog⟩ ⟨b.party,b.sex,b.cab,b.bed,b.frm,b.to,b.dog⟩=QE a b:=rfl
  repeat' (first|(apply nx;with_reducible constructor)|refine jq (by decide) ?_|((first|refine kz env fun Q hQ=>?_|refine kj fun Q hQ=>?_);simp only [vkt,seval,QaL,Qfp,aTk,cTk,WB,QgN,em];(try simp only [ite_and]);(repeat' (first|with_reducible assumption|refine And.intro ?_ ?_|intro hp));all_goals (first|(refine hQ _ ?_;clear hQ Q)|(refine hQ _ (fun h=>?_) (fun h=>?_) <;> clear hQ Q <;> (try simp only [vki,reduceCtorEq] at h))|(refine kx ?_;kernel_rfl)|omega|assumption|with_reducible rfl|skip)))
  all_goals (simp only [vrt,Try.results143,vkt,seval,QaL,Qfp,aTk,cTk,WB,QgN];refine Fin.val rfl ?_;(try simp only [AV.le,AV.leL]))
  all_goals first|(simp [ZT, *];done)|(simp_all [ZT];done)
def RP:List AV→Prop × AV
  |[.agg [.v (.int .i64 a0),.v (.int .i64 a1),.v (.int .i64 a2),.v (.int .i64 a3),.v (.int .i64 a4),.v (.int .i64 a5),.v (.bool a6)],.agg [.v (.int .i64 b0),.v (.int .i64 b1),.v (.int .i64 b2),.v (.int .i64 b3),.v (.int .i64 b4),.v (.int .i64 b5),.v (.bool b6)]]=>(True,aB (ZT (⟨a0,a1,a2,a3,a4,a5,a6⟩:Tk) (⟨b0,b1,b2,b3,b4,b5,b6⟩:Tk)))
  |_=>(False,.junk)
theorem etog {A:Frm→Prop}:qC A Try.prog 143 (zk true RP):=zn fun vs hv h=>by
  clear hv
  unfold RP at h ⊢
  split at h
  · rename_i a0 a1 a2 a3 a4 a5 a6 b0 b1 b2 b3 b4 b5 b6;clear h
    refine ⟨by first|trivial|(simp [AV.plain,AV.plainL,aI,aB,qA,qc,qx,ql,aTk,cTk];done)|(repeat' split) <;> simp [AV.plain,AV.plainL,aI,aB,qA,qc,qx,ql,aTk,cTk],fun _=>(by simp [AV.flat,AV.flatL,aI,aB]), ?_⟩
    have:=QkI (⟨a0,a1,a2,a3,a4,a5,a6⟩:Tk) (⟨b0,b1,b2,b3,b4,b5,b6⟩:Tk)
    simp only [aB,aI,aTk,cTk] at this
    first|exact this|(simp only [aB,aI,aTk,cTk];exact this)
  · exact h.elim
def Qat:=kk @ty3 (kk @vg (kk @ti3.eq_1 @yI.eq_1))
def QgT:=kk @aI.eq_1 (@aB.eq_1)
theorem QjS (c:Chart) (a b:Int):FnV Try.prog 92 [qa c,aI a,aI b] (aI (WH c.secs a b)):=by
  have env:Env (fun _=>True) Try.prog tyB (tab []):=qM trivial
  refine Fn.of (A:=fun _=>True) (n0:=0) (D:=noD) (Fn0 Try.func92 rfl (fun vs w=>by kernel_rfl) (by kernel_rfl)) (by simp) (by simp [AV.ids,AV.idsL,aI,qa,qb]) (fun i o h=>by cases h) (fun _ _ _ _=>trivial) qH ?_
  repeat' (first|(apply nx;with_reducible constructor)|refine jq (by decide) ?_|((first|refine kz env fun Q hQ=>?_|refine kj fun Q hQ=>?_);simp only [vkt,seval,Qat,QgT,qa,qb];(try simp only [ite_and]);(repeat' (first|with_reducible assumption|refine And.intro ?_ ?_|intro hp));all_goals (first|(refine hQ _ ?_;clear hQ Q)|(refine hQ _ (fun h=>?_) (fun h=>?_) <;> clear hQ Q <;> (try simp only [vki,reduceCtorEq] at h))|(refine kx ?_;kernel_rfl)|omega|assumption|with_reducible rfl|skip)))
  all_goals (simp only [vrt,Try.results92,vkt,seval,Qat,QgT,qa,qb];refine Fin.val rfl ?_;(try simp only [AV.le,AV.leL]))
  all_goals (unfold WH;simp [*])
  all_goals omega
def xf:List AV→Prop × AV
  |[.agg [.sl c0,.v (.int .i64 c1),.sl c2],.v (.int .i64 a),.v (.int .i64 b)]=>(c0=(c0.map qB).map qo∧c2=(c2.map dTk).map eTk,aI (WH c1 a b))
  |_=>(False,.junk)
theorem eway {A:Frm→Prop}:qC A Try.prog 92 (zk true xf):=zn fun vs hv h=>by
  clear hv
  unfold xf at h ⊢
  split at h
  · rename_i c0 c1 c2 a b;obtain ⟨q0,q1⟩:=h
    refine ⟨by first|trivial|(simp [AV.plain,AV.plainL,aI,aB,qA,qc,qx,ql,aTk,cTk];done)|(repeat' split) <;> simp [AV.plain,AV.plainL,aI,aB,qA,qc,qx,ql,aTk,cTk],fun _=>(by simp [AV.flat,AV.flatL,aI,aB]), ?_⟩
    have:=QjS ⟨c0.map qB,c1,c2.map dTk⟩ a b
    simp only [zR,qa,aI,qx,qb,← q0,← q1] at this
    first|exact this|(simp only [zR,qa,aI,qx,qb,← q0,← q1];exact this)
  · exact h.elim
end Go.Sym.B
namespace Go.Sym.B
open Go Go.Sym Go.Proofs Go.Sym.C
theorem QbM {α β:Type} (f:α→List β) (d:β) (da:α):∀ (l:List α) (i k:Nat),i < l.length→k < (f (l.getD i da)).length→(l.flatMap f).getD (((l.take i).map fun a=>(f a).length).sum+k) d=(f (l.getD i da)).getD k d
  |[],i,_,h,_=>by simp at h
  |a :: l,0,k,_,hk=>by
    have hk:k < (f a).length:=hk
    rw [List.flatMap_cons,List.take_zero,List.map_nil,List.sum_nil,Nat.zero_add,List.getD_eq_getElem?_getD,List.getElem?_append_left hk,← List.getD_eq_getElem?_getD]
    rfl
  |a :: l,i+1,k,h,hk=>by
    have ih:=QbM f d da l i k (by simpa using h) (by simpa using hk)
    rw [List.flatMap_cons,List.take_succ_cons,List.map_cons,List.sum_cons,List.getD_eq_getElem?_getD,List.getElem?_append_right (by omega),← List.getD_eq_getElem?_getD,show (f a).length+((l.take i).map fun a=>(f a).length).sum+k - (f a).length=((l.take i).map fun a=>(f a).length).sum+k by omega,ih]
    rfl
theorem Qge {α β:Type} (f:α→List β) (l:List α):(l.flatMap f).length=(l.map fun a=>(f a).length).sum:=by
  rw [List.length_flatMap]
theorem Ym {g:List Nat} {i:Nat} (h:i < g.length):(g.take (i+1)).sum=(g.take i).sum+g.getD i 0:=by
  rw [List.take_succ_eq_append_getElem h,List.sum_append]
  simp [List.getD_eq_getElem?_getD,h]
theorem Qy {g:List Nat}:∀ {i j:Nat},i≤j→(g.take i).sum≤(g.take j).sum:=by
  induction g with
  |nil=>simp
  |cons a g ih =>
    intro i j h
    cases i with
    |zero=>simp
    |succ i =>
      cases j with
      |zero=>omega
      |succ j =>
        simp only [List.take_succ_cons,List.sum_cons]
        have:=ih (show i≤j by omega)
        omega
theorem LG:∀ (g:List Nat) (q:Nat),q < g.sum→∃ i,i < g.length∧(g.take i).sum≤q∧q < (g.take (i+1)).sum
  |[],q,h=>by simp at h
  |a :: g,q,h=>by
    rw [List.sum_cons] at h
    by_cases h1:q < a
    · exact ⟨0,by simp,by simp,by simpa using h1⟩
    · obtain ⟨i,h2,h3,h4⟩:=LG g (q - a) (by omega)
      refine ⟨i+1,by simpa using h2, ?_, ?_⟩
      · rw [List.take_succ_cons,List.sum_cons];omega
      · rw [List.take_succ_cons,List.sum_cons];omega
def Qz (ans:Nat→Bool) (R:Nat):Bool:=decide (R=0) || ans (R - 1)
theorem nest (g:List Nat) {ans:Nat→Bool} {R:Nat} (h:Rounds ans R g.sum):∃ (RB:Nat) (ansB:Nat→Bool),Rounds ansB RB g.length ∧
    (∀ i,i < RB→(g.take i).sum≤R∧Rounds (fun j=>ans ((g.take i).sum+j)) (min (g.getD i 0) (R - (g.take i).sum)) (g.getD i 0)∧ansB i=Qz (fun j=>ans ((g.take i).sum+j)) (min (g.getD i 0) (R - (g.take i).sum)) ∧
      min (g.take (i+1)).sum R=(g.take i).sum+min (g.getD i 0) (R - (g.take i).sum))∧min (g.take RB).sum R=R∧Qz ans R=Qz ansB RB:=by
  have hle:=h.le
  by_cases hB:0 < R∧ans (R - 1)=false
  · obtain ⟨hR,hf⟩:=hB
    obtain ⟨i,hi,h1,h2⟩:=LG g (R - 1) (by omega)
    refine ⟨i+1,fun k=>decide (k ≠ i),⟨hi,fun j hj=>by simp;omega,fun _=>⟨by omega,by simp⟩⟩,fun k hk=>?_,by omega, ?_⟩
    · have hkl:k < g.length:=by omega
      have ho:=Qy (g:=g) (show k≤i by omega)
      have hs:=Ym hkl
      have hoR:(g.take k).sum≤R:=by omega
      refine ⟨hoR,⟨Nat.min_le_left _ _,fun j hj=>h.yes _ (by omega),fun hlt=>⟨by omega, ?_⟩⟩, ?_,by omega⟩
      · show ans _=false
        rw [show (g.take k).sum+(min (g.getD k 0) (R - (g.take k).sum) - 1)=R - 1 by omega];exact hf
      · by_cases hki:k=i
        · subst hki
          have e:(g.take k).sum+(min (g.getD k 0) (R - (g.take k).sum) - 1)=R - 1:=by omega
          have e0:¬ min (g.getD k 0) (R - (g.take k).sum)=0:=by omega
          simp only [Qz,e,hf,e0,ne_eq,not_true_eq_false,decide_false,Bool.or_self]
        · have h3:=Qy (g:=g) (show k+1≤i by omega)
          have e1:min (g.getD k 0) (R - (g.take k).sum)=g.getD k 0:=by omega
          rw [e1]
          by_cases h0:g.getD k 0=0
          · simp [-List.getD_eq_getElem?_getD,Qz,h0,hki]
          · have:=h.yes ((g.take k).sum+(g.getD k 0 - 1)) (by omega)
            simp [-List.getD_eq_getElem?_getD,Qz,h0,hki,this]
    · simp [Qz,hf,show ¬ R=0 by omega]
  · have hRN:R=g.sum:=by
      refine Nat.le_antisymm hle (Nat.le_of_not_lt fun hlt=>?_)
      exact hB (h.stop hlt)
    have hall:∀ j,j < R→ans j=true:=fun j hj=>by
      by_cases hj1:j+1 < R
      · exact h.yes j hj1
      · have:j=R - 1:=by omega
        subst this
        cases ha:ans (R - 1) with
        |true=>rfl
        |false=>exact absurd ⟨by omega,ha⟩ hB
    have hfull:(g.take g.length).sum=g.sum:=by rw [List.take_length]
    refine ⟨g.length,fun _=>true,⟨Nat.le_refl _,fun _ _=>rfl,fun h=>absurd h (Nat.lt_irrefl _)⟩,fun k hk=>?_,by omega, ?_⟩
    · have hs:=Ym hk
      have h3:=Qy (g:=g) (show k+1≤g.length by omega)
      have e1:min (g.getD k 0) (R - (g.take k).sum)=g.getD k 0:=by omega
      refine ⟨by omega, ?_, ?_,by omega⟩
      · rw [e1]
        exact ⟨Nat.le_refl _,fun j hj=>hall _ (by omega),fun h=>absurd h (Nat.lt_irrefl _)⟩
      · rw [e1]
        by_cases h0:g.getD k 0=0
        · simp [-List.getD_eq_getElem?_getD,Qz,h0]
        · simp [-List.getD_eq_getElem?_getD,Qz,h0,hall ((g.take k).sum+(g.getD k 0 - 1)) (by omega)]
    · by_cases h0:R=0
      · simp [Qz,h0]
      · simp [Qz,hall (R - 1) (by omega)]
def ZB (cs:List Cabin):List Nat:=cs.map fun x=>x.beds.toNat
theorem Yi (cs:List Cabin):qV cs=(List.range cs.length).flatMap fun i=>(List.range (cs.getD i default).beds.toNat).map fun (k:Nat)=>(⟨(i:Int),(k:Int)⟩:Bunk):=rfl
theorem L8 (cs:List Cabin) {i:Nat} (hi:i≤cs.length):(((List.range cs.length).take i).map fun (j:Nat)=>(List.map (fun (k:Nat)=>(⟨(j:Int),(k:Int)⟩:Bunk)) (List.range (cs.getD j default).beds.toNat)).length)=(ZB cs).take i:=by
  apply List.ext_getElem
  · simp [ZB]
  · intro n h1 h2
    simp only [List.length_map,List.length_take,List.length_range] at h1
    have hn:n < cs.length:=by omega
    simp [ZB,List.getD_eq_getElem?_getD,hn]
theorem K8 (cs:List Cabin):(qV cs).length=(ZB cs).sum:=by
  rw [Yi,Qge]
  have:=L8 cs (Nat.le_refl cs.length)
  rw [List.take_of_length_le (by simp),List.take_of_length_le (by simp [ZB])] at this
  rw [this]
theorem Qeb {cs:List Cabin} {i k:Nat} (hi:i < cs.length) (hk:k < (cs.getD i default).beds.toNat):(qV cs).getD (((ZB cs).take i).sum+k) default=⟨(i:Int),(k:Int)⟩:=by
  have hr:(List.range cs.length).getD i 0=i:=by simp [List.getD_eq_getElem?_getD,hi]
  have:=QbM (fun i=>(List.range (cs.getD i default).beds.toNat).map fun (k:Nat)=>(⟨(i:Int),(k:Int)⟩:Bunk)) default 0 (List.range cs.length) i k (by simpa using hi) (by rw [hr];simpa using hk)
  rw [L8 cs (by omega),hr] at this
  rw [Yi,this]
  generalize (cs.getD i default).beds.toNat=m at hk ⊢
  simp [List.getD_eq_getElem?_getD,hk]
theorem XC {cs:List Cabin} {b:Bunk}:b ∈ qV cs ↔ ∃ i k:Nat,i < cs.length∧k < (cs.getD i default).beds.toNat∧b=⟨(i:Int),(k:Int)⟩:=by
  rw [Yi,List.mem_flatMap]
  constructor
  · rintro ⟨i,hi,hb⟩
    obtain ⟨k,hk,rfl⟩:=List.mem_map.1 hb
    exact ⟨i,k,List.mem_range.1 hi,List.mem_range.1 hk,rfl⟩
  · rintro ⟨i,k,hi,hk,rfl⟩
    exact ⟨i,List.mem_range.2 hi,List.mem_map.2 ⟨k,List.mem_range.2 hk,rfl⟩⟩
theorem Qiz {cs:List Cabin} {i:Nat} (hi:i < cs.length):(ZB cs).getD i 0=(cs.getD i default).beds.toNat:=by
  simp [ZB,List.getD_eq_getElem?_getD,hi]
end Go.Sym.B
namespace Go.Sym.B
open Go Go.Sym Go.Proofs Go.Sym.C
def LJ (p:Tk→Bool) (l:List Tk):Int:=match l.findIdx? p with
  |some i=>(i:Int)
  |none=>-1
theorem Qfz {p:Tk→Bool} {l:List Tk} {k:Nat} (hk:k < l.length) (h:∀ j,j < k→p (l.getD j default)=false) (hp:p (l.getD k default)=true):LJ p l=(k:Int):=by
  have:l.findIdx? p=some k:=by
    rw [List.findIdx?_eq_some_iff_getElem]
    refine ⟨hk,by simpa [List.getD_eq_getElem?_getD,hk] using hp,fun j hj=>?_⟩
    have:=h j hj
    simpa [List.getD_eq_getElem?_getD,show j < l.length by omega] using this
  simp [LJ,this]
theorem Qem {p:Tk→Bool} {l:List Tk} (h:∀ j,j < l.length→p (l.getD j default)=false):LJ p l=-1:=by
  have:l.findIdx? p=none:=by
    rw [List.findIdx?_eq_none_iff]
    intro x hx
    obtain ⟨j,hj,rfl⟩:=List.mem_iff_getElem.1 hx
    have:=h j hj
    simpa [List.getD_eq_getElem?_getD,hj] using this
  simp [LJ,this]
theorem Qfy (p:Tk→Bool) (l:List Tk):decide (0≤LJ p l)=l.any p:=by
  unfold LJ
  cases h:l.findIdx? p with
  |none =>
    rw [List.findIdx?_eq_none_iff] at h
    symm
    simpa using h
  |some i =>
    rw [List.findIdx?_eq_some_iff_getElem] at h
    obtain ⟨hi,hp,_⟩:=h
    symm
    simp only [Int.natCast_nonneg,decide_true,List.any_eq_true]
    exact ⟨_,List.getElem_mem hi,hp⟩
structure PCs (cs:List AV):Prop where
  ids:AV.idsL cs=[]
  le:∀ h σ,AV.leL h σ cs cs=True
  ren:∀ τ,AV.renL τ cs=cs
theorem QgP (t:Tk):PCs (cTk t):=⟨by simp [cTk,AV.idsL,AV.ids],by simp [cTk,AV.leL,AV.le],by simp [cTk,AV.renL,AV.ren]⟩
def pTk (cs:List AV) (p:Tk→Bool) (S:St):List AV→Option Pk
  |[.agg [.v (.int .i64 a),.v (.int .i64 b),.v (.int .i64 c),.v (.int .i64 d),.v (.int .i64 e),.v (.int .i64 f),.v (.bool g)],.ptr t 0]=>match S.h t with
    |some (.cells cs')=>some { pre:=cs'=cs,hs:=[t],ar:=[.agg [.v (.int .i64 a),.v (.int .i64 b),.v (.int .i64 c),.v (.int .i64 d),.v (.int .i64 e),.v (.int .i64 f),.v (.bool g)],.ptr 0 0],L0:=[.cells cs],v:=aB (p ⟨a,b,c,d,e,f,g⟩),L1:=[some (.cells cs)] }
    |_=>none
  |_=>none
def JR (cl:Nat) (cs:List AV) (p:Tk→Bool):Prop:=∀ x,Fn noB Try.prog cl [aTk x,.ptr 0 0] (qg [(0,.cells cs)]) (aB (p x)) (qg [(0,.cells cs)]) 0
theorem eTkp {A:Frm→Prop} {cl:Nat} {cs:List AV} {p:Tk→Bool} (h0:JR cl cs p):qC A Try.prog cl (fnE (pTk cs p)):=zx fun S bs q h hp=>by
  unfold pTk at h
  split at h
  · split at h
    · rename_i a b c d e f g t _ cs' _
      cases h
      exact h0 ⟨a,b,c,d,e,f,g⟩
    · cases h
  · cases h
def ixS (l:List Tk) (cl:Nat) (cs:List AV) (k:Nat):St:={ t:=asg [(0,qx l),(1,.clo cl [.ptr 0 0]),(4,aI 0),(6,qx l),(7,aI l.length),(8,aI k)],h:=qg [(0,.cells cs)],n:=1,m:=1 }
def jP:=kk @ty3 (kk @Zb (kk @xy (kk @ti3.eq_1 (kk @Qx.eq_1 @vW.eq_1))))
def QK:=kk @aI.eq_1 (kk @aB.eq_1 (@ixS.eq_1))
theorem QgJ {cl:Nat} {cs:List AV} {p:Tk→Bool} (hc:PCs cs) (h0:JR cl cs p) (l:List Tk) (hl:l.length≤100):Fn noB Try.prog 126 [qx l,.clo cl [.ptr 0 0]] (qg [(0,.cells cs)]) (aI (LJ p l)) (qg [(0,.cells cs)]) 0:=by
  have env:Env (fun _=>True) Try.prog tyB (tab [(cl,fnE (pTk cs p))]):=qM ⟨eTkp h0,trivial⟩
  obtain ⟨c1,c2,c4⟩:=hc
  refine Fn.of (A:=fun _=>True) (n0:=1) (D:=noD) (Fn0 Try.func126 rfl (fun vs w=>by kernel_rfl) (by kernel_rfl)) (by simp) (by simp [AV.ids,AV.idsL,qx]) ?_ (fun _ _ _ _=>trivial) qH ?_
  · intro i o hi
    have h:=qL hi
    simp at h;obtain ⟨rfl,rfl⟩:=h;simp [AObj.ids,c1]
  repeat' (first|(apply nx;with_reducible constructor)|refine jq (by decide) ?_|((first|refine kz env fun Q hQ=>?_|refine kj fun Q hQ=>?_);simp only [vkt,seval,jP,QK,aTk,cTk,qx,eTk,gTk,mTk,pTk];(try simp only [ite_and]);(repeat' (first|with_reducible assumption|refine And.intro ?_ ?_|intro hp));all_goals (first|(refine hQ _ ?_;clear hQ Q)|(refine hQ _ (fun h=>?_) (fun h=>?_) <;> clear hQ Q <;> (try simp only [vki,reduceCtorEq] at h))|(refine kx ?_;kernel_rfl)|omega|assumption|with_reducible rfl|skip)))
  refine qU (fun k:{ k:Nat // k≤l.length∧∀ j,j < k→p (l.getD j default)=false }=>ixS l cl cs k.1) (fun k=>l.length - k.1) ⟨0,Nat.zero_le _,fun j h=>absurd h (Nat.not_lt_zero _)⟩ ?_ fun ⟨k,hk,hno⟩=>?_
  · (refine Le.ok some [] ?_;constructor;all_goals (try simp only [vle,vkt,seval,jP,QK,aTk,cTk,qx,eTk,gTk,mTk,pTk]))
    all_goals first|rfl|(simp [c1,c2];done)
  · repeat' (first|(apply nx;with_reducible constructor)|refine jq (by decide) ?_)
    (refine kz env fun Q hQ=>?_;simp only [vkt,seval,jP,QK,aTk,cTk,qx,eTk,gTk,mTk,pTk];(try simp only [ite_and]);(repeat' (first|with_reducible assumption|refine And.intro ?_ ?_|intro hp));all_goals (first|(refine hQ _ ?_;clear hQ Q)|(refine kx ?_;kernel_rfl)|omega|assumption|with_reducible rfl|skip))
    repeat' (first|(apply nx;with_reducible constructor)|refine jq (by decide) ?_)
    (refine yF (by simp only [vkt,seval,jP,QK,aTk,cTk,qx,eTk,gTk,mTk,pTk];rfl) (fun h=>?_) (fun h=>?_) <;> (try simp only [vki,reduceCtorEq] at h))
    · have hlt:k < l.length:=by omega
      have e9:IntKind.wrap .i64 ((k:Int)+1)=((k+1:Nat):Int):=by rw [wrap64 (by omega) (by omega)];rfl
      obtain ⟨x,hx⟩:∃ x,l.getD k default=x:=⟨_,rfl⟩
      have ex:(⟨x.party,x.sex,x.cab,x.bed,x.frm,x.to,x.dog⟩:Tk)=x:=rfl
      cases hp:p x
      · repeat' (first|(apply nx;with_reducible constructor)|refine jq (by decide) ?_|((first|refine kz env fun Q hQ=>?_|refine kj fun Q hQ=>?_);simp only [vkt,seval,jP,QK,aTk,cTk,qx,eTk,gTk,mTk,pTk,hx,ex,hp,e9,c1,c2,c4];(try simp only [ite_and]);(repeat' (first|with_reducible assumption|refine And.intro ?_ ?_|intro hp));all_goals (first|(refine hQ _ ?_;clear hQ Q)|(refine hQ _ (fun h=>?_) (fun h=>?_) <;> clear hQ Q <;> (try simp only [vki,reduceCtorEq] at h))|(refine kx ?_;kernel_rfl)|omega|assumption|with_reducible rfl|skip)))
        refine ⟨⟨k+1,hlt,fun j hj=>?_⟩,by show l.length - (k+1) < l.length - k;omega, ?_⟩
        · rcases Nat.lt_or_eq_of_le (Nat.le_of_lt_succ hj) with h1|h1
          · exact hno j h1
          · rw [h1,hx];exact hp
        · (refine Le.ok some [] ?_;constructor;all_goals (try simp only [vle,vkt,seval,jP,QK,aTk,cTk,qx,eTk,gTk,mTk,pTk]))
          all_goals first|rfl|(simp [c1,c2];done)
      · have hh:=Qfz hlt hno (by rw [hx];exact hp)
        rw [hh]
        repeat' (first|(apply nx;with_reducible constructor)|refine jq (by decide) ?_|((first|refine kz env fun Q hQ=>?_|refine kj fun Q hQ=>?_);simp only [vkt,seval,jP,QK,aTk,cTk,qx,eTk,gTk,mTk,pTk,hx,ex,hp,e9,c1,c2,c4];(try simp only [ite_and]);(repeat' (first|with_reducible assumption|refine And.intro ?_ ?_|intro hp));all_goals (first|(refine hQ _ ?_;clear hQ Q)|(refine hQ _ (fun h=>?_) (fun h=>?_) <;> clear hQ Q <;> (try simp only [vki,reduceCtorEq] at h))|(refine kx ?_;kernel_rfl)|omega|assumption|with_reducible rfl|skip)))
        (simp only [vrt,Try.results126,c1,c2,vkt,seval,jP,QK,aTk,cTk,qx,eTk,gTk,mTk,pTk];refine Fin.ok some [] ?_ ?_ ?_ ?_ ?_ rfl;all_goals (try simp only [vle,vkt,seval,jP,QK,aTk,cTk,qx,eTk,gTk,mTk,pTk]))
        all_goals first|rfl|(simp [c1,c2];done)
    · have hke:k=l.length:=by omega
      subst hke
      rw [Qem hno]
      repeat' (first|(apply nx;with_reducible constructor)|refine jq (by decide) ?_|((first|refine kz env fun Q hQ=>?_|refine kj fun Q hQ=>?_);simp only [vkt,seval,jP,QK,aTk,cTk,qx,eTk,gTk,mTk,pTk,c1,c2];(try simp only [ite_and]);(repeat' (first|with_reducible assumption|refine And.intro ?_ ?_|intro hp));all_goals (first|(refine hQ _ ?_;clear hQ Q)|(refine hQ _ (fun h=>?_) (fun h=>?_) <;> clear hQ Q <;> (try simp only [vki,reduceCtorEq] at h))|(refine kx ?_;kernel_rfl)|omega|assumption|with_reducible rfl|skip)))
      (simp only [vrt,Try.results126,c1,c2,vkt,seval,jP,QK,aTk,cTk,qx,eTk,gTk,mTk,pTk];refine Fin.ok some [] ?_ ?_ ?_ ?_ ?_ rfl;all_goals (try simp only [vle,vkt,seval,jP,QK,aTk,cTk,qx,eTk,gTk,mTk,pTk]))
      all_goals first|rfl|(simp [c1,c2];done)
def QdV (cl:Nat) (cs:List AV) (p:Tk→Bool) (S:St):List AV→Option Pk
  |[.sl xs,.clo f [.ptr t 0]]=>match S.h t with
    |some (.cells cs')=>some { pre:=f=cl∧cs'=cs∧xs=(xs.map dTk).map eTk∧xs.length≤100,hs:=[t],ar:=[.sl xs,.clo cl [.ptr 0 0]],L0:=[.cells cs],v:=aI (LJ p (xs.map dTk)),L1:=[some (.cells cs)] }
    |_=>none
  |_=>none
theorem eIdx {A:Frm→Prop} {cl:Nat} {cs:List AV} {p:Tk→Bool} (hc:PCs cs) (h0:JR cl cs p):qC A Try.prog 126 (fnE (QdV cl cs p)):=zx fun S bs q h hp=>by
  unfold QdV at h
  split at h
  · split at h
    · cases h
      obtain ⟨_,_,h1,h2⟩:=hp
      have:=QgJ hc h0 (List.map dTk _) (by rw [List.length_map];exact h2)
      rw [qx,← h1] at this
      exact this
    · cases h
  · cases h
def Vb:=kk @ty3 @ti3.eq_1
def Qcj:=kk @aI.eq_1 (@aB.eq_1)
theorem R3 {cl:Nat} {cs:List AV} {p:Tk→Bool} (hc:PCs cs) (h0:JR cl cs p) (l:List Tk) (hl:l.length≤100):Fn noB Try.prog 127 [qx l,.clo cl [.ptr 0 0]] (qg [(0,.cells cs)]) (aB (l.any p)) (qg [(0,.cells cs)]) 0:=by
  have env:Env (fun _=>True) Try.prog tyB (tab [(126,fnE (QdV cl cs p))]):=qM ⟨eIdx hc h0,trivial⟩
  obtain ⟨c1,c2,c4⟩:=hc
  refine Fn.of (A:=fun _=>True) (n0:=1) (D:=noD) (Fn0 Try.func127 rfl (fun vs w=>by kernel_rfl) (by kernel_rfl)) (by simp) (by simp [AV.ids,AV.idsL,qx]) ?_ (fun _ _ _ _=>trivial) qH ?_
  · intro i o hi
    have h:=qL hi
    simp at h;obtain ⟨rfl,rfl⟩:=h;simp [AObj.ids,c1]
  repeat' (first|(apply nx;with_reducible constructor)|refine jq (by decide) ?_|((first|refine kz env fun Q hQ=>?_|refine kj fun Q hQ=>?_);simp only [vkt,seval,Vb,Qcj,qx,eTk,mTk,QdV,List.length_map,c1,c2,c4];(try simp only [ite_and]);(repeat' (first|with_reducible assumption|refine And.intro ?_ ?_|intro hp));all_goals (first|(refine hQ _ ?_;clear hQ Q)|(refine hQ _ (fun h=>?_) (fun h=>?_) <;> clear hQ Q <;> (try simp only [vki,reduceCtorEq] at h))|(refine kx ?_;kernel_rfl)|omega|assumption|with_reducible rfl|skip)))
  (simp only [vrt,Try.results127,Qfy,c1,c2,vkt,seval,Vb,Qcj,qx,eTk,mTk,QdV,List.length_map];refine Fin.ok some [] ?_ ?_ ?_ ?_ ?_ rfl;all_goals (try simp only [vle,vkt,seval,Vb,Qcj,qx,eTk,mTk,QdV,List.length_map]))
  all_goals first|rfl|(simp [c1,c2];done)
def YU:=kk @kZ (kk @xy (kk @xQ.eq_1 @vW.eq_1))
def Y0:=kk @aI.eq_1 (@aB.eq_1)
theorem QiK (t:Tk):JR 140 (cTk t) (vY t):=fun x=>by
  have env:Env (fun _=>True) Try.prog tyB (tab [(141,zk true WB)]):=qM ⟨Qje,trivial⟩
  refine Fn.of (A:=fun _=>True) (n0:=1) (D:=noD) (Fn0 Try.func140 rfl (fun vs w=>by kernel_rfl) (by kernel_rfl)) (by simp) (by simp [AV.ids,AV.idsL,aTk,cTk]) ?_ (fun _ _ _ _=>trivial) qH ?_
  · intro i o hi
    have h:=qL hi
    simp at h;obtain ⟨rfl,rfl⟩:=h;simp [cTk,AObj.ids,AV.ids,AV.idsL]
  have em:QE ⟨x.party,x.sex,x.cab,x.bed,x.frm,x.to,x.dog⟩ ⟨t.party,t.sex,t.cab,t.bed,t.frm,t.to,t.dog⟩=QE x t:=rfl
  repeat' (first|(apply nx;with_reducible constructor)|refine jq (by decide) ?_|((first|refine kz env fun Q hQ=>?_|refine kj fun Q hQ=>?_);simp only [vkt,seval,YU,Y0,aTk,cTk,WB,RP,em];(try simp only [ite_and]);(repeat' (first|with_reducible assumption|refine And.intro ?_ ?_|intro hp));all_goals (first|(refine hQ _ ?_;clear hQ Q)|(refine hQ _ (fun h=>?_) (fun h=>?_) <;> clear hQ Q <;> (try simp only [vki,reduceCtorEq] at h))|(refine kx ?_;kernel_rfl)|omega|assumption|with_reducible rfl|skip)))
  all_goals (simp only [vrt,Try.results140,vkt,seval,YU,Y0,aTk,cTk,WB,RP];refine Fin.ok some [] ?_ ?_ ?_ ?_ ?_ rfl;all_goals (try simp only [vle,vkt,seval,YU,Y0,aTk,cTk,WB,RP]))
  all_goals first|rfl|(simp [vY, *];done)|(simp_all [vY];done)
def Vg:=kk @xy @vW.eq_1
theorem Qi4 (t:Tk):JR 142 (cTk t) (fun x=>!ZT x t):=fun x=>by
  have env:Env (fun _=>True) Try.prog tyB (tab [(143,zk true RP)]):=qM ⟨etog,trivial⟩
  refine Fn.of (A:=fun _=>True) (n0:=1) (D:=noD) (Fn0 Try.func142 rfl (fun vs w=>by kernel_rfl) (by kernel_rfl)) (by simp) (by simp [AV.ids,AV.idsL,aTk,cTk]) ?_ (fun _ _ _ _=>trivial) qH ?_
  · intro i o hi
    have h:=qL hi
    simp at h;obtain ⟨rfl,rfl⟩:=h;simp [cTk,AObj.ids,AV.ids,AV.idsL]
  have em:ZT ⟨x.party,x.sex,x.cab,x.bed,x.frm,x.to,x.dog⟩ ⟨t.party,t.sex,t.cab,t.bed,t.frm,t.to,t.dog⟩=ZT x t:=rfl
  repeat' (first|(apply nx;with_reducible constructor)|refine jq (by decide) ?_|((first|refine kz env fun Q hQ=>?_|refine kj fun Q hQ=>?_);simp only [vkt,seval,Vg,Y0,aTk,cTk,WB,RP,em];(try simp only [ite_and]);(repeat' (first|with_reducible assumption|refine And.intro ?_ ?_|intro hp));all_goals (first|(refine hQ _ ?_;clear hQ Q)|(refine hQ _ (fun h=>?_) (fun h=>?_) <;> clear hQ Q <;> (try simp only [vki,reduceCtorEq] at h))|(refine kx ?_;kernel_rfl)|omega|assumption|with_reducible rfl|skip)))
  all_goals (simp only [vrt,Try.results142,vkt,seval,Vg,Y0,aTk,cTk,WB,RP];refine Fin.ok some [] ?_ ?_ ?_ ?_ ?_ rfl;all_goals (try simp only [vle,vkt,seval,Vg,Y0,aTk,cTk,WB,RP]))
  all_goals first|rfl|(simp;done)
def Yl (S:St):List AV→Option Pk
  |[.sl xs,.clo 140 [.ptr t 0]]=>match S.h t with
    |some (.cells [.v (.int .i64 a),.v (.int .i64 b),.v (.int .i64 c),.v (.int .i64 d),.v (.int .i64 e),.v (.int .i64 f),.v (.bool g)])=>some { pre:=xs=(xs.map dTk).map eTk∧xs.length≤100,hs:=[t],ar:=[.sl xs,.clo 140 [.ptr 0 0]],L0:=[.cells (cTk ⟨a,b,c,d,e,f,g⟩)],v:=aB ((xs.map dTk).any (vY ⟨a,b,c,d,e,f,g⟩)),L1:=[some (.cells (cTk ⟨a,b,c,d,e,f,g⟩))] }
    |_=>none
  |[.sl xs,.clo 142 [.ptr t 0]]=>match S.h t with
    |some (.cells [.v (.int .i64 a),.v (.int .i64 b),.v (.int .i64 c),.v (.int .i64 d),.v (.int .i64 e),.v (.int .i64 f),.v (.bool g)])=>some { pre:=xs=(xs.map dTk).map eTk∧xs.length≤100,hs:=[t],ar:=[.sl xs,.clo 142 [.ptr 0 0]],L0:=[.cells (cTk ⟨a,b,c,d,e,f,g⟩)],v:=aB ((xs.map dTk).any fun x=>!ZT x ⟨a,b,c,d,e,f,g⟩),L1:=[some (.cells (cTk ⟨a,b,c,d,e,f,g⟩))] }
    |_=>none
  |_=>none
theorem eCont {A:Frm→Prop}:qC A Try.prog 127 (fnE Yl):=zx fun S bs q h hp=>by
  unfold Yl at h
  split at h
  · split at h
    · rename_i xs t _ a b c d e f g _
      cases h
      obtain ⟨h1,h2⟩:=hp
      have:=R3 (QgP ⟨a,b,c,d,e,f,g⟩) (QiK ⟨a,b,c,d,e,f,g⟩) (xs.map dTk) (by rw [List.length_map];exact h2)
      rw [qx,← h1] at this
      exact this
    · cases h
  · split at h
    · rename_i xs t _ a b c d e f g _
      cases h
      obtain ⟨h1,h2⟩:=hp
      have:=R3 (QgP ⟨a,b,c,d,e,f,g⟩) (Qi4 ⟨a,b,c,d,e,f,g⟩) (xs.map dTk) (by rw [List.length_map];exact h2)
      rw [qx,← h1] at this
      exact this
    · cases h
  · cases h
def Vl:=kk @aI.eq_1 (@aB.eq_1)
theorem QeB (t:Tk) (l:List Tk) (hl:l.length≤100):FnV Try.prog 124 [aTk t,qx l] (aI (wo t l)):=by
  have env:Env (fun _=>True) Try.prog tyB (tab [(127,fnE Yl)]):=qM ⟨eCont,trivial⟩
  refine Fn.of (A:=fun _=>True) (n0:=0) (D:=noD) (Fn0 Try.func124 rfl (fun vs w=>by kernel_rfl) (by kernel_rfl)) (by simp) (by simp [AV.ids,AV.idsL,aTk,cTk,qx]) (fun i o h=>by cases h) (fun _ _ _ _=>trivial) qH ?_
  have et:(⟨t.party,t.sex,t.cab,t.bed,t.frm,t.to,t.dog⟩:Tk)=t:=rfl
  cases h1:l.any (vY t)
  · cases h2:l.any (fun x=>!ZT x t)
    · rw [show wo t l=0 by simp [wo,h1,h2]]
      repeat' (first|(apply nx;with_reducible constructor)|refine jq (by decide) ?_|((first|refine kz env fun Q hQ=>?_|refine kj fun Q hQ=>?_);simp only [vkt,seval,Vl,aTk,cTk,qx,eTk,mTk,Yl,List.length_map,et,h1,h2];(try simp only [ite_and]);(repeat' (first|with_reducible assumption|refine And.intro ?_ ?_|intro hp));all_goals (first|(refine hQ _ ?_;clear hQ Q)|(refine hQ _ (fun h=>?_) (fun h=>?_) <;> clear hQ Q <;> (try simp only [vki,reduceCtorEq] at h))|(refine kx ?_;kernel_rfl)|omega|assumption|with_reducible rfl|skip)))
      (simp only [vrt,Try.results124,vkt,seval,Vl,aTk,cTk,qx,eTk,mTk,Yl,List.length_map];refine Fin.val rfl ?_;(try simp only [AV.le,AV.leL]))
      all_goals first|rfl|(simp;done)
    · rw [show wo t l=9 by simp [wo,h1,h2]]
      repeat' (first|(apply nx;with_reducible constructor)|refine jq (by decide) ?_|((first|refine kz env fun Q hQ=>?_|refine kj fun Q hQ=>?_);simp only [vkt,seval,Vl,aTk,cTk,qx,eTk,mTk,Yl,List.length_map,et,h1,h2];(try simp only [ite_and]);(repeat' (first|with_reducible assumption|refine And.intro ?_ ?_|intro hp));all_goals (first|(refine hQ _ ?_;clear hQ Q)|(refine hQ _ (fun h=>?_) (fun h=>?_) <;> clear hQ Q <;> (try simp only [vki,reduceCtorEq] at h))|(refine kx ?_;kernel_rfl)|omega|assumption|with_reducible rfl|skip)))
      (simp only [vrt,Try.results124,vkt,seval,Vl,aTk,cTk,qx,eTk,mTk,Yl,List.length_map];refine Fin.val rfl ?_;(try simp only [AV.le,AV.leL]))
      all_goals first|rfl|(simp;done)
  · rw [show wo t l=4 by simp [wo,h1]]
    repeat' (first|(apply nx;with_reducible constructor)|refine jq (by decide) ?_|((first|refine kz env fun Q hQ=>?_|refine kj fun Q hQ=>?_);simp only [vkt,seval,Vl,aTk,cTk,qx,eTk,mTk,Yl,List.length_map,et,h1];(try simp only [ite_and]);(repeat' (first|with_reducible assumption|refine And.intro ?_ ?_|intro hp));all_goals (first|(refine hQ _ ?_;clear hQ Q)|(refine hQ _ (fun h=>?_) (fun h=>?_) <;> clear hQ Q <;> (try simp only [vki,reduceCtorEq] at h))|(refine kx ?_;kernel_rfl)|omega|assumption|with_reducible rfl|skip)))
    (simp only [vrt,Try.results124,vkt,seval,Vl,aTk,cTk,qx,eTk,mTk,Yl,List.length_map];refine Fin.val rfl ?_;(try simp only [AV.le,AV.leL]))
    all_goals first|rfl|(simp;done)
def jR:List AV→Prop × AV
  |[.agg [.v (.int .i64 t0),.v (.int .i64 t1),.v (.int .i64 t2),.v (.int .i64 t3),.v (.int .i64 t4),.v (.int .i64 t5),.v (.bool t6)],.sl l]=>(l=(l.map dTk).map eTk∧(l.map dTk).length≤100,aI (wo (⟨t0,t1,t2,t3,t4,t5,t6⟩:Tk) (l.map dTk)))
  |_=>(False,.junk)
theorem Qdd {A:Frm→Prop}:qC A Try.prog 124 (zk true jR):=zn fun vs hv h=>by
  clear hv
  unfold jR at h ⊢
  split at h
  · rename_i t0 t1 t2 t3 t4 t5 t6 l;obtain ⟨q0,k0⟩:=h
    refine ⟨by first|trivial|(simp [AV.plain,AV.plainL,aI,aB,qA,qc,qx,ql,aTk,cTk];done)|(repeat' split) <;> simp [AV.plain,AV.plainL,aI,aB,qA,qc,qx,ql,aTk,cTk],fun _=>(by simp [AV.flat,AV.flatL,aI,aB]), ?_⟩
    have:=QeB (⟨t0,t1,t2,t3,t4,t5,t6⟩:Tk) (l.map dTk) k0
    simp only [aB,aI,aTk,qx,cTk,← q0] at this
    first|exact this|(simp only [aB,aI,aTk,qx,cTk,← q0];exact this)
  · exact h.elim
end Go.Sym.B
namespace Go.Sym.B
open Go Go.Sym Go.Proofs Go.Sym.C
theorem mapD {α:Type} [Inhabited α] {f:α→Int} {l:List α} {j:Nat} (h:j < l.length):(l.map f).getD j 0=f (l.getD j default):=by simp [List.getD_eq_getElem?_getD,h]
theorem rngD {f:Nat→Int} {n j:Nat} (h:j < n):((List.range n).map f).getD j 0=f j:=by simp [List.getD_eq_getElem?_getD,h]
def crS (c:Chart) (k:Nat):St:={ t:=asg [(1,.ptr 0 0),(2,aI 0),(14,.sl (c.cabins.map qo)),(15,aI c.cabins.length),(16,aI k)],h:=qg [(0,.cells (qb c))],n:=1 }
def yw:=kk @ty3 (kk @VJ (kk @Zb (kk @vg (kk @JH (kk @VD (kk @xy (kk @ti3.eq_1 (kk @Yc.eq_1 (kk @Qx.eq_1 (kk @yI.eq_1 (kk @Wq.eq_1 (kk @Yb.eq_1 @vW.eq_1))))))))))))
def kN:=kk @aI.eq_1 (@aB.eq_1)
theorem QkB (c:Chart) (hc:c.cabins.length≤maxLen):FnV Try.prog 97 [qa c] (aI (WG c)):=by
  have env:Env (fun _=>True) Try.prog tyB (tab [(91,zk true sin),(101,zk true qJ)]):=qM ⟨ein,XV,trivial⟩
  refine Fn.of (A:=fun _=>True) (n0:=0) (D:=noD) (Fn0 Try.func97 rfl (fun vs w=>by kernel_rfl) (by kernel_rfl)) (by simp) (by simp [AV.ids,AV.idsL,qa,qb]) (fun i o h=>by cases h) (fun _ _ _ _=>trivial) qH ?_
  by_cases h1:zD c.cabins.length 1 3=0
  · have hl:c.cabins.length≤3:=by
      unfold zD at h1
      split at h1
      · exact absurd h1 (by decide)
      · split at h1
        · exact absurd h1 (by decide)
        · omega
    repeat' (first|(apply nx;with_reducible constructor)|refine jq (by decide) ?_|((first|refine kz env fun Q hQ=>?_|refine kj fun Q hQ=>?_);simp only [vkt,seval,yw,kN,qa,qb,qo,qG,crS,sin,qJ,h1];(try simp only [ite_and]);(repeat' (first|with_reducible assumption|refine And.intro ?_ ?_|intro hp));all_goals (first|(refine hQ _ ?_;clear hQ Q)|(refine hQ _ (fun h=>?_) (fun h=>?_) <;> clear hQ Q <;> (try simp only [vki,reduceCtorEq] at h))|(refine kx ?_;kernel_rfl)|omega|assumption|with_reducible rfl|skip)))
    refine qU (fun k:{ k:Nat // k≤c.cabins.length∧∀ j,j < k→(c.cabins.map Yw).getD j 0=0 }=>crS c k.1) (fun k=>c.cabins.length - k.1) ⟨0,Nat.zero_le _,fun j h=>absurd h (Nat.not_lt_zero _)⟩ ?_ fun ⟨k,hk,hno⟩=>?_
    · (refine Le.ok some [] ?_;constructor;all_goals (try simp only [vle,vkt,seval,yw,kN,qa,qb,qo,qG,crS,sin,qJ]))
      all_goals first|rfl|(simp;done)
    · repeat' (first|(apply nx;with_reducible constructor)|refine jq (by decide) ?_)
      (refine kz env fun Q hQ=>?_;simp only [vkt,seval,yw,kN,qa,qb,qo,qG,crS,sin,qJ];(try simp only [ite_and]);(repeat' (first|with_reducible assumption|refine And.intro ?_ ?_|intro hp));all_goals (first|(refine hQ _ ?_;clear hQ Q)|(refine kx ?_;kernel_rfl)|omega|assumption|with_reducible rfl|skip))
      repeat' (first|(apply nx;with_reducible constructor)|refine jq (by decide) ?_)
      (refine yF (by simp only [vkt,seval,yw,kN,qa,qb,qo,qG,crS,sin,qJ];rfl) (fun h=>?_) (fun h=>?_) <;> (try simp only [vki,reduceCtorEq] at h))
      · have hlt:k < c.cabins.length:=by omega
        have e9:IntKind.wrap .i64 ((k:Int)+1)=((k+1:Nat):Int):=by rw [wrap64 (by omega) (by omega)];rfl
        obtain ⟨x,hx⟩:∃ x,c.cabins.getD k default=x:=⟨_,rfl⟩
        have hm:(c.cabins.map Yw).getD k 0=Yw x:=by rw [mapD hlt,hx]
        cases hb:inB x.beds 1 3
        · have hE:Yw x=1:=by simp [Yw,hb]
          have hf:=Zq hno (by simpa using hlt) (by rw [hm,hE];decide)
          rw [hm,hE] at hf
          rw [show WG c=1 by unfold WG;rw [if_neg (by rw [h1];simp),hf];simp]
          repeat' (first|(apply nx;with_reducible constructor)|refine jq (by decide) ?_|((first|refine kz env fun Q hQ=>?_|refine kj fun Q hQ=>?_);simp only [vkt,seval,yw,kN,qa,qb,qo,qG,crS,sin,qJ,hx,hb,e9];(try simp only [ite_and]);(repeat' (first|with_reducible assumption|refine And.intro ?_ ?_|intro hp));all_goals (first|(refine hQ _ ?_;clear hQ Q)|(refine hQ _ (fun h=>?_) (fun h=>?_) <;> clear hQ Q <;> (try simp only [vki,reduceCtorEq] at h))|(refine kx ?_;kernel_rfl)|omega|assumption|with_reducible rfl|skip)))
          (simp only [vrt,Try.results97,vkt,seval,yw,kN,qa,qb,qo,qG,crS,sin,qJ];refine Fin.val rfl ?_;(try simp only [AV.le,AV.leL]))
          all_goals first|rfl|(simp;done)
        · have hE:Yw x=0:=by simp [Yw,hb]
          repeat' (first|(apply nx;with_reducible constructor)|refine jq (by decide) ?_|((first|refine kz env fun Q hQ=>?_|refine kj fun Q hQ=>?_);simp only [vkt,seval,yw,kN,qa,qb,qo,qG,crS,sin,qJ,hx,hb,e9];(try simp only [ite_and]);(repeat' (first|with_reducible assumption|refine And.intro ?_ ?_|intro hp));all_goals (first|(refine hQ _ ?_;clear hQ Q)|(refine hQ _ (fun h=>?_) (fun h=>?_) <;> clear hQ Q <;> (try simp only [vki,reduceCtorEq] at h))|(refine kx ?_;kernel_rfl)|omega|assumption|with_reducible rfl|skip)))
          refine ⟨⟨k+1,hlt,fun j hj=>?_⟩,by show c.cabins.length - (k+1) < c.cabins.length - k;omega, ?_⟩
          · rcases Nat.lt_or_eq_of_le (Nat.le_of_lt_succ hj) with h2|h2
            · exact hno j h2
            · rw [h2,hm,hE]
          · (refine Le.ok some [] ?_;constructor;all_goals (try simp only [vle,vkt,seval,yw,kN,qa,qb,qo,qG,crS,sin,qJ]))
            all_goals first|rfl|(simp;done)
      · have hke:k=c.cabins.length:=by omega
        subst hke
        have hf:yK (c.cabins.map Yw)=0:=vS (by simpa using hno)
        cases hs:inB c.secs 1 5
        · rw [show WG c=1 by unfold WG;rw [if_neg (by rw [h1];simp),if_neg (by rw [hf];simp),hs];rfl]
          repeat' (first|(apply nx;with_reducible constructor)|refine jq (by decide) ?_|((first|refine kz env fun Q hQ=>?_|refine kj fun Q hQ=>?_);simp only [vkt,seval,yw,kN,qa,qb,qo,qG,crS,sin,qJ,hs];(try simp only [ite_and]);(repeat' (first|with_reducible assumption|refine And.intro ?_ ?_|intro hp));all_goals (first|(refine hQ _ ?_;clear hQ Q)|(refine hQ _ (fun h=>?_) (fun h=>?_) <;> clear hQ Q <;> (try simp only [vki,reduceCtorEq] at h))|(refine kx ?_;kernel_rfl)|omega|assumption|with_reducible rfl|skip)))
          (simp only [vrt,Try.results97,vkt,seval,yw,kN,qa,qb,qo,qG,crS,sin,qJ];refine Fin.val rfl ?_;(try simp only [AV.le,AV.leL]))
          all_goals first|rfl|(simp;done)
        · rw [show WG c=zD c.sold.length 0 8 by unfold WG;rw [if_neg (by rw [h1];simp),if_neg (by rw [hf];simp),hs];rfl]
          repeat' (first|(apply nx;with_reducible constructor)|refine jq (by decide) ?_|((first|refine kz env fun Q hQ=>?_|refine kj fun Q hQ=>?_);simp only [vkt,seval,yw,kN,qa,qb,qo,qG,crS,sin,qJ,hs];(try simp only [ite_and]);(repeat' (first|with_reducible assumption|refine And.intro ?_ ?_|intro hp));all_goals (first|(refine hQ _ ?_;clear hQ Q)|(refine hQ _ (fun h=>?_) (fun h=>?_) <;> clear hQ Q <;> (try simp only [vki,reduceCtorEq] at h))|(refine kx ?_;kernel_rfl)|omega|assumption|with_reducible rfl|skip)))
          (simp only [vrt,Try.results97,vkt,seval,yw,kN,qa,qb,qo,qG,crS,sin,qJ];refine Fin.val rfl ?_;(try simp only [AV.le,AV.leL]))
          all_goals first|rfl|(simp;done)
  · rw [show WG c=zD c.cabins.length 1 3 by unfold WG;rw [if_pos h1]]
    repeat' (first|(apply nx;with_reducible constructor)|refine jq (by decide) ?_|((first|refine kz env fun Q hQ=>?_|refine kj fun Q hQ=>?_);simp only [vkt,seval,yw,kN,qa,qb,qo,qG,crS,sin,qJ,h1];(try simp only [ite_and]);(repeat' (first|with_reducible assumption|refine And.intro ?_ ?_|intro hp));all_goals (first|(refine hQ _ ?_;clear hQ Q)|(refine hQ _ (fun h=>?_) (fun h=>?_) <;> clear hQ Q <;> (try simp only [vki,reduceCtorEq] at h))|(refine kx ?_;kernel_rfl)|omega|assumption|with_reducible rfl|skip)))
    (simp only [vrt,Try.results97,vkt,seval,yw,kN,qa,qb,qo,qG,crS,sin,qJ];refine Fin.val rfl ?_;(try simp only [AV.le,AV.leL]))
    all_goals first|rfl|(simp;done)
def JQ:List AV→Prop × AV
  |[.agg [.sl c0,.v (.int .i64 c1),.sl c2]]=>(c0=(c0.map qB).map qo∧c2=(c2.map dTk).map eTk∧c0.length≤maxLen,aI (WG (⟨(c0.map qB),c1,(c2.map dTk)⟩:Chart)))
  |_=>(False,.junk)
theorem ecar {A:Frm→Prop}:qC A Try.prog 97 (zk true JQ):=zn fun vs hv h=>by
  clear hv
  unfold JQ at h ⊢
  split at h
  · rename_i c0 c1 c2;obtain ⟨q0,q1,k0⟩:=h
    refine ⟨by first|trivial|(simp [AV.plain,AV.plainL,aI,aB,qA,qc,qx,ql,aTk,cTk];done)|(repeat' split) <;> simp [AV.plain,AV.plainL,aI,aB,qA,qc,qx,ql,aTk,cTk],fun _=>(by simp [AV.flat,AV.flatL,aI,aB]), ?_⟩
    have:=QkB (⟨(c0.map qB),c1,(c2.map dTk)⟩:Chart) (by simpa using k0)
    simp only [zR,qa,aI,qx,qb,← q0,← q1] at this
    first|exact this|(simp only [zR,qa,aI,qx,qb,← q0,← q1];exact this)
  · exact h.elim
def wY:=kk @ty3 (kk @VJ (kk @vg (kk @JH (kk @kZ (kk @VD (kk @xy (kk @ti3.eq_1 (kk @Yc.eq_1 (kk @yI.eq_1 (kk @Wq.eq_1 (kk @xQ.eq_1 (kk @Yb.eq_1 @vW.eq_1))))))))))))
def QO:=kk @aI.eq_1 (@aB.eq_1)
theorem Qez (c:Chart) (t:Tk) (l:List Tk) (hc:CarOk c) (hl:l.length≤100):FnV Try.prog 98 [qa c,aTk t,qx l] (aI (w9 c t l)):=by
  have env:Env (fun _=>True) Try.prog tyB (tab [(91,zk true sin),(92,zk true xf),(124,zk true jR)]):=qM ⟨ein,eway,Qdd,trivial⟩
  refine Fn.of (A:=fun _=>True) (n0:=0) (D:=noD) (Fn0 Try.func98 rfl (fun vs w=>by kernel_rfl) (by kernel_rfl)) (by simp) (by simp [AV.ids,AV.idsL,qa,qb,aTk,cTk,qx]) (fun i o h=>by cases h) (fun _ _ _ _=>trivial) qH ?_
  have hcl:=hc.cabs
  have et:(⟨t.party,t.sex,t.cab,t.bed,t.frm,t.to,t.dog⟩:Tk)=t:=rfl
  have w1:IntKind.wrap .i64 ((c.cabins.length:Int) - 1)=(c.cabins.length:Int) - 1:=wrap64 (by omega) (by omega)
  have rest:inB t.party 1 99=true→inB t.sex 1 2=true→QV c.cabins t.cab t.bed=true→w9 c t l=if WH c.secs t.frm t.to ≠ 0 then WH c.secs t.frm t.to else wo t l:=fun a1 a2 a3=>by
    unfold w9;simp [a1,a2,a3]
  cases h1:inB t.party 1 99
  · rw [show w9 c t l=1 by simp [w9,h1]]
    repeat' (first|(apply nx;with_reducible constructor)|refine jq (by decide) ?_|((first|refine kz env fun Q hQ=>?_|refine kj fun Q hQ=>?_);simp only [vkt,seval,wY,QO,qa,qb,aTk,cTk,qx,qo,qG,qd,mTk,sin,xf,jR,List.length_map,h1,et];(try simp only [ite_and]);(repeat' (first|with_reducible assumption|refine And.intro ?_ ?_|intro hp));all_goals (first|(refine hQ _ ?_;clear hQ Q)|(refine hQ _ (fun h=>?_) (fun h=>?_) <;> clear hQ Q <;> (try simp only [vki,reduceCtorEq] at h))|(refine kx ?_;kernel_rfl)|omega|assumption|with_reducible rfl|skip)))
    (simp only [vrt,Try.results98,vkt,seval,wY,QO,qa,qb,aTk,cTk,qx,qo,qG,qd,mTk,sin,xf,jR,List.length_map];refine Fin.val rfl ?_;(try simp only [AV.le,AV.leL]))
    all_goals first|rfl|(simp;done)
  cases h2:inB t.sex 1 2
  · rw [show w9 c t l=8 by simp [w9,h1,h2]]
    repeat' (first|(apply nx;with_reducible constructor)|refine jq (by decide) ?_|((first|refine kz env fun Q hQ=>?_|refine kj fun Q hQ=>?_);simp only [vkt,seval,wY,QO,qa,qb,aTk,cTk,qx,qo,qG,qd,mTk,sin,xf,jR,List.length_map,h1,h2,et];(try simp only [ite_and]);(repeat' (first|with_reducible assumption|refine And.intro ?_ ?_|intro hp));all_goals (first|(refine hQ _ ?_;clear hQ Q)|(refine hQ _ (fun h=>?_) (fun h=>?_) <;> clear hQ Q <;> (try simp only [vki,reduceCtorEq] at h))|(refine kx ?_;kernel_rfl)|omega|assumption|with_reducible rfl|skip)))
    (simp only [vrt,Try.results98,vkt,seval,wY,QO,qa,qb,aTk,cTk,qx,qo,qG,qd,mTk,sin,xf,jR,List.length_map];refine Fin.val rfl ?_;(try simp only [AV.le,AV.leL]))
    all_goals first|rfl|(simp;done)
  cases h3:inB t.cab 0 ((c.cabins.length:Int) - 1)
  · rw [show w9 c t l=3 by simp [w9,h1,h2,QV,h3]]
    repeat' (first|(apply nx;with_reducible constructor)|refine jq (by decide) ?_|((first|refine kz env fun Q hQ=>?_|refine kj fun Q hQ=>?_);simp only [vkt,seval,wY,QO,qa,qb,aTk,cTk,qx,qo,qG,qd,mTk,sin,xf,jR,List.length_map,h1,h2,h3,w1,et];(try simp only [ite_and]);(repeat' (first|with_reducible assumption|refine And.intro ?_ ?_|intro hp));all_goals (first|(refine hQ _ ?_;clear hQ Q)|(refine hQ _ (fun h=>?_) (fun h=>?_) <;> clear hQ Q <;> (try simp only [vki,reduceCtorEq] at h))|(refine kx ?_;kernel_rfl)|omega|assumption|with_reducible rfl|skip)))
    (simp only [vrt,Try.results98,vkt,seval,wY,QO,qa,qb,aTk,cTk,qx,qo,qG,qd,mTk,sin,xf,jR,List.length_map];refine Fin.val rfl ?_;(try simp only [AV.le,AV.leL]))
    all_goals first|rfl|(simp;done)
  have b3:=yc.1 h3
  have g1:0≤t.cab:=b3.1
  have g2:t.cab.toNat < c.cabins.length:=by omega
  obtain ⟨x,hx⟩:∃ x,c.cabins.getD t.cab.toNat default=x:=⟨_,rfl⟩
  have hxb:=hc.beds _ (vL (d:=default) g2)
  rw [hx] at hxb
  have w2:IntKind.wrap .i64 (x.beds - 1)=x.beds - 1:=wrap64 (by omega) (by omega)
  cases h4:inB t.bed 0 (x.beds - 1)
  · rw [show w9 c t l=3 by simp [-List.getD_eq_getElem?_getD,w9,h1,h2,QV,h3,hx,h4]]
    repeat' (first|(apply nx;with_reducible constructor)|refine jq (by decide) ?_|((first|refine kz env fun Q hQ=>?_|refine kj fun Q hQ=>?_);simp only [vkt,seval,wY,QO,qa,qb,aTk,cTk,qx,qo,qG,qd,mTk,sin,xf,jR,List.length_map,h1,h2,h3,h4,w1,w2,hx,g1,g2,et];(try simp only [ite_and]);(repeat' (first|with_reducible assumption|refine And.intro ?_ ?_|intro hp));all_goals (first|(refine hQ _ ?_;clear hQ Q)|(refine hQ _ (fun h=>?_) (fun h=>?_) <;> clear hQ Q <;> (try simp only [vki,reduceCtorEq] at h))|(refine kx ?_;kernel_rfl)|omega|assumption|with_reducible rfl|skip)))
    (simp only [vrt,Try.results98,vkt,seval,wY,QO,qa,qb,aTk,cTk,qx,qo,qG,qd,mTk,sin,xf,jR,List.length_map];refine Fin.val rfl ?_;(try simp only [AV.le,AV.leL]))
    all_goals first|rfl|(simp;done)
  have hr:=rest h1 h2 (by simp [-List.getD_eq_getElem?_getD,QV,h3,hx,h4])
  by_cases h5:WH c.secs t.frm t.to=0
  · rw [if_neg (by rw [h5];simp)] at hr
    rw [hr]
    repeat' (first|(apply nx;with_reducible constructor)|refine jq (by decide) ?_|((first|refine kz env fun Q hQ=>?_|refine kj fun Q hQ=>?_);simp only [vkt,seval,wY,QO,qa,qb,aTk,cTk,qx,qo,qG,qd,mTk,sin,xf,jR,List.length_map,h1,h2,h3,h4,h5,w1,w2,hx,g1,g2,et];(try simp only [ite_and]);(repeat' (first|with_reducible assumption|refine And.intro ?_ ?_|intro hp));all_goals (first|(refine hQ _ ?_;clear hQ Q)|(refine hQ _ (fun h=>?_) (fun h=>?_) <;> clear hQ Q <;> (try simp only [vki,reduceCtorEq] at h))|(refine kx ?_;kernel_rfl)|omega|assumption|with_reducible rfl|skip)))
    (simp only [vrt,Try.results98,vkt,seval,wY,QO,qa,qb,aTk,cTk,qx,qo,qG,qd,mTk,sin,xf,jR,List.length_map];refine Fin.val rfl ?_;(try simp only [AV.le,AV.leL]))
    all_goals first|rfl|(simp;done)
  · rw [if_pos h5] at hr
    rw [hr]
    repeat' (first|(apply nx;with_reducible constructor)|refine jq (by decide) ?_|((first|refine kz env fun Q hQ=>?_|refine kj fun Q hQ=>?_);simp only [vkt,seval,wY,QO,qa,qb,aTk,cTk,qx,qo,qG,qd,mTk,sin,xf,jR,List.length_map,h1,h2,h3,h4,h5,w1,w2,hx,g1,g2,et];(try simp only [ite_and]);(repeat' (first|with_reducible assumption|refine And.intro ?_ ?_|intro hp));all_goals (first|(refine hQ _ ?_;clear hQ Q)|(refine hQ _ (fun h=>?_) (fun h=>?_) <;> clear hQ Q <;> (try simp only [vki,reduceCtorEq] at h))|(refine kx ?_;kernel_rfl)|omega|assumption|with_reducible rfl|skip)))
    (simp only [vrt,Try.results98,vkt,seval,wY,QO,qa,qb,aTk,cTk,qx,qo,qG,qd,mTk,sin,xf,jR,List.length_map];refine Fin.val rfl ?_;(try simp only [AV.le,AV.leL]))
    all_goals first|rfl|(simp;done)
def y8:List AV→Prop × AV
  |[.agg [.sl c0,.v (.int .i64 c1),.sl c2],.agg [.v (.int .i64 t0),.v (.int .i64 t1),.v (.int .i64 t2),.v (.int .i64 t3),.v (.int .i64 t4),.v (.int .i64 t5),.v (.bool t6)],.sl l]=>(c0=(c0.map qB).map qo∧c2=(c2.map dTk).map eTk∧l=(l.map dTk).map eTk∧CarOk (⟨(c0.map qB),c1,(c2.map dTk)⟩:Chart)∧(l.map dTk).length≤100,aI (w9 (⟨(c0.map qB),c1,(c2.map dTk)⟩:Chart) (⟨t0,t1,t2,t3,t4,t5,t6⟩:Tk) (l.map dTk)))
  |_=>(False,.junk)
theorem QiC {A:Frm→Prop}:qC A Try.prog 98 (zk true y8):=zn fun vs hv h=>by
  clear hv
  unfold y8 at h ⊢
  split at h
  · rename_i c0 c1 c2 t0 t1 t2 t3 t4 t5 t6 l;obtain ⟨q0,q1,q2,k0,k1⟩:=h
    refine ⟨by first|trivial|(simp [AV.plain,AV.plainL,aI,aB,qA,qc,qx,ql,aTk,cTk];done)|(repeat' split) <;> simp [AV.plain,AV.plainL,aI,aB,qA,qc,qx,ql,aTk,cTk],fun _=>(by simp [AV.flat,AV.flatL,aI,aB]), ?_⟩
    have:=Qez (⟨(c0.map qB),c1,(c2.map dTk)⟩:Chart) (⟨t0,t1,t2,t3,t4,t5,t6⟩:Tk) (l.map dTk) k0 k1
    simp only [aB,zR,qa,aI,aTk,qx,qb,cTk,← q0,← q1,← q2] at this
    first|exact this|(simp only [aB,zR,qa,aI,aTk,qx,qb,cTk,← q0,← q1,← q2];exact this)
  · exact h.elim
def ckS (c:Chart) (k:Nat):St:={ t:=asg [(1,.ptr 0 0),(2,aI 0),(13,qx c.sold),(14,aI c.sold.length),(15,aI k)],h:=qg [(0,.cells (qb c))],n:=1 }
def jL:=kk @ty3 (kk @Zb (kk @vg (kk @JH (kk @xy (kk @ti3.eq_1 (kk @Qx.eq_1 (kk @yI.eq_1 (kk @Wq.eq_1 @vW.eq_1))))))))
def QN:=kk @aI.eq_1 (@aB.eq_1)
theorem QgB (c:Chart) (hc:c.cabins.length≤maxLen):FnV Try.prog 44 [qa c] (aI (wB c)):=by
  have env:Env (fun _=>True) Try.prog tyB (tab [(97,zk true JQ),(98,zk true y8)]):=qM ⟨ecar,QiC,trivial⟩
  refine Fn.of (A:=fun _=>True) (n0:=0) (D:=noD) (Fn0 Try.func44 rfl (fun vs w=>by kernel_rfl) (by kernel_rfl)) (by simp) (by simp [AV.ids,AV.idsL,qa,qb]) (fun i o h=>by cases h) (fun _ _ _ _=>trivial) qH ?_
  have ec:(⟨c.cabins,c.secs,c.sold⟩:Chart)=c:=rfl
  by_cases h1:WG c=0
  · obtain ⟨hcar,hsl⟩:=QdD h1
    have hE:wB c=Zf c c.sold:=by unfold wB;rw [if_neg (by rw [h1];simp)]
    rw [hE]
    repeat' (first|(apply nx;with_reducible constructor)|refine jq (by decide) ?_|((first|refine kz env fun Q hQ=>?_|refine kj fun Q hQ=>?_);simp only [vkt,seval,jL,QN,qa,qb,aTk,cTk,qx,eTk,gTk,rTk,qd,mTk,ckS,JQ,y8,List.length_map,h1,ec];(try simp only [ite_and]);(repeat' (first|with_reducible assumption|refine And.intro ?_ ?_|intro hp));all_goals (first|(refine hQ _ ?_;clear hQ Q)|(refine hQ _ (fun h=>?_) (fun h=>?_) <;> clear hQ Q <;> (try simp only [vki,reduceCtorEq] at h))|(refine kx ?_;kernel_rfl)|omega|assumption|with_reducible rfl|skip)))
    refine qU (fun k:{ k:Nat // k≤c.sold.length∧∀ j,j < k→w9 c (c.sold.getD j default) (c.sold.take j)=0 }=>ckS c k.1) (fun k=>c.sold.length - k.1) ⟨0,Nat.zero_le _,fun j h=>absurd h (Nat.not_lt_zero _)⟩ ?_ fun ⟨k,hk,hno⟩=>?_
    · (refine Le.ok some [] ?_;constructor;all_goals (try simp only [vle,vkt,seval,jL,QN,qa,qb,aTk,cTk,qx,eTk,gTk,rTk,qd,mTk,ckS,JQ,y8,List.length_map]))
      all_goals first|rfl|(simp;done)
    · repeat' (first|(apply nx;with_reducible constructor)|refine jq (by decide) ?_)
      (refine kz env fun Q hQ=>?_;simp only [vkt,seval,jL,QN,qa,qb,aTk,cTk,qx,eTk,gTk,rTk,qd,mTk,ckS,JQ,y8,List.length_map];(try simp only [ite_and]);(repeat' (first|with_reducible assumption|refine And.intro ?_ ?_|intro hp));all_goals (first|(refine hQ _ ?_;clear hQ Q)|(refine kx ?_;kernel_rfl)|omega|assumption|with_reducible rfl|skip))
      repeat' (first|(apply nx;with_reducible constructor)|refine jq (by decide) ?_)
      (refine yF (by simp only [vkt,seval,jL,QN,qa,qb,aTk,cTk,qx,eTk,gTk,rTk,qd,mTk,ckS,JQ,y8,List.length_map];rfl) (fun h=>?_) (fun h=>?_) <;> (try simp only [vki,reduceCtorEq] at h))
      · have hlt:k < c.sold.length:=by omega
        have e9:IntKind.wrap .i64 ((k:Int)+1)=((k+1:Nat):Int):=by rw [wrap64 (by omega) (by omega)];rfl
        obtain ⟨x,hx⟩:∃ x,c.sold.getD k default=x:=⟨_,rfl⟩
        have ex:(⟨x.party,x.sex,x.cab,x.bed,x.frm,x.to,x.dog⟩:Tk)=x:=rfl
        have tk:List.take k (c.sold.map eTk)=(c.sold.take k).map eTk:=List.map_take.symm
        have t100:(c.sold.take k).length≤100:=by rw [List.length_take];omega
        have hcar':CarOk ⟨c.cabins,c.secs,c.sold⟩:=hcar
        have hg:=rngD (f:=fun i=>w9 c (c.sold.getD i default) (c.sold.take i)) hlt
        by_cases h2:w9 c x (c.sold.take k)=0
        · repeat' (first|(apply nx;with_reducible constructor)|refine jq (by decide) ?_|((first|refine kz env fun Q hQ=>?_|refine kj fun Q hQ=>?_);simp only [vkt,seval,jL,QN,qa,qb,aTk,cTk,qx,eTk,gTk,rTk,qd,mTk,ckS,JQ,y8,List.length_map,hx,ex,ec,tk,h2,e9];(try simp only [ite_and]);(repeat' (first|with_reducible assumption|refine And.intro ?_ ?_|intro hp));all_goals (first|(refine hQ _ ?_;clear hQ Q)|(refine hQ _ (fun h=>?_) (fun h=>?_) <;> clear hQ Q <;> (try simp only [vki,reduceCtorEq] at h))|(refine kx ?_;kernel_rfl)|omega|assumption|with_reducible rfl|skip)))
          refine ⟨⟨k+1,hlt,fun j hj=>?_⟩,by show c.sold.length - (k+1) < c.sold.length - k;omega, ?_⟩
          · rcases Nat.lt_or_eq_of_le (Nat.le_of_lt_succ hj) with h3|h3
            · exact hno j h3
            · rw [h3,hx];exact h2
          · (refine Le.ok some [] ?_;constructor;all_goals (try simp only [vle,vkt,seval,jL,QN,qa,qb,aTk,cTk,qx,eTk,gTk,rTk,qd,mTk,ckS,JQ,y8,List.length_map]))
            all_goals first|rfl|(simp;done)
        · have hf:Zf c c.sold=w9 c x (c.sold.take k):=by
            unfold Zf
            rw [Zq (k:=k) (fun j hj=>by rw [rngD (by omega)];exact hno j hj) (by simpa using hlt) (by rw [hg,hx];exact h2),hg,hx]
          rw [hf]
          repeat' (first|(apply nx;with_reducible constructor)|refine jq (by decide) ?_|((first|refine kz env fun Q hQ=>?_|refine kj fun Q hQ=>?_);simp only [vkt,seval,jL,QN,qa,qb,aTk,cTk,qx,eTk,gTk,rTk,qd,mTk,ckS,JQ,y8,List.length_map,hx,ex,ec,tk,h2,e9];(try simp only [ite_and]);(repeat' (first|with_reducible assumption|refine And.intro ?_ ?_|intro hp));all_goals (first|(refine hQ _ ?_;clear hQ Q)|(refine hQ _ (fun h=>?_) (fun h=>?_) <;> clear hQ Q <;> (try simp only [vki,reduceCtorEq] at h))|(refine kx ?_;kernel_rfl)|omega|assumption|with_reducible rfl|skip)))
          (simp only [vrt,Try.results44,vkt,seval,jL,QN,qa,qb,aTk,cTk,qx,eTk,gTk,rTk,qd,mTk,ckS,JQ,y8,List.length_map];refine Fin.val rfl ?_;(try simp only [AV.le,AV.leL]))
          all_goals first|rfl|(simp;done)
      · have hke:k=c.sold.length:=by omega
        subst hke
        rw [show Zf c c.sold=0 from vS fun j hj=>by
          have hj':j < c.sold.length:=by simpa using hj
          rw [rngD hj'];exact hno j hj']
        repeat' (first|(apply nx;with_reducible constructor)|refine jq (by decide) ?_|((first|refine kz env fun Q hQ=>?_|refine kj fun Q hQ=>?_);simp only [vkt,seval,jL,QN,qa,qb,aTk,cTk,qx,eTk,gTk,rTk,qd,mTk,ckS,JQ,y8,List.length_map];(try simp only [ite_and]);(repeat' (first|with_reducible assumption|refine And.intro ?_ ?_|intro hp));all_goals (first|(refine hQ _ ?_;clear hQ Q)|(refine hQ _ (fun h=>?_) (fun h=>?_) <;> clear hQ Q <;> (try simp only [vki,reduceCtorEq] at h))|(refine kx ?_;kernel_rfl)|omega|assumption|with_reducible rfl|skip)))
        (simp only [vrt,Try.results44,vkt,seval,jL,QN,qa,qb,aTk,cTk,qx,eTk,gTk,rTk,qd,mTk,ckS,JQ,y8,List.length_map];refine Fin.val rfl ?_;(try simp only [AV.le,AV.leL]))
        all_goals first|rfl|(simp;done)
  · have hE:wB c=WG c:=by unfold wB;rw [if_pos h1]
    rw [hE]
    repeat' (first|(apply nx;with_reducible constructor)|refine jq (by decide) ?_|((first|refine kz env fun Q hQ=>?_|refine kj fun Q hQ=>?_);simp only [vkt,seval,jL,QN,qa,qb,aTk,cTk,qx,eTk,gTk,rTk,qd,mTk,ckS,JQ,y8,List.length_map,h1,ec];(try simp only [ite_and]);(repeat' (first|with_reducible assumption|refine And.intro ?_ ?_|intro hp));all_goals (first|(refine hQ _ ?_;clear hQ Q)|(refine hQ _ (fun h=>?_) (fun h=>?_) <;> clear hQ Q <;> (try simp only [vki,reduceCtorEq] at h))|(refine kx ?_;kernel_rfl)|omega|assumption|with_reducible rfl|skip)))
    (simp only [vrt,Try.results44,vkt,seval,jL,QN,qa,qb,aTk,cTk,qx,eTk,gTk,rTk,qd,mTk,ckS,JQ,y8,List.length_map];refine Fin.val rfl ?_;(try simp only [AV.le,AV.leL]))
    all_goals first|rfl|(simp;done)
def zh:List AV→Prop × AV
  |[.agg [.sl c0,.v (.int .i64 c1),.sl c2]]=>(c0=(c0.map qB).map qo∧c2=(c2.map dTk).map eTk∧c0.length≤maxLen,aI (wB (⟨(c0.map qB),c1,(c2.map dTk)⟩:Chart)))
  |_=>(False,.junk)
theorem Xt {A:Frm→Prop}:qC A Try.prog 44 (zk true zh):=zn fun vs hv h=>by
  clear hv
  unfold zh at h ⊢
  split at h
  · rename_i c0 c1 c2;obtain ⟨q0,q1,k0⟩:=h
    refine ⟨by first|trivial|(simp [AV.plain,AV.plainL,aI,aB,qA,qc,qx,ql,aTk,cTk];done)|(repeat' split) <;> simp [AV.plain,AV.plainL,aI,aB,qA,qc,qx,ql,aTk,cTk],fun _=>(by simp [AV.flat,AV.flatL,aI,aB]), ?_⟩
    have:=QgB (⟨(c0.map qB),c1,(c2.map dTk)⟩:Chart) (by simpa using k0)
    simp only [zR,qa,aI,qx,qb,← q0,← q1] at this
    first|exact this|(simp only [zR,qa,aI,qx,qb,← q0,← q1];exact this)
  · exact h.elim
end Go.Sym.B
namespace Go.Sym.B
open Go Go.Sym Go.Proofs Go.Sym.C
def buO (cs:List Cabin) (s:Int):AObj:=.cells [.sl (cs.map qo),.v (.int .i64 s),.any]
def buY (cs:List Cabin) (j:Nat):List AV:=[ql ((qV cs).getD j default)]
def bu1 (cs:List Cabin) (s:Int) (i j:Nat):St:={ t:=asg [(0,.cb),(1,.ptr 0 0),(7,.sl (cs.map qo)),(8,aI cs.length),(9,aI i)],h:=qg [(0,.cells [.sl (cs.map qo),.v (.int .i64 s),.any])],n:=1,j:=j,m:=1 }
def bu2 (cs:List Cabin) (s:Int) (i:Nat) (b:Int) (k j:Nat):St:={ t:=asg [(0,.cb),(1,.ptr 0 0),(3,aI i),(7,.sl (cs.map qo)),(8,aI cs.length),(9,aI i),(15,aI b),(16,aI k)],h:=qg [(0,.cells [.sl (cs.map qo),.v (.int .i64 s),.any])],n:=1,j:=j,m:=1 }
structure CabsOk (cs:List Cabin):Prop where
  len:cs.length≤1000
  beds:∀ x ∈ cs,x.beds≤1000
def zN:=kk @ty3 (kk @VJ (kk @vg (kk @kZ (kk @VD (kk @ti3.eq_1 (kk @Yc.eq_1 (kk @yI.eq_1 (kk @xQ.eq_1 @Yb.eq_1))))))))
def vJ:=kk @aI.eq_1 (@aB.eq_1)
set_option maxHeartbeats 1000000 in
theorem QaI (cs:List Cabin) (s:Int) (hc:CabsOk cs):Iter Try.prog 123 [.cb,.ptr 0 0] (nth [buO cs s]) (buY cs) (qV cs).length (fun _=>nth [buO cs s]) fun _ _=>.tup []:=by
  intro ans R hr
  have e0:(nth [buO cs s])=qg (qI 0 [buO cs s]):=by
    funext i
    match i with
    |0=>rfl
    |i+1=>simp [nth,qI,qg]
  obtain ⟨A0,hA0⟩:∃ A0:Frm→Prop,A0=Acb Try.prog (qg (qI 0 [buO cs s])) (qg (qI 0 [buO cs s])) (buY cs) (fun _=>nth [buO cs s]) ans R:=⟨_,rfl⟩
  have hA:∀ F,A0 F→Acb Try.prog (qg (qI 0 [buO cs s])) (qg (qI 0 [buO cs s])) (buY cs) (fun _=>nth [buO cs s]) ans R F:=fun F h=>hA0 ▸ h
  have env:Env A0 Try.prog tyB (Go.Sym.tabC (cbX [0] (buY cs) (fun _=>[buO cs s]) ans R) []):=⟨X3,U2 (fun S bs h hS ops o g args tys caps hw ho hg hb=>YV hA (fun i o hi=>by
    rw [jF] at hi
    cases i with
    |zero=>rfl
    |succ i=>simp at hi) (by simp) h hS hw ho hg hb) trivial,by kernel_rfl⟩
  rw [K8] at hr
  have hcl:=hc.len
  rw [e0]
  refine Fn.of (A:=A0) (n0:=1) (D:=noD) (Fn0 Try.func123 rfl (fun vs w=>by kernel_rfl) (by kernel_rfl)) (by simp) (by simp [AV.ids]) ?_ (fun F hb h0 _=>hA0 ▸ ⟨h0,fun i o hi=>⟨o,hi⟩,by rw [← e0] at hb ⊢;exact hb⟩) qH ?_
  · intro i o hi
    have h:=qL hi
    simp [qI,buO] at h;obtain ⟨rfl,rfl⟩:=h;simp [AObj.ids,AV.ids,AV.idsL]
  show Sym _ _ _ (zq [.cb,.ptr 0 0] 1 (qg [(0,.cells [.sl (cs.map qo),.v (.int .i64 s),.any])])) (yB tyB noD Try.f123 fun S rv=>Fin S rv (.tup []) 1 (qg [(0,.cells [.sl (cs.map qo),.v (.int .i64 s),.any])]) R)
  have eo:buO cs s=.cells [.sl (cs.map qo),.v (.int .i64 s),.any]:=rfl
  repeat' (first|(apply nx;with_reducible constructor)|refine jq (by decide) ?_|((first|refine kz env fun Q hQ=>?_|refine kj fun Q hQ=>?_);simp only [vkt,seval,zN,vJ,ql,qo,qG,bu1,bu2,Go.Sym.tabC,cbX,zS,qR,nth,hwL];(try simp only [ite_and]);(repeat' (first|with_reducible assumption|refine And.intro ?_ ?_|intro hp));all_goals (first|(refine hQ _ ?_;clear hQ Q)|(refine hQ _ (fun h=>?_) (fun h=>?_) <;> clear hQ Q <;> (try simp only [vki,reduceCtorEq] at h))|(refine kx ?_;kernel_rfl)|omega|assumption|with_reducible rfl|skip)))
  refine qU (fun x:{ x:Nat × Nat // x.1≤cs.length∧x.2=((ZB cs).take x.1).sum∧∀ q,q < x.2→ans q=true }=>bu1 cs s x.1.1 x.1.2) (fun x=>cs.length - x.1.1) ⟨(0,0),Nat.zero_le _,by simp,fun q h=>absurd h (Nat.not_lt_zero _)⟩ ?_ fun ⟨(i,o),hi,ho,hy⟩=>?_
  · (refine Le.ok some [] ?_;constructor;all_goals (try simp only [vle,vkt,seval,zN,vJ,ql,qo,qG,bu1,bu2,Go.Sym.tabC,cbX,zS,qR,nth,hwL]))
    all_goals first|rfl|(simp;done)
  simp only at hi ho hy ⊢
  repeat' (first|(apply nx;with_reducible constructor)|refine jq (by decide) ?_)
  (refine kz env fun Q hQ=>?_;simp only [vkt,seval,zN,vJ,ql,qo,qG,bu1,bu2,Go.Sym.tabC,cbX,zS,qR,nth,hwL];(try simp only [ite_and]);(repeat' (first|with_reducible assumption|refine And.intro ?_ ?_|intro hp));all_goals (first|(refine hQ _ ?_;clear hQ Q)|(refine kx ?_;kernel_rfl)|omega|assumption|with_reducible rfl|skip))
  repeat' (first|(apply nx;with_reducible constructor)|refine jq (by decide) ?_)
  (refine yF (by simp only [vkt,seval,zN,vJ,ql,qo,qG,bu1,bu2,Go.Sym.tabC,cbX,zS,qR,nth,hwL];rfl) (fun h=>?_) (fun h=>?_) <;> (try simp only [vki,reduceCtorEq] at h))
  · have hlt:i < cs.length:=by omega
    have hts:=Ym (g:=ZB cs) (i:=i) (by simp [ZB];omega)
    rw [Qiz hlt] at hts
    have hsm:((ZB cs).take (i+1)).sum≤(ZB cs).sum:=by
      have:=Qy (g:=ZB cs) (show i+1≤(ZB cs).length by simp [ZB];omega)
      rwa [List.take_length] at this
    have hbx:=hc.beds _ (vL (d:=default) hlt)
    have hget:=fun k=>Qeb (cs:=cs) (i:=i) (k:=k) hlt
    obtain ⟨x,hx⟩:∃ x,cs.getD i default=x:=⟨_,rfl⟩
    rw [hx] at hts hbx
    simp only [hx] at hget
    have e9:IntKind.wrap .i64 ((i:Int)+1)=((i+1:Nat):Int):=by rw [wrap64 (by omega) (by omega)];rfl
    repeat' (first|(apply nx;with_reducible constructor)|refine jq (by decide) ?_|((first|refine kz env fun Q hQ=>?_|refine kj fun Q hQ=>?_);simp only [vkt,seval,zN,vJ,ql,qo,qG,bu1,bu2,Go.Sym.tabC,cbX,zS,qR,nth,hwL,hx];(try simp only [ite_and]);(repeat' (first|with_reducible assumption|refine And.intro ?_ ?_|intro hp));all_goals (first|(refine hQ _ ?_;clear hQ Q)|(refine hQ _ (fun h=>?_) (fun h=>?_) <;> clear hQ Q <;> (try simp only [vki,reduceCtorEq] at h))|(refine kx ?_;kernel_rfl)|omega|assumption|with_reducible rfl|skip)))
    refine qU (fun y:{ y:Nat × Nat // y.1≤x.beds.toNat∧y.2=o+y.1∧∀ q,q < y.2→ans q=true }=>bu2 cs s i x.beds y.1.1 y.1.2) (fun y=>x.beds.toNat - y.1.1) ⟨(0,o),Nat.zero_le _,rfl,hy⟩ ?_ fun ⟨(k,q),hk,hq,hz⟩=>?_
    · (refine Le.ok some [] ?_;constructor;all_goals (try simp only [vle,vkt,seval,zN,vJ,ql,qo,qG,bu1,bu2,Go.Sym.tabC,cbX,zS,qR,nth,hwL]))
      all_goals first|rfl|(simp;done)
    simp only at hk hq hz ⊢
    repeat' (first|(apply nx;with_reducible constructor)|refine jq (by decide) ?_)
    (refine kz env fun Q hQ=>?_;simp only [vkt,seval,zN,vJ,ql,qo,qG,bu1,bu2,Go.Sym.tabC,cbX,zS,qR,nth,hwL];(try simp only [ite_and]);(repeat' (first|with_reducible assumption|refine And.intro ?_ ?_|intro hp));all_goals (first|(refine hQ _ ?_;clear hQ Q)|(refine kx ?_;kernel_rfl)|omega|assumption|with_reducible rfl|skip))
    repeat' (first|(apply nx;with_reducible constructor)|refine jq (by decide) ?_)
    (refine yF (by simp only [vkt,seval,zN,vJ,ql,qo,qG,bu1,bu2,Go.Sym.tabC,cbX,zS,qR,nth,hwL];rfl) (fun h=>?_) (fun h=>?_) <;> (try simp only [vki,reduceCtorEq] at h))
    · have hkl:k < x.beds.toNat:=by omega
      have e8:IntKind.wrap .i64 ((k:Int)+1)=((k+1:Nat):Int):=by rw [wrap64 (by omega) (by omega)];rfl
      have hqR:q < R:=hr.lt (by omega) hz
      have hbq:buY cs q=[.agg [.v (.int .i64 (i:Int)),.v (.int .i64 (k:Int))]]:=by
        unfold buY
        rw [hq,ho,hget k hkl]
        rfl
      cases hb:ans q with
      |false =>
        have eR:R=q+1:=by have:=hr.last hqR hb;omega
        subst eR
        repeat' (first|(apply nx;with_reducible constructor)|refine jq (by decide) ?_|((first|refine kz env fun Q hQ=>?_|refine kj fun Q hQ=>?_);simp only [vkt,seval,zN,vJ,ql,qo,qG,bu1,bu2,Go.Sym.tabC,cbX,zS,qR,nth,hwL,hqR,hbq,eo,hb];(try simp only [ite_and]);(repeat' (first|with_reducible assumption|refine And.intro ?_ ?_|intro hp));all_goals (first|(refine hQ _ ?_;clear hQ Q)|(refine hQ _ (fun h=>?_) (fun h=>?_) <;> clear hQ Q <;> (try simp only [vki,reduceCtorEq] at h))|(refine kx ?_;kernel_rfl)|omega|assumption|with_reducible rfl|skip)))
        (simp only [vrt,Try.results123,vkt,seval,zN,vJ,ql,qo,qG,bu1,bu2,Go.Sym.tabC,cbX,zS,qR,nth,hwL];refine Fin.ok some [] ?_ ?_ ?_ ?_ ?_ rfl;all_goals (try simp only [vle,vkt,seval,zN,vJ,ql,qo,qG,bu1,bu2,Go.Sym.tabC,cbX,zS,qR,nth,hwL]))
        all_goals first|rfl|(simp;done)
      |true =>
        have hz':∀ p,p < q+1→ans p=true:=fun p hp=>by
          rcases Nat.lt_or_eq_of_le (Nat.le_of_lt_succ hp) with h1|h1
          · exact hz p h1
          · rw [h1];exact hb
        repeat' (first|(apply nx;with_reducible constructor)|refine jq (by decide) ?_|((first|refine kz env fun Q hQ=>?_|refine kj fun Q hQ=>?_);simp only [vkt,seval,zN,vJ,ql,qo,qG,bu1,bu2,Go.Sym.tabC,cbX,zS,qR,nth,hwL,hqR,hbq,eo,hb,e8];(try simp only [ite_and]);(repeat' (first|with_reducible assumption|refine And.intro ?_ ?_|intro hp));all_goals (first|(refine hQ _ ?_;clear hQ Q)|(refine hQ _ (fun h=>?_) (fun h=>?_) <;> clear hQ Q <;> (try simp only [vki,reduceCtorEq] at h))|(refine kx ?_;kernel_rfl)|omega|assumption|with_reducible rfl|skip)))
        refine ⟨⟨(k+1,q+1),hkl,by omega,hz'⟩,by show x.beds.toNat - (k+1) < x.beds.toNat - k;omega, ?_⟩
        (refine Le.ok some [] ?_;constructor;all_goals (try simp only [vle,vkt,seval,zN,vJ,ql,qo,qG,bu1,bu2,Go.Sym.tabC,cbX,zS,qR,nth,hwL]))
        all_goals first|rfl|(simp;done)
    · have hkn:q=((ZB cs).take (i+1)).sum:=by omega
      repeat' (first|(apply nx;with_reducible constructor)|refine jq (by decide) ?_|((first|refine kz env fun Q hQ=>?_|refine kj fun Q hQ=>?_);simp only [vkt,seval,zN,vJ,ql,qo,qG,bu1,bu2,Go.Sym.tabC,cbX,zS,qR,nth,hwL,e9];(try simp only [ite_and]);(repeat' (first|with_reducible assumption|refine And.intro ?_ ?_|intro hp));all_goals (first|(refine hQ _ ?_;clear hQ Q)|(refine hQ _ (fun h=>?_) (fun h=>?_) <;> clear hQ Q <;> (try simp only [vki,reduceCtorEq] at h))|(refine kx ?_;kernel_rfl)|omega|assumption|with_reducible rfl|skip)))
      refine ⟨⟨(i+1,q),hlt,hkn,hz⟩,by show cs.length - (i+1) < cs.length - i;omega, ?_⟩
      (refine Le.ok some [] ?_;constructor;all_goals (try simp only [vle,vkt,seval,zN,vJ,ql,qo,qG,bu1,bu2,Go.Sym.tabC,cbX,zS,qR,nth,hwL]))
      all_goals first|rfl|(simp;done)
  · have hie:i=cs.length:=by omega
    subst hie
    have hoN:o=(ZB cs).sum:=by rw [ho,List.take_of_length_le (by simp [ZB])]
    have eR:R=o:=by rw [hoN];exact hr.all (Nat.le_of_eq hoN.symm) hy
    subst eR
    repeat' (first|(apply nx;with_reducible constructor)|refine jq (by decide) ?_|((first|refine kz env fun Q hQ=>?_|refine kj fun Q hQ=>?_);simp only [vkt,seval,zN,vJ,ql,qo,qG,bu1,bu2,Go.Sym.tabC,cbX,zS,qR,nth,hwL];(try simp only [ite_and]);(repeat' (first|with_reducible assumption|refine And.intro ?_ ?_|intro hp));all_goals (first|(refine hQ _ ?_;clear hQ Q)|(refine hQ _ (fun h=>?_) (fun h=>?_) <;> clear hQ Q <;> (try simp only [vki,reduceCtorEq] at h))|(refine kx ?_;kernel_rfl)|omega|assumption|with_reducible rfl|skip)))
    (simp only [vrt,Try.results123,vkt,seval,zN,vJ,ql,qo,qG,bu1,bu2,Go.Sym.tabC,cbX,zS,qR,nth,hwL];refine Fin.ok some [] ?_ ?_ ?_ ?_ ?_ rfl;all_goals (try simp only [vle,vkt,seval,zN,vJ,ql,qo,qG,bu1,bu2,Go.Sym.tabC,cbX,zS,qR,nth,hwL]))
    all_goals first|rfl|(simp;done)
def Qbp:=kk @aI.eq_1 (@aB.eq_1)
theorem Qf8 (cs:List Cabin) (s:Int):Fn noB Try.prog 94 [.agg [.sl (cs.map qo),.v (.int .i64 s),.any]] (qg []) (.clo 123 [.ptr 0 0]) (qg [(0,.cells [.sl (cs.map qo),.v (.int .i64 s),.any])]) 0:=by
  have env:Env (fun _=>True) Try.prog tyB (tab []):=qM trivial
  refine Fn.of (A:=fun _=>True) (n0:=0) (D:=noD) (Fn0 Try.func94 rfl (fun vs w=>by kernel_rfl) (by kernel_rfl)) (by simp) (by simp [AV.ids,AV.idsL]) (fun i o h=>by cases h) (fun _ _ _ _=>trivial) qH ?_
  repeat' (first|(apply nx;with_reducible constructor)|refine jq (by decide) ?_|((first|refine kz env fun Q hQ=>?_|refine kj fun Q hQ=>?_);simp only [vkt,seval,Qbp];(try simp only [ite_and]);(repeat' (first|with_reducible assumption|refine And.intro ?_ ?_|intro hp));all_goals (first|(refine hQ _ ?_;clear hQ Q)|(refine hQ _ (fun h=>?_) (fun h=>?_) <;> clear hQ Q <;> (try simp only [vki,reduceCtorEq] at h))|(refine kx ?_;kernel_rfl)|omega|assumption|with_reducible rfl|skip)))
  (simp only [vrt,Try.results94,vkt,seval,Qbp];refine Fin.ok some [] ?_ ?_ ?_ ?_ ?_ rfl;all_goals (try simp only [vle,vkt,seval,Qbp]))
  all_goals first|rfl|(simp;done)
def zA (_:St):List AV→Option Pk
  |[.agg [.sl cs,.v (.int .i64 s),_]]=>some { pre:=cs=(cs.map qB).map qo,ar:=[.agg [.sl cs,.v (.int .i64 s),.any]],v:=.clo 123 [.ptr 0 0],L1:=[some (.cells [.sl cs,.v (.int .i64 s),.any])] }
  |_=>none
theorem QcF {A:Frm→Prop}:qC A Try.prog 94 (fnE zA):=zx fun S bs q h hp=>by
  unfold zA at h
  split at h
  · rename_i cs s _
    cases h
    have:=Qf8 (cs.map qB) s
    rw [← (show cs=(cs.map qB).map qo from hp)] at this
    exact this
  · cases h
end Go.Sym.B
namespace Go.Sym.B
open Go Go.Sym Go.Proofs Go.Sym.C
theorem b47 {n:Nat} (h:n≤100000):n * 8≤140737488355328∧n * 24≤140737488355328∧n * 16≤140737488355328∧n * 56≤140737488355328∧n≤maxLen:=by
  have:(100000:Nat)≤maxLen:=by decide
  omega
def yP:=kk @Zb (kk @xy (kk @Qx.eq_1 @vW.eq_1))
theorem KH (xs:List (List DV)) (h1:zI 7 xs) (h2:xs.length≤100000):Fn noB Try.prog 122 [.sl xs] noH (.row 0) (qg [(0,.row 81 7 xs)]) 0:=by
  have env:Env (fun _=>True) Try.prog tyB (tab []):=qM trivial
  obtain ⟨b1,b2,b3,b5,b4⟩:=b47 h2
  refine Fn.of (A:=fun _=>True) (n0:=0) (D:=noD) (Fn0 Try.func122 rfl (fun vs w=>by kernel_rfl) (by kernel_rfl)) (by simp) (by simp [AV.ids]) (fun i o h=>by cases h) (fun _ _ _ _=>trivial) qH ?_
  repeat' (first|(apply nx;with_reducible constructor)|refine jq (by decide) ?_)
  (refine kz env fun Q hQ=>?_;simp only [vkt,seval,yP,@true_and];(try simp only [ite_and]);(repeat' (first|with_reducible assumption|refine And.intro ?_ ?_|intro hp));all_goals (first|(refine hQ _ ?_;clear hQ Q)|(refine kx ?_;kernel_rfl)|omega|assumption|with_reducible rfl|skip))
  repeat' (first|(apply nx;with_reducible constructor)|refine jq (by decide) ?_)
  refine Zy (d1:=3) (d2:=4) (t:=26) (e:=81) (x:=.tmp 0) (xs:=xs) rfl rfl rfl rfl rfl rfl Try.underlying26 rfl fun b hb=>?_
  repeat' (first|(apply nx;with_reducible constructor)|refine jq (by decide) ?_)
  (refine yF (by simp only [vkt,seval,yP,@true_and];rfl) (fun h=>?_) (fun h=>?_) <;> (try simp only [vki,reduceCtorEq] at h))
  · have hx:=hb h
    subst hx
    repeat' (first|(apply nx;with_reducible constructor)|refine jq (by decide) ?_|((first|refine kz env fun Q hQ=>?_|refine kj fun Q hQ=>?_);simp only [vkt,seval,yP,@true_and];(try simp only [ite_and]);(repeat' (first|with_reducible assumption|refine And.intro ?_ ?_|intro hp));all_goals (first|(refine hQ _ ?_;clear hQ Q)|(refine hQ _ (fun h=>?_) (fun h=>?_) <;> clear hQ Q <;> (try simp only [vki,reduceCtorEq] at h))|(refine kx ?_;kernel_rfl)|omega|assumption|with_reducible rfl|skip)))
    (simp only [vrt,Try.results122,vkt,seval,yP,@true_and];refine Fin.ok (fun _=>none) [] ?_ ?_ ?_ ?_ ?_ rfl;all_goals (try simp only [vle,vkt,seval,yP,@true_and]))
    all_goals simp
  · repeat' (first|(apply nx;with_reducible constructor)|refine jq (by decide) ?_|((first|refine kz env fun Q hQ=>?_|refine kj fun Q hQ=>?_);simp only [vkt,seval,yP,@true_and];(try simp only [ite_and]);(repeat' (first|with_reducible assumption|refine And.intro ?_ ?_|intro hp));all_goals (first|(refine hQ _ ?_;clear hQ Q)|(refine hQ _ (fun h=>?_) (fun h=>?_) <;> clear hQ Q <;> (try simp only [vki,reduceCtorEq] at h))|(refine kx ?_;kernel_rfl)|omega|assumption|with_reducible rfl|skip)))
    (simp only [vrt,Try.results122,vkt,seval,yP,@true_and];refine Fin.ok some [] ?_ ?_ ?_ ?_ ?_ rfl;all_goals (try simp only [vle,vkt,seval,yP,@true_and]))
    all_goals simp
def yN:=kk @JI (kk @kZ (kk @Wi.eq_1 @xQ.eq_1))
theorem QdK (xs:List (List DV)) (h1:zI 2 xs) (h2:xs.length≤100000):Fn noB Try.prog 132 [.sl xs] noH (.row 0) (qg [(0,.row 49 2 xs)]) 0:=by
  have env:Env (fun _=>True) Try.prog tyB (tab []):=qM trivial
  obtain ⟨b1,b2,b3,b5,b4⟩:=b47 h2
  refine Fn.of (A:=fun _=>True) (n0:=0) (D:=noD) (Fn0 Try.func132 rfl (fun vs w=>by kernel_rfl) (by kernel_rfl)) (by simp) (by simp [AV.ids]) (fun i o h=>by cases h) (fun _ _ _ _=>trivial) qH ?_
  repeat' (first|(apply nx;with_reducible constructor)|refine jq (by decide) ?_)
  (refine kz env fun Q hQ=>?_;simp only [vkt,seval,yN,@true_and];(try simp only [ite_and]);(repeat' (first|with_reducible assumption|refine And.intro ?_ ?_|intro hp));all_goals (first|(refine hQ _ ?_;clear hQ Q)|(refine kx ?_;kernel_rfl)|omega|assumption|with_reducible rfl|skip))
  repeat' (first|(apply nx;with_reducible constructor)|refine jq (by decide) ?_)
  refine Zy (d1:=3) (d2:=4) (t:=37) (e:=49) (x:=.tmp 0) (xs:=xs) rfl rfl rfl rfl rfl rfl Try.underlying37 rfl fun b hb=>?_
  repeat' (first|(apply nx;with_reducible constructor)|refine jq (by decide) ?_)
  (refine yF (by simp only [vkt,seval,yN,@true_and];rfl) (fun h=>?_) (fun h=>?_) <;> (try simp only [vki,reduceCtorEq] at h))
  · have hx:=hb h
    subst hx
    repeat' (first|(apply nx;with_reducible constructor)|refine jq (by decide) ?_|((first|refine kz env fun Q hQ=>?_|refine kj fun Q hQ=>?_);simp only [vkt,seval,yN,@true_and];(try simp only [ite_and]);(repeat' (first|with_reducible assumption|refine And.intro ?_ ?_|intro hp));all_goals (first|(refine hQ _ ?_;clear hQ Q)|(refine hQ _ (fun h=>?_) (fun h=>?_) <;> clear hQ Q <;> (try simp only [vki,reduceCtorEq] at h))|(refine kx ?_;kernel_rfl)|omega|assumption|with_reducible rfl|skip)))
    (simp only [vrt,Try.results132,vkt,seval,yN,@true_and];refine Fin.ok (fun _=>none) [] ?_ ?_ ?_ ?_ ?_ rfl;all_goals (try simp only [vle,vkt,seval,yN,@true_and]))
    all_goals simp
  · repeat' (first|(apply nx;with_reducible constructor)|refine jq (by decide) ?_|((first|refine kz env fun Q hQ=>?_|refine kj fun Q hQ=>?_);simp only [vkt,seval,yN,@true_and];(try simp only [ite_and]);(repeat' (first|with_reducible assumption|refine And.intro ?_ ?_|intro hp));all_goals (first|(refine hQ _ ?_;clear hQ Q)|(refine hQ _ (fun h=>?_) (fun h=>?_) <;> clear hQ Q <;> (try simp only [vki,reduceCtorEq] at h))|(refine kx ?_;kernel_rfl)|omega|assumption|with_reducible rfl|skip)))
    (simp only [vrt,Try.results132,vkt,seval,yN,@true_and];refine Fin.ok some [] ?_ ?_ ?_ ?_ ?_ rfl;all_goals (try simp only [vle,vkt,seval,yN,@true_and]))
    all_goals simp
def Qp (S:St):List AV→Option Pk
  |[.sl xs]=>some { pre:=zI 7 xs∧xs.length≤100000,ar:=[.sl xs],v:=.row 0,L1:=[some (.row 81 7 xs)] }
  |[.row r]=>match S.h r with
    |some (.row _ _ xs)=>some { pre:=zI 7 xs∧xs.length≤100000,bo:=[r],fl:=true,ar:=[.sl xs],v:=.row 0,L1:=[some (.row 81 7 xs)] }
    |_=>none
  |_=>none
theorem Qdu {A:Frm→Prop}:qC A Try.prog 122 (fnE Qp):=zx fun S bs q h hp=>by
  unfold Qp at h
  split at h
  · cases h;exact KH _ hp.1 hp.2
  · split at h
    · cases h;exact KH _ hp.1 hp.2
    · cases h
  · cases h
def wL (_:St):List AV→Option Pk
  |[.sl xs]=>some { pre:=zI 2 xs∧xs.length≤100000,ar:=[.sl xs],v:=.row 0,L1:=[some (.row 49 2 xs)] }
  |_=>none
theorem Qh3 {A:Frm→Prop}:qC A Try.prog 132 (fnE wL):=zx fun S bs q h hp=>by
  unfold wL at h
  split at h
  · cases h;exact QdK _ hp.1 hp.2
  · cases h
def ibS (b:Bunk) (l:List Bunk) (k:Nat):St:={ t:=asg [(0,qc l),(3,.ptr 0 0),(4,aI 0),(6,qc l),(7,aI l.length),(8,aI k)],h:=qg [(0,.cells [.v (.int .i64 b.cab),.v (.int .i64 b.bed)])],n:=1 }
def Lu (b:Bunk) (l:List Bunk):Int:=match l.findIdx? (· == b) with
  |some i=>(i:Int)
  |none=>-1
theorem Qgy {b:Bunk} {l:List Bunk} {k:Nat} (hk:k < l.length) (h:∀ j,j < k→l.getD j default ≠ b) (hp:l.getD k default=b):Lu b l=(k:Int):=by
  have:l.findIdx? (· == b)=some k:=by
    rw [List.findIdx?_eq_some_iff_getElem]
    refine ⟨hk,by simpa [List.getD_eq_getElem?_getD,hk] using hp,fun j hj=>?_⟩
    have:=h j hj
    simpa [List.getD_eq_getElem?_getD,show j < l.length by omega] using this
  simp [Lu,this]
theorem Qef {b:Bunk} {l:List Bunk} (h:∀ j,j < l.length→l.getD j default ≠ b):Lu b l=-1:=by
  have:l.findIdx? (· == b)=none:=by
    rw [List.findIdx?_eq_none_iff]
    intro x hx
    obtain ⟨j,hj,rfl⟩:=List.mem_iff_getElem.1 hx
    have:=h j hj
    simpa [List.getD_eq_getElem?_getD,hj] using this
  simp [Lu,this]
theorem Qht (b:Bunk) (l:List Bunk):decide (0≤Lu b l)=l.contains b:=by
  unfold Lu
  cases h:l.findIdx? (· == b) with
  |none =>
    rw [List.findIdx?_eq_none_iff] at h
    symm
    simp only [show ¬ (0:Int)≤-1 by decide,decide_false]
    rw [Bool.eq_false_iff]
    intro hc
    have:=h b (by simpa using hc)
    simp at this
  |some i =>
    rw [List.findIdx?_eq_some_iff_getElem] at h
    obtain ⟨hi,hp,_⟩:=h
    symm
    simp only [Int.natCast_nonneg,decide_true]
    have:l[i]=b:=by simpa using hp
    rw [← this];simp
def wX:=kk @ty3 (kk @JI (kk @kZ (kk @ti3.eq_1 (kk @Wi.eq_1 @xQ.eq_1))))
def QH:=kk @aI.eq_1 (@aB.eq_1)
theorem QeJ (b:Bunk) (l:List Bunk) (hl:l.length≤100):FnV Try.prog 146 [qc l,ql b] (aI (Lu b l)):=by
  have env:Env (fun _=>True) Try.prog tyB (tab []):=qM trivial
  refine Fn.of (A:=fun _=>True) (n0:=0) (D:=noD) (Fn0 Try.func146 rfl (fun vs w=>by kernel_rfl) (by kernel_rfl)) (by simp) (by simp [AV.ids,AV.idsL,qc,ql]) (fun i o h=>by cases h) (fun _ _ _ _=>trivial) qH ?_
  repeat' (first|(apply nx;with_reducible constructor)|refine jq (by decide) ?_|((first|refine kz env fun Q hQ=>?_|refine kj fun Q hQ=>?_);simp only [vkt,seval,wX,QH,ql,qc,qp,qE,ibS,Bool.true_and,Bool.false_and];(try simp only [ite_and]);(repeat' (first|with_reducible assumption|refine And.intro ?_ ?_|intro hp));all_goals (first|(refine hQ _ ?_;clear hQ Q)|(refine hQ _ (fun h=>?_) (fun h=>?_) <;> clear hQ Q <;> (try simp only [vki,reduceCtorEq] at h))|(refine kx ?_;kernel_rfl)|omega|assumption|with_reducible rfl|skip)))
  refine qU (fun k:{ k:Nat // k≤l.length∧∀ j,j < k→l.getD j default ≠ b }=>ibS b l k.1) (fun k=>l.length - k.1) ⟨0,Nat.zero_le _,fun j h=>absurd h (Nat.not_lt_zero _)⟩ ?_ fun ⟨k,hk,hno⟩=>?_
  · (refine Le.ok some [] ?_;constructor;all_goals (try simp only [vle,vkt,seval,wX,QH,ql,qc,qp,qE,ibS,Bool.true_and,Bool.false_and]))
    all_goals first|rfl|(simp;done)
  · repeat' (first|(apply nx;with_reducible constructor)|refine jq (by decide) ?_)
    (refine kz env fun Q hQ=>?_;simp only [vkt,seval,wX,QH,ql,qc,qp,qE,ibS,Bool.true_and,Bool.false_and];(try simp only [ite_and]);(repeat' (first|with_reducible assumption|refine And.intro ?_ ?_|intro hp));all_goals (first|(refine hQ _ ?_;clear hQ Q)|(refine kx ?_;kernel_rfl)|omega|assumption|with_reducible rfl|skip))
    repeat' (first|(apply nx;with_reducible constructor)|refine jq (by decide) ?_)
    (refine yF (by simp only [vkt,seval,wX,QH,ql,qc,qp,qE,ibS,Bool.true_and,Bool.false_and];rfl) (fun h=>?_) (fun h=>?_) <;> (try simp only [vki,reduceCtorEq] at h))
    · have hlt:k < l.length:=by omega
      have e9:IntKind.wrap .i64 ((k:Int)+1)=((k+1:Nat):Int):=by rw [wrap64 (by omega) (by omega)];rfl
      obtain ⟨x,hx⟩:∃ x,l.getD k default=x:=⟨_,rfl⟩
      have hxb:(x=b)=(b.cab=x.cab∧b.bed=x.bed):=by
        cases x;cases b;simp;exact ⟨fun ⟨a,b⟩=>⟨a.symm,b.symm⟩,fun ⟨a,b⟩=>⟨a.symm,b.symm⟩⟩
      have hnx:¬ x=b→∀ j,j < k+1→l.getD j default ≠ b:=fun hp j hj=>by
        rcases Nat.lt_or_eq_of_le (Nat.le_of_lt_succ hj) with h1|h1
        · exact hno j h1
        · rw [h1,hx];exact hp
      cases q1:decide (b.cab=x.cab)
      · have hp:¬ x=b:=by rw [hxb];exact fun h=>of_decide_eq_false q1 h.1
        repeat' (first|(apply nx;with_reducible constructor)|refine jq (by decide) ?_|((first|refine kz env fun Q hQ=>?_|refine kj fun Q hQ=>?_);simp only [vkt,seval,wX,QH,ql,qc,qp,qE,ibS,Bool.true_and,Bool.false_and,hx,q1,e9];(try simp only [ite_and]);(repeat' (first|with_reducible assumption|refine And.intro ?_ ?_|intro hp));all_goals (first|(refine hQ _ ?_;clear hQ Q)|(refine hQ _ (fun h=>?_) (fun h=>?_) <;> clear hQ Q <;> (try simp only [vki,reduceCtorEq] at h))|(refine kx ?_;kernel_rfl)|omega|assumption|with_reducible rfl|skip)))
        refine ⟨⟨k+1,hlt,hnx hp⟩,by show l.length - (k+1) < l.length - k;omega, ?_⟩
        (refine Le.ok some [] ?_;constructor;all_goals (try simp only [vle,vkt,seval,wX,QH,ql,qc,qp,qE,ibS,Bool.true_and,Bool.false_and]))
        all_goals first|rfl|(simp;done)
      · cases q2:decide (b.bed=x.bed)
        · have hp:¬ x=b:=by rw [hxb];exact fun h=>of_decide_eq_false q2 h.2
          repeat' (first|(apply nx;with_reducible constructor)|refine jq (by decide) ?_|((first|refine kz env fun Q hQ=>?_|refine kj fun Q hQ=>?_);simp only [vkt,seval,wX,QH,ql,qc,qp,qE,ibS,Bool.true_and,Bool.false_and,hx,q1,q2,e9];(try simp only [ite_and]);(repeat' (first|with_reducible assumption|refine And.intro ?_ ?_|intro hp));all_goals (first|(refine hQ _ ?_;clear hQ Q)|(refine hQ _ (fun h=>?_) (fun h=>?_) <;> clear hQ Q <;> (try simp only [vki,reduceCtorEq] at h))|(refine kx ?_;kernel_rfl)|omega|assumption|with_reducible rfl|skip)))
          refine ⟨⟨k+1,hlt,hnx hp⟩,by show l.length - (k+1) < l.length - k;omega, ?_⟩
          (refine Le.ok some [] ?_;constructor;all_goals (try simp only [vle,vkt,seval,wX,QH,ql,qc,qp,qE,ibS,Bool.true_and,Bool.false_and]))
          all_goals first|rfl|(simp;done)
        · have hh:=Qgy hlt hno (by rw [hx,hxb];exact ⟨of_decide_eq_true q1,of_decide_eq_true q2⟩)
          rw [hh]
          repeat' (first|(apply nx;with_reducible constructor)|refine jq (by decide) ?_|((first|refine kz env fun Q hQ=>?_|refine kj fun Q hQ=>?_);simp only [vkt,seval,wX,QH,ql,qc,qp,qE,ibS,Bool.true_and,Bool.false_and,hx,q1,q2,e9];(try simp only [ite_and]);(repeat' (first|with_reducible assumption|refine And.intro ?_ ?_|intro hp));all_goals (first|(refine hQ _ ?_;clear hQ Q)|(refine hQ _ (fun h=>?_) (fun h=>?_) <;> clear hQ Q <;> (try simp only [vki,reduceCtorEq] at h))|(refine kx ?_;kernel_rfl)|omega|assumption|with_reducible rfl|skip)))
          (simp only [vrt,Try.results146,vkt,seval,wX,QH,ql,qc,qp,qE,ibS,Bool.true_and,Bool.false_and];refine Fin.val rfl ?_;(try simp only [AV.le,AV.leL]))
          all_goals first|rfl|(simp;done)
    · have hke:k=l.length:=by omega
      subst hke
      rw [Qef hno]
      repeat' (first|(apply nx;with_reducible constructor)|refine jq (by decide) ?_|((first|refine kz env fun Q hQ=>?_|refine kj fun Q hQ=>?_);simp only [vkt,seval,wX,QH,ql,qc,qp,qE,ibS,Bool.true_and,Bool.false_and];(try simp only [ite_and]);(repeat' (first|with_reducible assumption|refine And.intro ?_ ?_|intro hp));all_goals (first|(refine hQ _ ?_;clear hQ Q)|(refine hQ _ (fun h=>?_) (fun h=>?_) <;> clear hQ Q <;> (try simp only [vki,reduceCtorEq] at h))|(refine kx ?_;kernel_rfl)|omega|assumption|with_reducible rfl|skip)))
      (simp only [vrt,Try.results146,vkt,seval,wX,QH,ql,qc,qp,qE,ibS,Bool.true_and,Bool.false_and];refine Fin.val rfl ?_;(try simp only [AV.le,AV.leL]))
      all_goals first|rfl|(simp;done)
def Yo:List AV→Prop × AV
  |[.sl l,.agg [.v (.int .i64 b0),.v (.int .i64 b1)]]=>(l=(l.map zG).map qp∧(l.map zG).length≤100,aI (Lu (⟨b0,b1⟩:Bunk) (l.map zG)))
  |_=>(False,.junk)
theorem Qi5 {A:Frm→Prop}:qC A Try.prog 146 (zk true Yo):=zn fun vs hv h=>by
  clear hv
  unfold Yo at h ⊢
  split at h
  · rename_i l b0 b1;obtain ⟨q0,k0⟩:=h
    refine ⟨by first|trivial|(simp [AV.plain,AV.plainL,aI,aB,qA,qc,qx,ql,aTk,cTk];done)|(repeat' split) <;> simp [AV.plain,AV.plainL,aI,aB,qA,qc,qx,ql,aTk,cTk],fun _=>(by simp [AV.flat,AV.flatL,aI,aB]), ?_⟩
    have:=QeJ (⟨b0,b1⟩:Bunk) (l.map zG) k0
    simp only [ql,qc,aI,← q0] at this
    first|exact this|(simp only [ql,qc,aI,← q0];exact this)
  · exact h.elim
def VW:=kk @ty3 (kk @kZ (kk @ti3.eq_1 @xQ.eq_1))
def Qf5:=kk @aI.eq_1 (@aB.eq_1)
theorem Qgl (b:Bunk) (l:List Bunk) (hl:l.length≤100):FnV Try.prog 133 [qc l,ql b] (aB (l.contains b)):=by
  have env:Env (fun _=>True) Try.prog tyB (tab [(146,zk true Yo)]):=qM ⟨Qi5,trivial⟩
  refine Fn.of (A:=fun _=>True) (n0:=0) (D:=noD) (Fn0 Try.func133 rfl (fun vs w=>by kernel_rfl) (by kernel_rfl)) (by simp) (by simp [AV.ids,AV.idsL,qc,ql]) (fun i o h=>by cases h) (fun _ _ _ _=>trivial) qH ?_
  have ex:(⟨b.cab,b.bed⟩:Bunk)=b:=rfl
  have ea:=Qht b l
  repeat' (first|(apply nx;with_reducible constructor)|refine jq (by decide) ?_|((first|refine kz env fun Q hQ=>?_|refine kj fun Q hQ=>?_);simp only [vkt,seval,VW,Qf5,ql,qc,qp,ze,Yo,List.length_map,ex,ea];(try simp only [ite_and]);(repeat' (first|with_reducible assumption|refine And.intro ?_ ?_|intro hp));all_goals (first|(refine hQ _ ?_;clear hQ Q)|(refine hQ _ (fun h=>?_) (fun h=>?_) <;> clear hQ Q <;> (try simp only [vki,reduceCtorEq] at h))|(refine kx ?_;kernel_rfl)|omega|assumption|with_reducible rfl|skip)))
  (simp only [vrt,Try.results133,vkt,seval,VW,Qf5,ql,qc,qp,ze,Yo,List.length_map];refine Fin.val rfl ?_;(try simp only [AV.le,AV.leL]))
  all_goals first|rfl|(simp;done)
def jM:List AV→Prop × AV
  |[.sl l,.agg [.v (.int .i64 b0),.v (.int .i64 b1)]]=>(l=(l.map zG).map qp∧(l.map zG).length≤100,aB ((l.map zG).contains (⟨b0,b1⟩:Bunk)))
  |_=>(False,.junk)
theorem Qkb {A:Frm→Prop}:qC A Try.prog 133 (zk true jM):=zn fun vs hv h=>by
  clear hv
  unfold jM at h ⊢
  split at h
  · rename_i l b0 b1;obtain ⟨q0,k0⟩:=h
    refine ⟨by first|trivial|(simp [AV.plain,AV.plainL,aI,aB,qA,qc,qx,ql,aTk,cTk];done)|(repeat' split) <;> simp [AV.plain,AV.plainL,aI,aB,qA,qc,qx,ql,aTk,cTk],fun _=>(by simp [AV.flat,AV.flatL,aI,aB]), ?_⟩
    have:=Qgl (⟨b0,b1⟩:Bunk) (l.map zG) k0
    simp only [ql,qc,aI,← q0] at this
    first|exact this|(simp only [ql,qc,aI,← q0];exact this)
  · exact h.elim
def qf (cs:List Cabin) (s:Int) (r:Nat):AObj:=.cells [.sl (cs.map qo),.v (.int .i64 s),.row r]
def qh (l:List Tk):AObj:=.row 81 7 (l.map eTk)
def qm (cs:List Cabin) (s:Int) (l:List Tk):List AObj:=[qf cs s 1,qh l]
structure NearOk (cs:List Cabin) (l:List Bunk):Prop where
  ne:0 < l.length
  len:l.length≤100
  cabs:cs.length≤100
  mem:∀ b ∈ l,0≤b.cab∧b.cab.toNat < cs.length
def loK (l:List Bunk) (k:Nat):Int:=(l.take k).foldl (fun m b=>min m b.cab) (l.getD 0 default).cab
def hiK (l:List Bunk) (k:Nat):Int:=(l.take k).foldl (fun m b=>max m b.cab) (l.getD 0 default).cab
theorem Xe {l:List Bunk} {k:Nat} (h:k < l.length):loK l (k+1)=min (loK l k) (l.getD k default).cab:=by
  unfold loK
  rw [List.take_succ_eq_append_getElem h,List.foldl_append]
  simp [List.getD_eq_getElem?_getD,h]
theorem X0 {l:List Bunk} {k:Nat} (h:k < l.length):hiK l (k+1)=max (hiK l k) (l.getD k default).cab:=by
  unfold hiK
  rw [List.take_succ_eq_append_getElem h,List.foldl_append]
  simp [List.getD_eq_getElem?_getD,h]
theorem Qcw (cs:List Cabin) (l:List Bunk):Zz cs l=(decide (loK l l.length=hiK l l.length) || (decide (loK l l.length+1=hiK l l.length) && (cs.getD (loK l l.length).toNat default).door)):=by
  unfold Zz loK hiK
  rw [List.take_length]
theorem KA {cs:List Cabin} {l:List Bunk} (h:NearOk cs l):∀ k,k≤l.length→0≤loK l k∧(loK l k).toNat < cs.length∧0≤hiK l k∧(hiK l k).toNat < cs.length:=by
  intro k
  induction k with
  |zero =>
    intro _
    have:=h.mem _ (vL (d:=default) h.ne)
    simp only [loK,hiK,List.take_zero,List.foldl_nil]
    exact ⟨this.1,this.2,this.1,this.2⟩
  |succ k ih =>
    intro hk
    have h1:=ih (by omega)
    have h2:=h.mem _ (vL (d:=default) (show k < l.length by omega))
    rw [Xe (by omega),X0 (by omega)]
    omega
def nrS (cs:List Cabin) (s:Int) (sold:List Tk) (l:List Bunk) (k:Nat) (lo hi:Int):St:={ t:=asg [(0,.ptr 0 0),(1,qc l),(4,aB false),(5,aI lo),(6,aI hi),(17,qc l),(18,aI l.length),(19,aI k)],h:=qg [(0,qf cs s 1),(1,qh sold)],n:=2,m:=2 }
def je:=kk @ty3 (kk @ty4 (kk @VJ (kk @vg (kk @JI (kk @kZ (kk @VD (kk @JO (kk @ti3.eq_1 (kk @ti4.eq_1 (kk @Yc.eq_1 (kk @yI.eq_1 (kk @Wi.eq_1 (kk @xQ.eq_1 (kk @Yb.eq_1 @ZL.eq_1))))))))))))))
def xV:=kk @aI.eq_1 (@aB.eq_1)
theorem QhT (cs:List Cabin) (s:Int) (sold:List Tk) (l:List Bunk) (ok:NearOk cs l):Fn noB Try.prog 134 [.ptr 0 0,qc l] (qg (qI 0 (qm cs s sold))) (aB (Zz cs l)) (qg (zT 0 ((qm cs s sold).map some))) 0:=by
  have env:Env (fun _=>True) Try.prog tyB (tab []):=qM trivial
  refine Fn.of (A:=fun _=>True) (n0:=2) (D:=noD) (Fn0 Try.func134 rfl (fun vs w=>by kernel_rfl) (by kernel_rfl)) (by simp) (by simp [AV.ids,AV.idsL,qc]) ?_ (fun _ _ _ _=>trivial) qH ?_
  · intro i o hi
    have h:=qL hi
    simp [qI,qm] at h
    rcases h with ⟨rfl,rfl⟩|⟨rfl,rfl⟩ <;> simp [AObj.ids,AV.ids,AV.idsL,qf,qh]
  have hne:=ok.ne
  have hll:=ok.len
  have hcl:=ok.cabs
  have hbd:=KA ok
  obtain ⟨x0,hx0⟩:∃ x,l.getD 0 default=x:=⟨_,rfl⟩
  have l0:loK l 0=x0.cab:=by rw [← hx0];rfl
  have h0:hiK l 0=x0.cab:=by rw [← hx0];rfl
  rw [Qcw]
  show Sym _ _ _ (zq [.ptr 0 0,qc l] 2 (qg [(0,qf cs s 1),(1,qh sold)])) (yB tyB noD Try.f134 fun S rv=>Fin S rv _ 2 (qg [(0,qf cs s 1),(1,qh sold)]) 0)
  repeat' (first|(apply nx;with_reducible constructor)|refine jq (by decide) ?_|((first|refine kz env fun Q hQ=>?_|refine kj fun Q hQ=>?_);simp only [vkt,seval,je,xV,ql,qc,qp,qE,qo,qG,qf,qh,qm,nrS,List.length_map,hx0];(try simp only [ite_and]);(repeat' (first|with_reducible assumption|refine And.intro ?_ ?_|intro hp));all_goals (first|(refine hQ _ ?_;clear hQ Q)|(refine hQ _ (fun h=>?_) (fun h=>?_) <;> clear hQ Q <;> (try simp only [vki,reduceCtorEq] at h))|(refine kx ?_;kernel_rfl)|omega|assumption|with_reducible rfl|skip)))
  refine qU (fun k:{ k:Nat // k≤l.length }=>nrS cs s sold l k.1 (loK l k.1) (hiK l k.1)) (fun k=>l.length - k.1) ⟨0,Nat.zero_le _⟩ ?_ fun ⟨k,hk⟩=>?_
  · simp only [l0,h0]
    (refine Le.ok some [] ?_;constructor;all_goals (try simp only [vle,vkt,seval,je,xV,ql,qc,qp,qE,qo,qG,qf,qh,qm,nrS,List.length_map]))
    all_goals first|rfl|(simp;done)
  · repeat' (first|(apply nx;with_reducible constructor)|refine jq (by decide) ?_)
    (refine kz env fun Q hQ=>?_;simp only [vkt,seval,je,xV,ql,qc,qp,qE,qo,qG,qf,qh,qm,nrS,List.length_map];(try simp only [ite_and]);(repeat' (first|with_reducible assumption|refine And.intro ?_ ?_|intro hp));all_goals (first|(refine hQ _ ?_;clear hQ Q)|(refine kx ?_;kernel_rfl)|omega|assumption|with_reducible rfl|skip))
    repeat' (first|(apply nx;with_reducible constructor)|refine jq (by decide) ?_)
    (refine yF (by simp only [vkt,seval,je,xV,ql,qc,qp,qE,qo,qG,qf,qh,qm,nrS,List.length_map];rfl) (fun h=>?_) (fun h=>?_) <;> (try simp only [vki,reduceCtorEq] at h))
    · have hlt:k < l.length:=by omega
      have e9:IntKind.wrap .i64 ((k:Int)+1)=((k+1:Nat):Int):=by rw [wrap64 (by omega) (by omega)];rfl
      obtain ⟨x,hx⟩:∃ x,l.getD k default=x:=⟨_,rfl⟩
      have hl1:=Xe hlt
      have hh1:=X0 hlt
      rw [hx] at hl1 hh1
      repeat' (first|(apply nx;with_reducible constructor)|refine jq (by decide) ?_|((first|refine kz env fun Q hQ=>?_|refine kj fun Q hQ=>?_);simp only [vkt,seval,je,xV,ql,qc,qp,qE,qo,qG,qf,qh,qm,nrS,List.length_map,hx,e9];(try simp only [ite_and]);(repeat' (first|with_reducible assumption|refine And.intro ?_ ?_|intro hp));all_goals (first|(refine hQ _ ?_;clear hQ Q)|(refine hQ _ (fun h=>?_) (fun h=>?_) <;> clear hQ Q <;> (try simp only [vki,reduceCtorEq] at h))|(refine kx ?_;kernel_rfl)|omega|assumption|with_reducible rfl|skip)))
      refine ⟨⟨k+1,hlt⟩,by show l.length - (k+1) < l.length - k;omega, ?_⟩
      simp only [hl1,hh1]
      (refine Le.ok some [] ?_;constructor;all_goals (try simp only [vle,vkt,seval,je,xV,ql,qc,qp,qE,qo,qG,qf,qh,qm,nrS,List.length_map]))
      all_goals first|rfl|(simp;done)
    · have hke:k=l.length:=by omega
      subst hke
      obtain ⟨g1,g2,g3,g4⟩:=hbd l.length (Nat.le_refl _)
      obtain ⟨lo,hlo⟩:∃ x,loK l l.length=x:=⟨_,rfl⟩
      obtain ⟨hi,hhi⟩:∃ x,hiK l l.length=x:=⟨_,rfl⟩
      rw [hlo] at g1 g2
      rw [hhi] at g3 g4
      obtain ⟨x,hx⟩:∃ x,cs.getD lo.toNat default=x:=⟨_,rfl⟩
      have w1:IntKind.wrap .i64 (lo+1)=lo+1:=wrap64 (by omega) (by omega)
      simp only [hlo,hhi]
      by_cases c1:lo=hi
      · rw [show (decide (lo=hi) || (decide (lo+1=hi) && (cs.getD lo.toNat default).door))=true by simp [c1]]
        have d1:decide (lo=hi)=true:=decide_eq_true c1
        have d1':(lo == hi)=true:=by simpa using c1
        repeat' (first|(apply nx;with_reducible constructor)|refine jq (by decide) ?_|((first|refine kz env fun Q hQ=>?_|refine kj fun Q hQ=>?_);simp only [vkt,seval,je,xV,ql,qc,qp,qE,qo,qG,qf,qh,qm,nrS,List.length_map,d1,d1',w1,hx,g1,g2];(try simp only [ite_and]);(repeat' (first|with_reducible assumption|refine And.intro ?_ ?_|intro hp));all_goals (first|(refine hQ _ ?_;clear hQ Q)|(refine hQ _ (fun h=>?_) (fun h=>?_) <;> clear hQ Q <;> (try simp only [vki,reduceCtorEq] at h))|(refine kx ?_;kernel_rfl)|omega|assumption|with_reducible rfl|skip)))
        (simp only [vrt,Try.results134,vkt,seval,je,xV,ql,qc,qp,qE,qo,qG,qf,qh,qm,nrS,List.length_map];refine Fin.ok some [] ?_ ?_ ?_ ?_ ?_ rfl;all_goals (try simp only [vle,vkt,seval,je,xV,ql,qc,qp,qE,qo,qG,qf,qh,qm,nrS,List.length_map]))
        all_goals first|rfl|(simp;done)
      · have d1:decide (lo=hi)=false:=decide_eq_false c1
        have d1':(lo == hi)=false:=by simpa using c1
        by_cases c2:lo+1=hi
        · rw [show (decide (lo=hi) || (decide (lo+1=hi) && (cs.getD lo.toNat default).door))=x.door by rw [d1,hx,decide_eq_true c2];simp]
          have d2:decide (lo+1=hi)=true:=decide_eq_true c2
          have d2':(lo+1 == hi)=true:=by simpa using c2
          repeat' (first|(apply nx;with_reducible constructor)|refine jq (by decide) ?_|((first|refine kz env fun Q hQ=>?_|refine kj fun Q hQ=>?_);simp only [vkt,seval,je,xV,ql,qc,qp,qE,qo,qG,qf,qh,qm,nrS,List.length_map,d1,d1',d2,d2',w1,hx,g1,g2];(try simp only [ite_and]);(repeat' (first|with_reducible assumption|refine And.intro ?_ ?_|intro hp));all_goals (first|(refine hQ _ ?_;clear hQ Q)|(refine hQ _ (fun h=>?_) (fun h=>?_) <;> clear hQ Q <;> (try simp only [vki,reduceCtorEq] at h))|(refine kx ?_;kernel_rfl)|omega|assumption|with_reducible rfl|skip)))
          (simp only [vrt,Try.results134,vkt,seval,je,xV,ql,qc,qp,qE,qo,qG,qf,qh,qm,nrS,List.length_map];refine Fin.ok some [] ?_ ?_ ?_ ?_ ?_ rfl;all_goals (try simp only [vle,vkt,seval,je,xV,ql,qc,qp,qE,qo,qG,qf,qh,qm,nrS,List.length_map]))
          all_goals first|rfl|(simp;done)
        · rw [show (decide (lo=hi) || (decide (lo+1=hi) && (cs.getD lo.toNat default).door))=false by rw [d1,decide_eq_false c2];rfl]
          have d2:decide (lo+1=hi)=false:=decide_eq_false c2
          have d2':(lo+1 == hi)=false:=by simpa using c2
          repeat' (first|(apply nx;with_reducible constructor)|refine jq (by decide) ?_|((first|refine kz env fun Q hQ=>?_|refine kj fun Q hQ=>?_);simp only [vkt,seval,je,xV,ql,qc,qp,qE,qo,qG,qf,qh,qm,nrS,List.length_map,d1,d1',d2,d2',w1,hx,g1,g2];(try simp only [ite_and]);(repeat' (first|with_reducible assumption|refine And.intro ?_ ?_|intro hp));all_goals (first|(refine hQ _ ?_;clear hQ Q)|(refine hQ _ (fun h=>?_) (fun h=>?_) <;> clear hQ Q <;> (try simp only [vki,reduceCtorEq] at h))|(refine kx ?_;kernel_rfl)|omega|assumption|with_reducible rfl|skip)))
          (simp only [vrt,Try.results134,vkt,seval,je,xV,ql,qc,qp,qE,qo,qG,qf,qh,qm,nrS,List.length_map];refine Fin.ok some [] ?_ ?_ ?_ ?_ ?_ rfl;all_goals (try simp only [vle,vkt,seval,je,xV,ql,qc,qp,qE,qo,qG,qf,qh,qm,nrS,List.length_map]))
          all_goals first|rfl|(simp;done)
end Go.Sym.B
namespace Go.Sym.B
open Go Go.Sym Go.Proofs Go.Sym.C
def WY:=kk @ty3 @ti3.eq_1
def Qck:=kk @aI.eq_1 (@aB.eq_1)
theorem QeK (x n m:Int) (h:0≤m∧m≤100000):Fn noB Try.prog 45 [.ptr 0 0,aI n,aI m] (qg (zy x)) (aB (decide (upV x (m - 1) < n))) (qg (zy (upS x (m - 1)))) 0:=by
  have env:Env (fun _=>True) Try.prog tyB (tab [(40,fnE pUp)]):=qM ⟨eUp,trivial⟩
  refine Fn.of (A:=fun _=>True) (n0:=1) (D:=noD) (Fn0 Try.func45 rfl (fun vs w=>by kernel_rfl) (by kernel_rfl)) (by simp) (by simp [AV.ids,AV.idsL,aI]) ?_ (fun _ _ _ _=>trivial) qH ?_
  · intro i o hi
    have h:=qL hi
    simp [zy] at h
    rcases h with ⟨rfl,rfl⟩;simp [AObj.ids,AV.ids,AV.idsL]
  have h1:IntKind.wrap .i64 (m - 1)=m - 1:=wrap64 (by omega) (by omega)
  have h2:m - 1 < 9223372036854775807:=by omega
  repeat' (first|(apply nx;with_reducible constructor)|refine jq (by decide) ?_|((first|refine kz env fun Q hQ=>?_|refine kj fun Q hQ=>?_);simp only [vkt,seval,WY,Qck,zy,pUp,h1,h2];(try simp only [ite_and]);(repeat' (first|with_reducible assumption|refine And.intro ?_ ?_|intro hp));all_goals (first|(refine hQ _ ?_;clear hQ Q)|(refine hQ _ (fun h=>?_) (fun h=>?_) <;> clear hQ Q <;> (try simp only [vki,reduceCtorEq] at h))|(refine kx ?_;kernel_rfl)|omega|assumption|with_reducible rfl|skip)))
  (simp only [vrt,Try.results45,vkt,seval,WY,Qck,zy,pUp];refine Fin.ok some [] ?_ ?_ ?_ ?_ ?_ rfl;all_goals (try simp only [vle,vkt,seval,WY,Qck,zy,pUp]))
  all_goals first|rfl|(simp;done)
noncomputable def zF (S:St):List AV→Option Pk
  |[.ptr i 0,.v (.int .i64 n),.v (.int .i64 m)]=>match S.h i with
    |some (.cells [.v (.int .u64 x)])=>some { pre:=0≤m∧m≤100000,hs:=[i],ar:=[.ptr 0 0,.v (.int .i64 n),.v (.int .i64 m)],L0:=[.cells [.v (.int .u64 x)]],v:=.v (.bool (decide (upV x (m - 1) < n))),L1:=[some (.cells [.v (.int .u64 (upS x (m - 1)))])] }
    |_=>none
  |_=>none
theorem QdA {A:Frm→Prop}:qC A Try.prog 45 (fnE zF):=zx fun S bs q h hp=>by
  unfold zF at h
  split at h
  · split at h
    · cases h;exact QeK _ _ _ hp
    · cases h
  · cases h
def XZ:=kk @ty3 (kk @Qf (kk @ti3.eq_1 @kC.eq_1))
def Qbz:=kk @aI.eq_1 (kk @aB.eq_1 (kk @qA.eq_1 (kk @zC.eq_1 (@Y4))))
theorem Qkp (x:Int) (l:List Int) (h:0 < l.length∧l.length≤100000):Fn noB Try.prog 64 [.ptr 0 0,qA l] (qg (zy x)) (aI (l.getD (upV x ((l.length:Int) - 1)).toNat 0)) (qg (zy (upS x ((l.length:Int) - 1)))) 0:=by
  have env:Env (fun _=>True) Try.prog tyB (tab [(40,fnE pUp)]):=qM ⟨eUp,trivial⟩
  refine Fn.of (A:=fun _=>True) (n0:=1) (D:=noD) (Fn0 Try.func64 rfl (fun vs w=>by kernel_rfl) (by kernel_rfl)) (by simp) (by simp [AV.ids,AV.idsL,qA]) ?_ (fun _ _ _ _=>trivial) qH ?_
  · intro i o hi
    have h:=qL hi
    simp [zy] at h
    rcases h with ⟨rfl,rfl⟩;simp [AObj.ids,AV.ids,AV.idsL]
  have h1:IntKind.wrap .i64 ((l.length:Int) - 1)=(l.length:Int) - 1:=wrap64 (by omega) (by omega)
  have h2:(l.length:Int) - 1 < 9223372036854775807:=by omega
  have hb:=Qa6 (x:=x) (m:=(l.length:Int) - 1) h2
  obtain ⟨i,hi⟩:∃ i:Nat,upV x ((l.length:Int) - 1)=i:=⟨(upV x ((l.length:Int) - 1)).toNat,by omega⟩
  rw [hi] at hb ⊢
  have i0:((i:Int)).toNat=i:=rfl
  have hil:i < l.length:=by omega
  have d0:decide ((l.length:Int)=0)=false:=decide_eq_false (by omega)
  obtain ⟨y,hy⟩:∃ y,l.getD i 0=y:=⟨_,rfl⟩
  rw [i0,hy]
  repeat' (first|(apply nx;with_reducible constructor)|refine jq (by decide) ?_|((first|refine kz env fun Q hQ=>?_|refine kj fun Q hQ=>?_);simp only [vkt,seval,XZ,Qbz,zy,pUp,List.length_map,h1,h2,hi,i0,hil,d0,hy];(try simp only [ite_and]);(repeat' (first|with_reducible assumption|refine And.intro ?_ ?_|intro hp));all_goals (first|(refine hQ _ ?_;clear hQ Q)|(refine hQ _ (fun h=>?_) (fun h=>?_) <;> clear hQ Q <;> (try simp only [vki,reduceCtorEq] at h))|(refine kx ?_;kernel_rfl)|omega|assumption|with_reducible rfl|skip)))
  (simp only [vrt,Try.results64,vkt,seval,XZ,Qbz,zy,pUp,List.length_map];refine Fin.ok some [] ?_ ?_ ?_ ?_ ?_ rfl;all_goals (try simp only [vle,vkt,seval,XZ,Qbz,zy,pUp,List.length_map]))
  all_goals first|rfl|(simp;done)
noncomputable def vQ (S:St):List AV→Option Pk
  |[.ptr i 0,.row r]=>match S.h i,S.h r with
    |some (.cells [.v (.int .u64 x)]),some (.row _ _ xs)=>some { pre:=xs=(xs.map zl).map zC∧0 < (xs.map zl).length∧(xs.map zl).length≤100000,hs:=[i],bo:=[r],ar:=[.ptr 0 0,.sl xs],L0:=[.cells [.v (.int .u64 x)]],v:=.v (.int .i64 ((xs.map zl).getD (upV x (((xs.map zl).length:Int) - 1)).toNat 0)),L1:=[some (.cells [.v (.int .u64 (upS x (((xs.map zl).length:Int) - 1)))])] }
    |_,_=>none
  |_=>none
theorem eOne {A:Frm→Prop}:qC A Try.prog 64 (fnE vQ):=zx fun S bs q h hp=>by
  unfold vQ at h
  split at h
  · split at h
    · cases h
      have:=Qkp (by assumption) _ hp.2
      rw [qA,← hp.1] at this
      exact this
    · cases h
  · cases h
def Y6 (t x:Tk):Bool:=decide (x.cab=t.cab) && !decide (t.to≤x.frm) && !decide (x.to≤t.frm) && (decide (x.bed=t.bed) || (!decide (x.party=t.party) && (!decide (x.sex=t.sex) || x.dog || t.dog)))
def Wx (l:List Tk) (t:Tk):Bool:=!l.any (Y6 t)
theorem QfB {l:List Tk} {t:Tk} {k:Nat} (hk:k < l.length) (h:Y6 t (l.getD k default)=true):Wx l t=false:=by
  unfold Wx
  rw [List.any_eq_true.2 ⟨_,vL hk,h⟩];rfl
theorem Qe6 {l:List Tk} {t:Tk} (h:∀ j,j < l.length→Y6 t (l.getD j default)=false):Wx l t=true:=by
  unfold Wx
  rw [show l.any (Y6 t)=false from List.any_eq_false.2 fun x hx=>?_]
  · rfl
  · obtain ⟨j,hj,rfl⟩:=List.mem_iff_getElem.1 hx
    have:=h j hj
    rw [show l.getD j default=l[j] by simp [List.getD_eq_getElem?_getD,hj]] at this
    rw [this];simp
def goS (l:List Tk) (t:Tk) (k:Nat):St:={ t:=asg [(0,qx l),(3,.ptr 0 0),(4,aB false),(5,aI k)],h:=qg [(0,.cells (cTk t))],n:=1 }
def zQ:=kk @ty3 (kk @ty4 (kk @Zb (kk @kZ (kk @xy (kk @ti3.eq_1 (kk @ti4.eq_1 (kk @Qx.eq_1 (kk @xQ.eq_1 @vW.eq_1))))))))
def yh:=kk @aI.eq_1 (@aB.eq_1)
set_option maxHeartbeats 1000000 in
theorem Qi7 (l:List Tk) (t:Tk) (hl:l.length≤100):FnV Try.prog 65 [qx l,aTk t] (aB (Wx l t)):=by
  have env:Env (fun _=>True) Try.prog tyB (tab []):=qM trivial
  refine Fn.of (A:=fun _=>True) (n0:=0) (D:=noD) (Fn0 Try.func65 rfl (fun vs w=>by kernel_rfl) (by kernel_rfl)) (by simp) (by simp [AV.ids,AV.idsL,qx,aTk,cTk]) (fun i o h=>by cases h) (fun _ _ _ _=>trivial) qH ?_
  repeat' (first|(apply nx;with_reducible constructor)|refine jq (by decide) ?_|((first|refine kz env fun Q hQ=>?_|refine kj fun Q hQ=>?_);simp only [vkt,seval,zQ,yh,aTk,cTk,qx,eTk,gTk,goS,List.length_map];(try simp only [ite_and]);(repeat' (first|with_reducible assumption|refine And.intro ?_ ?_|intro hp));all_goals (first|(refine hQ _ ?_;clear hQ Q)|(refine hQ _ (fun h=>?_) (fun h=>?_) <;> clear hQ Q <;> (try simp only [vki,reduceCtorEq] at h))|(refine kx ?_;kernel_rfl)|omega|assumption|with_reducible rfl|skip)))
  refine qU (fun k:{ k:Nat // k≤l.length∧∀ j,j < k→Y6 t (l.getD j default)=false }=>goS l t k.1) (fun k=>l.length - k.1) ⟨0,Nat.zero_le _,fun j h=>absurd h (Nat.not_lt_zero _)⟩ ?_ fun ⟨k,hk,hno⟩=>?_
  · (refine Le.ok some [] ?_;constructor;all_goals (try simp only [vle,vkt,seval,zQ,yh,aTk,cTk,qx,eTk,gTk,goS,List.length_map]))
    all_goals first|rfl|(simp;done)
  simp only at hk hno ⊢
  by_cases hkl:k < l.length
  · have d1:decide ((k:Int) < (l.length:Int))=true:=decide_eq_true (by omega)
    have e9:IntKind.wrap .i64 ((k:Int)+1)=((k+1:Nat):Int):=by rw [wrap64 (by omega) (by omega)];rfl
    have i0:((k:Int)).toNat=k:=rfl
    obtain ⟨x,hx⟩:∃ x,l.getD k default=x:=⟨_,rfl⟩
    have nxt:Y6 t x=false→∀ S,Le S (goS l t (k+1))→∃ y:{ k:Nat // k≤l.length∧∀ j,j < k→Y6 t (l.getD j default)=false },(l.length - y.1 < l.length - k)∧Le S (goS l t y.1):=fun hb S hS=>⟨⟨k+1,hkl,fun j hj=>by
      rcases Nat.lt_or_eq_of_le (Nat.le_of_lt_succ hj) with h1|h1
      · exact hno j h1
      · rw [h1,hx];exact hb⟩,by show l.length - (k+1) < l.length - k;omega,hS⟩
    have fin:Y6 t x=true→Wx l t=false:=fun hb=>QfB hkl (by rw [hx];exact hb)
    have hbx:Y6 t x=(decide (x.cab=t.cab) && !decide (t.to≤x.frm) && !decide (x.to≤t.frm) && (decide (x.bed=t.bed) || (!decide (x.party=t.party) && (!decide (x.sex=t.sex) || x.dog || t.dog)))):=rfl
    cases q1:decide (x.cab=t.cab)
    · repeat' (first|(apply nx;with_reducible constructor)|refine jq (by decide) ?_|((first|refine kz env fun Q hQ=>?_|refine kj fun Q hQ=>?_);simp only [vkt,seval,zQ,yh,aTk,cTk,qx,eTk,gTk,goS,List.length_map,d1,e9,i0,hkl,hx,q1,Bool.not_false];(try simp only [ite_and]);(repeat' (first|with_reducible assumption|refine And.intro ?_ ?_|intro hp));all_goals (first|(refine hQ _ ?_;clear hQ Q)|(refine hQ _ (fun h=>?_) (fun h=>?_) <;> clear hQ Q <;> (try simp only [vki,reduceCtorEq] at h))|(refine kx ?_;kernel_rfl)|omega|assumption|with_reducible rfl|skip)))
      refine nxt (by rw [hbx,q1];rfl) _ ?_
      (refine Le.ok some [] ?_;constructor;all_goals (try simp only [vle,vkt,seval,zQ,yh,aTk,cTk,qx,eTk,gTk,goS,List.length_map]))
      all_goals first|rfl|(simp;done)
    cases q2:decide (t.to≤x.frm)
    case true =>
      repeat' (first|(apply nx;with_reducible constructor)|refine jq (by decide) ?_|((first|refine kz env fun Q hQ=>?_|refine kj fun Q hQ=>?_);simp only [vkt,seval,zQ,yh,aTk,cTk,qx,eTk,gTk,goS,List.length_map,d1,e9,i0,hkl,hx,q1,q2,Bool.not_true];(try simp only [ite_and]);(repeat' (first|with_reducible assumption|refine And.intro ?_ ?_|intro hp));all_goals (first|(refine hQ _ ?_;clear hQ Q)|(refine hQ _ (fun h=>?_) (fun h=>?_) <;> clear hQ Q <;> (try simp only [vki,reduceCtorEq] at h))|(refine kx ?_;kernel_rfl)|omega|assumption|with_reducible rfl|skip)))
      refine nxt (by rw [hbx,q1,q2];rfl) _ ?_
      (refine Le.ok some [] ?_;constructor;all_goals (try simp only [vle,vkt,seval,zQ,yh,aTk,cTk,qx,eTk,gTk,goS,List.length_map]))
      all_goals first|rfl|(simp;done)
    cases q3:decide (x.to≤t.frm)
    case true =>
      repeat' (first|(apply nx;with_reducible constructor)|refine jq (by decide) ?_|((first|refine kz env fun Q hQ=>?_|refine kj fun Q hQ=>?_);simp only [vkt,seval,zQ,yh,aTk,cTk,qx,eTk,gTk,goS,List.length_map,d1,e9,i0,hkl,hx,q1,q2,q3,Bool.not_true];(try simp only [ite_and]);(repeat' (first|with_reducible assumption|refine And.intro ?_ ?_|intro hp));all_goals (first|(refine hQ _ ?_;clear hQ Q)|(refine hQ _ (fun h=>?_) (fun h=>?_) <;> clear hQ Q <;> (try simp only [vki,reduceCtorEq] at h))|(refine kx ?_;kernel_rfl)|omega|assumption|with_reducible rfl|skip)))
      refine nxt (by rw [hbx,q1,q2,q3];rfl) _ ?_
      (refine Le.ok some [] ?_;constructor;all_goals (try simp only [vle,vkt,seval,zQ,yh,aTk,cTk,qx,eTk,gTk,goS,List.length_map]))
      all_goals first|rfl|(simp;done)
    cases q4:decide (x.bed=t.bed)
    case true =>
      rw [fin (by rw [hbx,q1,q2,q3,q4];rfl)]
      repeat' (first|(apply nx;with_reducible constructor)|refine jq (by decide) ?_|((first|refine kz env fun Q hQ=>?_|refine kj fun Q hQ=>?_);simp only [vkt,seval,zQ,yh,aTk,cTk,qx,eTk,gTk,goS,List.length_map,d1,e9,i0,hkl,hx,q1,q2,q3,q4,Bool.not_true];(try simp only [ite_and]);(repeat' (first|with_reducible assumption|refine And.intro ?_ ?_|intro hp));all_goals (first|(refine hQ _ ?_;clear hQ Q)|(refine hQ _ (fun h=>?_) (fun h=>?_) <;> clear hQ Q <;> (try simp only [vki,reduceCtorEq] at h))|(refine kx ?_;kernel_rfl)|omega|assumption|with_reducible rfl|skip)))
      (simp only [vrt,Try.results65,vkt,seval,zQ,yh,aTk,cTk,qx,eTk,gTk,goS,List.length_map];refine Fin.val rfl ?_;(try simp only [AV.le,AV.leL]))
      all_goals first|rfl|(simp;done)
    cases q5:decide (x.party=t.party)
    case true =>
      repeat' (first|(apply nx;with_reducible constructor)|refine jq (by decide) ?_|((first|refine kz env fun Q hQ=>?_|refine kj fun Q hQ=>?_);simp only [vkt,seval,zQ,yh,aTk,cTk,qx,eTk,gTk,goS,List.length_map,d1,e9,i0,hkl,hx,q1,q2,q3,q4,q5,Bool.not_true];(try simp only [ite_and]);(repeat' (first|with_reducible assumption|refine And.intro ?_ ?_|intro hp));all_goals (first|(refine hQ _ ?_;clear hQ Q)|(refine hQ _ (fun h=>?_) (fun h=>?_) <;> clear hQ Q <;> (try simp only [vki,reduceCtorEq] at h))|(refine kx ?_;kernel_rfl)|omega|assumption|with_reducible rfl|skip)))
      refine nxt (by rw [hbx,q1,q2,q3,q4,q5];rfl) _ ?_
      (refine Le.ok some [] ?_;constructor;all_goals (try simp only [vle,vkt,seval,zQ,yh,aTk,cTk,qx,eTk,gTk,goS,List.length_map]))
      all_goals first|rfl|(simp;done)
    cases q6:decide (x.sex=t.sex)
    · rw [fin (by rw [hbx,q1,q2,q3,q4,q5,q6];rfl)]
      repeat' (first|(apply nx;with_reducible constructor)|refine jq (by decide) ?_|((first|refine kz env fun Q hQ=>?_|refine kj fun Q hQ=>?_);simp only [vkt,seval,zQ,yh,aTk,cTk,qx,eTk,gTk,goS,List.length_map,d1,e9,i0,hkl,hx,q1,q2,q3,q4,q5,q6,Bool.not_true,Bool.not_false];(try simp only [ite_and]);(repeat' (first|with_reducible assumption|refine And.intro ?_ ?_|intro hp));all_goals (first|(refine hQ _ ?_;clear hQ Q)|(refine hQ _ (fun h=>?_) (fun h=>?_) <;> clear hQ Q <;> (try simp only [vki,reduceCtorEq] at h))|(refine kx ?_;kernel_rfl)|omega|assumption|with_reducible rfl|skip)))
      (simp only [vrt,Try.results65,vkt,seval,zQ,yh,aTk,cTk,qx,eTk,gTk,goS,List.length_map];refine Fin.val rfl ?_;(try simp only [AV.le,AV.leL]))
      all_goals first|rfl|(simp;done)
    cases q7:x.dog
    case true =>
      rw [fin (by rw [hbx,q1,q2,q3,q4,q5,q6,q7];rfl)]
      repeat' (first|(apply nx;with_reducible constructor)|refine jq (by decide) ?_|((first|refine kz env fun Q hQ=>?_|refine kj fun Q hQ=>?_);simp only [vkt,seval,zQ,yh,aTk,cTk,qx,eTk,gTk,goS,List.length_map,d1,e9,i0,hkl,hx,q1,q2,q3,q4,q5,q6,q7,Bool.not_true,Bool.not_false];(try simp only [ite_and]);(repeat' (first|with_reducible assumption|refine And.intro ?_ ?_|intro hp));all_goals (first|(refine hQ _ ?_;clear hQ Q)|(refine hQ _ (fun h=>?_) (fun h=>?_) <;> clear hQ Q <;> (try simp only [vki,reduceCtorEq] at h))|(refine kx ?_;kernel_rfl)|omega|assumption|with_reducible rfl|skip)))
      (simp only [vrt,Try.results65,vkt,seval,zQ,yh,aTk,cTk,qx,eTk,gTk,goS,List.length_map];refine Fin.val rfl ?_;(try simp only [AV.le,AV.leL]))
      all_goals first|rfl|(simp;done)
    cases q8:t.dog
    · repeat' (first|(apply nx;with_reducible constructor)|refine jq (by decide) ?_|((first|refine kz env fun Q hQ=>?_|refine kj fun Q hQ=>?_);simp only [vkt,seval,zQ,yh,aTk,cTk,qx,eTk,gTk,goS,List.length_map,d1,e9,i0,hkl,hx,q1,q2,q3,q4,q5,q6,q7,q8,Bool.not_true,Bool.not_false];(try simp only [ite_and]);(repeat' (first|with_reducible assumption|refine And.intro ?_ ?_|intro hp));all_goals (first|(refine hQ _ ?_;clear hQ Q)|(refine hQ _ (fun h=>?_) (fun h=>?_) <;> clear hQ Q <;> (try simp only [vki,reduceCtorEq] at h))|(refine kx ?_;kernel_rfl)|omega|assumption|with_reducible rfl|skip)))
      refine nxt (by rw [hbx,q1,q2,q3,q4,q5,q6,q7,q8];rfl) _ ?_
      (refine Le.ok some [] ?_;constructor;all_goals (try simp only [vle,vkt,seval,zQ,yh,aTk,cTk,qx,eTk,gTk,goS,List.length_map]))
      all_goals first|rfl|(simp [q8];done)
    · rw [fin (by rw [hbx,q1,q2,q3,q4,q5,q6,q7,q8];rfl)]
      repeat' (first|(apply nx;with_reducible constructor)|refine jq (by decide) ?_|((first|refine kz env fun Q hQ=>?_|refine kj fun Q hQ=>?_);simp only [vkt,seval,zQ,yh,aTk,cTk,qx,eTk,gTk,goS,List.length_map,d1,e9,i0,hkl,hx,q1,q2,q3,q4,q5,q6,q7,q8,Bool.not_true,Bool.not_false];(try simp only [ite_and]);(repeat' (first|with_reducible assumption|refine And.intro ?_ ?_|intro hp));all_goals (first|(refine hQ _ ?_;clear hQ Q)|(refine hQ _ (fun h=>?_) (fun h=>?_) <;> clear hQ Q <;> (try simp only [vki,reduceCtorEq] at h))|(refine kx ?_;kernel_rfl)|omega|assumption|with_reducible rfl|skip)))
      (simp only [vrt,Try.results65,vkt,seval,zQ,yh,aTk,cTk,qx,eTk,gTk,goS,List.length_map];refine Fin.val rfl ?_;(try simp only [AV.le,AV.leL]))
      all_goals first|rfl|(simp;done)
  · have d1:decide ((k:Int) < (l.length:Int))=false:=decide_eq_false (by omega)
    rw [Qe6 (fun j hj=>hno j (by omega))]
    repeat' (first|(apply nx;with_reducible constructor)|refine jq (by decide) ?_|((first|refine kz env fun Q hQ=>?_|refine kj fun Q hQ=>?_);simp only [vkt,seval,zQ,yh,aTk,cTk,qx,eTk,gTk,goS,List.length_map,d1];(try simp only [ite_and]);(repeat' (first|with_reducible assumption|refine And.intro ?_ ?_|intro hp));all_goals (first|(refine hQ _ ?_;clear hQ Q)|(refine hQ _ (fun h=>?_) (fun h=>?_) <;> clear hQ Q <;> (try simp only [vki,reduceCtorEq] at h))|(refine kx ?_;kernel_rfl)|omega|assumption|with_reducible rfl|skip)))
    (simp only [vrt,Try.results65,vkt,seval,zQ,yh,aTk,cTk,qx,eTk,gTk,goS,List.length_map];refine Fin.val rfl ?_;(try simp only [AV.le,AV.leL]))
    all_goals first|rfl|(simp;done)
def yD:List AV→Prop × AV
  |[.sl l,.agg [.v (.int .i64 t0),.v (.int .i64 t1),.v (.int .i64 t2),.v (.int .i64 t3),.v (.int .i64 t4),.v (.int .i64 t5),.v (.bool t6)]]=>(l=(l.map dTk).map eTk∧(l.map dTk).length≤100,aB (Wx (l.map dTk) (⟨t0,t1,t2,t3,t4,t5,t6⟩:Tk)))
  |_=>(False,.junk)
theorem egoes {A:Frm→Prop}:qC A Try.prog 65 (zk true yD):=zn fun vs hv h=>by
  clear hv
  unfold yD at h ⊢
  split at h
  · rename_i l t0 t1 t2 t3 t4 t5 t6;obtain ⟨q0,k0⟩:=h
    refine ⟨by first|trivial|(simp [AV.plain,AV.plainL,aI,aB,qA,qc,qx,ql,aTk,cTk];done)|(repeat' split) <;> simp [AV.plain,AV.plainL,aI,aB,qA,qc,qx,ql,aTk,cTk],fun _=>(by simp [AV.flat,AV.flatL,aI,aB]), ?_⟩
    have:=Qi7 (l.map dTk) (⟨t0,t1,t2,t3,t4,t5,t6⟩:Tk) k0
    simp only [aB,aI,aTk,qx,cTk,← q0] at this
    first|exact this|(simp only [aB,aI,aTk,qx,cTk,← q0];exact this)
  · exact h.elim
end Go.Sym.B
namespace Go.Sym.B
open Go Go.Sym Go.Proofs Go.Sym.C
theorem dI1 (a:Int):zl [.v (.int .i64 a)]=a:=rfl
noncomputable def xD (x:Int):Nat→List Cabin × Int
  |0=>([],x)
  |k+1=>((xD x k).1++[⟨1+upV (xD x k).2 2,decide (upV (upS (xD x k).2 2) 2 < 2)⟩],upS (upS (xD x k).2 2) 2)
noncomputable def pA (p s:Int):Int × Int:=if p=0 then (p+(1+upV s 2),upS s 2) else if upV s 3 < 1 then (p,upS s 3) else (p+(1+upV (upS s 3) 2),upS (upS s 3) 2)
noncomputable def xu (cs:List Cabin) (secs p s1:Int):Tk × Int :=
  let n:=upV s1 ((cs.length:Int) - 1)
  let s2:=upS s1 ((cs.length:Int) - 1)
  let s3:=upS s2 1
  let b:=(cs.getD n.toNat default).beds
  let s4:=upS s3 (b - 1)
  let f:=upV s4 (secs - 1)
  let s5:=upS s4 (secs - 1)
  let s6:=upS s5 7
  (⟨p,([1,2]:List Int).getD (upV s2 1).toNat 0,n,upV s3 (b - 1),f,f+1+upV s6 (secs - (f+1)),decide (upV s5 7 < 1)⟩,upS s6 (secs - (f+1)))
noncomputable def tkK (cs:List Cabin) (secs x:Int):Nat→Int × List Tk × Int
  |0=>(0,[],x)
  |k+1=>((pA (tkK cs secs x k).1 (tkK cs secs x k).2.2).1,if Wx (tkK cs secs x k).2.1 (xu cs secs (pA (tkK cs secs x k).1 (tkK cs secs x k).2.2).1 (pA (tkK cs secs x k).1 (tkK cs secs x k).2.2).2).1 then (tkK cs secs x k).2.1++[(xu cs secs (pA (tkK cs secs x k).1 (tkK cs secs x k).2.2).1 (pA (tkK cs secs x k).1 (tkK cs secs x k).2.2).2).1] else (tkK cs secs x k).2.1,
      (xu cs secs (pA (tkK cs secs x k).1 (tkK cs secs x k).2.2).1 (pA (tkK cs secs x k).1 (tkK cs secs x k).2.2).2).2)
noncomputable def Q5 (x g:Int):Int:=1+upV x (g - 1)
noncomputable def Xa (x g:Int):Int:=upS x (g - 1)
noncomputable def xC (x g a:Int):List Cabin × Int:=xD (upS (Xa x g) (a - 1)) (1+upV (Xa x g) (a - 1)).toNat
noncomputable def Qfe (x g a s:Int):Int × List Tk × Int:=tkK (xC x g a).1 (Q5 x g) (upS (xC x g a).2 s) (upV (xC x g a).2 s).toNat
noncomputable def coC (x a g s:Int):Chart:=⟨(xC x g a).1,Q5 x g,(Qfe x g a s).2.1⟩
noncomputable def coX (x a g s:Int):Int:=(Qfe x g a s).2.2
theorem up2 (x:Int) {m:Int} (h0:0≤m) (h:m≤100000):0≤upV x m∧upV x m≤m:=by
  have:=Qa6 (x:=x) (m:=m) (by omega)
  omega
theorem QfO {p s p1 s1:Int} (h:pA p s=(p1,s1)) (hp:0≤p∧p≤1000) :
    ∃ (b:Bool) (sB:Int),((decide (p=0)=true∧True∧b=true∧sB=s)∨(decide (p=0)=false∧decide (upV s 3 < 1)=!b∧True∧sB=upS s 3))∧((b=true∧IntKind.wrap .i64 (p+(1+upV sB 2))=p1∧upS sB 2=s1)∨(b=false∧p=p1∧sB=s1)):=by
  unfold pA at h
  split at h
  · rename_i h0
    have:=up2 s (m:=2) (by omega) (by omega)
    cases h
    exact ⟨true,s,.inl ⟨decide_eq_true h0,trivial,rfl,rfl⟩,.inl ⟨rfl,wrap64 (by omega) (by omega),rfl⟩⟩
  · rename_i h0
    split at h
    · rename_i h1
      cases h
      exact ⟨false,upS s 3,.inr ⟨decide_eq_false h0,decide_eq_true h1,trivial,rfl⟩,.inr ⟨rfl,rfl,rfl⟩⟩
    · rename_i h1
      have:=up2 (upS s 3) (m:=2) (by omega) (by omega)
      cases h
      exact ⟨true,upS s 3,.inr ⟨decide_eq_false h0,decide_eq_false h1,trivial,rfl⟩,.inl ⟨rfl,wrap64 (by omega) (by omega),rfl⟩⟩
theorem Qjj {p s:Int} (hp:0≤p):p≤(pA p s).1∧1≤(pA p s).1∧(pA p s).1≤p+3:=by
  have h1:=up2 s (m:=2) (by omega) (by omega)
  have h2:=up2 (upS s 3) (m:=2) (by omega) (by omega)
  unfold pA
  split
  · simp only;omega
  · split
    · simp only;omega
    · simp only;omega
theorem Ud (cs:List Cabin) (secs x:Int):∀ k,0≤(tkK cs secs x k).1∧(tkK cs secs x k).1≤3 * k∧(tkK cs secs x k).2.1.length≤k
  |0=>⟨Int.le_refl _,Int.le_refl _,Nat.le_refl _⟩
  |k+1=>by
    obtain ⟨h1,h2,h3⟩:=Ud cs secs x k
    have h4:=Qjj (s:=(tkK cs secs x k).2.2) h1
    rw [tkK]
    refine ⟨by simp only;omega,by simp only;omega, ?_⟩
    simp only
    split
    · rw [List.length_append,List.length_singleton];omega
    · omega
theorem UO (x:Int):∀ k,(xD x k).1.length=k∧∀ c ∈ (xD x k).1,1≤c.beds∧c.beds≤3
  |0=>⟨rfl,by simp [xD]⟩
  |k+1=>by
    obtain ⟨h1,h2⟩:=UO x k
    have h3:=up2 (xD x k).2 (m:=2) (by omega) (by omega)
    rw [xD]
    refine ⟨by simp [h1],fun c hc=>?_⟩
    rcases List.mem_append.1 hc with hc|hc
    · exact h2 c hc
    · rw [List.mem_singleton.1 hc];simp only;omega
def coA (secs s m:Int) (i:Nat) (cs:List Cabin):St:={ t:=asg [(0,.ptr 0 0),(3,aI m),(8,.ptr 1 0),(9,.ptr 2 0),(10,aI i)],h:=qg [(0,.cells [.v (.int .u64 s)]),(1,.cells [.nil,aI 0,.nil]),(2,.cells [.row 3,aI secs,.nil]),(3,.row 51 2 (cs.map qo))],n:=4,m:=1 }
def coB (cs:List Cabin) (secs s p:Int) (i:Nat) (l:List Tk):St:={ t:=asg [(0,.ptr 0 0),(8,.ptr 1 0),(9,.ptr 2 0),(11,aI p),(12,aI i)],h:=qg [(0,.cells [.v (.int .u64 s)]),(1,.cells [.nil,aI 0,.nil]),(2,.cells [.row 3,aI secs,.row 4]),(3,.row 51 2 (cs.map qo)),(4,.row 81 7 (l.map eTk))],n:=5,m:=1 }
def coM (cs:List Cabin) (secs s p:Int) (i:Nat) (l:List Tk) (T:List (Nat × AV)) (O:List (Nat × AObj)) (n:Nat):St:={ t:=asg (T++[(0,.ptr 0 0),(8,.ptr 1 0),(9,.ptr 2 0),(11,aI p),(12,aI i)]),h:=qg ([(0,.cells [.v (.int .u64 s)]),(1,.cells [.nil,aI 0,.nil]),(2,.cells [.row 3,aI secs,.row 4]),(3,.row 51 2 (cs.map qo)),(4,.row 81 7 (l.map eTk))]++O),n:=n,m:=1 }
def qY:=kk @ty3 (kk @Qf (kk @VJ (kk @Zb (kk @vg (kk @kZ (kk @VD (kk @xy (kk @ti3.eq_1 (kk @kC.eq_1 (kk @Yc.eq_1 (kk @Qx.eq_1 (kk @yI.eq_1 (kk @xQ.eq_1 (kk @Yb.eq_1 @vW.eq_1))))))))))))))
def jO:=kk @aI.eq_1 (kk @aB.eq_1 (@zC.eq_1))
set_option maxHeartbeats 4000000 in
theorem Qbc (x a g s:Int) (ha:1≤a∧a≤3) (hg:1≤g∧g≤5) (hs:0≤s∧s≤8):Fn noB Try.prog 16 [.ptr 0 0,aI a,aI g,aI s] (qg (zy x)) (qa (coC x a g s)) (qg (zy (coX x a g s))) 0:=by
  have env:Env (fun _=>True) Try.prog tyB (tab [(37,fnE jg),(40,fnE pUp),(45,fnE zF),(64,fnE vQ),(65,zk true yD)]):=qM ⟨Qjy,eUp,QdA,eOne,egoes,trivial⟩
  refine Fn.of (A:=fun _=>True) (n0:=1) (D:=noD) (Fn0 Try.func16 rfl (fun vs w=>by kernel_rfl) (by kernel_rfl)) (by simp) (by simp [AV.ids,AV.idsL,aI]) ?_ (fun _ _ _ _=>trivial) qH ?_
  · intro i o hi
    have h:=qL hi
    simp [zy] at h
    rcases h with ⟨rfl,rfl⟩;simp [AObj.ids,AV.ids,AV.idsL]
  have m1:min g 5=g:=by omega
  have m2:min a 3=a:=by omega
  have m3:min s 8=s:=by omega
  have hmx:(100000:Nat)≤maxLen:=by decide
  have hsc:=up2 x (m:=g - 1) (by omega) (by omega)
  have hx1:upS x (g - 1)=Xa x g:=rfl
  have hsb:1≤Q5 x g∧Q5 x g≤5:=by unfold Q5;omega
  have hcs:1+upV x (g - 1)=Q5 x g:=rfl
  have hnc:=up2 (Xa x g) (m:=a - 1) (by omega) (by omega)
  obtain ⟨nc,hnc1⟩:∃ nc:Nat,1+upV (Xa x g) (a - 1)=nc:=⟨(1+upV (Xa x g) (a - 1)).toNat,by omega⟩
  obtain ⟨y,hy⟩:∃ y,upS (Xa x g) (a - 1)=y:=⟨_,rfl⟩
  have hcc:xC x g a=xD y nc:=by unfold xC;rw [hy,hnc1];rfl
  have hcb:=UO y
  have hnt:=up2 (xD y nc).2 (m:=s) (by omega) (by omega)
  obtain ⟨nt,hnt1⟩:∃ nt:Nat,upV (xD y nc).2 s=nt:=⟨(upV (xD y nc).2 s).toNat,by omega⟩
  obtain ⟨z,hz⟩:∃ z,upS (xD y nc).2 s=z:=⟨_,rfl⟩
  have htk:Qfe x g a s=tkK (xD y nc).1 (Q5 x g) z nt:=by unfold Qfe;rw [hcc,hz,hnt1];rfl
  unfold coC coX
  rw [hcc,htk]
  obtain ⟨S,hS⟩:∃ S,Q5 x g=S:=⟨_,rfl⟩
  rw [hS] at hsb hcs ⊢
  obtain ⟨X1,hX1⟩:∃ X1,Xa x g=X1:=⟨_,rfl⟩
  rw [hX1] at hx1 hnc1 hy hnc
  have hal:-100000≤(1:Int):=by decide
  have b1:g≤100000:=by omega
  have b2:a≤100000:=by omega
  have b3:-100000≤g:=by omega
  have b4:-100000≤a:=by omega
  have b5:s < 9223372036854775807:=by omega
  show Sym _ _ _ (zq [.ptr 0 0,aI a,aI g,aI s] 1 (qg [(0,.cells [.v (.int .u64 x)])])) (yB tyB noD Try.f16 fun S' rv=>Fin S' rv _ 1 (qg [(0,.cells [.v (.int .u64 (tkK (xD y nc).1 S z nt).2.2)])]) 0)
  repeat' (first|(apply nx;with_reducible constructor)|refine jq (by decide) ?_|((first|refine kz env fun Q hQ=>?_|refine kj fun Q hQ=>?_);simp only [vkt,seval,qY,jO,aTk,cTk,qx,eTk,gTk,rTk,mTk,qo,qG,wD,dI1,zy,qa,qb,coA,coB,coM,jg,pUp,zF,vQ,yD,List.length_map,List.map_cons,List.map_nil,m1,m2,hcs,hx1,hnc1,hy];(try simp only [ite_and]);(repeat' (first|with_reducible assumption|refine And.intro ?_ ?_|intro hp));all_goals (first|(refine hQ _ ?_;clear hQ Q)|(refine hQ _ (fun h=>?_) (fun h=>?_) <;> clear hQ Q <;> (try simp only [vki,reduceCtorEq] at h))|(refine kx ?_;kernel_rfl)|omega|assumption|with_reducible rfl|skip)))
  refine qU (fun k:{ k:Nat // k≤nc }=>coA S (xD y k.1).2 s (nc - k.1) (xD y k.1).1) (fun k=>nc - k.1) ⟨0,Nat.zero_le _⟩ ?_ fun ⟨k,hk⟩=>?_
  · (refine Le.ok (fun i=>if i=3 then none else some i) [] ?_;constructor;all_goals (try simp only [vle,vkt,seval,qY,jO,aTk,cTk,qx,eTk,gTk,rTk,mTk,qo,qG,wD,dI1,zy,qa,qb,coA,coB,coM,jg,pUp,zF,vQ,yD,List.length_map,List.map_cons,List.map_nil]))
    all_goals first|rfl|(simp [xD];done)|(intro i hi;rw [if_neg (by omega)];done)
  simp only at hk ⊢
  by_cases hkl:k < nc
  · have d1:decide ((0:Int) < ((nc - k:Nat):Int))=true:=decide_eq_true (by omega)
    have w1:IntKind.wrap .i64 (((nc - k:Nat):Int) - 1)=((nc - (k+1):Nat):Int):=by rw [wrap64 (by omega) (by omega)];omega
    have hl:=(hcb k).1
    have hl1:(xD y k).1.length+1≤maxLen:=by omega
    have hS1:(xD y (k+1)).1=(xD y k).1++[⟨1+upV (xD y k).2 2,decide (upV (upS (xD y k).2 2) 2 < 2)⟩]:=by rw [xD]
    have hS2:(xD y (k+1)).2=upS (upS (xD y k).2 2) 2:=by rw [xD]
    repeat' (first|(apply nx;with_reducible constructor)|refine jq (by decide) ?_|((first|refine kz env fun Q hQ=>?_|refine kj fun Q hQ=>?_);simp only [vkt,seval,qY,jO,aTk,cTk,qx,eTk,gTk,rTk,mTk,qo,qG,wD,dI1,zy,qa,qb,coA,coB,coM,jg,pUp,zF,vQ,yD,List.length_map,List.map_cons,List.map_nil,d1,w1,hl1];(try simp only [ite_and]);(repeat' (first|with_reducible assumption|refine And.intro ?_ ?_|intro hp));all_goals (first|(refine hQ _ ?_;clear hQ Q)|(refine hQ _ (fun h=>?_) (fun h=>?_) <;> clear hQ Q <;> (try simp only [vki,reduceCtorEq] at h))|(refine kx ?_;kernel_rfl)|omega|assumption|with_reducible rfl|skip)))
    refine ⟨⟨k+1,hkl⟩,by show nc - (k+1) < nc - k;omega, ?_⟩
    show Le _ (coA S (xD y (k+1)).2 s (nc - (k+1)) (xD y (k+1)).1)
    rw [hS1,hS2]
    (refine Le.ok (fun i=>if i=3 then some 5 else some i) [] ?_;constructor;all_goals (try simp only [vle,vkt,seval,qY,jO,aTk,cTk,qx,eTk,gTk,rTk,mTk,qo,qG,wD,dI1,zy,qa,qb,coA,coB,coM,jg,pUp,zF,vQ,yD,List.length_map,List.map_cons,List.map_nil]))
    all_goals first|rfl|(rw [List.map_append];rfl)|(simp;done)|(intro i hi;rw [if_neg (by omega)];done)
  · have d1:decide ((0:Int) < ((nc - k:Nat):Int))=false:=decide_eq_false (by omega)
    obtain rfl:k=nc:=by omega
    obtain ⟨hcl,hcm⟩:=hcb k
    obtain ⟨⟨cs,u⟩,hcu⟩:∃ c,xD y k=c:=⟨_,rfl⟩
    rw [hcu] at hcl hcm hnt hnt1 hz ⊢
    simp only at hcl hcm hnt hnt1 hz ⊢
    repeat' (first|(apply nx;with_reducible constructor)|refine jq (by decide) ?_|((first|refine kz env fun Q hQ=>?_|refine kj fun Q hQ=>?_);simp only [vkt,seval,qY,jO,aTk,cTk,qx,eTk,gTk,rTk,mTk,qo,qG,wD,dI1,zy,qa,qb,coA,coB,coM,jg,pUp,zF,vQ,yD,List.length_map,List.map_cons,List.map_nil,d1,m3,hnt1,hz];(try simp only [ite_and]);(repeat' (first|with_reducible assumption|refine And.intro ?_ ?_|intro hp));all_goals (first|(refine hQ _ ?_;clear hQ Q)|(refine hQ _ (fun h=>?_) (fun h=>?_) <;> clear hQ Q <;> (try simp only [vki,reduceCtorEq] at h))|(refine kx ?_;kernel_rfl)|omega|assumption|with_reducible rfl|skip)))
    refine qU (fun j:{ j:Nat // j≤nt }=>coB cs S (tkK cs S z j.1).2.2 (tkK cs S z j.1).1 (nt - j.1) (tkK cs S z j.1).2.1) (fun j=>nt - j.1) ⟨0,Nat.zero_le _⟩ ?_ fun ⟨j,hj⟩=>?_
    · (refine Le.ok (fun i=>if i=4 then none else some i) [] ?_;constructor;all_goals (try simp only [vle,vkt,seval,qY,jO,aTk,cTk,qx,eTk,gTk,rTk,mTk,qo,qG,wD,dI1,zy,qa,qb,coA,coB,coM,jg,pUp,zF,vQ,yD,List.length_map,List.map_cons,List.map_nil]))
      all_goals first|rfl|(simp [tkK];done)|(intro i hi;rw [if_neg (by omega)];done)
    simp only at hj ⊢
    by_cases hjl:j < nt
    · have d1:decide ((0:Int) < ((nt - j:Nat):Int))=true:=decide_eq_true (by omega)
      have w1:IntKind.wrap .i64 (((nt - j:Nat):Int) - 1)=((nt - (j+1):Nat):Int):=by rw [wrap64 (by omega) (by omega)];omega
      obtain ⟨hp0,hp3,hll⟩:=Ud cs S z j
      have hK1:tkK cs S z (j+1)=((pA (tkK cs S z j).1 (tkK cs S z j).2.2).1,if Wx (tkK cs S z j).2.1 (xu cs S (pA (tkK cs S z j).1 (tkK cs S z j).2.2).1 (pA (tkK cs S z j).1 (tkK cs S z j).2.2).2).1 then (tkK cs S z j).2.1++[(xu cs S (pA (tkK cs S z j).1 (tkK cs S z j).2.2).1 (pA (tkK cs S z j).1 (tkK cs S z j).2.2).2).1] else (tkK cs S z j).2.1,(xu cs S (pA (tkK cs S z j).1 (tkK cs S z j).2.2).1 (pA (tkK cs S z j).1 (tkK cs S z j).2.2).2).2):=by rw [tkK]
      obtain ⟨⟨p,l,s0⟩,hK⟩:∃ q,tkK cs S z j=q:=⟨_,rfl⟩
      rw [hK] at hp0 hp3 hll hK1 ⊢
      simp only at hp0 hp3 hll hK1 ⊢
      have hl1:l.length+1≤maxLen:=by omega
      have hl100:l.length≤100:=by omega
      obtain ⟨⟨p1,s1⟩,hA⟩:∃ q,pA p s0=q:=⟨_,rfl⟩
      have hAc:=QfO hA ⟨hp0,by omega⟩
      rw [hA] at hK1
      simp only at hK1
      have hn0:=up2 s1 (m:=(k:Int) - 1) (by omega) (by omega)
      obtain ⟨n,hn⟩:∃ n:Nat,upV s1 ((k:Int) - 1)=n:=⟨(upV s1 ((k:Int) - 1)).toNat,by omega⟩
      obtain ⟨s2,hs2⟩:∃ q,upS s1 ((k:Int) - 1)=q:=⟨_,rfl⟩
      obtain ⟨sx,hsx⟩:∃ q,([1,2]:List Int).getD (upV s2 1).toNat 0=q:=⟨_,rfl⟩
      obtain ⟨s3,hs3⟩:∃ q,upS s2 1=q:=⟨_,rfl⟩
      have hnk:n < cs.length:=by omega
      obtain ⟨cb,hcbv⟩:∃ q,cs.getD n default=q:=⟨_,rfl⟩
      have hcg:=QjZ hnk
      rw [hcbv] at hcg
      have hbb:=hcm cb (by rw [← hcbv];exact vL hnk)
      obtain ⟨bd,hbd⟩:∃ q,upV s3 (cb.beds - 1)=q:=⟨_,rfl⟩
      obtain ⟨s4,hs4⟩:∃ q,upS s3 (cb.beds - 1)=q:=⟨_,rfl⟩
      have hf0:=up2 s4 (m:=S - 1) (by omega) (by omega)
      obtain ⟨f,hf⟩:∃ q,upV s4 (S - 1)=q:=⟨_,rfl⟩
      rw [hf] at hf0
      obtain ⟨s5,hs5⟩:∃ q,upS s4 (S - 1)=q:=⟨_,rfl⟩
      obtain ⟨dg,hdg⟩:∃ q,decide (upV s5 7 < 1)=q:=⟨_,rfl⟩
      obtain ⟨s6,hs6⟩:∃ q,upS s5 7=q:=⟨_,rfl⟩
      obtain ⟨tt,htt⟩:∃ q,f+1+upV s6 (S - (f+1))=q:=⟨_,rfl⟩
      obtain ⟨s7,hs7⟩:∃ q,upS s6 (S - (f+1))=q:=⟨_,rfl⟩
      have hTn:xu cs S p1 s1=(⟨p1,sx,n,bd,f,tt,dg⟩,s7):=by
        unfold xu
        simp only [hcl,hn,hs2,hsx,hs3,Int.toNat_natCast,hcbv,hbd,hs4,hf,hs5,hdg,hs6,htt,hs7]
      rw [hTn] at hK1
      simp only at hK1
      have w2:IntKind.wrap .i64 ((k:Int) - 1)=(k:Int) - 1:=wrap64 (by omega) (by omega)
      have w3:IntKind.wrap .i64 (cb.beds - 1)=cb.beds - 1:=wrap64 (by omega) (by omega)
      have w4:IntKind.wrap .i64 (S - 1)=S - 1:=wrap64 (by omega) (by omega)
      have w5:IntKind.wrap .i64 (f+1)=f+1:=wrap64 (by omega) (by omega)
      have e1:(k:Int) - 1 < 9223372036854775807:=by omega
      have e2:cb.beds - 1 < 9223372036854775807:=by omega
      have e3:S - 1 < 9223372036854775807:=by omega
      have e4:-100000≤f+1:=by omega
      have e5:f+1≤100000:=by omega
      have e6:-100000≤S:=by omega
      have e7:S≤100000:=by omega
      have i0:((n:Int)).toNat=n:=rfl
      obtain ⟨gb,hgb⟩:∃ q,Wx l ⟨p1,sx,n,bd,f,tt,dg⟩=q:=⟨_,rfl⟩
      rw [hgb] at hK1
      obtain ⟨bb,sB,hc1,hc2⟩:=hAc
      repeat' (first|(apply nx;with_reducible constructor)|refine jq (by decide) ?_)
      ((first|refine kz env fun Q hQ=>?_|refine kj fun Q hQ=>?_);simp only [vkt,seval,qY,jO,aTk,cTk,qx,eTk,gTk,rTk,mTk,qo,qG,wD,dI1,zy,qa,qb,coA,coB,coM,jg,pUp,zF,vQ,yD,List.length_map,List.map_cons,List.map_nil,d1];(try simp only [ite_and]);(repeat' (first|with_reducible assumption|refine And.intro ?_ ?_|intro hp));all_goals (first|(refine hQ _ ?_;clear hQ Q)|(refine hQ _ (fun h=>?_) (fun h=>?_) <;> clear hQ Q <;> (try simp only [vki,reduceCtorEq] at h))|(refine kx ?_;kernel_rfl)|omega|assumption|with_reducible rfl|skip))
      repeat' (first|(apply nx;with_reducible constructor)|refine jq (by decide) ?_)
      ((first|refine kz env fun Q hQ=>?_|refine kj fun Q hQ=>?_);simp only [vkt,seval,qY,jO,aTk,cTk,qx,eTk,gTk,rTk,mTk,qo,qG,wD,dI1,zy,qa,qb,coA,coB,coM,jg,pUp,zF,vQ,yD,List.length_map,List.map_cons,List.map_nil];(try simp only [ite_and]);(repeat' (first|with_reducible assumption|refine And.intro ?_ ?_|intro hp));all_goals (first|(refine hQ _ ?_;clear hQ Q)|(refine hQ _ (fun h=>?_) (fun h=>?_) <;> clear hQ Q <;> (try simp only [vki,reduceCtorEq] at h))|(refine kx ?_;kernel_rfl)|omega|assumption|with_reducible rfl|skip))
      repeat' (first|(apply nx;with_reducible constructor)|refine jq (by decide) ?_)
      refine Sym.mono (K:=fun e S1=>e=.normal∧Le S1 (coM cs S sB p (nt - j) l [(52,aB bb)] [] 5)) ?_ ?_
      · rcases hc1 with ⟨q0,q1,rfl,rfl⟩|⟨q0,q1,q2,rfl⟩
        all_goals
          ((first|refine kz env fun Q hQ=>?_|refine kj fun Q hQ=>?_);simp only [vkt,seval,qY,jO,aTk,cTk,qx,eTk,gTk,rTk,mTk,qo,qG,wD,dI1,zy,qa,qb,coA,coB,coM,jg,pUp,zF,vQ,yD,List.length_map,List.map_cons,List.map_nil,q0,q1,Bool.not_true,Bool.not_false,Bool.not_not];(try simp only [ite_and]);(repeat' (first|with_reducible assumption|refine And.intro ?_ ?_|intro hp));all_goals (first|(refine hQ _ ?_;clear hQ Q)|(refine hQ _ (fun h=>?_) (fun h=>?_) <;> clear hQ Q <;> (try simp only [vki,reduceCtorEq] at h))|(refine kx ?_;kernel_rfl)|omega|assumption|with_reducible rfl|skip))
          refine ⟨rfl, ?_⟩
          simp only [coM,List.cons_append,List.nil_append]
          (refine Le.ok some [] ?_;constructor;all_goals (try simp only [vle,vkt,seval,qY,jO,aTk,cTk,qx,eTk,gTk,rTk,mTk,qo,qG,wD,dI1,zy,qa,qb,coA,coB,coM,jg,pUp,zF,vQ,yD,List.length_map,List.map_cons,List.map_nil]))
          all_goals first|rfl|(simp;done)
      rintro e S1 ⟨rfl,hle⟩
      refine (xO hle ?_:Sym _ _ _ S1 _)
      clear hle S1 hc1
      refine Sym.mono (K:=fun e S1=>e=.normal∧Le S1 (coM cs S s1 p1 (nt - j) l [] [] 5)) ?_ ?_
      · rcases hc2 with ⟨rfl,wp,hs1⟩|⟨rfl,wp,hs1⟩
        all_goals
          repeat' (first|(apply nx;with_reducible constructor)|refine jq (by decide) ?_|((first|refine kz env fun Q hQ=>?_|refine kj fun Q hQ=>?_);simp only [vkt,seval,qY,jO,aTk,cTk,qx,eTk,gTk,rTk,mTk,qo,qG,wD,dI1,zy,qa,qb,coA,coB,coM,jg,pUp,zF,vQ,yD,List.length_map,List.map_cons,List.map_nil,wp,hs1,List.cons_append,List.nil_append];(try simp only [ite_and]);(repeat' (first|with_reducible assumption|refine And.intro ?_ ?_|intro hp));all_goals (first|(refine hQ _ ?_;clear hQ Q)|(refine hQ _ (fun h=>?_) (fun h=>?_) <;> clear hQ Q <;> (try simp only [vki,reduceCtorEq] at h))|(refine kx ?_;kernel_rfl)|omega|assumption|with_reducible rfl|skip)))
          refine ⟨rfl, ?_⟩
          simp only [coM,List.cons_append,List.nil_append]
          (refine Le.ok some [] ?_;constructor;all_goals (try simp only [vle,vkt,seval,qY,jO,aTk,cTk,qx,eTk,gTk,rTk,mTk,qo,qG,wD,dI1,zy,qa,qb,coA,coB,coM,jg,pUp,zF,vQ,yD,List.length_map,List.map_cons,List.map_nil]))
          all_goals first|rfl|(rw [wp];done)|(rw [hs1];done)|(simp;done)
      rintro e S1 ⟨rfl,hle⟩
      refine (xO hle ?_:Sym _ _ _ S1 _)
      clear hle S1 hc2
      simp only [coM,List.cons_append,List.nil_append,List.append_nil]
      repeat' (first|(apply nx;with_reducible constructor)|refine jq (by decide) ?_)
      refine Sym.mono (K:=fun e S1=>e=.normal∧Le S1 (coM cs S s2 p1 (nt - j) l [(13,aI n)] [] 5)) ?_ ?_
      · ((first|refine kz env fun Q hQ=>?_|refine kj fun Q hQ=>?_);simp only [vkt,seval,qY,jO,aTk,cTk,qx,eTk,gTk,rTk,mTk,qo,qG,wD,dI1,zy,qa,qb,coA,coB,coM,jg,pUp,zF,vQ,yD,List.length_map,List.map_cons,List.map_nil,hcl,w2,hn,hs2];(try simp only [ite_and]);(repeat' (first|with_reducible assumption|refine And.intro ?_ ?_|intro hp));all_goals (first|(refine hQ _ ?_;clear hQ Q)|(refine hQ _ (fun h=>?_) (fun h=>?_) <;> clear hQ Q <;> (try simp only [vki,reduceCtorEq] at h))|(refine kx ?_;kernel_rfl)|omega|assumption|with_reducible rfl|skip))
        refine ⟨rfl, ?_⟩
        simp only [coM,List.cons_append,List.nil_append]
        (refine Le.ok some [] ?_;constructor;all_goals (try simp only [vle,vkt,seval,qY,jO,aTk,cTk,qx,eTk,gTk,rTk,mTk,qo,qG,wD,dI1,zy,qa,qb,coA,coB,coM,jg,pUp,zF,vQ,yD,List.length_map,List.map_cons,List.map_nil]))
        all_goals first|rfl|(simp;done)
      rintro e S1 ⟨rfl,hle⟩
      refine (xO hle ?_:Sym _ _ _ S1 _)
      clear hle S1
      simp only [coM,List.cons_append,List.nil_append,List.append_nil]
      repeat' (first|(apply nx;with_reducible constructor)|refine jq (by decide) ?_)
      refine Sym.mono (K:=fun e S1=>e=.normal∧Le S1 (coM cs S s6 p1 (nt - j) l [(14,.ptr 5 0)] [(5,.cells [aI p1,aI sx,aI n,aI bd,aI f,aI 0,aB dg])] 6)) ?_ ?_
      · ((first|refine kz env fun Q hQ=>?_|refine kj fun Q hQ=>?_);simp only [vkt,seval,qY,jO,aTk,cTk,qx,eTk,gTk,rTk,mTk,qo,qG,wD,dI1,zy,qa,qb,coA,coB,coM,jg,pUp,zF,vQ,yD,List.length_map,List.map_cons,List.map_nil,hsx,hs3,i0,hnk,hcg,w3,hbd,hs4,w4,hf,hs5,hdg,hs6];(try simp only [ite_and]);(repeat' (first|with_reducible assumption|refine And.intro ?_ ?_|intro hp));all_goals (first|(refine hQ _ ?_;clear hQ Q)|(refine hQ _ (fun h=>?_) (fun h=>?_) <;> clear hQ Q <;> (try simp only [vki,reduceCtorEq] at h))|(refine kx ?_;kernel_rfl)|omega|assumption|with_reducible rfl|skip))
        · exact ⟨_,_,rfl⟩
        refine ⟨rfl, ?_⟩
        simp only [coM,List.cons_append,List.nil_append]
        (refine Le.ok (fun i=>if i=5 then some 6 else some i) [] ?_;constructor;all_goals (try simp only [vle,vkt,seval,qY,jO,aTk,cTk,qx,eTk,gTk,rTk,mTk,qo,qG,wD,dI1,zy,qa,qb,coA,coB,coM,jg,pUp,zF,vQ,yD,List.length_map,List.map_cons,List.map_nil]))
        all_goals first|rfl|(simp;done)|(intro i hi;rw [if_neg (by omega)];done)
      rintro e S1 ⟨rfl,hle⟩
      refine (xO hle ?_:Sym _ _ _ S1 _)
      clear hle S1
      simp only [coM,List.cons_append,List.nil_append,List.append_nil]
      repeat' (first|(apply nx;with_reducible constructor)|refine jq (by decide) ?_)
      ((first|refine kz env fun Q hQ=>?_|refine kj fun Q hQ=>?_);simp only [vkt,seval,qY,jO,aTk,cTk,qx,eTk,gTk,rTk,mTk,qo,qG,wD,dI1,zy,qa,qb,coA,coB,coM,jg,pUp,zF,vQ,yD,List.length_map,List.map_cons,List.map_nil,w5,htt,hs7];(try simp only [ite_and]);(repeat' (first|with_reducible assumption|refine And.intro ?_ ?_|intro hp));all_goals (first|(refine hQ _ ?_;clear hQ Q)|(refine hQ _ (fun h=>?_) (fun h=>?_) <;> clear hQ Q <;> (try simp only [vki,reduceCtorEq] at h))|(refine kx ?_;kernel_rfl)|omega|assumption|with_reducible rfl|skip))
      repeat' (first|(apply nx;with_reducible constructor)|refine jq (by decide) ?_)
      ((first|refine kz env fun Q hQ=>?_|refine kj fun Q hQ=>?_);simp only [vkt,seval,qY,jO,aTk,cTk,qx,eTk,gTk,rTk,mTk,qo,qG,wD,dI1,zy,qa,qb,coA,coB,coM,jg,pUp,zF,vQ,yD,List.length_map,List.map_cons,List.map_nil,hl100,hgb];(try simp only [ite_and]);(repeat' (first|with_reducible assumption|refine And.intro ?_ ?_|intro hp));all_goals (first|(refine hQ _ ?_;clear hQ Q)|(refine hQ _ (fun h=>?_) (fun h=>?_) <;> clear hQ Q <;> (try simp only [vki,reduceCtorEq] at h))|(refine kx ?_;kernel_rfl)|omega|assumption|with_reducible rfl|skip))
      cases gb with
      |true =>
        rw [if_pos rfl] at hK1
        repeat' (first|(apply nx;with_reducible constructor)|refine jq (by decide) ?_|((first|refine kz env fun Q hQ=>?_|refine kj fun Q hQ=>?_);simp only [vkt,seval,qY,jO,aTk,cTk,qx,eTk,gTk,rTk,mTk,qo,qG,wD,dI1,zy,qa,qb,coA,coB,coM,jg,pUp,zF,vQ,yD,List.length_map,List.map_cons,List.map_nil,hl1,w1];(try simp only [ite_and]);(repeat' (first|with_reducible assumption|refine And.intro ?_ ?_|intro hp));all_goals (first|(refine hQ _ ?_;clear hQ Q)|(refine hQ _ (fun h=>?_) (fun h=>?_) <;> clear hQ Q <;> (try simp only [vki,reduceCtorEq] at h))|(refine kx ?_;kernel_rfl)|omega|assumption|with_reducible rfl|skip)))
        refine ⟨⟨j+1,hjl⟩,by show nt - (j+1) < nt - j;omega, ?_⟩
        show Le _ (coB cs S (tkK cs S z (j+1)).2.2 (tkK cs S z (j+1)).1 (nt - (j+1)) (tkK cs S z (j+1)).2.1)
        rw [hK1]
        (refine Le.ok (fun i=>if i=4 then some 7 else some i) [] ?_;constructor;all_goals (try simp only [vle,vkt,seval,qY,jO,aTk,cTk,qx,eTk,gTk,rTk,mTk,qo,qG,wD,dI1,zy,qa,qb,coA,coB,coM,jg,pUp,zF,vQ,yD,List.length_map,List.map_cons,List.map_nil]))
        all_goals first|rfl|(rw [List.map_append];rfl)|(simp;done)|(intro i hi;rw [if_neg (by omega)];done)
      |false =>
        rw [if_neg (by decide)] at hK1
        repeat' (first|(apply nx;with_reducible constructor)|refine jq (by decide) ?_|((first|refine kz env fun Q hQ=>?_|refine kj fun Q hQ=>?_);simp only [vkt,seval,qY,jO,aTk,cTk,qx,eTk,gTk,rTk,mTk,qo,qG,wD,dI1,zy,qa,qb,coA,coB,coM,jg,pUp,zF,vQ,yD,List.length_map,List.map_cons,List.map_nil,hl1,w1];(try simp only [ite_and]);(repeat' (first|with_reducible assumption|refine And.intro ?_ ?_|intro hp));all_goals (first|(refine hQ _ ?_;clear hQ Q)|(refine hQ _ (fun h=>?_) (fun h=>?_) <;> clear hQ Q <;> (try simp only [vki,reduceCtorEq] at h))|(refine kx ?_;kernel_rfl)|omega|assumption|with_reducible rfl|skip)))
        refine ⟨⟨j+1,hjl⟩,by show nt - (j+1) < nt - j;omega, ?_⟩
        show Le _ (coB cs S (tkK cs S z (j+1)).2.2 (tkK cs S z (j+1)).1 (nt - (j+1)) (tkK cs S z (j+1)).2.1)
        rw [hK1]
        (refine Le.ok some [] ?_;constructor;all_goals (try simp only [vle,vkt,seval,qY,jO,aTk,cTk,qx,eTk,gTk,rTk,mTk,qo,qG,wD,dI1,zy,qa,qb,coA,coB,coM,jg,pUp,zF,vQ,yD,List.length_map,List.map_cons,List.map_nil]))
        all_goals first|rfl|(simp;done)
    · have d1:decide ((0:Int) < ((nt - j:Nat):Int))=false:=decide_eq_false (by omega)
      obtain rfl:j=nt:=by omega
      obtain ⟨⟨p,l,s0⟩,hK⟩:∃ q,tkK cs S z j=q:=⟨_,rfl⟩
      rw [hK]
      repeat' (first|(apply nx;with_reducible constructor)|refine jq (by decide) ?_|((first|refine kz env fun Q hQ=>?_|refine kj fun Q hQ=>?_);simp only [vkt,seval,qY,jO,aTk,cTk,qx,eTk,gTk,rTk,mTk,qo,qG,wD,dI1,zy,qa,qb,coA,coB,coM,jg,pUp,zF,vQ,yD,List.length_map,List.map_cons,List.map_nil,d1];(try simp only [ite_and]);(repeat' (first|with_reducible assumption|refine And.intro ?_ ?_|intro hp));all_goals (first|(refine hQ _ ?_;clear hQ Q)|(refine hQ _ (fun h=>?_) (fun h=>?_) <;> clear hQ Q <;> (try simp only [vki,reduceCtorEq] at h))|(refine kx ?_;kernel_rfl)|omega|assumption|with_reducible rfl|skip)))
      (simp only [vrt,Try.results16,vkt,seval,qY,jO,aTk,cTk,qx,eTk,gTk,rTk,mTk,qo,qG,wD,dI1,zy,qa,qb,coA,coB,coM,jg,pUp,zF,vQ,yD,List.length_map,List.map_cons,List.map_nil];refine Fin.ok some [3,4] ?_ ?_ ?_ ?_ ?_ rfl;all_goals (try simp only [vle,vkt,seval,qY,jO,aTk,cTk,qx,eTk,gTk,rTk,mTk,qo,qG,wD,dI1,zy,qa,qb,coA,coB,coM,jg,pUp,zF,vQ,yD,List.length_map,List.map_cons,List.map_nil]))
      all_goals first|rfl|(simp;done)
end Go.Sym.B
namespace Go.Sym.B
open Go Go.Sym Go.Proofs Go.Sym.C
noncomputable def sxV (s:Int):Int:=([1,2]:List Int).getD (upV s 1).toNat 0
noncomputable def sxK (x:Int):Nat→List Int × Int
  |0=>([],x)
  |k+1=>((sxK x k).1++[sxV (sxK x k).2],upS (sxK x k).2 1)
noncomputable def aoF (x secs:Int):Int:=upV (upS x 39) (secs - 1)
noncomputable def aoX2 (x secs:Int):Int:=upS (upS x 39) (secs - 1)
noncomputable def Qd2 (x secs:Int):Int:=upS (aoX2 x secs) 5
noncomputable def aoT (x secs:Int):Int:=aoF x secs+1+upV (Qd2 x secs) (secs - (aoF x secs+1))
noncomputable def Yv (x secs:Int):Int:=upS (Qd2 x secs) (secs - (aoF x secs+1))
noncomputable def aoS (x secs n:Int):List Int × Int:=sxK (upS (Yv x secs) (n - 1)) (1+upV (Yv x secs) (n - 1)).toNat
noncomputable def aoA (x secs n:Int):Ask:=⟨60+upV x 39,aoF x secs,aoT x secs,(aoS x secs n).1,decide (upV (aoX2 x secs) 5 < 1)⟩
noncomputable def aoX (x secs n:Int):Int:=(aoS x secs n).2
theorem QfI (s:Int):1≤sxV s∧sxV s≤2:=by
  have h:=up2 s (m:=1) (by omega) (by omega)
  unfold sxV
  obtain h0|h0:(upV s 1).toNat=0∨(upV s 1).toNat=1:=by omega
  · rw [h0];decide
  · rw [h0];decide
theorem RI (x:Int):∀ k,(sxK x k).1.length=k∧∀ c ∈ (sxK x k).1,1≤c∧c≤2
  |0=>⟨rfl,by simp [sxK]⟩
  |k+1=>by
    obtain ⟨h1,h2⟩:=RI x k
    have h3:=QfI (sxK x k).2
    rw [sxK]
    refine ⟨by simp [h1],fun c hc=>?_⟩
    rcases List.mem_append.1 hc with hc|hc
    · exact h2 c hc
    · rw [List.mem_singleton.1 hc];exact h3
def aoI (c:Chart) (s pt f t:Int) (d:Bool) (i:Nat) (l:List Int):St:={ t:=asg [(0,.ptr 0 0),(6,.ptr 2 0),(7,.ptr 3 0),(8,aI i)],h:=qg [(0,.cells [.v (.int .u64 s)]),(2,.cells [aI 0,aI 0,aI 0,.nil,aB false]),(3,.cells [aI pt,aI f,aI t,.row 4,aB d]),(4,.row 3 1 (l.map zC))],n:=5,m:=1 }
def y9:=kk @ty3 (kk @Qf (kk @vg (kk @kX (kk @ti3.eq_1 (kk @kC.eq_1 (kk @yI.eq_1 @xB.eq_1))))))
def J9:=kk @aI.eq_1 (kk @aB.eq_1 (kk @qA.eq_1 (kk @zC.eq_1 (@UN))))
set_option maxHeartbeats 2000000 in
theorem Qcn (x:Int) (c:Chart) (n:Int) (hg:1≤c.secs∧c.secs≤5) (hn:1≤n∧n≤3):Fn noB Try.prog 17 [.ptr 0 0,qa c,aI n] (qg (zy x)) (qw (aoA x c.secs n)) (qg (zy (aoX x c.secs n))) 0:=by
  have env:Env (fun _=>True) Try.prog tyB (tab [(37,fnE jg),(40,fnE pUp),(45,fnE zF),(64,fnE vQ)]):=qM ⟨Qjy,eUp,QdA,eOne,trivial⟩
  refine Fn.of (A:=fun _=>True) (n0:=1) (D:=noD) (Fn0 Try.func17 rfl (fun vs w=>by kernel_rfl) (by kernel_rfl)) (by simp) (by simp [AV.ids,AV.idsL,aI,qa,qb]) ?_ (fun _ _ _ _=>trivial) qH ?_
  · intro i o hi
    have h:=qL hi
    simp [zy] at h
    rcases h with ⟨rfl,rfl⟩;simp [AObj.ids,AV.ids,AV.idsL]
  have m1:min n 3=n:=by omega
  have hmx:(100000:Nat)≤maxLen:=by decide
  obtain ⟨S,hS⟩:∃ S,c.secs=S:=⟨_,rfl⟩
  rw [hS] at hg ⊢
  have hpt:=up2 x (m:=39) (by omega) (by omega)
  obtain ⟨pt,hpt1⟩:∃ q,60+upV x 39=q:=⟨_,rfl⟩
  obtain ⟨x1,hx1⟩:∃ q,upS x 39=q:=⟨_,rfl⟩
  have hf0:=up2 x1 (m:=S - 1) (by omega) (by omega)
  obtain ⟨f,hf⟩:∃ q,upV x1 (S - 1)=q:=⟨_,rfl⟩
  rw [hf] at hf0
  obtain ⟨x2,hx2⟩:∃ q,upS x1 (S - 1)=q:=⟨_,rfl⟩
  obtain ⟨dg,hdg⟩:∃ q,decide (upV x2 5 < 1)=q:=⟨_,rfl⟩
  obtain ⟨x3,hx3⟩:∃ q,upS x2 5=q:=⟨_,rfl⟩
  obtain ⟨tt,htt⟩:∃ q,f+1+upV x3 (S - (f+1))=q:=⟨_,rfl⟩
  obtain ⟨x4,hx4⟩:∃ q,upS x3 (S - (f+1))=q:=⟨_,rfl⟩
  have hnp:=up2 x4 (m:=n - 1) (by omega) (by omega)
  obtain ⟨np,hnp1⟩:∃ q:Nat,1+upV x4 (n - 1)=q:=⟨(1+upV x4 (n - 1)).toNat,by omega⟩
  obtain ⟨y,hy⟩:∃ q,upS x4 (n - 1)=q:=⟨_,rfl⟩
  have e1:aoF x S=f:=by unfold aoF;rw [hx1,hf]
  have e2:aoX2 x S=x2:=by unfold aoX2;rw [hx1,hx2]
  have e3:Qd2 x S=x3:=by unfold Qd2;rw [e2,hx3]
  have e4:aoT x S=tt:=by unfold aoT;rw [e1,e3,htt]
  have e5:Yv x S=x4:=by unfold Yv;rw [e3,e1,hx4]
  have e6:aoS x S n=sxK y np:=by unfold aoS;rw [e5,hy,hnp1];rfl
  unfold aoX aoA
  rw [e1,e2,e4,e6,hpt1,hdg]
  have w4:IntKind.wrap .i64 (S - 1)=S - 1:=wrap64 (by omega) (by omega)
  have w5:IntKind.wrap .i64 (f+1)=f+1:=wrap64 (by omega) (by omega)
  have b3:S - 1 < 9223372036854775807:=by omega
  have b4:-100000≤f+1:=by omega
  have b5:f+1≤100000:=by omega
  have b6:-100000≤S:=by omega
  have b7:S≤100000:=by omega
  have b8:-100000≤n:=by omega
  have b9:n≤100000:=by omega
  show Sym _ _ _ (zq [.ptr 0 0,qa c,aI n] 1 (qg [(0,.cells [.v (.int .u64 x)])])) (yB tyB noD Try.f17 fun S' rv=>Fin S' rv _ 1 (qg [(0,.cells [.v (.int .u64 (sxK y np).2)])]) 0)
  repeat' (first|(apply nx;with_reducible constructor)|refine jq (by decide) ?_|((first|refine kz env fun Q hQ=>?_|refine kj fun Q hQ=>?_);simp only [vkt,seval,y9,J9,dI1,zy,qa,qb,qw,qj,aoI,jg,pUp,zF,vQ,List.length_map,List.map_cons,List.map_nil,hS,m1,hpt1,hx1,w4,hf,hx2,hdg,hx3,w5,htt,hx4,hnp1,hy];(try simp only [ite_and]);(repeat' (first|with_reducible assumption|refine And.intro ?_ ?_|intro hp));all_goals (first|(refine hQ _ ?_;clear hQ Q)|(refine hQ _ (fun h=>?_) (fun h=>?_) <;> clear hQ Q <;> (try simp only [vki,reduceCtorEq] at h))|(refine kx ?_;kernel_rfl)|omega|assumption|with_reducible rfl|skip)))
  refine qU (fun k:{ k:Nat // k≤np }=>aoI c (sxK y k.1).2 pt f tt dg (np - k.1) (sxK y k.1).1) (fun k=>np - k.1) ⟨0,Nat.zero_le _⟩ ?_ fun ⟨k,hk⟩=>?_
  · (refine Le.ok (fun i=>if i=4 then none else some i) [] ?_;constructor;all_goals (try simp only [vle,vkt,seval,y9,J9,dI1,zy,qa,qb,qw,qj,aoI,jg,pUp,zF,vQ,List.length_map,List.map_cons,List.map_nil]))
    all_goals first|rfl|(simp [sxK];done)|(intro i hi;rw [if_neg (by omega)];done)
  simp only at hk ⊢
  by_cases hkl:k < np
  · have d1:decide ((0:Int) < ((np - k:Nat):Int))=true:=decide_eq_true (by omega)
    have w1:IntKind.wrap .i64 (((np - k:Nat):Int) - 1)=((np - (k+1):Nat):Int):=by rw [wrap64 (by omega) (by omega)];omega
    have hl:=(RI y k).1
    have hl1:(sxK y k).1.length+1≤maxLen:=by omega
    have hK1:sxK y (k+1)=((sxK y k).1++[sxV (sxK y k).2],upS (sxK y k).2 1):=by rw [sxK]
    obtain ⟨⟨l,s⟩,hK⟩:∃ q,sxK y k=q:=⟨_,rfl⟩
    rw [hK] at hl hl1 hK1 ⊢
    have hl8:(l.length+1) * 8≤140737488355328:=by simp only at hl;omega
    obtain ⟨v,hv⟩:∃ v,sxV s=v:=⟨_,rfl⟩
    simp only [hv] at hK1
    have hv:([1,2]:List Int).getD (upV s 1).toNat 0=v:=hv
    repeat' (first|(apply nx;with_reducible constructor)|refine jq (by decide) ?_|((first|refine kz env fun Q hQ=>?_|refine kj fun Q hQ=>?_);simp only [vkt,seval,y9,J9,dI1,zy,qa,qb,qw,qj,aoI,jg,pUp,zF,vQ,List.length_map,List.map_cons,List.map_nil,d1,w1,hl1,hl8,hv];(try simp only [ite_and]);(repeat' (first|with_reducible assumption|refine And.intro ?_ ?_|intro hp));all_goals (first|(refine hQ _ ?_;clear hQ Q)|(refine hQ _ (fun h=>?_) (fun h=>?_) <;> clear hQ Q <;> (try simp only [vki,reduceCtorEq] at h))|(refine kx ?_;kernel_rfl)|omega|assumption|with_reducible rfl|skip)))
    · exact ⟨_,_,rfl⟩
    refine ⟨⟨k+1,hkl⟩,by show np - (k+1) < np - k;omega, ?_⟩
    show Le _ (aoI c (sxK y (k+1)).2 pt f tt dg (np - (k+1)) (sxK y (k+1)).1)
    rw [hK1]
    (refine Le.ok (fun i=>if i=4 then some 7 else some i) [] ?_;constructor;all_goals (try simp only [vle,vkt,seval,y9,J9,dI1,zy,qa,qb,qw,qj,aoI,jg,pUp,zF,vQ,List.length_map,List.map_cons,List.map_nil]))
    all_goals first|rfl|(rw [List.map_append];rfl)|(simp;done)|(intro i hi;rw [if_neg (by omega)];done)
  · have d1:decide ((0:Int) < ((np - k:Nat):Int))=false:=decide_eq_false (by omega)
    obtain rfl:k=np:=by omega
    obtain ⟨⟨l,s⟩,hK⟩:∃ q,sxK y k=q:=⟨_,rfl⟩
    rw [hK]
    repeat' (first|(apply nx;with_reducible constructor)|refine jq (by decide) ?_|((first|refine kz env fun Q hQ=>?_|refine kj fun Q hQ=>?_);simp only [vkt,seval,y9,J9,dI1,zy,qa,qb,qw,qj,aoI,jg,pUp,zF,vQ,List.length_map,List.map_cons,List.map_nil,d1];(try simp only [ite_and]);(repeat' (first|with_reducible assumption|refine And.intro ?_ ?_|intro hp));all_goals (first|(refine hQ _ ?_;clear hQ Q)|(refine hQ _ (fun h=>?_) (fun h=>?_) <;> clear hQ Q <;> (try simp only [vki,reduceCtorEq] at h))|(refine kx ?_;kernel_rfl)|omega|assumption|with_reducible rfl|skip)))
    (simp only [vrt,Try.results17,vkt,seval,y9,J9,dI1,zy,qa,qb,qw,qj,aoI,jg,pUp,zF,vQ,List.length_map,List.map_cons,List.map_nil];refine Fin.ok some [4] ?_ ?_ ?_ ?_ ?_ rfl;all_goals (try simp only [vle,vkt,seval,y9,J9,dI1,zy,qa,qb,qw,qj,aoI,jg,pUp,zF,vQ,List.length_map,List.map_cons,List.map_nil]))
    all_goals first|rfl|(simp;done)
end Go.Sym.B
namespace Go.Sym.B
open Go Go.Sym Go.Proofs Go.Sym.C
theorem vE {cs:List Cabin} {s:Int} {l:List Tk}:∀ i o,qg (qI 0 (qm cs s l)) i=some o→i < 2∧∀ id ∈ o.ids,id < 2:=by
  intro i o hi
  have h:=qL hi
  simp [qI,qm] at h
  rcases h with ⟨rfl,rfl⟩|⟨rfl,rfl⟩ <;> simp [AObj.ids,AV.ids,AV.idsL,qf,qh]
def vD (S:St):List AV→Option Pk
  |[.ptr c 0,.sl bs]=>match S.h c with
    |some (.cells [.sl cs,.v (.int .i64 s),.row r])=>match S.h r with
      |some (.row _ _ xs)=>some { pre:=bs=(bs.map zG).map qp∧cs=(cs.map qB).map qo∧xs=(xs.map dTk).map eTk∧NearOk (cs.map qB) (bs.map zG),hs:=[c,r],ar:=[.ptr 0 0,.sl bs],L0:=qm (cs.map qB) s (xs.map dTk),v:=aB (Zz (cs.map qB) (bs.map zG)),L1:=(qm (cs.map qB) s (xs.map dTk)).map some }
      |_=>none
    |_=>none
  |_=>none
theorem eNear {A:Frm→Prop}:qC A Try.prog 134 (fnE vD):=zx fun S bs q h hp=>by
  unfold vD at h
  split at h
  · split at h
    · split at h
      · cases h
        obtain ⟨h1,h2,h3,h4⟩:=hp
        have:=QhT _ (by assumption) (List.map dTk (by assumption)) _ h4
        rw [qc,← h1] at this
        exact this
      · cases h
    · cases h
  · cases h
def Y3:=kk @Zb (kk @vg (kk @JH (kk @xy (kk @JO (kk @Qx.eq_1 (kk @yI.eq_1 (kk @Wq.eq_1 (kk @vW.eq_1 @ZL.eq_1))))))))
def QbR:=kk @aI.eq_1 (@aB.eq_1)
theorem QhS (cs:List Cabin) (s:Int) (sold:List Tk) (t:Tk) (hl:sold.length≤100):Fn noB Try.prog 95 [.ptr 0 0,aTk t] (qg (qI 0 (qm cs s sold))) (aB (decide (wo t sold=0))) (qg (zT 0 ((qm cs s sold).map some))) 0:=by
  have env:Env (fun _=>True) Try.prog tyB (tab [(124,zk true jR)]):=qM ⟨Qdd,trivial⟩
  refine Fn.of (A:=fun _=>True) (n0:=2) (D:=noD) (Fn0 Try.func95 rfl (fun vs w=>by kernel_rfl) (by kernel_rfl)) (by simp) (by simp [AV.ids,AV.idsL,aTk,cTk]) vE (fun _ _ _ _=>trivial) qH ?_
  have et:(⟨t.party,t.sex,t.cab,t.bed,t.frm,t.to,t.dog⟩:Tk)=t:=rfl
  show Sym _ _ _ (zq [.ptr 0 0,aTk t] 2 (qg [(0,qf cs s 1),(1,qh sold)])) (yB tyB noD Try.f95 fun S rv=>Fin S rv _ 2 (qg [(0,qf cs s 1),(1,qh sold)]) 0)
  repeat' (first|(apply nx;with_reducible constructor)|refine jq (by decide) ?_|((first|refine kz env fun Q hQ=>?_|refine kj fun Q hQ=>?_);simp only [vkt,seval,Y3,QbR,aTk,cTk,qx,mTk,qf,qh,qm,jR,List.length_map,et];(try simp only [ite_and]);(repeat' (first|with_reducible assumption|refine And.intro ?_ ?_|intro hp));all_goals (first|(refine hQ _ ?_;clear hQ Q)|(refine hQ _ (fun h=>?_) (fun h=>?_) <;> clear hQ Q <;> (try simp only [vki,reduceCtorEq] at h))|(refine kx ?_;kernel_rfl)|omega|assumption|with_reducible rfl|skip)))
  (simp only [vrt,Try.results95,vkt,seval,Y3,QbR,aTk,cTk,qx,mTk,qf,qh,qm,jR,List.length_map];refine Fin.ok some [] ?_ ?_ ?_ ?_ ?_ rfl;all_goals (try simp only [vle,vkt,seval,Y3,QbR,aTk,cTk,qx,mTk,qf,qh,qm,jR,List.length_map]))
  all_goals first|rfl|(simp;done)
def vo (S:St):List AV→Option Pk
  |[.ptr c 0,.agg [.v (.int .i64 a),.v (.int .i64 b),.v (.int .i64 d),.v (.int .i64 e),.v (.int .i64 f),.v (.int .i64 g),.v (.bool k)]]=>match S.h c with
    |some (.cells [.sl cs,.v (.int .i64 s),.row r])=>match S.h r with
      |some (.row _ _ xs)=>some { pre:=cs=(cs.map qB).map qo∧xs=(xs.map dTk).map eTk∧xs.length≤100,hs:=[c,r],ar:=[.ptr 0 0,.agg [.v (.int .i64 a),.v (.int .i64 b),.v (.int .i64 d),.v (.int .i64 e),.v (.int .i64 f),.v (.int .i64 g),.v (.bool k)]],L0:=qm (cs.map qB) s (xs.map dTk),v:=aB (decide (wo ⟨a,b,d,e,f,g,k⟩ (xs.map dTk)=0)),L1:=(qm (cs.map qB) s (xs.map dTk)).map some }
      |_=>none
    |_=>none
  |_=>none
theorem eFits {A:Frm→Prop}:qC A Try.prog 95 (fnE vo):=zx fun S bs q h hp=>by
  unfold vo at h
  split at h
  · rename_i a b d e f g k
    split at h
    · split at h
      · rename_i s _ _ _ _ xs _
        cases h
        obtain ⟨h1,h2,h3⟩:=hp
        exact QhS _ _ _ ⟨a,b,d,e,f,g,k⟩ (by rw [List.length_map];exact h3)
      · cases h
    · cases h
  · cases h
theorem Qh0 {l:List Tk} {r:List DV} {d:DV} (hr:r ∈ l.map eTk) (hd:d ∈ r):∃ x,d=.v x:=by
  obtain ⟨t,_,rfl⟩:=List.mem_map.1 hr
  simp only [eTk,List.mem_cons,List.not_mem_nil,or_false] at hd
  rcases hd with rfl|rfl|rfl|rfl|rfl|rfl|rfl <;> exact ⟨_,rfl⟩
def Qv (cs:List Cabin) (s:Int) (l:List Tk) (t:Tk):List AObj:=[qf cs s 4,qh l,.cells [.row 1],.cells [.ptr 0 0],qh (l++[t])]
def Vm:=kk @Zb (kk @vg (kk @xy (kk @Qb (kk @JO (kk @Qx.eq_1 (kk @yI.eq_1 (kk @vW.eq_1 (kk @xE.eq_1 @ZL.eq_1))))))))
def QbI:=kk @aI.eq_1 (@aB.eq_1)
theorem QiM (cs:List Cabin) (s:Int) (sold:List Tk) (t:Tk) (hl:sold.length≤100):Fn noB Try.prog 96 [.ptr 0 0,aTk t] (qg (qI 0 (qm cs s sold))) (.clo 125 [.ptr 2 0,.ptr 3 0]) (qg (zT 0 ((Qv cs s sold t).map some))) 0:=by
  have env:Env (fun _=>True) Try.prog tyB (tab [(122,fnE Qp)]):=qM ⟨Qdu,trivial⟩
  refine Fn.of (A:=fun _=>True) (n0:=2) (D:=noD) (Fn0 Try.func96 rfl (fun vs w=>by kernel_rfl) (by kernel_rfl)) (by simp) (by simp [AV.ids,AV.idsL,aTk,cTk]) vE (fun _ _ _ _=>trivial) qH ?_
  have hm:(100:Nat)+1≤maxLen:=by decide
  show Sym _ _ _ (zq [.ptr 0 0,aTk t] 2 (qg [(0,qf cs s 1),(1,qh sold)])) (yB tyB noD Try.f96 fun S rv=>Fin S rv _ 2 (qg [(0,qf cs s 4),(1,qh sold),(2,.cells [.row 1]),(3,.cells [.ptr 0 0]),(4,qh (sold++[t]))]) 0)
  repeat' (first|(apply nx;with_reducible constructor)|refine jq (by decide) ?_|((first|refine kz env fun Q hQ=>?_|refine kj fun Q hQ=>?_);simp only [vkt,seval,Vm,QbI,aTk,cTk,qx,mTk,eTk,rTk,qf,qh,qm,Qv,Qp,List.length_map,List.length_append,List.map_append];(try simp only [ite_and]);(repeat' (first|with_reducible assumption|refine And.intro ?_ ?_|intro hp));all_goals (first|(refine hQ _ ?_;clear hQ Q)|(refine hQ _ (fun h=>?_) (fun h=>?_) <;> clear hQ Q <;> (try simp only [vki,reduceCtorEq] at h))|(refine kx ?_;kernel_rfl)|omega|assumption|with_reducible rfl|skip)))
  · exact ⟨_,_,rfl⟩
  · exact Qh0 (by assumption) (by assumption)
  (simp only [vrt,Try.results96,vkt,seval,Vm,QbI,aTk,cTk,qx,mTk,eTk,rTk,qf,qh,qm,Qv,Qp,List.length_map,List.length_append,List.map_append];refine Fin.ok (fun j=>[0,1,4,2,7][j]?) [] ?_ ?_ ?_ ?_ ?_ rfl;all_goals (try simp only [vle,vkt,seval,Vm,QbI,aTk,cTk,qx,mTk,eTk,rTk,qf,qh,qm,Qv,Qp,List.length_map,List.length_append,List.map_append]))
  all_goals first|rfl|(simp;done)|exact fun i hi=>(match i,hi with|0,_=>rfl|1,_=>rfl)
def YL (S:St):List AV→Option Pk
  |[.ptr c 0,.agg [.v (.int .i64 a),.v (.int .i64 b),.v (.int .i64 d),.v (.int .i64 e),.v (.int .i64 f),.v (.int .i64 g),.v (.bool k)]]=>match S.h c with
    |some (.cells [.sl cs,.v (.int .i64 s),.row r])=>match S.h r with
      |some (.row _ _ xs)=>some { pre:=cs=(cs.map qB).map qo∧xs=(xs.map dTk).map eTk∧xs.length≤100,hs:=[c,r],ar:=[.ptr 0 0,.agg [.v (.int .i64 a),.v (.int .i64 b),.v (.int .i64 d),.v (.int .i64 e),.v (.int .i64 f),.v (.int .i64 g),.v (.bool k)]],L0:=qm (cs.map qB) s (xs.map dTk),v:=.clo 125 [.ptr 2 0,.ptr 3 0],L1:=(Qv (cs.map qB) s (xs.map dTk) ⟨a,b,d,e,f,g,k⟩).map some }
      |_=>none
    |_=>none
  |_=>none
theorem eSell {A:Frm→Prop}:qC A Try.prog 96 (fnE YL):=zx fun S bs q h hp=>by
  unfold YL at h
  split at h
  · rename_i a b d e f g k
    split at h
    · split at h
      · cases h
        obtain ⟨h1,h2,h3⟩:=hp
        exact QiM _ _ _ ⟨a,b,d,e,f,g,k⟩ (by rw [List.length_map];exact h3)
      · cases h
    · cases h
  · cases h
def Ya:=kk @Zb (kk @vg (kk @xy (kk @Qb (kk @JO (kk @Qx.eq_1 (kk @yI.eq_1 (kk @vW.eq_1 (kk @xE.eq_1 @ZL.eq_1))))))))
def Qbv:=kk @aI.eq_1 (@aB.eq_1)
theorem QgV (cs:List Cabin) (s:Int) (sold:List Tk) (t:Tk):FnD Try.prog 125 [.ptr 2 0,.ptr 3 0] (qg (qI 0 (Qv cs s sold t))) (.tup []) (qg (zT 0 ([qf cs s 1,qh sold,.cells [.row 1],.cells [.ptr 0 0],qh (sold++[t])].map some))):=by
  have env:Env (fun F=>F.r=none) Try.prog tyB (tab []):=qM trivial
  refine FnD.of (n0:=5) (Fn0 Try.func125 rfl (fun vs w=>by kernel_rfl) (by kernel_rfl)) (by simp) (by simp [AV.ids,AV.idsL]) ?_ ?_
  · intro i o hi
    have h:=qL hi
    simp [qI,Qv] at h
    rcases h with ⟨rfl,rfl⟩|⟨rfl,rfl⟩|⟨rfl,rfl⟩|⟨rfl,rfl⟩|⟨rfl,rfl⟩ <;> simp [AObj.ids,AV.ids,AV.idsL,qf,qh]
  show Sym _ _ _ (zq [.ptr 2 0,.ptr 3 0] 5 (qg [(0,qf cs s 4),(1,qh sold),(2,.cells [.row 1]),(3,.cells [.ptr 0 0]),(4,qh (sold++[t]))])) (QhG tyB Try.f125 fun S rv=>Fin S rv _ 5 (qg [(0,qf cs s 1),(1,qh sold),(2,.cells [.row 1]),(3,.cells [.ptr 0 0]),(4,qh (sold++[t]))]) 0)
  repeat' (first|(apply nx;with_reducible constructor)|refine jq (by decide) ?_|((first|refine kz env fun Q hQ=>?_|refine kj fun Q hQ=>?_);simp only [vkt,seval,Ya,Qbv,qf,qh,Qv];(try simp only [ite_and]);(repeat' (first|with_reducible assumption|refine And.intro ?_ ?_|intro hp));all_goals (first|(refine hQ _ ?_;clear hQ Q)|(refine hQ _ (fun h=>?_) (fun h=>?_) <;> clear hQ Q <;> (try simp only [vki,reduceCtorEq] at h))|(refine kx ?_;kernel_rfl)|omega|assumption|with_reducible rfl|skip)))
  simp only [QhG.eq_1]
  refine ⟨trivial, ?_⟩
  (simp only [vrt,Try.results125,vkt,seval,Ya,Qbv,qf,qh,Qv];refine Fin.ok some [] ?_ ?_ ?_ ?_ ?_ rfl;all_goals (try simp only [vle,vkt,seval,Ya,Qbv,qf,qh,Qv]))
  all_goals first|rfl|(simp;done)
def ZV (S:St):List AV→Option Pk
  |[.ptr b 0,.ptr q 0]=>match S.h b,S.h q with
    |some (.cells [.row r]),some (.cells [.ptr c 0])=>match S.h c with
      |some (.cells [.sl cs,.v (.int .i64 s),.row r'])=>match S.h r,S.h r' with
        |some (.row _ _ xs),some (.row _ _ ys)=>some { pre:=cs=(cs.map qB).map qo∧ys=(xs.map dTk).map eTk++[ys.getLastD []]∧ys.getLastD []=eTk (dTk (ys.getLastD [])),hs:=[c,r,b,q,r'],ar:=[.ptr 2 0,.ptr 3 0],L0:=Qv (cs.map qB) s (xs.map dTk) (dTk (ys.getLastD [])),v:=.tup [],L1:=[qf (cs.map qB) s 1,qh (xs.map dTk),.cells [.row 1],.cells [.ptr 0 0],qh (xs.map dTk++[dTk (ys.getLastD [])])].map some }
        |_,_=>none
      |_=>none
    |_,_=>none
  |_=>none
theorem QjL {A:Frm→Prop}:Zr.OK A Try.prog (dfE 125 ZV):=Qhd fun S bs q h hp=>by
  unfold ZV at h
  split at h
  · split at h
    · split at h
      · split at h
        · cases h
          exact QgV _ _ _ _
        · cases h
      · cases h
    · cases h
  · cases h
end Go.Sym.B
namespace Go.Sym.B
open Go Go.Sym Go.Proofs Go.Sym.C
def ww (cs:List Cabin) (a:Ask):Nat→List Tk→List Bunk→List (List Bunk × List Tk)
  |0,sold,begun=>[(begun,sold)]
  |m+1,sold,begun=>(qV cs).flatMap fun b=>if goB cs a sold begun b then ww cs a m (sold++[kD a begun.length b]) (begun++[b]) else []
structure GrowOk (cs:List Cabin) (s:Int) (a:Ask) (m:Nat) (sold:List Tk) (begun:List Bunk) (ys:Nat→List AV) (hl:Nat→List AObj) (ans:Nat→Bool) (R:Nat):Prop where
  sz:begun.length+m=a.sexes.length
  sx:a.sexes.length≤10
  cab:CabsOk cs
  c100:cs.length≤100
  many:sold.length+m≤100
  mem:∀ b ∈ begun,0≤b.cab∧b.cab.toNat < cs.length
  rounds:Rounds ans R (ww cs a m sold begun).length
  ys:∀ j,j < (ww cs a m sold begun).length→ys j=[qc ((ww cs a m sold begun).getD j default).1]
  hl:∀ j,j < (ww cs a m sold begun).length→hl j=qm cs s ((ww cs a m sold begun).getD j default).2
def V3 (cs:List Cabin) (s:Int) (a:Ask) (m:Nat):Prop:=∀ (sold:List Tk) (begun:List Bunk) (ys:Nat→List AV) (hl:Nat→List AObj) (ans:Nat→Bool) (R:Nat),GrowOk cs s a m sold begun ys hl ans R →
  Fn (Bcc Try.prog (qg (qI 0 [qf cs s 1])) (qg (qI 0 (qm cs s sold))) ys (fun j=>nth (hl j)) ans R) Try.prog 115 [.ptr 0 0,qw a,qc begun,.cb] (qg (qI 0 (qm cs s sold))) (aB (Qz ans R)) (qg (zT 0 ((qm cs s sold).map some))) R
def KG (cs:List Cabin) (s:Int) (a:Ask) (m:Nat) (ys:Nat→List AV) (hl:Nat→List AObj) (ans:Nat→Bool) (R:Nat) (S:St):List AV→Option PkI
  |[.ptr c 0,.agg aa,.sl bs,.cb]=>match S.h c with
    |some (.cells [.sl cc,.v (.int .i64 s'),.row r])=>match S.h r with
      |some (.row _ _ xs)=>some { q:={ pre:=cc=cs.map qo∧s'=s∧aa=qj a∧bs=(bs.map zG).map qp∧xs=(xs.map dTk).map eTk∧GrowOk cs s a m (xs.map dTk) (bs.map zG) (fun j=>ys (S.j+j)) (fun j=>hl (S.j+j)) (fun j=>ans (S.j+j)) (min (ww cs a m (xs.map dTk) (bs.map zG)).length (R - S.j)),hs:=[c,r],ar:=[.ptr 0 0,.agg aa,.sl bs,.cb],L0:=qm cs s (xs.map dTk),v:=aB (Qz (fun j=>ans (S.j+j)) (min (ww cs a m (xs.map dTk) (bs.map zG)).length (R - S.j))),L1:=(qm cs s (xs.map dTk)).map some },dj:=min (ww cs a m (xs.map dTk) (bs.map zG)).length (R - S.j) }
      |_=>none
    |_=>none
  |_=>none
theorem eGrow {A:Frm→Prop} {cs:List Cabin} {s:Int} {a:Ask} {m:Nat} {ys:Nat→List AV} {hl:Nat→List AObj} {ans:Nat→Bool} {R:Nat} {h0:Nat→Option AObj} (ih:V3 cs s a m) (hA:∀ F,A F→Acb Try.prog (qg (qI 0 [qf cs s 1])) h0 ys (fun j=>nth (hl j)) ans R F) :
    qC A Try.prog 115 (fnI [qf cs s 1] R (KG cs s a m ys hl ans R)):=UA hA fun S bs q h hp=>by
  unfold KG at h
  split at h
  · split at h
    · split at h
      · cases h
        obtain ⟨_,_,h3,h4,_,h6⟩:=hp
        have:=ih _ _ _ _ _ _ h6
        rw [qc,← h4,qw,← h3] at this
        exact this
      · cases h
    · cases h
  · cases h
def g1L (cs:List Cabin) (s:Int) (a:Ask) (sold:List Tk) (begun:List Bunk):List AObj:=[qf cs s 1,qh sold,.cells [.ptr 0 0],.cells (qj a),.cells [.sl (begun.map qp)],.cells [.cb]]
theorem Qfi {cs:List Cabin} {s:Int} {a:Ask} {sold:List Tk} {begun:List Bunk}:∀ i o,qg (qI 0 (g1L cs s a sold begun)) i=some o→i < 6∧∀ id ∈ o.ids,id < 6:=by
  intro i o hi
  have h:=qL hi
  simp [qI,g1L] at h
  rcases h with ⟨rfl,rfl⟩|⟨rfl,rfl⟩|⟨rfl,rfl⟩|⟨rfl,rfl⟩|⟨rfl,rfl⟩|⟨rfl,rfl⟩ <;> simp [AObj.ids,AV.ids,AV.idsL,qf,qh,qj]
theorem QeM {cs:List Cabin} {s:Int} {r:List AObj}:∀ i o,qg (qI 0 [qf cs s 1]) i=some o→∃ o',qg (qI 0 (qf cs s 1 :: r)) i=some o':=fun i o hi=>by
  rw [jF] at hi
  cases i with
  |zero=>exact ⟨_,rfl⟩
  |succ i=>simp at hi
def UT (cs:List Cabin) (s:Int) (a:Ask) (m:Nat):Prop:=∀ (sold:List Tk) (begun:List Bunk) (ys:Nat→List AV) (hl:Nat→List AObj) (ans:Nat→Bool) (R:Nat),GrowOk cs s a m sold begun ys hl ans R →
  Fn (Bcc Try.prog (qg (qI 0 [qf cs s 1])) (qg (qI 0 (g1L cs s a sold begun))) ys (fun j=>nth (hl j)) ans R) Try.prog 136 [.ptr 2 0,.ptr 3 0,.ptr 4 0,.ptr 5 0] (qg (qI 0 (g1L cs s a sold begun))) (aB (Qz ans R)) (qg (zT 0 ((g1L cs s a sold begun).map some))) R
def JW:=kk @kX (kk @JI (kk @kZ (kk @Qb (kk @Qja (kk @xB.eq_1 (kk @Wi.eq_1 (kk @xQ.eq_1 (kk @xE.eq_1 @QaR.eq_1))))))))
def Qco:=kk @aI.eq_1 (@aB.eq_1)
theorem Qgp {cs:List Cabin} {s:Int} {a:Ask} {m:Nat} (ih:V3 cs s a m):UT cs s a m:=by
  intro sold begun ys hl ans R ok
  obtain ⟨A0,hA0⟩:∃ A0:Frm→Prop,A0=Acb Try.prog (qg (qI 0 [qf cs s 1])) (qg (qI 0 (g1L cs s a sold begun))) ys (fun j=>nth (hl j)) ans R:=⟨_,rfl⟩
  have hA:∀ F,A0 F→Acb Try.prog (qg (qI 0 [qf cs s 1])) (qg (qI 0 (g1L cs s a sold begun))) ys (fun j=>nth (hl j)) ans R F:=fun F h=>hA0 ▸ h
  have env:Env A0 Try.prog tyB (tab [(115,fnI [qf cs s 1] R (KG cs s a m ys hl ans R))]):=qM ⟨eGrow ih hA,trivial⟩
  refine Fn.of (A:=A0) (n0:=6) (D:=noD) (Fn0 Try.func136 rfl (fun vs w=>by kernel_rfl) (by kernel_rfl)) (by simp) (by simp [AV.ids]) Qfi (fun F hb h0 _=>hA0 ▸ ⟨h0,QeM,hb⟩) qH ?_
  have hle:=ok.rounds.le
  have eR:min (ww cs a m sold begun).length R=R:=by omega
  have ea1:a.sexes=a.sexes:=rfl
  show Sym _ _ _ (zq [.ptr 2 0,.ptr 3 0,.ptr 4 0,.ptr 5 0] 6 (qg [(0,qf cs s 1),(1,qh sold),(2,.cells [.ptr 0 0]),(3,.cells (qj a)),(4,.cells [.sl (begun.map qp)]),(5,.cells [.cb])])) (yB tyB noD Try.f136 fun S rv=>Fin S rv _ 6 (qg [(0,qf cs s 1),(1,qh sold),(2,.cells [.ptr 0 0]),(3,.cells (qj a)),(4,.cells [.sl (begun.map qp)]),(5,.cells [.cb])]) R)
  repeat' (first|(apply nx;with_reducible constructor)|refine jq (by decide) ?_|((first|refine kz env fun Q hQ=>?_|refine kj fun Q hQ=>?_);simp only [vkt,seval,JW,Qco,aTk,cTk,qw,qj,qc,ze,mTk,qd,qf,qh,qm,g1L,KG,List.length_map,Go.Sym.tabC,cbX,fnI,zS,qR,nth,hwL,Nat.zero_add,Nat.sub_zero,eR,ok];(try simp only [ite_and]);(repeat' (first|with_reducible assumption|refine And.intro ?_ ?_|intro hp));all_goals (first|(refine hQ _ ?_;clear hQ Q)|(refine hQ _ (fun h=>?_) (fun h=>?_) <;> clear hQ Q <;> (try simp only [vki,reduceCtorEq] at h))|(refine kx ?_;kernel_rfl)|omega|assumption|with_reducible rfl|skip)))
  (simp only [vrt,Try.results136,vkt,seval,JW,Qco,aTk,cTk,qw,qj,qc,ze,mTk,qd,qf,qh,qm,g1L,KG,List.length_map,Go.Sym.tabC,cbX,fnI,zS,qR,nth,hwL,Nat.zero_add,Nat.sub_zero];refine Fin.ok some [] ?_ ?_ ?_ ?_ ?_ rfl;all_goals (try simp only [vle,vkt,seval,JW,Qco,aTk,cTk,qw,qj,qc,ze,mTk,qd,qf,qh,qm,g1L,KG,List.length_map,Go.Sym.tabC,cbX,fnI,zS,qR,nth,hwL,Nat.zero_add,Nat.sub_zero]))
  all_goals first|rfl|(simp;done)|exact fun i hi=>(match i,hi with|0,_=>rfl|1,_=>rfl)
def We (cs:List Cabin) (s:Int) (a:Ask) (m:Nat) (ys:Nat→List AV) (hl:Nat→List AObj) (ans:Nat→Bool) (R:Nat) (S:St):List AV→Option PkI
  |[.ptr p2 0,.ptr p3 0,.ptr p4 0,.ptr p5 0]=>match S.h p2,S.h p3,S.h p4,S.h p5 with
    |some (.cells [.ptr c 0]),some (.cells aa),some (.cells [.sl bs]),some (.cells [.cb])=>match S.h c with
      |some (.cells [.sl cc,.v (.int .i64 s'),.row r])=>match S.h r with
        |some (.row _ _ xs)=>some { q:={ pre:=cc=cs.map qo∧s'=s∧aa=qj a∧bs=(bs.map zG).map qp∧xs=(xs.map dTk).map eTk∧GrowOk cs s a m (xs.map dTk) (bs.map zG) (fun j=>ys (S.j+j)) (fun j=>hl (S.j+j)) (fun j=>ans (S.j+j)) (min (ww cs a m (xs.map dTk) (bs.map zG)).length (R - S.j)),hs:=[c,r,p2,p3,p4,p5],ar:=[.ptr 2 0,.ptr 3 0,.ptr 4 0,.ptr 5 0],L0:=g1L cs s a (xs.map dTk) (bs.map zG),v:=aB (Qz (fun j=>ans (S.j+j)) (min (ww cs a m (xs.map dTk) (bs.map zG)).length (R - S.j))),L1:=(g1L cs s a (xs.map dTk) (bs.map zG)).map some },dj:=min (ww cs a m (xs.map dTk) (bs.map zG)).length (R - S.j) }
        |_=>none
      |_=>none
    |_,_,_,_=>none
  |_=>none
theorem QjT {A:Frm→Prop} {cs:List Cabin} {s:Int} {a:Ask} {m:Nat} {ys:Nat→List AV} {hl:Nat→List AObj} {ans:Nat→Bool} {R:Nat} {h0:Nat→Option AObj} (ih:UT cs s a m) (hA:∀ F,A F→Acb Try.prog (qg (qI 0 [qf cs s 1])) h0 ys (fun j=>nth (hl j)) ans R F) :
    qC A Try.prog 136 (fnI [qf cs s 1] R (We cs s a m ys hl ans R)):=UA hA fun S bs q h hp=>by
  unfold We at h
  split at h
  · split at h
    · split at h
      · split at h
        · cases h
          obtain ⟨_,_,_,_,_,h6⟩:=hp
          exact ih _ _ _ _ _ _ h6
        · cases h
      · cases h
    · cases h
  · cases h
def Qb8 (cs:List Cabin) (s:Int) (a:Ask) (m:Nat):Prop:=∀ (sold:List Tk) (t:Tk) (begun:List Bunk) (ys:Nat→List AV) (hl:Nat→List AObj) (ans:Nat→Bool) (R:Nat),GrowOk cs s a m (sold++[t]) begun ys hl ans R →
  Fn (Bcc Try.prog (qg (qI 0 [qf cs s 1])) (qg (qI 0 (g1L cs s a sold begun))) ys (fun j=>nth (hl j)) ans R) Try.prog 135 [.ptr 0 0,aTk t,.clo 136 [.ptr 2 0,.ptr 3 0,.ptr 4 0,.ptr 5 0]] (qg (qI 0 (g1L cs s a sold begun))) (aB (Qz ans R)) (qg (zT 0 ((g1L cs s a sold begun).map some))) R
def QW:=kk @xy @vW.eq_1
def Vr:=kk @aI.eq_1 (@aB.eq_1)
theorem Qi3 {cs:List Cabin} {s:Int} {a:Ask} {m:Nat} (ih:UT cs s a m):Qb8 cs s a m:=by
  intro sold t begun ys hl ans R ok
  obtain ⟨A0,hA0⟩:∃ A0:Frm→Prop,A0=fun F=>F.r=none∧Acb Try.prog (qg (qI 0 [qf cs s 1])) (qg (qI 0 (g1L cs s a sold begun))) ys (fun j=>nth (hl j)) ans R F:=⟨_,rfl⟩
  have hr:∀ F,A0 F→F.r=none:=fun F h=>by rw [hA0] at h;exact h.1
  have hA:∀ F,A0 F→Acb Try.prog (qg (qI 0 [qf cs s 1])) (qg (qI 0 (g1L cs s a sold begun))) ys (fun j=>nth (hl j)) ans R F:=fun F h=>by rw [hA0] at h;exact h.2
  have env:Env A0 Try.prog tyB (tab [(96,fnE YL),(136,fnI [qf cs s 1] R (We cs s a m ys hl ans R))]):=qM ⟨eSell,QjT ih hA,trivial⟩
  refine Fn.of (A:=A0) (n0:=6) (D:=dfE 125 ZV) (Fn0 Try.func135 rfl (fun vs w=>by kernel_rfl) (by kernel_rfl)) (by simp) (by simp [AV.ids,AV.idsL,aTk,cTk]) Qfi (fun F hb h0 h1=>by rw [hA0];exact ⟨h1,h0,QeM,hb⟩) QjL ?_
  have hle:=ok.rounds.le
  have eR:min (ww cs a m (sold++[t]) begun).length R=R:=by omega
  have hs1:=ok.many
  have hs2:sold.length≤100:=by rw [List.length_append] at hs1;omega
  have et:(⟨t.party,t.sex,t.cab,t.bed,t.frm,t.to,t.dog⟩:Tk)=t:=rfl
  have hgl:(List.map eTk sold++[eTk t]).getLastD []=eTk t:=by simp
  have hma:List.map eTk (sold++[t])=List.map eTk sold++[eTk t]:=by simp
  show Sym _ _ _ (zq [.ptr 0 0,aTk t,.clo 136 [.ptr 2 0,.ptr 3 0,.ptr 4 0,.ptr 5 0]] 6 (qg [(0,qf cs s 1),(1,qh sold),(2,.cells [.ptr 0 0]),(3,.cells (qj a)),(4,.cells [.sl (begun.map qp)]),(5,.cells [.cb])])) (yB tyB _ Try.f135 fun S rv=>Fin S rv _ 6 (qg [(0,qf cs s 1),(1,qh sold),(2,.cells [.ptr 0 0]),(3,.cells (qj a)),(4,.cells [.sl (begun.map qp)]),(5,.cells [.cb])]) R)
  repeat' (first|(apply nx;with_reducible constructor)|refine jq (by decide) ?_)
  (refine kz env fun Q hQ=>?_;simp only [vkt,seval,QW,Vr,aTk,cTk,qj,ze,mTk,qd,qf,qh,qm,Qv,g1L,YL,We,ZV,dfE,List.length_map,fnI,zS,qR,nth,hwL,Nat.zero_add,Nat.sub_zero];(try simp only [ite_and]);(repeat' (first|with_reducible assumption|refine And.intro ?_ ?_|intro hp));all_goals (first|(refine hQ _ ?_;clear hQ Q)|(refine kx ?_;kernel_rfl)|omega|assumption|with_reducible rfl|skip))
  repeat' (first|(apply nx;with_reducible constructor)|refine jq (by decide) ?_)
  refine QaB hr env rfl rfl rfl fun Q hQ=>?_
  simp only [List.dropLast]
  simp only [vkt,seval,QW,Vr,aTk,cTk,qj,ze,mTk,qd,qf,qh,qm,Qv,g1L,YL,We,ZV,dfE,List.length_map,fnI,zS,qR,nth,hwL,Nat.zero_add,Nat.sub_zero,et,hs2]
  repeat' (first|with_reducible assumption|refine And.intro ?_ ?_|intro hp)
  all_goals first|(refine hQ _ _ _ (by simp only [vkt,seval,QW,Vr,aTk,cTk,qj,ze,mTk,qd,qf,qh,qm,Qv,g1L,YL,We,ZV,dfE,List.length_map,fnI,zS,qR,nth,hwL,Nat.zero_add,Nat.sub_zero];rfl) ?_;clear hQ Q)|skip
  dsimp only [put]
  repeat' (first|(apply nx;with_reducible constructor)|refine jq (by decide) ?_|((first|refine kz env fun Q hQ=>?_|refine kj fun Q hQ=>?_);simp only [vkt,seval,QW,Vr,aTk,cTk,qj,ze,mTk,qd,qf,qh,qm,Qv,g1L,YL,We,ZV,dfE,List.length_map,fnI,zS,qR,nth,hwL,Nat.zero_add,Nat.sub_zero,eR,ok,List.append_nil];(try simp only [ite_and]);(repeat' (first|with_reducible assumption|refine And.intro ?_ ?_|intro hp));all_goals (first|(refine hQ _ ?_;clear hQ Q)|(refine hQ _ (fun h=>?_) (fun h=>?_) <;> clear hQ Q <;> (try simp only [vki,reduceCtorEq] at h))|(refine kx ?_;kernel_rfl)|omega|assumption|with_reducible rfl|skip)))
  simp only [vrt,Try.results135,kL.eq_3,vkt,seval,QW,Vr,aTk,cTk,qj,ze,mTk,qd,qf,qh,qm,Qv,g1L,YL,We,ZV,dfE,List.length_map,fnI,zS,qR,nth,hwL,Nat.zero_add,Nat.sub_zero,hgl,hma,Qjd]
  refine Fin.ok some [] ?_ ?_ ?_ ?_ ?_ rfl
  all_goals (try simp only [vle,vkt,seval,QW,Vr,aTk,cTk,qj,ze,mTk,qd,qf,qh,qm,Qv,g1L,YL,We,ZV,dfE,List.length_map,fnI,zS,qR,nth,hwL,Nat.zero_add,Nat.sub_zero])
  all_goals first|rfl|(simp;done)
end Go.Sym.B
namespace Go.Sym.B
open Go Go.Sym Go.Proofs Go.Sym.C
def vB (cs:List Cabin) (s:Int) (a:Ask) (m:Nat) (ys:Nat→List AV) (hl:Nat→List AObj) (ans:Nat→Bool) (R:Nat) (S:St):List AV→Option PkI
  |[.ptr c 0,.agg [.v (.int .i64 t0),.v (.int .i64 t1),.v (.int .i64 t2),.v (.int .i64 t3),.v (.int .i64 t4),.v (.int .i64 t5),.v (.bool t6)],.clo f [.ptr p2 0,.ptr p3 0,.ptr p4 0,.ptr p5 0]]=>match S.h p2,S.h p3,S.h p4,S.h p5 with
    |some (.cells [.ptr c' 0]),some (.cells aa),some (.cells [.sl bs]),some (.cells [.cb])=>match S.h c with
      |some (.cells [.sl cc,.v (.int .i64 s'),.row r])=>match S.h r with
        |some (.row _ _ xs)=>some { q:={ pre:=f=136∧c'=c∧cc=cs.map qo∧s'=s∧aa=qj a∧bs=(bs.map zG).map qp∧xs=(xs.map dTk).map eTk∧GrowOk cs s a m (xs.map dTk++[⟨t0,t1,t2,t3,t4,t5,t6⟩]) (bs.map zG) (fun j=>ys (S.j+j)) (fun j=>hl (S.j+j)) (fun j=>ans (S.j+j)) (min (ww cs a m (xs.map dTk++[⟨t0,t1,t2,t3,t4,t5,t6⟩]) (bs.map zG)).length (R - S.j)),hs:=[c,r,p2,p3,p4,p5],ar:=[.ptr 0 0,.agg [.v (.int .i64 t0),.v (.int .i64 t1),.v (.int .i64 t2),.v (.int .i64 t3),.v (.int .i64 t4),.v (.int .i64 t5),.v (.bool t6)],.clo 136 [.ptr 2 0,.ptr 3 0,.ptr 4 0,.ptr 5 0]],L0:=g1L cs s a (xs.map dTk) (bs.map zG),v:=aB (Qz (fun j=>ans (S.j+j)) (min (ww cs a m (xs.map dTk++[⟨t0,t1,t2,t3,t4,t5,t6⟩]) (bs.map zG)).length (R - S.j))),L1:=(g1L cs s a (xs.map dTk) (bs.map zG)).map some },dj:=min (ww cs a m (xs.map dTk++[⟨t0,t1,t2,t3,t4,t5,t6⟩]) (bs.map zG)).length (R - S.j) }
        |_=>none
      |_=>none
    |_,_,_,_=>none
  |_=>none
theorem eWith {A:Frm→Prop} {cs:List Cabin} {s:Int} {a:Ask} {m:Nat} {ys:Nat→List AV} {hl:Nat→List AObj} {ans:Nat→Bool} {R:Nat} {h0:Nat→Option AObj} (ih:Qb8 cs s a m) (hA:∀ F,A F→Acb Try.prog (qg (qI 0 [qf cs s 1])) h0 ys (fun j=>nth (hl j)) ans R F) :
    qC A Try.prog 135 (fnI [qf cs s 1] R (vB cs s a m ys hl ans R)):=UA hA fun S bs q h hp=>by
  unfold vB at h
  split at h
  · split at h
    · split at h
      · split at h
        · cases h
          obtain ⟨_,_,_,_,_,_,_,h6⟩:=hp
          exact ih _ _ _ _ _ _ _ h6
        · cases h
      · cases h
    · cases h
  · cases h
theorem QdI {cs:List Cabin} {s:Int} {l:List Tk}:∀ i o,qg (qI 0 [qf cs s 1]) i=some o→([0,1]:List Nat)[i]?=some i:=fun i o hi=>by
  rw [jF] at hi
  cases i with
  |zero=>rfl
  |succ i=>simp at hi
def zH:=kk @ty3 (kk @ty4 (kk @Qf (kk @vg (kk @kX (kk @JI (kk @kZ (kk @xy (kk @Qb (kk @JO (kk @Qja (kk @ti3.eq_1 (kk @ti4.eq_1 (kk @kC.eq_1 (kk @yI.eq_1 (kk @xB.eq_1 (kk @Wi.eq_1 (kk @xQ.eq_1 (kk @vW.eq_1 (kk @xE.eq_1 (kk @ZL.eq_1 @QaR.eq_1))))))))))))))))))))
def Qbl:=kk @aI.eq_1 (@aB.eq_1)
end Go.Sym.B
