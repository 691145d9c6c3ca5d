import Derived.Test.YtckngipgcnhfpaaProg
import Derived.Test.YtckngipgcnhfpaaAv
import Derived.KernelRfl
/-! What the rules ask of this program's types: written by a program out of the translation's table, asked of the kernel. -/
namespace Go.Av
open Go Go.Proofs
instance : TSz Try.prog 2 1 := .of (by kernel_rfl)
instance : TOne Try.prog 2 := .of (by kernel_rfl)
instance : TZero Try.prog 2 [.v (.int .i64 0)] := TZero.of' (zs := [.int .i64 0]) (by kernel_rfl) rfl
instance : TInt Try.prog 2 .i64 := .of (by kernel_rfl)
instance : TSz Try.prog 3 1 := .of (by kernel_rfl)
instance : TOne Try.prog 3 := .of (by kernel_rfl)
instance : TZero Try.prog 3 [.v (.int .i64 0)] := TZero.of' (zs := [.int .i64 0]) (by kernel_rfl) rfl
instance : TInt Try.prog 3 .i64 := .of (by kernel_rfl)
instance : TSz Try.prog 4 1 := .of (by kernel_rfl)
instance : TOne Try.prog 4 := .of (by kernel_rfl)
instance : TZero Try.prog 4 [.v (.bool false)] := TZero.of' (zs := [.bool false]) (by kernel_rfl) rfl
instance : TBool Try.prog 4 := .of (by kernel_rfl)
instance : TSz Try.prog 5 1 := .of (by kernel_rfl)
instance : TOne Try.prog 5 := .of (by kernel_rfl)
instance : TZero Try.prog 5 [.v (.int .u8 0)] := TZero.of' (zs := [.int .u8 0]) (by kernel_rfl) rfl
instance : TInt Try.prog 5 .u8 := .of (by kernel_rfl)
instance : TSz Try.prog 9 1 := .of (by kernel_rfl)
instance : TOne Try.prog 9 := .of (by kernel_rfl)
instance : TZero Try.prog 9 [.v (.string ⟨#[]⟩)] := TZero.of' (zs := [.string ⟨#[]⟩]) (by kernel_rfl) rfl
instance : TStr Try.prog 9 := .of (by kernel_rfl)
instance : TSz Try.prog 12 1 := .of (by kernel_rfl)
instance : TOne Try.prog 12 := .of (by kernel_rfl)
instance : TZero Try.prog 12 [.v (.int .u64 0)] := TZero.of' (zs := [.int .u64 0]) (by kernel_rfl) rfl
instance : TInt Try.prog 12 .u64 := .of (by kernel_rfl)
instance : TSz Try.prog 21 1 := .of (by kernel_rfl)
instance : TOne Try.prog 21 := .of (by kernel_rfl)
instance : TZero Try.prog 21 [.v (.int .i32 0)] := TZero.of' (zs := [.int .i32 0]) (by kernel_rfl) rfl
instance : TInt Try.prog 21 .i32 := .of (by kernel_rfl)
instance : TSz Try.prog 22 1 := .of (by kernel_rfl)
instance : TOne Try.prog 22 := .of (by kernel_rfl)
instance : TZero Try.prog 22 [.v (.slice none 0 0)] := TZero.of' (zs := [.slice none 0 0]) (by kernel_rfl) rfl
instance : TSl Try.prog 22 57 1 := .of (by kernel_rfl)
instance : TAp Try.prog 22 57 1 4 := TAp.of (zs := [.int .u32 0]) (by kernel_rfl) rfl (by decide) (by decide)
instance : TBs Try.prog 22 57 1 := TBs.of (zs := [.int .u32 0]) (bytes := 4) (by kernel_rfl) rfl (by decide)
instance : TMk Try.prog 22 57 .u32 4 := TMk.of (by kernel_rfl) (by decide)
instance : TSz Try.prog 23 2 := .of (by kernel_rfl)
instance : TAgg Try.prog 23 2 := .of (by kernel_rfl)
instance : TZero Try.prog 23 [.v (.bool false), .v (.slice none 0 0)] := TZero.of' (zs := [.bool false, .slice none 0 0]) (by kernel_rfl) rfl
instance : TFld Try.prog 23 0 0 := .of (by kernel_rfl)
instance : TFld Try.prog 23 1 1 := .of (by kernel_rfl)
instance : TPl Try.prog 23 [.v (.bool false), .v (.slice none 0 0)] [(0, 1), (1, 1)] := TPl.of (zs := [.bool false, .slice none 0 0]) (by kernel_rfl) rfl
instance : TSz Try.prog 24 2 := .of (by kernel_rfl)
instance : TAgg Try.prog 24 2 := .of (by kernel_rfl)
instance : TZero Try.prog 24 [.v (.bool false), .v (.slice none 0 0)] := TZero.of' (zs := [.bool false, .slice none 0 0]) (by kernel_rfl) rfl
instance : TFld Try.prog 24 0 0 := .of (by kernel_rfl)
instance : TFld Try.prog 24 1 1 := .of (by kernel_rfl)
instance : TPl Try.prog 24 [.v (.bool false), .v (.slice none 0 0)] [(0, 1), (1, 1)] := TPl.of (zs := [.bool false, .slice none 0 0]) (by kernel_rfl) rfl
instance : TSz Try.prog 25 1 := .of (by kernel_rfl)
instance : TOne Try.prog 25 := .of (by kernel_rfl)
instance : TZero Try.prog 25 [.v (.int .i64 0)] := TZero.of' (zs := [.int .i64 0]) (by kernel_rfl) rfl
instance : TInt Try.prog 25 .i64 := .of (by kernel_rfl)
instance : TSz Try.prog 42 1 := .of (by kernel_rfl)
instance : TOne Try.prog 42 := .of (by kernel_rfl)
instance : TZero Try.prog 42 [.v (.slice none 0 0)] := TZero.of' (zs := [.slice none 0 0]) (by kernel_rfl) rfl
instance : TSl Try.prog 42 3 1 := .of (by kernel_rfl)
instance : TAp Try.prog 42 3 1 8 := TAp.of (zs := [.int .i64 0]) (by kernel_rfl) rfl (by decide) (by decide)
instance : TBs Try.prog 42 3 1 := TBs.of (zs := [.int .i64 0]) (bytes := 8) (by kernel_rfl) rfl (by decide)
instance : TMk Try.prog 42 3 .i64 8 := TMk.of (by kernel_rfl) (by decide)
instance : TSz Try.prog 52 1 := .of (by kernel_rfl)
instance : TOne Try.prog 52 := .of (by kernel_rfl)
instance : TZero Try.prog 52 [.v (.int .u16 0)] := TZero.of' (zs := [.int .u16 0]) (by kernel_rfl) rfl
instance : TInt Try.prog 52 .u16 := .of (by kernel_rfl)
instance : TSz Try.prog 57 1 := .of (by kernel_rfl)
instance : TOne Try.prog 57 := .of (by kernel_rfl)
instance : TZero Try.prog 57 [.v (.int .u32 0)] := TZero.of' (zs := [.int .u32 0]) (by kernel_rfl) rfl
instance : TInt Try.prog 57 .u32 := .of (by kernel_rfl)
instance : TSz Try.prog 65 1 := .of (by kernel_rfl)
instance : TOne Try.prog 65 := .of (by kernel_rfl)
instance : TZero Try.prog 65 [.v (.int .u64 0)] := TZero.of' (zs := [.int .u64 0]) (by kernel_rfl) rfl
instance : TInt Try.prog 65 .u64 := .of (by kernel_rfl)
instance : TSz Try.prog 66 1 := .of (by kernel_rfl)
instance : TOne Try.prog 66 := .of (by kernel_rfl)
instance : TZero Try.prog 66 [.v (.slice none 0 0)] := TZero.of' (zs := [.slice none 0 0]) (by kernel_rfl) rfl
instance : TSl Try.prog 66 5 1 := .of (by kernel_rfl)
instance : TAp Try.prog 66 5 1 1 := TAp.of (zs := [.int .u8 0]) (by kernel_rfl) rfl (by decide) (by decide)
instance : TBs Try.prog 66 5 1 := TBs.of (zs := [.int .u8 0]) (bytes := 1) (by kernel_rfl) rfl (by decide)
instance : TMk Try.prog 66 5 .u8 1 := TMk.of (by kernel_rfl) (by decide)
instance : TSz Try.prog 72 1 := .of (by kernel_rfl)
instance : TOne Try.prog 72 := .of (by kernel_rfl)
instance : TZero Try.prog 72 [.v (.int .u64 0)] := TZero.of' (zs := [.int .u64 0]) (by kernel_rfl) rfl
instance : TInt Try.prog 72 .u64 := .of (by kernel_rfl)
instance : TSz Try.prog 73 2 := .of (by kernel_rfl)
instance : TAgg Try.prog 73 2 := .of (by kernel_rfl)
instance : TZero Try.prog 73 [.v (.int .u32 0), .v (.int .u32 0)] := TZero.of' (zs := [.int .u32 0, .int .u32 0]) (by kernel_rfl) rfl
instance : TArr Try.prog 73 2 := .of (by kernel_rfl)
instance : TPa Try.prog 73 [.v (.int .u32 0), .v (.int .u32 0)] 2 := TPa.of (zs := [.int .u32 0, .int .u32 0]) (by kernel_rfl) rfl
theorem mixed : Try.prog.follows .mixedOrders = true := by kernel_rfl
end Go.Av
