/- Contracts behind a law: no conditions beyond those in each statement. -/
import Derived.Test.YtnkkkeohhgbhnaaJ3
import Derived.Laws.Concat
import Derived.Laws.Externs
set_option linter.unusedVariables false
set_option linter.unusedSimpArgs false
namespace Go.Av
open Go Go.RowKit
section
variable {P : Program} {N : Nat} {E : Env} {H : Hp} {Q : Exit → Env → Hp → Prop} {ops : Array Oper} {rest : List Oper}
theorem y_adds {x y : Operand} {t t' ty : TypeId} {a b : ByteArray} (hx : evT E x = some (.p (.v (.string a)))) (hy : evT E y = some (.p (.v (.string b)))) (h : a.size + b.size ≤ 9223372036854775807) : Yl P (.binOp .add t x y t') ty E H (.p (.v (.string (a ++ b)))) .no := by
  unfold Yl
  intro _ _ _ _ _ _ r
  refine ⟨.string (a ++ b), fun W _ _ _ _ _ => ?_, by simp [RelT, Rel]⟩
  simp only [execOp, ev_v r hx, ev_v r hy, eqGuard, Sem.run_bind, Sem.run_pure, Result.andThen_ok, binOp_string_add, Bool.not_false, if_true]
  rw [run_string_add_sum W a b h]
  rfl
/-- internal/bytealg.IndexByteString: the model stands in for it. -/
theorem y_ixb {x y : Operand} {f : FuncId} {fn : Func} {ts : Array TypeId} {ty : TypeId} {s : ByteArray} {c : Int} (hf : P.funcs[f]? = some fn) (hname : (fn.name == "runtime.NumGoroutine") = false) (hb : fn.body.isNone = true)
    (hn : Extern.findNext fn = none) (he : Extern.find fn = some Extern.BytealgIndexByte.indexByte) (hx : evT E x = some (.p (.v (.string s)))) (hy : evT E y = some (.p (.v (.int .u8 c)))) :
    Yl P (.call { callee := .value (.func f), args := #[x, y], argTypes := ts }) ty E H (.p (.v (.int .i64 (firstIdx s c.toNat.toUInt8)))) .no := by
  unfold Yl
  intro _ _ _ _ tmps _ r
  have hv : Act.eval ⟨tmps, []⟩ (.func f) = .func (.func f) #[] #[] := rfl
  refine ⟨.int .i64 (firstIdx s c.toNat.toUInt8), fun W _ _ _ _ _ => ?_, by simp [RelT, Rel]⟩
  have := run_callFunc_extern (P := P) hf hname hb hn he #[.string s, .int .u8 c] W
  rw [run_indexByte_string] at this
  simp [execOp, resolve, Deferred.ofValue, hv, ev_v r hx, ev_v r hy, invoke] at this ⊢
  simp [this]
end
end Go.Av
