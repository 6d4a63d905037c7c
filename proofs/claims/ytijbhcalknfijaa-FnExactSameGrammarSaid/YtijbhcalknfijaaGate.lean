/- Two looks ahead of a step: the next operation is a call of a given function, or of a builtin over given places; nothing is said besides. For texts that need no more of the print's words. No condition. -/
import Derived.Test.YtijbhcalknfijaaWWords
namespace Go.Proofs.YtijbhcalknfijaaW.PrintWords
theorem gate_callee {P : Program} {ops : Array Oper} {rest : List Oper} {o : Oper} {a : Act} {Q : Exit → Act → World → Prop} {W : World} {f : FuncId} {as : Array Operand} {ts : Array TypeId}
    (_ho : o.op = .call { callee := .value (.func f), args := as, argTypes := ts }) (next : wpList P ops Q (o :: rest) a W) : wpList P ops Q (o :: rest) a W := by exact next
theorem gate_builtin {P : Program} {ops : Array Oper} {rest : List Oper} {o : Oper} {a : Act} {Q : Exit → Act → World → Prop} {W : World} {b : Builtin} {xs : Array Operand} {ts : Array TypeId}
    (_ho : o.op = .call { callee := .builtin b, args := xs, argTypes := ts }) (next : wpList P ops Q (o :: rest) a W) : wpList P ops Q (o :: rest) a W := by exact next
end Go.Proofs.YtijbhcalknfijaaW.PrintWords
