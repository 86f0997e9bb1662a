/- Small words beside the printed ones: a call through a function value that stands in a slot. -/
import Derived.Test.YtmpccnagidednaaWWords
import Derived.Test.YtmpccnagidednaaWLast
import Derived.Test.YtmpccnagidednaaWMore
namespace Go.Proofs.YtmpccnagidednaaW.PrintMore
open Go.RowKit Go.Proofs.YtmpccnagidednaaW.PrintWords Go.Proofs.YtmpccnagidednaaW.PrintLast
section
variable {P : Program} {ops : Array Oper} {rest : List Oper} {o : Oper} {a : Act} {Q : Exit → Act → World → Prop} {W : World}
/-- The operation is a call through the function value in slot t (a cheap look ahead of a dear step). -/
theorem gate_value {t : Tmp} {as : Array Operand} {ts : Array TypeId} (_ho : o.op = .call { callee := .value (.tmp t), args := as, argTypes := ts }) (h : wpList P ops Q (o :: rest) a W) : wpList P ops Q (o :: rest) a W := h
/-- A call through a function value in a plain region; what it captured goes behind the arguments. -/
theorem goesV_ {t : Tmp} {f : FuncId} {lb : Array Value} {oi : Oper} (hv : a.eval (.tmp t) = .func (.func f) #[] lb) (N : Option Tmp) (hd : oi.dst = N) (hg : oi.guard = none) {fn : Func} {as : Array Operand} {ts : Array TypeId} (hf : P.funcs[f]? = some fn) (hname : (fn.name == "runtime.NumGoroutine") = false) (hb : fn.body.isSome = true) (args : Array Value)
    (hop : oi.op = .call { callee := .value (.tmp t), args := as, argTypes := ts }) (hargs : as.map a.eval ++ lb = args)
    (h : Calls P f args W fun e w' => ∃ v, e = .returned v ∧ wpList P ops Q rest (a.put N v) w') : wpList P ops Q (oi :: rest) a W := by
  refine wpList_plain hg fun K hK => ?_
  have he := enters_ hf hname hb args W
  have hrun : (execOp a.eval oi).run P W = .ok (.enter f args) W := by
    unfold execOp
    simp [hop, resolve, hv, Deferred.ofValue, invoke, hargs, he]
  unfold Oper.wp
  rw [hrun, Oper.upon_enter]
  refine h.mono fun e w'' hh => ?_
  obtain ⟨v, rfl, hk⟩ := hh
  subst hd
  exact hK _ _ hk
end
end Go.Proofs.YtmpccnagidednaaW.PrintMore
