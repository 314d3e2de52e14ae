/- A call of a function value, one step of a walk; no conditions. -/
import Derived.Test.YtcjddikalgnhpaaWd
namespace Go.Proofs.Ytcjddikalgnhpaa.Own
open Go.RowKit Go.Proofs.YtcjddikalgnhpaaW.PrintWords Go.Proofs.YtcjddikalgnhpaaW.PrintLast Go.Proofs.YtcjddikalgnhpaaW.PrintMore

/-- The function that a value leads to is one of the program's own. -/
def Has (P : Program) (F : FuncId) : Prop := ∃ fn, P.funcs[F]? = some fn ∧ (fn.name == "runtime.NumGoroutine") = false ∧ fn.body.isSome = true

section
variable {P : Program} {ops : Array Oper} {Q : Exit → Act → World → Prop}

/-- A call of a function value in a plain region, as an arm of go_wp2_with. -/
theorem goesC_ {rest : List Oper} {oi : Oper} {a : Act} {w : World} (N : Option Tmp) (hd : oi.dst = N) (hg : oi.guard = none) {t : Operand} {F : FuncId} {fi cp : Array Value} {as : Array Operand} {ts : Array TypeId} (hF : Has P F) (args : Array Value)
    (hop : oi.op = .call { callee := .value t, args := as, argTypes := ts }) (hv : a.eval t = .func (.func F) fi cp) (hargs : as.map a.eval = args)
    (h : Calls P F (fi ++ args ++ cp) w fun e w' => ∃ v, e = .returned v ∧ wpList P ops Q rest (a.put N v) w') : wpList P ops Q (oi :: rest) a w := by
  obtain ⟨fn, hf, hname, hb⟩ := hF
  refine wpList_plain hg fun K hK => ?_
  have he := enters_ hf hname hb (fi ++ args ++ cp) w
  have hrun : (execOp a.eval oi).run P w = .ok (.enter F (fi ++ args ++ cp)) w := by
    unfold execOp
    simp only [hop, resolve, hv, Deferred.ofValue, hargs]
    simpa [invoke, Array.append_assoc] using he
  unfold Oper.wp
  rw [hrun, Oper.upon_enter]
  refine h.mono fun e w'' hh => ?_
  obtain ⟨v, rfl, hk⟩ := hh
  subst hd
  exact hK _ _ hk
end

end Go.Proofs.Ytcjddikalgnhpaa.Own
