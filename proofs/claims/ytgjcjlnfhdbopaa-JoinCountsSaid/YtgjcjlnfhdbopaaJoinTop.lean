/- The table of chapter 21's functions in the abstract machine is the program's: its example, too, run once by the kernel. -/
import Derived.Test.YtgjcjlnfhdbopaaJoinWalk
import Derived.Test.YtgjcjlnfhdbopaaAmD
namespace Go.Proofs.Ytgjcjlnfhdbopaa
open Go.Am

set_option maxRecDepth 1000000 in
theorem ev_alive : ((aex Try.prog (codeTab Try.prog) 300).call 22 [] (heapL Try.prog.globals.size [])).map (·.1) = some (.bool true) := by kernel_rfl

theorem tb_ok : tb.Ok Try.prog where
  code := fun _ _ h => h
  stub := fun f s hs => by
    have hs : (if f = 22 then some (known [] (.bool true)) else none) = some s := hs
    split at hs
    · rename_i e; subst e; cases hs
      exact known_sound Try.checked.mixed (codeTab_ok _) rfl (fun x hx => by cases hx) ev_alive
    · cases hs
  grow := fun f s hs args h v h' hk => by
    have hs : (if f = 22 then some (known [] (.bool true)) else none) = some s := hs
    split at hs
    · cases hs; exact known_grow args h v h' hk
    · cases hs
end Go.Proofs.Ytgjcjlnfhdbopaa
