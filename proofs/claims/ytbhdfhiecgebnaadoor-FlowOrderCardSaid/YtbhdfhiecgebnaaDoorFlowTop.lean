/- The table of the chapter's functions in the abstract machine is the program's: its example, too, run once by the kernel. -/
import Derived.Test.YtbhdfhiecgebnaaDoorTab
import Derived.Test.YtbhdfhiecgebnaaDoorAmE
namespace Go.Proofs.YtbhdfhiecgebnaaDoor
open Go.Am

set_option maxRecDepth 1000000 in
theorem ev0_alive : (aexK Tryd.prog (codeTab Tryd.prog) 400).call 18 [] (heapL Tryd.prog.globals.size [(0, tblV)]) (fun v _ => some v) = some (.bool true) := by kernel_rfl
theorem ev_alive : ((aex Tryd.prog (codeTab Tryd.prog) 400).call 18 [] (heapL Tryd.prog.globals.size [(0, tblV)])).map (·.1) = some (.bool true) := run_fast ev0_alive
set_option maxRecDepth 1000000 in
theorem alive_closed : ([(0, tblV)] : List (Nat × List Value)).all (fun x => Nat.ble (x.1 + 1) Tryd.prog.globals.size && closedL x.2) = true := by kernel_rfl

set_option maxRecDepth 1000000 in
theorem tb_ok : tb.Ok Tryd.prog where
  code := fun _ _ h => h
  stub := fun f s hs => by
    have hs : (if f = 18 then some (known [(0, tblV)] (.bool true)) else none) = some s := hs
    split at hs
    · rename_i e; subst e; cases hs
      exact known_sound Tryd.checked.mixed (codeTab_ok _) rfl (fun x hx => by
        have h1 := List.all_eq_true.1 alive_closed x hx
        rw [Bool.and_eq_true] at h1
        exact ⟨Nat.le_of_ble_eq_true h1.1, h1.2⟩) ev_alive
    · cases hs
  grow := fun f s hs args h v h' hk => by
    have hs : (if f = 18 then some (known [(0, tblV)] (.bool true)) else none) = some s := hs
    split at hs
    · cases hs; exact known_grow args h v h' hk
    · cases hs
end Go.Proofs.YtbhdfhiecgebnaaDoor
