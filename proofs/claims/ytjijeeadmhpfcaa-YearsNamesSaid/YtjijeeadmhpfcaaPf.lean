/- Walks of package pair: Shift, Nearer, Power, Stands. -/
import Derived.Test.YtjijeeadmhpfcaaPe
set_option linter.unusedSimpArgs false
set_option linter.unusedVariables false
namespace Go.Proofs.Ytjijeeadmhpfcaa
open Go Go.Eng Go.Pw1

theorem Power_calls (p : Pr) (q : Option Addr) (b o cap : Nat) (W : World) (hS : Sl W q b o 9 (p.things.map Th.cells)) (hl : p.things.length ≤ 100000000000) :
    Calls Try.prog 74 #[p.v q cap] W (Pure (.tuple #[b2v (powerX p).1, .int .i64 (powerX p).2]) W) := by
  refine calls_start_defers Try.func74 rfl rfl ?_
  refine RunC.seq ?_
  refine RunC.region ?_
  refine RunL.new (New.box rfl) rfl rfl rfl (fun b1 => ?_)
  refine RunL.new (New.alloc zero_23) rfl rfl rfl (fun b2 => ?_)
  refine RunL.new (New.alloc zero_31) rfl rfl rfl (fun b3 => ?_)
  refine RunL.nil ?_
  refine RunE.next ?_
  refine RunC.seq ?_
  refine RunC.region ?_
  refine RunL.defer rfl ?_
  refine RunL.nil ?_
  refine RunE.next ?_
  refine RunC.seq ?_
  refine RunC.region ?_
  refine RunL.val (Val.load_agg rfl (.tail _ (.tail _ (.head _))) ty_26 rfl) rfl rfl rfl ?_
  refine RunL.callTN (isCall_func rfl ent_67) rfl rfl rfl (fun w hm => truths_calls p q b o cap [] _ 0 0 _ w (hS.mono (by decide) hm (by simp)) hl Sl.emp (by simp)) (fun e5 he5 => ?_) (fun a5 ha5 b5 => ?_)
  · refine RunE.pass_panic ?_
    exact RunE.panD catches ent_66 .here (.r2 rfl (.agg rfl (.tail _ (.head _)) ty_23 rfl) (.one rfl (.head _) ty_31 rfl)) (by simp [b2v, powerX, he5])
  refine RunL.val (Val.pure rfl) rfl rfl rfl ?_
  refine RunL.val (Val.fieldAddr rfl fld_100_1) rfl rfl rfl ?_
  refine RunL.val (Val.load_agg rfl (.head _) ty_98 rfl) rfl rfl rfl ?_
  refine RunL.callP (isCall_func rfl ent_72) rfl rfl rfl (fun w hm => spanOf_calls a5 w) ?_
  refine RunL.sto (Sto.store rfl rfl (.there (.there .here)) ty_23 rfl rfl) rfl rfl ?_
  refine RunL.sto (Sto.store rfl rfl (.there .here) ty_31 rfl rfl) rfl rfl ?_
  refine RunL.nil ?_
  refine RunE.next ?_
  refine RunC.ret ?_
  exact RunE.retD catches ent_66 (.r2 rfl (.agg rfl (.tail _ (.tail _ (.head _))) ty_23 rfl) (.one rfl (.tail _ (.head _)) ty_31 rfl)) (by simp [b2v, powerX, ha5])
end Go.Proofs.Ytjijeeadmhpfcaa
