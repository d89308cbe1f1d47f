/- The engine: calls that turn a block, and hand back some value of which only something is known. No program is in sight. -/
import Derived.Test.YthoheicppmbepaaMore3
namespace Go.Eng
open Go Go.RowKit

/-- It hands back one of some values; one block that lay there is another. -/
def TurnsX {β : Type} (b : Nat) (o : Obj) (v : β → Value) (I : β → Prop) (W : World) (e : Ending) (w : World) : Prop := ∃ x, I x ∧ e = .returned (v x) ∧ Mem W [(b, o)] [] w
section
variable {P : Program} {ops : Array Oper} {Q : Exit → Act → World → Prop} {n : Nat} {r : Regs} {ds : List Deferred} {W : World} {chg news : Blks} {rest : List Oper} {d : Nat}
theorem RunL.callX {β : Type} {o : Oper} {f : FuncId} {args : Array Value} {v : β → Value} {I : β → Prop} {b : Nat} {ob ob' : Obj} {news' : Blks} (hi : IsCall P r o f args) (hg : guardB ops r o.guard = some true) (hd : o.dst = some d) (hn : Nat.ble (d + 1) n = true)
    (hu : Upd news b ob ob' news') (hc : ∀ w, Mem W chg news w → Calls P f args w (TurnsX b ob' v I w)) (h : ∀ x, I x → RunL P ops Q n rest ((d, v x) :: r) ds W chg news') : RunL P ops Q n (o :: rest) r ds W chg news :=
  RunL.call hg hd (fun a w s => hi.runs a w s.agree) hc (fun a w e w' s hR => by
    obtain ⟨x, hx, rfl, hm⟩ := hR
    have s2 := s.put (Nat.le_of_ble_eq_true hn) (v x)
    exact h x hx _ _ ⟨s2.size, s2.agree, s2.defers, s.mem.turn_new hu hm⟩)
theorem RunL.callX_chg {β : Type} {o : Oper} {f : FuncId} {args : Array Value} {v : β → Value} {I : β → Prop} {b : Nat} {ob ob' : Obj} {chg' : Blks} (hi : IsCall P r o f args) (hg : guardB ops r o.guard = some true) (hd : o.dst = some d) (hn : Nat.ble (d + 1) n = true)
    (hu : Upd chg b ob ob' chg') (hc : ∀ w, Mem W chg news w → Calls P f args w (TurnsX b ob' v I w)) (h : ∀ x, I x → RunL P ops Q n rest ((d, v x) :: r) ds W chg' news) : RunL P ops Q n (o :: rest) r ds W chg news :=
  RunL.call hg hd (fun a w s => hi.runs a w s.agree) hc (fun a w e w' s hR => by
    obtain ⟨x, hx, rfl, hm⟩ := hR
    have s2 := s.put (Nat.le_of_ble_eq_true hn) (v x)
    exact h x hx _ _ ⟨s2.size, s2.agree, s2.defers, s.mem.turn_chg hu hm⟩)
variable {K : Act → World → Prop} {i : Nat}
theorem RunI.callX {β : Type} {o : Oper} {f : FuncId} {args : Array Value} {v : β → Value} {I : β → Prop} {b : Nat} {ob ob' : Obj} {news' : Blks} (ho : ops[i]? = some o) (hi : IsCall P r o f args) (hg : guardB ops r o.guard = some true) (hd : o.dst = some d) (hn : Nat.ble (d + 1) n = true)
    (hu : Upd news b ob ob' news') (hc : ∀ w, Mem W chg news w → Calls P f args w (TurnsX b ob' v I w)) (h : ∀ x, I x → RunK n K ((d, v x) :: r) ds W chg news') : RunI P ops Q n i K r ds W chg news :=
  RunI.call ho hi hg hc (fun a w e w' s hR => by
    obtain ⟨x, hx, rfl, hm⟩ := hR
    have s2 := s.put (Nat.le_of_ble_eq_true hn) (v x)
    simp only [hd]
    exact h x hx _ _ ⟨s2.size, s2.agree, s2.defers, s.mem.turn_new hu hm⟩)
theorem RunI.callX_chg {β : Type} {o : Oper} {f : FuncId} {args : Array Value} {v : β → Value} {I : β → Prop} {b : Nat} {ob ob' : Obj} {chg' : Blks} (ho : ops[i]? = some o) (hi : IsCall P r o f args) (hg : guardB ops r o.guard = some true) (hd : o.dst = some d) (hn : Nat.ble (d + 1) n = true)
    (hu : Upd chg b ob ob' chg') (hc : ∀ w, Mem W chg news w → Calls P f args w (TurnsX b ob' v I w)) (h : ∀ x, I x → RunK n K ((d, v x) :: r) ds W chg' news) : RunI P ops Q n i K r ds W chg news :=
  RunI.call ho hi hg hc (fun a w e w' s hR => by
    obtain ⟨x, hx, rfl, hm⟩ := hR
    have s2 := s.put (Nat.le_of_ble_eq_true hn) (v x)
    simp only [hd]
    exact h x hx _ _ ⟨s2.size, s2.agree, s2.defers, s.mem.turn_chg hu hm⟩)
theorem RunE.retX {β : Type} {fn : Func} {b : Nat} {o : Obj} {v : β → Value} {I : β → Prop} (x : β) (hx : I x) {u : Value} (hv : ResVs P r ([(b, o)] ++ news) fn u) (he : u = v x) : RunE (bodyPost P fn (TurnsX b o v I W)) n .ret r [] W [(b, o)] news :=
  RunE.ret (chg := [(b, o)]) hv (fun _ hm => ⟨x, hx, by rw [he], hm.drop⟩)
theorem RunC.drawX {X : Type} {id : Nat} {l : List Oper} {news0 : Blks} {q : Regs} (k : Nat) (n0 : Blks) (R : X → Regs → Regs) (C V T : X → Blks) (Inv : X → Prop) (hm : P.follows .mixedOrders = true) (hp : Pick news0 news) (_hs : Sub q r) (_hn : Pick n0 news)
    (h : RunA P l.toArray (SegQ Q (MeetP n ds W (fun x => R x q) C (fun x => V x ++ (n0 ++ T x)) Inv)) k (fun c => c = chg) news0 n l.toArray.size (Array.replicate l.toArray.size false) r ds W chg news)
    (h2 : ∀ x, Inv x → RunE Q n .normal (R x q) ds W (C x) (V x ++ (n0 ++ T x))) : RunC P Q n (.region id l.toArray true) r ds W chg news :=
  RunC.drawJ k hm hp h (fun a w hj => by
    obtain ⟨x, hi, sx⟩ := hj
    exact h2 x hi a w sx)
theorem RunE.joinX {X : Type} {R : X → Regs} {C Nw : X → Blks} {Inv : X → Prop} (x : X) (hi : Inv x) (hc : chg = C x) (hs : Sub (R x) r) (hn : Pick (Nw x) news) : RunE (SegQ Q (MeetP n ds W R C Nw Inv)) n .normal r ds W chg news := fun _ _ s =>
  ⟨x, hi, by subst hc; exact s.pick hs hn⟩
end
end Go.Eng
