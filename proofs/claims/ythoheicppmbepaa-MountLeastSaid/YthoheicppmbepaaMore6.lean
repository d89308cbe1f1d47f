/- The engine: a deferred function that calls another one besides recovering, where its caller ranges over a function; leaving such a caller. No program is in sight. -/
import Derived.Test.YthoheicppmbepaaMore5
import Derived.Test.YthoheicppmbepaaRange
namespace Go.Eng
open Go Go.RowKit
section
variable {P : Program}
theorem callsDIn_wide_of_wpS {f : FuncId} {fn : Func} {c : Code} {args : Array Value} {u : FrameMode} {w : World} {n : Nat} {R : Ending → FrameMode → World → Prop} (hf : P.funcs[f]? = some fn) (hb : fn.body = some c)
    (h : ∀ (c₀ : Frame) (cs : List Frame), c₀.mode = u → c.wpS P (bodyPostS P fn c₀ cs R) { tmps := args ++ Array.replicate (fn.ntmps - args.size) undef, defers := [] } (c₀ :: cs) w) :
    CallsDIn Fence.wide n P f args u w R := by
  refine ⟨trivial, fun c₀ cs hu _ => ?_⟩
  obtain ⟨e, a', cs', w', hq, harr⟩ := h c₀ cs hu { (default : Frame) with fn := f, kind := .deferred } [] rfl rfl
  have hen : Frame.enter P f args .deferred = ({ (default : Frame) with fn := f, kind := .deferred } : Frame).at { tmps := args ++ Array.replicate (fn.ntmps - args.size) undef, defers := [] } [.code c] := by
    simp [Frame.enter, Frame.at, hf, hb]
  rw [← hen] at harr
  match e, hq, harr with
  | .normal, ⟨hd, u', hc, v, hr, hR⟩, harr =>
    subst hc
    exact ⟨.returned v, u', w', _, hR, (comesIn_wide (P := P) (e := .returned v)).2 (Steps.trans harr (.one step_end)), rfl, rfl, rfl, hd, fn, hf, hr⟩
  | .ret, ⟨hd, u', hc, v, hr, hR⟩, ⟨_, hs⟩ =>
    subst hc
    exact ⟨.returned v, u', w', _, hR, (comesIn_wide (P := P) (e := .returned v)).2 hs, rfl, rfl, rfl, hd, fn, hf, hr⟩
  | .panic chain, ⟨hd, u', hc, hR⟩, ⟨_, hs⟩ =>
    subst hc
    exact ⟨.panicked chain, u', w', _, hR, (comesIn_wide (P := P) (e := .panicked chain)).2 hs, rfl, rfl, rfl, hd, fn, hf⟩
  | .outgrown, ⟨u', hR⟩, harr =>
    exact ⟨.outgrown, u', w', { (default : Frame) with fn := f, kind := .deferred }, hR, (comesIn_wide (P := P) (e := .outgrown)).2 (harr.resolve_left (by simp)), rfl, rfl, trivial⟩
variable {W w : World} {chg news : Blks}
/-- Some cells of one row of a slice. -/
theorem Sl.loadPart {α : Type} {f : α → List Value} {T : TypeId} {p : Option Addr} {b o sz m : Nat} {l : List α} (h : Sl W p b o sz (l.map f)) (hm : Mem W chg news w) (hc : ∀ ob, (b, ob) ∉ chg) (hT : tyB P T = some (true, m)) {i : Nat} (hi : i < l.length) {x : α} (hx : l[i] = x) {j : Nat} (hj : j + m ≤ sz) {vs : List Value} (hv : grab (f x) j m = some vs) (hm0 : 0 < m) {off : Nat} (ho : off = o + i * sz + j) :
    (loadVar T ⟨b, off, none⟩).run P w = .ok (.agg vs.toArray) w := by
  subst hx
  subst ho
  have hi' : i < (l.map f).length := by simpa using hi
  obtain ⟨h1, h2⟩ := grab_spec hv
  refine run_loadVar_agg (by rw [h1]; exact hT) (fun k hk => ?_)
  rw [add_plain, hm.cell (p := ⟨b, _, none⟩) (h.lt (by omega) hi') hc, Nat.add_assoc (o + i * sz) j k, h.cell i hi' (j + k) (by omega), List.getElem_map, h2 k (by omega)]
  simp [hk]
end
section
variable {P : Program} {ops : Array Oper} {Q : Exit → Act → World → Prop} {n d i : Nat} {r : Regs} {ds : List Deferred} {W : World} {chg news : Blks} {K : Act → World → Prop}
theorem RunC.drawPJ {id : Nat} {l : List Oper} {news0 : Blks} {J : Act → World → Prop} (k : Nat) (hm : P.follows .mixedOrders = true) (hp : Pick news0 news) (h : RunA P l.toArray (PanQ (SegQ Q J) n r ds W chg news0) k (fun c => c = chg) news0 n l.toArray.size (Array.replicate l.toArray.size false) r ds W chg news) (h2 : ∀ a w, J a w → Q .normal a w) :
    RunC P Q n (.region id l.toArray true) r ds W chg news := fun a w s =>
  Code.wp_mono (fun e a w hq => by cases e <;> first | exact h2 a w hq | exact hq) (RunC.drawP (Q := SegQ Q J) k hm hp h a w s)
theorem RunC.drawPX {X : Type} {id : Nat} {l : List Oper} {news0 : Blks} {q : Regs} (k : Nat) (n0 : Blks) (R : X → Regs → Regs) (C V T : X → Blks) (Inv : X → Prop) (hm : P.follows .mixedOrders = true) (hp : Pick news0 news) (_hs : Sub q r) (_hn : Pick n0 news)
    (h : RunA P l.toArray (PanQ (SegQ Q (MeetP n ds W (fun x => R x q) C (fun x => V x ++ (n0 ++ T x)) Inv)) n r ds W chg news0) k (fun c => c = chg) news0 n l.toArray.size (Array.replicate l.toArray.size false) r ds W chg news)
    (h2 : ∀ x, Inv x → RunE Q n .normal (R x q) ds W (C x) (V x ++ (n0 ++ T x))) : RunC P Q n (.region id l.toArray true) r ds W chg news :=
  RunC.drawPJ k hm hp h (fun a w hj => by
    obtain ⟨x, hi, sx⟩ := hj
    exact h2 x hi a w sx)
theorem RunE.seg_panic {J : Act → World → Prop} {c : List PanicEntry} (h : RunE Q n (.panic c) r ds W chg news) : RunE (SegQ Q J) n (.panic c) r ds W chg news := h
theorem RunL.deferC {x : Operand} {fn : Fn} {cap : Array Value} {rest : List Oper} {ty : TypeId} {pos : String} {after : Array Edge} {ats : Array TypeId} (hx : rev r x = some (.func fn #[] cap))
    (h : RunL P ops Q n rest r ({ target := .fn fn cap, args := #[] } :: ds) W chg news) :
    RunL P ops Q n ({ dst := none, op := .defer { callee := .value x, args := #[], argTypes := ats }, type := ty, pos, after, guard := none } :: rest) r ds W chg news := fun a w s =>
  wpList_plain rfl fun K hK => by
    have h1 := s.agree.eval hx
    have e : (execOp a.eval { dst := none, op := .defer { callee := .value x, args := #[], argTypes := ats }, type := ty, pos, after, guard := none }).run P w = .ok (.defer { target := .fn fn cap, args := #[] }) w := by
      simp [execOp, resolve, h1, Deferred.ofValue]
    unfold Oper.wp
    rw [e, Oper.upon_defer]
    exact hK _ _ (h _ _ ⟨s.size, s.agree, by rw [← s.defers]; rfl, s.mem⟩)
theorem RunI.callTN {α : Type} {o : Oper} {f : FuncId} {args : Array Value} {mis : Int → Value} {x : Except Int α} {v : α → Nat → Value} {nw : α → Nat → Blks} (ho : ops[i]? = some o) (hi : IsCall P r o f args) (hg : guardB ops r o.guard = some true) (hd : o.dst = some d) (hn : Nat.ble (d + 1) n = true)
    (hc : ∀ w, Mem W chg news w → Calls P f args w (TryN mis x v nw w)) (herr : ∀ k, x = .error k → RunE Q n (.panic [{ v := mis k, recovered := false }]) r ds W chg news)
    (hok : ∀ a, x = .ok a → ∀ b, RunK n K ((d, v a b) :: r) ds W chg (nw a b ++ news)) : RunI P ops Q n i K r ds W chg news :=
  RunI.call ho hi hg hc (fun a w e w' s hR => by
    unfold TryN at hR
    cases x with
    | ok y =>
      obtain ⟨b, rfl, hm⟩ := hR
      have s2 := s.put (Nat.le_of_ble_eq_true hn) (v y b)
      simp only [hd]
      exact hok y rfl b _ _ ⟨s2.size, s2.agree, s2.defers, s.mem.trans hm⟩
    | error k =>
      obtain ⟨rfl, hm⟩ := hR
      exact herr k rfl a w' ⟨s.size, s.agree, s.defers, s.mem.pass hm⟩)
end
end Go.Eng
