/- Steps in few words. -/
import Derived.Test.YtmkdbdbenfbkhaaGreatDoorY01
import Derived.Test.YtmkdbdbenfbkhaaGreatDoorProg
set_option linter.unusedSimpArgs false
set_option linter.unusedVariables false
set_option linter.unusedSectionVars false
namespace Go.Eng
open Go
class Fld (P:Program) (T:TypeId) (i:Nat) (off:outParam Nat):Prop where
  h:fieldB P T i=some off
class Tyc (P:Program) (T:TypeId) (agg:outParam Bool) (sz:outParam Nat):Prop where
  h:tyB P T=some (agg,sz)
class Slc (P:Program) (T:TypeId) (e:outParam TypeId) (sz:outParam Nat):Prop where
  h:slB P T=some (e,sz)
theorem zF {P:Program} {r:Regs} {ty:TypeId} {pos:String} {after:Array Edge} {f:FuncId} {xs:List Operand} {vs:List Value} {ats:Array TypeId} {dst:Option Tmp} {gd:Option (Nat×Bool)} (hx:revs r xs=some vs) (he:Enters P f) :
    IsCall P r { dst,op:=.call { callee:=.value (.func f),args:=xs.toArray,argTypes:=ats },type:=ty,pos,after,guard:=gd } f vs.toArray:=Ab7 hx he
theorem zS {q r:Regs} (t:Nat) {v:Value} (h:rget r t=some v) (hs:Sub q r):Sub ((t,v)::q) r:=Sub.cons h hs
theorem zE {q r:Regs} (t:Nat) {u v:Value} (h:rget r t=some u) (he:u=v) (hs:Sub q r):Sub ((t,v)::q) r:=Ac8 h he hs
theorem zs {α:Type} {a b:α} {G:Prop} (g:a=b) (h:a=b→G:=by intro g;refine Go.Eng.Af6 (Go.Eng.Sub.cons rfl ?_) (List.Sublist.refl _);repeat first | exact Go.Eng.Ad8 _ | refine Go.Eng.Ai7 rfl (by rw [g]) ?_ | refine Go.Eng.Sub.skip rfl ?_):G:=h g
section
variable {P:Program} {ops:Array Oper} {Q:Exit→Act→World→Prop} {n:Nat} {r:Regs} {ds:List Deferred} {W:World} {chg news:Blks} {rest:List Oper} {d:Nat}
theorem zv {k fuel:Nat} {listed:Array Bool} {chg0 news0:Blks} (i:Nat) {o:Oper} {v:Value} (ho:ops[i]? = some o) (hv:Val P r W chg0 news0 o v)
    (h:RunA P ops Q k (fun c=>c=chg0) news0 n fuel (listed.setIfInBounds i true) ((d,v)::r) ds W chg news) (hg:guardB ops r o.guard=some true:=by rfl) (hd:o.dst=some d:=by rfl) (hn:Nat.ble (d + 1) n=true:=by rfl)
    (hs:Pick news0 news:=by repeat first | exact Go.Eng.Pick.nil | refine Go.Eng.Pick.cons (Go.Eng.Take.here) rfl ?_ | refine Go.Eng.Pick.cons (.there .here) rfl ?_ | refine Go.Eng.Pick.cons (.there (.there .here)) rfl ?_ | refine Go.Eng.Pick.cons (.there (.there (.there .here))) rfl ?_ | refine Go.Eng.Pick.cons (.there (.there (.there (.there .here)))) rfl ?_ | refine Go.Eng.Pick.cons (.there (.there (.there (.there (.there .here))))) rfl ?_ | refine Go.Eng.Pick.cons (.there (.there (.there (.there (.there (.there .here)))))) rfl ?_)
    (hc:chg=chg0:=by rfl) (hQ:∀ c a w,Q (.panic c) (a.put o.dst v) w→Q (.panic c) a w:=by exact fun _ _ _ h=>h) (hf:freeB ops k i=true:=by kernel_rfl) (hr:readyB ops listed i=true:=by kernel_rfl) :
    RunA P ops Q k (fun c=>c=chg0) news0 n (fuel + 1) listed r ds W chg news:=va i ho hv hg hd hn hs hc h hQ hf hr
theorem zw {k fuel:Nat} {listed:Array Bool} {chg0 news0:Blks} (i:Nat) {o:Oper} {v:Value} (h:RunA P ops Q k (fun c=>c=chg0) news0 n fuel (listed.setIfInBounds i true) ((d,v)::r) ds W chg news) (ho:ops[i]? = some o:=by rfl) (hv:Val P r W chg0 news0 o v:=by first | exact Go.Eng.Aa8 rfl | exact Go.Eng.Val.fieldAddr rfl Go.Eng.Fld.h | exact Go.Eng.Ad7 rfl Go.Eng.Slc.h | exact Go.Eng.Aa1 rfl (.head _) Go.Eng.Tyc.h rfl | exact Go.Eng.Ab6 rfl (.head _) Go.Eng.Tyc.h rfl | exact Go.Eng.Aa1 rfl (.tail _ (.head _)) Go.Eng.Tyc.h rfl | exact Go.Eng.Ab6 rfl (.tail _ (.head _)) Go.Eng.Tyc.h rfl | exact Go.Eng.Aa1 rfl (.tail _ (.tail _ (.head _))) Go.Eng.Tyc.h rfl | exact Go.Eng.Ab6 rfl (.tail _ (.tail _ (.head _))) Go.Eng.Tyc.h rfl | exact Go.Eng.Aa1 rfl (.tail _ (.tail _ (.tail _ (.head _)))) Go.Eng.Tyc.h rfl | exact Go.Eng.Ab6 rfl (.tail _ (.tail _ (.tail _ (.head _)))) Go.Eng.Tyc.h rfl | exact Go.Eng.Aa1 rfl (.tail _ (.tail _ (.tail _ (.tail _ (.head _))))) Go.Eng.Tyc.h rfl | exact Go.Eng.Ab6 rfl (.tail _ (.tail _ (.tail _ (.tail _ (.head _))))) Go.Eng.Tyc.h rfl | exact Go.Eng.Aa1 rfl (.tail _ (.tail _ (.tail _ (.tail _ (.tail _ (.head _)))))) Go.Eng.Tyc.h rfl | exact Go.Eng.Ab6 rfl (.tail _ (.tail _ (.tail _ (.tail _ (.tail _ (.head _)))))) Go.Eng.Tyc.h rfl) (hg:guardB ops r o.guard=some true:=by rfl) (hd:o.dst=some d:=by rfl) (hn:Nat.ble (d + 1) n=true:=by rfl)
    (hs:Pick news0 news:=by repeat first | exact Go.Eng.Pick.nil | refine Go.Eng.Pick.cons (Go.Eng.Take.here) rfl ?_ | refine Go.Eng.Pick.cons (.there .here) rfl ?_ | refine Go.Eng.Pick.cons (.there (.there .here)) rfl ?_ | refine Go.Eng.Pick.cons (.there (.there (.there .here))) rfl ?_ | refine Go.Eng.Pick.cons (.there (.there (.there (.there .here)))) rfl ?_ | refine Go.Eng.Pick.cons (.there (.there (.there (.there (.there .here))))) rfl ?_ | refine Go.Eng.Pick.cons (.there (.there (.there (.there (.there (.there .here)))))) rfl ?_)
    (hc:chg=chg0:=by rfl) (hQ:∀ c a w,Q (.panic c) (a.put o.dst v) w→Q (.panic c) a w:=by exact fun _ _ _ h=>h) (hf:freeB ops k i=true:=by kernel_rfl) (hr:readyB ops listed i=true:=by kernel_rfl) :
    RunA P ops Q k (fun c=>c=chg0) news0 n (fuel + 1) listed r ds W chg news:=va i ho hv hg hd hn hs hc h hQ hf hr
theorem zp {fuel:Nat} {listed:Array Bool} (i:Nat) {o:Oper} {v:Value} (h:RunB P ops Q n fuel (listed.setIfInBounds i true) ((d,v)::r) ds W chg news) (ho:ops[i]? = some o:=by rfl) (hv:Val P r W chg news o v:=by first | exact Go.Eng.Aa8 rfl | exact Go.Eng.Val.fieldAddr rfl Go.Eng.Fld.h | exact Go.Eng.Ad7 rfl Go.Eng.Slc.h | exact Go.Eng.Aa1 rfl (.head _) Go.Eng.Tyc.h rfl | exact Go.Eng.Ab6 rfl (.head _) Go.Eng.Tyc.h rfl | exact Go.Eng.Aa1 rfl (.tail _ (.head _)) Go.Eng.Tyc.h rfl | exact Go.Eng.Ab6 rfl (.tail _ (.head _)) Go.Eng.Tyc.h rfl | exact Go.Eng.Aa1 rfl (.tail _ (.tail _ (.head _))) Go.Eng.Tyc.h rfl | exact Go.Eng.Ab6 rfl (.tail _ (.tail _ (.head _))) Go.Eng.Tyc.h rfl | exact Go.Eng.Aa1 rfl (.tail _ (.tail _ (.tail _ (.head _)))) Go.Eng.Tyc.h rfl | exact Go.Eng.Ab6 rfl (.tail _ (.tail _ (.tail _ (.head _)))) Go.Eng.Tyc.h rfl | exact Go.Eng.Aa1 rfl (.tail _ (.tail _ (.tail _ (.tail _ (.head _))))) Go.Eng.Tyc.h rfl | exact Go.Eng.Ab6 rfl (.tail _ (.tail _ (.tail _ (.tail _ (.head _))))) Go.Eng.Tyc.h rfl | exact Go.Eng.Aa1 rfl (.tail _ (.tail _ (.tail _ (.tail _ (.tail _ (.head _)))))) Go.Eng.Tyc.h rfl | exact Go.Eng.Ab6 rfl (.tail _ (.tail _ (.tail _ (.tail _ (.tail _ (.head _)))))) Go.Eng.Tyc.h rfl) (hg:guardB ops r o.guard=some true:=by rfl) (hd:o.dst=some d:=by rfl) (hn:Nat.ble (d + 1) n=true:=by rfl) (hr:Region.ready .any ops listed=[i]:=by kernel_rfl) :
    RunB P ops Q n (fuel + 1) listed r ds W chg news:=RunB.one hr (Ac2 ho hv hg hd hn (Ab5 h))
theorem zN {k fuel:Nat} {listed:Array Bool} {cp:Blks→Prop} {news0:Blks} (i:Nat) {o:Oper} (h:RunA P ops Q k cp news0 n fuel (listed.setIfInBounds i true) ((d,undef)::r) ds W chg news) (ho:ops[i]? = some o:=by rfl) (hf:freeB ops k i=true:=by kernel_rfl) (hr:readyB ops listed i=true:=by kernel_rfl)
    (hg:guardB ops r o.guard=some false:=by rfl) (hd:o.dst=some d:=by rfl) (hn:Nat.ble (d + 1) n=true:=by rfl) (hQ:∀ c a w,Q (.panic c) (a.put o.dst undef) w→Q (.panic c) a w:=by exact fun _ _ _ h=>h)
    (hs:Pick news0 news:=by repeat first | exact Go.Eng.Pick.nil | refine Go.Eng.Pick.cons (Go.Eng.Take.here) rfl ?_ | refine Go.Eng.Pick.cons (.there .here) rfl ?_ | refine Go.Eng.Pick.cons (.there (.there .here)) rfl ?_ | refine Go.Eng.Pick.cons (.there (.there (.there .here))) rfl ?_ | refine Go.Eng.Pick.cons (.there (.there (.there (.there .here)))) rfl ?_ | refine Go.Eng.Pick.cons (.there (.there (.there (.there (.there .here))))) rfl ?_)
    (hc:cp chg:=by rfl):RunA P ops Q k cp news0 n (fuel + 1) listed r ds W chg news:=Ak0 ho hf hr hg hd hn hQ hs hc h
theorem zA {k fuel:Nat} {listed:Array Bool} {cp:Blks→Prop} {news0:Blks} (i:Nat) (h:RunI P ops Q n i (NextA P ops Q k W cp news0 fuel (listed.setIfInBounds i true)) r ds W chg news) (hr:Region.ready .any ops listed=[i]:=by kernel_rfl) (hd:doneB k listed=false:=by kernel_rfl) :
    RunA P ops Q k cp news0 n (fuel + 1) listed r ds W chg news:=RunA.one hr hd h
theorem zt {k fuel:Nat} {listed:Array Bool} {cp:Blks→Prop} {news0:Blks} (h:RunB P ops Q n (fuel + 1) listed r ds W chg news) (hd:doneB k listed=true:=by kernel_rfl):RunA P ops Q k cp news0 n (fuel + 1) listed r ds W chg news:=Af3 hd h
theorem zB {fuel:Nat} {listed:Array Bool} (i:Nat) (h:RunI P ops Q n i (wpAny P .any ops Q fuel (listed.setIfInBounds i true)) r ds W chg news) (hr:Region.ready .any ops listed=[i]:=by kernel_rfl):RunB P ops Q n (fuel + 1) listed r ds W chg news:=RunB.one hr h
theorem zd {fuel:Nat} {listed:Array Bool} (h:RunE Q n .normal r ds W chg news) (hr:Region.ready .any ops listed=[]:=by kernel_rfl):RunB P ops Q n fuel listed r ds W chg news:=RunB.done hr h
theorem zo {fuel:Nat} {listed:Array Bool} (i:Nat) {o:Oper} {v:Value} (ho:ops[i]? = some o) (hv:Val P r W chg news o v) (h:RunB P ops Q n fuel (listed.setIfInBounds i true) ((d,v)::r) ds W chg news) (hg:guardB ops r o.guard=some true:=by rfl) (hd:o.dst=some d:=by rfl) (hn:Nat.ble (d + 1) n=true:=by rfl) (hr:Region.ready .any ops listed=[i]:=by kernel_rfl) :
    RunB P ops Q n (fuel + 1) listed r ds W chg news:=RunB.one hr (Ac2 ho hv hg hd hn (Ab5 h))
theorem zq {fuel:Nat} {listed:Array Bool} (i:Nat) {o:Oper} {f:FuncId} {args:Array Value} {v:Value} (ho:ops[i]? = some o) (hi:IsCall P r o f args) (hc:∀ w,Mem W chg news w→Calls P f args w (Pure v w)) (h:RunB P ops Q n fuel (listed.setIfInBounds i true) ((d,v)::r) ds W chg news) (hg:guardB ops r o.guard=some true:=by rfl) (hd:o.dst=some d:=by rfl) (hn:Nat.ble (d + 1) n=true:=by rfl) (hr:Region.ready .any ops listed=[i]:=by kernel_rfl) :
    RunB P ops Q n (fuel + 1) listed r ds W chg news:=RunB.one hr (Ac4 ho hi hg hd hn hc (Ab5 h))
theorem zc {o:Oper} {f:FuncId} {args:Array Value} {v:Value} {q:Prop} (hi:IsCall P r o f args) (hc:∀ w,Mem W chg news w→Calls P f args w (Pure v w)) (k:q) (hg:guardB ops r o.guard=some true:=by rfl) (hd:o.dst=some d:=by rfl) (hn:Nat.ble (d + 1) n=true:=by rfl)
    (h:q→RunL P ops Q n rest ((d,v)::r) ds W chg news:=by intro k;(repeat first | refine Go.Eng.vp rfl rfl rfl rfl ?_ | with_reducible refine Go.Eng.RunL.nil ?_ | with_reducible refine Go.Eng.RunE.next ?_ | with_reducible refine Go.Eng.RunC.seq ?_ | with_reducible refine Go.Eng.RunC.region ?_ | with_reducible refine Go.Eng.RunC.skip ?_ | with_reducible refine Go.Eng.RunC.block ?_ | with_reducible refine Go.Eng.Ac0 ?_ | with_reducible refine Go.Eng.RunC.ret ?_ | with_reducible refine Go.Eng.Ac5 ?_ | with_reducible refine Go.Eng.Ab8 ?_ | with_reducible refine Go.Eng.Ac7 ?_ | refine Go.Eng.Ac9 rfl rfl rfl ?_ | refine Go.Eng.Aa0 (Go.Eng.Val.fieldAddr rfl Go.Eng.Fld.h) rfl rfl rfl ?_ | refine Go.Eng.Aa0 (Go.Eng.Ad7 rfl Go.Eng.Slc.h) rfl rfl rfl ?_ | refine Go.Eng.Aa0 (Go.Eng.Aa1 rfl (.head _) Go.Eng.Tyc.h rfl) rfl rfl rfl ?_ | refine Go.Eng.Aa0 (Go.Eng.Ab6 rfl (.head _) Go.Eng.Tyc.h rfl) rfl rfl rfl ?_ | refine Go.Eng.Aa0 (Go.Eng.Aa1 rfl (.tail _ (.head _)) Go.Eng.Tyc.h rfl) rfl rfl rfl ?_ | refine Go.Eng.Aa0 (Go.Eng.Ab6 rfl (.tail _ (.head _)) Go.Eng.Tyc.h rfl) rfl rfl rfl ?_ | refine Go.Eng.Aa0 (Go.Eng.Aa1 rfl (.tail _ (.tail _ (.head _))) Go.Eng.Tyc.h rfl) rfl rfl rfl ?_ | refine Go.Eng.Aa0 (Go.Eng.Ab6 rfl (.tail _ (.tail _ (.head _))) Go.Eng.Tyc.h rfl) rfl rfl rfl ?_ | refine Go.Eng.Aa0 (Go.Eng.Aa1 rfl (.tail _ (.tail _ (.tail _ (.head _)))) Go.Eng.Tyc.h rfl) rfl rfl rfl ?_ | refine Go.Eng.Aa0 (Go.Eng.Ab6 rfl (.tail _ (.tail _ (.tail _ (.head _)))) Go.Eng.Tyc.h rfl) rfl rfl rfl ?_ | refine Go.Eng.Aa0 (Go.Eng.Aa1 rfl (.tail _ (.tail _ (.tail _ (.tail _ (.head _))))) Go.Eng.Tyc.h rfl) rfl rfl rfl ?_ | refine Go.Eng.Aa0 (Go.Eng.Ab6 rfl (.tail _ (.tail _ (.tail _ (.tail _ (.head _))))) Go.Eng.Tyc.h rfl) rfl rfl rfl ?_ | refine Go.Eng.Aa0 (Go.Eng.Aa1 rfl (.tail _ (.tail _ (.tail _ (.tail _ (.tail _ (.head _)))))) Go.Eng.Tyc.h rfl) rfl rfl rfl ?_ | refine Go.Eng.Aa0 (Go.Eng.Ab6 rfl (.tail _ (.tail _ (.tail _ (.tail _ (.tail _ (.head _)))))) Go.Eng.Tyc.h rfl) rfl rfl rfl ?_);exact k):RunL P ops Q n (o::rest) r ds W chg news:=Ab1 hi hg hd hn hc (h k)
theorem lu {o:Oper} {v:Value} {q:Prop} (hv:Val P r W chg news o v) (k:q) (hg:guardB ops r o.guard=some true:=by rfl) (hd:o.dst=some d:=by rfl) (hn:Nat.ble (d + 1) n=true:=by rfl)
    (h:q→RunL P ops Q n rest ((d,v)::r) ds W chg news:=by intro k;(repeat first | refine Go.Eng.vp rfl rfl rfl rfl ?_ | with_reducible refine Go.Eng.RunL.nil ?_ | with_reducible refine Go.Eng.RunE.next ?_ | with_reducible refine Go.Eng.RunC.seq ?_ | with_reducible refine Go.Eng.RunC.region ?_ | with_reducible refine Go.Eng.RunC.skip ?_ | with_reducible refine Go.Eng.RunC.block ?_ | with_reducible refine Go.Eng.Ac0 ?_ | with_reducible refine Go.Eng.RunC.ret ?_ | with_reducible refine Go.Eng.Ac5 ?_ | with_reducible refine Go.Eng.Ab8 ?_ | with_reducible refine Go.Eng.Ac7 ?_ | refine Go.Eng.Ac9 rfl rfl rfl ?_ | refine Go.Eng.Aa0 (Go.Eng.Val.fieldAddr rfl Go.Eng.Fld.h) rfl rfl rfl ?_ | refine Go.Eng.Aa0 (Go.Eng.Ad7 rfl Go.Eng.Slc.h) rfl rfl rfl ?_ | refine Go.Eng.Aa0 (Go.Eng.Aa1 rfl (.head _) Go.Eng.Tyc.h rfl) rfl rfl rfl ?_ | refine Go.Eng.Aa0 (Go.Eng.Ab6 rfl (.head _) Go.Eng.Tyc.h rfl) rfl rfl rfl ?_ | refine Go.Eng.Aa0 (Go.Eng.Aa1 rfl (.tail _ (.head _)) Go.Eng.Tyc.h rfl) rfl rfl rfl ?_ | refine Go.Eng.Aa0 (Go.Eng.Ab6 rfl (.tail _ (.head _)) Go.Eng.Tyc.h rfl) rfl rfl rfl ?_ | refine Go.Eng.Aa0 (Go.Eng.Aa1 rfl (.tail _ (.tail _ (.head _))) Go.Eng.Tyc.h rfl) rfl rfl rfl ?_ | refine Go.Eng.Aa0 (Go.Eng.Ab6 rfl (.tail _ (.tail _ (.head _))) Go.Eng.Tyc.h rfl) rfl rfl rfl ?_ | refine Go.Eng.Aa0 (Go.Eng.Aa1 rfl (.tail _ (.tail _ (.tail _ (.head _)))) Go.Eng.Tyc.h rfl) rfl rfl rfl ?_ | refine Go.Eng.Aa0 (Go.Eng.Ab6 rfl (.tail _ (.tail _ (.tail _ (.head _)))) Go.Eng.Tyc.h rfl) rfl rfl rfl ?_ | refine Go.Eng.Aa0 (Go.Eng.Aa1 rfl (.tail _ (.tail _ (.tail _ (.tail _ (.head _))))) Go.Eng.Tyc.h rfl) rfl rfl rfl ?_ | refine Go.Eng.Aa0 (Go.Eng.Ab6 rfl (.tail _ (.tail _ (.tail _ (.tail _ (.head _))))) Go.Eng.Tyc.h rfl) rfl rfl rfl ?_ | refine Go.Eng.Aa0 (Go.Eng.Aa1 rfl (.tail _ (.tail _ (.tail _ (.tail _ (.tail _ (.head _)))))) Go.Eng.Tyc.h rfl) rfl rfl rfl ?_ | refine Go.Eng.Aa0 (Go.Eng.Ab6 rfl (.tail _ (.tail _ (.tail _ (.tail _ (.tail _ (.head _)))))) Go.Eng.Tyc.h rfl) rfl rfl rfl ?_);exact k):RunL P ops Q n (o::rest) r ds W chg news:=Aa0 hv hg hd hn (h k)
theorem zn {o:Oper} {v:Nat→Value} {ob:Obj} {q:Nat→Prop} (hv:New P r W chg news o v ob) (k:∀ b,q b) (hg:guardB ops r o.guard=some true:=by rfl) (hd:o.dst=some d:=by rfl) (hn:Nat.ble (d + 1) n=true:=by rfl)
    (h:∀ b,q b→RunL P ops Q n rest ((d,v b)::r) ds W chg ((b,ob)::news):=by intro b;intro k;(repeat first | refine Go.Eng.vp rfl rfl rfl rfl ?_ | with_reducible refine Go.Eng.RunL.nil ?_ | with_reducible refine Go.Eng.RunE.next ?_ | with_reducible refine Go.Eng.RunC.seq ?_ | with_reducible refine Go.Eng.RunC.region ?_ | with_reducible refine Go.Eng.RunC.skip ?_ | with_reducible refine Go.Eng.RunC.block ?_ | with_reducible refine Go.Eng.Ac0 ?_ | with_reducible refine Go.Eng.RunC.ret ?_ | with_reducible refine Go.Eng.Ac5 ?_ | with_reducible refine Go.Eng.Ab8 ?_ | with_reducible refine Go.Eng.Ac7 ?_ | refine Go.Eng.Ac9 rfl rfl rfl ?_ | refine Go.Eng.Aa0 (Go.Eng.Val.fieldAddr rfl Go.Eng.Fld.h) rfl rfl rfl ?_ | refine Go.Eng.Aa0 (Go.Eng.Ad7 rfl Go.Eng.Slc.h) rfl rfl rfl ?_ | refine Go.Eng.Aa0 (Go.Eng.Aa1 rfl (.head _) Go.Eng.Tyc.h rfl) rfl rfl rfl ?_ | refine Go.Eng.Aa0 (Go.Eng.Ab6 rfl (.head _) Go.Eng.Tyc.h rfl) rfl rfl rfl ?_ | refine Go.Eng.Aa0 (Go.Eng.Aa1 rfl (.tail _ (.head _)) Go.Eng.Tyc.h rfl) rfl rfl rfl ?_ | refine Go.Eng.Aa0 (Go.Eng.Ab6 rfl (.tail _ (.head _)) Go.Eng.Tyc.h rfl) rfl rfl rfl ?_ | refine Go.Eng.Aa0 (Go.Eng.Aa1 rfl (.tail _ (.tail _ (.head _))) Go.Eng.Tyc.h rfl) rfl rfl rfl ?_ | refine Go.Eng.Aa0 (Go.Eng.Ab6 rfl (.tail _ (.tail _ (.head _))) Go.Eng.Tyc.h rfl) rfl rfl rfl ?_ | refine Go.Eng.Aa0 (Go.Eng.Aa1 rfl (.tail _ (.tail _ (.tail _ (.head _)))) Go.Eng.Tyc.h rfl) rfl rfl rfl ?_ | refine Go.Eng.Aa0 (Go.Eng.Ab6 rfl (.tail _ (.tail _ (.tail _ (.head _)))) Go.Eng.Tyc.h rfl) rfl rfl rfl ?_ | refine Go.Eng.Aa0 (Go.Eng.Aa1 rfl (.tail _ (.tail _ (.tail _ (.tail _ (.head _))))) Go.Eng.Tyc.h rfl) rfl rfl rfl ?_ | refine Go.Eng.Aa0 (Go.Eng.Ab6 rfl (.tail _ (.tail _ (.tail _ (.tail _ (.head _))))) Go.Eng.Tyc.h rfl) rfl rfl rfl ?_ | refine Go.Eng.Aa0 (Go.Eng.Aa1 rfl (.tail _ (.tail _ (.tail _ (.tail _ (.tail _ (.head _)))))) Go.Eng.Tyc.h rfl) rfl rfl rfl ?_ | refine Go.Eng.Aa0 (Go.Eng.Ab6 rfl (.tail _ (.tail _ (.tail _ (.tail _ (.tail _ (.head _)))))) Go.Eng.Tyc.h rfl) rfl rfl rfl ?_);exact k):RunL P ops Q n (o::rest) r ds W chg news:=Ac3 hv hg hd hn fun b=>h b (k b)
end
theorem su {p q:Prop} (k:q) (h:q→p:=by intro k;(repeat first | refine Go.Eng.vp rfl rfl rfl rfl ?_ | with_reducible refine Go.Eng.RunL.nil ?_ | with_reducible refine Go.Eng.RunE.next ?_ | with_reducible refine Go.Eng.RunC.seq ?_ | with_reducible refine Go.Eng.RunC.region ?_ | with_reducible refine Go.Eng.RunC.skip ?_ | with_reducible refine Go.Eng.RunC.block ?_ | with_reducible refine Go.Eng.Ac0 ?_ | with_reducible refine Go.Eng.RunC.ret ?_ | with_reducible refine Go.Eng.Ac5 ?_ | with_reducible refine Go.Eng.Ab8 ?_ | with_reducible refine Go.Eng.Ac7 ?_ | refine Go.Eng.Ac9 rfl rfl rfl ?_ | refine Go.Eng.Aa0 (Go.Eng.Val.fieldAddr rfl Go.Eng.Fld.h) rfl rfl rfl ?_ | refine Go.Eng.Aa0 (Go.Eng.Ad7 rfl Go.Eng.Slc.h) rfl rfl rfl ?_ | refine Go.Eng.Aa0 (Go.Eng.Aa1 rfl (.head _) Go.Eng.Tyc.h rfl) rfl rfl rfl ?_ | refine Go.Eng.Aa0 (Go.Eng.Ab6 rfl (.head _) Go.Eng.Tyc.h rfl) rfl rfl rfl ?_ | refine Go.Eng.Aa0 (Go.Eng.Aa1 rfl (.tail _ (.head _)) Go.Eng.Tyc.h rfl) rfl rfl rfl ?_ | refine Go.Eng.Aa0 (Go.Eng.Ab6 rfl (.tail _ (.head _)) Go.Eng.Tyc.h rfl) rfl rfl rfl ?_ | refine Go.Eng.Aa0 (Go.Eng.Aa1 rfl (.tail _ (.tail _ (.head _))) Go.Eng.Tyc.h rfl) rfl rfl rfl ?_ | refine Go.Eng.Aa0 (Go.Eng.Ab6 rfl (.tail _ (.tail _ (.head _))) Go.Eng.Tyc.h rfl) rfl rfl rfl ?_ | refine Go.Eng.Aa0 (Go.Eng.Aa1 rfl (.tail _ (.tail _ (.tail _ (.head _)))) Go.Eng.Tyc.h rfl) rfl rfl rfl ?_ | refine Go.Eng.Aa0 (Go.Eng.Ab6 rfl (.tail _ (.tail _ (.tail _ (.head _)))) Go.Eng.Tyc.h rfl) rfl rfl rfl ?_ | refine Go.Eng.Aa0 (Go.Eng.Aa1 rfl (.tail _ (.tail _ (.tail _ (.tail _ (.head _))))) Go.Eng.Tyc.h rfl) rfl rfl rfl ?_ | refine Go.Eng.Aa0 (Go.Eng.Ab6 rfl (.tail _ (.tail _ (.tail _ (.tail _ (.head _))))) Go.Eng.Tyc.h rfl) rfl rfl rfl ?_ | refine Go.Eng.Aa0 (Go.Eng.Aa1 rfl (.tail _ (.tail _ (.tail _ (.tail _ (.tail _ (.head _)))))) Go.Eng.Tyc.h rfl) rfl rfl rfl ?_ | refine Go.Eng.Aa0 (Go.Eng.Ab6 rfl (.tail _ (.tail _ (.tail _ (.tail _ (.tail _ (.head _)))))) Go.Eng.Tyc.h rfl) rfl rfl rfl ?_);exact k):p:=h k
end Go.Eng
/- Maps whose keys are of any kind that is told: keys that are lists of numbers (arrays, structs); a new entry, an entry that is set anew, a range over one. -/
namespace Go.Eng
open Go Go.RowKit
def entsK {K:Type} (kv:K→Value):Nat→List (K×Value)→List MapEntry
  | _,[]=>[]
  | i,x::l=>{ key:=kv x.1,val:=x.2,born:=i }::entsK kv (i + 1) l
def mapK {K:Type} (kv:K→Value) (l:List (K×Value)):Obj:=.map (entsK kv 0 l).toArray l.length
def kIdx {K:Type} [DecidableEq K]:List (K×Value)→K→Option (Nat×Value)
  | [],_=>none
  | x::l,a=>if x.1=a then some (0,x.2) else (kIdx l a).map fun p=>(p.1 + 1,p.2)
def kFind {K:Type} [DecidableEq K] (l:List (K×Value)) (a:K):Option Value:=(kIdx l a).map (·.2)
def kSet {K:Type} [DecidableEq K]:List (K×Value)→K→Value→List (K×Value)
  | [],a,v=>[(a,v)]
  | x::l,a,v=>if x.1=a then (a,v)::l else x::kSet l a v
structure KeyOk {K:Type} [DecidableEq K] (P:Program) (T k E:TypeId) (kv:K→Value) (ok:K→Prop):Prop where
  und:P.underlying T=some (.map k E)
  desc:∃ d,P.underlying k=some d∧∀ a b,Instr.sameNow d (kv a) (kv b)=none
  check:∀ (e:Bool) (a:K) (w:World),ok a→(Instr.checkKey e 10000 k (kv a)).run P w = .ok () w
  same:∀ (a b:K) (w:World),ok a→ok b→(Op.equal k (kv a) (kv b)).run P w = .ok (decide (a=b)) w
  bits:∀ a:K,Instr.sameBits 10000 (kv a) (kv a)=true
section
variable {K:Type} [DecidableEq K] {kv:K→Value} {ok:K→Prop}
theorem Bq5:∀ (l:List (K×Value)) (i:Nat),(entsK kv i l).length=l.length
  | [],_=>rfl
  | _::l,i=>by simp [entsK,Bq5 l (i + 1)]
theorem AY9:∀ (l:List (K×Value)) (i:Nat) (x:K×Value),entsK kv i (l++[x])=entsK kv i l++[{ key:=kv x.1,val:=x.2,born:=i + l.length }]
  | [],i,x=>by simp [entsK]
  | y::l,i,x=>by
    simp only [List.cons_append,entsK,AY9 l (i + 1) x,List.length_cons];rw [show i + 1 + l.length=i + (l.length + 1) by omega]
theorem AQ8 {e:MapEntry}:∀ (l:List (K×Value)) (i:Nat),e∈entsK kv i l→∃ j,∃ h:j < l.length,e={ key:=kv l[j].1,val:=l[j].2,born:=i + j }
  | [],i,h=>by cases h
  | x::l,i,h=>by
    rcases List.mem_cons.1 h with rfl | h
    · exact ⟨0,by simp,rfl⟩
    · obtain ⟨j,hj,rfl⟩:=AQ8 l (i + 1) h
      exact ⟨j + 1,by simpa using hj,by simp;omega⟩
theorem Be6:∀ (l:List (K×Value)) (i j:Nat) (h:j < l.length),({ key:=kv l[j].1,val:=l[j].2,born:=i + j }:MapEntry)∈entsK kv i l
  | x::l,i,0,_=>by simp [entsK]
  | x::l,i,j + 1,h=>by
    have:=Be6 l (i + 1) j (by simpa using h)
    rw [show i + 1 + j=i + (j + 1) by omega] at this;exact List.mem_cons_of_mem _ this
theorem AQ7:∀ (l:List (K×Value)) (i:Nat),((entsK kv i l).map (·.born)).Nodup∧∀ b∈(entsK kv i l).map (·.born),i≤b
  | [],_=>by simp [entsK]
  | x::l,i=>by
    obtain ⟨h1,h2⟩:=AQ7 l (i + 1);simp only [entsK,List.map_cons,List.nodup_cons,List.mem_cons,forall_eq_or_imp];exact ⟨⟨fun h=>by have:=h2 _ h;omega,h1⟩,Nat.le_refl _,fun b hb=>by have:=h2 b hb;omega⟩
theorem Bn7 {a:K}:∀ {l:List (K×Value)},kIdx l a=none→∀ v,kSet l a v=l++[(a,v)]
  | [],_,_=>rfl
  | x::l,h,v=>by
    unfold kIdx at h
    split at h
    · cases h
    · rename_i hx
      have h2:kIdx l a=none:=by cases hg:kIdx l a with
        | none=>rfl
        | some p=>rw [hg] at h;cases h
      unfold kSet;rw [if_neg hx,Bn7 h2 v];rfl
theorem Bn6 {a:K} {p:Nat×Value}:∀ {l:List (K×Value)} (i:Nat),kIdx l a=some p→∀ v,(entsK kv i (kSet l a v))=(entsK kv i l).modify p.1 (fun e=>{ e with key:=kv a,val:=v })∧(kSet l a v).length=l.length∧((entsK kv i l)[p.1]?).map (·.key)=some (kv a)
  | [],_,h,_=>by cases h
  | x::l,i,h,v=>by
    unfold kIdx at h
    split at h
    · rename_i hx
      cases h
      unfold kSet;rw [if_pos hx];refine ⟨rfl,rfl,?_⟩
      simp [entsK,hx]
    · rename_i hx
      cases hg:kIdx l a with
      | none=>rw [hg] at h;cases h
      | some q =>
        rw [hg] at h
        cases h
        obtain ⟨h1,h2,h3⟩:=Bn6 (i + 1) hg v;unfold kSet;rw [if_neg hx];refine ⟨?_,by simp [h2],?_⟩
        · simp only [entsK,h1]
          rfl
        · simpa [entsK] using h3
variable {P:Program} {T k E:TypeId}
theorem KeyOk.asking (h:KeyOk P T k E kv ok) {a:K} (ha:ok a) (w:World):∀ (l:List (K×Value)) (i j:Nat),(∀ x∈l,ok x.1)→(Instr.findAsking k (kv a) (entsK kv i l) j).run P w = .ok ((kIdx l a).map fun p=>(j + p.1,p.2)) w
  | [],_,_,_=>rfl
  | x::l,i,j,hl=>by
    unfold entsK Instr.findAsking kIdx;have h1:=h.same a x.1 w ha (hl x (by simp))
    by_cases hx:x.1=a
    · rw [hx] at h1 ⊢
      simp at h1
      simp [h1]
    · have hx2:¬ a=x.1:=fun e=>hx e.symm
      simp only [hx2,decide_false] at h1;simp only [Sem.run_bind,h1,Result.andThen_ok,Bool.false_eq_true,if_false,if_neg hx,KeyOk.asking h ha w l (i + 1) (j + 1) (fun y hy=>hl y (List.mem_cons_of_mem _ hy))]
      cases kIdx l a with
      | none=>rfl
      | some p=>simp;omega
theorem KeyOk.find (h:KeyOk P T k E kv ok) {a:K} (ha:ok a) (l:List (K×Value)) (hl:∀ x∈l,ok x.1) (w:World):(Instr.findKey k (kv a) (entsK kv 0 l)).run P w = .ok (kIdx l a) w:=by
  obtain ⟨d,hu,hd⟩:=h.desc;have h2:=h.asking ha w l 0 0 hl;have e:((kIdx l a).map fun p=>(0 + p.1,p.2))=kIdx l a:=by cases kIdx l a <;> simp
  rw [e] at h2
  cases l with
  | nil=>simp [Instr.findKey,run_underlying hu,entsK,Instr.findNow,kIdx]
  | cons x l =>
    have h3:Instr.findNow d (kv a) (entsK kv 0 (x::l)) 0=none:=by
      unfold entsK Instr.findNow;rw [hd]
    simp [Instr.findKey,run_underlying hu,h3,h2]
theorem Ar5 (h:KeyOk P T k E kv ok) {w:World} {b:Nat} {l:List (K×Value)} {a:K} {v:Value} (hb:w.heap[b]? = some (mapK kv l)) (ha:ok a) (hl:∀ x∈l,ok x.1) :
    (Instr.mapUpdate T (.map (some b)) (kv a) v).run P w = .ok () { w with heap:=w.heap.setIfInBounds b (mapK kv (kSet l a v)) }:=by
  have hf:=h.find ha l hl w;unfold mapK at hb
  cases hk:kIdx l a with
  | none =>
    rw [hk] at hf
    have e1:mapK kv (kSet l a v) = .map ((entsK kv 0 l).toArray.push { key:=kv a,val:=v,born:=l.length }) (l.length + 1):=by
      unfold mapK;rw [Bn7 hk,AY9];simp
    rw [e1];simp only [Instr.mapUpdate,Sem.run_bind,run_underlying h.und,Result.andThen_ok,MapKept.run_getObj_map hb,h.check false a w ha,hf,MapKept.run_setObj_map _ hb]
  | some p =>
    rw [hk] at hf;obtain ⟨h1,h2,h3⟩:=Bn6 (kv:=kv) 0 hk v
    have e1:mapK kv (kSet l a v) = .map ((entsK kv 0 l).toArray.modify p.1 fun e=>{ e with key:=kv a,val:=v }) l.length:=by
      unfold mapK;rw [h1,h2,List.modify_toArray]
    have h4:(((entsK kv 0 l).toArray[p.1]?).map (·.key)).getD (kv a)=kv a:=by
      rw [List.getElem?_toArray,h3];rfl
    have h5:(Instr.keyThatStays (kv a) (kv a)).run P w = .ok (kv a) w:=by
      unfold Instr.keyThatStays;rw [if_pos (h.bits a)];rfl
    rw [e1];simp only [Instr.mapUpdate,Sem.run_bind,run_underlying h.und,Result.andThen_ok,MapKept.run_getObj_map hb,h.check false a w ha,hf,h4,h5,MapKept.run_setObj_map _ hb]
end
section
variable {K:Type} [DecidableEq K] {kv:K→Value} {ok:K→Prop} {k E:TypeId} {l:List (K×Value)}
variable {P:Program} {ops:Array Oper} {Q:Exit→Act→World→Prop} {n:Nat} {r:Regs} {ds:List Deferred} {W:World} {chg news:Blks} {rest:List Oper}
variable {d:Nat} {ty:TypeId} {pos:String} {after:Array Edge} {dst:Option Tmp} {gd:Option (Nat×Bool)}
theorem AS1 {x i:Operand} {T:TypeId} {b:Nat} {a:K} {z:Value} (hT:KeyOk P T k E kv ok) (hx:rev r x=some (.map (some b))) (hi:rev r i=some (kv a)) (hb:∀ w,Mem W chg news w→w.heap[b]? = some (mapK kv l)) (ha:ok a) (hl:∀ x∈l,ok x.1) (hz:zeroV P E=some z) :
    Val P r W chg news { dst,op:=.lookup T x i true,type:=ty,pos,after,guard:=gd } (.tuple #[(kFind l a).getD z,.bool (kFind l a).isSome]) :=
  ⟨fun ac w hag hm=>by
    have hbb:w.heap[b]? = some (.map (entsK kv 0 l).toArray l.length):=hb w hm
    have hzz:(zeroValue E).run P w = .ok z w:=by
      unfold zeroV at hz
      cases hi:P.info? E with
      | none=>simp [hi] at hz
      | some i =>
        simp [hi] at hz
        simp [zeroValue,typeInfo,hi,hz]
    unfold kFind;simp only [execOp,hag.eval hx,hag.eval hi,Instr.lookup,Sem.run_bind,run_underlying hT.und,Result.andThen_ok,MapKept.run_getObj_map hbb,Sem.run_pure,hT.check _ a w ha,hT.find ha l hl w]
    cases h:kIdx l a with
    | none=>simp [hzz]
    | some p=>simp⟩
theorem Bt5 {x i y:Operand} {T:TypeId} {b:Nat} {a:K} {v:Value} {chg':Blks} (hT:KeyOk P T k E kv ok) (hx:rev r x=some (.map (some b))) (hi:rev r i=some (kv a)) (hy:rev r y=some v) (ha:ok a) (hl:∀ x∈l,ok x.1) (hu:Upd chg b (mapK kv l) (mapK kv (kSet l a v)) chg') :
    Sto P r W chg news { dst,op:=.mapUpdate T x i y,type:=ty,pos,after,guard:=gd } chg' news :=
  ⟨fun ac w hag hm=>by
    have hb:=(hm.chgd _ _ hu.mem).2;obtain ⟨s1,s2⟩:=Aj6 (o':=mapK kv (kSet l a v)) hb;refine ⟨{ w with heap:=w.heap.setIfInBounds b (mapK kv (kSet l a v)) },by simp [execOp,hag.eval hx,hag.eval hi,hag.eval hy,Ar5 hT hb ha hl],hm.upd_chg hu rfl rfl rfl (by simp) (fun k _ hk=>s2 k hk) s1⟩⟩
theorem Bt4 {x i y:Operand} {T:TypeId} {b:Nat} {a:K} {v:Value} {news':Blks} (hT:KeyOk P T k E kv ok) (hx:rev r x=some (.map (some b))) (hi:rev r i=some (kv a)) (hy:rev r y=some v) (ha:ok a) (hl:∀ x∈l,ok x.1) (hu:Upd news b (mapK kv l) (mapK kv (kSet l a v)) news') :
    Sto P r W chg news { dst,op:=.insert T x i y,type:=ty,pos,after,guard:=gd } chg news' :=
  ⟨fun ac w hag hm=>by
    have hb:=(hm.newd _ _ hu.mem).2;obtain ⟨s1,s2⟩:=Aj6 (o':=mapK kv (kSet l a v)) hb;refine ⟨{ w with heap:=w.heap.setIfInBounds b (mapK kv (kSet l a v)) },by simp [execOp,hag.eval hx,hag.eval hi,hag.eval hy,Ar5 hT hb ha hl],hm.upd_new hu rfl rfl rfl (by simp) (fun k _ hk=>s2 k hk) s1⟩⟩
theorem Ay2 {T:TypeId}:New P r W chg news { dst,op:=.makeMap T none,type:=ty,pos,after,guard:=gd } (fun b=>.map (some b)) (mapK kv []) :=
  ⟨fun a w _ _=>by simp [execOp,Instr.makeMap,newObj,Sem.run,mapK,entsK]⟩
theorem Bt2 {x:Operand} {T:TypeId} {b:Nat} (hT:KeyOk P T k E kv ok) (hx:rev r x=some (.map (some b))) (hb:∀ w,Mem W chg news w→w.heap[b]? = some (mapK kv l)) :
    Val P r W chg news { dst,op:=.call { callee:=.builtin .len,args:=#[x],argTypes:=#[T] },type:=ty,pos,after,guard:=gd } (.int .i64 (l.length:Int)) :=
  ⟨fun a w hag hm=>by
    have hbb:w.heap[b]? = some (.map (entsK kv 0 l).toArray l.length):=hb w hm;rw [BigFrame.execOp_builtin,BigFrame.builtin_len];simp [hag.eval hx,Builtin.len_,run_underlying hT.und,MapKept.run_getObj_map hbb,Bq5,goInt]⟩
def itK {K:Type} (m:Nat) (l:List (K×Value)) (x:List Nat):Obj:=.mapIter (some m) l.length x.toArray l.length
theorem BO4 {x:Operand} {T:TypeId} {m:Nat} (hT:KeyOk P T k E kv ok) (hx:rev r x=some (.map (some m))) (hb:∀ w,Mem W chg news w→w.heap[m]? = some (mapK kv l)) :
    New P r W chg news { dst,op:=.range T x,type:=ty,pos,after,guard:=gd } (fun b=>.pointer (some ⟨b,0,none⟩)) (itK m l []) :=
  ⟨fun a w ha hm=>by
    have hb':w.heap[m]? = some (.map (entsK kv 0 l).toArray l.length):=hb w hm;simp [execOp,ha.eval hx,Instr.range,run_underlying hT.und,MapKept.run_getObj_map hb',newObj,Sem.run,itK]⟩
theorem BN8 {it:Operand} {rb m:Nat} {x:List Nat} {news':Nat→Blks} (hx:rev r it=some (.pointer (some ⟨rb,0,none⟩))) (hm0:∀ w,Mem W chg news w→w.heap[m]? = some (mapK kv l)) (hu:∀ i,Upd news rb (itK m l x) (itK m l (x++[i])) (news' i)) (hn:Nat.ble (d + 1) n=true)
    (h1:∀ i (hi:i < l.length),i ∉ x→RunL P ops Q n rest ((d,.tuple #[.bool true,kv l[i].1,l[i].2])::r) ds W chg (news' i))
    (h2:(∀ i,i < l.length→i∈x)→RunL P ops Q n rest ((d,.tuple #[.bool false])::r) ds W chg news) :
    RunL P ops Q n ({ dst:=some d,op:=.next it false,type:=ty,pos,after,guard:=none }::rest) r ds W chg news:=fun a w s =>
  wpList_plain rfl fun K hK=>by
    have hr:w.heap[rb]? = some (.mapIter (some m) l.length x.toArray l.length):=(s.mem.newd _ _ (hu 0).mem).2;have hb:w.heap[m]? = some (.map (entsK kv 0 l).toArray l.length):=hm0 w s.mem;have hev:=s.agree.eval hx
    have hlt:∀ e∈(entsK kv 0 l).toArray.toList,e.born < l.length:=fun e he=>by
      obtain ⟨j,hj,rfl⟩:=AQ8 l 0 (by simpa using he);simpa using hj
    unfold Oper.wp
    rcases run_next_at (P:=P) w ty rb m l.length l.length x.toArray (entsK kv 0 l).toArray l.length hr hb hlt (Nat.le_refl _) with ⟨h0,hrun⟩ | ⟨e,he,w1,hw1,hrun⟩
    · simp [execOp,hev,hrun]
      refine hK _ _ (h2 (fun i hi=>?_) _ _ (s.put (Nat.le_of_ble_eq_true hn) _))
      by_cases hc:i∈x
      · exact hc
      · exfalso
        have hin:({ key:=kv l[i].1,val:=l[i].2,born:=0 + i }:MapEntry)∈leftOf (entsK kv 0 l).toArray x.toArray:=by
          unfold leftOf;simp only [Array.mem_filter,List.mem_toArray];exact ⟨Be6 l 0 i hi,by simpa using hc⟩
        have:=Array.size_pos_of_mem hin
        omega
    · have he2:e∈(entsK kv 0 l)∧e.born ∉ x:=by
        have h3:e∈leftOf (entsK kv 0 l).toArray x.toArray:=by simpa using he
        unfold leftOf at h3;simp only [Array.mem_filter,List.mem_toArray] at h3;exact ⟨h3.1,by simpa using h3.2⟩
      obtain ⟨j,hj,rfl⟩:=AQ8 l 0 he2.1;have hjx:j ∉ x:=by simpa using he2.2
      simp [execOp,hev,hrun]
      refine hK _ _ (h1 j hj hjx _ _ ?_)
      have s2:=s.put (Nat.le_of_ble_eq_true hn) (.tuple #[.bool true,kv l[j].1,l[j].2]);have hr1:w1.heap[rb]? = some (.mapIter (some m) l.length x.toArray l.length):=by rcases hw1 with rfl | rfl <;> exact hr
      obtain ⟨q1,q2⟩:=Aj6 (o':=itK m l (x++[j])) hr1
      have hmem1:Mem W chg news w1:=by
        rcases hw1 with rfl | rfl
        · exact s.mem
        · exact s.mem.drew
      refine ⟨s2.size,s2.agree,s2.defers,?_⟩
      have e1:ChangeMaps.setBlock w1 rb (.mapIter (some m) l.length (x++[j]).toArray l.length)={ w1 with heap:=w1.heap.setIfInBounds rb (itK m l (x++[j])) }:=by
        simp [ChangeMaps.setBlock,itK]
      rw [e1];exact hmem1.upd_new (hu j) rfl rfl rfl (by simp) (fun k _ hk=>q2 k hk) q1
theorem BN7 {x:Operand} {rb m i:Nat} {xs:List Nat} {v:Value} (hx:rev r x=some (.pointer (some ⟨rb,0,none⟩))) (hr:∀ w,Mem W chg news w→w.heap[rb]? = some (itK m l (xs++[i]))) (hm0:∀ w,Mem W chg news w→w.heap[m]? = some (mapK kv l)) (hi:i < l.length) (hv:Value.tuple #[kv l[i].1,l[i].2]=v) :
    Val P r W chg news { dst,op:=.entry x,type:=ty,pos,after,guard:=gd } v :=
  ⟨fun a w ha hm=>by
    subst hv;have h1:w.heap[rb]? = some (.mapIter (some m) l.length (xs.toArray.push (0 + i)) l.length):=by rw [hr w hm];simp [itK]
    have h2:w.heap[m]? = some (.map (entsK kv 0 l).toArray l.length):=hm0 w hm
    have:=run_entry_at (P:=P) w rb m l.length xs.toArray (entsK kv 0 l).toArray l.length { key:=kv l[i].1,val:=l[i].2,born:=0 + i } h1 h2 (by simpa using Be6 l 0 i hi) (by simpa using (AQ7 l 0).1)
    simp [execOp,ha.eval hx,this]⟩
end
/-! ### Keys that are numbers in a row -/
def ka (l:List Int):Value:=.agg (l.map (Value.int .i64)).toArray
def mapKB' (P:Program) (T:TypeId):Option (TypeId×TypeId):=match P.underlying T with
  | some (.map k e)=>some (k,e)
  | _=>none
def arrIntB (P:Program) (k:TypeId):Option Nat:=match P.underlying k with
  | some (.array n e)=>if (P.underlying e).any isIntD && ((P.info? e).map (·.size) == some 1) then some n else none
  | _=>none
theorem BH2:∀ (m:Nat) (l:List Int),((l.map (Value.int .i64)).zip (l.map (Value.int .i64))).all (fun p=>Instr.sameBits (m + 1) p.1 p.2)=true
  | _,[]=>rfl
  | m,x::l=>by
    simp only [List.map_cons,List.zip_cons_cons,List.all_cons,Bool.and_eq_true];exact ⟨by simp [Instr.sameBits],BH2 m l⟩
theorem BW4 (l:List Int):Instr.sameBits 10000 (ka l) (ka l)=true:=by
  have h:=BH2 9998 l;rw [show (10000:Nat)=9999 + 1 from rfl];unfold ka Instr.sameBits;simpa using h
theorem KeyOk.arr {P:Program} {T k E:TypeId} {n:Nat} (hm:mapKB' P T=some (k,E)) (ha:arrIntB P k=some n) (hagg:aggB P k=true)
    (heq:∀ a b:List Int,a.length=n→b.length=n→eqF P 8 k (a.map (Value.int .i64)) (b.map (Value.int .i64))=some (decide (a=b))):KeyOk P T k E ka (fun l=>l.length=n):=by
  have hu:P.underlying T=some (.map k E):=by
    unfold mapKB' at hm
    split at hm
    · rename_i hu;cases hm;exact hu
    · cases hm
  obtain ⟨e,q,h1,h2,h3⟩:∃ e q,P.underlying k=some (.array n e)∧P.underlying e=some (.int q)∧∃ i,P.info? e=some i∧i.size=1:=by
    unfold arrIntB at ha
    split at ha
    · rename_i m e hk
      split at ha
      · rename_i hc
        cases ha
        simp only [Bool.and_eq_true,beq_iff_eq] at hc;obtain ⟨q,hq⟩:=AC0 hc.1
        cases hi:P.info? e with
        | none=>rw [hi] at hc;exact absurd hc.2 (by simp)
        | some i=>rw [hi] at hc;exact ⟨e,q,hk,hq,i,hi,by simpa using hc.2⟩
      · cases ha
    · cases ha
  obtain ⟨i,hi,hs⟩:=h3;refine ⟨hu,⟨_,h1,fun a b=>rfl⟩,fun ee a w hla=>?_,fun a b w hla hlb=>?_,BW4⟩
  · have hx:∀ v,(Instr.checkKey ee 9999 e (.int .i64 v)).run P w = .ok () w:=fun v=>by
      rw [show (9999:Nat)=9998 + 1 from rfl];unfold Instr.checkKey;simp [run_underlying h2]
    have hp:∀ j (hj:j < a.length),(part e (a.map (Value.int .i64)).toArray j).run P w = .ok (.int .i64 a[j]) w:=fun j hj=>Al1 h2 rfl (by simp [hj])
    have hsz:(sizeOf e).run P w = .ok 1 w:=by simp [sizeOf,typeInfo,hi,hs]
    have loop:∀ (js:List Nat),(∀ j∈js,j < a.length)→(forIn (m:=Sem) js PUnit.unit fun i _=>do
        Instr.checkKey ee 9999 e (← part e (a.map (Value.int .i64)).toArray (i * (← sizeOf e)))
        pure (ForInStep.yield PUnit.unit)).run P w = .ok PUnit.unit w:=by
      intro js
      induction js with
      | nil=>intro _;rfl
      | cons j js ih =>
        intro hjs
        have:=ih (fun x hx=>hjs x (List.mem_cons_of_mem _ hx))
        simp only [List.forIn_cons,Sem.run_bind,hsz,Result.andThen_ok,Nat.mul_one,hp j (hjs j (by simp)),hx,Sem.run_pure,this]
    rw [show (10000:Nat)=9999 + 1 from rfl];unfold Instr.checkKey ka;simp only [Sem.run_bind,run_underlying h1,Result.andThen_ok]
    have:=loop (List.range' 0 n 1) (fun j hj=>by simp [List.mem_range'_1] at hj;omega)
    simp at this
    simp [this]
  · have h4:=Bv7 9992 8 k _ _ _ w (heq a b hla hlb)
    rw [(Au4 hagg _).2,(Au4 hagg _).2] at h4;exact h4
end Go.Eng
/- The engine: ranges over functions whose iterator has blocks of its own, wherever they stand; loops whose rounds leave marks. No program is in sight. -/
namespace Go.Eng
open Go Go.RowKit
section
variable {P:Program} {ops:Array Oper} {Q:Exit→Act→World→Prop} {n:Nat} {r:Regs} {ds:List Deferred} {W:World} {chg news:Blks}
/-! ### Loops whose rounds leave marks among the deferred calls -/
def RoundD {X:Type} (n:Nat) (Dl:Nat→X→List Deferred) (W:World) (C:Nat→X→Blks) (N:Nat) (Inv:Nat→X→Prop) (R:Nat→X→Regs) (Nw:Nat→X→Blks) (k:Nat) (a:Act) (w:World):Prop :=
  ∃ k' x,k < k'∧k'≤N∧Inv k' x∧St n (R k' x) (Dl k' x) W (C k' x) (Nw k' x) a w
theorem Ba4 {X:Type} {body:Code} {q:Regs} (Dl:Nat→X→List Deferred) (n0:Blks) (N:Nat) (R:Nat→X→Regs→Regs) (C V T:Nat→X→Blks) (Inv:Nat→X→Prop) (x0:X) (hd:ds=Dl 0 x0) (h0:Inv 0 x0) (hc:chg=C 0 x0) (hs:Sub (R 0 x0 q) r) (hn:Pick (V 0 x0++(n0++T 0 x0)) news)
    (hb:∀ k x,k≤N→Inv k x→RunC P (Exit.then (RoundD n Dl W C N Inv (fun k x=>R k x q) (fun k x=>V k x++(n0++T k x)) k) Q) n body (R k x q) (Dl k x) W (C k x) (V k x++(n0++T k x))):RunC P Q n (.loop body) r ds W chg news:=by
  have key:∀ (m k:Nat) (x:X),N - k < m→k≤N→Inv k x→∀ a w,St n (R k x q) (Dl k x) W (C k x) (V k x++(n0++T k x)) a w→Code.rounds P body Q m a w:=by
    intro m
    induction m with
    | zero=>intro k x h;omega
    | succ m ih =>
      intro k x hk hN hi a w s;rw [rounds_succ];refine wp_mono (hb k x hN hi a w s) ?_
      rintro e a2 w2 hq
      cases e with
      | normal =>
        obtain ⟨k',x',h1,h2,h3,s2⟩:=hq;exact ih k' x' (by omega) h2 h3 a2 w2 s2
      | exit id=>exact hq
      | goto l=>exact hq
      | ret=>exact hq
      | panic c=>exact hq
      | outgrown=>exact hq
  intro a w s;subst hc;subst hd;exact wp_loop_rounds _ (key _ 0 x0 (Nat.lt_succ_self _) (Nat.zero_le _) h0 a w (s.pick hs hn))
theorem AS5 {X:Type} {Dl:Nat→X→List Deferred} {C:Nat→X→Blks} {N:Nat} {Inv:Nat→X→Prop} {R:Nat→X→Regs} {Nw:Nat→X→Blks} {k:Nat} (x:X) (hd:ds=Dl (k + 1) x) (hN:k + 1≤N) (hi:Inv (k + 1) x) (hc:chg=C (k + 1) x) (hs:Sub (R (k + 1) x) r) (hn:Pick (Nw (k + 1) x) news) :
    RunE (Exit.then (RoundD n Dl W C N Inv R Nw k) Q) n .normal r ds W chg news:=fun _ _ s=>⟨k + 1,x,Nat.lt_succ_self _,hN,hi,by subst hc;subst hd;exact s.pick hs hn⟩
/-! ### The range itself -/
def AsgB {Y:Type} (n:Nat) (W:World) (R:Y→Regs) (NB:Y→Blks) (A:Blks):Exit→Act→World→Prop
  | .normal,a,w=>∃ y,St n (R y) [] W [] (NB y++A) a w
  | _,_,_=>False
theorem Ax9 {Y:Type} {R:Y→Regs} {NB:Y→Blks} {A:Blks} (y:Y) (hs:Sub (R y) r) (hn:Pick (NB y++A) news):RunE (AsgB n W R NB A) n .normal r [] W [] news:=fun _ _ s=>⟨y,s.pick hs hn⟩
theorem AC4 {α X Y:Type} {g:Operand} {gf N:Nat} {ps:List Nat} {lb:Array Value} {encs:α→List Value} {eb:α→Blks} {itb:Blks} {mis:Int→Value} {S Sp:List α→Prop} {assign body:Code} {q:Regs}
    (RY:α→Y→Regs→Regs) (NB:α→Y→Blks) (U:X→Blks) (Iv:List α→X→Prop) (Stp:Code→X→Prop) (x0:X) (i0:Iv [] x0) (rst:Blks) (_hs:Sub q r) (hn:Pick (U x0++(itb++rst)) news)
    (hlen:∀ x,(encs x).length=ps.length) (hin:(ps.all fun p=>Nat.ble (p + 1) n)=true)
    (hg:rev r g=some (.func (.func gf) #[] lb)) (he:Enters P gf) (hseq:SeqQ P gf lb encs eb itb mis S Sp (fun _ _=>False) N W)
    (hasg:∀ l D ob pre v x tl,Iv pre x→Sp (pre++[v])→RunCR (some l) P (AsgB n W (fun y=>RY v y q) (NB v) ((l,ob)::(D,dfrO)::(eb v++(U x++tl)))) n assign (putsR ps (encs v) r) [] W [] ((l,ob)::(D,dfrO)::(eb v++(U x++tl))))
    (hbody:∀ l D ob pre v y x tl,Iv pre x→Sp (pre++[v])→pre.length < N→RunCR (some l) P (BodyQ2 W l ob (D,dfrO) U tl (Iv (pre++[v])) Stp (fun _ _=>False)) n body (RY v y q) [] W [] (NB v y++((l,ob)::(D,dfrO)::(eb v++(U x++tl)))))
    (hdone:∀ D xs x,S xs→Iv xs x→RunE Q n .normal r ({ target:=.collected D,args:=#[] }::ds) W [] ((D,dfrO)::(U x++rst)))
    (hstop:∀ D c x,Stp c x→RunC P Q n c r ({ target:=.collected D,args:=#[] }::ds) W [] ((D,dfrO)::(U x++rst))) :
    RunC P Q n (.rangeFunc g ps.toArray assign body) r ds W [] news:=fun a w s=>by
  have hm:=s.mem.pick hn;refine (wpIn_wide (n:=9)).1 ?_
  show Code.wpIn (Fr none) 9 P _ Q a w
  refine wpIn_rangeFunc (fun f _=>?_)
  obtain ⟨rc,hrc⟩:∃ rc:LoopState→Option Code→Obj,rc=recO f a.tmps ps.toArray assign body w.heap.size:=⟨_,rfl⟩;obtain ⟨W1,hW1⟩:∃ W1,(w.alloc dfrO).alloc (rc .ready none)=W1:=⟨_,rfl⟩
  have hm1:Mem W [] ((w.heap.size + 1,rc .ready none)::(w.heap.size,dfrO)::(U x0++(itb++rst))) W1:=by
    have h1:=(hm.alloc dfrO).alloc (rc .ready none);rw [hW1] at h1;simpa using h1
  refine ⟨w.heap.size + 1,[{ target:=.collected w.heap.size,args:=#[] }],W1,{ target:=.fn (.func gf) lb,args:=#[.func (.yield (w.heap.size + 1)) #[] #[]] },W1,gf,#[.func (.yield (w.heap.size + 1)) #[] #[]]++lb,W1,?_,?_,fun _ _=>trivial,?_,fun _=>by decide,?_⟩
  · rw [← hW1,hrc];exact run_enterLoop_outer _ _ _ _ _
  · simp only [resolve,s.agree.eval hg]
    simp [go_sem]
  · simp [invoke,go_sem,he _ _]
  refine (hseq (X:=X×LoopState×Option Code) (w.heap.size + 1) (fun y=>(w.heap.size + 1,rc y.2.1 y.2.2)::(w.heap.size,dfrO)::U y.1) (fun pre y=>Iv pre y.1∧y.2=(.ready,none)) (fun y=>∃ c,Stp c y.1∧y.2=(.done,some c)) (fun _ _=>False) rst W1 (x0,.ready,none) ?_ ⟨i0,rfl⟩ (by simpa using hm1)).mono ?_
  · rintro pre v ⟨x,st⟩ tl w1 ⟨hI,rfl⟩ hsp hlen1 hmem0
    have hmem:Mem W [] ((w.heap.size + 1,rc .ready none)::(w.heap.size,dfrO)::(eb v++(U x++tl))) w1:=hmem0.pick (Pick.cnt fun z=>by simp only [List.cons_append,List.count_append,List.count_cons];omega);have hl:w1.heap[w.heap.size + 1]? = some (rc .ready none):=(hmem.newd _ _ (List.mem_cons_self ..)).2;rw [hrc] at hl;have hy:=run_yield (P:=P) (args:=(encs v).toArray) hl (by simp [recO,hlen v]);refine ⟨f,_,_,_,hy,roundIn_of_wpIn trivial ?_⟩
    rw [← hrc] at hl;have hp:=AB5 ps (encs v) a.tmps r (fun p hp=>by rw [s.size];exact Nat.le_of_ble_eq_true (List.all_eq_true.1 hin p hp)) (fun u v hu=>s.agree u v hu)
    have e:(ps.toArray.zip (encs v).toArray).foldl (fun t (pv:Nat×Value)=>t.setIfInBounds pv.1 pv.2) a.tmps=(ps.zip (encs v)).foldl (fun t (pv:Nat×Value)=>t.setIfInBounds pv.1 pv.2) a.tmps:=by
      rw [← Array.foldl_toList,Array.toList_zip]
    have ha:=hasg (w.heap.size + 1) w.heap.size (rc .ready none) pre v x tl hI hsp { tmps:=(ps.zip (encs v)).foldl (fun t (pv:Nat×Value)=>t.setIfInBounds pv.1 pv.2) a.tmps,defers:=[] } w1 ⟨by rw [hp.2];exact s.size,fun u v hu=>hp.1 u v hu,rfl,hmem⟩;rw [← e] at ha;refine Go.wpIn_mono (As8 ha) ?_;intro e1 a2 w2 hq
    cases e1 with
    | normal =>
      obtain ⟨y,s2⟩:=hq;have hmA:Mem W [] ((w.heap.size + 1,rc .ready none)::(NB v y++((w.heap.size,dfrO)::(eb v++(U x++tl))))) w2:=s2.mem.pick (Pick.cnt fun z=>by simp only [List.cons_append,List.count_append,List.count_cons];omega);have hl2:w2.heap[w.heap.size + 1]? = some (rc .ready none):=(hmA.newd _ _ (List.mem_cons_self ..)).2;rw [hrc] at hl2;refine ⟨_,run_beginRound hl2 rfl,?_⟩
      have hm2:=hmA.put (rc .busy none);have eb2:(Obj.loop { state:=.busy,pending:=none,fn:=f,tmps:=a.tmps,params:=ps.toArray,assign:=assign,body:=body,defers:=w.heap.size })=rc .busy none:=by rw [hrc];rfl
      have hb:=hbody (w.heap.size + 1) w.heap.size (rc .busy none) pre v y x tl hI hsp hlen1 a2 _ ⟨s2.size,s2.agree,s2.defers,hm2.pick (Pick.cnt fun z=>by simp only [List.cons_append,List.count_append,List.count_cons];omega)⟩;rw [eb2];refine Go.wpIn_mono (As8 hb) ?_
      have fin:∀ (jump:Option Code) (x':X) (w3:World),Mem W [] ((w.heap.size + 1,rc .busy none)::(w.heap.size,dfrO)::(U x'++tl)) w3 →
          (Instr.endRound (w.heap.size + 1) jump).run P w3 = .ok (.bool jump.isNone) (w3.putObj (w.heap.size + 1) (rc (if jump.isNone then .ready else .done) jump)) ∧
          Mem W [] ((w.heap.size + 1,rc (if jump.isNone then .ready else .done) jump)::(w.heap.size,dfrO)::(U x'++tl)) (w3.putObj (w.heap.size + 1) (rc (if jump.isNone then .ready else .done) jump)):=fun jump x' w3 h3=>by
        have hl3:w3.heap[w.heap.size + 1]? = some (rc .busy none):=(h3.newd _ _ (List.mem_cons_self ..)).2;rw [hrc] at hl3;have h4:=run_endRound (P:=P) jump hl3;refine ⟨by rw [h4,hrc];rfl,h3.put _⟩
      rintro e3 a3 w3 hq3
      cases e3 with
      | normal =>
        obtain ⟨x',hx',h3⟩:=hq3;obtain ⟨h4,h5⟩:=fin none x' w3 h3;exact ⟨_,_,h4,(x',.ready,none),h5,.inl ⟨rfl,hx',rfl⟩⟩
      | ret =>
        obtain ⟨x',hx',h3⟩:=hq3;obtain ⟨h4,h5⟩:=fin (some .ret) x' w3 h3;exact ⟨_,_,h4,(x',.done,some .ret),h5,.inr (.inl ⟨rfl,.ret,hx',rfl⟩)⟩
      | exit id =>
        obtain ⟨x',hx',h3⟩:=hq3;obtain ⟨h4,h5⟩:=fin (some (.exit id)) x' w3 h3;exact ⟨_,_,h4,(x',.done,some (.exit id)),h5,.inr (.inl ⟨rfl,.exit id,hx',rfl⟩)⟩
      | goto t=>exact hq3.elim
      | panic c=>exact hq3.2.elim fun _ h=>h.1.elim
      | outgrown=>exact hq3.elim
    | exit id=>exact hq.elim
    | goto l=>exact hq.elim
    | ret=>exact hq.elim
    | panic c=>exact hq.elim
    | outgrown=>exact hq.elim
  · rintro e w2 ⟨⟨x,st⟩,hmem,hcase⟩
    have hdf:∀ {w':World},Mem W [] ((w.heap.size,dfrO)::(U x++rst)) w'→St n r ({ target:=.collected w.heap.size,args:=#[] }::ds) W [] ((w.heap.size,dfrO)::(U x++rst)) { a with defers:=[{ target:=.collected w.heap.size,args:=#[] }]++a.defers } w':=fun h=>⟨s.size,s.agree,by rw [← s.defers];rfl,h⟩
    have hl0:w2.heap[w.heap.size + 1]? = some (rc st.1 st.2):=(hmem.newd _ _ (List.mem_cons_self ..)).2;rw [hrc] at hl0
    rcases hcase with ⟨v,rfl,⟨xs,hS,hI,rfl⟩ | ⟨c,hc,rfl⟩⟩ | ⟨c,rfl,hc⟩ | ⟨k,xs,rfl,hS,hI,rfl⟩
    · exact ⟨none,_,run_endLoop (P:=P) hl0 (by simp),hdone _ xs x hS hI _ _ (hdf (hmem.putNew _))⟩
    · exact ⟨some c,_,run_endLoop (P:=P) hl0 (by simp),(wpIn_wide (n:=9)).2 (hstop _ c x hc _ _ (hdf (hmem.putNew _)))⟩
    · exact hc.elim
    · exact hS.elim
end
end Go.Eng
/- The engine: regions that draw their order and then hand over; copies that do not fill. No program is in sight. -/
namespace Go.Eng
open Go Go.RowKit
section
variable {ro:Option Nat} {P:Program} {Q:Exit→Act→World→Prop} {n:Nat} {r:Regs} {ds:List Deferred} {W:World} {chg news:Blks}
def QT (K:Act→World→Prop) (Q:Exit→Act→World→Prop):Exit→Act→World→Prop
  | .normal,a,w=>K a w
  | e,a,w=>Q e a w
theorem Cy3 {o:Oper} {a:Act} {w:World} {T K K':Act→World→Prop} (h:∀ a w,K a w→K' a w) (hh:o.wpIn (Fr ro) 9 P a w K (QT T Q)):o.wpIn (Fr ro) 9 P a w K' Q :=
  Oper.wpIn_mono (Q:=Q) h ⟨hh.1,by
    have hh:=hh.2
    generalize (o.semAt (Fr ro).round a.eval).run P w=r at *
    cases r with
    | ok x w'=>cases x <;> simp only [Oper.uponIn] at hh ⊢ <;> first
        | exact hh
        | exact ⟨hh.1,CallsIn.mono hh.2 (fun e w'' he=>by cases e <;> exact he)⟩
        | exact ⟨hh.1,RoundIn.mono hh.2 (fun e w'' he=>by cases e <;> exact he)⟩
    | halt x w'=>cases x <;> simp only [Oper.uponIn] at hh ⊢ <;> exact hh⟩
def hasE (o:Oper) (i:Nat):Bool:=o.after.any fun e=>Region.binds .any e && Nat.beq e.on i
def bkL (l1:List Oper):Bool:=(List.range l1.length).all fun i=>match l1[i]? with
  | some o=>o.guard.isNone && o.after.all fun e=>!Region.binds .any e || Nat.blt e.on i
  | none=>false
def cvL (l1:List Oper) (o:Oper):Bool:=(List.range l1.length).all fun i=>hasE o i || (List.range l1.length).any fun j=>Nat.blt i j && (match l1[j]? with
  | some oj=>hasE oj i
  | none=>false)
def ltL (k:Nat) (l2:List Oper):Bool:=l2.all fun o=>o.after.any fun e=>Region.binds .any e && Nat.ble k e.on
def tlL (l1:List Oper):List Oper→Bool
  | []=>true
  | o::l2=>cvL l1 o && ltL l1.length l2
theorem Bp1 {o:Oper} {i:Nat} (h:hasE o i=true):∃ e∈o.after,Region.binds .any e=true∧e.on=i:=by
  unfold hasE at h;rw [Array.any_eq_true] at h;obtain ⟨j,hj,h⟩:=h;simp only [Bool.and_eq_true] at h;exact ⟨_,Array.getElem_mem hj,h.1,Nat.eq_of_beq_eq_true h.2⟩
variable {l1 l2:List Oper}
theorem Cf6 (hb:bkL l1=true) {i:Nat} {o:Oper} (ho:l1[i]? = some o):o.guard=none∧∀ e∈o.after,Region.binds .any e=true→e.on < i:=by
  unfold bkL at hb;have hi:=(List.getElem?_eq_some_iff.1 ho).1;have h:=List.all_eq_true.1 hb i (List.mem_range.2 hi);rw [ho] at h;simp only [Bool.and_eq_true,Array.all_eq_true] at h;refine ⟨by simpa using h.1,fun e he hbd=>?_⟩
  obtain ⟨j,hj,rfl⟩:=Array.getElem_of_mem he
  have:=h.2 j hj
  rw [hbd] at this;simpa [Nat.blt_eq] using this
abbrev lsF (listed:Array Bool) (m:Nat):Array Bool:=listed++Array.replicate m false
theorem Bm4 {listed:Array Bool} {m i:Nat} (h:i < listed.size) (d:Bool):(lsF listed m).getD i d=listed.getD i d:=by
  simp [lsF,Array.getD_eq_getD_getElem?,Array.getElem?_append_left h]
theorem CK0 {listed:Array Bool} {m i:Nat} (h:listed.size≤i):(lsF listed m).getD i false=false:=by
  simp only [lsF,Array.getD_eq_getD_getElem?,Array.getElem?_append_right h,Array.getElem?_replicate]
  split <;> rfl
theorem BH5 {i:Nat} (h:i < l1.length):((l1++l2).toArray)[i]? = l1.toArray[i]?:=by simp [List.getElem?_append_left h]
theorem CO7 {i:Nat} (h:l1.length≤i):((l1++l2).toArray)[i]? = l2[i - l1.length]?:=by simp [List.getElem?_append_right h]
theorem Bw0 (hb:bkL l1=true) (ht:tlL l1 l2=true) {listed:Array Bool} (hs:listed.size=l1.length) (hcl:Closed l1.toArray listed) {i:Nat} (hun:∃ j,j < l1.length∧listed.getD j true=false) (hr:i∈Region.ready .any (l1++l2).toArray (lsF listed l2.length)):i < l1.length∧i∈Region.ready .any l1.toArray listed:=by
  obtain ⟨h1,o,ho,h2⟩:=mem_ready.1 hr
  rcases Nat.lt_or_ge i l1.length with hi | hi
  · refine ⟨hi,mem_ready.2 ⟨by rw [← h1,Bm4 (by omega)],o,by rw [← ho,BH5 hi],fun e he hbd=>?_⟩⟩
    have hlt:=(Cf6 hb (i:=i) (by rw [BH5 hi] at ho;simpa using ho)).2 e he hbd
    have:=h2 e he hbd
    rwa [Bm4 (by omega)] at this
  · exfalso
    rw [CO7 hi] at ho
    match l2,ht,ho with
    | o0::l3,ht,ho =>
      simp only [tlL,Bool.and_eq_true] at ht
      rcases Nat.eq_or_lt_of_le hi with he | hlt
      · subst he
        simp at ho
        subst ho
        have key:∀ d j,l1.length - j≤d→j < l1.length→listed.getD j false=true:=by
          intro d
          induction d with
          | zero=>intro j h h';omega
          | succ d ih =>
            intro j hd hj;have hc:=List.all_eq_true.1 ht.1 j (List.mem_range.2 hj);rw [Bool.or_eq_true,List.any_eq_true] at hc
            rcases hc with hc | ⟨j2,hj2,hc⟩
            · obtain ⟨e,he,hbd,rfl⟩:=Bp1 hc
              have:=h2 e he hbd
              rwa [Bm4 (by omega)] at this
            · rw [Bool.and_eq_true] at hc
              have hlt2:j < j2:=by simpa [Nat.blt_eq] using hc.1
              have hj2':=List.mem_range.1 hj2;have hc2:=hc.2;rw [List.getElem?_eq_getElem hj2'] at hc2;obtain ⟨e,he,hbd,rfl⟩:=Bp1 hc2;exact hcl j2 l1[j2] (by simp [hj2']) (ih j2 (by omega) hj2') e he hbd
        obtain ⟨j,hj,hf⟩:=hun
        have:=key _ j (Nat.le_refl _) hj
        have e1:listed.getD j true=listed.getD j false:=by simp [Array.getD_eq_getD_getElem?,Array.getElem?_eq_getElem (show j < listed.size by omega)]
        rw [e1,this] at hf
        cases hf
      · have hm:o∈l3:=by
          have:=List.mem_of_getElem? (l:=l3) (i:=i - l1.length - 1) (a:=o) (by
            rw [show i - l1.length=(i - l1.length - 1) + 1 by omega] at ho;simpa using ho)
          exact this
        have h3:=List.all_eq_true.1 ht.2 o hm;rw [Array.any_eq_true] at h3;obtain ⟨j,hj,h3⟩:=h3;simp only [Bool.and_eq_true] at h3;have h4:=h2 _ (Array.getElem_mem hj) h3.1;rw [CK0 (by rw [hs];exact Nat.le_of_ble_eq_true h3.2)] at h4
        cases h4
theorem AP4:∀ (l:List Bool),l.countP (· == false) ≠ 0→∃ i,i < l.length∧l[i]? = some false∧∀ j,j < i→l[j]? = some true
  | [],h=>absurd rfl h
  | false::l,_=>⟨0,by simp,rfl,fun j h=>by omega⟩
  | true::l,h=>by
    obtain ⟨i,h1,h2,h3⟩:=AP4 l (by simpa using h)
    exact ⟨i + 1,by simpa using h1,by simpa using h2,fun j hj=>by
      cases j with
      | zero=>rfl
      | succ j=>simpa using h3 j (by omega)⟩
theorem count_set {l:List Bool} {i:Nat} (h:l[i]? = some false):(l.set i true).countP (· == false) + 1=l.countP (· == false):=by
  induction l generalizing i with
  | nil=>simp at h
  | cons b l ih =>
    cases i with
    | zero=>simp at h;subst h;simp
    | succ i =>
      have:=ih (i:=i) (by simpa using h)
      simp only [List.set_cons_succ,List.countP_cons];omega
theorem BM6 {l:List Bool} (h:l.countP (· == false)=0):l=List.replicate l.length true:=by
  rw [List.eq_replicate_iff];refine ⟨rfl,fun b hb=>?_⟩
  have:=List.countP_eq_zero.1 h b hb
  cases b <;> simp_all
theorem BH7 (hb:bkL l1=true) (ht:tlL l1 l2=true):∀ (fuel:Nat) (listed:Array Bool) (a:Act) (w:World),listed.size=l1.length→Closed l1.toArray listed→listed.toList.countP (· == false)=fuel →
    wpAnyIn (Fr ro) 9 P .any l1.toArray (QT (wpAnyIn (Fr ro) 9 P .any (l1++l2).toArray Q l2.length (lsF (Array.replicate l1.length true) l2.length)) Q) fuel listed a w →
    wpAnyIn (Fr ro) 9 P .any (l1++l2).toArray Q (fuel + l2.length) (lsF listed l2.length) a w
  | 0,listed,a,w,hs,hcl,hc,h=>by
    have e:listed=Array.replicate l1.length true:=by
      apply Array.toList_inj.1
      rw [Array.toList_replicate,← hs,← Array.length_toList];exact BM6 hc
    rw [e,Nat.zero_add];exact h.2
  | fuel + 1,listed,a,w,hs,hcl,hc,h=>by
    obtain ⟨i0,h1,h2,h3⟩:=AP4 listed.toList (by rw [hc];exact Nat.succ_ne_zero _);rw [Array.length_toList] at h1
    have hun:∃ j,j < l1.length∧listed.getD j true=false:=⟨i0,by omega,by
      rw [Array.getElem?_toList] at h2;simp [Array.getD_eq_getD_getElem?,h2]⟩
    rw [show fuel + 1 + l2.length=(fuel + l2.length) + 1 by omega];refine ⟨fun hr=>?_,fun i hi=>?_⟩
    · exfalso
      have hi0:i0 < l1.length:=by omega
      have:i0∈Region.ready .any (l1++l2).toArray (lsF listed l2.length):=mem_ready.2 ⟨by
        rw [Bm4 (by omega)];rw [Array.getElem?_toList] at h2;simp [Array.getD_eq_getD_getElem?,h2],l1[i0],by rw [BH5 hi0];simp [hi0],fun e he hbd=>by
        have hlt:=(Cf6 hb (List.getElem?_eq_getElem hi0)).2 e he hbd;rw [Bm4 (by omega)]
        have:=h3 e.on hlt
        rw [Array.getElem?_toList] at this;simp [Array.getD_eq_getD_getElem?,this]⟩
      rw [hr] at this
      cases this
    · obtain ⟨hik,hir⟩:=Bw0 hb ht hs hcl hun hi
      have h4:=h.2 i hir
      have hgo:(lsF listed l2.length).setIfInBounds i true=lsF (listed.setIfInBounds i true) l2.length:=by
        unfold lsF;rw [Array.setIfInBounds_append];simp [show i < listed.size by omega]
      have hcnt:(listed.setIfInBounds i true).toList.countP (· == false)=fuel:=by
        have hf:=(mem_ready.1 hir).1
        have:listed.toList[i]? = some false:=by
          rw [Array.getElem?_toList,Array.getElem?_eq_getElem (show i < listed.size by omega)];simpa [Array.getD_eq_getD_getElem?,Array.getElem?_eq_getElem (show i < listed.size by omega)] using hf
        have:=count_set this
        rw [Array.toList_setIfInBounds];omega
      have hrec:∀ a' w',wpAnyIn (Fr ro) 9 P .any l1.toArray (QT (wpAnyIn (Fr ro) 9 P .any (l1++l2).toArray Q l2.length (lsF (Array.replicate l1.length true) l2.length)) Q) fuel (listed.setIfInBounds i true) a' w'→wpAnyIn (Fr ro) 9 P .any (l1++l2).toArray Q (fuel + l2.length) ((lsF listed l2.length).setIfInBounds i true) a' w':=fun a' w' h'=>by
        rw [hgo];exact BH7 hb ht fuel _ a' w' (by simpa using hs) (hcl.step hir) hcnt h'
      unfold wpOpIn at h4 ⊢;rw [BH5 hik];have ho:l1.toArray[i]? = some l1[i]:=by simp [hik]
      rw [ho] at h4 ⊢;have hg:=(Cf6 hb (List.getElem?_eq_getElem hik)).1;have hw:∀ y,Region.wanted l1[i] y=true:=fun y=>by unfold Region.wanted;rw [hg]
      simp only [hw,if_true] at h4 ⊢;exact Cy3 hrec h4
theorem AS8 {id:Nat} {l:List Oper} {news0:Blks} (k:Nat) (hm:P.follows .mixedOrders=true) (_hp:Pick news0 news) (hb:bkL (l.take k)=true) (ht:tlL (l.take k) (l.drop k)=true)
    (h:RunA P (l.take k).toArray (QT (wpAnyIn (Fr ro) 9 P .any l.toArray Q (l.drop k).length (lsF (Array.replicate (l.take k).length true) (l.drop k).length)) Q) k (fun c=>c=chg) news0 n (l.take k).toArray.size (Array.replicate (l.take k).toArray.size false) r ds W chg news)
    (hnd:noDefers (l.take k).toArray=true:=by rfl) (hlo:∀ a w,Q .outgrown a w→False:=by exact fun _ _ h=>h):RunCR ro P Q n (.region id l.toArray true) r ds W chg news:=fun a _ s =>
  wpIn_region_any hm (by
    have h1:=Cg1 (ro:=ro) hnd (Bd0 (Q:=QT (wpAnyIn (Fr ro) 9 P .any l.toArray Q (l.drop k).length (lsF (Array.replicate (l.take k).length true) (l.drop k).length)) Q) (fun a w hq=>hlo a w hq)) _ _ _ _ (Ar0 _ _ _ _ (h a _ s.drew Closed.start));have e:l.take k++l.drop k=l:=List.take_append_drop k l;have h2:=BH7 (ro:=ro) (P:=P) (Q:=Q) hb ht (l.take k).toArray.size (Array.replicate (l.take k).toArray.size false) a _ (by simp) Closed.start (by rw [Array.toList_replicate,List.countP_replicate];simp) (by rw [e];exact h1);rw [e] at h2
    have e2:(l.take k).toArray.size + (l.drop k).length=l.toArray.size:=by
      simp
      omega
    have e3:lsF (Array.replicate (l.take k).toArray.size false) (l.drop k).length=Array.replicate l.toArray.size false:=by
      rw [← e2];unfold lsF;simp
    rw [e2,e3] at h2;exact h2)
theorem BI2 {ops:Array Oper} {listed:Array Bool} {fuel:Nat} (h:RunAF ro P ops Q n fuel listed r ds W chg news):RunE (QT (wpAnyIn (Fr ro) 9 P .any ops Q fuel listed) Q) n .normal r ds W chg news:=h
end
section
variable {P:Program} {ops:Array Oper} {Q:Exit→Act→World→Prop} {n:Nat} {r:Regs} {ds:List Deferred} {W:World} {chg news:Blks}
variable {d i:Nat} {ty:TypeId} {pos:String} {after:Array Edge} {K:Act→World→Prop}
theorem BS8 (w:World) (dT sT ty elem g l dCap m sCap:Nat) (q:Option Addr) (cur:List Value) (t:TypeId) (cs:List Value)
    (hu:P.underlying dT=some (.slice elem)) (hs:(P.info? elem).map (·.size)=some 1) (hg:w.heap[g]? = some (.cells cur.toArray t (0,0))) (hn:cs.length=m) (hm:m≤l) (hc:cur.length=l) (hq:q=none→m=0)
    (hsrc:∀ j v,cs[j]? = some v→∃ a,q=some a∧w.cell? (a.add j)=some v) (h1:∀ v∈cs,v.oneCell'=true) :
    (Builtin.copy_ #[dT,sT] ty #[.slice (some ⟨g,0,none⟩) l dCap,.slice q m sCap]).run P w = .ok (goInt m) (w.setRow g (cs++cur.drop m).toArray):=by
  have hst:=run_storeCells_at P g 0 t cs 0 cur.toArray w hg (by simp;omega) h1
  have e1:(cur.toArray.toList.take (0 + 0)++cs++cur.toArray.toList.drop (0 + 0 + cs.length)).toArray=(cs++cur.drop m).toArray:=by
    simp [hn]
  rw [e1] at hst;have hmin:Nat.min m l=m:=Nat.min_eq_left hm
  cases hi:P.info? elem with
  | none=>simp [hi] at hs
  | some i =>
    have hsz:i.size=1:=by simpa [hi] using hs
    cases q with
    | some a =>
      have hl:=run_loadCells_list (P:=P) w a cs (fun j v h=>by obtain ⟨a',h2,h3⟩:=hsrc j v h;cases h2;exact h3);rw [hn] at hl;simp [Builtin.copy_,run_underlying hu,Builtin.lenOf,Builtin.firstCells,sizeOf,typeInfo,hi,hsz,hl,hst,hmin]
    | none =>
      obtain rfl:=hq rfl;have hcs:cs=[]:=List.eq_nil_of_length_eq_zero (by simpa using hn);subst hcs;simp at hst
      simp [Builtin.copy_,run_underlying hu,Builtin.lenOf,Builtin.firstCells,sizeOf,typeInfo,hi,hst]
theorem BN9 {x y:Operand} {T e T0:TypeId} {g l cap m c:Nat} {q:Option Addr} {cur cs cs':List Value} {news':Blks} (ho:ops[i]? = some { dst:=some d,op:=.call { callee:=.builtin .copy,args:=#[x,y],argTypes:=#[T,T] },type:=ty,pos,after,guard:=none }) (hx:rev r x=some (.slice (some ⟨g,0,none⟩) l cap)) (hy:rev r y=some (.slice q m c)) (hT:slB P T=some (e,1)) (hm:m≤l) (hq:q=none→m=0)
    (hu:Upd news g (.cells cur.toArray T0 (0,0)) (.cells cs'.toArray T0 (0,0)) news') (hn:cs.length=m) (hcur:cur.length=l) (hsrc:∀ w,Mem W chg news w→∀ j v,cs[j]? = some v→∃ a,q=some a∧w.cell? (a.add j)=some v) (h1:∀ v∈cs,v.oneCell'=true) (hcs:cs++cur.drop m=cs') (hd:Nat.ble (d + 1) n=true)
    (h:RunK n K ((d,.int .i64 (m:Int))::r) ds W chg news'):RunI P ops Q n i K r ds W chg news:=fun ac w st=>by
  subst hcs;have hb:=(st.mem.newd _ _ hu.mem).2
  obtain ⟨hu2,j,hj,hj1⟩:P.underlying T=some (.slice e)∧∃ j,P.info? e=some j∧j.size=1:=by
    unfold slB at hT
    split at hT
    · rename_i e2 hu
      cases hj:P.info? e2 with
      | none=>simp [hj] at hT
      | some j =>
        simp [hj] at hT
        obtain ⟨rfl,hj1⟩:=hT;exact ⟨hu,j,hj,hj1⟩
    · cases hT
  have hrun:=BS8 (P:=P) w T T ty e g l cap m c q cur T0 cs hu2 (by rw [hj];simp [hj1]) hb hn hm hcur hq (hsrc w st.mem) h1;unfold wpOp;simp only [ho,Region.wanted,if_true];refine .inl ?_;unfold Oper.wp;simp [execOp,resolve,invoke,builtin,st.agree.eval hx,st.agree.eval hy,hrun,Result.andThen]
  refine h _ _ ?_;have e2:goInt m = .int .i64 (m:Int):=rfl;rw [e2];have st2:=st.put (Nat.le_of_ble_eq_true hd) (.int .i64 (m:Int));exact ⟨st2.size,st2.agree,st2.defers,st.mem.upd_new hu rfl rfl rfl (by simp) (fun k _ hk=>setRow_other w g k _ hk) (setRow_heap w g cur.toArray _ T0 _ hb)⟩
theorem AK0 {x y:Operand} {T e:TypeId} {q:Option Addr} {nl cap sz j:Nat} {k:IntKind} {dst:Option Tmp} {gd:Option (Nat×Bool)} (hx:rev r x=some (.slice q nl cap)) (hy:rev r y=some (.int k (j:Int))) (hT:slB P T=some (e,sz)) (h1:j≤cap) (hq:q=none→cap=0) (hp:∀ a,q=some a→a=⟨a.block,a.off,none⟩) :
    Val P r W chg news { dst,op:=.slice T x none (some y) none,type:=ty,pos,after,guard:=gd } (.slice q j cap) :=
  ⟨fun a w ha _=>by
    unfold slB at hT
    split at hT
    · rename_i e2 hu
      cases hj:P.info? e2 with
      | none=>simp [hj] at hT
      | some i =>
        simp [hj] at hT
        obtain ⟨rfl,rfl⟩:=hT;have h4:(j:Int)≤(cap:Int):=by omega
        cases q with
        | none =>
          have h3:=hq rfl;subst h3;have h5:j=0:=by omega
          subst h5;simp [execOp,ha.eval hx,ha.eval hy,Instr.sliceAt,Instr.sureAddr,Instr.slice,Instr.sliceBounds,Instr.sliceBound,asIntOf,run_underlying hu,sizeOf,typeInfo,hj]
        | some ad =>
          have had:=hp ad rfl;rw [had] at hx ⊢
          by_cases h3:cap=0
          · subst h3
            have h5:j=0:=by omega
            subst h5;simp [execOp,ha.eval hx,ha.eval hy,Instr.sliceAt,Instr.sureAddr,Instr.slice,Instr.sliceBounds,Instr.sliceBound,asIntOf,run_underlying hu,sizeOf,typeInfo,hj]
          · simp [execOp,ha.eval hx,ha.eval hy,Instr.sliceAt,Instr.sureAddr,Instr.slice,Instr.sliceBounds,Instr.sliceBound,asIntOf,run_underlying hu,sizeOf,typeInfo,hj,h4,h3,add_plain]
            intro h9;omega
    · cases hT⟩
end
end Go.Eng
/- The engine: calls that may panic, and make blocks of any kind. No program is in sight. -/
namespace Go.Eng
open Go Go.RowKit
section
variable {P:Program} {ops:Array Oper} {Q:Exit→Act→World→Prop} {n:Nat} {r:Regs} {ds:List Deferred} {W:World} {chg news:Blks} {rest:List Oper} {d:Nat}
def TryB {α β:Type} (mis:Int→Value) (x:Except Int α) (v:β→Value) (nw:β→Blks) (W:World) (e:Ending) (w:World):Prop :=
  match x with
  | .error k=>e = .panicked [{ v:=mis k,recovered:=false }]∧Mem W [] [] w
  | .ok _=>∃ b,e = .returned (v b)∧Mem W [] (nw b) w
theorem BB7 {α β:Type} {o:Oper} {f:FuncId} {args:Array Value} {mis:Int→Value} {x:Except Int α} {v:β→Value} {nw:β→Blks} (hi:IsCall P r o f args) (hg:guardB ops r o.guard=some true) (hd:o.dst=some d) (hn:Nat.ble (d + 1) n=true)
    (hc:∀ w,Mem W chg news w→Calls P f args w (TryB mis x v nw w)) (herr:∀ k,x = .error k→RunE Q n (.panic [{ v:=mis k,recovered:=false }]) r ds W chg news)
    (hok:∀ a,x = .ok a→∀ b,RunL P ops Q n rest ((d,v b)::r) ds W chg (nw b++news)):RunL P ops Q n (o::rest) r ds W chg news :=
  RunL.call hg hd (fun a w s=>hi.runs a w s.agree) hc (fun a w e w' s hR=>by
    unfold TryB at hR
    cases x with
    | ok y =>
      obtain ⟨b,rfl,hm⟩:=hR;have s2:=s.put (Nat.le_of_ble_eq_true hn) (v b);exact hok y rfl b _ _ ⟨s2.size,s2.agree,s2.defers,s.mem.trans hm⟩
    | error k =>
      obtain ⟨rfl,hm⟩:=hR;exact herr k rfl a w' ⟨s.size,s.agree,s.defers,s.mem.pass hm⟩)
theorem Bu0 {α β:Type} {fn:Func} {mis:Int→Value} {x:Except Int α} {v:β→Value} {nw:β→Blks} {k:Int} (he:x = .error k) :
    RunE (bodyPost P fn (TryB mis x v nw W)) n (.panic [{ v:=mis k,recovered:=false }]) r [] W [] news:=fun _ w s=>⟨s.defers,by rw [he];exact ⟨rfl,s.mem.drop⟩⟩
theorem BO0 {α β:Type} {fn:Func} {mis:Int→Value} {x:Except Int α} {v:β→Value} {nw:β→Blks} {u:Value} {a:α} (b:β) (hv:ResVs P r news fn u) (he:x = .ok a) (hu:u=v b) (hp:Pick (nw b) news) :
    RunE (bodyPost P fn (TryB mis x v nw W)) n .ret r [] W [] news :=
  RunE.ret (chg:=[]) hv (fun _ hm=>by rw [he];exact ⟨b,by rw [hu],hm.pick hp⟩)
end
end Go.Eng
/- The engine: a field of a struct value that is a struct or an array. No program is in sight. -/
namespace Go.Eng
open Go Go.RowKit
section
variable {P:Program} {r:Regs} {W:World} {chg news:Blks}
variable {ty:TypeId} {pos:String} {after:Array Edge} {dst:Option Tmp} {gd:Option (Nat×Bool)}
def fieldNB (P:Program) (T:TypeId) (i:Nat):Option (Nat×Nat) :=
  match P.underlying T with
  | some (.struct fs)=>match fs[i]? with
    | some f=>match tyB P f.type with
      | some (true,n)=>some (f.offset,n)
      | _=>none
    | none=>none
  | _=>none
end
end Go.Eng
/- The engine: maps with whole numbers as keys, whose entries are put anew. No program is in sight. -/
namespace Go.Eng
open Go Go.RowKit
section
variable {P:Program} {ops:Array Oper} {Q:Exit→Act→World→Prop} {n:Nat} {r:Regs} {ds:List Deferred} {W:World} {chg news:Blks} {rest:List Oper}
variable {d:Nat} {ty:TypeId} {pos:String} {after:Array Edge} {dst:Option Tmp} {gd:Option (Nat×Bool)}
end
end Go.Eng
/- The engine: calls in which something is handed over, so that they may panic with whatever the caller's rounds do. No program is in sight. -/
namespace Go.Eng
open Go Go.RowKit
def GrowQ {β γ:Type} (W0:World) (chg:Blks) (v:β→Value) (nw:β→Blks) (I:β→Prop) (cc:γ→List PanicEntry) (np:γ→Blks) (J:γ→Prop) (e:Ending) (w:World):Prop :=
  (∃ b:β,I b∧e = .returned (v b)∧Mem W0 chg (nw b) w)∨(∃ c:γ,J c∧e = .panicked (cc c)∧Mem W0 chg (np c) w)
section
variable {P:Program} {ops:Array Oper} {Q:Exit→Act→World→Prop} {n:Nat} {r:Regs} {ds:List Deferred} {W:World} {chg news:Blks} {rest:List Oper} {d:Nat}
variable {β γ:Type} {v:β→Value} {nw:β→Blks} {I:β→Prop} {cc:γ→List PanicEntry} {np:γ→Blks} {J:γ→Prop}
theorem AZ8 {o:Oper} {f:FuncId} {args:Array Value} (hi:IsCall P r o f args) (hg:guardB ops r o.guard=some true) (hd:o.dst=some d) (hn:Nat.ble (d + 1) n=true)
    (hc:∀ w,Mem W chg news w→Calls P f args w (GrowQ W chg v nw I cc np J)) (hp:∀ c,J c→RunE Q n (.panic (cc c)) r ds W chg (np c)) (h:∀ b,I b→RunL P ops Q n rest ((d,v b)::r) ds W chg (nw b)):RunL P ops Q n (o::rest) r ds W chg news :=
  RunL.call hg hd (fun a w s=>hi.runs a w s.agree) hc (fun a w e w' s hR=>by
    rcases hR with ⟨b,hI,rfl,hm⟩ | ⟨c,hJ,rfl,hm⟩
    · have s2:=s.put (Nat.le_of_ble_eq_true hn) (v b)
      exact h b hI _ _ ⟨s2.size,s2.agree,s2.defers,hm⟩
    · exact hp c hJ a w' ⟨s.size,s.agree,s.defers,hm⟩)
theorem AZ9 {i:Nat} {K:Act→World→Prop} {o:Oper} {f:FuncId} {args:Array Value} (ho:ops[i]? = some o) (hi:IsCall P r o f args) (hg:guardB ops r o.guard=some true) (hd:o.dst=some d) (hn:Nat.ble (d + 1) n=true)
    (hc:∀ w,Mem W chg news w→Calls P f args w (GrowQ W chg v nw I cc np J)) (hp:∀ c,J c→RunE Q n (.panic (cc c)) r ds W chg (np c)) (h:∀ b,I b→RunK n K ((d,v b)::r) ds W chg (nw b)):RunI P ops Q n i K r ds W chg news :=
  RunI.call ho hi hg hc (fun a w e w' s hR=>by
    rcases hR with ⟨b,hI,rfl,hm⟩ | ⟨c,hJ,rfl,hm⟩
    · have s2:=s.put (Nat.le_of_ble_eq_true hn) (v b)
      simp only [hd];exact h b hI _ _ ⟨s2.size,s2.agree,s2.defers,hm⟩
    · exact hp c hJ a w' ⟨s.size,s.agree,s.defers,hm⟩)
variable {fn:Func}
theorem Ai3 (x:β) (hx:I x) {u:Value} (hv:ResVs P r (chg++news) fn u) (he:u=v x) (hp:Pick (nw x) news):RunE (bodyPost P fn (GrowQ W chg v nw I cc np J)) n .ret r [] W chg news :=
  RunE.ret hv (fun _ hm=>.inl ⟨x,hx,by rw [he],hm.pick hp⟩)
theorem Al9 (c:γ) (hc:J c) {k:List PanicEntry} (hk:cc c=k) (hp:Pick (np c) news):RunE (bodyPost P fn (GrowQ W chg v nw I cc np J)) n (.panic k) r [] W chg news:=fun _ w s =>
  ⟨s.defers,.inr ⟨c,hc,by rw [hk],s.mem.pick hp⟩⟩
end
end Go.Eng
/- The engine: append onto a slice of one's own that is read again later (what lay in its block, up to its length, stays). No program is in sight. -/
namespace Go.Eng
open Go Go.RowKit
def SameB (x y:Own):Prop:=match x,y with
  | none,none=>True
  | some (b,c,_),some (b',c',_)=>b=b'∧c=c'
  | _,_=>False
theorem SameB.rfl' {x:Own}:SameB x x:=by
  match x with
  | none=>trivial
  | some (_,_,_)=>exact ⟨rfl,rfl⟩
theorem SameB.trans {x y z:Own} (h1:SameB x y) (h2:SameB y z):SameB x z:=by
  match x,y,z,h1,h2 with
  | none,none,none,_,_=>trivial
  | some (_,_,_),some (_,_,_),some (_,_,_),⟨a,b⟩,⟨c,d⟩=>exact ⟨a.trans c,b.trans d⟩
theorem SameB.v {x y:Own} (h:SameB x y) (n:Nat):ownV y n=ownV x n:=by
  match x,y,h with
  | none,none,_=>rfl
  | some (_,_,_),some (_,_,_),⟨rfl,rfl⟩=>rfl
def HK (e:TypeId) (x y:Own) (xs:List Value) (K:Blks):Prop:=K=ownB e x xs∨(K=[]∧x ≠ none∧SameB x y)
theorem BA6 {P:Program} {W:World} {chg:Blks} {T e:TypeId} {sz by_ tt:Nat} (hT:apB P T=some (e,sz,by_)) {A B:Blks} {x:Own} {k m c:Nat} {q:Option Addr} {xs ys:List Value} {w:World} (hm:Mem W chg (A++(ownB e x xs++B)) w) (hx:OwnOk sz x k xs)
    (hy:ys.length=m * sz) (hq:q=none→m=0∧c=0) (hm0:0 < m) (hc:∀ j u,ys[j]? = some u→∃ ad,q=some ad∧w.cell? (ad.add j)=some u) (h1:∀ u∈ys,u.oneCell'=true) (b1:k + m≤maxLen) (b2:(k + m) * by_≤140737488355328) :
    ∃ y K w',(Builtin.append_ #[T,T] tt #[ownV x k,.slice q m c]).run P w = .ok (ownV y (k + m)) w'∧OwnOk sz y (k + m) (xs++ys)∧HK e x y xs K∧Mem W chg (A++(ownB e y (xs++ys)++(K++B))) w':=by
  match x,hx,hm with
  | .none,hx,hm =>
    obtain ⟨y,w',hrun,ho,hm'⟩:=Az2 (P:=P) (tt:=tt) hT hm hx hy hq hc h1 b1 b2;exact ⟨y,[],w',hrun,ho,.inl rfl,by simpa using hm'⟩
  | .some (b,cap,r),hx,hm =>
    obtain ⟨c1,c2,c3⟩:=hx.cap b cap r rfl
    by_cases hfit:k + m≤cap
    · obtain ⟨hu,i,z,hi,hz,rfl,rfl,hzs,hsz⟩:=Bg9 hT
      have hown:w.ownsRow W.heap.size e i.size (ownV (some (b,cap,r)) k) k xs:=hx.owns (fun b o hb=>hm.newd b o (List.mem_append_right _ (List.mem_append_left _ hb)));have hlen:(xs++ys).length=(k + m) * i.size:=by rw [List.length_append,hx.len,hy,Nat.add_mul]
      cases q with
      | none=>have:=(hq rfl).1;omega
      | some ad =>
        have hc':∀ j u,ys[j]? = some u→w.cell? (ad.add j)=some u:=fun j u h=>by obtain ⟨ad',h2,h3⟩:=hc j u h;cases h2;exact h3
        obtain ⟨w',hrun,ho,hg⟩:=run_append_fits (P:=P) w W.heap.size T tt e i i.size hu hi rfl b k cap xs hown ad m c ys hy hc' h1 hfit
        rcases ho.2 with ⟨h0,_⟩ | ⟨g,cap',cur,hv,hge,hgb,hnc,hcm,hcs,htk⟩
        · cases h0
        · cases hv
          refine ⟨.some (b,cap,cur.toList.drop ((k + m) * i.size)),[],w',hrun,⟨hlen,fun h=>(by cases h),fun b c r h=>?_⟩,.inr ⟨rfl,by simp,⟨rfl,rfl⟩⟩,?_⟩
          · cases h
            refine ⟨hnc,hcm,?_⟩
            rw [← htk,List.take_append_drop];simpa using hcs
          · refine hm.swap hg (fun b c r h=>?_)
            cases h
            refine ⟨.inl ⟨_,_,rfl⟩,?_⟩
            rw [← htk,List.take_append_drop];simpa using hgb
    · obtain ⟨hu,i,z,hi,hz,rfl,rfl,hzs,hsz⟩:=Bg9 hT
      have hlen:(xs++ys).length=(k + m) * i.size:=by rw [List.length_append,hx.len,hy,Nat.add_mul]
      have hbb:=(hm.newd b (.cells (xs++r).toArray e (0,0)) (List.mem_append_right _ (List.mem_append_left _ (by simp [ownB])))).2
      cases q with
      | none=>have:=(hq rfl).1;omega
      | some ad =>
        have hc':∀ j u,ys[j]? = some u→w.cell? (ad.add j)=some u:=fun j u h=>by obtain ⟨ad',h2,h3⟩:=hc j u h;cases h2;exact h3
        have holds:∀ j u,xs[j]? = some u→w.cell? ((⟨b,0,none⟩:Addr).add j)=some u:=fun j u hj=>by
          have hj':=(List.getElem?_eq_some_iff.1 hj).1;rw [add_plain,Ae6 hbb];simp [List.getElem?_append_left hj',hj]
        obtain ⟨v',w',hrun,ho,hg⟩:=run_append_arg_grows (P:=P) w T tt e i z i.size i.bytes hu hi hz rfl rfl hzs hsz ⟨b,0,none⟩ k cap xs hx.len holds ad m c ys hy hc' (by omega) b1 b2;have hm2:Mem W chg (A++(ownB e none []++(ownB e (some (b,cap,r)) xs++B))) w:=hm
        rcases ho.2 with ⟨rfl,h0⟩ | ⟨g,cap',cur,rfl,hge,hgb,hnc,hcm,hcs,htk⟩
        · omega
        · refine ⟨.some (g,cap',cur.toList.drop ((k + m) * i.size)),_,w',hrun,⟨hlen,fun h=>(by cases h),fun b c r h=>?_⟩,.inl rfl,?_⟩
          · cases h
            refine ⟨hnc,hcm,?_⟩
            rw [← htk,List.take_append_drop];simpa using hcs
          · refine hm2.swap hg (fun b c r h=>?_)
            cases h
            refine ⟨.inr hge,?_⟩
            rw [← htk,List.take_append_drop];simpa using hgb
open Classical in
theorem HK.back {e:TypeId} {sz k m:Nat} {x y y':Own} {xs ys:List Value} {K:Blks} (h:HK e x y xs K) (hs:SameB y y') (hx:OwnOk sz x k xs) (hy:OwnOk sz y' (k + m) (xs++ys)):∃ x',SameB x x'∧OwnOk sz x' k xs∧∀ v,(ownB e x' xs).count v≤(ownB e y' (xs++ys)).count v + K.count v:=by
  rcases h with rfl | ⟨rfl,hn,hxy⟩
  · exact ⟨x,SameB.rfl',hx,fun v=>Nat.le_add_left _ _⟩
  · match x,y,y',hx,hy,hn,hxy,hs with
    | some (b,c,r),some (_,_,_),some (_,_,r'),hx,hy,_,⟨rfl,rfl⟩,⟨rfl,rfl⟩ =>
      refine ⟨some (b,c,ys++r'),⟨rfl,rfl⟩,⟨hx.len,fun h=>(by cases h),fun b' c' r2 h2=>?_⟩,fun v=>?_⟩
      · cases h2
        have h3:=hy.cap b c r' rfl;refine ⟨(hx.cap b c r rfl).1,h3.2.1,?_⟩
        rw [← List.append_assoc];exact h3.2.2
      · refine Nat.le_trans (Nat.le_of_eq (congrArg (List.count v) ?_)) (Nat.le_add_right _ _)
        show [(b,Obj.cells (xs++(ys++r')).toArray e (0,0))]=[(b,Obj.cells (xs++ys++r').toArray e (0,0))]
        rw [List.append_assoc]
section
variable {P:Program} {ops:Array Oper} {Q:Exit→Act→World→Prop} {n d:Nat} {r:Regs} {ds:List Deferred} {W:World} {chg news:Blks} {ty:TypeId} {pos:String} {after:Array Edge} {gd:Option (Nat×Bool)}
theorem AK1 {i:Nat} {K:Act→World→Prop} {s y:Operand} {T e:TypeId} {sz by_:Nat} (A B:Blks) (x:Own) {k m c:Nat} {q:Option Addr} {xs:List Value} (ys:List Value)
    (ho:ops[i]? = some { dst:=some d,op:=.call { callee:=.builtin .append,args:=#[s,y],argTypes:=#[T,T] },type:=ty,pos,after,guard:=gd }) (hgd:guardB ops r gd=some true) (hT:apB P T=some (e,sz,by_)) (hn:news=A++(ownB e x xs++B))
    (hs:rev r s=some (ownV x k)) (hy:rev r y=some (.slice q m c)) (hx:OwnOk sz x k xs) (hl:ys.length=m * sz) (hq:q=none→m=0∧c=0) (hm0:0 < m)
    (hc:∀ w,Mem W chg news w→∀ j u,ys[j]? = some u→∃ ad,q=some ad∧w.cell? (ad.add j)=some u) (h1:∀ u∈ys,u.oneCell'=true) (b1:k + m≤maxLen) (b2:(k + m) * by_≤140737488355328) (hd:Nat.ble (d + 1) n=true)
    (h:∀ z L,OwnOk sz z (k + m) (xs++ys)→HK e x z xs L→RunK n K ((d,ownV z (k + m))::r) ds W chg (A++(ownB e z (xs++ys)++(L++B)))):RunI P ops Q n i K r ds W chg news:=fun a w st=>by
  have hm:=st.mem;rw [hn] at hm;obtain ⟨z,L,w',hrun,hz,hL,hm'⟩:=BA6 (P:=P) (tt:=ty) hT hm hx hl hq hm0 (hc w st.mem) h1 b1 b2;have st2:=st.put (Nat.le_of_ble_eq_true hd) (ownV z (k + m));have hK:=h z L hz hL _ w' ⟨st2.size,st2.agree,st2.defers,hm'⟩;have hg2:=Ae3 (o:={ dst:=some d,op:=.call { callee:=.builtin .append,args:=#[s,y],argTypes:=#[T,T] },type:=ty,pos,after,guard:=gd }) st.agree hgd;unfold wpOp;simp only [ho,hg2,if_true];refine .inl ?_;unfold Oper.wp;simp [execOp,resolve,invoke,builtin,st.agree.eval hs,st.agree.eval hy,hrun,Result.andThen]
  exact hK
theorem Ax6 {i:Nat} {K:Act→World→Prop} (A X Y C:Blks) (hn:news=A++(X++(Y++C))) (h:RunI P ops Q n i K r ds W chg (A++(Y++(X++C)))):RunI P ops Q n i K r ds W chg news:=by
  subst hn;exact Bt8 (Ad8 _) (Pick.cnt fun x=>by simp only [List.count_append];omega) h
end
section
variable {P:Program} {W0:World} {chg:Blks} {β γ:Type} {v:β→Value} {nw nw':β→Blks} {I:β→Prop} {cc:γ→List PanicEntry} {np np':γ→Blks} {J:γ→Prop} {f:FuncId} {args:Array Value} {w:World}
theorem AL5 (h:Calls P f args w (GrowQ W0 chg v nw I cc np J)) (h1:∀ b,Pick (nw' b) (nw b)) (h2:∀ c,Pick (np' c) (np c)):Calls P f args w (GrowQ W0 chg v nw' I cc np' J) :=
  h.mono fun e w' hR=>by
    rcases hR with ⟨b,hI,he,hm⟩ | ⟨c,hJ,he,hm⟩
    · exact .inl ⟨b,hI,he,hm.pick (h1 b)⟩
    · exact .inr ⟨c,hJ,he,hm.pick (h2 c)⟩
end
end Go.Eng
/- The engine: iterators that read blocks which the rounds of the caller's may read as well (they stay as they are). No program is in sight. -/
namespace Go.Eng
open Go Go.RowKit
def SeqAt {α X:Type} (P:Program) (gf:FuncId) (lb:Array Value) (encs:α→List Value) (eb:α→Blks) (itb:Blks) (mis:Int→Value) (S Sp:List α→Prop) (Sq:Int→List α→Prop) (N:Nat) (W0:World) (U:X→Blks):Prop :=
  ∀ (l:Nat) (I:List α→X→Prop) (Ix:X→Prop) (Ip:List PanicEntry→X→Prop) (rest:Blks) (w:World) (x0:X),
    (∀ pre v x tl w1,I pre x→Sp (pre++[v])→pre.length < N→Mem W0 [] (eb v++(U x++tl)) w1→YieldAt (Fr none) 8 P l (encs v).toArray w1 fun e w'=>∃ x',Mem W0 [] (U x'++tl) w'∧((e = .returned (.bool true)∧I (pre++[v]) x')∨(e = .returned (.bool false)∧Ix x')∨(∃ c,e = .panicked c∧Ip c x'))) →
    I [] x0→Mem W0 [] (U x0++(itb++rest)) w →
    CallsIn (Fr none) 8 P gf (#[.func (.yield l) #[] #[]]++lb) w fun e w'=>∃ x',Mem W0 [] (U x'++rest) w' ∧
      ((∃ v,e = .returned v∧((∃ xs,S xs∧I xs x')∨Ix x'))∨(∃ c,e = .panicked c∧Ip c x')∨(∃ k xs,e = .panicked [{ v:=mis k,recovered:=false }]∧Sq k xs∧I xs x'))
def SeqR {α:Type} (P:Program) (gf:FuncId) (lb:Array Value) (encs:α→List Value) (eb:α→Blks) (itb:Blks) (ro:Blks) (mis:Int→Value) (S Sp:List α→Prop) (Sq:Int→List α→Prop) (N:Nat) (W0:World):Prop :=
  ∀ {X:Type} (U:X→Blks),SeqAt P gf lb encs eb itb mis S Sp Sq N W0 (fun x=>ro++U x)
section
variable {α X:Type} {P:Program} {gf:FuncId} {lb:Array Value} {encs:α→List Value} {eb:α→Blks} {itb ro:Blks} {mis:Int→Value} {S Sp:List α→Prop} {Sq:Int→List α→Prop} {N:Nat} {W0:World}
open Classical in
theorem SeqAt.perm {U V:X→Blks} (h:SeqAt P gf lb encs eb itb mis S Sp Sq N W0 V) (hc:∀ x z,(U x).count z=(V x).count z):SeqAt P gf lb encs eb itb mis S Sp Sq N W0 U:=fun l I Ix Ip rest w x0 hy i0 hm =>
  (h l I Ix Ip rest w x0 (fun pre v x tl w1 h1 h2 h3 h4=>Bu5 (hy pre v x tl w1 h1 h2 h3 (h4.pick (Pick.cnt fun z=>by simp only [List.count_append,hc];omega))) fun e w' hR=>by
    obtain ⟨x',hm',hr⟩:=hR;exact ⟨x',hm'.pick (Pick.cnt fun z=>by simp only [List.count_append,hc];omega),hr⟩) i0 (hm.pick (Pick.cnt fun z=>by simp only [List.count_append,hc];omega))).mono fun e w' hR=>by
    obtain ⟨x',hm',hr⟩:=hR;exact ⟨x',hm'.pick (Pick.cnt fun z=>by simp only [List.count_append,hc];omega),hr⟩
theorem SeqR.at' {U:X→Blks} (h:SeqR P gf lb encs eb itb ro mis S Sp Sq N W0) (lp D:Nat) (rc:LoopState×Option Code→Obj):SeqAt P gf lb encs eb itb mis S Sp Sq N W0 (fun y:X×LoopState×Option Code=>(lp,rc y.2)::(D,dfrO)::(ro++U y.1)) :=
  (h (fun y:X×LoopState×Option Code=>(lp,rc y.2)::(D,dfrO)::U y.1)).perm fun y z=>by simp only [List.count_append,List.count_cons];omega
end
section
variable {P:Program} {ops:Array Oper} {Q:Exit→Act→World→Prop} {n:Nat} {r:Regs} {ds:List Deferred} {W:World} {chg news:Blks}
theorem AT0 {α X Y:Type} {g:Operand} {gf N:Nat} {ps:List Nat} {lb:Array Value} {encs:α→List Value} {eb:α→Blks} {itb:Blks} {mis:Int→Value} {S Sp:List α→Prop} {assign body:Code} {q:Regs}
    (RY:α→Y→Regs→Regs) (NB:α→Y→Blks) (U:X→Blks) (Iv:List α→X→Prop) (Stp:Code→X→Prop) (x0:X) (i0:Iv [] x0) (rst:Blks) (_hs:Sub q r) (hn:Pick (U x0++(itb++rst)) news)
    (hlen:∀ x,(encs x).length=ps.length) (hin:(ps.all fun p=>Nat.ble (p + 1) n)=true)
    (hg:rev r g=some (.func (.func gf) #[] lb)) (he:Enters P gf) (hseq:∀ (lp D:Nat) (rc:LoopState×Option Code→Obj),SeqAt P gf lb encs eb itb mis S Sp (fun _ _=>False) N W (fun y:X×LoopState×Option Code=>(lp,rc y.2)::(D,dfrO)::U y.1))
    (hasg:∀ l D ob pre v x tl,Iv pre x→Sp (pre++[v])→RunCR (some l) P (AsgB n W (fun y=>RY v y q) (NB v) ((l,ob)::(D,dfrO)::(eb v++(U x++tl)))) n assign (putsR ps (encs v) r) [] W [] ((l,ob)::(D,dfrO)::(eb v++(U x++tl))))
    (hbody:∀ l D ob pre v y x tl,Iv pre x→Sp (pre++[v])→pre.length < N→RunCR (some l) P (BodyQ2 W l ob (D,dfrO) U tl (Iv (pre++[v])) Stp (fun _ _=>False)) n body (RY v y q) [] W [] (NB v y++((l,ob)::(D,dfrO)::(eb v++(U x++tl)))))
    (hdone:∀ D xs x,S xs→Iv xs x→RunE Q n .normal r ({ target:=.collected D,args:=#[] }::ds) W [] ((D,dfrO)::(U x++rst)))
    (hstop:∀ D c x,Stp c x→RunC P Q n c r ({ target:=.collected D,args:=#[] }::ds) W [] ((D,dfrO)::(U x++rst))) :
    RunC P Q n (.rangeFunc g ps.toArray assign body) r ds W [] news:=fun a w s=>by
  have hm:=s.mem.pick hn;refine (wpIn_wide (n:=9)).1 ?_
  show Code.wpIn (Fr none) 9 P _ Q a w
  refine wpIn_rangeFunc (fun f _=>?_)
  obtain ⟨rc,hrc⟩:∃ rc:LoopState→Option Code→Obj,rc=recO f a.tmps ps.toArray assign body w.heap.size:=⟨_,rfl⟩;obtain ⟨W1,hW1⟩:∃ W1,(w.alloc dfrO).alloc (rc .ready none)=W1:=⟨_,rfl⟩
  have hm1:Mem W [] ((w.heap.size + 1,rc .ready none)::(w.heap.size,dfrO)::(U x0++(itb++rst))) W1:=by
    have h1:=(hm.alloc dfrO).alloc (rc .ready none);rw [hW1] at h1;simpa using h1
  refine ⟨w.heap.size + 1,[{ target:=.collected w.heap.size,args:=#[] }],W1,{ target:=.fn (.func gf) lb,args:=#[.func (.yield (w.heap.size + 1)) #[] #[]] },W1,gf,#[.func (.yield (w.heap.size + 1)) #[] #[]]++lb,W1,?_,?_,fun _ _=>trivial,?_,fun _=>by decide,?_⟩
  · rw [← hW1,hrc];exact run_enterLoop_outer _ _ _ _ _
  · simp only [resolve,s.agree.eval hg]
    simp [go_sem]
  · simp [invoke,go_sem,he _ _]
  refine (hseq (w.heap.size + 1) w.heap.size (fun s=>rc s.1 s.2) (w.heap.size + 1) (fun pre y=>Iv pre y.1∧y.2=(.ready,none)) (fun y=>∃ c,Stp c y.1∧y.2=(.done,some c)) (fun _ _=>False) rst W1 (x0,.ready,none) ?_ ⟨i0,rfl⟩ (by simpa using hm1)).mono ?_
  · rintro pre v ⟨x,st⟩ tl w1 ⟨hI,rfl⟩ hsp hlen1 hmem0
    have hmem:Mem W [] ((w.heap.size + 1,rc .ready none)::(w.heap.size,dfrO)::(eb v++(U x++tl))) w1:=hmem0.pick (Pick.cnt fun z=>by simp only [List.cons_append,List.count_append,List.count_cons];omega);have hl:w1.heap[w.heap.size + 1]? = some (rc .ready none):=(hmem.newd _ _ (List.mem_cons_self ..)).2;rw [hrc] at hl;have hy:=run_yield (P:=P) (args:=(encs v).toArray) hl (by simp [recO,hlen v]);refine ⟨f,_,_,_,hy,roundIn_of_wpIn trivial ?_⟩
    rw [← hrc] at hl;have hp:=AB5 ps (encs v) a.tmps r (fun p hp=>by rw [s.size];exact Nat.le_of_ble_eq_true (List.all_eq_true.1 hin p hp)) (fun u v hu=>s.agree u v hu)
    have e:(ps.toArray.zip (encs v).toArray).foldl (fun t (pv:Nat×Value)=>t.setIfInBounds pv.1 pv.2) a.tmps=(ps.zip (encs v)).foldl (fun t (pv:Nat×Value)=>t.setIfInBounds pv.1 pv.2) a.tmps:=by
      rw [← Array.foldl_toList,Array.toList_zip]
    have ha:=hasg (w.heap.size + 1) w.heap.size (rc .ready none) pre v x tl hI hsp { tmps:=(ps.zip (encs v)).foldl (fun t (pv:Nat×Value)=>t.setIfInBounds pv.1 pv.2) a.tmps,defers:=[] } w1 ⟨by rw [hp.2];exact s.size,fun u v hu=>hp.1 u v hu,rfl,hmem⟩;rw [← e] at ha;refine Go.wpIn_mono (As8 ha) ?_;intro e1 a2 w2 hq
    cases e1 with
    | normal =>
      obtain ⟨y,s2⟩:=hq;have hmA:Mem W [] ((w.heap.size + 1,rc .ready none)::(NB v y++((w.heap.size,dfrO)::(eb v++(U x++tl))))) w2:=s2.mem.pick (Pick.cnt fun z=>by simp only [List.cons_append,List.count_append,List.count_cons];omega);have hl2:w2.heap[w.heap.size + 1]? = some (rc .ready none):=(hmA.newd _ _ (List.mem_cons_self ..)).2;rw [hrc] at hl2;refine ⟨_,run_beginRound hl2 rfl,?_⟩
      have hm2:=hmA.put (rc .busy none);have eb2:(Obj.loop { state:=.busy,pending:=none,fn:=f,tmps:=a.tmps,params:=ps.toArray,assign:=assign,body:=body,defers:=w.heap.size })=rc .busy none:=by rw [hrc];rfl
      have hb:=hbody (w.heap.size + 1) w.heap.size (rc .busy none) pre v y x tl hI hsp hlen1 a2 _ ⟨s2.size,s2.agree,s2.defers,hm2.pick (Pick.cnt fun z=>by simp only [List.cons_append,List.count_append,List.count_cons];omega)⟩;rw [eb2];refine Go.wpIn_mono (As8 hb) ?_
      have fin:∀ (jump:Option Code) (x':X) (w3:World),Mem W [] ((w.heap.size + 1,rc .busy none)::(w.heap.size,dfrO)::(U x'++tl)) w3 →
          (Instr.endRound (w.heap.size + 1) jump).run P w3 = .ok (.bool jump.isNone) (w3.putObj (w.heap.size + 1) (rc (if jump.isNone then .ready else .done) jump)) ∧
          Mem W [] ((w.heap.size + 1,rc (if jump.isNone then .ready else .done) jump)::(w.heap.size,dfrO)::(U x'++tl)) (w3.putObj (w.heap.size + 1) (rc (if jump.isNone then .ready else .done) jump)):=fun jump x' w3 h3=>by
        have hl3:w3.heap[w.heap.size + 1]? = some (rc .busy none):=(h3.newd _ _ (List.mem_cons_self ..)).2;rw [hrc] at hl3;have h4:=run_endRound (P:=P) jump hl3;refine ⟨by rw [h4,hrc];rfl,h3.put _⟩
      rintro e3 a3 w3 hq3
      cases e3 with
      | normal =>
        obtain ⟨x',hx',h3⟩:=hq3;obtain ⟨h4,h5⟩:=fin none x' w3 h3;exact ⟨_,_,h4,(x',.ready,none),h5,.inl ⟨rfl,hx',rfl⟩⟩
      | ret =>
        obtain ⟨x',hx',h3⟩:=hq3;obtain ⟨h4,h5⟩:=fin (some .ret) x' w3 h3;exact ⟨_,_,h4,(x',.done,some .ret),h5,.inr (.inl ⟨rfl,.ret,hx',rfl⟩)⟩
      | exit id =>
        obtain ⟨x',hx',h3⟩:=hq3;obtain ⟨h4,h5⟩:=fin (some (.exit id)) x' w3 h3;exact ⟨_,_,h4,(x',.done,some (.exit id)),h5,.inr (.inl ⟨rfl,.exit id,hx',rfl⟩)⟩
      | goto t=>exact hq3.elim
      | panic c=>exact hq3.2.elim fun _ h=>h.1.elim
      | outgrown=>exact hq3.elim
    | exit id=>exact hq.elim
    | goto l=>exact hq.elim
    | ret=>exact hq.elim
    | panic c=>exact hq.elim
    | outgrown=>exact hq.elim
  · rintro e w2 ⟨⟨x,st⟩,hmem,hcase⟩
    have hdf:∀ {w':World},Mem W [] ((w.heap.size,dfrO)::(U x++rst)) w'→St n r ({ target:=.collected w.heap.size,args:=#[] }::ds) W [] ((w.heap.size,dfrO)::(U x++rst)) { a with defers:=[{ target:=.collected w.heap.size,args:=#[] }]++a.defers } w':=fun h=>⟨s.size,s.agree,by rw [← s.defers];rfl,h⟩
    have hl0:w2.heap[w.heap.size + 1]? = some (rc st.1 st.2):=(hmem.newd _ _ (List.mem_cons_self ..)).2;rw [hrc] at hl0
    rcases hcase with ⟨v,rfl,⟨xs,hS,hI,rfl⟩ | ⟨c,hc,rfl⟩⟩ | ⟨c,rfl,hc⟩ | ⟨k,xs,rfl,hS,hI,rfl⟩
    · exact ⟨none,_,run_endLoop (P:=P) hl0 (by simp),hdone _ xs x hS hI _ _ (hdf (hmem.putNew _))⟩
    · exact ⟨some c,_,run_endLoop (P:=P) hl0 (by simp),(wpIn_wide (n:=9)).2 (hstop _ c x hc _ _ (hdf (hmem.putNew _)))⟩
    · exact hc.elim
    · exact hS.elim
end
end Go.Eng
/- The engine: maps whose keys are structs of three numbers. No program is in sight. -/
namespace Go.Eng
open Go Go.RowKit
def st3B (P:Program) (k:TypeId):Bool:=match P.underlying k with
  | some (.struct fs)=>match fs.toList with
    | [f,g,h]=>decide (f.name ≠ "_") && decide (g.name ≠ "_") && decide (h.name ≠ "_") && f.offset == 0 && g.offset == 1 && h.offset == 2 && (P.underlying f.type).any isIntD && (P.underlying g.type).any isIntD && (P.underlying h.type).any isIntD
    | _=>false
  | _=>false
theorem BQ9 {l:List Int} (h:l.length=3):∃ a b c,l=[a,b,c]:=by
  match l,h with
  | [a,b,c],_=>exact ⟨a,b,c,rfl⟩
theorem KeyOk.st3 {P:Program} {T k E:TypeId} (hm:mapKB' P T=some (k,E)) (ha:st3B P k=true) (hagg:aggB P k=true)
    (heq:∀ a b c a' b' c':Int,eqF P 8 k [.int .i64 a,.int .i64 b,.int .i64 c] [.int .i64 a',.int .i64 b',.int .i64 c']=some (decide (a=a') && (decide (b=b') && (decide (c=c') && true)))):KeyOk P T k E ka (fun l=>l.length=3):=by
  have hu:P.underlying T=some (.map k E):=by
    unfold mapKB' at hm
    split at hm
    · rename_i hu;cases hm;exact hu
    · cases hm
  obtain ⟨f,g,h,q,q',q'',hs,n1,n2,n3,o1,o2,o3,u1,u2,u3⟩:∃ f g h q q' q'',P.underlying k=some (.struct #[f,g,h])∧f.name ≠ "_"∧g.name ≠ "_"∧h.name ≠ "_"∧f.offset=0∧g.offset=1∧h.offset=2∧P.underlying f.type=some (.int q)∧P.underlying g.type=some (.int q')∧P.underlying h.type=some (.int q''):=by
    unfold st3B at ha
    split at ha
    · rename_i fs hk
      split at ha
      · rename_i f g h hfs
        simp only [Bool.and_eq_true,decide_eq_true_eq,beq_iff_eq] at ha;obtain ⟨⟨⟨⟨⟨⟨⟨⟨a1,a2⟩,a3⟩,a4⟩,a5⟩,a6⟩,a7⟩,a8⟩,a9⟩:=ha;obtain ⟨q,hq⟩:=AC0 a7;obtain ⟨q',hq'⟩:=AC0 a8;obtain ⟨q'',hq''⟩:=AC0 a9
        have e:fs = #[f,g,h]:=by
          have:=congrArg List.toArray hfs
          simpa using this
        exact ⟨f,g,h,q,q',q'',by rw [hk,e],a1,a2,a3,a4,a5,a6,hq,hq',hq''⟩
      · cases ha
    · cases ha
  refine ⟨hu,⟨_,hs,fun a b=>rfl⟩,fun e a w hla=>?_,fun a b w hla hlb=>?_,BW4⟩
  · obtain ⟨x,y,z,rfl⟩:=BQ9 hla
    have hi:∀ (t:TypeId) (q:IntKind) (kk:IntKind) (v:Int),P.underlying t=some (.int q)→(Instr.checkKey e 9999 t (.int kk v)).run P w = .ok () w:=fun t q kk v hq=>by
      rw [show (9999:Nat)=9998 + 1 from rfl];unfold Instr.checkKey;simp [run_underlying hq]
    have p1:(part f.type #[.int .i64 x,.int .i64 y,.int .i64 z] 0).run P w = .ok (.int .i64 x) w:=Al1 u1 rfl rfl;have p2:(part g.type #[.int .i64 x,.int .i64 y,.int .i64 z] 1).run P w = .ok (.int .i64 y) w:=Al1 u2 rfl rfl;have p3:(part h.type #[.int .i64 x,.int .i64 y,.int .i64 z] 2).run P w = .ok (.int .i64 z) w:=Al1 u3 rfl rfl;rw [show (10000:Nat)=9999 + 1 from rfl];unfold Instr.checkKey ka;simp [run_underlying hs,n1,n2,n3,o1,o2,o3,p1,p2,p3,hi _ _ _ _ u1,hi _ _ _ _ u2,hi _ _ _ _ u3]
  · obtain ⟨x,y,z,rfl⟩:=BQ9 hla
    obtain ⟨x',y',z',rfl⟩:=BQ9 hlb;have h4:=Bv7 9992 8 k _ _ _ w (heq x y z x' y' z');rw [(Au4 hagg _).2,(Au4 hagg _).2] at h4
    have e9:decide ([x,y,z]=[x',y',z'])=(decide (x=x') && (decide (y=y') && (decide (z=z') && true))):=by
      rw [Bool.eq_iff_iff];simp
    rw [e9];exact h4
section
variable {K:Type} [DecidableEq K] {kv:K→Value} {ok:K→Prop} {k E:TypeId} {l:List (K×Value)}
variable {P:Program} {ops:Array Oper} {Q:Exit→Act→World→Prop} {n:Nat} {r:Regs} {ds:List Deferred} {W:World} {chg news:Blks} {rest:List Oper}
variable {d:Nat} {ty:TypeId} {pos:String} {after:Array Edge} {dst:Option Tmp} {gd:Option (Nat×Bool)}
theorem Bt1 {x i:Operand} {T:TypeId} {b:Nat} {a:K} {z:Value} (hT:KeyOk P T k E kv ok) (hx:rev r x=some (.map (some b))) (hi:rev r i=some (kv a)) (hb:∀ w,Mem W chg news w→w.heap[b]? = some (mapK kv l)) (ha:ok a) (hl:∀ x∈l,ok x.1) (hz:zeroV P E=some z) :
    Val P r W chg news { dst,op:=.lookup T x i false,type:=ty,pos,after,guard:=gd } ((kFind l a).getD z) :=
  ⟨fun ac w hag hm=>by
    have hbb:w.heap[b]? = some (.map (entsK kv 0 l).toArray l.length):=hb w hm
    have hzz:(zeroValue E).run P w = .ok z w:=by
      unfold zeroV at hz
      cases hi:P.info? E with
      | none=>simp [hi] at hz
      | some i =>
        simp [hi] at hz
        simp [zeroValue,typeInfo,hi,hz]
    unfold kFind;simp only [execOp,hag.eval hx,hag.eval hi,Instr.lookup,Sem.run_bind,run_underlying hT.und,Result.andThen_ok,MapKept.run_getObj_map hbb,Sem.run_pure,hT.check _ a w ha,hT.find ha l hl w]
    cases h:kIdx l a with
    | none=>simp [hzz]
    | some p=>simp⟩
theorem Bt3 {x i y:Operand} {T:TypeId} {b:Nat} {a:K} {v:Value} {news':Blks} (hT:KeyOk P T k E kv ok) (hx:rev r x=some (.map (some b))) (hi:rev r i=some (kv a)) (hy:rev r y=some v) (ha:ok a) (hl:∀ x∈l,ok x.1) (hu:Upd news b (mapK kv l) (mapK kv (kSet l a v)) news') :
    Sto P r W chg news { dst,op:=.mapUpdate T x i y,type:=ty,pos,after,guard:=gd } chg news' :=
  ⟨fun ac w hag hm=>by
    have hb:=(hm.newd _ _ hu.mem).2;obtain ⟨s1,s2⟩:=Aj6 (o':=mapK kv (kSet l a v)) hb;refine ⟨{ w with heap:=w.heap.setIfInBounds b (mapK kv (kSet l a v)) },by simp [execOp,hag.eval hx,hag.eval hi,hag.eval hy,Ar5 hT hb ha hl],hm.upd_new hu rfl rfl rfl (by simp) (fun k _ hk=>s2 k hk) s1⟩⟩
theorem BW6 {l:List (K×Value)} {a:K} {v:Value} (h:kFind l a=some v):(a,v)∈l:=by
  induction l with
  | nil=>cases h
  | cons x l ih =>
    unfold kFind kIdx at h
    split at h
    · rename_i hx
      simp at h
      subst hx h;simp
    · rw [Option.map_map] at h
      have h2:kFind l a=some v:=by
        unfold kFind
        cases hg:kIdx l a with
        | none=>rw [hg] at h;cases h
        | some p=>rw [hg] at h;simpa using h
      exact List.mem_cons_of_mem _ (ih h2)
theorem BW5 (l:List (K×Value)) (a:K) (v:Value):kFind (kSet l a v) a=some v:=by
  induction l with
  | nil=>simp [kSet,kFind,kIdx]
  | cons x l ih =>
    unfold kSet
    split
    · simp [kFind,kIdx]
    · rename_i hx
      unfold kFind kIdx;rw [if_neg hx,Option.map_map];unfold kFind at ih
      cases hg:kIdx (kSet l a v) a with
      | none=>rw [hg] at ih;cases ih
      | some p=>rw [hg] at ih;simpa using ih
theorem AU9 {x y:Operand} {T e:TypeId} {b o n cap sz:Nat} {k:IntKind} {i:Int} {q:Option Addr} (hx:rev r x=some (.slice q n cap)) (hy:rev r y=some (.int k i)) (hT:slB P T=some (e,sz)) (hq:q=some ⟨b,o,none⟩) (h0:0≤i) (h1:i≤n) :
    Val P r W chg news { dst,op:=.slice T x (some y) none none,type:=ty,pos,after,guard:=gd } (.slice (some ⟨b,(if cap=i.toNat then o else o + i.toNat * sz),none⟩) (n - i.toNat) (cap - i.toNat)) :=
  ⟨fun a w ha _=>by
    subst hq;unfold slB at hT
    split at hT
    · rename_i e2 hu
      cases hj:P.info? e2 with
      | none=>simp [hj] at hT
      | some j =>
        simp [hj] at hT
        obtain ⟨rfl,rfl⟩:=hT
        by_cases h3:cap=i.toNat
        · simp [execOp,ha.eval hx,ha.eval hy,Instr.sliceAt,Instr.sureAddr,Instr.slice,Instr.sliceBounds,Instr.sliceBound,asIntOf,run_underlying hu,sizeOf,typeInfo,hj,h0,h1,h3,add_plain]
        · simp [execOp,ha.eval hx,ha.eval hy,Instr.sliceAt,Instr.sureAddr,Instr.slice,Instr.sliceBounds,Instr.sliceBound,asIntOf,run_underlying hu,sizeOf,typeInfo,hj,h0,h1,h3,add_plain]
    · cases hT⟩
theorem Cv8 {o:Oper} {v v':Value} (h:Val P r W chg news o v) (e:v=v'):Val P r W chg news o v':=e ▸ h
end
theorem Sl.plainQ {α:Type} {f:α→List Value} {W:World} {p:Option Addr} {b o sz:Nat} {l:List α} (h:Sl W p b o sz (l.map f)) {i:Nat} (hi:i < l.length) (a:Addr) (ha:p=some a):a=⟨a.block,a.off,none⟩:=by
  have h1:=h.ptr (i:=i) (by rw [List.length_map];exact hi);rw [ha] at h1
  cases h1
  rfl
theorem Sl.rest {w:World} {b sz cap:Nat} {x:List Value} {xs:List (List Value)} (h:Sl w (some ⟨b,0,none⟩) b 0 sz (x::xs)) (hc:xs.length + 1≤cap):Sl w (some ⟨b,(if cap=1 then 0 else 0 + 1 * sz),none⟩) b (if cap=1 then 0 else 0 + 1 * sz) sz xs :=
  ⟨fun _=>rfl,fun y hy=>h.len y (List.mem_cons_of_mem _ hy),fun i hi j hj=>by
    rw [if_neg (by omega)];have h2:=h.cell (i + 1) (by simpa using hi) j hj;rw [show 0 + 1 * sz + i * sz + j=0 + (i + 1) * sz + j by rw [Nat.add_mul];omega,h2];rfl⟩
section
variable {P:Program} {n:Nat} {r:Regs} {W:World} {news:Blks}
theorem BB9 {fn:Func} {f:FuncId} {T:TypeId} {mis:Int→Value} {v:Value} {b:Nat} {R:Ending→World→Prop} (hc:Catches P f T mis) (he:Enters P f) (hv:ResVs P r news fn v) (hR:∀ w,Mem W [] news w→R (.returned v) w) :
    RunE (bodyPostD P fn R) n .ret r [{ target:=.fn (.func f) #[.pointer (some ⟨b,0,none⟩)],args:=#[] }] W [] news:=fun a w s=>by
  show Leaves P fn a.tmps R a.defers _ w
  rw [s.defers];refine leaves_cons (f:=f) (args:=#[.pointer (some ⟨b,0,none⟩)]) (by simp) (by simp [invoke];exact he _ _) ?_;refine (hc.calm b w).mono ?_
  rintro e u w' ⟨⟨x,rfl⟩,rfl,hm⟩
  have hm2:=s.mem.pass hm;exact ⟨v,hv.run s.agree (fun _ _ h=>hm2.at (by simpa using h)),hR _ hm2⟩
end
end Go.Eng
namespace Go.Proofs.YtmkdbdbenfbkhaaGreatDoor
open Go Go.Eng
theorem Cb4:Enters Tryz.prog 221:=Aa3 Tryz.func221 (by kernel_rfl) rfl
theorem AE9:Enters Tryz.prog 75:=Aa3 Tryz.func75 (by kernel_rfl) rfl
theorem Am5:fieldB Tryz.prog 37 0=some 0:=by kernel_rfl
instance:Fld Tryz.prog 37 0 0:=⟨Am5⟩
theorem Aj7:fieldB Tryz.prog 37 1=some 1:=by kernel_rfl
instance:Fld Tryz.prog 37 1 1:=⟨Aj7⟩
theorem BF3:(Tryz.prog.underlying 267).any (fun t=>match t with | .interface _=>false | _=>true)=true:=by kernel_rfl
theorem BK0:placesB Tryz.prog 267=some [(0,1)]:=by kernel_rfl
theorem Af4:tyB Tryz.prog 3=some (false,1):=by kernel_rfl
instance:Tyc Tryz.prog 3 false 1:=⟨Af4⟩
theorem BC6:zeroB Tryz.prog 267=some [.int .i64 0]:=by kernel_rfl
end Go.Proofs.YtmkdbdbenfbkhaaGreatDoor
namespace Go.Bk
open Go Go.Eng Go.RowKit
structure Lw (P:Program) (W:World):Prop where
  mx:∃ m:Int,W.cell? ⟨0,0,none⟩=some (.int .i64 m)
  tab:Lib.TabIs P W "internal/strconv.uint64pow10" .u64 Lib.pow10Tab
  syn:∃ ev,W.cell? ⟨2,0,none⟩=some ev∧(ev = .nilIface∨∃ te pe,ev = .iface te pe)
  ran:∃ ev,W.cell? ⟨3,0,none⟩=some ev∧(ev = .nilIface∨∃ te pe,ev = .iface te pe)
theorem Bf6 {W w:World} {news:Blks} {p:Addr} {v:Value} (hm:Mem W [] news w) (h:W.cell? p=some v):w.cell? p=some v:=by
  have hp:p.block < W.heap.size:=by
    unfold World.cell? at h
    rcases Nat.lt_or_ge p.block W.heap.size with h2 | h2
    · exact h2
    · rw [Array.getElem?_eq_none h2] at h;cases h
  rw [hm.cell hp (by simp)];exact h
theorem Cw5 {P:Program} {W w:World} {news:Blks} {s:String} {v:Array Value} (hm:Mem W [] news w) (h:W.var? P s=some v):w.var? P s=some v:=by
  unfold World.var? at h ⊢
  cases hg:P.globalNamed s with
  | none=>rw [hg] at h;cases h
  | some g =>
    rw [hg] at h;simp only [Option.bind_some] at h ⊢
    rcases Nat.lt_or_ge g W.heap.size with h2 | h2
    · rw [hm.old g h2 (by simp)];exact h
    · rw [Array.getElem?_eq_none h2] at h;cases h
theorem Lw.mono {P:Program} {W w:World} {news:Blks} (h:Lw P W) (hm:Mem W [] news w):Lw P w :=
  ⟨let ⟨m,h1⟩:=h.mx;⟨m,Bf6 hm h1⟩,Cw5 hm h.tab,let ⟨m,h1,h2⟩:=h.syn;⟨m,Bf6 hm h1,h2⟩,let ⟨m,h1,h2⟩:=h.ran;⟨m,Bf6 hm h1,h2⟩⟩
theorem Cm8 {w:World} (os:Array Obj):Mem w [] [] (Sort.grow w os) :=
  ⟨rfl,rfl,rfl,by simp [Sort.grow],fun k hk _=>by simp [Sort.grow,Array.getElem?_append_left hk],fun _ _ h=>(by cases h),fun _ _ h=>(by cases h),by simp⟩
theorem BV6 {w:World} {t:ByteArray}:Mem w [] [] (Lib.bytesWorld w 5 t):=by
  unfold Lib.bytesWorld;refine ⟨rfl,rfl,rfl,by simp [World.freeze],fun k hk _=>?_,fun _ _ h=>(by cases h),fun _ _ h=>(by cases h),by simp⟩
  have h2:k ≠ w.heap.size:=by omega
  unfold World.freeze
  split
  · exact Below.heap_alloc _ _ _ hk
  · show ((w.drew.alloc _).heap.modify w.heap.size _)[k]? = _
    rw [Array.getElem?_modify,if_neg (fun e=>h2 e.symm)];exact Below.heap_alloc _ _ _ hk
end Go.Bk
namespace Go.Proofs.YtmkdbdbenfbkhaaGreatDoor
open Go Go.Eng Go.Bk

def misf (k:Int):Value:=.iface 267 (.agg #[.int .i64 k])
theorem Al6 (b:Bool) (e:Int) (W:World):Calls Tryz.prog 75 #[.bool b,.int .i64 e] W (Try misf (needX b e) W):=by
  refine Aa2 Tryz.func75 rfl rfl ?_;refine st ?_;refine cn rfl ?_ ?_
  ·intro c0'
   refine st ?_;refine lv (Val.build (parts:=[(0,.tmp 6)]) rfl BC6 BK0 rfl) ?_;refine lv (Val.makeInterface rfl BF3) ?_;refine Ap7 rfl ?_;exact Am8 (k:=e) (by simp [needX,show b=false by simpa using c0'])
  intro c0';refine st ?_;exact Ax7 (.r0 rfl) (by simp [needX,show b=true by simpa using c0'])
theorem Ae5 (n lo hi:Int) (W:World):Calls Tryz.prog 128 #[.int .i64 n,.int .i64 lo,.int .i64 hi] W (Pure (.bool (within n lo hi)) W):=by
  refine Aa2 Tryz.func128 rfl rfl ?_;refine st ?_
  refine Ab3 (dj:=10) (dp:=14) 4 rfl (fun g10=>by
    have g10':=g10;try simp only [nH] at g10'
    refine sv ?_;exact zs g10
  ) (fun g10=>by
    have g10':=g10;try simp only [nH] at g10'
    iterate 3 refine Ac9 rfl rfl rfl ?_
    refine sv ?_;exact zs g10
  ) ?_
  refine su ?_;exact Aa4 (.r1 rfl (.tmp rfl)) (by first | rfl | simp)
theorem Ap5 (s:Sp) (hi:Int) (W:World):Calls Tryz.prog 127 #[.agg s.cells.toArray,.int .i64 hi] W (Pure (.bool (spanX s hi)) W):=by
  refine Aa2 Tryz.func127 rfl rfl ?_;refine st ?_;refine zn (New.box rfl) (fun b2=>?_)
  refine Ab3 (dj:=8) (dp:=14) 6 rfl (fun g8=>by
    have g8':=g8;try simp only [nH] at g8'
    refine lv (Val.fieldAddr rfl Am5) ?_;refine lv (Aa1 rfl (.head _) Af4 rfl) ?_;refine lv (Val.fieldAddr rfl Aj7) ?_;refine Aa0 (Aa1 rfl (.head _) Af4 rfl) rfl rfl rfl ?_;refine sv ?_;exact zs g8
  ) (fun g8=>by
    have g8':=g8;try simp only [nH] at g8'
    iterate 5 refine Ac9 rfl rfl rfl ?_
    refine sv ?_;exact zs g8
  ) ?_
  refine st ?_
  refine Ab3 (dj:=15) (dp:=20) 5 rfl (fun g15=>by
    have g15':=g15;try simp only [nH] at g15'
    refine lv (Val.fieldAddr rfl Aj7) ?_;refine Aa0 (Aa1 rfl (.head _) Af4 rfl) rfl rfl rfl ?_;refine sv ?_;exact zs g15
  ) (fun g15=>by
    have g15':=g15;try simp only [nH] at g15'
    iterate 4 refine Ac9 rfl rfl rfl ?_
    refine sv ?_;exact zs g15
  ) ?_
  refine su ?_;exact Aa4 (.r1 rfl (.tmp rfl)) (by first | rfl | simp)
/-! ### Go's library -/
theorem Az1 (n:Int) (h:-9223372036854775808≤n∧n≤9223372036854775807) (W:World) (hL:Lw Tryz.prog W):Calls Tryz.prog 155 #[.int .i64 n] W (Pure (.string (bs (Lib.itoa n))) W) :=
  Af8 (Tryz.strconv_Itoa n h.1 h.2 W hL.tab) (by
    rintro e w' ⟨rfl,k,os,rfl⟩
    refine ⟨rfl,?_⟩
    have h1:∀ k,Mem W [] [] (W.drewN k):=fun k=>⟨rfl,rfl,rfl,Nat.le_refl _,fun _ _ _=>rfl,fun _ _ h=>(by cases h),fun _ _ h=>(by cases h),by simp⟩
    exact (h1 k).pass (Cm8 os))
theorem AP9 (s p:Str) (h:s.length≤9223372036854775807) (W:World):Calls Tryz.prog 208 #[.string (bs s),.string (bs p)] W (Pure (.bool (Lib.hasSuffix s p)) W) :=
  Af8 (Tryz.strings_HasSuffix (bs s) (bs p) W h) (by rintro e w' ⟨rfl,rfl⟩;exact ⟨rfl,Mem.refl _⟩)
theorem Aq0 (s p:Str) (h:s.length≤9223372036854775807) (W:World):Calls Tryz.prog 211 #[.string (bs s),.string (bs p)] W (Pure (.string (bs (Lib.trimSuffix s p))) W) :=
  Af8 (Tryz.strings_TrimSuffix (bs s) (bs p) W h) (by rintro e w' ⟨rfl,rfl⟩;exact ⟨rfl,Mem.refl _⟩)
theorem AP8 (s:Str) (c:Int) (W:World):Calls Tryz.prog 241 #[.string (bs s),.int .u8 c] W (Pure (.int .i64 (Lib.indexByte s c.toNat.toUInt8)) W) :=
  Af8 (Tryz.strings_IndexByte (bs s) c W) (by rintro e w' ⟨rfl,rfl⟩;exact ⟨rfl,Mem.refl _⟩)
theorem Ce6 (s p:Str) (h:s.length < 4294967281) (W:World) (hL:Lw Tryz.prog W):Calls Tryz.prog 158 #[.string (bs s),.string (bs p)] W (Pure (.tuple #[.string (bs (Lib.cut s p).1),.string (bs (Lib.cut s p).2.1),.bool (Lib.cut s p).2.2]) W):=by
  obtain ⟨m,hm⟩:=hL.mx
  exact Af8 (Tryz.strings_Cut (bs s) (bs p) m W h hm) (by
    rintro e w' ⟨rfl,k,rfl⟩
    exact ⟨rfl,rfl,rfl,rfl,Nat.le_refl _,fun _ _ _=>rfl,fun _ _ h=>(by cases h),fun _ _ h=>(by cases h),by simp⟩)
theorem BM2 (q:Option Addr) (b o c:Nat) (xs:List Str) (sep:Str) (W:World) (hS:Sl W q b o 1 (xs.map fun x=>[.string (bs x)])) (hN:xs.length≤140737488355328) (hc:xs.length≤c) (hl:(Lib.join xs sep).length≤140737488355328) :
    Calls Tryz.prog 156 #[.slice q xs.length c,.string (bs sep)] W (Pure (.string (bs (Lib.join xs sep))) W):=by
  cases xs with
  | nil=>exact Af8 (Tryz.strings_Join_none q c (bs sep) W) (by rintro e w' ⟨rfl,rfl⟩;exact ⟨rfl,Mem.refl _⟩)
  | cons x xs =>
    have hq:=hS.ptr (i:=0) (by simp);have e1:((x::xs).map bs).map (·.data.toList)=x::xs:=by rw [List.map_map];exact List.map_id' _
    have h0:=Tryz.strings_Join b o c ((x::xs).map bs) (bs sep) W (fun j y hj=>by
      obtain ⟨hj1,hj2⟩:=List.getElem?_eq_some_iff.1 hj;have hj3:j < (x::xs).length:=by simpa using hj1
      have h1:=hS.cell j (by simpa using hj3) 0 (by decide);rw [List.getElem_map] at h1;rw [List.getElem_map] at hj2;rw [Nat.mul_one,Nat.add_zero] at h1;rw [h1,← hj2];rfl) (by
      have h1:=hS.cell 0 (by simp) 0 (by decide);rw [List.getElem_map] at h1;unfold World.cell? at h1
      rcases Nat.lt_or_ge b W.heap.size with h2 | h2
      · exact h2
      · simp only [Array.getElem?_eq_none h2] at h1
        simp at h1) (by simpa using hN) (by simpa using hc) (by rw [e1];exact hl)
    rw [e1] at h0;rw [hq];have e2:((x::xs).map bs).length=(x::xs).length:=by simp
    rw [e2] at h0;exact Af8 h0 (by rintro e w' ⟨rfl,h⟩;exact ⟨rfl,Mem.of_below h⟩)
theorem CS0:∃ ms,Tryz.prog.underlying 177=some (.interface ms):=⟨_,Tryz.underlying177⟩
def figX (s:Str):Except Int Value:=match Lib.atoiAll s with
  | .ok v=>.ok (.int .i64 v)
  | _=>.error 8
theorem Bg6 (s:Str) (h:s.length≤281474976710656) (v:Int) (hv:Lib.atoiAll s = .ok v) (W:World):Calls Tryz.prog 221 #[.string (bs s)] W (Pure (.tuple #[.int .i64 v,.nilIface]) W) :=
  Af8 (Tryz.strconv_Atoi_ok (bs s) (Nat.le_trans h (by decide)) v hv W) (by
    rintro e w' ⟨rfl,rfl | ⟨t,rfl⟩⟩
    · exact ⟨rfl,Mem.refl _⟩
    · exact ⟨rfl,BV6⟩)
theorem Bg7 (s:Str) (h:s.length≤281474976710656) (hv:∀ v,Lib.atoiAll s ≠ .ok v) (W:World) (hL:Lw Tryz.prog W):Calls Tryz.prog 221 #[.string (bs s)] W (News (fun z:Int×Nat=>.tuple #[.int .i64 z.1,.iface 352 (.pointer (some ⟨z.2,0,none⟩))]) (fun _=>[]) W):=by
  cases hr:Lib.atoiAll s with
  | ok v=>exact absurd hr (hv v)
  | range =>
    obtain ⟨ev,h1,h2⟩:=hL.ran;exact Af8 (Tryz.strconv_Atoi_range (bs s) h hr ev W h1 h2) (by rintro e w' ⟨N,rfl,_,_,hb⟩;exact ⟨(_,N),rfl,Mem.of_below hb⟩)
  | _ =>
    obtain ⟨ev,h1,h2⟩:=hL.syn;exact Af8 (Tryz.strconv_Atoi_syntax (bs s) h hr ev W h1 h2) (by rintro e w' ⟨N,rfl,_,_,hb⟩;exact ⟨(0,N),rfl,Mem.of_below hb⟩)
theorem Ax0 (s:Str) (h:s.length≤281474976710656) (W:World) (hL:Lw Tryz.prog W):Calls Tryz.prog 157 #[.string (bs s)] W (Try misf (figX s) W):=by
  obtain ⟨ms,hms⟩:=CS0
  by_cases hv:∃ v,Lib.atoiAll s = .ok v
  · obtain ⟨v,hv⟩:=hv
    have e:figX s = .ok (.int .i64 v):=by unfold figX;rw [hv]
    rw [e];refine Aa2 Tryz.func157 rfl rfl ?_;refine st ?_;refine zc (zF rfl Cb4) (fun w hm=>Bg6 s h v hv w) ?_;refine lv (Aj2 rfl hms) ?_;refine Af5 (zF rfl AE9) rfl rfl rfl (fun w hm=>Al6 _ _ w) (fun e12 he12=>?_) (fun v12 hv12=>?_)
    ·obtain ⟨er12,rfl⟩:=Ai6 he12
     refine Aa7 ?_;exact Am8 (absurd er12 (by decide))
    obtain ⟨ok12,rfl⟩:=Am0 hv12;refine su ?_;exact Bt9 (.r1 rfl (.tmp rfl)) rfl
  · have hv':∀ v,Lib.atoiAll s ≠ .ok v:=fun v hh=>hv ⟨v,hh⟩
    have e:figX s = .error 8:=by
      unfold figX
      cases hr:Lib.atoiAll s with
      | ok v=>exact absurd hr (hv' v)
      | _=>rfl
    rw [e];refine Aa2 Tryz.func157 rfl rfl ?_;refine st ?_;refine Ai2 (zF rfl Cb4) rfl rfl rfl (fun w hm=>Bg7 s h hv' w (hL.mono hm)) (fun b7=>?_)
    refine st ?_;refine lv (Ah9 rfl hms) ?_;refine Af5 (zF rfl AE9) rfl rfl rfl (fun w hm=>Al6 _ _ w) (fun e12 he12=>?_) (fun v12 hv12=>?_)
    ·obtain ⟨er12,rfl⟩:=Ai6 he12
     refine Aa7 ?_;exact Am8 (k:=8) rfl
    obtain ⟨ok12,rfl⟩:=Am0 hv12;refine su ?_;exact Bt9 (.r1 rfl (.tmp rfl)) (absurd ok12 (by decide))
end Go.Proofs.YtmkdbdbenfbkhaaGreatDoor
namespace Go.Proofs.YtmkdbdbenfbkhaaGreatDoor
open Go Go.Eng
theorem CA9:Enters Tryz.prog 226:=Aa3 Tryz.func226 (by kernel_rfl) rfl
theorem Ak6:slB Tryz.prog 26=some (3,1):=by kernel_rfl
instance:Slc Tryz.prog 26 3 1:=⟨Ak6⟩
theorem AT7:slB Tryz.prog 27=some (139,4):=by kernel_rfl
instance:Slc Tryz.prog 27 139 4:=⟨AT7⟩
theorem As9:tyB Tryz.prog 139=some (true,4):=by kernel_rfl
instance:Tyc Tryz.prog 139 true 4:=⟨As9⟩
end Go.Proofs.YtmkdbdbenfbkhaaGreatDoor
namespace Go.Proofs.YtmkdbdbenfbkhaaGreatDoor
open Go Go.Eng
theorem CC3:Enters Tryz.prog 198:=Aa3 Tryz.func198 (by kernel_rfl) rfl
theorem CB2:Enters Tryz.prog 223:=Aa3 Tryz.func223 (by kernel_rfl) rfl
theorem CB1:Enters Tryz.prog 224:=Aa3 Tryz.func224 (by kernel_rfl) rfl
theorem CA8:Enters Tryz.prog 232:=Aa3 Tryz.func232 (by kernel_rfl) rfl
theorem CA7:Enters Tryz.prog 233:=Aa3 Tryz.func233 (by kernel_rfl) rfl
theorem CA6:Enters Tryz.prog 234:=Aa3 Tryz.func234 (by kernel_rfl) rfl
theorem CA5:Enters Tryz.prog 235:=Aa3 Tryz.func235 (by kernel_rfl) rfl
theorem Av4:slB Tryz.prog 22=some (37,2):=by kernel_rfl
instance:Slc Tryz.prog 22 37 2:=⟨Av4⟩
theorem Aq3:slB Tryz.prog 23=some (22,1):=by kernel_rfl
instance:Slc Tryz.prog 23 22 1:=⟨Aq3⟩
theorem BS5:slB Tryz.prog 30=some (160,3):=by kernel_rfl
instance:Slc Tryz.prog 30 160 3:=⟨BS5⟩
theorem BJ7:slB Tryz.prog 31=some (26,1):=by kernel_rfl
instance:Slc Tryz.prog 31 26 1:=⟨BJ7⟩
theorem AT6:slB Tryz.prog 32=some (122,4):=by kernel_rfl
instance:Slc Tryz.prog 32 122 4:=⟨AT6⟩
theorem AK2:slB Tryz.prog 35=some (75,5):=by kernel_rfl
instance:Slc Tryz.prog 35 75 5:=⟨AK2⟩
theorem AA3:tyB Tryz.prog 122=some (true,4):=by kernel_rfl
instance:Tyc Tryz.prog 122 true 4:=⟨AA3⟩
theorem BD8:tyB Tryz.prog 160=some (true,3):=by kernel_rfl
instance:Tyc Tryz.prog 160 true 3:=⟨BD8⟩
theorem Az9:tyB Tryz.prog 22=some (false,1):=by kernel_rfl
instance:Tyc Tryz.prog 22 false 1:=⟨Az9⟩
theorem As7:tyB Tryz.prog 26=some (false,1):=by kernel_rfl
instance:Tyc Tryz.prog 26 false 1:=⟨As7⟩
theorem Ah0:tyB Tryz.prog 37=some (true,2):=by kernel_rfl
instance:Tyc Tryz.prog 37 true 2:=⟨Ah0⟩
theorem BI8:tyB Tryz.prog 75=some (true,5):=by kernel_rfl
instance:Tyc Tryz.prog 75 true 5:=⟨BI8⟩
end Go.Proofs.YtmkdbdbenfbkhaaGreatDoor
namespace Go.Bk
open Go Go.Eng Go.RowKit
structure SA (α:Type) where
  l:List α
  q:Option Addr
  b:Nat
  o:Nat
  c:Nat
def SA.v {α:Type} (s:SA α):Value:=.slice s.q s.l.length s.c
def SA.cell {α:Type} (s:SA α):List Value:=[s.v]
def intC (n:Int):List Value:=[.int .i64 n]
def SA.ok {α:Type} (s:SA α) (f:α→List Value) (sz:Nat) (W:World):Prop:=Sl W s.q s.b s.o sz (s.l.map f)
theorem SA.ok.mono0 {α:Type} {s:SA α} {f:α→List Value} {sz:Nat} {W w:World} {news:Blks} (h:s.ok f sz W) (hz:0 < sz) (hm:Mem W [] news w):s.ok f sz w:=Sl.mono h hz hm (by simp)
def idxP {α:Type} (p:α→Bool) (l:List α):Int:=if l.any p then (l.findIdx p:Int) else -1
theorem Ar9 {α:Type} {p:α→Bool} {l:List α} {k:Nat} (hk:k < l.length) (h:p l[k]=true) (hn:∀ j (hj:j < l.length),j < k→p l[j]=false):idxP p l=(k:Int):=by
  unfold idxP;rw [if_pos (List.any_eq_true.2 ⟨_,List.getElem_mem hk,h⟩),(List.findIdx_eq hk).2 ⟨h,fun j hj=>hn j (by omega) hj⟩]
theorem Ar8 {α:Type} {p:α→Bool} {l:List α} (hn:∀ j (hj:j < l.length),p l[j]=false):idxP p l = -1:=by
  unfold idxP;rw [if_neg];rw [List.any_eq_true]
  rintro ⟨x,hx,h⟩
  obtain ⟨j,hj,rfl⟩:=List.getElem_of_mem hx;rw [hn j hj] at h
  cases h
theorem At6 {α:Type} (p:α→Bool) (l:List α):decide (0≤idxP p l)=l.any p:=by
  unfold idxP
  cases h:l.any p with
  | true=>rw [if_pos rfl];exact decide_eq_true (by omega)
  | false=>rw [if_neg (by decide)];rfl
def idxI (l:List Int) (x:Int):Int:=idxP (fun y=>decide (x=y)) l
theorem BX0 (l:List Int) (x:Int):idxX l x=idxI l x:=rfl
end Go.Bk
namespace Go.Proofs.YtmkdbdbenfbkhaaGreatDoor
open Go Go.Eng Go.Bk

theorem Bp0 (l:List (Ln)) (q:Option Addr) (b o c:Nat) (gf:FuncId) (cap:Array Value) (p:Ln→Bool) (W:World) (hS:Sl W q b o 4 (l.map Ln.cells)) (hl:l.length≤1000000000) (he:Enters Tryz.prog gf) (hf:∀ i (h:i < l.length) w,Mem W [] [] w→Calls Tryz.prog gf ([(.agg (l[i]).cells.toArray:Value)]++cap.toList).toArray w (Pure (.bool (p l[i])) w)) :
    Calls Tryz.prog 226 #[.slice q l.length c,.func (.func gf) #[] cap] W (Pure (.int .i64 (idxP p l)) W):=by
  refine Aa2 Tryz.func226 rfl rfl ?_;refine su ?_;refine Ad6 (l.length) (fun k q=>(8,.int .i64 (k:Int))::q) (fun _=>_) (fun _=>[]) (fun k=>∀ j (h:j < l.length),j < k→p l[j]=false) (fun j _ h=>absurd h (by omega)) rfl (zE 8 rfl rfl (zS 0 rfl (zS 1 rfl (zS 7 rfl (Sub.nil _))))) .nil ?_;intro k kN kI;refine st ?_;refine cn rfl ?_ ?_
  ·intro c0'
   have hk:k < l.length:=by omega
   obtain ⟨x,hx⟩:∃ x,l[k]=x:=⟨_,rfl⟩;refine st ?_;refine lv (Aa6 rfl rfl AT7 (by omega) (by omega) (hS.ptrM hk)) ?_;refine lv (Ab2 rfl (fun w hm=>hS.loadX (by decide) hm (by simp) As9 hk hx)) ?_;refine Ab1 (Ac1 rfl rfl he) rfl rfl rfl (fun w hm=>hx ▸ hf k hk w hm) ?_;refine st ?_;refine cn rfl ?_ ?_
   ·intro c1'
    refine su ?_;exact Aa4 (.r1 rfl (.tmp rfl)) (by rw [Ar9 hk (by rw [hx];exact c1') kI])
   intro c1';refine st ?_;refine lv (Val.add rfl rfl (IntWalk.i64_in _ ⟨by omega,by omega⟩)) ?_;exact Ad2 (by omega) (fun j h h1=>by (rcases Nat.lt_or_ge j k with h4 | h4;exact kI j h h4;have e:j=k:=(by omega);subst e;rw [hx];exact c1')) rfl (zE 8 rfl rfl (zS 0 rfl (zS 1 rfl (zS 7 rfl (Sub.nil _))))) .nil
  intro c0';obtain rfl:k=l.length:=by omega
  refine RunC.exit ?_;refine su ?_;refine Ab0 ?_;refine su ?_;exact Aa4 (.r1 rfl (.tmp rfl)) (by rw [Ar8 (fun j hj=>kI j hj hj)])
theorem AJ7 (l:List (Ln)) (q:Option Addr) (b o c:Nat) (gf:FuncId) (cap:Array Value) (p:Ln→Bool) (W:World) (hS:Sl W q b o 4 (l.map Ln.cells)) (hl:l.length≤1000000000) (he:Enters Tryz.prog gf) (hf:∀ i (h:i < l.length) w,Mem W [] [] w→Calls Tryz.prog gf ([(.agg (l[i]).cells.toArray:Value)]++cap.toList).toArray w (Pure (.bool (p l[i])) w)) :
    Calls Tryz.prog 170 #[.slice q l.length c,.func (.func gf) #[] cap] W (Pure (.bool (l.any p)) W):=by
  refine Aa2 Tryz.func170 rfl rfl ?_;refine st ?_;refine zc (zF rfl CA9) (fun w hm=>Bp0 l q b o c gf cap p w (Sl.mono hS (by decide) hm (by simp)) hl he (fun i h w2 h2=>hf i h w2 (hm.pass h2))) ?_;exact Aa4 (.r1 rfl (.tmp rfl)) (by rw [← At6])
theorem Aw7 (l:List Int) (q:Option Addr) (b o c:Nat) (x:Int) (W:World) (hS:Sl W q b o 1 (l.map intC)) (hl:l.length≤1000000000):Calls Tryz.prog 167 #[.slice q l.length c,.int .i64 x] W (Pure (.int .i64 (idxX l x)) W):=by
  rw [BX0];refine Aa2 Tryz.func167 rfl rfl ?_;refine su ?_;refine Ad6 (l.length) (fun k q=>(8,.int .i64 (k:Int))::q) (fun _=>_) (fun _=>[]) (fun k=>∀ j (h:j < l.length),j < k→decide (x=l[j])=false) (fun j _ h=>absurd h (by omega)) rfl (zE 8 rfl rfl (zS 0 rfl (zS 1 rfl (zS 7 rfl (Sub.nil _))))) .nil ?_;intro k kN kI;refine st ?_;refine cn rfl ?_ ?_
  ·intro c0'
   have hk:k < l.length:=by omega
   obtain ⟨y,hy⟩:∃ y,l[k]=y:=⟨_,rfl⟩;refine st ?_;refine lv (Aa6 rfl rfl Ak6 (by omega) (by omega) (hS.ptrM hk)) ?_;refine lv (Ab2 rfl (fun w hm=>hS.loadM1 (by decide) hm (by simp) Af4 hk (v:=.int .i64 y) (by simp [intC,hy]))) ?_;refine cn rfl ?_ ?_
   ·intro c1'
    refine su ?_;exact Aa4 (.r1 rfl (.tmp rfl)) (by unfold idxI;rw [Ar9 hk (by rw [hy];exact decide_eq_true (by omega)) kI])
   intro c1';refine st ?_;refine lv (Val.add rfl rfl (IntWalk.i64_in _ ⟨by omega,by omega⟩)) ?_;exact Ad2 (by omega) (fun j h h1=>by (rcases Nat.lt_or_ge j k with h4 | h4;exact kI j h h4;have e:j=k:=(by omega);subst e;rw [hy];exact decide_eq_false (by omega))) rfl (zE 8 rfl rfl (zS 0 rfl (zS 1 rfl (zS 7 rfl (Sub.nil _))))) .nil
  intro c0';obtain rfl:k=l.length:=by omega
  refine RunC.exit ?_;refine su ?_;refine Ab0 ?_;refine su ?_;exact Aa4 (.r1 rfl (.tmp rfl)) (by unfold idxI;rw [Ar8 (fun j hj=>kI j hj hj)])
end Go.Proofs.YtmkdbdbenfbkhaaGreatDoor
namespace Go.Proofs.YtmkdbdbenfbkhaaGreatDoor
open Go Go.Eng Go.Bk

theorem Bo4 (l:List (Sp)) (q:Option Addr) (b o c:Nat) (gf:FuncId) (cap:Array Value) (p:Sp→Bool) (W:World) (hS:Sl W q b o 2 (l.map Sp.cells)) (hl:l.length≤1000000000) (he:Enters Tryz.prog gf) (hf:∀ i (h:i < l.length) w,Mem W [] [] w→Calls Tryz.prog gf ([(.agg (l[i]).cells.toArray:Value)]++cap.toList).toArray w (Pure (.bool (p l[i])) w)) :
    Calls Tryz.prog 223 #[.slice q l.length c,.func (.func gf) #[] cap] W (Pure (.int .i64 (idxP p l)) W):=by
  refine Aa2 Tryz.func223 rfl rfl ?_;refine su ?_;refine Ad6 (l.length) (fun k q=>(8,.int .i64 (k:Int))::q) (fun _=>_) (fun _=>[]) (fun k=>∀ j (h:j < l.length),j < k→p l[j]=false) (fun j _ h=>absurd h (by omega)) rfl (zE 8 rfl rfl (zS 0 rfl (zS 1 rfl (zS 7 rfl (Sub.nil _))))) .nil ?_;intro k kN kI;refine st ?_;refine cn rfl ?_ ?_
  ·intro c0'
   have hk:k < l.length:=by omega
   obtain ⟨x,hx⟩:∃ x,l[k]=x:=⟨_,rfl⟩;refine st ?_;refine lv (Aa6 rfl rfl Av4 (by omega) (by omega) (hS.ptrM hk)) ?_;refine lv (Ab2 rfl (fun w hm=>hS.loadX (by decide) hm (by simp) Ah0 hk hx)) ?_;refine Ab1 (Ac1 rfl rfl he) rfl rfl rfl (fun w hm=>hx ▸ hf k hk w hm) ?_;refine st ?_;refine cn rfl ?_ ?_
   ·intro c1'
    refine su ?_;exact Aa4 (.r1 rfl (.tmp rfl)) (by rw [Ar9 hk (by rw [hx];exact c1') kI])
   intro c1';refine st ?_;refine lv (Val.add rfl rfl (IntWalk.i64_in _ ⟨by omega,by omega⟩)) ?_;exact Ad2 (by omega) (fun j h h1=>by (rcases Nat.lt_or_ge j k with h4 | h4;exact kI j h h4;have e:j=k:=(by omega);subst e;rw [hx];exact c1')) rfl (zE 8 rfl rfl (zS 0 rfl (zS 1 rfl (zS 7 rfl (Sub.nil _))))) .nil
  intro c0';obtain rfl:k=l.length:=by omega
  refine RunC.exit ?_;refine su ?_;refine Ab0 ?_;refine su ?_;exact Aa4 (.r1 rfl (.tmp rfl)) (by rw [Ar8 (fun j hj=>kI j hj hj)])
theorem AJ3 (l:List (Sp)) (q:Option Addr) (b o c:Nat) (gf:FuncId) (cap:Array Value) (p:Sp→Bool) (W:World) (hS:Sl W q b o 2 (l.map Sp.cells)) (hl:l.length≤1000000000) (he:Enters Tryz.prog gf) (hf:∀ i (h:i < l.length) w,Mem W [] [] w→Calls Tryz.prog gf ([(.agg (l[i]).cells.toArray:Value)]++cap.toList).toArray w (Pure (.bool (p l[i])) w)) :
    Calls Tryz.prog 161 #[.slice q l.length c,.func (.func gf) #[] cap] W (Pure (.bool (l.any p)) W):=by
  refine Aa2 Tryz.func161 rfl rfl ?_;refine st ?_;refine zc (zF rfl CB2) (fun w hm=>Bo4 l q b o c gf cap p w (Sl.mono hS (by decide) hm (by simp)) hl he (fun i h w2 h2=>hf i h w2 (hm.pass h2))) ?_;exact Aa4 (.r1 rfl (.tmp rfl)) (by rw [← At6])
theorem Bo3 (l:List (Tm)) (q:Option Addr) (b o c:Nat) (gf:FuncId) (cap:Array Value) (p:Tm→Bool) (W:World) (hS:Sl W q b o 3 (l.map Tm.cells)) (hl:l.length≤1000000000) (he:Enters Tryz.prog gf) (hf:∀ i (h:i < l.length) w,Mem W [] [] w→Calls Tryz.prog gf ([(.agg (l[i]).cells.toArray:Value)]++cap.toList).toArray w (Pure (.bool (p l[i])) w)) :
    Calls Tryz.prog 232 #[.slice q l.length c,.func (.func gf) #[] cap] W (Pure (.int .i64 (idxP p l)) W):=by
  refine Aa2 Tryz.func232 rfl rfl ?_;refine su ?_;refine Ad6 (l.length) (fun k q=>(8,.int .i64 (k:Int))::q) (fun _=>_) (fun _=>[]) (fun k=>∀ j (h:j < l.length),j < k→p l[j]=false) (fun j _ h=>absurd h (by omega)) rfl (zE 8 rfl rfl (zS 0 rfl (zS 1 rfl (zS 7 rfl (Sub.nil _))))) .nil ?_;intro k kN kI;refine st ?_;refine cn rfl ?_ ?_
  ·intro c0'
   have hk:k < l.length:=by omega
   obtain ⟨x,hx⟩:∃ x,l[k]=x:=⟨_,rfl⟩;refine st ?_;refine lv (Aa6 rfl rfl BS5 (by omega) (by omega) (hS.ptrM hk)) ?_;refine lv (Ab2 rfl (fun w hm=>hS.loadX (by decide) hm (by simp) BD8 hk hx)) ?_;refine Ab1 (Ac1 rfl rfl he) rfl rfl rfl (fun w hm=>hx ▸ hf k hk w hm) ?_;refine st ?_;refine cn rfl ?_ ?_
   ·intro c1'
    refine su ?_;exact Aa4 (.r1 rfl (.tmp rfl)) (by rw [Ar9 hk (by rw [hx];exact c1') kI])
   intro c1';refine st ?_;refine lv (Val.add rfl rfl (IntWalk.i64_in _ ⟨by omega,by omega⟩)) ?_;exact Ad2 (by omega) (fun j h h1=>by (rcases Nat.lt_or_ge j k with h4 | h4;exact kI j h h4;have e:j=k:=(by omega);subst e;rw [hx];exact c1')) rfl (zE 8 rfl rfl (zS 0 rfl (zS 1 rfl (zS 7 rfl (Sub.nil _))))) .nil
  intro c0';obtain rfl:k=l.length:=by omega
  refine RunC.exit ?_;refine su ?_;refine Ab0 ?_;refine su ?_;exact Aa4 (.r1 rfl (.tmp rfl)) (by rw [Ar8 (fun j hj=>kI j hj hj)])
theorem AJ2 (l:List (Tm)) (q:Option Addr) (b o c:Nat) (gf:FuncId) (cap:Array Value) (p:Tm→Bool) (W:World) (hS:Sl W q b o 3 (l.map Tm.cells)) (hl:l.length≤1000000000) (he:Enters Tryz.prog gf) (hf:∀ i (h:i < l.length) w,Mem W [] [] w→Calls Tryz.prog gf ([(.agg (l[i]).cells.toArray:Value)]++cap.toList).toArray w (Pure (.bool (p l[i])) w)) :
    Calls Tryz.prog 187 #[.slice q l.length c,.func (.func gf) #[] cap] W (Pure (.bool (l.any p)) W):=by
  refine Aa2 Tryz.func187 rfl rfl ?_;refine st ?_;refine zc (zF rfl CA8) (fun w hm=>Bo3 l q b o c gf cap p w (Sl.mono hS (by decide) hm (by simp)) hl he (fun i h w2 h2=>hf i h w2 (hm.pass h2))) ?_;exact Aa4 (.r1 rfl (.tmp rfl)) (by rw [← At6])
theorem Bo5 (l:List (Rp)) (q:Option Addr) (b o c:Nat) (gf:FuncId) (cap:Array Value) (p:Rp→Bool) (W:World) (hS:Sl W q b o 4 (l.map Rp.cells)) (hl:l.length≤1000000000) (he:Enters Tryz.prog gf) (hf:∀ i (h:i < l.length) w,Mem W [] [] w→Calls Tryz.prog gf ([(.agg (l[i]).cells.toArray:Value)]++cap.toList).toArray w (Pure (.bool (p l[i])) w)) :
    Calls Tryz.prog 235 #[.slice q l.length c,.func (.func gf) #[] cap] W (Pure (.int .i64 (idxP p l)) W):=by
  refine Aa2 Tryz.func235 rfl rfl ?_;refine su ?_;refine Ad6 (l.length) (fun k q=>(8,.int .i64 (k:Int))::q) (fun _=>_) (fun _=>[]) (fun k=>∀ j (h:j < l.length),j < k→p l[j]=false) (fun j _ h=>absurd h (by omega)) rfl (zE 8 rfl rfl (zS 0 rfl (zS 1 rfl (zS 7 rfl (Sub.nil _))))) .nil ?_;intro k kN kI;refine st ?_;refine cn rfl ?_ ?_
  ·intro c0'
   have hk:k < l.length:=by omega
   obtain ⟨x,hx⟩:∃ x,l[k]=x:=⟨_,rfl⟩;refine st ?_;refine lv (Aa6 rfl rfl AT6 (by omega) (by omega) (hS.ptrM hk)) ?_;refine lv (Ab2 rfl (fun w hm=>hS.loadX (by decide) hm (by simp) AA3 hk hx)) ?_;refine Ab1 (Ac1 rfl rfl he) rfl rfl rfl (fun w hm=>hx ▸ hf k hk w hm) ?_;refine st ?_;refine cn rfl ?_ ?_
   ·intro c1'
    refine su ?_;exact Aa4 (.r1 rfl (.tmp rfl)) (by rw [Ar9 hk (by rw [hx];exact c1') kI])
   intro c1';refine st ?_;refine lv (Val.add rfl rfl (IntWalk.i64_in _ ⟨by omega,by omega⟩)) ?_;exact Ad2 (by omega) (fun j h h1=>by (rcases Nat.lt_or_ge j k with h4 | h4;exact kI j h h4;have e:j=k:=(by omega);subst e;rw [hx];exact c1')) rfl (zE 8 rfl rfl (zS 0 rfl (zS 1 rfl (zS 7 rfl (Sub.nil _))))) .nil
  intro c0';obtain rfl:k=l.length:=by omega
  refine RunC.exit ?_;refine su ?_;refine Ab0 ?_;refine su ?_;exact Aa4 (.r1 rfl (.tmp rfl)) (by rw [Ar8 (fun j hj=>kI j hj hj)])
theorem AJ4 (l:List (Rp)) (q:Option Addr) (b o c:Nat) (gf:FuncId) (cap:Array Value) (p:Rp→Bool) (W:World) (hS:Sl W q b o 4 (l.map Rp.cells)) (hl:l.length≤1000000000) (he:Enters Tryz.prog gf) (hf:∀ i (h:i < l.length) w,Mem W [] [] w→Calls Tryz.prog gf ([(.agg (l[i]).cells.toArray:Value)]++cap.toList).toArray w (Pure (.bool (p l[i])) w)) :
    Calls Tryz.prog 190 #[.slice q l.length c,.func (.func gf) #[] cap] W (Pure (.bool (l.any p)) W):=by
  refine Aa2 Tryz.func190 rfl rfl ?_;refine st ?_;refine zc (zF rfl CA5) (fun w hm=>Bo5 l q b o c gf cap p w (Sl.mono hS (by decide) hm (by simp)) hl he (fun i h w2 h2=>hf i h w2 (hm.pass h2))) ?_;exact Aa4 (.r1 rfl (.tmp rfl)) (by rw [← At6])
theorem Bo8 (l:List (Pt)) (q:Option Addr) (b o c:Nat) (gf:FuncId) (cap:Array Value) (p:Pt→Bool) (W:World) (hS:Sl W q b o 5 (l.map Pt.cells)) (hl:l.length≤1000000000) (he:Enters Tryz.prog gf) (hf:∀ i (h:i < l.length) w,Mem W [] [] w→Calls Tryz.prog gf ([(.agg (l[i]).cells.toArray:Value)]++cap.toList).toArray w (Pure (.bool (p l[i])) w)) :
    Calls Tryz.prog 198 #[.slice q l.length c,.func (.func gf) #[] cap] W (Pure (.int .i64 (idxP p l)) W):=by
  refine Aa2 Tryz.func198 rfl rfl ?_;refine su ?_;refine Ad6 (l.length) (fun k q=>(8,.int .i64 (k:Int))::q) (fun _=>_) (fun _=>[]) (fun k=>∀ j (h:j < l.length),j < k→p l[j]=false) (fun j _ h=>absurd h (by omega)) rfl (zE 8 rfl rfl (zS 0 rfl (zS 1 rfl (zS 7 rfl (Sub.nil _))))) .nil ?_;intro k kN kI;refine st ?_;refine cn rfl ?_ ?_
  ·intro c0'
   have hk:k < l.length:=by omega
   obtain ⟨x,hx⟩:∃ x,l[k]=x:=⟨_,rfl⟩;refine st ?_;refine lv (Aa6 rfl rfl AK2 (by omega) (by omega) (hS.ptrM hk)) ?_;refine lv (Ab2 rfl (fun w hm=>hS.loadX (by decide) hm (by simp) BI8 hk hx)) ?_;refine Ab1 (Ac1 rfl rfl he) rfl rfl rfl (fun w hm=>hx ▸ hf k hk w hm) ?_;refine st ?_;refine cn rfl ?_ ?_
   ·intro c1'
    refine su ?_;exact Aa4 (.r1 rfl (.tmp rfl)) (by rw [Ar9 hk (by rw [hx];exact c1') kI])
   intro c1';refine st ?_;refine lv (Val.add rfl rfl (IntWalk.i64_in _ ⟨by omega,by omega⟩)) ?_;exact Ad2 (by omega) (fun j h h1=>by (rcases Nat.lt_or_ge j k with h4 | h4;exact kI j h h4;have e:j=k:=(by omega);subst e;rw [hx];exact c1')) rfl (zE 8 rfl rfl (zS 0 rfl (zS 1 rfl (zS 7 rfl (Sub.nil _))))) .nil
  intro c0';obtain rfl:k=l.length:=by omega
  refine RunC.exit ?_;refine su ?_;refine Ab0 ?_;refine su ?_;exact Aa4 (.r1 rfl (.tmp rfl)) (by rw [Ar8 (fun j hj=>kI j hj hj)])
theorem AJ6 (l:List (Pt)) (q:Option Addr) (b o c:Nat) (gf:FuncId) (cap:Array Value) (p:Pt→Bool) (W:World) (hS:Sl W q b o 5 (l.map Pt.cells)) (hl:l.length≤1000000000) (he:Enters Tryz.prog gf) (hf:∀ i (h:i < l.length) w,Mem W [] [] w→Calls Tryz.prog gf ([(.agg (l[i]).cells.toArray:Value)]++cap.toList).toArray w (Pure (.bool (p l[i])) w)) :
    Calls Tryz.prog 129 #[.slice q l.length c,.func (.func gf) #[] cap] W (Pure (.bool (l.any p)) W):=by
  refine Aa2 Tryz.func129 rfl rfl ?_;refine st ?_;refine zc (zF rfl CC3) (fun w hm=>Bo8 l q b o c gf cap p w (Sl.mono hS (by decide) hm (by simp)) hl he (fun i h w2 h2=>hf i h w2 (hm.pass h2))) ?_;exact Aa4 (.r1 rfl (.tmp rfl)) (by rw [← At6])
theorem Bx4 (l:List (Int)) (q:Option Addr) (b o c:Nat) (gf:FuncId) (cap:Array Value) (p:Int→Bool) (W:World) (hS:Sl W q b o 1 (l.map (fun n:Int=>[Value.int .i64 n]))) (hl:l.length≤1000000000) (he:Enters Tryz.prog gf) (hf:∀ i (h:i < l.length) w,Mem W [] [] w→Calls Tryz.prog gf ([(.int .i64 l[i]:Value)]++cap.toList).toArray w (Pure (.bool (p l[i])) w)) :
    Calls Tryz.prog 233 #[.slice q l.length c,.func (.func gf) #[] cap] W (Pure (.int .i64 (idxP p l)) W):=by
  refine Aa2 Tryz.func233 rfl rfl ?_;refine su ?_;refine Ad6 (l.length) (fun k q=>(8,.int .i64 (k:Int))::q) (fun _=>_) (fun _=>[]) (fun k=>∀ j (h:j < l.length),j < k→p l[j]=false) (fun j _ h=>absurd h (by omega)) rfl (zE 8 rfl rfl (zS 0 rfl (zS 1 rfl (zS 7 rfl (Sub.nil _))))) .nil ?_;intro k kN kI;refine st ?_;refine cn rfl ?_ ?_
  ·intro c0'
   have hk:k < l.length:=by omega
   obtain ⟨x,hx⟩:∃ x,l[k]=x:=⟨_,rfl⟩;refine st ?_;refine lv (Aa6 rfl rfl Ak6 (by omega) (by omega) (hS.ptrM hk)) ?_;refine lv (Ab2 rfl (fun w hm=>hS.loadM1 (by decide) hm (by simp) Af4 hk (v:=.int .i64 x) (by simp [hx]))) ?_;refine Ab1 (Ac1 rfl rfl he) rfl rfl rfl (fun w hm=>hx ▸ hf k hk w hm) ?_;refine st ?_;refine cn rfl ?_ ?_
   ·intro c1'
    refine su ?_;exact Aa4 (.r1 rfl (.tmp rfl)) (by rw [Ar9 hk (by rw [hx];exact c1') kI])
   intro c1';refine st ?_;refine lv (Val.add rfl rfl (IntWalk.i64_in _ ⟨by omega,by omega⟩)) ?_;exact Ad2 (by omega) (fun j h h1=>by (rcases Nat.lt_or_ge j k with h4 | h4;exact kI j h h4;have e:j=k:=(by omega);subst e;rw [hx];exact c1')) rfl (zE 8 rfl rfl (zS 0 rfl (zS 1 rfl (zS 7 rfl (Sub.nil _))))) .nil
  intro c0';obtain rfl:k=l.length:=by omega
  refine RunC.exit ?_;refine su ?_;refine Ab0 ?_;refine su ?_;exact Aa4 (.r1 rfl (.tmp rfl)) (by rw [Ar8 (fun j hj=>kI j hj hj)])
theorem As2 (l:List (Int)) (q:Option Addr) (b o c:Nat) (gf:FuncId) (cap:Array Value) (p:Int→Bool) (W:World) (hS:Sl W q b o 1 (l.map (fun n:Int=>[Value.int .i64 n]))) (hl:l.length≤1000000000) (he:Enters Tryz.prog gf) (hf:∀ i (h:i < l.length) w,Mem W [] [] w→Calls Tryz.prog gf ([(.int .i64 l[i]:Value)]++cap.toList).toArray w (Pure (.bool (p l[i])) w)) :
    Calls Tryz.prog 188 #[.slice q l.length c,.func (.func gf) #[] cap] W (Pure (.bool (l.any p)) W):=by
  refine Aa2 Tryz.func188 rfl rfl ?_;refine st ?_;refine zc (zF rfl CA7) (fun w hm=>Bx4 l q b o c gf cap p w (Sl.mono hS (by decide) hm (by simp)) hl he (fun i h w2 h2=>hf i h w2 (hm.pass h2))) ?_;exact Aa4 (.r1 rfl (.tmp rfl)) (by rw [← At6])
theorem Bo6 (l:List (SA Sp)) (q:Option Addr) (b o c:Nat) (gf:FuncId) (cap:Array Value) (p:SA Sp→Bool) (W:World) (hS:Sl W q b o 1 (l.map SA.cell)) (hl:l.length≤1000000000) (he:Enters Tryz.prog gf) (hf:∀ i (h:i < l.length) w,Mem W [] [] w→Calls Tryz.prog gf ([((l[i]).v:Value)]++cap.toList).toArray w (Pure (.bool (p l[i])) w)) :
    Calls Tryz.prog 224 #[.slice q l.length c,.func (.func gf) #[] cap] W (Pure (.int .i64 (idxP p l)) W):=by
  refine Aa2 Tryz.func224 rfl rfl ?_;refine su ?_;refine Ad6 (l.length) (fun k q=>(8,.int .i64 (k:Int))::q) (fun _=>_) (fun _=>[]) (fun k=>∀ j (h:j < l.length),j < k→p l[j]=false) (fun j _ h=>absurd h (by omega)) rfl (zE 8 rfl rfl (zS 0 rfl (zS 1 rfl (zS 7 rfl (Sub.nil _))))) .nil ?_;intro k kN kI;refine st ?_;refine cn rfl ?_ ?_
  ·intro c0'
   have hk:k < l.length:=by omega
   obtain ⟨x,hx⟩:∃ x,l[k]=x:=⟨_,rfl⟩;refine st ?_;refine lv (Aa6 rfl rfl Aq3 (by omega) (by omega) (hS.ptrM hk)) ?_;refine lv (Ab2 rfl (fun w hm=>hS.loadM1 (by decide) hm (by simp) Az9 hk (v:=(x).v) (by simp [hx,SA.cell]))) ?_;refine Ab1 (Ac1 rfl rfl he) rfl rfl rfl (fun w hm=>hx ▸ hf k hk w hm) ?_;refine st ?_;refine cn rfl ?_ ?_
   ·intro c1'
    refine su ?_;exact Aa4 (.r1 rfl (.tmp rfl)) (by rw [Ar9 hk (by rw [hx];exact c1') kI])
   intro c1';refine st ?_;refine lv (Val.add rfl rfl (IntWalk.i64_in _ ⟨by omega,by omega⟩)) ?_;exact Ad2 (by omega) (fun j h h1=>by (rcases Nat.lt_or_ge j k with h4 | h4;exact kI j h h4;have e:j=k:=(by omega);subst e;rw [hx];exact c1')) rfl (zE 8 rfl rfl (zS 0 rfl (zS 1 rfl (zS 7 rfl (Sub.nil _))))) .nil
  intro c0';obtain rfl:k=l.length:=by omega
  refine RunC.exit ?_;refine su ?_;refine Ab0 ?_;refine su ?_;exact Aa4 (.r1 rfl (.tmp rfl)) (by rw [Ar8 (fun j hj=>kI j hj hj)])
theorem Af1 (l:List (SA Sp)) (q:Option Addr) (b o c:Nat) (gf:FuncId) (cap:Array Value) (p:SA Sp→Bool) (W:World) (hS:Sl W q b o 1 (l.map SA.cell)) (hl:l.length≤1000000000) (he:Enters Tryz.prog gf) (hf:∀ i (h:i < l.length) w,Mem W [] [] w→Calls Tryz.prog gf ([((l[i]).v:Value)]++cap.toList).toArray w (Pure (.bool (p l[i])) w)) :
    Calls Tryz.prog 162 #[.slice q l.length c,.func (.func gf) #[] cap] W (Pure (.bool (l.any p)) W):=by
  refine Aa2 Tryz.func162 rfl rfl ?_;refine st ?_;refine zc (zF rfl CB1) (fun w hm=>Bo6 l q b o c gf cap p w (Sl.mono hS (by decide) hm (by simp)) hl he (fun i h w2 h2=>hf i h w2 (hm.pass h2))) ?_;exact Aa4 (.r1 rfl (.tmp rfl)) (by rw [← At6])
theorem Bo7 (l:List (SA Int)) (q:Option Addr) (b o c:Nat) (gf:FuncId) (cap:Array Value) (p:SA Int→Bool) (W:World) (hS:Sl W q b o 1 (l.map SA.cell)) (hl:l.length≤1000000000) (he:Enters Tryz.prog gf) (hf:∀ i (h:i < l.length) w,Mem W [] [] w→Calls Tryz.prog gf ([((l[i]).v:Value)]++cap.toList).toArray w (Pure (.bool (p l[i])) w)) :
    Calls Tryz.prog 234 #[.slice q l.length c,.func (.func gf) #[] cap] W (Pure (.int .i64 (idxP p l)) W):=by
  refine Aa2 Tryz.func234 rfl rfl ?_;refine su ?_;refine Ad6 (l.length) (fun k q=>(8,.int .i64 (k:Int))::q) (fun _=>_) (fun _=>[]) (fun k=>∀ j (h:j < l.length),j < k→p l[j]=false) (fun j _ h=>absurd h (by omega)) rfl (zE 8 rfl rfl (zS 0 rfl (zS 1 rfl (zS 7 rfl (Sub.nil _))))) .nil ?_;intro k kN kI;refine st ?_;refine cn rfl ?_ ?_
  ·intro c0'
   have hk:k < l.length:=by omega
   obtain ⟨x,hx⟩:∃ x,l[k]=x:=⟨_,rfl⟩;refine st ?_;refine lv (Aa6 rfl rfl BJ7 (by omega) (by omega) (hS.ptrM hk)) ?_;refine lv (Ab2 rfl (fun w hm=>hS.loadM1 (by decide) hm (by simp) As7 hk (v:=(x).v) (by simp [hx,SA.cell]))) ?_;refine Ab1 (Ac1 rfl rfl he) rfl rfl rfl (fun w hm=>hx ▸ hf k hk w hm) ?_;refine st ?_;refine cn rfl ?_ ?_
   ·intro c1'
    refine su ?_;exact Aa4 (.r1 rfl (.tmp rfl)) (by rw [Ar9 hk (by rw [hx];exact c1') kI])
   intro c1';refine st ?_;refine lv (Val.add rfl rfl (IntWalk.i64_in _ ⟨by omega,by omega⟩)) ?_;exact Ad2 (by omega) (fun j h h1=>by (rcases Nat.lt_or_ge j k with h4 | h4;exact kI j h h4;have e:j=k:=(by omega);subst e;rw [hx];exact c1')) rfl (zE 8 rfl rfl (zS 0 rfl (zS 1 rfl (zS 7 rfl (Sub.nil _))))) .nil
  intro c0';obtain rfl:k=l.length:=by omega
  refine RunC.exit ?_;refine su ?_;refine Ab0 ?_;refine su ?_;exact Aa4 (.r1 rfl (.tmp rfl)) (by rw [Ar8 (fun j hj=>kI j hj hj)])
theorem AJ5 (l:List (SA Int)) (q:Option Addr) (b o c:Nat) (gf:FuncId) (cap:Array Value) (p:SA Int→Bool) (W:World) (hS:Sl W q b o 1 (l.map SA.cell)) (hl:l.length≤1000000000) (he:Enters Tryz.prog gf) (hf:∀ i (h:i < l.length) w,Mem W [] [] w→Calls Tryz.prog gf ([((l[i]).v:Value)]++cap.toList).toArray w (Pure (.bool (p l[i])) w)) :
    Calls Tryz.prog 189 #[.slice q l.length c,.func (.func gf) #[] cap] W (Pure (.bool (l.any p)) W):=by
  refine Aa2 Tryz.func189 rfl rfl ?_;refine st ?_;refine zc (zF rfl CA6) (fun w hm=>Bo7 l q b o c gf cap p w (Sl.mono hS (by decide) hm (by simp)) hl he (fun i h w2 h2=>hf i h w2 (hm.pass h2))) ?_;exact Aa4 (.r1 rfl (.tmp rfl)) (by rw [← At6])
end Go.Proofs.YtmkdbdbenfbkhaaGreatDoor
namespace Go.Proofs.YtmkdbdbenfbkhaaGreatDoor
open Go Go.Eng
theorem Aw5:apB Tryz.prog 23=some (22,1,24):=by kernel_rfl
theorem AR2:Enters Tryz.prog 127:=Aa3 Tryz.func127 (by kernel_rfl) rfl
theorem CE2:Enters Tryz.prog 159:=Aa3 Tryz.func159 (by kernel_rfl) rfl
theorem Cc9:Enters Tryz.prog 161:=Aa3 Tryz.func161 (by kernel_rfl) rfl
theorem Cs9:Tryz.prog.underlying 23=some (.slice 22):=by kernel_rfl
theorem BQ1:tyB Tryz.prog 280=some (false,1):=by kernel_rfl
instance:Tyc Tryz.prog 280 false 1:=⟨BQ1⟩
end Go.Proofs.YtmkdbdbenfbkhaaGreatDoor
namespace Go.Bk
open Go Go.Eng Go.RowKit
structure TrA where
  dawn:Int
  fr:SA Sp
  ways:SA (SA Sp)
  stay:SA Sp
  light:SA Sp
def TrA.cells (t:TrA):List Value:=[.int .i64 t.dawn,t.fr.v,t.ways.v,t.stay.v,t.light.v]
def TrA.v (t:TrA):Value:=.agg t.cells.toArray
def TrA.pl (t:TrA):Tr:=⟨t.dawn,t.fr.l,t.ways.l.map (·.l),t.stay.l,t.light.l⟩
structure TrOk (W:World) (t:TrA):Prop where
  fr:t.fr.ok Sp.cells 2 W
  ways:t.ways.ok SA.cell 1 W
  rows:∀ x∈t.ways.l,x.ok Sp.cells 2 W
  stay:t.stay.ok Sp.cells 2 W
  light:t.light.ok Sp.cells 2 W
  wq:t.ways.q=none→t.ways.l.length=0∧t.ways.c=0
theorem TrOk.mono0 {W w:World} {t:TrA} {news:Blks} (h:TrOk W t) (hm:Mem W [] news w):TrOk w t :=
  ⟨h.fr.mono0 (by decide) hm,h.ways.mono0 (by decide) hm,fun x hx=>(h.rows x hx).mono0 (by decide) hm,h.stay.mono0 (by decide) hm,h.light.mono0 (by decide) hm,h.wq⟩
structure TrSm (t:TrA):Prop where
  fr:t.fr.l.length≤10000
  ways:t.ways.l.length≤10000
  rows:∀ x∈t.ways.l,x.l.length≤10000
  stay:t.stay.l.length≤10000
  light:t.light.l.length≤10000
def TrA.all (t:TrA):List (SA Sp):=t.ways.l++[t.fr,t.stay,t.light]
theorem TrOk.all {W:World} {t:TrA} (h:TrOk W t):∀ x∈t.all,x.ok Sp.cells 2 W:=fun x hx=>by
  rcases List.mem_append.1 hx with hx | hx
  · exact h.rows x hx
  · simp only [List.mem_cons,List.not_mem_nil,or_false] at hx
    rcases hx with rfl | rfl | rfl
    · exact h.fr
    · exact h.stay
    · exact h.light
theorem TrSm.all {t:TrA} (h:TrSm t):∀ x∈t.all,x.l.length≤10000:=fun x hx=>by
  rcases List.mem_append.1 hx with hx | hx
  · exact h.rows x hx
  · simp only [List.mem_cons,List.not_mem_nil,or_false] at hx
    rcases hx with rfl | rfl | rfl
    · exact h.fr
    · exact h.stay
    · exact h.light
theorem any_map {α β:Type} (f:α→β) (p:β→Bool) (l:List α):(l.map f).any p=l.any fun x=>p (f x):=by induction l <;> simp_all
theorem BD9 (t:TrA) (n:Nat):(t.pl.ways++[t.pl.fr,t.pl.stay,t.pl.light]).any (badRow n)=t.all.any fun x=>badRow n x.l:=by
  unfold TrA.all TrA.pl;simp [any_map]
  rfl
structure CbA where
  slots:Int
  homes:SA Int
  wrong:Int
  loans:SA Ln
def CbA.cells (c:CbA):List Value:=[.int .i64 c.slots,c.homes.v,.int .i64 c.wrong,c.loans.v]
def CbA.v (c:CbA):Value:=.agg c.cells.toArray
def CbA.pl (c:CbA):Cb:=⟨c.slots,c.homes.l,c.wrong,c.loans.l⟩
structure CbOk (W:World) (c:CbA):Prop where
  homes:c.homes.ok intC 1 W
  loans:c.loans.ok Ln.cells 4 W
theorem CbOk.mono0 {W w:World} {t:CbA} {news:Blks} (h:CbOk W t) (hm:Mem W [] news w):CbOk w t:=⟨h.homes.mono0 (by decide) hm,h.loans.mono0 (by decide) hm⟩
structure CbS (c:CbA):Prop where
  homes:c.homes.l.length≤10000
  loans:c.loans.l.length≤10000
structure CbSm (c:CbA):Prop where
  homes:c.homes.l.length≤10000
  loans:c.loans.l.length≤10000
  slots:-9223372036854775807≤c.slots∧c.slots≤9223372036854775807
structure RyA where
  terms:SA Tm
  prices:SA Int
  shares:SA (SA Int)
  reports:SA Rp
  paid:SA Int
def RyA.cells (r:RyA):List Value:=[r.terms.v,r.prices.v,r.shares.v,r.reports.v,r.paid.v]
def RyA.v (r:RyA):Value:=.agg r.cells.toArray
def RyA.pl (r:RyA):Ry:=⟨r.terms.l,r.prices.l,r.shares.l.map (·.l),r.reports.l,r.paid.l⟩
structure RyOk (W:World) (r:RyA):Prop where
  terms:r.terms.ok Tm.cells 3 W
  prices:r.prices.ok intC 1 W
  shares:r.shares.ok SA.cell 1 W
  rows:∀ x∈r.shares.l,x.ok intC 1 W
  reports:r.reports.ok Rp.cells 4 W
  paid:r.paid.ok intC 1 W
theorem RyOk.mono0 {W w:World} {t:RyA} {news:Blks} (h:RyOk W t) (hm:Mem W [] news w):RyOk w t :=
  ⟨h.terms.mono0 (by decide) hm,h.prices.mono0 (by decide) hm,h.shares.mono0 (by decide) hm,fun x hx=>(h.rows x hx).mono0 (by decide) hm,h.reports.mono0 (by decide) hm,h.paid.mono0 (by decide) hm⟩
structure RySm (r:RyA):Prop where
  terms:r.terms.l.length≤10000
  prices:r.prices.l.length≤10000
  shares:r.shares.l.length≤10000
  rows:∀ x∈r.shares.l,x.l.length≤10000
  reports:r.reports.l.length≤10000
  paid:r.paid.l.length≤10000
structure PsA where
  cards:SA Pt
  less:Sp
  loss:Sp
def PsA.cells (p:PsA):List Value:=[p.cards.v,.int .i64 p.less.lo,.int .i64 p.less.hi,.int .i64 p.loss.lo,.int .i64 p.loss.hi]
def PsA.v (p:PsA):Value:=.agg p.cells.toArray
def PsA.pl (p:PsA):Ps:=⟨p.cards.l,p.less,p.loss⟩
abbrev RO (l:List (SA Sp)):={ x:Eng.Own // OwnOk 1 x l.length (l.map SA.cell).flatten }
theorem Cm1 {α:Type} (s:SA α):s.cell.all (·.oneCell')=true:=rfl
theorem AH9 {l:List Int} {k:Nat} {x:Int} (hk:k < l.length) (hx:l[k]=x):(l.take (k + 1)).sum=(l.take k).sum + x:=by
  rw [List.take_succ_eq_append_getElem hk,List.sum_append,hx];simp
theorem Bv5 {l:List Int} {k:Nat} {x:Int} (hk:k < l.length) (hx:l[k]=x) (h:(l.take k).all (fun n=>within n 0 1000)=true) (h2:within x 0 1000=true):(l.take (k + 1)).all (fun n=>within n 0 1000)=true:=by
  rw [List.take_succ_eq_append_getElem hk,List.all_append,h,hx];simp [h2]
theorem Bb8 {l:List Int} (h:l.all (fun n=>within n 0 1000)=true):0≤l.sum∧l.sum≤1000 * l.length:=by
  induction l with
  | nil=>simp
  | cons a l ih =>
    rw [List.all_cons,Bool.and_eq_true] at h;have h1:=ih h.2;have h2:=h.1;simp only [within,Bool.and_eq_true,decide_eq_true_eq] at h2;rw [List.sum_cons,List.length_cons];omega
end Go.Bk
namespace Go.Bk
open Go Go.Eng Go.RowKit
theorem eqc (a b:Nat):decide ((a:Int)=(b:Int))=decide (a=b):=decide_eq_decide.2 Int.ofNat_inj
theorem le4 (a:Nat):decide ((a:Int)≤4)=decide (a≤4):=decide_eq_decide.2 (by omega)
theorem le5 (a:Nat):decide ((a:Int)≤5)=decide (a≤5):=decide_eq_decide.2 (by omega)
theorem CT2 (a:Nat):decide ((a:Int)≤12)=decide (a≤12):=decide_eq_decide.2 (by omega)
theorem CS8 (a:Nat):decide ((a:Int)≤20)=decide (a≤20):=decide_eq_decide.2 (by omega)
theorem AY4 (c:Cb) (k:Nat):homesX c (k + 1)=(homesX c k && (within (c.homes.getD k 0) 0 (c.slots - 1) && decide (idxX c.homes (c.homes.getD k 0)=(k:Int)))):=by
  unfold homesX;rw [List.range_succ,List.all_append];simp
def homesH (hi:Int) (c:Cb) (k:Nat):Bool:=(List.range k).all fun i=>within (c.homes.getD i 0) 0 hi && decide (idxX c.homes (c.homes.getD i 0)=(i:Int))
theorem Bx5 (hi:Int) (c:Cb) (k:Nat):homesH hi c (k + 1)=(homesH hi c k && (within (c.homes.getD k 0) 0 hi && decide (idxX c.homes (c.homes.getD k 0)=(k:Int)))):=by
  unfold homesH;rw [List.range_succ,List.all_append];simp
theorem BX2 {c:Cb} (h:within c.slots 1 6=true) (k:Nat):homesH (IntKind.i64.wrap (c.slots - 1)) c k=homesX c k:=by
  simp only [within,Bool.and_eq_true,decide_eq_true_eq] at h;unfold homesH homesX;rw [IntWalk.i64_in _ ⟨by omega,by omega⟩]
theorem Bv6 {r:RyA} (p:List Int→Bool):(r.pl.shares).any p=r.shares.l.any fun x=>p x.l:=any_map _ _ _
end Go.Bk
namespace Go.Proofs.YtmkdbdbenfbkhaaGreatDoor
open Go Go.Eng Go.Bk

theorem Ae8 (l:List (SA Sp)) (q:Option Addr) (b o c:Nat) (W:World) (hS:Sl W q b o 1 (l.map SA.cell)) (hl:l.length≤10000) (hq:q=none→l.length=0∧c=0):Calls Tryz.prog 163 #[.slice q l.length c] W
    (News (fun z:RO l=>ownV z.1 l.length) (fun z=>ownB 22 z.1 (l.map SA.cell).flatten++[]) W):=by
  cases q with
  | none =>
    obtain ⟨h1,rfl⟩:=hq rfl;have h0:l=[]:=List.length_eq_zero_iff.1 h1;subst h0;refine Aa2 Tryz.func163 rfl rfl ?_;refine st ?_;refine lv (Aw1 rfl Cs9) ?_;refine RunC.cond rfl ?_ (fun h=>absurd h (by simp))
    intro c0;clear c0;refine su ?_;exact RunE.ret (chg:=[]) (.r1 rfl (.tmp rfl)) (fun _ hm=>⟨⟨none,OwnOk.start⟩,rfl,hm⟩)
  | some a =>
    refine Aa2 Tryz.func163 rfl rfl ?_;refine st ?_;refine lv (Ax4 rfl Cs9) ?_;refine RunC.cond rfl (fun h=>absurd h (by simp)) ?_;intro c0;clear c0;refine st ?_;refine zn (As4 Aq3) (fun b5=>?_)
    refine RunL.append (A:=[]) (B:=_) (x:=(some (b5,0,[]))) (ys:=(l.map SA.cell).flatten) Aw5 rfl rfl rfl OwnOk.empty (by rw [AE8 (f:=SA.cell) (sz:=1) (fun _=>rfl)]) (fun h=>by cases h) (fun w hm=>(Sl.mono hS (by decide) hm (by simp)).flat (by decide)) (AL4 (f:=SA.cell) Cm1 l) (by simp only [maxLen];omega) (by omega) rfl (fun z7 hz7=>?_)
    refine su ?_;exact RunE.ret (chg:=[]) (.r1 rfl (.tmp rfl)) (fun _ hm=>⟨⟨z7,by simpa using hz7⟩,by simp,hm.pick (Pick.refl _)⟩)
theorem BA4 (s:Sp) (W:World):Calls Tryz.prog 159 #[.agg s.cells.toArray] W (Pure (.bool (badSp s)) W):=by
  refine Aa2 Tryz.func159 rfl rfl ?_;refine st ?_;refine zn (New.box rfl) (fun b1=>?_)
  refine zc (zF rfl AR2) (fun w hm=>Ap5 ⟨_,_⟩ _ w) ?_;exact Aa4 (.r1 rfl (.tmp rfl)) (by first | rfl | simp)
theorem Aj5 (n:Nat) (x:SA Sp) (b3 b4:Nat) (W:World) (h3:W.heap[b3]? = some (.cells [.int .i64 (n:Int)].toArray 3 (0,0))) (h4:W.heap[b4]? = some (.cells [.func (.func 159) #[] #[]].toArray 280 (0,0))) (hS:x.ok Sp.cells 2 W) (hl:x.l.length≤10000) :
    Calls Tryz.prog 160 #[x.v,.pointer (some ⟨b3,0,none⟩),.pointer (some ⟨b4,0,none⟩)] W (Pure (.bool (badRow n x.l)) W):=by
  refine Aa2 Tryz.func160 rfl rfl ?_;refine su ?_;refine lv (Aa9 rfl h3 (by simp) Af4 rfl) ?_
  refine Ae1 (dj:=9) (dp:=13) 4 rfl (fun g9=>by
    have g9':=g9;try simp only [nH] at g9'
    refine st ?_;refine lv (Aa9 rfl h4 (by simp) BQ1 rfl) ?_;refine Ab1 (zF rfl Cc9) rfl rfl rfl (fun w hm=>AJ3 x.l x.q x.b x.o x.c 159 #[] badSp w (hS.mono0 (by decide) hm) (by omega) CE2 (fun i h w2 h2=>BA4 _ w2)) ?_;refine sv ?_;exact zs g9
  ) (fun g9=>by
    have g9':=g9;try simp only [nH] at g9'
    iterate 3 refine Ac9 rfl rfl rfl ?_
    refine sv ?_;exact zs g9
  ) ?_
  refine su ?_;exact Aa4 (.r1 rfl (.tmp rfl)) (by unfold badRow;simp only [Int.ofNat_inj])
end Go.Proofs.YtmkdbdbenfbkhaaGreatDoor
namespace Go.Proofs.YtmkdbdbenfbkhaaGreatDoor
open Go Go.Eng
theorem Ai8:Enters Tryz.prog 128:=Aa3 Tryz.func128 (by kernel_rfl) rfl
theorem Ax2:Enters Tryz.prog 160:=Aa3 Tryz.func160 (by kernel_rfl) rfl
theorem Am2:Enters Tryz.prog 162:=Aa3 Tryz.func162 (by kernel_rfl) rfl
theorem Am1:Enters Tryz.prog 163:=Aa3 Tryz.func163 (by kernel_rfl) rfl
theorem AL7:fieldB Tryz.prog 25 0=some 0:=by kernel_rfl
instance:Fld Tryz.prog 25 0 0:=⟨AL7⟩
theorem Cp2:fieldB Tryz.prog 25 1=some 1:=by kernel_rfl
instance:Fld Tryz.prog 25 1 1:=⟨Cp2⟩
theorem Cp1:fieldB Tryz.prog 25 2=some 2:=by kernel_rfl
instance:Fld Tryz.prog 25 2 2:=⟨Cp1⟩
theorem Be2:fieldB Tryz.prog 25 3=some 3:=by kernel_rfl
instance:Fld Tryz.prog 25 3 3:=⟨Be2⟩
theorem Cp0:fieldB Tryz.prog 25 4=some 4:=by kernel_rfl
instance:Fld Tryz.prog 25 4 4:=⟨Cp0⟩
theorem As5:Tryz.prog.follows .mixedOrders=true:=by kernel_rfl
theorem Cx0:tyB Tryz.prog 23=some (false,1):=by kernel_rfl
instance:Tyc Tryz.prog 23 false 1:=⟨Cx0⟩
theorem Ak5:zeroB Tryz.prog 22=some [.slice none 0 0]:=by kernel_rfl
theorem Cg9:zeroB Tryz.prog 280=some [.nilFunc]:=by kernel_rfl
theorem Ap0:zeroB Tryz.prog 3=some [.int .i64 0]:=by kernel_rfl
end Go.Proofs.YtmkdbdbenfbkhaaGreatDoor
namespace Go.Bk
open Go Go.Eng Go.RowKit
theorem BE0 {t:TrA} {B:Bool} (h:t.all.any (fun x=>badRow t.fr.l.length x.l)=B):tourX t.pl=(decide (t.fr.l.length≤6) && decide (t.ways.l.length=t.fr.l.length) && within t.dawn 0 1440 && !B):=by
  unfold tourX;rw [BD9,show t.pl.fr.length=t.fr.l.length from rfl,h,show t.pl.ways.length=t.ways.l.length by simp [TrA.pl]];rfl
end Go.Bk
namespace Go.Proofs.YtmkdbdbenfbkhaaGreatDoor
open Go Go.Eng Go.Bk

theorem Bn8 (t:TrA) (hs:TrSm t) (W:World) (hT:TrOk W t):Calls Tryz.prog 97 #[t.v] W (Pure (.bool (tourX t.pl)) W):=by
  obtain ⟨B,hB⟩:∃ B,t.all.any (fun x=>badRow t.fr.l.length x.l)=B:=⟨_,rfl⟩;rw [BE0 hB];have hl1:=hs.fr;have hl2:=hs.ways;have hal:t.all.length=t.ways.l.length + 3:=by simp [TrA.all]
  refine Aa2 Tryz.func97 rfl rfl ?_;refine st ?_;refine zn (New.box rfl) (fun b1=>?_)
  refine zn (New.alloc Ap0) (fun b3=>?_)
  refine Ab4 (Sto.store rfl rfl .here Af4 rfl rfl) rfl rfl ?_;refine st ?_;refine zn (New.alloc Cg9) (fun b4=>?_)
  refine Ab4 (Sto.store rfl rfl .here BQ1 rfl rfl) rfl rfl ?_;refine st ?_;refine An2 (X:=Unit) 27 (n0:=[]) (fun u q=>(2,.bool (decide (t.fr.l.length≤6) && decide (t.ways.l.length=t.fr.l.length) && within t.dawn 0 1440 && !B))::q) (fun u=>[]) (fun u=>[]) (fun u=>[]) (fun u=>True) As5 (.cons .here rfl (.cons .here rfl (.cons .here rfl .nil))) (Sub.nil _) .nil ?_ ?_
  ·refine zw 0 ?_
   refine zw 1 ?_;refine zw 2 ?_;refine Ah5 (dj:=12) rfl ?_ ?_
   ·intro g12
    have g12':=g12;clear g12;try simp only [nH] at g12'
    refine zw 3 ?_;refine zw 4 ?_;refine zw 5 ?_;refine zw 6 ?_;refine zw 7 ?_;refine zw 8 ?_;refine zw 9 ?_;refine Ah5 (dj:=19) rfl ?_ ?_
    ·intro g19
     have g19':=g19;clear g19;try simp only [nH] at g19'
     refine zw 10 ?_;refine zw 11 ?_;refine zA 12 ?_;refine Ac4 rfl (zF rfl Ai8) rfl rfl rfl (fun w hm=>Ae5 _ _ _ w) (Aa5 (.cons .here rfl (.cons .here rfl (.cons .here rfl .nil))) (.cons .here rfl (.cons .here rfl (.cons .here rfl .nil))) rfl ?_)
     refine zw 13 ?_;refine zw 14 ?_;refine Ah5 (dj:=24) rfl ?_ ?_
     ·intro g24
      have g24':=g24;clear g24;try simp only [nH] at g24'
      refine zw 15 ?_;refine zw 16 ?_;refine zw 18 ?_;refine zw 19 ?_;refine zw 20 ?_;refine zw 21 ?_;refine zw 22 ?_;refine zw 23 ?_;refine zw 26 ?_;refine Ag5 (rs:=[17,24]) (by kernel_rfl) (by simp) (by kernel_rfl) (fun m hm=>?_)
      simp only [List.mem_cons,List.not_mem_nil,or_false] at hm
      rcases hm with rfl | rfl
      ·refine Ae4 [(b4,_),(b3,_),(b1,_)] _ rfl rfl (zF rfl Am1) rfl rfl rfl (fun w hm=>Ae8 t.ways.l t.ways.q t.ways.b t.ways.o t.ways.c w (hT.ways.mono0 (by decide) hm) (by omega) hT.wq) (fun z27=>(Aa5 (.cons .here rfl (.cons .here rfl (.cons .here rfl .nil))) (.cons .here rfl (.cons .here rfl (.cons .here rfl .nil))) rfl ?_))
       obtain ⟨x27,hx27⟩:=z27;dsimp only;refine zA 24 ?_;refine Ae0 rfl (New.buildSlice (parts:=[(0,.tmp 29),(1,.tmp 31),(2,.tmp 33)]) rfl Aq3 Ak5 rfl rfl rfl rfl) rfl rfl rfl (fun b34=>(Aa5 (.cons .here rfl (.cons .here rfl (.cons .here rfl (.cons .here rfl .nil)))) (.cons (.there .here) rfl (.cons (.there .here) rfl (.cons (.there .here) rfl .nil))) rfl ?_))
       refine zA 25 ?_;refine Af2 (A:=[(b34,_),(b4,_),(b3,_),(b1,_)]) (B:=_) (x:=x27) (ys:=[t.fr.v,t.stay.v,t.light.v]) rfl rfl Aw5 rfl rfl rfl hx27 (by rfl) (fun h=>by cases h) (fun w hm=>Ah3 (hm.at (.head _))) (Ak2 rfl) (by simp only [maxLen];omega) (by omega) rfl (fun z35 hz35=>(Aa5 (.cons .here rfl (.cons .here rfl (.cons .here rfl (.cons .here rfl .nil)))) (.cons .here rfl (.cons .here rfl (.cons .here rfl (.cons .here rfl .nil)))) rfl ?_))
       refine zt ?_;refine zB 27 ?_;have ez:(t.ways.l.map SA.cell).flatten++[t.fr.v,t.stay.v,t.light.v]=(t.all.map SA.cell).flatten:=by (simp [TrA.all,SA.cell])
       rw [ez] at hz35;have hz:OwnOk 1 z35 t.all.length (t.all.map SA.cell).flatten:=by (rw [hal];exact hz35)
       have e35:ownV z35 (t.ways.l.length + 3) = .slice (ownQ z35) t.all.length (ownC z35):=by (rw [Ad5 hz35,hal])
       simp only [ez];refine Ac4 rfl (zF rfl Am2) rfl rfl rfl (fun w hm=>(by rw [e35];have h9:=Af1 t.all (ownQ z35) (ownK z35) 0 (ownC z35) 160 #[.pointer (some ⟨b3,0,none⟩),.pointer (some ⟨b4,0,none⟩)] (fun x=>badRow t.fr.l.length x.l) w (Ah1 (f:=SA.cell) (fun _=>rfl) (by decide) hz (fun b o h=>hm.at (.tail _ (.tail _ (.tail _ (.tail _ ((by first | exact List.mem_append_left _ h | exact List.mem_append_right _ (List.mem_append_left _ h))))))))) (by omega) Ax2 (fun i h w2 h2=>Aj5 t.fr.l.length t.all[i] b3 b4 w2 (h2.old_at (hm.at (.tail _ (.tail _ (.head _)))) (by simp)) (h2.old_at (hm.at (.tail _ (.head _))) (by simp)) (((hT.mono0 hm).mono0 h2).all _ (List.getElem_mem h)) (hs.all _ (List.getElem_mem h)));rw [hB] at h9;exact h9)) (Ab5 ?_)
       refine zp 28 ?_;refine zp 29 ?_;refine zp 30 ?_;refine zd ?_;exact Ad3 () trivial rfl (zE 2 rfl (by simp_all <;> (try intros) <;> omega) (Sub.nil _)) .nil
      refine Ae0 rfl (New.buildSlice (parts:=[(0,.tmp 29),(1,.tmp 31),(2,.tmp 33)]) rfl Aq3 Ak5 rfl rfl rfl rfl) rfl rfl rfl (fun b34=>(Aa5 (.cons .here rfl (.cons .here rfl (.cons .here rfl (.cons .here rfl .nil)))) (.cons (.there .here) rfl (.cons (.there .here) rfl (.cons (.there .here) rfl .nil))) rfl ?_))
      refine zA 17 ?_;refine Ae4 [(b34,_),(b4,_),(b3,_),(b1,_)] _ rfl rfl (zF rfl Am1) rfl rfl rfl (fun w hm=>Ae8 t.ways.l t.ways.q t.ways.b t.ways.o t.ways.c w (hT.ways.mono0 (by decide) hm) (by omega) hT.wq) (fun z27=>(Aa5 (.cons .here rfl (.cons .here rfl (.cons .here rfl (.cons .here rfl .nil)))) (.cons .here rfl (.cons .here rfl (.cons .here rfl (.cons .here rfl .nil)))) rfl ?_))
      obtain ⟨x27,hx27⟩:=z27;dsimp only;refine zA 25 ?_;refine Af2 (A:=[(b34,_),(b4,_),(b3,_),(b1,_)]) (B:=_) (x:=x27) (ys:=[t.fr.v,t.stay.v,t.light.v]) rfl rfl Aw5 rfl rfl rfl hx27 (by rfl) (fun h=>by cases h) (fun w hm=>Ah3 (hm.at (.head _))) (Ak2 rfl) (by simp only [maxLen];omega) (by omega) rfl (fun z35 hz35=>(Aa5 (.cons .here rfl (.cons .here rfl (.cons .here rfl (.cons .here rfl .nil)))) (.cons .here rfl (.cons .here rfl (.cons .here rfl (.cons .here rfl .nil)))) rfl ?_))
      refine zt ?_;refine zB 27 ?_;have ez:(t.ways.l.map SA.cell).flatten++[t.fr.v,t.stay.v,t.light.v]=(t.all.map SA.cell).flatten:=by (simp [TrA.all,SA.cell])
      rw [ez] at hz35;have hz:OwnOk 1 z35 t.all.length (t.all.map SA.cell).flatten:=by (rw [hal];exact hz35)
      have e35:ownV z35 (t.ways.l.length + 3) = .slice (ownQ z35) t.all.length (ownC z35):=by (rw [Ad5 hz35,hal])
      simp only [ez];refine Ac4 rfl (zF rfl Am2) rfl rfl rfl (fun w hm=>(by rw [e35];have h9:=Af1 t.all (ownQ z35) (ownK z35) 0 (ownC z35) 160 #[.pointer (some ⟨b3,0,none⟩),.pointer (some ⟨b4,0,none⟩)] (fun x=>badRow t.fr.l.length x.l) w (Ah1 (f:=SA.cell) (fun _=>rfl) (by decide) hz (fun b o h=>hm.at (.tail _ (.tail _ (.tail _ (.tail _ ((by first | exact List.mem_append_left _ h | exact List.mem_append_right _ (List.mem_append_left _ h))))))))) (by omega) Ax2 (fun i h w2 h2=>Aj5 t.fr.l.length t.all[i] b3 b4 w2 (h2.old_at (hm.at (.tail _ (.tail _ (.head _)))) (by simp)) (h2.old_at (hm.at (.tail _ (.head _))) (by simp)) (((hT.mono0 hm).mono0 h2).all _ (List.getElem_mem h)) (hs.all _ (List.getElem_mem h)));rw [hB] at h9;exact h9)) (Ab5 ?_)
      refine zp 28 ?_;refine zp 29 ?_;refine zp 30 ?_;refine zd ?_;exact Ad3 () trivial rfl (zE 2 rfl (by simp_all <;> (try intros) <;> omega) (Sub.nil _)) .nil
     intro g24;have g24':=g24;clear g24;try simp only [nH] at g24'
     refine zN 15 ?_;refine zN 16 ?_;refine zN 18 ?_;refine zN 19 ?_;refine zN 20 ?_;refine zN 21 ?_;refine zN 22 ?_;refine zN 23 ?_;refine zN 26 ?_;refine Ag5 (rs:=[17,24]) (by kernel_rfl) (by simp) (by kernel_rfl) (fun m hm=>?_)
     simp only [List.mem_cons,List.not_mem_nil,or_false] at hm
     rcases hm with rfl | rfl
     ·refine Ac6 rfl rfl rfl rfl (Aa5 (.cons .here rfl (.cons .here rfl (.cons .here rfl .nil))) (.cons .here rfl (.cons .here rfl (.cons .here rfl .nil))) rfl ?_)
      refine zA 24 ?_;refine Ac6 rfl rfl rfl rfl (Aa5 (.cons .here rfl (.cons .here rfl (.cons .here rfl .nil))) (.cons .here rfl (.cons .here rfl (.cons .here rfl .nil))) rfl ?_)
      refine zA 25 ?_;refine Ac6 rfl rfl rfl rfl (Aa5 (.cons .here rfl (.cons .here rfl (.cons .here rfl .nil))) (.cons .here rfl (.cons .here rfl (.cons .here rfl .nil))) rfl ?_)
      refine zt ?_;refine zB 27 ?_;refine Ac6 rfl rfl rfl rfl (Ab5 ?_)
      refine zB 28 ?_;refine Ac6 rfl rfl rfl rfl (Ab5 ?_)
      refine zp 29 ?_;refine zp 30 ?_;refine zd ?_;exact Ad3 () trivial rfl (zE 2 rfl (by simp_all <;> (try intros) <;> omega) (Sub.nil _)) .nil
     refine Ac6 rfl rfl rfl rfl (Aa5 (.cons .here rfl (.cons .here rfl (.cons .here rfl .nil))) (.cons .here rfl (.cons .here rfl (.cons .here rfl .nil))) rfl ?_)
     refine zA 17 ?_;refine Ac6 rfl rfl rfl rfl (Aa5 (.cons .here rfl (.cons .here rfl (.cons .here rfl .nil))) (.cons .here rfl (.cons .here rfl (.cons .here rfl .nil))) rfl ?_)
     refine zA 25 ?_;refine Ac6 rfl rfl rfl rfl (Aa5 (.cons .here rfl (.cons .here rfl (.cons .here rfl .nil))) (.cons .here rfl (.cons .here rfl (.cons .here rfl .nil))) rfl ?_)
     refine zt ?_;refine zB 27 ?_;refine Ac6 rfl rfl rfl rfl (Ab5 ?_)
     refine zB 28 ?_;refine Ac6 rfl rfl rfl rfl (Ab5 ?_)
     refine zp 29 ?_;refine zp 30 ?_;refine zd ?_;exact Ad3 () trivial rfl (zE 2 rfl (by simp_all <;> (try intros) <;> omega) (Sub.nil _)) .nil
    intro g19;have g19':=g19;clear g19;try simp only [nH] at g19'
    refine zN 10 ?_;refine zN 11 ?_;refine zA 12 ?_;refine Ac6 rfl rfl rfl rfl (Aa5 (.cons .here rfl (.cons .here rfl (.cons .here rfl .nil))) (.cons .here rfl (.cons .here rfl (.cons .here rfl .nil))) rfl ?_)
    refine zw 13 ?_;refine zw 14 ?_;refine Ah5 (dj:=24) rfl ?_ ?_
    ·intro g24
     have g24':=g24;clear g24;try simp only [nH] at g24'
     refine zw 15 ?_;refine zw 16 ?_;refine zw 18 ?_;refine zw 19 ?_;refine zw 20 ?_;refine zw 21 ?_;refine zw 22 ?_;refine zw 23 ?_;refine zw 26 ?_;refine Ag5 (rs:=[17,24]) (by kernel_rfl) (by simp) (by kernel_rfl) (fun m hm=>?_)
     simp only [List.mem_cons,List.not_mem_nil,or_false] at hm
     rcases hm with rfl | rfl
     ·refine Ae4 [(b4,_),(b3,_),(b1,_)] _ rfl rfl (zF rfl Am1) rfl rfl rfl (fun w hm=>Ae8 t.ways.l t.ways.q t.ways.b t.ways.o t.ways.c w (hT.ways.mono0 (by decide) hm) (by omega) hT.wq) (fun z27=>(Aa5 (.cons .here rfl (.cons .here rfl (.cons .here rfl .nil))) (.cons .here rfl (.cons .here rfl (.cons .here rfl .nil))) rfl ?_))
      obtain ⟨x27,hx27⟩:=z27;dsimp only;refine zA 24 ?_;refine Ae0 rfl (New.buildSlice (parts:=[(0,.tmp 29),(1,.tmp 31),(2,.tmp 33)]) rfl Aq3 Ak5 rfl rfl rfl rfl) rfl rfl rfl (fun b34=>(Aa5 (.cons .here rfl (.cons .here rfl (.cons .here rfl (.cons .here rfl .nil)))) (.cons (.there .here) rfl (.cons (.there .here) rfl (.cons (.there .here) rfl .nil))) rfl ?_))
      refine zA 25 ?_;refine Af2 (A:=[(b34,_),(b4,_),(b3,_),(b1,_)]) (B:=_) (x:=x27) (ys:=[t.fr.v,t.stay.v,t.light.v]) rfl rfl Aw5 rfl rfl rfl hx27 (by rfl) (fun h=>by cases h) (fun w hm=>Ah3 (hm.at (.head _))) (Ak2 rfl) (by simp only [maxLen];omega) (by omega) rfl (fun z35 hz35=>(Aa5 (.cons .here rfl (.cons .here rfl (.cons .here rfl (.cons .here rfl .nil)))) (.cons .here rfl (.cons .here rfl (.cons .here rfl (.cons .here rfl .nil)))) rfl ?_))
      refine zt ?_;refine zB 27 ?_;have ez:(t.ways.l.map SA.cell).flatten++[t.fr.v,t.stay.v,t.light.v]=(t.all.map SA.cell).flatten:=by (simp [TrA.all,SA.cell])
      rw [ez] at hz35;have hz:OwnOk 1 z35 t.all.length (t.all.map SA.cell).flatten:=by (rw [hal];exact hz35)
      have e35:ownV z35 (t.ways.l.length + 3) = .slice (ownQ z35) t.all.length (ownC z35):=by (rw [Ad5 hz35,hal])
      simp only [ez];refine Ac4 rfl (zF rfl Am2) rfl rfl rfl (fun w hm=>(by rw [e35];have h9:=Af1 t.all (ownQ z35) (ownK z35) 0 (ownC z35) 160 #[.pointer (some ⟨b3,0,none⟩),.pointer (some ⟨b4,0,none⟩)] (fun x=>badRow t.fr.l.length x.l) w (Ah1 (f:=SA.cell) (fun _=>rfl) (by decide) hz (fun b o h=>hm.at (.tail _ (.tail _ (.tail _ (.tail _ ((by first | exact List.mem_append_left _ h | exact List.mem_append_right _ (List.mem_append_left _ h))))))))) (by omega) Ax2 (fun i h w2 h2=>Aj5 t.fr.l.length t.all[i] b3 b4 w2 (h2.old_at (hm.at (.tail _ (.tail _ (.head _)))) (by simp)) (h2.old_at (hm.at (.tail _ (.head _))) (by simp)) (((hT.mono0 hm).mono0 h2).all _ (List.getElem_mem h)) (hs.all _ (List.getElem_mem h)));rw [hB] at h9;exact h9)) (Ab5 ?_)
      refine zp 28 ?_;refine zp 29 ?_;refine zp 30 ?_;refine zd ?_;exact Ad3 () trivial rfl (zE 2 rfl (by simp_all <;> (try intros) <;> omega) (Sub.nil _)) .nil
     refine Ae0 rfl (New.buildSlice (parts:=[(0,.tmp 29),(1,.tmp 31),(2,.tmp 33)]) rfl Aq3 Ak5 rfl rfl rfl rfl) rfl rfl rfl (fun b34=>(Aa5 (.cons .here rfl (.cons .here rfl (.cons .here rfl (.cons .here rfl .nil)))) (.cons (.there .here) rfl (.cons (.there .here) rfl (.cons (.there .here) rfl .nil))) rfl ?_))
     refine zA 17 ?_;refine Ae4 [(b34,_),(b4,_),(b3,_),(b1,_)] _ rfl rfl (zF rfl Am1) rfl rfl rfl (fun w hm=>Ae8 t.ways.l t.ways.q t.ways.b t.ways.o t.ways.c w (hT.ways.mono0 (by decide) hm) (by omega) hT.wq) (fun z27=>(Aa5 (.cons .here rfl (.cons .here rfl (.cons .here rfl (.cons .here rfl .nil)))) (.cons .here rfl (.cons .here rfl (.cons .here rfl (.cons .here rfl .nil)))) rfl ?_))
     obtain ⟨x27,hx27⟩:=z27;dsimp only;refine zA 25 ?_;refine Af2 (A:=[(b34,_),(b4,_),(b3,_),(b1,_)]) (B:=_) (x:=x27) (ys:=[t.fr.v,t.stay.v,t.light.v]) rfl rfl Aw5 rfl rfl rfl hx27 (by rfl) (fun h=>by cases h) (fun w hm=>Ah3 (hm.at (.head _))) (Ak2 rfl) (by simp only [maxLen];omega) (by omega) rfl (fun z35 hz35=>(Aa5 (.cons .here rfl (.cons .here rfl (.cons .here rfl (.cons .here rfl .nil)))) (.cons .here rfl (.cons .here rfl (.cons .here rfl (.cons .here rfl .nil)))) rfl ?_))
     refine zt ?_;refine zB 27 ?_;have ez:(t.ways.l.map SA.cell).flatten++[t.fr.v,t.stay.v,t.light.v]=(t.all.map SA.cell).flatten:=by (simp [TrA.all,SA.cell])
     rw [ez] at hz35;have hz:OwnOk 1 z35 t.all.length (t.all.map SA.cell).flatten:=by (rw [hal];exact hz35)
     have e35:ownV z35 (t.ways.l.length + 3) = .slice (ownQ z35) t.all.length (ownC z35):=by (rw [Ad5 hz35,hal])
     simp only [ez];refine Ac4 rfl (zF rfl Am2) rfl rfl rfl (fun w hm=>(by rw [e35];have h9:=Af1 t.all (ownQ z35) (ownK z35) 0 (ownC z35) 160 #[.pointer (some ⟨b3,0,none⟩),.pointer (some ⟨b4,0,none⟩)] (fun x=>badRow t.fr.l.length x.l) w (Ah1 (f:=SA.cell) (fun _=>rfl) (by decide) hz (fun b o h=>hm.at (.tail _ (.tail _ (.tail _ (.tail _ ((by first | exact List.mem_append_left _ h | exact List.mem_append_right _ (List.mem_append_left _ h))))))))) (by omega) Ax2 (fun i h w2 h2=>Aj5 t.fr.l.length t.all[i] b3 b4 w2 (h2.old_at (hm.at (.tail _ (.tail _ (.head _)))) (by simp)) (h2.old_at (hm.at (.tail _ (.head _))) (by simp)) (((hT.mono0 hm).mono0 h2).all _ (List.getElem_mem h)) (hs.all _ (List.getElem_mem h)));rw [hB] at h9;exact h9)) (Ab5 ?_)
     refine zp 28 ?_;refine zp 29 ?_;refine zp 30 ?_;refine zd ?_;exact Ad3 () trivial rfl (zE 2 rfl (by simp_all <;> (try intros) <;> omega) (Sub.nil _)) .nil
    intro g24;have g24':=g24;clear g24;try simp only [nH] at g24'
    refine zN 15 ?_;refine zN 16 ?_;refine zN 18 ?_;refine zN 19 ?_;refine zN 20 ?_;refine zN 21 ?_;refine zN 22 ?_;refine zN 23 ?_;refine zN 26 ?_;refine Ag5 (rs:=[17,24]) (by kernel_rfl) (by simp) (by kernel_rfl) (fun m hm=>?_)
    simp only [List.mem_cons,List.not_mem_nil,or_false] at hm
    rcases hm with rfl | rfl
    ·refine Ac6 rfl rfl rfl rfl (Aa5 (.cons .here rfl (.cons .here rfl (.cons .here rfl .nil))) (.cons .here rfl (.cons .here rfl (.cons .here rfl .nil))) rfl ?_)
     refine zA 24 ?_;refine Ac6 rfl rfl rfl rfl (Aa5 (.cons .here rfl (.cons .here rfl (.cons .here rfl .nil))) (.cons .here rfl (.cons .here rfl (.cons .here rfl .nil))) rfl ?_)
     refine zA 25 ?_;refine Ac6 rfl rfl rfl rfl (Aa5 (.cons .here rfl (.cons .here rfl (.cons .here rfl .nil))) (.cons .here rfl (.cons .here rfl (.cons .here rfl .nil))) rfl ?_)
     refine zt ?_;refine zB 27 ?_;refine Ac6 rfl rfl rfl rfl (Ab5 ?_)
     refine zB 28 ?_;refine Ac6 rfl rfl rfl rfl (Ab5 ?_)
     refine zp 29 ?_;refine zp 30 ?_;refine zd ?_;exact Ad3 () trivial rfl (zE 2 rfl (by simp_all <;> (try intros) <;> omega) (Sub.nil _)) .nil
    refine Ac6 rfl rfl rfl rfl (Aa5 (.cons .here rfl (.cons .here rfl (.cons .here rfl .nil))) (.cons .here rfl (.cons .here rfl (.cons .here rfl .nil))) rfl ?_)
    refine zA 17 ?_;refine Ac6 rfl rfl rfl rfl (Aa5 (.cons .here rfl (.cons .here rfl (.cons .here rfl .nil))) (.cons .here rfl (.cons .here rfl (.cons .here rfl .nil))) rfl ?_)
    refine zA 25 ?_;refine Ac6 rfl rfl rfl rfl (Aa5 (.cons .here rfl (.cons .here rfl (.cons .here rfl .nil))) (.cons .here rfl (.cons .here rfl (.cons .here rfl .nil))) rfl ?_)
    refine zt ?_;refine zB 27 ?_;refine Ac6 rfl rfl rfl rfl (Ab5 ?_)
    refine zB 28 ?_;refine Ac6 rfl rfl rfl rfl (Ab5 ?_)
    refine zp 29 ?_;refine zp 30 ?_;refine zd ?_;exact Ad3 () trivial rfl (zE 2 rfl (by simp_all <;> (try intros) <;> omega) (Sub.nil _)) .nil
   intro g12;have g12':=g12;clear g12;try simp only [nH] at g12'
   refine zN 3 ?_;refine zN 4 ?_;refine zN 5 ?_;refine zN 6 ?_;refine zN 7 ?_;refine zw 8 ?_;refine zw 9 ?_;refine Ah5 (dj:=19) rfl ?_ ?_
   ·intro g19
    have g19':=g19;clear g19;try simp only [nH] at g19'
    refine zw 10 ?_;refine zw 11 ?_;refine zA 12 ?_;refine Ac4 rfl (zF rfl Ai8) rfl rfl rfl (fun w hm=>Ae5 _ _ _ w) (Aa5 (.cons .here rfl (.cons .here rfl (.cons .here rfl .nil))) (.cons .here rfl (.cons .here rfl (.cons .here rfl .nil))) rfl ?_)
    refine zw 13 ?_;refine zw 14 ?_;refine Ah5 (dj:=24) rfl ?_ ?_
    ·intro g24
     have g24':=g24;clear g24;try simp only [nH] at g24'
     refine zw 15 ?_;refine zw 16 ?_;refine zw 18 ?_;refine zw 19 ?_;refine zw 20 ?_;refine zw 21 ?_;refine zw 22 ?_;refine zw 23 ?_;refine zw 26 ?_;refine Ag5 (rs:=[17,24]) (by kernel_rfl) (by simp) (by kernel_rfl) (fun m hm=>?_)
     simp only [List.mem_cons,List.not_mem_nil,or_false] at hm
     rcases hm with rfl | rfl
     ·refine Ae4 [(b4,_),(b3,_),(b1,_)] _ rfl rfl (zF rfl Am1) rfl rfl rfl (fun w hm=>Ae8 t.ways.l t.ways.q t.ways.b t.ways.o t.ways.c w (hT.ways.mono0 (by decide) hm) (by omega) hT.wq) (fun z27=>(Aa5 (.cons .here rfl (.cons .here rfl (.cons .here rfl .nil))) (.cons .here rfl (.cons .here rfl (.cons .here rfl .nil))) rfl ?_))
      obtain ⟨x27,hx27⟩:=z27;dsimp only;refine zA 24 ?_;refine Ae0 rfl (New.buildSlice (parts:=[(0,.tmp 29),(1,.tmp 31),(2,.tmp 33)]) rfl Aq3 Ak5 rfl rfl rfl rfl) rfl rfl rfl (fun b34=>(Aa5 (.cons .here rfl (.cons .here rfl (.cons .here rfl (.cons .here rfl .nil)))) (.cons (.there .here) rfl (.cons (.there .here) rfl (.cons (.there .here) rfl .nil))) rfl ?_))
      refine zA 25 ?_;refine Af2 (A:=[(b34,_),(b4,_),(b3,_),(b1,_)]) (B:=_) (x:=x27) (ys:=[t.fr.v,t.stay.v,t.light.v]) rfl rfl Aw5 rfl rfl rfl hx27 (by rfl) (fun h=>by cases h) (fun w hm=>Ah3 (hm.at (.head _))) (Ak2 rfl) (by simp only [maxLen];omega) (by omega) rfl (fun z35 hz35=>(Aa5 (.cons .here rfl (.cons .here rfl (.cons .here rfl (.cons .here rfl .nil)))) (.cons .here rfl (.cons .here rfl (.cons .here rfl (.cons .here rfl .nil)))) rfl ?_))
      refine zt ?_;refine zB 27 ?_;have ez:(t.ways.l.map SA.cell).flatten++[t.fr.v,t.stay.v,t.light.v]=(t.all.map SA.cell).flatten:=by (simp [TrA.all,SA.cell])
      rw [ez] at hz35;have hz:OwnOk 1 z35 t.all.length (t.all.map SA.cell).flatten:=by (rw [hal];exact hz35)
      have e35:ownV z35 (t.ways.l.length + 3) = .slice (ownQ z35) t.all.length (ownC z35):=by (rw [Ad5 hz35,hal])
      simp only [ez];refine Ac4 rfl (zF rfl Am2) rfl rfl rfl (fun w hm=>(by rw [e35];have h9:=Af1 t.all (ownQ z35) (ownK z35) 0 (ownC z35) 160 #[.pointer (some ⟨b3,0,none⟩),.pointer (some ⟨b4,0,none⟩)] (fun x=>badRow t.fr.l.length x.l) w (Ah1 (f:=SA.cell) (fun _=>rfl) (by decide) hz (fun b o h=>hm.at (.tail _ (.tail _ (.tail _ (.tail _ ((by first | exact List.mem_append_left _ h | exact List.mem_append_right _ (List.mem_append_left _ h))))))))) (by omega) Ax2 (fun i h w2 h2=>Aj5 t.fr.l.length t.all[i] b3 b4 w2 (h2.old_at (hm.at (.tail _ (.tail _ (.head _)))) (by simp)) (h2.old_at (hm.at (.tail _ (.head _))) (by simp)) (((hT.mono0 hm).mono0 h2).all _ (List.getElem_mem h)) (hs.all _ (List.getElem_mem h)));rw [hB] at h9;exact h9)) (Ab5 ?_)
      refine zp 28 ?_;refine zp 29 ?_;refine zp 30 ?_;refine zd ?_;exact Ad3 () trivial rfl (zE 2 rfl (by simp_all <;> (try intros) <;> omega) (Sub.nil _)) .nil
     refine Ae0 rfl (New.buildSlice (parts:=[(0,.tmp 29),(1,.tmp 31),(2,.tmp 33)]) rfl Aq3 Ak5 rfl rfl rfl rfl) rfl rfl rfl (fun b34=>(Aa5 (.cons .here rfl (.cons .here rfl (.cons .here rfl (.cons .here rfl .nil)))) (.cons (.there .here) rfl (.cons (.there .here) rfl (.cons (.there .here) rfl .nil))) rfl ?_))
     refine zA 17 ?_;refine Ae4 [(b34,_),(b4,_),(b3,_),(b1,_)] _ rfl rfl (zF rfl Am1) rfl rfl rfl (fun w hm=>Ae8 t.ways.l t.ways.q t.ways.b t.ways.o t.ways.c w (hT.ways.mono0 (by decide) hm) (by omega) hT.wq) (fun z27=>(Aa5 (.cons .here rfl (.cons .here rfl (.cons .here rfl (.cons .here rfl .nil)))) (.cons .here rfl (.cons .here rfl (.cons .here rfl (.cons .here rfl .nil)))) rfl ?_))
     obtain ⟨x27,hx27⟩:=z27;dsimp only;refine zA 25 ?_;refine Af2 (A:=[(b34,_),(b4,_),(b3,_),(b1,_)]) (B:=_) (x:=x27) (ys:=[t.fr.v,t.stay.v,t.light.v]) rfl rfl Aw5 rfl rfl rfl hx27 (by rfl) (fun h=>by cases h) (fun w hm=>Ah3 (hm.at (.head _))) (Ak2 rfl) (by simp only [maxLen];omega) (by omega) rfl (fun z35 hz35=>(Aa5 (.cons .here rfl (.cons .here rfl (.cons .here rfl (.cons .here rfl .nil)))) (.cons .here rfl (.cons .here rfl (.cons .here rfl (.cons .here rfl .nil)))) rfl ?_))
     refine zt ?_;refine zB 27 ?_;have ez:(t.ways.l.map SA.cell).flatten++[t.fr.v,t.stay.v,t.light.v]=(t.all.map SA.cell).flatten:=by (simp [TrA.all,SA.cell])
     rw [ez] at hz35;have hz:OwnOk 1 z35 t.all.length (t.all.map SA.cell).flatten:=by (rw [hal];exact hz35)
     have e35:ownV z35 (t.ways.l.length + 3) = .slice (ownQ z35) t.all.length (ownC z35):=by (rw [Ad5 hz35,hal])
     simp only [ez];refine Ac4 rfl (zF rfl Am2) rfl rfl rfl (fun w hm=>(by rw [e35];have h9:=Af1 t.all (ownQ z35) (ownK z35) 0 (ownC z35) 160 #[.pointer (some ⟨b3,0,none⟩),.pointer (some ⟨b4,0,none⟩)] (fun x=>badRow t.fr.l.length x.l) w (Ah1 (f:=SA.cell) (fun _=>rfl) (by decide) hz (fun b o h=>hm.at (.tail _ (.tail _ (.tail _ (.tail _ ((by first | exact List.mem_append_left _ h | exact List.mem_append_right _ (List.mem_append_left _ h))))))))) (by omega) Ax2 (fun i h w2 h2=>Aj5 t.fr.l.length t.all[i] b3 b4 w2 (h2.old_at (hm.at (.tail _ (.tail _ (.head _)))) (by simp)) (h2.old_at (hm.at (.tail _ (.head _))) (by simp)) (((hT.mono0 hm).mono0 h2).all _ (List.getElem_mem h)) (hs.all _ (List.getElem_mem h)));rw [hB] at h9;exact h9)) (Ab5 ?_)
     refine zp 28 ?_;refine zp 29 ?_;refine zp 30 ?_;refine zd ?_;exact Ad3 () trivial rfl (zE 2 rfl (by simp_all <;> (try intros) <;> omega) (Sub.nil _)) .nil
    intro g24;have g24':=g24;clear g24;try simp only [nH] at g24'
    refine zN 15 ?_;refine zN 16 ?_;refine zN 18 ?_;refine zN 19 ?_;refine zN 20 ?_;refine zN 21 ?_;refine zN 22 ?_;refine zN 23 ?_;refine zN 26 ?_;refine Ag5 (rs:=[17,24]) (by kernel_rfl) (by simp) (by kernel_rfl) (fun m hm=>?_)
    simp only [List.mem_cons,List.not_mem_nil,or_false] at hm
    rcases hm with rfl | rfl
    ·refine Ac6 rfl rfl rfl rfl (Aa5 (.cons .here rfl (.cons .here rfl (.cons .here rfl .nil))) (.cons .here rfl (.cons .here rfl (.cons .here rfl .nil))) rfl ?_)
     refine zA 24 ?_;refine Ac6 rfl rfl rfl rfl (Aa5 (.cons .here rfl (.cons .here rfl (.cons .here rfl .nil))) (.cons .here rfl (.cons .here rfl (.cons .here rfl .nil))) rfl ?_)
     refine zA 25 ?_;refine Ac6 rfl rfl rfl rfl (Aa5 (.cons .here rfl (.cons .here rfl (.cons .here rfl .nil))) (.cons .here rfl (.cons .here rfl (.cons .here rfl .nil))) rfl ?_)
     refine zt ?_;refine zB 27 ?_;refine Ac6 rfl rfl rfl rfl (Ab5 ?_)
     refine zB 28 ?_;refine Ac6 rfl rfl rfl rfl (Ab5 ?_)
     refine zp 29 ?_;refine zp 30 ?_;refine zd ?_;exact Ad3 () trivial rfl (zE 2 rfl (by simp_all <;> (try intros) <;> omega) (Sub.nil _)) .nil
    refine Ac6 rfl rfl rfl rfl (Aa5 (.cons .here rfl (.cons .here rfl (.cons .here rfl .nil))) (.cons .here rfl (.cons .here rfl (.cons .here rfl .nil))) rfl ?_)
    refine zA 17 ?_;refine Ac6 rfl rfl rfl rfl (Aa5 (.cons .here rfl (.cons .here rfl (.cons .here rfl .nil))) (.cons .here rfl (.cons .here rfl (.cons .here rfl .nil))) rfl ?_)
    refine zA 25 ?_;refine Ac6 rfl rfl rfl rfl (Aa5 (.cons .here rfl (.cons .here rfl (.cons .here rfl .nil))) (.cons .here rfl (.cons .here rfl (.cons .here rfl .nil))) rfl ?_)
    refine zt ?_;refine zB 27 ?_;refine Ac6 rfl rfl rfl rfl (Ab5 ?_)
    refine zB 28 ?_;refine Ac6 rfl rfl rfl rfl (Ab5 ?_)
    refine zp 29 ?_;refine zp 30 ?_;refine zd ?_;exact Ad3 () trivial rfl (zE 2 rfl (by simp_all <;> (try intros) <;> omega) (Sub.nil _)) .nil
   intro g19;have g19':=g19;clear g19;try simp only [nH] at g19'
   refine zN 10 ?_;refine zN 11 ?_;refine zA 12 ?_;refine Ac6 rfl rfl rfl rfl (Aa5 (.cons .here rfl (.cons .here rfl (.cons .here rfl .nil))) (.cons .here rfl (.cons .here rfl (.cons .here rfl .nil))) rfl ?_)
   refine zw 13 ?_;refine zw 14 ?_;refine Ah5 (dj:=24) rfl ?_ ?_
   ·intro g24
    have g24':=g24;clear g24;try simp only [nH] at g24'
    refine zw 15 ?_;refine zw 16 ?_;refine zw 18 ?_;refine zw 19 ?_;refine zw 20 ?_;refine zw 21 ?_;refine zw 22 ?_;refine zw 23 ?_;refine zw 26 ?_;refine Ag5 (rs:=[17,24]) (by kernel_rfl) (by simp) (by kernel_rfl) (fun m hm=>?_)
    simp only [List.mem_cons,List.not_mem_nil,or_false] at hm
    rcases hm with rfl | rfl
    ·refine Ae4 [(b4,_),(b3,_),(b1,_)] _ rfl rfl (zF rfl Am1) rfl rfl rfl (fun w hm=>Ae8 t.ways.l t.ways.q t.ways.b t.ways.o t.ways.c w (hT.ways.mono0 (by decide) hm) (by omega) hT.wq) (fun z27=>(Aa5 (.cons .here rfl (.cons .here rfl (.cons .here rfl .nil))) (.cons .here rfl (.cons .here rfl (.cons .here rfl .nil))) rfl ?_))
     obtain ⟨x27,hx27⟩:=z27;dsimp only;refine zA 24 ?_;refine Ae0 rfl (New.buildSlice (parts:=[(0,.tmp 29),(1,.tmp 31),(2,.tmp 33)]) rfl Aq3 Ak5 rfl rfl rfl rfl) rfl rfl rfl (fun b34=>(Aa5 (.cons .here rfl (.cons .here rfl (.cons .here rfl (.cons .here rfl .nil)))) (.cons (.there .here) rfl (.cons (.there .here) rfl (.cons (.there .here) rfl .nil))) rfl ?_))
     refine zA 25 ?_;refine Af2 (A:=[(b34,_),(b4,_),(b3,_),(b1,_)]) (B:=_) (x:=x27) (ys:=[t.fr.v,t.stay.v,t.light.v]) rfl rfl Aw5 rfl rfl rfl hx27 (by rfl) (fun h=>by cases h) (fun w hm=>Ah3 (hm.at (.head _))) (Ak2 rfl) (by simp only [maxLen];omega) (by omega) rfl (fun z35 hz35=>(Aa5 (.cons .here rfl (.cons .here rfl (.cons .here rfl (.cons .here rfl .nil)))) (.cons .here rfl (.cons .here rfl (.cons .here rfl (.cons .here rfl .nil)))) rfl ?_))
     refine zt ?_;refine zB 27 ?_;have ez:(t.ways.l.map SA.cell).flatten++[t.fr.v,t.stay.v,t.light.v]=(t.all.map SA.cell).flatten:=by (simp [TrA.all,SA.cell])
     rw [ez] at hz35;have hz:OwnOk 1 z35 t.all.length (t.all.map SA.cell).flatten:=by (rw [hal];exact hz35)
     have e35:ownV z35 (t.ways.l.length + 3) = .slice (ownQ z35) t.all.length (ownC z35):=by (rw [Ad5 hz35,hal])
     simp only [ez];refine Ac4 rfl (zF rfl Am2) rfl rfl rfl (fun w hm=>(by rw [e35];have h9:=Af1 t.all (ownQ z35) (ownK z35) 0 (ownC z35) 160 #[.pointer (some ⟨b3,0,none⟩),.pointer (some ⟨b4,0,none⟩)] (fun x=>badRow t.fr.l.length x.l) w (Ah1 (f:=SA.cell) (fun _=>rfl) (by decide) hz (fun b o h=>hm.at (.tail _ (.tail _ (.tail _ (.tail _ ((by first | exact List.mem_append_left _ h | exact List.mem_append_right _ (List.mem_append_left _ h))))))))) (by omega) Ax2 (fun i h w2 h2=>Aj5 t.fr.l.length t.all[i] b3 b4 w2 (h2.old_at (hm.at (.tail _ (.tail _ (.head _)))) (by simp)) (h2.old_at (hm.at (.tail _ (.head _))) (by simp)) (((hT.mono0 hm).mono0 h2).all _ (List.getElem_mem h)) (hs.all _ (List.getElem_mem h)));rw [hB] at h9;exact h9)) (Ab5 ?_)
     refine zp 28 ?_;refine zp 29 ?_;refine zp 30 ?_;refine zd ?_;exact Ad3 () trivial rfl (zE 2 rfl (by simp_all <;> (try intros) <;> omega) (Sub.nil _)) .nil
    refine Ae0 rfl (New.buildSlice (parts:=[(0,.tmp 29),(1,.tmp 31),(2,.tmp 33)]) rfl Aq3 Ak5 rfl rfl rfl rfl) rfl rfl rfl (fun b34=>(Aa5 (.cons .here rfl (.cons .here rfl (.cons .here rfl (.cons .here rfl .nil)))) (.cons (.there .here) rfl (.cons (.there .here) rfl (.cons (.there .here) rfl .nil))) rfl ?_))
    refine zA 17 ?_;refine Ae4 [(b34,_),(b4,_),(b3,_),(b1,_)] _ rfl rfl (zF rfl Am1) rfl rfl rfl (fun w hm=>Ae8 t.ways.l t.ways.q t.ways.b t.ways.o t.ways.c w (hT.ways.mono0 (by decide) hm) (by omega) hT.wq) (fun z27=>(Aa5 (.cons .here rfl (.cons .here rfl (.cons .here rfl (.cons .here rfl .nil)))) (.cons .here rfl (.cons .here rfl (.cons .here rfl (.cons .here rfl .nil)))) rfl ?_))
    obtain ⟨x27,hx27⟩:=z27;dsimp only;refine zA 25 ?_;refine Af2 (A:=[(b34,_),(b4,_),(b3,_),(b1,_)]) (B:=_) (x:=x27) (ys:=[t.fr.v,t.stay.v,t.light.v]) rfl rfl Aw5 rfl rfl rfl hx27 (by rfl) (fun h=>by cases h) (fun w hm=>Ah3 (hm.at (.head _))) (Ak2 rfl) (by simp only [maxLen];omega) (by omega) rfl (fun z35 hz35=>(Aa5 (.cons .here rfl (.cons .here rfl (.cons .here rfl (.cons .here rfl .nil)))) (.cons .here rfl (.cons .here rfl (.cons .here rfl (.cons .here rfl .nil)))) rfl ?_))
    refine zt ?_;refine zB 27 ?_;have ez:(t.ways.l.map SA.cell).flatten++[t.fr.v,t.stay.v,t.light.v]=(t.all.map SA.cell).flatten:=by (simp [TrA.all,SA.cell])
    rw [ez] at hz35;have hz:OwnOk 1 z35 t.all.length (t.all.map SA.cell).flatten:=by (rw [hal];exact hz35)
    have e35:ownV z35 (t.ways.l.length + 3) = .slice (ownQ z35) t.all.length (ownC z35):=by (rw [Ad5 hz35,hal])
    simp only [ez];refine Ac4 rfl (zF rfl Am2) rfl rfl rfl (fun w hm=>(by rw [e35];have h9:=Af1 t.all (ownQ z35) (ownK z35) 0 (ownC z35) 160 #[.pointer (some ⟨b3,0,none⟩),.pointer (some ⟨b4,0,none⟩)] (fun x=>badRow t.fr.l.length x.l) w (Ah1 (f:=SA.cell) (fun _=>rfl) (by decide) hz (fun b o h=>hm.at (.tail _ (.tail _ (.tail _ (.tail _ ((by first | exact List.mem_append_left _ h | exact List.mem_append_right _ (List.mem_append_left _ h))))))))) (by omega) Ax2 (fun i h w2 h2=>Aj5 t.fr.l.length t.all[i] b3 b4 w2 (h2.old_at (hm.at (.tail _ (.tail _ (.head _)))) (by simp)) (h2.old_at (hm.at (.tail _ (.head _))) (by simp)) (((hT.mono0 hm).mono0 h2).all _ (List.getElem_mem h)) (hs.all _ (List.getElem_mem h)));rw [hB] at h9;exact h9)) (Ab5 ?_)
    refine zp 28 ?_;refine zp 29 ?_;refine zp 30 ?_;refine zd ?_;exact Ad3 () trivial rfl (zE 2 rfl (by simp_all <;> (try intros) <;> omega) (Sub.nil _)) .nil
   intro g24;have g24':=g24;clear g24;try simp only [nH] at g24'
   refine zN 15 ?_;refine zN 16 ?_;refine zN 18 ?_;refine zN 19 ?_;refine zN 20 ?_;refine zN 21 ?_;refine zN 22 ?_;refine zN 23 ?_;refine zN 26 ?_;refine Ag5 (rs:=[17,24]) (by kernel_rfl) (by simp) (by kernel_rfl) (fun m hm=>?_)
   simp only [List.mem_cons,List.not_mem_nil,or_false] at hm
   rcases hm with rfl | rfl
   ·refine Ac6 rfl rfl rfl rfl (Aa5 (.cons .here rfl (.cons .here rfl (.cons .here rfl .nil))) (.cons .here rfl (.cons .here rfl (.cons .here rfl .nil))) rfl ?_)
    refine zA 24 ?_;refine Ac6 rfl rfl rfl rfl (Aa5 (.cons .here rfl (.cons .here rfl (.cons .here rfl .nil))) (.cons .here rfl (.cons .here rfl (.cons .here rfl .nil))) rfl ?_)
    refine zA 25 ?_;refine Ac6 rfl rfl rfl rfl (Aa5 (.cons .here rfl (.cons .here rfl (.cons .here rfl .nil))) (.cons .here rfl (.cons .here rfl (.cons .here rfl .nil))) rfl ?_)
    refine zt ?_;refine zB 27 ?_;refine Ac6 rfl rfl rfl rfl (Ab5 ?_)
    refine zB 28 ?_;refine Ac6 rfl rfl rfl rfl (Ab5 ?_)
    refine zp 29 ?_;refine zp 30 ?_;refine zd ?_;exact Ad3 () trivial rfl (zE 2 rfl (by simp_all <;> (try intros) <;> omega) (Sub.nil _)) .nil
   refine Ac6 rfl rfl rfl rfl (Aa5 (.cons .here rfl (.cons .here rfl (.cons .here rfl .nil))) (.cons .here rfl (.cons .here rfl (.cons .here rfl .nil))) rfl ?_)
   refine zA 17 ?_;refine Ac6 rfl rfl rfl rfl (Aa5 (.cons .here rfl (.cons .here rfl (.cons .here rfl .nil))) (.cons .here rfl (.cons .here rfl (.cons .here rfl .nil))) rfl ?_)
   refine zA 25 ?_;refine Ac6 rfl rfl rfl rfl (Aa5 (.cons .here rfl (.cons .here rfl (.cons .here rfl .nil))) (.cons .here rfl (.cons .here rfl (.cons .here rfl .nil))) rfl ?_)
   refine zt ?_;refine zB 27 ?_;refine Ac6 rfl rfl rfl rfl (Ab5 ?_)
   refine zB 28 ?_;refine Ac6 rfl rfl rfl rfl (Ab5 ?_)
   refine zp 29 ?_;refine zp 30 ?_;refine zd ?_;exact Ad3 () trivial rfl (zE 2 rfl (by simp_all <;> (try intros) <;> omega) (Sub.nil _)) .nil
  intro u uI;refine su ?_;exact Aa4 (.r1 rfl (.tmp rfl)) (by first | rfl | simp)
end Go.Proofs.YtmkdbdbenfbkhaaGreatDoor
namespace Go.Proofs.YtmkdbdbenfbkhaaGreatDoor
open Go Go.Eng
theorem CE9:Enters Tryz.prog 126:=Aa3 Tryz.func126 (by kernel_rfl) rfl
theorem Cd6:Enters Tryz.prog 129:=Aa3 Tryz.func129 (by kernel_rfl) rfl
theorem By7:Enters Tryz.prog 167:=Aa3 Tryz.func167 (by kernel_rfl) rfl
theorem Cc7:Enters Tryz.prog 170:=Aa3 Tryz.func170 (by kernel_rfl) rfl
theorem CE0:Enters Tryz.prog 171:=Aa3 Tryz.func171 (by kernel_rfl) rfl
theorem CD9:Enters Tryz.prog 172:=Aa3 Tryz.func172 (by kernel_rfl) rfl
theorem CD6:Enters Tryz.prog 181:=Aa3 Tryz.func181 (by kernel_rfl) rfl
theorem CD5:Enters Tryz.prog 182:=Aa3 Tryz.func182 (by kernel_rfl) rfl
theorem CD4:Enters Tryz.prog 183:=Aa3 Tryz.func183 (by kernel_rfl) rfl
theorem CD3:Enters Tryz.prog 184:=Aa3 Tryz.func184 (by kernel_rfl) rfl
theorem CD2:Enters Tryz.prog 185:=Aa3 Tryz.func185 (by kernel_rfl) rfl
theorem CD1:Enters Tryz.prog 186:=Aa3 Tryz.func186 (by kernel_rfl) rfl
theorem Cc1:Enters Tryz.prog 187:=Aa3 Tryz.func187 (by kernel_rfl) rfl
theorem AR0:Enters Tryz.prog 188:=Aa3 Tryz.func188 (by kernel_rfl) rfl
theorem Cc0:Enters Tryz.prog 189:=Aa3 Tryz.func189 (by kernel_rfl) rfl
theorem Cb9:Enters Tryz.prog 190:=Aa3 Tryz.func190 (by kernel_rfl) rfl
theorem BZ4:fieldB Tryz.prog 122 0=some 0:=by kernel_rfl
instance:Fld Tryz.prog 122 0 0:=⟨BZ4⟩
theorem AQ5:fieldB Tryz.prog 122 1=some 1:=by kernel_rfl
instance:Fld Tryz.prog 122 1 1:=⟨AQ5⟩
theorem AQ4:fieldB Tryz.prog 122 2=some 2:=by kernel_rfl
instance:Fld Tryz.prog 122 2 2:=⟨AQ4⟩
theorem AE7:fieldB Tryz.prog 122 3=some 3:=by kernel_rfl
instance:Fld Tryz.prog 122 3 3:=⟨AE7⟩
theorem An9:fieldB Tryz.prog 139 0=some 0:=by kernel_rfl
instance:Fld Tryz.prog 139 0 0:=⟨An9⟩
theorem As0:fieldB Tryz.prog 139 1=some 1:=by kernel_rfl
instance:Fld Tryz.prog 139 1 1:=⟨As0⟩
theorem AE6:fieldB Tryz.prog 139 2=some 2:=by kernel_rfl
instance:Fld Tryz.prog 139 2 2:=⟨AE6⟩
theorem AE5:fieldB Tryz.prog 139 3=some 3:=by kernel_rfl
instance:Fld Tryz.prog 139 3 3:=⟨AE5⟩
theorem BY9:fieldB Tryz.prog 160 0=some 0:=by kernel_rfl
instance:Fld Tryz.prog 160 0 0:=⟨BY9⟩
theorem BY8:fieldB Tryz.prog 160 1=some 1:=by kernel_rfl
instance:Fld Tryz.prog 160 1 1:=⟨BY8⟩
theorem BY7:fieldB Tryz.prog 160 2=some 2:=by kernel_rfl
instance:Fld Tryz.prog 160 2 2:=⟨BY7⟩
theorem BG3:fieldB Tryz.prog 29 0=some 0:=by kernel_rfl
instance:Fld Tryz.prog 29 0 0:=⟨BG3⟩
theorem Be1:fieldB Tryz.prog 29 1=some 1:=by kernel_rfl
instance:Fld Tryz.prog 29 1 1:=⟨Be1⟩
theorem BG2:fieldB Tryz.prog 29 2=some 2:=by kernel_rfl
instance:Fld Tryz.prog 29 2 2:=⟨BG2⟩
theorem AL6:fieldB Tryz.prog 29 3=some 3:=by kernel_rfl
instance:Fld Tryz.prog 29 3 3:=⟨AL6⟩
theorem Be0:fieldB Tryz.prog 34 0=some 0:=by kernel_rfl
instance:Fld Tryz.prog 34 0 0:=⟨Be0⟩
theorem AE2:fieldB Tryz.prog 34 1=some 1:=by kernel_rfl
instance:Fld Tryz.prog 34 1 1:=⟨AE2⟩
theorem Bd9:fieldB Tryz.prog 34 2=some 2:=by kernel_rfl
instance:Fld Tryz.prog 34 2 2:=⟨Bd9⟩
theorem AE1:fieldB Tryz.prog 34 3=some 3:=by kernel_rfl
instance:Fld Tryz.prog 34 3 3:=⟨AE1⟩
theorem Bd8:fieldB Tryz.prog 34 4=some 4:=by kernel_rfl
instance:Fld Tryz.prog 34 4 4:=⟨Bd8⟩
theorem Aq9:fieldB Tryz.prog 39 0=some 0:=by kernel_rfl
instance:Fld Tryz.prog 39 0 0:=⟨Aq9⟩
theorem Co9:fieldB Tryz.prog 39 1=some 1:=by kernel_rfl
instance:Fld Tryz.prog 39 1 1:=⟨Co9⟩
theorem Co8:fieldB Tryz.prog 39 2=some 3:=by kernel_rfl
instance:Fld Tryz.prog 39 2 3:=⟨Co8⟩
theorem Co7:fieldB Tryz.prog 75 0=some 0:=by kernel_rfl
instance:Fld Tryz.prog 75 0 0:=⟨Co7⟩
theorem Co6:fieldB Tryz.prog 75 1=some 2:=by kernel_rfl
instance:Fld Tryz.prog 75 1 2:=⟨Co6⟩
theorem Bd7:fieldB Tryz.prog 75 2=some 4:=by kernel_rfl
instance:Fld Tryz.prog 75 2 4:=⟨Bd7⟩
theorem BI9:tyB Tryz.prog 27=some (false,1):=by kernel_rfl
instance:Tyc Tryz.prog 27 false 1:=⟨BI9⟩
theorem Bv1:tyB Tryz.prog 29=some (true,4):=by kernel_rfl
instance:Tyc Tryz.prog 29 true 4:=⟨Bv1⟩
theorem BQ0:tyB Tryz.prog 30=some (false,1):=by kernel_rfl
instance:Tyc Tryz.prog 30 false 1:=⟨BQ0⟩
theorem Cw9:tyB Tryz.prog 31=some (false,1):=by kernel_rfl
instance:Tyc Tryz.prog 31 false 1:=⟨Cw9⟩
theorem BP8:tyB Tryz.prog 32=some (false,1):=by kernel_rfl
instance:Tyc Tryz.prog 32 false 1:=⟨BP8⟩
theorem Bb5:tyB Tryz.prog 35=some (false,1):=by kernel_rfl
instance:Tyc Tryz.prog 35 false 1:=⟨Bb5⟩
end Go.Proofs.YtmkdbdbenfbkhaaGreatDoor
namespace Go.Proofs.YtmkdbdbenfbkhaaGreatDoor
open Go Go.Eng Go.Bk

theorem Bb7 (x:SA Int) (W:World) (hS:x.ok intC 1 W) (hl:x.l.length≤10000):Calls Tryz.prog 185 #[x.v] W (Pure (.bool (sharingX x.l)) W):=by
  refine Aa2 Tryz.func185 rfl rfl ?_;refine su ?_;refine Ad6 (x.l.length) (fun k q=>(8,.int .i64 (k:Int))::(3,.int .i64 ((x.l.take k).sum))::q) (fun _=>_) (fun _=>[]) (fun k=>(x.l.take k).all (fun n=>within n 0 1000)=true) (by simp) rfl (zE 8 rfl rfl (zE 3 rfl (by simp) (zS 0 rfl (zS 6 rfl (zS 7 rfl (Sub.nil _)))))) .nil ?_;intro k kN kI;refine st ?_;refine cn rfl ?_ ?_
  ·intro c0'
   have hk:k < x.l.length:=by omega
   obtain ⟨y,hy⟩:∃ y,x.l[k]=y:=⟨_,rfl⟩;have hb:=Bb8 kI;rw [List.length_take] at hb;refine st ?_;refine lv (Aa6 rfl rfl Ak6 (by omega) (by omega) (Sl.ptrM hS hk)) ?_;refine lv (Ab2 rfl (fun w hm=>Sl.loadM1 hS (by decide) hm (by simp) Af4 hk (v:=.int .i64 y) (by simp [intC,hy]))) ?_;refine zc (zF rfl Ai8) (fun w hm=>Ae5 _ _ _ w) ?_;refine cn rfl ?_ ?_
   ·intro c1'
    have hw:within y 0 1000=false:=by simpa using c1'
    refine su ?_;exact Aa4 (.r1 rfl (.tmp rfl)) (by have h9:x.l.all (fun n=>within n 0 1000)=false:=by { rw [List.all_eq_false];exact ⟨y,by rw [← hy];exact List.getElem_mem hk,by simp [hw]⟩ };unfold sharingX;rw [h9];rfl)
   intro c1';have hw:within y 0 1000=true:=by simpa using c1'
   have hw2:=hw;simp only [within,Bool.and_eq_true,decide_eq_true_eq] at hw2;refine st ?_;refine lv (Val.add rfl rfl (IntWalk.i64_in _ ⟨by omega,by omega⟩)) ?_;refine lv (Val.add rfl rfl (IntWalk.i64_in _ ⟨by omega,by omega⟩)) ?_;exact Ad2 (by omega) (Bv5 hk hy kI hw) rfl (zE 8 rfl rfl (zE 3 rfl (by rw [AH9 hk hy]) (zS 0 rfl (zS 6 rfl (zS 7 rfl (Sub.nil _)))))) .nil
  intro c0';obtain rfl:k=x.l.length:=by omega
  rw [List.take_length] at kI ⊢;refine RunC.exit ?_;refine su ?_;refine Ab0 ?_;refine su ?_;refine zc (zF rfl Ai8) (fun w hm=>Ae5 _ _ _ w) ?_
  refine Ab3 (dj:=22) (dp:=25) 3 rfl (fun g22=>by
    have g22':=g22;try simp only [nH] at g22'
    refine sv ?_;exact zs g22
  ) (fun g22=>by
    have g22':=g22;try simp only [nH] at g22'
    refine Ac9 rfl rfl rfl ?_;refine Ac9 rfl rfl rfl ?_;refine sv ?_;exact zs g22
  ) ?_
  refine su ?_;exact Aa4 (.r1 rfl (.tmp rfl)) (by unfold sharingX;rw [kI];simp)
theorem BA3 (t:Tm) (W:World):Calls Tryz.prog 181 #[.agg t.cells.toArray] W (Pure (.bool (badTm t)) W):=by
  refine Aa2 Tryz.func181 rfl rfl ?_;refine st ?_;refine zn (New.box rfl) (fun b1=>?_)
  refine zc (zF rfl Ai8) (fun w hm=>Ae5 _ _ _ w) ?_
  refine Ae1 (dj:=7) (dp:=12) 5 rfl (fun g7=>by
    have g7':=g7;try simp only [nH] at g7'
    refine su ?_;refine Ab1 (zF rfl Ai8) rfl rfl rfl (fun w hm=>Ae5 _ _ _ w) ?_;refine sv ?_;exact zs g7
  ) (fun g7=>by
    have g7':=g7;try simp only [nH] at g7'
    iterate 4 refine Ac9 rfl rfl rfl ?_
    refine sv ?_;exact zs g7
  ) ?_
  refine st ?_
  refine Ae1 (dj:=13) (dp:=18) 5 rfl (fun g13=>by
    have g13':=g13;try simp only [nH] at g13'
    refine su ?_;refine Ab1 (zF rfl Ai8) rfl rfl rfl (fun w hm=>Ae5 _ _ _ w) ?_;refine sv ?_;exact zs g13
  ) (fun g13=>by
    have g13':=g13;try simp only [nH] at g13'
    iterate 4 refine Ac9 rfl rfl rfl ?_
    refine sv ?_;exact zs g13
  ) ?_
  refine su ?_;exact Aa4 (.r1 rfl (.tmp rfl)) (by unfold badTm;simp)
theorem Bg3 (n:Int) (W:World):Calls Tryz.prog 182 #[.int .i64 n] W (Pure (.bool (!within n 0 1099511627776)) W):=by
  refine Aa2 Tryz.func182 rfl rfl ?_;refine st ?_;refine zc (zF rfl Ai8) (fun w hm=>Ae5 _ _ _ w) ?_;exact Aa4 (.r1 rfl (.tmp rfl)) (by first | rfl | simp)
theorem AU8 (n:Int) (W:World):Calls Tryz.prog 183 #[.int .i64 n] W (Pure (.bool (!within n 0 1048576)) W):=by
  refine Aa2 Tryz.func183 rfl rfl ?_;refine st ?_;refine zc (zF rfl Ai8) (fun w hm=>Ae5 _ _ _ w) ?_;exact Aa4 (.r1 rfl (.tmp rfl)) (by first | rfl | simp)
theorem AU7 (x:SA Int) (W:World) (hS:x.ok intC 1 W) (hl:x.l.length≤10000):Calls Tryz.prog 184 #[x.v] W (Pure (.bool (!sharingX x.l)) W):=by
  refine Aa2 Tryz.func184 rfl rfl ?_;refine st ?_;refine zc (zF rfl CD2) (fun w hm=>Bb7 x w (hS.mono0 (by decide) hm) hl) ?_;exact Aa4 (.r1 rfl (.tmp rfl)) (by first | rfl | simp)
theorem BA5 (x:Rp) (r:RyA) (hs:RySm r) (b1:Nat) (W:World) (h1:W.heap[b1]? = some (.cells r.cells.toArray 34 (0,0))):Calls Tryz.prog 186 #[.agg x.cells.toArray,.pointer (some ⟨b1,0,none⟩)] W (Pure (.bool (badRp r.pl x)) W):=by
  have hs1:=hs.terms;have hs2:=hs.prices;refine Aa2 Tryz.func186 rfl rfl ?_;refine st ?_;refine zn (New.box rfl) (fun b2=>?_)
  refine lu (Aa9 rfl h1 (by simp) BQ0 rfl) ?_;refine lv (Aj9 rfl rfl (IntWalk.i64_in _ ⟨by omega,by omega⟩)) ?_;refine zc (zF rfl Ai8) (fun w hm=>Ae5 _ _ _ w) ?_
  refine Ae1 (dj:=12) (dp:=21) 9 rfl (fun g12=>by
    have g12':=g12;try simp only [nH] at g12'
    refine su ?_;refine lu (Aa9 rfl h1 (by simp) As7 rfl) ?_;refine lv (Aj9 rfl rfl (IntWalk.i64_in _ ⟨by omega,by omega⟩)) ?_;refine Ab1 (zF rfl Ai8) rfl rfl rfl (fun w hm=>Ae5 _ _ _ w) ?_;refine sv ?_;exact zs g12
  ) (fun g12=>by
    have g12':=g12;try simp only [nH] at g12'
    iterate 8 refine Ac9 rfl rfl rfl ?_
    refine sv ?_;exact zs g12
  ) ?_
  refine st ?_
  refine Ae1 (dj:=22) (dp:=26) 4 rfl (fun g22=>by
    have g22':=g22;try simp only [nH] at g22'
    refine lv (Val.fieldAddr rfl AQ4) ?_;refine Aa0 (Aa1 rfl (.head _) Af4 rfl) rfl rfl rfl ?_;refine sv ?_;exact zs g22
  ) (fun g22=>by
    have g22':=g22;try simp only [nH] at g22'
    iterate 3 refine Ac9 rfl rfl rfl ?_
    refine sv ?_;exact zs g22
  ) ?_
  refine st ?_
  refine Ae1 (dj:=27) (dp:=33) 6 rfl (fun g27=>by
    have g27':=g27;try simp only [nH] at g27'
    refine lv (Val.fieldAddr rfl AQ4) ?_;refine lv (Aa1 rfl (.head _) Af4 rfl) ?_;refine lv (Val.fieldAddr rfl AE7) ?_;refine Aa0 (Aa1 rfl (.head _) Af4 rfl) rfl rfl rfl ?_;refine sv ?_;exact zs g27
  ) (fun g27=>by
    have g27':=g27;try simp only [nH] at g27'
    iterate 5 refine Ac9 rfl rfl rfl ?_
    refine sv ?_;exact zs g27
  ) ?_
  refine st ?_
  refine Ae1 (dj:=34) (dp:=38) 4 rfl (fun g34=>by
    have g34':=g34;try simp only [nH] at g34'
    refine lv (Val.fieldAddr rfl AE7) ?_;refine Aa0 (Aa1 rfl (.head _) Af4 rfl) rfl rfl rfl ?_;refine sv ?_;exact zs g34
  ) (fun g34=>by
    have g34':=g34;try simp only [nH] at g34'
    iterate 3 refine Ac9 rfl rfl rfl ?_
    refine sv ?_;exact zs g34
  ) ?_
  refine su ?_;exact Aa4 (.r1 rfl (.tmp rfl)) (by unfold badRp;simp [RyA.pl])
theorem Bd3 (r:RyA) (hs:RySm r) (W:World) (hR:RyOk W r):Calls Tryz.prog 123 #[r.v] W (Pure (.bool (royalX r.pl)) W):=by
  obtain ⟨h1,h2,h3,h4,h5,h6⟩:=hs;have hs:RySm r:=⟨h1,h2,h3,h4,h5,h6⟩;have hsl:r.pl.shares.length=r.shares.l.length:=by simp [RyA.pl]
  refine Aa2 Tryz.func123 rfl rfl ?_;refine st ?_;refine zn (New.box rfl) (fun b1=>?_)
  refine Ab3 (dj:=13) (dp:=21) 8 rfl (fun g13=>by
    have g13':=g13;try simp only [nH] at g13'
    refine lv (Val.fieldAddr rfl Bd8) ?_;refine lv (Aa1 rfl (.head _) As7 rfl) ?_;refine lv (Ad7 rfl Ak6) ?_;refine lv (Val.fieldAddr rfl Be0) ?_;refine lv (Aa1 rfl (.head _) BQ0 rfl) ?_;refine Aa0 (Ad7 rfl BS5) rfl rfl rfl ?_;refine sv ?_;exact zs g13
  ) (fun g13=>by
    have g13':=g13;try simp only [nH] at g13'
    iterate 7 refine Ac9 rfl rfl rfl ?_
    refine sv ?_;exact zs g13
  ) ?_
  refine st ?_
  refine Ab3 (dj:=22) (dp:=27) 5 rfl (fun g22=>by
    have g22':=g22;try simp only [nH] at g22'
    refine lv (Val.fieldAddr rfl AE2) ?_;refine lv (Aa1 rfl (.head _) As7 rfl) ?_;refine Aa0 (Ad7 rfl Ak6) rfl rfl rfl ?_;refine sv ?_;exact zs g22
  ) (fun g22=>by
    have g22':=g22;try simp only [nH] at g22'
    iterate 4 refine Ac9 rfl rfl rfl ?_
    refine sv ?_;exact zs g22
  ) ?_
  refine st ?_
  refine Ab3 (dj:=28) (dp:=36) 8 rfl (fun g28=>by
    have g28':=g28;try simp only [nH] at g28'
    refine lv (Val.fieldAddr rfl Bd9) ?_;refine lv (Aa1 rfl (.head _) Cw9 rfl) ?_;refine lv (Ad7 rfl BJ7) ?_;refine lv (Val.fieldAddr rfl AE2) ?_;refine lv (Aa1 rfl (.head _) As7 rfl) ?_;refine Aa0 (Ad7 rfl Ak6) rfl rfl rfl ?_;refine sv ?_;exact zs g28
  ) (fun g28=>by
    have g28':=g28;try simp only [nH] at g28'
    iterate 7 refine Ac9 rfl rfl rfl ?_
    refine sv ?_;exact zs g28
  ) ?_
  refine st ?_
  refine Ab3 (dj:=37) (dp:=42) 5 rfl (fun g37=>by
    have g37':=g37;try simp only [nH] at g37'
    refine lv (Val.fieldAddr rfl AE1) ?_;refine lv (Aa1 rfl (.head _) BP8 rfl) ?_;refine Aa0 (Ad7 rfl AT6) rfl rfl rfl ?_;refine sv ?_;exact zs g37
  ) (fun g37=>by
    have g37':=g37;try simp only [nH] at g37'
    iterate 4 refine Ac9 rfl rfl rfl ?_
    refine sv ?_;exact zs g37
  ) ?_
  refine st ?_
  refine Ab3 (dj:=45) (dp:=51) 6 rfl (fun g45=>by
    have g45':=g45;try simp only [nH] at g45'
    refine su ?_;refine Ab1 (zF rfl Cc1) rfl rfl rfl (fun w hm=>AJ2 r.terms.l _ _ _ _ 181 #[] badTm w ((hR.mono0 hm).terms) (by omega) CD6 (fun i h w2 h2=>BA3 _ w2)) ?_;refine sv ?_;exact zs g45
  ) (fun g45=>by
    have g45':=g45;try simp only [nH] at g45'
    iterate 5 refine Ac9 rfl rfl rfl ?_
    refine sv ?_;exact zs g45
  ) ?_
  refine st ?_
  refine Ab3 (dj:=52) (dp:=58) 6 rfl (fun g52=>by
    have g52':=g52;try simp only [nH] at g52'
    refine su ?_;refine Ab1 (zF rfl AR0) rfl rfl rfl (fun w hm=>As2 r.paid.l _ _ _ _ 182 #[] (fun n=>!within n 0 1099511627776) w ((hR.mono0 hm).paid) (by omega) CD5 (fun i h w2 h2=>Bg3 _ w2)) ?_;refine sv ?_;exact zs g52
  ) (fun g52=>by
    have g52':=g52;try simp only [nH] at g52'
    iterate 5 refine Ac9 rfl rfl rfl ?_
    refine sv ?_;exact zs g52
  ) ?_
  refine st ?_
  refine Ab3 (dj:=59) (dp:=65) 6 rfl (fun g59=>by
    have g59':=g59;try simp only [nH] at g59'
    refine su ?_;refine Ab1 (zF rfl AR0) rfl rfl rfl (fun w hm=>As2 r.prices.l _ _ _ _ 183 #[] (fun n=>!within n 0 1048576) w ((hR.mono0 hm).prices) (by omega) CD4 (fun i h w2 h2=>AU8 _ w2)) ?_;refine sv ?_;exact zs g59
  ) (fun g59=>by
    have g59':=g59;try simp only [nH] at g59'
    iterate 5 refine Ac9 rfl rfl rfl ?_
    refine sv ?_;exact zs g59
  ) ?_
  refine st ?_
  refine Ab3 (dj:=66) (dp:=72) 6 rfl (fun g66=>by
    have g66':=g66;try simp only [nH] at g66'
    refine su ?_;refine Ab1 (zF rfl Cc0) rfl rfl rfl (fun w hm=>AJ5 r.shares.l _ _ _ _ 184 #[] (fun x=>!sharingX x.l) w ((hR.mono0 hm).shares) (by omega) CD3 (fun i h w2 h2=>AU7 _ w2 (((hR.mono0 hm).mono0 h2).rows _ (List.getElem_mem h)) (hs.rows _ (List.getElem_mem h)))) ?_;refine sv ?_;exact zs g66
  ) (fun g66=>by
    have g66':=g66;try simp only [nH] at g66'
    iterate 5 refine Ac9 rfl rfl rfl ?_
    refine sv ?_;exact zs g66
  ) ?_
  refine st ?_
  refine Ab3 (dj:=73) (dp:=79) 6 rfl (fun g73=>by
    have g73':=g73;try simp only [nH] at g73'
    refine su ?_;refine Ab1 (zF rfl Cb9) rfl rfl rfl (fun w hm=>AJ4 r.reports.l _ _ _ _ 186 #[.pointer (some ⟨b1,0,none⟩)] (badRp r.pl) w ((hR.mono0 hm).reports) (by omega) CD1 (fun i h w2 h2=>BA5 _ r hs b1 w2 (h2.old_at (hm.at (.head _)) (by simp)))) ?_;refine sv ?_;exact zs g73
  ) (fun g73=>by
    have g73':=g73;try simp only [nH] at g73'
    iterate 5 refine Ac9 rfl rfl rfl ?_
    refine sv ?_;exact zs g73
  ) ?_
  refine su ?_;exact Aa4 (.r1 rfl (.tmp rfl)) (by unfold royalX;rw [Bv6,hsl];simp only [le4,CS8,eqc];rfl)
theorem Bo0 (c:CbA) (hs:CbSm c) (l:Ln) (W:World):Calls Tryz.prog 172 #[c.v,.agg l.cells.toArray] W (Pure (.bool (loanX c.pl l)) W):=by
  have h1:=hs.homes;have h2:=hs.slots;refine Aa2 Tryz.func172 rfl rfl ?_;refine st ?_;refine zn (New.box rfl) (fun b2=>?_)
  refine zn (New.box rfl) (fun b3=>?_)
  refine lv (Aj9 rfl rfl (IntWalk.i64_in _ ⟨by omega,by omega⟩)) ?_;refine zc (zF rfl Ai8) (fun w hm=>Ae5 _ _ _ w) ?_;refine cn rfl ?_ ?_
  ·intro c0'
   refine st ?_;refine cn rfl ?_ ?_
   ·intro c1'
    refine st ?_
    refine Ab3 (dj:=19) (dp:=23) 4 rfl (fun g19=>by
      have g19':=g19;try simp only [nH] at g19'
      refine su ?_;refine Ab1 (zF rfl Ai8) rfl rfl rfl (fun w hm=>Ae5 _ _ _ w) ?_;refine sv ?_;exact zs g19
    ) (fun g19=>by
      have g19':=g19;try simp only [nH] at g19'
      iterate 3 refine Ac9 rfl rfl rfl ?_
      refine sv ?_;exact zs g19
    ) ?_
    refine st ?_
    refine Ab3 (dj:=24) (dp:=28) 4 rfl (fun g24=>by
      have g24':=g24;try simp only [nH] at g24'
      refine lv (Val.fieldAddr rfl AE5) ?_;refine Aa0 (Aa1 rfl (.head _) Af4 rfl) rfl rfl rfl ?_;refine sv ?_;exact zs g24
    ) (fun g24=>by
      have g24':=g24;try simp only [nH] at g24'
      iterate 3 refine Ac9 rfl rfl rfl ?_
      refine sv ?_;exact zs g24
    ) ?_
    refine su ?_;exact Aa4 (.r1 rfl (.tmp rfl)) (by unfold loanX;simp_all [CbA.pl])
   intro c1';refine st ?_;refine cn rfl ?_ ?_
   ·intro c2'
    refine st ?_
    refine Ae1 (dj:=32) (dp:=36) 4 rfl (fun g32=>by
      have g32':=g32;try simp only [nH] at g32'
      refine lv (Val.fieldAddr rfl As0) ?_;refine Aa0 (Aa1 rfl (.head _) Af4 rfl) rfl rfl rfl ?_;refine sv ?_;exact zs g32
    ) (fun g32=>by
      have g32':=g32;try simp only [nH] at g32'
      iterate 3 refine Ac9 rfl rfl rfl ?_
      refine sv ?_;exact zs g32
    ) ?_
    refine st ?_
    refine Ab3 (dj:=37) (dp:=44) 7 rfl (fun g37=>by
      have g37':=g37;try simp only [nH] at g37'
      refine su ?_;refine lv (Aj9 rfl rfl (IntWalk.i64_in _ ⟨by omega,by omega⟩)) ?_;refine Ab1 (zF rfl Ai8) rfl rfl rfl (fun w hm=>Ae5 _ _ _ w) ?_;refine sv ?_;exact zs g37
    ) (fun g37=>by
      have g37':=g37;try simp only [nH] at g37'
      iterate 6 refine Ac9 rfl rfl rfl ?_
      refine sv ?_;exact zs g37
    ) ?_
    refine st ?_
    refine Ab3 (dj:=45) (dp:=49) 4 rfl (fun g45=>by
      have g45':=g45;try simp only [nH] at g45'
      refine lv (Val.fieldAddr rfl AE6) ?_;refine Aa0 (Aa1 rfl (.head _) Af4 rfl) rfl rfl rfl ?_;refine sv ?_;exact zs g45
    ) (fun g45=>by
      have g45':=g45;try simp only [nH] at g45'
      iterate 3 refine Ac9 rfl rfl rfl ?_
      refine sv ?_;exact zs g45
    ) ?_
    refine su ?_;exact Aa4 (.r1 rfl (.tmp rfl)) (by unfold loanX;simp_all [CbA.pl])
   intro c2';refine su ?_;exact Aa4 (.r1 rfl (.tmp rfl)) (by unfold loanX;simp_all [CbA.pl])
  intro c0';refine st ?_;refine cn rfl ?_ ?_
  ·intro c1'
   refine st ?_
   refine Ab3 (dj:=19) (dp:=23) 4 rfl (fun g19=>by
     have g19':=g19;try simp only [nH] at g19'
     refine su ?_;refine Ab1 (zF rfl Ai8) rfl rfl rfl (fun w hm=>Ae5 _ _ _ w) ?_;refine sv ?_;exact zs g19
   ) (fun g19=>by
     have g19':=g19;try simp only [nH] at g19'
     iterate 3 refine Ac9 rfl rfl rfl ?_
     refine sv ?_;exact zs g19
   ) ?_
   refine st ?_
   refine Ab3 (dj:=24) (dp:=28) 4 rfl (fun g24=>by
     have g24':=g24;try simp only [nH] at g24'
     refine lv (Val.fieldAddr rfl AE5) ?_;refine Aa0 (Aa1 rfl (.head _) Af4 rfl) rfl rfl rfl ?_;refine sv ?_;exact zs g24
   ) (fun g24=>by
     have g24':=g24;try simp only [nH] at g24'
     iterate 3 refine Ac9 rfl rfl rfl ?_
     refine sv ?_;exact zs g24
   ) ?_
   refine su ?_;exact Aa4 (.r1 rfl (.tmp rfl)) (by unfold loanX;simp_all [CbA.pl])
  intro c1';refine st ?_;refine cn rfl ?_ ?_
  ·intro c2'
   refine st ?_
   refine Ae1 (dj:=32) (dp:=36) 4 rfl (fun g32=>by
     have g32':=g32;try simp only [nH] at g32'
     refine lv (Val.fieldAddr rfl As0) ?_;refine Aa0 (Aa1 rfl (.head _) Af4 rfl) rfl rfl rfl ?_;refine sv ?_;exact zs g32
   ) (fun g32=>by
     have g32':=g32;try simp only [nH] at g32'
     iterate 3 refine Ac9 rfl rfl rfl ?_
     refine sv ?_;exact zs g32
   ) ?_
   refine st ?_
   refine Ab3 (dj:=37) (dp:=44) 7 rfl (fun g37=>by
     have g37':=g37;try simp only [nH] at g37'
     refine su ?_;refine lv (Aj9 rfl rfl (IntWalk.i64_in _ ⟨by omega,by omega⟩)) ?_;refine Ab1 (zF rfl Ai8) rfl rfl rfl (fun w hm=>Ae5 _ _ _ w) ?_;refine sv ?_;exact zs g37
   ) (fun g37=>by
     have g37':=g37;try simp only [nH] at g37'
     iterate 6 refine Ac9 rfl rfl rfl ?_
     refine sv ?_;exact zs g37
   ) ?_
   refine st ?_
   refine Ab3 (dj:=45) (dp:=49) 4 rfl (fun g45=>by
     have g45':=g45;try simp only [nH] at g45'
     refine lv (Val.fieldAddr rfl AE6) ?_;refine Aa0 (Aa1 rfl (.head _) Af4 rfl) rfl rfl rfl ?_;refine sv ?_;exact zs g45
   ) (fun g45=>by
     have g45':=g45;try simp only [nH] at g45'
     iterate 3 refine Ac9 rfl rfl rfl ?_
     refine sv ?_;exact zs g45
   ) ?_
   refine su ?_;exact Aa4 (.r1 rfl (.tmp rfl)) (by unfold loanX;simp_all [CbA.pl])
  intro c2';refine su ?_;exact Aa4 (.r1 rfl (.tmp rfl)) (by unfold loanX;simp_all [CbA.pl])
theorem Bg4 (c:CbA) (hs:CbSm c) (l:Ln) (b1:Nat) (W:World) (h1:W.heap[b1]? = some (.cells c.cells.toArray 29 (0,0))):Calls Tryz.prog 171 #[.agg l.cells.toArray,.pointer (some ⟨b1,0,none⟩)] W (Pure (.bool (!loanX c.pl l)) W):=by
  refine Aa2 Tryz.func171 rfl rfl ?_;refine st ?_;refine zn (New.box rfl) (fun b2=>?_)
  refine lu (Bh2 rfl h1 (by simp) Bv1 rfl) ?_;refine zc (zF rfl CD9) (fun w hm=>Bo0 c hs l w) ?_;exact Aa4 (.r1 rfl (.tmp rfl)) (by first | rfl | simp)
theorem AP7 (c:CbA) (hs:CbS c) (W:World) (hC:CbOk W c):Calls Tryz.prog 112 #[c.v] W (Pure (.bool (cabX c.pl)) W):=by
  have h1:=hs.homes;have h2:=hs.loans;refine Aa2 Tryz.func112 rfl rfl ?_;refine st ?_;refine zn (New.box rfl) (fun b1=>?_)
  refine zc (zF rfl Ai8) (fun w hm=>Ae5 _ _ _ w) ?_
  refine Ab3 (dj:=10) (dp:=15) 5 rfl (fun g10=>by
    have g10':=g10;try simp only [nH] at g10'
    refine lv (Val.fieldAddr rfl Be1) ?_;refine lv (Aa1 rfl (.head _) As7 rfl) ?_;refine Aa0 (Ad7 rfl Ak6) rfl rfl rfl ?_;refine sv ?_;exact zs g10
  ) (fun g10=>by
    have g10':=g10;try simp only [nH] at g10'
    iterate 4 refine Ac9 rfl rfl rfl ?_
    refine sv ?_;exact zs g10
  ) ?_
  refine st ?_
  refine Ab3 (dj:=16) (dp:=20) 4 rfl (fun g16=>by
    have g16':=g16;try simp only [nH] at g16'
    refine su ?_;refine Ab1 (zF rfl Ai8) rfl rfl rfl (fun w hm=>Ae5 _ _ _ w) ?_;refine sv ?_;exact zs g16
  ) (fun g16=>by
    have g16':=g16;try simp only [nH] at g16'
    iterate 3 refine Ac9 rfl rfl rfl ?_
    refine sv ?_;exact zs g16
  ) ?_
  refine st ?_
  refine Ab3 (dj:=21) (dp:=26) 5 rfl (fun g21=>by
    have g21':=g21;try simp only [nH] at g21'
    refine lv (Val.fieldAddr rfl AL6) ?_;refine lv (Aa1 rfl (.head _) BI9 rfl) ?_;refine Aa0 (Ad7 rfl AT7) rfl rfl rfl ?_;refine sv ?_;exact zs g21
  ) (fun g21=>by
    have g21':=g21;try simp only [nH] at g21'
    iterate 4 refine Ac9 rfl rfl rfl ?_
    refine sv ?_;exact zs g21
  ) ?_
  refine su ?_;refine Ad6 (c.homes.l.length) (fun k q=>(30,.int .i64 (k:Int))::(4,.bool (homesH (IntKind.i64.wrap (c.slots - 1)) c.pl k))::q) (fun _=>_) (fun _=>[]) (fun _=>True) trivial rfl (zE 30 rfl rfl (zE 4 rfl rfl (zS 1 rfl (zS 3 rfl (zS 28 rfl (zS 29 rfl (Sub.nil _))))))) (.cons .here rfl .nil) ?_;intro k kN kI;clear kI;refine st ?_;refine cn rfl ?_ ?_
  ·intro c0'
   have hk:k < c.homes.l.length:=by omega
   obtain ⟨y,hy⟩:∃ y,c.homes.l[k]=y:=⟨_,rfl⟩;have hy2:c.pl.homes.getD k 0=y:=by (show c.homes.l.getD k 0=y;rw [List.getD_eq_getElem?_getD,List.getElem?_eq_getElem hk,hy];rfl)
   refine st ?_;refine lv (Aa6 rfl rfl Ak6 (by omega) (by omega) (Sl.ptrM hC.homes hk)) ?_;refine lv (Ab2 rfl (fun w hm=>Sl.loadM1 hC.homes (by decide) hm (by simp) Af4 hk (v:=.int .i64 y) (by simp [intC,hy]))) ?_
   refine Ab3 (dj:=36) (dp:=42) 6 rfl (fun g36=>by
     have g36':=g36;try simp only [nH] at g36'
     refine su ?_;refine lv (Bs6 rfl rfl) ?_;refine Ab1 (zF rfl Ai8) rfl rfl rfl (fun w hm=>Ae5 _ _ _ w) ?_;refine sv ?_;exact zs g36
   ) (fun g36=>by
     have g36':=g36;try simp only [nH] at g36'
     iterate 5 refine Ac9 rfl rfl rfl ?_
     refine sv ?_;exact zs g36
   ) ?_
   refine st ?_
   refine Ab3 (dj:=43) (dp:=50) 7 rfl (fun g43=>by
     have g43':=g43;try simp only [nH] at g43'
     refine su ?_;refine Ab1 (zF rfl By7) rfl rfl rfl (fun w hm=>Aw7 c.homes.l _ _ _ _ y w ((hC.mono0 hm).homes) (by omega)) ?_;refine sv ?_;exact zs g43
   ) (fun g43=>by
     have g43':=g43;try simp only [nH] at g43'
     iterate 6 refine Ac9 rfl rfl rfl ?_
     refine sv ?_;exact zs g43
   ) ?_
   refine st ?_;refine lv (Val.add rfl rfl (IntWalk.i64_in _ ⟨by omega,by omega⟩)) ?_;exact Ad2 (by omega) trivial rfl (zE 30 rfl rfl (zE 4 rfl (by rw [Bx5,hy2,← Bool.and_assoc];rfl) (zS 1 rfl (zS 3 rfl (zS 28 rfl (zS 29 rfl (Sub.nil _))))))) (.cons .here rfl .nil)
  intro c0';obtain rfl:k=c.homes.l.length:=by omega
  refine RunC.exit ?_;refine su ?_;refine Ab0 ?_;refine st ?_
  refine Ab3 (dj:=53) (dp:=55) 2 rfl (fun g53=>by
    have g53':=g53;try simp only [nH] at g53'
    refine sv ?_;exact zs g53
  ) (fun g53=>by
    have g53':=g53;try simp only [nH] at g53'
    refine Ac9 rfl rfl rfl ?_;refine sv ?_;exact zs g53
  ) ?_
  refine st ?_
  refine Ab3 (dj:=56) (dp:=62) 6 rfl (fun g56=>by
    have g56':=g56;try simp only [nH] at g56'
    have hw:within c.slots 1 6=true:=by (revert g56;cases within c.slots 1 6 <;> simp)
    simp only [within,Bool.and_eq_true,decide_eq_true_eq] at hw;have hsm:CbSm c:=⟨h1,h2,by omega⟩;refine su ?_;refine Ab1 (zF rfl Cc7) rfl rfl rfl (fun w hm=>AJ7 c.loans.l _ _ _ _ 171 #[.pointer (some ⟨b1,0,none⟩)] (fun l=>!loanX c.pl l) w ((hC.mono0 hm).loans) (by omega) CE0 (fun i h w2 h2=>Bg4 c hsm _ b1 w2 (h2.old_at (hm.at (.head _)) (by simp)))) ?_;refine sv ?_;exact zs g56
  ) (fun g56=>by
    have g56':=g56;try simp only [nH] at g56'
    iterate 5 refine Ac9 rfl rfl rfl ?_
    refine sv ?_;exact zs g56
  ) ?_
  refine su ?_;exact Aa4 (.r1 rfl (.tmp rfl)) (by unfold cabX;simp only [le5,CT2];have e1:c.pl.slots=c.slots:=rfl;cases hw:within c.slots 1 6 with | true=>(have h9:=BX2 (c:=c.pl) hw c.homes.l.length;rw [e1] at h9 ⊢;rw [h9,hw];rfl) | false=>(rw [e1,hw];simp))
theorem Bd4 (c:Pt) (W:World):Calls Tryz.prog 126 #[.agg c.cells.toArray] W (Pure (.bool (badPt c)) W):=by
  refine Aa2 Tryz.func126 rfl rfl ?_;refine st ?_;refine zn (New.box rfl) (fun b1=>?_)
  refine zc (zF rfl AR2) (fun w hm=>Ap5 ⟨_,_⟩ _ w) ?_
  refine Ae1 (dj:=7) (dp:=12) 5 rfl (fun g7=>by
    have g7':=g7;try simp only [nH] at g7'
    refine su ?_;refine Ab1 (zF rfl AR2) rfl rfl rfl (fun w hm=>Ap5 ⟨_,_⟩ _ w) ?_;refine sv ?_;exact zs g7
  ) (fun g7=>by
    have g7':=g7;try simp only [nH] at g7'
    iterate 4 refine Ac9 rfl rfl rfl ?_
    refine sv ?_;exact zs g7
  ) ?_
  refine st ?_
  refine Ae1 (dj:=13) (dp:=18) 5 rfl (fun g13=>by
    have g13':=g13;try simp only [nH] at g13'
    refine su ?_;refine Ab1 (zF rfl Ai8) rfl rfl rfl (fun w hm=>Ae5 _ _ _ w) ?_;refine sv ?_;exact zs g13
  ) (fun g13=>by
    have g13':=g13;try simp only [nH] at g13'
    iterate 4 refine Ac9 rfl rfl rfl ?_
    refine sv ?_;exact zs g13
  ) ?_
  refine su ?_;exact Aa4 (.r1 rfl (.tmp rfl)) (by unfold badPt;simp)
theorem AA8 (p:PsA) (hl:p.cards.l.length≤10000) (W:World) (hP:p.cards.ok Pt.cells 5 W):Calls Tryz.prog 49 #[p.v] W (Pure (.bool (printsX p.pl)) W):=by
  refine Aa2 Tryz.func49 rfl rfl ?_;refine st ?_;refine zn (New.box rfl) (fun b1=>?_)
  refine Ab3 (dj:=8) (dp:=14) 6 rfl (fun g8=>by
    have g8':=g8;try simp only [nH] at g8'
    refine su ?_;refine Ab1 (zF rfl Cd6) rfl rfl rfl (fun w hm=>AJ6 p.cards.l _ _ _ _ 126 #[] badPt w (hP.mono0 (by decide) hm) (by omega) CE9 (fun i h w2 h2=>Bd4 _ w2)) ?_;refine sv ?_;exact zs g8
  ) (fun g8=>by
    have g8':=g8;try simp only [nH] at g8'
    iterate 5 refine Ac9 rfl rfl rfl ?_
    refine sv ?_;exact zs g8
  ) ?_
  refine st ?_
  refine Ab3 (dj:=15) (dp:=19) 4 rfl (fun g15=>by
    have g15':=g15;try simp only [nH] at g15'
    refine su ?_;refine Ab1 (zF rfl AR2) rfl rfl rfl (fun w hm=>Ap5 ⟨_,_⟩ _ w) ?_;refine sv ?_;exact zs g15
  ) (fun g15=>by
    have g15':=g15;try simp only [nH] at g15'
    iterate 3 refine Ac9 rfl rfl rfl ?_
    refine sv ?_;exact zs g15
  ) ?_
  refine st ?_
  refine Ab3 (dj:=20) (dp:=24) 4 rfl (fun g20=>by
    have g20':=g20;try simp only [nH] at g20'
    refine su ?_;refine Ab1 (zF rfl AR2) rfl rfl rfl (fun w hm=>Ap5 ⟨_,_⟩ _ w) ?_;refine sv ?_;exact zs g20
  ) (fun g20=>by
    have g20':=g20;try simp only [nH] at g20'
    iterate 3 refine Ac9 rfl rfl rfl ?_
    refine sv ?_;exact zs g20
  ) ?_
  refine su ?_;exact Aa4 (.r1 rfl (.tmp rfl)) (by unfold printsX;simp only [le5];rfl)
end Go.Proofs.YtmkdbdbenfbkhaaGreatDoor
namespace Go.Proofs.YtmkdbdbenfbkhaaGreatDoor
open Go Go.Eng
theorem BH6:apB Tryz.prog 271=some (9,1,16):=by kernel_rfl
theorem Be9:Enters Tryz.prog 155:=Aa3 Tryz.func155 (by kernel_rfl) rfl
theorem CE4:Enters Tryz.prog 156:=Aa3 Tryz.func156 (by kernel_rfl) rfl
theorem Aq2:slB Tryz.prog 270=some (20,1):=by kernel_rfl
instance:Slc Tryz.prog 270 20 1:=⟨Aq2⟩
theorem AO0:slB Tryz.prog 271=some (9,1):=by kernel_rfl
instance:Slc Tryz.prog 271 9 1:=⟨AO0⟩
theorem CI4:tyB Tryz.prog 20=some (false,1):=by kernel_rfl
instance:Tyc Tryz.prog 20 false 1:=⟨CI4⟩
theorem Ag0:zeroB Tryz.prog 37=some [.int .i64 0,.int .i64 0]:=by kernel_rfl
theorem BC4:zeroB Tryz.prog 9=some [.string ⟨#[]⟩]:=by kernel_rfl
end Go.Proofs.YtmkdbdbenfbkhaaGreatDoor
namespace Go.Bk
open Go Go.Eng Go.RowKit
theorem Cy2 {sz n:Nat} {x:Eng.Own} {xs:List Value} (h:OwnOk sz x n xs):n≤ownC x:=by
  match x,h with
  | none,h=>rw [h.nil rfl];exact Nat.zero_le _
  | some (b,c,r),h=>exact (h.cap b c r rfl).1
inductive Part
  | s (x:Str)
  | n (x:Int)
  | ns (x:SA Int)
  | sps (x:SA Sp)
def Part.v:Part→Value
  | .s x=>.iface 9 (.string (bs x))
  | .n x=>.iface 3 (.int .i64 x)
  | .ns x=>.iface 26 x.v
  | .sps x=>.iface 22 x.v
def Part.words:Part→List Str
  | .s x=>[x]
  | .n x=>[Lib.itoa x]
  | .ns x=>x.l.map Lib.itoa
  | .sps x=>x.l.map spS
def In64 (n:Int):Prop:=-9223372036854775808≤n∧n≤9223372036854775807
def Part.ok (W:World):Part→Prop
  | .s x=>x.length≤40
  | .n x=>In64 x
  | .ns x=>x.ok intC 1 W∧x.l.length≤10000∧∀ n∈x.l,In64 n
  | .sps x=>x.ok Sp.cells 2 W∧x.l.length≤10000∧∀ s∈x.l,In64 s.lo∧In64 s.hi
theorem Part.ok.mono0 {W w:World} {p:Part} {news:Blks} (h:p.ok W) (hm:Mem W [] news w):p.ok w:=by
  cases p with
  | s x=>exact h
  | n x=>exact h
  | ns x=>exact ⟨h.1.mono0 (by decide) hm,h.2⟩
  | sps x=>exact ⟨h.1.mono0 (by decide) hm,h.2⟩
def Part.isS:Part→Bool
  | .s _=>true
  | _=>false
def Part.asS:Part→Value
  | .s x=>.string (bs x)
  | _=>.string ⟨#[]⟩
def Part.isN:Part→Bool
  | .n _=>true
  | _=>false
def Part.asN:Part→Value
  | .n x=>.int .i64 x
  | _=>.int .i64 0
def Part.isNs:Part→Bool
  | .ns _=>true
  | _=>false
def Part.asNs:Part→Value
  | .ns x=>x.v
  | _=>.slice none 0 0
def Part.isSps:Part→Bool
  | .sps _=>true
  | _=>false
def Part.asSps:Part→Value
  | .sps x=>x.v
  | _=>.slice none 0 0
theorem Part.ofS {p:Part} (h:p.isS=true):∃ x,p = .s x:=by cases p <;> first | exact ⟨_,rfl⟩ | cases h
theorem Part.ofN {p:Part} (h:p.isN=true):∃ x,p = .n x:=by cases p <;> first | exact ⟨_,rfl⟩ | cases h
theorem Part.ofNs {p:Part} (h:p.isNs=true):∃ x,p = .ns x:=by cases p <;> first | exact ⟨_,rfl⟩ | cases h
theorem Part.ofSps {p:Part} (h:p.isSps=true):∃ x,p = .sps x:=by cases p <;> first | exact ⟨_,rfl⟩ | cases h
theorem Part.no {p:Part} (h1:p.isS=false) (h2:p.isN=false) (h3:p.isNs=false) (h4:p.isSps=false):False:=by cases p <;> simp_all [Part.isS,Part.isN,Part.isNs,Part.isSps]
def strC (s:Str):List Value:=[.string (bs s)]
def strsV (l:List Str):List Value:=(l.map strC).flatten
theorem Al0 (l m:List Str):strsV (l++m)=strsV l++strsV m:=by simp [strsV]
def wsK (ps:List Part) (k:Nat):List Str:=((ps.take k).map Part.words).flatten
theorem Ap9 {ps:List Part} {k:Nat} (hk:k < ps.length) {p:Part} (hp:ps[k]=p):wsK ps (k + 1)=wsK ps k++p.words:=by
  unfold wsK;rw [List.take_succ_eq_append_getElem hk,List.map_append,List.flatten_append,hp];simp
theorem CH4 (ps:List Part) (k j:Nat):(wsK ps k).length≤(wsK ps (k + j)).length:=by
  unfold wsK;have h:ps.take (k + j)=ps.take k++(ps.drop k).take j:=List.take_add;rw [h,List.map_append,List.flatten_append,List.length_append];omega
theorem Bu6 (ps:List Part):wsK ps ps.length=(ps.map Part.words).flatten:=by unfold wsK;rw [List.take_length]
theorem CH5 {ps:List Part} {k:Nat} (hk:k < ps.length) {p:Part} (hp:ps[k]=p) {N:Nat} (h:((ps.map Part.words).flatten).length≤N):(wsK ps k).length + p.words.length≤N:=by
  have h1:=CH4 ps (k + 1) (ps.length - (k + 1));rw [show k + 1 + (ps.length - (k + 1))=ps.length by omega,Bu6,Ap9 hk hp,List.length_append] at h1;omega
theorem map_take {α β:Type} (f:α→β) {l:List α} {k:Nat} (hk:k < l.length) {x:α} (hx:l[k]=x):(l.take (k + 1)).map f=(l.take k).map f++[f x]:=by
  rw [List.take_succ_eq_append_getElem hk,List.map_append,hx];rfl
theorem Aq7 {n:Int} (h:In64 n):(Lib.itoa n).length≤20:=by
  have key:∀ (m u:Nat),u < 10 ^ (m + 1)→(Lib.decDigits u).length≤m + 1:=by
    intro m
    induction m with
    | zero=>intro u hu;unfold Lib.decDigits;rw [dif_pos (by omega)];simp
    | succ m ih =>
      intro u hu;unfold Lib.decDigits
      split
      · simp
      · rw [List.length_append]
        have:=ih (u / 10) (by rw [Nat.pow_succ] at hu;omega)
        simp only [List.length_singleton];omega
  unfold Lib.itoa;obtain ⟨h1,h2⟩:=h
  split
  · rw [List.length_cons]
    have:=key 18 n.natAbs (by omega)
    omega
  · have:=key 18 n.toNat (by omega)
    omega
theorem Cx7 {s:Sp} (h:In64 s.lo∧In64 s.hi):(spS s).length≤42:=by
  have h1:=Aq7 h.1;have h2:=Aq7 h.2;unfold spS;simp only [List.length_append,List.length_cons,List.length_nil];omega
theorem Bi3 {W:World} {p:Part} (h:p.ok W):∀ x∈p.words,x.length≤50:=by
  cases p with
  | s x=>intro y hy;simp only [Part.words,List.mem_singleton] at hy;subst hy;have h9:y.length≤40:=h;omega
  | n x=>intro y hy;simp only [Part.words,List.mem_singleton] at hy;subst hy;exact Nat.le_trans (Aq7 h) (by decide)
  | ns x=>intro y hy;obtain ⟨n,hn,rfl⟩:=List.mem_map.1 hy;exact Nat.le_trans (Aq7 (h.2.2 n hn)) (by decide)
  | sps x=>intro y hy;obtain ⟨n,hn,rfl⟩:=List.mem_map.1 hy;exact Nat.le_trans (Cx7 (h.2.2 n hn)) (by decide)
theorem Bx3 {sep:Str} {m:Nat}:∀ {xs:List Str},(∀ x∈xs,x.length≤m)→(Lib.join xs sep).length≤xs.length * (m + sep.length)
  | [],_=>by simp [Lib.join,List.intercalate]
  | [x],h=>by
    rw [Lib.join_one]
    have:=h x (by simp)
    simp only [List.length_singleton,Nat.one_mul];omega
  | x::y::xs,h=>by
    have ih:=Bx3 (sep:=sep) (xs:=y::xs) (fun z hz=>h z (by simp [hz]));have h1:=h x (by simp);have e:Lib.join (x::y::xs) sep=x++(sep++Lib.join (y::xs) sep):=by simp [Lib.join,List.intercalate]
    rw [e,List.length_append,List.length_append,List.length_cons,Nat.add_mul,Nat.one_mul];omega
section
variable {P:Program} {n:Nat} {r:Regs} {W:World} {chg news:Blks} {ty:TypeId} {pos:String} {after:Array Edge} {dst:Option Tmp} {gd:Option (Nat×Bool)}
theorem Bc5 {x:Operand} {T t:TypeId} {p:Part} {z v:Value} {b:Bool} (hx:rev r x=some p.v) (hi:(P.underlying t).any (fun t=>match t with | .interface _=>false | _=>true)=true) (hz:zeroV P t=some z)
    (h1:b=true→p.v = .iface t v) (h2:b=false→v=z∧∃ t' u,p.v = .iface t' u∧Nat.beq t' t=false) :
    Val P r W chg news { dst,op:=.typeAssert x T t true,type:=ty,pos,after,guard:=gd } (.tuple #[v,.bool b]):=by
  cases b with
  | true=>exact Al7 (by rw [hx,h1 rfl]) hi
  | false =>
    obtain ⟨rfl,t',u,h3,h4⟩:=h2 rfl;exact Bh4 (by rw [hx,h3]) hi h4 hz
end
end Go.Bk
namespace Go.Proofs.YtmkdbdbenfbkhaaGreatDoor
open Go Go.Eng Go.Bk

section
variable {n:Nat} {r:Regs} {W:World} {chg news:Blks} {ty:TypeId} {pos:String} {after:Array Edge} {dst:Option Tmp} {gd:Option (Nat×Bool)} {x:Operand} {T:TypeId} {p:Part}
theorem CJ5 (hx:rev r x=some p.v):Val Tryz.prog r W chg news { dst,op:=.typeAssert x T 9 true,type:=ty,pos,after,guard:=gd } (.tuple #[p.asS,.bool p.isS]) :=
  Bc5 hx (by kernel_rfl) (z:=.string ⟨#[]⟩) (by kernel_rfl) (fun h=>by obtain ⟨x,rfl⟩:=Part.ofS h;rfl) (fun h=>by cases p <;> first | exact ⟨rfl,_,_,rfl,rfl⟩ | cases h)
theorem CJ6 (hx:rev r x=some p.v):Val Tryz.prog r W chg news { dst,op:=.typeAssert x T 3 true,type:=ty,pos,after,guard:=gd } (.tuple #[p.asN,.bool p.isN]) :=
  Bc5 hx (by kernel_rfl) (z:=.int .i64 0) (by kernel_rfl) (fun h=>by obtain ⟨x,rfl⟩:=Part.ofN h;rfl) (fun h=>by cases p <;> first | exact ⟨rfl,_,_,rfl,rfl⟩ | cases h)
theorem Cy1 (hx:rev r x=some p.v):Val Tryz.prog r W chg news { dst,op:=.typeAssert x T 26 true,type:=ty,pos,after,guard:=gd } (.tuple #[p.asNs,.bool p.isNs]) :=
  Bc5 hx (by kernel_rfl) (z:=.slice none 0 0) (by kernel_rfl) (fun h=>by obtain ⟨x,rfl⟩:=Part.ofNs h;rfl) (fun h=>by cases p <;> first | exact ⟨rfl,_,_,rfl,rfl⟩ | cases h)
theorem Cl4 (hx:rev r x=some p.v):Val Tryz.prog r W chg news { dst,op:=.typeAssert x T 22 true,type:=ty,pos,after,guard:=gd } (.tuple #[p.asSps,.bool p.isSps]) :=
  Bc5 hx (by kernel_rfl) (z:=.slice none 0 0) (by kernel_rfl) (fun h=>by obtain ⟨x,rfl⟩:=Part.ofSps h;rfl) (fun h=>by cases p <;> first | exact ⟨rfl,_,_,rfl,rfl⟩ | cases h)
end
set_option maxHeartbeats 1000000 in
theorem BL9 (ps:List Part) (q:Option Addr) (b o c:Nat) (W:World) (hL:Lw Tryz.prog W) (hS:Sl W q b o 1 (ps.map fun p=>[p.v])) (hps:ps.length≤100) (hok:∀ p∈ps,p.ok W) (hN:((ps.map Part.words).flatten).length≤20000) :
    Calls Tryz.prog 87 #[.slice q ps.length c] W (Pure (.string (bs (lineS (ps.map Part.words).flatten))) W):=by
  refine Aa2 Tryz.func87 rfl rfl ?_;refine su ?_;refine Aj3 (X:=Eng.Own) (n0:=[]) (ps.length) (fun k x q=>(16,.int .i64 (k:Int))::(3,ownV x (wsK ps k).length)::q) (fun _ _=>_) (fun k x=>[]) (fun k x=>ownB 9 x (strsV (wsK ps k))++[]) (fun k x=>OwnOk 1 x (wsK ps k).length (strsV (wsK ps k))) none OwnOk.start rfl (zE 16 rfl rfl (zE 3 rfl rfl (zS 14 rfl (zS 15 rfl (Sub.nil _))))) (Pick.same rfl) ?_;intro k x kN kI;have hx1:=kI;refine st ?_;refine cn rfl ?_ ?_
  ·intro c0'
   have hk:k < ps.length:=by omega
   obtain ⟨p,hp⟩:∃ p,ps[k]=p:=⟨_,rfl⟩;have hpo:=hok p (hp ▸ List.getElem_mem hk);have hbd:=CH5 hk hp hN;refine st ?_;refine lv (Aa6 rfl rfl Aq2 (by omega) (by omega) (hS.ptrM hk)) ?_;refine lv (Ab2 rfl (fun w hm=>hS.loadM1 (by decide) hm (by simp) CI4 hk (v:=p.v) (by simp [hp]))) ?_;refine lv (CJ5 rfl) ?_;refine cn rfl ?_ ?_
   ·intro c1'
    obtain ⟨x2,rfl⟩:=Part.ofS c1';have hw1:(Part.s x2).words.length=1:=rfl;refine st ?_;refine zn (New.buildSlice (parts:=[(0,.tmp 25)]) rfl AO0 BC4 rfl rfl rfl rfl) (fun b26=>?_)
    refine RunL.append (A:=[(b26,_)]) (B:=_) (x:=x) (ys:=strsV (Part.s x2).words) BH6 rfl rfl rfl hx1 rfl (fun h=>by cases h) (fun w hm=>Ah3 (hm.at (.head _))) (Ak2 rfl) (by simp only [maxLen];omega) (by omega) rfl (fun z27 hz27=>?_)
    refine st ?_;refine lv (Val.add rfl rfl (IntWalk.i64_in _ ⟨by omega,by omega⟩)) ?_;exact Ae7 z27 (by omega) (by rw [Ap9 hk hp,Al0,List.length_append];exact hz27) rfl (zE 16 rfl rfl (zE 3 rfl (by first | (rw [Ap9 hk hp];simp only [List.length_append];rfl) | (rw [Ap9 hk hp];rfl) | exact (Part.no q1 q2 q3 c5').elim) (zS 14 rfl (zS 15 rfl (Sub.nil _))))) (Pick.skip (Pick.same (by first | (rw [Ap9 hk hp,Al0];rfl) | (rw [Ap9 hk hp];rfl) | exact (Part.no q1 q2 q3 c5').elim)))
   intro c1';have q1:p.isS=false:=c1';refine st ?_;refine lv (CJ6 rfl) ?_;refine cn rfl ?_ ?_
   ·intro c2'
    obtain ⟨x2,rfl⟩:=Part.ofN c2';have hw1:(Part.n x2).words.length=1:=rfl;refine st ?_;refine zc (zF rfl Be9) (fun w hm=>Az1 x2 hpo w (hL.mono hm)) ?_;refine zn (New.buildSlice (parts:=[(0,.tmp 33)]) rfl AO0 BC4 rfl rfl rfl rfl) (fun b34=>?_)
    refine RunL.append (A:=[(b34,_)]) (B:=_) (x:=x) (ys:=strsV (Part.n x2).words) BH6 rfl rfl rfl hx1 rfl (fun h=>by cases h) (fun w hm=>Ah3 (hm.at (.head _))) (Ak2 rfl) (by simp only [maxLen];omega) (by omega) rfl (fun z35 hz35=>?_)
    refine st ?_;refine lv (Val.add rfl rfl (IntWalk.i64_in _ ⟨by omega,by omega⟩)) ?_;exact Ae7 z35 (by omega) (by rw [Ap9 hk hp,Al0,List.length_append];exact hz35) rfl (zE 16 rfl rfl (zE 3 rfl (by first | (rw [Ap9 hk hp];simp only [List.length_append];rfl) | (rw [Ap9 hk hp];rfl) | exact (Part.no q1 q2 q3 c5').elim) (zS 14 rfl (zS 15 rfl (Sub.nil _))))) (Pick.skip (Pick.same (by first | (rw [Ap9 hk hp,Al0];rfl) | (rw [Ap9 hk hp];rfl) | exact (Part.no q1 q2 q3 c5').elim)))
   intro c2';have q2:p.isN=false:=c2';refine st ?_;refine lv (Cy1 rfl) ?_;refine cn rfl ?_ ?_
   ·intro c3'
    obtain ⟨x2,rfl⟩:=Part.ofNs c3';obtain ⟨hxS,hxl,hx64⟩:=hpo;have hw1:(Part.ns x2).words.length=x2.l.length:=List.length_map ..;refine su ?_;refine Aj3 (X:=Eng.Own) (n0:=[]) (x2.l.length) (fun j y1 q=>(41,.int .i64 (j:Int))::(3,ownV y1 (wsK ps k++(x2.l.take j).map Lib.itoa).length)::q) (fun _ _=>_) (fun j y1=>[]) (fun j y1=>ownB 9 y1 (strsV (wsK ps k++(x2.l.take j).map Lib.itoa))++[]) (fun j y1=>OwnOk 1 y1 (wsK ps k++(x2.l.take j).map Lib.itoa).length (strsV (wsK ps k++(x2.l.take j).map Lib.itoa))) x (by simpa using hx1) rfl (zE 41 rfl rfl (zE 3 rfl (by simp) (zS 14 rfl (zS 15 rfl (zS 16 rfl (zS 39 rfl (zS 40 rfl (Sub.nil _)))))))) (Pick.same (by simp)) ?_;intro j y1 jN jI;have hx1:=jI;refine st ?_;refine cn rfl ?_ ?_
    ·intro c4'
     have hj:j < x2.l.length:=by omega
     obtain ⟨y,hy⟩:∃ y,x2.l[j]=y:=⟨_,rfl⟩;have hy64:=hx64 y (hy ▸ List.getElem_mem hj);have hlw:(wsK ps k++(x2.l.take j).map Lib.itoa).length=(wsK ps k).length + j:=by (rw [List.length_append,List.length_map,List.length_take];omega)
     have e2:wsK ps k++(x2.l.take (j + 1)).map Lib.itoa=(wsK ps k++(x2.l.take j).map Lib.itoa)++[Lib.itoa y]:=by (rw [map_take _ hj hy,List.append_assoc])
     refine st ?_;refine lv (Aa6 rfl rfl Ak6 (by omega) (by omega) (Sl.ptrM hxS hj)) ?_;refine lv (Ab2 rfl (fun w hm=>Sl.loadM1 hxS (by decide) hm (by simp) Af4 hj (v:=.int .i64 y) (by simp [intC,hy]))) ?_;refine zc (zF rfl Be9) (fun w hm=>Az1 y hy64 w (hL.mono hm)) ?_;refine zn (New.buildSlice (parts:=[(0,.tmp 47)]) rfl AO0 BC4 rfl rfl rfl rfl) (fun b48=>?_)
     refine RunL.append (A:=[(b48,_)]) (B:=_) (x:=y1) (ys:=strsV [Lib.itoa y]) BH6 rfl rfl rfl hx1 rfl (fun h=>by cases h) (fun w hm=>Ah3 (hm.at (.head _))) (Ak2 rfl) (by simp only [maxLen];omega) (by omega) rfl (fun z49 hz49=>?_)
     refine st ?_;refine lv (Val.add rfl rfl (IntWalk.i64_in _ ⟨by omega,by omega⟩)) ?_;exact Ae7 z49 (by omega) (by rw [e2,Al0,List.length_append];exact hz49) rfl (zE 41 rfl rfl (zE 3 rfl (by rw [e2];simp only [List.length_append];rfl) (zS 14 rfl (zS 15 rfl (zS 16 rfl (zS 39 rfl (zS 40 rfl (Sub.nil _)))))))) (Pick.skip (Pick.same (by rw [e2,Al0];rfl)))
    intro c4';obtain rfl:j=x2.l.length:=by omega
    have hyn:=hx1;rw [List.take_length] at hyn;simp only [List.take_length];refine RunC.exit ?_;refine su ?_;refine Ab0 ?_;refine st ?_;refine lv (Val.add rfl rfl (IntWalk.i64_in _ ⟨by omega,by omega⟩)) ?_;exact Ae7 y1 (by omega) (by rw [Ap9 hk hp];exact hyn) rfl (zE 16 rfl rfl (zE 3 rfl (by first | (rw [Ap9 hk hp];simp only [List.length_append];rfl) | (rw [Ap9 hk hp];rfl) | exact (Part.no q1 q2 q3 c5').elim) (zS 14 rfl (zS 15 rfl (Sub.nil _))))) (Pick.same (by first | (rw [Ap9 hk hp,Al0];rfl) | (rw [Ap9 hk hp];rfl) | exact (Part.no q1 q2 q3 c5').elim))
   intro c3';have q3:p.isNs=false:=c3';refine st ?_;refine lv (Cl4 rfl) ?_;refine cn rfl ?_ ?_
   ·intro c5'
    obtain ⟨x2,rfl⟩:=Part.ofSps c5';obtain ⟨hxS,hxl,hx64⟩:=hpo;have hw1:(Part.sps x2).words.length=x2.l.length:=List.length_map ..;refine su ?_;refine Aj3 (X:=Eng.Own) (n0:=[]) (x2.l.length) (fun j y2 q=>(56,.int .i64 (j:Int))::(3,ownV y2 (wsK ps k++(x2.l.take j).map spS).length)::q) (fun _ _=>_) (fun j y2=>[]) (fun j y2=>ownB 9 y2 (strsV (wsK ps k++(x2.l.take j).map spS))++[]) (fun j y2=>OwnOk 1 y2 (wsK ps k++(x2.l.take j).map spS).length (strsV (wsK ps k++(x2.l.take j).map spS))) x (by simpa using hx1) rfl (zE 56 rfl rfl (zE 3 rfl (by simp) (zS 14 rfl (zS 15 rfl (zS 16 rfl (zS 54 rfl (zS 55 rfl (Sub.nil _)))))))) (Pick.same (by simp)) ?_;intro j y2 jN jI;have hx1:=jI;refine st ?_;refine cn rfl ?_ ?_
    ·intro c6'
     have hj:j < x2.l.length:=by omega
     obtain ⟨y,hy⟩:∃ y,x2.l[j]=y:=⟨_,rfl⟩;have hy64:=hx64 y (hy ▸ List.getElem_mem hj);have hlo:=Aq7 hy64.1;have hhi:=Aq7 hy64.2;have hlw:(wsK ps k++(x2.l.take j).map spS).length=(wsK ps k).length + j:=by (rw [List.length_append,List.length_map,List.length_take];omega)
     have e2:wsK ps k++(x2.l.take (j + 1)).map spS=(wsK ps k++(x2.l.take j).map spS)++[spS y]:=by (rw [map_take _ hj hy,List.append_assoc])
     refine st ?_;refine lv (Aa6 rfl rfl Av4 (by omega) (by omega) (Sl.ptrM hxS hj)) ?_;refine lv (Ab2 rfl (fun w hm=>Sl.loadX hxS (by decide) hm (by simp) Ah0 hj hy)) ?_;refine zn (New.alloc Ag0) (fun b13=>?_)
     refine Ab4 (Sto.store rfl rfl .here Ah0 rfl rfl) rfl rfl ?_;refine st ?_;refine Ae9 10 As5 (.cons .here rfl .nil) ?_;refine zw 0 ?_;refine zw 1 ?_;refine zw 2 ?_;refine zw 5 ?_;refine zw 6 ?_;refine zA 3 ?_;refine Ac4 rfl (zF rfl Be9) rfl rfl rfl (fun w hm=>Az1 y.lo hy64.1 w (hL.mono hm)) (Aa5 (.cons .here rfl .nil) (.cons .here rfl .nil) rfl ?_)
     refine zv 4 rfl (Ak4 rfl rfl (by simp;omega)) ?_;refine zA 7 ?_;refine Ac4 rfl (zF rfl Be9) rfl rfl rfl (fun w hm=>Az1 y.hi hy64.2 w (hL.mono hm)) (Aa5 (.cons .here rfl .nil) (.cons .here rfl .nil) rfl ?_)
     refine zv 8 rfl (Ak4 rfl rfl (by simp;omega)) ?_;refine zA 9 ?_;refine Ae0 rfl (New.buildSlice (parts:=[(0,.tmp 68)]) rfl AO0 BC4 rfl rfl rfl rfl) rfl rfl rfl (fun b69=>(Aa5 (.cons .here rfl (.cons .here rfl .nil)) (.cons (.there .here) rfl .nil) rfl ?_))
     refine zt ?_;refine zB 10 ?_;refine RunI.append (A:=[(b69,_),(b13,_)]) (B:=_) (x:=y2) (ys:=strsV [spS y]) rfl BH6 rfl rfl rfl hx1 rfl (fun h=>by cases h) (fun w hm=>Ah3 (hm.at (.head _))) (Ak2 rfl) (by simp only [maxLen];omega) (by omega) rfl (fun z70 hz70=>(Ab5 ?_))
     refine zp 11 ?_;refine zd ?_;refine st ?_;refine lv (Val.add rfl rfl (IntWalk.i64_in _ ⟨by omega,by omega⟩)) ?_;exact Ae7 z70 (by omega) (by rw [e2,Al0,List.length_append];exact hz70) rfl (zE 56 rfl rfl (zE 3 rfl (by rw [e2];simp only [List.length_append];rfl) (zS 14 rfl (zS 15 rfl (zS 16 rfl (zS 54 rfl (zS 55 rfl (Sub.nil _)))))))) (Pick.skip (Pick.skip (Pick.same (by rw [e2,Al0];rfl))))
    intro c6';obtain rfl:j=x2.l.length:=by omega
    have hyn:=hx1;rw [List.take_length] at hyn;simp only [List.take_length];refine RunC.exit ?_;refine su ?_;refine Ab0 ?_;refine st ?_;refine lv (Val.add rfl rfl (IntWalk.i64_in _ ⟨by omega,by omega⟩)) ?_;exact Ae7 y2 (by omega) (by rw [Ap9 hk hp];exact hyn) rfl (zE 16 rfl rfl (zE 3 rfl (by first | (rw [Ap9 hk hp];simp only [List.length_append];rfl) | (rw [Ap9 hk hp];rfl) | exact (Part.no q1 q2 q3 c5').elim) (zS 14 rfl (zS 15 rfl (Sub.nil _))))) (Pick.same (by first | (rw [Ap9 hk hp,Al0];rfl) | (rw [Ap9 hk hp];rfl) | exact (Part.no q1 q2 q3 c5').elim))
   intro c5';refine st ?_;refine lv (Val.add rfl rfl (IntWalk.i64_in _ ⟨by omega,by omega⟩)) ?_;exact Ae7 x (by omega) (by exact (Part.no q1 q2 q3 c5').elim) rfl (zE 16 rfl rfl (zE 3 rfl (by first | (rw [Ap9 hk hp];simp only [List.length_append];rfl) | (rw [Ap9 hk hp];rfl) | exact (Part.no q1 q2 q3 c5').elim) (zS 14 rfl (zS 15 rfl (Sub.nil _))))) (Pick.same (by first | (rw [Ap9 hk hp,Al0];rfl) | (rw [Ap9 hk hp];rfl) | exact (Part.no q1 q2 q3 c5').elim))
  intro c0';obtain rfl:k=ps.length:=by omega
  rw [Bu6] at hx1;simp only [Bu6];have hcap:((ps.map Part.words).flatten).length≤ownC x:=Cy2 hx1;have hjl:=Bx3 (sep:=[32]) (m:=50) (xs:=(ps.map Part.words).flatten) (fun y hy=>by obtain ⟨ws,h1,h2⟩:=List.mem_flatten.1 hy;obtain ⟨p,h3,rfl⟩:=List.mem_map.1 h1;exact Bi3 (hok p h3) y h2);simp only [List.length_singleton] at hjl;refine RunC.exit ?_;refine su ?_;refine Ab0 ?_;refine st ?_;refine zc (zF rfl CE4) (fun w hm=>(by rw [Ad5 hx1];exact BM2 (ownQ x) (ownK x) 0 (ownC x) ((ps.map Part.words).flatten) [32] w (Ah1 (f:=strC) (fun _=>rfl) (by decide) hx1 (fun b o h=>hm.at (by simp only [List.nil_append,List.append_nil];exact h))) (by omega) hcap (by omega))) ?_;refine lu (Ak4 rfl rfl (by simp;omega)) ?_;exact Aa4 (.r1 rfl (.tmp rfl)) (by first | rfl | simp)
end Go.Proofs.YtmkdbdbenfbkhaaGreatDoor
namespace Go.Proofs.YtmkdbdbenfbkhaaGreatDoor
open Go Go.Eng
theorem Cq5:apsB Tryz.prog 52 9=some 5:=by kernel_rfl
theorem CE5:Enters Tryz.prog 154:=Aa3 Tryz.func154 (by kernel_rfl) rfl
theorem Cu1:Enters Tryz.prog 86:=Aa3 Tryz.func86 (by kernel_rfl) rfl
theorem As1:Enters Tryz.prog 87:=Aa3 Tryz.func87 (by kernel_rfl) rfl
theorem BY4:fieldB Tryz.prog 175 0=some 0:=by kernel_rfl
instance:Fld Tryz.prog 175 0 0:=⟨BY4⟩
theorem BY3:fieldB Tryz.prog 175 1=some 1:=by kernel_rfl
instance:Fld Tryz.prog 175 1 1:=⟨BY3⟩
theorem Cy6:(Tryz.prog.underlying 22).any (fun t=>match t with | .interface _=>false | _=>true)=true:=by kernel_rfl
theorem Aw3:(Tryz.prog.underlying 9).any (fun t=>match t with | .interface _=>false | _=>true)=true:=by kernel_rfl
theorem Cs3:tyB Tryz.prog 173=some (false,1):=by kernel_rfl
instance:Tyc Tryz.prog 173 false 1:=⟨Cs3⟩
theorem Cj1:tyB Tryz.prog 52=some (false,1):=by kernel_rfl
instance:Tyc Tryz.prog 52 false 1:=⟨Cj1⟩
theorem Bi6:Tryz.prog.underlying 9=some (.string):=by kernel_rfl
theorem An3:zeroB Tryz.prog 20=some [.nilIface]:=by kernel_rfl
end Go.Proofs.YtmkdbdbenfbkhaaGreatDoor
