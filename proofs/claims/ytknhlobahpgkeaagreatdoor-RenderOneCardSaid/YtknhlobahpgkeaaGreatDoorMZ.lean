/-
  What a row's arguments are, by their data: structs of whole numbers, texts and truth values.
-/
import Derived.Test.YtknhlobahpgkeaaGreatDoorMBB
import Derived.Handed
import Derived.HandedShaped
set_option linter.all false
namespace Nt.Ev
open Go Go.RowKit
variable {H:Type} {enc:TypeId×Value→H} {P:Program} {w:World} {base:Nat} {spare:Nat→Bool} {held:Bool}
def shaped (P:Program) (e:Nat) (sh:List Kd) (x:V):Prop:=match cr P e with|some true=>∃ys,x=.agg ys∧fU sh ys=true|_=>fU sh [x]=true
mutual
def okC (P:Program):V→Prop
 | .int k n=>(Lit.int k n).wf=true
 | .str l=>l.length≤maxLen
 | .agg ys=>okCl P ys
 | .sl e sh o xs=>o=none∧xs.length≤maxLen∧(∀x∈xs,shaped P e sh x)∧okCl P xs
 |_=>True
def okCl (P:Program):ah→Prop
 |[]=>True
 |x::xs=>okC P x∧okCl P xs
end
variable {H:Type} {enc:TypeId×Value→H}
theorem qf {a:Assume} {C:Checked} {os:Os} {f:FuncId} {fn:Func} {s:ChangeSpec} {h:List PathCond} {b m g l:Bool} {X:World→Array Value→Prop}
  (J: ∀(w w':World) (args:Array Value),w.heap=w'.heap→X w args→X w' args)
  (own:ownKnob C.prog.godebug=none) (n:os.Started) (p:C.prog.inits.idxOf? f=none) (F:C.prog.funcs[f]? =some fn)
  (o: ∃(w:World) (c:Tape) (i:Input),w.os=os∧(w.forCall c i).Shaped C.prog∧i.vars=[]∧Input.okWide C.prog (w.forCall c i) .any w.heap.size f i∧
   ((s.pre enc C.prog fn h b (w.forCall c i).memory i.args∧X (w.forCall c i).memory i.args)∧sizedMet enc C.prog fn (OpenSpec.ofChange s) b (w.forCall c i).memory i.args)∧a.holds C.prog (lone (Frame.enter C.prog f i.args .normal) [] (w.forCall c i)))
  (k: ∀(W:World) (q:Nat) (args:Array Value) (x r:List (DataW H)) (d:List MemPlace),
   (∀(j:Nat) t v,fn.params[j]? =some t→args[j]? =some v→Value.okWide C.prog W .any q t v)→
   DataW.Whole enc C.prog fn.params.toList s.vars b W args.toList x r d→
   h.all (PathCond.test C.prog ⟨fn.params.toList,x,s.plain.varTypes C.prog,r⟩)=true→
   (DataW.weightsEach C.prog (fn.params.toList++s.plain.varTypes C.prog) (x++r)).all (· ≤reachBytes)=true→X W args→W.ShapedOpen C.prog→
   Calls C.prog f args W fun e W'=>∃v,e=.returned v∧s.post enc C.prog fn b m g l W args v W'):
  ReturnsInHanded a C os f .any (fun w args=>(s.pre enc C.prog fn h b w args∧X w args)∧sizedMet enc C.prog fn (OpenSpec.ofChange s) b w args) (s.post enc C.prog fn b m g l):=by
 refine returnsInHanded_of_calls own n p o ?_;intro w c i _ E _ D z A;obtain⟨_,_,_,G,y,_,_,_,_,u⟩:=D;have e:G=fn:=Option.some.inj (y.symm.trans F);subst e;obtain⟨⟨⟨x,r,d,I,K⟩,N⟩,L⟩:=z;have B:=DataW.Whole.of_heap (w':=w.forCall c i) (by rfl) I;refine(k (w.forCall c i) w.heap.size i.args x r d u B K (L.weights I) (J _ _ _ (by rfl) N) E).mono fun e W' ⟨v,O,M⟩=>?_
 subst O;exact ChangeSpec.post_blind M
end Nt.Ev
