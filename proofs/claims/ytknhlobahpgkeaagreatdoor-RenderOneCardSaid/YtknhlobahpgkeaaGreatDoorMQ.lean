/-
  A region that draws its order, proved operation by operation: one fact for each operation's value, which the other operations keep; so the proof is as ..
-/
import Derived.ArgAppend
import Derived.OrdersIn
import Derived.TacticsIn
import Derived.RangeFuncBox
import Derived.RangeFuncFrom
import Derived.Test.YtknhlobahpgkeaaGreatDoorMS
import Derived.RangeFuncNested
import Derived.RangeFuncBound
import Derived.RangeFuncCalls
import Derived.RangeFuncLeaves
import Derived.Shelf.Abstract
import Derived.Shelf.RegionOpen
import Derived.OwnWalkIn
import Derived.TacticsInMore
import Derived.LoopNIn
import Derived.LoopIn
import Derived.Maps.AppendAt
import Derived.RegionIn
import Derived.Test.YtknhlobahpgkeaaGreatDoorMP
import Derived.Laws.RangeAny
set_option linter.all false
set_option maxRecDepth 100000
namespace Nt
open Go Go.RowKit
def dX (val:Nat→Value) (b:Nat→Bool):List Oper→Nat→Act→Act
 |[],_,a=>a
 |o::l,k,a=>dX val b l (k+1) (if b k=true then a.put o.dst (val k) else a)
def zx (n:Nat):List Oper→Bool
 |[]=>true
 |o::l=>(match o.dst with|some d=>decide (d<n)&&l.all fun a=>a.dst != some d|none=>true)&&zx n l
theorem Ra (a:Act) (d:Option Tmp) (v:Value):(a.put d v).tmps.size=a.tmps.size:=by cases d<;>simp[Act.put]
theorem Ju (val:Nat→Value) (b:Nat→Bool) (d:Tmp) (v:Value): ∀(l:List Oper) (k:Nat) (a:Act),(l.all fun c=>c.dst != some d)=true→
  (dX val b l k a).put (some d) v=dX val b l k (a.put (some d) v)
 |[],_,_,_=>rfl
 |o::l,k,a,h=>by
  simp only[Pg,bC,acM,ne_eq] at h;simp only[dX];rw[Ju val b d v l (k+1) _ (by simpa using h.2)];congr 1;split
  ·exact Act.put_comm a _ _ (fun x f e=>h.1 (by rw[f,e]))
  rfl
theorem jo (val d:Nat→Value) (b c:Nat→Bool): ∀(l:List Oper) (k:Nat) (a:Act),(∀i,k≤i→i<k+l.length→b i=c i∧(b i=true→val i=d i))→dX val b l k a=dX d c l k a
 |[],_,_,_=>rfl
 |o::l,k,a,h=>by
  have f:=h k (lg _) (by simp);simp only[dX];rw[←f.1];by_cases e:b k=true
  ·rw[if_pos e,if_pos e,f.2 e]
   exact jo val d b c l (k+1) _ fun i j g=>h i (by omega) (by simp;omega)
  rw[if_neg e,if_neg e];exact jo val d b c l (k+1) _ fun i j g=>h i (by omega) (by simp;omega)
theorem EN (n:Nat) (val:Nat→Value) (b:Nat→Bool) (i:Nat) (v:Value): ∀(l:List Oper) (k:Nat) (a:Act) (o:Oper),zx n l=true→k≤i→l[i-k]? =some o→b i=false→
  (dX val b l k a).put o.dst v=dX (fun j=>if j=i then v else val j) (fun j=>if j=i then true else b j) l k a
 |[],_,_,_,_,_,h,_=>by simp at h
 |o'::l,k,a,o,m,t,g,p=>by
  simp only[zx,bC] at m;by_cases e:i=k
  ·subst e
   simp only[Yz,O8,aR] at g;subst g;have f:=m.1
   cases c:o'.dst with
   |none=>
    simp only[dX,p,if_pos,JP,Cu,c];exact jo _ _ _ _ l (i+1) _ fun j r q=>by
     have:j≠i:=by omega
     simp[this]
   |some d=>
    rw[c] at f;simp only[bC,lG] at f;simp only[dX,p,if_pos,JP,Cu];rw[Ju val b d v l (i+1) a f.2,c];exact jo _ _ _ _ l (i+1) _ fun j r q=>by
     have:j≠i:=by omega
     simp[this]
  simp only[dX];have s: ¬k=i:=fun h=>e h.symm
  simp only[if_neg s];refine EN n val b i v l (k+1) _ o m.2 (by omega) ?_ p;have:i-k=(i-(k+1))+1:=by omega
  rw[this] at g;simpa using g
theorem yN (val:Nat→Value) (b:Nat→Bool): ∀(l:List Oper) (k:Nat) (a:Act),(dX val b l k a).defers=a.defers
 |[],_,_=>rfl
 |o::l,k,a=>by
  simp only[dX];rw[yN val b l (k+1)];split
  ·cases o.dst<;>rfl
  rfl
theorem uD (val:Nat→Value) (b:Nat→Bool) (t:Nat): ∀(l:List Oper) (k:Nat) (a:Act),(l.all fun o=>o.dst != some t)=true→(dX val b l k a).tmps[t]? =a.tmps[t]?
 |[],_,_,_=>rfl
 |o::l,k,a,h=>by
  simp only[Pg,bC,acM,ne_eq] at h;simp only[dX];rw[uD val b t l (k+1) _ (by simpa using h.2)];split
  ·cases c:o.dst with
   |none=>rfl
   |some d=>
    have:d≠t:=fun e=>h.1 (by rw[c,e])
    simp[Act.put,Array.getElem?_setIfInBounds_ne this]
  rfl
theorem EO (val:Nat→Value) (b:Nat→Bool) (j d:Nat): ∀(l:List Oper) (k:Nat) (a:Act) (o:Oper),zx a.tmps.size l=true→k≤j→l[j-k]? =some o→o.dst=some d→b j=true→
  (dX val b l k a).tmps[d]? =some (val j)
 |[],_,_,_,_,_,h,_,_=>by simp at h
 |o'::l,k,a,o,g,n,i,c,m=>by
  simp only[zx,bC] at g;by_cases e:j=k
  ·subst e
   simp only[Yz,O8,aR] at i;subst i;have f:=g.1;rw[c] at f;simp only[bC,lG] at f;simp only[dX,m,if_true];rw[uD val b d l (j+1) _ f.2,c];simp[Act.put,f.1]
  simp only[dX];have:j-k=(j-(k+1))+1:=by omega
  rw[this] at i;refine EO val b j d l (k+1) _ o ?_ (by omega) (by simpa using i) c m;split
  ·rw[Ra];exact g.2
  exact g.2
def waitsFor (ops:Array Oper) (i j:Nat):Bool:=match ops[i]? with|some o=>o.after.any fun e=>Region.binds .any e&&e.on==j|none=>false
def backward (ops:Array Oper):Bool:=(List.range ops.size).all fun i=>match ops[i]? with|some o=>o.after.all fun e=>!Region.binds .any e||decide (e.on<i)|none=>true
def takes (ops:Array Oper) (k j:Nat):Bool:=match ops[k]? with|some o=>o.after.toList.any fun e=>(e.ground== .data||e.ground== .guard)&&e.on==j|none=>false
def live (ops:Array Oper) (keep:List Nat) (i j:Nat):Bool:=keep.contains j||(List.range ops.size).any fun k=>k != i&&takes ops k j&& !waitsFor ops i k
def open_ (ops:Array Oper) (a:Array Bool):Nat:=(List.range ops.size).countP fun i=>!a.getD i true
section
variable {P:Program} {ops:Array Oper} {Q:Exit→Act→World→Prop}
theorem ready_nil (g:backward ops=true) (a:Array Bool) (o:a.size=ops.size) (h:Region.ready .any ops a=[]): ∀i,i<ops.size→a.getD i true=true:=by
 intro i;induction i using Nat.strongRecOn with
 |_ i m=>
  intro b
  cases j:a.getD i true with
  |true=>rfl
  |false=>
   have:i∈Region.ready .any ops a:=by
    rw[mem_ready];refine⟨j,ops[i],by simp[b],fun e l c=>?_⟩;simp only[backward,l8,ab8] at g;have d:=g i b;rw[Ao b] at d;simp only[Array.all_eq_true_iff_forall_mem,JR,ac2,lG] at d;have k:e.on<i:=(d e l).resolve_left (by rw[c];simp);have f:=m e.on k (by omega);have n:e.on<a.size:=by omega
    simp only[z8,Ao n,yT] at f⊢;exact f
   rw[h] at this
   cases this
theorem ad3 {p q:Nat→Bool} {l:List Nat} {x:Nat} (d:x∈l) (h: ∀y∈l,q y=true→p y=true) (e:p x=true) (g:q x=false):l.countP q<l.countP p:=by
 induction l with
 |nil=>cases d
 |cons y l i=>
  simp only[abD];have j:l.countP q≤l.countP p:=List.countP_mono_left fun z c=>h z (by simp[c])
  rcases List.mem_cons.1 d with rfl|a
  ·simp[e,g];omega
  have:=i a fun z c=>h z (by simp[c])
  have f:=h y (by simp)
  cases b:q y with
  |false=>split<;>simp_all<;>omega
  |true=>simp[f b];omega
theorem Rb (a:Array Bool) (i:Nat) (d:a.size=ops.size) (c:i<ops.size) (b:a.getD i true=false):open_ ops (a.setIfInBounds i true)<open_ ops a:=by
 unfold open_;refine ad3 (x:=i) (by simpa using c) (fun y _ h=>?_) (by rw[b];rfl) ?_
 ·by_cases e:i=y
  ·subst e;rw[b];rfl
  rw[getD_set_ne true e] at h;exact h
 simp[d,c]
def Slot (a:Act) (t:Nat) (v:Value):Prop:=a.tmps[t]? =some v∧ ∀h:t<a.tmps.size,a.tmps[t]=v
theorem Slot.mk {a:Act} {t:Nat} {v:Value} (h:a.tmps[t]? =some v):Slot a t v:=⟨h,fun b=>by rw[Ao b] at h;exact Option.some.inj h⟩
def lF (ops:List Oper) (a b:Act):List Operand→Prop
 |[]=>True
 | .tmp t::l=>((ops.all fun o=>o.dst != some t)=true→ ∀v,a.tmps[t]? =some v→Slot b t v)∧lF ops a b l
 |_::l=>lF ops a b l
def pR (ops:Array Oper) (F:Nat→Value→World→Prop) (a:Act) (w':World):List Edge→Prop
 |[]=>True
 |e::l=>((e.ground== .data||e.ground== .guard)=true→ ∀d,((ops[e.on]?).bind (·.dst))=some d→ ∃u,Slot a d u∧F e.on u w')∧pR ops F a w' l
def DL (F:Nat→Value→World→Prop) (val:Nat→Value) (w:World):List Nat→Prop
 |[]=>True
 |k::l=>F k (val k) w∧DL F val w l
theorem Ci {F:Nat→Value→World→Prop} {val:Nat→Value} {w:World}: ∀(l:List Nat),(∀i∈l,F i (val i) w)→DL F val w l
 |[],_=>trivial
 |k::l,h=>⟨h k (by simp),Ci l fun i a=>h i (by simp[a])⟩
theorem uw {o:Oper} {a:Act} {w' b:World} {K:Act→World→Prop} {v:Value} (d:o.guard=none) (h:(execOp a.eval o).run P w'=.ok (.value v) b) (c:K (a.put o.dst v) b):
  if Region.wanted o (yielded ops a.tmps)=true then o.wp P a w' K Q else K (a.put o.dst undef) w':=by
 rw[if_pos (by simp[Region.wanted,d])];unfold Oper.wp;rw[h];exact c
theorem ad4 {o:Oper} {a:Act} {w':World} {K:Act→World→Prop} {f:FuncId} {args:Array Value} (d:o.guard=none) (h:(execOp a.eval o).run P w'=.ok (.enter f args) w')
  (g:Calls P f args w' fun e b=>∃v,e=.returned v∧K (a.put o.dst v) b):
  if Region.wanted o (yielded ops a.tmps)=true then o.wp P a w' K Q else K (a.put o.dst undef) w':=by
 rw[if_pos (by simp[Region.wanted,d])];unfold Oper.wp;rw[h];refine Calls.mono g ?_;rintro e b ⟨v,rfl,c⟩;exact c
theorem O4 {w:World} {b a e c:Nat} {v:Value} {n:Nat} {xs:List Value} (h:w.ownsRow b e c v n xs) (k:a≤b):w.ownsRow a e c v n xs:=by
 obtain⟨j,f⟩:=h;refine⟨j,?_⟩;rcases f with f|⟨g,cap,d,i,l,r⟩
 ·exact .inl f
 exact .inr ⟨g,cap,d,i,by omega,r⟩
theorem heap_ext {w w':World} {g:Nat} {o:Obj} (h:w.heap[g]? =some o) (b:Below w.heap.size w w'):w'.heap[g]? =some o:=
 (b.block g (by obtain⟨a,_⟩:=Array.getElem?_eq_some_iff.1 h;exact a)).trans h
theorem iD (w:World) (o:Obj):Below w.heap.size w (w.alloc o):=(Below.refl _ _).alloc (lg _) o
end
section
variable {P:Program} {ops:Array Oper} {Q:Exit→Act→World→Prop} {l n:Nat}
theorem calls_in {m:Nat} {f:FuncId} {args:Array Value} {w:World} {R:Ending→World→Prop} (h:Calls P f args w R):CallsIn (Fence.wide.inRound l) m P f args w R:=(callsIn_wide (n:=m)).2 h
theorem oper_in {o:Oper} {a:Act} {w:World} {K:Act→World→Prop} (b: ∀c,o.op≠.defer c) (h:o.wp P a w K Q):o.wpIn (Fence.wide.inRound l) n P a w K Q:=by
 unfold Oper.wpIn;refine⟨fun _ _=>trivial,?_⟩;rw[show(Fence.wide.inRound l).round=some l from rfl,Oper.semAt_some l _ o b];unfold Oper.wp at h;generalize (execOp a.eval o).run P w=r at*
 cases r with
 |ok x w'=>
  cases x with
  |value v=>exact h
  |skip=>exact h
  |defer d=>exact h
  |enter f args=>exact⟨(fun h=>by cases h),calls_in h⟩
  |row r args=>exact⟨(fun h=>by cases h),fun c e _=>by obtain⟨v,w',r,s⟩:=h c e;exact⟨v,w',r,stepsIn_wide.2 s⟩⟩
  |_=>exact h.elim
 |halt x w'=>cases x<;>exact h
def XN (ops:Array Oper):Bool:=ops.all fun o=>match o.op with| .defer _=>false|_=>true
theorem O5 (h:XN ops=true) (i:Nat) (o:Oper) (a:ops[i]? =some o): ∀c,o.op≠.defer c:=by
 intro c b;have:=(Array.all_eq_true_iff_forall_mem.1 h) o (abT a);rw[b] at this
 cases this
theorem JF {id:Nat} {a:Act} {w:World} (hm:P.follows .mixedOrders=true) (hd:zx a.tmps.size ops.toList=true) (hb:backward ops=true) (hnd: ∀(i:Nat) (o:Oper),ops[i]? =some o→ ∀c,o.op≠.defer c)
  (keep:List Nat) (F:Nat→Value→World→Prop) (G:Nat→World→Prop) (J:World→Prop) (hJ:J {w with drawn:=w.drawn+1}) (hG0: ∀i,G i {w with drawn:=w.drawn+1})
  (T: ∀i,i<ops.size→ ∀(o:Oper),ops[i]? =some o→ ∀(E:Act) (w':World) (val:Nat→Value),J w'→G i w'→E.tmps.size=a.tmps.size→E.defers=a.defers→
   (∀t,(ops.toList.all fun o=>o.dst != some t)=true→E.tmps[t]? =a.tmps[t]?)→
   (∀j d,takes ops i j=true→((ops[j]?).bind (·.dst))=some d→E.tmps[d]? =some (val j)∧F j (val j) w')→
   ∀K:Act→World→Prop,(∀v y,F i v y→J y→(∀j u,j≠i→live ops keep i j=true→F j u w'→F j u y)→(∀j,j≠i→waitsFor ops i j=false→G j w'→G j y)→K (E.put o.dst v) y)→if Region.wanted o (yielded ops E.tmps)=true then o.wp P E w' K Q else K (E.put o.dst undef) w')
  (W: ∀(val:Nat→Value) (w':World),J w'→(∀i∈keep,i<ops.size→F i (val i) w')→Q .normal (dX val (fun _=>true) ops.toList 0 a) w'):
  (Code.region id ops true).wpIn (Fence.wide.inRound l) n P Q a w:=by
 refine wpIn_region_any hm ?_;have key: ∀(fuel:Nat) (b:Array Bool) (val:Nat→Value) (w':World),b.size=ops.size→open_ ops b≤fuel→J w'→(∀i,i<ops.size→b.getD i false=false→G i w')→
   (∀i,i<ops.size→b.getD i false=true→(i∈keep∨ ∃k,k<ops.size∧b.getD k false=false∧takes ops k i=true)→F i (val i) w')→wpAnyIn (Fence.wide.inRound l) n P .any ops Q fuel b (dX val (fun i=>b.getD i false) ops.toList 0 a) w':=by
  intro fuel;have Z: ∀(b:Array Bool) (val:Nat→Value) (w':World),b.size=ops.size→J w'→(∀i,i<ops.size→b.getD i false=true→(i∈keep∨ ∃k,k<ops.size∧b.getD k false=false∧takes ops k i=true)→F i (val i) w')→
    Region.ready .any ops b=[]→Q .normal (dX val (fun i=>b.getD i false) ops.toList 0 a) w':=by
   intro b val w' N q M hr;have hall:=ready_nil hb b N hr;have A: ∀i,i<ops.size→b.getD i false=true:=fun i H=>by
    have:=hall i H;have U:i<b.size:=by omega
    simp only[z8,Ao U,yT] at this⊢;exact this
   rw[jo val val _ (fun _=>true) ops.toList 0 a fun i _ h2=>⟨A i (by simpa using h2),fun _=>rfl⟩];exact W val w' q fun i S H=>M i H (A i H) (.inl S)
  induction fuel with
  |zero=>
   intro b val w' N ho q hG M;have hr:Region.ready .any ops b=[]:=by rw[acD];intro i H;obtain⟨h0,o,m,_⟩:=mem_ready.1 H;have r:i<ops.size:=(Array.getElem?_eq_some_iff.1 m).1;have:=Rb b i N r h0;omega
   exact⟨hr,Z b val w' N q M hr⟩
  |succ fuel ih=>
   intro b val w' N ho q hG M;refine⟨Z b val w' N q M,fun i H=>?_⟩;obtain⟨h0,o,m,p⟩:=mem_ready.1 H;have r:i<ops.size:=(Array.getElem?_eq_some_iff.1 m).1;have U:i<b.size:=by omega
   have O:b.getD i false=false:=by simp only[z8,Ao U,yT] at h0⊢;exact h0
   have hol:ops.toList[i-0]? =some o:=by simpa using m
   unfold wpOpIn;rw[m];simp only;have st:=T i r o m (dX val (fun i=>b.getD i false) ops.toList 0 a) w' val q (hG i r O) ?_ (yN _ _ _ _ _) (fun t ht=>uD _ _ t _ _ _ ht) ?_
    (fun E w'=>wpAnyIn (Fence.wide.inRound l) n P .any ops Q fuel (b.setIfInBounds i true) E w') ?_
   ·split
    ·rename_i s;rw[if_pos s] at st;exact oper_in (hnd i o m) st
    rename_i s;rw[if_neg s] at st;exact⟨fun _ _=>trivial,st⟩
   ·
    have: ∀(l:List Oper) (k:Nat) (a:Act),(dX val (fun i=>b.getD i false) l k a).tmps.size=a.tmps.size:=by
     intro l;induction l with
     |nil=>intro _ _;rfl
     |cons o l ih2=>intro k a;simp only[dX];rw[ih2];split;exact Ra _ _ _;rfl
    exact this _ _ _
   ·intro j d s B
    have hw0:=s;unfold takes at s;rw[m] at s;simp only at s;rw[Mt] at s;obtain⟨e,R,s⟩:=s;simp only[bC,iM] at s;obtain⟨x,rfl⟩:=s;replace R:e∈o.after:=by simpa using R
    replace x:Region.binds .any e=true:=by unfold Region.binds;cases hge:e.ground<;>simp_all
    have g:=p e R x
    cases L:ops[e.on]? with
    |none=>rw[L] at B;simp at B
    |some oj=>rw[L] at B;simp only[Option.bind_some] at B;have hej:e.on<ops.size:=(Array.getElem?_eq_some_iff.1 L).1;exact⟨EO val _ e.on d ops.toList 0 a oj hd (JS _) (by simpa using L) B g,M e.on hej g (.inr ⟨i,r,O,hw0⟩)⟩
   intro v y hFv X D I;rw[EN a.tmps.size val _ i v ops.toList 0 a o hd (JS _) hol O];have hsz:(b.setIfInBounds i true).size=ops.size:=by simpa using N
   have e:dX (fun j=>if j=i then v else val j) (fun j=>if j=i then true else b.getD j false) ops.toList 0 a=dX (fun j=>if j=i then v else val j) (fun j=>(b.setIfInBounds i true).getD j false) ops.toList 0 a:=
    jo _ _ _ _ _ _ _ fun j _ _=>by
     by_cases z:j=i
     ·subst z;simp[U]
     rw[getD_set_ne false (fun h=>z h.symm)];simp[z]
   rw[e];refine ih _ _ _ hsz ?_ X ?_ ?_
   ·have:=Rb b i N r h0;omega
   ·intro j hj g
    have z:j≠i:=fun e=>by subst e;simp[U] at g
    rw[getD_set_ne false (fun h=>z h.symm)] at g;refine I j z ?_ (hG j hj g)
    cases f:waitsFor ops i j with
    |false=>rfl
    |true=>
     unfold waitsFor at f;rw[m] at f;simp only at f;rw[←Array.any_toList,Mt] at f;obtain⟨e,R,f⟩:=f;simp only[bC,iM] at f;obtain⟨x,rfl⟩:=f;rw[p e (by simpa using R) x] at g
     cases g
   intro j hj g Y;by_cases z:j=i
   ·subst z;simpa using hFv
   rw[getD_set_ne false (fun h=>z h.symm)] at g;simp only[if_neg z];rcases Y with S|⟨k,S,C,hkt⟩
   ·exact D j _ z (by unfold live;simp[S]) (M j hj g (.inl S))
   have V:k≠i:=fun e=>by subst e;simp[U] at C
   rw[getD_set_ne false (fun h=>V h.symm)] at C;refine D j _ z ?_ (M j hj g (.inr ⟨k,S,C,hkt⟩));unfold live;rw[JR,Mt];refine .inr ⟨k,by simpa using S,?_⟩;simp only[bC,acM,ne_eq,ac2];refine⟨⟨V,hkt⟩,?_⟩
   cases f:waitsFor ops i k with
   |false=>rfl
   |true=>
    unfold waitsFor at f;rw[m] at f;simp only at f;rw[←Array.any_toList,Mt] at f;obtain⟨e,R,f⟩:=f;simp only[bC,iM] at f;obtain⟨x,rfl⟩:=f;rw[p e (by simpa using R) x] at C
    cases C
 have:=key ops.size (Array.replicate ops.size false) (fun _=>undef) {w with drawn:=w.drawn+1} (by simp) (by unfold open_;exact Cr acE (by simp)) hJ (fun i _ _=>hG0 i) (fun i H h _=>by simp[H] at h);rw[jo _ (fun _=>undef) _ (fun _=>false) ops.toList 0 a (fun i _ h2=>⟨by simp[aba];split<;>rfl,fun _=>rfl⟩)] at this;have e0: ∀(l:List Oper) (k:Nat) (a:Act),dX (fun _=>undef) (fun _=>false) l k a=a:=by
  intro l;induction l with
  |nil=>intro _ _;rfl
  |cons o l ih=>intro k a;simp only[dX];exact ih _ _
 rw[e0] at this;exact this
def StepIn (P:Program) (ops:Array Oper) (Q:Exit→Act→World→Prop) (a:Act) (keep:List Nat) (F:Nat→Value→World→Prop) (G:Nat→World→Prop) (J:World→Prop) (i:Nat) (o:Oper):Prop:=
 ∀(c:Act) (w':World),J w'→G i w'→c.tmps.size=a.tmps.size→c.defers=a.defers→lF ops.toList a c o.op.operands.toList→pR ops F c w' o.after.toList→
  ∀K:Act→World→Prop,(∀v b,F i v b→J b→(∀j u,j≠i→live ops keep i j=true→F j u w'→F j u b)→(∀j,j≠i→waitsFor ops i j=false→G j w'→G j b)→K (c.put o.dst v) b)→
   if Region.wanted o (yielded ops c.tmps)=true then o.wp P c w' K Q else K (c.put o.dst undef) w'
def Om (P:Program) (ops:Array Oper) (Q:Exit→Act→World→Prop) (a:Act) (keep:List Nat) (F:Nat→Value→World→Prop) (G:Nat→World→Prop) (J:World→Prop):List Oper→Nat→Prop
 |[],_=>True
 |o::l,k=>StepIn P ops Q a keep F G J k o∧Om P ops Q a keep F G J l (k+1)
theorem EP {a:Act} {keep:List Nat} {F:Nat→Value→World→Prop} {G:Nat→World→Prop} {J:World→Prop}: ∀(l:List Oper) (k:Nat),Om P ops Q a keep F G J l k→ ∀i o,l[i]? =some o→StepIn P ops Q a keep F G J (k+i) o
 |[],_,_,_,_,h=>by simp at h
 |o'::l,k,h,0,o,b=>by simp only[O8,aR] at b;subst b;exact h.1
 |o'::l,k,h,i+1,o,b=>by have:=EP l (k+1) h.2 i o (by simpa using b);rwa [show k+1+i=k+(i+1) by omega] at this
theorem Fv {id:Nat} {a:Act} {w:World} (T:P.follows .mixedOrders=true) (j:zx a.tmps.size ops.toList=true) (H:backward ops=true) (s:XN ops=true)
  (keep:List Nat) (L:(keep.all fun i=>decide (i<ops.size))=true) (F:Nat→Value→World→Prop) (G:Nat→World→Prop) (J:World→Prop) (O:J w.drew) (R: ∀i,G i w.drew)
  (c:Om P ops Q a keep F G J ops.toList 0)
  (g: ∀(val:Nat→Value) (w':World),J w'→DL F val w' keep→Q .normal (dX val (fun _=>true) ops.toList 0 a) w'):
  (Code.region id ops true).wpIn (Fence.wide.inRound l) n P Q a w:=by
 refine JF T j H (O5 s) keep F G J O R ?_ fun val w' M E=>g val w' M (Ci _ fun i u=>E i u (by have:=List.all_eq_true.1 L i u;simpa using this))
 intro i u o B A w' val p y r q m b K N;have D:=EP ops.toList 0 c i o (by simpa using B);rw[S8] at D;refine D A w' p y r q ?_ ?_ K N
 ·generalize o.op.operands.toList=f
  induction f with
  |nil=>trivial
  |cons x z k=>
   cases x with
   |tmp t=>exact⟨fun h v U=>Slot.mk ((m t h).trans U),k⟩
   |_=>exact k
 have: ∀f:List Edge,(∀e∈f,e∈o.after)→pR ops F A w' f:=by
  intro f;induction f with
  |nil=>intro _;trivial
  |cons e z k=>
   intro C;refine⟨fun I d j=>⟨val e.on,Slot.mk (b e.on d ?_ j).1,(b e.on d ?_ j).2⟩,k fun x S=>C x (by simp[S])⟩;all_goals
    unfold takes;rw[B];simp only;rw[Mt];exact⟨e,by simpa using C e (by simp),by rw[I];simp⟩
 exact this _ fun e V=>by simpa using V
end
variable {F:Fence} {n:Nat} {P:Program}
def Mi (Bs:Nat) {α:Type} (Ok:α→Prop) (F:Fence) (n:Nat) (P:Program) (g:Nat) (lb:Array Value) (b:α→Array Value) (Kp:World→World→Prop) (S Sp:List α→Prop) (N:Nat) (w:World):Prop:=
 ∀(l:Nat) (J Jx:List α→World→Prop) (W:World),Below w.heap.size w W→AbidesFrom W.heap.size J→AbidesFrom W.heap.size Jx→(∀s W1 v,J s W1→J s (W1.setCell ⟨Bs,0,none⟩ v))→
  (∀a x W1,J a W1→a.length<N→Ok x→YieldAt F (n-1) P l (b x) W1 fun e W'=>
   (e=.returned (.bool true)∧J (a++[x]) W'∧Kp W1 W')∨(e=.returned (.bool false)∧Jx (a++[x]) W'))→
  J [] W→
  CallsIn F n P g (#[.func (.yield l) #[] #[]]++lb) W fun e W'=>(∃v,e=.returned v)∧((∃xs,S xs∧J xs W')∨(∃a,Sp a∧Jx a W'))
theorem DW {α:Type} {g:Operand} {ps:Array Tmp} {assign body:Code} {Q:Exit→Act→World→Prop} {a:Act} {w:World}
  (hro:F.round=none) (h1:1≤n) {gf Bs:Nat} {Ok:α→Prop} {lb:Array Value} (hg:a.eval g=.func (.func gf) #[] lb) (hFg:F.fn gf) (eg: ∀args w,(callFunc gf args).run P w=.ok (.enter gf args) w)
  {encs:α→Array Value} {Kp:World→World→Prop} {S Sp:List α→Prop} {N:Nat} {w0:World} (hseq:Mi Bs Ok F (n-1) P gf lb encs Kp S Sp N w0)
  (hKt: ∀{A B C:World},Kp A B→Kp B C→Kp A C) (hKb: ∀(W:World) (l:Nat) (o o':Obj),w.heap.size≤l→W.heap[l]? =some o→o.isCells=false→o.isWalk=false→Kp W (W.putObj l o')) (hb0:Below w0.heap.size w0 w) (hps: ∀x,(encs x).size=ps.size)
  (hBs:Bs<w.heap.size) (I:List α→World→Prop) (Ix:Code→List α→World→Prop) (hI:OwnFrom w.heap.size I) (hIx: ∀c,OwnFrom w.heap.size (Ix c)) (hIs: ∀s W v,I s W→I s (W.setCell ⟨Bs,0,none⟩ v)) (h0:I [] w) (a₁:α→Act)
  (hassign: ∀(l:Nat) (x:α) (W:World) (K:Act→World→Prop),K (a₁ x) W→
   assign.wpIn (F.inRound l) (n-1-1) P (Exit.then K (fun _ _ _=>False)) {tmps:=(ps.zip (encs x)).foldl (fun t (p,v)=>t.setIfInBounds p v) a.tmps,defers:=[]} W)
  (hbody: ∀(l:Nat) (pre:List α) (x:α) (W:World),I pre W→pre.length<N→Ok x→body.wpIn (F.inRound l) (n-1-1) P (ownPostK Kp I Ix (pre++[x]) W) (a₁ x) W)
  (hdone: ∀(D:Nat) (xs:List α) (W:World),w.heap.size≤D→S xs→I xs W→W.heap[D]? =some (.deferred (some []))→Q .normal {a with defers:={target:=.collected D,args:= #[]}::a.defers} W)
  (hstop: ∀(D:Nat) (c:Code) (pre:List α) (W:World),w.heap.size≤D→Sp pre→Ix c pre W→W.heap[D]? =some (.deferred (some []))→c.wpIn F n P Q {a with defers:={target:=.collected D,args:= #[]}::a.defers} W):
  (Code.rangeFunc g ps assign body).wpIn F n P Q a w:=by
 refine wpIn_rangeFunc ?_;intro fn hfn;rw[hro];obtain⟨rec,hrec⟩: ∃rec:LoopState→Option Code→Loop,rec=fun st pe=>{state:=st,pending:=pe,fn,tmps:=a.tmps,params:=ps,assign,body,defers:=w.heap.size}:=⟨_,rfl⟩
 obtain⟨W1,hW1⟩: ∃W1,(w.alloc (.deferred (some []))).alloc (.loop (rec .ready none))=W1:=⟨_,rfl⟩
 have hL1:W1.heap[w.heap.size+1]? =some (.loop (rec .ready none)):=by
  rw[←hW1];have:=World.alloc_heap_new (w.alloc (.deferred (some []))) (.loop (rec .ready none));rwa [World.size_alloc] at this
 have hK1:W1.heap[w.heap.size]? =some (.deferred (some [])):=by
  rw[←hW1];exact(Below.heap_alloc _ _ _ (by simp)).trans (World.alloc_heap_new w _)
 have hI1:I [] W1:=by rw[←hW1];exact hI.alloc _ (hI.alloc _ h0)
 have hb1:Below w0.heap.size w0 W1:=by
  rw[←hW1];exact hb0.trans ((((Below.refl _ w).alloc (lg _) _).alloc (by simp) _).mono hb0.size)
 refine⟨w.heap.size+1,[{target:=.collected w.heap.size,args:= #[]}],W1,{target:=.fn (.func gf) lb,args:= #[.func (.yield (w.heap.size+1)) #[] #[]]},W1,gf,
  #[.func (.yield (w.heap.size+1)) #[] #[]]++lb,W1,?_,?_,?_,?_,fun _=>h1,?_⟩
 ·rw[←hW1,hrec];exact run_enterLoop_outer _ _ _ _ _
 ·simp only[resolve,hg]
  simp[go_sem]
 ·intro f' hf';simp[Target.leads] at hf';subst hf';exact hFg
 ·simp[invoke,go_sem,eg]
 ·
  have hnw: ∀{A B:World} {row:Option Nat},(∀r,row=some r→W1.heap.size≤r∧ ∃o:Obj,A.heap[r]? =some o∧o.isWalk=true)→(∀r,row=some r→w.heap.size≤r∧ ∃o:Obj,A.heap[r]? =some o∧o.isCells=false):=
   fun hr r e=>by obtain⟨hB,o,ho,hw⟩:=hr r e;exact⟨by rw[←hW1] at hB;simp at hB;omega,o,ho,Obj.not_cells_of_walk hw⟩
  refine(hseq (w.heap.size+1)
   (fun pre W=>I pre W∧W.heap[w.heap.size+1]? =some (.loop (rec .ready none))∧W.heap[w.heap.size]? =some (.deferred (some [])))
   (fun pre W=>∃c,Ix c pre W∧W.heap[w.heap.size+1]? =some (.loop (rec .done (some c)))∧W.heap[w.heap.size]? =some (.deferred (some [])))
   W1 hb1
   (fun s A B row hs hg' hr=>⟨hI s A B row hs.1 hg' (hnw (B:=B) hr),(grownBy_keeps hg' (fun r e=>(hr r e).2) hs.2.1 rfl).trans hs.2.1,(grownBy_keeps hg' (fun r e=>(hr r e).2) hs.2.2 rfl).trans hs.2.2⟩)
   (fun s A B row hs hg' hr=>by
    obtain⟨c,hc,hl,hk⟩:=hs;exact⟨c,hIx c s A B row hc hg' (hnw (B:=B) hr),(grownBy_keeps hg' (fun r e=>(hr r e).2) hl rfl).trans hl,(grownBy_keeps hg' (fun r e=>(hr r e).2) hk rfl).trans hk⟩)
   (fun s A v hs=>⟨hIs s A v hs.1,((grownBy_setCell' A Bs v).block _ (Array.getElem?_eq_some_iff.1 hs.2.1).1 (fun e=>by cases e;omega)).trans hs.2.1,((grownBy_setCell' A Bs v).block _ (Array.getElem?_eq_some_iff.1 hs.2.2).1 (fun e=>by cases e;omega)).trans hs.2.2⟩)
   ?_ ⟨hI1,hL1,hK1⟩).mono ?_
  ·
   rintro pre x W ⟨hi,hl,hk⟩ hlen hok;have hlt:w.heap.size+1<W.heap.size:=(Array.getElem?_eq_some_iff.1 hl).1;have hy:=run_yield (P:=P) (args:=encs x) hl (by rw[hrec];exact hps x);rw[hrec] at hy;refine⟨fn,_,assign,body,hy,roundIn_of_wpIn hfn (hassign _ x W _ ⟨_,run_beginRound hl (by rw[hrec]),?_⟩)⟩;have hl2:(W.putObj (w.heap.size+1) (.loop {rec .ready none with state:=.busy})).heap[w.heap.size+1]? =some (.loop {rec .ready none with state:=.busy}):=World.putObj_heap_same hlt;have hk2:(W.putObj (w.heap.size+1) (.loop {rec .ready none with state:=.busy})).heap[w.heap.size]? =some (.deferred (some [])):=(World.putObj_heap_other (by omega)).trans hk;have hw2:Kp W (W.putObj (w.heap.size+1) (.loop {rec .ready none with state:=.busy})):=hKb _ _ _ _ (by omega) hl rfl rfl;refine wpIn_mono (hbody _ pre x _ (hI.putObj _ hi (by omega) hl rfl) hlen hok) ?_;have fin: ∀(jump:Option Code) (W3:World),KeepsOthers (W.putObj (w.heap.size+1) (.loop {rec .ready none with state:=.busy})) W3→
     (Instr.endRound (w.heap.size+1) jump).run P W3=.ok (.bool jump.isNone) (W3.putObj (w.heap.size+1) (.loop (rec (if jump.isNone then .ready else .done) jump)))∧
     W3.heap[w.heap.size+1]? =some (.loop {rec .ready none with state:=.busy})∧
     (W3.putObj (w.heap.size+1) (.loop (rec (if jump.isNone then .ready else .done) jump))).heap[w.heap.size+1]? =some (.loop (rec (if jump.isNone then .ready else .done) jump))∧
     (W3.putObj (w.heap.size+1) (.loop (rec (if jump.isNone then .ready else .done) jump))).heap[w.heap.size]? =some (.deferred (some [])):=fun jump W3 hk3=>by
    have hl3:=hk3.same _ _ hl2 rfl;have:=run_endRound (P:=P) jump hl3;rw[hrec] at this⊢;exact⟨this,by rw[hrec] at hl3;exact hl3,World.putObj_heap_same (Array.getElem?_eq_some_iff.1 hl3).1,(World.putObj_heap_other (by omega)).trans (hk3.same _ _ hk2 rfl)⟩
   rintro e a3 W3 hp
   cases e with
   |normal=>
    obtain⟨hk3,hkp3,hi3⟩:=hp;obtain⟨hr,hl3,hl4,hk4⟩:=fin none W3 hk3;exact⟨_,_,hr,.inl ⟨rfl,⟨hI.putObj _ hi3 (by omega) hl3 rfl,hl4,hk4⟩,hKt (hKt hw2 hkp3) (hKb _ _ _ _ (by omega) hl3 rfl rfl)⟩⟩
   |ret=>
    obtain⟨hk3,hi3⟩:=hp;obtain⟨hr,hl3,hl4,hk4⟩:=fin (some .ret) W3 hk3;exact⟨_,_,hr,.inr ⟨rfl,.ret,(hIx _).putObj _ hi3 (by omega) hl3 rfl,hl4,hk4⟩⟩
   |exit id=>
    obtain⟨hk3,hi3⟩:=hp;obtain⟨hr,hl3,hl4,hk4⟩:=fin (some (.exit id)) W3 hk3;exact⟨_,_,hr,.inr ⟨rfl,.exit id,(hIx _).putObj _ hi3 (by omega) hl3 rfl,hl4,hk4⟩⟩
   |goto t=>
    obtain⟨hk3,hi3⟩:=hp;obtain⟨hr,hl3,hl4,hk4⟩:=fin (some (.goto t)) W3 hk3;exact⟨_,_,hr,.inr ⟨rfl,.goto t,(hIx _).putObj _ hi3 (by omega) hl3 rfl,hl4,hk4⟩⟩
   |panic ch=>exact hp.elim
   |outgrown=>exact hp.elim
  ·
   rintro e W2 ⟨⟨v,rfl⟩,(⟨xs,hS,hi,hl,hk⟩|⟨pre,hSp,c,hi,hl,hk⟩)⟩
   ·exact⟨none,_,by have:=run_endLoop (P:=P) hl (by rw[hrec];simp);rw[hrec] at this;exact this,hdone _ xs _ (lg _) hS (hI.putObj _ hi (by omega) hl rfl) ((World.putObj_heap_other (by omega)).trans hk)⟩
   ·exact⟨some c,_,by have:=run_endLoop (P:=P) hl (by rw[hrec];simp);rw[hrec] at this;exact this,hstop _ c pre _ (lg _) hSp ((hIx c).putObj _ hi (by omega) hl rfl) ((World.putObj_heap_other (by omega)).trans hk)⟩
end Nt
namespace Nt.Lin
open Go Nt.Ev
def tK:af→af→List (af)
 |[],a=>match a with|[]=>[]|_=>[a]
 |c::t,a=>bif c==10 then a::tK t [] else tK t (a++[c])
def Gs (s:af):List (af):=tK s []
def eP (s:af):af:=s.takeWhile fun c=>c != 10
def eU (s:af):af:=s.drop ((eP s).length+1)
def lnF:Nat→af→List (af)
 |0,_=>[]
 |n+1,s=>match s with
  |[]=>[]
  |_=>bif s.contains 10 then(eP s++[10])::lnF n (eU s) else[s]
def Pp (s:af):List (af):=lnF (s.length+1) s
def lU (s:af):af:=Go.Lib.trimSuffix s [10]
theorem qU: ∀s:af,s.contains 10=true→s=eP s++10::eU s∧(eP s).contains 10=false
 |[],h=>by cases h
 |c::t,h=>by
  cases f:c != 10 with
  |false=>
   have e:c=10:=by simpa using f
   subst e;have d:eP (10::t)=[]:=by unfold eP;rw[abg,f];rfl
   unfold eU;rw[d];exact⟨rfl,rfl⟩
  |true=>
   have d:eP (c::t)=c::eP t:=by unfold eP;rw[abg,f];rfl
   have j:eU (c::t)=eU t:=by unfold eU;rw[d];rfl
   have g:c≠10:=by simpa using f
   have i:t.contains 10=true:=by
    rw[Yw] at h;have:((10:UInt8)==c)=false:=by rw[uE];exact fun e=>g e.symm
    rwa [this,abS] at h
   obtain⟨a,b⟩:=qU t i;rw[d,j];refine⟨by rw[Py,←a],?_⟩;rw[Yw,b];have:((10:UInt8)==c)=false:=by rw[uE];exact fun e=>g e.symm
   rw[this];rfl
theorem sQ (s:af) (h:s.contains 10=true):(eU s).length+(eP s).length+1=s.length:=by have:=congrArg List.length (qU s h).1;rw[iH,fI] at this;omega
theorem Rc: ∀(n m:Nat) (s:af),s.length<n→s.length<m→lnF n s=lnF m s
 |0,_,s,h,_=>by omega
 |n+1,0,s,_,h=>by omega
 |n+1,m+1,s,d,b=>by
  cases s with
  |nil=>rfl
  |cons c t=>
   unfold lnF
   cases a:(c::t).contains 10 with
   |false=>rfl
   |true=>have:=sQ _ a;simp only[lm];rw[Rc n m (eU (c::t)) (by omega) (by omega)]
theorem XO:Pp []=[]:=rfl
theorem wm {s:af} (h:s.contains 10=true):Pp s=(eP s++[10])::Pp (eU s):=by
 have a:=sQ s h
 cases s with
 |nil=>cases h
 |cons c t=>unfold Pp;show(bif (c::t).contains 10 then(eP (c::t)++[10])::lnF (c::t).length (eU (c::t)) else[c::t])=_;rw[h,lm,Rc (c::t).length ((eU (c::t)).length+1) _ (by omega) (by omega)]
theorem wo {s:af} (h:s.contains 10=false) (a:s≠[]):Pp s=[s]:=by
 cases s with
 |nil=>exact absurd rfl a
 |cons c t=>unfold Pp;show(bif (c::t).contains 10 then(eP (c::t)++[10])::lnF (c::t).length (eU (c::t)) else[c::t])=_;rw[h,jW]
theorem ad5 (a:af):lU (a++[10])=a:=by
 unfold lU Go.Lib.trimSuffix Go.Lib.hasSuffix;have h:([10]:af).isSuffixOf (a++[10])=true:=by rw[List.isSuffixOf_iff_suffix];exact List.suffix_append a [10]
 rw[if_pos h];simp
theorem ad6 {a:af} (h:a.contains 10=false):lU a=a:=by
 unfold lU Go.Lib.trimSuffix Go.Lib.hasSuffix;have b: ¬([10]:af).isSuffixOf a=true:=by rw[List.isSuffixOf_iff_suffix];rintro⟨t,rfl⟩;rw[List.contains_append] at h;simp at h
 rw[if_neg b]
theorem zZ: ∀(a b d:af),a.contains 10=false→tK (a++10::b) d=(d++a)::tK b []
 |[],b,d,_=>by show(bif (10:UInt8)==10 then d::tK b [] else _)=_;rw[JQ];rfl
 |c::a,b,d,h=>by
  rw[Yw,EY] at h;have f:(c==10)=false:=by rw[uE];intro e;rw[e] at h;exact absurd h.1 (by decide)
  show(bif c==10 then d::tK (a++10::b) [] else tK (a++10::b) (d++[c]))=_;rw[f,jW,zZ a b (d++[c]) h.2,DX];rfl
theorem Mj: ∀(a b:af),a.contains 10=false→tK a b=match b++a with|[]=>[]|l=>[l]
 |[],b,_=>by rw[JQ];unfold tK;cases b<;>rfl
 |c::a,b,h=>by
  rw[Yw,EY] at h;have d:(c==10)=false:=by rw[uE];intro e;rw[e] at h;exact absurd h.1 (by decide)
  show(bif c==10 then b::tK a [] else tK a (b++[c]))=_;rw[d,jW,Mj a (b++[c]) h.2,DX];rfl
theorem Ur: ∀(n:Nat) (s:af),s.length<n→Gs s=(Pp s).map lU
 |0,s,h=>by omega
 |n+1,s,h=>by
  cases a:s.contains 10 with
  |true=>have e:=sQ s a;obtain⟨b,d⟩:=qU s a;rw[wm a,qA,ad5,←Ur n (eU s) (by omega)];unfold Gs;have:=zZ (eP s) (eU s) [] d;rw[←b,Fx] at this;exact this
  |false=>
   cases s with
   |nil=>rfl
   |cons c t=>rw[wo a (by simp),qA,List.map_nil,ad6 a];exact Mj (c::t) [] a
theorem Us: ∀(n:Nat) (s:af),s.length<n→(Pp s).length≤s.length
 |0,s,h=>by omega
 |n+1,s,h=>by
  cases a:s.contains 10 with
  |true=>have b:=sQ s a;rw[wm a,fI];have:=Us n (eU s) (by omega);omega
  |false=>
   cases s with
   |nil=>exact lg _
   |cons c t=>rw[wo a (by simp),fI,fI,qz];omega
theorem Iz: ∀(t:af),Go.Lib.indexByte t 10=if t.contains 10=true then((eP t).length:Int) else -1
 |[]=>rfl
 |c::t=>by
  have e:Go.Lib.indexByte (c::t) 10=if c==10 then 0 else if Go.Lib.indexByte t 10== -1 then -1 else Go.Lib.indexByte t 10+1:=rfl
  rw[e,Iz t]
  cases b:c==10 with
  |true=>
   have e:c=10:=by simpa using b
   subst e;have a:eP (10::t)=[]:=rfl;rw[a,if_pos rfl,Yw];simp
  |false=>
   have d:c≠10:=by simpa using b
   have g:(c != 10)=true:=by simpa using d
   have a:eP (c::t)=c::eP t:=by unfold eP;rw[abg,g];rfl
   have i:(c::t).contains 10=t.contains 10:=by
    rw[Yw];have:((10:UInt8)==c)=false:=by rw[uE];exact fun e=>d e.symm
    rw[this,abS]
   rw[a,i]
   cases h:t.contains 10 with
   |true=>
    have f:((((eP t).length:Nat):Int)== -1)=false:=by rw[uE];omega
    simp only[if_true,f,fI];simp
   |false=>simp
theorem VF (s:af) (h:s.contains 10=true):s.take ((eP s).length+1)=eP s++[10]:=by
 conv=>lhs;arg 2;rw[(qU s h).1]
 rw[show eP s++10::eU s=(eP s++[10])++eU s by simp];exact List.take_left' (by simp)
end Nt.Lin
namespace Go.Proofs.YtknhlobahpgkeaaGreatDoor
open Go Go.RowKit Go.Shelf Nt Nt.Lin
attribute [local go_sem] Oper.semAt_some
theorem lines_fn (s:ByteArray) (w:World):
  CallsIn Fence.wide 9 Tryz.prog 41 #[.string s] w fun e w'=>e=.returned (.func (.func 67) #[] #[.pointer (some ⟨w.heap.size,0,none⟩)])∧w'=w.alloc (.cells #[.string s] 9):=by
 refine callsIn_of_wp Tryz.func41 rfl trivial ?_ rfl;simp only[Tryz.ntmps41,abo,fI,qz,Nat.reduceAdd,Nat.reduceSub,Array.replicate_succ,Array.replicate_zero,List.push_toArray,List.append_toArray,Fx,Py];gi_wp2;go_ret
 exact⟨rfl,rfl⟩
def leftB (Bs:Nat) (W:World):Nat:=match W.cell? ⟨Bs,0,none⟩ with|some (.string s)=>s.size|_=>0
theorem FR {Bs:Nat} {W:World} {l:af} (h:W.heap[Bs]? =some (.cells #[Value.string ⟨l.toArray⟩] 9 (0,0))):leftB Bs W=l.length:=by
 unfold leftB;have:W.cell? ⟨Bs,0,none⟩=some (.string ⟨l.toArray⟩):=by simp[World.cell?,h]
 rw[this];simp[ByteArray.size]
set_option maxRecDepth 100000 in
set_option maxHeartbeats 1000000 in
theorem ad7 (l Bs:Nat) (src:af) (hsrc:src.length≤4000000000) (J Jx:List (af)→World→Prop)
  (hJs: ∀s W1 v,J s W1→J s (W1.setCell ⟨Bs,0,none⟩ v))
  (hJd: ∀s W1,J s W1→J s W1.drew)
  (hY: ∀pre x W,J pre W→pre.length<(Pp src).length→x.length≤4000000000→YieldAt Fence.wide 8 Tryz.prog l #[Value.string ⟨(x).toArray⟩] W fun e W'=>
   (e=.returned (.bool true)∧J (pre++[x]) W'∧W'.heap[Bs]? =W.heap[Bs]?)∨(e=.returned (.bool false)∧Jx (pre++[x]) W'))
  (W:World) (hBs:W.heap[Bs]? =some (.cells #[Value.string ⟨(src).toArray⟩] 9 (0,0))) (h0:J [] W):
  CallsIn Fence.wide 9 Tryz.prog 67 #[.func (.yield l) #[] #[],.pointer (some ⟨Bs,0,none⟩)] W fun e W'=>(∃v,e=.returned v)∧
   ((∃ys,ys=Pp src∧J ys W')∨(∃pre,pre<+:Pp src∧Jx pre W')):=by
 refine callsIn_of_wp Tryz.func67 rfl trivial ?_ rfl;simp only[Tryz.ntmps67,abo,fI,qz,Nat.reduceAdd,Nat.reduceSub,Array.replicate_succ,Array.replicate_zero,List.push_toArray,List.append_toArray,Fx,Py];gi_wp2;gi_loopw [] (fun wr=>∃(pre:List (af)) (rest:af),wr.heap[Bs]? =some (.cells #[Value.string ⟨(rest).toArray⟩] 9 (0,0))∧Pp src=pre++Pp rest∧rest.length≤4000000000∧J pre wr)
  (fun wr=>leftB Bs wr)
 case atStart=>exact⟨[],src,hBs,rfl,hsrc,h0⟩
 case round=>
  obtain⟨pre,rest,hB,hx,hrl,hJ⟩:=hrel;have hcell:wr.cell? ⟨Bs,0,none⟩=some (Value.string ⟨(rest).toArray⟩):=by simp[World.cell?,hB]
  have hfr:wr.frozen? ⟨Bs,0,none⟩=false:=by simp[World.frozen?,hB]
  cases rest with
  |nil=>
   gi_wp2
   go_end0
   exact⟨⟨_,rfl⟩,.inl ⟨pre,by rw[hx,XO,JQ],hJ⟩⟩
  |cons c0 t0=>
   obtain⟨s0,hs0⟩: ∃s0,c0::t0=s0:=⟨_,rfl⟩
   have hpos:0<s0.length:=by rw[←hs0];simp
   rw[hs0] at hB hx hcell hrl
   cases hc:s0.contains 10 with
   |true=>
    have hib:=Iz s0;rw[hc,if_pos rfl] at hib;have hb:=sQ s0 hc;gi_wp2;refine⟨trivial,?_⟩;refine(callsIn_wide.2 (Tryz.strings_IndexByte _ _ _)).mono ?_;rintro e w1 ⟨rfl,rfl⟩;gi_wp2;have hmx:Tryz.prog.follows .mixedOrders=true:=by kernel_rfl
    obtain⟨k,hk⟩: ∃k,(eP s0).length=k:=⟨_,rfl⟩
    rw[hk] at hb;rw[hk];have hw1:IntKind.i64.wrap ((k:Int)+1)=(k:Int)+1:=IntWalk.i64_in _ (by omega);have hw2:(0:Int)≤(k:Int)+1:=by omega
    have hw3:((k:Int)+1).toNat=k+1:=by omega
    have hw4:(k:Int)+1≤(s0.length:Int):=by omega
    have hw5:k+1≤s0.length:=by omega
    have hx1:(⟨s0.toArray⟩:ByteArray).extract 0 (k+1)=⟨(eP s0++[10]).toArray⟩:=by have:=Nt.Ev.Ua s0 0 ((k+1:Nat):Int);simp only[Int.toNat_zero,Kr] at this;rw[this,←VF s0 hc,hk];unfold Nt.Ev.dN;simp
    have hx2:(⟨s0.toArray⟩:ByteArray).extract (k+1) s0.length=⟨(eU s0).toArray⟩:=by have:=Nt.Ev.Ua s0 ((k+1:Nat):Int) (s0.length:Int);simp only[Kr] at this;rw[this];unfold Nt.Ev.dN eU;rw[hk,Kr,Kr,O9 (by simp)]
    gi_region_with_o fail
    all_goals try rw[hx1]
    all_goals try rw[hx2]
    all_goals
     obtain⟨W2,hW2⟩: ∃W2,(w1.setCell {block:=Bs,off:=0} (Value.string ⟨(eU s0).toArray⟩)).drew=W2:=⟨_,rfl⟩
     rw[hW2];have hJ2:J pre W2:=by rw[←hW2];exact hJd _ _ (hJs _ _ _ hJ)
     have hB2:W2.heap[Bs]? =some (.cells #[Value.string ⟨(eU s0).toArray⟩] 9 (0,0)):=by rw[←hW2];exact Boxed.set (W:=w1) (B:=Bs) (t:=9) _ hB
     obtain⟨fn,tmps,assign,body,hy,hR⟩:=hY pre (eP s0++[10]) W2 hJ2 (by rw[hx,wm hc];simp) (by rw[iH,fI,qz];omega);gi_wp2;refine hR.mono ?_;rintro e W3 (⟨rfl,hJ3,hk3⟩|⟨rfl,hJx3⟩)
     ·gi_wp2
      go_roundw
      case rel=>exact⟨pre++[eP s0++[10]],eU s0,hk3.trans hB2,by rw[hx,wm hc];simp,by omega,hJ3⟩
      case measure=>rw[FR (hk3.trans hB2),FR hB];omega
     gi_wp2
     refine bodyPost_ret (results_none rfl _ _ _) rfl ?_;exact⟨⟨_,rfl⟩,.inr ⟨pre++[eP s0++[10]],⟨Pp (eU s0),by rw[hx,wm hc];simp⟩,hJx3⟩⟩
   |false=>
    have hib:=Iz s0;rw[hc,if_neg (by decide)] at hib;gi_wp2;refine⟨trivial,?_⟩;refine(callsIn_wide.2 (Tryz.strings_IndexByte _ _ _)).mono ?_;rintro e w1 ⟨rfl,rfl⟩;have hJ2:J pre (w1.setCell {block:=Bs,off:=0} (Value.string ⟨#[]⟩)):=hJs _ _ _ hJ;have hB2:(w1.setCell {block:=Bs,off:=0} (Value.string ⟨#[]⟩)).heap[Bs]? =some (.cells #[Value.string ⟨([]:af).toArray⟩] 9 (0,0)):=
     Boxed.set (W:=w1) (B:=Bs) (t:=9) _ hB
    have hne:s0≠[]:=by rw[←hs0];simp
    obtain⟨fn,tmps,assign,body,hy,hR⟩:=hY pre s0 _ hJ2 (by rw[hx,wo hc hne];simp) hrl;gi_wp2;refine hR.mono ?_;rintro e W3 (⟨rfl,hJ3,hk3⟩|⟨rfl,hJx3⟩)
    ·gi_wp2
     go_roundw
     case rel=>exact⟨pre++[s0],[],hk3.trans hB2,by rw[hx,wo hc hne,XO];simp,by simp,hJ3⟩
     case measure=>rw[FR (hk3.trans hB2),FR hB];simpa using hpos
    gi_wp2
    refine bodyPost_ret (results_none rfl _ _ _) rfl ?_;exact⟨⟨_,rfl⟩,.inr ⟨pre++[s0],⟨[],by rw[hx,wo hc hne];simp⟩,hJx3⟩⟩
theorem step_skip {P:Program} {ops:Array Oper} {Q:Exit→Act→World→Prop} {o:Oper} {a:Act} {w' b:World} {K:Act→World→Prop} (d:o.guard=none) (h:(execOp a.eval o).run P w'=.ok .skip b) (c:K (a.put o.dst undef) b):
  if Region.wanted o (yielded ops a.tmps)=true then o.wp P a w' K Q else K (a.put o.dst undef) w':=by
 rw[if_pos (by simp[Region.wanted,d])];unfold Oper.wp;rw[h];exact c
theorem EQ {W:World} {a:Nat} {e:TypeId} {b:Nat} {p:Option Addr} {n cap k:Nat} {xs:List Value} (h:W.ownsRow a e b (.slice p n cap) k xs):n=k:=by
 rcases h.2 with⟨c,i⟩|⟨g,d,f,c,_⟩
 ·cases c;omega
 cases c;rfl
theorem O6 {W:World} {a:Nat} {e:TypeId} {b:Nat} {v:Value} {k m:Nat} {xs ys:List Value} (h:W.ownsRow a e b v k xs) (d:W.ownsRow a e b v m ys):k=m:=by
 rcases h.2 with⟨rfl,i⟩|⟨g,c,f,rfl,_⟩
 ·exact(show 0=k by omega)▸EQ d
 exact EQ d
def FO (O:Nat) (v:Value) (k:Nat) (xs:List Value) (x:af):Nat→Value→World→Prop
 |0,u,_=>u=v
 |1,u,_=>u=.string ⟨x.toArray⟩
 |2,u,_=>u=.string ⟨(lU x).toArray⟩
 |3,u,w=>∃g,u=.slice (some ⟨g,0,none⟩) 1 1∧w.heap[g]? =some (.cells #[.string ⟨(lU x).toArray⟩] 9 (0,0))
 |4,u,w=>w.ownsRow (O+2) 9 1 u (k+1) (xs++[.string ⟨(lU x).toArray⟩])
 |5,_,w=>∃u,Boxed w O 68 u∧w.ownsRow (O+2) 9 1 u (k+1) (xs++[.string ⟨(lU x).toArray⟩])
 |_,_,_=>True
def GO (O:Nat) (v:Value) (k:Nat) (xs:List Value):Nat→World→Prop
 |0,w=>Boxed w O 68 v∧w.ownsRow (O+2) 9 1 v k xs
 |4,w=>Boxed w O 68 v∧w.ownsRow (O+2) 9 1 v k xs
 |5,w=>∃u,Boxed w O 68 u
 |_,_=>True
theorem FO_alloc {O:Nat} {v:Value} {k:Nat} {xs:List Value} {x:af} {w:World} (o:Obj) (j:Nat) (u:Value) (h:FO O v k xs x j u w):FO O v k xs x j u (w.alloc o):=by
 unfold FO at*;split at h
 ·exact h
 ·exact h
 ·exact h
 ·obtain⟨g,rfl,h⟩:=h
  exact⟨g,rfl,heap_ext h (iD _ _)⟩
 ·exact h.alloc _
 ·obtain⟨u,b,a⟩:=h
  exact⟨u,b.alloc _,a.alloc _⟩
 trivial
theorem GO_alloc {O:Nat} {v:Value} {k:Nat} {xs:List Value} {w:World} (o:Obj) (j:Nat) (h:GO O v k xs j w):GO O v k xs j (w.alloc o):=by
 unfold GO at*;split at h
 ·exact⟨h.1.alloc _,h.2.alloc _⟩
 ·exact⟨h.1.alloc _,h.2.alloc _⟩
 ·obtain⟨u,h⟩:=h
  exact⟨u,h.alloc _⟩
 trivial
theorem infoS:(Tryz.prog.info? 9).map (fun i=>(i.zero,i.size,i.bytes))=some (some (.string ⟨#[]⟩),1,16):=by kernel_rfl
abbrev KQ (l:List (af)):List Value:=l.map fun x=>Value.string ⟨x.toArray⟩
set_option maxRecDepth 100000 in
set_option maxHeartbeats 2000000 in
theorem of_in (s:af) (hs:s.length≤4000000000) (w:World):
  CallsIn Fence.wide 10 Tryz.prog 24 #[.string ⟨s.toArray⟩] w fun e W'=>∃v,e=.returned v∧W'.ownsRow w.heap.size 9 1 v (Gs s).length (KQ (Gs s))∧Below w.heap.size w W':=by
 have hll:=Us (s.length+1) s (by omega);obtain⟨i0,hi,hz0,hz1,hz2⟩:=info_parts infoS;refine callsIn_of_wp_marks Tryz.func24 rfl trivial ?_ rfl;simp only[Tryz.ntmps24,abo,fI,qz,Nat.reduceAdd,Nat.reduceSub,Array.replicate_succ,Array.replicate_zero,List.push_toArray,List.append_toArray,Fx,Py];gi_wp2_with (refine⟨trivial,?_⟩;gi_at_call 41;refine(lines_fn _ _).mono ?_;rintro e w' ⟨rfl,rfl⟩);have bO:=Boxed.new w 68 (.slice none 0 0);have bN:=Boxed.new (w.alloc (.cells #[.slice none 0 0] 68)) 9 (.string ⟨s.toArray⟩);rw[World.size_alloc] at bN;have hB0:Below w.heap.size w ((w.alloc (.cells #[.slice none 0 0] 68)).alloc (.cells #[.string ⟨s.toArray⟩] 9)):=((Below.refl _ w).alloc (lg _) _).alloc (by simp) _;obtain⟨w2,hw2⟩: ∃w2,((w.alloc (.cells #[.slice none 0 0] 68)).alloc (.cells #[.string ⟨s.toArray⟩] 9))=w2:=⟨_,rfl⟩
 have hw2s:w2.heap.size=w.heap.size+2:=by rw[←hw2];simp
 have bO2:Boxed w2 w.heap.size 68 (.slice none 0 0):=by rw[←hw2];exact bO.alloc _
 rw[hw2] at bN hB0⊢;have hstops:Mi (w.heap.size+1) (fun x:af=>x.length≤4000000000) Fence.wide 9 Tryz.prog 67 #[.pointer (some ⟨w.heap.size+1,0,none⟩)] (fun x:af=> #[Value.string ⟨x.toArray⟩]) (fun A B=>B.heap[w.heap.size+1]? =A.heap[w.heap.size+1]?) (fun ys=>ys=Pp s) (fun pre=>pre<+:Pp s) (Pp s).length w2:=by intro l J Jx W hW hJ _ hJs hY h0;refine ad7 l (w.heap.size+1) s hs J Jx hJs (fun q W1 hq=>hJ q W1 _ none hq ⟨rfl,rfl,rfl,lg _,fun _ _ _=>rfl⟩ (fun r e=>by cases e)) hY W ?_ h0;exact(hW.block _ (by omega)).trans bN
 refine DW (Bs:=w.heap.size+1) (F:=Fence.wide) (n:=10) rfl (by omega) (gf:=67) (lb:= #[.pointer (some ⟨w.heap.size+1,0,none⟩)]) rfl trivial (enters_of Tryz.func67 (by kernel_rfl) rfl)
  hstops (fun h k=>k.trans h) (fun W l o o' hl h _ _=>World.putObj_heap_other (by omega)) (Below.refl _ _) (fun _=>rfl) (by omega)
  (fun pre W=>(∃v,Boxed W w.heap.size 68 v∧W.ownsRow (w.heap.size+2) 9 1 v pre.length (KQ (pre.map lU))∧True)∧Below w.heap.size w2 W)
  (fun _ _ _=>False)
  (OwnFrom.and (Own.from (holdsRow_own (w.heap.size+2) w.heap.size 68 9 1 (fun pre:List (af)=>pre.length) (fun pre=>KQ (pre.map lU)) (fun _ _=>True)) _) (ownFrom_below (by omega) (by omega)))
  (fun _ _ _ _ _ hs _ _=>hs)
  ?store
  ⟨⟨_,bO2,World.ownsRow_nil _ _ _ _,trivial⟩,Below.refl _ _⟩
  (fun x=>{tmps:= #[.string ⟨s.toArray⟩,undef,.slice none 0 0,.pointer (some ⟨w.heap.size,0,none⟩),.string ⟨x.toArray⟩,.string ⟨s.toArray⟩,.func (.func 67) #[] #[.pointer (some ⟨w.heap.size+1,0,none⟩)],.string ⟨x.toArray⟩,undef,undef,undef,undef,undef,undef],defers:=[]}) ?assign ?body ?done ?stop
 case store=>
  rintro pre W v ⟨⟨u,hu,hr,_⟩,hB⟩;refine⟨⟨u,hu.other (by omega) v,hr.kept (grownBy_setCell' W _ v) ?_,trivial⟩,hB.setCell (p:=⟨w.heap.size+1,0,none⟩) (by simp) _⟩
  cases h:u.ownBlock with
  |none=>exact .inl rfl
  |some k=>
   refine .inr fun e=>?_
   have:=(hr.lt k h).1
   cases e;omega
 case assign=>
  intro l x W K hK;gi_wp2;exact hK
 case body=>
  rintro l pre x W ⟨⟨v,hv,hrow,_⟩,hB⟩ hlt hxl;have hc:=hv.cell;have hmx:Tryz.prog.follows .mixedOrders=true:=by kernel_rfl
  gi_wp2
  have hte:68≠9:=by decide
  have hwl:w.heap.size+2≤W.heap.size:=by have:=hB.size;omega
  refine Fv hmx (by kernel_rfl) (by kernel_rfl) (by kernel_rfl) [5] (by decide) (FO w.heap.size v pre.length (KQ (pre.map lU)) x) (GO w.heap.size v pre.length (KQ (pre.map lU)))
   (fun w'=>Below w.heap.size W w'∧KeepsOthers W w'∧w'.heap[w.heap.size+1]? =W.heap[w.heap.size+1]?) ⟨(Below.refl _ _).drew,KeepsOthers.drew _,rfl⟩ ?_ ?_ ?_
  ·intro i
   unfold GO;split
   ·exact⟨hv,hrow⟩
   ·exact⟨hv,hrow⟩
   ·exact⟨v,hv⟩
   trivial
  ·refine⟨?_,?_,?_,?_,?_,?_,trivial⟩
   ·intro a' w' hJ hG _ _ hf hd K hK
    simp[lF,pR,Op.operands,FO,Slot] at hf hd;have hcl:=hG.1.cell;refine uw rfl ?_ (hK v w' rfl hJ (fun _ _ _ _ h=>h) (fun _ _ _ h=>h));go_simp
   ·intro a' w' hJ hG _ _ hf hd K hK
    simp[lF,pR,Op.operands,FO,Slot] at hf hd;refine uw rfl ?_ (hK (.string ⟨x.toArray⟩) w' rfl hJ (fun _ _ _ _ h=>h) (fun _ _ _ h=>h));go_simp
   ·intro a' w' hJ hG _ _ hf hd K hK
    simp[lF,pR,Op.operands,FO,Slot] at hf hd;refine ad4 rfl (f:=42) (args:= #[.string ⟨x.toArray⟩,.string ⟨#[10]⟩]) ?_ ?_
    ·go_simp
    refine Calls.mono (Tryz.strings_TrimSuffix _ _ _ (by simp[ByteArray.size];omega)) ?_;rintro e w'' ⟨rfl,rfl⟩;exact⟨_,rfl,hK _ _ rfl hJ (fun _ _ _ _ h=>h) (fun _ _ _ h=>h)⟩
   ·intro a' w' hJ hG _ _ hf hd K hK
    simp[lF,pR,Op.operands,FO,Slot] at hf hd;refine uw rfl ?_ (hK (.slice (some ⟨w'.heap.size,0,none⟩) 1 1) (w'.alloc (.cells #[.string ⟨(lU x).toArray⟩] 9)) ⟨_,rfl,World.alloc_heap_new w' _⟩ ⟨Below.alloc hJ.1 (by have:=hJ.1.size;omega) _,hJ.2.1.trans (KeepsOthers.alloc _ _),(Below.heap_alloc _ _ _ (by have:=hJ.1.size;omega)).trans hJ.2.2⟩ (fun j u _ _ h=>FO_alloc _ j u h) (fun j _ _ h=>GO_alloc _ j h));go_simp
   ·intro a' w' hJ hG _ _ hf hd K hK
    obtain⟨h0,h3,_⟩:=hd;obtain⟨u0,⟨h8,_⟩,e0⟩:=h0 rfl _ rfl;have e0:u0=v:=e0;rw[e0] at h8;obtain⟨u3,⟨h11,_⟩,g,rfl,hg⟩:=h3 rfl _ rfl;obtain⟨hv',hrow'⟩:=hG;have hsz':=hJ.1.size;have hnews: ∀j u,([.string ⟨(lU x).toArray⟩]:List Value)[j]? =some u→w'.cell? ((⟨g,0,none⟩:Addr).add j)=some u:=by
     intro j u hj;match j,hj with
     |0,hj=>simp at hj;subst hj;simp[Addr.add,World.cell?,hg]
    obtain⟨v',w'',hrun,hown',hgrow,_⟩:=run_append_own (P:=Tryz.prog) w' (w.heap.size+2) 68 68 9 i0 (.string ⟨#[]⟩) 1 16 Tryz.underlying68 hi hz0 hz1 hz2 rfl (by decide) v pre.length _ hrow' ⟨g,0,none⟩ 1 1 [.string ⟨(lU x).toArray⟩] rfl hnews (by simp[Value.oneCell']) (by unfold maxLen;omega) (by omega) (by omega);have hv2:Boxed w'' w.heap.size 68 v:=hv'.kept hgrow (hv'.not_row hte hrow');refine uw rfl ?_ (hK v' w'' hown' ⟨?_,?_,?_⟩ (fun j u hne hl h=>?_) (fun j hne hw h=>?_))
    ·simp[execOp,resolve,invoke,builtin,Act.eval,h8,h11,hrun,Result.andThen]
    ·exact hJ.1.grown hgrow (by omega) (fun k e=>by have:=(hrow'.lt k e).1;omega)
    ·refine hJ.2.1.trans (KeepsOthers.of_grownBy hgrow fun j o ej hj=>?_)
     rcases hrow'.2 with⟨rfl,_⟩|⟨g',cap,cur,rfl,_,hgb,_⟩
     ·simp[Value.ownBlock] at ej
     obtain rfl:g'=j:=by simpa[Value.ownBlock] using ej
     rw[hgb] at hj;cases hj;rfl
    ·refine(hgrow.block _ (by omega) (fun e=>?_)).trans hJ.2.2
     have:=(hrow'.lt _ e.symm).1;omega
    ·have n3:j≠3:=fun e=>by subst e;exact absurd (hl.symm.trans (by kernel_rfl:_=false)) (by decide: ¬true=false)
     unfold FO at*;split at h
     ·exact h
     ·exact h
     ·exact h
     ·exact absurd rfl n3
     ·exact absurd rfl hne
     ·exfalso
      obtain⟨u0,hu0,hr0⟩:=h;have e1:u0=v:=by have:=hu0.symm.trans hv';simpa using this
      subst e1;have k1:=O6 hr0 hrow';omega
     trivial
    have n0:j≠0:=fun e=>by subst e;exact absurd (hw.symm.trans (by kernel_rfl)) (by decide: ¬false=true)
    unfold GO at*;split at h
    ·exact absurd rfl n0
    ·exact absurd rfl hne
    ·exact⟨v,hv2⟩
    trivial
   intro a' w' hJ hG _ _ hf hd K hK;obtain⟨h4,_⟩:=hd;obtain⟨u4,⟨h12,_⟩,hown'⟩:=h4 rfl _ rfl;have hown':w'.ownsRow (w.heap.size+2) 9 1 u4 (pre.length+1) (KQ (pre.map lU)++[.string ⟨(lU x).toArray⟩]):=hown';obtain⟨u0,hu0⟩:=hG;have hcl:=hu0.cell;have hfr:=hu0.frozen;have hsz':=hJ.1.size;obtain⟨g4,cap4,rfl⟩:=ownsRow_succ hown';refine step_skip rfl ?_ (hK undef (w'.setCell ⟨w.heap.size,0,none⟩ (.slice (some ⟨g4,0,none⟩) (pre.length+1) cap4)) ⟨_,hu0.set _,hown'.kept (grownBy_setCell' w' _ _) (.inr (hu0.not_row hte hown').symm)⟩ ⟨?_,?_,?_⟩ (fun j u hne hl h=>?_) (fun j hne hw h=>?_))
   ·obtain⟨h3,_⟩:=hf
    obtain⟨h3,_⟩:=h3 rfl (.pointer (some ⟨w.heap.size,0,none⟩)) rfl;go_simp
   ·exact hJ.1.setCell (p:=⟨w.heap.size,0,none⟩) (lg _) _
   ·exact hJ.2.1.trans (KeepsOthers.setCell _ _ _)
   ·exact((grownBy_setCell' w' w.heap.size _).block _ (by omega) (fun e=>by have:=Option.some.inj e;omega)).trans hJ.2.2
   ·have n3:j≠3:=fun e=>by subst e;exact absurd (hl.symm.trans (by kernel_rfl:_=false)) (by decide: ¬true=false)
    have n4:j≠4:=fun e=>by subst e;exact absurd (hl.symm.trans (by kernel_rfl:_=false)) (by decide: ¬true=false)
    unfold FO at*;split at h
    ·exact h
    ·exact h
    ·exact h
    ·exact absurd rfl n3
    ·exact absurd rfl n4
    ·exact absurd rfl hne
    trivial
   have n0:j≠0:=fun e=>by subst e;exact absurd (hw.symm.trans (by kernel_rfl)) (by decide: ¬false=true)
   have n4:j≠4:=fun e=>by subst e;exact absurd (hw.symm.trans (by kernel_rfl)) (by decide: ¬false=true)
   unfold GO at*;split at h
   ·exact absurd rfl n0
   ·exact absurd rfl n4
   ·exact absurd rfl hne
   trivial
  intro val w' hJ hF;obtain⟨⟨u,hu,hr⟩,_⟩:=hF;refine⟨hJ.2.1,hJ.2.2,⟨u,hu,?_,trivial⟩,hB.trans hJ.1⟩;simpa using hr
 case done=>
  rintro D ys W hD rfl ⟨⟨v,hv,hrow,_⟩,hB⟩ hK;have hc:=hv.cell;gi_wp2;refine⟨by simp,.inl ⟨_,_,rfl,run_takeDeferred hK,?_⟩⟩;refine⟨_,results_tmp rfl _ _ _,v,rfl,?_,?_⟩
  ·have hlP:Gs s=(Pp s).map lU:=Ur (s.length+1) s (by omega)
   rw[hlP,kJ];exact O4 (ownsRow_putObj hrow _ hK rfl) (by omega)
  exact hB0.trans (hB.trans (belowK_b (w:=w2) (by omega) W D _ _ hD hK rfl rfl))
 case stop=>rintro D c pre W _ _ h _;exact h.elim
end Go.Proofs.YtknhlobahpgkeaaGreatDoor
namespace Nt.Ev.YtknhlobahpgkeaaGreatDoor
open Go Nt.Num Go.Proofs.YtknhlobahpgkeaaGreatDoor
noncomputable def MN:V→Bool| .nilp=>true| .box k off=>k==HL&&off==0|_=>false
noncomputable def bbOk:V→Bool| .nilsl=>true| .sl e sh (some L) xs=>e==5&&Kd.Cs [.int .u8] sh&&L==1000001002|_=>false
noncomputable def bbS:V→af| .sl _ _ _ xs=>fZ xs|_=>[]
noncomputable def bbN:V→V| .sl e sh _ xs=> .sl e sh none xs|v=>v
open Go.RowKit Nt
theorem IA {x:V} (h:MN x=true):x=.nilp∨x=.box HL 0:=by
 unfold MN at h;split at h
 ·exact .inl rfl
 ·rename_i k off
  rw[bC,iM,iM] at h;rw[h.1,h.2];exact .inr rfl
 cases h
theorem bvb (l:af):fZ (aF l)=l:=by unfold fZ aF;rw[Fy];refine(abe fun c _=>?_).trans (adf l);show UInt8.ofNat ((c.toNat:Int)).toNat=c;rw[Kr];exact UInt8.ofNat_toNat
open Nt.Lin
def iN (s:af):ah:=bE (Gs s)
def JZ (s:af):Bool:=s.any fun c=>aL (ieq (c.toNat:Int) 9)&&(aW (c.toNat:Int) 32||aW 126 (c.toNat:Int))
noncomputable def xOfS:aC:=fun a=>match a with|[.str s]=>some (av (aA s) 4000000,.sl 9 [.str] none (iN s))|_=>none
noncomputable def xCfS:aC:=fun a=>match a with|[.str s,.fn f []]=>some (ak (f==69) (av (aA s) 4000000),.bool (JZ s))|_=>none
noncomputable def xS0:List (Nat×aC):=(24,xOfS)::(70,xCfS)::[]
def Ai (s:af):Int:=sel (aW 511 (aA s)) 9 (sel (JZ s) 7 0)
noncomputable def xCkS:aC:=fun a=>match a with|[.str s]=>some (av (aA s) 4000000,.int .i64 (Ai s))|_=>none
noncomputable def xS1:List (Nat×aC):=(43,xCkS)::xS0
theorem xOdd_top (F r) (K:V→Option V):
 bA oE (bu oE oS F 2) F 69 [V.int .i32 r] K=
 sel (aL (ieq r 9)) (sel (aW r 32) (K (V.bool true)) (K (V.bool (aW 126 r)))) (K (V.bool false)):=by kernel_rfl
theorem VG (F s) (K:V→Option V):
 bA oE (bu oE xS0 F 2) F 43 [V.str s] K=
 sel (aW 511 (aA s)) (K (V.int .i64 9)) (sel (ak true (av (aA s) 4000000)) (sel (JZ s) (K (V.int .i64 7)) (K (V.int .i64 0))) none):=by kernel_rfl
theorem new_at {G:aU} {w w':World} (f:xU G w) {b:Nat} {c:Array Value} {e:TypeId} {fr:Nat×Nat} (hB:Below w.heap.size w w') (s:w.heap.size≤b) (i:w'.heap[b]? =some (.cells c e fr)) (n:Nat) (o:n≤c.size):
  New w w' G (upd G b (c.toList.take n)):=by
 refine⟨hB,fun a q=>gW _ _ _ _ (by omega),?_⟩;intro a l h;by_cases g:a=b
 ·subst g
  rw[upd_same] at h;simp only[aR] at h;subst h;refine⟨c,e,fr,i,?_⟩;have p:c.toList.length=c.size:=by simp
  rw[JG,p,acO o]
 rw[gW _ _ _ _ g] at h;obtain⟨j,k,d,r,m⟩:=f a l h;exact⟨j,k,d,by rw[hB.block a (fw f h)];exact r,m⟩
theorem own_strs {G:aU} {w w':World} (d:xU G w) {v:Value} {e:TypeId} (L:List (af)) (hB:Below w.heap.size w w') (h:w'.ownsRow w.heap.size e 1 v L.length (lZ L)):
  ∃G',New w w' G G'∧aV G' (.sl e [.str] none (bE L)) v:=by
 rcases h.2 with⟨rfl,m⟩|⟨g,cap,j,rfl,n,k,f,p,o,a⟩
 ·refine⟨G,⟨hB,fun _ _=>rfl,fun b l i=>?_⟩,?_⟩
  ·obtain⟨c,e,fr,f,a⟩:=d b l i
   exact⟨c,e,fr,by rw[hB.block b (fw d i)];exact f,a⟩
  have:L=[]:=Yv m;subst this;unfold aV;exact⟨none,0,rfl,lg _,.inl rfl⟩
 refine⟨_,new_at d hB n k L.length (by omega),?_⟩;unfold aV;refine⟨some ⟨g,0,none⟩,cap,by rw[sO],by rw[sO];exact f,.inr ⟨g,0,_,rfl,upd_same _ _ _,?_⟩⟩;rw[acA] at a;rw[a,Yx];have:=Dv (G:=upd G g (lZ L)) L [];rw[JQ] at this;exact this
theorem XP (s:af) (h:av (aA s) 4000000=true):aj oE 24 [.str s] (.sl 9 [.str] none (iN s)):=by intro G w vs g i c;obtain⟨x,rfl,b⟩:=CR c;unfold aV at b;subst b;rw[aB,aI] at h;refine(callsIn_wide.1 (of_in s (by omega) w)).mono ?_;rintro e w' ⟨v,rfl,d,hB⟩;obtain⟨G',f,a⟩:=own_strs g (Gs s) hB d;exact⟨v,G',rfl,f,a⟩
def Gt (r:Int):Bool:=sel (aL (ieq r 9)) (sel (aW r 32) true (aW 126 r)) false
theorem xOdd_ev (r:Int):aj oE 69 [.int .i32 r] (.bool (Gt r)):=by
 refine au KL oS_ok 1 2 ?_;rw[xOdd_top];unfold Gt
 cases aL (ieq r 9)<;>cases aW r 32<;>rfl
theorem XQ (s:ByteArray): ∀(f a:Nat),a≤s.size→s.size-a≤f→decide (0≤Go.Lib.idxFuncFrom (fun r=>Gt (r:Int)) true s f a)=(s.data.toList.drop a).any fun c=>Gt (c.toNat:Int)
 |0,a,l,i=>by rw[abh (by rw[Kq];exact(show s.size≤a by omega))];rfl
 |f+1,a,l,i=>by
  unfold Go.Lib.idxFuncFrom;by_cases b:a<s.size
  ·rw[if_pos b]
   have g:a<s.data.toList.length:=by rw[Kq];exact b
   have e:s.data.toList.drop a=s.data.toList[a]::s.data.toList.drop (a+1):=abf g;have j:s.data.toList[a]=s[a]'b:=by simp;rfl
   rw[e,abM,j];by_cases h:(s[a]'b).toNat<128
   ·rw[decode_ascii s a b h]
    cases m:Gt (((s[a]'b).toNat:Nat):Int) with
    |true=>rw[if_pos rfl];simp
    |false=>rw[if_neg (by decide),abS];exact XQ s f (a+1) (by omega) (by omega)
   have k:=(decode_high s a b (by omega)).1;have d: ∀n:Nat,128≤n→Gt (n:Int)=true:=fun n o=>by
    unfold Gt;rw[bD (by omega),bH (show(126:Int)<(n:Int) by omega)]
    cases aW (n:Int) 32<;>rfl
   rw[if_pos (d _ k),d _ (by omega)];simp
  rw[if_neg b,abh (by rw[Kq];exact(show s.size≤a by omega))];rfl
theorem odd_any (s:af):(s.any fun c=>Gt (c.toNat:Int))=JZ s:=by
 unfold JZ;congr 1;funext c
 unfold Gt
 cases aL (ieq (c.toNat:Int) 9)<;>cases aW (c.toNat:Int) 32<;>cases aW 126 (c.toNat:Int)<;>rfl
theorem xCfS_ok (s:af) (f:Nat) (h:ak (f==69) (av (aA s) 4000000)=true):aj oE 70 [.str s,.fn f []] (.bool (JZ s)):=by
 obtain⟨p,t⟩:=aO h;obtain rfl:f=69:=by simpa using p
 refine bX fun G w vs k o d=>?_
 obtain⟨x,y,rfl,m,j⟩:=iQ d;unfold aV at m j;obtain⟨rfl,_⟩:=j;subst m;have d:Go.Proofs.PredGrows Go.Proofs.Tryz.prog 69 #[] (fun r=>Gt (r:Int)) w:=by
  intro W x _ a;refine(xOdd_ev (x:Int) G W [.int .i32 x] ?_ ?_ ?_).mono ?_
  ·intro b l i
   obtain⟨c,e,fr,h,n⟩:=k b l i;exact⟨c,e,fr,by rw[a.block b (fw k i)];exact h,n⟩
  ·exact o.more (lN.refl _) (BQ a)
  ·exact .cons (by unfold aV;rfl) .nil
  rintro e w' ⟨v,G',rfl,q,g⟩;simp only[fP,nS] at g;unfold aV at g;subst g;exact⟨rfl,q.1⟩
 refine(Go.Proofs.Tryz.strings_ContainsFunc_grows _ #[] (Go.Proofs.enters_of Go.Proofs.Tryz.func69 (by kernel_rfl) rfl) _ ⟨s.toArray⟩ w d).mono ?_;rintro e w' ⟨rfl,a⟩;refine⟨_,rfl,a,?_⟩;have:decide (0≤Go.Lib.idxFunc (fun r=>Gt (r:Int)) true ⟨s.toArray⟩)=JZ s:=by rw[←odd_any];have:=XQ ⟨s.toArray⟩ (⟨s.toArray⟩:ByteArray).size 0 (JS _) (by omega);rw[Yx] at this;exact this
 rw[this];exact QB _
theorem xS0_ok:bf oE xS0:=by
 unfold xS0;refine bf.cons (fun args r h=>?_) (bf.cons (fun args r h=>?_) bf.nil);all_goals (revert h;intro h;first|unfold xOfS at h|unfold xCfS at h)
 all_goals (split at h;rotate_left; · cases h)
 all_goals (simp only[aR,bM] at h;obtain⟨a,rfl⟩:=h)
 ·exact XP _ a
 exact xCfS_ok _ _ a
theorem xCkS_ok (s:af) (a:av (aA s) 4000000=true):aj oE 43 [.str s] (.int .i64 (Ai s)):=by
 refine au KL xS0_ok 1 2 ?_;rw[VG,a];unfold Ai
 cases aW 511 (aA s)<;>cases JZ s<;>rfl
def xO (l:List (af)):af:=(l.map fun x=>x++[10]).flatten
theorem Re (x:af) (l:List (af)):xO (x::l)=x++[10]++xO l:=rfl
noncomputable def xLd:List (Nat×aC):=xS1
noncomputable def xL:List (Nat×aC):=xLd
theorem Rf: ∀(l:List (af)),(∀x∈l,x.contains 10=false)→Gs (xO l)=l
 |[],_=>rfl
 |x::l,h=>by have:=zZ x (xO l) [] (h x uY);have a:=Rf l (fun y b=>h y (wN _ b));rw[Re];unfold Gs at a⊢;rw[show x++[10]++xO l=x++10::xO l by simp,this,a];rfl
def gB (i:Nat):UInt8:=if i%500=499 then 10 else 32
end Nt.Ev.YtknhlobahpgkeaaGreatDoor
