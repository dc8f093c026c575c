/-
  A region that draws its order, proved operation by operation: one fact for each operation's value, which the other operations keep; so the proof is as long as the region, whatever the number of its orders. A region that draws its order, in a round of a range over a function. A range over a function whose iterator keeps its state in a cell that it has captured: the law for the loop. Lines of a source: the plain law. The lines of a source, walked: strings.Lines hands its lines to the loop, one by one. Bld: equations of functions, as the evaluator prints them. A strings.Builder's copyCheck and String, as contracts. Lines: equations of functions, as the evaluator prints them. Lines of a source: both sides as contracts. LinesLaw: equations of functions, as the evaluator prints them. Lines: the three statements.
-/
import Derived.Test.YtplklcejbmfgdaaGreatDoorMC
import Derived.Orders
import Derived.ArgAppend
import Derived.OrdersIn
import Derived.TacticsIn
import Derived.RangeFuncBox
import Derived.RangeFuncFrom
import Derived.Test.YtplklcejbmfgdaaGreatDoorMBB
import Derived.Lib.Strings
import Derived.Lib.Bytealg
import Derived.Test.YtplklcejbmfgdaaGreatDoorMS
import Derived.RangeFuncNested
import Derived.RangeFuncBound
import Derived.RangeFuncCalls
import Derived.RangeFuncLeaves
import Derived.Shelf.Abstract
import Derived.Shelf.RegionOpen
import Derived.WalkKit
import Derived.OwnWalkIn
import Derived.TacticsInMore
import Derived.LoopNIn
import Derived.LoopIn
import Derived.Maps.AppendAt
import Derived.RegionIn
import Derived.IntWalk
import Derived.Test.YtplklcejbmfgdaaGreatDoorMP
import Derived.Laws.RangeAny
import Derived.Shelf.GgClosure.StringsIndexFunc
set_option linter.unusedVariables false
set_option linter.unusedSimpArgs false
set_option linter.unusedSectionVars false
namespace Nt
open Go Go.RowKit
def dK (val:Nat→Value) (listed:Nat→Bool):List Oper→Nat→Act→Act
 |[],_,a=>a
 |o::l,k,a=>dK val listed l (k+1) (if listed k=true then a.put o.dst (val k) else a)
def xx (n:Nat):List Oper→Bool
 |[]=>true
 |o::l=>(match o.dst with|some d=>decide (d<n)&&l.all fun o'=>o'.dst != some d|none=>true)&&xx n l
theorem M4 (a:Act) (d:Option Tmp) (v:Value):(a.put d v).tmps.size=a.tmps.size:=by cases d<;>simp[Act.put]
theorem FN (val:Nat→Value) (listed:Nat→Bool) (d:Tmp) (v:Value): ∀(l:List Oper) (k:Nat) (a:Act),(l.all fun o'=>o'.dst != some d)=true→
  (dK val listed l k a).put (some d) v=dK val listed l k (a.put (some d) v)
 |[],_,_,_=>rfl
 |o::l,k,a,h=>by
  simp only[List.all_cons,Bool.and_eq_true,bne_iff_ne,ne_eq] at h;simp only[dK];rw[FN val listed d v l (k+1) _ (by simpa using h.2)];congr 1
  split
  ·exact Act.put_comm a _ _ (fun x hx e=>h.1 (by rw[hx,e]))
  ·rfl
theorem iU (val val':Nat→Value) (listed listed':Nat→Bool): ∀(l:List Oper) (k:Nat) (a:Act),(∀i,k≤i→i<k+l.length→listed i=listed' i∧(listed i=true→val i=val' i))→dK val listed l k a=dK val' listed' l k a
 |[],_,_,_=>rfl
 |o::l,k,a,h=>by
  have h0:=h k (Nat.le_refl _) (by simp);simp only[dK];rw[←h0.1];by_cases hl:listed k=true
  ·rw[if_pos hl,if_pos hl,h0.2 hl]
   exact iU val val' listed listed' l (k+1) _ fun i h1 h2=>h i (by omega) (by simp;omega)
  ·rw[if_neg hl,if_neg hl]
   exact iU val val' listed listed' l (k+1) _ fun i h1 h2=>h i (by omega) (by simp;omega)
theorem CB (n:Nat) (val:Nat→Value) (listed:Nat→Bool) (i:Nat) (v:Value): ∀(l:List Oper) (k:Nat) (a:Act) (o:Oper),xx n l=true→k≤i→l[i-k]? =some o→listed i=false→
  (dK val listed l k a).put o.dst v=dK (fun j=>if j=i then v else val j) (fun j=>if j=i then true else listed j) l k a
 |[],_,_,_,_,_,h,_=>by simp at h
 |o'::l,k,a,o,hd,hk,ho,hl=>by
  simp only[xx,Bool.and_eq_true] at hd;by_cases e:i=k
  ·subst e
   simp only[Nat.sub_self,List.getElem?_cons_zero,Option.some.injEq] at ho;subst ho;have hd1:=hd.1
   cases hdst:o'.dst with
   |none=>
    simp only[dK,hl,if_pos,Bool.false_eq_true,if_false,hdst];exact iU _ _ _ _ l (i+1) _ fun j h1 h2=>by
     have:j≠i:=by omega
     simp[this]
   |some d=>
    rw[hdst] at hd1;simp only[Bool.and_eq_true,decide_eq_true_eq] at hd1;simp only[dK,hl,if_pos,Bool.false_eq_true,if_false];rw[FN val listed d v l (i+1) a hd1.2,hdst];exact iU _ _ _ _ l (i+1) _ fun j h1 h2=>by
     have:j≠i:=by omega
     simp[this]
  ·simp only[dK]
   have e2: ¬k=i:=fun h=>e h.symm
   simp only[if_neg e2];refine CB n val listed i v l (k+1) _ o hd.2 (by omega) ?_ hl;have:i-k=(i-(k+1))+1:=by omega
   rw[this] at ho;simpa using ho
theorem wI (val:Nat→Value) (listed:Nat→Bool): ∀(l:List Oper) (k:Nat) (a:Act),(dK val listed l k a).defers=a.defers
 |[],_,_=>rfl
 |o::l,k,a=>by
  simp only[dK];rw[wI val listed l (k+1)];split
  ·cases o.dst<;>rfl
  ·rfl
theorem rO (val:Nat→Value) (listed:Nat→Bool) (t:Nat): ∀(l:List Oper) (k:Nat) (a:Act),(l.all fun o=>o.dst != some t)=true→(dK val listed l k a).tmps[t]? =a.tmps[t]?
 |[],_,_,_=>rfl
 |o::l,k,a,h=>by
  simp only[List.all_cons,Bool.and_eq_true,bne_iff_ne,ne_eq] at h;simp only[dK];rw[rO val listed t l (k+1) _ (by simpa using h.2)];split
  ·cases hd:o.dst with
   |none=>rfl
   |some d=>
    have:d≠t:=fun e=>h.1 (by rw[hd,e])
    simp[Act.put,Array.getElem?_setIfInBounds_ne this]
  ·rfl
theorem CF (val:Nat→Value) (listed:Nat→Bool) (j d:Nat): ∀(l:List Oper) (k:Nat) (a:Act) (o:Oper),xx a.tmps.size l=true→k≤j→l[j-k]? =some o→o.dst=some d→listed j=true→
  (dK val listed l k a).tmps[d]? =some (val j)
 |[],_,_,_,_,_,h,_,_=>by simp at h
 |o'::l,k,a,o,hd,hk,ho,hdst,hl=>by
  simp only[xx,Bool.and_eq_true] at hd;by_cases e:j=k
  ·subst e
   simp only[Nat.sub_self,List.getElem?_cons_zero,Option.some.injEq] at ho;subst ho;have hd1:=hd.1;rw[hdst] at hd1;simp only[Bool.and_eq_true,decide_eq_true_eq] at hd1;simp only[dK,hl,if_true];rw[rO val listed d l (j+1) _ hd1.2,hdst];simp[Act.put,hd1.1]
  ·simp only[dK]
   have:j-k=(j-(k+1))+1:=by omega
   rw[this] at ho;refine CF val listed j d l (k+1) _ o ?_ (by omega) (by simpa using ho) hdst hl;split
   ·rw[M4];exact hd.2
   ·exact hd.2
def waitsFor (ops:Array Oper) (i j:Nat):Bool:=match ops[i]? with|some o=>o.after.any fun e=>Region.binds .any e&&e.on==j|none=>false
def backward (ops:Array Oper):Bool:=(List.range ops.size).all fun i=>match ops[i]? with|some o=>o.after.all fun e=>!Region.binds .any e||decide (e.on<i)|none=>true
def takes (ops:Array Oper) (k j:Nat):Bool:=match ops[k]? with|some o=>o.after.toList.any fun e=>(e.ground== .data||e.ground== .guard)&&e.on==j|none=>false
def live (ops:Array Oper) (keep:List Nat) (i j:Nat):Bool:=keep.contains j||(List.range ops.size).any fun k=>k != i&&takes ops k j&& !waitsFor ops i k
def open_ (ops:Array Oper) (listed:Array Bool):Nat:=(List.range ops.size).countP fun i=>!listed.getD i true
section
variable {P:Program} {ops:Array Oper} {Q:Exit→Act→World→Prop}
theorem ready_nil (hb:backward ops=true) (listed:Array Bool) (hs:listed.size=ops.size) (h:Region.ready .any ops listed=[]): ∀i,i<ops.size→listed.getD i true=true:=by
 intro i;induction i using Nat.strongRecOn with
 |_ i ih=>
  intro hi
  cases hl:listed.getD i true with
  |true=>rfl
  |false=>
   have:i∈Region.ready .any ops listed:=by
    rw[mem_ready];refine⟨hl,ops[i],by simp[hi],fun e he hbi=>?_⟩;simp only[backward,List.all_eq_true,List.mem_range] at hb;have h1:=hb i hi;rw[Array.getElem?_eq_getElem hi] at h1;simp only[Array.all_eq_true_iff_forall_mem,Bool.or_eq_true,Bool.not_eq_true',decide_eq_true_eq] at h1;have h2:e.on<i:=(h1 e he).resolve_left (by rw[hbi];simp);have h3:=ih e.on h2 (by omega);have h4:e.on<listed.size:=by omega
    simp only[Array.getD_eq_getD_getElem?,Array.getElem?_eq_getElem h4,Option.getD_some] at h3⊢;exact h3
   rw[h] at this
   cases this
theorem VB {p q:Nat→Bool} {l:List Nat} {x:Nat} (hx:x∈l) (h: ∀y∈l,q y=true→p y=true) (hp:p x=true) (hq:q x=false):l.countP q<l.countP p:=by
 induction l with
 |nil=>cases hx
 |cons y l ih=>
  simp only[List.countP_cons];have hl:l.countP q≤l.countP p:=List.countP_mono_left fun z hz=>h z (by simp[hz])
  rcases List.mem_cons.1 hx with rfl|hx'
  ·simp[hp,hq];omega
  ·have:=ih hx' fun z hz=>h z (by simp[hz])
   have hy:=h y (by simp)
   cases hqy:q y with
   |false=>split<;>simp_all<;>omega
   |true=>simp[hy hqy];omega
theorem M5 (listed:Array Bool) (i:Nat) (hs:listed.size=ops.size) (hi:i<ops.size) (hl:listed.getD i true=false):open_ ops (listed.setIfInBounds i true)<open_ ops listed:=by
 unfold open_;refine VB (x:=i) (by simpa using hi) (fun y _ h=>?_) (by rw[hl];rfl) ?_
 ·by_cases e:i=y
  ·subst e;rw[hl];rfl
  ·rw[getD_set_ne true e] at h;exact h
 ·simp[hs,hi]
def Slot (a:Act) (t:Nat) (v:Value):Prop:=a.tmps[t]? =some v∧ ∀h:t<a.tmps.size,a.tmps[t]=v
theorem Slot.mk {a:Act} {t:Nat} {v:Value} (h:a.tmps[t]? =some v):Slot a t v:=⟨h,fun hl=>by rw[Array.getElem?_eq_getElem hl] at h;exact Option.some.inj h⟩
def kQ (ops:List Oper) (a a':Act):List Operand→Prop
 |[]=>True
 | .tmp t::l=>((ops.all fun o=>o.dst != some t)=true→ ∀v,a.tmps[t]? =some v→Slot a' t v)∧kQ ops a a' l
 |_::l=>kQ ops a a' l
def oO (ops:Array Oper) (F:Nat→Value→World→Prop) (a':Act) (w':World):List Edge→Prop
 |[]=>True
 |e::l=>((e.ground== .data||e.ground== .guard)=true→ ∀d,((ops[e.on]?).bind (·.dst))=some d→ ∃u,Slot a' d u∧F e.on u w')∧oO ops F a' w' l
def Bh (F:Nat→Value→World→Prop) (val:Nat→Value) (w:World):List Nat→Prop
 |[]=>True
 |k::l=>F k (val k) w∧Bh F val w l
theorem zO {F:Nat→Value→World→Prop} {val:Nat→Value} {w:World}: ∀(l:List Nat),(∀i∈l,F i (val i) w)→Bh F val w l
 |[],_=>trivial
 |k::l,h=>⟨h k (by simp),zO l fun i hi=>h i (by simp[hi])⟩
theorem rH {o:Oper} {a':Act} {w' w'':World} {K:Act→World→Prop} {v:Value} (hg:o.guard=none) (h:(execOp a'.eval o).run P w'=.ok (.value v) w'') (hk:K (a'.put o.dst v) w''):
  if Region.wanted o (yielded ops a'.tmps)=true then o.wp P a' w' K Q else K (a'.put o.dst undef) w':=by
 rw[if_pos (by simp[Region.wanted,hg])];unfold Oper.wp;rw[h];exact hk
theorem VC {o:Oper} {a':Act} {w':World} {K:Act→World→Prop} {f:FuncId} {args:Array Value} (hg:o.guard=none) (h:(execOp a'.eval o).run P w'=.ok (.enter f args) w')
  (hc:Calls P f args w' fun e w''=>∃v,e=.returned v∧K (a'.put o.dst v) w''):
  if Region.wanted o (yielded ops a'.tmps)=true then o.wp P a' w' K Q else K (a'.put o.dst undef) w':=by
 rw[if_pos (by simp[Region.wanted,hg])];unfold Oper.wp;rw[h];refine Calls.mono hc ?_;rintro e w'' ⟨v,rfl,hk⟩;exact hk
theorem KW {w:World} {base base' e size:Nat} {v:Value} {n:Nat} {xs:List Value} (h:w.ownsRow base e size v n xs) (hb:base'≤base):w.ownsRow base' e size v n xs:=by
 obtain⟨h1,h2⟩:=h;refine⟨h1,?_⟩;rcases h2 with h2|⟨g,cap,cur,hv,hg,r⟩
 ·exact .inl h2
 ·exact .inr ⟨g,cap,cur,hv,by omega,r⟩
theorem ZT {w w':World} {g:Nat} {o:Obj} (h:w.heap[g]? =some o) (hb:Below w.heap.size w w'):w'.heap[g]? =some o:=
 (hb.block g (by obtain⟨h1,_⟩:=Array.getElem?_eq_some_iff.1 h;exact h1)).trans h
theorem iI (w:World) (o:Obj):Below w.heap.size w (w.alloc o):=(Below.refl _ _).alloc (Nat.le_refl _) o
end
section
variable {P:Program} {ops:Array Oper} {Q:Exit→Act→World→Prop} {l n:Nat}
theorem ZU {m:Nat} {f:FuncId} {args:Array Value} {w:World} {R:Ending→World→Prop} (h:Calls P f args w R):CallsIn (Fence.wide.inRound l) m P f args w R:=(callsIn_wide (n:=m)).2 h
theorem oper_in {o:Oper} {a:Act} {w:World} {K:Act→World→Prop} (hd: ∀c,o.op≠.defer c) (h:o.wp P a w K Q):o.wpIn (Fence.wide.inRound l) n P a w K Q:=by
 unfold Oper.wpIn;refine⟨fun _ _=>trivial,?_⟩;rw[show(Fence.wide.inRound l).round=some l from rfl,Oper.semAt_some l _ o hd];unfold Oper.wp at h;generalize (execOp a.eval o).run P w=r at*
 cases r with
 |ok x w'=>
  cases x with
  |value v=>exact h
  |skip=>exact h
  |defer d=>exact h
  |enter f args=>exact⟨(fun h=>by cases h),ZU h⟩
  |row r args=>exact⟨(fun h=>by cases h),fun c cs _=>by
   obtain⟨v,w',r,s⟩:=h c cs;exact⟨v,w',r,stepsIn_wide.2 s⟩⟩
  |_=>exact h.elim
 |halt x w'=>cases x<;>exact h
def SI (ops:Array Oper):Bool:=ops.all fun o=>match o.op with| .defer _=>false|_=>true
theorem KY (h:SI ops=true) (i:Nat) (o:Oper) (ho:ops[i]? =some o): ∀c,o.op≠.defer c:=by
 intro c hc;have:=(Array.all_eq_true_iff_forall_mem.1 h) o (Array.mem_of_getElem? ho);rw[hc] at this
 cases this
theorem FZ {id:Nat} {a:Act} {w:World} (hm:P.follows .mixedOrders=true) (hd:xx a.tmps.size ops.toList=true) (hb:backward ops=true) (hnd: ∀(i:Nat) (o:Oper),ops[i]? =some o→ ∀c,o.op≠.defer c)
  (keep:List Nat) (F:Nat→Value→World→Prop) (G:Nat→World→Prop) (J:World→Prop) (hJ:J {w with drawn:=w.drawn+1}) (hG0: ∀i,G i {w with drawn:=w.drawn+1})
  (hstep: ∀i,i<ops.size→ ∀(o:Oper),ops[i]? =some o→ ∀(a':Act) (w':World) (val:Nat→Value),J w'→G i w'→a'.tmps.size=a.tmps.size→a'.defers=a.defers→
   (∀t,(ops.toList.all fun o=>o.dst != some t)=true→a'.tmps[t]? =a.tmps[t]?)→
   (∀j d,takes ops i j=true→((ops[j]?).bind (·.dst))=some d→a'.tmps[d]? =some (val j)∧F j (val j) w')→
   ∀K:Act→World→Prop,(∀v w'',F i v w''→J w''→(∀j u,j≠i→live ops keep i j=true→F j u w'→F j u w'')→(∀j,j≠i→waitsFor ops i j=false→G j w'→G j w'')→K (a'.put o.dst v) w'')→if Region.wanted o (yielded ops a'.tmps)=true then o.wp P a' w' K Q else K (a'.put o.dst undef) w')
  (hend: ∀(val:Nat→Value) (w':World),J w'→(∀i∈keep,i<ops.size→F i (val i) w')→Q .normal (dK val (fun _=>true) ops.toList 0 a) w'):
  (Code.region id ops true).wpIn (Fence.wide.inRound l) n P Q a w:=by
 refine wpIn_region_any hm ?_;have key: ∀(fuel:Nat) (listed:Array Bool) (val:Nat→Value) (w':World),listed.size=ops.size→open_ ops listed≤fuel→J w'→(∀i,i<ops.size→listed.getD i false=false→G i w')→
   (∀i,i<ops.size→listed.getD i false=true→(i∈keep∨ ∃k,k<ops.size∧listed.getD k false=false∧takes ops k i=true)→F i (val i) w')→wpAnyIn (Fence.wide.inRound l) n P .any ops Q fuel listed (dK val (fun i=>listed.getD i false) ops.toList 0 a) w':=by
  intro fuel;have fin: ∀(listed:Array Bool) (val:Nat→Value) (w':World),listed.size=ops.size→J w'→(∀i,i<ops.size→listed.getD i false=true→(i∈keep∨ ∃k,k<ops.size∧listed.getD k false=false∧takes ops k i=true)→F i (val i) w')→
    Region.ready .any ops listed=[]→Q .normal (dK val (fun i=>listed.getD i false) ops.toList 0 a) w':=by
   intro listed val w' hs hJ' hF hr;have hall:=ready_nil hb listed hs hr;have hall': ∀i,i<ops.size→listed.getD i false=true:=fun i hi=>by
    have:=hall i hi;have h4:i<listed.size:=by omega
    simp only[Array.getD_eq_getD_getElem?,Array.getElem?_eq_getElem h4,Option.getD_some] at this⊢;exact this
   rw[iU val val _ (fun _=>true) ops.toList 0 a fun i _ h2=>⟨hall' i (by simpa using h2),fun _=>rfl⟩];exact hend val w' hJ' fun i hk hi=>hF i hi (hall' i hi) (.inl hk)
  induction fuel with
  |zero=>
   intro listed val w' hs ho hJ' hG hF;have hr:Region.ready .any ops listed=[]:=by
    rw[List.eq_nil_iff_forall_not_mem];intro i hi;obtain⟨h0,o,ho',_⟩:=mem_ready.1 hi;have hi':i<ops.size:=(Array.getElem?_eq_some_iff.1 ho').1;have:=M5 listed i hs hi' h0;omega
   exact⟨hr,fin listed val w' hs hJ' hF hr⟩
  |succ fuel ih=>
   intro listed val w' hs ho hJ' hG hF;refine⟨fin listed val w' hs hJ' hF,fun i hi=>?_⟩;obtain⟨h0,o,ho',hafter⟩:=mem_ready.1 hi;have hi':i<ops.size:=(Array.getElem?_eq_some_iff.1 ho').1;have h4:i<listed.size:=by omega
   have hlf:listed.getD i false=false:=by
    simp only[Array.getD_eq_getD_getElem?,Array.getElem?_eq_getElem h4,Option.getD_some] at h0⊢;exact h0
   have hol:ops.toList[i-0]? =some o:=by simpa using ho'
   unfold wpOpIn;rw[ho'];simp only;have st:=hstep i hi' o ho' (dK val (fun i=>listed.getD i false) ops.toList 0 a) w' val hJ' (hG i hi' hlf) ?_ (wI _ _ _ _ _) (fun t ht=>rO _ _ t _ _ _ ht) ?_
    (fun a' w'=>wpAnyIn (Fence.wide.inRound l) n P .any ops Q fuel (listed.setIfInBounds i true) a' w') ?_
   ·split
    ·rename_i hw;rw[if_pos hw] at st;exact oper_in (hnd i o ho') st
    ·rename_i hw;rw[if_neg hw] at st;exact⟨fun _ _=>trivial,st⟩
   ·
    have: ∀(l:List Oper) (k:Nat) (a:Act),(dK val (fun i=>listed.getD i false) l k a).tmps.size=a.tmps.size:=by
     intro l;induction l with
     |nil=>intro _ _;rfl
     |cons o l ih2=>intro k a;simp only[dK];rw[ih2];split;exact M4 _ _ _;rfl
    exact this _ _ _
   ·intro j d hw hdj
    have hw0:=hw;unfold takes at hw;rw[ho'] at hw;simp only at hw;rw[List.any_eq_true] at hw;obtain⟨e,he,hw⟩:=hw;simp only[Bool.and_eq_true,beq_iff_eq] at hw;obtain⟨hw1,rfl⟩:=hw;replace he:e∈o.after:=by simpa using he
    replace hw1:Region.binds .any e=true:=by unfold Region.binds;cases hge:e.ground<;>simp_all
    have hlj:=hafter e he hw1
    cases hoj:ops[e.on]? with
    |none=>rw[hoj] at hdj;simp at hdj
    |some oj=>
     rw[hoj] at hdj;simp only[Option.bind_some] at hdj;have hej:e.on<ops.size:=(Array.getElem?_eq_some_iff.1 hoj).1;exact⟨CF val _ e.on d ops.toList 0 a oj hd (Nat.zero_le _) (by simpa using hoj) hdj hlj,hF e.on hej hlj (.inr ⟨i,hi',hlf,hw0⟩)⟩
   ·intro v w'' hFv hJ'' hkeep hkeepG
    rw[CB a.tmps.size val _ i v ops.toList 0 a o hd (Nat.zero_le _) hol hlf];have hsz:(listed.setIfInBounds i true).size=ops.size:=by simpa using hs
    have e:dK (fun j=>if j=i then v else val j) (fun j=>if j=i then true else listed.getD j false) ops.toList 0 a=dK (fun j=>if j=i then v else val j) (fun j=>(listed.setIfInBounds i true).getD j false) ops.toList 0 a:=
     iU _ _ _ _ _ _ _ fun j _ _=>by
      by_cases ej:j=i
      ·subst ej;simp[h4]
      ·rw[getD_set_ne false (fun h=>ej h.symm)];simp[ej]
    rw[e];refine ih _ _ _ hsz ?_ hJ'' ?_ ?_
    ·have:=M5 listed i hs hi' h0;omega
    ·intro j hj hlj
     have ej:j≠i:=fun e=>by subst e;simp[h4] at hlj
     rw[getD_set_ne false (fun h=>ej h.symm)] at hlj;refine hkeepG j ej ?_ (hG j hj hlj)
     cases hwk:waitsFor ops i j with
     |false=>rfl
     |true=>
      unfold waitsFor at hwk;rw[ho'] at hwk;simp only at hwk;rw[←Array.any_toList,List.any_eq_true] at hwk;obtain⟨e,he,hwk⟩:=hwk;simp only[Bool.and_eq_true,beq_iff_eq] at hwk;obtain⟨hw1,rfl⟩:=hwk;rw[hafter e (by simpa using he) hw1] at hlj
      cases hlj
    ·intro j hj hlj huse
     by_cases ej:j=i
     ·subst ej;simpa using hFv
     ·rw[getD_set_ne false (fun h=>ej h.symm)] at hlj
      simp only[if_neg ej];rcases huse with hk|⟨k,hk,hkl,hkt⟩
      ·exact hkeep j _ ej (by unfold live;simp[hk]) (hF j hj hlj (.inl hk))
      ·have eki:k≠i:=fun e=>by subst e;simp[h4] at hkl
       rw[getD_set_ne false (fun h=>eki h.symm)] at hkl;refine hkeep j _ ej ?_ (hF j hj hlj (.inr ⟨k,hk,hkl,hkt⟩));unfold live;rw[Bool.or_eq_true,List.any_eq_true];refine .inr ⟨k,by simpa using hk,?_⟩;simp only[Bool.and_eq_true,bne_iff_ne,ne_eq,Bool.not_eq_true'];refine⟨⟨eki,hkt⟩,?_⟩
       cases hwk:waitsFor ops i k with
       |false=>rfl
       |true=>
        unfold waitsFor at hwk;rw[ho'] at hwk;simp only at hwk;rw[←Array.any_toList,List.any_eq_true] at hwk;obtain⟨e,he,hwk⟩:=hwk;simp only[Bool.and_eq_true,beq_iff_eq] at hwk;obtain⟨hw1,rfl⟩:=hwk;rw[hafter e (by simpa using he) hw1] at hkl
        cases hkl
 have:=key ops.size (Array.replicate ops.size false) (fun _=>undef) {w with drawn:=w.drawn+1} (by simp) (by unfold open_;exact Nat.le_trans List.countP_le_length (by simp)) hJ (fun i _ _=>hG0 i) (fun i hi h _=>by simp[hi] at h);rw[iU _ (fun _=>undef) _ (fun _=>false) ops.toList 0 a (fun i _ h2=>⟨by simp[Array.getElem?_replicate];split<;>rfl,fun _=>rfl⟩)] at this;have e0: ∀(l:List Oper) (k:Nat) (a:Act),dK (fun _=>undef) (fun _=>false) l k a=a:=by
  intro l;induction l with
  |nil=>intro _ _;rfl
  |cons o l ih=>intro k a;simp only[dK];exact ih _ _
 rw[e0] at this;exact this
def Yk (P:Program) (ops:Array Oper) (Q:Exit→Act→World→Prop) (a:Act) (keep:List Nat) (F:Nat→Value→World→Prop) (G:Nat→World→Prop) (J:World→Prop) (i:Nat) (o:Oper):Prop:=
 ∀(a':Act) (w':World),J w'→G i w'→a'.tmps.size=a.tmps.size→a'.defers=a.defers→kQ ops.toList a a' o.op.operands.toList→oO ops F a' w' o.after.toList→
  ∀K:Act→World→Prop,(∀v w'',F i v w''→J w''→(∀j u,j≠i→live ops keep i j=true→F j u w'→F j u w'')→(∀j,j≠i→waitsFor ops i j=false→G j w'→G j w'')→K (a'.put o.dst v) w'')→
   if Region.wanted o (yielded ops a'.tmps)=true then o.wp P a' w' K Q else K (a'.put o.dst undef) w'
def Ko (P:Program) (ops:Array Oper) (Q:Exit→Act→World→Prop) (a:Act) (keep:List Nat) (F:Nat→Value→World→Prop) (G:Nat→World→Prop) (J:World→Prop):List Oper→Nat→Prop
 |[],_=>True
 |o::l,k=>Yk P ops Q a keep F G J k o∧Ko P ops Q a keep F G J l (k+1)
theorem CG {a:Act} {keep:List Nat} {F:Nat→Value→World→Prop} {G:Nat→World→Prop} {J:World→Prop}: ∀(l:List Oper) (k:Nat),Ko P ops Q a keep F G J l k→ ∀i o,l[i]? =some o→Yk P ops Q a keep F G J (k+i) o
 |[],_,_,_,_,h=>by simp at h
 |o'::l,k,h,0,o,ho=>by
  simp only[List.getElem?_cons_zero,Option.some.injEq] at ho;subst ho;exact h.1
 |o'::l,k,h,i+1,o,ho=>by
  have:=CG l (k+1) h.2 i o (by simpa using ho);rwa [show k+1+i=k+(i+1) by omega] at this
theorem Da {id:Nat} {a:Act} {w:World} (hm:P.follows .mixedOrders=true) (hd:xx a.tmps.size ops.toList=true) (hb:backward ops=true) (hnd:SI ops=true)
  (keep:List Nat) (hk:(keep.all fun i=>decide (i<ops.size))=true) (F:Nat→Value→World→Prop) (G:Nat→World→Prop) (J:World→Prop) (hJ:J w.drew) (hG: ∀i,G i w.drew)
  (hstep:Ko P ops Q a keep F G J ops.toList 0)
  (hend: ∀(val:Nat→Value) (w':World),J w'→Bh F val w' keep→Q .normal (dK val (fun _=>true) ops.toList 0 a) w'):
  (Code.region id ops true).wpIn (Fence.wide.inRound l) n P Q a w:=by
 refine FZ hm hd hb (KY hnd) keep F G J hJ hG ?_ fun val w' h1 h2=>hend val w' h1 (zO _ fun i hi=>h2 i hi (by have:=List.all_eq_true.1 hk i hi;simpa using this))
 intro i hi o ho a' w' val hJ' hGi hsz hdf hfr hdep K hK;have st:=CG ops.toList 0 hstep i o (by simpa using ho);rw[Nat.zero_add] at st;refine st a' w' hJ' hGi hsz hdf ?_ ?_ K hK
 ·generalize o.op.operands.toList=l'
  induction l' with
  |nil=>trivial
  |cons x l'' ih=>
   cases x with
   |tmp t=>exact⟨fun h v hv=>Slot.mk ((hfr t h).trans hv),ih⟩
   |_=>exact ih
 ·have: ∀l':List Edge,(∀e∈l',e∈o.after)→oO ops F a' w' l':=by
   intro l';induction l' with
   |nil=>intro _;trivial
   |cons e l'' ih=>
    intro hl;refine⟨fun hg d hd=>⟨val e.on,Slot.mk (hdep e.on d ?_ hd).1,(hdep e.on d ?_ hd).2⟩,ih fun x hx=>hl x (by simp[hx])⟩;all_goals
     unfold takes;rw[ho];simp only;rw[List.any_eq_true];exact⟨e,by simpa using hl e (by simp),by rw[hg];simp⟩
  exact this _ fun e he=>by simpa using he
end
variable {F:Fence} {n:Nat} {P:Program}
def IY (Bs:Nat) {α:Type} (Ok:α→Prop) (F:Fence) (n:Nat) (P:Program) (g:Nat) (lb:Array Value) (encs:α→Array Value) (Kp:World→World→Prop) (S Sp:List α→Prop) (N:Nat) (w:World):Prop:=
 ∀(l:Nat) (J Jx:List α→World→Prop) (W:World),Below w.heap.size w W→AbidesFrom W.heap.size J→AbidesFrom W.heap.size Jx→(∀s W1 v,J s W1→J s (W1.setCell ⟨Bs,0,none⟩ v))→
  (∀pre x W1,J pre W1→pre.length<N→Ok x→YieldAt F (n-1) P l (encs x) W1 fun e W'=>
   (e=.returned (.bool true)∧J (pre++[x]) W'∧Kp W1 W')∨(e=.returned (.bool false)∧Jx (pre++[x]) W'))→
  J [] W→
  CallsIn F n P g (#[.func (.yield l) #[] #[]]++lb) W fun e W'=>(∃v,e=.returned v)∧((∃xs,S xs∧J xs W')∨(∃pre,Sp pre∧Jx pre W'))
theorem Bp {α:Type} {g:Operand} {ps:Array Tmp} {assign body:Code} {Q:Exit→Act→World→Prop} {a:Act} {w:World}
  (hro:F.round=none) (h1:1≤n) {gf Bs:Nat} {Ok:α→Prop} {lb:Array Value} (hg:a.eval g=.func (.func gf) #[] lb) (hFg:F.fn gf) (eg: ∀args w,(callFunc gf args).run P w=.ok (.enter gf args) w)
  {encs:α→Array Value} {Kp:World→World→Prop} {S Sp:List α→Prop} {N:Nat} {w0:World} (hseq:IY Bs Ok F (n-1) P gf lb encs Kp S Sp N w0)
  (hKt: ∀{A B C:World},Kp A B→Kp B C→Kp A C) (hKb: ∀(W:World) (l:Nat) (o o':Obj),w.heap.size≤l→W.heap[l]? =some o→o.isCells=false→o.isWalk=false→Kp W (W.putObj l o')) (hb0:Below w0.heap.size w0 w) (hps: ∀x,(encs x).size=ps.size)
  (hBs:Bs<w.heap.size) (I:List α→World→Prop) (Ix:Code→List α→World→Prop) (hI:OwnFrom w.heap.size I) (hIx: ∀c,OwnFrom w.heap.size (Ix c)) (hIs: ∀s W v,I s W→I s (W.setCell ⟨Bs,0,none⟩ v)) (h0:I [] w) (a₁:α→Act)
  (hassign: ∀(l:Nat) (x:α) (W:World) (K:Act→World→Prop),K (a₁ x) W→
   assign.wpIn (F.inRound l) (n-1-1) P (Exit.then K (fun _ _ _=>False)) {tmps:=(ps.zip (encs x)).foldl (fun t (p,v)=>t.setIfInBounds p v) a.tmps,defers:=[]} W)
  (hbody: ∀(l:Nat) (pre:List α) (x:α) (W:World),I pre W→pre.length<N→Ok x→body.wpIn (F.inRound l) (n-1-1) P (ownPostK Kp I Ix (pre++[x]) W) (a₁ x) W)
  (hdone: ∀(D:Nat) (xs:List α) (W:World),w.heap.size≤D→S xs→I xs W→W.heap[D]? =some (.deferred (some []))→Q .normal {a with defers:={target:=.collected D,args:= #[]}::a.defers} W)
  (hstop: ∀(D:Nat) (c:Code) (pre:List α) (W:World),w.heap.size≤D→Sp pre→Ix c pre W→W.heap[D]? =some (.deferred (some []))→c.wpIn F n P Q {a with defers:={target:=.collected D,args:= #[]}::a.defers} W):
  (Code.rangeFunc g ps assign body).wpIn F n P Q a w:=by
 refine wpIn_rangeFunc ?_;intro fn hfn;rw[hro];obtain⟨rec,hrec⟩: ∃rec:LoopState→Option Code→Loop,rec=fun st pe=>{state:=st,pending:=pe,fn,tmps:=a.tmps,params:=ps,assign,body,defers:=w.heap.size}:=⟨_,rfl⟩
 obtain⟨W1,hW1⟩: ∃W1,(w.alloc (.deferred (some []))).alloc (.loop (rec .ready none))=W1:=⟨_,rfl⟩
 have hL1:W1.heap[w.heap.size+1]? =some (.loop (rec .ready none)):=by
  rw[←hW1];have:=World.alloc_heap_new (w.alloc (.deferred (some []))) (.loop (rec .ready none));rwa [World.size_alloc] at this
 have hK1:W1.heap[w.heap.size]? =some (.deferred (some [])):=by
  rw[←hW1];exact(Below.heap_alloc _ _ _ (by simp)).trans (World.alloc_heap_new w _)
 have hI1:I [] W1:=by rw[←hW1];exact hI.alloc _ (hI.alloc _ h0)
 have hb1:Below w0.heap.size w0 W1:=by
  rw[←hW1];exact hb0.trans ((((Below.refl _ w).alloc (Nat.le_refl _) _).alloc (by simp) _).mono hb0.size)
 refine⟨w.heap.size+1,[{target:=.collected w.heap.size,args:= #[]}],W1,{target:=.fn (.func gf) lb,args:= #[.func (.yield (w.heap.size+1)) #[] #[]]},W1,gf,
  #[.func (.yield (w.heap.size+1)) #[] #[]]++lb,W1,?_,?_,?_,?_,fun _=>h1,?_⟩
 ·rw[←hW1,hrec];exact run_enterLoop_outer _ _ _ _ _
 ·simp only[resolve,hg]
  simp[go_sem]
 ·intro f' hf';simp[Target.leads] at hf';subst hf';exact hFg
 ·simp[invoke,go_sem,eg]
 ·
  have hnw: ∀{A B:World} {row:Option Nat},(∀r,row=some r→W1.heap.size≤r∧ ∃o:Obj,A.heap[r]? =some o∧o.isWalk=true)→(∀r,row=some r→w.heap.size≤r∧ ∃o:Obj,A.heap[r]? =some o∧o.isCells=false):=
   fun hr r e=>by obtain⟨hB,o,ho,hw⟩:=hr r e;exact⟨by rw[←hW1] at hB;simp at hB;omega,o,ho,Obj.not_cells_of_walk hw⟩
  refine(hseq (w.heap.size+1)
   (fun pre W=>I pre W∧W.heap[w.heap.size+1]? =some (.loop (rec .ready none))∧W.heap[w.heap.size]? =some (.deferred (some [])))
   (fun pre W=>∃c,Ix c pre W∧W.heap[w.heap.size+1]? =some (.loop (rec .done (some c)))∧W.heap[w.heap.size]? =some (.deferred (some [])))
   W1 hb1
   (fun s A B row hs hg' hr=>⟨hI s A B row hs.1 hg' (hnw (B:=B) hr),(grownBy_keeps hg' (fun r e=>(hr r e).2) hs.2.1 rfl).trans hs.2.1,(grownBy_keeps hg' (fun r e=>(hr r e).2) hs.2.2 rfl).trans hs.2.2⟩)
   (fun s A B row hs hg' hr=>by
    obtain⟨c,hc,hl,hk⟩:=hs;exact⟨c,hIx c s A B row hc hg' (hnw (B:=B) hr),(grownBy_keeps hg' (fun r e=>(hr r e).2) hl rfl).trans hl,(grownBy_keeps hg' (fun r e=>(hr r e).2) hk rfl).trans hk⟩)
   (fun s A v hs=>⟨hIs s A v hs.1,((grownBy_setCell' A Bs v).block _ (Array.getElem?_eq_some_iff.1 hs.2.1).1 (fun e=>by cases e;omega)).trans hs.2.1,((grownBy_setCell' A Bs v).block _ (Array.getElem?_eq_some_iff.1 hs.2.2).1 (fun e=>by cases e;omega)).trans hs.2.2⟩)
   ?_ ⟨hI1,hL1,hK1⟩).mono ?_
  ·
   rintro pre x W ⟨hi,hl,hk⟩ hlen hok;have hlt:w.heap.size+1<W.heap.size:=(Array.getElem?_eq_some_iff.1 hl).1;have hy:=run_yield (P:=P) (args:=encs x) hl (by rw[hrec];exact hps x);rw[hrec] at hy;refine⟨fn,_,assign,body,hy,roundIn_of_wpIn hfn (hassign _ x W _ ⟨_,run_beginRound hl (by rw[hrec]),?_⟩)⟩;have hl2:(W.putObj (w.heap.size+1) (.loop {rec .ready none with state:=.busy})).heap[w.heap.size+1]? =some (.loop {rec .ready none with state:=.busy}):=World.putObj_heap_same hlt;have hk2:(W.putObj (w.heap.size+1) (.loop {rec .ready none with state:=.busy})).heap[w.heap.size]? =some (.deferred (some [])):=(World.putObj_heap_other (by omega)).trans hk;have hw2:Kp W (W.putObj (w.heap.size+1) (.loop {rec .ready none with state:=.busy})):=hKb _ _ _ _ (by omega) hl rfl rfl;refine wpIn_mono (hbody _ pre x _ (hI.putObj _ hi (by omega) hl rfl) hlen hok) ?_;have fin: ∀(jump:Option Code) (W3:World),KeepsOthers (W.putObj (w.heap.size+1) (.loop {rec .ready none with state:=.busy})) W3→
     (Instr.endRound (w.heap.size+1) jump).run P W3=.ok (.bool jump.isNone) (W3.putObj (w.heap.size+1) (.loop (rec (if jump.isNone then .ready else .done) jump)))∧
     W3.heap[w.heap.size+1]? =some (.loop {rec .ready none with state:=.busy})∧
     (W3.putObj (w.heap.size+1) (.loop (rec (if jump.isNone then .ready else .done) jump))).heap[w.heap.size+1]? =some (.loop (rec (if jump.isNone then .ready else .done) jump))∧
     (W3.putObj (w.heap.size+1) (.loop (rec (if jump.isNone then .ready else .done) jump))).heap[w.heap.size]? =some (.deferred (some [])):=fun jump W3 hk3=>by
    have hl3:=hk3.same _ _ hl2 rfl;have:=run_endRound (P:=P) jump hl3;rw[hrec] at this⊢;exact⟨this,by rw[hrec] at hl3;exact hl3,World.putObj_heap_same (Array.getElem?_eq_some_iff.1 hl3).1,(World.putObj_heap_other (by omega)).trans (hk3.same _ _ hk2 rfl)⟩
   rintro e a3 W3 hp
   cases e with
   |normal=>
    obtain⟨hk3,hkp3,hi3⟩:=hp;obtain⟨hr,hl3,hl4,hk4⟩:=fin none W3 hk3;exact⟨_,_,hr,.inl ⟨rfl,⟨hI.putObj _ hi3 (by omega) hl3 rfl,hl4,hk4⟩,hKt (hKt hw2 hkp3) (hKb _ _ _ _ (by omega) hl3 rfl rfl)⟩⟩
   |ret=>
    obtain⟨hk3,hi3⟩:=hp;obtain⟨hr,hl3,hl4,hk4⟩:=fin (some .ret) W3 hk3;exact⟨_,_,hr,.inr ⟨rfl,.ret,(hIx _).putObj _ hi3 (by omega) hl3 rfl,hl4,hk4⟩⟩
   |exit id=>
    obtain⟨hk3,hi3⟩:=hp;obtain⟨hr,hl3,hl4,hk4⟩:=fin (some (.exit id)) W3 hk3;exact⟨_,_,hr,.inr ⟨rfl,.exit id,(hIx _).putObj _ hi3 (by omega) hl3 rfl,hl4,hk4⟩⟩
   |goto t=>
    obtain⟨hk3,hi3⟩:=hp;obtain⟨hr,hl3,hl4,hk4⟩:=fin (some (.goto t)) W3 hk3;exact⟨_,_,hr,.inr ⟨rfl,.goto t,(hIx _).putObj _ hi3 (by omega) hl3 rfl,hl4,hk4⟩⟩
   |panic ch=>exact hp.elim
   |outgrown=>exact hp.elim
  ·
   rintro e W2 ⟨⟨v,rfl⟩,(⟨xs,hS,hi,hl,hk⟩|⟨pre,hSp,c,hi,hl,hk⟩)⟩
   ·exact⟨none,_,by have:=run_endLoop (P:=P) hl (by rw[hrec];simp);rw[hrec] at this;exact this,hdone _ xs _ (Nat.le_refl _) hS (hI.putObj _ hi (by omega) hl rfl) ((World.putObj_heap_other (by omega)).trans hk)⟩
   ·exact⟨some c,_,by have:=run_endLoop (P:=P) hl (by rw[hrec];simp);rw[hrec] at this;exact this,hstop _ c pre _ (Nat.le_refl _) hSp ((hIx c).putObj _ hi (by omega) hl rfl) ((World.putObj_heap_other (by omega)).trans hk)⟩
end Nt
namespace Nt.Lin
open Go Nt.Ev
def lg:List UInt8→List UInt8→List (List UInt8)
 |[],cur=>match cur with|[]=>[]|_=>[cur]
 |c::t,cur=>bif c==10 then cur::lg t [] else lg t (cur++[c])
def eu (s:List UInt8):List (List UInt8):=lg s []
def dO (s:List UInt8):List UInt8:=s.takeWhile fun c=>c != 10
def dP (s:List UInt8):List UInt8:=s.drop ((dO s).length+1)
def lnF:Nat→List UInt8→List (List UInt8)
 |0,_=>[]
 |n+1,s=>match s with
  |[]=>[]
  |_=>bif s.contains 10 then(dO s++[10])::lnF n (dP s) else[s]
def K6 (s:List UInt8):List (List UInt8):=lnF (s.length+1) s
def lq (s:List UInt8):List UInt8:=Go.Lib.trimSuffix s [10]
theorem pW: ∀s:List UInt8,s.contains 10=true→s=dO s++10::dP s∧(dO s).contains 10=false
 |[],h=>by cases h
 |c::t,h=>by
  cases hc:c != 10 with
  |false=>
   have e:c=10:=by simpa using hc
   subst e;have e1:dO (10::t)=[]:=by unfold dO;rw[List.takeWhile_cons,hc];rfl
   unfold dP;rw[e1];exact⟨rfl,rfl⟩
  |true=>
   have e1:dO (c::t)=c::dO t:=by unfold dO;rw[List.takeWhile_cons,hc];rfl
   have e2:dP (c::t)=dP t:=by unfold dP;rw[e1];rfl
   have hn:c≠10:=by simpa using hc
   have h':t.contains 10=true:=by
    rw[List.contains_cons] at h;have:((10:UInt8)==c)=false:=by rw[beq_eq_false_iff_ne];exact fun e=>hn e.symm
    rwa [this,Bool.false_or] at h
   obtain⟨a,b⟩:=pW t h';rw[e1,e2];refine⟨by rw[List.cons_append,←a],?_⟩;rw[List.contains_cons,b];have:((10:UInt8)==c)=false:=by rw[beq_eq_false_iff_ne];exact fun e=>hn e.symm
   rw[this];rfl
theorem qM (s:List UInt8) (h:s.contains 10=true):(dP s).length+(dO s).length+1=s.length:=by
 have:=congrArg List.length (pW s h).1;rw[List.length_append,List.length_cons] at this;omega
theorem M6: ∀(n m:Nat) (s:List UInt8),s.length<n→s.length<m→lnF n s=lnF m s
 |0,_,s,h,_=>by omega
 |n+1,0,s,_,h=>by omega
 |n+1,m+1,s,h1,h2=>by
  cases s with
  |nil=>rfl
  |cons c t=>
   unfold lnF
   cases hc:(c::t).contains 10 with
   |false=>rfl
   |true=>
    have:=qM _ hc;simp only[cond_true];rw[M6 n m (dP (c::t)) (by omega) (by omega)]
theorem SK:K6 []=[]:=rfl
theorem uw {s:List UInt8} (h:s.contains 10=true):K6 s=(dO s++[10])::K6 (dP s):=by
 have hb:=qM s h
 cases s with
 |nil=>cases h
 |cons c t=>
  unfold K6;show(bif (c::t).contains 10 then(dO (c::t)++[10])::lnF (c::t).length (dP (c::t)) else[c::t])=_;rw[h,cond_true,M6 (c::t).length ((dP (c::t)).length+1) _ (by omega) (by omega)]
theorem uz {s:List UInt8} (h:s.contains 10=false) (h0:s≠[]):K6 s=[s]:=by
 cases s with
 |nil=>exact absurd rfl h0
 |cons c t=>
  unfold K6;show(bif (c::t).contains 10 then(dO (c::t)++[10])::lnF (c::t).length (dP (c::t)) else[c::t])=_;rw[h,cond_false]
theorem VD (a:List UInt8):lq (a++[10])=a:=by
 unfold lq Go.Lib.trimSuffix Go.Lib.hasSuffix;have h:([10]:List UInt8).isSuffixOf (a++[10])=true:=by rw[List.isSuffixOf_iff_suffix];exact List.suffix_append a [10]
 rw[if_pos h];simp
theorem VE {a:List UInt8} (h:a.contains 10=false):lq a=a:=by
 unfold lq Go.Lib.trimSuffix Go.Lib.hasSuffix;have h2: ¬([10]:List UInt8).isSuffixOf a=true:=by
  rw[List.isSuffixOf_iff_suffix];rintro⟨t,rfl⟩;rw[List.contains_append] at h;simp at h
 rw[if_neg h2]
theorem xX: ∀(a rest cur:List UInt8),a.contains 10=false→lg (a++10::rest) cur=(cur++a)::lg rest []
 |[],rest,cur,_=>by
  show(bif (10:UInt8)==10 then cur::lg rest [] else _)=_;rw[List.append_nil];rfl
 |c::a,rest,cur,h=>by
  rw[List.contains_cons,Bool.or_eq_false_iff] at h;have hc:(c==10)=false:=by
   rw[beq_eq_false_iff_ne];intro e;rw[e] at h;exact absurd h.1 (by decide)
  show(bif c==10 then cur::lg (a++10::rest) [] else lg (a++10::rest) (cur++[c]))=_;rw[hc,cond_false,xX a rest (cur++[c]) h.2,List.append_assoc];rfl
theorem IZ: ∀(a cur:List UInt8),a.contains 10=false→lg a cur=match cur++a with|[]=>[]|l=>[l]
 |[],cur,_=>by rw[List.append_nil];unfold lg;cases cur<;>rfl
 |c::a,cur,h=>by
  rw[List.contains_cons,Bool.or_eq_false_iff] at h;have hc:(c==10)=false:=by
   rw[beq_eq_false_iff_ne];intro e;rw[e] at h;exact absurd h.1 (by decide)
  show(bif c==10 then cur::lg a [] else lg a (cur++[c]))=_;rw[hc,cond_false,IZ a (cur++[c]) h.2,List.append_assoc];rfl
theorem PO: ∀(n:Nat) (s:List UInt8),s.length<n→eu s=(K6 s).map lq
 |0,s,h=>by omega
 |n+1,s,h=>by
  cases hc:s.contains 10 with
  |true=>
   have hb:=qM s hc;obtain⟨e1,e2⟩:=pW s hc;rw[uw hc,List.map_cons,VD,←PO n (dP s) (by omega)];unfold eu;have:=xX (dO s) (dP s) [] e2;rw[←e1,List.nil_append] at this;exact this
  |false=>
   cases s with
   |nil=>rfl
   |cons c t=>
    rw[uz hc (by simp),List.map_cons,List.map_nil,VE hc];exact IZ (c::t) [] hc
theorem PR: ∀(n:Nat) (s:List UInt8),s.length<n→(K6 s).length≤s.length
 |0,s,h=>by omega
 |n+1,s,h=>by
  cases hc:s.contains 10 with
  |true=>
   have hb:=qM s hc;rw[uw hc,List.length_cons];have:=PR n (dP s) (by omega);omega
  |false=>
   cases s with
   |nil=>exact Nat.le_refl _
   |cons c t=>rw[uz hc (by simp),List.length_cons,List.length_cons,List.length_nil];omega
theorem EU: ∀(t:List UInt8),Go.Lib.indexByte t 10=if t.contains 10=true then((dO t).length:Int) else -1
 |[]=>rfl
 |c::t=>by
  have e:Go.Lib.indexByte (c::t) 10=if c==10 then 0 else if Go.Lib.indexByte t 10== -1 then -1 else Go.Lib.indexByte t 10+1:=rfl
  rw[e,EU t]
  cases hc:c==10 with
  |true=>
   have e:c=10:=by simpa using hc
   subst e;have e1:dO (10::t)=[]:=rfl;rw[e1,if_pos rfl,List.contains_cons];simp
  |false=>
   have hn:c≠10:=by simpa using hc
   have hb:(c != 10)=true:=by simpa using hn
   have e1:dO (c::t)=c::dO t:=by unfold dO;rw[List.takeWhile_cons,hb];rfl
   have e2:(c::t).contains 10=t.contains 10:=by
    rw[List.contains_cons];have:((10:UInt8)==c)=false:=by rw[beq_eq_false_iff_ne];exact fun e=>hn e.symm
    rw[this,Bool.false_or]
   rw[e1,e2]
   cases h:t.contains 10 with
   |true=>
    have h3:((((dO t).length:Nat):Int)== -1)=false:=by
     rw[beq_eq_false_iff_ne];omega
    simp only[if_true,h3,List.length_cons];simp
   |false=>simp
theorem QM (s:List UInt8) (h:s.contains 10=true):s.take ((dO s).length+1)=dO s++[10]:=by
 conv=>lhs;arg 2;rw[(pW s h).1]
 rw[show dO s++10::dP s=(dO s++[10])++dP s by simp];exact List.take_left' (by simp)
end Nt.Lin
namespace Go.Proofs.YtplklcejbmfgdaaGreatDoor
open Go Go.RowKit Go.Shelf Nt Nt.Lin
attribute [local go_sem] Oper.semAt_some
theorem ZV (s:ByteArray) (w:World):
  CallsIn Fence.wide 9 Tryz.prog 29 #[.string s] w fun e w'=>e=.returned (.func (.func 64) #[] #[.pointer (some ⟨w.heap.size,0,none⟩)])∧w'=w.alloc (.cells #[.string s] 9):=by
 refine callsIn_of_wp Tryz.func29 rfl trivial ?_ rfl;simp only[Tryz.ntmps29,List.size_toArray,List.length_cons,List.length_nil,Nat.reduceAdd,Nat.reduceSub,Array.replicate_succ,Array.replicate_zero,List.push_toArray,List.append_toArray,List.nil_append,List.cons_append];gi_wp2
 go_ret
 exact⟨rfl,rfl⟩
def Xl (Bs:Nat) (W:World):Nat:=match W.cell? ⟨Bs,0,none⟩ with|some (.string s)=>s.size|_=>0
theorem Du {Bs:Nat} {W:World} {l:List UInt8} (h:W.heap[Bs]? =some (.cells #[Value.string ⟨l.toArray⟩] 9 (0,0))):Xl Bs W=l.length:=by
 unfold Xl;have:W.cell? ⟨Bs,0,none⟩=some (.string ⟨l.toArray⟩):=by simp[World.cell?,h]
 rw[this];simp[ByteArray.size]
set_option maxRecDepth 100000 in
set_option maxHeartbeats 1000000 in
theorem VF (l Bs:Nat) (src:List UInt8) (hsrc:src.length≤4000000000) (J Jx:List (List UInt8)→World→Prop)
  (hJs: ∀s W1 v,J s W1→J s (W1.setCell ⟨Bs,0,none⟩ v))
  (hJd: ∀s W1,J s W1→J s W1.drew)
  (hY: ∀pre x W,J pre W→pre.length<(K6 src).length→x.length≤4000000000→YieldAt Fence.wide 8 Tryz.prog l #[Value.string ⟨(x).toArray⟩] W fun e W'=>
   (e=.returned (.bool true)∧J (pre++[x]) W'∧W'.heap[Bs]? =W.heap[Bs]?)∨(e=.returned (.bool false)∧Jx (pre++[x]) W'))
  (W:World) (hBs:W.heap[Bs]? =some (.cells #[Value.string ⟨(src).toArray⟩] 9 (0,0))) (h0:J [] W):
  CallsIn Fence.wide 9 Tryz.prog 64 #[.func (.yield l) #[] #[],.pointer (some ⟨Bs,0,none⟩)] W fun e W'=>(∃v,e=.returned v)∧
   ((∃ys,ys=K6 src∧J ys W')∨(∃pre,pre<+:K6 src∧Jx pre W')):=by
 refine callsIn_of_wp Tryz.func64 rfl trivial ?_ rfl;simp only[Tryz.ntmps64,List.size_toArray,List.length_cons,List.length_nil,Nat.reduceAdd,Nat.reduceSub,Array.replicate_succ,Array.replicate_zero,List.push_toArray,List.append_toArray,List.nil_append,List.cons_append];gi_wp2
 gi_loopw [] (fun wr=>∃(pre:List (List UInt8)) (rest:List UInt8),wr.heap[Bs]? =some (.cells #[Value.string ⟨(rest).toArray⟩] 9 (0,0))∧K6 src=pre++K6 rest∧rest.length≤4000000000∧J pre wr)
  (fun wr=>Xl Bs wr)
 case atStart=>
  exact⟨[],src,hBs,rfl,hsrc,h0⟩
 case round=>
  obtain⟨pre,rest,hB,hx,hrl,hJ⟩:=hrel;have hcell:wr.cell? ⟨Bs,0,none⟩=some (Value.string ⟨(rest).toArray⟩):=by simp[World.cell?,hB]
  have hfr:wr.frozen? ⟨Bs,0,none⟩=false:=by simp[World.frozen?,hB]
  cases rest with
  |nil=>
   gi_wp2
   go_end0
   exact⟨⟨_,rfl⟩,.inl ⟨pre,by rw[hx,SK,List.append_nil],hJ⟩⟩
  |cons c0 t0=>
   obtain⟨s0,hs0⟩: ∃s0,c0::t0=s0:=⟨_,rfl⟩
   have hpos:0<s0.length:=by rw[←hs0];simp
   rw[hs0] at hB hx hcell hrl
   cases hc:s0.contains 10 with
   |true=>
    have hib:=EU s0;rw[hc,if_pos rfl] at hib;have hb:=qM s0 hc;gi_wp2
    refine⟨trivial,?_⟩;refine(callsIn_wide.2 (Tryz.strings_IndexByte _ _ _)).mono ?_;rintro e w1 ⟨rfl,rfl⟩;gi_wp2
    have hmx:Tryz.prog.follows .mixedOrders=true:=by kernel_rfl
    obtain⟨k,hk⟩: ∃k,(dO s0).length=k:=⟨_,rfl⟩
    rw[hk] at hb;rw[hk];have hw1:IntKind.i64.wrap ((k:Int)+1)=(k:Int)+1:=IntWalk.i64_in _ (by omega);have hw2:(0:Int)≤(k:Int)+1:=by omega
    have hw3:((k:Int)+1).toNat=k+1:=by omega
    have hw4:(k:Int)+1≤(s0.length:Int):=by omega
    have hw5:k+1≤s0.length:=by omega
    have hx1:(⟨s0.toArray⟩:ByteArray).extract 0 (k+1)=⟨(dO s0++[10]).toArray⟩:=by
     have:=Nt.Ev.Po s0 0 ((k+1:Nat):Int);simp only[Int.toNat_zero,Int.toNat_natCast] at this;rw[this,←QM s0 hc,hk];unfold Nt.Ev.dF;simp
    have hx2:(⟨s0.toArray⟩:ByteArray).extract (k+1) s0.length=⟨(dP s0).toArray⟩:=by
     have:=Nt.Ev.Po s0 ((k+1:Nat):Int) (s0.length:Int);simp only[Int.toNat_natCast] at this;rw[this];unfold Nt.Ev.dF dP;rw[hk,Int.toNat_natCast,Int.toNat_natCast,List.take_of_length_le (by simp)]
    gi_region_with_o fail
    all_goals try rw[hx1]
    all_goals try rw[hx2]
    all_goals
     obtain⟨W2,hW2⟩: ∃W2,(w1.setCell {block:=Bs,off:=0} (Value.string ⟨(dP s0).toArray⟩)).drew=W2:=⟨_,rfl⟩
     rw[hW2];have hJ2:J pre W2:=by rw[←hW2];exact hJd _ _ (hJs _ _ _ hJ)
     have hB2:W2.heap[Bs]? =some (.cells #[Value.string ⟨(dP s0).toArray⟩] 9 (0,0)):=by
      rw[←hW2];exact Boxed.set (W:=w1) (B:=Bs) (t:=9) _ hB
     obtain⟨fn,tmps,assign,body,hy,hR⟩:=hY pre (dO s0++[10]) W2 hJ2 (by rw[hx,uw hc];simp) (by rw[List.length_append,List.length_cons,List.length_nil];omega);gi_wp2
     refine hR.mono ?_;rintro e W3 (⟨rfl,hJ3,hk3⟩|⟨rfl,hJx3⟩)
     ·gi_wp2
      go_roundw
      case rel=>exact⟨pre++[dO s0++[10]],dP s0,hk3.trans hB2,by rw[hx,uw hc];simp,by omega,hJ3⟩
      case measure=>
       rw[Du (hk3.trans hB2),Du hB];omega
     ·gi_wp2
      refine bodyPost_ret (results_none rfl _ _ _) rfl ?_;exact⟨⟨_,rfl⟩,.inr ⟨pre++[dO s0++[10]],⟨K6 (dP s0),by rw[hx,uw hc];simp⟩,hJx3⟩⟩
   |false=>
    have hib:=EU s0;rw[hc,if_neg (by decide)] at hib;gi_wp2
    refine⟨trivial,?_⟩;refine(callsIn_wide.2 (Tryz.strings_IndexByte _ _ _)).mono ?_;rintro e w1 ⟨rfl,rfl⟩;have hJ2:J pre (w1.setCell {block:=Bs,off:=0} (Value.string ⟨#[]⟩)):=hJs _ _ _ hJ;have hB2:(w1.setCell {block:=Bs,off:=0} (Value.string ⟨#[]⟩)).heap[Bs]? =some (.cells #[Value.string ⟨([]:List UInt8).toArray⟩] 9 (0,0)):=
     Boxed.set (W:=w1) (B:=Bs) (t:=9) _ hB
    have hne:s0≠[]:=by rw[←hs0];simp
    obtain⟨fn,tmps,assign,body,hy,hR⟩:=hY pre s0 _ hJ2 (by rw[hx,uz hc hne];simp) hrl;gi_wp2
    refine hR.mono ?_;rintro e W3 (⟨rfl,hJ3,hk3⟩|⟨rfl,hJx3⟩)
    ·gi_wp2
     go_roundw
     case rel=>exact⟨pre++[s0],[],hk3.trans hB2,by rw[hx,uz hc hne,SK];simp,by simp,hJ3⟩
     case measure=>
      rw[Du (hk3.trans hB2),Du hB];simpa using hpos
    ·gi_wp2
     refine bodyPost_ret (results_none rfl _ _ _) rfl ?_;exact⟨⟨_,rfl⟩,.inr ⟨pre++[s0],⟨[],by rw[hx,uz hc hne];simp⟩,hJx3⟩⟩
theorem step_skip {P:Program} {ops:Array Oper} {Q:Exit→Act→World→Prop} {o:Oper} {a':Act} {w' w'':World} {K:Act→World→Prop} (hg:o.guard=none) (h:(execOp a'.eval o).run P w'=.ok .skip w'') (hk:K (a'.put o.dst undef) w''):
  if Region.wanted o (yielded ops a'.tmps)=true then o.wp P a' w' K Q else K (a'.put o.dst undef) w':=by
 rw[if_pos (by simp[Region.wanted,hg])];unfold Oper.wp;rw[h];exact hk
theorem CJ {W:World} {base:Nat} {e:TypeId} {size:Nat} {p:Option Addr} {n cap k:Nat} {xs:List Value} (h:W.ownsRow base e size (.slice p n cap) k xs):n=k:=by
 rcases h.2 with⟨h1,h2⟩|⟨g,cap',cur,h1,_⟩
 ·cases h1;omega
 ·cases h1;rfl
theorem KZ {W:World} {base:Nat} {e:TypeId} {size:Nat} {v:Value} {k m:Nat} {xs ys:List Value} (h:W.ownsRow base e size v k xs) (h':W.ownsRow base e size v m ys):k=m:=by
 rcases h.2 with⟨rfl,h2⟩|⟨g,cap',cur,rfl,_⟩
 ·exact(show 0=k by omega)▸CJ h'
 ·exact CJ h'
def FO (O:Nat) (v:Value) (k:Nat) (xs:List Value) (x:List UInt8):Nat→Value→World→Prop
 |0,u,_=>u=v
 |1,u,_=>u=.string ⟨x.toArray⟩
 |2,u,_=>u=.string ⟨(lq x).toArray⟩
 |3,u,w=>∃g,u=.slice (some ⟨g,0,none⟩) 1 1∧w.heap[g]? =some (.cells #[.string ⟨(lq x).toArray⟩] 9 (0,0))
 |4,u,w=>w.ownsRow (O+2) 9 1 u (k+1) (xs++[.string ⟨(lq x).toArray⟩])
 |5,_,w=>∃u,Boxed w O 24 u∧w.ownsRow (O+2) 9 1 u (k+1) (xs++[.string ⟨(lq x).toArray⟩])
 |_,_,_=>True
def GO (O:Nat) (v:Value) (k:Nat) (xs:List Value):Nat→World→Prop
 |0,w=>Boxed w O 24 v∧w.ownsRow (O+2) 9 1 v k xs
 |4,w=>Boxed w O 24 v∧w.ownsRow (O+2) 9 1 v k xs
 |5,w=>∃u,Boxed w O 24 u
 |_,_=>True
theorem ZW {O:Nat} {v:Value} {k:Nat} {xs:List Value} {x:List UInt8} {w:World} (o:Obj) (j:Nat) (u:Value) (h:FO O v k xs x j u w):FO O v k xs x j u (w.alloc o):=by
 unfold FO at*;split at h
 ·exact h
 ·exact h
 ·exact h
 ·obtain⟨g,rfl,h⟩:=h
  exact⟨g,rfl,ZT h (iI _ _)⟩
 ·exact h.alloc _
 ·obtain⟨u,h1,h2⟩:=h
  exact⟨u,h1.alloc _,h2.alloc _⟩
 ·trivial
theorem ZX {O:Nat} {v:Value} {k:Nat} {xs:List Value} {w:World} (o:Obj) (j:Nat) (h:GO O v k xs j w):GO O v k xs j (w.alloc o):=by
 unfold GO at*;split at h
 ·exact⟨h.1.alloc _,h.2.alloc _⟩
 ·exact⟨h.1.alloc _,h.2.alloc _⟩
 ·obtain⟨u,h⟩:=h
  exact⟨u,h.alloc _⟩
 ·trivial
theorem infoS:(Tryz.prog.info? 9).map (fun i=>(i.zero,i.size,i.bytes))=some (some (.string ⟨#[]⟩),1,16):=by kernel_rfl
abbrev G9 (l:List (List UInt8)):List Value:=l.map fun x=>Value.string ⟨x.toArray⟩
set_option maxRecDepth 100000 in
set_option maxHeartbeats 2000000 in
theorem of_in (s:List UInt8) (hs:s.length≤4000000000) (w:World):
  CallsIn Fence.wide 10 Tryz.prog 10 #[.string ⟨s.toArray⟩] w fun e W'=>∃v,e=.returned v∧W'.ownsRow w.heap.size 9 1 v (eu s).length (G9 (eu s))∧Below w.heap.size w W':=by
 have hll:=PR (s.length+1) s (by omega);obtain⟨i0,hi,hz0,hz1,hz2⟩:=info_parts infoS;refine callsIn_of_wp_marks Tryz.func10 rfl trivial ?_ rfl;simp only[Tryz.ntmps10,List.size_toArray,List.length_cons,List.length_nil,Nat.reduceAdd,Nat.reduceSub,Array.replicate_succ,Array.replicate_zero,List.push_toArray,List.append_toArray,List.nil_append,List.cons_append];gi_wp2_with (refine⟨trivial,?_⟩;gi_at_call 29;refine(ZV _ _).mono ?_;rintro e w' ⟨rfl,rfl⟩)
 have bO:=Boxed.new w 24 (.slice none 0 0);have bN:=Boxed.new (w.alloc (.cells #[.slice none 0 0] 24)) 9 (.string ⟨s.toArray⟩);rw[World.size_alloc] at bN;have hB0:Below w.heap.size w ((w.alloc (.cells #[.slice none 0 0] 24)).alloc (.cells #[.string ⟨s.toArray⟩] 9)):=((Below.refl _ w).alloc (Nat.le_refl _) _).alloc (by simp) _;obtain⟨w2,hw2⟩: ∃w2,((w.alloc (.cells #[.slice none 0 0] 24)).alloc (.cells #[.string ⟨s.toArray⟩] 9))=w2:=⟨_,rfl⟩
 have hw2s:w2.heap.size=w.heap.size+2:=by rw[←hw2];simp
 have bO2:Boxed w2 w.heap.size 24 (.slice none 0 0):=by rw[←hw2];exact bO.alloc _
 rw[hw2] at bN hB0⊢;have hstops:IY (w.heap.size+1) (fun x:List UInt8=>x.length≤4000000000) Fence.wide 9 Tryz.prog 64 #[.pointer (some ⟨w.heap.size+1,0,none⟩)] (fun x:List UInt8=> #[Value.string ⟨x.toArray⟩]) (fun A B=>B.heap[w.heap.size+1]? =A.heap[w.heap.size+1]?) (fun ys=>ys=K6 s) (fun pre=>pre<+:K6 s) (K6 s).length w2:=by
  intro l J Jx W hW hJ _ hJs hY h0;refine VF l (w.heap.size+1) s hs J Jx hJs (fun q W1 hq=>hJ q W1 _ none hq ⟨rfl,rfl,rfl,Nat.le_refl _,fun _ _ _=>rfl⟩ (fun r e=>by cases e)) hY W ?_ h0;exact(hW.block _ (by omega)).trans bN
 refine Bp (Bs:=w.heap.size+1) (F:=Fence.wide) (n:=10) rfl (by omega) (gf:=64) (lb:= #[.pointer (some ⟨w.heap.size+1,0,none⟩)]) rfl trivial (enters_of Tryz.func64 (by kernel_rfl) rfl)
  hstops (fun h k=>k.trans h) (fun W l o o' hl h _ _=>World.putObj_heap_other (by omega)) (Below.refl _ _) (fun _=>rfl) (by omega)
  (fun pre W=>(∃v,Boxed W w.heap.size 24 v∧W.ownsRow (w.heap.size+2) 9 1 v pre.length (G9 (pre.map lq))∧True)∧Below w.heap.size w2 W)
  (fun _ _ _=>False)
  (OwnFrom.and (Own.from (holdsRow_own (w.heap.size+2) w.heap.size 24 9 1 (fun pre:List (List UInt8)=>pre.length) (fun pre=>G9 (pre.map lq)) (fun _ _=>True)) _) (ownFrom_below (by omega) (by omega)))
  (fun _ _ _ _ _ hs _ _=>hs)
  ?store
  ⟨⟨_,bO2,World.ownsRow_nil _ _ _ _,trivial⟩,Below.refl _ _⟩
  (fun x=>{tmps:= #[.string ⟨s.toArray⟩,undef,.slice none 0 0,.pointer (some ⟨w.heap.size,0,none⟩),.string ⟨x.toArray⟩,.string ⟨s.toArray⟩,.func (.func 64) #[] #[.pointer (some ⟨w.heap.size+1,0,none⟩)],.string ⟨x.toArray⟩,undef,undef,undef,undef,undef,undef],defers:=[]}) ?assign ?body ?done ?stop
 case store=>
  rintro pre W v ⟨⟨u,hu,hr,_⟩,hB⟩;refine⟨⟨u,hu.other (by omega) v,hr.kept (grownBy_setCell' W _ v) ?_,trivial⟩,hB.setCell (p:=⟨w.heap.size+1,0,none⟩) (by simp) _⟩
  cases h:u.ownBlock with
  |none=>exact .inl rfl
  |some k=>
   refine .inr fun e=>?_
   have:=(hr.lt k h).1
   cases e;omega
 case assign=>
  intro l x W K hK;gi_wp2
  exact hK
 case body=>
  rintro l pre x W ⟨⟨v,hv,hrow,_⟩,hB⟩ hlt hxl;have hc:=hv.cell;have hmx:Tryz.prog.follows .mixedOrders=true:=by kernel_rfl
  gi_wp2
  have hte:24≠9:=by decide
  have hwl:w.heap.size+2≤W.heap.size:=by have:=hB.size;omega
  refine Da hmx (by kernel_rfl) (by kernel_rfl) (by kernel_rfl) [5] (by decide) (FO w.heap.size v pre.length (G9 (pre.map lq)) x) (GO w.heap.size v pre.length (G9 (pre.map lq)))
   (fun w'=>Below w.heap.size W w'∧KeepsOthers W w'∧w'.heap[w.heap.size+1]? =W.heap[w.heap.size+1]?) ⟨(Below.refl _ _).drew,KeepsOthers.drew _,rfl⟩ ?_ ?_ ?_
  ·intro i
   unfold GO;split
   ·exact⟨hv,hrow⟩
   ·exact⟨hv,hrow⟩
   ·exact⟨v,hv⟩
   ·trivial
  ·refine⟨?_,?_,?_,?_,?_,?_,trivial⟩
   ·intro a' w' hJ hG _ _ hf hd K hK
    simp[kQ,oO,Op.operands,FO,Slot] at hf hd;have hcl:=hG.1.cell;refine rH rfl ?_ (hK v w' rfl hJ (fun _ _ _ _ h=>h) (fun _ _ _ h=>h));go_simp
   ·intro a' w' hJ hG _ _ hf hd K hK
    simp[kQ,oO,Op.operands,FO,Slot] at hf hd;refine rH rfl ?_ (hK (.string ⟨x.toArray⟩) w' rfl hJ (fun _ _ _ _ h=>h) (fun _ _ _ h=>h));go_simp
   ·intro a' w' hJ hG _ _ hf hd K hK
    simp[kQ,oO,Op.operands,FO,Slot] at hf hd;refine VC rfl (f:=30) (args:= #[.string ⟨x.toArray⟩,.string ⟨#[10]⟩]) ?_ ?_
    ·go_simp
    ·refine Calls.mono (Tryz.strings_TrimSuffix _ _ _ (by simp[ByteArray.size];omega)) ?_
     rintro e w'' ⟨rfl,rfl⟩;exact⟨_,rfl,hK _ _ rfl hJ (fun _ _ _ _ h=>h) (fun _ _ _ h=>h)⟩
   ·intro a' w' hJ hG _ _ hf hd K hK
    simp[kQ,oO,Op.operands,FO,Slot] at hf hd;refine rH rfl ?_ (hK (.slice (some ⟨w'.heap.size,0,none⟩) 1 1) (w'.alloc (.cells #[.string ⟨(lq x).toArray⟩] 9)) ⟨_,rfl,World.alloc_heap_new w' _⟩ ⟨Below.alloc hJ.1 (by have:=hJ.1.size;omega) _,hJ.2.1.trans (KeepsOthers.alloc _ _),(Below.heap_alloc _ _ _ (by have:=hJ.1.size;omega)).trans hJ.2.2⟩ (fun j u _ _ h=>ZW _ j u h) (fun j _ _ h=>ZX _ j h));go_simp
   ·intro a' w' hJ hG _ _ hf hd K hK
    obtain⟨h0,h3,_⟩:=hd;obtain⟨u0,⟨h8,_⟩,e0⟩:=h0 rfl _ rfl;have e0:u0=v:=e0;rw[e0] at h8;obtain⟨u3,⟨h11,_⟩,g,rfl,hg⟩:=h3 rfl _ rfl;obtain⟨hv',hrow'⟩:=hG;have hsz':=hJ.1.size;have hnews: ∀j u,([.string ⟨(lq x).toArray⟩]:List Value)[j]? =some u→w'.cell? ((⟨g,0,none⟩:Addr).add j)=some u:=by
     intro j u hj;match j,hj with
     |0,hj=>simp at hj;subst hj;simp[Addr.add,World.cell?,hg]
    obtain⟨v',w'',hrun,hown',hgrow,_⟩:=run_append_own (P:=Tryz.prog) w' (w.heap.size+2) 24 24 9 i0 (.string ⟨#[]⟩) 1 16 Tryz.underlying24 hi hz0 hz1 hz2 rfl (by decide) v pre.length _ hrow' ⟨g,0,none⟩ 1 1 [.string ⟨(lq x).toArray⟩] rfl hnews (by simp[Value.oneCell']) (by unfold maxLen;omega) (by omega) (by omega);have hv2:Boxed w'' w.heap.size 24 v:=hv'.kept hgrow (hv'.not_row hte hrow');refine rH rfl ?_ (hK v' w'' hown' ⟨?_,?_,?_⟩ (fun j u hne hl h=>?_) (fun j hne hw h=>?_))
    ·simp[execOp,resolve,invoke,builtin,Act.eval,h8,h11,hrun,Result.andThen]
    ·exact hJ.1.grown hgrow (by omega) (fun k e=>by have:=(hrow'.lt k e).1;omega)
    ·refine hJ.2.1.trans (KeepsOthers.of_grownBy hgrow fun j o ej hj=>?_)
     rcases hrow'.2 with⟨rfl,_⟩|⟨g',cap,cur,rfl,_,hgb,_⟩
     ·simp[Value.ownBlock] at ej
     ·obtain rfl:g'=j:=by simpa[Value.ownBlock] using ej
      rw[hgb] at hj;cases hj;rfl
    ·refine(hgrow.block _ (by omega) (fun e=>?_)).trans hJ.2.2
     have:=(hrow'.lt _ e.symm).1;omega
    ·have n3:j≠3:=fun e=>by subst e;exact absurd (hl.symm.trans (by kernel_rfl:_=false)) (by decide: ¬true=false)
     unfold FO at*;split at h
     ·exact h
     ·exact h
     ·exact h
     ·exact absurd rfl n3
     ·exact absurd rfl hne
     ·exfalso
      obtain⟨u0,hu0,hr0⟩:=h;have e1:u0=v:=by
       have:=hu0.symm.trans hv';simpa using this
      subst e1;have k1:=KZ hr0 hrow';omega
     ·trivial
    ·have n0:j≠0:=fun e=>by subst e;exact absurd (hw.symm.trans (by kernel_rfl)) (by decide: ¬false=true)
     unfold GO at*;split at h
     ·exact absurd rfl n0
     ·exact absurd rfl hne
     ·exact⟨v,hv2⟩
     ·trivial
   ·intro a' w' hJ hG _ _ hf hd K hK
    obtain⟨h4,_⟩:=hd;obtain⟨u4,⟨h12,_⟩,hown'⟩:=h4 rfl _ rfl;have hown':w'.ownsRow (w.heap.size+2) 9 1 u4 (pre.length+1) (G9 (pre.map lq)++[.string ⟨(lq x).toArray⟩]):=hown';obtain⟨u0,hu0⟩:=hG;have hcl:=hu0.cell;have hfr:=hu0.frozen;have hsz':=hJ.1.size;obtain⟨g4,cap4,rfl⟩:=ownsRow_succ hown';refine step_skip rfl ?_ (hK undef (w'.setCell ⟨w.heap.size,0,none⟩ (.slice (some ⟨g4,0,none⟩) (pre.length+1) cap4)) ⟨_,hu0.set _,hown'.kept (grownBy_setCell' w' _ _) (.inr (hu0.not_row hte hown').symm)⟩ ⟨?_,?_,?_⟩ (fun j u hne hl h=>?_) (fun j hne hw h=>?_))
    ·obtain⟨h3,_⟩:=hf
     obtain⟨h3,_⟩:=h3 rfl (.pointer (some ⟨w.heap.size,0,none⟩)) rfl;go_simp
    ·exact hJ.1.setCell (p:=⟨w.heap.size,0,none⟩) (Nat.le_refl _) _
    ·exact hJ.2.1.trans (KeepsOthers.setCell _ _ _)
    ·exact((grownBy_setCell' w' w.heap.size _).block _ (by omega) (fun e=>by have:=Option.some.inj e;omega)).trans hJ.2.2
    ·have n3:j≠3:=fun e=>by subst e;exact absurd (hl.symm.trans (by kernel_rfl:_=false)) (by decide: ¬true=false)
     have n4:j≠4:=fun e=>by subst e;exact absurd (hl.symm.trans (by kernel_rfl:_=false)) (by decide: ¬true=false)
     unfold FO at*;split at h
     ·exact h
     ·exact h
     ·exact h
     ·exact absurd rfl n3
     ·exact absurd rfl n4
     ·exact absurd rfl hne
     ·trivial
    ·have n0:j≠0:=fun e=>by subst e;exact absurd (hw.symm.trans (by kernel_rfl)) (by decide: ¬false=true)
     have n4:j≠4:=fun e=>by subst e;exact absurd (hw.symm.trans (by kernel_rfl)) (by decide: ¬false=true)
     unfold GO at*;split at h
     ·exact absurd rfl n0
     ·exact absurd rfl n4
     ·exact absurd rfl hne
     ·trivial
  ·intro val w' hJ hF
   obtain⟨⟨u,hu,hr⟩,_⟩:=hF;refine⟨hJ.2.1,hJ.2.2,⟨u,hu,?_,trivial⟩,hB.trans hJ.1⟩;simpa using hr
 case done=>
  rintro D ys W hD rfl ⟨⟨v,hv,hrow,_⟩,hB⟩ hK;have hc:=hv.cell;gi_wp2
  refine⟨by simp,.inl ⟨_,_,rfl,run_takeDeferred hK,?_⟩⟩;refine⟨_,results_tmp rfl _ _ _,v,rfl,?_,?_⟩
  ·have hlP:eu s=(K6 s).map lq:=PO (s.length+1) s (by omega)
   rw[hlP,List.length_map];exact KW (ownsRow_putObj hrow _ hK rfl) (by omega)
  ·exact hB0.trans (hB.trans (belowK_b (w:=w2) (by omega) W D _ _ hD hK rfl rfl))
 case stop=>
  rintro D c pre W _ _ h _;exact h.elim
end Go.Proofs.YtplklcejbmfgdaaGreatDoor
namespace Nt.Ev.YtplklcejbmfgdaaGreatDoor
open Go Nt.Num Go.Proofs.YtplklcejbmfgdaaGreatDoor
noncomputable def TR:V→Bool| .nilp=>true| .box k off=>k==HL&&off==0|_=>false
noncomputable def bbOk:V→Bool| .nilsl=>true| .sl e sh (some L) xs=>e==5&&Kd.qO [.int .u8] sh&&L==1000001002|_=>false
noncomputable def bbS:V→List UInt8| .sl _ _ _ xs=>gM xs|_=>[]
noncomputable def bbN:V→V| .sl e sh _ xs=> .sl e sh none xs|v=>v
noncomputable def bCpS:aF:=fun a=>match a with|[.bxa 0 [x,b]]=>some (TR x,.out false (.tup []) [[.box HL 0,b]])|_=>none
noncomputable def bStS:aF:=fun a=>match a with|[.bxa 0 [x,b]]=>some (ak (TR x) (bbOk b),.out false (.str (bbS b)) [[x,bbN b]])|_=>none
set_option maxRecDepth 100000
open Go.RowKit Nt
theorem M7 {x:V} (h:TR x=true):x=.nilp∨x=.box HL 0:=by
 unfold TR at h;split at h
 ·exact .inl rfl
 ·rename_i k off
  rw[Bool.and_eq_true,beq_iff_eq,beq_iff_eq] at h;rw[h.1,h.2];exact .inr rfl
 ·cases h
theorem bCpS_ok (x b:V) (hc:TR x=true):rP oE 68 [.bxa 0 [x,b]] (.out false (.tup []) [[.box HL 0,b]]):=
 rP.out (SE rfl x b [] (M7 hc))
theorem bStS_ok (x b:V) (hc:ak (TR x) (bbOk b)=true):rP oE 34 [.bxa 0 [x,b]] (.out false (.str (bbS b)) [[x,bbN b]]):=by
 obtain⟨h1,h2⟩:=aY hc;refine rP.out ?_;unfold bbOk at h2;split at h2
 ·exact wH rfl x []
 ·rename_i e sh L xs
  rw[Bool.and_eq_true,Bool.and_eq_true,beq_iff_eq,beq_iff_eq] at h2;obtain⟨⟨rfl,h3⟩,rfl⟩:=h2;have h3:=Kd.bK _ _ h3;subst h3;exact IW rfl x [] (by rcases M7 h1 with rfl|rfl<;>rfl) rfl xs
 ·cases h2
theorem bcat (a b:List UInt8):aZ (aJ a) (aJ b)=aJ (a++b):=by unfold aZ aJ;simp
theorem bvb (l:List UInt8):gM (aJ l)=l:=by
 unfold gM aJ;rw[List.map_map];refine(List.map_congr_left fun c _=>?_).trans (List.map_id l);show UInt8.ofNat ((c.toNat:Int)).toNat=c;rw[Int.toNat_natCast];exact UInt8.ofNat_toNat
theorem bapp (a b:List UInt8) (h:a.length+b.length≤16777216):fI (aJ a) (aJ b)=true:=by
 rw[kU];unfold aJ;rw[List.length_map,List.length_map];omega
theorem bnew (a:List UInt8) (h:a.length≤16777216):vQ (aJ a)=true:=by
 unfold vQ nle aJ;rw[List.length_map];exact decide_eq_true h
open Nt.Lin
def bY (s:List UInt8):List V:=bL (eu s)
def vK (s:List UInt8):Bool:=s.any fun c=>aG (ieq (c.toNat:Int) 9)&&(aT (c.toNat:Int) 32||aT 126 (c.toNat:Int))
noncomputable def xOfS:aF:=fun a=>match a with|[.str s]=>some (ai (aj s) 4000000,.sl 9 [.str] none (bY s))|_=>none
noncomputable def xCfS:aF:=fun a=>match a with|[.str s,.fn f []]=>some (ak (f==102) (ai (aj s) 4000000),.bool (vK s))|_=>none
noncomputable def xS0:List (Nat×aF):=(10,xOfS)::(103,xCfS)::[]
def DD (s:List UInt8):Int:=sel (aT 511 (aj s)) 9 (sel (vK s) 7 0)
noncomputable def xCkS:aF:=fun a=>match a with|[.str s]=>some (ai (aj s) 4000000,.int .i64 (DD s))|_=>none
noncomputable def xS1:List (Nat×aF):=(86,xCkS)::xS0
noncomputable def xSb:List (Nat×aF):=(GX+68,bCpS)::(GX+34,bStS)::[]
theorem ZY (F:Nat) (r:Int) (K:V→Option V):
 cr oE (bV oE oS F 2) F 102 [V.int .i32 r] K=
 sel (aG (ieq r 9)) (sel (aT r 32) (K (V.bool true)) (K (V.bool (aT 126 r)))) (K (V.bool false)):=by kernel_rfl
theorem QN (F:Nat) (s:List UInt8) (K:V→Option V):
 cr oE (bV oE xS0 F 2) F 86 [V.str s] K=
 sel (aT 511 (aj s)) (K (V.int .i64 9)) (sel (ak true (ai (aj s) 4000000)) (sel (vK s) (K (V.int .i64 7)) (K (V.int .i64 0))) none):=by kernel_rfl
noncomputable def M8 (F:Nat) (ns:List Nat) (n:Nat) (x0 x6:List V) (x7 x8:Int) (K:V→Option V):Option V:=
 iA oE xSb F 3 12 [1,1,0,1,0] ns K n (mH 17 [(0,V.sl 9 [Kd.str] none x0),(2,V.str []),(3,V.box 3 0),(6,V.sl 9 [Kd.str] none x6),(7,V.int .i64 x7),(8,V.int .i64 x8)] [(3,[V.nilp,V.nilsl])])
noncomputable def zi (F:Nat) (ns:List Nat) (n:Nat) (x0 x6:List V) (x7 x8:Int) (dM:List V) (K:V→Option V):Option V:=
 iA oE xSb F 3 12 [1,1,0,1,0] ns K n (mH 17 [(0,V.sl 9 [Kd.str] none x0),(2,V.str []),(3,V.box 3 0),(6,V.sl 9 [Kd.str] none x6),(7,V.int .i64 x7),(8,V.int .i64 x8)] [(3,[V.box 3 0,V.sl 5 [Kd.int .u8] (some 40001) dM])])
theorem VG (F:Nat) (xs:List V) (K:V→Option V):
 cr oE (bV oE xSb F 3) F 12 [V.sl 9 [Kd.str] none xs] K=
 M8 F [] F xs xs (av xs) 0 K:=by kernel_rfl
theorem GJ (F n:Nat) (x0 x6:List V) (x7 x8:Int) (K:V→Option V):
 M8 F [] (n+1) x0 x6 x7 x8 K=
 let A:=aJ (aR (ax (aP x6 x8) 0));sel (aT x8 x7) (sel (ak (ai 0 x8) (aT x8 (av x6))) (sel (vQ A) (sel (fI A (aJ [10])) (zi F [] n x0 x6 x7 (fB .i64 x8 1) (aZ A (aJ [10])) K) none) none) none) (K (V.str [])):=by kernel_rfl
theorem wJ (F n:Nat) (x0 x6:List V) (x7 x8:Int) (dM:List V) (K:V→Option V):
 zi F [] (n+1) x0 x6 x7 x8 dM K=
 let A:=aJ (aR (ax (aP x6 x8) 0));sel (aT x8 x7) (sel (ak (ai 0 x8) (aT x8 (av x6))) (sel (fI dM A) (sel (fI (aZ dM A) (aJ [10])) (zi F [] n x0 x6 x7 (fB .i64 x8 1) (aZ (aZ dM A) (aJ [10])) K) none) none) none) (K (V.str (gM dM))):=by kernel_rfl
theorem new_at {G:aM} {w w':World} (hG:vO G w) {b:Nat} {c:Array Value} {e:TypeId} {fr:Nat×Nat} (hB:Below w.heap.size w w') (hb:w.heap.size≤b) (hh:w'.heap[b]? =some (.cells c e fr)) (n:Nat) (hn:n≤c.size):
  New w w' G (upd G b (c.toList.take n)):=by
 refine⟨hB,fun b' hb'=>gq _ _ _ _ (by omega),?_⟩;intro b' l h;by_cases e':b'=b
 ·subst e'
  rw[upd_same] at h;simp only[Option.some.injEq] at h;subst h;refine⟨c,e,fr,hh,?_⟩;have e1:c.toList.length=c.size:=by simp
  rw[List.length_take,e1,Nat.min_eq_left hn]
 ·rw[gq _ _ _ _ e'] at h
  obtain⟨c',e2,fr',hc,ht⟩:=hG b' l h;exact⟨c',e2,fr',by rw[hB.block b' (dV hG h)];exact hc,ht⟩
theorem ZZ {G:aM} {w w':World} (hG:vO G w) {v:Value} {e:TypeId} (L:List (List UInt8)) (hB:Below w.heap.size w w') (h:w'.ownsRow w.heap.size e 1 v L.length (lC L)):
  ∃G',New w w' G G'∧aN G' (.sl e [.str] none (bL L)) v:=by
 rcases h.2 with⟨rfl,h0⟩|⟨g,cap,cur,rfl,hg,hh,hc,hm,hs,ht⟩
 ·refine⟨G,⟨hB,fun _ _=>rfl,fun b l hl=>?_⟩,?_⟩
  ·obtain⟨c,e,fr,hc,ht⟩:=hG b l hl
   exact⟨c,e,fr,by rw[hB.block b (dV hG hl)];exact hc,ht⟩
  ·have:L=[]:=List.eq_nil_of_length_eq_zero h0
   subst this;unfold aN;exact⟨none,0,rfl,Nat.le_refl _,.inl rfl⟩
 ·refine⟨_,new_at hG hB hg hh L.length (by omega),?_⟩
  unfold aN;refine⟨some ⟨g,0,none⟩,cap,by rw[je],by rw[je];exact hc,.inr ⟨g,0,_,rfl,upd_same _ _ _,?_⟩⟩;rw[Nat.mul_one] at ht;rw[ht,List.drop_zero];have:=Bc (G:=upd G g (lC L)) L [];rw[List.append_nil] at this;exact this
theorem Kq (s:List UInt8) (hc:ai (aj s) 4000000=true):af oE 10 [.str s] (.sl 9 [.str] none (bY s)):=by
 intro G w vs hG hg hp;obtain⟨x,rfl,hx⟩:=El hp;unfold aN at hx;subst hx;rw[aA,aB] at hc;refine(callsIn_wide.1 (of_in s (by omega) w)).mono ?_;rintro e w' ⟨v,rfl,hr,hB⟩;obtain⟨G',hN,hrep⟩:=ZZ hG (eu s) hB hr;exact⟨v,G',rfl,hN,hrep⟩
def DT (r:Int):Bool:=sel (aG (ieq r 9)) (sel (aT r 32) true (aT 126 r)) false
theorem xOdd_ev (r:Int):af oE 102 [.int .i32 r] (.bool (DT r)):=by
 refine ah D3 oS_ok 1 2 ?_;rw[ZY];unfold DT
 cases aG (ieq r 9)<;>cases aT r 32<;>rfl
theorem SL (s:ByteArray): ∀(f pos:Nat),pos≤s.size→s.size-pos≤f→decide (0≤Go.Lib.idxFuncFrom (fun r=>DT (r:Int)) true s f pos)=(s.data.toList.drop pos).any fun c=>DT (c.toNat:Int)
 |0,pos,h1,h2=>by
  rw[List.drop_of_length_le (by rw[Array.length_toList];exact(show s.size≤pos by omega))];rfl
 |f+1,pos,h1,h2=>by
  unfold Go.Lib.idxFuncFrom;by_cases hp:pos<s.size
  ·rw[if_pos hp]
   have hl:pos<s.data.toList.length:=by rw[Array.length_toList];exact hp
   have hd:s.data.toList.drop pos=s.data.toList[pos]::s.data.toList.drop (pos+1):=List.drop_eq_getElem_cons hl;have hb:s.data.toList[pos]=s[pos]'hp:=by simp;rfl
   rw[hd,List.any_cons,hb];by_cases h:(s[pos]'hp).toNat<128
   ·rw[decode_ascii s pos hp h]
    cases ho:DT (((s[pos]'hp).toNat:Nat):Int) with
    |true=>rw[if_pos rfl];simp
    |false=>
     rw[if_neg (by decide),Bool.false_or];exact SL s f (pos+1) (by omega) (by omega)
   ·have hi:=(decode_high s pos hp (by omega)).1
    have e1: ∀n:Nat,128≤n→DT (n:Int)=true:=fun n hn=>by
     unfold DT;rw[cO (by omega),bD (show(126:Int)<(n:Int) by omega)]
     cases aT (n:Int) 32<;>rfl
    rw[if_pos (e1 _ hi),e1 _ (by omega)];simp
  ·rw[if_neg hp,List.drop_of_length_le (by rw[Array.length_toList];exact(show s.size≤pos by omega))];rfl
theorem odd_any (s:List UInt8):(s.any fun c=>DT (c.toNat:Int))=vK s:=by
 unfold vK;congr 1
 funext c
 unfold DT
 cases aG (ieq (c.toNat:Int) 9)<;>cases aT (c.toNat:Int) 32<;>cases aT 126 (c.toNat:Int)<;>rfl
theorem xCfS_ok (s:List UInt8) (f:Nat) (hc:ak (f==102) (ai (aj s) 4000000)=true):af oE 103 [.str s,.fn f []] (.bool (vK s)):=by
 obtain⟨h1,h2⟩:=aY hc;obtain rfl:f=102:=by simpa using h1
 refine bU fun G w vs hG hg hp=>?_
 obtain⟨x,y,rfl,hx,hy⟩:=kJ hp;unfold aN at hx hy;obtain⟨rfl,_⟩:=hy;subst hx;have hp:Go.Proofs.PredGrows Go.Proofs.Tryz.prog 102 #[] (fun r=>DT (r:Int)) w:=by
  intro W x _ hb;refine(xOdd_ev (x:Int) G W [.int .i32 x] ?_ ?_ ?_).mono ?_
  ·intro b l hl
   obtain⟨c,e,fr,hc,ht⟩:=hG b l hl;exact⟨c,e,fr,by rw[hb.block b (dV hG hl)];exact hc,ht⟩
  ·exact hg
  ·exact .cons (by unfold aN;rfl) .nil
  ·rintro e w' ⟨v,G',rfl,hN,hr⟩
   simp only[fu,nu] at hr;unfold aN at hr;subst hr;exact⟨rfl,hN.1⟩
 refine(Go.Proofs.Tryz.strings_ContainsFunc_grows _ #[] (Go.Proofs.enters_of Go.Proofs.Tryz.func102 (by kernel_rfl) rfl) _ ⟨s.toArray⟩ w hp).mono ?_;rintro e w' ⟨rfl,hb⟩;refine⟨_,rfl,hb,?_⟩;have:decide (0≤Go.Lib.idxFunc (fun r=>DT (r:Int)) true ⟨s.toArray⟩)=vK s:=by
  rw[←odd_any];have:=SL ⟨s.toArray⟩ (⟨s.toArray⟩:ByteArray).size 0 (Nat.zero_le _) (by omega);rw[List.drop_zero] at this;exact this
 rw[this];exact Mx _
theorem xS0_ok:bq oE xS0:=by
 unfold xS0;refine bq.cons (fun args r h=>?_) (bq.cons (fun args r h=>?_) bq.nil);all_goals (revert h;intro h;first|unfold xOfS at h|unfold xCfS at h)
 all_goals (split at h;rotate_left; · cases h)
 all_goals (simp only[Option.some.injEq,Prod.mk.injEq] at h;obtain⟨hc,rfl⟩:=h)
 ·exact Kq _ hc
 ·exact xCfS_ok _ _ hc
theorem xCkS_ok (s:List UInt8) (hc:ai (aj s) 4000000=true):af oE 86 [.str s] (.int .i64 (DD s)):=by
 refine ah D3 xS0_ok 1 2 ?_;rw[QN,hc];unfold DD
 cases aT 511 (aj s)<;>cases vK s<;>rfl
theorem xSb_ok:bq oE xSb:=by
 unfold xSb;refine bq.tF (fun args r h=>?_) (bq.tF (fun args r h=>?_) bq.nil);all_goals (revert h;intro h;first|unfold bCpS at h|unfold bStS at h)
 all_goals (split at h;rotate_left; · cases h)
 all_goals (simp only[Option.some.injEq,Prod.mk.injEq] at h;obtain⟨hc,rfl⟩:=h)
 ·exact bCpS_ok _ _ hc
 ·exact bStS_ok _ _ hc
def sW (l:List (List UInt8)):List UInt8:=(l.map fun x=>x++[10]).flatten
def Dg (xs:List V):List UInt8:=sW (strsOf xs)
def Wm (xs:List V):Bool:=decide ((Dg xs).length≤4000000∧xs.length≤4000000)
theorem uD (x:List UInt8) (l:List (List UInt8)):sW (x::l)=x++[10]++sW l:=rfl
theorem jo1 (F:Nat) (xs:List V) (hx:xs.length≤4000000): ∀(j i n:Nat) (b:List UInt8),i+j=xs.length→j<n→b.length+(sW ((strsOf xs).drop i)).length≤9000000→
  zi F [] n xs xs (av xs) (i:Int) (aJ b) some=some (.str (b++sW ((strsOf xs).drop i))):=by
 intro j;induction j with
 |zero=>
  intro i n b hi hn hl;obtain⟨n,rfl⟩: ∃m,n=m+1:=⟨n-1,by omega⟩
  (rw[wJ];(conv=>zeta);rw[aU (bB (by rw[aD];omega)),bvb,List.drop_of_length_le (by rw[vs_len];omega),show sW []=[] from rfl,List.append_nil])
 |succ j ih=>
  intro i n b hi hn hl;obtain⟨n,rfl⟩: ∃m,n=m+1:=⟨n-1,by omega⟩
  rw[Sc xs i (by omega)] at hl⊢;generalize hq:aR (ax (aP xs (i:Int)) 0)=x at hl⊢;rw[uD] at hl⊢;simp only[List.length_append,List.length_cons,List.length_nil] at hl;rw[wJ,ay (bD (by rw[aD];omega)),ay (by rw[aH,aA,bf,aD];omega),hq,ay (bapp b x (by omega)),bcat,ay (bapp (b++x) [10] (by rw[List.length_append];simp only[List.length_cons,List.length_nil];omega)),bcat,iO (by omega),show(i:Int)+1=((i+1:Nat):Int) by omega,
   ih (i+1) n _ (by omega) (by omega) (by simp only[List.length_append,List.length_cons,List.length_nil];omega)]
  simp only[List.append_assoc]
set_option maxRecDepth 100000 in
theorem SN (xs:List V) (hc:Wm xs=true):af oE 12 [.sl 9 [.str] none xs] (.str (Dg xs)):=by
 unfold Wm at hc;rw[decide_eq_true_iff] at hc;refine ah D3 xSb_ok (xs.length+1) 3 ?_;rw[VG];unfold Dg at*;match xs,hc with
 |[],_=>rfl
 |y::l,hc=>
  have e0:=Sc (y::l) 0 (by simp);rw[List.drop_zero,Nat.zero_add] at e0;generalize hq:aR (ax (aP (y::l) ((0:Nat):Int)) 0)=x at e0;rw[e0] at hc⊢;rw[uD] at hc⊢;simp only[List.length_append,List.length_cons,List.length_nil] at hc;have hq':aR (ax (aP (y::l) 0) 0)=x:=hq;rw[show(y::l).length+1=(y::l).length+1 from rfl,GJ,ay (bD (by rw[aD,List.length_cons];omega)),ay (by rw[aH,aA,bf,aD,List.length_cons];omega),hq',ay (bnew x (by omega)),ay (bapp x [10] (by simp only[List.length_cons,List.length_nil];omega)),bcat,show fB .i64 0 1=((1:Nat):Int) from rfl,
   jo1 _ (y::l) (by rw[List.length_cons];omega) l.length 1 _ _ (by rw[List.length_cons];omega) (by rw[List.length_cons];omega) (by simp only[List.length_append,List.length_cons,List.length_nil];omega)]
noncomputable def xJoS:aF:=fun a=>match a with|[.sl 9 [.str] none xs]=>some (Wm xs,.str (Dg xs))|_=>none
noncomputable def xLd:List (Nat×aF):=(12,xJoS)::xS1
noncomputable def xL:List (Nat×aF):=xLd
theorem EV: ∀(l:List (List UInt8)),(∀x∈l,x.contains 10=false)→eu (sW l)=l
 |[],_=>rfl
 |x::l,h=>by
  have:=xX x (sW l) [] (h x List.mem_cons_self);have ih:=EV l (fun y hy=>h y (List.mem_cons_of_mem _ hy));rw[uD];unfold eu at ih⊢;rw[show x++[10]++sW l=x++10::sW l by simp,this,ih];rfl
theorem zk: ∀(t cur:List UInt8),sW (lg t cur)=cur++t∨sW (lg t cur)=cur++t++[10]
 |[],cur=>by
  cases cur with
  |nil=>exact .inl rfl
  |cons c l=>exact .inr (by show sW [c::l]=_;rw[uD];simp[sW])
 |c::t,cur=>by
  cases hc:c==10 with
  |true=>
   have e:c=10:=by simpa using hc
   subst e;have e2:lg (10::t) cur=cur::lg t []:=rfl;rw[e2,uD];rcases zk t [] with h|h
   ·left;rw[h];simp
   ·right;rw[h];simp
  |false=>
   have e2:lg (c::t) cur=lg t (cur++[c]):=by show(bif c==10 then _ else lg t (cur++[c]))=_;rw[hc];rfl
   rw[e2];rcases zk t (cur++[c]) with h|h
   ·left;rw[h];simp
   ·right;rw[h];simp
theorem Z0 (l:List (List UInt8)):strsOf (bL l)=l:=by
 unfold strsOf bL;rw[List.map_map];exact(List.map_congr_left fun _ _=>rfl).trans (List.map_id _)
def gB (i:Nat):UInt8:=if i%500=499 then 10 else 32
theorem SQ (a b:List UInt8):vK (a++b)=(vK a||vK b):=by unfold vK;rw[List.any_append]
end Nt.Ev.YtplklcejbmfgdaaGreatDoor
