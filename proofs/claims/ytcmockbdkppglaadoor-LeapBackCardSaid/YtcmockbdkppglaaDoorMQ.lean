/-
  A region that draws its order, proved operation by operation: one fact for each operation's value, which the other operations keep; so the proof is as ..
-/
import Derived.ArgAppend
import Derived.OrdersIn
import Derived.TacticsIn
import Derived.RangeFuncBox
import Derived.RangeFuncFrom
import Derived.Test.YtcmockbdkppglaaDoorMS
import Derived.RangeFuncNested
import Derived.RangeFuncBound
import Derived.RangeFuncCalls
import Derived.RangeFuncLeaves
import Derived.Shelf.Abstract
import Derived.Shelf.RegionOpen
import Derived.OwnWalkIn
import Derived.TacticsInMore
import Derived.LoopNIn
import Derived.LoopIn
import Derived.Maps.AppendAt
import Derived.RegionIn
import Derived.Test.YtcmockbdkppglaaDoorMP
import Derived.Laws.RangeAny
set_option linter.all false
set_option maxRecDepth 100000
namespace Nt
open Go Go.RowKit
def dn (val:Nat→Value) (b:Nat→Bool):List Oper→Nat→Act→Act
 |[],_,a=>a
 |o::l,k,a=>dn val b l (k+1) (if b k=true then a.put o.dst (val k) else a)
def rQ (n:Nat):List Oper→Bool
 |[]=>true
 |o::l=>(match o.dst with|some d=>decide (d<n)&&l.all fun o'=>o'.dst != some d|none=>true)&&rQ n l
theorem Gx (a:Act) (d:Option Tmp) (v:Value):(a.put d v).tmps.size=a.tmps.size:=by cases d<;>simp[Act.put]
theorem Bl (val:Nat→Value) (b:Nat→Bool) (d:Tmp) (v:Value): ∀(l:List Oper) (k:Nat) (a:Act),(l.all fun o'=>o'.dst != some d)=true→
  (dn val b l k a).put (some d) v=dn val b l k (a.put (some d) v)
 |[],_,_,_=>rfl
 |o::l,k,a,h=>by
  simp only[Me,bB,Vz,ne_eq] at h;simp only[dn];rw[Bl val b d v l (k+1) _ (by simpa using h.2)];congr 1
  split
  ·exact Act.put_comm a _ _ (fun x hx e=>h.1 (by rw[hx,e]))
  ·rfl
theorem gM (val d:Nat→Value) (b c:Nat→Bool): ∀(l:List Oper) (k:Nat) (a:Act),(∀i,k≤i→i<k+l.length→b i=c i∧(b i=true→val i=d i))→dn val b l k a=dn d c l k a
 |[],_,_,_=>rfl
 |o::l,k,a,h=>by
  have e:=h k (iA _) (by simp);simp only[dn];rw[←e.1];by_cases hl:b k=true
  ·rw[if_pos hl,if_pos hl,e.2 hl]
   exact gM val d b c l (k+1) _ fun i g f=>h i (by omega) (by simp;omega)
  ·rw[if_neg hl,if_neg hl]
   exact gM val d b c l (k+1) _ fun i g f=>h i (by omega) (by simp;omega)
theorem xX (n:Nat) (val:Nat→Value) (b:Nat→Bool) (i:Nat) (v:Value): ∀(l:List Oper) (k:Nat) (a:Act) (o:Oper),rQ n l=true→k≤i→l[i-k]? =some o→b i=false→
  (dn val b l k a).put o.dst v=dn (fun j=>if j=i then v else val j) (fun j=>if j=i then true else b j) l k a
 |[],_,_,_,_,_,h,_=>by simp at h
 |o'::l,k,a,o,m,s,g,hl=>by
  simp only[rQ,bB] at m;by_cases e:i=k
  ·subst e
   simp only[Xt,BZ,aF] at g;subst g;have f:=m.1
   cases c:o'.dst with
   |none=>
    simp only[dn,hl,if_pos,N6,Fj,c];exact gM _ _ _ _ l (i+1) _ fun j q p=>by
     have:j≠i:=by omega
     simp[this]
   |some d=>
    rw[c] at f;simp only[bB,Iy] at f;simp only[dn,hl,if_pos,N6,Fj];rw[Bl val b d v l (i+1) a f.2,c];exact gM _ _ _ _ l (i+1) _ fun j q p=>by
     have:j≠i:=by omega
     simp[this]
  ·simp only[dn]
   have r: ¬k=i:=fun h=>e h.symm
   simp only[if_neg r];refine xX n val b i v l (k+1) _ o m.2 (by omega) ?_ hl;have:i-k=(i-(k+1))+1:=by omega
   rw[this] at g;simpa using g
theorem rz (val:Nat→Value) (b:Nat→Bool): ∀(l:List Oper) (k:Nat) (a:Act),(dn val b l k a).defers=a.defers
 |[],_,_=>rfl
 |o::l,k,a=>by
  simp only[dn];rw[rz val b l (k+1)];split
  ·cases o.dst<;>rfl
  ·rfl
theorem oP (val:Nat→Value) (b:Nat→Bool) (t:Nat): ∀(l:List Oper) (k:Nat) (a:Act),(l.all fun o=>o.dst != some t)=true→(dn val b l k a).tmps[t]? =a.tmps[t]?
 |[],_,_,_=>rfl
 |o::l,k,a,h=>by
  simp only[Me,bB,Vz,ne_eq] at h;simp only[dn];rw[oP val b t l (k+1) _ (by simpa using h.2)];split
  ·cases c:o.dst with
   |none=>rfl
   |some d=>
    have:d≠t:=fun e=>h.1 (by rw[c,e])
    simp[Act.put,Array.getElem?_setIfInBounds_ne this]
  ·rfl
theorem xY (val:Nat→Value) (b:Nat→Bool) (j d:Nat): ∀(l:List Oper) (k:Nat) (a:Act) (o:Oper),rQ a.tmps.size l=true→k≤j→l[j-k]? =some o→o.dst=some d→b j=true→
  (dn val b l k a).tmps[d]? =some (val j)
 |[],_,_,_,_,_,h,_,_=>by simp at h
 |o'::l,k,a,o,g,m,i,c,hl=>by
  simp only[rQ,bB] at g;by_cases e:j=k
  ·subst e
   simp only[Xt,BZ,aF] at i;subst i;have f:=g.1;rw[c] at f;simp only[bB,Iy] at f;simp only[dn,hl,if_true];rw[oP val b d l (j+1) _ f.2,c];simp[Act.put,f.1]
  ·simp only[dn]
   have:j-k=(j-(k+1))+1:=by omega
   rw[this] at i;refine xY val b j d l (k+1) _ o ?_ (by omega) (by simpa using i) c hl;split
   ·rw[Gx];exact g.2
   ·exact g.2
def waitsFor (ops:Array Oper) (i j:Nat):Bool:=match ops[i]? with|some o=>o.after.any fun e=>Region.binds .any e&&e.on==j|none=>false
def backward (ops:Array Oper):Bool:=(List.range ops.size).all fun i=>match ops[i]? with|some o=>o.after.all fun e=>!Region.binds .any e||decide (e.on<i)|none=>true
def takes (ops:Array Oper) (k j:Nat):Bool:=match ops[k]? with|some o=>o.after.toList.any fun e=>(e.ground== .data||e.ground== .guard)&&e.on==j|none=>false
def live (ops:Array Oper) (keep:List Nat) (i j:Nat):Bool:=keep.contains j||(List.range ops.size).any fun k=>k != i&&takes ops k j&& !waitsFor ops i k
def open_ (ops:Array Oper) (a:Array Bool):Nat:=(List.range ops.size).countP fun i=>!a.getD i true
section
variable {P:Program} {ops:Array Oper} {Q:Exit→Act→World→Prop}
theorem ready_nil (f:backward ops=true) (a:Array Bool) (m:a.size=ops.size) (h:Region.ready .any ops a=[]): ∀i,i<ops.size→a.getD i true=true:=by
 intro i;induction i using Nat.strongRecOn with
 |_ i k=>
  intro b
  cases hl:a.getD i true with
  |true=>rfl
  |false=>
   have:i∈Region.ready .any ops a:=by
    rw[mem_ready];refine⟨hl,ops[i],by simp[b],fun e j c=>?_⟩;simp only[backward,jJ,Xp] at f;have d:=f i b;rw[o6 b] at d;simp only[Array.all_eq_true_iff_forall_mem,yH,acL,Iy] at d;have g:e.on<i:=(d e j).resolve_left (by rw[c];simp);have h3:=k e.on g (by omega);have l:e.on<a.size:=by omega
    simp only[nX,o6 l,oQ] at h3⊢;exact h3
   rw[h] at this
   cases this
theorem NR {p q:Nat→Bool} {l:List Nat} {x:Nat} (hx:x∈l) (h: ∀y∈l,q y=true→p y=true) (d:p x=true) (f:q x=false):l.countP q<l.countP p:=by
 induction l with
 |nil=>cases hx
 |cons y l g=>
  simp only[RO];have hl:l.countP q≤l.countP p:=List.countP_mono_left fun z c=>h z (by simp[c])
  rcases List.mem_cons.1 hx with rfl|a
  ·simp[d,f];omega
  ·have:=g a fun z c=>h z (by simp[c])
   have e:=h y (by simp)
   cases b:q y with
   |false=>split<;>simp_all<;>omega
   |true=>simp[e b];omega
theorem Gy (a:Array Bool) (i:Nat) (c:a.size=ops.size) (b:i<ops.size) (hl:a.getD i true=false):open_ ops (a.setIfInBounds i true)<open_ ops a:=by
 unfold open_;refine NR (x:=i) (by simpa using b) (fun y _ h=>?_) (by rw[hl];rfl) ?_
 ·by_cases e:i=y
  ·subst e;rw[hl];rfl
  ·rw[getD_set_ne true e] at h;exact h
 ·simp[c,b]
def Slot (a:Act) (t:Nat) (v:Value):Prop:=a.tmps[t]? =some v∧ ∀h:t<a.tmps.size,a.tmps[t]=v
theorem Slot.mk {a:Act} {t:Nat} {v:Value} (h:a.tmps[t]? =some v):Slot a t v:=⟨h,fun hl=>by rw[o6 hl] at h;exact Option.some.inj h⟩
def jw (ops:List Oper) (a b:Act):List Operand→Prop
 |[]=>True
 | .tmp t::l=>((ops.all fun o=>o.dst != some t)=true→ ∀v,a.tmps[t]? =some v→Slot b t v)∧jw ops a b l
 |_::l=>jw ops a b l
def lV (ops:Array Oper) (F:Nat→Value→World→Prop) (a:Act) (w':World):List Edge→Prop
 |[]=>True
 |e::l=>((e.ground== .data||e.ground== .guard)=true→ ∀d,((ops[e.on]?).bind (·.dst))=some d→ ∃u,Slot a d u∧F e.on u w')∧lV ops F a w' l
def wF (F:Nat→Value→World→Prop) (val:Nat→Value) (w:World):List Nat→Prop
 |[]=>True
 |k::l=>F k (val k) w∧wF F val w l
theorem uT {F:Nat→Value→World→Prop} {val:Nat→Value} {w:World}: ∀(l:List Nat),(∀i∈l,F i (val i) w)→wF F val w l
 |[],_=>trivial
 |k::l,h=>⟨h k (by simp),uT l fun i a=>h i (by simp[a])⟩
theorem oM {o:Oper} {a:Act} {w' b:World} {K:Act→World→Prop} {v:Value} (d:o.guard=none) (h:(execOp a.eval o).run P w'=.ok (.value v) b) (c:K (a.put o.dst v) b):
  if Region.wanted o (yielded ops a.tmps)=true then o.wp P a w' K Q else K (a.put o.dst undef) w':=by
 rw[if_pos (by simp[Region.wanted,d])];unfold Oper.wp;rw[h];exact c
theorem NS {o:Oper} {a:Act} {w':World} {K:Act→World→Prop} {f:FuncId} {args:Array Value} (d:o.guard=none) (h:(execOp a.eval o).run P w'=.ok (.enter f args) w')
  (g:Calls P f args w' fun e b=>∃v,e=.returned v∧K (a.put o.dst v) b):
  if Region.wanted o (yielded ops a.tmps)=true then o.wp P a w' K Q else K (a.put o.dst undef) w':=by
 rw[if_pos (by simp[Region.wanted,d])];unfold Oper.wp;rw[h];refine Calls.mono g ?_;rintro e b ⟨v,rfl,c⟩;exact c
theorem E4 {w:World} {base a e b:Nat} {v:Value} {n:Nat} {xs:List Value} (h:w.ownsRow base e b v n xs) (j:a≤base):w.ownsRow a e b v n xs:=by
 obtain⟨i,d⟩:=h;refine⟨i,?_⟩;rcases d with d|⟨g,cap,c,f,k,r⟩
 ·exact .inl d
 ·exact .inr ⟨g,cap,c,f,by omega,r⟩
theorem Rf {w w':World} {g:Nat} {o:Obj} (h:w.heap[g]? =some o) (b:Below w.heap.size w w'):w'.heap[g]? =some o:=
 (b.block g (by obtain⟨a,_⟩:=Array.getElem?_eq_some_iff.1 h;exact a)).trans h
theorem iM (w:World) (o:Obj):Below w.heap.size w (w.alloc o):=(Below.refl _ _).alloc (iA _) o
end
section
variable {P:Program} {ops:Array Oper} {Q:Exit→Act→World→Prop} {l n:Nat}
theorem Rh {m:Nat} {f:FuncId} {args:Array Value} {w:World} {R:Ending→World→Prop} (h:Calls P f args w R):CallsIn (Fence.wide.inRound l) m P f args w R:=(callsIn_wide (n:=m)).2 h
theorem Uc {o:Oper} {a:Act} {w:World} {K:Act→World→Prop} (b: ∀c,o.op≠.defer c) (h:o.wp P a w K Q):o.wpIn (Fence.wide.inRound l) n P a w K Q:=by
 unfold Oper.wpIn;refine⟨fun _ _=>trivial,?_⟩;rw[show(Fence.wide.inRound l).round=some l from rfl,Oper.semAt_some l _ o b];unfold Oper.wp at h;generalize (execOp a.eval o).run P w=r at*
 cases r with
 |ok x w'=>
  cases x with
  |value v=>exact h
  |skip=>exact h
  |defer d=>exact h
  |enter f args=>exact⟨(fun h=>by cases h),Rh h⟩
  |row r args=>exact⟨(fun h=>by cases h),fun c e _=>by
   obtain⟨v,w',r,s⟩:=h c e;exact⟨v,w',r,stepsIn_wide.2 s⟩⟩
  |_=>exact h.elim
 |halt x w'=>cases x<;>exact h
def LB (ops:Array Oper):Bool:=ops.all fun o=>match o.op with| .defer _=>false|_=>true
theorem E5 (h:LB ops=true) (i:Nat) (o:Oper) (a:ops[i]? =some o): ∀c,o.op≠.defer c:=by
 intro c b;have:=(Array.all_eq_true_iff_forall_mem.1 h) o (XI a);rw[b] at this
 cases this
theorem Bw {id:Nat} {a:Act} {w:World} (hm:P.follows .mixedOrders=true) (hd:rQ a.tmps.size ops.toList=true) (hb:backward ops=true) (hnd: ∀(i:Nat) (o:Oper),ops[i]? =some o→ ∀c,o.op≠.defer c)
  (keep:List Nat) (F:Nat→Value→World→Prop) (G:Nat→World→Prop) (J:World→Prop) (hJ:J {w with drawn:=w.drawn+1}) (hG0: ∀i,G i {w with drawn:=w.drawn+1})
  (T: ∀i,i<ops.size→ ∀(o:Oper),ops[i]? =some o→ ∀(E:Act) (w':World) (val:Nat→Value),J w'→G i w'→E.tmps.size=a.tmps.size→E.defers=a.defers→
   (∀t,(ops.toList.all fun o=>o.dst != some t)=true→E.tmps[t]? =a.tmps[t]?)→
   (∀j d,takes ops i j=true→((ops[j]?).bind (·.dst))=some d→E.tmps[d]? =some (val j)∧F j (val j) w')→
   ∀K:Act→World→Prop,(∀v y,F i v y→J y→(∀j u,j≠i→live ops keep i j=true→F j u w'→F j u y)→(∀j,j≠i→waitsFor ops i j=false→G j w'→G j y)→K (E.put o.dst v) y)→if Region.wanted o (yielded ops E.tmps)=true then o.wp P E w' K Q else K (E.put o.dst undef) w')
  (W: ∀(val:Nat→Value) (w':World),J w'→(∀i∈keep,i<ops.size→F i (val i) w')→Q .normal (dn val (fun _=>true) ops.toList 0 a) w'):
  (Code.region id ops true).wpIn (Fence.wide.inRound l) n P Q a w:=by
 refine wpIn_region_any hm ?_;have key: ∀(fuel:Nat) (b:Array Bool) (val:Nat→Value) (w':World),b.size=ops.size→open_ ops b≤fuel→J w'→(∀i,i<ops.size→b.getD i false=false→G i w')→
   (∀i,i<ops.size→b.getD i false=true→(i∈keep∨ ∃k,k<ops.size∧b.getD k false=false∧takes ops k i=true)→F i (val i) w')→wpAnyIn (Fence.wide.inRound l) n P .any ops Q fuel b (dn val (fun i=>b.getD i false) ops.toList 0 a) w':=by
  intro fuel;have Z: ∀(b:Array Bool) (val:Nat→Value) (w':World),b.size=ops.size→J w'→(∀i,i<ops.size→b.getD i false=true→(i∈keep∨ ∃k,k<ops.size∧b.getD k false=false∧takes ops k i=true)→F i (val i) w')→
    Region.ready .any ops b=[]→Q .normal (dn val (fun i=>b.getD i false) ops.toList 0 a) w':=by
   intro b val w' N q M hr;have hall:=ready_nil hb b N hr;have A: ∀i,i<ops.size→b.getD i false=true:=fun i H=>by
    have:=hall i H;have U:i<b.size:=by omega
    simp only[nX,o6 U,oQ] at this⊢;exact this
   rw[gM val val _ (fun _=>true) ops.toList 0 a fun i _ h2=>⟨A i (by simpa using h2),fun _=>rfl⟩];exact W val w' q fun i S H=>M i H (A i H) (.inl S)
  induction fuel with
  |zero=>
   intro b val w' N ho q hG M;have hr:Region.ready .any ops b=[]:=by
    rw[acm];intro i H;obtain⟨h0,o,m,_⟩:=mem_ready.1 H;have r:i<ops.size:=(Array.getElem?_eq_some_iff.1 m).1;have:=Gy b i N r h0;omega
   exact⟨hr,Z b val w' N q M hr⟩
  |succ fuel ih=>
   intro b val w' N ho q hG M;refine⟨Z b val w' N q M,fun i H=>?_⟩;obtain⟨h0,o,m,p⟩:=mem_ready.1 H;have r:i<ops.size:=(Array.getElem?_eq_some_iff.1 m).1;have U:i<b.size:=by omega
   have O:b.getD i false=false:=by
    simp only[nX,o6 U,oQ] at h0⊢;exact h0
   have hol:ops.toList[i-0]? =some o:=by simpa using m
   unfold wpOpIn;rw[m];simp only;have st:=T i r o m (dn val (fun i=>b.getD i false) ops.toList 0 a) w' val q (hG i r O) ?_ (rz _ _ _ _ _) (fun t ht=>oP _ _ t _ _ _ ht) ?_
    (fun E w'=>wpAnyIn (Fence.wide.inRound l) n P .any ops Q fuel (b.setIfInBounds i true) E w') ?_
   ·split
    ·rename_i s;rw[if_pos s] at st;exact Uc (hnd i o m) st
    ·rename_i s;rw[if_neg s] at st;exact⟨fun _ _=>trivial,st⟩
   ·
    have: ∀(l:List Oper) (k:Nat) (a:Act),(dn val (fun i=>b.getD i false) l k a).tmps.size=a.tmps.size:=by
     intro l;induction l with
     |nil=>intro _ _;rfl
     |cons o l ih2=>intro k a;simp only[dn];rw[ih2];split;exact Gx _ _ _;rfl
    exact this _ _ _
   ·intro j d s B
    have hw0:=s;unfold takes at s;rw[m] at s;simp only at s;rw[BF] at s;obtain⟨e,R,s⟩:=s;simp only[bB,fT] at s;obtain⟨x,rfl⟩:=s;replace R:e∈o.after:=by simpa using R
    replace x:Region.binds .any e=true:=by unfold Region.binds;cases hge:e.ground<;>simp_all
    have g:=p e R x
    cases L:ops[e.on]? with
    |none=>rw[L] at B;simp at B
    |some oj=>
     rw[L] at B;simp only[Option.bind_some] at B;have hej:e.on<ops.size:=(Array.getElem?_eq_some_iff.1 L).1;exact⟨xY val _ e.on d ops.toList 0 a oj hd (Ca _) (by simpa using L) B g,M e.on hej g (.inr ⟨i,r,O,hw0⟩)⟩
   ·intro v y hFv X D I
    rw[xX a.tmps.size val _ i v ops.toList 0 a o hd (Ca _) hol O];have hsz:(b.setIfInBounds i true).size=ops.size:=by simpa using N
    have e:dn (fun j=>if j=i then v else val j) (fun j=>if j=i then true else b.getD j false) ops.toList 0 a=dn (fun j=>if j=i then v else val j) (fun j=>(b.setIfInBounds i true).getD j false) ops.toList 0 a:=
     gM _ _ _ _ _ _ _ fun j _ _=>by
      by_cases z:j=i
      ·subst z;simp[U]
      ·rw[getD_set_ne false (fun h=>z h.symm)];simp[z]
    rw[e];refine ih _ _ _ hsz ?_ X ?_ ?_
    ·have:=Gy b i N r h0;omega
    ·intro j hj g
     have z:j≠i:=fun e=>by subst e;simp[U] at g
     rw[getD_set_ne false (fun h=>z h.symm)] at g;refine I j z ?_ (hG j hj g)
     cases f:waitsFor ops i j with
     |false=>rfl
     |true=>
      unfold waitsFor at f;rw[m] at f;simp only at f;rw[←Array.any_toList,BF] at f;obtain⟨e,R,f⟩:=f;simp only[bB,fT] at f;obtain⟨x,rfl⟩:=f;rw[p e (by simpa using R) x] at g
      cases g
    ·intro j hj g Y
     by_cases z:j=i
     ·subst z;simpa using hFv
     ·rw[getD_set_ne false (fun h=>z h.symm)] at g
      simp only[if_neg z];rcases Y with S|⟨k,S,C,hkt⟩
      ·exact D j _ z (by unfold live;simp[S]) (M j hj g (.inl S))
      ·have V:k≠i:=fun e=>by subst e;simp[U] at C
       rw[getD_set_ne false (fun h=>V h.symm)] at C;refine D j _ z ?_ (M j hj g (.inr ⟨k,S,C,hkt⟩));unfold live;rw[yH,BF];refine .inr ⟨k,by simpa using S,?_⟩;simp only[bB,Vz,ne_eq,acL];refine⟨⟨V,hkt⟩,?_⟩
       cases f:waitsFor ops i k with
       |false=>rfl
       |true=>
        unfold waitsFor at f;rw[m] at f;simp only at f;rw[←Array.any_toList,BF] at f;obtain⟨e,R,f⟩:=f;simp only[bB,fT] at f;obtain⟨x,rfl⟩:=f;rw[p e (by simpa using R) x] at C
        cases C
 have:=key ops.size (Array.replicate ops.size false) (fun _=>undef) {w with drawn:=w.drawn+1} (by simp) (by unfold open_;exact zl Zx (by simp)) hJ (fun i _ _=>hG0 i) (fun i H h _=>by simp[H] at h);rw[gM _ (fun _=>undef) _ (fun _=>false) ops.toList 0 a (fun i _ h2=>⟨by simp[Mb];split<;>rfl,fun _=>rfl⟩)] at this;have e0: ∀(l:List Oper) (k:Nat) (a:Act),dn (fun _=>undef) (fun _=>false) l k a=a:=by
  intro l;induction l with
  |nil=>intro _ _;rfl
  |cons o l ih=>intro k a;simp only[dn];exact ih _ _
 rw[e0] at this;exact this
def PO (P:Program) (ops:Array Oper) (Q:Exit→Act→World→Prop) (a:Act) (keep:List Nat) (F:Nat→Value→World→Prop) (G:Nat→World→Prop) (J:World→Prop) (i:Nat) (o:Oper):Prop:=
 ∀(c:Act) (w':World),J w'→G i w'→c.tmps.size=a.tmps.size→c.defers=a.defers→jw ops.toList a c o.op.operands.toList→lV ops F c w' o.after.toList→
  ∀K:Act→World→Prop,(∀v b,F i v b→J b→(∀j u,j≠i→live ops keep i j=true→F j u w'→F j u b)→(∀j,j≠i→waitsFor ops i j=false→G j w'→G j b)→K (c.put o.dst v) b)→
   if Region.wanted o (yielded ops c.tmps)=true then o.wp P c w' K Q else K (c.put o.dst undef) w'
def Ew (P:Program) (ops:Array Oper) (Q:Exit→Act→World→Prop) (a:Act) (keep:List Nat) (F:Nat→Value→World→Prop) (G:Nat→World→Prop) (J:World→Prop):List Oper→Nat→Prop
 |[],_=>True
 |o::l,k=>PO P ops Q a keep F G J k o∧Ew P ops Q a keep F G J l (k+1)
theorem xZ {a:Act} {keep:List Nat} {F:Nat→Value→World→Prop} {G:Nat→World→Prop} {J:World→Prop}: ∀(l:List Oper) (k:Nat),Ew P ops Q a keep F G J l k→ ∀i o,l[i]? =some o→PO P ops Q a keep F G J (k+i) o
 |[],_,_,_,_,h=>by simp at h
 |o'::l,k,h,0,o,b=>by
  simp only[BZ,aF] at b;subst b;exact h.1
 |o'::l,k,h,i+1,o,b=>by
  have:=xZ l (k+1) h.2 i o (by simpa using b);rwa [show k+1+i=k+(i+1) by omega] at this
theorem yF {id:Nat} {a:Act} {w:World} (R:P.follows .mixedOrders=true) (j:rQ a.tmps.size ops.toList=true) (E:backward ops=true) (s:LB ops=true)
  (keep:List Nat) (I:(keep.all fun i=>decide (i<ops.size))=true) (F:Nat→Value→World→Prop) (G:Nat→World→Prop) (J:World→Prop) (N:J w.drew) (O: ∀i,G i w.drew)
  (c:Ew P ops Q a keep F G J ops.toList 0)
  (g: ∀(val:Nat→Value) (w':World),J w'→wF F val w' keep→Q .normal (dn val (fun _=>true) ops.toList 0 a) w'):
  (Code.region id ops true).wpIn (Fence.wide.inRound l) n P Q a w:=by
 refine Bw R j E (E5 s) keep F G J N O ?_ fun val w' L D=>g val w' L (uT _ fun i u=>D i u (by have:=List.all_eq_true.1 I i u;simpa using this))
 intro i u o B A w' val p y r q m b K M;have C:=xZ ops.toList 0 c i o (by simpa using B);rw[Fh] at C;refine C A w' p y r q ?_ ?_ K M
 ·generalize o.op.operands.toList=f
  induction f with
  |nil=>trivial
  |cons x z k=>
   cases x with
   |tmp t=>exact⟨fun h v S=>Slot.mk ((m t h).trans S),k⟩
   |_=>exact k
 ·have: ∀f:List Edge,(∀e∈f,e∈o.after)→lV ops F A w' f:=by
   intro f;induction f with
   |nil=>intro _;trivial
   |cons e z k=>
    intro hl;refine⟨fun H d j=>⟨val e.on,Slot.mk (b e.on d ?_ j).1,(b e.on d ?_ j).2⟩,k fun x hx=>hl x (by simp[hx])⟩;all_goals
     unfold takes;rw[B];simp only;rw[BF];exact⟨e,by simpa using hl e (by simp),by rw[H];simp⟩
  exact this _ fun e T=>by simpa using T
end
variable {F:Fence} {n:Nat} {P:Program}
def Dq (Bs:Nat) {α:Type} (Ok:α→Prop) (F:Fence) (n:Nat) (P:Program) (g:Nat) (lb:Array Value) (b:α→Array Value) (Kp:World→World→Prop) (S Sp:List α→Prop) (N:Nat) (w:World):Prop:=
 ∀(l:Nat) (J Jx:List α→World→Prop) (W:World),Below w.heap.size w W→AbidesFrom W.heap.size J→AbidesFrom W.heap.size Jx→(∀s W1 v,J s W1→J s (W1.setCell ⟨Bs,0,none⟩ v))→
  (∀a x W1,J a W1→a.length<N→Ok x→YieldAt F (n-1) P l (b x) W1 fun e W'=>
   (e=.returned (.bool true)∧J (a++[x]) W'∧Kp W1 W')∨(e=.returned (.bool false)∧Jx (a++[x]) W'))→
  J [] W→
  CallsIn F n P g (#[.func (.yield l) #[] #[]]++lb) W fun e W'=>(∃v,e=.returned v)∧((∃xs,S xs∧J xs W')∨(∃a,Sp a∧Jx a W'))
theorem wM {α:Type} {g:Operand} {ps:Array Tmp} {assign body:Code} {Q:Exit→Act→World→Prop} {a:Act} {w:World}
  (hro:F.round=none) (h1:1≤n) {gf Bs:Nat} {Ok:α→Prop} {lb:Array Value} (hg:a.eval g=.func (.func gf) #[] lb) (hFg:F.fn gf) (eg: ∀args w,(callFunc gf args).run P w=.ok (.enter gf args) w)
  {encs:α→Array Value} {Kp:World→World→Prop} {S Sp:List α→Prop} {N:Nat} {w0:World} (hseq:Dq Bs Ok F (n-1) P gf lb encs Kp S Sp N w0)
  (hKt: ∀{A B C:World},Kp A B→Kp B C→Kp A C) (hKb: ∀(W:World) (l:Nat) (o o':Obj),w.heap.size≤l→W.heap[l]? =some o→o.isCells=false→o.isWalk=false→Kp W (W.putObj l o')) (hb0:Below w0.heap.size w0 w) (hps: ∀x,(encs x).size=ps.size)
  (hBs:Bs<w.heap.size) (I:List α→World→Prop) (Ix:Code→List α→World→Prop) (hI:OwnFrom w.heap.size I) (hIx: ∀c,OwnFrom w.heap.size (Ix c)) (hIs: ∀s W v,I s W→I s (W.setCell ⟨Bs,0,none⟩ v)) (h0:I [] w) (a₁:α→Act)
  (hassign: ∀(l:Nat) (x:α) (W:World) (K:Act→World→Prop),K (a₁ x) W→
   assign.wpIn (F.inRound l) (n-1-1) P (Exit.then K (fun _ _ _=>False)) {tmps:=(ps.zip (encs x)).foldl (fun t (p,v)=>t.setIfInBounds p v) a.tmps,defers:=[]} W)
  (hbody: ∀(l:Nat) (pre:List α) (x:α) (W:World),I pre W→pre.length<N→Ok x→body.wpIn (F.inRound l) (n-1-1) P (ownPostK Kp I Ix (pre++[x]) W) (a₁ x) W)
  (hdone: ∀(D:Nat) (xs:List α) (W:World),w.heap.size≤D→S xs→I xs W→W.heap[D]? =some (.deferred (some []))→Q .normal {a with defers:={target:=.collected D,args:= #[]}::a.defers} W)
  (hstop: ∀(D:Nat) (c:Code) (pre:List α) (W:World),w.heap.size≤D→Sp pre→Ix c pre W→W.heap[D]? =some (.deferred (some []))→c.wpIn F n P Q {a with defers:={target:=.collected D,args:= #[]}::a.defers} W):
  (Code.rangeFunc g ps assign body).wpIn F n P Q a w:=by
 refine wpIn_rangeFunc ?_;intro fn hfn;rw[hro];obtain⟨rec,hrec⟩: ∃rec:LoopState→Option Code→Loop,rec=fun st pe=>{state:=st,pending:=pe,fn,tmps:=a.tmps,params:=ps,assign,body,defers:=w.heap.size}:=⟨_,rfl⟩
 obtain⟨W1,hW1⟩: ∃W1,(w.alloc (.deferred (some []))).alloc (.loop (rec .ready none))=W1:=⟨_,rfl⟩
 have hL1:W1.heap[w.heap.size+1]? =some (.loop (rec .ready none)):=by
  rw[←hW1];have:=World.alloc_heap_new (w.alloc (.deferred (some []))) (.loop (rec .ready none));rwa [World.size_alloc] at this
 have hK1:W1.heap[w.heap.size]? =some (.deferred (some [])):=by
  rw[←hW1];exact(Below.heap_alloc _ _ _ (by simp)).trans (World.alloc_heap_new w _)
 have hI1:I [] W1:=by rw[←hW1];exact hI.alloc _ (hI.alloc _ h0)
 have hb1:Below w0.heap.size w0 W1:=by
  rw[←hW1];exact hb0.trans ((((Below.refl _ w).alloc (iA _) _).alloc (by simp) _).mono hb0.size)
 refine⟨w.heap.size+1,[{target:=.collected w.heap.size,args:= #[]}],W1,{target:=.fn (.func gf) lb,args:= #[.func (.yield (w.heap.size+1)) #[] #[]]},W1,gf,
  #[.func (.yield (w.heap.size+1)) #[] #[]]++lb,W1,?_,?_,?_,?_,fun _=>h1,?_⟩
 ·rw[←hW1,hrec];exact run_enterLoop_outer _ _ _ _ _
 ·simp only[resolve,hg]
  simp[go_sem]
 ·intro f' hf';simp[Target.leads] at hf';subst hf';exact hFg
 ·simp[invoke,go_sem,eg]
 ·
  have hnw: ∀{A B:World} {row:Option Nat},(∀r,row=some r→W1.heap.size≤r∧ ∃o:Obj,A.heap[r]? =some o∧o.isWalk=true)→(∀r,row=some r→w.heap.size≤r∧ ∃o:Obj,A.heap[r]? =some o∧o.isCells=false):=
   fun hr r e=>by obtain⟨hB,o,ho,hw⟩:=hr r e;exact⟨by rw[←hW1] at hB;simp at hB;omega,o,ho,Obj.not_cells_of_walk hw⟩
  refine(hseq (w.heap.size+1)
   (fun pre W=>I pre W∧W.heap[w.heap.size+1]? =some (.loop (rec .ready none))∧W.heap[w.heap.size]? =some (.deferred (some [])))
   (fun pre W=>∃c,Ix c pre W∧W.heap[w.heap.size+1]? =some (.loop (rec .done (some c)))∧W.heap[w.heap.size]? =some (.deferred (some [])))
   W1 hb1
   (fun s A B row hs hg' hr=>⟨hI s A B row hs.1 hg' (hnw (B:=B) hr),(grownBy_keeps hg' (fun r e=>(hr r e).2) hs.2.1 rfl).trans hs.2.1,(grownBy_keeps hg' (fun r e=>(hr r e).2) hs.2.2 rfl).trans hs.2.2⟩)
   (fun s A B row hs hg' hr=>by
    obtain⟨c,hc,hl,hk⟩:=hs;exact⟨c,hIx c s A B row hc hg' (hnw (B:=B) hr),(grownBy_keeps hg' (fun r e=>(hr r e).2) hl rfl).trans hl,(grownBy_keeps hg' (fun r e=>(hr r e).2) hk rfl).trans hk⟩)
   (fun s A v hs=>⟨hIs s A v hs.1,((grownBy_setCell' A Bs v).block _ (Array.getElem?_eq_some_iff.1 hs.2.1).1 (fun e=>by cases e;omega)).trans hs.2.1,((grownBy_setCell' A Bs v).block _ (Array.getElem?_eq_some_iff.1 hs.2.2).1 (fun e=>by cases e;omega)).trans hs.2.2⟩)
   ?_ ⟨hI1,hL1,hK1⟩).mono ?_
  ·
   rintro pre x W ⟨hi,hl,hk⟩ hlen hok;have hlt:w.heap.size+1<W.heap.size:=(Array.getElem?_eq_some_iff.1 hl).1;have hy:=run_yield (P:=P) (args:=encs x) hl (by rw[hrec];exact hps x);rw[hrec] at hy;refine⟨fn,_,assign,body,hy,roundIn_of_wpIn hfn (hassign _ x W _ ⟨_,run_beginRound hl (by rw[hrec]),?_⟩)⟩;have hl2:(W.putObj (w.heap.size+1) (.loop {rec .ready none with state:=.busy})).heap[w.heap.size+1]? =some (.loop {rec .ready none with state:=.busy}):=World.putObj_heap_same hlt;have hk2:(W.putObj (w.heap.size+1) (.loop {rec .ready none with state:=.busy})).heap[w.heap.size]? =some (.deferred (some [])):=(World.putObj_heap_other (by omega)).trans hk;have hw2:Kp W (W.putObj (w.heap.size+1) (.loop {rec .ready none with state:=.busy})):=hKb _ _ _ _ (by omega) hl rfl rfl;refine wpIn_mono (hbody _ pre x _ (hI.putObj _ hi (by omega) hl rfl) hlen hok) ?_;have fin: ∀(jump:Option Code) (W3:World),KeepsOthers (W.putObj (w.heap.size+1) (.loop {rec .ready none with state:=.busy})) W3→
     (Instr.endRound (w.heap.size+1) jump).run P W3=.ok (.bool jump.isNone) (W3.putObj (w.heap.size+1) (.loop (rec (if jump.isNone then .ready else .done) jump)))∧
     W3.heap[w.heap.size+1]? =some (.loop {rec .ready none with state:=.busy})∧
     (W3.putObj (w.heap.size+1) (.loop (rec (if jump.isNone then .ready else .done) jump))).heap[w.heap.size+1]? =some (.loop (rec (if jump.isNone then .ready else .done) jump))∧
     (W3.putObj (w.heap.size+1) (.loop (rec (if jump.isNone then .ready else .done) jump))).heap[w.heap.size]? =some (.deferred (some [])):=fun jump W3 hk3=>by
    have hl3:=hk3.same _ _ hl2 rfl;have:=run_endRound (P:=P) jump hl3;rw[hrec] at this⊢;exact⟨this,by rw[hrec] at hl3;exact hl3,World.putObj_heap_same (Array.getElem?_eq_some_iff.1 hl3).1,(World.putObj_heap_other (by omega)).trans (hk3.same _ _ hk2 rfl)⟩
   rintro e a3 W3 hp
   cases e with
   |normal=>
    obtain⟨hk3,hkp3,hi3⟩:=hp;obtain⟨hr,hl3,hl4,hk4⟩:=fin none W3 hk3;exact⟨_,_,hr,.inl ⟨rfl,⟨hI.putObj _ hi3 (by omega) hl3 rfl,hl4,hk4⟩,hKt (hKt hw2 hkp3) (hKb _ _ _ _ (by omega) hl3 rfl rfl)⟩⟩
   |ret=>
    obtain⟨hk3,hi3⟩:=hp;obtain⟨hr,hl3,hl4,hk4⟩:=fin (some .ret) W3 hk3;exact⟨_,_,hr,.inr ⟨rfl,.ret,(hIx _).putObj _ hi3 (by omega) hl3 rfl,hl4,hk4⟩⟩
   |exit id=>
    obtain⟨hk3,hi3⟩:=hp;obtain⟨hr,hl3,hl4,hk4⟩:=fin (some (.exit id)) W3 hk3;exact⟨_,_,hr,.inr ⟨rfl,.exit id,(hIx _).putObj _ hi3 (by omega) hl3 rfl,hl4,hk4⟩⟩
   |goto t=>
    obtain⟨hk3,hi3⟩:=hp;obtain⟨hr,hl3,hl4,hk4⟩:=fin (some (.goto t)) W3 hk3;exact⟨_,_,hr,.inr ⟨rfl,.goto t,(hIx _).putObj _ hi3 (by omega) hl3 rfl,hl4,hk4⟩⟩
   |panic ch=>exact hp.elim
   |outgrown=>exact hp.elim
  ·
   rintro e W2 ⟨⟨v,rfl⟩,(⟨xs,hS,hi,hl,hk⟩|⟨pre,hSp,c,hi,hl,hk⟩)⟩
   ·exact⟨none,_,by have:=run_endLoop (P:=P) hl (by rw[hrec];simp);rw[hrec] at this;exact this,hdone _ xs _ (iA _) hS (hI.putObj _ hi (by omega) hl rfl) ((World.putObj_heap_other (by omega)).trans hk)⟩
   ·exact⟨some c,_,by have:=run_endLoop (P:=P) hl (by rw[hrec];simp);rw[hrec] at this;exact this,hstop _ c pre _ (iA _) hSp ((hIx c).putObj _ hi (by omega) hl rfl) ((World.putObj_heap_other (by omega)).trans hk)⟩
end Nt
namespace Nt.Lin
open Go Nt.Ev
def qI:ah→ah→List (ah)
 |[],a=>match a with|[]=>[]|_=>[a]
 |c::t,a=>bif c==10 then a::qI t [] else qI t (a++[c])
def Fw (s:ah):List (ah):=qI s []
def dx (s:ah):ah:=s.takeWhile fun c=>c != 10
def dA (s:ah):ah:=s.drop ((dx s).length+1)
def VG:Nat→ah→List (ah)
 |0,_=>[]
 |n+1,s=>match s with
  |[]=>[]
  |_=>bif s.contains 10 then(dx s++[10])::VG n (dA s) else[s]
def Fa (s:ah):List (ah):=VG (s.length+1) s
def jE (s:ah):ah:=Go.Lib.trimSuffix s [10]
theorem mU: ∀s:ah,s.contains 10=true→s=dx s++10::dA s∧(dx s).contains 10=false
 |[],h=>by cases h
 |c::t,h=>by
  cases f:c != 10 with
  |false=>
   have e:c=10:=by simpa using f
   subst e;have d:dx (10::t)=[]:=by unfold dx;rw[Xk,f];rfl
   unfold dA;rw[d];exact⟨rfl,rfl⟩
  |true=>
   have d:dx (c::t)=c::dx t:=by unfold dx;rw[Xk,f];rfl
   have j:dA (c::t)=dA t:=by unfold dA;rw[d];rfl
   have g:c≠10:=by simpa using f
   have i:t.contains 10=true:=by
    rw[N8] at h;have:((10:UInt8)==c)=false:=by rw[oZ];exact fun e=>g e.symm
    rwa [this,Xq] at h
   obtain⟨a,b⟩:=mU t i;rw[d,j];refine⟨by rw[Kb,←a],?_⟩;rw[N8,b];have:((10:UInt8)==c)=false:=by rw[oZ];exact fun e=>g e.symm
   rw[this];rfl
theorem nW (s:ah) (h:s.contains 10=true):(dA s).length+(dx s).length+1=s.length:=by
 have:=congrArg List.length (mU s h).1;rw[nY,iy] at this;omega
theorem Gz: ∀(n m:Nat) (s:ah),s.length<n→s.length<m→VG n s=VG m s
 |0,_,s,h,_=>by omega
 |n+1,0,s,_,h=>by omega
 |n+1,m+1,s,d,b=>by
  cases s with
  |nil=>rfl
  |cons c t=>
   unfold VG
   cases a:(c::t).contains 10 with
   |false=>rfl
   |true=>
    have:=nW _ a;simp only[gY];rw[Gz n m (dA (c::t)) (by omega) (by omega)]
theorem LC:Fa []=[]:=rfl
theorem pQ {s:ah} (h:s.contains 10=true):Fa s=(dx s++[10])::Fa (dA s):=by
 have a:=nW s h
 cases s with
 |nil=>cases h
 |cons c t=>
  unfold Fa;show(bif (c::t).contains 10 then(dx (c::t)++[10])::VG (c::t).length (dA (c::t)) else[c::t])=_;rw[h,gY,Gz (c::t).length ((dA (c::t)).length+1) _ (by omega) (by omega)]
theorem pR {s:ah} (h:s.contains 10=false) (a:s≠[]):Fa s=[s]:=by
 cases s with
 |nil=>exact absurd rfl a
 |cons c t=>
  unfold Fa;show(bif (c::t).contains 10 then(dx (c::t)++[10])::VG (c::t).length (dA (c::t)) else[c::t])=_;rw[h,fQ]
theorem NT (a:ah):jE (a++[10])=a:=by
 unfold jE Go.Lib.trimSuffix Go.Lib.hasSuffix;have h:([10]:ah).isSuffixOf (a++[10])=true:=by rw[List.isSuffixOf_iff_suffix];exact List.suffix_append a [10]
 rw[if_pos h];simp
theorem NU {a:ah} (h:a.contains 10=false):jE a=a:=by
 unfold jE Go.Lib.trimSuffix Go.Lib.hasSuffix;have b: ¬([10]:ah).isSuffixOf a=true:=by
  rw[List.isSuffixOf_iff_suffix];rintro⟨t,rfl⟩;rw[List.contains_append] at h;simp at h
 rw[if_neg b]
theorem sM: ∀(a b d:ah),a.contains 10=false→qI (a++10::b) d=(d++a)::qI b []
 |[],b,d,_=>by
  show(bif (10:UInt8)==10 then d::qI b [] else _)=_;rw[Oa];rfl
 |c::a,b,d,h=>by
  rw[N8,zi] at h;have f:(c==10)=false:=by
   rw[oZ];intro e;rw[e] at h;exact absurd h.1 (by decide)
  show(bif c==10 then d::qI (a++10::b) [] else qI (a++10::b) (d++[c]))=_;rw[f,fQ,sM a b (d++[c]) h.2,Iz];rfl
theorem Dr: ∀(a b:ah),a.contains 10=false→qI a b=match b++a with|[]=>[]|l=>[l]
 |[],b,_=>by rw[Oa];unfold qI;cases b<;>rfl
 |c::a,b,h=>by
  rw[N8,zi] at h;have d:(c==10)=false:=by
   rw[oZ];intro e;rw[e] at h;exact absurd h.1 (by decide)
  show(bif c==10 then b::qI a [] else qI a (b++[c]))=_;rw[d,fQ,Dr a (b++[c]) h.2,Iz];rfl
theorem Jh: ∀(n:Nat) (s:ah),s.length<n→Fw s=(Fa s).map jE
 |0,s,h=>by omega
 |n+1,s,h=>by
  cases a:s.contains 10 with
  |true=>
   have e:=nW s a;obtain⟨b,d⟩:=mU s a;rw[pQ a,yJ,NT,←Jh n (dA s) (by omega)];unfold Fw;have:=sM (dx s) (dA s) [] d;rw[←b,IA] at this;exact this
  |false=>
   cases s with
   |nil=>rfl
   |cons c t=>
    rw[pR a (by simp),yJ,List.map_nil,NU a];exact Dr (c::t) [] a
theorem Ji: ∀(n:Nat) (s:ah),s.length<n→(Fa s).length≤s.length
 |0,s,h=>by omega
 |n+1,s,h=>by
  cases a:s.contains 10 with
  |true=>
   have b:=nW s a;rw[pQ a,iy];have:=Ji n (dA s) (by omega);omega
  |false=>
   cases s with
   |nil=>exact iA _
   |cons c t=>rw[pR a (by simp),iy,iy,o5];omega
theorem Au: ∀(t:ah),Go.Lib.indexByte t 10=if t.contains 10=true then((dx t).length:Int) else -1
 |[]=>rfl
 |c::t=>by
  have e:Go.Lib.indexByte (c::t) 10=if c==10 then 0 else if Go.Lib.indexByte t 10== -1 then -1 else Go.Lib.indexByte t 10+1:=rfl
  rw[e,Au t]
  cases b:c==10 with
  |true=>
   have e:c=10:=by simpa using b
   subst e;have a:dx (10::t)=[]:=rfl;rw[a,if_pos rfl,N8];simp
  |false=>
   have d:c≠10:=by simpa using b
   have f:(c != 10)=true:=by simpa using d
   have a:dx (c::t)=c::dx t:=by unfold dx;rw[Xk,f];rfl
   have g:(c::t).contains 10=t.contains 10:=by
    rw[N8];have:((10:UInt8)==c)=false:=by rw[oZ];exact fun e=>d e.symm
    rw[this,Xq]
   rw[a,g]
   cases h:t.contains 10 with
   |true=>
    have h3:((((dx t).length:Nat):Int)== -1)=false:=by
     rw[oZ];omega
    simp only[if_true,h3,iy];simp
   |false=>simp
theorem J5 (s:ah) (h:s.contains 10=true):s.take ((dx s).length+1)=dx s++[10]:=by
 conv=>lhs;arg 2;rw[(mU s h).1]
 rw[show dx s++10::dA s=(dx s++[10])++dA s by simp];exact List.take_left' (by simp)
end Nt.Lin
namespace Go.Proofs.YtcmockbdkppglaaDoor
open Go Go.RowKit Go.Shelf Nt Nt.Lin
attribute [local go_sem] Oper.semAt_some
theorem Ri (s:ByteArray) (w:World):
  CallsIn Fence.wide 9 Tryd.prog 30 #[.string s] w fun e w'=>e=.returned (.func (.func 43) #[] #[.pointer (some ⟨w.heap.size,0,none⟩)])∧w'=w.alloc (.cells #[.string s] 9):=by
 refine callsIn_of_wp Tryd.func30 rfl trivial ?_ rfl;simp only[Tryd.ntmps30,Oi,iy,o5,Nat.reduceAdd,Nat.reduceSub,Array.replicate_succ,Array.replicate_zero,List.push_toArray,List.append_toArray,IA,Kb];gi_wp2
 go_ret
 exact⟨rfl,rfl⟩
def OZ (Bs:Nat) (W:World):Nat:=match W.cell? ⟨Bs,0,none⟩ with|some (.string s)=>s.size|_=>0
theorem yT {Bs:Nat} {W:World} {l:ah} (h:W.heap[Bs]? =some (.cells #[Value.string ⟨l.toArray⟩] 9 (0,0))):OZ Bs W=l.length:=by
 unfold OZ;have:W.cell? ⟨Bs,0,none⟩=some (.string ⟨l.toArray⟩):=by simp[World.cell?,h]
 rw[this];simp[ByteArray.size]
set_option maxRecDepth 100000 in
set_option maxHeartbeats 1000000 in
theorem NV (l Bs:Nat) (src:ah) (hsrc:src.length≤4000000000) (J Jx:List (ah)→World→Prop)
  (hJs: ∀s W1 v,J s W1→J s (W1.setCell ⟨Bs,0,none⟩ v))
  (hJd: ∀s W1,J s W1→J s W1.drew)
  (hY: ∀pre x W,J pre W→pre.length<(Fa src).length→x.length≤4000000000→YieldAt Fence.wide 8 Tryd.prog l #[Value.string ⟨(x).toArray⟩] W fun e W'=>
   (e=.returned (.bool true)∧J (pre++[x]) W'∧W'.heap[Bs]? =W.heap[Bs]?)∨(e=.returned (.bool false)∧Jx (pre++[x]) W'))
  (W:World) (hBs:W.heap[Bs]? =some (.cells #[Value.string ⟨(src).toArray⟩] 9 (0,0))) (h0:J [] W):
  CallsIn Fence.wide 9 Tryd.prog 43 #[.func (.yield l) #[] #[],.pointer (some ⟨Bs,0,none⟩)] W fun e W'=>(∃v,e=.returned v)∧
   ((∃ys,ys=Fa src∧J ys W')∨(∃pre,pre<+:Fa src∧Jx pre W')):=by
 refine callsIn_of_wp Tryd.func43 rfl trivial ?_ rfl;simp only[Tryd.ntmps43,Oi,iy,o5,Nat.reduceAdd,Nat.reduceSub,Array.replicate_succ,Array.replicate_zero,List.push_toArray,List.append_toArray,IA,Kb];gi_wp2
 gi_loopw [] (fun wr=>∃(pre:List (ah)) (rest:ah),wr.heap[Bs]? =some (.cells #[Value.string ⟨(rest).toArray⟩] 9 (0,0))∧Fa src=pre++Fa rest∧rest.length≤4000000000∧J pre wr)
  (fun wr=>OZ Bs wr)
 case atStart=>
  exact⟨[],src,hBs,rfl,hsrc,h0⟩
 case round=>
  obtain⟨pre,rest,hB,hx,hrl,hJ⟩:=hrel;have hcell:wr.cell? ⟨Bs,0,none⟩=some (Value.string ⟨(rest).toArray⟩):=by simp[World.cell?,hB]
  have hfr:wr.frozen? ⟨Bs,0,none⟩=false:=by simp[World.frozen?,hB]
  cases rest with
  |nil=>
   gi_wp2
   go_end0
   exact⟨⟨_,rfl⟩,.inl ⟨pre,by rw[hx,LC,Oa],hJ⟩⟩
  |cons c0 t0=>
   obtain⟨s0,hs0⟩: ∃s0,c0::t0=s0:=⟨_,rfl⟩
   have hpos:0<s0.length:=by rw[←hs0];simp
   rw[hs0] at hB hx hcell hrl
   cases hc:s0.contains 10 with
   |true=>
    have hib:=Au s0;rw[hc,if_pos rfl] at hib;have hb:=nW s0 hc;gi_wp2
    refine⟨trivial,?_⟩;refine(callsIn_wide.2 (Tryd.strings_IndexByte _ _ _)).mono ?_;rintro e w1 ⟨rfl,rfl⟩;gi_wp2
    have hmx:Tryd.prog.follows .mixedOrders=true:=by kernel_rfl
    obtain⟨k,hk⟩: ∃k,(dx s0).length=k:=⟨_,rfl⟩
    rw[hk] at hb;rw[hk];have hw1:IntKind.i64.wrap ((k:Int)+1)=(k:Int)+1:=IntWalk.i64_in _ (by omega);have hw2:(0:Int)≤(k:Int)+1:=by omega
    have hw3:((k:Int)+1).toNat=k+1:=by omega
    have hw4:(k:Int)+1≤(s0.length:Int):=by omega
    have hw5:k+1≤s0.length:=by omega
    have hx1:(⟨s0.toArray⟩:ByteArray).extract 0 (k+1)=⟨(dx s0++[10]).toArray⟩:=by
     have:=Nt.Ev.I4 s0 0 ((k+1:Nat):Int);simp only[Int.toNat_zero,Md] at this;rw[this,←J5 s0 hc,hk];unfold Nt.Ev.dN;simp
    have hx2:(⟨s0.toArray⟩:ByteArray).extract (k+1) s0.length=⟨(dA s0).toArray⟩:=by
     have:=Nt.Ev.I4 s0 ((k+1:Nat):Int) (s0.length:Int);simp only[Md] at this;rw[this];unfold Nt.Ev.dN dA;rw[hk,Md,Md,J8 (by simp)]
    gi_region_with_o fail
    all_goals try rw[hx1]
    all_goals try rw[hx2]
    all_goals
     obtain⟨W2,hW2⟩: ∃W2,(w1.setCell {block:=Bs,off:=0} (Value.string ⟨(dA s0).toArray⟩)).drew=W2:=⟨_,rfl⟩
     rw[hW2];have hJ2:J pre W2:=by rw[←hW2];exact hJd _ _ (hJs _ _ _ hJ)
     have hB2:W2.heap[Bs]? =some (.cells #[Value.string ⟨(dA s0).toArray⟩] 9 (0,0)):=by
      rw[←hW2];exact Boxed.set (W:=w1) (B:=Bs) (t:=9) _ hB
     obtain⟨fn,tmps,assign,body,hy,hR⟩:=hY pre (dx s0++[10]) W2 hJ2 (by rw[hx,pQ hc];simp) (by rw[nY,iy,o5];omega);gi_wp2
     refine hR.mono ?_;rintro e W3 (⟨rfl,hJ3,hk3⟩|⟨rfl,hJx3⟩)
     ·gi_wp2
      go_roundw
      case rel=>exact⟨pre++[dx s0++[10]],dA s0,hk3.trans hB2,by rw[hx,pQ hc];simp,by omega,hJ3⟩
      case measure=>
       rw[yT (hk3.trans hB2),yT hB];omega
     ·gi_wp2
      refine bodyPost_ret (results_none rfl _ _ _) rfl ?_;exact⟨⟨_,rfl⟩,.inr ⟨pre++[dx s0++[10]],⟨Fa (dA s0),by rw[hx,pQ hc];simp⟩,hJx3⟩⟩
   |false=>
    have hib:=Au s0;rw[hc,if_neg (by decide)] at hib;gi_wp2
    refine⟨trivial,?_⟩;refine(callsIn_wide.2 (Tryd.strings_IndexByte _ _ _)).mono ?_;rintro e w1 ⟨rfl,rfl⟩;have hJ2:J pre (w1.setCell {block:=Bs,off:=0} (Value.string ⟨#[]⟩)):=hJs _ _ _ hJ;have hB2:(w1.setCell {block:=Bs,off:=0} (Value.string ⟨#[]⟩)).heap[Bs]? =some (.cells #[Value.string ⟨([]:ah).toArray⟩] 9 (0,0)):=
     Boxed.set (W:=w1) (B:=Bs) (t:=9) _ hB
    have hne:s0≠[]:=by rw[←hs0];simp
    obtain⟨fn,tmps,assign,body,hy,hR⟩:=hY pre s0 _ hJ2 (by rw[hx,pR hc hne];simp) hrl;gi_wp2
    refine hR.mono ?_;rintro e W3 (⟨rfl,hJ3,hk3⟩|⟨rfl,hJx3⟩)
    ·gi_wp2
     go_roundw
     case rel=>exact⟨pre++[s0],[],hk3.trans hB2,by rw[hx,pR hc hne,LC];simp,by simp,hJ3⟩
     case measure=>
      rw[yT (hk3.trans hB2),yT hB];simpa using hpos
    ·gi_wp2
     refine bodyPost_ret (results_none rfl _ _ _) rfl ?_;exact⟨⟨_,rfl⟩,.inr ⟨pre++[s0],⟨[],by rw[hx,pR hc hne];simp⟩,hJx3⟩⟩
theorem step_skip {P:Program} {ops:Array Oper} {Q:Exit→Act→World→Prop} {o:Oper} {a:Act} {w' b:World} {K:Act→World→Prop} (d:o.guard=none) (h:(execOp a.eval o).run P w'=.ok .skip b) (c:K (a.put o.dst undef) b):
  if Region.wanted o (yielded ops a.tmps)=true then o.wp P a w' K Q else K (a.put o.dst undef) w':=by
 rw[if_pos (by simp[Region.wanted,d])];unfold Oper.wp;rw[h];exact c
theorem yc {W:World} {base:Nat} {e:TypeId} {a:Nat} {p:Option Addr} {n cap k:Nat} {xs:List Value} (h:W.ownsRow base e a (.slice p n cap) k xs):n=k:=by
 rcases h.2 with⟨b,f⟩|⟨g,c,d,b,_⟩
 ·cases b;omega
 ·cases b;rfl
theorem E6 {W:World} {base:Nat} {e:TypeId} {a:Nat} {v:Value} {k m:Nat} {xs ys:List Value} (h:W.ownsRow base e a v k xs) (c:W.ownsRow base e a v m ys):k=m:=by
 rcases h.2 with⟨rfl,f⟩|⟨g,b,d,rfl,_⟩
 ·exact(show 0=k by omega)▸yc c
 ·exact yc c
def FO (O:Nat) (v:Value) (k:Nat) (xs:List Value) (x:ah):Nat→Value→World→Prop
 |0,u,_=>u=v
 |1,u,_=>u=.string ⟨x.toArray⟩
 |2,u,_=>u=.string ⟨(jE x).toArray⟩
 |3,u,w=>∃g,u=.slice (some ⟨g,0,none⟩) 1 1∧w.heap[g]? =some (.cells #[.string ⟨(jE x).toArray⟩] 9 (0,0))
 |4,u,w=>w.ownsRow (O+2) 9 1 u (k+1) (xs++[.string ⟨(jE x).toArray⟩])
 |5,_,w=>∃u,Boxed w O 65 u∧w.ownsRow (O+2) 9 1 u (k+1) (xs++[.string ⟨(jE x).toArray⟩])
 |_,_,_=>True
def GO (O:Nat) (v:Value) (k:Nat) (xs:List Value):Nat→World→Prop
 |0,w=>Boxed w O 65 v∧w.ownsRow (O+2) 9 1 v k xs
 |4,w=>Boxed w O 65 v∧w.ownsRow (O+2) 9 1 v k xs
 |5,w=>∃u,Boxed w O 65 u
 |_,_=>True
theorem Rj {O:Nat} {v:Value} {k:Nat} {xs:List Value} {x:ah} {w:World} (o:Obj) (j:Nat) (u:Value) (h:FO O v k xs x j u w):FO O v k xs x j u (w.alloc o):=by
 unfold FO at*;split at h
 ·exact h
 ·exact h
 ·exact h
 ·obtain⟨g,rfl,h⟩:=h
  exact⟨g,rfl,Rf h (iM _ _)⟩
 ·exact h.alloc _
 ·obtain⟨u,b,a⟩:=h
  exact⟨u,b.alloc _,a.alloc _⟩
 ·trivial
theorem Rk {O:Nat} {v:Value} {k:Nat} {xs:List Value} {w:World} (o:Obj) (j:Nat) (h:GO O v k xs j w):GO O v k xs j (w.alloc o):=by
 unfold GO at*;split at h
 ·exact⟨h.1.alloc _,h.2.alloc _⟩
 ·exact⟨h.1.alloc _,h.2.alloc _⟩
 ·obtain⟨u,h⟩:=h
  exact⟨u,h.alloc _⟩
 ·trivial
theorem Zh:(Tryd.prog.info? 9).map (fun i=>(i.zero,i.size,i.bytes))=some (some (.string ⟨#[]⟩),1,16):=by kernel_rfl
abbrev Cr (l:List (ah)):List Value:=l.map fun x=>Value.string ⟨x.toArray⟩
set_option maxRecDepth 100000 in
set_option maxHeartbeats 2000000 in
theorem Zi (s:ah) (hs:s.length≤4000000000) (w:World):
  CallsIn Fence.wide 10 Tryd.prog 20 #[.string ⟨s.toArray⟩] w fun e W'=>∃v,e=.returned v∧W'.ownsRow w.heap.size 9 1 v (Fw s).length (Cr (Fw s))∧Below w.heap.size w W':=by
 have hll:=Ji (s.length+1) s (by omega);obtain⟨i0,hi,hz0,hz1,hz2⟩:=info_parts Zh;refine callsIn_of_wp_marks Tryd.func20 rfl trivial ?_ rfl;simp only[Tryd.ntmps20,Oi,iy,o5,Nat.reduceAdd,Nat.reduceSub,Array.replicate_succ,Array.replicate_zero,List.push_toArray,List.append_toArray,IA,Kb];gi_wp2_with (refine⟨trivial,?_⟩;gi_at_call 30;refine(Ri _ _).mono ?_;rintro e w' ⟨rfl,rfl⟩)
 have bO:=Boxed.new w 65 (.slice none 0 0);have bN:=Boxed.new (w.alloc (.cells #[.slice none 0 0] 65)) 9 (.string ⟨s.toArray⟩);rw[World.size_alloc] at bN;have hB0:Below w.heap.size w ((w.alloc (.cells #[.slice none 0 0] 65)).alloc (.cells #[.string ⟨s.toArray⟩] 9)):=((Below.refl _ w).alloc (iA _) _).alloc (by simp) _;obtain⟨w2,hw2⟩: ∃w2,((w.alloc (.cells #[.slice none 0 0] 65)).alloc (.cells #[.string ⟨s.toArray⟩] 9))=w2:=⟨_,rfl⟩
 have hw2s:w2.heap.size=w.heap.size+2:=by rw[←hw2];simp
 have bO2:Boxed w2 w.heap.size 65 (.slice none 0 0):=by rw[←hw2];exact bO.alloc _
 rw[hw2] at bN hB0⊢;have hstops:Dq (w.heap.size+1) (fun x:ah=>x.length≤4000000000) Fence.wide 9 Tryd.prog 43 #[.pointer (some ⟨w.heap.size+1,0,none⟩)] (fun x:ah=> #[Value.string ⟨x.toArray⟩]) (fun A B=>B.heap[w.heap.size+1]? =A.heap[w.heap.size+1]?) (fun ys=>ys=Fa s) (fun pre=>pre<+:Fa s) (Fa s).length w2:=by
  intro l J Jx W hW hJ _ hJs hY h0;refine NV l (w.heap.size+1) s hs J Jx hJs (fun q W1 hq=>hJ q W1 _ none hq ⟨rfl,rfl,rfl,iA _,fun _ _ _=>rfl⟩ (fun r e=>by cases e)) hY W ?_ h0;exact(hW.block _ (by omega)).trans bN
 refine wM (Bs:=w.heap.size+1) (F:=Fence.wide) (n:=10) rfl (by omega) (gf:=43) (lb:= #[.pointer (some ⟨w.heap.size+1,0,none⟩)]) rfl trivial (enters_of Tryd.func43 (by kernel_rfl) rfl)
  hstops (fun h k=>k.trans h) (fun W l o o' hl h _ _=>World.putObj_heap_other (by omega)) (Below.refl _ _) (fun _=>rfl) (by omega)
  (fun pre W=>(∃v,Boxed W w.heap.size 65 v∧W.ownsRow (w.heap.size+2) 9 1 v pre.length (Cr (pre.map jE))∧True)∧Below w.heap.size w2 W)
  (fun _ _ _=>False)
  (OwnFrom.and (Own.from (holdsRow_own (w.heap.size+2) w.heap.size 65 9 1 (fun pre:List (ah)=>pre.length) (fun pre=>Cr (pre.map jE)) (fun _ _=>True)) _) (ownFrom_below (by omega) (by omega)))
  (fun _ _ _ _ _ hs _ _=>hs)
  ?store
  ⟨⟨_,bO2,World.ownsRow_nil _ _ _ _,trivial⟩,Below.refl _ _⟩
  (fun x=>{tmps:= #[.string ⟨s.toArray⟩,undef,.slice none 0 0,.pointer (some ⟨w.heap.size,0,none⟩),.string ⟨x.toArray⟩,.string ⟨s.toArray⟩,.func (.func 43) #[] #[.pointer (some ⟨w.heap.size+1,0,none⟩)],.string ⟨x.toArray⟩,undef,undef,undef,undef,undef,undef],defers:=[]}) ?assign ?body ?done ?stop
 case store=>
  rintro pre W v ⟨⟨u,hu,hr,_⟩,hB⟩;refine⟨⟨u,hu.other (by omega) v,hr.kept (grownBy_setCell' W _ v) ?_,trivial⟩,hB.setCell (p:=⟨w.heap.size+1,0,none⟩) (by simp) _⟩
  cases h:u.ownBlock with
  |none=>exact .inl rfl
  |some k=>
   refine .inr fun e=>?_
   have:=(hr.lt k h).1
   cases e;omega
 case assign=>
  intro l x W K hK;gi_wp2
  exact hK
 case body=>
  rintro l pre x W ⟨⟨v,hv,hrow,_⟩,hB⟩ hlt hxl;have hc:=hv.cell;have hmx:Tryd.prog.follows .mixedOrders=true:=by kernel_rfl
  gi_wp2
  have hte:65≠9:=by decide
  have hwl:w.heap.size+2≤W.heap.size:=by have:=hB.size;omega
  refine yF hmx (by kernel_rfl) (by kernel_rfl) (by kernel_rfl) [5] (by decide) (FO w.heap.size v pre.length (Cr (pre.map jE)) x) (GO w.heap.size v pre.length (Cr (pre.map jE)))
   (fun w'=>Below w.heap.size W w'∧KeepsOthers W w'∧w'.heap[w.heap.size+1]? =W.heap[w.heap.size+1]?) ⟨(Below.refl _ _).drew,KeepsOthers.drew _,rfl⟩ ?_ ?_ ?_
  ·intro i
   unfold GO;split
   ·exact⟨hv,hrow⟩
   ·exact⟨hv,hrow⟩
   ·exact⟨v,hv⟩
   ·trivial
  ·refine⟨?_,?_,?_,?_,?_,?_,trivial⟩
   ·intro a' w' hJ hG _ _ hf hd K hK
    simp[jw,lV,Op.operands,FO,Slot] at hf hd;have hcl:=hG.1.cell;refine oM rfl ?_ (hK v w' rfl hJ (fun _ _ _ _ h=>h) (fun _ _ _ h=>h));go_simp
   ·intro a' w' hJ hG _ _ hf hd K hK
    simp[jw,lV,Op.operands,FO,Slot] at hf hd;refine oM rfl ?_ (hK (.string ⟨x.toArray⟩) w' rfl hJ (fun _ _ _ _ h=>h) (fun _ _ _ h=>h));go_simp
   ·intro a' w' hJ hG _ _ hf hd K hK
    simp[jw,lV,Op.operands,FO,Slot] at hf hd;refine NS rfl (f:=31) (args:= #[.string ⟨x.toArray⟩,.string ⟨#[10]⟩]) ?_ ?_
    ·go_simp
    ·refine Calls.mono (Tryd.strings_TrimSuffix _ _ _ (by simp[ByteArray.size];omega)) ?_
     rintro e w'' ⟨rfl,rfl⟩;exact⟨_,rfl,hK _ _ rfl hJ (fun _ _ _ _ h=>h) (fun _ _ _ h=>h)⟩
   ·intro a' w' hJ hG _ _ hf hd K hK
    simp[jw,lV,Op.operands,FO,Slot] at hf hd;refine oM rfl ?_ (hK (.slice (some ⟨w'.heap.size,0,none⟩) 1 1) (w'.alloc (.cells #[.string ⟨(jE x).toArray⟩] 9)) ⟨_,rfl,World.alloc_heap_new w' _⟩ ⟨Below.alloc hJ.1 (by have:=hJ.1.size;omega) _,hJ.2.1.trans (KeepsOthers.alloc _ _),(Below.heap_alloc _ _ _ (by have:=hJ.1.size;omega)).trans hJ.2.2⟩ (fun j u _ _ h=>Rj _ j u h) (fun j _ _ h=>Rk _ j h));go_simp
   ·intro a' w' hJ hG _ _ hf hd K hK
    obtain⟨h0,h3,_⟩:=hd;obtain⟨u0,⟨h8,_⟩,e0⟩:=h0 rfl _ rfl;have e0:u0=v:=e0;rw[e0] at h8;obtain⟨u3,⟨h11,_⟩,g,rfl,hg⟩:=h3 rfl _ rfl;obtain⟨hv',hrow'⟩:=hG;have hsz':=hJ.1.size;have hnews: ∀j u,([.string ⟨(jE x).toArray⟩]:List Value)[j]? =some u→w'.cell? ((⟨g,0,none⟩:Addr).add j)=some u:=by
     intro j u hj;match j,hj with
     |0,hj=>simp at hj;subst hj;simp[Addr.add,World.cell?,hg]
    obtain⟨v',w'',hrun,hown',hgrow,_⟩:=run_append_own (P:=Tryd.prog) w' (w.heap.size+2) 65 65 9 i0 (.string ⟨#[]⟩) 1 16 Tryd.underlying65 hi hz0 hz1 hz2 rfl (by decide) v pre.length _ hrow' ⟨g,0,none⟩ 1 1 [.string ⟨(jE x).toArray⟩] rfl hnews (by simp[Value.oneCell']) (by unfold maxLen;omega) (by omega) (by omega);have hv2:Boxed w'' w.heap.size 65 v:=hv'.kept hgrow (hv'.not_row hte hrow');refine oM rfl ?_ (hK v' w'' hown' ⟨?_,?_,?_⟩ (fun j u hne hl h=>?_) (fun j hne hw h=>?_))
    ·simp[execOp,resolve,invoke,builtin,Act.eval,h8,h11,hrun,Result.andThen]
    ·exact hJ.1.grown hgrow (by omega) (fun k e=>by have:=(hrow'.lt k e).1;omega)
    ·refine hJ.2.1.trans (KeepsOthers.of_grownBy hgrow fun j o ej hj=>?_)
     rcases hrow'.2 with⟨rfl,_⟩|⟨g',cap,cur,rfl,_,hgb,_⟩
     ·simp[Value.ownBlock] at ej
     ·obtain rfl:g'=j:=by simpa[Value.ownBlock] using ej
      rw[hgb] at hj;cases hj;rfl
    ·refine(hgrow.block _ (by omega) (fun e=>?_)).trans hJ.2.2
     have:=(hrow'.lt _ e.symm).1;omega
    ·have n3:j≠3:=fun e=>by subst e;exact absurd (hl.symm.trans (by kernel_rfl:_=false)) (by decide: ¬true=false)
     unfold FO at*;split at h
     ·exact h
     ·exact h
     ·exact h
     ·exact absurd rfl n3
     ·exact absurd rfl hne
     ·exfalso
      obtain⟨u0,hu0,hr0⟩:=h;have e1:u0=v:=by
       have:=hu0.symm.trans hv';simpa using this
      subst e1;have k1:=E6 hr0 hrow';omega
     ·trivial
    ·have n0:j≠0:=fun e=>by subst e;exact absurd (hw.symm.trans (by kernel_rfl)) (by decide: ¬false=true)
     unfold GO at*;split at h
     ·exact absurd rfl n0
     ·exact absurd rfl hne
     ·exact⟨v,hv2⟩
     ·trivial
   ·intro a' w' hJ hG _ _ hf hd K hK
    obtain⟨h4,_⟩:=hd;obtain⟨u4,⟨h12,_⟩,hown'⟩:=h4 rfl _ rfl;have hown':w'.ownsRow (w.heap.size+2) 9 1 u4 (pre.length+1) (Cr (pre.map jE)++[.string ⟨(jE x).toArray⟩]):=hown';obtain⟨u0,hu0⟩:=hG;have hcl:=hu0.cell;have hfr:=hu0.frozen;have hsz':=hJ.1.size;obtain⟨g4,cap4,rfl⟩:=ownsRow_succ hown';refine step_skip rfl ?_ (hK undef (w'.setCell ⟨w.heap.size,0,none⟩ (.slice (some ⟨g4,0,none⟩) (pre.length+1) cap4)) ⟨_,hu0.set _,hown'.kept (grownBy_setCell' w' _ _) (.inr (hu0.not_row hte hown').symm)⟩ ⟨?_,?_,?_⟩ (fun j u hne hl h=>?_) (fun j hne hw h=>?_))
    ·obtain⟨h3,_⟩:=hf
     obtain⟨h3,_⟩:=h3 rfl (.pointer (some ⟨w.heap.size,0,none⟩)) rfl;go_simp
    ·exact hJ.1.setCell (p:=⟨w.heap.size,0,none⟩) (iA _) _
    ·exact hJ.2.1.trans (KeepsOthers.setCell _ _ _)
    ·exact((grownBy_setCell' w' w.heap.size _).block _ (by omega) (fun e=>by have:=Option.some.inj e;omega)).trans hJ.2.2
    ·have n3:j≠3:=fun e=>by subst e;exact absurd (hl.symm.trans (by kernel_rfl:_=false)) (by decide: ¬true=false)
     have n4:j≠4:=fun e=>by subst e;exact absurd (hl.symm.trans (by kernel_rfl:_=false)) (by decide: ¬true=false)
     unfold FO at*;split at h
     ·exact h
     ·exact h
     ·exact h
     ·exact absurd rfl n3
     ·exact absurd rfl n4
     ·exact absurd rfl hne
     ·trivial
    ·have n0:j≠0:=fun e=>by subst e;exact absurd (hw.symm.trans (by kernel_rfl)) (by decide: ¬false=true)
     have n4:j≠4:=fun e=>by subst e;exact absurd (hw.symm.trans (by kernel_rfl)) (by decide: ¬false=true)
     unfold GO at*;split at h
     ·exact absurd rfl n0
     ·exact absurd rfl n4
     ·exact absurd rfl hne
     ·trivial
  ·intro val w' hJ hF
   obtain⟨⟨u,hu,hr⟩,_⟩:=hF;refine⟨hJ.2.1,hJ.2.2,⟨u,hu,?_,trivial⟩,hB.trans hJ.1⟩;simpa using hr
 case done=>
  rintro D ys W hD rfl ⟨⟨v,hv,hrow,_⟩,hB⟩ hK;have hc:=hv.cell;gi_wp2
  refine⟨by simp,.inl ⟨_,_,rfl,run_takeDeferred hK,?_⟩⟩;refine⟨_,results_tmp rfl _ _ _,v,rfl,?_,?_⟩
  ·have hlP:Fw s=(Fa s).map jE:=Jh (s.length+1) s (by omega)
   rw[hlP,vk];exact E4 (ownsRow_putObj hrow _ hK rfl) (by omega)
  ·exact hB0.trans (hB.trans (belowK_b (w:=w2) (by omega) W D _ _ hD hK rfl rfl))
 case stop=>
  rintro D c pre W _ _ h _;exact h.elim
end Go.Proofs.YtcmockbdkppglaaDoor
namespace Nt.Ev.YtcmockbdkppglaaDoor
open Go Nt.Num Go.Proofs.YtcmockbdkppglaaDoor
noncomputable def Fx:V→Bool| .nilp=>true| .box k off=>k==HL&&off==0|_=>false
noncomputable def SK:V→Bool| .nilsl=>true| .sl e sh (some L) xs=>e==5&&Kd.zn [.int .u8] sh&&L==1000001002|_=>false
noncomputable def bbS:V→ah| .sl _ _ _ xs=>eF xs|_=>[]
noncomputable def bbN:V→V| .sl e sh _ xs=> .sl e sh none xs|v=>v
noncomputable def YM:aO:=fun a=>match a with|[.bxa 0 [x,b]]=>some (Fx x,.out false (.tup []) [[.box HL 0,b]])|_=>none
noncomputable def YN:aO:=fun a=>match a with|[.bxa 0 [x,b]]=>some (av (Fx x) (SK b),.out false (.str (bbS b)) [[x,bbN b]])|_=>none
open Go.RowKit Nt
theorem GA {x:V} (h:Fx x=true):x=.nilp∨x=.box HL 0:=by
 unfold Fx at h;split at h
 ·exact .inl rfl
 ·rename_i k off
  rw[bB,fT,fT] at h;rw[h.1,h.2];exact .inr rfl
 ·cases h
theorem Ey (x b:V) (a:Fx x=true):qb oE 27 [.bxa 0 [x,b]] (.out false (.tup []) [[.box HL 0,b]]):=
 qb.out (Lu rfl x b [] (GA a))
theorem Ez (x b:V) (d:av (Fx x) (SK b)=true):qb oE 17 [.bxa 0 [x,b]] (.out false (.str (bbS b)) [[x,bbN b]]):=by
 obtain⟨c,a⟩:=aR d;refine qb.out ?_;unfold SK at a;split at a
 ·exact ru rfl x []
 ·rename_i e sh L xs
  rw[bB,bB,fT,fT] at a;obtain⟨⟨rfl,h3⟩,rfl⟩:=a;have h3:=Kd.fD _ _ h3;subst h3;exact Dn rfl x [] (by rcases GA c with rfl|rfl<;>rfl) rfl xs
 ·cases a
theorem bcat (a b:ah):bT (aC a) (aC b)=aC (a++b):=by unfold bT aC;simp
theorem bvb (l:ah):eF (aC l)=l:=by
 unfold eF aC;rw[RQ];refine(R8 fun c _=>?_).trans (ZO l);show UInt8.ofNat ((c.toNat:Int)).toNat=c;rw[Md];exact UInt8.ofNat_toNat
theorem bapp (a b:ah) (h:a.length+b.length≤16777216):fO (aC a) (aC b)=true:=by
 rw[dH];unfold aC;rw[vk,vk];omega
theorem bnew (a:ah) (h:a.length≤16777216):oV (aC a)=true:=by
 unfold oV UR aC;rw[vk];exact DD h
open Nt.Lin
def eu (s:ah):af:=fP (Fw s)
def BL (s:ah):Bool:=s.any fun c=>aS (ieq (c.toNat:Int) 9)&&(aZ (c.toNat:Int) 32||aZ 126 (c.toNat:Int))
noncomputable def YO:aO:=fun a=>match a with|[.str s]=>some (aH (aK s) 4000000,.sl 9 [.str] none (eu s))|_=>none
noncomputable def YP:aO:=fun a=>match a with|[.str s,.fn f []]=>some (av (f==46) (aH (aK s) 4000000),.bool (BL s))|_=>none
noncomputable def xS0:List (Nat×aO):=(20,YO)::(47,YP)::[]
def Kh (s:ah):Int:=sel (aZ 511 (aK s)) 9 (sel (BL s) 7 0)
theorem Rl (F r) (K:V→Option V):
 gF oE (fK oE oS F 2) F 46 [V.int .i32 r] K=
 sel (aS (ieq r 9)) (sel (aZ r 32) (K (V.bool true)) (K (V.bool (aZ 126 r)))) (K (V.bool false)):=by kernel_rfl
theorem J6 (F s) (K:V→Option V):
 gF oE (fK oE xS0 F 2) F 32 [V.str s] K=
 sel (aZ 511 (aK s)) (K (V.int .i64 9)) (sel (av true (aH (aK s) 4000000)) (sel (BL s) (K (V.int .i64 7)) (K (V.int .i64 0))) none):=by kernel_rfl
theorem WT {G:aI} {w w':World} (d:sU G w) {b:Nat} {c:Array Value} {e:TypeId} {fr:Nat×Nat} (hB:Below w.heap.size w w') (r:w.heap.size≤b) (g:w'.heap[b]? =some (.cells c e fr)) (n:Nat) (m:n≤c.size):
  New w w' G (upd G b (c.toList.take n)):=by
 refine⟨hB,fun a p=>fE _ _ _ _ (by omega),?_⟩;intro a l h;by_cases f:a=b
 ·subst f
  rw[upd_same] at h;simp only[aF] at h;subst h;refine⟨c,e,fr,g,?_⟩;have o:c.toList.length=c.size:=by simp
  rw[B6,o,ZG m]
 ·rw[fE _ _ _ _ f] at h
  obtain⟨i,j,fr',q,k⟩:=d a l h;exact⟨i,j,fr',by rw[hB.block a (dU d h)];exact q,k⟩
theorem Rm {G:aI} {w w':World} (d:sU G w) {v:Value} {e:TypeId} (L:List (ah)) (hB:Below w.heap.size w w') (h:w'.ownsRow w.heap.size e 1 v L.length (yQ L)):
  ∃G',New w w' G G'∧aJ G' (.sl e [.str] none (fP L)) v:=by
 rcases h.2 with⟨rfl,k⟩|⟨g,cap,i,rfl,m,j,f,o,n,a⟩
 ·refine⟨G,⟨hB,fun _ _=>rfl,fun b l hl=>?_⟩,?_⟩
  ·obtain⟨c,e,fr,f,a⟩:=d b l hl
   exact⟨c,e,fr,by rw[hB.block b (dU d hl)];exact f,a⟩
  ·have:L=[]:=RN k
   subst this;unfold aJ;exact⟨none,0,rfl,iA _,.inl rfl⟩
 ·refine⟨_,WT d hB m j L.length (by omega),?_⟩
  unfold aJ;refine⟨some ⟨g,0,none⟩,cap,by rw[wE],by rw[wE];exact f,.inr ⟨g,0,_,rfl,upd_same _ _ _,?_⟩⟩;rw[XR] at a;rw[a,Om];have:=Dj (G:=upd G g (yQ L)) L [];rw[Oa] at this;exact this
theorem LD (s:ah) (g:aH (aK s) 4000000=true):ak oE 20 [.str s] (.sl 9 [.str] none (eu s)):=by
 intro G w vs f h b;obtain⟨x,rfl,hx⟩:=Pn b;unfold aJ at hx;subst hx;rw[ax,aA] at g;refine(callsIn_wide.1 (Zi s (by omega) w)).mono ?_;rintro e w' ⟨v,rfl,c,hB⟩;obtain⟨G',d,a⟩:=Rm f (Fw s) hB c;exact⟨v,G',rfl,d,a⟩
def zy (r:Int):Bool:=sel (aS (ieq r 9)) (sel (aZ r 32) true (aZ 126 r)) false
theorem Ud (r:Int):ak oE 46 [.int .i32 r] (.bool (zy r)):=by
 refine aG Vb Za 1 2 ?_;rw[Rl];unfold zy
 cases aS (ieq r 9)<;>cases aZ r 32<;>rfl
theorem LF (s:ByteArray): ∀(f pos:Nat),pos≤s.size→s.size-pos≤f→decide (0≤Go.Lib.idxFuncFrom (fun r=>zy (r:Int)) true s f pos)=(s.data.toList.drop pos).any fun c=>zy (c.toNat:Int)
 |0,pos,j,e=>by
  rw[XH (by rw[yG];exact(show s.size≤pos by omega))];rfl
 |f+1,pos,j,e=>by
  unfold Go.Lib.idxFuncFrom;by_cases a:pos<s.size
  ·rw[if_pos a]
   have hl:pos<s.data.toList.length:=by rw[yG];exact a
   have d:s.data.toList.drop pos=s.data.toList[pos]::s.data.toList.drop (pos+1):=ab5 hl;have g:s.data.toList[pos]=s[pos]'a:=by simp;rfl
   rw[d,UO,g];by_cases h:(s[pos]'a).toNat<128
   ·rw[decode_ascii s pos a h]
    cases k:zy (((s[pos]'a).toNat:Nat):Int) with
    |true=>rw[if_pos rfl];simp
    |false=>
     rw[if_neg (by decide),Xq];exact LF s f (pos+1) (by omega) (by omega)
   ·have i:=(decode_high s pos a (by omega)).1
    have b: ∀n:Nat,128≤n→zy (n:Int)=true:=fun n l=>by
     unfold zy;rw[bJ (by omega),bV (show(126:Int)<(n:Int) by omega)]
     cases aZ (n:Int) 32<;>rfl
    rw[if_pos (b _ i),b _ (by omega)];simp
  ·rw[if_neg a,XH (by rw[yG];exact(show s.size≤pos by omega))];rfl
theorem Ue (s:ah):(s.any fun c=>zy (c.toNat:Int))=BL s:=by
 unfold BL;congr 1
 funext c
 unfold zy
 cases aS (ieq (c.toNat:Int) 9)<;>cases aZ (c.toNat:Int) 32<;>cases aZ 126 (c.toNat:Int)<;>rfl
theorem Uf (s:ah) (f:Nat) (h:av (f==46) (aH (aK s) 4000000)=true):ak oE 47 [.str s,.fn f []] (.bool (BL s)):=by
 obtain⟨n,p⟩:=aR h;obtain rfl:f=46:=by simpa using n
 refine fJ fun G w vs j m d=>?_
 obtain⟨x,y,rfl,hx,i⟩:=rO d;unfold aJ at hx i;obtain⟨rfl,_⟩:=i;subst hx;have d:Go.Proofs.PredGrows Go.Proofs.Tryd.prog 46 #[] (fun r=>zy (r:Int)) w:=by
  intro W x _ a;refine(Ud (x:Int) G W [.int .i32 x] ?_ ?_ ?_).mono ?_
  ·intro b l hl
   obtain⟨c,e,fr,h,k⟩:=j b l hl;exact⟨c,e,fr,by rw[a.block b (dU j hl)];exact h,k⟩
  ·exact m.more (jB.refl _) (uF a)
  ·exact .cons (by unfold aJ;rfl) .nil
  ·rintro e w' ⟨v,G',rfl,o,g⟩
   simp only[d9,jO] at g;unfold aJ at g;subst g;exact⟨rfl,o.1⟩
 refine(Go.Proofs.Tryd.strings_ContainsFunc_grows _ #[] (Go.Proofs.enters_of Go.Proofs.Tryd.func46 (by kernel_rfl) rfl) _ ⟨s.toArray⟩ w d).mono ?_;rintro e w' ⟨rfl,a⟩;refine⟨_,rfl,a,?_⟩;have:decide (0≤Go.Lib.idxFunc (fun r=>zy (r:Int)) true ⟨s.toArray⟩)=BL s:=by
  rw[←Ue];have:=LF ⟨s.toArray⟩ (⟨s.toArray⟩:ByteArray).size 0 (Ca _) (by omega);rw[Om] at this;exact this
 rw[this];exact Qu _
theorem WU:dP oE xS0:=by
 unfold xS0;refine dP.cons (fun args r h=>?_) (dP.cons (fun args r h=>?_) dP.nil);all_goals (revert h;intro h;first|unfold YO at h|unfold YP at h)
 all_goals (split at h;rotate_left; · cases h)
 all_goals (simp only[aF,bP] at h;obtain⟨a,rfl⟩:=h)
 ·exact LD _ a
 ·exact Uf _ _ a
theorem Ug (s:ah) (a:aH (aK s) 4000000=true):ak oE 32 [.str s] (.int .i64 (Kh s)):=by
 refine aG Vb WU 1 2 ?_;rw[J6,a];unfold Kh
 cases aZ 511 (aK s)<;>cases BL s<;>rfl
end Nt.Ev.YtcmockbdkppglaaDoor
