/-
  Loops over a map of the program's, in whatever order: what the evaluator answers, the model does.
-/
import Derived.Test.YtcmockbdkppglaaDoorMBS
import Derived.Maps.RangeRun
import Derived.Recover
import Derived.IntWalk
import Derived.ChangeArms
import Derived.OpenShut
import Derived.FnData
import Derived.WideKeyElems2
import Derived.Maps.RangeWalk
set_option linter.all false
namespace Nt.Ev
open Go Go.RowKit
section
variable {E:Env} {B:Own} {G0:aI} {w0:World} {s:St} {g:Gh} {a:Act} {w:World}
theorem Tf (h:Inv E B G0 w0 s g a w) {r:Nat} {m:Option Nat} {p M:Nat} {q:Array Nat} (F:w.heap[r]? =some (.mapIter m p q M)) (H:B.m r) (o:Obj):Inv E B G0 w0 s g a (Go.ChangeMaps.setBlock w r o):=by
 have d:=Go.MapKept.heap_set (o':=o) F;have i: ∀b c e f,w.heap[b]? =some (Obj.cells c e f)→(Go.ChangeMaps.setBlock w r o).heap[b]? =some (Obj.cells c e f):=fun b c e f G=>(d.2 b fun u=>by rw[u,F] at G;cases G).trans G
 have t:(Go.ChangeMaps.setBlock w r o).heap.size=w.heap.size:=by simp[Go.ChangeMaps.setBlock]
 refine⟨h.fr,h.df,fun b l hl=>?_,⟨fun L v e N hL=>?_,h.own.2⟩,⟨fun k I C=>?_,h.bxs.2⟩,⟨⟨h.gN.gN.os,h.gN.gN.tape,h.gN.gN.output,by rw[t];exact h.gN.gN.size,fun k C=>absurd C (Sc k)⟩,fun b x=>?_,fun b Q c R=>?_⟩,by rw[t];exact h.hB,h.ext,h.glob,h.g1,h.zb⟩
 ·obtain⟨c,e,f,j,z⟩:=h.gok b l hl
  exact⟨c,e,f,i _ _ _ _ j,z⟩
 ·obtain⟨j,z⟩:=h.own.1 L v e N hL
  refine⟨j,z.imp id ?_⟩;rintro⟨b,n,cap,D,l,S,A,P,y⟩;exact⟨b,n,cap,D,l,S,A,i _ _ _ _ P,y⟩
 ·obtain⟨b,c,e,J,T,K,O⟩:=h.bxs.1 k I C
  exact⟨b,c,e,J,T,i _ _ _ _ K,O⟩
 ·exact(d.2 b fun u=>x (by rw[u];exact H)).trans (h.gN.row b x)
 ·have j:=h.gN.map b Q c R
  exact(d.2 b fun u=>by rw[u,F] at j;cases j).trans j
theorem Inv.pin (h:Inv E B G0 w0 s g a w) {i:Nat} (n:s.iG i=true) (x:Option Nat):
  Inv E {B with β:=fun j=>if j=i then x else B.β j} G0 w0 s {g with β:=fun j=>if j=i then x else g.β j} a w:=by
 have hβ: ∀j,j≠i→(fun j=>if j=i then x else g.β j) j=g.β j:=fun j d=>if_neg d
 refine⟨h.fr.mono fun x hx v=>zR hβ (ug n x hx),h.df,h.gok,h.own,⟨fun j f d=>?_,fun j q f l d k m=>?_⟩,h.gN,h.hB,⟨h.ext.1,h.ext.2.1,fun j d=>?_⟩,h.glob,h.g1,fun j f L v e y b d hL m C=>?_⟩
 ·obtain⟨b,c,e,m,t,A,u,o⟩:=h.bxs.1 j f d
  obtain⟨r,hx⟩:=jI n j f d;exact⟨b,c,e,(hβ j r).trans m,t,A,u.mono fun x p v=>zR hβ (hx x p),o⟩
 ·have D:=(jI n j f d).1
  have z:=(jI n q l k).1;exact h.bxs.2 j q f l d k ((hβ j D).symm.trans (m.trans (hβ q z)))
 ·show(if j=i then x else g.β j)=if j=i then x else B.β j
  split
  ·rfl
  ·exact h.ext.2.2 j d
 ·exact h.zb j f L v e y b d hL m ((hβ j (jI n j f d).1).symm.trans C)
def Own.less (B:Own) (r:Nat):Own:=⟨fun b=>B.m b∧b≠r,B.n,B.β,B.df⟩
theorem Own.Tg {r L b:Nat} (h:(B.less r).ok L b):B.ok L b:=⟨h.1.1,h.2⟩
theorem Inv.guard (h:Inv E B G0 w0 s g a w) {r:Nat} {m:Option Nat} {i J:Nat} {j:Array Nat} (t:w.heap[r]? =some (.mapIter m i j J)):Inv E (B.less r) G0 w s g a w:=by
 have C:g.G r=none:=by
  cases x:g.G r with
  |none=>rfl
  |some l=>
   obtain⟨c,e,f,d,_⟩:=h.gok r l x;rw[t] at d;cases d
 refine⟨h.fr,h.df,h.gok,⟨fun L v e K hL=>?_,h.own.2⟩,⟨fun k H F=>?_,h.bxs.2⟩,.refl _ _,⟨h.hB.1,fun b u=>⟨h.hB.2 b u,fun e=>?_⟩⟩,⟨fun b u=>?_,h.ext.2⟩,⟨h.glob.1.more (.refl _) h.gN.map,h.glob.2⟩,h.g1,h.zb⟩
 ·obtain⟨d,D⟩:=h.own.1 L v e K hL
  refine⟨d,D.imp id ?_⟩;rintro⟨b,n,cap,z,l,O,o,A,q⟩;exact⟨b,n,cap,z,l,O,⟨⟨o.1,fun e=>by rw[e,t] at A;cases A⟩,o.2⟩,A,q⟩
 ·obtain⟨b,c,e,I,P,y,M⟩:=h.bxs.1 k H F
  exact⟨b,c,e,I,⟨P,fun e=>by rw[e,t] at y;cases y⟩,y,M⟩
 ·have:=(Array.getElem?_eq_some_iff.1 t).1
  omega
 ·by_cases p:b=r
  ·subst p
   rw[C]
   cases x:G0 b with
   |none=>rfl
   |some l=>
    obtain⟨Q,d,_⟩:=h.ext.2.1 b l x;rw[C] at d;cases d
  ·exact h.ext.1 b fun N=>u ⟨N,p⟩
theorem Inv.Ti {q:St} {p:Gh} {t:Act} {u:World} (h:Inv E B G0 w0 s g a w) {r:Nat} (k:Inv E (B.less r) G0 w q p t u):Inv E B G0 w0 q p t u:=by
 refine⟨k.fr,k.df,k.gok,⟨fun L v e D hL=>?_,k.own.2⟩,⟨fun j y o=>?_,k.bxs.2⟩,h.gN.trans (k.gN.mono fun j o=>o.1),⟨k.hB.1,fun b f=>(k.hB.2 b f).1⟩,⟨fun b f=>k.ext.1 b fun H=>f H.1,k.ext.2⟩,h.glob,k.g1,k.zb⟩
 ·obtain⟨z,x⟩:=k.own.1 L v e D hL
  refine⟨z,x.imp id ?_⟩;rintro⟨b,n,cap,m,l,I,i,G,d⟩;exact⟨b,n,cap,m,l,I,Own.Tg i,G,d⟩
 ·obtain⟨b,c,e,A,J,C,F⟩:=k.bxs.1 j y o
  exact⟨b,c,e,A,J.1,C,F⟩
theorem Tj {c:Code} {d:UT} (h:XV c=some d): ∃a i2 i3,c=.seq (.region a #[d.l,d.r] false) (.block d.L (.loop (.seq (.region i2 (d.n::d.o2).toArray false) (.seq (.cond d.c .skip (.exit d.L)) (.block d.L2 (.seq (.region i3 (d.e::d.o3).toArray false) d.body))))))∧
  d.r.op=.range d.t d.m∧d.r.dst=some d.it∧d.r.guard=none∧d.n.op=.next (.tmp d.it) false∧d.n.dst=some d.nx∧d.n.guard=none∧d.e.op=.entry (.tmp d.it)∧d.e.dst=some d.en∧d.e.guard=none:=by
 unfold XV at h;split at h
 ·rename_i a A L i2 o2 c L1 L2 i3 o3 body
  split at h
  ·rename_i l r n p e q u g h3
   split at h
   ·rename_i t m i j it nx en s z v x w o k y f
    obtain⟨b,h⟩:=au h;simp only[bB,fT] at b;obtain⟨⟨rfl,rfl⟩,rfl⟩:=b;simp only[aF] at h;subst h;refine⟨a,i2,i3,?_,s,x,k,z,w,y,v,o,f⟩;rw[←u,←g,←h3]
   ·cases h
  ·cases h
 ·cases h
def Lf (c:Array MapEntry) (a:Array Nat) (left:af):Prop:=∃b:List (Int×ah),left=b.map (fun p=> .agg [.int .i64 p.1,.str p.2])∧((leftOf c a).toList.map fun x=>(x.key,x.val)).Perm (b.map fun p=>(Value.int .i64 p.1,Value.string ⟨p.2.toArray⟩))
theorem Inv.Y6 (h:Inv E B G0 w0 s g a w) (i:Nat):Inv E B G0 w0 (s.put (some i) .any) g a w:=
 ⟨⟨by show(s.fr.set i .any).length=_;rw[Ol];exact h.fr.1,fun j x v hx c=>by
  have hx:(s.fr.set i .any)[j]? =some x:=hx;by_cases b:i=j
  ·subst b
   rw[Zv (by have:=(List.getElem?_eq_some_iff.1 c).1;rw[h.fr.1];exact this)] at hx;simp only[aF] at hx;subst hx;exact gm
  ·rw[List.getElem?_set_ne b] at hx
   exact h.fr.2 j x v hx c⟩,h.df,h.gok,h.own,h.bxs,h.gN,h.hB,h.ext,h.glob,h.g1,h.zb⟩
theorem Db {e:MapEntry}: ∀{l:List MapEntry},(l.map (·.born)).Nodup→e∈l→l.Perm (e::l.filter fun x=>!(x.born==e.born))
 |[],_,h=>by cases h
 |x::l,a,h=>by
  simp only[yJ,UM,ZM,not_exists,not_and] at a;rcases List.mem_cons.1 h with rfl|h
  ·rw[List.filter_cons_of_neg (by simp)]
   refine .cons _ (.of_eq (List.filter_eq_self.2 fun y d=>?_).symm);have:=a.1 y d;simpa using this
  ·have b:x.born≠e.born:=fun c=>a.1 e h c.symm
   rw[List.filter_cons_of_pos (by simpa using b)];exact((Db a.2 h).cons x).trans (.swap _ _ _)
theorem KV {α:Type}: ∀(l:List α) (i:Nat) (h:i<l.length),(l[i]::l.eraseIdx i).Perm l
 |[],i,h=>by cases h
 |x::l,0,h=> .refl _
 |x::l,i+1,h=>(List.Perm.swap _ _ _).trans ((KV l i (Nat.lt_of_succ_lt_succ h)).cons x)
theorem Lf.step {c:Array MapEntry} {a:Array Nat} {left:af} (h:Lf c a left) (s:(c.toList.map (·.born)).Nodup) {e:MapEntry} (o:e∈(leftOf c a).toList):
  ∃(i:Nat) (n:Int) (l:ah),left[i]? =some (.agg [.int .i64 n,.str l])∧e.key=.int .i64 n∧e.val=.string ⟨l.toArray⟩∧Lf c (a.push e.born) (left.eraseIdx i):=by
 obtain⟨f,rfl,k⟩:=h;have t:=k.mem_iff.1 (List.mem_map.2 ⟨e,o,rfl⟩);obtain⟨i,m⟩:=BD t;rw[qa] at m;obtain⟨p,d,b⟩:=Option.map_eq_some_iff.1 m;simp only[bP] at b;refine⟨i,p.1,p.2,by rw[qa,d];rfl,b.1.symm,b.2.symm,f.eraseIdx i,(Go.ChangeMaps.map_eraseIdx ..).symm,?_⟩;have hl:(leftOf c (a.push e.born)).toList=(leftOf c a).toList.filter fun x=>!(x.born==e.born):=by
  unfold leftOf;simp only[Array.toList_filter,List.filter_filter];refine List.filter_congr fun x _=>?_
  rw[contains_push,Bool.not_or,Bool.and_comm]
 have g:((leftOf c a).toList.map (·.born)).Nodup:=by
  unfold leftOf;rw[Array.toList_filter];exact s.sublist ((XM).map _)
 rw[hl];have q:=((Db g o).map fun x=>(x.key,x.val)).symm.trans k;have j:i<f.length:=(List.getElem?_eq_some_iff.1 d).1;have r:(f.map fun p=>(Value.int .i64 p.1,Value.string ⟨p.2.toArray⟩)).Perm ((e.key,e.val)::((f.eraseIdx i).map fun p=>(Value.int .i64 p.1,Value.string ⟨p.2.toArray⟩))):=by
  have:=(KV f i j).symm.map fun p=>(Value.int .i64 p.1,Value.string ⟨p.2.toArray⟩)
  rw[yJ] at this;have u:f[i]=p:=(List.getElem?_eq_some_iff.1 d).2;rw[u,b.1,b.2] at this;exact this
 rw[yJ] at q;exact List.Perm.cons_inv (q.trans r)
theorem sH (hE:oU E) {α:Type} {call:Caller α} (j:fM E call) {o:Oper} {l:List Oper} {K:St→Option α} {r:α} {Q:Exit→Act→World→Prop} (h:iZ E call (o::l) none (fun _ _=>none) l s K=some r) (f:Inv E B G0 w0 s g a w)
  (i: ∀s' g' b w',K s'=some r→Inv E B G0 w0 s' g' b w'→Q .normal b w'):wpOps E.P (o::l).toArray Q (List.range' 1 l.length) a w:=by
 rcases bX j l s K r h with⟨s',e,c⟩|⟨_,v,s',e,c⟩
 ·exact kG hE (ops:=(o::l).toArray) (Q:=Q) l 1 s s' g a w (by simp) e f fun g' b w' d=>i s' g' b w' c d
 ·cases c
theorem oO {P:Program} {o:Oper} {l:List Oper} {id:Nat} {Q:Exit→Act→World→Prop} {v:Value} {w':World} (c:o.guard=none) (b:(execOp a.eval o).run P w=.ok (.value v) w') (h:wpOps P (o::l).toArray Q (List.range' 1 l.length) (a.put o.dst v) w'):(Code.region id (o::l).toArray false).wp P Q a w:=by
 refine wp_region ?_;rw[show(o::l).toArray.size=l.length+1 from by simp,acs,ZE];unfold wpOps;rw[show((o::l).toArray)[0]? =some o from by simp];simp only;rw[if_pos (by unfold Region.wanted;rw[c])];refine .inl ?_;unfold Oper.wp;rw[b];exact h
theorem A9 (d:Inv E B G0 w0 s g a w) {r it:Nat} (hβ:B.β IT=some r) (h:isIt (slot s.fr it)=true):a.eval (.tmp it)=.pointer (some ⟨r,0,none⟩):=by
 have c:=bR (E:=E) d.fr d.eD (.tmp it);change aB g (slot s.fr it) _ at c
 unfold isIt at h;split at h
 ·rename_i k f
  rw[f] at c;obtain rfl:k=IT:=eq_of_beq h;obtain⟨b,i,e⟩:=cu.1 c;have:=d.ext.2.2 IT (Nat.le_add_right _ _);rw[i,hβ] at this;simp only[aF] at this;rw[e,this]
 ·cases h
theorem Wx:aB g (.tup [.bool false]) (.tuple #[.bool false]):=⟨[.bool false],rfl,.cons (show aB g (.bool false) (.bool false) from bn.2 rfl) .nil⟩
theorem Wy {k:Int} {l:ah} {x y:Value} (a:x=.int .i64 k) (b:y=.string ⟨l.toArray⟩):aB g (.tup [.int .i64 k,.str l]) (.tuple #[x,y]):=
 ⟨[x,y],rfl,.cons (show aB g (.int .i64 k) x from bu.2 a) (.cons (show aB g (.str l) y from dS.2 b) .nil)⟩
theorem Wz {k:Int} {l:ah} {x y:Value} (a:x=.int .i64 k) (b:y=.string ⟨l.toArray⟩):aB g (.tup [.bool true,.int .i64 k,.str l]) (.tuple #[.bool true,x,y]):=
 ⟨[.bool true,x,y],rfl,.cons (show aB g (.bool true) (.bool true) from bn.2 rfl) (.cons (show aB g (.int .i64 k) x from bu.2 a) (.cons (show aB g (.str l) y from dS.2 b) .nil))⟩
theorem sI (hE:oU E) {α:Type} {call:Caller α} (Z:fM E call) (tot:Rd) (fuel:Nat) {d:UT} {i2 i3 r t f:Nat} {z:Array MapEntry} {K:Ex→St→Option α} {x:α} {Q:Exit→Act→World→Prop}
  (n1:d.n.op=.next (.tmp d.it) false) (n2:d.n.dst=some d.nx) (n3:d.n.guard=none) (e1:d.e.op=.entry (.tmp d.it)) (e2:d.e.dst=some d.en) (e3:d.e.guard=none)
  (hβ:B.β IT=some r) (M:B.m r) (p:(∀x∈z.toList,x.born<f)∧(z.toList.map (·.born)).Nodup)
  (S: ∀e s' g' I w',VA d K e s'=some x→Inv E B G0 w0 s' g' I w'→Q (o7 e) I w'): ∀(n:Nat) (left:af) (s:St) (g:Gh) (a:Act) (w:World) (b:Array Nat),
  II E call tot fuel d K n left s=some x→Inv E B G0 w0 s g a w→w.heap[r]? =some (.mapIter (some t) f b f)→w.heap[t]? =some (.map z f)→Lf z b left→
  Code.rounds E.P (.seq (.region i2 (d.n::d.o2).toArray false) (.seq (.cond d.c .skip (.exit d.L)) (.block d.L2 (.seq (.region i3 (d.e::d.o3).toArray false) d.body)))) (Exit.inBlock d.L Q) n a w
 |0,left,s,g,a,w,b,h,hi,hr,hb,hl=>by cases h
 |n+1,left,s,g,a,w,b,h,hi,hr,hb,hl=>by
  rw[rounds_succ];unfold II at h;obtain⟨hit,h⟩:=au h;have hev:=A9 hi hβ hit;refine wp_seq ?_;rcases run_next_at (P:=E.P) w d.n.type r t f f b z f hr hb p.1 (iA _) with⟨h0,u⟩|⟨e,he,w1,O,u⟩
  ·have R:left=[]:=by
    obtain⟨ps,rfl,hp⟩:=hl;have:=hp.length_eq;simp only[vk,yG,h0] at this;rw[List.length_eq_zero_iff.1 this.symm];rfl
   subst R;rw[List.isEmpty_nil,gY] at h;refine oO (v:=.tuple #[.bool false]) (w':=w) n3 (by simp[execOp,n1,hev,u]) ?_;rw[n2];refine sH hE Z h (hi.put (some d.nx) Wx) fun s' g' I w' D q=>?_
   split at D
   ·rename_i N
    have hv:I.eval d.c=.bool false:=by
     have:=bR q.fr q.eD d.c;rw[N,bn] at this;exact this
    refine wp_seq (wp_cond hv (wp_exit ?_));have:=S .norm s' g' I w' D q;simpa[Exit.then,Exit.inBlock,o7] using this
   ·cases D
  ·obtain⟨i,k,l,C,hke,hve,hl'⟩:=hl.step p.2 he
   obtain⟨hem,_⟩:=mem_left he;rw[show left.isEmpty=false from(by cases hq:left.isEmpty with|false=>rfl|true=>(rw[List.isEmpty_iff.1 hq] at C;simp at C)),fQ] at h;have h:=qA h i (List.mem_range.2 (List.getElem?_eq_some_iff.1 C).1);rw[C] at h;simp only at h;have hi1:Inv E B G0 w0 s g a w1:=by rcases O with rfl|rfl<;>first|exact hi|exact hi.drew
   have hr1:w1.heap[r]? =some (.mapIter (some t) f b f):=by rcases O with rfl|rfl<;>exact hr
   have hb1:w1.heap[t]? =some (.map z f):=by rcases O with rfl|rfl<;>exact hb
   have J:=Tf hi1 hr1 M (.mapIter (some t) f (b.push e.born) f);have H:=Go.MapKept.heap_set (o':=.mapIter (some t) f (b.push e.born) f) hr1;have hbr:t≠r:=fun e1=>by rw[e1,hr] at hb;cases hb
   have A:(Go.ChangeMaps.setBlock w1 r (.mapIter (some t) f (b.push e.born) f)).heap[r]? =_:=H.1;have U:(Go.ChangeMaps.setBlock w1 r (.mapIter (some t) f (b.push e.born) f)).heap[t]? =some (.map z f):=(H.2 t hbr).trans hb1;generalize Go.ChangeMaps.setBlock w1 r (.mapIter (some t) f (b.push e.born) f)=w2 at u J A U;refine oO (v:=.tuple #[.bool true,e.key,e.val]) (w':=w2) n3 (by simp[execOp,n1,hev,u]) ?_;rw[n2];have hgd:=J.guard A;refine sH (B:=B.less r) (G0:=G0) (w0:=w2) hE Z h (hgd.put (some d.nx) (Wz hke hve)) fun s' g' I w' D q=>?_
   split at D
   ·rename_i N
    have hv:I.eval d.c=.bool true:=by
     have:=bR q.fr q.eD d.c;rw[N,bn] at this;exact this
    obtain⟨hit',D⟩:=au D;have hev':=A9 (B:=B.less r) q hβ hit';have hr':w'.heap[r]? =some (.mapIter (some t) f (b.push e.born) f):=(q.gN.row r fun hm=>hm.2 rfl).trans A;have hb':w'.heap[t]? =some (.map z f):=q.gN.map t z f U;refine wp_seq (wp_cond hv (wp_skip (wp_block (wp_seq ?_))));have hent:=run_entry_at (P:=E.P) w' r t f b z f e hr' hb' hem p.2;refine oO (v:=.tuple #[e.key,e.val]) (w':=w') e3 (by simp[execOp,e1,hev',hent]) ?_;rw[e2];refine sH (B:=B.less r) (G0:=G0) (w0:=w2) hE Z D (q.put (some d.en) (Wy hke hve)) fun s3 g3 a3 w3 hs3 hi3=>?_
    refine jF (B:=B.less r) (G0:=G0) (w0:=w2) hE Z tot fuel d.body s3 _ x hs3 g3 a3 w3 hi3 _ fun ex W Y X G o T=>?_
    have hr4:G.heap[r]? =some (.mapIter (some t) f (b.push e.born) f):=(T.gN.row r fun hm=>hm.2 rfl).trans A;have hb4:G.heap[t]? =some (.map z f):=T.gN.map t z f U;have y:=J.Ti T
    cases ex with
    |norm=>exact sI (i2:=i2) (i3:=i3) hE Z tot fuel n1 n2 n3 e1 e2 e3 hβ M p S n _ W Y X G _ o y hr4 hb4 hl'
    |ret=>exact S .ret W Y X G o y
    |jN v=>exact S (.jN v) W Y X G o y
    |exit j=>
     simp only at o;by_cases hj:j=d.L2
     ·rw[show(j==d.L2)=true from by simpa using hj,gY] at o
      have:=sI (i2:=i2) (i3:=i3) hE Z tot fuel n1 n2 n3 e1 e2 e3 hβ M p S n _ W Y X G _ o y hr4 hb4 hl';simpa[o7,Exit.then,Exit.inBlock,hj] using this
     ·rw[show(j==d.L2)=false from by simpa using hj,fQ] at o
      by_cases F:j=d.L
      ·rw[show(j==d.L)=true from by simpa using F,gY] at o
       have:=S .norm W Y X G o y;subst F;simpa[o7,Exit.then,Exit.inBlock,hj] using this
      ·rw[show(j==d.L)=false from by simpa using F,fQ] at o
       have:=S (.exit j) W Y X G o y;simpa[o7,Exit.then,Exit.inBlock,hj,F] using this
   ·cases D
theorem M8 (hE:oU E) {α:Type} {call:Caller α} (hc:fM E call) (tot:Rd) (fuel:Nat) {c:Code} {d:UT} (hd:XV c=some d) (s:St) (K:Ex→St→Option α) (x:α) (h:ZR E call tot fuel d s K=some x) (g:Gh) (a:Act) (w:World) (f:Inv E B G0 w0 s g a w)
  (Q:Exit→Act→World→Prop) (hk: ∀e s' g' H w',K e s'=some x→Inv E B G0 w0 s' g' H w'→Q (o7 e) H w'):c.wp E.P Q a w:=by
 obtain⟨i1,i2,i3,rfl,r1,r2,r3,n1,n2,n3,e1,e2,e3⟩:=Tj hd;unfold ZR at h;refine wp_seq (wp_region ?_);rw[show(#[d.l,d.r]:Array Oper).size=2 from rfl,show List.range 2=[0,1] from rfl];rcases bX hc [d.l] s _ x h with⟨s1,A,q⟩|⟨_,v,s',A,q⟩
 rotate_left
 ·cases q
 cases A with
 |cons X A=>
  cases A;have F: ∀g a w,Inv E B G0 w0 s1 g a w→wpOps E.P #[d.l,d.r] (Exit.then ((Code.block d.L (.loop (.seq (.region i2 (d.n::d.o2).toArray false) (.seq (.cond d.c .skip (.exit d.L)) (.block d.L2 (.seq (.region i3 (d.e::d.o3).toArray false) d.body)))))).wp E.P Q) Q) [1] a w:=by
   intro g a w f;split at q
   ·rename_i gi k e p A
    split at q
    ·rename_i es o
     obtain⟨hnb,q⟩:=au q;have z:=bR (E:=E) f.fr f.eD d.m;unfold Sw at p;split at p
     ·rename_i c y kk gv W
      simp only[aF] at p;subst p;rw[W] at z;simp only[aB,aX] at z;unfold aJ at z;obtain⟨b,l,z,hl,N⟩:=z;unfold Sy at o;split at o
      ·rename_i sh c' es' y' off U
       simp only[aF] at o;subst o;obtain⟨l',bm,I,i,h1,M,h3,h4⟩:=(f.eD _ _ U).2.2;rw[show(asInt (V.int kk gv)).toNat=gv.toNat from rfl] at hl;rw[hl] at h1;simp only[aF] at h1;subst h1;rw[N,z] at M;simp only[aF,Value.map.injEq] at M;subst M;have C:=run_range_map (P:=E.P) w d.t k e b I i A h3;unfold wpOps;rw[show(#[d.l,d.r]:Array Oper)[1]? =some d.r from rfl];simp only;rw[if_pos (by unfold Region.wanted;rw[r3])];refine .inl ?_;unfold Oper.wp;rw[show(execOp a.eval d.r).run E.P w=.ok (.value (.pointer (some ⟨w.heap.size,0,none⟩))) (w.alloc (.mapIter (some b) i #[] i)) from by simp[execOp,r1,z,C]];show Code.wp _ _ _ _ _;obtain⟨D,_⟩:=f.new (CO f.gok (.mapIter (some b) i #[] i));have J:(w.alloc (.mapIter (some b) i #[] i)).heap[w.heap.size]? =some (.mapIter (some b) i #[] i):=(MapKept.heap_alloc w _).1;have hb:(w.alloc (.mapIter (some b) i #[] i)).heap[b]? =some (.map I i):=((MapKept.heap_alloc w _).2 b (Array.getElem?_eq_some_iff.1 h3).1).trans h3;generalize w.alloc (.mapIter (some b) i #[] i)=w1 at D J hb;have R:=(D.pin hnb (some w.heap.size)).put (some d.it) (v:=.box IT 0) (u:=.pointer (some ⟨w.heap.size,0,none⟩)) (cu.2 ⟨w.heap.size,by show(if IT=IT then some w.heap.size else g.β IT)=_;rw[if_pos rfl],rfl⟩);rw[r2];refine wp_block (wp_loop_rounds (es'.length+1) ?_);obtain⟨ps,hps,Z⟩:=h4.perm;have S:leftOf I #[]=I:=by unfold leftOf;simp
       refine sI (B:={B with β:=fun j=>if j=IT then some w.heap.size else B.β j}) hE hc tot fuel n1 n2 n3 e1 e2 e3 (show(if IT=IT then some w.heap.size else B.β IT)=_ from if_pos rfl) (f.hB.2 _ (iA _)) h4.born (fun ex s2 g2 a2 w2 h5 Y=>?_) _ _ _ _ _ _ #[] q R J hb ⟨ps,hps,by rw[S];exact Z⟩;obtain⟨G,h5⟩:=au (show(bif (s2.put (some d.it) .any).iG IT then K ex (s2.put (some d.it) .any) else none)=some x from h5);have h6:=(Y.Y6 d.it).pin G (B.β IT);have hB:({m:=B.m,n:=B.n,β:=fun j=>if j=IT then B.β IT else if j=IT then some w.heap.size else B.β j,df:=B.df}:Own)=B:=by
        have:(fun j=>if j=IT then B.β IT else if j=IT then some w.heap.size else B.β j)=B.β:=funext fun j=>by
         split
         ·rename_i hj;rw[hj]
         ·rfl
        rw[this]
       rw[hB] at h6;exact hk ex _ _ a2 w2 h5 h6
      ·cases o
     ·cases p
    ·cases q
   ·cases q
  unfold wpOps;rw[show(#[d.l,d.r]:Array Oper)[0]? =some d.l from rfl];simp only;rcases X with⟨T,eff,ho,_,J⟩|⟨T,rfl⟩
  ·rw[if_pos (di f.fr T)]
   refine .inl ?_;have O:=gV (ac:=a) (B:=B) (w:=w) (g:=g) hE rfl f.gok f.own f.bxs f.hB f.m1 f.eD (fun y=>bR f.fr f.eD y) ho;exact oq f O (fun _ _ h=>h) (fun _=>rfl) J fun g' H w' h' _=>F g' H w' h'
  ·rw[if_neg (by rw[di f.fr T];decide)]
   exact F g _ w (f.put d.l.dst (v:=.tup []) (u:=undef) ⟨[],rfl,.nil⟩)
theorem Tk (hE:oU E) {α:Type} {call:Caller α} (n:fM E call) (tot:Rd) (fuel:Nat): ∀(c:Code) (s:St) (K:Ex→St→Option α) (r:α),Si E call tot fuel c s K=some r→ ∀(g:Gh) (a:Act) (w:World),Inv E B G0 w0 s g a w→
  ∀Q:Exit→Act→World→Prop,(∀e s' g' b w',K e s'=some r→Inv E B G0 w0 s' g' b w'→Q (o7 e) b w')→c.wp E.P Q a w:=by
 intro c;induction c with
 |seq x y _ m=>
  intro s K r h g a w o Q k;unfold Si at h;have j: ∀(e:Ex) i g' b w',Ml y K (fun s=>Si E call tot fuel y s K) e i=some r→Inv E B G0 w0 i g' b w'→Exit.then (y.wp E.P Q) Q (o7 e) b w':=by
   intro e i g' b w' l f
   cases e with
   |norm=>exact m i K r l g' b w' f Q k
   |exit id=>exact k (.exit id) i g' b w' l f
   |ret=>exact k .ret i g' b w' l f
   |jN v=>exact k (.jN v) i g' b w' l f
  split at h
  ·rename_i d p
   exact wp_seq (M8 hE n tot fuel p s _ r h g a w o _ j)
  ·exact wp_seq (jF hE n tot fuel x s _ r h g a w o _ j)
 |_=>
  intro s K r h;exact jF hE n tot fuel _ s K r h
theorem El (hE:oU E) {α:Type} {call:Caller α} (f:fM E call) {tot:Rd} (i:tot.ord=false) {fuel:Nat} {d:UT} {K:Ex→St→Option α} {x:α}: ∀(n:Nat) (left:af) (s:St),II E call tot fuel d K n left s=some x→ ∃e s',K e s'=some x
 |0,left,s,h=>by cases h
 |n+1,left,s,h=>by
  have b: ∀e s,VA d K e s=some x→ ∃e s',K e s'=some x:=fun e s h=>⟨_,_,(au (show(bif (s.put (some d.it) .any).iG IT then K e (s.put (some d.it) .any) else none)=some x from h)).2⟩
  unfold II at h;obtain⟨_,h⟩:=au h
  cases hl:left.isEmpty with
  |true=>
   rw[hl,gY] at h;rcases bX f d.o2 _ _ x h with⟨s',_,a⟩|⟨_,_,_,_,a⟩
   ·split at a
    ·exact b _ _ a
    ·cases a
   ·cases a
  |false=>
   rw[hl,fQ] at h;have h:=qA h 0 (List.mem_range.2 (Nat.pos_of_ne_zero fun e=>by rw[List.length_eq_zero_iff.1 e] at hl;cases hl));split at h
   ·rcases bX f d.o2 _ _ x h with⟨s',_,a⟩|⟨_,_,_,_,a⟩
    ·split at a
     ·obtain⟨_,a⟩:=au a
      rcases bX f d.o3 _ _ x a with⟨s',_,a⟩|⟨_,_,_,_,a⟩
      ·obtain⟨e,l,c,_⟩:=eZ hE f tot i fuel d.body _ _ x a
       cases e with
       |norm=>exact El hE f i n _ _ c
       |ret=>exact b _ _ c
       |jN v=>exact b _ _ c
       |exit j=>
        simp only at c
        cases k:j==d.L2 with
        |true=>rw[k,gY] at c;exact El hE f i n _ _ c
        |false=>
         rw[k,fQ] at c
         cases g:j==d.L with
         |true=>rw[g,gY] at c;exact b _ _ c
         |false=>rw[g,fQ] at c;exact b _ _ c
      ·cases a
     ·cases a
    ·cases a
   ·cases h
theorem WA (hE:oU E) {α:Type} {call:Caller α} (k:fM E call) {tot:Rd} (m:tot.ord=false) {fuel:Nat}: ∀(c:Code) (s:St) (K:Ex→St→Option α) (x:α),Si E call tot fuel c s K=some x→ ∃e s',K e s'=some x:=by
 intro c;induction c with
 |seq a b _ n=>
  intro s K x h;unfold Si at h;have i: ∀e j,Ml b K (fun s=>Si E call tot fuel b s K) e j=some x→ ∃e s',K e s'=some x:=by
   intro e j f
   cases e with
   |norm=>exact n j K x f
   |exit id=>exact⟨_,_,f⟩
   |ret=>exact⟨_,_,f⟩
   |jN v=>exact⟨_,_,f⟩
  split at h
  ·rename_i d o
   unfold ZR at h;rcases bX k [d.l] s _ x h with⟨j,_,g⟩|⟨_,_,_,_,g⟩
   ·split at g
    ·split at g
     ·obtain⟨_,g⟩:=au g
      obtain⟨e,s',f⟩:=El hE k m _ _ _ g;exact i e s' f
     ·cases g
    ·cases g
   ·cases g
  ·obtain⟨e,s',f,_⟩:=eZ hE k tot m fuel a s _ x h
   exact i e s' f
 |_=>
  intro s K x h;obtain⟨e,s',f,_⟩:=eZ hE k tot m fuel _ s K x h;exact⟨e,s',f⟩
end
section
variable {E:Env}
theorem Tm {x y:V} (h:Mk x=some y):y=x:=by
 cases x with
 |fn f c=>cases c<;>(simp[Mk,V.deep] at h;exact h.symm)
 |bxa off a=>simp only[Mk,aF] at h;exact h.symm
 |sl e sh o xs=>simp only[Mk,aF] at h;exact h.symm
 |old z=>
  have h:(bif z.dO then some (V.old z) else none)=some y:=h;obtain⟨_,h⟩:=au h;simp only[aF] at h;exact h.symm
 |_=>simp[Mk,V.deep] at h<;>exact h.symm
theorem pK: ∀{xs ys:af},pu xs=some ys→ys=xs
 |[],ys,h=>by simp only[pu,aF] at h;exact h.symm
 |x::xs,ys,h=>by
  unfold pu at h;split at h
  ·rename_i a b c d
   simp only[aF] at h;rw[←h,Tm c,pK d]
  ·cases h
theorem ET (args:af):handed (lD args)=handed args:=by
 unfold lD
 cases h:handed args with
 |false=>rfl
 |true=>
  rw[gY];unfold handed at h⊢;rw[BF] at h⊢;obtain⟨x,hx,a⟩:=h
  cases x with
  |bxa off b=>exact⟨_,List.mem_map.2 ⟨_,hx,rfl⟩,rfl⟩
  |sl e sh o xs=>cases o with
   |none=>cases a
   |some L=>exact⟨_,List.mem_map.2 ⟨_,hx,rfl⟩,rfl⟩
  |_=>cases a
theorem Ba (s:St): ∀(args:af) (j:Nat),(∀x∈args,x.sZ=false)→kW s j args=some []∧iQ j args=[]
 |[],j,_=>⟨rfl,rfl⟩
 |x::args,j,h=>by
  have a:=Ba s args (j+1) fun y b=>h y (vg _ b)
  have hx:=h x sS
  cases x<;>first|exact a|cases hx
theorem Dc (s:St) (f:V→V) (g: ∀x,(f x).sZ=x.sZ): ∀(args:af) (j:Nat),kW s j (args.map f)=kW s j args∧iQ j (args.map f)=iQ j args
 |[],j=>⟨rfl,rfl⟩
 |x::args,j=>by
  have d:=Dc s f g args (j+1);have hx:=g x;rw[yJ];have b: ∀y:V,y.sZ=false→kW s j (y::args)=kW s (j+1) args∧iQ j (y::args)=iQ (j+1) args:=fun y e=>by cases y<;>first|exact⟨rfl,rfl⟩|cases e
  have a: ∀y:V,y.sZ=false→kW s j (y::args.map f)=kW s (j+1) (args.map f)∧iQ j (y::args.map f)=iQ (j+1) (args.map f):=fun y e=>by cases y<;>first|exact⟨rfl,rfl⟩|cases e
  cases c:x.sZ with
  |false=>
   rw[c] at hx;rw[(b x c).1,(b x c).2,(a _ hx).1,(a _ hx).2];exact d
  |true=>
   rw[c] at hx;generalize f x=y at hx
   cases x<;>first|cases c|skip
   cases y<;>first|cases hx|skip
   simp only[kW,iQ,d.1,d.2];exact⟨trivial,trivial⟩
theorem De (s:St) (args:af):kW s 0 (lD args)=kW s 0 args∧iQ 0 (lD args)=iQ 0 args:=by
 unfold lD
 cases h:handed args with
 |false=>
  have a:=Ba s args 0 fun x hx=>by
   unfold handed at h;rw[Oj] at h;have:=h x hx
   cases x<;>first|rfl|(exfalso;exact this rfl)
  rw[fQ,a.1,a.2];exact⟨rfl,rfl⟩
 |true=>
  rw[gY];exact Dc s _ (fun x=>by cases x<;>first|rfl|(rename_i o _;cases o<;>rfl)) args 0
theorem Qq {α:Type} (p:Bool) (x:V) (s:St) (args:af) (K:V→Option α):mH p x s (lD args) K=mH p x s args K:=by
 unfold mH;rw[(De s args).1,(De s args).2]
theorem qo {α:Type} (P:Program) (fn:Func) (args:af) (K:V→Option α):yw P fn (lD args) K=yw P fn args K:=by
 funext e s
 cases e<;>simp only[yw,ET,Qq]
theorem F7: ∀(bs:List (af)) (j:Nat) (p:Nat×Nat),p∈Mq j bs→ ∃i,p.2=dZ true p.1 i
 |[],j,p,h=>by cases h
 |cs::bs,j,p,h=>by
  unfold Mq at h;rcases List.mem_append.1 h with h|h
  ·obtain⟨i,a⟩:=gD _ _ _ h
   exact⟨_,a⟩
  ·exact F7 bs (j+1) p h
theorem Tn {L i:Nat} (h:dZ true L i<HL):L<HL:=by
 unfold dZ at h;rw[On] at h
 cases a:Nat.ble HL L with
 |true=>rw[a,gY] at h;omega
 |false=>
  refine N9 fun e=>?_
  rw[Zw e] at a
  cases a
theorem Em: ∀(args:af) (j:Nat) {a b:Nat},(a,b)∈iQ j args→a=b∧HL≤a
 |[],j,a,b,h=>by cases h
 |x::args,j,a,b,h=>by
  have c:(a,b)∈iQ (j+1) args→a=b∧HL≤a:=Em args (j+1)
  cases x with
  |bxa off d=>
   unfold iQ at h;rcases List.mem_cons.1 h with h|h
   ·simp only[bP] at h
    obtain⟨rfl,rfl⟩:=h;exact⟨rfl,by omega⟩
   ·exact c h
  |_=>exact c h
theorem lz {s:St} (f:af→af): ∀(args:af) (j:Nat) (bs:List (af)),kW s j args=some bs→ ∀k c,aj (dW j args (bs.map f)) k=some c→ ∃a,aj s.bx k=some a∧c=f a
 |[],j,bs,h,k,c,b=>by cases b
 |x::args,j,bs,h,k,c,b=>by
  have d:kW s (j+1) args=some bs→aj (dW (j+1) args (bs.map f)) k=some c→ ∃a,aj s.bx k=some a∧c=f a:=fun i e=>lz f args (j+1) bs i k c e
  cases x with
  |bxa off n=>
   unfold kW at h;split at h
   ·rename_i m l i e
    simp only[aF] at h;subst h;rw[yJ] at b;unfold dW aj at b
    cases g:HL+j==k with
    |true=>
     rw[g,gY] at b;simp only[aF] at b;obtain rfl:HL+j=k:=by simpa using g
     exact⟨m,i,b.symm⟩
    |false=>
     rw[g,fQ] at b;exact lz f args (j+1) l e k c b
   ·cases h
  |_=>exact d h b
theorem jY: ∀(args:af) (j:Nat) (bs:List (af)) {k:Nat} {d:af},aj (dW j args bs) k=some d→ ∃b,(k,b)∈iQ j args
 |[],j,bs,k,d,h=>by cases h
 |x::args,j,bs,k,d,h=>by
  have c:aj (dW (j+1) args bs) k=some d→ ∃b,(k,b)∈iQ (j+1) args:=fun h=>jY args (j+1) bs h
  cases x with
  |bxa off f=>
   cases bs with
   |nil=>
    obtain⟨b,a⟩:=jY args (j+1) [] h;exact⟨b,vg _ a⟩
   |cons g bs=>
    unfold dW aj at h
    cases e:HL+j==k with
    |true=>
     obtain rfl:HL+j=k:=by simpa using e
     exact⟨_,sS⟩
    |false=>
     rw[e,fQ] at h;obtain⟨b,a⟩:=jY args (j+1) bs h;exact⟨b,vg _ a⟩
  |_=>exact c h
theorem yP {α:Type} {p:Bool} {x:V} {s:St} {args:af} {K:V→Option α} {r:α} (h:mH p x s args K=some r):
  ∃x' bs,K (.out p x' bs)=some r∧(∀t y,x=.iface t y→x'=.iface t y)∧(x=.tup []→x'=.tup [])∧ ∀{B B2:Own} {G0:aI} {w0:World} {g:Gh} {a:Act} {w:World} {v:Value},B2.m=B.m→B2.n=B.n→B2.df=[]→(∀a b,(a,b)∈iQ 0 args→B2.β a=B.β a)→Inv E B G0 w0 s g a w→aB g x v→ ∃g',Inv E B2 G0 w0 ⟨[x'],dW 0 args bs⟩ g' ⟨#[v],[]⟩ w:=by
 unfold mH at h;split at h
 ·rename_i bs D
  simp only at h;obtain⟨Y,h⟩:=au h;rw[oI] at Y;have hf:=mO (mF (fun L i=>dZ true L i) 0 (vF x)++Mq 0 bs) [];generalize hml:lI [] (mF (fun L i=>dZ true L i) 0 (vF x)++Mq 0 bs)=ml at h Y hf;have X: ∀p∈ml,∃i,p.2=dZ true p.1 i:=fun p hp=>by
   rcases List.mem_append.1 (hf.2 p hp).1 with h|h
   ·obtain⟨i,f⟩:=gD _ _ _ h
    exact⟨_,f⟩
   ·exact F7 bs 0 p h
  refine⟨_,_,h,fun t y e=>(by subst e;rfl),fun e=>(by subst e;rfl),fun {B B2 G0 w0 g a w v} A M hd2 hβ2 f hv=>?_⟩;let O2:Nat→Option (Value×Nat×Nat):=fun n=>match lk (dK ml) n with|some L=>g.O L|none=>none
  have hO: ∀L n,lk ml L=some n→O2 n=g.O L:=fun L n hl=>by
   show(match lk (dK ml) n with|some L=>g.O L|none=>none)=_;rw[iU Y (jd hl)]
  have d: ∀n x,O2 n=some x→ ∃L,(L,n)∈ml∧g.O L=some x:=fun n x hx=>by
   have hx:(match lk (dK ml) n with|some L=>g.O L|none=>none)=some x:=hx;split at hx
   ·rename_i L hL;exact⟨L,lQ.1 (jd hL),hx⟩
   ·cases hx
  let β2:Nat→Option Nat:=fun k=>if HL≤k then B2.β k else g.β k
  have X4: ∀a b,(a,b)∈iQ 0 args→β2 a=g.β a:=fun a b U=>by
   have o:=(Em args 0 U).2;show(if HL≤a then B2.β a else g.β a)=_;rw[if_pos o,hβ2 a b U,f.ext.2.2 a o]
  let C2:Nat→Option (List Value):=fun n=>match lk (dK ml) n with|some L=>g.C L|none=>none
  have hC: ∀L n,lk ml L=some n→C2 n=g.C L:=fun L n hl=>by
   show(match lk (dK ml) n with|some L=>g.C L|none=>none)=_;rw[iU Y (jd hl)]
  have hCm: ∀L n,(L,n)∈ml→C2 n=g.C L:=fun L n hl=>by
   show(match lk (dK ml) n with|some L=>g.C L|none=>none)=_;rw[iU Y hl]
  let g2:Gh:=⟨g.G,O2,β2,g.G1,C2⟩
  have H: ∀(y:V) (u:Value),aB g y u→aB g2 (y.ren (iQ 0 args) ml) u:=fun y u hy=>Ah (g:=g) (g':=g2) rfl hO hC (fun k n q=>by
   have o:=jd q;rw[←(Em args 0 o).1];exact X4 k n o) hy
  have T: ∀L b,B2.ok L b↔B.ok L b:=fun L b=>by unfold Own.ok;rw[A,M]
  refine⟨g2,PW.cons (H x v hv) .nil,hd2.symm,f.gok,⟨fun n v' e Q J=>?_,fun n n' v1 v2 e e' Q sz' b o h2 hb1 hb2=>?_⟩,⟨fun k j q=>?_,fun k Z j cs' q N F=>?_⟩,by rw[A];exact f.gN,by rw[A,M];exact f.hB,⟨fun b F=>f.ext.1 b (by rw[←A];exact F),f.ext.2.1,fun k q=>if_pos q⟩,by rw[M];exact f.glob,f.g1,fun k j n v' e Q b q J F hβ=>?_⟩
  ·obtain⟨L,hL,hx⟩:=d n _ J
   obtain⟨q1,q2⟩:=f.own.1 L v' e Q hx;refine⟨q1,q2.imp id ?_⟩;rintro⟨b,m,cap,cur,l,hv',R,hh,hnc,hcm,hcs,I,hln⟩;refine⟨b,m,cap,cur,l,hv',(T n b).2 ⟨R.1,fun S=>R.2 ?_⟩,hh,hnc,hcm,hcs,by
    unfold kz at I⊢;rw[show g2.C n=g.C L from hCm L n hL];exact I,hln⟩
   obtain⟨i,P⟩:=X _ hL;simp only at P;rw[P] at S;exact Tn S
  ·obtain⟨L,hL,hx⟩:=d n _ o
   obtain⟨L',hL',hx'⟩:=d n' _ h2;have:=f.own.2 L L' v1 v2 e e' Q sz' b hx hx' hb1 hb2;subst this;exact uh hf.1 hL hL'
  ·obtain⟨cs0,o,rfl⟩:=lz (s:=s) (fun j=>j.map (V.ren (iQ 0 args) ml)) args 0 bs D k j q
   obtain⟨b,c,e,q1,q2,q3,q4,q5,q6,q7⟩:=f.bxs.1 k cs0 o;obtain⟨W,z⟩:=jY args 0 _ q;exact⟨b,c,e,(X4 k W z).trans q1,by rw[A];exact q2,q3,dm q4 fun y _ u=>H y u,q5,q6,jf (Ac _ _) q7⟩
  ·obtain⟨W,z⟩:=jY args 0 _ q
   obtain⟨k1,hk1⟩:=jY args 0 _ N;have F:β2 k=β2 Z:=F;rw[X4 k W z,X4 Z k1 hk1] at F;obtain⟨c1,o,_⟩:=lz (s:=s) (fun j=>j.map (V.ren (iQ 0 args) ml)) args 0 bs D k j q;obtain⟨c2,h2,_⟩:=lz (s:=s) (fun j=>j.map (V.ren (iQ 0 args) ml)) args 0 bs D Z cs' N;exact f.bxs.2 k Z c1 c2 o h2 F
  ·obtain⟨L,hL,hx⟩:=d n _ J
   obtain⟨W,z⟩:=jY args 0 _ q;obtain⟨c1,o,_⟩:=lz (s:=s) (fun j=>j.map (V.ren (iQ 0 args) ml)) args 0 bs D k j q;have hβ:β2 k=some b:=hβ;rw[X4 k W z] at hβ;exact f.zb k c1 L v' e Q b o hx F hβ
 ·cases h
theorem xO {G:aI} {x:V} {u:Value} (h:kD x=some u):aJ G x u:=by
 cases x with
 |bool b=>simp only[kD,aF] at h;unfold aJ;exact h.symm
 |int k n=>simp only[kD,aF] at h;unfold aJ;exact h.symm
 |_=>cases h
theorem xP {G:aI}: ∀{xs:af} {us:List Value},kE xs=some us→PW (aJ G) xs us
 |[],us,h=>by simp only[kE,aF] at h;subst h;exact .nil
 |x::xs,us,h=>by
  unfold kE at h;split at h
  ·rename_i a b c d
   simp only[aF] at h;subst h;exact .cons (xO c) (xP d)
  ·cases h
theorem sJ {g:Gh} {x:V} {u:Value} (h:bG x=some u):aB g x u∧ ∃t y,x=.iface t y:=by
 unfold bG at h;split at h
 ·rename_i t b
  split at h
  ·rename_i l hl
   simp only[aF] at h;subst h;exact⟨iJ.2 ⟨_,rfl,by unfold aJ;exact⟨l,rfl,(dI _ _).2 (xP hl)⟩⟩,_,_,rfl⟩
  ·cases h
 ·rename_i t y _
  split at h
  ·rename_i z a
   simp only[aF] at h;subst h;exact⟨iJ.2 ⟨_,rfl,xO a⟩,_,_,rfl⟩
  ·cases h
 ·cases h
theorem M9 {g:Gh} {vs:af} {us:List Value} (h:PW (fun x v=>aX g x v∧kS x=true) vs us):aB g (Kt vs) (tq us):=by
 have a: ∀(vs:af) (us:List Value),PW (fun x v=>aX g x v∧kS x=true) vs us→aB g (.tup vs) (.tuple us.toArray):=fun vs us h=>⟨us,rfl,h.mono fun _ _ _ h=>h.1⟩
 match vs,us,h with
 |[],us,h=>rw[h.bH];exact a [] [] .nil
 |[x],us,h=>
  obtain⟨u,t,rfl,⟨d,c⟩,h3⟩:=h.cons_inv;rw[h3.bH];have b:x.single=true:=by cases x<;>first|rfl|cases c
  exact aW b d
 |x::y::vs,us,h=>
  have hl:=h.1;match us,hl with
  |u::v::us,_=>exact a _ _ h
theorem jA {B:Own} {g:Gh} {w:World} {fr:af} {bx:List (Nat×af)} {vs:List Value} {fn:Func} {G0:aI} {w0:World} (a:Inv E B G0 w0 ⟨fr,bx⟩ g ⟨vs.toArray,[]⟩ w):
  Inv E B G0 w0 ⟨qi fn fr,bx⟩ g {tmps:=vs.toArray++Array.replicate (fn.ntmps-vs.toArray.size) undef,defers:=[]} w:=by
 have b:PW (aB g) fr vs:=by simpa using a.fr
 refine⟨?_,a.df,a.gok,a.own,a.bxs,a.gN,a.hB,a.ext,a.glob,a.g1,a.zb⟩;show PW (aB g) (fr++List.replicate (fn.ntmps-fr.length) (.tup [])) (vs.toArray++Array.replicate (fn.ntmps-vs.toArray.size) undef).toList;have e:(vs.toArray++Array.replicate (fn.ntmps-vs.toArray.size) undef).toList=vs++List.replicate (fn.ntmps-fr.length) undef:=by
  rw[b.1];simp
 rw[e];refine b.append ⟨by simp,fun i x v hx c=>?_⟩;rw[List.getElem?_replicate] at hx c;split at hx
 ·rename_i d
  rw[if_pos d] at c;simp only[aF] at hx c;subst hx;subst c;exact⟨[],rfl,.nil⟩
 ·cases hx
def KW (rec:V) (u:FrameMode):Prop:=(rec=.nilif∧u=.returning)∨ ∃q,bG rec=some q∧u=.panicking [{v:=q,recovered:=false}]
def DC (E:Env) (f:Nat) (args:af) (rec:V) (Φ:V→List (af)→Prop):Prop:=
 ∀(B:Own) (g:Gh) (w:World) (vs:List Value),B.df=[]→Inv E B g.G w ⟨bg 0 args,bZ 0 args⟩ g ⟨vs.toArray,[]⟩ w→ ∀u,KW rec u→
  CallsD E.P f vs.toArray u w fun e b w'=>∃x bs g' v,Φ x bs∧(∃a,e=.returned a)∧settle b=.returning∧Inv E B g.G w ⟨[x],dW 0 args bs⟩ g' ⟨#[v],[]⟩ w'
theorem Na (hE:oU E) {α:Type} {call:Caller α} (hc:fM E call) {fuel f:Nat} {args:af} {rec:V} {K:V→Option α} {r:α} (h:FJ false E call fuel f args rec K=some r):iR E.P f=true∧ ∃x bs,K (.out false x bs)=some r∧DC E f args rec (fun D bs'=>D=x∧bs'=bs):=by
 unfold FJ at h;split at h
 ·cases h
 ·rename_i fn O
  split at h
  ·rename_i c k
   split at h
   ·rename_i id ops b
    split at h
    ·rename_i o F
     split at h
     ·rename_i cl d hop hg hd L
      split at h
      ·rename_i p n
       obtain⟨e,s',Z,hl⟩:=eZ hE hc _ rfl fuel b _ _ r h;have S:mH false (.tup []) s' args K=some r∧(e=.norm∨e=.ret):=by
        cases e with
        |norm=>exact⟨Z,.inl rfl⟩
        |ret=>exact⟨Z,.inr rfl⟩
        |exit id=>cases Z
        |jN v=>cases Z
       obtain⟨ho,hee⟩:=S;obtain⟨D,bs,hK,_,htup,T⟩:=yP (E:=E) ho;refine⟨by unfold iR;rw[O];simp only[k];rfl,D,bs,hK,fun B g w vs W hi u hu=>?_⟩;refine callsD_of_wpS O k fun c₀ t hc₀=>?_
       have C:ops= #[o]:=by rw[←Ff];simpa using F
       subst C;refine wpS_seq (wpS_region ?_);have s: ∀ρ,(execOp ρ o).run E.P w=.ok .recover w:=by
        intro ρ;obtain⟨Y,Y7,cts⟩:=cl;simp only at p n;subst p;simp only[execOp,hop,resolve];simp[invoke,builtin]
       have z:List.range (#[o]:Array Oper).size=[0]:=rfl;rw[z];unfold wpOpsS;simp only[Zy,BZ];have hw: ∀y,Region.wanted o y=true:=fun y=>by unfold Region.wanted;rw[hg]
       rw[if_pos (hw _),s];simp only[hd];have m:=jA (fn:=fn) hi;have U: ∀(v:Value) (A:FrameMode),settle A=.returning→aB g rec v→
         Code.wpS E.P b (bodyPostS E.P fn c₀ t fun e A w'=>∃Q i g' v,(Q=D∧i=bs)∧(∃v',e=.returned v')∧settle A=.returning∧Inv E B g.G w ⟨[Q],dW 0 args i⟩ g' ⟨#[v],[]⟩ w')
          (Act.put {tmps:=vs.toArray++Array.replicate (fn.ntmps-vs.toArray.size) undef,defers:=[]} (some d) v) ({c₀ with mode:=A}::t) w:=by
        intro v A X hv;refine wpS_of_wp (hl B g.G w g _ w (m.put (some d) hv) _ fun g' I w' H=>?_);have J:(results fn I.tmps).run E.P w'=.ok (.tuple #[]) w':=by
         have:=kK (fn:=fn) (a:=I) (w:=w') (E:=E) (us:=[]) (by rw[L];rfl);simpa[tq] using this
        have R:I.defers=[]:=H.df.trans W;have N: ∃g2,Inv E B g.G w ⟨[D],dW 0 args bs⟩ g2 ⟨#[.tuple #[]],[]⟩ w':=by
         exact T rfl rfl W (fun _ _ _=>rfl) H (v:=.tuple #[]) ⟨[],rfl,.nil⟩
        obtain⟨g2,h2⟩:=N;have l:I.defers=[]∧ ∃M,({c₀ with mode:=A}::t:List Frame)={c₀ with mode:=M}::t∧ ∃v,(results fn I.tmps).run E.P w'=.ok v w'∧ ∃Q i g' v_1,(Q=D∧i=bs)∧(∃v',Ending.returned v=.returned v')∧settle M=.returning∧Inv E B g.G w ⟨[Q],dW 0 args i⟩ g' ⟨#[v_1],[]⟩ w':=
         ⟨R,A,rfl,_,J,_,_,g2,_,⟨rfl,rfl⟩,⟨_,rfl⟩,X,h2⟩
        rcases hee with rfl|rfl
        ·exact l
        ·exact l
       rcases hu with⟨rfl,rfl⟩|⟨q,hq,rfl⟩
       ·have j:recoverD (c₀::t)=none:=by simp only[recoverD,hc₀]
        rw[j];have:=U .nilIface .returning rfl (j3.2 rfl);have e1:({c₀ with mode:=.returning}:Frame)=c₀:=by rw[←hc₀]
        rw[e1] at this;exact this
       ·have j:recoverD (c₀::t)=some (q,{c₀ with mode:=.panicking [{v:=q,recovered:=true}]}::t):=by simp only[recoverD,hc₀]
        rw[j];exact U q _ rfl (sJ hq).1
      ·cases h
     ·cases h
    ·cases h
   ·cases h
  ·cases h
theorem Tp (hE:oU E) {α:Type} {call:Caller α} (hc:fM E call) {fuel f:Nat} {args:af} {rec:V} {K:V→Option α} {r:α} {o:Bool} (h:FJ o E call fuel f args rec K=some r):iR E.P f=true∧DC E f args rec (fun x bs=>K (.out false x bs)=some r):=by
 unfold FJ at h;split at h
 ·cases h
 ·rename_i fn N
  split at h
  ·rename_i c j
   split at h
   ·rename_i id ops b
    split at h
    ·rename_i Y D
     split at h
     ·rename_i cl d hop hg hd J
      split at h
      ·rename_i p m
       refine⟨by unfold iR;rw[N];simp only[j];rfl,fun B g w vs T hi u hu=>?_⟩;refine callsD_of_wpS N j fun c₀ t hc₀=>?_
       have C:ops= #[Y]:=by rw[←Ff];simpa using D
       subst C;refine wpS_seq (wpS_region ?_);have s: ∀ρ,(execOp ρ Y).run E.P w=.ok .recover w:=by
        intro ρ;obtain⟨W,Y7,cts⟩:=cl;simp only at p m;subst p;simp only[execOp,hop,resolve];simp[invoke,builtin]
       have z:List.range (#[Y]:Array Oper).size=[0]:=rfl;rw[z];unfold wpOpsS;simp only[Zy,BZ];have hw: ∀y,Region.wanted Y y=true:=fun y=>by unfold Region.wanted;rw[hg]
       rw[if_pos (hw _),s];simp only[hd];have l:=jA (fn:=fn) hi;have S: ∀(v:Value) (A:FrameMode),settle A=.returning→aB g rec v→
         Code.wpS E.P b (bodyPostS E.P fn c₀ t fun e A w'=>∃n bs g' v,K (.out false n bs)=some r∧(∃v',e=.returned v')∧settle A=.returning∧Inv E B g.G w ⟨[n],dW 0 args bs⟩ g' ⟨#[v],[]⟩ w')
          (Act.put {tmps:=vs.toArray++Array.replicate (fn.ntmps-vs.toArray.size) undef,defers:=[]} (some d) v) ({c₀ with mode:=A}::t) w:=by
        intro v A U hv;refine wpS_of_wp (jF hE hc _ fuel b _ _ r h g _ w (l.put (some d) hv) _ fun e s' g' H w' X F=>?_);have Q:mH false (.tup []) s' args K=some r∧(e=.norm∨e=.ret):=by
         cases e with
         |norm=>exact⟨X,.inl rfl⟩
         |ret=>exact⟨X,.inr rfl⟩
         |exit id=>cases X
         |jN v=>cases X
        obtain⟨ho,Z⟩:=Q;obtain⟨n,bs,hK,_,htup,R⟩:=yP (E:=E) ho;have I:(results fn H.tmps).run E.P w'=.ok (.tuple #[]) w':=by
         have:=kK (fn:=fn) (a:=H) (w:=w') (E:=E) (us:=[]) (by rw[J];rfl);simpa[tq] using this
        have O:H.defers=[]:=F.df.trans T;have M: ∃g2,Inv E B g.G w ⟨[n],dW 0 args bs⟩ g2 ⟨#[.tuple #[]],[]⟩ w':=by
         exact R rfl rfl T (fun _ _ _=>rfl) F (v:=.tuple #[]) ⟨[],rfl,.nil⟩
        obtain⟨g2,h2⟩:=M;have k:H.defers=[]∧ ∃L,({c₀ with mode:=A}::t:List Frame)={c₀ with mode:=L}::t∧ ∃v,(results fn H.tmps).run E.P w'=.ok v w'∧ ∃n bs g' v_1,K (.out false n bs)=some r∧(∃v',Ending.returned v=.returned v')∧settle L=.returning∧Inv E B g.G w ⟨[n],dW 0 args bs⟩ g' ⟨#[v_1],[]⟩ w':=
         ⟨O,A,rfl,_,I,n,bs,g2,_,hK,⟨_,rfl⟩,U,h2⟩
        rcases Z with rfl|rfl
        ·exact k
        ·exact k
       rcases hu with⟨rfl,rfl⟩|⟨q,hq,rfl⟩
       ·have i:recoverD (c₀::t)=none:=by simp only[recoverD,hc₀]
        rw[i];have:=S .nilIface .returning rfl (j3.2 rfl);have e1:({c₀ with mode:=.returning}:Frame)=c₀:=by rw[←hc₀]
        rw[e1] at this;exact this
       ·have i:recoverD (c₀::t)=some (q,{c₀ with mode:=.panicking [{v:=q,recovered:=true}]}::t):=by simp only[recoverD,hc₀]
        rw[i];exact S q _ rfl (sJ hq).1
      ·cases h
     ·cases h
    ·cases h
   ·cases h
  ·cases h
def Sl (E:Env) (f:Nat) (args:af) (v:V):Prop:=(nH v=false∧ak E f (args.map V.qK) v)∨(∃p x bs,v=.out p x bs∧XC E f args p x bs)∨ ∃p x,v=.keep p x∧KC E f args p x
theorem BU {x:V} (h:x.dO=true):x.plain=true:=by
 cases x with
 |sl e sh o xs=>cases o<;>first|rfl|cases h
 |agg a=>rfl
 |rptr sh y off=>rfl
 |iface t y=>rfl
 |_=>cases h
theorem xQ {G:aI} {g:Gh} (m:g.G=G) (q:g.G1=G): ∀{args:af} {us:List Value},pu args=some args→handed args=false→PW (aJ G) (args.map V.qK) us→PW (aB g) args us
 |[],us,_,_,n=>by rw[n.bH];exact .nil
 |x::l,us,j,i,n=>by
  obtain⟨v,t,rfl,d,w⟩:=n.cons_inv;unfold handed at i;rw[UO,zi] at i;unfold pu at j;split at j
  ·rename_i a b h p
   simp only[aF,Sb] at j;obtain⟨rfl,rfl⟩:=j;refine .cons ?_ (xQ m q p i.2 w);have k: ∀{y:V},y.deep=some y→aJ G y v→aB g y v:=fun u z=>bA (iI u) (by rw[m];exact z)
   cases a with
   |bxa off r=>cases i.1
   |sl e sh o xs=>cases o with
    |none=>exact k rfl d
    |some L=>cases i.1
   |old y=>
    have h:(bif y.dO then some (V.old y) else none)=some (.old y):=h;obtain⟨s,_⟩:=au h;have d:aJ G (bif y.dO then y else .any) v:=d;rw[s,gY] at d;exact⟨by rw[q];exact d,by rw[m];exact d,BU s⟩
   |fn f c=>cases c with
    |nil=>exact k rfl d
    |cons c r=>
     have d:aJ G (.fn f (c::r)) v:=d;unfold aJ at d;exact absurd d.2 (by simp)
   |_=>exact k h d
  ·cases j
theorem iw {f:Nat} {args:af} {r:V} (y:pu args=some args) (s:handed args=false)
  (h: ∀(B:Own) (g:Gh) (w:World) (us:List Value),B.df=[]→Inv E B g.G w ⟨args,[]⟩ g ⟨us.toArray,[]⟩ w→Calls E.P f us.toArray w fun e w'=>∃v g',e=.returned v∧Inv E B g.G w ⟨[],[]⟩ g' ⟨#[],[]⟩ w'∧d9 g'.G w' B.m r v):ak E f (args.map V.qK) r:=by
 intro G w us o a i;have i:=xQ (g:=⟨G,fun _=>none,fun _=>none,G,fun _=>none⟩) rfl rfl y s i;have x:Inv E ⟨(w.heap.size≤ ·),w.heap.size,fun _=>none,[]⟩ G w ⟨args,[]⟩ ⟨G,fun _=>none,fun _=>none,G,fun _=>none⟩ ⟨us.toArray,[]⟩ w:=by
  refine⟨?_,rfl,o,⟨fun L v e n h=>(by cases h),fun L L' v z e A n u b h=>(by cases h)⟩,⟨fun k j h=>(by cases h),fun k C j q h=>(by cases h)⟩,.refl _ _,⟨iA _,fun b d=>d⟩,⟨fun _ _=>rfl,.refl _,fun _ _=>rfl⟩,⟨a,fun b l d=>dU o d⟩,.refl _,fun k j L v e n b p=>(by cases p)⟩;show PW _ args us.toArray.toList;rw[ZA];exact i
 refine Calls.mono (h _ ⟨G,fun _=>none,fun _=>none,G,fun _=>none⟩ w us rfl x) ?_;rintro e w' ⟨v,g',rfl,c,t⟩;exact⟨v,g'.G,rfl,⟨c.gN.below,fun b d=>c.ext.1 b (Nat.not_le.2 d),c.gok⟩,t⟩
theorem Inv.drop {B B2:Own} {G0:aI} {w0:World} {s:St} {g:Gh} {a:Act} {w:World} (h:Inv E B G0 w0 s g a w) (d:B2.m=B.m) (i:B2.n=B.n): ∃g',g'.G=g.G∧Inv E B2 G0 w0 ⟨[],[]⟩ g' ⟨#[],B2.df⟩ w:=by
 refine⟨⟨g.G,fun _=>none,B2.β,g.G1,fun _=>none⟩,rfl,⟨.nil,rfl,h.gok,⟨fun L v e f hL=>(by cases hL),fun L L' v q e r f o b hL=>(by cases hL)⟩,⟨fun k j c=>(by cases c),fun k t j l c=>(by cases c)⟩,by rw[d];exact h.gN,by rw[d,i];exact h.hB,⟨fun b p=>h.ext.1 b (by rw[←d];exact p),h.ext.2.1,fun _ _=>rfl⟩,by rw[i];exact h.glob,h.g1,fun k j L v e f b c=>(by cases c)⟩⟩
theorem Nb {s:St} {a:List ResultVar} {p:Bool} {x:V} {bs:List (af)} (h:nD E.P s a=some [.out p x bs]):nH (.out p x bs)=false:=by
 exfalso
 cases a with
 |nil=>cases h
 |cons r a=>
  simp only[nD] at h;split at h
  ·cases h
  ·rename_i y b
   split at h
   ·cases h
   ·simp only[aF,Sb] at h
    obtain⟨rfl,_⟩:=h;have:=xN b;rcases this with h|⟨e,sh,o,xs,h⟩|⟨c,h⟩
    ·cases h
    ·cases h
    ·cases h
theorem JI {s:St} {a:List ResultVar} {p:Bool} {x:V} (h:nD E.P s a=some [.keep p x]):nH (.keep p x)=false:=by
 exfalso
 cases a with
 |nil=>cases h
 |cons r a=>
  simp only[nD] at h;split at h
  ·cases h
  ·rename_i y b
   split at h
   ·cases h
   ·simp only[aF,Sb] at h
    obtain⟨rfl,_⟩:=h;have:=xN b;rcases this with h|⟨e,sh,o,xs,h⟩|⟨c,h⟩
    ·cases h
    ·cases h
    ·cases h
def Kv (E:Env) (fn:Func) (s:St) (v:V):Prop:=
 ∀{B B2:Own} {G0:aI} {w0:World} {g:Gh} {a:Act} {w:World},B2.m=B.m→B2.n=B.n→Inv E B G0 w0 s g a w→ ∃u b,(results fn a.tmps).run E.P w=.ok u w∧Inv E B2 G0 w0 ⟨[],[]⟩ b ⟨#[],B2.df⟩ w∧d9 b.G w B.m v u
theorem JJ {fn:Func} {s:St} {vs:af} (h:nD E.P s fn.results.toList=some vs):Kv E fn s (FI vs):=by
 intro B B2 G0 w0 g a w k j c;obtain⟨us,i,d⟩:=nk c _ _ h;have b:=Te c.own d;obtain⟨l,f,e⟩:=c.drop (B2:=B2) k j;rw[←f] at b;exact⟨_,l,kK i,e,b⟩
theorem Tq {v y:V} {k:Kd} (h:IJ v=some k) (a:v.deep=some y):fits k y=true:=by
 cases v with
 |bool b=>simp only[IJ,aF] at h;simp only[V.deep,aF] at a;subst h;subst a;rfl
 |int k n=>simp only[IJ,aF] at h;simp only[V.deep,aF] at a;subst h;subst a;simp[fits]
 |str l=>simp only[IJ,aF] at h;simp only[V.deep,aF] at a;subst h;subst a;rfl
 |sl e sh o xs=>
  simp only[IJ] at h;obtain⟨d,c⟩:=au h;simp only[V.deep,aF] at a;simp only[aF] at c;subst c;subst a;simp[fits,d]
 |_=>simp[IJ] at h
theorem F8: ∀{vs ys:af} {b:List Kd},Cm vs=some b→V.qN vs=some ys→bE b ys=true
 |[],ys,b,h,a=>by
  simp only[Cm,aF] at h;simp only[V.qN,aF] at a;subst h;subst a;rfl
 |v::l,ys,b,h,a=>by
  simp only[Cm] at h;simp only[V.qN] at a;split at h
  ·rename_i k i f c
   split at a
   ·rename_i y e g d
    simp only[aF] at h a;subst h;subst a;simp only[bE,Tq f g,F8 c d];rfl
   ·cases a
  ·cases h
theorem KY {s:St} {d:List ResultVar} {v:V} (h:zA s d=some v): ∃t k cells sh b,d=[.tmp t]∧slot s.fr t=.box k 0∧aj s.bx k=some cells∧Cm cells=some sh∧V.qN cells=some b∧v=.rptr sh (.agg b) 0:=by
 unfold zA at h;split at h
 ·rename_i t
  split at h
  ·rename_i k off c
   obtain⟨g,a⟩:=au h;obtain rfl:off=0:=by simpa using g
   split at a
   ·rename_i cells i
    split at a
    ·rename_i sh f
     split at a
     ·rename_i b e
      simp only[aF] at a;exact⟨t,k,cells,sh,b,rfl,c,i,f,e,a.symm⟩
     ·cases a
    ·cases a
   ·cases a
  ·cases h
 ·cases h
theorem Tt {s:St} {a:List ResultVar} {v:V} (h:zA s a=some v):nH v=false:=by
 obtain⟨_,_,_,_,_,_,_,_,_,_,rfl⟩:=KY h;rfl
theorem JK {fn:Func} {s:St} {v:V} (h:zA s fn.results.toList=some v):Kv E fn s v:=by
 obtain⟨t,k,cells,sh,n,C,F,hl,p,J,rfl⟩:=KY h;intro B B2 G0 w0 g a w H Z o;have z:aB g (slot s.fr t) (a.tmps.getD t undef):=bR o.fr o.eD (.tmp t);rw[F] at z;obtain⟨b,M,S⟩:=cu.1 z;obtain⟨b',c,e,q,D,Y,X,ho,R,_⟩:=o.bxs.1 k cells hl;rw[M] at q;simp only[aF] at q;subst q;have y:(fn.results.toList.mapM (rJ a)).run E.P w=.ok [a.tmps.getD t undef] w:=by
  rw[C,ZI];rfl
 have f:jB g.G (upd g.G b c.toList):=by
  intro j l d;have:j≠b:=fun e=>by rw[e,R] at d;cases d
  exact⟨l,by rw[fE _ _ _ _ this];exact d,IC _⟩
 have m:=F8 p J;have r:PW (aJ (upd g.G b c.toList)) n c.toList:=(Ab cells n c.toList J X).mono fun x _ u Q=>fI f x u Q
 obtain⟨T,W,i⟩:=o.drop (B2:=B2) H Z;refine⟨_,⟨upd g.G b c.toList,fun _=>none,B2.β,T.G1,fun _=>none⟩,kK y,?_,?_⟩
 ·refine⟨.nil,rfl,?_,⟨fun L v e I hL=>(by cases hL),fun L L' v v' e e' I O b hL=>(by cases hL)⟩,⟨fun k n p=>(by cases p),fun k k' n N p=>(by cases p)⟩,i.gN,i.hB,⟨fun j d=>?_,?_,fun _ _=>rfl⟩,i.glob,i.g1,fun k n L v e I b p=>(by cases p)⟩
  ·intro j l d
   have d:upd g.G b c.toList j=some l:=d;by_cases A:j=b
   ·subst A
    rw[upd_same] at d;obtain rfl:=Option.some.inj d;exact⟨c,e,_,Y,RP⟩
   ·rw[fE _ _ _ _ A] at d
    exact o.gok j l d
  ·have:j≠b:=fun A=>d (by rw[A,H];exact D)
   show upd g.G b c.toList j=_;rw[fE _ _ _ _ this];exact o.ext.1 j (by rw[←H];exact d)
  ·exact o.ext.2.1.trans f
 ·rw[show tq [a.tmps.getD t undef]=a.tmps.getD t undef from rfl,S]
  show aJ (upd g.G b c.toList) (.rptr sh (.agg n) 0) _;unfold aJ;refine⟨b,0,c.toList,rfl,upd_same _ _ _,m,.agg c,?_,?_⟩
  ·unfold aJ
   exact⟨c.toList,by simp,(dI _ _).2 r⟩
  ·have U:=gU _ _ m
   have K:n.length=c.toList.length:=r.1;rw[Om,U,K,RP];simp[Value.cells]
theorem iX {α:Type} {fn:Func} {args:af} {K:V→Option α} {r:α} {e:Ex} {s':St} (j:yw E.P fn args K e s'=some r):
  ∃v,K v=some r∧((nH v=false∧handed args=false∧(e=.norm∨e=.ret)∧Kv E fn s' v)∨
   (∃x bs,v=.out false x bs∧(e=.norm∨e=.ret)∧ ∀{B B2:Own} {G0:aI} {w0:World} {g:Gh} {a:Act} {w:World},B2.m=B.m→B2.n=B.n→B2.df=[]→(∀a b,(a,b)∈iQ 0 args→B2.β a=B.β a)→Inv E B G0 w0 s' g a w→ ∃u g',(results fn a.tmps).run E.P w=.ok u w∧Inv E B2 G0 w0 ⟨[x],dW 0 args bs⟩ g' ⟨#[u],[]⟩ w)∨
   (∃x bs u,v=.out true x bs∧(∃y,e=.jN y∧bG y=some u)∧ ∀{B B2:Own} {G0:aI} {w0:World} {g:Gh} {a:Act} {w:World},B2.m=B.m→B2.n=B.n→B2.df=[]→(∀a b,(a,b)∈iQ 0 args→B2.β a=B.β a)→Inv E B G0 w0 s' g a w→ ∃g',Inv E B2 G0 w0 ⟨[x],dW 0 args bs⟩ g' ⟨#[u],[]⟩ w)):=by
 have d:(e=.norm∨e=.ret)→(match nD E.P s' fn.results.toList with|some vs=>(bif handed args then mH false (Kt vs) s' args K else K (FI vs))|none=>bif handed args then none else(match zA s' fn.results.toList with|some r=>K r|none=>none))=some r→
   ∃v,K v=some r∧((nH v=false∧handed args=false∧(e=.norm∨e=.ret)∧Kv E fn s' v)∨
   (∃x bs,v=.out false x bs∧(e=.norm∨e=.ret)∧ ∀{B B2:Own} {G0:aI} {w0:World} {g:Gh} {a:Act} {w:World},B2.m=B.m→B2.n=B.n→B2.df=[]→(∀a b,(a,b)∈iQ 0 args→B2.β a=B.β a)→Inv E B G0 w0 s' g a w→ ∃u g',(results fn a.tmps).run E.P w=.ok u w∧Inv E B2 G0 w0 ⟨[x],dW 0 args bs⟩ g' ⟨#[u],[]⟩ w)∨
   (∃x bs u,v=.out true x bs∧(∃y,e=.jN y∧bG y=some u)∧ ∀{B B2:Own} {G0:aI} {w0:World} {g:Gh} {a:Act} {w:World},B2.m=B.m→B2.n=B.n→B2.df=[]→(∀a b,(a,b)∈iQ 0 args→B2.β a=B.β a)→Inv E B G0 w0 s' g a w→ ∃g',Inv E B2 G0 w0 ⟨[x],dW 0 args bs⟩ g' ⟨#[u],[]⟩ w)):=by
  intro k h;split at h
  ·rename_i vs c
   cases o:handed args with
   |false=>
    rw[o,fQ] at h;refine⟨_,h,.inl ⟨?_,rfl,k,JJ c⟩⟩
    cases vs with
    |nil=>rfl
    |cons v l=>cases l with
     |cons _ _=>rfl
     |nil=>
      have:kS v=true:=by
       cases i:fn.results.toList with
       |nil=>rw[i] at c;cases c
       |cons x J=>
        rw[i] at c;simp only[nD] at c;split at c
        ·cases c
        ·rename_i y H
         split at c
         ·cases c
         ·simp only[aF,Sb] at c
          rw[←c.1];exact M7 H
      show nH v=false
      cases v with
      |out _ _ _=>exact Nb c
      |keep _ _=>exact JI c
      |_=>rfl
   |true=>
    rw[o,gY] at h;obtain⟨A,bs,z,_,_,f⟩:=yP (E:=E) h;refine⟨_,z,.inr (.inl ⟨A,bs,rfl,k,fun {B B2 G0 w0 g a w} m1 s t D q=>?_⟩)⟩;obtain⟨us,p,C⟩:=nk q _ _ c;obtain⟨g',G⟩:=f m1 s t D q (M9 C);exact⟨_,g',kK p,G⟩
  ·cases o:handed args with
   |true=>rw[o,gY] at h;cases h
   |false=>
    rw[o,fQ] at h;split at h
    ·rename_i v F
     exact⟨v,h,.inl ⟨Tt F,rfl,k,JK F⟩⟩
    ·cases h
 cases e with
 |norm=>exact d (.inl rfl) j
 |ret=>exact d (.inr rfl) j
 |exit id=>cases j
 |jN y=>
  have j:(match bG y with|some _=>mH true y s' args K|none=>none)=some r:=j;split at j
  ·rename_i u p
   obtain⟨A,bs,z,I,_,f⟩:=yP (E:=E) j;refine⟨_,z,.inr (.inr ⟨A,bs,u,rfl,⟨y,rfl,p⟩,fun {B B2 G0 w0 g a w} m1 s t D q=>f m1 s t D q (sJ p).1⟩)⟩
  ·cases j
theorem Inv.redf {B:Own} {G0:aI} {w0:World} {s:St} {g:Gh} {a:Act} {w:World} (h:Inv E B G0 w0 s g a w) (df:List Deferred):Inv E {B with df:=df} G0 w0 s g {a with defers:=df} w:=
 ⟨h.fr,rfl,h.gok,h.own,h.bxs,h.gN,h.hB,h.ext,h.glob,h.g1,h.zb⟩
theorem Bb {c a b:Code} {e o2:Oper} (h:Ee c=some (a,e,o2,b)): ∃id,c=.seq a (.seq (.region id #[e,o2] false) b):=by
 unfold Ee at h;split at h
 ·rename_i x id ops y
  split at h
  ·rename_i p q d
   split at h
   ·simp only[aF,bP] at h
    obtain⟨rfl,rfl,rfl,rfl⟩:=h;have:ops= #[p,q]:=by rw[←Ff];simpa using d
    exact⟨id,by rw[this]⟩
   ·cases h
  ·cases h
 ·cases h
end
section
variable {E:Env}
theorem ul {g:Gh} {β':Nat→Option Nat} {k a:Nat} (n:β' a=g.β k) (i: ∀j,j≠a→β' j=g.β j) {x:V} {v:Value} (hx:oo a x=false) (h:aX g x v):aX {g with β:=β'} (XW k a x) v:=by
 cases x with
 |box j off=>
  obtain⟨b,d,f⟩:=h;show aX _ (bif j==k then .box a off else .box j off) v
  cases m:j==k with
  |true=>
   obtain rfl:j=k:=by simpa using m
   exact⟨b,n.trans d,f⟩
  |false=>
   have c:j≠a:=fun e=>by subst e;simp[oo] at hx
   exact⟨b,(i j c).trans d,f⟩
 |sl e sh l xs=>cases l<;>exact h
 |eptr _ _ _ _ _ _=>exact h
 |_=>exact h
theorem JL {k a:Nat} {x:V} (h:x.single=true):(XW k a x).single=true:=by
 cases x with
 |box j off=>show(bif j==k then V.box a off else .box j off).single=true;cases j==k<;>rfl
 |tup _=>cases h
 |fn _ _=>cases h
 |_=>rfl
theorem KZ {g:Gh} {β':Nat→Option Nat} {k e:Nat} (d:β' e=g.β k) (b: ∀j,j≠e→β' j=g.β j) {x:V} {v:Value} (hx:x.fB e=false) (h:aB g x v):aB {g with β:=β'} (x.rb k e) v:=by
 cases x with
 |tup vs=>
  obtain⟨a,rfl,h⟩:=h;simp only[V.fB,Oj] at hx;exact⟨a,rfl,dm h fun y i v l=>ul d b (by have:=hx y i;simpa using this) l⟩
 |fn f c=>
  obtain⟨a,rfl,h⟩:=h;simp only[V.fB,Oj] at hx;exact⟨a,rfl,dm h fun y i v l=>ul d b (by have:=hx y i;simpa using this) l⟩
 |box j off=>exact aW (JL (x:=.box j off) rfl) (ul (x:=.box j off) d b hx (aL (x:=.box j off) rfl h))
 |_=>simp only[aB,V.fB] at h hx⊢;exact ul d b hx h
theorem nU {k g:Nat}: ∀(l:List (Nat×af)),(∀p∈l,p.1≠g)→ ∀j m,aj (SC k g l) j=some m→ ∃d b,aj l d=some b∧m=b.map (V.rb k g)∧j=if d=k then g else d
 |[],_,j,m,h=>by cases h
 |(i,c)::l,hl,j,m,h=>by
  have s:i≠g:=hl (i,c) sS;unfold SC aj at h
  cases f:(bif i==k then g else i)==j with
  |true=>
   rw[f,gY] at h;simp only[aF] at h;refine⟨i,c,by unfold aj;rw[E8,gY],h.symm,?_⟩;rw[fT] at f;rw[←f];by_cases a:i=k
   ·subst a;rw[E8,gY,if_pos rfl]
   ·have:(i==k)=false:=by simpa using a
    rw[this,fQ,if_neg a]
  |false=>
   rw[f,fQ] at h;obtain⟨d,b,r,q,h3⟩:=nU l (fun p o=>hl p (vg _ o)) j m h;refine⟨d,b,?_,q,h3⟩;unfold aj;have n:i≠d:=by
    intro e;subst e;rw[oZ] at f;apply f
    rw[h3];by_cases a:i=k
    ·subst a;rw[E8,gY,if_pos rfl]
    ·have:(i==k)=false:=by simpa using a
     rw[this,fQ,if_neg a]
   have:(i==d)=false:=by simpa using n
   rw[this,fQ];exact r
theorem Inv.rb {B:Own} {G0:aI} {w0:World} {s:St} {g:Gh} {a:Act} {w:World} (h:Inv E B G0 w0 s g a w) {k f:Nat} (y:s.iG f=true) (U:k≠f):
  Inv E {B with β:=fun j=>if j=f then g.β k else B.β j} G0 w0 (s.rb k f) {g with β:=fun j=>if j=f then g.β k else g.β j} a w:=by
 have I:(fun j=>if j=f then g.β k else g.β j) f=g.β k:=if_pos rfl;have G: ∀j,j≠f→(fun j=>if j=f then g.β k else g.β j) j=g.β j:=fun j o=>if_neg o
 have d: ∀p∈s.bx,p.1≠f:=fun p R e=>by
  unfold St.iG at y;rw[bB,jJ,jJ] at y;have:=y.2 p R;simp only[bB] at this;have:=dX this.1;rw[oZ] at this;exact this e
 refine⟨dm h.fr fun x hx v=>KZ I G (ug y x hx),h.df,h.gok,h.own,⟨fun j u o=>?_,fun j K u C o A t=>?_⟩,h.gN,h.hB,⟨h.ext.1,h.ext.2.1,fun j o=>?_⟩,h.glob,h.g1,fun j u L v e S b o hL t hβ=>?_⟩
 ·obtain⟨i,m,q,rfl,rfl⟩:=nU s.bx d j u o
  obtain⟨b,c,e,H,T,M,O,Q,N,P⟩:=h.bxs.1 i m q;have n:i≠f:=d _ (iK _ _ _ q);refine⟨b,c,e,?_,T,M,dm O fun x hx v=>KZ I G ((jI y i m q).2 x hx),Q,N,jf (SV _ _) P⟩;show(if(if i=k then f else i)=f then g.β k else g.β (if i=k then f else i))=some b;by_cases l:i=k
  ·subst l;simp[H]
  ·rw[if_neg l,if_neg n];exact H
 ·obtain⟨i,m,q,_,rfl⟩:=nU s.bx d j u o
  obtain⟨r,D,J,_,rfl⟩:=nU s.bx d K C A;have n:i≠f:=d _ (iK _ _ _ q);have z:r≠f:=d _ (iK _ _ _ J);have F: ∀j,j≠f→(if(if j=k then f else j)=f then g.β k else g.β (if j=k then f else j))=g.β j:=by
   intro j o;by_cases l:j=k
   ·subst l;simp
   ·rw[if_neg l,if_neg o]
  have t:(if(if i=k then f else i)=f then g.β k else g.β (if i=k then f else i))=(if(if r=k then f else r)=f then g.β k else g.β (if r=k then f else r)):=t;rw[F i n,F r z] at t;rw[h.bxs.2 i r m D q J t]
 ·show(if j=f then g.β k else g.β j)=(if j=f then g.β k else B.β j)
  split
  ·rfl
  ·exact h.ext.2.2 j o
 ·obtain⟨i,m,q,_,rfl⟩:=nU s.bx d j u o
  have n:i≠f:=d _ (iK _ _ _ q);have hβ:(if(if i=k then f else i)=f then g.β k else g.β (if i=k then f else i))=some b:=hβ;refine h.zb i m L v e S b q hL t ?_;by_cases l:i=k
  ·subst l;simpa using hβ
  ·rw[if_neg l,if_neg n] at hβ;exact hβ
theorem F9 {G0:aI} {w0:World} {a:Act} {w:World}: ∀(c:af) (j:Nat) (B:Own) (s s':St) (g:Gh) (o:List Value),Inv E B G0 w0 s g a w→mJ j c s=some s'→PW (aX g) c o→
  ∃B' g',B'.m=B.m∧B'.n=B.n∧B'.df=B.df∧(∀k,k<HL+5000+j→B'.β k=B.β k)∧(∀i v,o[i]? =some v→ ∃b,B'.β (HL+5000+j+i)=some b∧v=.pointer (some ⟨b,0,none⟩))∧Inv E B' G0 w0 s' g' a w
 |[],j,B,s,s',g,o,h,d,e=>by
  simp only[mJ,aF] at d;subst d;rw[e.bH];exact⟨B,g,rfl,rfl,rfl,fun _ _=>rfl,fun i v l=>by simp at l,h⟩
 |x::c,j,B,s,s',g,o,h,d,e=>by
  cases x with
  |box k off=>
   cases off with
   |succ n=>cases d
   |zero=>
   unfold mJ at d;obtain⟨f,d⟩:=au d;rw[bB] at f;have F:=ig f.2;obtain⟨v,t,rfl,⟨b,q,l⟩,H⟩:=e.cons_inv;have J:k≠HL+5000+j:=by omega
   have r:=h.rb f.1 J;have y:PW (aX {g with β:=fun i=>if i=HL+5000+j then g.β k else g.β i}) c t:=by
    refine caps_pw (s:=s.rb k (HL+5000+j)) c (j+1) d H fun i M=>?_
    show(if i=HL+5000+j then g.β k else g.β i)=g.β i;rw[if_neg (by omega)]
   obtain⟨B',g',m1,C,G,z,L,A⟩:=F9 c (j+1) _ _ s' _ t r d y;refine⟨B',g',m1,C,G,fun i M=>?_,fun i u p=>?_,A⟩
   ·rw[z i (by omega)]
    show(if i=HL+5000+j then g.β k else B.β i)=B.β i;rw[if_neg (by omega)]
   ·cases i with
    |zero=>
     simp only[BZ,aF] at p;subst p;refine⟨b,?_,l⟩;rw[Ob,z (HL+5000+j) (by omega)];show(if HL+5000+j=HL+5000+j then g.β k else _)=some b;rw[if_pos rfl];exact q
    |succ i=>
     simp only[XG] at p;obtain⟨I,K,O⟩:=L i u p;exact⟨I,by rw[←K];congr 1;omega,O⟩
  |_=>cases d
where
 caps_pw {g:Gh} {β':Nat→Option Nat} {s s':St}: ∀(c:af) (j:Nat),mJ j c s=some s'→ ∀{t:List Value},PW (aX g) c t→(∀i,i<HL→β' i=g.β i)→PW (aX {g with β:=β'}) c t:=by
  intro c;induction c generalizing s with
  |nil=>intro j _ t e _;rw[e.bH];exact .nil
  |cons x c N=>
   intro j d t e hβ;obtain⟨v,t,rfl,r,D⟩:=e.cons_inv
   cases x with
   |box k off=>
    cases off with
    |succ n=>cases d
    |zero=>
     unfold mJ at d;obtain⟨f,d⟩:=au d;rw[bB] at f;obtain⟨b,q,l⟩:=r;exact .cons ⟨b,(hβ k (ig f.2)).trans q,l⟩ (N (j+1) d D hβ)
   |_=>cases d
theorem Bc {g:Gh}: ∀(a:af) (j:Nat) (c:List Value),a.length=c.length→(∀i v,c[i]? =some v→ ∃b,g.β (HL+5000+j+i)=some b∧v=.pointer (some ⟨b,0,none⟩))→PW (DL g) (jk j a) c
 |[],j,c,hl,_=>by
  have:c=[]:=RN hl.symm;rw[this];exact .nil
 |x::a,j,[],hl,_=>by simp at hl
 |x::a,j,v::c,hl,h=>by
  unfold jk;obtain⟨b,k,d⟩:=h 0 v rfl;refine .cons (.inr ⟨b,by simpa using k,d⟩) (Bc a (j+1) c (by simpa using hl) fun i u e=>?_);obtain⟨f,l,m⟩:=h (i+1) u (by simpa using e);exact⟨f,by rw[←l];congr 1;omega,m⟩
theorem K3: ∀(args:af) (j:Nat) {a b:Nat},(a,b)∈iQ j args→a<HL+j+args.length
 |[],j,a,b,h=>by cases h
 |x::args,j,a,b,h=>by
  have c:(a,b)∈iQ (j+1) args→a<HL+j+(x::args).length:=fun h=>by have:=K3 args (j+1) h;rw[iy];omega
  cases x with
  |bxa off d=>
   unfold iQ at h;rcases List.mem_cons.1 h with h|h
   ·simp only[bP] at h
    obtain⟨rfl,rfl⟩:=h;rw[iy];omega
   ·exact c h
  |_=>exact c h
theorem EU (hE:oU E) {id:Nat} (b:iR E.P id=true) (args:Array Value) (w:World):(callFunc id args).run E.P w=.ok (.enter id args) w:=by
 unfold iR at b;split at b
 ·rename_i fn c
  have a:fn.name≠ "runtime.NumGoroutine" :=by
   have:=Array.all_eq_true_iff_forall_mem.1 hE.names fn (XI c);have d:fn.body.isNone=false:=by cases f:fn.body with|none=>rw[f] at b;cases b|some _=>rfl
   rw[d] at this;simpa using this
  obtain⟨g,e⟩:=Option.isSome_iff_exists.1 b;simp[callFunc,c,a,e]
 ·cases b
theorem kH {args:af} (c:handed args=false):bg 0 args=args∧bZ 0 args=[]:=by
 have: ∀(l:af) (j:Nat),handed l=false→bg j l=l∧bZ j l=[]:=by
  intro l;induction l with
  |nil=>intro j _;exact⟨rfl,rfl⟩
  |cons x l a=>
   intro j h;unfold handed at h;rw[UO,zi] at h;obtain⟨d,b⟩:=a (j+1) h.2
   cases x with
   |bxa off e=>cases h.1
   |_=>exact⟨by unfold bg;rw[d];rfl,b⟩
 exact this args 0 c
def Y8 (E:Env) (fn:Func) (gf:Nat) (d args:af) (B:Own) (g:Gh) (R:Ending→World→Prop) (f:Ex) (l:St) (w:World):Prop:=
 ∃(rec:V) (k:af) (mb ml:List (Nat×Nat)) (Φ:V→List (af)→Prop),((rec=.nilif∧(f=.norm∨f=.ret))∨ ∃u,f=.jN rec∧bG rec=some u)∧
  lG l.bx 0 (jk 0 d)=some (k,mb,ml)∧lF mb ml=true∧iR E.P gf=true∧DC E gf k rec Φ∧ ∀h c,Φ h c→ ∃j,lJ l none mb ml h c=some j∧
  ∀B4 o i e,B.m=B4.m→B.n=B4.n→(∀a b,(a,b)∈iQ 0 args→B.β a=B4.β a)→Inv E B4 g.G w j o i e→ ∃v,(results fn i.tmps).run E.P e=.ok v e∧R (.returned v) e
theorem pM (hE:oU E) {α:Type} {call:Caller α} (ih:fM E call) {fuel f:Nat} {fn:Func} {cA cB:Code} {id:Nat} {n o2:Oper} {cl:Call} {t gf:Nat} {first ccaps:Array Operand} {c args:af}
  (hfn:E.P.funcs[f]? =some fn) (hb:fn.body=some (.seq cA (.seq (.region id #[n,o2] false) cB))) (hg1:n.guard=none) (hd1:n.dst=some t) (O:o2.op=.defer cl) (hg2:o2.guard=none) (hd2:o2.dst=none)
  (x:cl.callee=.value (.tmp t)) (k:cl.args.toList=[]) {s1 s2:St}
  (hl1:OT E cA ⟨qi fn (bg 0 args),bZ 0 args⟩ .norm s1) (hopr:yh E s1.fr s1.bx n=some (true,.val (.fn gf c))) (htl:t<s1.fr.length) (hal:args.length<5000) (L:Nat.blt gf rA=true)
  (Y:mJ 0 c (s1.put (some t) (.fn gf c))=some s2)
  {B:Own} {g:Gh} {w:World} {us:List Value} {R:Ending→World→Prop} (hdf:B.df=[]) (hi:Inv E B g.G w ⟨bg 0 args,bZ 0 args⟩ g ⟨us.toArray,[]⟩ w)
  (hl3: ∀(B2:Own) (G0:aI) (w0:World) (g5:Gh) (a5:Act) (s:World),Inv E B2 G0 w0 s2 g5 a5 s→ ∀Q:Exit→Act→World→Prop,(∀e3 s3 g' a' w',Y8 E fn gf c args B g R e3 s3 w→Inv E B2 G0 w0 s3 g' a' w'→Q (o7 e3) a' w')→cB.wp E.P Q a5 s):Calls E.P f us.toArray w R:=by
 refine calls_of_wp_defers hfn hb ?_;refine wp_seq (hl1 B g.G w g _ w (jA (fn:=fn) hi) _ fun g1 r s d=>?_);refine wp_seq (wp_region ?_);have J:List.range (#[n,o2]:Array Oper).size=[0,1]:=rfl;rw[J];have hdo:=gV (ac:=r) (B:=B) (w:=s) (g:=g1) (o:=n) hE rfl d.gok d.own d.bxs d.hB d.m1 d.eD (fun y=>bR d.fr d.eD y) hopr;obtain⟨fv,z,hfv⟩:=hdo;obtain⟨j,p,F⟩:=hfv;rw[tL L] at p;subst p;have hi2:=d.put (some t) (v:=.fn gf c) (u:=.func (.func gf) #[] j.toArray) ⟨j,(tL L).symm,F⟩;obtain⟨B',g',m1,m2,m3,m4,m5,Z⟩:=F9 c 0 B _ s2 g1 j hi2 Y F;unfold wpOps;simp only[Zy,BZ];have hw1: ∀y,Region.wanted n y=true:=fun y=>by unfold Region.wanted;rw[hg1]
 have hw2: ∀y,Region.wanted o2 y=true:=fun y=>by unfold Region.wanted;rw[hg2]
 rw[if_pos (hw1 _)];refine .inl ?_;unfold Oper.wp;rw[z];show wpOps E.P #[n,o2] _ [1] (r.put n.dst _) s;rw[hd1];unfold wpOps;simp only[Zy,XG,BZ];rw[if_pos (hw2 _)];refine .inl ?_;unfold Oper.wp;have VD:(Act.put r (some t) (.func (.func gf) #[] j.toArray)).eval (.tmp t)=.func (.func gf) #[] j.toArray:=by
  have M:t<r.tmps.size:=by
   have:=d.fr.1;rw[yG] at this;omega
  show(r.tmps.setIfInBounds t _).getD t undef=_;simp[Array.getD,M]
 have A:(execOp (Act.put r (some t) (.func (.func gf) #[] j.toArray)).eval o2).run E.P s=.ok (.defer {target:=.fn (.func gf) j.toArray,args:= #[]}) s:=by
  obtain⟨callee,D,cts⟩:=cl;simp only at x k;subst x;obtain rfl:D= #[]:=by rw[←Ff];simpa using k
  simp only[execOp,O,resolve,Deferred.ofValue,VD];simp
 rw[A];rw[Oper.upon_defer,hd2];unfold wpOps;have hdf1:r.defers=[]:=d.df.trans hdf;have l:=Z.redf [{target:=.fn (.func gf) j.toArray,args:= #[]}];have e1:(Act.put r (some t) (.func (.func gf) #[] j.toArray)).defers=[]:=hdf1;rw[e1];refine hl3 _ g.G w _ _ s l _ fun e3 s3 g3 K S hP l=>?_
 obtain⟨rec,as,mb,ml,Φ,N,m,W,hbg,ZT,U⟩:=hP;have h: ∀u,KW rec u→Leaves E.P fn K.tmps R K.defers u S:=by
  intro u hu;have hd3:K.defers=[{target:=.fn (.func gf) j.toArray,args:= #[]}]:=l.df;rw[hd3];have hcv:PW (DL g3) (jk 0 c) j:=Bc c 0 j F.1 fun i v hv=>by
   obtain⟨b,q1,q2⟩:=m5 i v hv;exact⟨b,by rw[l.ext.2.2 _ (by omega)];exact q1,q2⟩
  have X:=lY l hcv m W;have hrun:u≠.run:=by
   rcases hu with⟨_,rfl⟩|⟨q,_,rfl⟩
   ·intro e;cases e
   ·intro e;cases e
  refine leaves_cons (f:=gf) (args:=j.toArray) hrun ?_ ?_
  ·show(callFunc gf (#[]++j.toArray)).run E.P S=_
   rw[EU hE hbg];simp
  ·refine CallsD.mono (ZT (qT g3 S mb ml) (mI g3 mb ml) S j rfl X u hu) ?_
   rintro e u' w4 ⟨x0,bs0,g4,v4,hΦ,⟨v',rfl⟩,T,hx⟩;obtain⟨s4,I,hfin⟩:=U x0 bs0 hΦ;obtain⟨g5,h5⟩:=wu l m W I hx;have C: ∀a b,(a,b)∈iQ 0 args→B.β a=B'.β a:=fun a b hab=>by
    have h6:=K3 args 0 hab;exact(m4 a (by generalize HL=H at*;omega)).symm
   obtain⟨v,hv1,hv2⟩:=hfin {B' with df:=[{target:=.fn (.func gf) j.toArray,args:= #[]}]} g5 K w4 m1.symm m2.symm C h5;show Leaves E.P fn K.tmps R [] (settle u') w4;rw[T];exact⟨v,hv1,hv2⟩
 rcases N with⟨rfl,hee⟩|⟨u,rfl,hu⟩
 ·rcases hee with rfl|rfl
  ·exact h .returning (.inl ⟨rfl,rfl⟩)
  ·exact h .returning (.inl ⟨rfl,rfl⟩)
 ·show bodyPostD E.P fn R (.panic [{v:=(bG rec).getD undef,recovered:=false}]) K S
  rw[hu];exact h _ (.inr ⟨u,hu,rfl⟩)
theorem Ga (hE:oU E) {α:Type} {call:Caller α} (ih:fM E call) (fuel:Nat):fM E (zB false E call fuel):=by
 intro f args K r h;unfold zB at h;split at h
 ·cases h
 ·rename_i fn H
  split at h
  ·rename_i c X hb p
   have ha:=p;rw[pK p] at h ha;clear p X;split at h
   ·
    obtain⟨e,s',he,hl⟩:=eZ hE ih _ rfl fuel c _ _ r h;rw[qo] at he;obtain⟨v,hK,hv⟩:=iX he;refine⟨v,hK,?_⟩;rcases hv with⟨ho,hh,D,A⟩|⟨x,bs,rfl,D,k⟩|⟨x,bs,u,rfl,⟨y,rfl,hu⟩,k⟩
    ·refine .inl ⟨ho,iw ha hh fun B g w us b L=>calls_of_wp H hb ?_⟩
     have hst:=jA (fn:=fn) L;rw[(kH hh).1,(kH hh).2] at hl;refine hl B g.G w g _ w hst _ fun g' a' w' i=>?_
     obtain⟨u,J,d,z,o⟩:=A (B2:=B) rfl rfl i;have j:=i.df.trans b;rw[b] at z;rcases D with rfl|rfl
     ·exact⟨j,_,d,_,J,rfl,z,o⟩
     ·exact⟨j,_,d,_,J,rfl,z,o⟩
    ·refine .inr (.inl ⟨false,x,bs,rfl,fun B g w us b L=>calls_of_wp H hb ?_⟩)
     refine hl B g.G w g _ w (jA (fn:=fn) L) _ fun g' a' w' i=>?_
     obtain⟨u,J,d,h2⟩:=k rfl rfl b (fun _ _ _=>rfl) i;have j:=i.df.trans b;rcases D with rfl|rfl
     ·exact⟨j,_,d,J,_,rfl,h2⟩
     ·exact⟨j,_,d,J,_,rfl,h2⟩
    ·refine .inr (.inl ⟨true,x,bs,rfl,fun B g w us b L=>calls_of_wp H hb ?_⟩)
     refine hl B g.G w g _ w (jA (fn:=fn) L) _ fun g' a' w' i=>?_
     obtain⟨J,h2⟩:=k rfl rfl b (fun _ _ _=>rfl) i;have j:=i.df.trans b;show bodyPost E.P fn _ (.panic [{v:=(bG y).getD undef,recovered:=false}]) a' w';rw[hu];exact⟨j,J,_,rfl,h2⟩
   ·
    rename_i cA o1 o2 cB N;obtain⟨id,rfl⟩:=Bb N;split at h
    ·rename_i gf first ccaps t cl hop1 hg1 hd1 R hg2 hd2
     split at h
     ·rename_i t' U q
      have Z:=au h;obtain⟨Y,h9⟩:=Z;clear h;have Y:t=t':=by simpa using Y
      subst Y;obtain⟨e1,s1,l,hl1⟩:=eZ hE ih _ rfl fuel cA _ _ r h9
      cases e1 with
      |exit id=>cases l
      |ret=>cases l
      |jN v=>cases l
      |norm=>
      simp only at l;split at l
      ·rename_i g' V T
       obtain⟨hc1,he2⟩:=au l;clear l;rw[bB,bB] at hc1;obtain⟨⟨hgg,M⟩,m⟩:=hc1;obtain⟨m,W⟩:=Bool.and_eq_true_iff.1 m;have hgg:g'=gf:=by simpa using hgg
       subst hgg;have M:=ig M;obtain⟨m,W⟩:=Bool.and_eq_true_iff.1 m;have m:=ig m;split at he2
       ·rename_i s2 S
        obtain⟨e3,s3,n,hl3⟩:=eZ hE ih _ rfl fuel cB _ _ r he2;have s: ∃rec,Sj false E call fuel fn g' (jk 0 V) (lD args) K rec s3=some r∧((rec=.nilif∧(e3=.norm∨e3=.ret))∨ ∃u,e3=.jN rec∧bG rec=some u):=by
         cases e3 with
         |norm=>exact⟨.nilif,n,.inl ⟨rfl,.inl rfl⟩⟩
         |ret=>exact⟨.nilif,n,.inl ⟨rfl,.inr rfl⟩⟩
         |exit id=>cases n
         |jN v=>
          have n:(match bG v with|some _=>Sj false E call fuel fn g' (jk 0 V) (lD args) K v s3|none=>none)=some r:=n;split at n
          ·rename_i u hu;exact⟨v,n,.inr ⟨u,rfl,hu⟩⟩
          ·cases n
        obtain⟨rec,s,O⟩:=s;unfold Sj at s;split at s
        ·rename_i as mb ml C
         obtain⟨Xx,V5⟩:=au s;obtain⟨hbg,x0,bs0,I,ZT⟩:=Na hE ih V5;simp only at I;split at I
         ·rename_i s4 F
          rw[qo] at I;obtain⟨v,hK,hv⟩:=iX I;refine⟨v,hK,?_⟩;rcases hv with⟨ho,hh,D,A⟩|⟨x,bs,rfl,D,k⟩|⟨x,bs,u,rfl,⟨y,hy,hu⟩,k⟩
          ·refine .inl ⟨ho,iw ha hh fun B g w us b L=>?_⟩
           have hi0:Inv E B g.G w ⟨bg 0 args,bZ 0 args⟩ g ⟨us.toArray,[]⟩ w:=by rw[(kH hh).1,(kH hh).2];exact L
           refine pM hE ih H hb hg1 hd1 R hg2 hd2 U q hl1 T M m W S (fuel:=fuel) (first:=first) (ccaps:=ccaps) b hi0 fun B2 G0 w0 g5 a5 w5 hi5 Q hq=>hl3 B2 G0 w0 g5 a5 w5 hi5 Q fun g' a' w' i=>hq e3 s3 g' a' w' ⟨rec,as,mb,ml,_,O,C,Xx,hbg,ZT,fun _ _ hΦ=>⟨s4,by rw[hΦ.1,hΦ.2];exact F,fun B4 g4 a4 w4 q1 q2 q3 hi4=>?_⟩⟩ i
           obtain⟨u,J,d,z,o⟩:=A (B2:=B) q1 q2 hi4;rw[b] at z;rw[←q1] at o;exact⟨_,d,_,J,rfl,z,o⟩
          ·refine .inr (.inl ⟨false,x,bs,rfl,fun B g w us b L=>?_⟩)
           refine pM hE ih H hb hg1 hd1 R hg2 hd2 U q hl1 T M m W S (fuel:=fuel) (first:=first) (ccaps:=ccaps) b L fun B2 G0 w0 g5 a5 w5 hi5 Q hq=>hl3 B2 G0 w0 g5 a5 w5 hi5 Q fun g' a' w' i=>hq e3 s3 g' a' w' ⟨rec,as,mb,ml,_,O,C,Xx,hbg,ZT,fun _ _ hΦ=>⟨s4,by rw[hΦ.1,hΦ.2];exact F,fun B4 g4 a4 w4 q1 q2 q3 hi4=>?_⟩⟩ i
           obtain⟨u,J,d,h2⟩:=k q1 q2 b q3 hi4;exact⟨_,d,J,_,rfl,h2⟩
          ·cases hy
         ·cases I
        ·cases s
       ·cases he2
      ·cases l
     ·cases h
    ·cases h
  ·cases h
def mY:V→V
 | .qD b x y=>match b with|true=>mY x|false=>mY y
 |v=>v
theorem qB {α:Type} {K:V→Option α} {r:α}: ∀v:V,yx K v=some r→K (mY v)=some r
 | .qD b x y,h=>by
  unfold yx at h;unfold mY;rcases jg h with⟨rfl,h⟩|⟨rfl,h⟩
  ·exact qB x h
  ·exact qB y h
 | .any,h=>h
 | .bool _,h=>h
 | .int _ _,h=>h
 | .str _,h=>h
 | .agg _,h=>h
 | .tup _,h=>h
 | .nilsl,h=>h
 | .sl _ _ _ _,h=>h
 | .rptr _ _ _,h=>h
 | .box _ _,h=>h
 | .eptr _ _ _ _ _ _,h=>h
 | .fn _ _,h=>h
 | .nilif,h=>h
 | .nilp,h=>h
 | .iface _ _,h=>h
 | .bxa _ _,h=>h
 | .out _ _ _,h=>h
 | .old _,h=>h
 | .slz _ _ _ _ _ _ _ _ _ _,h=>h
 | .epz _ _ _ _ _,h=>h
 | .keep _ _,h=>h
def Pg (E:Env) (f:Nat) (args:af) (r:V):Prop:=(f<GX→ak E f args r)∧(GX≤f→ ∀p x bs,mY r=.out p x bs→XC E (f-GX) args p x bs)∧(KX≤f→ ∀p x,mY r=.keep p x→KC E (f-KX) args p x)
def dP (E:Env) (S:List (Nat×aO)):Prop:=∀f a,eY S f=some a→ ∀args r,a args=some (true,r)→Pg E f args r
theorem dP.nil:dP E []:=fun f a h=>by cases h
theorem dP.OU {S:List (Nat×aO)} {f:Nat} {d:aO} (h: ∀args r,d args=some (true,r)→Pg E f args r) (i:dP E S):dP E ((f,d)::S):=by
 intro g c a args r e;unfold eY at a
 cases b:f==g with
 |true=>
  rw[b,gY] at a;simp only[aF] at a;subst a;have:f=g:=by simpa using b
  subst this;exact h args r e
 |false=>
  rw[b,fQ] at a;exact i g c a args r e
theorem dP.cons {S:List (Nat×aO)} {f:Nat} {c:aO} (h: ∀args r,c args=some (true,r)→ak E f args r) (d:dP E S) (b:Nat.blt f GX=true:=by rfl):dP E ((f,c)::S):=
 dP.OU (fun args r e=>⟨fun _=>h args r e,fun a=>absurd (ig b) (Nat.not_lt.2 a),fun a=>absurd (ig b) (Nat.not_lt.2 (zl (show GX≤KX by decide) a))⟩) d
theorem dP.zC {S:List (Nat×aO)} {f:Nat} {b:aO} (h: ∀args r,b args=some (true,r)→ ∀p x bs,mY r=.out p x bs→XC E f args p x bs) (c:dP E S) (a:Nat.blt f GX=true:=by rfl):dP E ((GX+f,b)::S):=
 dP.OU (fun args r d=>⟨fun a=>absurd a (by omega),fun _ p x bs g=>by rw[show GX+f-GX=f by omega];exact h args r d p x bs g,fun e=>absurd e (by have:=ig a;unfold GX KX at*;omega)⟩) c
theorem dP.Va {S:List (Nat×aO)} {f:Nat} {b:aO} (h: ∀args r,b args=some (true,r)→ ∃p x,mY r=.keep p x∧KC E f args p x) (i:dP E S):dP E ((KX+f,b)::S):=
 dP.OU (fun args r g=>by
  obtain⟨j,k,c,e⟩:=h args r g;refine⟨fun d=>absurd d (by unfold GX KX;omega),fun _ p x bs a=>?_,fun _ p x a=>?_⟩
  ·rw[c] at a;cases a
  ·rw[c] at a;cases a
   rw[show KX+f-KX=f by omega];exact e) i
theorem K4 {g:Gh} {x:V} {v:Value} (h:aB g x v):aB g x.qK v:=by
 cases x with
 |sl e sh o xs=>exact bA rfl (jU (o:=o) (jq h))
 |old y=>
  show aB g (bif y.dO then y else .any) v
  cases y.dO
  ·exact gm
  ·exact bA h.2.2 h.2.1
 |_=>exact h
theorem pN: ∀(l:af) (j:Nat),fV l=false→bg j l=l∧bZ j l=[]∧ ∀bs,dW j l bs=[]
 |[],_,_=>⟨rfl,rfl,fun _=>rfl⟩
 |x::l,j,h=>by
  unfold fV at h;rw[UO,zi] at h;obtain⟨b,a,h3⟩:=pN l (j+1) h.2
  cases x with
  |bxa off c=>cases h.1
  |_=>exact⟨by unfold bg;rw[b];rfl,a,fun bs=>h3 bs⟩
theorem Bd (l:af):fV (l.map V.qK)=fV l:=by
 unfold fV;rw[List.any_map];congr 1
 funext x
 cases x with
 |old y=>
  show(bif y.dO then y else .any).sZ=false
  cases y with
  |sl e sh o xs=>cases o<;>rfl
  |_=>rfl
 |_=>rfl
theorem WB {f:Nat} {args:af} {p:Bool} {x:V} {bs:List (af)} (d:fV args=false) (h:XC E f (args.map V.qK) p x bs):XC E f args p x bs:=by
 obtain⟨o,i,h3⟩:=pN args 0 d;obtain⟨e,l,m⟩:=pN (args.map V.qK) 0 (by rw[Bd];exact d);intro B g w vs b a;rw[o,i] at a;have c:Inv E B g.G w ⟨bg 0 (args.map V.qK),bZ 0 (args.map V.qK)⟩ g ⟨vs.toArray,[]⟩ w:=by
  rw[e,l];exact a.less (dm a.fr fun y _ v n=>K4 n) (fun k q j=>j)
 have:=h B g w vs b c;rw[m] at this;rw[h3];exact this
theorem EV {f:Nat} {args:af} {r:V} (h:ak E f (args.map V.qK) r):ak E f args r:=by
 intro G w vs d a c;refine h G w vs d a (dm c fun y _ v b=>?_)
 cases y with
 |sl e sh o xs=>exact jU (o:=o) b
 |old y=>unfold aJ at b;exact b.elim
 |_=>exact b
theorem Tv (args:af):(args.map V.qK).map V.qK=args.map V.qK:=by
 rw[RQ];refine R8 fun x _=>?_
 cases x with
 |old y=>
  show(bif y.dO then y else .any).qK=(bif y.dO then y else .any)
  cases y with
  |sl e sh o xs=>cases o<;>rfl
  |_=>rfl
 |_=>rfl
theorem WC {f:Nat} {args:af} {p:Bool} {x:V} (d:fV args=false) (h:KC E f (args.map V.qK) p x):KC E f args p x:=by
 obtain⟨n,i,h3⟩:=pN args 0 d;obtain⟨e,l,o⟩:=pN (args.map V.qK) 0 (by rw[Bd];exact d);intro B g w vs b a;rw[n,i] at a;have c:Inv E B g.G w ⟨bg 0 (args.map V.qK),bZ 0 (args.map V.qK)⟩ g ⟨vs.toArray,[]⟩ w:=by
  rw[e,l];exact a.less (dm a.fr fun y _ v m=>K4 m) (fun k q j=>j)
 exact h B g w vs b c
theorem Ak (hE:oU E) {S:List (Nat×aO)} (t:dP E S) (fuel:Nat) {α:Type}: ∀d,fM E (fK (α:=α) E S fuel d):=by
 have i: ∀f a,eY S (KX+f)=some a→ ∀args (K:V→Option α) r,(match a args with|some (c,r)=>sel c (yx (fun v=>match v with| .keep p x=>K (.keep p x)|_=>none) r) none|none=>none)=some r→ ∃v,K v=some r∧Sl E f args v:=by
  intro f a b args K r h;split at h
  ·rename_i c v e
   rcases jg h with⟨rfl,h⟩|⟨_,h⟩
   ·have j:=qB v h
    split at j
    ·rename_i p x m
     have:=(t _ a b args v e).2.2 (by omega) p x m;rw[show KX+f-KX=f by omega] at this;exact⟨_,j,.inr (.inr ⟨p,x,rfl,this⟩)⟩
    ·cases j
   ·cases h
  ·cases h
 have k: ∀f a,eY S (GX+f)=some a→ ∀args (K:V→Option α) r,(match a args with|some (c,r)=>sel c (yx (fun v=>match v with| .out p x bs=>K (.out p x bs)|_=>none) r) none|none=>none)=some r→ ∃v,K v=some r∧Sl E f args v:=by
  intro f a b args K r h;split at h
  ·rename_i c v e
   rcases jg h with⟨rfl,h⟩|⟨_,h⟩
   ·have j:=qB v h
    split at j
    ·rename_i p x bs m
     have:=(t _ a b args v e).2.1 (by omega) p x bs m;rw[show GX+f-GX=f by omega] at this;exact⟨_,j,.inr (.inl ⟨p,x,bs,rfl,this⟩)⟩
    ·cases j
   ·cases h
  ·cases h
 have l: ∀f a,eY S f=some a→f<GX→ ∀args (K:V→Option α) r,(match a (args.map V.qK) with|some (c,r)=>sel c (match r with| .out _ _ _=>none| .keep _ _=>none|r=>K r) none|none=>none)=some r→ ∃v,K v=some r∧Sl E f args v:=by
  intro f a b g args K r h;split at h
  ·rename_i c v e
   rcases jg h with⟨rfl,h⟩|⟨_,h⟩
   ·have q:=(t _ a b _ v e).1 g
    split at h
    ·cases h
    ·cases h
    ·rename_i s n
     refine⟨v,h,.inl ⟨?_,q⟩⟩
     cases v<;>first|rfl|exact absurd rfl (s _ _ _)|exact absurd rfl (n _ _)
   ·cases h
  ·cases h
 have one: ∀(f:Nat) (args:af) (K:V→Option α) (r:α) (X:Option α),(X=some r→ ∃v,K v=some r∧Sl E f args v)→(match eY S (KX+f) with
  |some a=>match a args with|some (c,r)=>sel c (yx (fun v=>match v with| .keep p x=>K (.keep p x)|_=>none) r) none|none=>none
  |none=>match eY S (GX+f) with
  |some a=>match a args with|some (c,r)=>sel c (yx (fun v=>match v with| .out p x bs=>K (.out p x bs)|_=>none) r) none|none=>none
  |none=>bif Nat.blt f GX then(match eY S f with
   |some a=>match a (args.map V.qK) with|some (c,r)=>sel c (match r with| .out _ _ _=>none| .keep _ _=>none|r=>K r) none|none=>none
   |none=>X) else none)=some r→ ∃v,K v=some r∧Sl E f args v:=by
  intro f args K r X u h;split at h
  ·rename_i a b;exact i f a b args K r h
  split at h
  ·rename_i a b;exact k f a b args K r h
  ·obtain⟨g,h⟩:=au h
   split at h
   ·rename_i a b;exact l f a b (ig g) args K r h
   ·exact u h
 intro d;induction d with
 |zero=>
  intro f args K r h;exact one f args K r none (fun h=>by cases h) h
 |succ d z=>
  intro f args K r h;refine one f args K r _ (fun h=>?_) h;obtain⟨v,w,e⟩:=Ga hE z fuel f _ K r h;refine⟨v,w,?_⟩
  cases o:fV args with
  |true=>rw[o,gY] at e;exact e
  |false=>
   rw[o,fQ] at e;rcases e with⟨y,q⟩|⟨p,x,bs,rfl,hx⟩|⟨p,x,rfl,hx⟩
   ·rw[Tv] at q;exact .inl ⟨y,q⟩
   ·exact .inr (.inl ⟨p,x,bs,rfl,WB o hx⟩)
   ·exact .inr (.inr ⟨p,x,rfl,WC o hx⟩)
theorem K5 {f:Nat} {args:af} {r:V} {fn:Func} {c:Code} (s:E.P.funcs[f]? =some fn) (J:fn.body=some c) (N:pu args=some args) (K:nH r=false→handed args=false)
  (m: ∀(B:Own) (g:Gh) (w:World) (us:List Value),Inv E B g.G w ⟨bg 0 args,bZ 0 args⟩ g ⟨us.toArray,[]⟩ w→ ∀Q:Exit→Act→World→Prop,(∀e s' g' t w',yw E.P fn args some e s'=some r→Inv E B g.G w s' g' t w'→Q (o7 e) t w')→c.wp E.P Q (Act.mk (us.toArray++Array.replicate (fn.ntmps-us.toArray.size) undef) []) w):Sl E f args r:=by
 cases i:nH r with
 |false=>
  refine .inl ⟨i,iw N (K i) fun B g w us b A=>calls_of_wp s J ?_⟩;refine m B g w us (by rw[(kH (K i)).1,(kH (K i)).2];exact A) _ fun e s' g' t w' C d=>?_
  obtain⟨v,k,D⟩:=iX C;simp only[aF] at k;subst k;rcases D with⟨_,_,n,z⟩|⟨x,bs,rfl,_,_⟩|⟨x,bs,u,rfl,_,_⟩
  ·obtain⟨u,o,h,q,l⟩:=z (B2:=B) rfl rfl d
   have a:=d.df.trans b;rw[b] at q;rcases n with rfl|rfl
   ·exact⟨a,_,h,_,o,rfl,q,l⟩
   ·exact⟨a,_,h,_,o,rfl,q,l⟩
  ·cases i
  ·cases i
 |true=>
  cases r with
  |out p H I=>
   refine .inr (.inl ⟨p,H,I,rfl,fun B g w us b A=>calls_of_wp s J ?_⟩);refine m B g w us A _ fun e s' g' t w' C d=>?_
   obtain⟨v,k,D⟩:=iX C;simp only[aF] at k;subst k;rcases D with⟨i,_⟩|⟨x,bs,hx,n,j⟩|⟨x,bs,u,hx,⟨y,rfl,L⟩,j⟩
   ·cases i
   ·cases hx
    obtain⟨u,o,h,F⟩:=j rfl rfl b (fun _ _ _=>rfl) d;have a:=d.df.trans b;rcases n with rfl|rfl
    ·exact⟨a,_,h,o,_,rfl,F⟩
    ·exact⟨a,_,h,o,_,rfl,F⟩
   ·cases hx
    obtain⟨o,F⟩:=j rfl rfl b (fun _ _ _=>rfl) d;have a:=d.df.trans b;show bodyPost E.P fn _ (.panic [{v:=(bG y).getD undef,recovered:=false}]) t w';rw[L];exact⟨a,o,_,rfl,F⟩
  |keep M H=>exact .inr (.inr ⟨M,H,rfl,fun B g w us b A=>calls_of_wp s J (m B g w us A _ fun e s' g' t w' C d=>by
    obtain⟨v,k,D⟩:=iX C;simp only[aF] at k;subst k;rcases D with⟨i,_⟩|⟨x,bs,hx,_⟩|⟨x,bs,u,hx,_⟩
    ·cases i
    ·cases hx
    ·cases hx)⟩)
  |_=>cases i
theorem WE (hE:oU E) {call:Caller V} (m:fM E call) (fuel:Nat) {f:Nat} {args:af} {r:V} (h:OL E call fuel f args some=some r):Sl E f args r:=by
 unfold OL at h;split at h
 ·cases h
 ·rename_i fn j
  split at h
  ·rename_i c i o a
   have n:=a;rw[pK a] at h n;refine K5 j o n (fun l=>?_) fun B g w us t Q p=>Tk hE m _ fuel c _ _ r h g _ w (jA (fn:=fn) t) Q fun e s' g' q w' b d=>?_
   ·obtain⟨e,s',b⟩:=WA hE m rfl c _ _ r h
    rw[qo] at b;obtain⟨v,k,y⟩:=iX b;simp only[aF] at k;subst k;rcases y with⟨_,s,_⟩|⟨x,bs,rfl,_⟩|⟨x,bs,u,rfl,_⟩
    ·exact s
    ·cases l
    ·cases l
   ·rw[qo] at b
    exact p e s' g' q w' b d
  ·cases h
theorem I9 (hE:oU E) {call:Caller V} (L:fM E call) (fuel:Nat) {f:Nat} {args:af} {r:V} (h:gF E call fuel f args some=some r):Sl E f args r:=by
 have low:zB false E call fuel f args some=some r→Sl E f args r:=fun h=>by
  obtain⟨v,Z,hv⟩:=Ga hE L fuel f args some r h;simp only[aF] at Z;subst Z;exact hv
 unfold gF at h
 cases hit:Yl E f with
 |true=>rw[hit,gY] at h;exact WE hE L fuel h
 |false=>
 rw[hit,fQ] at h;by_cases hh:handed args=false;rotate_left
 ·have hh:handed args=true:=by simpa using hh
  refine low ?_;unfold zB at h⊢
  cases F:E.P.funcs[f]? with
  |none=>rw[F] at h;cases h
  |some fn=>
   rw[F] at h;simp only at h⊢
   cases d:pu args with
   |none=>rw[d] at h;split at h<;>rename_i hq<;>first|cases hq|cases h
   |some K=>
    have XY:handed K=true:=by rw[pK d];exact hh
    cases hb:fn.body with
    |none=>rw[hb] at h;cases h
    |some c=>
     simp only[hb,d,XY] at h⊢;exact h
 ·unfold zB at h
  split at h
  ·cases h
  ·rename_i fn F
   split at h
   ·rename_i c K hb d
    have ha:=d;rw[pK d] at h ha;split at h
    ·rename_i hsp
     have fin: ∀(B:Own) (g:Gh) (w:World) (us:List Value),Inv E B g.G w ⟨bg 0 args,bZ 0 args⟩ g ⟨us.toArray,[]⟩ w→ ∀Q:Exit→Act→World→Prop,(∀e s' g' a' w',yw E.P fn args some e s'=some r→Inv E B g.G w s' g' a' w'→Q (o7 e) a' w')→c.wp E.P Q (Act.mk (us.toArray++Array.replicate (fn.ntmps-us.toArray.size) undef) []) w:=by
      intro B g w us hi Q hq;refine jF hE L _ fuel c _ _ r h g _ w (jA (fn:=fn) hi) Q fun e s' g' a' w' he hi'=>?_
      rw[qo] at he;exact hq e s' g' a' w' he hi'
     exact K5 F hb ha (fun _=>hh) fin
    ·
     rename_i cA o1 o2 cB hsplit;obtain⟨id,rfl⟩:=Bb hsplit;split at h
     ·rename_i gf first ccaps t cl hop1 hg1 hd1 M hg2 hd2
      split at h
      ·rename_i t' V6 m
       obtain⟨htt,h9⟩:=au h;clear h;have htt:t=t':=by simpa using htt
       subst htt;obtain⟨e1,s1,o,hl1⟩:=eZ hE L _ rfl fuel cA _ _ r h9
       cases e1 with
       |exit id=>cases o
       |ret=>cases o
       |jN v=>cases o
       |norm=>
       simp only at o;split at o
       ·rename_i g' I W
        obtain⟨hc1,he2⟩:=au o;clear o;rw[bB,bB] at hc1;obtain⟨⟨hgg,X⟩,k⟩:=hc1;obtain⟨k,hgA⟩:=Bool.and_eq_true_iff.1 k;have hgg:g'=gf:=by simpa using hgg
        subst hgg;have X:=ig X;obtain⟨k,hgA⟩:=Bool.and_eq_true_iff.1 k;have k:=ig k;split at he2
        ·rename_i s2 R
         have O: ∀n D,VW (true&& !handed args) E call fuel fn g' (jk 0 I) (lD args) some n D=some r→ ∃(rec:V) (as:af) (mb ml:List (Nat×Nat)) (Φ:V→List (af)→Prop),
           ((rec=.nilif∧(n=.norm∨n=.ret))∨ ∃u,n=.jN rec∧bG rec=some u)∧lG D.bx 0 (jk 0 I)=some (as,mb,ml)∧lF mb ml=true∧iR E.P g'=true∧DC E g' as rec Φ∧ ∀x0 l,Φ x0 l→ ∃s4,lJ D none mb ml x0 l=some s4∧yw E.P fn args some .ret s4=some r:=by
          intro n D q;have J: ∃rec,Sj (true&& !handed args) E call fuel fn g' (jk 0 I) (lD args) some rec D=some r∧((rec=.nilif∧(n=.norm∨n=.ret))∨ ∃u,n=.jN rec∧bG rec=some u):=by
           cases n with
           |norm=>exact⟨.nilif,q,.inl ⟨rfl,.inl rfl⟩⟩
           |ret=>exact⟨.nilif,q,.inl ⟨rfl,.inr rfl⟩⟩
           |exit id=>cases q
           |jN v=>
            have q:(match bG v with|some _=>Sj (true&& !handed args) E call fuel fn g' (jk 0 I) (lD args) some v D|none=>none)=some r:=q;split at q
            ·rename_i u hu;exact⟨v,q,.inr ⟨u,rfl,hu⟩⟩
            ·cases q
          obtain⟨rec,J,i⟩:=J;unfold Sj at J;split at J
          ·rename_i as mb ml b
           obtain⟨A,V5⟩:=au J;obtain⟨C,H⟩:=Tp hE L V5;refine⟨rec,as,mb,ml,_,i,b,A,C,H,fun x0 l j=>?_⟩;simp only at j;split at j
           ·rename_i s4 U
            rw[qo] at j;exact⟨s4,U,j⟩
           ·cases j
          ·cases J
         cases ho:nH r with
         |false=>
          refine .inl ⟨ho,iw ha hh fun B g w us z hi=>?_⟩;have hi0:Inv E B g.G w ⟨bg 0 args,bZ 0 args⟩ g ⟨us.toArray,[]⟩ w:=by rw[(kH hh).1,(kH hh).2];exact hi
          refine pM hE L F hb hg1 hd1 M hg2 hd2 V6 m hl1 W X k hgA R (fuel:=fuel) (first:=first) (ccaps:=ccaps) z hi0 fun B2 G0 w0 g5 a5 w5 Y Q hq=>jF hE L _ fuel cB s2 _ r he2 g5 a5 w5 Y Q fun n D g6 a6 w6 S N=>?_
          obtain⟨rec,as,mb,ml,Φ,i,b,A,C,H,s⟩:=O n D S;refine hq n D g6 a6 w6 ⟨rec,as,mb,ml,Φ,i,b,A,C,H,fun x0 l hΦ=>(s x0 l hΦ).imp fun s4 hs=>⟨hs.1,fun B4 g4 a4 w4 q1 q2 q3 hi4=>?_⟩⟩ N;have j:=hs.2;obtain⟨v,Z,hv⟩:=iX j;simp only[aF] at Z;subst Z;rcases hv with⟨_,_,hee,hret⟩|⟨x,bs,rfl,_,_⟩|⟨x,bs,u,rfl,_,_⟩
          ·obtain⟨u,g2,T,hfo,hres⟩:=hret (B2:=B) q1 q2 hi4
           rw[z] at hfo;rw[←q1] at hres;exact⟨_,T,_,g2,rfl,hfo,hres⟩
          ·cases ho
          ·cases ho
         |true=>
          cases r with
          |out p x0' bs0'=>
           refine .inr (.inl ⟨p,x0',bs0',rfl,fun B g w us z hi=>?_⟩);refine pM hE L F hb hg1 hd1 M hg2 hd2 V6 m hl1 W X k hgA R (fuel:=fuel) (first:=first) (ccaps:=ccaps) z hi fun B2 G0 w0 g5 a5 w5 Y Q hq=>jF hE L _ fuel cB s2 _ _ he2 g5 a5 w5 Y Q fun n D g6 a6 w6 S N=>?_
           obtain⟨rec,as,mb,ml,Φ,i,b,A,C,H,s⟩:=O n D S;refine hq n D g6 a6 w6 ⟨rec,as,mb,ml,Φ,i,b,A,C,H,fun x0 l hΦ=>(s x0 l hΦ).imp fun s4 hs=>⟨hs.1,fun B4 g4 a4 w4 q1 q2 q3 hi4=>?_⟩⟩ N;have j:=hs.2;obtain⟨v,Z,hv⟩:=iX j;simp only[aF] at Z;subst Z;rcases hv with⟨ho,_⟩|⟨x,bs,hx,hee,hfin⟩|⟨x,bs,u,hx,⟨y,hy,hu⟩,hfin⟩
           ·cases ho
           ·cases hx
            obtain⟨u,g2,T,h2⟩:=hfin q1 q2 z q3 hi4;exact⟨_,T,g2,_,rfl,h2⟩
           ·cases hy
          |keep p0 x0'=>exact .inr (.inr ⟨p0,x0',rfl,fun B g w us z hi=>by
            refine pM hE L F hb hg1 hd1 M hg2 hd2 V6 m hl1 W X k hgA R (fuel:=fuel) (first:=first) (ccaps:=ccaps) z hi fun B2 G0 w0 g5 a5 w5 Y Q hq=>jF hE L _ fuel cB s2 _ _ he2 g5 a5 w5 Y Q fun n D g6 a6 w6 S N=>?_
            obtain⟨rec,as,mb,ml,Φ,i,b,A,C,H,s⟩:=O n D S;refine hq n D g6 a6 w6 ⟨rec,as,mb,ml,Φ,i,b,A,C,H,fun x0 l hΦ=>?_⟩ N;obtain⟨s4,U,j⟩:=s x0 l hΦ;obtain⟨v,Z,hv⟩:=iX j;simp only[aF] at Z;subst Z;exfalso;rcases hv with⟨ho,_⟩|⟨x,bs,hx,_⟩|⟨x,bs,u,hx,_⟩
            ·cases ho
            ·cases hx
            ·cases hx⟩)
          |_=>cases ho
        ·cases he2
       ·cases o
      ·cases h
     ·cases h
   ·cases h
theorem aG (hE:oU E) {S:List (Nat×aO)} (c:dP E S) (fuel d:Nat) {f:Nat} {args:af} {r:V} (h:gF E (fK E S fuel d) fuel f args some=some r) (b:nH r=false:=by rfl):ak E f args r:=by
 have a:=I9 hE (Ak hE c fuel (α:=V) d) fuel h;rcases a with⟨_,a⟩|⟨p,x,bs,rfl,_⟩|⟨p,x,rfl,_⟩
 ·exact EV a
 ·cases b
 ·cases b
theorem yC (hE:oU E) {S:List (Nat×aO)} (c:dP E S) (fuel d:Nat) {f:Nat} {args:af} {r:V} (h:gF E (fK E S fuel d) fuel f args some=some r) (b:nH r=false:=by rfl):ak E f (args.map V.qK) r:=by
 have a:=I9 hE (Ak hE c fuel (α:=V) d) fuel h;rcases a with⟨_,a⟩|⟨p,x,bs,rfl,_⟩|⟨p,x,rfl,_⟩
 ·exact a
 ·cases b
 ·cases b
theorem l7 (hE:oU E) {S:List (Nat×aO)} (g:dP E S) (fuel d:Nat) {f:Nat} {args:af} {p:Bool} {x:V} {bs:List (af)} (h:gF E (fK E S fuel d) fuel f args some=some (.out p x bs)):XC E f args p x bs:=by
 have j:=I9 hE (Ak hE g fuel (α:=V) d) fuel h;rcases j with⟨b,_⟩|⟨i,c,e,a,hx⟩|⟨i,c,a,_⟩
 ·cases b
 ·cases a;exact hx
 ·cases a
end
theorem oh {α:Type} (c:Bool) (a b:α):sel c a b=if c=true then a else b:=by cases c<;>rfl
theorem ai {α:Type} {c:Bool} {a b:α} (h:c=true):sel c a b=a:=by subst h;rfl
theorem aD {α:Type} {c:Bool} {a b:α} (h:c=false):sel c a b=b:=by subst h;rfl
theorem aU (a b:Int):(aZ a b=true)=(a<b):=by unfold aZ;simp
theorem ax (a b:Int):(aH a b=true)=(a≤b):=by unfold aH;simp
theorem oz (a b:Int):(ieq a b=true)=(a=b):=by unfold ieq;simp
theorem En (a b:Nat):(UR a b=true)=(a≤b):=by unfold UR;simp
theorem ay (a b:Bool):(av a b=true)=(a=true∧b=true):=by cases a<;>cases b<;>simp[av]
theorem um (a:Bool):(aS a=true)= ¬(a=true):=by cases a<;>simp[aS]
theorem tO (a b:ah):(seq a b=true)=(a=b):=by unfold seq;simp
theorem Df (a b:ah):(jC a b=true)=(a.length+b.length≤1152921504606846976):=by unfold jC;rw[En]
theorem dH (a b:af):(fO a b=true)=(a.length+b.length≤16777216):=by unfold fO;rw[En]
theorem Tw:(true=true)=True:=by simp
theorem bV {a b:Int} (h:a<b):aZ a b=true:=by rw[aU];exact h
theorem bC {a b:Int} (h:b≤a):aZ a b=false:=by unfold aZ;simp;omega
theorem fU {a b:Int} (h:a≤b):aH a b=true:=by rw[ax];exact h
theorem FM {a b:Int} (h:b<a):aH a b=false:=by unfold aH;simp;omega
theorem cZ {a b:Int} (h:a=b):ieq a b=true:=by rw[oz];exact h
theorem bJ {a b:Int} (h:a≠b):ieq a b=false:=by unfold ieq;simpa using h
theorem bQ {a b:Int} (h: -9223372036854775808≤a+b∧a+b≤9223372036854775807):aY .i64 a b=a+b:=IntWalk.i64_in _ h
theorem eU {a b:Int} (h: -9223372036854775808≤a-b∧a-b≤9223372036854775807):bD .i64 a b=a-b:=IntWalk.i64_in _ h
theorem jo {a b:Int} (h: -9223372036854775808≤a*b∧a*b≤9223372036854775807):iB .i64 a b=a*b:=IntWalk.i64_in _ h
theorem Tx {a b:Int} (h:0≤a+b∧a+b≤18446744073709551615):aY .u64 a b=a+b:=IntWalk.u64_in _ h
theorem Ty {a b:Int} (h:0≤a*b∧a*b≤18446744073709551615):iB .u64 a b=a*b:=IntWalk.u64_in _ h
theorem K6 {a:Int} (h:0≤a∧a≤18446744073709551615):gP .u64 a=a:=IntWalk.u64_in _ h
theorem Ph {a:Int} (h: -9223372036854775808≤a∧a≤9223372036854775807):gP .i64 a=a:=IntWalk.i64_in _ h
theorem WG {a:Int} (h:0≤a∧a≤255):gP .u8 a=a:=IntWalk.u8_in _ h
theorem WH {a b:Int} (h:0≤a-b∧a-b≤255):bD .u8 a b=a-b:=IntWalk.u8_in _ h
theorem Gb {k:IntKind} {a b:Int} (d:0≤a) (c:k.wrap (a/b)=a/b):iC k a b=a/b:=by
 unfold iC;rw[Int.tdiv_eq_ediv_of_nonneg d];exact c
theorem div_le_self {a b:Int} (c:0≤a) (d:0<b):0≤a/b∧a/b≤a:=⟨Int.ediv_nonneg c (by omega),Int.ediv_le_self b c⟩
theorem rM {a b:Int} (c:0≤a) (d:0<b) (h:a≤9223372036854775807):iC .i64 a b=a/b:=
 Gb c (IntWalk.i64_in _ (by have:=div_le_self c d;omega))
theorem Eo {a b:Int} (c:0≤a) (d:0<b) (h:a≤18446744073709551615):iC .u64 a b=a/b:=
 Gb c (IntWalk.u64_in _ (by have:=div_le_self c d;omega))
theorem Gc {a b:Int} (c:0≤a):DK a b=a%b:=Int.tmod_eq_emod_of_nonneg c
theorem aA (l:ah):aK l=(l.length:Int):=rfl
theorem aM (l:af):aQ l=(l.length:Int):=rfl
theorem K7 (l:ah) (i:Nat):sat l (i:Int)=((l.getD i 0).toNat:Int):=rfl
theorem kI (l:ah) (a b:Nat):dN l (a:Int) (b:Int)=(l.drop a).take (b-a):=rfl
theorem uo (l:af) (i:Nat):bq l (i:Int)=l.getD i .any:=rfl
theorem ak.env {E E':Env} {f:Nat} {args:af} {r:V} (e:E.P=E'.P) (h: ∀n v,E.glob n=some v→E'.glob n=some v) (c:ak E f args r):ak E' f args r:=by
 intro G w vs d b a;have:=c G w vs d (fun n v g=>b n v (h n v g)) a;rw[e] at this;exact this
def qb (E:Env) (f:Nat) (args:af) (r:V):Prop:=∀p x bs,mY r=.out p x bs→XC E f args p x bs
theorem qb.out {E:Env} {f:Nat} {args:af} {p:Bool} {x:V} {bs:List (af)} (h:XC E f args p x bs):qb E f args (.out p x bs):=by
 intro c d a b
 cases b;exact h
theorem qb.qD {E:Env} {f:Nat} {args:af} {c:Bool} {a b:V} (g:c=true→qb E f args a) (e:c=false→qb E f args b):qb E f args (.qD c a b):=by
 intro p x bs d
 cases c with
 |true=>exact g rfl p x bs d
 |false=>exact e rfl p x bs d
theorem Inv.env {E E':Env} {B:Own} {G0:aI} {w0:World} {s:St} {g:Gh} {a:Act} {w:World} (b:E.P=E'.P) (c:jQ E' G0 w0) (h:Inv E B G0 w0 s g a w):Inv E' B G0 w0 s g a w:=
 ⟨h.fr,h.df,h.gok,h.own,b▸h.bxs,h.gN,h.hB,h.ext,⟨c,h.glob.2⟩,h.g1,h.zb⟩
theorem XC.env {E E':Env} {f:Nat} {args:af} {p:Bool} {x:V} {bs:List (af)} (b:E.P=E'.P) (h: ∀n v,E.glob n=some v→E'.glob n=some v) (c:XC E f args p x bs):XC E' f args p x bs:=by
 intro B g w vs a i;have d:=i.glob.1;have:=c B g w vs a (i.env b.symm fun n v j=>d n v (h n v j));rw[b] at this;refine Calls.mono this ?_;rintro e w' ⟨g',v,k,hx⟩;exact⟨g',v,k,hx.env b d⟩
theorem qb.env {E E':Env} {f:Nat} {args:af} {r:V} (a:E.P=E'.P) (h: ∀n v,E.glob n=some v→E'.glob n=some v) (c:qb E f args r):qb E' f args r:=fun p x bs b=>(c p x bs b).env a h
def iH (w:World):aI:=fun b=>match w.heap[b]? with|some (.cells c _ _)=>some c.toList|_=>none
theorem Qr (w:World):sU (iH w) w:=by
 intro b l h;unfold iH at h;split at h
 ·rename_i c e fr a
  simp only[aF] at h;subst h;exact⟨c,e,fr,a,RP⟩
 ·cases h
def Cn {H:Type} (P:Program):Nat→TypeId→DataW H→Nat→Option V
 |0,_,_,_=>none
 |f+1,t,d,i=>
  match P.underlying t,d with
  |some (.int k),.lit (.int _ n)=>(match i with|0=>some (.int k n)|_=>none)
  |some .bool,.lit (.bool b)=>(match i with|0=>some (.bool b)|_=>none)
  |some .string,.lit (.string l)=>(match i with|0=>some (.str l)|_=>none)
  |some (.struct g),.agg c=>(List.range c.length).findSome? fun j=>
   match g[j]?,c[j]? with
   |some a,some x=>(match Nat.ble a.offset i&&Nat.blt i (a.offset+P.cellsOf a.type) with|true=>Cn P f a.type x (i-a.offset)|false=>none)
   |_,_=>none
  |some (.array n e),.agg c=>(match c[i/P.cellsOf e]? with|some x=>Cn P f e x (i%P.cellsOf e)|none=>none)
  |_,_=>none
variable {H:Type} {enc:TypeId×Value→H} {P:Program} {w:World} {base:Nat} {spare:Nat→Bool} {held:Bool}
theorem wD (G:aI): ∀(f:Nat) (t:TypeId) (d:DataW H) (i:Nat) (v:V),Cn P f t d i=some v→ ∀(fuel:Nat) (E:List Value) (p:List MemPlace),DataW.trod enc P w base spare held fuel t E=some (d,p)→
  ∃u,E[i]? =some u∧aJ G v u
 |0,_,_,_,_,h,_,_,_,_=>by simp[Cn] at h
 |f+1,t,d,i,v,h,fuel,E,p,r=>by
  unfold Cn at h;split at h
  ·rename_i k Q n c
   obtain⟨m,rfl,e,_⟩:=DataW.trod_int c r;simp only[bP,DataW.lit.injEq,Lit.int.injEq] at e;obtain⟨⟨rfl,rfl⟩,_⟩:=e;split at h
   ·simp only[aF] at h
    subst h;exact⟨_,rfl,by unfold aJ;rfl⟩
   ·cases h
  ·rename_i b c
   obtain⟨m,rfl,e⟩:=DataW.trod_bool c r;simp only[bP,DataW.lit.injEq,Lit.bool.injEq] at e;obtain⟨rfl,_⟩:=e;split at h
   ·simp only[aF] at h
    subst h;exact⟨_,rfl,by unfold aJ;rfl⟩
   ·cases h
  ·rename_i l c
   obtain⟨s,rfl,e,_⟩:=DataW.trod_string c r;simp only[bP,DataW.lit.injEq,Lit.string.injEq] at e;obtain⟨rfl,_⟩:=e;split at h
   ·simp only[aF] at h
    subst h;exact⟨_,rfl,by unfold aJ;cases s;simp⟩
   ·cases h
  ·rename_i R M c
   obtain⟨xs,m,_,e,z,K,o⟩:=DataW.trod_struct c r;simp only[bP,DataW.agg.injEq] at e;obtain⟨j,_,A⟩:=List.exists_of_findSome?_eq_some h;split at A
   ·rename_i q x I hx
    split at A
    ·rename_i D
     rw[bB] at D;have O:=R6 D.1;have N:i<q.offset+P.cellsOf q.type:=by have:=D.2;rwa [zm] at this
     rw[e.1,qa] at hx;obtain⟨y,B,g⟩:=Option.map_eq_some_iff.1 hx;have:=o j q I;rw[B] at this;obtain⟨u,a,F⟩:=wD G f q.type x _ v A m _ y.2 (by rw[this,←g]);refine⟨u,?_,F⟩;rw[ace (by omega),IB,show q.offset+(i-q.offset)=i by omega] at a;exact a
    ·cases A
   ·cases A
  ·rename_i n e M c
   obtain⟨xs,m,_,J,z,K,o⟩:=DataW.trod_array c r;simp only[bP,DataW.agg.injEq] at J;split at h
   ·rename_i x hx
    rw[J.1,qa] at hx;obtain⟨y,B,g⟩:=Option.map_eq_some_iff.1 hx;have C:i/P.cellsOf e<n:=by rw[←K];exact(List.getElem?_eq_some_iff.1 B).1
    have:=o _ C;rw[B] at this;obtain⟨u,a,F⟩:=wD G f e x _ v h m _ y.2 (by rw[this,←g]);refine⟨u,?_,F⟩;by_cases L:P.cellsOf e=0
    ·rw[L,List.take_zero] at a
     cases a
    ·rw[ace (Vy _ (by omega)),IB,Nat.mul_comm,Nat.div_add_mod] at a
     exact a
   ·cases h
  ·cases h
theorem Gd {α β:Type} {f:α→Option β}: ∀{l:List α} {ys:List β},l.mapM f=some ys→ys.length=l.length∧ ∀(i:Nat) a y,l[i]? =some a→ys[i]? =some y→f a=some y
 |[],ys,h=>by simp at h;subst h;exact⟨rfl,by simp⟩
 |a::l,ys,h=>by
  rw[ZI] at h
  cases b:f a with
  |none=>rw[b] at h;cases h
  |some y=>
   rw[b] at h
   cases hl:l.mapM f with
   |none=>rw[hl] at h;cases h
   |some k=>
    rw[hl] at h;simp at h;subst h;obtain⟨g,d⟩:=Gd hl;refine⟨by simp[g],fun i e j h3 c=>?_⟩
    cases i with
    |zero=>simp at h3 c;subst h3;subst c;exact b
    |succ i=>exact d i e j (by simpa using h3) (by simpa using c)
theorem Nc {j:String} {g:Nat} {h:Array Value} {t:TypeId} {fuel f:Nat} {d:DataW H} {p:List MemPlace} {sh:List Kd} {xs:af} (z:P.globalNamed j=some g) (l:w.var? P j=some h)
  (v:DataW.trod enc P w base spare held fuel t h.toList=some (d,p)) (hx:(List.range sh.length).mapM (Cn P f t d)=some xs) (B:eP sh (.agg xs)=true):
  aJ (iH w) (.rptr sh (.agg xs) 0) (.pointer (some ⟨g,0,none⟩)):=by
 obtain⟨o,y⟩:=Gd hx;rw[XO] at o;have a: ∀(i:Nat) (x:V),xs[i]? =some x→ ∃u,h.toList[i]? =some u∧aJ (iH w) x u:=by
  intro i x b;have r:i<sh.length:=by rw[←o];exact(List.getElem?_eq_some_iff.1 b).1
  exact wD (iH w) f t d i x (y i i x (by rw[XK r]) b) fuel _ p v
 have A:xs.length≤h.toList.length:=by
  rcases ZN h.toList.length xs.length with n|m
  ·obtain⟨u,s,_⟩:=a h.toList.length xs[h.toList.length] (gQ n)
   rw[Xi (iA _)] at s
   cases s
  ·exact m
 unfold aJ;refine⟨g,0,h.toList,rfl,?_,B,.agg (h.toList.take sh.length).toArray,?_,?_⟩
 ·simp only[World.var?,z,Option.bind_some] at l
  split at l
  ·rename_i c e fr D
   simp only[aF] at l;subst l;unfold iH;rw[D]
  ·cases l
 ·unfold aJ
  refine⟨_,rfl,?_⟩;rw[dI];refine⟨by rw[B6];omega,fun i x u b k=>?_⟩;obtain⟨E,q,C⟩:=a i x b;have r:i<sh.length:=by rw[←o];exact(List.getElem?_eq_some_iff.1 b).1
  rw[ace r,q] at k;simp only[aF] at k;rw[←k];exact C
 ·simp[Value.cells]
theorem EW {E:Env} {f:Nat} {args:af} {vs:List Value} (c:ak E f args (.bool true)) (d:jQ E (iH w) w) (a:PW (aJ (iH w)) args vs):
  Calls E.P f vs.toArray w fun e w'=>e=.returned (.bool true)∧Below w.heap.size w w':=by
 refine(c (iH w) w vs (Qr w) d a).mono ?_;rintro e w' ⟨v,G',rfl,g,b⟩;have:v=.bool true:=b;rw[this];exact⟨rfl,g.1⟩
open Go.MapKept
section
abbrev mE (a:List (Int×ah)):af:=a.map fun p=> .agg [.int .i64 p.1,.str p.2]
theorem Gf: ∀(a:List (Int×ah)) (n:Int),BH (mE a) n=true→ ∃p∈a,p.1=n
 |[],n,h=>by cases h
 |p::a,n,h=>by
  have h:sel (ieq n p.1) true (BH (mE a) n)=true:=h;by_cases e:n=p.1
  ·exact⟨p,sS,e.symm⟩
  ·rw[show ieq n p.1=false from by unfold ieq;simpa using e] at h
   obtain⟨q,b,e⟩:=Gf a n h;exact⟨q,vg _ b,e⟩
theorem Dg: ∀(b:List (Int×ah)),(b.map (·.1)).Nodup→ ∀p∈b,jL (mE b) p.1=p.2
 |[],_,p,a=>by cases a
 |q::b,c,p,a=>by
  show sel (ieq p.1 q.1) q.2 (jL (mE b) p.1)=p.2;simp only[yJ,UM] at c;rcases List.mem_cons.1 a with rfl|a
  ·rw[show ieq p.1 p.1=true from by unfold ieq;simp];rfl
  ·rw[show ieq p.1 q.1=false from by
    unfold ieq;have:p.1≠q.1:=fun e=>c.1 (e▸List.mem_map.2 ⟨p,a,rfl⟩)
    simpa using this]
   exact Dg b c.2 p a
theorem elemAt_string {e:TypeId} (a:P.underlying e=some .string) {n:Nat} {v:Value} {z:DataW H×List MemPlace} (h:Go.WideElems.elemAt enc P w base spare held n e v=some z): ∃s:ByteArray,v=.string s∧z.1=.lit (.string s.data.toList):=by
 unfold Go.WideElems.elemAt at h;split at h
 ·rename_i d
  obtain⟨b,c,f,_⟩:=DataW.trod_string a h
  cases v<;>simp[Value.formed,a,Value.cells] at d c
  subst c;exact⟨_,rfl,by rw[f]⟩
 ·cases h
def Yy:Lit×DataW H→Value×Value
 |(.int _ n,.lit (.string l))=>(.int .i64 n,.string ⟨l.toArray⟩)
 |_=>(undef,undef)
theorem Qs {C:String} {g:Nat} {L:Array Value} {t k e:TypeId} {fuel:Nat} {p:List MemPlace} (r:List (Int×ah)) (hg:P.globalNamed C=some g) (Z:w.var? P C=some L)
  (U:P.underlying t=some (.map k e)) (hk:P.underlying k=some (.int .i64)) (he:P.underlying e=some .string)
  (hd:DataW.trod enc P w base spare held fuel t L.toList=some (.map (r.map fun p=>(.int .i64 p.1,.lit (.string p.2))),p)):
  aJ (iH w) (.rptr [.oth] (.qD false (.agg (mE r)) (.int .i64 g)) 0) (.pointer (some ⟨g,0,none⟩))∧Mr (iH w) w g (.rptr [.oth] (.qD false (.agg (mE r)) (.int .i64 g)) 0):=by
 rcases WideElems.open_map U hd with⟨_,hx⟩|⟨I,u,i,n,rfl,R,V,_,F,hx⟩
 ·cases hx
 have b:w.cell? ⟨g,0,none⟩=some (.map (some I)):=by
  have:=World.var?_cell hg Z 0;obtain rfl:L= #[.map (some I)]:=Array.ext' R;simpa using this
 have Y: ∃l,iH w g=some l∧l[0]? =some (.map (some I)):=by
  simp only[World.cell?] at b;split at b
  ·rename_i c e fr hc
   exact⟨c.toList,by unfold iH;rw[hc],by simpa using b⟩
  ·cases b
 obtain⟨l,hl,o⟩:=Y;have B: ∀x∈u.toList,(∃m:Int,x.key=.int .i64 m)∧Yy (Go.WideElems.rg P k (Go.WideElems.elemAt enc P w base spare held n e) x)=(x.key,x.val):=by
  intro x hx;obtain⟨y,J⟩:=F.reads x hx;obtain⟨z,X,O⟩:=Go.WideElems.rd_val J;obtain⟨m,E,G,_⟩:=Maps.keyOf_int_inv hk (Go.WideElems.rd_key J);obtain⟨s,h3,W⟩:=elemAt_string he X;refine⟨⟨m,E⟩,?_⟩;rw[Go.WideElems.rg_of J,E,h3,show y=(y.1,y.2) from rfl,G,O,W];rfl
 have f:(u.toList.map fun x=>(x.key,x.val)).Perm (r.map fun p=>(Value.int .i64 p.1,Value.string ⟨p.2.toArray⟩)):=by
  have E:=WideShapes.sorted_perm (u.toList.map (Go.WideElems.rg P k (Go.WideElems.elemAt enc P w base spare held n e)));have G:(r.map fun p=>((.int .i64 p.1,.lit (.string p.2)):Lit×DataW H))=(u.toList.map (Go.WideElems.rg P k (Go.WideElems.elemAt enc P w base spare held n e))).foldr DataW.insert []:=by
   have:=congrArg Prod.fst hx;simpa using this
  rw[←G] at E;have h3:=(E.map Yy).symm;rw[RQ,RQ] at h3;refine(List.Perm.of_eq ?_).trans (h3.trans (.of_eq ?_))
  ·exact R8 fun x hx=>(B x hx).2.symm
  ·rfl
 have A:=(stamped_iff u i).1 F.stamped;have Q:(r.map (·.1)).Nodup:=by
  have E:(u.toList.map fun x=>x.key).Nodup:=by unfold List.Nodup;rw[List.pairwise_map];exact A.2.2
  have G:=f.map Prod.fst;rw[RQ,RQ] at G;have h3:(r.map fun p=>Value.int .i64 p.1).Nodup:=G.nodup_iff.1 E;unfold List.Nodup at h3⊢;rw[List.pairwise_map] at h3⊢;exact h3.imp fun h e=>h (by rw[e])
 have N:O7 (mE r) u i:=by
  refine⟨fun m S=>?_,⟨r,rfl,f⟩,A.1,A.2.1⟩;obtain⟨q,T,rfl⟩:=Gf r m S;have K:((Value.int .i64 q.1,Value.string ⟨q.2.toArray⟩):Value×Value)∈u.toList.map fun x=>(x.key,x.val):=f.mem_iff.2 (List.mem_map.2 ⟨q,T,rfl⟩)
  obtain⟨x,hx,v⟩:=List.mem_map.1 K;simp only[bP] at v;have D: ∀x∈u.toList,IsKey (.int .i64) x.key:=fun x hx=>by
   obtain⟨m,S⟩:=(B x hx).1;rw[S];rfl
  rcases findNow_spec (d:=.int .i64) (k:=.int .i64 q.1) rfl u.toList 0 D with⟨_,h⟩|⟨j,y,hf,hj,J⟩
  ·exact absurd v.1 (h x hx)
  ·refine⟨0+j,?_⟩
   rw[hf,Dg r Q q T];have M:=Bz hj;have:y=x:=entry_eq_of_key A.2.2 M hx (J.trans v.1.symm);rw[this,v.2]
 refine⟨?_,l,I,u,i,hl,o,V,N⟩;unfold aJ;refine⟨g,0,l,rfl,hl,by rfl,.map (some I),by unfold aJ;exact⟨I,l,rfl,hl,o⟩,?_⟩
 cases l with
 |nil=>cases o
 |cons a t=>
  simp only[BZ,aF] at o;subst o;rfl
end
end Nt.Ev
