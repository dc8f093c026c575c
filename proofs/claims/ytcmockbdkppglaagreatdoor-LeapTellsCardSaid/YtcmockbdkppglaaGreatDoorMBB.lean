/-
  Loops over a map of the program's, in whatever order: what the evaluator answers, the model does.
-/
import Derived.Test.YtcmockbdkppglaaGreatDoorMBS
import Derived.Maps.RangeRun
import Derived.Recover
import Derived.IntWalk
import Derived.ChangeArms
import Derived.OpenShut
import Derived.FnData
import Derived.WideKeyElems2
import Derived.Maps.RangeWalk
set_option linter.all false
namespace Nt.Ev
open Go Go.RowKit
section
variable {E:Env} {B:Own} {G0:aJ} {w0:World} {s:St} {g:Gh} {a:Act} {w:World}
theorem VJ (h:Inv E B G0 w0 s g a w) {r:Nat} {m:Option Nat} {p M:Nat} {q:Array Nat} (F:w.heap[r]? =some (.mapIter m p q M)) (H:B.m r) (o:Obj):Inv E B G0 w0 s g a (Go.ChangeMaps.setBlock w r o):=by
 have d:=Go.MapKept.heap_set (o':=o) F;have i: ∀b c e f,w.heap[b]? =some (Obj.cells c e f)→(Go.ChangeMaps.setBlock w r o).heap[b]? =some (Obj.cells c e f):=fun b c e f G=>(d.2 b fun u=>by rw[u,F] at G;cases G).trans G
 have t:(Go.ChangeMaps.setBlock w r o).heap.size=w.heap.size:=by simp[Go.ChangeMaps.setBlock]
 refine⟨h.fr,h.df,fun b l hl=>?_,⟨fun L v e N hL=>?_,h.own.2⟩,⟨fun k I C=>?_,h.bxs.2⟩,⟨⟨h.iq.iq.os,h.iq.iq.tape,h.iq.iq.output,by rw[t];exact h.iq.iq.size,fun k C=>absurd C (X7 k)⟩,fun b x=>?_,fun b Q c R=>?_⟩,by rw[t];exact h.hB,h.ext,h.glob,h.g1,h.zb⟩
 ·obtain⟨c,e,f,j,z⟩:=h.gok b l hl
  exact⟨c,e,f,i _ _ _ _ j,z⟩
 ·obtain⟨j,z⟩:=h.own.1 L v e N hL
  refine⟨j,z.imp id ?_⟩;rintro⟨b,n,cap,D,l,S,A,P,y⟩;exact⟨b,n,cap,D,l,S,A,i _ _ _ _ P,y⟩
 ·obtain⟨b,c,e,J,T,K,O⟩:=h.bxs.1 k I C
  exact⟨b,c,e,J,T,i _ _ _ _ K,O⟩
 ·exact(d.2 b fun u=>x (by rw[u];exact H)).trans (h.iq.row b x)
 ·have j:=h.iq.map b Q c R
  exact(d.2 b fun u=>by rw[u,F] at j;cases j).trans j
theorem Inv.pin (h:Inv E B G0 w0 s g a w) {i:Nat} (n:s.iR i=true) (x:Option Nat):
  Inv E {B with β:=fun j=>if j=i then x else B.β j} G0 w0 s {g with β:=fun j=>if j=i then x else g.β j} a w:=by
 have hβ: ∀j,j≠i→(fun j=>if j=i then x else g.β j) j=g.β j:=fun j d=>if_neg d
 refine⟨h.fr.mono fun x hx v=>BI hβ (vZ n x hx),h.df,h.gok,h.own,⟨fun j f d=>?_,fun j q f l d k m=>?_⟩,h.iq,h.hB,⟨h.ext.1,h.ext.2.1,fun j d=>?_⟩,h.glob,h.g1,fun j f L v e y b d hL m C=>?_⟩
 ·obtain⟨b,c,e,m,t,A,u,o⟩:=h.bxs.1 j f d
  obtain⟨r,hx⟩:=j3 n j f d;exact⟨b,c,e,(hβ j r).trans m,t,A,u.mono fun x p v=>BI hβ (hx x p),o⟩
 ·have D:=(j3 n j f d).1
  have z:=(j3 n q l k).1;exact h.bxs.2 j q f l d k ((hβ j D).symm.trans (m.trans (hβ q z)))
 ·show(if j=i then x else g.β j)=if j=i then x else B.β j
  split
  ·rfl
  ·exact h.ext.2.2 j d
 ·exact h.zb j f L v e y b d hL m ((hβ j (j3 n j f d).1).symm.trans C)
def Own.less (B:Own) (r:Nat):Own:=⟨fun b=>B.m b∧b≠r,B.n,B.β,B.df⟩
theorem Own.VK {r L b:Nat} (h:(B.less r).ok L b):B.ok L b:=⟨h.1.1,h.2⟩
theorem Inv.guard (h:Inv E B G0 w0 s g a w) {r:Nat} {m:Option Nat} {i J:Nat} {j:Array Nat} (t:w.heap[r]? =some (.mapIter m i j J)):Inv E (B.less r) G0 w s g a w:=by
 have C:g.G r=none:=by
  cases x:g.G r with
  |none=>rfl
  |some l=>
   obtain⟨c,e,f,d,_⟩:=h.gok r l x;rw[t] at d;cases d
 refine⟨h.fr,h.df,h.gok,⟨fun L v e K hL=>?_,h.own.2⟩,⟨fun k H F=>?_,h.bxs.2⟩,.refl _ _,⟨h.hB.1,fun b u=>⟨h.hB.2 b u,fun e=>?_⟩⟩,⟨fun b u=>?_,h.ext.2⟩,⟨h.glob.1.more (.refl _) h.iq.map,h.glob.2⟩,h.g1,h.zb⟩
 ·obtain⟨d,D⟩:=h.own.1 L v e K hL
  refine⟨d,D.imp id ?_⟩;rintro⟨b,n,cap,z,l,O,o,A,q⟩;exact⟨b,n,cap,z,l,O,⟨⟨o.1,fun e=>by rw[e,t] at A;cases A⟩,o.2⟩,A,q⟩
 ·obtain⟨b,c,e,I,P,y,M⟩:=h.bxs.1 k H F
  exact⟨b,c,e,I,⟨P,fun e=>by rw[e,t] at y;cases y⟩,y,M⟩
 ·have:=(Array.getElem?_eq_some_iff.1 t).1
  omega
 ·by_cases p:b=r
  ·subst p
   rw[C]
   cases x:G0 b with
   |none=>rfl
   |some l=>
    obtain⟨Q,d,_⟩:=h.ext.2.1 b l x;rw[C] at d;cases d
  ·exact h.ext.1 b fun N=>u ⟨N,p⟩
theorem Inv.VL {q:St} {p:Gh} {t:Act} {u:World} (h:Inv E B G0 w0 s g a w) {r:Nat} (k:Inv E (B.less r) G0 w q p t u):Inv E B G0 w0 q p t u:=by
 refine⟨k.fr,k.df,k.gok,⟨fun L v e D hL=>?_,k.own.2⟩,⟨fun j y o=>?_,k.bxs.2⟩,h.iq.trans (k.iq.mono fun j o=>o.1),⟨k.hB.1,fun b f=>(k.hB.2 b f).1⟩,⟨fun b f=>k.ext.1 b fun H=>f H.1,k.ext.2⟩,h.glob,k.g1,k.zb⟩
 ·obtain⟨z,x⟩:=k.own.1 L v e D hL
  refine⟨z,x.imp id ?_⟩;rintro⟨b,n,cap,m,l,I,i,G,d⟩;exact⟨b,n,cap,m,l,I,Own.VK i,G,d⟩
 ·obtain⟨b,c,e,A,J,C,F⟩:=k.bxs.1 j y o
  exact⟨b,c,e,A,J.1,C,F⟩
theorem VM {c:Code} {d:Xp} (h:itA c=some d): ∃a i2 i3,c=.seq (.region a #[d.l,d.r] false) (.block d.L (.loop (.seq (.region i2 (d.n::d.o2).toArray false) (.seq (.cond d.c .skip (.exit d.L)) (.block d.L2 (.seq (.region i3 (d.e::d.o3).toArray false) d.body))))))∧
  d.r.op=.range d.t d.m∧d.r.dst=some d.it∧d.r.guard=none∧d.n.op=.next (.tmp d.it) false∧d.n.dst=some d.nx∧d.n.guard=none∧d.e.op=.entry (.tmp d.it)∧d.e.dst=some d.en∧d.e.guard=none:=by
 unfold itA at h;split at h
 ·rename_i a A L i2 o2 c L1 L2 i3 o3 body
  split at h
  ·rename_i l r n p e q u g h3
   split at h
   ·rename_i t m i j it nx en s z v x w o k y f
    obtain⟨b,h⟩:=aC h;simp only[bL,ig] at b;obtain⟨⟨rfl,rfl⟩,rfl⟩:=b;simp only[aI] at h;subst h;refine⟨a,i2,i3,?_,s,x,k,z,w,y,v,o,f⟩;rw[←u,←g,←h3]
   ·cases h
  ·cases h
 ·cases h
def Lf (c:Array MapEntry) (a:Array Nat) (left:af):Prop:=∃b:List (Int×ah),left=b.map (fun p=> .agg [.int .i64 p.1,.str p.2])∧((leftOf c a).toList.map fun x=>(x.key,x.val)).Perm (b.map fun p=>(Value.int .i64 p.1,Value.string ⟨p.2.toArray⟩))
theorem Inv.anyAt (h:Inv E B G0 w0 s g a w) (i:Nat):Inv E B G0 w0 (s.put (some i) .any) g a w:=
 ⟨⟨by show(s.fr.set i .any).length=_;rw[QL];exact h.fr.1,fun j x v hx c=>by
  have hx:(s.fr.set i .any)[j]? =some x:=hx;by_cases b:i=j
  ·subst b
   rw[abU (by have:=(List.getElem?_eq_some_iff.1 c).1;rw[h.fr.1];exact this)] at hx;simp only[aI] at hx;subst hx;exact gI
  ·rw[List.getElem?_set_ne b] at hx
   exact h.fr.2 j x v hx c⟩,h.df,h.gok,h.own,h.bxs,h.iq,h.hB,h.ext,h.glob,h.g1,h.zb⟩
theorem EV {e:MapEntry}: ∀{l:List MapEntry},(l.map (·.born)).Nodup→e∈l→l.Perm (e::l.filter fun x=>!(x.born==e.born))
 |[],_,h=>by cases h
 |x::l,a,h=>by
  simp only[Aj,Xj,acS,not_exists,not_and] at a;rcases List.mem_cons.1 h with rfl|h
  ·rw[List.filter_cons_of_neg (by simp)]
   refine .cons _ (.of_eq (List.filter_eq_self.2 fun y d=>?_).symm);have:=a.1 y d;simpa using this
  ·have b:x.born≠e.born:=fun c=>a.1 e h c.symm
   rw[List.filter_cons_of_pos (by simpa using b)];exact((EV a.2 h).cons x).trans (.swap _ _ _)
theorem Nj {α:Type}: ∀(l:List α) (i:Nat) (h:i<l.length),(l[i]::l.eraseIdx i).Perm l
 |[],i,h=>by cases h
 |x::l,0,h=> .refl _
 |x::l,i+1,h=>(List.Perm.swap _ _ _).trans ((Nj l i (Nat.lt_of_succ_lt_succ h)).cons x)
theorem Lf.step {c:Array MapEntry} {a:Array Nat} {left:af} (h:Lf c a left) (s:(c.toList.map (·.born)).Nodup) {e:MapEntry} (o:e∈(leftOf c a).toList):
  ∃(i:Nat) (n:Int) (l:ah),left[i]? =some (.agg [.int .i64 n,.str l])∧e.key=.int .i64 n∧e.val=.string ⟨l.toArray⟩∧Lf c (a.push e.born) (left.eraseIdx i):=by
 obtain⟨f,rfl,k⟩:=h;have t:=k.mem_iff.1 (List.mem_map.2 ⟨e,o,rfl⟩);obtain⟨i,m⟩:=Du t;rw[rF] at m;obtain⟨p,d,b⟩:=Option.map_eq_some_iff.1 m;simp only[bU] at b;refine⟨i,p.1,p.2,by rw[rF,d];rfl,b.1.symm,b.2.symm,f.eraseIdx i,(Go.ChangeMaps.map_eraseIdx ..).symm,?_⟩;have hl:(leftOf c (a.push e.born)).toList=(leftOf c a).toList.filter fun x=>!(x.born==e.born):=by
  unfold leftOf;simp only[Array.toList_filter,List.filter_filter];refine List.filter_congr fun x _=>?_
  rw[contains_push,Bool.not_or,Bool.and_comm]
 have g:((leftOf c a).toList.map (·.born)).Nodup:=by
  unfold leftOf;rw[Array.toList_filter];exact s.sublist ((Z6).map _)
 rw[hl];have q:=((EV g o).map fun x=>(x.key,x.val)).symm.trans k;have j:i<f.length:=(List.getElem?_eq_some_iff.1 d).1;have r:(f.map fun p=>(Value.int .i64 p.1,Value.string ⟨p.2.toArray⟩)).Perm ((e.key,e.val)::((f.eraseIdx i).map fun p=>(Value.int .i64 p.1,Value.string ⟨p.2.toArray⟩))):=by
  have:=(Nj f i j).symm.map fun p=>(Value.int .i64 p.1,Value.string ⟨p.2.toArray⟩)
  rw[Aj] at this;have u:f[i]=p:=(List.getElem?_eq_some_iff.1 d).2;rw[u,b.1,b.2] at this;exact this
 rw[Aj] at q;exact List.Perm.cons_inv (q.trans r)
theorem uY (hE:qy E) {α:Type} {call:Caller α} (j:gz E call) {o:Oper} {l:List Oper} {K:St→Option α} {r:α} {Q:Exit→Act→World→Prop} (h:jm E call (o::l) none (fun _ _=>none) l s K=some r) (f:Inv E B G0 w0 s g a w)
  (i: ∀s' g' b w',K s'=some r→Inv E B G0 w0 s' g' b w'→Q .normal b w'):wpOps E.P (o::l).toArray Q (List.range' 1 l.length) a w:=by
 rcases dB j l s K r h with⟨s',e,c⟩|⟨_,v,s',e,c⟩
 ·exact lm hE (ops:=(o::l).toArray) (Q:=Q) l 1 s s' g a w (by simp) e f fun g' b w' d=>i s' g' b w' c d
 ·cases c
theorem qo {P:Program} {o:Oper} {l:List Oper} {id:Nat} {Q:Exit→Act→World→Prop} {v:Value} {w':World} (c:o.guard=none) (b:(execOp a.eval o).run P w=.ok (.value v) w') (h:wpOps P (o::l).toArray Q (List.range' 1 l.length) (a.put o.dst v) w'):(Code.region id (o::l).toArray false).wp P Q a w:=by
 refine wp_region ?_;rw[show(o::l).toArray.size=l.length+1 from by simp,acr,acn];unfold wpOps;rw[show((o::l).toArray)[0]? =some o from by simp];simp only;rw[if_pos (by unfold Region.wanted;rw[c])];refine .inl ?_;unfold Oper.wp;rw[b];exact h
theorem CW (d:Inv E B G0 w0 s g a w) {r it:Nat} (hβ:B.β IT=some r) (h:isIt (slot s.fr it)=true):a.eval (.tmp it)=.pointer (some ⟨r,0,none⟩):=by
 have c:=cr (E:=E) d.fr d.fB (.tmp it);change aG g (slot s.fr it) _ at c
 unfold isIt at h;split at h
 ·rename_i k f
  rw[f] at c;obtain rfl:k=IT:=eq_of_beq h;obtain⟨b,i,e⟩:=dH.1 c;have:=d.ext.2.2 IT (Nat.le_add_right _ _);rw[i,hβ] at this;simp only[aI] at this;rw[e,this]
 ·cases h
theorem Y9:aG g (.tup [.bool false]) (.tuple #[.bool false]):=⟨[.bool false],rfl,.cons (show aG g (.bool false) (.bool false) from bG.2 rfl) .nil⟩
theorem Za {k:Int} {l:ah} {x y:Value} (a:x=.int .i64 k) (b:y=.string ⟨l.toArray⟩):aG g (.tup [.int .i64 k,.str l]) (.tuple #[x,y]):=
 ⟨[x,y],rfl,.cons (show aG g (.int .i64 k) x from bH.2 a) (.cons (show aG g (.str l) y from eT.2 b) .nil)⟩
theorem Zb {k:Int} {l:ah} {x y:Value} (a:x=.int .i64 k) (b:y=.string ⟨l.toArray⟩):aG g (.tup [.bool true,.int .i64 k,.str l]) (.tuple #[.bool true,x,y]):=
 ⟨[.bool true,x,y],rfl,.cons (show aG g (.bool true) (.bool true) from bG.2 rfl) (.cons (show aG g (.int .i64 k) x from bH.2 a) (.cons (show aG g (.str l) y from eT.2 b) .nil))⟩
theorem uZ (hE:qy E) {α:Type} {call:Caller α} (Z:gz E call) (tot:Rd) (fuel:Nat) {d:Xp} {i2 i3 r t f:Nat} {z:Array MapEntry} {K:Ex→St→Option α} {x:α} {Q:Exit→Act→World→Prop}
  (n1:d.n.op=.next (.tmp d.it) false) (n2:d.n.dst=some d.nx) (n3:d.n.guard=none) (e1:d.e.op=.entry (.tmp d.it)) (e2:d.e.dst=some d.en) (e3:d.e.guard=none)
  (hβ:B.β IT=some r) (M:B.m r) (p:(∀x∈z.toList,x.born<f)∧(z.toList.map (·.born)).Nodup)
  (S: ∀e s' g' I w',Yc d K e s'=some x→Inv E B G0 w0 s' g' I w'→Q (qH e) I w'): ∀(n:Nat) (left:af) (s:St) (g:Gh) (a:Act) (w:World) (b:Array Nat),
  Kv E call tot fuel d K n left s=some x→Inv E B G0 w0 s g a w→w.heap[r]? =some (.mapIter (some t) f b f)→w.heap[t]? =some (.map z f)→Lf z b left→
  Code.rounds E.P (.seq (.region i2 (d.n::d.o2).toArray false) (.seq (.cond d.c .skip (.exit d.L)) (.block d.L2 (.seq (.region i3 (d.e::d.o3).toArray false) d.body)))) (Exit.inBlock d.L Q) n a w
 |0,left,s,g,a,w,b,h,hi,hr,hb,hl=>by cases h
 |n+1,left,s,g,a,w,b,h,hi,hr,hb,hl=>by
  rw[rounds_succ];unfold Kv at h;obtain⟨hit,h⟩:=aC h;have hev:=CW hi hβ hit;refine wp_seq ?_;rcases run_next_at (P:=E.P) w d.n.type r t f f b z f hr hb p.1 (iI _) with⟨h0,u⟩|⟨e,he,w1,O,u⟩
  ·have R:left=[]:=by
    obtain⟨ps,rfl,hp⟩:=hl;have:=hp.length_eq;simp only[xC,Ai,h0] at this;rw[List.length_eq_zero_iff.1 this.symm];rfl
   subst R;rw[List.isEmpty_nil,iy] at h;refine qo (v:=.tuple #[.bool false]) (w':=w) n3 (by simp[execOp,n1,hev,u]) ?_;rw[n2];refine uY hE Z h (hi.put (some d.nx) Y9) fun s' g' I w' D q=>?_
   split at D
   ·rename_i N
    have hv:I.eval d.c=.bool false:=by
     have:=cr q.fr q.fB d.c;rw[N,bG] at this;exact this
    refine wp_seq (wp_cond hv (wp_exit ?_));have:=S .norm s' g' I w' D q;simpa[Exit.then,Exit.inBlock,qH] using this
   ·cases D
  ·obtain⟨i,k,l,C,hke,hve,hl'⟩:=hl.step p.2 he
   obtain⟨hem,_⟩:=mem_left he;rw[show left.isEmpty=false from(by cases hq:left.isEmpty with|false=>rfl|true=>(rw[List.isEmpty_iff.1 hq] at C;simp at C)),gF] at h;have h:=su h i (List.mem_range.2 (List.getElem?_eq_some_iff.1 C).1);rw[C] at h;simp only at h;have hi1:Inv E B G0 w0 s g a w1:=by rcases O with rfl|rfl<;>first|exact hi|exact hi.drew
   have hr1:w1.heap[r]? =some (.mapIter (some t) f b f):=by rcases O with rfl|rfl<;>exact hr
   have hb1:w1.heap[t]? =some (.map z f):=by rcases O with rfl|rfl<;>exact hb
   have J:=VJ hi1 hr1 M (.mapIter (some t) f (b.push e.born) f);have H:=Go.MapKept.heap_set (o':=.mapIter (some t) f (b.push e.born) f) hr1;have hbr:t≠r:=fun e1=>by rw[e1,hr] at hb;cases hb
   have A:(Go.ChangeMaps.setBlock w1 r (.mapIter (some t) f (b.push e.born) f)).heap[r]? =_:=H.1;have U:(Go.ChangeMaps.setBlock w1 r (.mapIter (some t) f (b.push e.born) f)).heap[t]? =some (.map z f):=(H.2 t hbr).trans hb1;generalize Go.ChangeMaps.setBlock w1 r (.mapIter (some t) f (b.push e.born) f)=w2 at u J A U;refine qo (v:=.tuple #[.bool true,e.key,e.val]) (w':=w2) n3 (by simp[execOp,n1,hev,u]) ?_;rw[n2];have hgd:=J.guard A;refine uY (B:=B.less r) (G0:=G0) (w0:=w2) hE Z h (hgd.put (some d.nx) (Zb hke hve)) fun s' g' I w' D q=>?_
   split at D
   ·rename_i N
    have hv:I.eval d.c=.bool true:=by
     have:=cr q.fr q.fB d.c;rw[N,bG] at this;exact this
    obtain⟨hit',D⟩:=aC D;have hev':=CW (B:=B.less r) q hβ hit';have hr':w'.heap[r]? =some (.mapIter (some t) f (b.push e.born) f):=(q.iq.row r fun hm=>hm.2 rfl).trans A;have hb':w'.heap[t]? =some (.map z f):=q.iq.map t z f U;refine wp_seq (wp_cond hv (wp_skip (wp_block (wp_seq ?_))));have hent:=run_entry_at (P:=E.P) w' r t f b z f e hr' hb' hem p.2;refine qo (v:=.tuple #[e.key,e.val]) (w':=w') e3 (by simp[execOp,e1,hev',hent]) ?_;rw[e2];refine uY (B:=B.less r) (G0:=G0) (w0:=w2) hE Z D (q.put (some d.en) (Za hke hve)) fun s3 g3 a3 w3 hs3 hi3=>?_
    refine jX (B:=B.less r) (G0:=G0) (w0:=w2) hE Z tot fuel d.body s3 _ x hs3 g3 a3 w3 hi3 _ fun ex W Y X G o T=>?_
    have hr4:G.heap[r]? =some (.mapIter (some t) f (b.push e.born) f):=(T.iq.row r fun hm=>hm.2 rfl).trans A;have hb4:G.heap[t]? =some (.map z f):=T.iq.map t z f U;have y:=J.VL T
    cases ex with
    |norm=>exact uZ (i2:=i2) (i3:=i3) hE Z tot fuel n1 n2 n3 e1 e2 e3 hβ M p S n _ W Y X G _ o y hr4 hb4 hl'
    |ret=>exact S .ret W Y X G o y
    |ku v=>exact S (.ku v) W Y X G o y
    |exit j=>
     simp only at o;by_cases hj:j=d.L2
     ·rw[show(j==d.L2)=true from by simpa using hj,iy] at o
      have:=uZ (i2:=i2) (i3:=i3) hE Z tot fuel n1 n2 n3 e1 e2 e3 hβ M p S n _ W Y X G _ o y hr4 hb4 hl';simpa[qH,Exit.then,Exit.inBlock,hj] using this
     ·rw[show(j==d.L2)=false from by simpa using hj,gF] at o
      by_cases F:j=d.L
      ·rw[show(j==d.L)=true from by simpa using F,iy] at o
       have:=S .norm W Y X G o y;subst F;simpa[qH,Exit.then,Exit.inBlock,hj] using this
      ·rw[show(j==d.L)=false from by simpa using F,gF] at o
       have:=S (.exit j) W Y X G o y;simpa[qH,Exit.then,Exit.inBlock,hj,F] using this
   ·cases D
theorem Pj (hE:qy E) {α:Type} {call:Caller α} (hc:gz E call) (tot:Rd) (fuel:Nat) {c:Code} {d:Xp} (hd:itA c=some d) (s:St) (K:Ex→St→Option α) (x:α) (h:evM E call tot fuel d s K=some x) (g:Gh) (a:Act) (w:World) (f:Inv E B G0 w0 s g a w)
  (Q:Exit→Act→World→Prop) (hk: ∀e s' g' H w',K e s'=some x→Inv E B G0 w0 s' g' H w'→Q (qH e) H w'):c.wp E.P Q a w:=by
 obtain⟨i1,i2,i3,rfl,r1,r2,r3,n1,n2,n3,e1,e2,e3⟩:=VM hd;unfold evM at h;refine wp_seq (wp_region ?_);rw[show(#[d.l,d.r]:Array Oper).size=2 from rfl,show List.range 2=[0,1] from rfl];rcases dB hc [d.l] s _ x h with⟨s1,A,q⟩|⟨_,v,s',A,q⟩
 rotate_left
 ·cases q
 cases A with
 |cons X A=>
  cases A;have F: ∀g a w,Inv E B G0 w0 s1 g a w→wpOps E.P #[d.l,d.r] (Exit.then ((Code.block d.L (.loop (.seq (.region i2 (d.n::d.o2).toArray false) (.seq (.cond d.c .skip (.exit d.L)) (.block d.L2 (.seq (.region i3 (d.e::d.o3).toArray false) d.body)))))).wp E.P Q) Q) [1] a w:=by
   intro g a w f;split at q
   ·rename_i gi k e p A
    split at q
    ·rename_i es o
     obtain⟨hnb,q⟩:=aC q;have z:=cr (E:=E) f.fr f.fB d.m;unfold Vi at p;split at p
     ·rename_i c y kk gv W
      simp only[aI] at p;subst p;rw[W] at z;simp only[aG,bA] at z;unfold aK at z;obtain⟨b,l,z,hl,N⟩:=z;unfold Vj at o;split at o
      ·rename_i sh c' es' y' off U
       simp only[aI] at o;subst o;obtain⟨l',bm,I,i,h1,M,h3,h4⟩:=(f.fB _ _ U).2.2;rw[show(asInt (V.int kk gv)).toNat=gv.toNat from rfl] at hl;rw[hl] at h1;simp only[aI] at h1;subst h1;rw[N,z] at M;simp only[aI,Value.map.injEq] at M;subst M;have C:=run_range_map (P:=E.P) w d.t k e b I i A h3;unfold wpOps;rw[show(#[d.l,d.r]:Array Oper)[1]? =some d.r from rfl];simp only;rw[if_pos (by unfold Region.wanted;rw[r3])];refine .inl ?_;unfold Oper.wp;rw[show(execOp a.eval d.r).run E.P w=.ok (.value (.pointer (some ⟨w.heap.size,0,none⟩))) (w.alloc (.mapIter (some b) i #[] i)) from by simp[execOp,r1,z,C]];show Code.wp _ _ _ _ _;obtain⟨D,_⟩:=f.new (EE f.gok (.mapIter (some b) i #[] i));have J:(w.alloc (.mapIter (some b) i #[] i)).heap[w.heap.size]? =some (.mapIter (some b) i #[] i):=(MapKept.heap_alloc w _).1;have hb:(w.alloc (.mapIter (some b) i #[] i)).heap[b]? =some (.map I i):=((MapKept.heap_alloc w _).2 b (Array.getElem?_eq_some_iff.1 h3).1).trans h3;generalize w.alloc (.mapIter (some b) i #[] i)=w1 at D J hb;have R:=(D.pin hnb (some w.heap.size)).put (some d.it) (v:=.box IT 0) (u:=.pointer (some ⟨w.heap.size,0,none⟩)) (dH.2 ⟨w.heap.size,by show(if IT=IT then some w.heap.size else g.β IT)=_;rw[if_pos rfl],rfl⟩);rw[r2];refine wp_block (wp_loop_rounds (es'.length+1) ?_);obtain⟨ps,hps,Z⟩:=h4.perm;have S:leftOf I #[]=I:=by unfold leftOf;simp
       refine uZ (B:={B with β:=fun j=>if j=IT then some w.heap.size else B.β j}) hE hc tot fuel n1 n2 n3 e1 e2 e3 (show(if IT=IT then some w.heap.size else B.β IT)=_ from if_pos rfl) (f.hB.2 _ (iI _)) h4.born (fun ex s2 g2 a2 w2 h5 Y=>?_) _ _ _ _ _ _ #[] q R J hb ⟨ps,hps,by rw[S];exact Z⟩;obtain⟨G,h5⟩:=aC (show(bif (s2.put (some d.it) .any).iR IT then K ex (s2.put (some d.it) .any) else none)=some x from h5);have h6:=(Y.anyAt d.it).pin G (B.β IT);have hB:({m:=B.m,n:=B.n,β:=fun j=>if j=IT then B.β IT else if j=IT then some w.heap.size else B.β j,df:=B.df}:Own)=B:=by
        have:(fun j=>if j=IT then B.β IT else if j=IT then some w.heap.size else B.β j)=B.β:=funext fun j=>by
         split
         ·rename_i hj;rw[hj]
         ·rfl
        rw[this]
       rw[hB] at h6;exact hk ex _ _ a2 w2 h5 h6
      ·cases o
     ·cases p
    ·cases q
   ·cases q
  unfold wpOps;rw[show(#[d.l,d.r]:Array Oper)[0]? =some d.l from rfl];simp only;rcases X with⟨T,eff,ho,_,J⟩|⟨T,rfl⟩
  ·rw[if_pos (dP f.fr T)]
   refine .inl ?_;have O:=iC (ac:=a) (B:=B) (w:=w) (g:=g) hE rfl f.gok f.own f.bxs f.hB f.m1 f.fB (fun y=>cr f.fr f.fB y) ho;exact p8 f O (fun _ _ h=>h) (fun _=>rfl) J fun g' H w' h' _=>F g' H w' h'
  ·rw[if_neg (by rw[dP f.fr T];decide)]
   exact F g _ w (f.put d.l.dst (v:=.tup []) (u:=undef) ⟨[],rfl,.nil⟩)
theorem VN (hE:qy E) {α:Type} {call:Caller α} (n:gz E call) (tot:Rd) (fuel:Nat): ∀(c:Code) (s:St) (K:Ex→St→Option α) (r:α),U7 E call tot fuel c s K=some r→ ∀(g:Gh) (a:Act) (w:World),Inv E B G0 w0 s g a w→
  ∀Q:Exit→Act→World→Prop,(∀e s' g' b w',K e s'=some r→Inv E B G0 w0 s' g' b w'→Q (qH e) b w')→c.wp E.P Q a w:=by
 intro c;induction c with
 |seq x y _ m=>
  intro s K r h g a w o Q k;unfold U7 at h;have j: ∀(e:Ex) i g' b w',Oy y K (fun s=>U7 E call tot fuel y s K) e i=some r→Inv E B G0 w0 i g' b w'→Exit.then (y.wp E.P Q) Q (qH e) b w':=by
   intro e i g' b w' l f
   cases e with
   |norm=>exact m i K r l g' b w' f Q k
   |exit id=>exact k (.exit id) i g' b w' l f
   |ret=>exact k .ret i g' b w' l f
   |ku v=>exact k (.ku v) i g' b w' l f
  split at h
  ·rename_i d p
   exact wp_seq (Pj hE n tot fuel p s _ r h g a w o _ j)
  ·exact wp_seq (jX hE n tot fuel x s _ r h g a w o _ j)
 |_=>
  intro s K r h;exact jX hE n tot fuel _ s K r h
theorem Gb (hE:qy E) {α:Type} {call:Caller α} (f:gz E call) {tot:Rd} (i:tot.ord=false) {fuel:Nat} {d:Xp} {K:Ex→St→Option α} {x:α}: ∀(n:Nat) (left:af) (s:St),Kv E call tot fuel d K n left s=some x→ ∃e s',K e s'=some x
 |0,left,s,h=>by cases h
 |n+1,left,s,h=>by
  have b: ∀e s,Yc d K e s=some x→ ∃e s',K e s'=some x:=fun e s h=>⟨_,_,(aC (show(bif (s.put (some d.it) .any).iR IT then K e (s.put (some d.it) .any) else none)=some x from h)).2⟩
  unfold Kv at h;obtain⟨_,h⟩:=aC h
  cases hl:left.isEmpty with
  |true=>
   rw[hl,iy] at h;rcases dB f d.o2 _ _ x h with⟨s',_,a⟩|⟨_,_,_,_,a⟩
   ·split at a
    ·exact b _ _ a
    ·cases a
   ·cases a
  |false=>
   rw[hl,gF] at h;have h:=su h 0 (List.mem_range.2 (Nat.pos_of_ne_zero fun e=>by rw[List.length_eq_zero_iff.1 e] at hl;cases hl));split at h
   ·rcases dB f d.o2 _ _ x h with⟨s',_,a⟩|⟨_,_,_,_,a⟩
    ·split at a
     ·obtain⟨_,a⟩:=aC a
      rcases dB f d.o3 _ _ x a with⟨s',_,a⟩|⟨_,_,_,_,a⟩
      ·obtain⟨e,l,c,_⟩:=fJ hE f tot i fuel d.body _ _ x a
       cases e with
       |norm=>exact Gb hE f i n _ _ c
       |ret=>exact b _ _ c
       |ku v=>exact b _ _ c
       |exit j=>
        simp only at c
        cases k:j==d.L2 with
        |true=>rw[k,iy] at c;exact Gb hE f i n _ _ c
        |false=>
         rw[k,gF] at c
         cases g:j==d.L with
         |true=>rw[g,iy] at c;exact b _ _ c
         |false=>rw[g,gF] at c;exact b _ _ c
      ·cases a
     ·cases a
    ·cases a
   ·cases h
theorem Zc (hE:qy E) {α:Type} {call:Caller α} (k:gz E call) {tot:Rd} (m:tot.ord=false) {fuel:Nat}: ∀(c:Code) (s:St) (K:Ex→St→Option α) (x:α),U7 E call tot fuel c s K=some x→ ∃e s',K e s'=some x:=by
 intro c;induction c with
 |seq a b _ n=>
  intro s K x h;unfold U7 at h;have i: ∀e j,Oy b K (fun s=>U7 E call tot fuel b s K) e j=some x→ ∃e s',K e s'=some x:=by
   intro e j f
   cases e with
   |norm=>exact n j K x f
   |exit id=>exact⟨_,_,f⟩
   |ret=>exact⟨_,_,f⟩
   |ku v=>exact⟨_,_,f⟩
  split at h
  ·rename_i d o
   unfold evM at h;rcases dB k [d.l] s _ x h with⟨j,_,g⟩|⟨_,_,_,_,g⟩
   ·split at g
    ·split at g
     ·obtain⟨_,g⟩:=aC g
      obtain⟨e,s',f⟩:=Gb hE k m _ _ _ g;exact i e s' f
     ·cases g
    ·cases g
   ·cases g
  ·obtain⟨e,s',f,_⟩:=fJ hE k tot m fuel a s _ x h
   exact i e s' f
 |_=>
  intro s K x h;obtain⟨e,s',f,_⟩:=fJ hE k tot m fuel _ s K x h;exact⟨e,s',f⟩
end
section
variable {E:Env}
theorem VO {x y:V} (h:Ox x=some y):y=x:=by
 cases x with
 |fn f c=>cases c<;>(simp[Ox,V.deep] at h;exact h.symm)
 |bxa off a=>simp only[Ox,aI] at h;exact h.symm
 |sl e sh o xs=>simp only[Ox,aI] at h;exact h.symm
 |old z=>
  have h:(bif z.eH then some (V.old z) else none)=some y:=h;obtain⟨_,h⟩:=aC h;simp only[aI] at h;exact h.symm
 |_=>simp[Ox,V.deep] at h<;>exact h.symm
theorem qR: ∀{xs ys:af},qK xs=some ys→ys=xs
 |[],ys,h=>by simp only[qK,aI] at h;exact h.symm
 |x::xs,ys,h=>by
  unfold qK at h;split at h
  ·rename_i a b c d
   simp only[aI] at h;rw[←h,VO c,qR d]
  ·cases h
theorem GQ (args:af):handed (mG args)=handed args:=by
 unfold mG
 cases h:handed args with
 |false=>rfl
 |true=>
  rw[iy];unfold handed at h⊢;rw[Dw] at h⊢;obtain⟨x,hx,a⟩:=h
  cases x with
  |bxa off b=>exact⟨_,List.mem_map.2 ⟨_,hx,rfl⟩,rfl⟩
  |sl e sh o xs=>cases o with
   |none=>cases a
   |some L=>exact⟨_,List.mem_map.2 ⟨_,hx,rfl⟩,rfl⟩
  |_=>cases a
theorem CX (s:St): ∀(args:af) (j:Nat),(∀x∈args,x.vw=false)→lQ s j args=some []∧jc j args=[]
 |[],j,_=>⟨rfl,rfl⟩
 |x::args,j,h=>by
  have a:=CX s args (j+1) fun y b=>h y (xE _ b)
  have hx:=h x vg
  cases x<;>first|exact a|cases hx
theorem EW (s:St) (f:V→V) (g: ∀x,(f x).vw=x.vw): ∀(args:af) (j:Nat),lQ s j (args.map f)=lQ s j args∧jc j (args.map f)=jc j args
 |[],j=>⟨rfl,rfl⟩
 |x::args,j=>by
  have d:=EW s f g args (j+1);have hx:=g x;rw[Aj];have b: ∀y:V,y.vw=false→lQ s j (y::args)=lQ s (j+1) args∧jc j (y::args)=jc (j+1) args:=fun y e=>by cases y<;>first|exact⟨rfl,rfl⟩|cases e
  have a: ∀y:V,y.vw=false→lQ s j (y::args.map f)=lQ s (j+1) (args.map f)∧jc j (y::args.map f)=jc (j+1) (args.map f):=fun y e=>by cases y<;>first|exact⟨rfl,rfl⟩|cases e
  cases c:x.vw with
  |false=>
   rw[c] at hx;rw[(b x c).1,(b x c).2,(a _ hx).1,(a _ hx).2];exact d
  |true=>
   rw[c] at hx;generalize f x=y at hx
   cases x<;>first|cases c|skip
   cases y<;>first|cases hx|skip
   simp only[lQ,jc,d.1,d.2];exact⟨trivial,trivial⟩
theorem EX (s:St) (args:af):lQ s 0 (mG args)=lQ s 0 args∧jc 0 (mG args)=jc 0 args:=by
 unfold mG
 cases h:handed args with
 |false=>
  have a:=CX s args 0 fun x hx=>by
   unfold handed at h;rw[U1] at h;have:=h x hx
   cases x<;>first|rfl|(exfalso;exact this rfl)
  rw[gF,a.1,a.2];exact⟨rfl,rfl⟩
 |true=>
  rw[iy];exact EW s _ (fun x=>by cases x<;>first|rfl|(rename_i o _;cases o<;>rfl)) args 0
theorem SY {α:Type} (p:Bool) (x:V) (s:St) (args:af) (K:V→Option α):nW p x s (mG args) K=nW p x s args K:=by
 unfold nW;rw[(EX s args).1,(EX s args).2]
theorem rV {α:Type} (P:Program) (fn:Func) (args:af) (K:V→Option α):zW P fn (mG args) K=zW P fn args K:=by
 funext e s
 cases e<;>simp only[zW,GQ,SY]
theorem IE: ∀(bs:List (af)) (j:Nat) (p:Nat×Nat),p∈OA j bs→ ∃i,p.2=fe true p.1 i
 |[],j,p,h=>by cases h
 |cs::bs,j,p,h=>by
  unfold OA at h;rcases List.mem_append.1 h with h|h
  ·obtain⟨i,a⟩:=gN _ _ _ h
   exact⟨_,a⟩
  ·exact IE bs (j+1) p h
theorem VP {L i:Nat} (h:fe true L i<HL):L<HL:=by
 unfold fe at h;rw[Fy] at h
 cases a:Nat.ble HL L with
 |true=>rw[a,iy] at h;omega
 |false=>
  refine Qy fun e=>?_
  rw[abV e] at a
  cases a
theorem Gc: ∀(args:af) (j:Nat) {a b:Nat},(a,b)∈jc j args→a=b∧HL≤a
 |[],j,a,b,h=>by cases h
 |x::args,j,a,b,h=>by
  have c:(a,b)∈jc (j+1) args→a=b∧HL≤a:=Gc args (j+1)
  cases x with
  |bxa off d=>
   unfold jc at h;rcases List.mem_cons.1 h with h|h
   ·simp only[bU] at h
    obtain⟨rfl,rfl⟩:=h;exact⟨rfl,by omega⟩
   ·exact c h
  |_=>exact c h
theorem mo {s:St} (f:af→af): ∀(args:af) (j:Nat) (bs:List (af)),lQ s j args=some bs→ ∀k c,aA (eY j args (bs.map f)) k=some c→ ∃a,aA s.bx k=some a∧c=f a
 |[],j,bs,h,k,c,b=>by cases b
 |x::args,j,bs,h,k,c,b=>by
  have d:lQ s (j+1) args=some bs→aA (eY (j+1) args (bs.map f)) k=some c→ ∃a,aA s.bx k=some a∧c=f a:=fun i e=>mo f args (j+1) bs i k c e
  cases x with
  |bxa off n=>
   unfold lQ at h;split at h
   ·rename_i m l i e
    simp only[aI] at h;subst h;rw[Aj] at b;unfold eY aA at b
    cases g:HL+j==k with
    |true=>
     rw[g,iy] at b;simp only[aI] at b;obtain rfl:HL+j=k:=by simpa using g
     exact⟨m,i,b.symm⟩
    |false=>
     rw[g,gF] at b;exact mo f args (j+1) l e k c b
   ·cases h
  |_=>exact d h b
theorem kJ: ∀(args:af) (j:Nat) (bs:List (af)) {k:Nat} {d:af},aA (eY j args bs) k=some d→ ∃b,(k,b)∈jc j args
 |[],j,bs,k,d,h=>by cases h
 |x::args,j,bs,k,d,h=>by
  have c:aA (eY (j+1) args bs) k=some d→ ∃b,(k,b)∈jc (j+1) args:=fun h=>kJ args (j+1) bs h
  cases x with
  |bxa off f=>
   cases bs with
   |nil=>
    obtain⟨b,a⟩:=kJ args (j+1) [] h;exact⟨b,xE _ a⟩
   |cons g bs=>
    unfold eY aA at h
    cases e:HL+j==k with
    |true=>
     obtain rfl:HL+j=k:=by simpa using e
     exact⟨_,vg⟩
    |false=>
     rw[e,gF] at h;obtain⟨b,a⟩:=kJ args (j+1) bs h;exact⟨b,xE _ a⟩
  |_=>exact c h
theorem Ap {α:Type} {p:Bool} {x:V} {s:St} {args:af} {K:V→Option α} {r:α} (h:nW p x s args K=some r):
  ∃x' bs,K (.out p x' bs)=some r∧(∀t y,x=.iface t y→x'=.iface t y)∧(x=.tup []→x'=.tup [])∧ ∀{B B2:Own} {G0:aJ} {w0:World} {g:Gh} {a:Act} {w:World} {v:Value},B2.m=B.m→B2.n=B.n→B2.df=[]→(∀a b,(a,b)∈jc 0 args→B2.β a=B.β a)→Inv E B G0 w0 s g a w→aG g x v→ ∃g',Inv E B2 G0 w0 ⟨[x'],eY 0 args bs⟩ g' ⟨#[v],[]⟩ w:=by
 unfold nW at h;split at h
 ·rename_i bs D
  simp only at h;obtain⟨Y,h⟩:=aC h;rw[qg] at Y;have hf:=oo (nU (fun L i=>fe true L i) 0 (xM x)++OA 0 bs) [];generalize hml:mM [] (nU (fun L i=>fe true L i) 0 (xM x)++OA 0 bs)=ml at h Y hf;have X: ∀p∈ml,∃i,p.2=fe true p.1 i:=fun p hp=>by
   rcases List.mem_append.1 (hf.2 p hp).1 with h|h
   ·obtain⟨i,f⟩:=gN _ _ _ h
    exact⟨_,f⟩
   ·exact IE bs 0 p h
  refine⟨_,_,h,fun t y e=>(by subst e;rfl),fun e=>(by subst e;rfl),fun {B B2 G0 w0 g a w v} A M hd2 hβ2 f hv=>?_⟩;let O2:Nat→Option (Value×Nat×Nat):=fun n=>match lk (eG ml) n with|some L=>g.O L|none=>none
  have hO: ∀L n,lk ml L=some n→O2 n=g.O L:=fun L n hl=>by
   show(match lk (eG ml) n with|some L=>g.O L|none=>none)=_;rw[jf Y (jr hl)]
  have d: ∀n x,O2 n=some x→ ∃L,(L,n)∈ml∧g.O L=some x:=fun n x hx=>by
   have hx:(match lk (eG ml) n with|some L=>g.O L|none=>none)=some x:=hx;split at hx
   ·rename_i L hL;exact⟨L,mR.1 (jr hL),hx⟩
   ·cases hx
  let β2:Nat→Option Nat:=fun k=>if HL≤k then B2.β k else g.β k
  have hβk: ∀a b,(a,b)∈jc 0 args→β2 a=g.β a:=fun a b U=>by
   have o:=(Gc args 0 U).2;show(if HL≤a then B2.β a else g.β a)=_;rw[if_pos o,hβ2 a b U,f.ext.2.2 a o]
  let C2:Nat→Option (List Value):=fun n=>match lk (eG ml) n with|some L=>g.C L|none=>none
  have hC: ∀L n,lk ml L=some n→C2 n=g.C L:=fun L n hl=>by
   show(match lk (eG ml) n with|some L=>g.C L|none=>none)=_;rw[jf Y (jr hl)]
  have hCm: ∀L n,(L,n)∈ml→C2 n=g.C L:=fun L n hl=>by
   show(match lk (eG ml) n with|some L=>g.C L|none=>none)=_;rw[jf Y hl]
  let g2:Gh:=⟨g.G,O2,β2,g.G1,C2⟩
  have H: ∀(y:V) (u:Value),aG g y u→aG g2 (y.ren (jc 0 args) ml) u:=fun y u hy=>Cb (g:=g) (g':=g2) rfl hO hC (fun k n q=>by
   have o:=jr q;rw[←(Gc args 0 o).1];exact hβk k n o) hy
  have T: ∀L b,B2.ok L b↔B.ok L b:=fun L b=>by unfold Own.ok;rw[A,M]
  refine⟨g2,PW.cons (H x v hv) .nil,hd2.symm,f.gok,⟨fun n v' e Q J=>?_,fun n n' v1 v2 e e' Q sz' b o h2 hb1 hb2=>?_⟩,⟨fun k j q=>?_,fun k Z j cs' q N F=>?_⟩,by rw[A];exact f.iq,by rw[A,M];exact f.hB,⟨fun b F=>f.ext.1 b (by rw[←A];exact F),f.ext.2.1,fun k q=>if_pos q⟩,by rw[M];exact f.glob,f.g1,fun k j n v' e Q b q J F hβ=>?_⟩
  ·obtain⟨L,hL,hx⟩:=d n _ J
   obtain⟨q1,q2⟩:=f.own.1 L v' e Q hx;refine⟨q1,q2.imp id ?_⟩;rintro⟨b,m,cap,cur,l,hv',R,hh,hnc,hcm,hcs,I,hln⟩;refine⟨b,m,cap,cur,l,hv',(T n b).2 ⟨R.1,fun S=>R.2 ?_⟩,hh,hnc,hcm,hcs,by
    unfold kX at I⊢;rw[show g2.C n=g.C L from hCm L n hL];exact I,hln⟩
   obtain⟨i,P⟩:=X _ hL;simp only at P;rw[P] at S;exact VP S
  ·obtain⟨L,hL,hx⟩:=d n _ o
   obtain⟨L',hL',hx'⟩:=d n' _ h2;have:=f.own.2 L L' v1 v2 e e' Q sz' b hx hx' hb1 hb2;subst this;exact wh hf.1 hL hL'
  ·obtain⟨cs0,o,rfl⟩:=mo (s:=s) (fun j=>j.map (V.ren (jc 0 args) ml)) args 0 bs D k j q
   obtain⟨b,c,e,q1,q2,q3,q4,q5,q6,q7⟩:=f.bxs.1 k cs0 o;obtain⟨W,z⟩:=kJ args 0 _ q;exact⟨b,c,e,(hβk k W z).trans q1,by rw[A];exact q2,q3,dQ q4 fun y _ u=>H y u,q5,q6,jA (BX _ _) q7⟩
  ·obtain⟨W,z⟩:=kJ args 0 _ q
   obtain⟨k1,hk1⟩:=kJ args 0 _ N;have F:β2 k=β2 Z:=F;rw[hβk k W z,hβk Z k1 hk1] at F;obtain⟨c1,o,_⟩:=mo (s:=s) (fun j=>j.map (V.ren (jc 0 args) ml)) args 0 bs D k j q;obtain⟨c2,h2,_⟩:=mo (s:=s) (fun j=>j.map (V.ren (jc 0 args) ml)) args 0 bs D Z cs' N;exact f.bxs.2 k Z c1 c2 o h2 F
  ·obtain⟨L,hL,hx⟩:=d n _ J
   obtain⟨W,z⟩:=kJ args 0 _ q;obtain⟨c1,o,_⟩:=mo (s:=s) (fun j=>j.map (V.ren (jc 0 args) ml)) args 0 bs D k j q;have hβ:β2 k=some b:=hβ;rw[hβk k W z] at hβ;exact f.zb k c1 L v' e Q b o hx F hβ
 ·cases h
theorem zD {G:aJ} {x:V} {u:Value} (h:kY x=some u):aK G x u:=by
 cases x with
 |bool b=>simp only[kY,aI] at h;unfold aK;exact h.symm
 |int k n=>simp only[kY,aI] at h;unfold aK;exact h.symm
 |_=>cases h
theorem zF {G:aJ}: ∀{xs:af} {us:List Value},kZ xs=some us→PW (aK G) xs us
 |[],us,h=>by simp only[kZ,aI] at h;subst h;exact .nil
 |x::xs,us,h=>by
  unfold kZ at h;split at h
  ·rename_i a b c d
   simp only[aI] at h;subst h;exact .cons (zD c) (zF d)
  ·cases h
theorem u6 {g:Gh} {x:V} {u:Value} (h:bQ x=some u):aG g x u∧ ∃t y,x=.iface t y:=by
 unfold bQ at h;split at h
 ·rename_i t b
  split at h
  ·rename_i l hl
   simp only[aI] at h;subst h;exact⟨iW.2 ⟨_,rfl,by unfold aK;exact⟨l,rfl,(eD _ _).2 (zF hl)⟩⟩,_,_,rfl⟩
  ·cases h
 ·rename_i t y _
  split at h
  ·rename_i z a
   simp only[aI] at h;subst h;exact⟨iW.2 ⟨_,rfl,zD a⟩,_,_,rfl⟩
  ·cases h
 ·cases h
theorem Pk {g:Gh} {vs:af} {us:List Value} (h:PW (fun x v=>bA g x v∧lH x=true) vs us):aG g (MU vs) (vz us):=by
 have a: ∀(vs:af) (us:List Value),PW (fun x v=>bA g x v∧lH x=true) vs us→aG g (.tup vs) (.tuple us.toArray):=fun vs us h=>⟨us,rfl,h.mono fun _ _ _ h=>h.1⟩
 match vs,us,h with
 |[],us,h=>rw[h.bR];exact a [] [] .nil
 |[x],us,h=>
  obtain⟨u,t,rfl,⟨d,c⟩,h3⟩:=h.cons_inv;rw[h3.bR];have b:x.single=true:=by cases x<;>first|rfl|cases c
  exact bq b d
 |x::y::vs,us,h=>
  have hl:=h.1;match us,hl with
  |u::v::us,_=>exact a _ _ h
theorem jN {B:Own} {g:Gh} {w:World} {fr:af} {bx:List (Nat×af)} {vs:List Value} {fn:Func} {G0:aJ} {w0:World} (a:Inv E B G0 w0 ⟨fr,bx⟩ g ⟨vs.toArray,[]⟩ w):
  Inv E B G0 w0 ⟨rQ fn fr,bx⟩ g {tmps:=vs.toArray++Array.replicate (fn.ntmps-vs.toArray.size) undef,defers:=[]} w:=by
 have b:PW (aG g) fr vs:=by simpa using a.fr
 refine⟨?_,a.df,a.gok,a.own,a.bxs,a.iq,a.hB,a.ext,a.glob,a.g1,a.zb⟩;show PW (aG g) (fr++List.replicate (fn.ntmps-fr.length) (.tup [])) (vs.toArray++Array.replicate (fn.ntmps-vs.toArray.size) undef).toList;have e:(vs.toArray++Array.replicate (fn.ntmps-vs.toArray.size) undef).toList=vs++List.replicate (fn.ntmps-fr.length) undef:=by
  rw[b.1];simp
 rw[e];refine b.append ⟨by simp,fun i x v hx c=>?_⟩;rw[List.getElem?_replicate] at hx c;split at hx
 ·rename_i d
  rw[if_pos d] at c;simp only[aI] at hx c;subst hx;subst c;exact⟨[],rfl,.nil⟩
 ·cases hx
def Nk (rec:V) (u:FrameMode):Prop:=(rec=.nilif∧u=.returning)∨ ∃q,bQ rec=some q∧u=.panicking [{v:=q,recovered:=false}]
def DC (E:Env) (f:Nat) (args:af) (rec:V) (Φ:V→List (af)→Prop):Prop:=
 ∀(B:Own) (g:Gh) (w:World) (vs:List Value),B.df=[]→Inv E B g.G w ⟨bF 0 args,dF 0 args⟩ g ⟨vs.toArray,[]⟩ w→ ∀u,Nk rec u→
  CallsD E.P f vs.toArray u w fun e b w'=>∃x bs g' v,Φ x bs∧(∃a,e=.returned a)∧settle b=.returning∧Inv E B g.G w ⟨[x],eY 0 args bs⟩ g' ⟨#[v],[]⟩ w'
theorem Pm (hE:qy E) {α:Type} {call:Caller α} (hc:gz E call) {fuel f:Nat} {args:af} {rec:V} {K:V→Option α} {r:α} (h:Ij false E call fuel f args rec K=some r):jd E.P f=true∧ ∃x bs,K (.out false x bs)=some r∧DC E f args rec (fun D bs'=>D=x∧bs'=bs):=by
 unfold Ij at h;split at h
 ·cases h
 ·rename_i fn O
  split at h
  ·rename_i c k
   split at h
   ·rename_i id ops b
    split at h
    ·rename_i o F
     split at h
     ·rename_i cl d hop hg hd L
      split at h
      ·rename_i p n
       obtain⟨e,s',Z,hl⟩:=fJ hE hc _ rfl fuel b _ _ r h;have S:nW false (.tup []) s' args K=some r∧(e=.norm∨e=.ret):=by
        cases e with
        |norm=>exact⟨Z,.inl rfl⟩
        |ret=>exact⟨Z,.inr rfl⟩
        |exit id=>cases Z
        |ku v=>cases Z
       obtain⟨ho,hee⟩:=S;obtain⟨D,bs,hK,_,htup,T⟩:=Ap (E:=E) ho;refine⟨by unfold jd;rw[O];simp only[k];rfl,D,bs,hK,fun B g w vs W hi u hu=>?_⟩;refine callsD_of_wpS O k fun c₀ t hc₀=>?_
       have C:ops= #[o]:=by rw[←Hz];simpa using F
       subst C;refine wpS_seq (wpS_region ?_);have s: ∀ρ,(execOp ρ o).run E.P w=.ok .recover w:=by
        intro ρ;obtain⟨Y,cargs,cts⟩:=cl;simp only at p n;subst p;simp only[execOp,hop,resolve];simp[invoke,builtin]
       have z:List.range (#[o]:Array Oper).size=[0]:=rfl;rw[z];unfold wpOpsS;simp only[abX,Dt];have hw: ∀y,Region.wanted o y=true:=fun y=>by unfold Region.wanted;rw[hg]
       rw[if_pos (hw _),s];simp only[hd];have m:=jN (fn:=fn) hi;have U: ∀(v:Value) (A:FrameMode),settle A=.returning→aG g rec v→
         Code.wpS E.P b (bodyPostS E.P fn c₀ t fun e A w'=>∃Q i g' v,(Q=D∧i=bs)∧(∃v',e=.returned v')∧settle A=.returning∧Inv E B g.G w ⟨[Q],eY 0 args i⟩ g' ⟨#[v],[]⟩ w')
          (Act.put {tmps:=vs.toArray++Array.replicate (fn.ntmps-vs.toArray.size) undef,defers:=[]} (some d) v) ({c₀ with mode:=A}::t) w:=by
        intro v A X hv;refine wpS_of_wp (hl B g.G w g _ w (m.put (some d) hv) _ fun g' I w' H=>?_);have J:(results fn I.tmps).run E.P w'=.ok (.tuple #[]) w':=by
         have:=lC (fn:=fn) (a:=I) (w:=w') (E:=E) (us:=[]) (by rw[L];rfl);simpa[vz] using this
        have R:I.defers=[]:=H.df.trans W;have N: ∃g2,Inv E B g.G w ⟨[D],eY 0 args bs⟩ g2 ⟨#[.tuple #[]],[]⟩ w':=by
         exact T rfl rfl W (fun _ _ _=>rfl) H (v:=.tuple #[]) ⟨[],rfl,.nil⟩
        obtain⟨g2,h2⟩:=N;have l:I.defers=[]∧ ∃M,({c₀ with mode:=A}::t:List Frame)={c₀ with mode:=M}::t∧ ∃v,(results fn I.tmps).run E.P w'=.ok v w'∧ ∃Q i g' v_1,(Q=D∧i=bs)∧(∃v',Ending.returned v=.returned v')∧settle M=.returning∧Inv E B g.G w ⟨[Q],eY 0 args i⟩ g' ⟨#[v_1],[]⟩ w':=
         ⟨R,A,rfl,_,J,_,_,g2,_,⟨rfl,rfl⟩,⟨_,rfl⟩,X,h2⟩
        rcases hee with rfl|rfl
        ·exact l
        ·exact l
       rcases hu with⟨rfl,rfl⟩|⟨q,hq,rfl⟩
       ·have j:recoverD (c₀::t)=none:=by simp only[recoverD,hc₀]
        rw[j];have:=U .nilIface .returning rfl (kK.2 rfl);have e1:({c₀ with mode:=.returning}:Frame)=c₀:=by rw[←hc₀]
        rw[e1] at this;exact this
       ·have j:recoverD (c₀::t)=some (q,{c₀ with mode:=.panicking [{v:=q,recovered:=true}]}::t):=by simp only[recoverD,hc₀]
        rw[j];exact U q _ rfl (u6 hq).1
      ·cases h
     ·cases h
    ·cases h
   ·cases h
  ·cases h
theorem VQ (hE:qy E) {α:Type} {call:Caller α} (hc:gz E call) {fuel f:Nat} {args:af} {rec:V} {K:V→Option α} {r:α} {o:Bool} (h:Ij o E call fuel f args rec K=some r):jd E.P f=true∧DC E f args rec (fun x bs=>K (.out false x bs)=some r):=by
 unfold Ij at h;split at h
 ·cases h
 ·rename_i fn N
  split at h
  ·rename_i c j
   split at h
   ·rename_i id ops b
    split at h
    ·rename_i Y D
     split at h
     ·rename_i cl d hop hg hd J
      split at h
      ·rename_i p m
       refine⟨by unfold jd;rw[N];simp only[j];rfl,fun B g w vs T hi u hu=>?_⟩;refine callsD_of_wpS N j fun c₀ t hc₀=>?_
       have C:ops= #[Y]:=by rw[←Hz];simpa using D
       subst C;refine wpS_seq (wpS_region ?_);have s: ∀ρ,(execOp ρ Y).run E.P w=.ok .recover w:=by
        intro ρ;obtain⟨W,cargs,cts⟩:=cl;simp only at p m;subst p;simp only[execOp,hop,resolve];simp[invoke,builtin]
       have z:List.range (#[Y]:Array Oper).size=[0]:=rfl;rw[z];unfold wpOpsS;simp only[abX,Dt];have hw: ∀y,Region.wanted Y y=true:=fun y=>by unfold Region.wanted;rw[hg]
       rw[if_pos (hw _),s];simp only[hd];have l:=jN (fn:=fn) hi;have S: ∀(v:Value) (A:FrameMode),settle A=.returning→aG g rec v→
         Code.wpS E.P b (bodyPostS E.P fn c₀ t fun e A w'=>∃n bs g' v,K (.out false n bs)=some r∧(∃v',e=.returned v')∧settle A=.returning∧Inv E B g.G w ⟨[n],eY 0 args bs⟩ g' ⟨#[v],[]⟩ w')
          (Act.put {tmps:=vs.toArray++Array.replicate (fn.ntmps-vs.toArray.size) undef,defers:=[]} (some d) v) ({c₀ with mode:=A}::t) w:=by
        intro v A U hv;refine wpS_of_wp (jX hE hc _ fuel b _ _ r h g _ w (l.put (some d) hv) _ fun e s' g' H w' X F=>?_);have Q:nW false (.tup []) s' args K=some r∧(e=.norm∨e=.ret):=by
         cases e with
         |norm=>exact⟨X,.inl rfl⟩
         |ret=>exact⟨X,.inr rfl⟩
         |exit id=>cases X
         |ku v=>cases X
        obtain⟨ho,Z⟩:=Q;obtain⟨n,bs,hK,_,htup,R⟩:=Ap (E:=E) ho;have I:(results fn H.tmps).run E.P w'=.ok (.tuple #[]) w':=by
         have:=lC (fn:=fn) (a:=H) (w:=w') (E:=E) (us:=[]) (by rw[J];rfl);simpa[vz] using this
        have O:H.defers=[]:=F.df.trans T;have M: ∃g2,Inv E B g.G w ⟨[n],eY 0 args bs⟩ g2 ⟨#[.tuple #[]],[]⟩ w':=by
         exact R rfl rfl T (fun _ _ _=>rfl) F (v:=.tuple #[]) ⟨[],rfl,.nil⟩
        obtain⟨g2,h2⟩:=M;have k:H.defers=[]∧ ∃L,({c₀ with mode:=A}::t:List Frame)={c₀ with mode:=L}::t∧ ∃v,(results fn H.tmps).run E.P w'=.ok v w'∧ ∃n bs g' v_1,K (.out false n bs)=some r∧(∃v',Ending.returned v=.returned v')∧settle L=.returning∧Inv E B g.G w ⟨[n],eY 0 args bs⟩ g' ⟨#[v_1],[]⟩ w':=
         ⟨O,A,rfl,_,I,n,bs,g2,_,hK,⟨_,rfl⟩,U,h2⟩
        rcases Z with rfl|rfl
        ·exact k
        ·exact k
       rcases hu with⟨rfl,rfl⟩|⟨q,hq,rfl⟩
       ·have i:recoverD (c₀::t)=none:=by simp only[recoverD,hc₀]
        rw[i];have:=S .nilIface .returning rfl (kK.2 rfl);have e1:({c₀ with mode:=.returning}:Frame)=c₀:=by rw[←hc₀]
        rw[e1] at this;exact this
       ·have i:recoverD (c₀::t)=some (q,{c₀ with mode:=.panicking [{v:=q,recovered:=true}]}::t):=by simp only[recoverD,hc₀]
        rw[i];exact S q _ rfl (u6 hq).1
      ·cases h
     ·cases h
    ·cases h
   ·cases h
  ·cases h
def Va (E:Env) (f:Nat) (args:af) (v:V):Prop:=(o5 v=false∧aj E f (args.map V.sZ) v)∨(∃p x bs,v=.out p x bs∧XC E f args p x bs)∨ ∃p x,v=.keep p x∧KC E f args p x
theorem DW {x:V} (h:x.eH=true):x.plain=true:=by
 cases x with
 |sl e sh o xs=>cases o<;>first|rfl|cases h
 |agg a=>rfl
 |rptr sh y off=>rfl
 |iface t y=>rfl
 |_=>cases h
theorem zH {G:aJ} {g:Gh} (m:g.G=G) (q:g.G1=G): ∀{args:af} {us:List Value},qK args=some args→handed args=false→PW (aK G) (args.map V.sZ) us→PW (aG g) args us
 |[],us,_,_,n=>by rw[n.bR];exact .nil
 |x::l,us,j,i,n=>by
  obtain⟨v,t,rfl,d,w⟩:=n.cons_inv;unfold handed at i;rw[X8,Fv] at i;unfold qK at j;split at j
  ·rename_i a b h p
   simp only[aI,U2] at j;obtain⟨rfl,rfl⟩:=j;refine .cons ?_ (zH m q p i.2 w);have k: ∀{y:V},y.deep=some y→aK G y v→aG g y v:=fun u z=>bI (iV u) (by rw[m];exact z)
   cases a with
   |bxa off r=>cases i.1
   |sl e sh o xs=>cases o with
    |none=>exact k rfl d
    |some L=>cases i.1
   |old y=>
    have h:(bif y.eH then some (V.old y) else none)=some (.old y):=h;obtain⟨s,_⟩:=aC h;have d:aK G (bif y.eH then y else .any) v:=d;rw[s,iy] at d;exact⟨by rw[q];exact d,by rw[m];exact d,DW s⟩
   |fn f c=>cases c with
    |nil=>exact k rfl d
    |cons c r=>
     have d:aK G (.fn f (c::r)) v:=d;unfold aK at d;exact absurd d.2 (by simp)
   |_=>exact k h d
  ·cases j
theorem iL {f:Nat} {args:af} {r:V} (y:qK args=some args) (s:handed args=false)
  (h: ∀(B:Own) (g:Gh) (w:World) (us:List Value),B.df=[]→Inv E B g.G w ⟨args,[]⟩ g ⟨us.toArray,[]⟩ w→Calls E.P f us.toArray w fun e w'=>∃v g',e=.returned v∧Inv E B g.G w ⟨[],[]⟩ g' ⟨#[],[]⟩ w'∧fo g'.G w' B.m r v):aj E f (args.map V.sZ) r:=by
 intro G w us o a i;have i:=zH (g:=⟨G,fun _=>none,fun _=>none,G,fun _=>none⟩) rfl rfl y s i;have x:Inv E ⟨(w.heap.size≤ ·),w.heap.size,fun _=>none,[]⟩ G w ⟨args,[]⟩ ⟨G,fun _=>none,fun _=>none,G,fun _=>none⟩ ⟨us.toArray,[]⟩ w:=by
  refine⟨?_,rfl,o,⟨fun L v e n h=>(by cases h),fun L L' v z e A n u b h=>(by cases h)⟩,⟨fun k j h=>(by cases h),fun k C j q h=>(by cases h)⟩,.refl _ _,⟨iI _,fun b d=>d⟩,⟨fun _ _=>rfl,.refl _,fun _ _=>rfl⟩,⟨a,fun b l d=>eU o d⟩,.refl _,fun k j L v e n b p=>(by cases p)⟩;show PW _ args us.toArray.toList;rw[ab6];exact i
 refine Calls.mono (h _ ⟨G,fun _=>none,fun _=>none,G,fun _=>none⟩ w us rfl x) ?_;rintro e w' ⟨v,g',rfl,c,t⟩;exact⟨v,g'.G,rfl,⟨c.iq.below,fun b d=>c.ext.1 b (Nat.not_le.2 d),c.gok⟩,t⟩
theorem Inv.drop {B B2:Own} {G0:aJ} {w0:World} {s:St} {g:Gh} {a:Act} {w:World} (h:Inv E B G0 w0 s g a w) (d:B2.m=B.m) (i:B2.n=B.n): ∃g',g'.G=g.G∧Inv E B2 G0 w0 ⟨[],[]⟩ g' ⟨#[],B2.df⟩ w:=by
 refine⟨⟨g.G,fun _=>none,B2.β,g.G1,fun _=>none⟩,rfl,⟨.nil,rfl,h.gok,⟨fun L v e f hL=>(by cases hL),fun L L' v q e r f o b hL=>(by cases hL)⟩,⟨fun k j c=>(by cases c),fun k t j l c=>(by cases c)⟩,by rw[d];exact h.iq,by rw[d,i];exact h.hB,⟨fun b p=>h.ext.1 b (by rw[←d];exact p),h.ext.2.1,fun _ _=>rfl⟩,by rw[i];exact h.glob,h.g1,fun k j L v e f b c=>(by cases c)⟩⟩
theorem Pn {s:St} {a:List ResultVar} {p:Bool} {x:V} {bs:List (af)} (h:oW E.P s a=some [.out p x bs]):o5 (.out p x bs)=false:=by
 exfalso
 cases a with
 |nil=>cases h
 |cons r a=>
  simp only[oW] at h;split at h
  ·cases h
  ·rename_i y b
   split at h
   ·cases h
   ·simp only[aI,U2] at h
    obtain⟨rfl,_⟩:=h;have:=zC b;rcases this with h|⟨e,sh,o,xs,h⟩|⟨c,h⟩
    ·cases h
    ·cases h
    ·cases h
theorem LW {s:St} {a:List ResultVar} {p:Bool} {x:V} (h:oW E.P s a=some [.keep p x]):o5 (.keep p x)=false:=by
 exfalso
 cases a with
 |nil=>cases h
 |cons r a=>
  simp only[oW] at h;split at h
  ·cases h
  ·rename_i y b
   split at h
   ·cases h
   ·simp only[aI,U2] at h
    obtain⟨rfl,_⟩:=h;have:=zC b;rcases this with h|⟨e,sh,o,xs,h⟩|⟨c,h⟩
    ·cases h
    ·cases h
    ·cases h
def MW (E:Env) (fn:Func) (s:St) (v:V):Prop:=
 ∀{B B2:Own} {G0:aJ} {w0:World} {g:Gh} {a:Act} {w:World},B2.m=B.m→B2.n=B.n→Inv E B G0 w0 s g a w→ ∃u b,(results fn a.tmps).run E.P w=.ok u w∧Inv E B2 G0 w0 ⟨[],[]⟩ b ⟨#[],B2.df⟩ w∧fo b.G w B.m v u
theorem LX {fn:Func} {s:St} {vs:af} (h:oW E.P s fn.results.toList=some vs):MW E fn s (Ii vs):=by
 intro B B2 G0 w0 g a w k j c;obtain⟨us,i,d⟩:=oI c _ _ h;have b:=VI c.own d;obtain⟨l,f,e⟩:=c.drop (B2:=B2) k j;rw[←f] at b;exact⟨_,l,lC i,e,b⟩
theorem VR {v y:V} {k:Kd} (h:Kw v=some k) (a:v.deep=some y):fits k y=true:=by
 cases v with
 |bool b=>simp only[Kw,aI] at h;simp only[V.deep,aI] at a;subst h;subst a;rfl
 |int k n=>simp only[Kw,aI] at h;simp only[V.deep,aI] at a;subst h;subst a;simp[fits]
 |str l=>simp only[Kw,aI] at h;simp only[V.deep,aI] at a;subst h;subst a;rfl
 |sl e sh o xs=>
  simp only[Kw] at h;obtain⟨d,c⟩:=aC h;simp only[V.deep,aI] at a;simp only[aI] at c;subst c;subst a;simp[fits,d]
 |_=>simp[Kw] at h
theorem IG: ∀{vs ys:af} {b:List Kd},Ei vs=some b→V.tu vs=some ys→bJ b ys=true
 |[],ys,b,h,a=>by
  simp only[Ei,aI] at h;simp only[V.tu,aI] at a;subst h;subst a;rfl
 |v::l,ys,b,h,a=>by
  simp only[Ei] at h;simp only[V.tu] at a;split at h
  ·rename_i k i f c
   split at a
   ·rename_i y e g d
    simp only[aI] at h a;subst h;subst a;simp only[bJ,VR f g,IG c d];rfl
   ·cases a
  ·cases h
theorem Nl {s:St} {d:List ResultVar} {v:V} (h:Bj s d=some v): ∃t k cells sh b,d=[.tmp t]∧slot s.fr t=.box k 0∧aA s.bx k=some cells∧Ei cells=some sh∧V.tu cells=some b∧v=.rptr sh (.agg b) 0:=by
 unfold Bj at h;split at h
 ·rename_i t
  split at h
  ·rename_i k off c
   obtain⟨g,a⟩:=aC h;obtain rfl:off=0:=by simpa using g
   split at a
   ·rename_i cells i
    split at a
    ·rename_i sh f
     split at a
     ·rename_i b e
      simp only[aI] at a;exact⟨t,k,cells,sh,b,rfl,c,i,f,e,a.symm⟩
     ·cases a
    ·cases a
   ·cases a
  ·cases h
 ·cases h
theorem VS {s:St} {a:List ResultVar} {v:V} (h:Bj s a=some v):o5 v=false:=by
 obtain⟨_,_,_,_,_,_,_,_,_,_,rfl⟩:=Nl h;rfl
theorem LY {fn:Func} {s:St} {v:V} (h:Bj s fn.results.toList=some v):MW E fn s v:=by
 obtain⟨t,k,cells,sh,n,C,F,hl,p,J,rfl⟩:=Nl h;intro B B2 G0 w0 g a w H Z o;have z:aG g (slot s.fr t) (a.tmps.getD t undef):=cr o.fr o.fB (.tmp t);rw[F] at z;obtain⟨b,M,S⟩:=dH.1 z;obtain⟨b',c,e,q,D,Y,X,ho,R,_⟩:=o.bxs.1 k cells hl;rw[M] at q;simp only[aI] at q;subst q;have y:(fn.results.toList.mapM (uF a)).run E.P w=.ok [a.tmps.getD t undef] w:=by
  rw[C,acF];rfl
 have f:jP g.G (upd g.G b c.toList):=by
  intro j l d;have:j≠b:=fun e=>by rw[e,R] at d;cases d
  exact⟨l,by rw[fU _ _ _ _ this];exact d,Kn _⟩
 have m:=IG p J;have r:PW (aK (upd g.G b c.toList)) n c.toList:=(BV cells n c.toList J X).mono fun x _ u Q=>gq f x u Q
 obtain⟨T,W,i⟩:=o.drop (B2:=B2) H Z;refine⟨_,⟨upd g.G b c.toList,fun _=>none,B2.β,T.G1,fun _=>none⟩,lC y,?_,?_⟩
 ·refine⟨.nil,rfl,?_,⟨fun L v e I hL=>(by cases hL),fun L L' v v' e e' I O b hL=>(by cases hL)⟩,⟨fun k n p=>(by cases p),fun k k' n N p=>(by cases p)⟩,i.iq,i.hB,⟨fun j d=>?_,?_,fun _ _=>rfl⟩,i.glob,i.g1,fun k n L v e I b p=>(by cases p)⟩
  ·intro j l d
   have d:upd g.G b c.toList j=some l:=d;by_cases A:j=b
   ·subst A
    rw[upd_same] at d;obtain rfl:=Option.some.inj d;exact⟨c,e,_,Y,QA⟩
   ·rw[fU _ _ _ _ A] at d
    exact o.gok j l d
  ·have:j≠b:=fun A=>d (by rw[A,H];exact D)
   show upd g.G b c.toList j=_;rw[fU _ _ _ _ this];exact o.ext.1 j (by rw[←H];exact d)
  ·exact o.ext.2.1.trans f
 ·rw[show vz [a.tmps.getD t undef]=a.tmps.getD t undef from rfl,S]
  show aK (upd g.G b c.toList) (.rptr sh (.agg n) 0) _;unfold aK;refine⟨b,0,c.toList,rfl,upd_same _ _ _,m,.agg c,?_,?_⟩
  ·unfold aK
   exact⟨c.toList,by simp,(eD _ _).2 r⟩
  ·have U:=iB _ _ m
   have K:n.length=c.toList.length:=r.1;rw[Ko,U,K,QA];simp[Value.cells]
theorem jk {α:Type} {fn:Func} {args:af} {K:V→Option α} {r:α} {e:Ex} {s':St} (j:zW E.P fn args K e s'=some r):
  ∃v,K v=some r∧((o5 v=false∧handed args=false∧(e=.norm∨e=.ret)∧MW E fn s' v)∨
   (∃x bs,v=.out false x bs∧(e=.norm∨e=.ret)∧ ∀{B B2:Own} {G0:aJ} {w0:World} {g:Gh} {a:Act} {w:World},B2.m=B.m→B2.n=B.n→B2.df=[]→(∀a b,(a,b)∈jc 0 args→B2.β a=B.β a)→Inv E B G0 w0 s' g a w→ ∃u g',(results fn a.tmps).run E.P w=.ok u w∧Inv E B2 G0 w0 ⟨[x],eY 0 args bs⟩ g' ⟨#[u],[]⟩ w)∨
   (∃x bs u,v=.out true x bs∧(∃y,e=.ku y∧bQ y=some u)∧ ∀{B B2:Own} {G0:aJ} {w0:World} {g:Gh} {a:Act} {w:World},B2.m=B.m→B2.n=B.n→B2.df=[]→(∀a b,(a,b)∈jc 0 args→B2.β a=B.β a)→Inv E B G0 w0 s' g a w→ ∃g',Inv E B2 G0 w0 ⟨[x],eY 0 args bs⟩ g' ⟨#[u],[]⟩ w)):=by
 have d:(e=.norm∨e=.ret)→(match oW E.P s' fn.results.toList with|some vs=>(bif handed args then nW false (MU vs) s' args K else K (Ii vs))|none=>bif handed args then none else(match Bj s' fn.results.toList with|some r=>K r|none=>none))=some r→
   ∃v,K v=some r∧((o5 v=false∧handed args=false∧(e=.norm∨e=.ret)∧MW E fn s' v)∨
   (∃x bs,v=.out false x bs∧(e=.norm∨e=.ret)∧ ∀{B B2:Own} {G0:aJ} {w0:World} {g:Gh} {a:Act} {w:World},B2.m=B.m→B2.n=B.n→B2.df=[]→(∀a b,(a,b)∈jc 0 args→B2.β a=B.β a)→Inv E B G0 w0 s' g a w→ ∃u g',(results fn a.tmps).run E.P w=.ok u w∧Inv E B2 G0 w0 ⟨[x],eY 0 args bs⟩ g' ⟨#[u],[]⟩ w)∨
   (∃x bs u,v=.out true x bs∧(∃y,e=.ku y∧bQ y=some u)∧ ∀{B B2:Own} {G0:aJ} {w0:World} {g:Gh} {a:Act} {w:World},B2.m=B.m→B2.n=B.n→B2.df=[]→(∀a b,(a,b)∈jc 0 args→B2.β a=B.β a)→Inv E B G0 w0 s' g a w→ ∃g',Inv E B2 G0 w0 ⟨[x],eY 0 args bs⟩ g' ⟨#[u],[]⟩ w)):=by
  intro k h;split at h
  ·rename_i vs c
   cases o:handed args with
   |false=>
    rw[o,gF] at h;refine⟨_,h,.inl ⟨?_,rfl,k,LX c⟩⟩
    cases vs with
    |nil=>rfl
    |cons v l=>cases l with
     |cons _ _=>rfl
     |nil=>
      have:lH v=true:=by
       cases i:fn.results.toList with
       |nil=>rw[i] at c;cases c
       |cons x J=>
        rw[i] at c;simp only[oW] at c;split at c
        ·cases c
        ·rename_i y H
         split at c
         ·cases c
         ·simp only[aI,U2] at c
          rw[←c.1];exact Ph H
      show o5 v=false
      cases v with
      |out _ _ _=>exact Pn c
      |keep _ _=>exact LW c
      |_=>rfl
   |true=>
    rw[o,iy] at h;obtain⟨A,bs,z,_,_,f⟩:=Ap (E:=E) h;refine⟨_,z,.inr (.inl ⟨A,bs,rfl,k,fun {B B2 G0 w0 g a w} m1 s t D q=>?_⟩)⟩;obtain⟨us,p,C⟩:=oI q _ _ c;obtain⟨g',G⟩:=f m1 s t D q (Pk C);exact⟨_,g',lC p,G⟩
  ·cases o:handed args with
   |true=>rw[o,iy] at h;cases h
   |false=>
    rw[o,gF] at h;split at h
    ·rename_i v F
     exact⟨v,h,.inl ⟨VS F,rfl,k,LY F⟩⟩
    ·cases h
 cases e with
 |norm=>exact d (.inl rfl) j
 |ret=>exact d (.inr rfl) j
 |exit id=>cases j
 |ku y=>
  have j:(match bQ y with|some _=>nW true y s' args K|none=>none)=some r:=j;split at j
  ·rename_i u p
   obtain⟨A,bs,z,I,_,f⟩:=Ap (E:=E) j;refine⟨_,z,.inr (.inr ⟨A,bs,u,rfl,⟨y,rfl,p⟩,fun {B B2 G0 w0 g a w} m1 s t D q=>f m1 s t D q (u6 p).1⟩)⟩
  ·cases j
theorem Inv.redf {B:Own} {G0:aJ} {w0:World} {s:St} {g:Gh} {a:Act} {w:World} (h:Inv E B G0 w0 s g a w) (df:List Deferred):Inv E {B with df:=df} G0 w0 s g {a with defers:=df} w:=
 ⟨h.fr,rfl,h.gok,h.own,h.bxs,h.iq,h.hB,h.ext,h.glob,h.g1,h.zb⟩
theorem CY {c a b:Code} {e o2:Oper} (h:F5 c=some (a,e,o2,b)): ∃id,c=.seq a (.seq (.region id #[e,o2] false) b):=by
 unfold F5 at h;split at h
 ·rename_i x id ops y
  split at h
  ·rename_i p q d
   split at h
   ·simp only[aI,bU] at h
    obtain⟨rfl,rfl,rfl,rfl⟩:=h;have:ops= #[p,q]:=by rw[←Hz];simpa using d
    exact⟨id,by rw[this]⟩
   ·cases h
  ·cases h
 ·cases h
end
section
variable {E:Env}
theorem wu {g:Gh} {β':Nat→Option Nat} {k a:Nat} (n:β' a=g.β k) (i: ∀j,j≠a→β' j=g.β j) {x:V} {v:Value} (hx:pZ a x=false) (h:bA g x v):bA {g with β:=β'} (rbV k a x) v:=by
 cases x with
 |box j off=>
  obtain⟨b,d,f⟩:=h;show bA _ (bif j==k then .box a off else .box j off) v
  cases m:j==k with
  |true=>
   obtain rfl:j=k:=by simpa using m
   exact⟨b,n.trans d,f⟩
  |false=>
   have c:j≠a:=fun e=>by subst e;simp[pZ] at hx
   exact⟨b,(i j c).trans d,f⟩
 |sl e sh l xs=>cases l<;>exact h
 |eptr _ _ _ _ _ _=>exact h
 |_=>exact h
theorem LZ {k a:Nat} {x:V} (h:x.single=true):(rbV k a x).single=true:=by
 cases x with
 |box j off=>show(bif j==k then V.box a off else .box j off).single=true;cases j==k<;>rfl
 |tup _=>cases h
 |fn _ _=>cases h
 |_=>rfl
theorem Nn {g:Gh} {β':Nat→Option Nat} {k e:Nat} (d:β' e=g.β k) (b: ∀j,j≠e→β' j=g.β j) {x:V} {v:Value} (hx:x.fO e=false) (h:aG g x v):aG {g with β:=β'} (x.rb k e) v:=by
 cases x with
 |tup vs=>
  obtain⟨a,rfl,h⟩:=h;simp only[V.fO,U1] at hx;exact⟨a,rfl,dQ h fun y i v l=>wu d b (by have:=hx y i;simpa using this) l⟩
 |fn f c=>
  obtain⟨a,rfl,h⟩:=h;simp only[V.fO,U1] at hx;exact⟨a,rfl,dQ h fun y i v l=>wu d b (by have:=hx y i;simpa using this) l⟩
 |box j off=>exact bq (LZ (x:=.box j off) rfl) (wu (x:=.box j off) d b hx (aP (x:=.box j off) rfl h))
 |_=>simp only[aG,V.fO] at h hx⊢;exact wu d b hx h
theorem pO {k g:Nat}: ∀(l:List (Nat×af)),(∀p∈l,p.1≠g)→ ∀j m,aA (Vn k g l) j=some m→ ∃d b,aA l d=some b∧m=b.map (V.rb k g)∧j=if d=k then g else d
 |[],_,j,m,h=>by cases h
 |(i,c)::l,hl,j,m,h=>by
  have s:i≠g:=hl (i,c) vg;unfold Vn aA at h
  cases f:(bif i==k then g else i)==j with
  |true=>
   rw[f,iy] at h;simp only[aI] at h;refine⟨i,c,by unfold aA;rw[Hl,iy],h.symm,?_⟩;rw[ig] at f;rw[←f];by_cases a:i=k
   ·subst a;rw[Hl,iy,if_pos rfl]
   ·have:(i==k)=false:=by simpa using a
    rw[this,gF,if_neg a]
  |false=>
   rw[f,gF] at h;obtain⟨d,b,r,q,h3⟩:=pO l (fun p o=>hl p (xE _ o)) j m h;refine⟨d,b,?_,q,h3⟩;unfold aA;have n:i≠d:=by
    intro e;subst e;rw[qD] at f;apply f
    rw[h3];by_cases a:i=k
    ·subst a;rw[Hl,iy,if_pos rfl]
    ·have:(i==k)=false:=by simpa using a
     rw[this,gF,if_neg a]
   have:(i==d)=false:=by simpa using n
   rw[this,gF];exact r
theorem Inv.rb {B:Own} {G0:aJ} {w0:World} {s:St} {g:Gh} {a:Act} {w:World} (h:Inv E B G0 w0 s g a w) {k f:Nat} (y:s.iR f=true) (U:k≠f):
  Inv E {B with β:=fun j=>if j=f then g.β k else B.β j} G0 w0 (s.rb k f) {g with β:=fun j=>if j=f then g.β k else g.β j} a w:=by
 have I:(fun j=>if j=f then g.β k else g.β j) f=g.β k:=if_pos rfl;have G: ∀j,j≠f→(fun j=>if j=f then g.β k else g.β j) j=g.β j:=fun j o=>if_neg o
 have d: ∀p∈s.bx,p.1≠f:=fun p R e=>by
  unfold St.iR at y;rw[bL,ko,ko] at y;have:=y.2 p R;simp only[bL] at this;have:=eZ this.1;rw[qD] at this;exact this e
 refine⟨dQ h.fr fun x hx v=>Nn I G (vZ y x hx),h.df,h.gok,h.own,⟨fun j u o=>?_,fun j K u C o A t=>?_⟩,h.iq,h.hB,⟨h.ext.1,h.ext.2.1,fun j o=>?_⟩,h.glob,h.g1,fun j u L v e S b o hL t hβ=>?_⟩
 ·obtain⟨i,m,q,rfl,rfl⟩:=pO s.bx d j u o
  obtain⟨b,c,e,H,T,M,O,Q,N,P⟩:=h.bxs.1 i m q;have n:i≠f:=d _ (iX _ _ _ q);refine⟨b,c,e,?_,T,M,dQ O fun x hx v=>Nn I G ((j3 y i m q).2 x hx),Q,N,jA (Vz _ _) P⟩;show(if(if i=k then f else i)=f then g.β k else g.β (if i=k then f else i))=some b;by_cases l:i=k
  ·subst l;simp[H]
  ·rw[if_neg l,if_neg n];exact H
 ·obtain⟨i,m,q,_,rfl⟩:=pO s.bx d j u o
  obtain⟨r,D,J,_,rfl⟩:=pO s.bx d K C A;have n:i≠f:=d _ (iX _ _ _ q);have z:r≠f:=d _ (iX _ _ _ J);have F: ∀j,j≠f→(if(if j=k then f else j)=f then g.β k else g.β (if j=k then f else j))=g.β j:=by
   intro j o;by_cases l:j=k
   ·subst l;simp
   ·rw[if_neg l,if_neg o]
  have t:(if(if i=k then f else i)=f then g.β k else g.β (if i=k then f else i))=(if(if r=k then f else r)=f then g.β k else g.β (if r=k then f else r)):=t;rw[F i n,F r z] at t;rw[h.bxs.2 i r m D q J t]
 ·show(if j=f then g.β k else g.β j)=(if j=f then g.β k else B.β j)
  split
  ·rfl
  ·exact h.ext.2.2 j o
 ·obtain⟨i,m,q,_,rfl⟩:=pO s.bx d j u o
  have n:i≠f:=d _ (iX _ _ _ q);have hβ:(if(if i=k then f else i)=f then g.β k else g.β (if i=k then f else i))=some b:=hβ;refine h.zb i m L v e S b q hL t ?_;by_cases l:i=k
  ·subst l;simpa using hβ
  ·rw[if_neg l,if_neg n] at hβ;exact hβ
theorem II {G0:aJ} {w0:World} {a:Act} {w:World}: ∀(c:af) (j:Nat) (B:Own) (s s':St) (g:Gh) (o:List Value),Inv E B G0 w0 s g a w→nY j c s=some s'→PW (bA g) c o→
  ∃B' g',B'.m=B.m∧B'.n=B.n∧B'.df=B.df∧(∀k,k<HL+5000+j→B'.β k=B.β k)∧(∀i v,o[i]? =some v→ ∃b,B'.β (HL+5000+j+i)=some b∧v=.pointer (some ⟨b,0,none⟩))∧Inv E B' G0 w0 s' g' a w
 |[],j,B,s,s',g,o,h,d,e=>by
  simp only[nY,aI] at d;subst d;rw[e.bR];exact⟨B,g,rfl,rfl,rfl,fun _ _=>rfl,fun i v l=>by simp at l,h⟩
 |x::c,j,B,s,s',g,o,h,d,e=>by
  cases x with
  |box k off=>
   cases off with
   |succ n=>cases d
   |zero=>
   unfold nY at d;obtain⟨f,d⟩:=aC d;rw[bL] at f;have F:=iJ f.2;obtain⟨v,t,rfl,⟨b,q,l⟩,H⟩:=e.cons_inv;have J:k≠HL+5000+j:=by omega
   have r:=h.rb f.1 J;have y:PW (bA {g with β:=fun i=>if i=HL+5000+j then g.β k else g.β i}) c t:=by
    refine caps_pw (s:=s.rb k (HL+5000+j)) c (j+1) d H fun i M=>?_
    show(if i=HL+5000+j then g.β k else g.β i)=g.β i;rw[if_neg (by omega)]
   obtain⟨B',g',m1,C,G,z,L,A⟩:=II c (j+1) _ _ s' _ t r d y;refine⟨B',g',m1,C,G,fun i M=>?_,fun i u p=>?_,A⟩
   ·rw[z i (by omega)]
    show(if i=HL+5000+j then g.β k else B.β i)=B.β i;rw[if_neg (by omega)]
   ·cases i with
    |zero=>
     simp only[Dt,aI] at p;subst p;refine⟨b,?_,l⟩;rw[Oq,z (HL+5000+j) (by omega)];show(if HL+5000+j=HL+5000+j then g.β k else _)=some b;rw[if_pos rfl];exact q
    |succ i=>
     simp only[ZZ] at p;obtain⟨I,K,O⟩:=L i u p;exact⟨I,by rw[←K];congr 1;omega,O⟩
  |_=>cases d
where
 caps_pw {g:Gh} {β':Nat→Option Nat} {s s':St}: ∀(c:af) (j:Nat),nY j c s=some s'→ ∀{t:List Value},PW (bA g) c t→(∀i,i<HL→β' i=g.β i)→PW (bA {g with β:=β'}) c t:=by
  intro c;induction c generalizing s with
  |nil=>intro j _ t e _;rw[e.bR];exact .nil
  |cons x c N=>
   intro j d t e hβ;obtain⟨v,t,rfl,r,D⟩:=e.cons_inv
   cases x with
   |box k off=>
    cases off with
    |succ n=>cases d
    |zero=>
     unfold nY at d;obtain⟨f,d⟩:=aC d;rw[bL] at f;obtain⟨b,q,l⟩:=r;exact .cons ⟨b,(hβ k (iJ f.2)).trans q,l⟩ (N (j+1) d D hβ)
   |_=>cases d
theorem CZ {g:Gh}: ∀(a:af) (j:Nat) (c:List Value),a.length=c.length→(∀i v,c[i]? =some v→ ∃b,g.β (HL+5000+j+i)=some b∧v=.pointer (some ⟨b,0,none⟩))→PW (FE g) (jF j a) c
 |[],j,c,hl,_=>by
  have:c=[]:=UJ hl.symm;rw[this];exact .nil
 |x::a,j,[],hl,_=>by simp at hl
 |x::a,j,v::c,hl,h=>by
  unfold jF;obtain⟨b,k,d⟩:=h 0 v rfl;refine .cons (.inr ⟨b,by simpa using k,d⟩) (CZ a (j+1) c (by simpa using hl) fun i u e=>?_);obtain⟨f,l,m⟩:=h (i+1) u (by simpa using e);exact⟨f,by rw[←l];congr 1;omega,m⟩
theorem Np: ∀(args:af) (j:Nat) {a b:Nat},(a,b)∈jc j args→a<HL+j+args.length
 |[],j,a,b,h=>by cases h
 |x::args,j,a,b,h=>by
  have c:(a,b)∈jc (j+1) args→a<HL+j+(x::args).length:=fun h=>by have:=Np args (j+1) h;rw[fQ];omega
  cases x with
  |bxa off d=>
   unfold jc at h;rcases List.mem_cons.1 h with h|h
   ·simp only[bU] at h
    obtain⟨rfl,rfl⟩:=h;rw[fQ];omega
   ·exact c h
  |_=>exact c h
theorem GR (hE:qy E) {id:Nat} (b:jd E.P id=true) (args:Array Value) (w:World):(callFunc id args).run E.P w=.ok (.enter id args) w:=by
 unfold jd at b;split at b
 ·rename_i fn c
  have a:fn.name≠ "runtime.NumGoroutine" :=by
   have:=Array.all_eq_true_iff_forall_mem.1 hE.names fn (Z0 c);have d:fn.body.isNone=false:=by cases f:fn.body with|none=>rw[f] at b;cases b|some _=>rfl
   rw[d] at this;simpa using this
  obtain⟨g,e⟩:=Option.isSome_iff_exists.1 b;simp[callFunc,c,a,e]
 ·cases b
theorem lq {args:af} (c:handed args=false):bF 0 args=args∧dF 0 args=[]:=by
 have: ∀(l:af) (j:Nat),handed l=false→bF j l=l∧dF j l=[]:=by
  intro l;induction l with
  |nil=>intro j _;exact⟨rfl,rfl⟩
  |cons x l a=>
   intro j h;unfold handed at h;rw[X8,Fv] at h;obtain⟨d,b⟩:=a (j+1) h.2
   cases x with
   |bxa off e=>cases h.1
   |_=>exact⟨by unfold bF;rw[d];rfl,b⟩
 exact this args 0 c
def DfEnd (E:Env) (fn:Func) (gf:Nat) (d args:af) (B:Own) (g:Gh) (R:Ending→World→Prop) (f:Ex) (l:St) (w:World):Prop:=
 ∃(rec:V) (k:af) (mb ml:List (Nat×Nat)) (Φ:V→List (af)→Prop),((rec=.nilif∧(f=.norm∨f=.ret))∨ ∃u,f=.ku rec∧bQ rec=some u)∧
  mJ l.bx 0 (jF 0 d)=some (k,mb,ml)∧mI mb ml=true∧jd E.P gf=true∧DC E gf k rec Φ∧ ∀h c,Φ h c→ ∃j,mO l none mb ml h c=some j∧
  ∀B4 o i e,B.m=B4.m→B.n=B4.n→(∀a b,(a,b)∈jc 0 args→B.β a=B4.β a)→Inv E B4 g.G w j o i e→ ∃v,(results fn i.tmps).run E.P e=.ok v e∧R (.returned v) e
theorem qT (hE:qy E) {α:Type} {call:Caller α} (ih:gz E call) {fuel f:Nat} {fn:Func} {cA cB:Code} {id:Nat} {n o2:Oper} {cl:Call} {t gf:Nat} {first ccaps:Array Operand} {c args:af}
  (hfn:E.P.funcs[f]? =some fn) (hb:fn.body=some (.seq cA (.seq (.region id #[n,o2] false) cB))) (hg1:n.guard=none) (hd1:n.dst=some t) (O:o2.op=.defer cl) (hg2:o2.guard=none) (hd2:o2.dst=none)
  (x:cl.callee=.value (.tmp t)) (k:cl.args.toList=[]) {s1 s2:St}
  (hl1:Rp E cA ⟨rQ fn (bF 0 args),dF 0 args⟩ .norm s1) (hopr:zS E s1.fr s1.bx n=some (true,.val (.fn gf c))) (htl:t<s1.fr.length) (hal:args.length<5000) (L:Nat.blt gf ul=true)
  (Y:nY 0 c (s1.put (some t) (.fn gf c))=some s2)
  {B:Own} {g:Gh} {w:World} {us:List Value} {R:Ending→World→Prop} (hdf:B.df=[]) (hi:Inv E B g.G w ⟨bF 0 args,dF 0 args⟩ g ⟨us.toArray,[]⟩ w)
  (hl3: ∀(B2:Own) (G0:aJ) (w0:World) (g5:Gh) (a5:Act) (s:World),Inv E B2 G0 w0 s2 g5 a5 s→ ∀Q:Exit→Act→World→Prop,(∀e3 s3 g' a' w',DfEnd E fn gf c args B g R e3 s3 w→Inv E B2 G0 w0 s3 g' a' w'→Q (qH e3) a' w')→cB.wp E.P Q a5 s):Calls E.P f us.toArray w R:=by
 refine calls_of_wp_defers hfn hb ?_;refine wp_seq (hl1 B g.G w g _ w (jN (fn:=fn) hi) _ fun g1 r s d=>?_);refine wp_seq (wp_region ?_);have J:List.range (#[n,o2]:Array Oper).size=[0,1]:=rfl;rw[J];have hdo:=iC (ac:=r) (B:=B) (w:=s) (g:=g1) (o:=n) hE rfl d.gok d.own d.bxs d.hB d.m1 d.fB (fun y=>cr d.fr d.fB y) hopr;obtain⟨fv,z,hfv⟩:=hdo;obtain⟨j,p,F⟩:=hfv;rw[vK L] at p;subst p;have hi2:=d.put (some t) (v:=.fn gf c) (u:=.func (.func gf) #[] j.toArray) ⟨j,(vK L).symm,F⟩;obtain⟨B',g',m1,m2,m3,m4,m5,Z⟩:=II c 0 B _ s2 g1 j hi2 Y F;unfold wpOps;simp only[abX,Dt];have hw1: ∀y,Region.wanted n y=true:=fun y=>by unfold Region.wanted;rw[hg1]
 have hw2: ∀y,Region.wanted o2 y=true:=fun y=>by unfold Region.wanted;rw[hg2]
 rw[if_pos (hw1 _)];refine .inl ?_;unfold Oper.wp;rw[z];show wpOps E.P #[n,o2] _ [1] (r.put n.dst _) s;rw[hd1];unfold wpOps;simp only[abX,ZZ,Dt];rw[if_pos (hw2 _)];refine .inl ?_;unfold Oper.wp;have Yf:(Act.put r (some t) (.func (.func gf) #[] j.toArray)).eval (.tmp t)=.func (.func gf) #[] j.toArray:=by
  have M:t<r.tmps.size:=by
   have:=d.fr.1;rw[Ai] at this;omega
  show(r.tmps.setIfInBounds t _).getD t undef=_;simp[Array.getD,M]
 have A:(execOp (Act.put r (some t) (.func (.func gf) #[] j.toArray)).eval o2).run E.P s=.ok (.defer {target:=.fn (.func gf) j.toArray,args:= #[]}) s:=by
  obtain⟨callee,D,cts⟩:=cl;simp only at x k;subst x;obtain rfl:D= #[]:=by rw[←Hz];simpa using k
  simp only[execOp,O,resolve,Deferred.ofValue,Yf];simp
 rw[A];rw[Oper.upon_defer,hd2];unfold wpOps;have hdf1:r.defers=[]:=d.df.trans hdf;have l:=Z.redf [{target:=.fn (.func gf) j.toArray,args:= #[]}];have e1:(Act.put r (some t) (.func (.func gf) #[] j.toArray)).defers=[]:=hdf1;rw[e1];refine hl3 _ g.G w _ _ s l _ fun e3 s3 g3 K S hP l=>?_
 obtain⟨rec,as,mb,ml,Φ,N,m,W,hbg,hDC,U⟩:=hP;have h: ∀u,Nk rec u→Leaves E.P fn K.tmps R K.defers u S:=by
  intro u hu;have hd3:K.defers=[{target:=.fn (.func gf) j.toArray,args:= #[]}]:=l.df;rw[hd3];have hcv:PW (FE g3) (jF 0 c) j:=CZ c 0 j F.1 fun i v hv=>by
   obtain⟨b,q1,q2⟩:=m5 i v hv;exact⟨b,by rw[l.ext.2.2 _ (by omega)];exact q1,q2⟩
  have X:=ni l hcv m W;have hrun:u≠.run:=by
   rcases hu with⟨_,rfl⟩|⟨q,_,rfl⟩
   ·intro e;cases e
   ·intro e;cases e
  refine leaves_cons (f:=gf) (args:=j.toArray) hrun ?_ ?_
  ·show(callFunc gf (#[]++j.toArray)).run E.P S=_
   rw[GR hE hbg];simp
  ·refine CallsD.mono (hDC (tK g3 S mb ml) (nX g3 mb ml) S j rfl X u hu) ?_
   rintro e u' w4 ⟨x0,bs0,g4,v4,hΦ,⟨v',rfl⟩,T,hx⟩;obtain⟨s4,I,hfin⟩:=U x0 bs0 hΦ;obtain⟨g5,h5⟩:=yB l m W I hx;have C: ∀a b,(a,b)∈jc 0 args→B.β a=B'.β a:=fun a b hab=>by
    have h6:=Np args 0 hab;exact(m4 a (by generalize HL=H at*;omega)).symm
   obtain⟨v,hv1,hv2⟩:=hfin {B' with df:=[{target:=.fn (.func gf) j.toArray,args:= #[]}]} g5 K w4 m1.symm m2.symm C h5;show Leaves E.P fn K.tmps R [] (settle u') w4;rw[T];exact⟨v,hv1,hv2⟩
 rcases N with⟨rfl,hee⟩|⟨u,rfl,hu⟩
 ·rcases hee with rfl|rfl
  ·exact h .returning (.inl ⟨rfl,rfl⟩)
  ·exact h .returning (.inl ⟨rfl,rfl⟩)
 ·show bodyPostD E.P fn R (.panic [{v:=(bQ rec).getD undef,recovered:=false}]) K S
  rw[hu];exact h _ (.inr ⟨u,hu,rfl⟩)
theorem IJ (hE:qy E) {α:Type} {call:Caller α} (ih:gz E call) (fuel:Nat):gz E (Bl false E call fuel):=by
 intro f args K r h;unfold Bl at h;split at h
 ·cases h
 ·rename_i fn H
  split at h
  ·rename_i c X hb p
   have ha:=p;rw[qR p] at h ha;clear p X;split at h
   ·
    obtain⟨e,s',he,hl⟩:=fJ hE ih _ rfl fuel c _ _ r h;rw[rV] at he;obtain⟨v,hK,hv⟩:=jk he;refine⟨v,hK,?_⟩;rcases hv with⟨ho,hh,D,A⟩|⟨x,bs,rfl,D,k⟩|⟨x,bs,u,rfl,⟨y,rfl,hu⟩,k⟩
    ·refine .inl ⟨ho,iL ha hh fun B g w us b L=>calls_of_wp H hb ?_⟩
     have hst:=jN (fn:=fn) L;rw[(lq hh).1,(lq hh).2] at hl;refine hl B g.G w g _ w hst _ fun g' a' w' i=>?_
     obtain⟨u,J,d,z,o⟩:=A (B2:=B) rfl rfl i;have j:=i.df.trans b;rw[b] at z;rcases D with rfl|rfl
     ·exact⟨j,_,d,_,J,rfl,z,o⟩
     ·exact⟨j,_,d,_,J,rfl,z,o⟩
    ·refine .inr (.inl ⟨false,x,bs,rfl,fun B g w us b L=>calls_of_wp H hb ?_⟩)
     refine hl B g.G w g _ w (jN (fn:=fn) L) _ fun g' a' w' i=>?_
     obtain⟨u,J,d,h2⟩:=k rfl rfl b (fun _ _ _=>rfl) i;have j:=i.df.trans b;rcases D with rfl|rfl
     ·exact⟨j,_,d,J,_,rfl,h2⟩
     ·exact⟨j,_,d,J,_,rfl,h2⟩
    ·refine .inr (.inl ⟨true,x,bs,rfl,fun B g w us b L=>calls_of_wp H hb ?_⟩)
     refine hl B g.G w g _ w (jN (fn:=fn) L) _ fun g' a' w' i=>?_
     obtain⟨J,h2⟩:=k rfl rfl b (fun _ _ _=>rfl) i;have j:=i.df.trans b;show bodyPost E.P fn _ (.panic [{v:=(bQ y).getD undef,recovered:=false}]) a' w';rw[hu];exact⟨j,J,_,rfl,h2⟩
   ·
    rename_i cA o1 o2 cB N;obtain⟨id,rfl⟩:=CY N;split at h
    ·rename_i gf first ccaps t cl hop1 hg1 hd1 R hg2 hd2
     split at h
     ·rename_i t' U q
      have Z:=aC h;obtain⟨Y,h9⟩:=Z;clear h;have Y:t=t':=by simpa using Y
      subst Y;obtain⟨e1,s1,l,hl1⟩:=fJ hE ih _ rfl fuel cA _ _ r h9
      cases e1 with
      |exit id=>cases l
      |ret=>cases l
      |ku v=>cases l
      |norm=>
      simp only at l;split at l
      ·rename_i g' V T
       obtain⟨hc1,he2⟩:=aC l;clear l;rw[bL,bL] at hc1;obtain⟨⟨hgg,M⟩,m⟩:=hc1;obtain⟨m,W⟩:=Bool.and_eq_true_iff.1 m;have hgg:g'=gf:=by simpa using hgg
       subst hgg;have M:=iJ M;obtain⟨m,W⟩:=Bool.and_eq_true_iff.1 m;have m:=iJ m;split at he2
       ·rename_i s2 S
        obtain⟨e3,s3,n,hl3⟩:=fJ hE ih _ rfl fuel cB _ _ r he2;have s: ∃rec,U8 false E call fuel fn g' (jF 0 V) (mG args) K rec s3=some r∧((rec=.nilif∧(e3=.norm∨e3=.ret))∨ ∃u,e3=.ku rec∧bQ rec=some u):=by
         cases e3 with
         |norm=>exact⟨.nilif,n,.inl ⟨rfl,.inl rfl⟩⟩
         |ret=>exact⟨.nilif,n,.inl ⟨rfl,.inr rfl⟩⟩
         |exit id=>cases n
         |ku v=>
          have n:(match bQ v with|some _=>U8 false E call fuel fn g' (jF 0 V) (mG args) K v s3|none=>none)=some r:=n;split at n
          ·rename_i u hu;exact⟨v,n,.inr ⟨u,rfl,hu⟩⟩
          ·cases n
        obtain⟨rec,s,O⟩:=s;unfold U8 at s;split at s
        ·rename_i as mb ml C
         obtain⟨ZO,YL⟩:=aC s;obtain⟨hbg,x0,bs0,I,hDC⟩:=Pm hE ih YL;simp only at I;split at I
         ·rename_i s4 F
          rw[rV] at I;obtain⟨v,hK,hv⟩:=jk I;refine⟨v,hK,?_⟩;rcases hv with⟨ho,hh,D,A⟩|⟨x,bs,rfl,D,k⟩|⟨x,bs,u,rfl,⟨y,hy,hu⟩,k⟩
          ·refine .inl ⟨ho,iL ha hh fun B g w us b L=>?_⟩
           have hi0:Inv E B g.G w ⟨bF 0 args,dF 0 args⟩ g ⟨us.toArray,[]⟩ w:=by rw[(lq hh).1,(lq hh).2];exact L
           refine qT hE ih H hb hg1 hd1 R hg2 hd2 U q hl1 T M m W S (fuel:=fuel) (first:=first) (ccaps:=ccaps) b hi0 fun B2 G0 w0 g5 a5 w5 hi5 Q hq=>hl3 B2 G0 w0 g5 a5 w5 hi5 Q fun g' a' w' i=>hq e3 s3 g' a' w' ⟨rec,as,mb,ml,_,O,C,ZO,hbg,hDC,fun _ _ hΦ=>⟨s4,by rw[hΦ.1,hΦ.2];exact F,fun B4 g4 a4 w4 q1 q2 q3 hi4=>?_⟩⟩ i
           obtain⟨u,J,d,z,o⟩:=A (B2:=B) q1 q2 hi4;rw[b] at z;rw[←q1] at o;exact⟨_,d,_,J,rfl,z,o⟩
          ·refine .inr (.inl ⟨false,x,bs,rfl,fun B g w us b L=>?_⟩)
           refine qT hE ih H hb hg1 hd1 R hg2 hd2 U q hl1 T M m W S (fuel:=fuel) (first:=first) (ccaps:=ccaps) b L fun B2 G0 w0 g5 a5 w5 hi5 Q hq=>hl3 B2 G0 w0 g5 a5 w5 hi5 Q fun g' a' w' i=>hq e3 s3 g' a' w' ⟨rec,as,mb,ml,_,O,C,ZO,hbg,hDC,fun _ _ hΦ=>⟨s4,by rw[hΦ.1,hΦ.2];exact F,fun B4 g4 a4 w4 q1 q2 q3 hi4=>?_⟩⟩ i
           obtain⟨u,J,d,h2⟩:=k q1 q2 b q3 hi4;exact⟨_,d,J,_,rfl,h2⟩
          ·cases hy
         ·cases I
        ·cases s
       ·cases he2
      ·cases l
     ·cases h
    ·cases h
  ·cases h
def oG:V→V
 | .sK b x y=>match b with|true=>oG x|false=>oG y
 |v=>v
theorem sw {α:Type} {K:V→Option α} {r:α}: ∀v:V,zX K v=some r→K (oG v)=some r
 | .sK b x y,h=>by
  unfold zX at h;unfold oG;rcases jB h with⟨rfl,h⟩|⟨rfl,h⟩
  ·exact sw x h
  ·exact sw y h
 | .any,h=>h
 | .bool _,h=>h
 | .int _ _,h=>h
 | .str _,h=>h
 | .agg _,h=>h
 | .tup _,h=>h
 | .nilsl,h=>h
 | .sl _ _ _ _,h=>h
 | .rptr _ _ _,h=>h
 | .box _ _,h=>h
 | .eptr _ _ _ _ _ _,h=>h
 | .fn _ _,h=>h
 | .nilif,h=>h
 | .nilp,h=>h
 | .iface _ _,h=>h
 | .bxa _ _,h=>h
 | .out _ _ _,h=>h
 | .old _,h=>h
 | .slz _ _ _ _ _ _ _ _ _ _,h=>h
 | .epz _ _ _ _ _,h=>h
 | .keep _ _,h=>h
def RP (E:Env) (f:Nat) (args:af) (r:V):Prop:=(f<GX→aj E f args r)∧(GX≤f→ ∀p x bs,oG r=.out p x bs→XC E (f-GX) args p x bs)∧(KX≤f→ ∀p x,oG r=.keep p x→KC E (f-KX) args p x)
def bT (E:Env) (S:List (Nat×aN)):Prop:=∀f a,fI S f=some a→ ∀args r,a args=some (true,r)→RP E f args r
theorem bT.nil:bT E []:=fun f a h=>by cases h
theorem bT.Rq {S:List (Nat×aN)} {f:Nat} {d:aN} (h: ∀args r,d args=some (true,r)→RP E f args r) (i:bT E S):bT E ((f,d)::S):=by
 intro g c a args r e;unfold fI at a
 cases b:f==g with
 |true=>
  rw[b,iy] at a;simp only[aI] at a;subst a;have:f=g:=by simpa using b
  subst this;exact h args r e
 |false=>
  rw[b,gF] at a;exact i g c a args r e
theorem bT.cons {S:List (Nat×aN)} {f:Nat} {c:aN} (h: ∀args r,c args=some (true,r)→aj E f args r) (d:bT E S) (b:Nat.blt f GX=true:=by rfl):bT E ((f,c)::S):=
 bT.Rq (fun args r e=>⟨fun _=>h args r e,fun a=>absurd (iJ b) (Nat.not_lt.2 a),fun a=>absurd (iJ b) (Nat.not_lt.2 (Dy (show GX≤KX by decide) a))⟩) d
theorem bT.Bn {S:List (Nat×aN)} {f:Nat} {b:aN} (h: ∀args r,b args=some (true,r)→ ∀p x bs,oG r=.out p x bs→XC E f args p x bs) (c:bT E S) (a:Nat.blt f GX=true:=by rfl):bT E ((GX+f,b)::S):=
 bT.Rq (fun args r d=>⟨fun a=>absurd a (by omega),fun _ p x bs g=>by rw[show GX+f-GX=f by omega];exact h args r d p x bs g,fun e=>absurd e (by have:=iJ a;unfold GX KX at*;omega)⟩) c
theorem bT.XH {S:List (Nat×aN)} {f:Nat} {b:aN} (h: ∀args r,b args=some (true,r)→ ∃p x,oG r=.keep p x∧KC E f args p x) (i:bT E S):bT E ((KX+f,b)::S):=
 bT.Rq (fun args r g=>by
  obtain⟨j,k,c,e⟩:=h args r g;refine⟨fun d=>absurd d (by unfold GX KX;omega),fun _ p x bs a=>?_,fun _ p x a=>?_⟩
  ·rw[c] at a;cases a
  ·rw[c] at a;cases a
   rw[show KX+f-KX=f by omega];exact e) i
theorem Nq {g:Gh} {x:V} {v:Value} (h:aG g x v):aG g x.sZ v:=by
 cases x with
 |sl e sh o xs=>exact bI rfl (kF (o:=o) (jI h))
 |old y=>
  show aG g (bif y.eH then y else .any) v
  cases y.eH
  ·exact gI
  ·exact bI h.2.2 h.2.1
 |_=>exact h
theorem qU: ∀(l:af) (j:Nat),gG l=false→bF j l=l∧dF j l=[]∧ ∀bs,eY j l bs=[]
 |[],_,_=>⟨rfl,rfl,fun _=>rfl⟩
 |x::l,j,h=>by
  unfold gG at h;rw[X8,Fv] at h;obtain⟨b,a,h3⟩:=qU l (j+1) h.2
  cases x with
  |bxa off c=>cases h.1
  |_=>exact⟨by unfold bF;rw[b];rfl,a,fun bs=>h3 bs⟩
theorem C4 (l:af):gG (l.map V.sZ)=gG l:=by
 unfold gG;rw[List.any_map];congr 1
 funext x
 cases x with
 |old y=>
  show(bif y.eH then y else .any).vw=false
  cases y with
  |sl e sh o xs=>cases o<;>rfl
  |_=>rfl
 |_=>rfl
theorem Zd {f:Nat} {args:af} {p:Bool} {x:V} {bs:List (af)} (d:gG args=false) (h:XC E f (args.map V.sZ) p x bs):XC E f args p x bs:=by
 obtain⟨o,i,h3⟩:=qU args 0 d;obtain⟨e,l,m⟩:=qU (args.map V.sZ) 0 (by rw[C4];exact d);intro B g w vs b a;rw[o,i] at a;have c:Inv E B g.G w ⟨bF 0 (args.map V.sZ),dF 0 (args.map V.sZ)⟩ g ⟨vs.toArray,[]⟩ w:=by
  rw[e,l];exact a.less (dQ a.fr fun y _ v n=>Nq n) (fun k q j=>j)
 have:=h B g w vs b c;rw[m] at this;rw[h3];exact this
theorem GU {f:Nat} {args:af} {r:V} (h:aj E f (args.map V.sZ) r):aj E f args r:=by
 intro G w vs d a c;refine h G w vs d a (dQ c fun y _ v b=>?_)
 cases y with
 |sl e sh o xs=>exact kF (o:=o) b
 |old y=>unfold aK at b;exact b.elim
 |_=>exact b
theorem VT (args:af):(args.map V.sZ).map V.sZ=args.map V.sZ:=by
 rw[UL];refine U0 fun x _=>?_
 cases x with
 |old y=>
  show(bif y.eH then y else .any).sZ=(bif y.eH then y else .any)
  cases y with
  |sl e sh o xs=>cases o<;>rfl
  |_=>rfl
 |_=>rfl
theorem Ze {f:Nat} {args:af} {p:Bool} {x:V} (d:gG args=false) (h:KC E f (args.map V.sZ) p x):KC E f args p x:=by
 obtain⟨n,i,h3⟩:=qU args 0 d;obtain⟨e,l,o⟩:=qU (args.map V.sZ) 0 (by rw[C4];exact d);intro B g w vs b a;rw[n,i] at a;have c:Inv E B g.G w ⟨bF 0 (args.map V.sZ),dF 0 (args.map V.sZ)⟩ g ⟨vs.toArray,[]⟩ w:=by
  rw[e,l];exact a.less (dQ a.fr fun y _ v m=>Nq m) (fun k q j=>j)
 exact h B g w vs b c
theorem Cf (hE:qy E) {S:List (Nat×aN)} (t:bT E S) (fuel:Nat) {α:Type}: ∀d,gz E (cu (α:=α) E S fuel d):=by
 have i: ∀f a,fI S (KX+f)=some a→ ∀args (K:V→Option α) r,(match a args with|some (c,r)=>sel c (zX (fun v=>match v with| .keep p x=>K (.keep p x)|_=>none) r) none|none=>none)=some r→ ∃v,K v=some r∧Va E f args v:=by
  intro f a b args K r h;split at h
  ·rename_i c v e
   rcases jB h with⟨rfl,h⟩|⟨_,h⟩
   ·have j:=sw v h
    split at j
    ·rename_i p x m
     have:=(t _ a b args v e).2.2 (by omega) p x m;rw[show KX+f-KX=f by omega] at this;exact⟨_,j,.inr (.inr ⟨p,x,rfl,this⟩)⟩
    ·cases j
   ·cases h
  ·cases h
 have k: ∀f a,fI S (GX+f)=some a→ ∀args (K:V→Option α) r,(match a args with|some (c,r)=>sel c (zX (fun v=>match v with| .out p x bs=>K (.out p x bs)|_=>none) r) none|none=>none)=some r→ ∃v,K v=some r∧Va E f args v:=by
  intro f a b args K r h;split at h
  ·rename_i c v e
   rcases jB h with⟨rfl,h⟩|⟨_,h⟩
   ·have j:=sw v h
    split at j
    ·rename_i p x bs m
     have:=(t _ a b args v e).2.1 (by omega) p x bs m;rw[show GX+f-GX=f by omega] at this;exact⟨_,j,.inr (.inl ⟨p,x,bs,rfl,this⟩)⟩
    ·cases j
   ·cases h
  ·cases h
 have l: ∀f a,fI S f=some a→f<GX→ ∀args (K:V→Option α) r,(match a (args.map V.sZ) with|some (c,r)=>sel c (match r with| .out _ _ _=>none| .keep _ _=>none|r=>K r) none|none=>none)=some r→ ∃v,K v=some r∧Va E f args v:=by
  intro f a b g args K r h;split at h
  ·rename_i c v e
   rcases jB h with⟨rfl,h⟩|⟨_,h⟩
   ·have q:=(t _ a b _ v e).1 g
    split at h
    ·cases h
    ·cases h
    ·rename_i s n
     refine⟨v,h,.inl ⟨?_,q⟩⟩
     cases v<;>first|rfl|exact absurd rfl (s _ _ _)|exact absurd rfl (n _ _)
   ·cases h
  ·cases h
 have one: ∀(f:Nat) (args:af) (K:V→Option α) (r:α) (X:Option α),(X=some r→ ∃v,K v=some r∧Va E f args v)→(match fI S (KX+f) with
  |some a=>match a args with|some (c,r)=>sel c (zX (fun v=>match v with| .keep p x=>K (.keep p x)|_=>none) r) none|none=>none
  |none=>match fI S (GX+f) with
  |some a=>match a args with|some (c,r)=>sel c (zX (fun v=>match v with| .out p x bs=>K (.out p x bs)|_=>none) r) none|none=>none
  |none=>bif Nat.blt f GX then(match fI S f with
   |some a=>match a (args.map V.sZ) with|some (c,r)=>sel c (match r with| .out _ _ _=>none| .keep _ _=>none|r=>K r) none|none=>none
   |none=>X) else none)=some r→ ∃v,K v=some r∧Va E f args v:=by
  intro f args K r X u h;split at h
  ·rename_i a b;exact i f a b args K r h
  split at h
  ·rename_i a b;exact k f a b args K r h
  ·obtain⟨g,h⟩:=aC h
   split at h
   ·rename_i a b;exact l f a b (iJ g) args K r h
   ·exact u h
 intro d;induction d with
 |zero=>
  intro f args K r h;exact one f args K r none (fun h=>by cases h) h
 |succ d z=>
  intro f args K r h;refine one f args K r _ (fun h=>?_) h;obtain⟨v,w,e⟩:=IJ hE z fuel f _ K r h;refine⟨v,w,?_⟩
  cases o:gG args with
  |true=>rw[o,iy] at e;exact e
  |false=>
   rw[o,gF] at e;rcases e with⟨y,q⟩|⟨p,x,bs,rfl,hx⟩|⟨p,x,rfl,hx⟩
   ·rw[VT] at q;exact .inl ⟨y,q⟩
   ·exact .inr (.inl ⟨p,x,bs,rfl,Zd o hx⟩)
   ·exact .inr (.inr ⟨p,x,rfl,Ze o hx⟩)
theorem Nr {f:Nat} {args:af} {r:V} {fn:Func} {c:Code} (s:E.P.funcs[f]? =some fn) (J:fn.body=some c) (N:qK args=some args) (K:o5 r=false→handed args=false)
  (m: ∀(B:Own) (g:Gh) (w:World) (us:List Value),Inv E B g.G w ⟨bF 0 args,dF 0 args⟩ g ⟨us.toArray,[]⟩ w→ ∀Q:Exit→Act→World→Prop,(∀e s' g' t w',zW E.P fn args some e s'=some r→Inv E B g.G w s' g' t w'→Q (qH e) t w')→c.wp E.P Q (Act.mk (us.toArray++Array.replicate (fn.ntmps-us.toArray.size) undef) []) w):Va E f args r:=by
 cases i:o5 r with
 |false=>
  refine .inl ⟨i,iL N (K i) fun B g w us b A=>calls_of_wp s J ?_⟩;refine m B g w us (by rw[(lq (K i)).1,(lq (K i)).2];exact A) _ fun e s' g' t w' C d=>?_
  obtain⟨v,k,D⟩:=jk C;simp only[aI] at k;subst k;rcases D with⟨_,_,n,z⟩|⟨x,bs,rfl,_,_⟩|⟨x,bs,u,rfl,_,_⟩
  ·obtain⟨u,o,h,q,l⟩:=z (B2:=B) rfl rfl d
   have a:=d.df.trans b;rw[b] at q;rcases n with rfl|rfl
   ·exact⟨a,_,h,_,o,rfl,q,l⟩
   ·exact⟨a,_,h,_,o,rfl,q,l⟩
  ·cases i
  ·cases i
 |true=>
  cases r with
  |out p H I=>
   refine .inr (.inl ⟨p,H,I,rfl,fun B g w us b A=>calls_of_wp s J ?_⟩);refine m B g w us A _ fun e s' g' t w' C d=>?_
   obtain⟨v,k,D⟩:=jk C;simp only[aI] at k;subst k;rcases D with⟨i,_⟩|⟨x,bs,hx,n,j⟩|⟨x,bs,u,hx,⟨y,rfl,L⟩,j⟩
   ·cases i
   ·cases hx
    obtain⟨u,o,h,F⟩:=j rfl rfl b (fun _ _ _=>rfl) d;have a:=d.df.trans b;rcases n with rfl|rfl
    ·exact⟨a,_,h,o,_,rfl,F⟩
    ·exact⟨a,_,h,o,_,rfl,F⟩
   ·cases hx
    obtain⟨o,F⟩:=j rfl rfl b (fun _ _ _=>rfl) d;have a:=d.df.trans b;show bodyPost E.P fn _ (.panic [{v:=(bQ y).getD undef,recovered:=false}]) t w';rw[L];exact⟨a,o,_,rfl,F⟩
  |keep M H=>exact .inr (.inr ⟨M,H,rfl,fun B g w us b A=>calls_of_wp s J (m B g w us A _ fun e s' g' t w' C d=>by
    obtain⟨v,k,D⟩:=jk C;simp only[aI] at k;subst k;rcases D with⟨i,_⟩|⟨x,bs,hx,_⟩|⟨x,bs,u,hx,_⟩
    ·cases i
    ·cases hx
    ·cases hx)⟩)
  |_=>cases i
theorem Zf (hE:qy E) {call:Caller V} (m:gz E call) (fuel:Nat) {f:Nat} {args:af} {r:V} (h:Rj E call fuel f args some=some r):Va E f args r:=by
 unfold Rj at h;split at h
 ·cases h
 ·rename_i fn j
  split at h
  ·rename_i c i o a
   have n:=a;rw[qR a] at h n;refine Nr j o n (fun l=>?_) fun B g w us t Q p=>VN hE m _ fuel c _ _ r h g _ w (jN (fn:=fn) t) Q fun e s' g' q w' b d=>?_
   ·obtain⟨e,s',b⟩:=Zc hE m rfl c _ _ r h
    rw[rV] at b;obtain⟨v,k,y⟩:=jk b;simp only[aI] at k;subst k;rcases y with⟨_,s,_⟩|⟨x,bs,rfl,_⟩|⟨x,bs,u,rfl,_⟩
    ·exact s
    ·cases l
    ·cases l
   ·rw[rV] at b
    exact p e s' g' q w' b d
  ·cases h
theorem KT (hE:qy E) {call:Caller V} (L:gz E call) (fuel:Nat) {f:Nat} {args:af} {r:V} (h:dn E call fuel f args some=some r):Va E f args r:=by
 have low:Bl false E call fuel f args some=some r→Va E f args r:=fun h=>by
  obtain⟨v,Z,hv⟩:=IJ hE L fuel f args some r h;simp only[aI] at Z;subst Z;exact hv
 unfold dn at h
 cases hit:itFn E f with
 |true=>rw[hit,iy] at h;exact Zf hE L fuel h
 |false=>
 rw[hit,gF] at h;by_cases hh:handed args=false;rotate_left
 ·have hh:handed args=true:=by simpa using hh
  refine low ?_;unfold Bl at h⊢
  cases F:E.P.funcs[f]? with
  |none=>rw[F] at h;cases h
  |some fn=>
   rw[F] at h;simp only at h⊢
   cases d:qK args with
   |none=>rw[d] at h;split at h<;>rename_i hq<;>first|cases hq|cases h
   |some K=>
    have hh2:handed K=true:=by rw[qR d];exact hh
    cases hb:fn.body with
    |none=>rw[hb] at h;cases h
    |some c=>
     simp only[hb,d,hh2] at h⊢;exact h
 ·unfold Bl at h
  split at h
  ·cases h
  ·rename_i fn F
   split at h
   ·rename_i c K hb d
    have ha:=d;rw[qR d] at h ha;split at h
    ·rename_i hsp
     have fin: ∀(B:Own) (g:Gh) (w:World) (us:List Value),Inv E B g.G w ⟨bF 0 args,dF 0 args⟩ g ⟨us.toArray,[]⟩ w→ ∀Q:Exit→Act→World→Prop,(∀e s' g' a' w',zW E.P fn args some e s'=some r→Inv E B g.G w s' g' a' w'→Q (qH e) a' w')→c.wp E.P Q (Act.mk (us.toArray++Array.replicate (fn.ntmps-us.toArray.size) undef) []) w:=by
      intro B g w us hi Q hq;refine jX hE L _ fuel c _ _ r h g _ w (jN (fn:=fn) hi) Q fun e s' g' a' w' he hi'=>?_
      rw[rV] at he;exact hq e s' g' a' w' he hi'
     exact Nr F hb ha (fun _=>hh) fin
    ·
     rename_i cA o1 o2 cB hsplit;obtain⟨id,rfl⟩:=CY hsplit;split at h
     ·rename_i gf first ccaps t cl hop1 hg1 hd1 M hg2 hd2
      split at h
      ·rename_i t' YM m
       obtain⟨htt,h9⟩:=aC h;clear h;have htt:t=t':=by simpa using htt
       subst htt;obtain⟨e1,s1,o,hl1⟩:=fJ hE L _ rfl fuel cA _ _ r h9
       cases e1 with
       |exit id=>cases o
       |ret=>cases o
       |ku v=>cases o
       |norm=>
       simp only at o;split at o
       ·rename_i g' I W
        obtain⟨hc1,he2⟩:=aC o;clear o;rw[bL,bL] at hc1;obtain⟨⟨hgg,X⟩,k⟩:=hc1;obtain⟨k,hgA⟩:=Bool.and_eq_true_iff.1 k;have hgg:g'=gf:=by simpa using hgg
        subst hgg;have X:=iJ X;obtain⟨k,hgA⟩:=Bool.and_eq_true_iff.1 k;have k:=iJ k;split at he2
        ·rename_i s2 R
         have O: ∀n D,YE (true&& !handed args) E call fuel fn g' (jF 0 I) (mG args) some n D=some r→ ∃(rec:V) (as:af) (mb ml:List (Nat×Nat)) (Φ:V→List (af)→Prop),
           ((rec=.nilif∧(n=.norm∨n=.ret))∨ ∃u,n=.ku rec∧bQ rec=some u)∧mJ D.bx 0 (jF 0 I)=some (as,mb,ml)∧mI mb ml=true∧jd E.P g'=true∧DC E g' as rec Φ∧ ∀x0 l,Φ x0 l→ ∃s4,mO D none mb ml x0 l=some s4∧zW E.P fn args some .ret s4=some r:=by
          intro n D q;have J: ∃rec,U8 (true&& !handed args) E call fuel fn g' (jF 0 I) (mG args) some rec D=some r∧((rec=.nilif∧(n=.norm∨n=.ret))∨ ∃u,n=.ku rec∧bQ rec=some u):=by
           cases n with
           |norm=>exact⟨.nilif,q,.inl ⟨rfl,.inl rfl⟩⟩
           |ret=>exact⟨.nilif,q,.inl ⟨rfl,.inr rfl⟩⟩
           |exit id=>cases q
           |ku v=>
            have q:(match bQ v with|some _=>U8 (true&& !handed args) E call fuel fn g' (jF 0 I) (mG args) some v D|none=>none)=some r:=q;split at q
            ·rename_i u hu;exact⟨v,q,.inr ⟨u,rfl,hu⟩⟩
            ·cases q
          obtain⟨rec,J,i⟩:=J;unfold U8 at J;split at J
          ·rename_i as mb ml b
           obtain⟨A,YL⟩:=aC J;obtain⟨C,H⟩:=VQ hE L YL;refine⟨rec,as,mb,ml,_,i,b,A,C,H,fun x0 l j=>?_⟩;simp only at j;split at j
           ·rename_i s4 U
            rw[rV] at j;exact⟨s4,U,j⟩
           ·cases j
          ·cases J
         cases ho:o5 r with
         |false=>
          refine .inl ⟨ho,iL ha hh fun B g w us z hi=>?_⟩;have hi0:Inv E B g.G w ⟨bF 0 args,dF 0 args⟩ g ⟨us.toArray,[]⟩ w:=by rw[(lq hh).1,(lq hh).2];exact hi
          refine qT hE L F hb hg1 hd1 M hg2 hd2 YM m hl1 W X k hgA R (fuel:=fuel) (first:=first) (ccaps:=ccaps) z hi0 fun B2 G0 w0 g5 a5 w5 Y Q hq=>jX hE L _ fuel cB s2 _ r he2 g5 a5 w5 Y Q fun n D g6 a6 w6 S N=>?_
          obtain⟨rec,as,mb,ml,Φ,i,b,A,C,H,s⟩:=O n D S;refine hq n D g6 a6 w6 ⟨rec,as,mb,ml,Φ,i,b,A,C,H,fun x0 l hΦ=>(s x0 l hΦ).imp fun s4 hs=>⟨hs.1,fun B4 g4 a4 w4 q1 q2 q3 hi4=>?_⟩⟩ N;have j:=hs.2;obtain⟨v,Z,hv⟩:=jk j;simp only[aI] at Z;subst Z;rcases hv with⟨_,_,hee,hret⟩|⟨x,bs,rfl,_,_⟩|⟨x,bs,u,rfl,_,_⟩
          ·obtain⟨u,g2,T,hfo,hres⟩:=hret (B2:=B) q1 q2 hi4
           rw[z] at hfo;rw[←q1] at hres;exact⟨_,T,_,g2,rfl,hfo,hres⟩
          ·cases ho
          ·cases ho
         |true=>
          cases r with
          |out p x0' bs0'=>
           refine .inr (.inl ⟨p,x0',bs0',rfl,fun B g w us z hi=>?_⟩);refine qT hE L F hb hg1 hd1 M hg2 hd2 YM m hl1 W X k hgA R (fuel:=fuel) (first:=first) (ccaps:=ccaps) z hi fun B2 G0 w0 g5 a5 w5 Y Q hq=>jX hE L _ fuel cB s2 _ _ he2 g5 a5 w5 Y Q fun n D g6 a6 w6 S N=>?_
           obtain⟨rec,as,mb,ml,Φ,i,b,A,C,H,s⟩:=O n D S;refine hq n D g6 a6 w6 ⟨rec,as,mb,ml,Φ,i,b,A,C,H,fun x0 l hΦ=>(s x0 l hΦ).imp fun s4 hs=>⟨hs.1,fun B4 g4 a4 w4 q1 q2 q3 hi4=>?_⟩⟩ N;have j:=hs.2;obtain⟨v,Z,hv⟩:=jk j;simp only[aI] at Z;subst Z;rcases hv with⟨ho,_⟩|⟨x,bs,hx,hee,hfin⟩|⟨x,bs,u,hx,⟨y,hy,hu⟩,hfin⟩
           ·cases ho
           ·cases hx
            obtain⟨u,g2,T,h2⟩:=hfin q1 q2 z q3 hi4;exact⟨_,T,g2,_,rfl,h2⟩
           ·cases hy
          |keep p0 x0'=>exact .inr (.inr ⟨p0,x0',rfl,fun B g w us z hi=>by
            refine qT hE L F hb hg1 hd1 M hg2 hd2 YM m hl1 W X k hgA R (fuel:=fuel) (first:=first) (ccaps:=ccaps) z hi fun B2 G0 w0 g5 a5 w5 Y Q hq=>jX hE L _ fuel cB s2 _ _ he2 g5 a5 w5 Y Q fun n D g6 a6 w6 S N=>?_
            obtain⟨rec,as,mb,ml,Φ,i,b,A,C,H,s⟩:=O n D S;refine hq n D g6 a6 w6 ⟨rec,as,mb,ml,Φ,i,b,A,C,H,fun x0 l hΦ=>?_⟩ N;obtain⟨s4,U,j⟩:=s x0 l hΦ;obtain⟨v,Z,hv⟩:=jk j;simp only[aI] at Z;subst Z;exfalso;rcases hv with⟨ho,_⟩|⟨x,bs,hx,_⟩|⟨x,bs,u,hx,_⟩
            ·cases ho
            ·cases hx
            ·cases hx⟩)
          |_=>cases ho
        ·cases he2
       ·cases o
      ·cases h
     ·cases h
   ·cases h
theorem ax (hE:qy E) {S:List (Nat×aN)} (c:bT E S) (fuel d:Nat) {f:Nat} {args:af} {r:V} (h:dn E (cu E S fuel d) fuel f args some=some r) (b:o5 r=false:=by rfl):aj E f args r:=by
 have a:=KT hE (Cf hE c fuel (α:=V) d) fuel h;rcases a with⟨_,a⟩|⟨p,x,bs,rfl,_⟩|⟨p,x,rfl,_⟩
 ·exact GU a
 ·cases b
 ·cases b
theorem Ad (hE:qy E) {S:List (Nat×aN)} (c:bT E S) (fuel d:Nat) {f:Nat} {args:af} {r:V} (h:dn E (cu E S fuel d) fuel f args some=some r) (b:o5 r=false:=by rfl):aj E f (args.map V.sZ) r:=by
 have a:=KT hE (Cf hE c fuel (α:=V) d) fuel h;rcases a with⟨_,a⟩|⟨p,x,bs,rfl,_⟩|⟨p,x,rfl,_⟩
 ·exact a
 ·cases b
 ·cases b
theorem nA (hE:qy E) {S:List (Nat×aN)} (g:bT E S) (fuel d:Nat) {f:Nat} {args:af} {p:Bool} {x:V} {bs:List (af)} (h:dn E (cu E S fuel d) fuel f args some=some (.out p x bs)):XC E f args p x bs:=by
 have j:=KT hE (Cf hE g fuel (α:=V) d) fuel h;rcases j with⟨b,_⟩|⟨i,c,e,a,hx⟩|⟨i,c,a,_⟩
 ·cases b
 ·cases a;exact hx
 ·cases a
end
theorem jv {α:Type} (c:Bool) (a b:α):sel c a b=if c=true then a else b:=by cases c<;>rfl
theorem ai {α:Type} {c:Bool} {a b:α} (h:c=true):sel c a b=a:=by subst h;rfl
theorem aB {α:Type} {c:Bool} {a b:α} (h:c=false):sel c a b=b:=by subst h;rfl
theorem aQ (a b:Int):(aU a b=true)=(a<b):=by unfold aU;simp
theorem ak (a b:Int):(aD a b=true)=(a≤b):=by unfold aD;simp
theorem lW (a b:Int):(ieq a b=true)=(a=b):=by unfold ieq;simp
theorem vM (a b:Nat):(Xn a b=true)=(a≤b):=by unfold Xn;simp
theorem ay (a b:Bool):(au a b=true)=(a=true∧b=true):=by cases a<;>cases b<;>simp[au]
theorem o9 (a:Bool):(aT a=true)= ¬(a=true):=by cases a<;>simp[aT]
theorem nZ (a b:ah):(seq a b=true)=(a=b):=by unfold seq;simp
theorem jO (a b:ah):(bC a b=true)=(a.length+b.length≤1152921504606846976):=by unfold bC;rw[vM]
theorem dm (a b:af):(dU a b=true)=(a.length+b.length≤16777216):=by unfold dU;rw[vM]
theorem Ns:(true=true)=True:=by simp
theorem aY {a b:Int} (h:a<b):aU a b=true:=by rw[aQ];exact h
theorem aW {a b:Int} (h:b≤a):aU a b=false:=by unfold aU;simp;omega
theorem cO {a b:Int} (h:a≤b):aD a b=true:=by rw[ak];exact h
theorem tL {a b:Int} (h:b<a):aD a b=false:=by unfold aD;simp;omega
theorem dN {a b:Int} (h:a=b):ieq a b=true:=by rw[lW];exact h
theorem bD {a b:Int} (h:a≠b):ieq a b=false:=by unfold ieq;simpa using h
theorem aZ {a b:Int} (h: -9223372036854775808≤a+b∧a+b≤9223372036854775807):aV .i64 a b=a+b:=IntWalk.i64_in _ h
theorem bZ {a b:Int} (h: -9223372036854775808≤a-b∧a-b≤9223372036854775807):bu .i64 a b=a-b:=IntWalk.i64_in _ h
theorem iH {a b:Int} (h: -9223372036854775808≤a*b∧a*b≤9223372036854775807):fM .i64 a b=a*b:=IntWalk.i64_in _ h
theorem Gd {a b:Int} (h:0≤a+b∧a+b≤18446744073709551615):aV .u64 a b=a+b:=IntWalk.u64_in _ h
theorem VU {a b:Int} (h:0≤a*b∧a*b≤18446744073709551615):fM .u64 a b=a*b:=IntWalk.u64_in _ h
theorem Aq {a:Int} (h:0≤a∧a≤18446744073709551615):gu .u64 a=a:=IntWalk.u64_in _ h
theorem RQ {a:Int} (h: -9223372036854775808≤a∧a≤9223372036854775807):gu .i64 a=a:=IntWalk.i64_in _ h
theorem Zg {a:Int} (h:0≤a∧a≤255):gu .u8 a=a:=IntWalk.u8_in _ h
theorem Zh {a b:Int} (h:0≤a-b∧a-b≤255):bu .u8 a b=a-b:=IntWalk.u8_in _ h
theorem IK {k:IntKind} {a b:Int} (d:0≤a) (c:k.wrap (a/b)=a/b):gX k a b=a/b:=by
 unfold gX;rw[Int.tdiv_eq_ediv_of_nonneg d];exact c
theorem div_le_self {a b:Int} (c:0≤a) (d:0<b):0≤a/b∧a/b≤a:=⟨Int.ediv_nonneg c (by omega),Int.ediv_le_self b c⟩
theorem qO {a b:Int} (c:0≤a) (d:0<b) (h:a≤9223372036854775807):gX .i64 a b=a/b:=
 IK c (IntWalk.i64_in _ (by have:=div_le_self c d;omega))
theorem Ar {a b:Int} (c:0≤a) (d:0<b) (h:a≤18446744073709551615):gX .u64 a b=a/b:=
 IK c (IntWalk.u64_in _ (by have:=div_le_self c d;omega))
theorem wz {a b:Int} (c:0≤a):qG a b=a%b:=Int.tmod_eq_emod_of_nonneg c
theorem av (l:ah):aF l=(l.length:Int):=rfl
theorem aO (l:af):aM l=(l.length:Int):=rfl
theorem lX (l:ah) (i:Nat):sat l (i:Int)=((l.getD i 0).toNat:Int):=rfl
theorem iw (l:ah) (a b:Nat):bW l (a:Int) (b:Int)=(l.drop a).take (b-a):=rfl
theorem wB (l:af) (i:Nat):bf l (i:Int)=l.getD i .any:=rfl
theorem aj.env {E E':Env} {f:Nat} {args:af} {r:V} (e:E.P=E'.P) (h: ∀n v,E.glob n=some v→E'.glob n=some v) (c:aj E f args r):aj E' f args r:=by
 intro G w vs d b a;have:=c G w vs d (fun n v g=>b n v (h n v g)) a;rw[e] at this;exact this
def rG (E:Env) (f:Nat) (args:af) (r:V):Prop:=∀p x bs,oG r=.out p x bs→XC E f args p x bs
theorem rG.out {E:Env} {f:Nat} {args:af} {p:Bool} {x:V} {bs:List (af)} (h:XC E f args p x bs):rG E f args (.out p x bs):=by
 intro c d a b
 cases b;exact h
theorem rG.sK {E:Env} {f:Nat} {args:af} {c:Bool} {a b:V} (g:c=true→rG E f args a) (e:c=false→rG E f args b):rG E f args (.sK c a b):=by
 intro p x bs d
 cases c with
 |true=>exact g rfl p x bs d
 |false=>exact e rfl p x bs d
theorem Inv.env {E E':Env} {B:Own} {G0:aJ} {w0:World} {s:St} {g:Gh} {a:Act} {w:World} (b:E.P=E'.P) (c:kC E' G0 w0) (h:Inv E B G0 w0 s g a w):Inv E' B G0 w0 s g a w:=
 ⟨h.fr,h.df,h.gok,h.own,b▸h.bxs,h.iq,h.hB,h.ext,⟨c,h.glob.2⟩,h.g1,h.zb⟩
theorem XC.env {E E':Env} {f:Nat} {args:af} {p:Bool} {x:V} {bs:List (af)} (b:E.P=E'.P) (h: ∀n v,E.glob n=some v→E'.glob n=some v) (c:XC E f args p x bs):XC E' f args p x bs:=by
 intro B g w vs a i;have d:=i.glob.1;have:=c B g w vs a (i.env b.symm fun n v j=>d n v (h n v j));rw[b] at this;refine Calls.mono this ?_;rintro e w' ⟨g',v,k,hx⟩;exact⟨g',v,k,hx.env b d⟩
theorem rG.env {E E':Env} {f:Nat} {args:af} {r:V} (a:E.P=E'.P) (h: ∀n v,E.glob n=some v→E'.glob n=some v) (c:rG E f args r):rG E' f args r:=fun p x bs b=>(c p x bs b).env a h
def iT (w:World):aJ:=fun b=>match w.heap[b]? with|some (.cells c _ _)=>some c.toList|_=>none
theorem S7 (w:World):vk (iT w) w:=by
 intro b l h;unfold iT at h;split at h
 ·rename_i c e fr a
  simp only[aI] at h;subst h;exact⟨c,e,fr,a,QA⟩
 ·cases h
def Ej {H:Type} (P:Program):Nat→TypeId→DataW H→Nat→Option V
 |0,_,_,_=>none
 |f+1,t,d,i=>
  match P.underlying t,d with
  |some (.int k),.lit (.int _ n)=>(match i with|0=>some (.int k n)|_=>none)
  |some .bool,.lit (.bool b)=>(match i with|0=>some (.bool b)|_=>none)
  |some .string,.lit (.string l)=>(match i with|0=>some (.str l)|_=>none)
  |some (.struct g),.agg c=>(List.range c.length).findSome? fun j=>
   match g[j]?,c[j]? with
   |some a,some x=>(match Nat.ble a.offset i&&Nat.blt i (a.offset+P.cellsOf a.type) with|true=>Ej P f a.type x (i-a.offset)|false=>none)
   |_,_=>none
  |some (.array n e),.agg c=>(match c[i/P.cellsOf e]? with|some x=>Ej P f e x (i%P.cellsOf e)|none=>none)
  |_,_=>none
variable {H:Type} {enc:TypeId×Value→H} {P:Program} {w:World} {base:Nat} {spare:Nat→Bool} {held:Bool}
theorem yF (G:aJ): ∀(f:Nat) (t:TypeId) (d:DataW H) (i:Nat) (v:V),Ej P f t d i=some v→ ∀(fuel:Nat) (E:List Value) (p:List MemPlace),DataW.trod enc P w base spare held fuel t E=some (d,p)→
  ∃u,E[i]? =some u∧aK G v u
 |0,_,_,_,_,h,_,_,_,_=>by simp[Ej] at h
 |f+1,t,d,i,v,h,fuel,E,p,r=>by
  unfold Ej at h;split at h
  ·rename_i k Q n c
   obtain⟨m,rfl,e,_⟩:=DataW.trod_int c r;simp only[bU,DataW.lit.injEq,Lit.int.injEq] at e;obtain⟨⟨rfl,rfl⟩,_⟩:=e;split at h
   ·simp only[aI] at h
    subst h;exact⟨_,rfl,by unfold aK;rfl⟩
   ·cases h
  ·rename_i b c
   obtain⟨m,rfl,e⟩:=DataW.trod_bool c r;simp only[bU,DataW.lit.injEq,Lit.bool.injEq] at e;obtain⟨rfl,_⟩:=e;split at h
   ·simp only[aI] at h
    subst h;exact⟨_,rfl,by unfold aK;rfl⟩
   ·cases h
  ·rename_i l c
   obtain⟨s,rfl,e,_⟩:=DataW.trod_string c r;simp only[bU,DataW.lit.injEq,Lit.string.injEq] at e;obtain⟨rfl,_⟩:=e;split at h
   ·simp only[aI] at h
    subst h;exact⟨_,rfl,by unfold aK;cases s;simp⟩
   ·cases h
  ·rename_i R M c
   obtain⟨xs,m,_,e,z,K,o⟩:=DataW.trod_struct c r;simp only[bU,DataW.agg.injEq] at e;obtain⟨j,_,A⟩:=List.exists_of_findSome?_eq_some h;split at A
   ·rename_i q x I hx
    split at A
    ·rename_i D
     rw[bL] at D;have O:=UY D.1;have N:i<q.offset+P.cellsOf q.type:=by have:=D.2;rwa [A9] at this
     rw[e.1,rF] at hx;obtain⟨y,B,g⟩:=Option.map_eq_some_iff.1 hx;have:=o j q I;rw[B] at this;obtain⟨u,a,F⟩:=yF G f q.type x _ v A m _ y.2 (by rw[this,←g]);refine⟨u,?_,F⟩;rw[acd (by omega),Hy,show q.offset+(i-q.offset)=i by omega] at a;exact a
    ·cases A
   ·cases A
  ·rename_i n e M c
   obtain⟨xs,m,_,J,z,K,o⟩:=DataW.trod_array c r;simp only[bU,DataW.agg.injEq] at J;split at h
   ·rename_i x hx
    rw[J.1,rF] at hx;obtain⟨y,B,g⟩:=Option.map_eq_some_iff.1 hx;have C:i/P.cellsOf e<n:=by rw[←K];exact(List.getElem?_eq_some_iff.1 B).1
    have:=o _ C;rw[B] at this;obtain⟨u,a,F⟩:=yF G f e x _ v h m _ y.2 (by rw[this,←g]);refine⟨u,?_,F⟩;by_cases L:P.cellsOf e=0
    ·rw[L,acX] at a
     cases a
    ·rw[acd (acU _ (by omega)),Hy,Nat.mul_comm,Nat.div_add_mod] at a
     exact a
   ·cases h
  ·cases h
theorem IL {α β:Type} {f:α→Option β}: ∀{l:List α} {ys:List β},l.mapM f=some ys→ys.length=l.length∧ ∀(i:Nat) a y,l[i]? =some a→ys[i]? =some y→f a=some y
 |[],ys,h=>by simp at h;subst h;exact⟨rfl,by simp⟩
 |a::l,ys,h=>by
  rw[acF] at h
  cases b:f a with
  |none=>rw[b] at h;cases h
  |some y=>
   rw[b] at h
   cases hl:l.mapM f with
   |none=>rw[hl] at h;cases h
   |some k=>
    rw[hl] at h;simp at h;subst h;obtain⟨g,d⟩:=IL hl;refine⟨by simp[g],fun i e j h3 c=>?_⟩
    cases i with
    |zero=>simp at h3 c;subst h3;subst c;exact b
    |succ i=>exact d i e j (by simpa using h3) (by simpa using c)
theorem Po {j:String} {g:Nat} {h:Array Value} {t:TypeId} {fuel f:Nat} {d:DataW H} {p:List MemPlace} {sh:List Kd} {xs:af} (z:P.globalNamed j=some g) (l:w.var? P j=some h)
  (v:DataW.trod enc P w base spare held fuel t h.toList=some (d,p)) (hx:(List.range sh.length).mapM (Ej P f t d)=some xs) (B:fG sh (.agg xs)=true):
  aK (iT w) (.rptr sh (.agg xs) 0) (.pointer (some ⟨g,0,none⟩)):=by
 obtain⟨o,y⟩:=IL hx;rw[Z7] at o;have a: ∀(i:Nat) (x:V),xs[i]? =some x→ ∃u,h.toList[i]? =some u∧aK (iT w) x u:=by
  intro i x b;have r:i<sh.length:=by rw[←o];exact(List.getElem?_eq_some_iff.1 b).1
  exact yF (iT w) f t d i x (y i i x (by rw[Z4 r]) b) fuel _ p v
 have A:xs.length≤h.toList.length:=by
  rcases acT h.toList.length xs.length with n|m
  ·obtain⟨u,s,_⟩:=a h.toList.length xs[h.toList.length] (gP n)
   rw[ZA (iI _)] at s
   cases s
  ·exact m
 unfold aK;refine⟨g,0,h.toList,rfl,?_,B,.agg (h.toList.take sh.length).toArray,?_,?_⟩
 ·simp only[World.var?,z,Option.bind_some] at l
  split at l
  ·rename_i c e fr D
   simp only[aI] at l;subst l;unfold iT;rw[D]
  ·cases l
 ·unfold aK
  refine⟨_,rfl,?_⟩;rw[eD];refine⟨by rw[Dv];omega,fun i x u b k=>?_⟩;obtain⟨E,q,C⟩:=a i x b;have r:i<sh.length:=by rw[←o];exact(List.getElem?_eq_some_iff.1 b).1
  rw[acd r,q] at k;simp only[aI] at k;rw[←k];exact C
 ·simp[Value.cells]
theorem GV {E:Env} {f:Nat} {args:af} {vs:List Value} (c:aj E f args (.bool true)) (d:kC E (iT w) w) (a:PW (aK (iT w)) args vs):
  Calls E.P f vs.toArray w fun e w'=>e=.returned (.bool true)∧Below w.heap.size w w':=by
 refine(c (iT w) w vs (S7 w) d a).mono ?_;rintro e w' ⟨v,G',rfl,g,b⟩;have:v=.bool true:=b;rw[this];exact⟨rfl,g.1⟩
open Go.MapKept
section
abbrev mE (a:List (Int×ah)):af:=a.map fun p=> .agg [.int .i64 p.1,.str p.2]
theorem IP: ∀(a:List (Int×ah)) (n:Int),DD (mE a) n=true→ ∃p∈a,p.1=n
 |[],n,h=>by cases h
 |p::a,n,h=>by
  have h:sel (ieq n p.1) true (DD (mE a) n)=true:=h;by_cases e:n=p.1
  ·exact⟨p,vg,e.symm⟩
  ·rw[show ieq n p.1=false from by unfold ieq;simpa using e] at h
   obtain⟨q,b,e⟩:=IP a n h;exact⟨q,xE _ b,e⟩
theorem EY: ∀(b:List (Int×ah)),(b.map (·.1)).Nodup→ ∀p∈b,kg (mE b) p.1=p.2
 |[],_,p,a=>by cases a
 |q::b,c,p,a=>by
  show sel (ieq p.1 q.1) q.2 (kg (mE b) p.1)=p.2;simp only[Aj,Xj] at c;rcases List.mem_cons.1 a with rfl|a
  ·rw[show ieq p.1 p.1=true from by unfold ieq;simp];rfl
  ·rw[show ieq p.1 q.1=false from by
    unfold ieq;have:p.1≠q.1:=fun e=>c.1 (e▸List.mem_map.2 ⟨p,a,rfl⟩)
    simpa using this]
   exact EY b c.2 p a
theorem elemAt_string {e:TypeId} (a:P.underlying e=some .string) {n:Nat} {v:Value} {z:DataW H×List MemPlace} (h:Go.WideElems.elemAt enc P w base spare held n e v=some z): ∃s:ByteArray,v=.string s∧z.1=.lit (.string s.data.toList):=by
 unfold Go.WideElems.elemAt at h;split at h
 ·rename_i d
  obtain⟨b,c,f,_⟩:=DataW.trod_string a h
  cases v<;>simp[Value.formed,a,Value.cells] at d c
  subst c;exact⟨_,rfl,by rw[f]⟩
 ·cases h
def valP:Lit×DataW H→Value×Value
 |(.int _ n,.lit (.string l))=>(.int .i64 n,.string ⟨l.toArray⟩)
 |_=>(undef,undef)
theorem S8 {C:String} {g:Nat} {L:Array Value} {t k e:TypeId} {fuel:Nat} {p:List MemPlace} (r:List (Int×ah)) (hg:P.globalNamed C=some g) (Z:w.var? P C=some L)
  (U:P.underlying t=some (.map k e)) (hk:P.underlying k=some (.int .i64)) (he:P.underlying e=some .string)
  (hd:DataW.trod enc P w base spare held fuel t L.toList=some (.map (r.map fun p=>(.int .i64 p.1,.lit (.string p.2))),p)):
  aK (iT w) (.rptr [.oth] (.sK false (.agg (mE r)) (.int .i64 g)) 0) (.pointer (some ⟨g,0,none⟩))∧OB (iT w) w g (.rptr [.oth] (.sK false (.agg (mE r)) (.int .i64 g)) 0):=by
 rcases WideElems.open_map U hd with⟨_,hx⟩|⟨I,u,i,n,rfl,R,V,_,F,hx⟩
 ·cases hx
 have b:w.cell? ⟨g,0,none⟩=some (.map (some I)):=by
  have:=World.var?_cell hg Z 0;obtain rfl:L= #[.map (some I)]:=Array.ext' R;simpa using this
 have Y: ∃l,iT w g=some l∧l[0]? =some (.map (some I)):=by
  simp only[World.cell?] at b;split at b
  ·rename_i c e fr hc
   exact⟨c.toList,by unfold iT;rw[hc],by simpa using b⟩
  ·cases b
 obtain⟨l,hl,o⟩:=Y;have B: ∀x∈u.toList,(∃m:Int,x.key=.int .i64 m)∧valP (Go.WideElems.rg P k (Go.WideElems.elemAt enc P w base spare held n e) x)=(x.key,x.val):=by
  intro x hx;obtain⟨y,J⟩:=F.reads x hx;obtain⟨z,X,O⟩:=Go.WideElems.rd_val J;obtain⟨m,E,G,_⟩:=Maps.keyOf_int_inv hk (Go.WideElems.rd_key J);obtain⟨s,h3,W⟩:=elemAt_string he X;refine⟨⟨m,E⟩,?_⟩;rw[Go.WideElems.rg_of J,E,h3,show y=(y.1,y.2) from rfl,G,O,W];rfl
 have f:(u.toList.map fun x=>(x.key,x.val)).Perm (r.map fun p=>(Value.int .i64 p.1,Value.string ⟨p.2.toArray⟩)):=by
  have E:=WideShapes.sorted_perm (u.toList.map (Go.WideElems.rg P k (Go.WideElems.elemAt enc P w base spare held n e)));have G:(r.map fun p=>((.int .i64 p.1,.lit (.string p.2)):Lit×DataW H))=(u.toList.map (Go.WideElems.rg P k (Go.WideElems.elemAt enc P w base spare held n e))).foldr DataW.insert []:=by
   have:=congrArg Prod.fst hx;simpa using this
  rw[←G] at E;have h3:=(E.map valP).symm;rw[UL,UL] at h3;refine(List.Perm.of_eq ?_).trans (h3.trans (.of_eq ?_))
  ·exact U0 fun x hx=>(B x hx).2.symm
  ·rfl
 have A:=(stamped_iff u i).1 F.stamped;have Q:(r.map (·.1)).Nodup:=by
  have E:(u.toList.map fun x=>x.key).Nodup:=by unfold List.Nodup;rw[List.pairwise_map];exact A.2.2
  have G:=f.map Prod.fst;rw[UL,UL] at G;have h3:(r.map fun p=>Value.int .i64 p.1).Nodup:=G.nodup_iff.1 E;unfold List.Nodup at h3⊢;rw[List.pairwise_map] at h3⊢;exact h3.imp fun h e=>h (by rw[e])
 have N:RI (mE r) u i:=by
  refine⟨fun m S=>?_,⟨r,rfl,f⟩,A.1,A.2.1⟩;obtain⟨q,T,rfl⟩:=IP r m S;have K:((Value.int .i64 q.1,Value.string ⟨q.2.toArray⟩):Value×Value)∈u.toList.map fun x=>(x.key,x.val):=f.mem_iff.2 (List.mem_map.2 ⟨q,T,rfl⟩)
  obtain⟨x,hx,v⟩:=List.mem_map.1 K;simp only[bU] at v;have D: ∀x∈u.toList,IsKey (.int .i64) x.key:=fun x hx=>by
   obtain⟨m,S⟩:=(B x hx).1;rw[S];rfl
  rcases findNow_spec (d:=.int .i64) (k:=.int .i64 q.1) rfl u.toList 0 D with⟨_,h⟩|⟨j,y,hf,hj,J⟩
  ·exact absurd v.1 (h x hx)
  ·refine⟨0+j,?_⟩
   rw[hf,EY r Q q T];have M:=Dp hj;have:y=x:=entry_eq_of_key A.2.2 M hx (J.trans v.1.symm);rw[this,v.2]
 refine⟨?_,l,I,u,i,hl,o,V,N⟩;unfold aK;refine⟨g,0,l,rfl,hl,by rfl,.map (some I),by unfold aK;exact⟨I,l,rfl,hl,o⟩,?_⟩
 cases l with
 |nil=>cases o
 |cons a t=>
  simp only[Dt,aI] at o;subst o;rfl
end
end Nt.Ev
