/-
  (*strings.Builder).copyCheck: at a fresh builder, and at a used one.
-/
import Derived.Test.YtcmockbdkppglaaDoorMC
import Derived.Lib.Builder
import Derived.Laws.Externs
import Derived.Lib.UnsafeStr
import Derived.BigRegion
import Derived.Lib.MakeNoZero
import Derived.ChangeMade
set_option linter.all false
namespace Go.Proofs.YtcmockbdkppglaaDoor
open Go.RowKit
theorem Gw:(Tryd.prog.info? 47).map (·.size)=some 2:=by kernel_rfl
theorem Eu:Tryd.prog.underlying 44=some (.pointer 47):=by kernel_rfl
theorem LA:Tryd.prog.underlying 96=some .unsafePointer:=by kernel_rfl
set_option maxHeartbeats 1000000 in
set_option maxRecDepth 100000 in
theorem NQ (b:Nat) (w:World) (h0:w.cell? ⟨b,0,none⟩=some (.pointer (some ⟨b,0,none⟩))):
  Calls Tryd.prog 27 #[.pointer (some ⟨b,0,none⟩)] w fun e w'=>e=.returned (.tuple #[])∧w'=w:=by
 obtain⟨j,hj,_⟩:=Option.map_eq_some_iff.1 Gw;go_enter Tryd.func27,Tryd.ntmps27
 go_wp2
 rw[Lib.run_neq_ptr_same w _ Eu hj];go_wp2
 go_end0
 exact⟨rfl,rfl⟩
set_option maxHeartbeats 1000000 in
set_option maxRecDepth 100000 in
theorem J3 (b e n:Nat) (hlies:liesAt Tryd.prog Tryd.prog.depth e (n/Tryd.prog.cellsOf e) 0 47 1=true) (hn:0<n) (w:World) (h0:w.cell? ⟨b,0,none⟩=some (.pointer none)) (hsh:w.shape? b=some (e,n)) (hfz:w.frozen? ⟨b,0,none⟩=false):
  Calls Tryd.prog 27 #[.pointer (some ⟨b,0,none⟩)] w fun e w'=>e=.returned (.tuple #[])∧w'=w.setCell ⟨b,0,none⟩ (.pointer (some ⟨b,0,none⟩)):=by
 obtain⟨j,hj,hjs⟩:=Option.map_eq_some_iff.1 Gw;go_enter Tryd.func27,Tryd.ntmps27
 go_wp2
 rw[Lib.run_to_unsafe w ⟨b,0,none⟩ Eu LA hj (by rw[hjs];decide) hsh hn];simp only[Result.andThen];rw[Oper.upon_value];go_wp2
 rw[run_callFunc_extern Tryd.func40 (by kernel_rfl) (by kernel_rfl) (by kernel_rfl) (e:=Extern.AbiNoEscape.same) (by kernel_rfl)];rw[Lib.run_noEscape];simp only[Result.andThen];rw[Oper.upon_value];go_wp2
 rw[Lib.run_from_unsafe w ⟨b,0,none⟩ LA Eu hj hsh hlies];simp only[Result.andThen];rw[Oper.upon_value];go_wp2
 go_end0
 exact⟨rfl,rfl⟩
section
variable {P:Program} (w:World)
theorem Bj: ∀(c:List Int) (a:Addr) (b:ByteArray),(∀j n,c[j]? =some n→w.cell? (a.add j)=some (.int .u8 n))→
  (loadBytes a b c.length).run P w=.ok ⟨b.data++(c.map fun n=>UInt8.ofNat n.toNat).toArray⟩ w
 |[],a,b,_=>by simp[loadBytes]
 |x::l,a,b,h=>by
  have i:w.cell? a=some (.int .u8 x):=by
   have:=h 0 x rfl;simpa[Addr.add] using this
  have f:=Bj l (a.add 1) (b.push x.toNat.toUInt8) (fun j y g=>by
   have:=h (j+1) y (by simpa using g);have e:(a.add 1).add j=a.add (j+1):=by
    unfold Addr.add;by_cases d:j=0
    ·subst d;simp
    ·simp[d];omega
   rw[e];exact this)
  simp only[iy,loadBytes,Sem.run_bind,run_load,i,Result.andThen];rw[f];congr 1
  apply ByteArray.ext
  simp[ByteArray.push]
theorem BX (i it o e:TypeId) (q:P.underlying i=some (.pointer e)) (p:P.cellsOf e=1) (g cells:Nat) (m:w.shape? g=some (e,cells)) (l:List Int) (r:l≠[]) (t:l.length≤cells) (u:l.length≤9223372036854775807)
  (b: ∀j x,l[j]? =some x→w.cell? ((⟨g,0,none⟩:Addr).add j)=some (.int .u8 x)):
  (Builtin.unsafeString_ #[i,it] o #[.pointer (some ⟨g,0,none⟩),.int .i64 l.length]).run P w=.ok (.string ⟨(l.map fun n=>UInt8.ofNat n.toNat).toArray⟩) (w.freeze ⟨g,0,none⟩ l.length):=by
 have hl:l.length≠0:=by simpa using r
 have k:=Bj (P:=P) w l ⟨g,0,none⟩ .empty b;have a:=Lib.liesAt_bytes (P:=P) p (cells/P.cellsOf e) l.length (by rw[p];simpa using t);have h: ¬(9223372036854775807:Int)<(l.length:Int):=by omega
 have d:Builtin.unsafeString_ #[i,it] o #[.pointer (some ⟨g,0,none⟩),.int .i64 l.length]=
   (do
    let n←asInt (.int .i64 l.length)
    if n<0 then runtimePanic (.error "unsafe.String: len out of range")
    if n>IntKind.i64.max then unsupported (.unsafePointer "String: a length above the largest int")
    if n=0 then pure (.string .empty)
    else if←variablesAt ⟨g,0,none⟩ (←elemOf i) n.toNat then do
     let s←loadBytes ⟨g,0,none⟩ .empty n.toNat
     freeze ⟨g,0,none⟩ n.toNat
     pure (.string s)
    else unsupported (.unsafePointer "String: not so many bytes at ptr")):=rfl
 rw[d];have f:IntKind.i64.max=9223372036854775807:=rfl;have c: ¬(l.length:Int)<0:=by omega
 simp[asInt,asIntOf,f,h,c,hl,variablesAt,m,elemOf,run_underlying q,a,k]
end
set_option maxHeartbeats 2000000 in
set_option maxRecDepth 100000 in
theorem mg (b:Nat) (p q:Option Addr) (n cap:Nat) (s:ByteArray) (w w1 w2:World) (c1:w.drew.cell? ⟨b,1,none⟩=some (.slice p n cap)) (c2:w1.cell? ⟨b,1,none⟩=some (.slice p n cap))
  (hSD:(Builtin.unsafeSliceData_ #[45] 80 #[.slice p n cap]).run Tryd.prog w.drew=.ok (.pointer q) w1)
  (hUS:(Builtin.unsafeString_ #[80,3] 9 #[.pointer q,.int .i64 n]).run Tryd.prog w1=.ok (.string s) w2):
  Calls Tryd.prog 17 #[.pointer (some ⟨b,0,none⟩)] w fun e w'=>e=.returned (.string s)∧w'=w2:=by
 go_enter Tryd.func17,Tryd.ntmps17
 go_wp2
 go_region
 all_goals (go_wp2;go_ret;exact⟨rfl,rfl⟩)
end Go.Proofs.YtcmockbdkppglaaDoor
namespace Nt.Ev.YtcmockbdkppglaaDoor
open Go Go.RowKit Nt Go.Proofs.YtcmockbdkppglaaDoor
theorem Ub:(List.range Go.Proofs.Tryd.prog.types.size).all (fun e=>match Go.Proofs.Tryd.prog.info? e with
 |some i=>aS (VP Go.Proofs.Tryd.prog 4 e)||liesAt Go.Proofs.Tryd.prog Go.Proofs.Tryd.prog.depth e (i.size/Go.Proofs.Tryd.prog.cellsOf e) 0 47 1
 |none=>true)=true:=by kernel_rfl
theorem Rc (e n:Nat) (h:lH Go.Proofs.Tryd.prog e n=true):liesAt Go.Proofs.Tryd.prog Go.Proofs.Tryd.prog.depth e (n/Go.Proofs.Tryd.prog.cellsOf e) 0 47 1=true:=by
 unfold lH at h;split at h
 ·rename_i i c
  rw[bB,bB,fT] at h;obtain⟨b,rfl,d⟩:=h;have a:e<Go.Proofs.Tryd.prog.types.size:=by
   by_cases a:e<Go.Proofs.Tryd.prog.types.size
   ·exact a
   ·have:=Tables.info?_beyond a c
    split at b
    ·rename_i q
     rw[q] at this
     cases this
    ·cases b
  have:=List.all_eq_true.1 Ub e (List.mem_range.2 a);rw[c] at this;simp only[d,aS,ZK,Xq] at this;exact this
 ·cases h
theorem Iq (w:World) (b:Nat) (c:Array Value) (e:Nat) (u:Value) (f:w.heap[b]? =some (.cells c e (0,0))):w.setCell ⟨b,0,none⟩ u=w.setRow b (c.setIfInBounds 0 u):=by
 unfold World.setCell World.setRow;congr 1
 refine Array.ext (by simp) fun i d g=>?_
 rw[Array.getElem_modify,Array.getElem_modify];split
 ·rename_i a
  subst a;have:w.heap[b]'(by simpa using d)=.cells c e (0,0):=by
   have:=o6 (xs:=w.heap) (i:=b) (by simpa using d);rw[f] at this;simpa using this.symm
  rw[this];rfl
 ·rfl
theorem qC {E:Env} {B:Own} {G0:aI} {w0:World} {s:St} {g:Gh} {a:Act} {w:World} (h:Inv E B G0 w0 s g a w) {fr:af} {vs:Array Value} (b:B.df=[]) (c:PW (aB g) fr vs.toList):Inv E B G0 w0 ⟨fr,s.bx⟩ g ⟨vs,[]⟩ w:=
 ⟨c,b.symm,h.gok,h.own,h.bxs,h.gN,h.hB,h.ext,h.glob,h.g1,h.zb⟩
theorem Lu {E:Env} (C:E.P=Go.Proofs.Tryd.prog) (x a:V) (r:af) (hx:x=.nilp∨x=.box HL 0):XC E 27 [.bxa 0 (x::a::r)] false (.tup []) [.box HL 0::a::r]:=by
 intro B g w vs o u;have f:=u.fr;match vs,f with
 |[],f=>exact absurd f.1 (by have e:o9 (V.bxa 0 (x::a::r))=false:=rfl;simp[bg,e])
 |v::O::t,f=>exact absurd f.1 (by have e:o9 (V.bxa 0 (x::a::r))=false:=rfl;simp[bg,e])
 |[v],f=>
  obtain⟨b,q,L⟩:=cu.1 (show aB g (.box HL 0) v from f.head);have hl:aj (bZ 0 [.bxa 0 (x::a::r)]) HL=some (x::a::r):=rfl;obtain⟨M,c,e,n,F,l,s,N,R,G⟩:=u.bxs.1 HL (x::a::r) hl;rw[q] at n;simp only[aF] at n;subst n;subst L;obtain⟨u0,i,j,rfl⟩: ∃u0 i j,c=(u0::i::j).toArray:=by
   have d:=s.1;match hc:c.toList,d with
   |u0::i::j,_=>exact⟨u0,i,j,by rw[←acu (xs:=c),hc]⟩
   |[_],d=>simp at d
   |[],d=>simp at d
  have p:=s.head;have h: ∀g':Gh,PW (aB g') [V.tup []] (#[Value.tuple #[]]:Array Value).toList:=fun g'=> .cons ⟨[],rfl,.nil⟩ .nil
  rw[C];rcases hx with rfl|rfl
  ·have K:=Rc e _ (by rw[←C];exact G rfl)
   have y:(V.nilp::a::r).length=(u0::i::j).length:=by simpa using s.1
   have z:u0=.pointer none:=by
    have:aB g .nilp u0:=p;simp only[aB,aX] at this;unfold aJ at this;exact this
   subst z;refine(J3 b e _ K (by simp) w (by rw[Lib.cell_of_heap l];simp) (by unfold World.shape?;rw[l];simp[y]) (by unfold World.frozen?;rw[l];rfl)).mono ?_;rintro H w' ⟨rfl,rfl⟩;refine⟨g,_,rfl,?_⟩;have A:aB g (.box HL 0) (.pointer (some ⟨b,0,none⟩)):=cu.2 ⟨b,q,rfl⟩;have J:=u.store (k:=HL) (off:=0) (b:=b) (old:=.nilp::a::r) (vs:=[.box HL 0]) (us:=[.pointer (some ⟨b,0,none⟩)]) q hl l s (.cons A .nil) (by simp[Value.oneCell']) (by simp) (fun l=>by cases l);rw[Iq w b _ _ _ l];have I:((Value.pointer none::i::j).toArray.setIfInBounds 0 (.pointer (some ⟨b,0,none⟩)))=(((Value.pointer none::i::j).toArray.toList.take 0++[Value.pointer (some ⟨b,0,none⟩)]++(Value.pointer none::i::j).toArray.toList.drop (0+1)).toArray):=by simp
   rw[I];exact qC J o (h g)
  ·have z:u0=.pointer (some ⟨b,0,none⟩):=by
    obtain⟨Q,m,D⟩:=cu.1 (show aB g (.box HL 0) u0 from p);rw[q] at m;simp only[aF] at m;rw[D,m]
   subst z;refine(NQ b w (by rw[Lib.cell_of_heap l];simp)).mono ?_;rintro H w' ⟨rfl,rfl⟩;exact⟨g,_,rfl,qC u o (h g)⟩
theorem xW (w:World) (b n j:Nat) (c:Array Value) (e:Nat) (fr:Nat×Nat) (d:w.heap[b]? =some (.cells c e fr)): ∃fr',(w.freeze ⟨b,0,none⟩ n).heap[j]? =if j=b then some (.cells c e fr') else w.heap[j]? :=by
 unfold World.freeze;split
 ·refine⟨fr,?_⟩
  split
  ·rename_i h;rw[h,d]
  ·rfl
 ·obtain⟨g,f⟩:=fr
  refine⟨if g==f then(0,0+n) else(min g 0,max f (0+n)),?_⟩;simp only[ack];by_cases a:j=b
  ·subst a
   rw[if_pos rfl,if_pos rfl,d];rfl
  ·rw[if_neg (fun e=>a e.symm),if_neg a]
theorem J4 {E:Env} {B:Own} {G0:aI} {w0:World} {s:St} {g:Gh} {a:Act} {w:World} (h:Inv E B G0 w0 s g a w) {b:Nat} {l:List Value} (I:g.G b=some l) (X:B.m b) (T: ∀L v e x,g.O L=some (v,e,x)→v.ownBlock≠some b) (n:Nat):
  Inv E B G0 w0 s g a (w.freeze ⟨b,0,none⟩ n):=by
 obtain⟨c,e,fr,H,P⟩:=h.gok b l I;have D:(w.freeze ⟨b,0,none⟩ n).heap.size=w.heap.size:=by unfold World.freeze;split<;>simp
 have d: ∀j,j≠b→(w.freeze ⟨b,0,none⟩ n).heap[j]? =w.heap[j]? :=fun j i=>by
  obtain⟨fr',t⟩:=xW w b n j c e fr H;rw[t,if_neg i]
 refine⟨h.fr,h.df,fun f J o=>?_,⟨fun L v u x hL=>?_,h.own.2⟩,⟨fun k S Q=>?_,h.bxs.2⟩,h.gN.trans ⟨Lib.below_freeze (Below.refl 0 w) (Ca _) n,fun j i=>d j fun e=>i (e▸X),oD H fun j i _=>d j i⟩,by rw[D];exact h.hB,h.ext,h.glob,h.g1,h.zb⟩
 ·by_cases i:f=b
  ·subst i
   obtain⟨fr',t⟩:=xW w f n f c e fr H;rw[if_pos rfl] at t;rw[I] at o
   cases o;exact⟨c,e,fr',t,P⟩
  ·obtain⟨U,Y,f1,C,y⟩:=h.gok f J o
   exact⟨U,Y,f1,(d f i).trans C,y⟩
 ·obtain⟨C,y⟩:=h.own.1 L v u x hL
  refine⟨C,y.imp id ?_⟩;rintro⟨f,M,cap,F,J,K,z,p,q⟩;exact⟨f,M,cap,F,J,K,z,(d f fun e=>T L v u x hL (by rw[K,e];rfl)).trans p,q⟩
 ·obtain⟨f,N,u,z,A,p,V,W,r,R⟩:=h.bxs.1 k S Q
  exact⟨f,N,u,z,A,(d f fun e=>by rw[e,I] at r;cases r).trans p,V,W,r,R⟩
theorem Re:Go.Proofs.Tryd.prog.cellsOf 5=1:=by kernel_rfl
theorem PN:Go.Proofs.Tryd.prog.underlying 80=some (.pointer 5):=by kernel_rfl
theorem ru {E:Env} (y:E.P=Go.Proofs.Tryd.prog) (x:V) (r:af):XC E 17 [.bxa 0 (x::.nilsl::r)] false (.str []) [x::.nilsl::r]:=by
 intro B g w vs j k;have d:=k.fr;match vs,d with
 |[],d=>exact absurd d.1 (by simp[bg,o9,Sg])
 |v::F::t,d=>exact absurd d.1 (by simp[bg,o9,Sg])
 |[v],d=>
  obtain⟨b,o,u⟩:=cu.1 (show aB g (.box HL 0) v from d.head);obtain⟨z,c,e,f,p,q,n,D,G,A⟩:=k.bxs.1 HL (x::.nilsl::r) rfl;rw[o] at f;simp only[aF] at f;subst f;subst u;obtain⟨u0,h,i,rfl⟩: ∃u0 h i,c=(u0::h::i).toArray:=by
   have a:=n.1;match hc:c.toList,a with
   |u0::h::i,_=>exact⟨u0,h,i,by rw[←acu (xs:=c),hc]⟩
   |[_],a=>simp at a
   |[],a=>simp at a
  have s:h=.slice none 0 0:=by
   have:aB g .nilsl h:=n.tail.head;simp only[aB,aX] at this;unfold aJ at this;exact this
  subst s;rw[y];have m:w.drew.cell? ⟨b,1,none⟩=some (.slice none 0 0):=by
   have l:w.drew.heap[b]? =_:=q;rw[Lib.cell_of_heap l];simp
  refine(mg b none none 0 0 .empty w w.drew w.drew m m rfl (Lib.run_unsafeString_none w.drew _ _ _ none)).mono ?_;rintro C w' ⟨rfl,rfl⟩;exact⟨g,_,rfl,qC k.drew j (.cons (dS.2 rfl) .nil)⟩
theorem Dn {E:Env} (hP:E.P=Go.Proofs.Tryd.prog) (x:V) (r:af) (hx:x.kill 1000001002=x) (Z:r.map (V.kill 1000001002)=r) (xs:af):XC E 17 [.bxa 0 (x::.sl 5 [.int .u8] (some 1000001002) xs::r)] false (.str (eF xs)) [x::.sl 5 [.int .u8] none xs::r]:=by
 intro B g w vs hdf n;have f:=n.fr;match vs,f with
 |[],f=>exact absurd f.1 (by simp[bg,o9,Sg])
 |v::v2::t,f=>exact absurd f.1 (by simp[bg,o9,Sg])
 |[v],f=>
  obtain⟨b,hb,hv⟩:=cu.1 (show aB g (.box HL 0) v from f.head);obtain⟨b',c,e,C,hBb,X,hp,ho,hG,hq⟩:=n.bxs.1 HL (x::.sl 5 [.int .u8] (some 1000001002) xs::r) rfl;rw[hb] at C;simp only[aF] at C;subst C;subst hv;obtain⟨u0,K,W,rfl⟩: ∃u0 K W,c=(u0::K::W).toArray:=by
   have a:=hp.1;match hc:c.toList,a with
   |u0::K::W,_=>exact⟨u0,K,W,by rw[←acu (xs:=c),hc]⟩
   |[_],a=>simp at a
   |[],a=>simp at a
  obtain⟨hO,Q⟩:aX g (.sl 5 [.int .u8] (some 1000001002) xs) K:=aL rfl hp.tail.head;have R:=n.kill 1000001002;have z:(⟨bg 0 [.bxa 0 (x::.sl 5 [.int .u8] (some 1000001002) xs::r)],bZ 0 [.bxa 0 (x::.sl 5 [.int .u8] (some 1000001002) xs::r)]⟩:St).kill 1000001002=⟨[.box HL 0],[(HL,x::.sl 5 [.int .u8] none xs::r)]⟩:=by
   show(⟨[.box HL 0],[(HL,x.kill 1000001002::_::r.map (V.kill 1000001002))]⟩:St)=_;rw[hx,Z];rfl
  rw[z] at R;rw[hP];have o: ∀(w':World) g',Inv E B g.G w ⟨[.box HL 0],[(HL,x::.sl 5 [.int .u8] none xs::r)]⟩ g' ⟨#[.pointer (some ⟨b,0,none⟩)],[]⟩ w'→Inv E B g.G w ⟨[.str (eF xs)],[(HL,x::.sl 5 [.int .u8] none xs::r)]⟩ g' ⟨#[.string ⟨(eF xs).toArray⟩],[]⟩ w':=
   fun w' g' h=>qC h hdf (.cons (dS.2 rfl) .nil)
  rcases Q with⟨rfl,rfl⟩|⟨d,cap,l,rfl,hcap,U,hl,hr⟩
  ·have q:w.drew.cell? ⟨b,1,none⟩=some (.slice none 0 0):=by
    have D:w.drew.heap[b]? =_:=X;rw[Lib.cell_of_heap D];simp
   refine(mg b none none 0 0 .empty w w.drew w.drew q q rfl (Lib.run_unsafeString_none w.drew _ _ _ none)).mono ?_;rintro S w' ⟨rfl,rfl⟩;exact⟨_,_,rfl,o _ _ R.drew⟩
  ·obtain⟨b2,n2,cap2,m,l2,H,hB2,I,hn2,J,M,hG2,hl2⟩:=((n.own.1 _ _ _ _ hO).2).resolve_left (by intro h;cases h)
   simp only[Value.slice.injEq,aF,Addr.mk.injEq,and_true,je] at H;obtain⟨rfl,rfl,rfl⟩:=H;have q:w.drew.cell? ⟨b,1,none⟩=some (.slice (some ⟨d,0,none⟩) xs.length cap):=by
    have D:w.drew.heap[b]? =_:=X;rw[Lib.cell_of_heap D];simp
   by_cases s:xs=[]
   ·subst s
    by_cases F:cap=0
    ·subst F
     have hlt:b<w.heap.size:=(Array.getElem?_eq_some_iff.1 X).1;have A:w.drew.shape? (⟨d,0,none⟩:Addr).block=some (5,m.size):=by
      have u:w.drew.heap[d]? =some (.cells m 5 (0,0)):=I;simp[World.shape?,u]
     have hSD:=Lib.run_unsafeSliceData_zero (P:=Go.Proofs.Tryd.prog) w.drew #[45] 80 5 PN ⟨d,0,none⟩ 0 _ A;have c2:(w.drew.alloc (.view ⟨d,0,none⟩ 5)).cell? ⟨b,1,none⟩=some (.slice (some ⟨d,0,none⟩) 0 0):=by
      have:(w.drew.alloc (.view ⟨d,0,none⟩ 5)).heap[b]? =_:=(Lib.alloc_old w.drew _ b hlt).trans X;rw[Lib.cell_of_heap this];simp
     refine(mg b _ _ 0 0 .empty w _ _ q c2 hSD (Lib.run_unsafeString_none _ _ _ _ _)).mono ?_;rintro S w' ⟨rfl,rfl⟩;have hal: ∀i,i<w.heap.size→(w.drew.alloc (.view ⟨d,0,none⟩ 5)).heap[i]? =w.drew.heap[i]? :=fun i n=>Lib.alloc_old w.drew _ i n
     have T:New w.drew (w.drew.alloc (.view ⟨d,0,none⟩ 5)) g.G g.G:=⟨(Below.refl _ _).alloc (iA _) _,fun _ _=>rfl,fun b' l' hG'=>by
      obtain⟨c',S,fr',h1,h2⟩:=n.gok b' l' hG';exact⟨c',S,fr',(hal b' (Array.getElem?_eq_some_iff.1 h1).1).trans h1,h2⟩⟩
     exact⟨_,_,rfl,o _ _ (R.drew.new T).1⟩
    ·refine(mg b _ _ 0 cap .empty w _ _ q q (Lib.run_unsafeSliceData_row w.drew _ _ _ _ _ F) (Lib.run_unsafeString_none _ _ _ _ _)).mono ?_
     rintro S w' ⟨rfl,rfl⟩;exact⟨_,_,rfl,o _ _ R.drew⟩
   ·have hxl:xs.length≠0:=by simpa using s
    have p:=vZ xs l hr;have hll:l.length=xs.length:=by rw[hl];simp
    have A:w.drew.shape? d=some (5,m.size):=by
     have u:w.drew.heap[d]? =some (.cells m 5 (0,0)):=I;simp[World.shape?,u]
    have hcs:m.size=cap:=by rw[M];simp
    have N:=BX (P:=Go.Proofs.Tryd.prog) w.drew 80 3 9 5 PN Re d m.size A (xs.map fun x=>asInt (aN x 0)) (by simpa using s) (by rw[vk];omega) (by rw[vk];unfold maxLen at J;omega) (fun j y hy=>by
     rw[show(⟨d,0,none⟩:Addr).add j=⟨d,j,none⟩ by unfold Addr.add;by_cases hj:j=0<;>simp[hj]];refine j5 (w:=w.drew) n.gok U ?_;have:l.take xs.length=l:=J8 (by omega);rw[this] at p;rw[p,qa,hy];rfl)
    rw[vk] at N;refine(mg b _ _ _ cap _ w _ _ q q (Lib.run_unsafeSliceData_row w.drew _ _ _ _ _ (by omega)) N).mono ?_;rintro S w' ⟨rfl,rfl⟩;refine⟨{g with O:=fun k=>if k=1000001002 then none else g.O k},.string ⟨(eF xs).toArray⟩,?_,o _ _ (J4 R.drew (b:=d) (l:=l) U hB2.1 ?_ _)⟩
    ·show Ending.returned _=Ending.returned _
     unfold eF;simp
    ·intro L v e1 sz hL hv
     have hL:(if L=1000001002 then none else g.O L)=some (v,e1,sz):=hL;split at hL
     ·cases hL
     ·rename_i Y
      exact Y (n.own.2 L 1000001002 v _ e1 _ sz _ d hL hO hv rfl)
end Nt.Ev.YtcmockbdkppglaaDoor
