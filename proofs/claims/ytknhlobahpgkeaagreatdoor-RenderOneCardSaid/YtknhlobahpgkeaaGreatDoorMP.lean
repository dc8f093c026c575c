/-
  (*strings.Builder).copyCheck: at a fresh builder, and at a used one.
-/
import Derived.Test.YtknhlobahpgkeaaGreatDoorMC
import Derived.Lib.Builder
import Derived.Laws.Externs
import Derived.Lib.UnsafeStr
import Derived.BigRegion
import Derived.Lib.MakeNoZero
import Derived.ChangeMade
set_option linter.all false
namespace Go.Proofs.YtknhlobahpgkeaaGreatDoor
open Go.RowKit
theorem Q9:(Tryz.prog.info? 65).map (·.size)=some 2:=by kernel_rfl
theorem Ol:Tryz.prog.underlying 62=some (.pointer 65):=by kernel_rfl
theorem XL:Tryz.prog.underlying 154=some .unsafePointer:=by kernel_rfl
set_option maxHeartbeats 1000000 in
set_option maxRecDepth 100000 in
theorem ad2 (b:Nat) (w:World) (h0:w.cell? ⟨b,0,none⟩=some (.pointer (some ⟨b,0,none⟩))):
  Calls Tryz.prog 62 #[.pointer (some ⟨b,0,none⟩)] w fun e w'=>e=.returned (.tuple #[])∧w'=w:=by
 obtain⟨j,hj,_⟩:=Option.map_eq_some_iff.1 Q9;go_enter Tryz.func62,Tryz.ntmps62;go_wp2
 rw[Lib.run_neq_ptr_same w _ Ol hj];go_wp2;go_end0
 exact⟨rfl,rfl⟩
set_option maxHeartbeats 1000000 in
set_option maxRecDepth 100000 in
theorem VD (b e n:Nat) (hlies:liesAt Tryz.prog Tryz.prog.depth e (n/Tryz.prog.cellsOf e) 0 65 1=true) (hn:0<n) (w:World) (h0:w.cell? ⟨b,0,none⟩=some (.pointer none)) (hsh:w.shape? b=some (e,n)) (hfz:w.frozen? ⟨b,0,none⟩=false):
  Calls Tryz.prog 62 #[.pointer (some ⟨b,0,none⟩)] w fun e w'=>e=.returned (.tuple #[])∧w'=w.setCell ⟨b,0,none⟩ (.pointer (some ⟨b,0,none⟩)):=by
 obtain⟨j,hj,hjs⟩:=Option.map_eq_some_iff.1 Q9;go_enter Tryz.func62,Tryz.ntmps62;go_wp2
 rw[Lib.run_to_unsafe w ⟨b,0,none⟩ Ol XL hj (by rw[hjs];decide) hsh hn];simp only[Result.andThen];rw[Oper.upon_value];go_wp2;rw[run_callFunc_extern Tryz.func85 (by kernel_rfl) (by kernel_rfl) (by kernel_rfl) (e:=Extern.AbiNoEscape.same) (by kernel_rfl)];rw[Lib.run_noEscape];simp only[Result.andThen];rw[Oper.upon_value];go_wp2;rw[Lib.run_from_unsafe w ⟨b,0,none⟩ XL Ol hj hsh hlies];simp only[Result.andThen];rw[Oper.upon_value];go_wp2;go_end0
 exact⟨rfl,rfl⟩
section
variable {P:Program} (w:World)
theorem Jt: ∀(c:List Int) (a:Addr) (b:ByteArray),(∀j n,c[j]? =some n→w.cell? (a.add j)=some (.int .u8 n))→
  (loadBytes a b c.length).run P w=.ok ⟨b.data++(c.map fun n=>UInt8.ofNat n.toNat).toArray⟩ w
 |[],a,b,_=>by simp[loadBytes]
 |x::l,a,b,h=>by
  have i:w.cell? a=some (.int .u8 x):=by have:=h 0 x rfl;simpa[Addr.add] using this
  have f:=Jt l (a.add 1) (b.push x.toNat.toUInt8) (fun j y g=>by
   have:=h (j+1) y (by simpa using g);have e:(a.add 1).add j=a.add (j+1):=by
    unfold Addr.add;by_cases d:j=0
    ·subst d;simp
    simp[d];omega
   rw[e];exact this)
  simp only[fI,loadBytes,Sem.run_bind,run_load,i,Result.andThen];rw[f];congr 1;apply ByteArray.ext
  simp[ByteArray.push]
theorem Kn (i p o e:TypeId) (r:P.underlying i=some (.pointer e)) (q:P.cellsOf e=1) (g cells:Nat) (m:w.shape? g=some (e,cells)) (l:List Int) (u:l≠[]) (v:l.length≤cells) (y:l.length≤9223372036854775807)
  (b: ∀j x,l[j]? =some x→w.cell? ((⟨g,0,none⟩:Addr).add j)=some (.int .u8 x)):
  (Builtin.unsafeString_ #[i,p] o #[.pointer (some ⟨g,0,none⟩),.int .i64 l.length]).run P w=.ok (.string ⟨(l.map fun n=>UInt8.ofNat n.toNat).toArray⟩) (w.freeze ⟨g,0,none⟩ l.length):=by
 have t:l.length≠0:=by simpa using u
 have k:=Jt (P:=P) w l ⟨g,0,none⟩ .empty b;have a:=Lib.liesAt_bytes (P:=P) q (cells/P.cellsOf e) l.length (by rw[q];simpa using v);have h: ¬(9223372036854775807:Int)<(l.length:Int):=by omega
 have d:Builtin.unsafeString_ #[i,p] o #[.pointer (some ⟨g,0,none⟩),.int .i64 l.length]=
   (do
    let n←asInt (.int .i64 l.length)
    if n<0 then runtimePanic (.error "unsafe.String: len out of range")
    if n>IntKind.i64.max then unsupported (.unsafePointer "String: a length above the largest int")
    if n=0 then pure (.string .empty)
    else if←variablesAt ⟨g,0,none⟩ (←elemOf i) n.toNat then do
     let s←loadBytes ⟨g,0,none⟩ .empty n.toNat
     freeze ⟨g,0,none⟩ n.toNat
     pure (.string s)
    else unsupported (.unsafePointer "String: not so many bytes at ptr")):=rfl
 rw[d];have f:IntKind.i64.max=9223372036854775807:=rfl;have c: ¬(l.length:Int)<0:=by omega
 simp[asInt,asIntOf,f,h,c,t,variablesAt,m,elemOf,run_underlying r,a,k]
end
set_option maxHeartbeats 2000000 in
set_option maxRecDepth 100000 in
theorem qd (b:Nat) (p q:Option Addr) (n cap:Nat) (s:ByteArray) (w w1 w2:World) (c1:w.drew.cell? ⟨b,1,none⟩=some (.slice p n cap)) (c2:w1.cell? ⟨b,1,none⟩=some (.slice p n cap))
  (hSD:(Builtin.unsafeSliceData_ #[63] 104 #[.slice p n cap]).run Tryz.prog w.drew=.ok (.pointer q) w1)
  (hUS:(Builtin.unsafeString_ #[104,3] 9 #[.pointer q,.int .i64 n]).run Tryz.prog w1=.ok (.string s) w2):
  Calls Tryz.prog 17 #[.pointer (some ⟨b,0,none⟩)] w fun e w'=>e=.returned (.string s)∧w'=w2:=by
 go_enter Tryz.func17,Tryz.ntmps17
 go_wp2
 go_region
 all_goals (go_wp2;go_ret;exact⟨rfl,rfl⟩)
theorem XM:Tryz.prog.underlying 63=some (.slice 5):=by kernel_rfl
set_option maxHeartbeats 2000000 in
set_option maxRecDepth 100000 in
theorem bld_grow (b n:Nat) (p:Value) (e:TypeId) (w:World) (hbk:w.heap[b]? =some (.cells #[p,.slice none 0 0] e (0,0))) (hn:n≤281474976710656):
  Calls Tryz.prog 105 #[.pointer (some ⟨b,0,none⟩),.int .i64 n] w fun e w'=>e=.returned (.tuple #[])∧ ∃cs:Array Value,n≤cs.size∧cs.size≤maxLen∧w'=((w.setCell ⟨b,1,none⟩ (.slice (some ⟨w.heap.size,0,none⟩) 0 cs.size)).alloc (.cells cs 5)).drew.drew.drew:=by
 obtain⟨cs,hrun,hle,hmax⟩:=Lib.run_makeNoZero (P:=Tryz.prog) w.drew #[3] 63 5 XM n hn;have hw:IntKind.i64.wrap (IntKind.i64.wrap 0+(n:Int))=n:=by rw[IntKind.wrap_i64,IntKind.wrap_i64];omega
 have hcall:(callFunc 144 #[.int .i64 (IntKind.i64.wrap (IntKind.i64.wrap 0+(n:Int)))]).run Tryz.prog w.drew=.ok (.value (.slice (some ⟨w.drew.heap.size,0,none⟩) n cs.size)) (w.drew.drew.drew.alloc (.cells cs 5)):=by rw[hw,run_callFunc_extern Tryz.func144 (by kernel_rfl) (by kernel_rfl) (by kernel_rfl) (e:=Extern.BytealgMakeNoZero.makeNoZero #[3] #[63]) (by kernel_rfl),hrun];rfl
 have c1:w.drew.cell? ⟨b,1,none⟩=some (.slice none 0 0):=by have:w.drew.heap[b]? =_:=hbk;rw[Lib.cell_of_heap this];rfl
 have hlt:b<w.heap.size:=(Array.getElem?_eq_some_iff.1 hbk).1;have c2:(w.alloc (.cells cs 5)).cell? ⟨b,1,none⟩=some (.slice none 0 0):=by have:(w.alloc (.cells cs 5)).heap[b]? =_:=(Lib.alloc_old w _ b hlt).trans hbk;rw[Lib.cell_of_heap this];rfl
 have f2:(w.alloc (.cells cs 5)).frozen? ⟨b,1,none⟩=false:=Lib.frozen_of_heap ((Lib.alloc_old w _ b hlt).trans hbk) 1;have hcopy: ∀W:World,(Builtin.copy_ #[63,63] 3 #[.slice (some ⟨w.heap.size,0,none⟩) 0 cs.size,.slice none 0 0]).run Tryz.prog W=.ok (goInt 0) W:=
  fun W=>run_copy_none W 63 63 3 5 _ _ 0 cs.size 0 0 XM (by kernel_rfl) rfl
 clear hw;have hm2:=hmax (by unfold maxLen;omega);go_enter Tryz.func105,Tryz.ntmps105;go_wp2
 go_region
 all_goals (go_wp2;go_end0;exact⟨rfl,cs,hle,hm2,rfl⟩)
end Go.Proofs.YtknhlobahpgkeaaGreatDoor
namespace Nt.Ev.YtknhlobahpgkeaaGreatDoor
open Go Go.RowKit Nt Go.Proofs.YtknhlobahpgkeaaGreatDoor
theorem bld_all:(List.range Go.Proofs.Tryz.prog.types.size).all (fun e=>match Go.Proofs.Tryz.prog.info? e with
 |some i=>aL (bldN Go.Proofs.Tryz.prog 4 e)||liesAt Go.Proofs.Tryz.prog Go.Proofs.Tryz.prog.depth e (i.size/Go.Proofs.Tryz.prog.cellsOf e) 0 65 1
 |none=>true)=true:=by kernel_rfl
theorem bld_only (e n:Nat) (h:o8 Go.Proofs.Tryz.prog e n=true):liesAt Go.Proofs.Tryz.prog Go.Proofs.Tryz.prog.depth e (n/Go.Proofs.Tryz.prog.cellsOf e) 0 65 1=true:=by
 unfold o8 at h;split at h
 ·rename_i i c
  rw[bC,bC,iM] at h;obtain⟨b,rfl,d⟩:=h;have a:e<Go.Proofs.Tryz.prog.types.size:=by
   by_cases a:e<Go.Proofs.Tryz.prog.types.size
   ·exact a
   have:=Tables.info?_beyond a c;split at b
   ·rename_i q
    rw[q] at this
    cases this
   cases b
  have:=List.all_eq_true.1 bld_all e (List.mem_range.2 a);rw[c] at this;simp only[d,aL,acJ,abS] at this;exact this
 cases h
theorem SQ (w:World) (b:Nat) (c:Array Value) (e:Nat) (u:Value) (f:w.heap[b]? =some (.cells c e (0,0))):w.setCell ⟨b,0,none⟩ u=w.setRow b (c.setIfInBounds 0 u):=by
 unfold World.setCell World.setRow;congr 1;refine Array.ext (by simp) fun i d g=>?_
 rw[abL,abL];split
 ·rename_i a
  subst a;have:w.heap[b]'(by simpa using d)=.cells c e (0,0):=by have:=Ao (xs:=w.heap) (i:=b) (by simpa using d);rw[f] at this;simpa using this.symm
  rw[this];rfl
 rfl
theorem sP {E:Env} {B:Own} {G0:aU} {b:World} {s:St} {g:Gh} {a:Act} {w:World} (h:Inv E B G0 b s g a w) {fr:ah} {vs:Array Value} (c:B.df=[]) (d:PW (aT g) fr vs.toList):Inv E B G0 b ⟨fr,s.bx⟩ g ⟨vs,[]⟩ w:=
 ⟨d,c.symm,h.gok,h.own,h.bxs,h.lS,h.hB,h.ext,h.glob,h.g1,h.zb⟩
theorem XG {E:Env} (D:E.P=Go.Proofs.Tryz.prog) (x a:V) (r:ah) (L:x=.nilp∨x=.box HL 0):XC E 62 [.bxa 0 (x::a::r)] false (.tup []) [.box HL 0::a::r]:=by
 intro B g w vs o u;have f:=u.fr;match vs,f with
 |[],f=>exact absurd f.1 (by have e:qC (V.bxa 0 (x::a::r))=false:=rfl;simp[bR,e])
 |v::R::t,f=>exact absurd f.1 (by have e:qC (V.bxa 0 (x::a::r))=false:=rfl;simp[bR,e])
 |[v],f=>
  obtain⟨b,q,N⟩:=dV.1 (show aT g (.box HL 0) v from f.head);have C:aJ (dI 0 [.bxa 0 (x::a::r)]) HL=some (x::a::r):=rfl;obtain⟨O,c,e,n,G,l,s,Q,T,H⟩:=u.bxs.1 HL (x::a::r) C;rw[q] at n;simp only[aR] at n;subst n;subst N;obtain⟨u0,i,j,rfl⟩: ∃u0 i j,c=(u0::i::j).toArray:=by
   have d:=s.1;match hc:c.toList,d with
   |u0::i::j,_=>exact⟨u0,i,j,by rw[←ack (xs:=c),hc]⟩
   |[_],d=>simp at d
   |[],d=>simp at d
  have p:=s.head;have h: ∀g':Gh,PW (aT g') [V.tup []] (#[Value.tuple #[]]:Array Value).toList:=fun g'=> .cons ⟨[],rfl,.nil⟩ .nil
  rw[D];rcases L with rfl|rfl
  ·have M:=bld_only e _ (by rw[←D];exact H rfl)
   have y:(V.nilp::a::r).length=(u0::i::j).length:=by simpa using s.1
   have z:u0=.pointer none:=by have:aT g .nilp u0:=p;simp only[aT,bP] at this;unfold aV at this;exact this
   subst z;refine(VD b e _ M (by simp) w (by rw[Lib.cell_of_heap l];simp) (by unfold World.shape?;rw[l];simp[y]) (by unfold World.frozen?;rw[l];rfl)).mono ?_;rintro I w' ⟨rfl,rfl⟩;refine⟨g,_,rfl,?_⟩;have A:aT g (.box HL 0) (.pointer (some ⟨b,0,none⟩)):=dV.2 ⟨b,q,rfl⟩;have K:=u.store (k:=HL) (off:=0) (b:=b) (old:=.nilp::a::r) (vs:=[.box HL 0]) (us:=[.pointer (some ⟨b,0,none⟩)]) q C l s (.cons A .nil) (by simp[Value.oneCell']) (by simp) (fun l=>by cases l);rw[SQ w b _ _ _ l];have J:((Value.pointer none::i::j).toArray.setIfInBounds 0 (.pointer (some ⟨b,0,none⟩)))=(((Value.pointer none::i::j).toArray.toList.take 0++[Value.pointer (some ⟨b,0,none⟩)]++(Value.pointer none::i::j).toArray.toList.drop (0+1)).toArray):=by simp
   rw[J];exact sP K o (h g)
  have z:u0=.pointer (some ⟨b,0,none⟩):=by obtain⟨S,m,F⟩:=dV.1 (show aT g (.box HL 0) u0 from p);rw[q] at m;simp only[aR] at m;rw[F,m]
  subst z;refine(ad2 b w (by rw[Lib.cell_of_heap l];simp)).mono ?_;rintro I w' ⟨rfl,rfl⟩;exact⟨g,_,rfl,sP u o (h g)⟩
theorem EM (w:World) (b n j:Nat) (c:Array Value) (e:Nat) (fr:Nat×Nat) (f:w.heap[b]? =some (.cells c e fr)): ∃d,(w.freeze ⟨b,0,none⟩ n).heap[j]? =if j=b then some (.cells c e d) else w.heap[j]? :=by
 unfold World.freeze;split
 ·refine⟨fr,?_⟩
  split
  ·rename_i i;rw[i,f]
  rfl
 obtain⟨h,g⟩:=fr;refine⟨if h==g then(0,0+n) else(min h 0,max g (0+n)),?_⟩;simp only[acC];by_cases a:j=b
 ·subst a
  rw[if_pos rfl,if_pos rfl,f];rfl
 rw[if_neg (fun e=>a e.symm),if_neg a]
theorem VE {E:Env} {B:Own} {G0:aU} {M:World} {s:St} {g:Gh} {a:Act} {w:World} (h:Inv E B G0 M s g a w) {b:Nat} {l:List Value} (J:g.G b=some l) (hm:B.m b) (W: ∀L v e y,g.O L=some (v,e,y)→v.ownBlock≠some b) (n:Nat):
  Inv E B G0 M s g a (w.freeze ⟨b,0,none⟩ n):=by
 obtain⟨c,e,fr,I,R⟩:=h.gok b l J;have F:(w.freeze ⟨b,0,none⟩ n).heap.size=w.heap.size:=by unfold World.freeze;split<;>simp
 have d: ∀j,j≠b→(w.freeze ⟨b,0,none⟩ n).heap[j]? =w.heap[j]? :=fun j i=>by obtain⟨t,u⟩:=EM w b n j c e fr I;rw[u,if_neg i]
 refine⟨h.fr,h.df,fun f K o=>?_,⟨fun L v x y hL=>?_,h.own.2⟩,⟨fun k V S=>?_,h.bxs.2⟩,h.lS.trans ⟨Lib.below_freeze (Below.refl 0 w) (JS _) n,fun j i=>d j fun e=>i (e▸hm),uh I fun j i _=>d j i⟩,by rw[F];exact h.hB,h.ext,h.glob,h.g1,h.zb⟩
 ·by_cases i:f=b
  ·subst i
   obtain⟨t,u⟩:=EM w f n f c e fr I;rw[if_pos rfl] at u;rw[J] at o
   cases o;exact⟨c,e,t,u,R⟩
  obtain⟨X,e1,U,D,z⟩:=h.gok f K o;exact⟨X,e1,U,(d f i).trans D,z⟩
 ·obtain⟨D,z⟩:=h.own.1 L v x y hL
  refine⟨D,z.imp id ?_⟩;rintro⟨f,P,cap,H,K,N,A,p,q⟩;exact⟨f,P,cap,H,K,N,A,(d f fun e=>W L v x y hL (by rw[N,e];rfl)).trans p,q⟩
 obtain⟨f,Q,x,A,C,p,Y,Z,r,T⟩:=h.bxs.1 k V S;exact⟨f,Q,x,A,C,(d f fun e=>by rw[e,J] at r;cases r).trans p,Y,Z,r,T⟩
theorem u8_cells:Go.Proofs.Tryz.prog.cellsOf 5=1:=by kernel_rfl
theorem u8_ptr:Go.Proofs.Tryz.prog.underlying 104=some (.pointer 5):=by kernel_rfl
theorem yJ {E:Env} (y:E.P=Go.Proofs.Tryz.prog) (x:V) (r:ah):XC E 17 [.bxa 0 (x::.nilsl::r)] false (.str []) [x::.nilsl::r]:=by
 intro B g w vs j k;have d:=k.fr;match vs,d with
 |[],d=>exact absurd d.1 (by simp[bR,qC,HID])
 |v::F::t,d=>exact absurd d.1 (by simp[bR,qC,HID])
 |[v],d=>
  obtain⟨b,o,u⟩:=dV.1 (show aT g (.box HL 0) v from d.head);obtain⟨z,c,e,f,p,q,n,D,G,A⟩:=k.bxs.1 HL (x::.nilsl::r) rfl;rw[o] at f;simp only[aR] at f;subst f;subst u;obtain⟨u0,h,i,rfl⟩: ∃u0 h i,c=(u0::h::i).toArray:=by
   have a:=n.1;match hc:c.toList,a with
   |u0::h::i,_=>exact⟨u0,h,i,by rw[←ack (xs:=c),hc]⟩
   |[_],a=>simp at a
   |[],a=>simp at a
  have s:h=.slice none 0 0:=by have:aT g .nilsl h:=n.tail.head;simp only[aT,bP] at this;unfold aV at this;exact this
  subst s;rw[y];have m:w.drew.cell? ⟨b,1,none⟩=some (.slice none 0 0):=by have l:w.drew.heap[b]? =_:=q;rw[Lib.cell_of_heap l];simp
  refine(qd b none none 0 0 .empty w w.drew w.drew m m rfl (Lib.run_unsafeString_none w.drew _ _ _ none)).mono ?_;rintro C w' ⟨rfl,rfl⟩;exact⟨g,_,rfl,sP k.drew j (.cons (gJ.2 rfl) .nil)⟩
theorem Mf {E:Env} (hP:E.P=Go.Proofs.Tryz.prog) (x:V) (r:ah) (hx:x.kill 1000001002=x) (Z:r.map (V.kill 1000001002)=r) (xs:ah):XC E 17 [.bxa 0 (x::.sl 5 [.int .u8] (some 1000001002) xs::r)] false (.str (fZ xs)) [x::.sl 5 [.int .u8] none xs::r]:=by
 intro B g w vs hdf n;have f:=n.fr;match vs,f with
 |[],f=>exact absurd f.1 (by simp[bR,qC,HID])
 |v::v2::t,f=>exact absurd f.1 (by simp[bR,qC,HID])
 |[v],f=>
  obtain⟨b,hb,hv⟩:=dV.1 (show aT g (.box HL 0) v from f.head);obtain⟨b',c,e,C,hBb,X,hp,ho,hG,hq⟩:=n.bxs.1 HL (x::.sl 5 [.int .u8] (some 1000001002) xs::r) rfl;rw[hb] at C;simp only[aR] at C;subst C;subst hv;obtain⟨u0,K,W,rfl⟩: ∃u0 K W,c=(u0::K::W).toArray:=by
   have a:=hp.1;match hc:c.toList,a with
   |u0::K::W,_=>exact⟨u0,K,W,by rw[←ack (xs:=c),hc]⟩
   |[_],a=>simp at a
   |[],a=>simp at a
  obtain⟨hO,Q⟩:bP g (.sl 5 [.int .u8] (some 1000001002) xs) K:=aZ rfl hp.tail.head;have R:=n.kill 1000001002;have z:(⟨bR 0 [.bxa 0 (x::.sl 5 [.int .u8] (some 1000001002) xs::r)],dI 0 [.bxa 0 (x::.sl 5 [.int .u8] (some 1000001002) xs::r)]⟩:St).kill 1000001002=⟨[.box HL 0],[(HL,x::.sl 5 [.int .u8] none xs::r)]⟩:=by show(⟨[.box HL 0],[(HL,x.kill 1000001002::_::r.map (V.kill 1000001002))]⟩:St)=_;rw[hx,Z];rfl
  rw[z] at R;rw[hP];have o: ∀(w':World) g',Inv E B g.G w ⟨[.box HL 0],[(HL,x::.sl 5 [.int .u8] none xs::r)]⟩ g' ⟨#[.pointer (some ⟨b,0,none⟩)],[]⟩ w'→Inv E B g.G w ⟨[.str (fZ xs)],[(HL,x::.sl 5 [.int .u8] none xs::r)]⟩ g' ⟨#[.string ⟨(fZ xs).toArray⟩],[]⟩ w':=
   fun w' g' h=>sP h hdf (.cons (gJ.2 rfl) .nil)
  rcases Q with⟨rfl,rfl⟩|⟨d,cap,l,rfl,hcap,U,hl,hr⟩
  ·have q:w.drew.cell? ⟨b,1,none⟩=some (.slice none 0 0):=by have D:w.drew.heap[b]? =_:=X;rw[Lib.cell_of_heap D];simp
   refine(qd b none none 0 0 .empty w w.drew w.drew q q rfl (Lib.run_unsafeString_none w.drew _ _ _ none)).mono ?_;rintro S w' ⟨rfl,rfl⟩;exact⟨_,_,rfl,o _ _ R.drew⟩
  obtain⟨b2,n2,cap2,m,l2,H,hB2,I,hn2,J,M,hG2,hl2⟩:=((n.own.1 _ _ _ _ hO).2).resolve_left (by intro h;cases h);simp only[Value.slice.injEq,aR,Addr.mk.injEq,Tp,jA] at H;obtain⟨rfl,rfl,rfl⟩:=H;have q:w.drew.cell? ⟨b,1,none⟩=some (.slice (some ⟨d,0,none⟩) xs.length cap):=by have D:w.drew.heap[b]? =_:=X;rw[Lib.cell_of_heap D];simp
  by_cases s:xs=[]
  ·subst s
   by_cases F:cap=0
   ·subst F
    have hlt:b<w.heap.size:=(Array.getElem?_eq_some_iff.1 X).1;have A:w.drew.shape? (⟨d,0,none⟩:Addr).block=some (5,m.size):=by have u:w.drew.heap[d]? =some (.cells m 5 (0,0)):=I;simp[World.shape?,u]
    have hSD:=Lib.run_unsafeSliceData_zero (P:=Go.Proofs.Tryz.prog) w.drew #[63] 104 5 u8_ptr ⟨d,0,none⟩ 0 _ A;have c2:(w.drew.alloc (.view ⟨d,0,none⟩ 5)).cell? ⟨b,1,none⟩=some (.slice (some ⟨d,0,none⟩) 0 0):=by have:(w.drew.alloc (.view ⟨d,0,none⟩ 5)).heap[b]? =_:=(Lib.alloc_old w.drew _ b hlt).trans X;rw[Lib.cell_of_heap this];simp
    refine(qd b _ _ 0 0 .empty w _ _ q c2 hSD (Lib.run_unsafeString_none _ _ _ _ _)).mono ?_;rintro S w' ⟨rfl,rfl⟩;have hal: ∀i,i<w.heap.size→(w.drew.alloc (.view ⟨d,0,none⟩ 5)).heap[i]? =w.drew.heap[i]? :=fun i n=>Lib.alloc_old w.drew _ i n
    have T:New w.drew (w.drew.alloc (.view ⟨d,0,none⟩ 5)) g.G g.G:=⟨(Below.refl _ _).alloc (lg _) _,fun _ _=>rfl,fun b' l' hG'=>by obtain⟨c',S,fr',h1,h2⟩:=n.gok b' l' hG';exact⟨c',S,fr',(hal b' (Array.getElem?_eq_some_iff.1 h1).1).trans h1,h2⟩⟩
    exact⟨_,_,rfl,o _ _ (R.drew.new T).1⟩
   refine(qd b _ _ 0 cap .empty w _ _ q q (Lib.run_unsafeSliceData_row w.drew _ _ _ _ _ F) (Lib.run_unsafeString_none _ _ _ _ _)).mono ?_;rintro S w' ⟨rfl,rfl⟩;exact⟨_,_,rfl,o _ _ R.drew⟩
  have hxl:xs.length≠0:=by simpa using s
  have p:=Dk xs l hr;have hll:l.length=xs.length:=by rw[hl];simp
  have A:w.drew.shape? d=some (5,m.size):=by have u:w.drew.heap[d]? =some (.cells m 5 (0,0)):=I;simp[World.shape?,u]
  have hcs:m.size=cap:=by rw[M];simp
  have N:=Kn (P:=Go.Proofs.Tryz.prog) w.drew 104 3 9 5 u8_ptr u8_cells d m.size A (xs.map fun x=>asInt (ai x 0)) (by simpa using s) (by rw[kJ];omega) (by rw[kJ];unfold maxLen at J;omega) (fun j y hy=>by rw[show(⟨d,0,none⟩:Addr).add j=⟨d,j,none⟩ by unfold Addr.add;by_cases hj:j=0<;>simp[hj]];refine jR (w:=w.drew) n.gok U ?_;have:l.take xs.length=l:=O9 (by omega);rw[this] at p;rw[p,sW,hy];rfl);rw[kJ] at N;refine(qd b _ _ _ cap _ w _ _ q q (Lib.run_unsafeSliceData_row w.drew _ _ _ _ _ (by omega)) N).mono ?_;rintro S w' ⟨rfl,rfl⟩;refine⟨{g with O:=fun k=>if k=1000001002 then none else g.O k},.string ⟨(fZ xs).toArray⟩,?_,o _ _ (VE R.drew (b:=d) (l:=l) U hB2.1 ?_ _)⟩
  ·show Ending.returned _=Ending.returned _
   unfold fZ;simp
  intro L v e1 sz hL hv;have hL:(if L=1000001002 then none else g.O L)=some (v,e1,sz):=hL;split at hL
  ·cases hL
  rename_i Y;exact Y (n.own.2 L 1000001002 v _ e1 _ sz _ d hL hO hv rfl)
theorem O3 (w:World) (b:Nat) (c:Array Value) (e:Nat) (u:Value) (f:w.heap[b]? =some (.cells c e (0,0))):w.setCell ⟨b,1,none⟩ u=w.setRow b (c.setIfInBounds 1 u):=by
 unfold World.setCell World.setRow;congr 1;refine Array.ext (by simp) fun i d g=>?_
 rw[abL,abL];split
 ·rename_i a
  subst a;have:w.heap[b]'(by simpa using d)=.cells c e (0,0):=by have:=Ao (xs:=w.heap) (i:=b) (by simpa using d);rw[f] at this;simpa using this.symm
  rw[this];rfl
 rfl
theorem Ko (w:World) (b:Nat) (u:Value) (o:Obj) (h:b<w.heap.size):(w.setCell ⟨b,1,none⟩ u).alloc o=(w.alloc o).setCell ⟨b,1,none⟩ u:=by
 unfold World.setCell World.alloc;congr 1;refine Array.ext (by simp) fun i d c=>?_
 rw[abL,Array.getElem_push,Array.getElem_push];by_cases a:i<w.heap.size
 ·simp[a,abL]
 have: ¬b=i:=by omega
 simp[a,this]
theorem grow_xc {E:Env} (hP:E.P=Go.Proofs.Tryz.prog) (x:V) (U:x=.nilp∨ ∃off,x=.box HL off) (n:Int) (h0:0≤n) (hn:n≤281474976710656):
  XC E 105 [.bxa 0 [x,.nilsl],.int .i64 n] false (.tup []) [[x,.sl 5 [.int .u8] (some 1002) []]]:=by
 intro B g w vs O h;have a:=h.fr;match vs,a with
 |[],a=>exact absurd a.1 (by simp[bR,qC,HID])
 |[_],a=>exact absurd a.1 (by simp[bR,qC,HID])
 |v::I::v3::t,a=>exact absurd a.1 (by simp[bR,qC,HID])
 |[v,I],a=>
  obtain⟨b,T,hv⟩:=dV.1 (show aT g (.box HL 0) v from a.head);have F:I=.int .i64 n:=cu.1 (show aT g (.int .i64 n) I from a.tail.head);obtain⟨b',c,e,f,hBb,S,Y,ho,hG,W⟩:=h.bxs.1 HL [x,.nilsl] rfl;rw[T] at f;simp only[aR] at f;subst f;subst hv;subst F;obtain⟨z,s,rfl⟩: ∃z s,c= #[z,s]:=by
   have r:=Y.1;match hc:c.toList,r with
   |[z,s],_=>exact⟨z,s,by rw[←ack (xs:=c),hc]⟩
  have hu:s=.slice none 0 0:=iK.1 Y.tail.head;subst hu;have y:b<w.heap.size:=(Array.getElem?_eq_some_iff.1 S).1;rw[hP];obtain⟨m,rfl⟩: ∃m:Nat,n=(m:Int):=⟨n.toNat,by omega⟩
  refine(bld_grow b m z e w S (by omega)).mono ?_;rintro e' w' ⟨rfl,o,hle,C,rfl⟩;rw[Ko w b _ _ y];have A:New w (w.alloc (.cells o 5)) g.G (upd g.G w.heap.size []):=by
   refine⟨iD _ _,fun j q=>by unfold upd;rw[if_neg (by omega)],fun j l q=>?_⟩;unfold upd at q;split at q
   ·rename_i M
    simp only[aR] at q;subst q;subst M;exact⟨o,_,_,heap_alloc_new w _,rfl⟩
   obtain⟨c2,e2,f2,X,Z⟩:=h.gok j l q;exact⟨c2,e2,f2,(Lib.alloc_old w _ j (Array.getElem?_eq_some_iff.1 X).1).trans X,Z⟩
  have K:=(h.new A).1;have R:(⟨bR 0 [.bxa 0 [x,.nilsl],.int .i64 (m:Int)],dI 0 [.bxa 0 [x,.nilsl],.int .i64 (m:Int)]⟩:St).bI 1002=true:=by rcases U with rfl|⟨off,rfl⟩<;>rfl
  obtain⟨g',hg,i,hs⟩:=K.label (d:=1002) (e:=5) (sh:=[.int .u8]) (xs:=[]) (u:=.slice (some ⟨w.heap.size,0,none⟩) 0 o.size) R
   ⟨Nat.zero_lt_one,.inr ⟨w.heap.size,o.size,o,[],rfl,⟨h.hB.2 _ (lg _),fun _=>h.hB.1⟩,heap_alloc_new w _,JS _,C,by simp,upd_same _ _ _,rfl,iR⟩⟩
   (fun L v e sz b' hL _ f J=>by have:=vO h.gok h.own hL f;simp only[Value.ownBlock,aR] at J;omega)
  have D:g'.β HL=some b:=by rw[i.ext.2.2 HL (lg _),←h.ext.2.2 HL (lg _)];exact T
  obtain⟨b3,c3,e3,Q,_,H,q4,_,_,q7⟩:=i.bxs.1 HL [x,.nilsl] rfl;rw[D] at Q;simp only[aR] at Q;subst Q;have p:=(Lib.alloc_old w (.cells o 5) b y).trans S;rw[p] at H;simp only[aR,Obj.cells.injEq,Tp] at H;obtain⟨rfl,rfl⟩:=H;have N:=i.store (k:=HL) (off:=1) (b:=b) (old:=[x,.nilsl]) (vs:=[.sl 5 [.int .u8] (some 1002) []]) (us:=[.slice (some ⟨w.heap.size,0,none⟩) 0 o.size]) D rfl p q4 (.cons (bG rfl hs) .nil) (by simp[Value.oneCell']) (by simp) (fun W=>by
   rcases U with rfl|⟨off,rfl⟩
   ·rfl
   cases W)
  rw[O3 _ b _ _ _ p];exact⟨g',_,rfl,sP N.drew.drew.drew O (.cons ⟨[],rfl,.nil⟩ .nil)⟩
end Nt.Ev.YtknhlobahpgkeaaGreatDoor
