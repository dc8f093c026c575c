/-
  (*strings.Builder).copyCheck: at a fresh builder, and at a used one. (*strings.Builder).String: walked, with its worlds. (*strings.Builder).grow at a builder that holds nothing: walked, with its worlds. copyCheck of a strings.Builder: what it answers, with boxes. String of a strings.Builder: what it answers, with boxes. grow of a strings.Builder that holds nothing: what it answers, with boxes.
-/
import Derived.Test.YtplklcejbmfgdaaGreatDoorMC
import Derived.Test.YtplklcejbmfgdaaGreatDoorProg
import Derived.Lib.Builder
import Derived.Laws.Externs
import Derived.Lib.UnsafeStr
import Derived.BigRegion
import Derived.Lib.MakeNoZero
import Derived.Lib.AppendStr
import Derived.ChangeMade
import Derived.Test.YtplklcejbmfgdaaGreatDoorMBB
set_option linter.unusedVariables false
set_option linter.unusedSimpArgs false
set_option linter.unusedSectionVars false
namespace Go.Proofs.YtplklcejbmfgdaaGreatDoor
open Go.RowKit
theorem Qn:(Tryz.prog.info? 83).map (·.size)=some 2:=by kernel_rfl
theorem Nz:Tryz.prog.underlying 80=some (.pointer 83):=by kernel_rfl
theorem WA:Tryz.prog.underlying 145=some .unsafePointer:=by kernel_rfl
set_option maxHeartbeats 1000000 in
set_option maxRecDepth 100000 in
theorem Zt (b:Nat) (w:World) (h0:w.cell? ⟨b,0,none⟩=some (.pointer (some ⟨b,0,none⟩))):
  Calls Tryz.prog 68 #[.pointer (some ⟨b,0,none⟩)] w fun e w'=>e=.returned (.tuple #[])∧w'=w:=by
 obtain⟨j,hj,_⟩:=Option.map_eq_some_iff.1 Qn;go_enter Tryz.func68,Tryz.ntmps68
 go_wp2
 rw[Lib.run_neq_ptr_same w _ Nz hj];go_wp2
 go_end0
 exact⟨rfl,rfl⟩
set_option maxHeartbeats 1000000 in
set_option maxRecDepth 100000 in
theorem UE (b e n:Nat) (hlies:liesAt Tryz.prog Tryz.prog.depth e (n/Tryz.prog.cellsOf e) 0 83 1=true) (hn:0<n) (w:World) (h0:w.cell? ⟨b,0,none⟩=some (.pointer none)) (hsh:w.shape? b=some (e,n)) (hfz:w.frozen? ⟨b,0,none⟩=false):
  Calls Tryz.prog 68 #[.pointer (some ⟨b,0,none⟩)] w fun e w'=>e=.returned (.tuple #[])∧w'=w.setCell ⟨b,0,none⟩ (.pointer (some ⟨b,0,none⟩)):=by
 obtain⟨j,hj,hjs⟩:=Option.map_eq_some_iff.1 Qn;go_enter Tryz.func68,Tryz.ntmps68
 go_wp2
 rw[Lib.run_to_unsafe w ⟨b,0,none⟩ Nz WA hj (by rw[hjs];decide) hsh hn];simp only[Result.andThen];rw[Oper.upon_value];go_wp2
 rw[run_callFunc_extern Tryz.func93 (by kernel_rfl) (by kernel_rfl) (by kernel_rfl) (e:=Extern.AbiNoEscape.same) (by kernel_rfl)];rw[Lib.run_noEscape];simp only[Result.andThen];rw[Oper.upon_value];go_wp2
 rw[Lib.run_from_unsafe w ⟨b,0,none⟩ WA Nz hj hsh hlies];simp only[Result.andThen];rw[Oper.upon_value];go_wp2
 go_end0
 exact⟨rfl,rfl⟩
section
variable {P:Program} (w:World)
theorem II: ∀(ns:List Int) (a:Addr) (acc:ByteArray),(∀j n,ns[j]? =some n→w.cell? (a.add j)=some (.int .u8 n))→
  (loadBytes a acc ns.length).run P w=.ok ⟨acc.data++(ns.map fun n=>UInt8.ofNat n.toNat).toArray⟩ w
 |[],a,acc,_=>by simp[loadBytes]
 |x::l,a,acc,h=>by
  have h0:w.cell? a=some (.int .u8 x):=by
   have:=h 0 x rfl;simpa[Addr.add] using this
  have ih:=II l (a.add 1) (acc.push x.toNat.toUInt8) (fun j y hy=>by
   have:=h (j+1) y (by simpa using hy);have e:(a.add 1).add j=a.add (j+1):=by
    unfold Addr.add;by_cases hj:j=0
    ·subst hj;simp
    ·simp[hj];omega
   rw[e];exact this)
  simp only[List.length_cons,loadBytes,Sem.run_bind,run_load,h0,Result.andThen];rw[ih];congr 1
  apply ByteArray.ext
  simp[ByteArray.push]
theorem JR (pt it ty e:TypeId) (hp:P.underlying pt=some (.pointer e)) (hc:P.cellsOf e=1) (g cells:Nat) (hsh:w.shape? g=some (e,cells)) (l:List Int) (h0:l≠[]) (hn:l.length≤cells) (h63:l.length≤9223372036854775807)
  (hcell: ∀j x,l[j]? =some x→w.cell? ((⟨g,0,none⟩:Addr).add j)=some (.int .u8 x)):
  (Builtin.unsafeString_ #[pt,it] ty #[.pointer (some ⟨g,0,none⟩),.int .i64 l.length]).run P w=.ok (.string ⟨(l.map fun n=>UInt8.ofNat n.toNat).toArray⟩) (w.freeze ⟨g,0,none⟩ l.length):=by
 have hl:l.length≠0:=by simpa using h0
 have hlb:=II (P:=P) w l ⟨g,0,none⟩ .empty hcell;have hlies:=Lib.liesAt_bytes (P:=P) hc (cells/P.cellsOf e) l.length (by rw[hc];simpa using hn);have h63': ¬(9223372036854775807:Int)<(l.length:Int):=by omega
 have hdef:Builtin.unsafeString_ #[pt,it] ty #[.pointer (some ⟨g,0,none⟩),.int .i64 l.length]=
   (do
    let n←asInt (.int .i64 l.length)
    if n<0 then runtimePanic (.error "unsafe.String: len out of range")
    if n>IntKind.i64.max then unsupported (.unsafePointer "String: a length above the largest int")
    if n=0 then pure (.string .empty)
    else if←variablesAt ⟨g,0,none⟩ (←elemOf pt) n.toNat then do
     let s←loadBytes ⟨g,0,none⟩ .empty n.toNat
     freeze ⟨g,0,none⟩ n.toNat
     pure (.string s)
    else unsupported (.unsafePointer "String: not so many bytes at ptr")):=rfl
 rw[hdef];have hmax:IntKind.i64.max=9223372036854775807:=rfl;have hneg: ¬(l.length:Int)<0:=by omega
 simp[asInt,asIntOf,hmax,h63',hneg,hl,variablesAt,hsh,elemOf,run_underlying hp,hlies,hlb]
end
set_option maxHeartbeats 2000000 in
set_option maxRecDepth 100000 in
theorem p8 (b:Nat) (p q:Option Addr) (n cap:Nat) (s:ByteArray) (w w1 w2:World) (c1:w.drew.cell? ⟨b,1,none⟩=some (.slice p n cap)) (c2:w1.cell? ⟨b,1,none⟩=some (.slice p n cap))
  (hSD:(Builtin.unsafeSliceData_ #[81] 123 #[.slice p n cap]).run Tryz.prog w.drew=.ok (.pointer q) w1)
  (hUS:(Builtin.unsafeString_ #[123,3] 9 #[.pointer q,.int .i64 n]).run Tryz.prog w1=.ok (.string s) w2):
  Calls Tryz.prog 34 #[.pointer (some ⟨b,0,none⟩)] w fun e w'=>e=.returned (.string s)∧w'=w2:=by
 go_enter Tryz.func34,Tryz.ntmps34
 go_wp2
 go_region
 all_goals (go_wp2;go_ret;exact⟨rfl,rfl⟩)
theorem WB:Tryz.prog.underlying 81=some (.slice 5):=by kernel_rfl
set_option maxHeartbeats 2000000 in
set_option maxRecDepth 100000 in
theorem bld_grow (b n:Nat) (p:Value) (e:TypeId) (w:World) (hbk:w.heap[b]? =some (.cells #[p,.slice none 0 0] e (0,0))) (hn:n≤281474976710656):
  Calls Tryz.prog 117 #[.pointer (some ⟨b,0,none⟩),.int .i64 n] w fun e w'=>e=.returned (.tuple #[])∧ ∃cs:Array Value,n≤cs.size∧cs.size≤maxLen∧w'=((w.setCell ⟨b,1,none⟩ (.slice (some ⟨w.heap.size,0,none⟩) 0 cs.size)).alloc (.cells cs 5)).drew.drew.drew:=by
 obtain⟨cs,hrun,hle,hmax⟩:=Lib.run_makeNoZero (P:=Tryz.prog) w.drew #[3] 81 5 WB n hn;have hw:IntKind.i64.wrap (IntKind.i64.wrap 0+(n:Int))=n:=by
  rw[IntKind.wrap_i64,IntKind.wrap_i64];omega
 have hcall:(callFunc 144 #[.int .i64 (IntKind.i64.wrap (IntKind.i64.wrap 0+(n:Int)))]).run Tryz.prog w.drew=.ok (.value (.slice (some ⟨w.drew.heap.size,0,none⟩) n cs.size)) (w.drew.drew.drew.alloc (.cells cs 5)):=by
  rw[hw,run_callFunc_extern Tryz.func144 (by kernel_rfl) (by kernel_rfl) (by kernel_rfl) (e:=Extern.BytealgMakeNoZero.makeNoZero #[3] #[81]) (by kernel_rfl),hrun];rfl
 have c1:w.drew.cell? ⟨b,1,none⟩=some (.slice none 0 0):=by
  have:w.drew.heap[b]? =_:=hbk;rw[Lib.cell_of_heap this];rfl
 have hlt:b<w.heap.size:=(Array.getElem?_eq_some_iff.1 hbk).1;have c2:(w.alloc (.cells cs 5)).cell? ⟨b,1,none⟩=some (.slice none 0 0):=by
  have:(w.alloc (.cells cs 5)).heap[b]? =_:=(Lib.alloc_old w _ b hlt).trans hbk;rw[Lib.cell_of_heap this];rfl
 have f2:(w.alloc (.cells cs 5)).frozen? ⟨b,1,none⟩=false:=Lib.frozen_of_heap ((Lib.alloc_old w _ b hlt).trans hbk) 1;have hcopy: ∀W:World,(Builtin.copy_ #[81,81] 3 #[.slice (some ⟨w.heap.size,0,none⟩) 0 cs.size,.slice none 0 0]).run Tryz.prog W=.ok (goInt 0) W:=
  fun W=>run_copy_none W 81 81 3 5 _ _ 0 cs.size 0 0 WB (by kernel_rfl) rfl
 clear hw;have hm2:=hmax (by unfold maxLen;omega);go_enter Tryz.func117,Tryz.ntmps117
 go_wp2
 go_region
 all_goals (go_wp2;go_end0;exact⟨rfl,cs,hle,hm2,rfl⟩)
end Go.Proofs.YtplklcejbmfgdaaGreatDoor
namespace Nt.Ev.YtplklcejbmfgdaaGreatDoor
open Go Go.RowKit Nt Go.Proofs.YtplklcejbmfgdaaGreatDoor
theorem bld_all:(List.range Go.Proofs.Tryz.prog.types.size).all (fun e=>match Go.Proofs.Tryz.prog.info? e with
 |some i=>aK (bldN Go.Proofs.Tryz.prog 4 e)||liesAt Go.Proofs.Tryz.prog Go.Proofs.Tryz.prog.depth e (i.size/Go.Proofs.Tryz.prog.cellsOf e) 0 83 1
 |none=>true)=true:=by kernel_rfl
theorem bld_only (e n:Nat) (h:o6 Go.Proofs.Tryz.prog e n=true):liesAt Go.Proofs.Tryz.prog Go.Proofs.Tryz.prog.depth e (n/Go.Proofs.Tryz.prog.cellsOf e) 0 83 1=true:=by
 unfold o6 at h;split at h
 ·rename_i i hi
  rw[Bool.and_eq_true,Bool.and_eq_true,beq_iff_eq] at h;obtain⟨h1,rfl,h2⟩:=h;have he:e<Go.Proofs.Tryz.prog.types.size:=by
   by_cases he:e<Go.Proofs.Tryz.prog.types.size
   ·exact he
   ·have:=Tables.info?_beyond he hi
    split at h1
    ·rename_i q
     rw[q] at this
     cases this
    ·cases h1
  have:=List.all_eq_true.1 bld_all e (List.mem_range.2 he);rw[hi] at this;simp only[h2,aK,Bool.not_true,Bool.false_or] at this;exact this
 ·cases h
theorem Ry (w:World) (b:Nat) (c:Array Value) (e:Nat) (u:Value) (hh:w.heap[b]? =some (.cells c e (0,0))):w.setCell ⟨b,0,none⟩ u=w.setRow b (c.setIfInBounds 0 u):=by
 unfold World.setCell World.setRow;congr 1
 refine Array.ext (by simp) fun i h1 h2=>?_
 rw[Array.getElem_modify,Array.getElem_modify];split
 ·rename_i hbi
  subst hbi;have:w.heap[b]'(by simpa using h1)=.cells c e (0,0):=by
   have:=Array.getElem?_eq_getElem (xs:=w.heap) (i:=b) (by simpa using h1);rw[hh] at this;simpa using this.symm
  rw[this];rfl
 ·rfl
theorem rZ {E:Env} {B:Own} {G0:aP} {w0:World} {s:St} {g:Gh} {a:Act} {w:World} (h:Inv E B G0 w0 s g a w) {fr:List V} {vs:Array Value} (hd:B.df=[]) (hp:PW (aN g) fr vs.toList):Inv E B G0 w0 ⟨fr,s.bx⟩ g ⟨vs,[]⟩ w:=
 ⟨hp,hd.symm,h.gok,h.own,h.bxs,h.mg,h.hB,h.ext,h.glob,h.g1,h.zb⟩
theorem Wv {E:Env} (hP:E.P=Go.Proofs.Tryz.prog) (x buf:V) (r:List V) (hx:x=.nilp∨x=.box HL 0):XC E 68 [.bxa 0 (x::buf::r)] false (.tup []) [.box HL 0::buf::r]:=by
 intro B g w vs hdf hi;have hfr:=hi.fr;match vs,hfr with
 |[],hfr=>exact absurd hfr.1 (by have e:qw (V.bxa 0 (x::buf::r))=false:=rfl;simp[bI,e])
 |v::v2::t,hfr=>exact absurd hfr.1 (by have e:qw (V.bxa 0 (x::buf::r))=false:=rfl;simp[bI,e])
 |[v],hfr=>
  obtain⟨b,hb,hv⟩:=dM.1 (show aN g (.box HL 0) v from hfr.head);have hl:ax (dH 0 [.bxa 0 (x::buf::r)]) HL=some (x::buf::r):=rfl;obtain⟨b',c,e,hb',hBb,hh,hp,ho,hG,hq⟩:=hi.bxs.1 HL (x::buf::r) hl;rw[hb] at hb';simp only[Option.some.injEq] at hb';subst hb';subst hv;obtain⟨u0,u1,ur,rfl⟩: ∃u0 u1 ur,c=(u0::u1::ur).toArray:=by
   have hlen:=hp.1;match hc:c.toList,hlen with
   |u0::u1::ur,_=>exact⟨u0,u1,ur,by rw[←Array.toArray_toList (xs:=c),hc]⟩
   |[_],hlen=>simp at hlen
   |[],hlen=>simp at hlen
  have hu0:=hp.head;have htup: ∀g':Gh,PW (aN g') [V.tup []] (#[Value.tuple #[]]:Array Value).toList:=fun g'=> .cons ⟨[],rfl,.nil⟩ .nil
  rw[hP];rcases hx with rfl|rfl
  ·have he:=bld_only e _ (by rw[←hP];exact hq rfl)
   have hsz:(V.nilp::buf::r).length=(u0::u1::ur).length:=by simpa using hp.1
   have hu:u0=.pointer none:=by
    have:aN g .nilp u0:=hu0;simp only[aN,bH] at this;unfold aO at this;exact this
   subst hu;refine(UE b e _ he (by simp) w (by rw[Lib.cell_of_heap hh];simp) (by unfold World.shape?;rw[hh];simp[hsz]) (by unfold World.frozen?;rw[hh];rfl)).mono ?_;rintro e' w' ⟨rfl,rfl⟩;refine⟨g,_,rfl,?_⟩;have hpt:aN g (.box HL 0) (.pointer (some ⟨b,0,none⟩)):=dM.2 ⟨b,hb,rfl⟩;have hs:=hi.store (k:=HL) (off:=0) (b:=b) (old:=.nilp::buf::r) (vs:=[.box HL 0]) (us:=[.pointer (some ⟨b,0,none⟩)]) hb hl hh hp (.cons hpt .nil) (by simp[Value.oneCell']) (by simp) (fun hh=>by cases hh);rw[Ry w b _ _ _ hh];have es:((Value.pointer none::u1::ur).toArray.setIfInBounds 0 (.pointer (some ⟨b,0,none⟩)))=(((Value.pointer none::u1::ur).toArray.toList.take 0++[Value.pointer (some ⟨b,0,none⟩)]++(Value.pointer none::u1::ur).toArray.toList.drop (0+1)).toArray):=by simp
   rw[es];exact rZ hs hdf (htup g)
  ·have hu:u0=.pointer (some ⟨b,0,none⟩):=by
    obtain⟨b2,hb2,h2⟩:=dM.1 (show aN g (.box HL 0) u0 from hu0);rw[hb] at hb2;simp only[Option.some.injEq] at hb2;rw[h2,hb2]
   subst hu;refine(Zt b w (by rw[Lib.cell_of_heap hh];simp)).mono ?_;rintro e' w' ⟨rfl,rfl⟩;exact⟨g,_,rfl,rZ hi hdf (htup g)⟩
theorem Ei (w:World) (b n j:Nat) (c:Array Value) (e:Nat) (fr:Nat×Nat) (hh:w.heap[b]? =some (.cells c e fr)): ∃fr',(w.freeze ⟨b,0,none⟩ n).heap[j]? =if j=b then some (.cells c e fr') else w.heap[j]? :=by
 unfold World.freeze;split
 ·refine⟨fr,?_⟩
  split
  ·rename_i e';rw[e',hh]
  ·rfl
 ·obtain⟨lo,hi⟩:=fr
  refine⟨if lo==hi then(0,0+n) else(min lo 0,max hi (0+n)),?_⟩;simp only[Array.getElem?_modify];by_cases hj:j=b
  ·subst hj
   rw[if_pos rfl,if_pos rfl,hh];rfl
  ·rw[if_neg (fun e=>hj e.symm),if_neg hj]
theorem UF {E:Env} {B:Own} {G0:aP} {w0:World} {s:St} {g:Gh} {a:Act} {w:World} (h:Inv E B G0 w0 s g a w) {b:Nat} {l:List Value} (hG:g.G b=some l) (hm:B.m b) (hO: ∀L v e sz,g.O L=some (v,e,sz)→v.ownBlock≠some b) (n:Nat):
  Inv E B G0 w0 s g a (w.freeze ⟨b,0,none⟩ n):=by
 obtain⟨c,e,fr,hh,ht⟩:=h.gok b l hG;have hsz:(w.freeze ⟨b,0,none⟩ n).heap.size=w.heap.size:=by unfold World.freeze;split<;>simp
 have hne: ∀j,j≠b→(w.freeze ⟨b,0,none⟩ n).heap[j]? =w.heap[j]? :=fun j hj=>by
  obtain⟨fr',h'⟩:=Ei w b n j c e fr hh;rw[h',if_neg hj]
 refine⟨h.fr,h.df,fun b' l' hG'=>?_,⟨fun L v e' sz hL=>?_,h.own.2⟩,⟨fun k cs hk=>?_,h.bxs.2⟩,h.mg.trans ⟨Lib.below_freeze (Below.refl 0 w) (Nat.zero_le _) n,fun j hj=>hne j fun e=>hj (e▸hm)⟩,by rw[hsz];exact h.hB,h.ext,h.glob,h.g1,h.zb⟩
 ·by_cases hj:b'=b
  ·subst hj
   obtain⟨fr',h'⟩:=Ei w b' n b' c e fr hh;rw[if_pos rfl] at h';rw[hG] at hG'
   cases hG';exact⟨c,e,fr',h',ht⟩
  ·obtain⟨c1,e1,f1,h1,h2⟩:=h.gok b' l' hG'
   exact⟨c1,e1,f1,(hne b' hj).trans h1,h2⟩
 ·obtain⟨h1,h2⟩:=h.own.1 L v e' sz hL
  refine⟨h1,h2.imp id ?_⟩;rintro⟨b',n',cap,cur,l',hv,hb,hh',hrest⟩;exact⟨b',n',cap,cur,l',hv,hb,(hne b' fun e=>hO L v e' sz hL (by rw[hv,e];rfl)).trans hh',hrest⟩
 ·obtain⟨b',c',e',hb,hBb,hh',hp,ho,qW,hq⟩:=h.bxs.1 k cs hk
  exact⟨b',c',e',hb,hBb,(hne b' fun e=>by rw[e,hG] at qW;cases qW).trans hh',hp,ho,qW,hq⟩
theorem u8_cells:Go.Proofs.Tryz.prog.cellsOf 5=1:=by kernel_rfl
theorem u8_ptr:Go.Proofs.Tryz.prog.underlying 123=some (.pointer 5):=by kernel_rfl
theorem yG {E:Env} (hP:E.P=Go.Proofs.Tryz.prog) (x:V) (r:List V):XC E 34 [.bxa 0 (x::.nilsl::r)] false (.str []) [x::.nilsl::r]:=by
 intro B g w vs hdf hi;have hfr:=hi.fr;match vs,hfr with
 |[],hfr=>exact absurd hfr.1 (by simp[bI,qw,ZY])
 |v::v2::t,hfr=>exact absurd hfr.1 (by simp[bI,qw,ZY])
 |[v],hfr=>
  obtain⟨b,hb,hv⟩:=dM.1 (show aN g (.box HL 0) v from hfr.head);obtain⟨b',c,e,hb',hBb,hh,hp,ho,hG,hq⟩:=hi.bxs.1 HL (x::.nilsl::r) rfl;rw[hb] at hb';simp only[Option.some.injEq] at hb';subst hb';subst hv;obtain⟨u0,u1,ur,rfl⟩: ∃u0 u1 ur,c=(u0::u1::ur).toArray:=by
   have hlen:=hp.1;match hc:c.toList,hlen with
   |u0::u1::ur,_=>exact⟨u0,u1,ur,by rw[←Array.toArray_toList (xs:=c),hc]⟩
   |[_],hlen=>simp at hlen
   |[],hlen=>simp at hlen
  have hu:u1=.slice none 0 0:=by
   have:aN g .nilsl u1:=hp.tail.head;simp only[aN,bH] at this;unfold aO at this;exact this
  subst hu;rw[hP];have c1:w.drew.cell? ⟨b,1,none⟩=some (.slice none 0 0):=by
   have hh':w.drew.heap[b]? =_:=hh;rw[Lib.cell_of_heap hh'];simp
  refine(p8 b none none 0 0 .empty w w.drew w.drew c1 c1 rfl (Lib.run_unsafeString_none w.drew _ _ _ none)).mono ?_;rintro e' w' ⟨rfl,rfl⟩;exact⟨g,_,rfl,rZ hi.drew hdf (.cons (gZ.2 rfl) .nil)⟩
theorem Lp {E:Env} (hP:E.P=Go.Proofs.Tryz.prog) (x:V) (r:List V) (hx:x.kill 1000001002=x) (hr0:r.map (V.kill 1000001002)=r) (xs:List V):XC E 34 [.bxa 0 (x::.sl 5 [.int .u8] (some 1000001002) xs::r)] false (.str (gD xs)) [x::.sl 5 [.int .u8] none xs::r]:=by
 intro B g w vs hdf hi;have hfr:=hi.fr;match vs,hfr with
 |[],hfr=>exact absurd hfr.1 (by simp[bI,qw,ZY])
 |v::v2::t,hfr=>exact absurd hfr.1 (by simp[bI,qw,ZY])
 |[v],hfr=>
  obtain⟨b,hb,hv⟩:=dM.1 (show aN g (.box HL 0) v from hfr.head);obtain⟨b',c,e,hb',hBb,hh,hp,ho,hG,hq⟩:=hi.bxs.1 HL (x::.sl 5 [.int .u8] (some 1000001002) xs::r) rfl;rw[hb] at hb';simp only[Option.some.injEq] at hb';subst hb';subst hv;obtain⟨u0,u1,ur,rfl⟩: ∃u0 u1 ur,c=(u0::u1::ur).toArray:=by
   have hlen:=hp.1;match hc:c.toList,hlen with
   |u0::u1::ur,_=>exact⟨u0,u1,ur,by rw[←Array.toArray_toList (xs:=c),hc]⟩
   |[_],hlen=>simp at hlen
   |[],hlen=>simp at hlen
  obtain⟨hO,hown⟩:bH g (.sl 5 [.int .u8] (some 1000001002) xs) u1:=aV rfl hp.tail.head;have hk:=hi.kill 1000001002;have hstep:(⟨bI 0 [.bxa 0 (x::.sl 5 [.int .u8] (some 1000001002) xs::r)],dH 0 [.bxa 0 (x::.sl 5 [.int .u8] (some 1000001002) xs::r)]⟩:St).kill 1000001002=⟨[.box HL 0],[(HL,x::.sl 5 [.int .u8] none xs::r)]⟩:=by
   show(⟨[.box HL 0],[(HL,x.kill 1000001002::_::r.map (V.kill 1000001002))]⟩:St)=_;rw[hx,hr0];rfl
  rw[hstep] at hk;rw[hP];have fin: ∀(w':World) g',Inv E B g.G w ⟨[.box HL 0],[(HL,x::.sl 5 [.int .u8] none xs::r)]⟩ g' ⟨#[.pointer (some ⟨b,0,none⟩)],[]⟩ w'→Inv E B g.G w ⟨[.str (gD xs)],[(HL,x::.sl 5 [.int .u8] none xs::r)]⟩ g' ⟨#[.string ⟨(gD xs).toArray⟩],[]⟩ w':=
   fun w' g' h=>rZ h hdf (.cons (gZ.2 rfl) .nil)
  rcases hown with⟨rfl,rfl⟩|⟨b1,cap,l,rfl,hcap,qW,hl,hr⟩
  ·have c1:w.drew.cell? ⟨b,1,none⟩=some (.slice none 0 0):=by
    have hh':w.drew.heap[b]? =_:=hh;rw[Lib.cell_of_heap hh'];simp
   refine(p8 b none none 0 0 .empty w w.drew w.drew c1 c1 rfl (Lib.run_unsafeString_none w.drew _ _ _ none)).mono ?_;rintro e' w' ⟨rfl,rfl⟩;exact⟨_,_,rfl,fin _ _ hk.drew⟩
  ·obtain⟨b2,n2,cap2,cur,l2,hv2,hB2,JV,hn2,hcm2,hcs2,hG2,hl2⟩:=((hi.own.1 _ _ _ _ hO).2).resolve_left (by intro h;cases h)
   simp only[Value.slice.injEq,Option.some.injEq,Addr.mk.injEq,and_true,true_and] at hv2;obtain⟨rfl,rfl,rfl⟩:=hv2;have c1:w.drew.cell? ⟨b,1,none⟩=some (.slice (some ⟨b1,0,none⟩) xs.length cap):=by
    have hh':w.drew.heap[b]? =_:=hh;rw[Lib.cell_of_heap hh'];simp
   by_cases hx0:xs=[]
   ·subst hx0
    by_cases hc0:cap=0
    ·subst hc0
     have hlt:b<w.heap.size:=(Array.getElem?_eq_some_iff.1 hh).1;have hsh:w.drew.shape? (⟨b1,0,none⟩:Addr).block=some (5,cur.size):=by
      have hg':w.drew.heap[b1]? =some (.cells cur 5 (0,0)):=JV;simp[World.shape?,hg']
     have hSD:=Lib.run_unsafeSliceData_zero (P:=Go.Proofs.Tryz.prog) w.drew #[81] 123 5 u8_ptr ⟨b1,0,none⟩ 0 _ hsh;have c2:(w.drew.alloc (.view ⟨b1,0,none⟩ 5)).cell? ⟨b,1,none⟩=some (.slice (some ⟨b1,0,none⟩) 0 0):=by
      have:(w.drew.alloc (.view ⟨b1,0,none⟩ 5)).heap[b]? =_:=(Lib.alloc_old w.drew _ b hlt).trans hh;rw[Lib.cell_of_heap this];simp
     refine(p8 b _ _ 0 0 .empty w _ _ c1 c2 hSD (Lib.run_unsafeString_none _ _ _ _ _)).mono ?_;rintro e' w' ⟨rfl,rfl⟩;have hal: ∀i,i<w.heap.size→(w.drew.alloc (.view ⟨b1,0,none⟩ 5)).heap[i]? =w.drew.heap[i]? :=fun i hi=>Lib.alloc_old w.drew _ i hi
     have hnew:New w.drew (w.drew.alloc (.view ⟨b1,0,none⟩ 5)) g.G g.G:=⟨(Below.refl _ _).alloc (Nat.le_refl _) _,fun _ _=>rfl,fun b' l' hG'=>by
      obtain⟨c',e',fr',h1,h2⟩:=hi.gok b' l' hG';exact⟨c',e',fr',(hal b' (Array.getElem?_eq_some_iff.1 h1).1).trans h1,h2⟩⟩
     exact⟨_,_,rfl,fin _ _ (hk.drew.new hnew).1⟩
    ·refine(p8 b _ _ 0 cap .empty w _ _ c1 c1 (Lib.run_unsafeSliceData_row w.drew _ _ _ _ _ hc0) (Lib.run_unsafeString_none _ _ _ _ _)).mono ?_
     rintro e' w' ⟨rfl,rfl⟩;exact⟨_,_,rfl,fin _ _ hk.drew⟩
   ·have hxl:xs.length≠0:=by simpa using hx0
    have hrow:=CK xs l hr;have hll:l.length=xs.length:=by rw[hl];simp
    have hsh:w.drew.shape? b1=some (5,cur.size):=by
     have hg':w.drew.heap[b1]? =some (.cells cur 5 (0,0)):=JV;simp[World.shape?,hg']
    have hcs:cur.size=cap:=by rw[hcs2];simp
    have hUS:=JR (P:=Go.Proofs.Tryz.prog) w.drew 123 3 9 5 u8_ptr u8_cells b1 cur.size hsh (xs.map fun x=>asInt (ah x 0)) (by simpa using hx0) (by rw[List.length_map];omega) (by rw[List.length_map];unfold maxLen at hcm2;omega) (fun j y hy=>by
     rw[show(⟨b1,0,none⟩:Addr).add j=⟨b1,j,none⟩ by unfold Addr.add;by_cases hj:j=0<;>simp[hj]];refine jI (w:=w.drew) hi.gok qW ?_;have:l.take xs.length=l:=List.take_of_length_le (by omega);rw[this] at hrow;rw[hrow,List.getElem?_map,hy];rfl)
    rw[List.length_map] at hUS;refine(p8 b _ _ _ cap _ w _ _ c1 c1 (Lib.run_unsafeSliceData_row w.drew _ _ _ _ _ (by omega)) hUS).mono ?_;rintro e' w' ⟨rfl,rfl⟩;refine⟨{g with O:=fun k=>if k=1000001002 then none else g.O k},.string ⟨(gD xs).toArray⟩,?_,fin _ _ (UF hk.drew (b:=b1) (l:=l) qW hB2.1 ?_ _)⟩
    ·show Ending.returned _=Ending.returned _
     unfold gD;simp
    ·intro L v e1 sz hL hv
     have hL:(if L=1000001002 then none else g.O L)=some (v,e1,sz):=hL;split at hL
     ·cases hL
     ·rename_i hne
      exact hne (hi.own.2 L 1000001002 v _ e1 _ sz _ b1 hL hO hv rfl)
theorem Ob (w:World) (b:Nat) (c:Array Value) (e:Nat) (u:Value) (hh:w.heap[b]? =some (.cells c e (0,0))):w.setCell ⟨b,1,none⟩ u=w.setRow b (c.setIfInBounds 1 u):=by
 unfold World.setCell World.setRow;congr 1
 refine Array.ext (by simp) fun i h1 h2=>?_
 rw[Array.getElem_modify,Array.getElem_modify];split
 ·rename_i hbi
  subst hbi;have:w.heap[b]'(by simpa using h1)=.cells c e (0,0):=by
   have:=Array.getElem?_eq_getElem (xs:=w.heap) (i:=b) (by simpa using h1);rw[hh] at this;simpa using this.symm
  rw[this];rfl
 ·rfl
theorem JS (w:World) (b:Nat) (u:Value) (o:Obj) (h:b<w.heap.size):(w.setCell ⟨b,1,none⟩ u).alloc o=(w.alloc o).setCell ⟨b,1,none⟩ u:=by
 unfold World.setCell World.alloc;congr 1
 refine Array.ext (by simp) fun i h1 h2=>?_
 rw[Array.getElem_modify,Array.getElem_push,Array.getElem_push];by_cases hi:i<w.heap.size
 ·simp[hi,Array.getElem_modify]
 ·have: ¬b=i:=by omega
  simp[hi,this]
theorem grow_xc {E:Env} (hP:E.P=Go.Proofs.Tryz.prog) (x:V) (hx:x=.nilp∨ ∃off,x=.box HL off) (n:Int) (h0:0≤n) (hn:n≤281474976710656):
  XC E 117 [.bxa 0 [x,.nilsl],.int .i64 n] false (.tup []) [[x,.sl 5 [.int .u8] (some 1002) []]]:=by
 intro B g w vs hdf hi;have hfr:=hi.fr;match vs,hfr with
 |[],hfr=>exact absurd hfr.1 (by simp[bI,qw,ZY])
 |[_],hfr=>exact absurd hfr.1 (by simp[bI,qw,ZY])
 |v::v2::v3::t,hfr=>exact absurd hfr.1 (by simp[bI,qw,ZY])
 |[v,v2],hfr=>
  obtain⟨b,hb,hv⟩:=dM.1 (show aN g (.box HL 0) v from hfr.head);have hv2:v2=.int .i64 n:=bY.1 (show aN g (.int .i64 n) v2 from hfr.tail.head);obtain⟨b',c,e,hb',hBb,hh,hp,ho,hG,hq⟩:=hi.bxs.1 HL [x,.nilsl] rfl;rw[hb] at hb';simp only[Option.some.injEq] at hb';subst hb';subst hv;subst hv2;obtain⟨u0,u1,rfl⟩: ∃u0 u1,c= #[u0,u1]:=by
   have hlen:=hp.1;match hc:c.toList,hlen with
   |[u0,u1],_=>exact⟨u0,u1,by rw[←Array.toArray_toList (xs:=c),hc]⟩
  have hu:u1=.slice none 0 0:=iy.1 hp.tail.head;subst hu;have hlt:b<w.heap.size:=(Array.getElem?_eq_some_iff.1 hh).1;rw[hP];obtain⟨m,rfl⟩: ∃m:Nat,n=(m:Int):=⟨n.toNat,by omega⟩
  refine(bld_grow b m u0 e w hh (by omega)).mono ?_;rintro e' w' ⟨rfl,cs,hle,hmax,rfl⟩;rw[JS w b _ _ hlt];have hnew:New w (w.alloc (.cells cs 5)) g.G (upd g.G w.heap.size []):=by
   refine⟨ic _ _,fun j hj=>by unfold upd;rw[if_neg (by omega)],fun j l hj=>?_⟩;unfold upd at hj;split at hj
   ·rename_i hjs
    simp only[Option.some.injEq] at hj;subst hj;subst hjs;exact⟨cs,_,_,heap_alloc_new w _,rfl⟩
   ·obtain⟨c2,e2,f2,h1,h2⟩:=hi.gok j l hj
    exact⟨c2,e2,f2,(Lib.alloc_old w _ j (Array.getElem?_eq_some_iff.1 h1).1).trans h1,h2⟩
  have hi1:=(hi.new hnew).1;have hnl:(⟨bI 0 [.bxa 0 [x,.nilsl],.int .i64 (m:Int)],dH 0 [.bxa 0 [x,.nilsl],.int .i64 (m:Int)]⟩:St).bA 1002=true:=by
   rcases hx with rfl|⟨off,rfl⟩<;>rfl
  obtain⟨g',hg,hi2,hs⟩:=hi1.label (d:=1002) (e:=5) (sh:=[.int .u8]) (xs:=[]) (u:=.slice (some ⟨w.heap.size,0,none⟩) 0 cs.size) hnl
   ⟨Nat.zero_lt_one,.inr ⟨w.heap.size,cs.size,cs,[],rfl,⟨hi.hB.2 _ (Nat.le_refl _),fun _=>hi.hB.1⟩,heap_alloc_new w _,Nat.zero_le _,hmax,by simp,upd_same _ _ _,rfl,gW⟩⟩
   (fun L v e sz b' hL _ hb' hq'=>by
    have:=ve hi.gok hi.own hL hb';simp only[Value.ownBlock,Option.some.injEq] at hq';omega)
  have hb2:g'.β HL=some b:=by
   rw[hi2.ext.2.2 HL (Nat.le_refl _),←hi.ext.2.2 HL (Nat.le_refl _)];exact hb
  obtain⟨b3,c3,e3,q1,_,q3,q4,_,_,q7⟩:=hi2.bxs.1 HL [x,.nilsl] rfl;rw[hb2] at q1;simp only[Option.some.injEq] at q1;subst q1;have JV:=(Lib.alloc_old w (.cells cs 5) b hlt).trans hh;rw[JV] at q3;simp only[Option.some.injEq,Obj.cells.injEq,and_true] at q3;obtain⟨rfl,rfl⟩:=q3;have hst:=hi2.store (k:=HL) (off:=1) (b:=b) (old:=[x,.nilsl]) (vs:=[.sl 5 [.int .u8] (some 1002) []]) (us:=[.slice (some ⟨w.heap.size,0,none⟩) 0 cs.size]) hb2 rfl JV q4 (.cons (bu rfl hs) .nil) (by simp[Value.oneCell']) (by simp) (fun hq=>by
   rcases hx with rfl|⟨off,rfl⟩
   ·rfl
   ·cases hq)
  rw[Ob _ b _ _ _ JV];exact⟨g',_,rfl,rZ hst.drew.drew.drew hdf (.cons ⟨[],rfl,.nil⟩ .nil)⟩
end Nt.Ev.YtplklcejbmfgdaaGreatDoor
