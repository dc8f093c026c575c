/-
  (*strings.Builder).copyCheck: at a fresh builder, and at a used one. (*strings.Builder).String: walked, with its worlds. (*strings.Builder).grow at a builder that holds nothing: walked, with its worlds. copyCheck of a strings.Builder: what it answers, with boxes. String of a strings.Builder: what it answers, with boxes. grow of a strings.Builder that holds nothing: what it answers, with boxes.
-/
import Derived.Test.YtpbgegnlkdfjgaaGreatDoorMC
import Derived.Test.YtpbgegnlkdfjgaaGreatDoorProg
import Derived.Lib.Builder
import Derived.Laws.Externs
import Derived.Lib.UnsafeStr
import Derived.BigRegion
import Derived.Lib.MakeNoZero
import Derived.Lib.AppendStr
import Derived.ChangeMade
import Derived.Test.YtpbgegnlkdfjgaaGreatDoorMBB
set_option linter.unusedVariables false
set_option linter.unusedSimpArgs false
set_option linter.unusedSectionVars false
namespace Go.Proofs.YtpbgegnlkdfjgaaGreatDoor
open Go.RowKit
theorem Pz:(Tryz.prog.info? 122).map (·.size)=some 2:=by kernel_rfl
theorem MX:Tryz.prog.underlying 119=some (.pointer 122):=by kernel_rfl
theorem Vg:Tryz.prog.underlying 172=some .unsafePointer:=by kernel_rfl
set_option maxHeartbeats 1000000 in
set_option maxRecDepth 100000 in
theorem XO (b:Nat) (w:World) (h0:w.cell? ⟨b,0,none⟩=some (.pointer (some ⟨b,0,none⟩))):
  Calls Tryz.prog 101 #[.pointer (some ⟨b,0,none⟩)] w fun e w'=>e=.returned (.tuple #[])∧w'=w:=by
 obtain⟨j,hj,_⟩:=Option.map_eq_some_iff.1 Pz;go_enter Tryz.func101,Tryz.ntmps101
 go_wp2
 rw[Lib.run_neq_ptr_same w _ MX hj];go_wp2
 go_end0
 exact⟨rfl,rfl⟩
set_option maxHeartbeats 1000000 in
set_option maxRecDepth 100000 in
theorem TM (b e n:Nat) (hlies:liesAt Tryz.prog Tryz.prog.depth e (n/Tryz.prog.cellsOf e) 0 122 1=true) (hn:0<n) (w:World) (h0:w.cell? ⟨b,0,none⟩=some (.pointer none)) (hsh:w.shape? b=some (e,n)) (hfz:w.frozen? ⟨b,0,none⟩=false):
  Calls Tryz.prog 101 #[.pointer (some ⟨b,0,none⟩)] w fun e w'=>e=.returned (.tuple #[])∧w'=w.setCell ⟨b,0,none⟩ (.pointer (some ⟨b,0,none⟩)):=by
 obtain⟨j,hj,hjs⟩:=Option.map_eq_some_iff.1 Pz;go_enter Tryz.func101,Tryz.ntmps101
 go_wp2
 rw[Lib.run_to_unsafe w ⟨b,0,none⟩ MX Vg hj (by rw[hjs];decide) hsh hn];simp only[Result.andThen];rw[Oper.upon_value];go_wp2
 rw[run_callFunc_extern Tryz.func136 (by kernel_rfl) (by kernel_rfl) (by kernel_rfl) (e:=Extern.AbiNoEscape.same) (by kernel_rfl)];rw[Lib.run_noEscape];simp only[Result.andThen];rw[Oper.upon_value];go_wp2
 rw[Lib.run_from_unsafe w ⟨b,0,none⟩ Vg MX hj hsh hlies];simp only[Result.andThen];rw[Oper.upon_value];go_wp2
 go_end0
 exact⟨rfl,rfl⟩
section
variable {P:Program} (w:World)
theorem II: ∀(ns:List Int) (a:Addr) (acc:ByteArray),(∀j n,ns[j]? =some n→w.cell? (a.add j)=some (.int .u8 n))→
  (loadBytes a acc ns.length).run P w=.ok ⟨acc.data++(ns.map fun n=>UInt8.ofNat n.toNat).toArray⟩ w
 |[],a,acc,_=>by simp[loadBytes]
 |x::l,a,acc,h=>by
  have h0:w.cell? a=some (.int .u8 x):=by
   have:=h 0 x rfl;simpa[Addr.add] using this
  have ih:=II l (a.add 1) (acc.push x.toNat.toUInt8) (fun j y hy=>by
   have:=h (j+1) y (by simpa using hy);have e:(a.add 1).add j=a.add (j+1):=by
    unfold Addr.add;by_cases hj:j=0
    ·subst hj;simp
    ·simp[hj];omega
   rw[e];exact this)
  simp only[List.length_cons,loadBytes,Sem.run_bind,run_load,h0,Result.andThen];rw[ih];congr 1
  apply ByteArray.ext
  simp[ByteArray.push]
theorem JH (pt it ty e:TypeId) (hp:P.underlying pt=some (.pointer e)) (hc:P.cellsOf e=1) (g cells:Nat) (hsh:w.shape? g=some (e,cells)) (l:List Int) (h0:l≠[]) (hn:l.length≤cells) (h63:l.length≤9223372036854775807)
  (hcell: ∀j x,l[j]? =some x→w.cell? ((⟨g,0,none⟩:Addr).add j)=some (.int .u8 x)):
  (Builtin.unsafeString_ #[pt,it] ty #[.pointer (some ⟨g,0,none⟩),.int .i64 l.length]).run P w=.ok (.string ⟨(l.map fun n=>UInt8.ofNat n.toNat).toArray⟩) (w.freeze ⟨g,0,none⟩ l.length):=by
 have hl:l.length≠0:=by simpa using h0
 have hlb:=II (P:=P) w l ⟨g,0,none⟩ .empty hcell;have hlies:=Lib.liesAt_bytes (P:=P) hc (cells/P.cellsOf e) l.length (by rw[hc];simpa using hn);have h63': ¬(9223372036854775807:Int)<(l.length:Int):=by omega
 have hdef:Builtin.unsafeString_ #[pt,it] ty #[.pointer (some ⟨g,0,none⟩),.int .i64 l.length]=
   (do
    let n←asInt (.int .i64 l.length)
    if n<0 then runtimePanic (.error "unsafe.String: len out of range")
    if n>IntKind.i64.max then unsupported (.unsafePointer "String: a length above the largest int")
    if n=0 then pure (.string .empty)
    else if←variablesAt ⟨g,0,none⟩ (←elemOf pt) n.toNat then do
     let s←loadBytes ⟨g,0,none⟩ .empty n.toNat
     freeze ⟨g,0,none⟩ n.toNat
     pure (.string s)
    else unsupported (.unsafePointer "String: not so many bytes at ptr")):=rfl
 rw[hdef];have hmax:IntKind.i64.max=9223372036854775807:=rfl;have hneg: ¬(l.length:Int)<0:=by omega
 simp[asInt,asIntOf,hmax,h63',hneg,hl,variablesAt,hsh,elemOf,run_underlying hp,hlies,hlb]
end
set_option maxHeartbeats 2000000 in
set_option maxRecDepth 100000 in
theorem qZ (b:Nat) (p q:Option Addr) (n cap:Nat) (s:ByteArray) (w w1 w2:World) (c1:w.drew.cell? ⟨b,1,none⟩=some (.slice p n cap)) (c2:w1.cell? ⟨b,1,none⟩=some (.slice p n cap))
  (hSD:(Builtin.unsafeSliceData_ #[120] 151 #[.slice p n cap]).run Tryz.prog w.drew=.ok (.pointer q) w1)
  (hUS:(Builtin.unsafeString_ #[151,3] 9 #[.pointer q,.int .i64 n]).run Tryz.prog w1=.ok (.string s) w2):
  Calls Tryz.prog 76 #[.pointer (some ⟨b,0,none⟩)] w fun e w'=>e=.returned (.string s)∧w'=w2:=by
 go_enter Tryz.func76,Tryz.ntmps76
 go_wp2
 go_region
 all_goals (go_wp2;go_ret;exact⟨rfl,rfl⟩)
end Go.Proofs.YtpbgegnlkdfjgaaGreatDoor
namespace Nt.Ev.YtpbgegnlkdfjgaaGreatDoor
open Go Go.RowKit Nt Go.Proofs.YtpbgegnlkdfjgaaGreatDoor
theorem bld_all:(List.range Go.Proofs.Tryz.prog.types.size).all (fun e=>match Go.Proofs.Tryz.prog.info? e with
 |some i=>aB (bldN Go.Proofs.Tryz.prog 4 e)||liesAt Go.Proofs.Tryz.prog Go.Proofs.Tryz.prog.depth e (i.size/Go.Proofs.Tryz.prog.cellsOf e) 0 122 1
 |none=>true)=true:=by kernel_rfl
theorem abX (e n:Nat) (h:qD Go.Proofs.Tryz.prog e n=true):liesAt Go.Proofs.Tryz.prog Go.Proofs.Tryz.prog.depth e (n/Go.Proofs.Tryz.prog.cellsOf e) 0 122 1=true:=by
 unfold qD at h;split at h
 ·rename_i i hi
  rw[Bool.and_eq_true,Bool.and_eq_true,beq_iff_eq] at h;obtain⟨h1,rfl,h2⟩:=h;have he:e<Go.Proofs.Tryz.prog.types.size:=by
   by_cases he:e<Go.Proofs.Tryz.prog.types.size
   ·exact he
   ·have:=Tables.info?_beyond he hi
    split at h1
    ·rename_i q
     rw[q] at this
     cases this
    ·cases h1
  have:=List.all_eq_true.1 bld_all e (List.mem_range.2 he);rw[hi] at this;simp only[h2,aB,Bool.not_true,Bool.false_or] at this;exact this
 ·cases h
theorem QR (w:World) (b:Nat) (c:Array Value) (e:Nat) (u:Value) (hh:w.heap[b]? =some (.cells c e (0,0))):w.setCell ⟨b,0,none⟩ u=w.setRow b (c.setIfInBounds 0 u):=by
 unfold World.setCell World.setRow;congr 1
 refine Array.ext (by simp) fun i h1 h2=>?_
 rw[Array.getElem_modify,Array.getElem_modify];split
 ·rename_i hbi
  subst hbi;have:w.heap[b]'(by simpa using h1)=.cells c e (0,0):=by
   have:=Array.getElem?_eq_getElem (xs:=w.heap) (i:=b) (by simpa using h1);rw[hh] at this;simpa using this.symm
  rw[this];rfl
 ·rfl
theorem yY {E:Env} {B:Own} {G0:aQ} {w0:World} {s:St} {g:Gh} {a:Act} {w:World} (h:Inv E B G0 w0 s g a w) {fr:List V} {vs:Array Value} (hd:B.df=[]) (hp:PW (aM g) fr vs.toList):Inv E B G0 w0 ⟨fr,s.bx⟩ g ⟨vs,[]⟩ w:=
 ⟨hp,hd.symm,h.gok,h.own,h.bxs,h.mM,h.hB,h.ext,h.glob,h.g1,h.zb⟩
theorem copy_xc {E:Env} (hP:E.P=Go.Proofs.Tryz.prog) (x buf:V) (r:List V) (hx:x=.nilp∨x=.box HL 0):XC E 101 [.bxa 0 (x::buf::r)] false (.tup []) [.box HL 0::buf::r]:=by
 intro B g w vs hdf hi;have hfr:=hi.fr;match vs,hfr with
 |[],hfr=>exact absurd hfr.1 (by have e:wJ (V.bxa 0 (x::buf::r))=false:=rfl;simp[bV,e])
 |v::v2::t,hfr=>exact absurd hfr.1 (by have e:wJ (V.bxa 0 (x::buf::r))=false:=rfl;simp[bV,e])
 |[v],hfr=>
  obtain⟨b,hb,hv⟩:=eF.1 (show aM g (.box HL 0) v from hfr.head);have hl:ay (dU 0 [.bxa 0 (x::buf::r)]) HL=some (x::buf::r):=rfl;obtain⟨b',c,e,hb',hBb,hh,hp,ho,hG,hq⟩:=hi.bxs.1 HL (x::buf::r) hl;rw[hb] at hb';simp only[Option.some.injEq] at hb';subst hb';subst hv;obtain⟨u0,u1,ur,rfl⟩: ∃u0 u1 ur,c=(u0::u1::ur).toArray:=by
   have hlen:=hp.1;match hc:c.toList,hlen with
   |u0::u1::ur,_=>exact⟨u0,u1,ur,by rw[←Array.toArray_toList (xs:=c),hc]⟩
   |[_],hlen=>simp at hlen
   |[],hlen=>simp at hlen
  have hu0:=hp.head;have htup: ∀g':Gh,PW (aM g') [V.tup []] (#[Value.tuple #[]]:Array Value).toList:=fun g'=> .cons ⟨[],rfl,.nil⟩ .nil
  rw[hP];rcases hx with rfl|rfl
  ·have he:=abX e _ (by rw[←hP];exact hq rfl)
   have hsz:(V.nilp::buf::r).length=(u0::u1::ur).length:=by simpa using hp.1
   have hu:u0=.pointer none:=by
    have:aM g .nilp u0:=hu0;simp only[aM,bM] at this;unfold aP at this;exact this
   subst hu;refine(TM b e _ he (by simp) w (by rw[Lib.cell_of_heap hh];simp) (by unfold World.shape?;rw[hh];simp[hsz]) (by unfold World.frozen?;rw[hh];rfl)).mono ?_;rintro e' w' ⟨rfl,rfl⟩;refine⟨g,_,rfl,?_⟩;have hpt:aM g (.box HL 0) (.pointer (some ⟨b,0,none⟩)):=eF.2 ⟨b,hb,rfl⟩;have hs:=hi.store (k:=HL) (off:=0) (b:=b) (old:=.nilp::buf::r) (vs:=[.box HL 0]) (us:=[.pointer (some ⟨b,0,none⟩)]) hb hl hh hp (.cons hpt .nil) (by simp[Value.oneCell']) (by simp) (fun hh=>by cases hh);rw[QR w b _ _ _ hh];have es:((Value.pointer none::u1::ur).toArray.setIfInBounds 0 (.pointer (some ⟨b,0,none⟩)))=(((Value.pointer none::u1::ur).toArray.toList.take 0++[Value.pointer (some ⟨b,0,none⟩)]++(Value.pointer none::u1::ur).toArray.toList.drop (0+1)).toArray):=by simp
   rw[es];exact yY hs hdf (htup g)
  ·have hu:u0=.pointer (some ⟨b,0,none⟩):=by
    obtain⟨b2,hb2,h2⟩:=eF.1 (show aM g (.box HL 0) u0 from hu0);rw[hb] at hb2;simp only[Option.some.injEq] at hb2;rw[h2,hb2]
   subst hu;refine(XO b w (by rw[Lib.cell_of_heap hh];simp)).mono ?_;rintro e' w' ⟨rfl,rfl⟩;exact⟨g,_,rfl,yY hi hdf (htup g)⟩
theorem EK (w:World) (b n j:Nat) (c:Array Value) (e:Nat) (fr:Nat×Nat) (hh:w.heap[b]? =some (.cells c e fr)): ∃fr',(w.freeze ⟨b,0,none⟩ n).heap[j]? =if j=b then some (.cells c e fr') else w.heap[j]? :=by
 unfold World.freeze;split
 ·refine⟨fr,?_⟩
  split
  ·rename_i e';rw[e',hh]
  ·rfl
 ·obtain⟨lo,hi⟩:=fr
  refine⟨if lo==hi then(0,0+n) else(min lo 0,max hi (0+n)),?_⟩;simp only[Array.getElem?_modify];by_cases hj:j=b
  ·subst hj
   rw[if_pos rfl,if_pos rfl,hh];rfl
  ·rw[if_neg (fun e=>hj e.symm),if_neg hj]
theorem TN {E:Env} {B:Own} {G0:aQ} {w0:World} {s:St} {g:Gh} {a:Act} {w:World} (h:Inv E B G0 w0 s g a w) {b:Nat} {l:List Value} (hG:g.G b=some l) (hm:B.m b) (hO: ∀L v e sz,g.O L=some (v,e,sz)→v.ownBlock≠some b) (n:Nat):
  Inv E B G0 w0 s g a (w.freeze ⟨b,0,none⟩ n):=by
 obtain⟨c,e,fr,hh,ht⟩:=h.gok b l hG;have hsz:(w.freeze ⟨b,0,none⟩ n).heap.size=w.heap.size:=by unfold World.freeze;split<;>simp
 have hne: ∀j,j≠b→(w.freeze ⟨b,0,none⟩ n).heap[j]? =w.heap[j]? :=fun j hj=>by
  obtain⟨fr',h'⟩:=EK w b n j c e fr hh;rw[h',if_neg hj]
 refine⟨h.fr,h.df,fun b' l' hG'=>?_,⟨fun L v e' sz hL=>?_,h.own.2⟩,⟨fun k cs hk=>?_,h.bxs.2⟩,h.mM.trans ⟨Lib.below_freeze (Below.refl 0 w) (Nat.zero_le _) n,fun j hj=>hne j fun e=>hj (e▸hm)⟩,by rw[hsz];exact h.hB,h.ext,h.glob,h.g1,h.zb⟩
 ·by_cases hj:b'=b
  ·subst hj
   obtain⟨fr',h'⟩:=EK w b' n b' c e fr hh;rw[if_pos rfl] at h';rw[hG] at hG'
   cases hG';exact⟨c,e,fr',h',ht⟩
  ·obtain⟨c1,e1,f1,h1,h2⟩:=h.gok b' l' hG'
   exact⟨c1,e1,f1,(hne b' hj).trans h1,h2⟩
 ·obtain⟨h1,h2⟩:=h.own.1 L v e' sz hL
  refine⟨h1,h2.imp id ?_⟩;rintro⟨b',n',cap,cur,l',hv,hb,hh',hrest⟩;exact⟨b',n',cap,cur,l',hv,hb,(hne b' fun e=>hO L v e' sz hL (by rw[hv,e];rfl)).trans hh',hrest⟩
 ·obtain⟨b',c',e',hb,hBb,hh',hp,ho,tQ,hq⟩:=h.bxs.1 k cs hk
  exact⟨b',c',e',hb,hBb,(hne b' fun e=>by rw[e,hG] at tQ;cases tQ).trans hh',hp,ho,tQ,hq⟩
theorem abY:Go.Proofs.Tryz.prog.cellsOf 5=1:=by kernel_rfl
theorem aag:Go.Proofs.Tryz.prog.underlying 151=some (.pointer 5):=by kernel_rfl
theorem JG {E:Env} (hP:E.P=Go.Proofs.Tryz.prog) (x:V) (r:List V):XC E 76 [.bxa 0 (x::.nilsl::r)] false (.str []) [x::.nilsl::r]:=by
 intro B g w vs hdf hi;have hfr:=hi.fr;match vs,hfr with
 |[],hfr=>exact absurd hfr.1 (by simp[bV,wJ,HID])
 |v::v2::t,hfr=>exact absurd hfr.1 (by simp[bV,wJ,HID])
 |[v],hfr=>
  obtain⟨b,hb,hv⟩:=eF.1 (show aM g (.box HL 0) v from hfr.head);obtain⟨b',c,e,hb',hBb,hh,hp,ho,hG,hq⟩:=hi.bxs.1 HL (x::.nilsl::r) rfl;rw[hb] at hb';simp only[Option.some.injEq] at hb';subst hb';subst hv;obtain⟨u0,u1,ur,rfl⟩: ∃u0 u1 ur,c=(u0::u1::ur).toArray:=by
   have hlen:=hp.1;match hc:c.toList,hlen with
   |u0::u1::ur,_=>exact⟨u0,u1,ur,by rw[←Array.toArray_toList (xs:=c),hc]⟩
   |[_],hlen=>simp at hlen
   |[],hlen=>simp at hlen
  have hu:u1=.slice none 0 0:=by
   have:aM g .nilsl u1:=hp.tail.head;simp only[aM,bM] at this;unfold aP at this;exact this
  subst hu;rw[hP];have c1:w.drew.cell? ⟨b,1,none⟩=some (.slice none 0 0):=by
   have hh':w.drew.heap[b]? =_:=hh;rw[Lib.cell_of_heap hh'];simp
  refine(qZ b none none 0 0 .empty w w.drew w.drew c1 c1 rfl (Lib.run_unsafeString_none w.drew _ _ _ none)).mono ?_;rintro e' w' ⟨rfl,rfl⟩;exact⟨g,_,rfl,yY hi.drew hdf (.cons (gT.2 rfl) .nil)⟩
theorem XN {E:Env} (hP:E.P=Go.Proofs.Tryz.prog) (x:V) (r:List V) (hx:x.kill 1000001002=x) (hr0:r.map (V.kill 1000001002)=r) (xs:List V):XC E 76 [.bxa 0 (x::.sl 5 [.int .u8] (some 1000001002) xs::r)] false (.str (lZ xs)) [x::.sl 5 [.int .u8] none xs::r]:=by
 intro B g w vs hdf hi;have hfr:=hi.fr;match vs,hfr with
 |[],hfr=>exact absurd hfr.1 (by simp[bV,wJ,HID])
 |v::v2::t,hfr=>exact absurd hfr.1 (by simp[bV,wJ,HID])
 |[v],hfr=>
  obtain⟨b,hb,hv⟩:=eF.1 (show aM g (.box HL 0) v from hfr.head);obtain⟨b',c,e,hb',hBb,hh,hp,ho,hG,hq⟩:=hi.bxs.1 HL (x::.sl 5 [.int .u8] (some 1000001002) xs::r) rfl;rw[hb] at hb';simp only[Option.some.injEq] at hb';subst hb';subst hv;obtain⟨u0,u1,ur,rfl⟩: ∃u0 u1 ur,c=(u0::u1::ur).toArray:=by
   have hlen:=hp.1;match hc:c.toList,hlen with
   |u0::u1::ur,_=>exact⟨u0,u1,ur,by rw[←Array.toArray_toList (xs:=c),hc]⟩
   |[_],hlen=>simp at hlen
   |[],hlen=>simp at hlen
  obtain⟨hO,hown⟩:bM g (.sl 5 [.int .u8] (some 1000001002) xs) u1:=aW rfl hp.tail.head;have hk:=hi.kill 1000001002;have hstep:(⟨bV 0 [.bxa 0 (x::.sl 5 [.int .u8] (some 1000001002) xs::r)],dU 0 [.bxa 0 (x::.sl 5 [.int .u8] (some 1000001002) xs::r)]⟩:St).kill 1000001002=⟨[.box HL 0],[(HL,x::.sl 5 [.int .u8] none xs::r)]⟩:=by
   show(⟨[.box HL 0],[(HL,x.kill 1000001002::_::r.map (V.kill 1000001002))]⟩:St)=_;rw[hx,hr0];rfl
  rw[hstep] at hk;rw[hP];have fin: ∀(w':World) g',Inv E B g.G w ⟨[.box HL 0],[(HL,x::.sl 5 [.int .u8] none xs::r)]⟩ g' ⟨#[.pointer (some ⟨b,0,none⟩)],[]⟩ w'→Inv E B g.G w ⟨[.str (lZ xs)],[(HL,x::.sl 5 [.int .u8] none xs::r)]⟩ g' ⟨#[.string ⟨(lZ xs).toArray⟩],[]⟩ w':=
   fun w' g' h=>yY h hdf (.cons (gT.2 rfl) .nil)
  rcases hown with⟨rfl,rfl⟩|⟨b1,cap,l,rfl,hcap,tQ,hl,hr⟩
  ·have c1:w.drew.cell? ⟨b,1,none⟩=some (.slice none 0 0):=by
    have hh':w.drew.heap[b]? =_:=hh;rw[Lib.cell_of_heap hh'];simp
   refine(qZ b none none 0 0 .empty w w.drew w.drew c1 c1 rfl (Lib.run_unsafeString_none w.drew _ _ _ none)).mono ?_;rintro e' w' ⟨rfl,rfl⟩;exact⟨_,_,rfl,fin _ _ hk.drew⟩
  ·obtain⟨b2,n2,cap2,cur,l2,hv2,hB2,hh2,hn2,hcm2,hcs2,hG2,hl2⟩:=((hi.own.1 _ _ _ _ hO).2).resolve_left (by intro h;cases h)
   simp only[Value.slice.injEq,Option.some.injEq,Addr.mk.injEq,and_true,true_and] at hv2;obtain⟨rfl,rfl,rfl⟩:=hv2;have c1:w.drew.cell? ⟨b,1,none⟩=some (.slice (some ⟨b1,0,none⟩) xs.length cap):=by
    have hh':w.drew.heap[b]? =_:=hh;rw[Lib.cell_of_heap hh'];simp
   by_cases hx0:xs=[]
   ·subst hx0
    by_cases hc0:cap=0
    ·subst hc0
     have hlt:b<w.heap.size:=(Array.getElem?_eq_some_iff.1 hh).1;have hsh:w.drew.shape? (⟨b1,0,none⟩:Addr).block=some (5,cur.size):=by
      have hg':w.drew.heap[b1]? =some (.cells cur 5 (0,0)):=hh2;simp[World.shape?,hg']
     have hSD:=Lib.run_unsafeSliceData_zero (P:=Go.Proofs.Tryz.prog) w.drew #[120] 151 5 aag ⟨b1,0,none⟩ 0 _ hsh;have c2:(w.drew.alloc (.view ⟨b1,0,none⟩ 5)).cell? ⟨b,1,none⟩=some (.slice (some ⟨b1,0,none⟩) 0 0):=by
      have:(w.drew.alloc (.view ⟨b1,0,none⟩ 5)).heap[b]? =_:=(Lib.alloc_old w.drew _ b hlt).trans hh;rw[Lib.cell_of_heap this];simp
     refine(qZ b _ _ 0 0 .empty w _ _ c1 c2 hSD (Lib.run_unsafeString_none _ _ _ _ _)).mono ?_;rintro e' w' ⟨rfl,rfl⟩;have hal: ∀i,i<w.heap.size→(w.drew.alloc (.view ⟨b1,0,none⟩ 5)).heap[i]? =w.drew.heap[i]? :=fun i hi=>Lib.alloc_old w.drew _ i hi
     have hnew:New w.drew (w.drew.alloc (.view ⟨b1,0,none⟩ 5)) g.G g.G:=⟨(Below.refl _ _).alloc (Nat.le_refl _) _,fun _ _=>rfl,fun b' l' hG'=>by
      obtain⟨c',e',fr',h1,h2⟩:=hi.gok b' l' hG';exact⟨c',e',fr',(hal b' (Array.getElem?_eq_some_iff.1 h1).1).trans h1,h2⟩⟩
     exact⟨_,_,rfl,fin _ _ (hk.drew.new hnew).1⟩
    ·refine(qZ b _ _ 0 cap .empty w _ _ c1 c1 (Lib.run_unsafeSliceData_row w.drew _ _ _ _ _ hc0) (Lib.run_unsafeString_none _ _ _ _ _)).mono ?_
     rintro e' w' ⟨rfl,rfl⟩;exact⟨_,_,rfl,fin _ _ hk.drew⟩
   ·have hxl:xs.length≠0:=by simpa using hx0
    have hrow:=Dj xs l hr;have hll:l.length=xs.length:=by rw[hl];simp
    have hsh:w.drew.shape? b1=some (5,cur.size):=by
     have hg':w.drew.heap[b1]? =some (.cells cur 5 (0,0)):=hh2;simp[World.shape?,hg']
    have hcs:cur.size=cap:=by rw[hcs2];simp
    have hUS:=JH (P:=Go.Proofs.Tryz.prog) w.drew 151 3 9 5 aag abY b1 cur.size hsh (xs.map fun x=>asInt (aD x 0)) (by simpa using hx0) (by rw[List.length_map];omega) (by rw[List.length_map];unfold maxLen at hcm2;omega) (fun j y hy=>by
     rw[show(⟨b1,0,none⟩:Addr).add j=⟨b1,j,none⟩ by unfold Addr.add;by_cases hj:j=0<;>simp[hj]];refine jH (w:=w.drew) hi.gok tQ ?_;have:l.take xs.length=l:=List.take_of_length_le (by omega);rw[this] at hrow;rw[hrow,List.getElem?_map,hy];rfl)
    rw[List.length_map] at hUS;refine(qZ b _ _ _ cap _ w _ _ c1 c1 (Lib.run_unsafeSliceData_row w.drew _ _ _ _ _ (by omega)) hUS).mono ?_;rintro e' w' ⟨rfl,rfl⟩;refine⟨{g with O:=fun k=>if k=1000001002 then none else g.O k},.string ⟨(lZ xs).toArray⟩,?_,fin _ _ (TN hk.drew (b:=b1) (l:=l) tQ hB2.1 ?_ _)⟩
    ·show Ending.returned _=Ending.returned _
     unfold lZ;simp
    ·intro L v e1 sz hL hv
     have hL:(if L=1000001002 then none else g.O L)=some (v,e1,sz):=hL;split at hL
     ·cases hL
     ·rename_i hne
      exact hne (hi.own.2 L 1000001002 v _ e1 _ sz _ b1 hL hO hv rfl)
end Nt.Ev.YtpbgegnlkdfjgaaGreatDoor
