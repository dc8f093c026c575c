/-
  What a row's arguments are, by their data: structs of whole numbers, texts and truth values. What a row's arguments are, by their data: slices, too, of numbers, texts, truth values, structs, slices. How long the strings among an argument's cells are at most: what a claim says of sizes. A row's frame: the given variables' data and the world's shape together.
-/
import Derived.Test.YtplklcejbmfgdaaGreatDoorMBB
import Derived.SizedLaws
import Derived.Handed
import Derived.HandedShaped
set_option linter.unusedVariables false
set_option linter.unusedSimpArgs false
set_option linter.unusedSectionVars false
namespace Nt.Ev
open Go Go.RowKit
def mF:V→Prop
 | .int k n=>(Lit.int k n).wf=true
 | .str l=>l.length≤maxLen
 |_=>True
def sP (P:Program):List Field→Nat→Option Nat
 |[],off=>some off
 |f::l,off=>bif f.offset==off then sP P l (off+P.cellsOf f.type) else none
def okT (P:Program):Nat→TypeId→Bool
 |0,_=>false
 |f+1,t=>match P.underlying t with
  |some .bool=>true
  |some (.int _)=>true
  |some .string=>true
  |some (.struct fs)=>(match sP P fs.toList 0 with|some n=>n==P.cellsOf t|none=>false)&&fs.toList.all fun fd=>okT P f fd.type
  |_=>false
theorem Da: ∀(a b:List Kd) (xs ys:List V),bC a xs=true→bC b ys=true→bC (a++b) (xs++ys)=true
 |[],b,[],ys,_,h=>h
 |[],_,_::_,_,h,_=>by simp[bC] at h
 |_::_,_,[],_,h,_=>by simp[bC] at h
 |k::a,b,x::xs,ys,h,h2=>by
  simp only[bC] at h;obtain⟨h3,h4⟩:=aR h;simp only[List.cons_append,bC,h3,Da a b xs ys h4 h2,ai]
variable {H:Type} {enc:TypeId×Value→H} {P:Program} {w:World} {base:Nat} {spare:Nat→Bool} {held:Bool}
theorem IK (G:aP) (f:Nat) (ih: ∀(t:TypeId),okT P f t=true→ ∀(fuel:Nat) (cs:List Value) (d:DataW H) (p:List MemPlace),DataW.trod enc P w base spare held fuel t cs=some (d,p)→
   ∃xs,PW (aO G) xs cs∧bC (dQ P f t) xs=true∧ ∀x∈xs,mF x) (cs:List Value) (n:Nat): ∀(fs:List Field) (off tot:Nat),sP P fs off=some tot→(fs.all fun fd=>okT P f fd.type)=true→
   (∀fd∈fs,∃d p,DataW.trod enc P w base spare held n fd.type ((cs.drop fd.offset).take (P.cellsOf fd.type))=some (d,p))→tot≤cs.length→
   ∃xs,PW (aO G) xs ((cs.drop off).take (tot-off))∧off≤tot∧bC (fs.flatMap fun fd=>dQ P f fd.type) xs=true∧ ∀x∈xs,mF x
 |[],off,tot,hc,_,_,_=>by
  simp only[sP,Option.some.injEq] at hc;subst hc;exact⟨[],by simpa using PW.nil,Nat.le_refl _,rfl,fun x hx=>by cases hx⟩
 |fd::fs,off,tot,hc,ha,hd,hl=>by
  simp only[sP] at hc;obtain⟨h1,h2⟩:=aD hc;obtain rfl:fd.offset=off:=by simpa using h1
  simp only[List.all_cons,Bool.and_eq_true] at ha;obtain⟨xs,k1,k2,k3,k4⟩:=IK G f ih cs n fs _ tot h2 ha.2 (fun g hg=>hd g (List.mem_cons_of_mem _ hg)) hl;obtain⟨d,p,ht⟩:=hd fd List.mem_cons_self;obtain⟨ys,q1,q2,q3⟩:=ih fd.type ha.1 n _ d p ht;refine⟨ys++xs,?_,by omega,?_,?_⟩
  ·have e:(cs.drop fd.offset).take (tot-fd.offset)=(cs.drop fd.offset).take (P.cellsOf fd.type)++(cs.drop (fd.offset+P.cellsOf fd.type)).take (tot-(fd.offset+P.cellsOf fd.type)):=by
    rw[show tot-fd.offset=P.cellsOf fd.type+(tot-(fd.offset+P.cellsOf fd.type)) by omega,List.take_add,List.drop_drop]
   rw[e];exact q1.append k1
  ·exact Da _ _ _ _ q2 k3
  ·intro x hx
   rw[List.mem_append] at hx;exact hx.elim (q3 x) (k4 x)
theorem Qu (G:aP): ∀(f:Nat) (t:TypeId),okT P f t=true→ ∀(fuel:Nat) (cs:List Value) (d:DataW H) (p:List MemPlace),DataW.trod enc P w base spare held fuel t cs=some (d,p)→
   ∃xs,PW (aO G) xs cs∧bC (dQ P f t) xs=true∧ ∀x∈xs,mF x
 |0,t,h,_,_,_,_,_=>by cases h
 |f+1,t,h,fuel,cs,d,p,hd=>by
  unfold okT at h;unfold dQ;split at h
  ·rename_i hu
   obtain⟨b,rfl,_⟩:=DataW.trod_bool hu hd;rw[hu];exact⟨[.bool b],.cons (by unfold aO;rfl) .nil,rfl,by simp[mF]⟩
  ·rename_i k hu
   obtain⟨n,rfl,_,hw⟩:=DataW.trod_int hu hd;rw[hu];exact⟨[.int k n],.cons (by unfold aO;rfl) .nil,by simp[bC,fits,ai],by simpa[mF] using hw⟩
  ·rename_i hu
   obtain⟨s,rfl,_,hw⟩:=DataW.trod_string hu hd;rw[hu];refine⟨[.str s.data.toList],.cons (by unfold aO;cases s;simp) .nil,rfl,?_⟩;simp only[List.mem_singleton,forall_eq,mF];simpa using hw
  ·rename_i fs hu
   rw[Bool.and_eq_true] at h;obtain⟨h1,h2⟩:=h;split at h1
   ·rename_i n hc
    have hn:n=P.cellsOf t:=by simpa using h1
    obtain⟨xs,m,_,_,hlen,hsz,hel⟩:=DataW.trod_struct hu hd;rw[hu];obtain⟨ys,q1,q2,q3,q4⟩:=IK (enc:=enc) (w:=w) (base:=base) (spare:=spare) (held:=held) G f (Qu G f) cs m fs.toList 0 n hc h2 (fun fd hfd=>by
     obtain⟨i,hi⟩:=List.getElem?_of_mem hfd;have hi':fs[i]? =some fd:=by simpa using hi
     have:=hel i fd hi';have hil:i<xs.length:=by rw[hsz];exact(Array.getElem?_eq_some_iff.1 hi').1
     rw[List.getElem?_eq_getElem hil] at this;exact⟨_,_,this⟩) (by omega)
    refine⟨ys,?_,q3,q4⟩;rw[List.drop_zero,Nat.sub_zero,hn,←hlen,List.take_length] at q1;exact q1
   ·cases h1
  ·cases h
theorem p9 {k:Kd} {l:List Kd} {xs:List V} (h:bC (k::l) xs=true): ∃x t,xs=x::t∧fits k x=true∧bC l t=true:=by
 cases xs with
 |nil=>simp[bC] at h
 |cons x t=>
  simp only[bC] at h;obtain⟨h1,h2⟩:=aR h;exact⟨x,t,rfl,h1,h2⟩
theorem wU {xs:List V} (h:bC [] xs=true):xs=[]:=by
 cases xs with
 |nil=>rfl
 |cons _ _=>simp[bC] at h
theorem fits_int {k:IntKind} {x:V} (h:fits (.int k) x=true): ∃n,x=.int k n:=by
 cases x<;>simp[fits] at h
 subst h;exact⟨_,rfl⟩
theorem fits_str {x:V} (h:fits .str x=true): ∃l,x=.str l:=by
 cases x<;>simp[fits] at h
 exact⟨_,rfl⟩
theorem fits_bool {x:V} (h:fits .bool x=true): ∃b,x=.bool b:=by
 cases x<;>simp[fits] at h
 exact⟨_,rfl⟩
theorem dA {k:IntKind} {l:List Kd} {xs:List V} (h:bC (.int k::l) xs=true) (ho: ∀x∈xs,mF x): ∃n t,xs=.int k n::t∧(Lit.int k n).wf=true∧bC l t=true∧ ∀x∈t,mF x:=by
 obtain⟨x,t,rfl,h1,h2⟩:=p9 h;obtain⟨n,rfl⟩:=fits_int h1;exact⟨n,t,rfl,ho _ List.mem_cons_self,h2,fun x hx=>ho x (List.mem_cons_of_mem _ hx)⟩
theorem wW {l:List Kd} {xs:List V} (h:bC (.str::l) xs=true) (ho: ∀x∈xs,mF x): ∃s t,xs=.str s::t∧s.length≤maxLen∧bC l t=true∧ ∀x∈t,mF x:=by
 obtain⟨x,t,rfl,h1,h2⟩:=p9 h;obtain⟨n,rfl⟩:=fits_str h1;exact⟨n,t,rfl,ho _ List.mem_cons_self,h2,fun x hx=>ho x (List.mem_cons_of_mem _ hx)⟩
theorem IL {l:List Kd} {xs:List V} (h:bC (.bool::l) xs=true) (ho: ∀x∈xs,mF x): ∃b t,xs=.bool b::t∧True∧bC l t=true∧ ∀x∈t,mF x:=by
 obtain⟨x,t,rfl,h1,h2⟩:=p9 h;obtain⟨n,rfl⟩:=fits_bool h1;exact⟨n,t,rfl,trivial,h2,fun x hx=>ho x (List.mem_cons_of_mem _ hx)⟩
theorem Qv {r:Reach} {b0:Nat} {t:TypeId} {v:Value} {d:DataW H} {ps:List MemPlace} {sh:List Kd} (hk:okT P 8 t=true) (ha:bM P t=some true) (hs:dQ P 8 t=sh) (hval:Value.okWide P w r b0 t v) (hd:DataW.Trod enc P w base spare held t v d ps):
  ∃a xs,v=.agg a∧PW (aO (jC w)) xs a.toList∧bC sh xs=true∧(∀x∈xs,mF x):=by
 obtain⟨dd,hu,hrow⟩:=vN ha;have hv: ∃cs,v=.agg cs:=by
  unfold Value.okWide at hval;rw[hu] at hval
  cases dd<;>simp only[TypeDesc.isRow,Bool.false_eq_true] at hrow
  ·obtain⟨cs,rfl,_⟩:=hval;exact⟨cs,rfl⟩
  ·obtain⟨cs,rfl,_⟩:=hval;exact⟨cs,rfl⟩
 obtain⟨a,rfl⟩:=hv;obtain⟨fuel,hf⟩:=hd;obtain⟨xs,h1,h2,h3⟩:=Qu (jC w) 8 t hk fuel _ d ps hf;rw[hs] at h2;exact⟨a,xs,rfl,h1,h2,h3⟩
def shaped (P:Program) (e:Nat) (sh:List Kd) (x:V):Prop:=match bM P e with|some true=>∃ys,x=.agg ys∧bC sh ys=true|_=>bC sh [x]=true
mutual
def I4 (P:Program):V→Prop
 | .int k n=>(Lit.int k n).wf=true
 | .str l=>l.length≤maxLen
 | .agg ys=>XD P ys
 | .sl e sh o xs=>o=none∧xs.length≤maxLen∧(∀x∈xs,shaped P e sh x)∧XD P xs
 |_=>True
def XD (P:Program):List V→Prop
 |[]=>True
 |x::xs=>I4 P x∧XD P xs
end
theorem rP (P:Program): ∀(xs:List V),XD P xs↔ ∀x∈xs,I4 P x
 |[]=>by unfold XD;simp
 |x::xs=>by unfold XD;rw[rP P xs];simp
def SF (P:Program):Nat→TypeId→Bool
 |0,_=>false
 |f+1,t=>match P.underlying t with
  |some .bool=>true
  |some (.int _)=>true
  |some .string=>true
  |some (.slice e)=>SF P f e&&(dQ P f e).length==P.cellsOf e&&Kd.qV (dQ P f e) (dQ P f e)&&Nat.blt 0 (P.cellsOf e)&&(match bM P e with|some true=>true|some false=>P.cellsOf e==1|none=>false)
  |some (.struct fs)=>(match sP P fs.toList 0 with|some n=>n==P.cellsOf t|none=>false)&&fs.toList.all fun fd=>SF P f fd.type
  |_=>false
theorem Eo (f:Nat) (ih: ∀(t:TypeId),SF P f t=true→ ∀(fuel:Nat) (cs:List Value) (d:DataW H) (p:List MemPlace),DataW.trod enc P w base spare held fuel t cs=some (d,p)→
   ∃xs,PW (aO (jC w)) xs cs∧bC (dQ P f t) xs=true∧ ∀x∈xs,I4 P x) (cs:List Value) (n:Nat): ∀(fs:List Field) (off tot:Nat),sP P fs off=some tot→(fs.all fun fd=>SF P f fd.type)=true→
   (∀fd∈fs,∃d p,DataW.trod enc P w base spare held n fd.type ((cs.drop fd.offset).take (P.cellsOf fd.type))=some (d,p))→tot≤cs.length→
   ∃xs,PW (aO (jC w)) xs ((cs.drop off).take (tot-off))∧off≤tot∧bC (fs.flatMap fun fd=>dQ P f fd.type) xs=true∧ ∀x∈xs,I4 P x
 |[],off,tot,hc,_,_,_=>by
  simp only[sP,Option.some.injEq] at hc;subst hc;exact⟨[],by simpa using PW.nil,Nat.le_refl _,rfl,fun x hx=>by cases hx⟩
 |fd::fs,off,tot,hc,ha,hd,hl=>by
  simp only[sP] at hc;obtain⟨h1,h2⟩:=aD hc;obtain rfl:fd.offset=off:=by simpa using h1
  simp only[List.all_cons,Bool.and_eq_true] at ha;obtain⟨xs,k1,k2,k3,k4⟩:=Eo f ih cs n fs _ tot h2 ha.2 (fun g hg=>hd g (List.mem_cons_of_mem _ hg)) hl;obtain⟨d,p,ht⟩:=hd fd List.mem_cons_self;obtain⟨ys,q1,q2,q3⟩:=ih fd.type ha.1 n _ d p ht;refine⟨ys++xs,?_,by omega,?_,?_⟩
  ·have e:(cs.drop fd.offset).take (tot-fd.offset)=(cs.drop fd.offset).take (P.cellsOf fd.type)++(cs.drop (fd.offset+P.cellsOf fd.type)).take (tot-(fd.offset+P.cellsOf fd.type)):=by
    rw[show tot-fd.offset=P.cellsOf fd.type+(tot-(fd.offset+P.cellsOf fd.type)) by omega,List.take_add,List.drop_drop]
   rw[e];exact q1.append k1
  ·exact Da _ _ _ _ q2 k3
  ·intro x hx
   rw[List.mem_append] at hx;exact hx.elim (q3 x) (k4 x)
theorem mapM_cells (w:World) (b o:Nat): ∀(n:Nat) (cs:List Value),(List.range n).mapM (fun i=>w.cell? ⟨b,o+i,none⟩)=some cs→0<n→ ∃l,jC w b=some l∧(l.drop o).take n=cs:=by
 intro n cs h hn;have hlen:=mapM_some_length h;rw[List.length_range] at hlen;have hget:=fun i (hi:i<n)=>mapM_some_get h i i (by simp[hi])
 have h0:=hget 0 hn;rw[List.getElem?_eq_getElem (by omega)] at h0;have hb: ∃c e fr,w.heap[b]? =some (.cells c e fr):=by
  unfold World.cell? at h0;simp only at h0;split at h0
  ·rename_i c e fr hc;exact⟨c,e,fr,hc⟩
  ·cases h0
 obtain⟨c,e,fr,hc⟩:=hb;refine⟨c.toList,by unfold jC;rw[hc],?_⟩;apply List.ext_getElem?
 intro i;rw[List.getElem?_take];by_cases hi:i<n
 ·rw[if_pos hi,List.getElem?_drop]
  have:=hget i hi;unfold World.cell? at this;rw[hc] at this;simp only[Option.isSome_none,Bool.false_eq_true,if_false] at this;rw[Array.getElem?_toList,this]
 ·rw[if_neg hi,List.getElem?_eq_none (by omega)]
theorem Lv {a:Addr} {n:Nat} {cs:List Value} (h:w.cells? base a n=some cs) (hn:0<n):a.spot=none∧ ∃l,jC w a.block=some l∧(l.drop a.off).take n=cs:=by
 unfold World.cells? at h;split at h
 ·have h0:=mapM_some_get h 0 0 (by simp[hn])
  have hlen:=mapM_some_length h;rw[List.length_range] at hlen;rw[List.getElem?_eq_getElem (by omega)] at h0;have hs:a.spot=none:=by simpa[Addr.add] using World.cell?_spot h0
  obtain⟨b,o,s⟩:=a;simp only at hs;subst hs;refine⟨rfl,mapM_cells w b o n cs ?_ hn⟩;have e:(fun i=>w.cell? ⟨b,o+i,none⟩)=(fun i=>w.cell? ((⟨b,o,none⟩:Addr).add i)):=by
   funext i
   by_cases hi:i=0
   ·subst hi;simp[Addr.add]
   ·simp[Addr.add,hi]
  rw[e];exact h
 ·cases h
theorem Lx {Q:Nat→V→Prop}: ∀(n:Nat),(∀i,i<n→ ∃x,Q i x)→ ∃xs:List V,xs.length=n∧ ∀i x,xs[i]? =some x→Q i x
 |0,_=>⟨[],rfl,fun i x h=>by simp at h⟩
 |n+1,h=>by
  obtain⟨xs,h1,h2⟩:=Lx n (fun i hi=>h i (by omega));obtain⟨x,hx⟩:=h n (by omega);refine⟨xs++[x],by simp[h1],fun i y hy=>?_⟩;by_cases hi:i<xs.length
  ·rw[List.getElem?_append_left hi] at hy;exact h2 i y hy
  ·rw[List.getElem?_append_right (by omega)] at hy
   have:i-xs.length=0:=by
    have:=(List.getElem?_eq_some_iff.1 hy).1;simp at this;omega
   rw[this] at hy;simp only[List.getElem?_cons_zero,Option.some.injEq] at hy;subst hy;rw[show i=n by omega];exact hx
theorem WK {G:aP} {sh:List Kd}: ∀(xs:List V) (l:List Value),(∀i x,xs[i]? =some x→fJ sh x=true∧ ∃u,aO G x u∧(l.drop (i*sh.length)).take sh.length=u.cells.toList)→bX G sh xs l
 |[],_,_=>gW
 |x::xs,l,h=>by
  unfold bX;obtain⟨h1,u,h2,h3⟩:=h 0 x rfl;refine⟨h1,⟨u,h2,by simpa using h3⟩,WK xs _ fun i y hy=>?_⟩;obtain⟨k1,v,k2,k3⟩:=h (i+1) y (by simpa using hy);refine⟨k1,v,k2,?_⟩;rw[List.drop_drop,←k3,Nat.add_mul,Nat.one_mul,Nat.add_comm]
theorem Db: ∀(f:Nat) (t:TypeId),SF P f t=true→ ∀(fuel:Nat) (cs:List Value) (d:DataW H) (p:List MemPlace),DataW.trod enc P w base spare held fuel t cs=some (d,p)→
   ∃xs,PW (aO (jC w)) xs cs∧bC (dQ P f t) xs=true∧ ∀x∈xs,I4 P x
 |0,t,h,_,_,_,_,_=>by cases h
 |f+1,t,h,fuel,cs,d,p,hd=>by
  unfold SF at h;unfold dQ;split at h
  ·rename_i hu
   obtain⟨b,rfl,_⟩:=DataW.trod_bool hu hd;rw[hu];exact⟨[.bool b],.cons (by unfold aO;rfl) .nil,rfl,by simp[I4]⟩
  ·rename_i k hu
   obtain⟨n,rfl,_,hw⟩:=DataW.trod_int hu hd;rw[hu];exact⟨[.int k n],.cons (by unfold aO;rfl) .nil,by simp[bC,fits,ai],by simpa[I4] using hw⟩
  ·rename_i hu
   obtain⟨s,rfl,_,hw⟩:=DataW.trod_string hu hd;rw[hu];refine⟨[.str s.data.toList],.cons (by unfold aO;cases s;simp) .nil,rfl,?_⟩;simp only[List.mem_singleton,forall_eq,I4];simpa using hw
  ·rename_i e hu
   simp only[Bool.and_eq_true,beq_iff_eq] at h;obtain⟨⟨⟨⟨h1,h2⟩,h2'⟩,h3⟩,h4⟩:=h;have h3:0<P.cellsOf e:=Nat.lt_of_lt_of_le (Nat.succ_pos 0) (Nat.le_of_ble_eq_true h3);rw[hu];have hfit: ∀xs,bC [.sl e (dQ P f e)] [.sl e (dQ P f e) none xs]=true:=fun xs=>by
    simp[bC,fits,ai,h2']
   rcases DataW.trod_slice hu hd with⟨rfl,_⟩|⟨a,len,cap,elems,rest,n,_,rfl,_,_,hlc,hcm,hel,hget,_,_⟩
   ·refine⟨[.sl e (dQ P f e) none []],.cons ?_ .nil,hfit [],?_⟩
    ·unfold aO;exact⟨none,0,rfl,Nat.le_refl _,.inl rfl⟩
    ·intro x hx
     rw[List.mem_singleton] at hx;subst hx;unfold I4;exact⟨rfl,Nat.zero_le _,(fun x hx=>by cases hx),(rP _ _).2 fun x hx=>by cases hx⟩
   ·
    have key: ∀i,i<len→ ∃x,(shaped P e (dQ P f e) x∧I4 P x)∧
      a.spot=none∧ ∃l,jC w a.block=some l∧fJ (dQ P f e) x=true∧ ∃u,aO (jC w) x u∧(l.drop (a.off+i*P.cellsOf e)).take (P.cellsOf e)=u.cells.toList:=by
     intro i hi;have hg:=hget i hi;rw[List.getElem?_eq_getElem (by omega)] at hg;obtain⟨ci,hc1,hc2⟩:=Option.bind_eq_some_iff.1 hg;obtain⟨ys,q1,q2,q3⟩:=Db f e h1 _ _ _ _ hc2;obtain⟨hs,l,hl1,hl2⟩:=Lv hc1 h3;have hsp:a.spot=none∧(a.add (i*P.cellsOf e)).block=a.block∧(a.add (i*P.cellsOf e)).off=a.off+i*P.cellsOf e:=by
      by_cases h0:i*P.cellsOf e=0
      ·rw[h0] at hs⊢;exact⟨by simpa[Addr.add] using hs,by simp[Addr.add],by simp[Addr.add]⟩
      ·have hg0:=hget 0 (by omega)
       rw[List.getElem?_eq_getElem (by omega)] at hg0;obtain⟨c0,hc0,_⟩:=Option.bind_eq_some_iff.1 hg0;obtain⟨hs0,_⟩:=Lv hc0 h3;exact⟨by simpa[Addr.add] using hs0,by simp[Addr.add,h0],by simp[Addr.add,h0]⟩
     rw[hsp.2.1] at hl1;rw[hsp.2.2] at hl2;split at h4
     ·rename_i ha
      refine⟨.agg ys,⟨by unfold shaped;rw[ha];exact⟨ys,rfl,q2⟩,by unfold I4;exact(rP _ _).2 q3⟩,hsp.1,l,hl1,q2,.agg ci.toArray,?_,?_⟩
      ·unfold aO;exact⟨ci,rfl,(dL _ _).2 q1⟩
      ·rw[hl2];rfl
     ·rename_i ha
      have hc1':P.cellsOf e=1:=by simpa using h4
      have hys:ys.length=1:=by rw[←jd _ _ q2,h2,hc1']
      match ys,hys with
      |[y],_=>
       obtain⟨v,t',rfl,r1,r2⟩:=q1.cons_inv;obtain rfl:=r2.bU;have hag: ∀cs,y≠.agg cs:=by
        intro cs e1;subst e1;obtain⟨k,sh',hk⟩: ∃k sh',dQ P f e=k::sh':=by
         cases hsh:dQ P f e with
         |nil=>rw[hsh] at q2;simp[bC] at q2
         |cons k l=>exact⟨k,l,rfl⟩
        rw[hk] at q2;simp only[bC] at q2;have:=(aR q2).1
        cases k<;>simp[fits] at this
       have hcell:y.cells=[y]:=by cases y<;>first|rfl|exact absurd rfl (hag _)
       refine⟨y,⟨by unfold shaped;rw[ha];exact q2,q3 y List.mem_cons_self⟩,hsp.1,l,hl1,?_,v,r1,?_⟩
       ·unfold fJ;rw[hcell];exact q2
       ·rw[hl2]
        have hy:y≠.any:=by
         intro e1;subst e1;have:fJ (dQ P f e) .any=true:=q2;rw[lC] at this;cases this
        have:=mH r1 hy;rw[hcell] at this;obtain⟨t1,t2⟩:=this;have hv:v.cells.toList=[v]:=by
         have hlen:v.cells.toList.length=1:=by rw[Array.length_toList,←t1];rfl
         unfold Value.cells at hlen⊢
         cases v with
         |agg c=>
          exfalso
          cases y<;>(unfold aO at r1;simp_all)
         |_=>rfl
        rw[hv]
     ·cases h4
    obtain⟨xs,hx1,hx2⟩:=Lx len key;refine⟨[.sl e (dQ P f e) none xs],.cons ?_ .nil,hfit xs,?_⟩
    ·unfold aO
     refine⟨some a,cap,by rw[hx1],by rw[hx1];exact hlc,?_⟩;by_cases h0:xs=[]
     ·exact .inl h0
     ·have hpos:0<xs.length:=List.length_pos_iff.2 h0
      obtain⟨_,hs,l,hl,_⟩:=hx2 0 xs[0] (List.getElem?_eq_getElem hpos);obtain⟨b,o,s⟩:=a;simp only at hs;subst hs;refine .inr ⟨b,o,l,rfl,hl,WK xs _ fun i x hx=>?_⟩;obtain⟨_,_,l',hl',k1,u,k2,k3⟩:=hx2 i x hx;rw[hl] at hl';obtain rfl:=Option.some.inj hl';exact⟨k1,u,k2,by rw[List.drop_drop,h2];exact k3⟩
    ·intro x hx
     rw[List.mem_singleton] at hx;subst hx;have hall: ∀x∈xs,shaped P e (dQ P f e) x∧I4 P x:=fun x hx=>by
      obtain⟨i,hi⟩:=List.getElem?_of_mem hx;exact(hx2 i x hi).1
     unfold I4;exact⟨rfl,by omega,fun x hx=>(hall x hx).1,(rP _ _).2 fun x hx=>(hall x hx).2⟩
  ·rename_i fs hu
   rw[Bool.and_eq_true] at h;obtain⟨h1,h2⟩:=h;split at h1
   ·rename_i n hc
    have hn:n=P.cellsOf t:=by simpa using h1
    obtain⟨xs,m,_,_,hlen,hsz,hel⟩:=DataW.trod_struct hu hd;rw[hu];obtain⟨ys,q1,q2,q3,q4⟩:=Eo (enc:=enc) (w:=w) (base:=base) (spare:=spare) (held:=held) f (Db f) cs m fs.toList 0 n hc h2 (fun fd hfd=>by
     obtain⟨i,hi⟩:=List.getElem?_of_mem hfd;have hi':fs[i]? =some fd:=by simpa using hi
     have:=hel i fd hi';have hil:i<xs.length:=by rw[hsz];exact(Array.getElem?_eq_some_iff.1 hi').1
     rw[List.getElem?_eq_getElem hil] at this;exact⟨_,_,this⟩) (by omega)
    refine⟨ys,?_,q3,q4⟩;rw[List.drop_zero,Nat.sub_zero,hn,←hlen,List.take_length] at q1;exact q1
   ·cases h1
  ·cases h
theorem Ep {t:TypeId} {a:Option Addr} {len cap:Nat} {d:DataW H} {ps:List MemPlace} {e:Nat} {sh:List Kd} (hk:SF P 8 t=true) (hs:dQ P 8 t=[.sl e sh]) (hd:DataW.Trod enc P w base spare held t (.slice a len cap) d ps):
  ∃xs,aO (jC w) (.sl e sh none xs) (.slice a len cap)∧xs.length≤maxLen∧ ∀x∈xs,shaped P e sh x∧I4 P x:=by
 obtain⟨fuel,hf⟩:=hd;obtain⟨ys,h1,h2,h3⟩:=Db 8 t hk fuel _ d ps hf;rw[hs] at h2;obtain⟨x,t',rfl,k1,k2⟩:=p9 h2;obtain rfl:=wU k2;have hx:=h3 x List.mem_cons_self;obtain⟨v,t',hv,r1,r2⟩:=h1.cons_inv;obtain rfl:=r2.bU;have hv':v=.slice a len cap:=by
  have:(Value.slice a len cap).cells.toList=[Value.slice a len cap]:=rfl;rw[this] at hv;exact(List.cons.inj hv).1.symm
 subst hv'
 cases x with
 |sl e' sh' o xs=>
  unfold I4 at hx;obtain⟨rfl,q1,q2,q3⟩:=hx;simp only[fits] at k1;rw[Bool.and_eq_true,beq_iff_eq] at k1;obtain⟨rfl,k3⟩:=k1;obtain rfl:=Kd.bK _ _ k3;exact⟨xs,r1,q1,fun x hx=>⟨q2 x hx,(rP _ _).1 q3 x hx⟩⟩
 |nilsl=>
  unfold aO at r1
  cases r1;exact⟨[],by unfold aO;exact⟨none,0,rfl,Nat.le_refl _,.inl rfl⟩,Nat.zero_le _,fun x hx=>by cases hx⟩
 |_=>simp[fits] at k1
theorem WL {e:Nat} {sh:List Kd} {xs:List V} (ha:bM P e=some true) (h: ∀x∈xs,shaped P e sh x∧I4 P x): ∀x∈xs,∃ys,x=.agg ys∧bC sh ys=true∧ ∀y∈ys,I4 P y:=by
 intro x hx;obtain⟨h1,h2⟩:=h x hx;unfold shaped at h1;rw[ha] at h1;obtain⟨ys,rfl,h3⟩:=h1;exact⟨ys,rfl,h3,by unfold I4 at h2;exact(rP _ _).1 h2⟩
section
end
variable {H:Type} {enc:TypeId×Value→H}
theorem qa {a:Assume} {C:Checked} {os:Os} {f:FuncId} {fn:Func} {s:ChangeSpec} {conds:List PathCond} {apart fresh handsOn again:Bool} {X:World→Array Value→Prop}
  (hX: ∀(w w':World) (args:Array Value),w.heap=w'.heap→X w args→X w' args)
  (own:ownKnob C.prog.godebug=none) (started:os.Started) (noInit:C.prog.inits.idxOf? f=none) (hfn:C.prog.funcs[f]? =some fn)
  (witness: ∃(w:World) (tape:Tape) (i:Input),w.os=os∧(w.forCall tape i).Shaped C.prog∧i.vars=[]∧Input.okWide C.prog (w.forCall tape i) .any w.heap.size f i∧
   ((s.pre enc C.prog fn conds apart (w.forCall tape i).memory i.args∧X (w.forCall tape i).memory i.args)∧sizedMet enc C.prog fn (OpenSpec.ofChange s) apart (w.forCall tape i).memory i.args)∧a.holds C.prog (lone (Frame.enter C.prog f i.args .normal) [] (w.forCall tape i)))
  (contract: ∀(W:World) (base:Nat) (args:Array Value) (ds gs:List (DataW H)) (before:List MemPlace),
   (∀(j:Nat) t v,fn.params[j]? =some t→args[j]? =some v→Value.okWide C.prog W .any base t v)→
   DataW.Whole enc C.prog fn.params.toList s.vars apart W args.toList ds gs before→
   conds.all (PathCond.test C.prog ⟨fn.params.toList,ds,s.plain.varTypes C.prog,gs⟩)=true→
   (DataW.weightsEach C.prog (fn.params.toList++s.plain.varTypes C.prog) (ds++gs)).all (· ≤reachBytes)=true→X W args→W.ShapedOpen C.prog→
   Calls C.prog f args W fun e W'=>∃v,e=.returned v∧s.post enc C.prog fn apart fresh handsOn again W args v W'):
  ReturnsInHanded a C os f .any (fun w args=>(s.pre enc C.prog fn conds apart w args∧X w args)∧sizedMet enc C.prog fn (OpenSpec.ofChange s) apart w args) (s.post enc C.prog fn apart fresh handsOn again):=by
 refine returnsInHanded_of_calls own started noInit witness ?_;intro w tape i _ hsh _ hok hpre hholds;obtain⟨_,_,_,fn',hfn',_,_,_,_,hval⟩:=hok;have e:fn'=fn:=Option.some.inj (hfn'.symm.trans hfn);subst e;obtain⟨⟨⟨ds,gs,before,hw,hc⟩,hx⟩,hz⟩:=hpre;have hw':=DataW.Whole.of_heap (w':=w.forCall tape i) (by rfl) hw;refine(contract (w.forCall tape i) w.heap.size i.args ds gs before hval hw' hc (hz.weights hw) (hX _ _ _ (by rfl) hx) hsh).mono fun e W' ⟨v,he,hp⟩=>?_
 subst he;exact ChangeSpec.post_blind hp
end Nt.Ev
