/-
  The evaluator's operations, all of them. append, conversions, calls; and all operations together. Nested rows: a slice among an element's cells that the call owns; methods bound to one receiver. All operations together.
-/
import Derived.Test.YtpbgegnlkdfjgaaGreatDoorMA
import Derived.Lib.AppendStr
set_option linter.unusedVariables false
set_option linter.unusedSimpArgs false
set_option linter.unusedSectionVars false
namespace Nt.Ev
open Go Go.RowKit
section
variable {P:Program} {o:Oper} {B:Own} {w:World} {g:Gh} {bx:List (Nat×List V)} {r:Operand→V} {ac:Act}
theorem Au (parts:Array (Nat×Operand)) (f:Operand→V) (r:Operand→Value):
  (parts.toList.map fun(i,x)=>(i,f x)).map (·.1)=((parts.map fun(i,x)=>(i,r x)).toList).map (·.1):=by
 simp[Array.toList_map,List.map_map,Function.comp_def]
theorem Dh (hE: ∀y,aM g (r y) (ac.eval y)) (parts:Array (Nat×Operand)): ∀(i:Nat) (x:V) (v:Value),((parts.toList.map fun(i,x)=>(i,r x))[i]?).map (fun(p:Nat×V)=>p.2)=some x→
  (((parts.map fun(i,x)=>(i,ac.eval x)).toList)[i]?).map (fun(p:Nat×Value)=>p.2)=some v→ ∀y,x.deep=some y→aP g.G y v:=by
 intro i x v hx hv y hy;simp only[Array.toList_map,List.getElem?_map,Option.map_map,Function.comp_def] at hx hv
 cases hp:parts.toList[i]? with
 |none=>rw[hp] at hx;cases hx
 |some p=>
  rw[hp] at hx hv;simp only[Option.map_some,Option.some.injEq] at hx hv;subst hx;subst hv;exact qi (hE p.2) hy
theorem Sv {G:aQ} {zv:Value} (hz:rG zv≠.any) (n sz:Nat) (hs:zv.cells.size=sz) (h0:0<sz):PW (aP G) (LD (rG zv) n sz) ((Array.range (n*sz)).map (zv.cells[· % zv.cells.size]!)).toList:=by
 obtain⟨hl,hpw⟩:=qg (xq G zv) hz;unfold LD;refine⟨by simp,fun i x v hx hv=>?_⟩;have hi:i<n*sz:=by
  have:=(List.getElem?_eq_some_iff.1 hx).1;simpa using this
 simp only[List.getElem?_map,List.getElem?_range hi,Option.map_some,Option.some.injEq] at hx;subst hx;have hm:i%sz<sz:=Nat.mod_lt _ h0;simp only[Array.toList_map,List.getElem?_map,Array.toList_range,List.getElem?_range hi,Option.map_some,Option.some.injEq,hs] at hv;subst hv;have hm2:i%sz<(rG zv).cells.length:=by omega
 refine hpw.2 (i%sz) _ _ (getD_some hm2) ?_;have hm3:i%sz<zv.cells.size:=by omega
 simp[hm3]
theorem DK {t:TypeId} {n:Nat} {parts:Array (Nat×Operand)} {eff:Eff} (ho:o.op=.buildSlice t n parts) (hG:ze g.G w) (hE: ∀y,aM g (r y) (ac.eval y))
  (h:xN P t n (parts.toList.map fun(i,x)=>(i,r x))=some (true,eff)):Does P ac.eval o B w g bx eff:=by
 have he:execOp ac.eval o=(do pure (.value (←Instr.buildSlice t n (parts.map fun(i,x)=>(i,ac.eval x))))):=by simp only[execOp,ho]
 unfold xN at h;split at h
 ·rename_i e sh z hel
  obtain⟨hu,i,zv,hi,hz,rfl,_,hsz,h0,hzc,hby,hfit⟩:=iP hel;by_cases hn:n=0
  ·subst hn
   simp only[beq_self_eq_true,cond_true] at h;split at h
   ·rename_i hpn
    simp only[Option.some.injEq,Prod.mk.injEq,true_and] at h;subst h;have hpe:parts= #[]:=by
     have:=congrArg List.length hpn;simp at this;exact this
    subst hpe;obtain⟨G',hN,hF⟩:=pU (e:=e) (sh:=sh) (xs:=[]) (cap:=0) (c:= #[]) hG (iO w (.cells #[] e)) (heap_alloc_new w _) h0 (Nat.le_refl _) (by unfold maxLen;omega) (by simp) iZ;refine⟨_,_,G',?_,hN,hF⟩;rw[he];have e0: ∀f:Nat→Value,Array.map f (Array.range 0)= #[]:=fun f=>by rw[←Array.toList_inj];simp
    simp[Instr.buildSlice,run_underlying hu,Go.sizeOf,typeInfo,hi,Instr.fill,newRow,e0]
   ·cases h
  ·have hn':(n==0)=false:=by simpa using hn
   rw[hn'] at h;simp only[cond_false] at h;split at h
   ·rename_i ag cs hag hfl
    have hh:=aF h;clear h;obtain⟨hc,h⟩:=hh;simp only[Option.some.injEq,Prod.mk.injEq,true_and] at h;subst h;simp only[Bool.and_eq_true] at hc;obtain⟨⟨hc1,hc2⟩,hc3⟩:=hc;have hc3:=Nat.le_of_ble_eq_true hc3;have hzne:rG zv≠.any:=fun e=>by rw[e,ng] at hfit;cases hfit
    have hpz:=Sv (G:=g.G) hzne n sh.length hzc h0;obtain⟨outs,hfo,hpo⟩:=vg _ _ _ cs _ (Au parts _ ac.eval) (Dh hE parts) hpz hfl;have hlen:cs.length=n*sh.length:=by
     have h1: ∀(pl:Nat→Option (Nat×Nat)) (ps:List (Nat×V)) (a b:List V),zk pl a ps=some b→b.length=a.length:=by
      intro pl ps;induction ps with
      |nil=>intro a b h;simp only[zk,Option.some.injEq] at h;rw[h]
      |cons p ps ih=>
       intro a b h;obtain⟨i,x⟩:=p;simp only[zk] at h;split at h
       ·have hh:=aF h
        obtain⟨hc,h2⟩:=hh;simp only[Bool.and_eq_true,beq_iff_eq] at hc;have:=Nat.le_of_ble_eq_true hc.2;rw[ih _ _ h2];unfold over;simp;omega
       ·cases h
     rw[h1 _ _ _ _ hfl];unfold LD;simp
    have hcl: ∀(m:Nat) (cs:List V),(chunks ag sh.length m cs).length=m:=by
     intro m;induction m with
     |zero=>intro cs;rfl
     |succ m ih=>intro cs;unfold chunks;rw[List.length_cons,ih]
    have hrep:=su hc1 n cs outs.toList hpo hlen h0 hc2;have hos:outs.size=n*sh.length:=by
     have:=hpo.1;rw[hlen] at this;simpa using this.symm
    obtain⟨G',hN,hF⟩:=pU (e:=e) (sh:=sh) (xs:=chunks ag sh.length n cs) (cap:=n) (c:=outs) hG (iO w (.cells outs e)) (heap_alloc_new w _) h0 (by rw[hcl];exact Nat.le_refl _) (by
     unfold maxLen;have:=Nat.le_mul_of_pos_right n h0;omega) hos (Ar _ _ hrep).2
    refine⟨_,_,G',?_,hN,hF⟩;rw[he,hcl];have hnz: ¬n*i.size=0:=by
     rw[hsz];have:=Nat.mul_pos (Nat.pos_of_ne_zero hn) h0;omega
    have hr:=run_buildSlice (P:=P) w t e n (parts.map fun(i,x)=>(i,ac.eval x)) outs i zv hu hi hz (by rw[hsz];omega) hnz (by rw[hsz];exact hfo);simp only[Sem.run_bind,hr,Result.andThen_ok,Sem.run_pure]
   ·cases h
 ·cases h
theorem Sw {fs:Array Field} (h:fs.all (fun f=>(dD P f.type).isSome)=true):(fs.mapM fun(f:Field)=>(do pure (f.offset,←Go.sizeOf f.type):Sem (Nat×Nat))).run P w=.ok (fs.map fun f=>(f.offset,(dD P f.type).getD 0)) w:=by
 rw[Array.mapM_eq_mapM_toList];have key: ∀l:List Field,(∀f∈l,(dD P f.type).isSome=true)→(l.mapM fun(f:Field)=>(do pure (f.offset,←Go.sizeOf f.type):Sem (Nat×Nat))).run P w=.ok (l.map fun f=>(f.offset,(dD P f.type).getD 0)) w:=by
  intro l;induction l with
  |nil=>intro _;rfl
  |cons f l ih=>
   intro hl;have hf:=hl f (by simp);obtain⟨n,hn⟩:=Option.isSome_iff_exists.1 hf;rw[List.mapM_cons];simp only[Sem.run_bind,dM hn,Result.andThen_ok,Sem.run_pure,ih (fun x hx=>hl x (by simp[hx]))];simp[hn]
 have:=key fs.toList (fun f hf=>by
  have h2:=Array.all_eq_true_iff_forall_mem.1 h f (by simpa using hf);exact h2)
 simp only[Sem.run_bind,Sem.run_map,this,Result.andThen_ok];congr 1
 rw[←Array.toList_inj];simp
theorem P4 {t:TypeId} {parts:Array (Nat×Operand)} {eff:Eff} (ho:o.op=.build t parts) (hE: ∀y,aM g (r y) (ac.eval y))
  (h:RH P t (parts.toList.map fun(i,x)=>(i,r x))=some (true,eff)):Does P ac.eval o B w g bx eff:=by
 have he:execOp ac.eval o=(do pure (.value (←Instr.build t (parts.map fun(i,x)=>(i,ac.eval x))))):=by simp only[execOp,ho]
 unfold RH at h;split at h
 ·rename_i i hi
  split at h
  ·rename_i z fs hz hu
   split at h
   ·rename_i cs hfl
    have hh:=aF h;clear h;obtain⟨hc,h⟩:=hh;simp only[ok,Option.some.injEq,Prod.mk.injEq,true_and] at h;subst h;have hpz:PW (aP g.G) (z.toList.map EZ) z.toList:=⟨by simp,fun j x v hx hv=>by
     simp only[List.getElem?_map,hv,Option.map_some,Option.some.injEq] at hx;subst hx;exact xk g.G v⟩
    obtain⟨outs,hfo,hpo⟩:=vg _ _ _ cs z (Au parts _ ac.eval) (Dh hE parts) hpz hfl;have hpl:RG P fs=fun(j:Nat)=>((fs.map fun(f:Field)=>(f.offset,(dD P f.type).getD 0))[j]?):=by
     funext j
     unfold RG;rw[Array.getElem?_map]
     cases hj:fs[j]? with
     |none=>rfl
     |some f=>
      have h2:=Array.all_eq_true_iff_forall_mem.1 hc f (Array.mem_of_getElem? hj);obtain⟨n,hn⟩:=Option.isSome_iff_exists.1 h2;simp[hn]
    rw[hpl] at hfo;refine bC he (u:=.agg outs) ?_ (iH.2 ⟨outs.toList,by simp,hpo⟩);have hzr:(zeroValue t).run P w=.ok (.agg z) w:=by simp[zeroValue,typeInfo,hi,hz]
    simp only[Instr.build,Sem.run_bind,hzr,Result.andThen_ok,run_underlying hu,Sw hc,Value.cells,hfo,Sem.run_pure]
   ·cases h
  ·rename_i z k e hz hu
   split at h
   ·rename_i n hs
    split at h
    ·rename_i cs hfl
     simp only[ok,Option.some.injEq,Prod.mk.injEq,true_and] at h;subst h;have hpz:PW (aP g.G) (z.toList.map EZ) z.toList:=⟨by simp,fun j x v hx hv=>by
      simp only[List.getElem?_map,hv,Option.map_some,Option.some.injEq] at hx;subst hx;exact xk g.G v⟩
     obtain⟨outs,hfo,hpo⟩:=vg _ _ _ cs z (Au parts _ ac.eval) (Dh hE parts) hpz hfl;refine bC he (u:=.agg outs) ?_ (iH.2 ⟨outs.toList,by simp,hpo⟩);have hzr:(zeroValue t).run P w=.ok (.agg z) w:=by simp[zeroValue,typeInfo,hi,hz]
     simp only[Instr.build,Sem.run_bind,hzr,Result.andThen_ok,run_underlying hu,dM hs,Value.cells,hfo,Sem.run_pure]
    ·cases h
   ·cases h
  ·cases h
 ·cases h
theorem pW {x:V} {cs:List V} {u:Value} (h:dF x=some cs) (hx:aM g x u):PW (aM g) cs u.cells.toList∧ ∀c∈u.cells.toList,c.oneCell'=true:=by
 have one: ∀(y:V) (c:Value),y.one=true→aP g.G y c→aM g y c∧c.oneCell'=true:=by
  intro y c hy hr
  cases y with
  |sl e sh ow xs=>
   cases ow with
   |none=>exact⟨hr,by unfold aP at hr;obtain⟨p,cap,rfl,_⟩:=hr;rfl⟩
   |some L=>cases hy
  |bool b=>refine⟨hr,?_⟩;unfold aP at hr;subst hr;rfl
  |int k n=>refine⟨hr,?_⟩;unfold aP at hr;subst hr;rfl
  |str l=>refine⟨hr,?_⟩;unfold aP at hr;subst hr;rfl
  |nilsl=>refine⟨hr,?_⟩;unfold aP at hr;subst hr;rfl
  |rptr sh x off=>refine⟨hr,?_⟩;unfold aP at hr;obtain⟨b,q,l,rfl,_⟩:=hr;rfl
  |nilif=>refine⟨hr,?_⟩;unfold aP at hr;subst hr;rfl
  |nilp=>refine⟨hr,?_⟩;unfold aP at hr;subst hr;rfl
  |iface t x=>refine⟨hr,?_⟩;unfold aP at hr;obtain⟨u,rfl,_⟩:=hr;rfl
  |_=>cases hy
 cases x with
 |agg ds=>
  unfold dF at h;have hh:=aF h;obtain⟨h1,h2⟩:=hh;simp only[Option.some.injEq] at h2;subst h2;obtain⟨a,rfl,hp⟩:=iH.1 hx;rw[uE];rw[List.all_eq_true] at h1;refine⟨hp.mono fun y hy v hv=>(one y v (h1 y hy) hv).1,fun c hc=>?_⟩;obtain⟨j,hj,rfl⟩:=List.getElem_of_mem hc;have hj':j<ds.length:=by rw[hp.1];exact hj
  exact(one _ _ (h1 _ (List.getElem_mem hj')) (hp.2 j _ _ (List.getElem?_eq_getElem hj') (List.getElem?_eq_getElem hj))).2
 |any=>cases h
 |tup vs=>cases h
 |old _=>cases h
 |eptr _ _ _ _ _ _=>cases h
 |bool b=>simp only[dF,Option.some.injEq] at h;subst h;have h1:=dG.1 hx;subst h1;exact⟨.cons hx .nil,by simp[Value.cells,Value.oneCell']⟩
 |int k n=>simp only[dF,Option.some.injEq] at h;subst h;have h1:=dw.1 hx;subst h1;exact⟨.cons hx .nil,by simp[Value.cells,Value.oneCell']⟩
 |str l=>simp only[dF,Option.some.injEq] at h;subst h;have h1:=gT.1 hx;subst h1;exact⟨.cons hx .nil,by simp[Value.cells,Value.oneCell']⟩
 |nilsl=>simp only[dF,Option.some.injEq] at h;subst h;have h1:=iW.1 hx;subst h1;exact⟨.cons hx .nil,by simp[Value.cells,Value.oneCell']⟩
 |sl e sh ow xs=>
  simp only[dF,Option.some.injEq] at h;subst h;have h1:=lH hx;unfold aP at h1;obtain⟨p,cap,rfl,_⟩:=h1;exact⟨.cons hx .nil,by simp[Value.cells,Value.oneCell']⟩
 |rptr sh y off=>simp only[dF,Option.some.injEq] at h;subst h;obtain⟨b,q,l,rfl,_⟩:=iK.1 hx;exact⟨.cons hx .nil,by simp[Value.cells,Value.oneCell']⟩
 |box k off=>simp only[dF,Option.some.injEq] at h;subst h;obtain⟨b,_,rfl⟩:=eF.1 hx;exact⟨.cons hx .nil,by simp[Value.cells,Value.oneCell']⟩
 |fn f c=>
  simp only[dF] at h
  cases hfA:Nat.blt f zP with
  |true=>
   rw[hfA,cond_true] at h;simp only[Option.some.injEq] at h;subst h;have hx':=hx;obtain⟨a,rfl,_⟩:=hx';rw[Bp hfA] at hx⊢;exact⟨.cons hx .nil,by simp[Value.cells,Value.oneCell']⟩
  |false=>
   rw[hfA,cond_false] at h;obtain⟨hf,h5⟩:=aF h;clear h;rw[beq_iff_eq] at hf;subst hf
   cases c with
   |nil=>cases h5
   |cons p l=>
    obtain⟨hall,h6⟩:=aF h5;clear h5;simp only[Option.some.injEq] at h6;subst h6;obtain⟨a,rfl,hp⟩:=hx;obtain⟨pv,lv,rfl,hp1,hp2⟩:=hp.cons_inv;rw[UE,uE];rw[List.all_eq_true] at hall;have key: ∀y∈l,∀v,bM g y v→aM g (bmV p y) (Oq pv v)∧(Oq pv v).oneCell'=true:=by
     intro y hy v hv;have hi:=hall y hy
     cases y with
     |int k n=>
      have hn:Nat.blt n.toNat zP=true:=hi;have hv:v=.int k n:=by simp only[bM] at hv;unfold aP at hv;exact hv
      subst hv;exact⟨⟨[.int .i64 n,pv],rfl,.cons (show aP g.G _ _ by unfold aP;rfl) (.cons hp1 .nil)⟩,rfl⟩
     |_=>cases hi
    refine⟨⟨by simp[hp2.1],fun j x v hx hv=>?_⟩,fun c hc=>?_⟩
    ·rw[List.getElem?_map,Option.map_eq_some_iff] at hx hv
     obtain⟨y,hy,rfl⟩:=hx;obtain⟨v0,hv0,rfl⟩:=hv;exact(key y (List.mem_of_getElem? hy) v0 (hp2.2 j y v0 hy hv0)).1
    ·obtain⟨v0,hv0,rfl⟩:=List.mem_map.1 hc
     obtain⟨j,hj⟩:=List.getElem?_of_mem hv0;have hjl:j<l.length:=by rw[hp2.1];exact(List.getElem?_eq_some_iff.1 hj).1
     exact(key _ (List.getElem_mem hjl) v0 (hp2.2 j _ v0 (List.getElem?_eq_getElem hjl) hj)).2
 |nilif=>simp only[dF,Option.some.injEq] at h;subst h;have h1:=nD.1 hx;subst h1;exact⟨.cons hx .nil,by simp[Value.cells,Value.oneCell']⟩
 |nilp=>simp only[dF,Option.some.injEq] at h;subst h;have h1:=VR.1 hx;subst h1;exact⟨.cons hx .nil,by simp[Value.cells,Value.oneCell']⟩
 |iface t y=>simp only[dF,Option.some.injEq] at h;subst h;obtain⟨u,rfl,_⟩:=jG.1 hx;exact⟨.cons hx .nil,by simp[Value.cells,Value.oneCell']⟩
 |bxa _ _=>cases h
 |out _ _ _=>cases h
 |mK _ _ _=>cases h
 |epz _ _ _ _ _=>cases h
 |keep _ _=>cases h
 |slz L e sh xs o2 i c e2 bK ys=>
  simp only[dF,Option.some.injEq] at h;subst h;obtain⟨l,_,_,⟨hv,_⟩,_⟩:=ou.1 hx;refine⟨?_,?_⟩<;>rcases hv with⟨rfl,rfl⟩|⟨b,cap,rfl⟩<;>first|exact .cons hx .nil|(intro c hc;simp[Value.cells] at hc;subst hc;rfl)
theorem Sy {z:Value} {cs:List V} (h:LH z=some cs):PW (aM g) cs z.cells.toList∧ ∀c∈z.cells.toList,c.oneCell'=true:=by
 unfold LH at h;split at h
 ·rename_i cs' hc
  simp only[Option.some.injEq] at h;subst h;exact pW hc (bW (Ia z) (xq g.G z))
 ·split at h
  ·rename_i a hh
   obtain⟨h1,h2⟩:=aF h;simp only[Option.some.injEq] at h2;subst h2;rw[List.all_eq_true] at h1;refine⟨⟨by simp[Value.cells],fun i x v hx hv=>?_⟩,fun c hc=>h1 c hc⟩;have hv:a.toList[i]? =some v:=hv;rw[List.getElem?_map,hv] at hx;simp only[Option.map_some,Option.some.injEq] at hx;subst hx;exact bW (H9 v) (xk g.G v)
  ·cases h
theorem V3 {t:TypeId} {x:Operand} {cs:List V} (ho:o.op=.box t x) (hE: ∀y,aM g (r y) (ac.eval y)) (h:dF (r x)=some cs) (hq:jD cs=true→qD P t cs.length=true):Does P ac.eval o B w g bx (.oN t cs):=by
 obtain⟨h1,h2⟩:=pW h (hE x);refine⟨(ac.eval x).cells,?_,h1,h2,hq⟩;simp[execOp,ho,Instr.box,newVar,newRow]
theorem P5 {t:TypeId} {i:TypeInfo} {z:Value} {cs:List V} (ho:o.op=.alloc t) (hi:P.info? t=some i) (hz:i.zero=some z) (h:LH z=some cs) (hq:jD cs=true→qD P t cs.length=true):Does P ac.eval o B w g bx (.oN t cs):=by
 obtain⟨h1,h2⟩:=Sy (g:=g) h;refine⟨z.cells,?_,h1,h2,hq⟩;simp[execOp,ho,Instr.alloc,zeroValue,typeInfo,hi,hz,newVar,newRow]
theorem P6 {t:TypeId} {a x:Operand} {k off n:Nat} {cells vs:List V} (ho:o.op=.store t a x) (hB:Yo P B g bx w) (hE: ∀y,aM g (r y) (ac.eval y)) (ha:r a=.box k off) (hx:dF (r x)=some vs)
  (hl:ay bx k=some cells) (hs:dD P t=some n) (h1:vs.length=n) (h2:off+n≤cells.length):Does P ac.eval o B w g bx (.put k off vs):=by
 have hpa:=hE a;rw[ha] at hpa;obtain⟨b,hb,hp⟩:=eF.1 hpa;obtain⟨b',c,e,hb',hBb,hh,hpw,hone,hGn⟩:=hB.1 k cells hl;rw[hb] at hb';simp only[Option.some.injEq] at hb';subst hb';obtain⟨r1,r2⟩:=pW hx (hE x);have hsz:(ac.eval x).cells.size=n:=by
  have:=r1.1;simp only[Array.length_toList] at this;omega
 have hcs:cells.length=c.size:=by rw[hpw.1];simp
 refine⟨b,c,e,(ac.eval x).cells.toList,cells,hb,hl,hh,hpw,?_,r1,r2,by omega⟩;have hst:=run_storeCells_at P b off e (ac.eval x).cells.toList 0 c w hh (by simp;omega) r2;simp only[Nat.add_zero] at hst;obtain⟨i,hi,hin⟩:=lI hs;simp[execOp,ho,hp,Instr.storeAt,Instr.sureAddr,storeVar,Go.sizeOf,typeInfo,hi,hsz,hin,hst]
theorem aaE {k:Kd} {x:V} {v:Value} (hk:flatK k=true) (hf:fits k x=true) (h:aM g x v):aP g.G x v:=by
 cases k<;>first|cases hk|skip
 all_goals cases x<;>first|exact h|(simp[fits] at hf)
theorem G5 {G:aQ} {v:V} {u:Value} (hr:aP G v u): ∀(cs:List V) (as:List Value) (off:Nat),jB G cs as→jB G (cs.set off v) (as.set off u)
 |[],as,off,h=>by
  unfold jB at h;subst h;show jB G [] [];unfold jB;rfl
 |y::cs,as,off,h=>by
  unfold jB at h;obtain⟨a,t,rfl,h1,h2⟩:=h
  cases off with
  |zero=>
   show jB G (v::cs) (u::t);unfold jB;exact⟨u,t,rfl,hr,h2⟩
  |succ off=>
   show jB G (y::cs.set off v) (a::t.set off u);unfold jB;exact⟨a,_,rfl,h1,G5 hr cs t off h2⟩
theorem OI (a b:Bool):av a b=true↔a=true∧b=true:=by cases a<;>cases b<;>decide
theorem Di {k:Kd} {v:V} (hf:fits k v=true): ∀(sh:List Kd) (cs:List V) (off:Nat),sh[off]? =some k→fV sh cs=true→fV sh (cs.set off v)=true
 |[],_,_,h,_=>by simp at h
 |q::sh,[],_,_,h=>by cases h
 |q::sh,y::cs,0,h,hc=>by
  simp only[List.getElem?_cons_zero,Option.some.injEq] at h;subst h;have hc:av (fits q y) (fV sh cs)=true:=hc;show av (fits q v) (fV sh cs)=true;rw[OI] at hc⊢;exact⟨hf,hc.2⟩
 |q::sh,y::cs,off+1,h,hc=>by
  have hc:av (fits q y) (fV sh cs)=true:=hc;show av (fits q y) (fV sh (cs.set off v))=true;rw[OI] at hc⊢;exact⟨hc.1,Di hf sh cs off (by simpa using h) hc.2⟩
theorem UG {sh:List Kd} {y:V} (hf:gM sh y=true) (h2:2≤sh.length): ∃cs,y=.agg cs:=by
 have hl:=jS _ _ hf
 cases y<;>first|exact⟨_,rfl⟩|(simp[V.cells] at hl;omega)
theorem fset_ok {G:aQ} {sh:List Kd} {y v:V} {uy u:Value} {off:Nat} (ho:JR sh off v=true) (hf:gM sh y=true) (hy:aP G y uy) (hv:aP G v u):gM sh (y9 sh y off v)=true∧ ∃z,aP G (y9 sh y off v) z∧uy.cells.toList.set off u=z.cells.toList:=by
 unfold JR at ho;rw[Bool.and_eq_true] at ho;obtain⟨hfl,ho⟩:=ho;unfold DZ at ho
 cases hk:sh[off]? with
 |none=>rw[hk] at ho;cases ho
 |some k=>
  rw[hk] at ho;have ho:fits k v=true:=ho;have hlen:=qh hf hy;by_cases h1: ∃q,sh=[q]
  ·obtain⟨q,rfl⟩:=h1
   have h0:off=0:=by
    have:=(List.getElem?_eq_some_iff.1 hk).1;simpa using this
   subst h0;have hkq:q=k:=by simpa using hk
   subst hkq;have hq:flatK q=true:=by simpa using hfl
   obtain⟨u1,hu1⟩: ∃u1,uy.cells.toList=[u1]:=List.length_eq_one_iff.1 (by simpa using hlen);rw[hu1];have hx:gM [q] v=true∧u.cells.toList=[u]:=by
    cases q<;>first|(cases hq;done)|skip
    all_goals (cases v<;>first|(simp[fits] at ho;done)|skip)
    all_goals (unfold aP at hv;subst hv;refine⟨?_,rfl⟩;simp only[gM,V.cells,fV,av,ho])
   exact⟨hx.1,u,hv,by rw[hx.2];rfl⟩
  ·have hoff:=(List.getElem?_eq_some_iff.1 hk).1
   have h2:2≤sh.length:=by
    match sh,h1,hoff with
    |[],_,h=>simp at h
    |[q],h1,_=>exact absurd ⟨q,rfl⟩ h1
    |_::_::_,_,_=>simp
   obtain⟨cs,rfl⟩:=UG hf h2;have e:y9 sh (.agg cs) off v=.agg (cs.set off v):=by
    match sh,h1 with
    |[],_=>rfl
    |[q],h1=>exact absurd ⟨q,rfl⟩ h1
    |_::_::_,_=>rfl
   rw[e];unfold aP at hy;obtain⟨as,rfl,hy⟩:=hy;refine⟨Di ho sh cs off hk hf,.agg (as.set off u).toArray,?_,by simp[Value.cells]⟩;unfold aP;exact⟨_,rfl,G5 hv cs as off hy⟩
theorem Kl {G:aQ} {sh:List Kd} {v:V} {u:Value} {off:Nat} (ho:JR sh off v=true) (hoff:off<sh.length) (hv:aP G v u): ∀(xs:List V) (l:List Value) (i:Nat),cK G sh xs l→i<xs.length→cK G sh (xs.set i (y9 sh (xs.getD i .any) off v)) (l.set (i*sh.length+off) u)
 |[],_,_,_,h=>by simp at h
 |y::xs,l,i,h,hi=>by
  unfold cK at h;obtain⟨hf,⟨uy,huy,hc⟩,ht⟩:=h
  cases i with
  |zero=>
   obtain⟨h1,z,h2,h3⟩:=fset_ok ho hf huy hv;show cK G sh (y9 sh y off v::xs) (l.set (0*sh.length+off) u);rw[Nat.zero_mul,Nat.zero_add];unfold cK;refine⟨h1,⟨z,h2,?_⟩,?_⟩
   ·rw[List.take_set,hc,h3]
   ·rw[List.drop_set_of_lt hoff];exact ht
  |succ i=>
   show cK G sh (y::xs.set i (y9 sh (xs.getD i .any) off v)) (l.set ((i+1)*sh.length+off) u);unfold cK;have e1:(i+1)*sh.length+off=sh.length+(i*sh.length+off):=by rw[Nat.succ_mul];omega
   refine⟨hf,⟨uy,huy,?_⟩,?_⟩
   ·rw[List.take_set_of_le (by omega)];exact hc
   ·have:(l.set ((i+1)*sh.length+off) u).drop sh.length=(l.drop sh.length).set (i*sh.length+off) u:=by
     rw[List.drop_set,if_neg (by omega),show(i+1)*sh.length+off-sh.length=i*sh.length+off by omega]
    rw[this];exact Kl ho hoff hv xs _ i ht (by simpa using hi)
theorem M5 {t:TypeId} {a x:Operand} {L e:Nat} {sh:List Kd} {xs:List V} {i:Int} {off:Nat} {v:V} (ho:o.op=.store t a x) (hO:NP B g w) (hE: ∀y,aM g (r y) (ac.eval y)) (ha:r a=.eptr L e sh xs i off) (hx:dF (r x)=some [v])
  (hs:dD P t=some 1) (hset:JR sh off v=true):Does P ac.eval o B w g bx (.FZ L e sh (sP xs i (y9 sh (aY xs i) off v))):=by
 have hpa:=hE a;rw[ha] at hpa;obtain⟨v0,b,h1,h2,h3,h4,h5,h6⟩:=ni.1 hpa;have Y6:=hset;unfold JR at Y6;rw[Bool.and_eq_true] at Y6;obtain⟨hfl,hfit⟩:=Y6;unfold DZ at hfit
 cases hk:sh[off]? with
 |none=>rw[hk] at hfit;cases hfit
 |some k=>
 rw[hk] at hfit;have hfit:fits k v=true:=hfit;have hoff:=(List.getElem?_eq_some_iff.1 hk).1;have hkf:flatK k=true:=by
  rw[List.all_eq_true] at hfl;exact hfl k (List.mem_of_getElem? hk)
 rcases(hO.1 L v0 e sh.length h1).2 with hv|⟨b',n,cap,cur,l,hv,hBb,hh,hnc,hcm,hcs,hG,hl⟩
 ·rw[hv] at h5;cases h5
 ·rw[hv] at h5
  simp only[Value.ownBlock,Option.some.injEq] at h5;subst h5;have h2':=h2;rcases h2 with⟨_,hnil⟩|⟨b2,cap2,l2,hv2,hcap2,hG2,hl2,hE2⟩
  ·rw[hnil] at h4;simp at h4;omega
  ·rw[hv] at hv2
   simp only[Value.slice.injEq,Option.some.injEq,Addr.mk.injEq] at hv2;obtain⟨⟨rfl,_,_⟩,hn2,hcc⟩:=hv2;have e9:=(hG.known hG2).1;rw[e9] at hG2 hl2 hE2;have hG:=hG2;obtain⟨r1,r2⟩:=pW hx (hE x);have hsz:(ac.eval x).cells.size=1:=by
    have:=r1.1;simp only[Array.length_toList] at this;simpa using this.symm
   obtain⟨u,hu⟩: ∃u,(ac.eval x).cells.toList=[u]:=List.length_eq_one_iff.1 (by rw[Array.length_toList];exact hsz);rw[hu] at r1 r2;have hru:=aaE hkf hfit r1.head;have hin':i.toNat<xs.length:=by omega
   have hpl:i.toNat*sh.length+off<xs.length*sh.length:=by
    have:(i.toNat+1)*sh.length≤xs.length*sh.length:=Nat.mul_le_mul_right _ hin';rw[Nat.succ_mul] at this;omega
   refine⟨v0,b',cur,l,i.toNat*sh.length+off,u,xs,h1,by rw[hv];rfl,hh,hG,by rw[hl,hn2];exact hpl,h2',by unfold sP;rw[List.length_set],hfl,?_,r2 u (by simp),?_⟩
   ·unfold sP aY
    exact Kl hset hoff hru xs l i.toNat hE2 hin'
   ·have hbd:i.toNat*sh.length+off+1≤cur.size:=by
     have h4':n*sh.length≤cap*sh.length:=Nat.mul_le_mul_right _ hnc;rw[←hn2] at hpl;omega
    have hst:=run_storeCells_at P b' (i.toNat*sh.length+off) e [u] 0 cur w hh (by simpa using hbd) r2;simp only[Nat.add_zero] at hst;obtain⟨ii,hii,hin⟩:=lI hs;have hp:ac.eval a=.pointer (some ⟨b',i.toNat*sh.length+off,none⟩):=h6;simp[execOp,ho,hp,Instr.storeAt,Instr.sureAddr,storeVar,Go.sizeOf,typeInfo,hii,hsz,hin,hu] at hst⊢;rw[hst];rfl
theorem fold_push: ∀(l:List Int) (acc:ByteArray),l.foldl (fun r n=>r.push (UInt8.ofNat n.toNat)) acc=⟨acc.data++(l.map fun n=>UInt8.ofNat n.toNat).toArray⟩
 |[],acc=>by simp
 |n::l,acc=>by
  rw[List.foldl_cons,fold_push l];apply ByteArray.ext
  simp[ByteArray.push]
theorem Dj {G:aQ}: ∀(xs:List V) (cells:List Value),cK G [.int .u8] xs cells→cells.take xs.length=(xs.map fun x=>asInt (aD x 0)).map (Value.int .u8)
 |[],cells,_=>by simp
 |x::xs,cells,h=>by
  unfold cK at h;obtain⟨hf,⟨u,hu,hc⟩,ht⟩:=h;have ih:=Dj xs _ ht;have hx: ∃n,x=.int .u8 n∨x=.agg [.int .u8 n]:=by
   cases x with
   |int k n=>
    by_cases hk:IntKind.u8=k
    ·subst hk;exact⟨n,.inl rfl⟩
    ·have e:(IntKind.u8==k)=false:=by simpa using hk
     simp only[gM,V.cells,fV,fits,av,e] at hf
     cases hf
   |agg cs=>
    cases cs with
    |nil=>simp[gM,V.cells,fV] at hf
    |cons c cs=>
     cases cs with
     |nil=>
      cases c with
      |int k n=>
       by_cases hk:IntKind.u8=k
       ·subst hk;exact⟨n,.inr rfl⟩
       ·have e:(IntKind.u8==k)=false:=by simpa using hk
        simp only[gM,V.cells,fV,fits,av,e] at hf
        cases hf
      |_=>simp[gM,V.cells,fV,fits,av] at hf
     |cons d cs=>exfalso;unfold gM V.cells at hf;have:=jS _ _ hf;simp at this
   |_=>simp[gM,V.cells,fV,fits,av] at hf
  cases cells with
  |nil=>
   have:=qh hf hu;rw[←hc] at this;simp at this
  |cons c cells=>
   simp only[List.length_singleton,List.take_succ_cons,List.take_zero] at hc;simp only[List.length_singleton,List.drop_succ_cons,List.drop_zero] at ih;obtain⟨n,rfl|rfl⟩:=hx
   ·unfold aP at hu
    subst hu;simp[Value.cells] at hc;subst hc;simp[ih,asInt,aD]
   ·unfold aP at hu
    obtain⟨a,rfl,hL⟩:=hu;rw[fD] at hL;obtain⟨v,t,rfl,hv,ht'⟩:=hL.cons_inv;have:=ht'.cZ;subst this;unfold aP at hv;subst hv;simp[Value.cells] at hc;subst hc;simp[ih,asInt,aD]
end
section
variable {P:Program} {ρ:Operand→Value} {o:Oper} {B:Own} {w:World} {g:Gh} {bx:List (Nat×List V)} {E:Env} {fr:List V} {ac:Act}
theorem IU {t e ty:TypeId} {n:Nat} {p q:Option Addr} {len cap c:Nat} (hu:P.underlying t=some (.slice e)) (hs:dD P e=some n) (hle:len≤cap):
  (Builtin.append_ #[t,t] ty #[.slice p len cap,.slice q 0 c]).run P w=.ok (.slice p len cap) w:=by
 have hf:(Builtin.firstCells n 0 (.slice q 0 c)).run P w=.ok #[] w:=by
  cases q<;>simp[Builtin.firstCells,loadCells,loadCellsFrom]
 cases p<;>simp[Builtin.append_,run_underlying hu,dM hs,Builtin.lenOf,hle,hf,storeCells]
theorem gJ {need old:Nat} {e:TypeId} (h:need≤33554432):grownCap w need old e≤maxLen:=grownCap_le_maxLen w need old e (by unfold maxLen;omega)
theorem aaF {sh:List Kd} {X:V} {ys:List V} {u:Value} (hX:aM g X u) (h:tailV sh X=some ys): ∃p cap,u=.slice p ys.length cap∧(ys=[]∨ ∃b off l,p=some ⟨b,off,none⟩∧g.G b=some l∧cK g.G sh ys (l.drop off)):=by
 unfold tailV at h;split at h
 ·rename_i e sh' ow zs
  have hh:=aF h;obtain⟨h1,h2⟩:=hh;simp only[Option.some.injEq] at h2;subst h2;obtain rfl:=Kd.bL _ _ h1;have hr:=lH hX;unfold aP at hr;obtain⟨p,cap,hv,_,hr⟩:=hr;exact⟨p,cap,hv,hr⟩
 ·simp only[Option.some.injEq] at h
  subst h;rw[iW] at hX;exact⟨none,0,hX,.inl rfl⟩
 ·cases h
theorem fK (w:World) (o:Obj):(w.drew.alloc o).heap[w.heap.size]? =some o:=heap_alloc_new w.drew o
theorem fq (w:World) (o:Obj):Below w.heap.size w (w.drew.alloc o):=by
 have h:=iO w.drew o;exact⟨h.os,h.tape,h.output,h.size,h.block⟩
theorem Km {w:World} {b e:Nat} {cur:Array Value} {l:List Value} (hh:w.heap[b]? =some (.cells cur e (0,0))) (ht:cur.toList.take l.length=l) {j:Nat} {v:Value} (hj:l[j]? =some v):w.cell? ((⟨b,0,none⟩:Addr).add j)=some v:=by
 rw[Addr.add_mid,Nat.zero_add];refine jH (G:=fun k=>if k=b then some l else none) (fun k m hk=>?_) (if_pos rfl) hj;have hk:(if k=b then some l else none)=some m:=hk;split at hk
 ·rename_i ek
  simp only[Option.some.injEq] at hk;subst hk;subst ek;exact⟨cur,e,(0,0),hh,ht⟩
 ·cases hk
section
variable {s x:Operand} {t u:TypeId} {e:Nat} {sh:List Kd} {z:V} {ys:List V} {xv:Value} {news:List Value}
theorem V4 (hxv:ρ x=xv) (hel:elemOf P t=some (e,sh,z))
  (key: ∀v w',(Builtin.append_ #[t,u] o.type #[ρ s,ρ x]).run P w=.ok v w'→(execOp ρ o).run P w=.ok (.value v) w') (hG:ze g.G w) (hs:aM g .nilsl (ρ s)) (hne:ys≠[]) (hlen:news.length=ys.length*sh.length) (hle:ys.length≤16777216)
  (Rn: ∀i zv,P.info? e=some i→i.zero=some zv→ys≠[]→ys.length*i.bytes≤281474976710656→ys.length≤16777216→(Builtin.append_ #[t,u] o.type #[.slice none 0 0,xv]).run P w=.ok (.slice (some ⟨w.heap.size,0,none⟩) ys.length (grownCap w ys.length 0 e)) (w.drew.alloc (.cells (news.toArray++Builtin.zeroCells zv.cells (grownCap w ys.length 0 e-ys.length)) e))):
  ∃u w',(execOp ρ o).run P w=.ok (.value u) w'∧Below w.heap.size w w'∧zX g.G w' (w.heap.size≤ ·) e sh.length ys.length u news:=by
 obtain⟨hu,i,zv,hi,hz,_,_,hsz,h0,hzc,hby,hfit⟩:=iP hel;rw[iW] at hs;have hr:=Rn i zv hi hz hne (by
  calc ys.length*i.bytes≤16777216*8388608:=Nat.mul_le_mul hle hby
   _≤281474976710656:=by decide) hle
 have hge:=grownCap_ge w ys.length 0 e;refine⟨_,_,key _ _ (by rw[hs,hxv];exact hr),fq w _,h0,hlen,.inr ⟨w.heap.size,_,_,rfl,Nat.le_refl _,fK w _,hge,gJ (by omega),?_,?_,?_⟩⟩
 ·simp only[Array.size_append,List.size_toArray,size_zeroCells,hzc,hlen,←Nat.add_mul]
  congr 1;omega
 ·simp only[Array.toList_append,List.take_left]
 ·cases hq:g.G w.heap.size with
  |none=>rfl
  |some l=>exact absurd (eY hG hq) (Nat.lt_irrefl _)
theorem V5 {L:Nat} {xs:List V} {l:List Value} (hxv:ρ x=xv) (hel:elemOf P t=some (e,sh,z))
  (key: ∀v w',(Builtin.append_ #[t,u] o.type #[ρ s,ρ x]).run P w=.ok v w'→(execOp ρ o).run P w=.ok (.value v) w') (hG:ze g.G w) (hO:NP B g w) (hB:B.n≤w.heap.size∧ ∀b,w.heap.size≤b→B.m b)
  (Q8:g.O L=some (ρ s,e,sh.length)) (hC:g.C L=some l) (hzG:zG g sh xs (ρ s) l) (hne:ys≠[]) (hlen:news.length=ys.length*sh.length) (hle:xs.length+ys.length≤16777216)
  (Rn: ∀i zv,P.info? e=some i→i.zero=some zv→ys≠[]→ys.length*i.bytes≤281474976710656→ys.length≤16777216→(Builtin.append_ #[t,u] o.type #[.slice none 0 0,xv]).run P w=.ok (.slice (some ⟨w.heap.size,0,none⟩) ys.length (grownCap w ys.length 0 e)) (w.drew.alloc (.cells (news.toArray++Builtin.zeroCells zv.cells (grownCap w ys.length 0 e-ys.length)) e)))
  (Rr: ∀i,P.info? e=some i→i.size=sh.length→ys≠[]→ ∀b sLen sCap (cur:Array Value),w.heap[b]? =some (.cells cur e (0,0))→sLen+ys.length≤sCap→sLen*sh.length+news.length≤cur.size→(Builtin.append_ #[t,u] o.type #[.slice (some ⟨b,0,none⟩) sLen sCap,xv]).run P w=.ok (.slice (some ⟨b,0,none⟩) (sLen+ys.length) sCap) (w.setRow b (cur.toList.take (sLen*sh.length)++news++cur.toList.drop (sLen*sh.length+news.length)).toArray))
  (Rg: ∀i zv,P.info? e=some i→i.zero=some zv→i.size=sh.length→ys≠[]→ ∀b sLen sCap (l:List Value),l.length=sLen*i.size→(∀j v,l[j]? =some v→w.cell? ((⟨b,0,none⟩:Addr).add j)=some v)→sCap<sLen+ys.length→sLen+ys.length≤16777216→Builtin.nextslicecap (sLen+ys.length) sCap*i.bytes≤281474976710656→
   (Builtin.append_ #[t,u] o.type #[.slice (some ⟨b,0,none⟩) sLen sCap,xv]).run P w=.ok (.slice (some ⟨w.heap.size,0,none⟩) (sLen+ys.length) (grownCap w (sLen+ys.length) sCap e)) (w.drew.alloc (.cells (l.toArray++news.toArray++Builtin.zeroCells zv.cells (grownCap w (sLen+ys.length) sCap e-(sLen+ys.length))) e))):
  ∃u w',(execOp ρ o).run P w=.ok (.value u) w'∧w.grownBy w' (ρ s).ownBlock∧(∀b,(ρ s).ownBlock=some b→g.G b=none)∧zX g.G w' (B.ok L) e sh.length (xs.length+ys.length) u (l++news)∧(u.ownBlock=(ρ s).ownBlock∨ ∀b,u.ownBlock=some b→w.heap.size≤b):=by
 obtain⟨hu,i,zv,hi,hz,_,_,hsz,h0,hzc,hby,hfit⟩:=iP hel;have hpos:0<ys.length:=List.length_pos_iff.2 hne;have hbytes:(xs.length+ys.length)*i.bytes≤140737488355328:=by
  calc (xs.length+ys.length)*i.bytes≤16777216*8388608:=Nat.mul_le_mul hle hby
   _≤140737488355328:=by decide
 have hGn:g.G w.heap.size=none:=by
  cases hq:g.G w.heap.size with
  |none=>rfl
  |some l=>exact absurd (eY hG hq) (Nat.lt_irrefl _)
 obtain⟨hv,hl,_⟩:=hzG;have hll:(l++news).length=(xs.length+ys.length)*sh.length:=by rw[List.length_append,hl,hlen,Nat.add_mul]
 rcases hv with⟨hv,hx0⟩|⟨b,cap,hv⟩
 ·subst hx0
  have hl0:l=[]:=List.eq_nil_of_length_eq_zero (by rw[hl];simp);subst hl0;simp only[List.length_nil,Nat.zero_add,List.nil_append] at hll hle⊢;have hle':ys.length≤16777216:=hle;have hr:=Rn i zv hi hz hne (by
   calc ys.length*i.bytes≤16777216*8388608:=Nat.mul_le_mul hle' hby
    _≤281474976710656:=by decide) hle'
  have hge:=grownCap_ge w ys.length 0 e;have hb:=fq w (.cells (news.toArray++Builtin.zeroCells zv.cells (grownCap w ys.length 0 e-ys.length)) e);refine⟨_,_,key _ _ (by rw[hv,hxv];exact hr),⟨hb.os,hb.tape,hb.output,hb.size,fun k hk _=>hb.block k hk⟩,(fun b hb=>by rw[hv] at hb;cases hb),⟨h0,hll,.inr ⟨w.heap.size,_,_,rfl,⟨hB.2 _ (Nat.le_refl _),fun _=>hB.1⟩,fK w _,hge,gJ (by omega),?_,?_,hGn⟩⟩,.inr ?_⟩
  ·simp only[Array.size_append,List.size_toArray,size_zeroCells,hzc,hlen,←Nat.add_mul]
   congr 1;omega
  ·simp only[Array.toList_append,List.take_left]
  ·intro k hk
   simp[Value.ownBlock] at hk;omega
 ·rcases(hO.1 L _ _ _ Q8).2 with hOv|⟨b',n,cap',cur,l',hv',hBb,hh,hn,hcm,hcs,hrow,hl'⟩
  ·rw[hv] at hOv;cases hOv
  ·rw[hv] at hv'
   simp only[Value.slice.injEq,Option.some.injEq,Addr.mk.injEq] at hv';obtain⟨⟨rfl,_,_⟩,hn2,rfl⟩:=hv';obtain⟨tQ,e9,htk⟩:=hrow.nested hC;subst e9;have hGo: ∀k,(ρ s).ownBlock=some k→g.G k=none:=fun k hk=>by
    rw[hv] at hk;simp only[Value.ownBlock,Option.some.injEq] at hk;rw[←hk];exact tQ
   by_cases hroom:xs.length+ys.length≤cap
   ·have hfit:xs.length*sh.length+news.length≤cur.size:=by rw[hlen,hcs,←Nat.add_mul];exact Nat.mul_le_mul_right _ hroom
    have hr:=Rr i hi hsz hne b xs.length cap cur hh hroom hfit;rw[←hl,htk] at hr;have hset:=setRow_heap w b cur (l++news++cur.toList.drop (l.length+news.length)).toArray e (0,0) hh;refine⟨.slice (some ⟨b,0,none⟩) (xs.length+ys.length) cap,w.setRow b (l++news++cur.toList.drop (l.length+news.length)).toArray,key _ _ (by rw[hv,hxv];exact hr),⟨rfl,rfl,rfl,by simp,fun k _ hk=>setRow_other w b k _ (fun ek=>hk (by rw[hv,ek];rfl))⟩,hGo,⟨h0,hll,.inr ⟨b,cap,_,rfl,hBb,hset,hroom,hcm,?_,?_,tQ⟩⟩,.inl (by rw[hv];rfl)⟩
    ·simp only[List.size_toArray,List.length_append,List.length_drop,Array.length_toList]
     rw[hl];omega
    ·rw[List.append_assoc,←List.append_assoc l,List.take_left]
   ·have hr:=Rg i zv hi hz hsz hne b xs.length cap l (by rw[hl,hsz]) (fun j v hj=>Km hh htk hj) (by omega) (by omega) (growslice_fits (by omega) hbytes)
    have hge:=grownCap_ge w (xs.length+ys.length) cap e;have hb:=fq w (.cells (l.toArray++news.toArray++Builtin.zeroCells zv.cells (grownCap w (xs.length+ys.length) cap e-(xs.length+ys.length))) e);refine⟨_,_,key _ _ (by rw[hv,hxv];exact hr),⟨hb.os,hb.tape,hb.output,hb.size,fun k hk _=>hb.block k hk⟩,hGo,⟨h0,hll,.inr ⟨w.heap.size,_,_,rfl,⟨hB.2 _ (Nat.le_refl _),fun _=>hB.1⟩,fK w _,hge,gJ (by omega),?_,?_,hGn⟩⟩,.inr ?_⟩
    ·simp only[Array.size_append,List.size_toArray,size_zeroCells,hzc,hlen,hl,←Nat.add_mul]
     congr 1;omega
    ·have e3:(l.toArray++news.toArray++Builtin.zeroCells zv.cells (grownCap w (xs.length+ys.length) cap e-(xs.length+ys.length))).toList=l++news++(Builtin.zeroCells zv.cells (grownCap w (xs.length+ys.length) cap e-(xs.length+ys.length))).toList:=by simp
     rw[e3,List.take_left]
    ·intro k hk
     simp[Value.ownBlock] at hk;omega
end
theorem BF: ∀(sh:List Kd) (i c e2:Nat) (bK:List Kd),Ym sh i=some (c,e2,bK)→i≤c∧sh[c-i]? =some (.sl e2 bK)∧bK.all flatK=true∧0<bK.length∧ ∀j k,sh[j]? =some k→j≠c-i→flatK k=true
 |[],i,c,e2,bK,h=>by cases h
 |k::l,i,c,e2,bK,h=>by
  have other: ∀(hk:flatK k=true) (h:Ym l (i+1)=some (c,e2,bK)),i≤c∧(k::l)[c-i]? =some (.sl e2 bK)∧bK.all flatK=true∧0<bK.length∧ ∀j k',(k::l)[j]? =some k'→j≠c-i→flatK k'=true:=by
   intro hk h;obtain⟨h1,h2,h3,h5,h4⟩:=BF l (i+1) c e2 bK h;refine⟨by omega,by rw[show c-i=c-(i+1)+1 by omega];simpa using h2,h3,h5,fun j k' hj hne=>?_⟩
   cases j with
   |zero=>simp only[List.getElem?_cons_zero,Option.some.injEq] at hj;rw[←hj];exact hk
   |succ j=>exact h4 j k' (by simpa using hj) (by omega)
  cases k with
  |sl e sh=>
   have h:(bif (sh.all flatK&&Nat.blt 0 sh.length)&&l.all flatK then some (i,e,sh) else none)=some (c,e2,bK):=h;obtain⟨h1,h2⟩:=aF h;simp only[Option.some.injEq,Prod.mk.injEq] at h2;obtain⟨rfl,rfl,rfl⟩:=h2;rw[Bool.and_eq_true,Bool.and_eq_true,List.all_eq_true (l:=l),Nat.blt_eq] at h1;refine⟨Nat.le_refl _,by rw[Nat.sub_self];rfl,h1.1.1,h1.1.2,fun j k' hj hne=>?_⟩
   cases j with
   |zero=>exact absurd (Nat.sub_self i).symm hne
   |succ j=>exact h1.2 k' (List.mem_of_getElem? (by simpa using hj))
  |bool=>exact other rfl (aF (show(bif flatK .bool then Ym l (i+1) else none)=some (c,e2,bK) from h)).2
  |int k0=>exact other rfl (aF (show(bif flatK (.int k0) then Ym l (i+1) else none)=some (c,e2,bK) from h)).2
  |str=>exact other rfl (aF (show(bif flatK .str then Ym l (i+1) else none)=some (c,e2,bK) from h)).2
  |oth=>cases h
theorem OJ {G G':aQ} {sh:List Kd} {c:Nat} {ys:List V} {l:List Value} (h:Vy c ys=true) (hE:cK G sh ys l):cK G' sh ys l∧ys.length=1∧(c<sh.length→ ∀y,l[c]? =some y→y=.slice none 0 0):=by
 unfold Vy at h;split at h
 ·rename_i y
  rw[Bool.and_eq_true,List.all_eq_true] at h;obtain⟨h1,h2⟩:=h;unfold cK at hE;obtain⟨hf,⟨u,hu,ht⟩,_⟩:=hE;have hx:y≠.any:=fun e=>by rw[e,ng] at hf;cases hf
  have hcp:=(qg hu hx).2;have hflat: ∀z∈y.cells,∀v,aP G z v→aP G' z v:=by
   intro z hz v hv;have:=h1 z hz
   cases z with
   |bool b=>unfold aP at hv⊢;exact hv
   |int k n=>unfold aP at hv⊢;exact hv
   |str t=>unfold aP at hv⊢;exact hv
   |nilsl=>unfold aP at hv⊢;exact hv
   |_=>cases this
  have hu':aP G' y u:=by
   cases y with
   |agg cs=>
    unfold aP at hu⊢;obtain⟨a,rfl,ha⟩:=hu;rw[fD] at ha;exact⟨a,rfl,(fD _ _).2 (ha.mono fun z hz v hv=>hflat z hz v hv)⟩
   |bool b=>unfold aP at hu⊢;exact hu
   |int k n=>unfold aP at hu⊢;exact hu
   |str t=>unfold aP at hu⊢;exact hu
   |nilsl=>unfold aP at hu⊢;exact hu
   |_=>exact absurd (h1 _ (by unfold V.cells;exact List.mem_cons_self)) (by simp)
  refine⟨by unfold cK;exact⟨hf,⟨u,hu',ht⟩,iZ⟩,rfl,fun hc v hv=>?_⟩;have hv2:u.cells.toList[c]? =some v:=by rw[←ht,List.getElem?_take,if_pos hc];exact hv
  have hlen:=hcp.1;have hcl:c<y.cells.length:=by rw[hlen];exact(List.getElem?_eq_some_iff.1 hv2).1
  have hr:=hcp.2 c _ v (List.getElem?_eq_getElem hcl) hv2;have hg:y.cells.getD c .any=y.cells[c]:=by rw[List.getD_eq_getElem?_getD,List.getElem?_eq_getElem hcl];rfl
  rw[hg] at h2;generalize y.cells[c]=z at h2 hr
  cases z with
  |nilsl=>unfold aP at hr;exact hr
  |_=>cases h2
 ·cases h
theorem xQ {s x:Operand} {S:V} {eff:Eff} {t u:TypeId} {e:Nat} {sh:List Kd} {z:V} {ys:List V} {xv:Value} {news:List Value} (hxv:ρ x=xv) (hel:elemOf P t=some (e,sh,z))
  (key: ∀v w',(Builtin.append_ #[t,u] o.type #[ρ s,ρ x]).run P w=.ok v w'→(execOp ρ o).run P w=.ok (.value v) w') (hG:ze g.G w) (hO:NP B g w) (hB:B.n≤w.heap.size∧ ∀b,w.heap.size≤b→B.m b)
  (hs:aM g S (ρ s)) (hE0:ys≠[]→cK g.G sh ys news) (Uk:ys≠[]→news.length=ys.length*sh.length)
  (R0:ys=[]→ ∀p len cap,len≤cap→(Builtin.append_ #[t,u] o.type #[.slice p len cap,xv]).run P w=.ok (.slice p len cap) w)
  (Rn: ∀i zv,P.info? e=some i→i.zero=some zv→ys≠[]→ys.length*i.bytes≤281474976710656→ys.length≤16777216→(Builtin.append_ #[t,u] o.type #[.slice none 0 0,xv]).run P w=.ok (.slice (some ⟨w.heap.size,0,none⟩) ys.length (grownCap w ys.length 0 e)) (w.drew.alloc (.cells (news.toArray++Builtin.zeroCells zv.cells (grownCap w ys.length 0 e-ys.length)) e)))
  (Rr: ∀i,P.info? e=some i→i.size=sh.length→ys≠[]→ ∀b sLen sCap (cur:Array Value),w.heap[b]? =some (.cells cur e (0,0))→sLen+ys.length≤sCap→sLen*sh.length+news.length≤cur.size→(Builtin.append_ #[t,u] o.type #[.slice (some ⟨b,0,none⟩) sLen sCap,xv]).run P w=.ok (.slice (some ⟨b,0,none⟩) (sLen+ys.length) sCap) (w.setRow b (cur.toList.take (sLen*sh.length)++news++cur.toList.drop (sLen*sh.length+news.length)).toArray))
  (Rg: ∀i zv,P.info? e=some i→i.zero=some zv→i.size=sh.length→ys≠[]→ ∀b sLen sCap (l:List Value),l.length=sLen*i.size→(∀j v,l[j]? =some v→w.cell? ((⟨b,0,none⟩:Addr).add j)=some v)→sCap<sLen+ys.length→sLen+ys.length≤16777216→Builtin.nextslicecap (sLen+ys.length) sCap*i.bytes≤281474976710656→
   (Builtin.append_ #[t,u] o.type #[.slice (some ⟨b,0,none⟩) sLen sCap,xv]).run P w=.ok (.slice (some ⟨w.heap.size,0,none⟩) (sLen+ys.length) (grownCap w (sLen+ys.length) sCap e)) (w.drew.alloc (.cells (l.toArray++news.toArray++Builtin.zeroCells zv.cells (grownCap w (sLen+ys.length) sCap e-(sLen+ys.length))) e)))
  (h:(match S with
     | .nilsl=>some (Gb ys,Eff.own e sh ys)
     | .sl e' sh' (some L) xs=>bif e==e'&&Kd.tO sh sh' then some (dR xs ys,Eff.app L e sh (aX xs ys)) else none
     |_=>none)=some (true,eff)):Does P ρ o B w g bx eff:=by
 obtain⟨hu,i,zv,hi,hz,_,_,hsz,h0,hzc,hby,hfit⟩:=iP hel;have hsT:dD P e=some sh.length:=by unfold dD;rw[hi];simp[hsz]
 split at h
 ·
  simp only[Option.some.injEq,Prod.mk.injEq] at h;obtain⟨hle,rfl⟩:=h;have hle:ys.length≤16777216:=of_decide_eq_true hle;rw[iW] at hs;by_cases hne:ys=[]
  ·subst hne
   refine⟨.slice none 0 0,w,g.G,key _ _ ?_,⟨Below.refl _ _,fun _ _=>rfl,hG⟩,h0,.inl ⟨rfl,rfl⟩⟩;rw[hs,hxv];exact R0 rfl none 0 0 (Nat.le_refl _)
  ·have hE:=hE0 hne
   have hlen:=Uk hne;have hpos:0<ys.length:=List.length_pos_iff.2 hne;have hr:=Rn i zv hi hz hne (by
    calc ys.length*i.bytes≤16777216*8388608:=Nat.mul_le_mul hle hby
     _≤281474976710656:=by decide) hle
   have hge:=grownCap_ge w ys.length 0 e;have hap:=pU (e:=e) (sh:=sh) (xs:=ys) (cap:=grownCap w ys.length 0 e) (c:=news.toArray++Builtin.zeroCells zv.cells (grownCap w ys.length 0 e-ys.length)) (w':=w.drew.alloc (.cells (news.toArray++Builtin.zeroCells zv.cells (grownCap w ys.length 0 e-ys.length)) e)) hG
    (fq w _) (fK w _) h0 hge (gJ (by omega)) (by
     simp only[Array.size_append,List.size_toArray,size_zeroCells,hzc,hlen,←Nat.add_mul];congr 1;omega) (by
     simp only[Array.toList_append,←hlen,List.take_left];exact hE)
   obtain⟨G',hN,hF⟩:=hap;exact⟨_,_,G',key _ _ (by rw[hs,hxv];exact hr),hN,hF⟩
 ·
  rename_i e' sh' L xs;have hh:=aF h;clear h;obtain⟨hc2,h⟩:=hh;simp only[Option.some.injEq,Prod.mk.injEq] at h;obtain⟨hle,rfl⟩:=h;have hle:xs.length+ys.length≤16777216:=of_decide_eq_true hle;simp only[Bool.and_eq_true,beq_iff_eq] at hc2;obtain⟨rfl,hsh⟩:=hc2;obtain rfl:=Kd.bL _ _ hsh;obtain⟨Q8,hown⟩:=hs;have hbytes:(xs.length+ys.length)*i.bytes≤140737488355328:=by
   calc (xs.length+ys.length)*i.bytes≤16777216*8388608:=Nat.mul_le_mul hle hby
    _≤140737488355328:=by decide
  obtain⟨_,hOv⟩:=hO.1 L _ _ _ Q8;have V6: ∀(G':aQ),G'=g.G→ys=[]→Does P ρ o B w g bx (.app L e sh (aX xs ys)):=by
   rintro G' rfl rfl;have hxe:aX xs []=xs:=by unfold aX;simp
   rw[hxe];have hlc: ∃p cap,ρ s=.slice p xs.length cap∧xs.length≤cap:=by
    rcases hown with⟨hv,hx0⟩|⟨b,cap,l,hv,hcap,_⟩
    ·exact⟨none,0,by rw[hv,hx0];rfl,by rw[hx0];exact Nat.le_refl _⟩
    ·exact⟨_,cap,hv,hcap⟩
   obtain⟨p,cap,hv,hcap⟩:=hlc;refine⟨ρ s,ρ s,w,g.G,Q8,key _ _ (by rw[hv,hxv];exact R0 rfl p _ cap hcap),⟨rfl,rfl,rfl,Nat.le_refl _,fun _ _ _=>rfl⟩,fun _ _ _=>rfl,.refl _,hG,⟨h0,?_⟩,.inl rfl⟩;rcases hown with⟨hv,hx0⟩|⟨b,cap,l,hv,hcap,tQ,hl,hE⟩
   ·exact .inl ⟨hv,hx0⟩
   ·rcases hOv with hOv|⟨b',n,cap',cur,l',hv',hBb,hh,hn,hcm,hcs,hGb',hl'⟩
    ·rw[hv] at hOv;cases hOv
    ·rw[hv] at hv'
     simp only[Value.slice.injEq,Option.some.injEq,Addr.mk.injEq] at hv';obtain⟨⟨rfl,_,_⟩,hn2,rfl⟩:=hv';exact .inr ⟨b,cap,cur,l,hv,hBb,hh,hcap,hcm,hcs,tQ,hl,hE⟩
  by_cases hne:ys=[]
  ·exact V6 _ rfl hne
  ·have hE2:=hE0 hne
   have hlen:=Uk hne;have hpos:0<ys.length:=List.length_pos_iff.2 hne;have VD:(aX xs ys).length=xs.length+ys.length:=by unfold aX;simp
   rcases hown with⟨hv,hx0⟩|⟨b,cap,l,hv,hcap,tQ,hl,hE⟩
   ·
    subst hx0;have hle':ys.length≤16777216:=by simpa using hle
    have hr:=Rn i zv hi hz hne (by
     calc ys.length*i.bytes≤16777216*8388608:=Nat.mul_le_mul hle' hby
      _≤281474976710656:=by decide) hle'
    have hge:=grownCap_ge w ys.length 0 e;have hxe:aX [] ys=ys:=rfl;rw[hxe];obtain⟨G',hN,hF⟩:=pU (e:=e) (sh:=sh) (xs:=ys) (cap:=grownCap w ys.length 0 e) (c:=news.toArray++Builtin.zeroCells zv.cells (grownCap w ys.length 0 e-ys.length)) (w':=w.drew.alloc (.cells (news.toArray++Builtin.zeroCells zv.cells (grownCap w ys.length 0 e-ys.length)) e)) hG
     (fq w _) (fK w _) h0 hge (gJ (by omega)) (by
      simp only[Array.size_append,List.size_toArray,size_zeroCells,hzc,hlen,←Nat.add_mul];congr 1;omega) (by
      simp only[Array.toList_append,←hlen,List.take_left];exact hE2)
    obtain⟨hb,hGs,hGk⟩:=hN;refine⟨ρ s,_,_,G',Q8,key _ _ (by rw[hv,hxv];exact hr),⟨hb.os,hb.tape,hb.output,hb.size,fun k hk _=>hb.block k hk⟩,fun k hk _=>hGs k hk,fun k m hk=>⟨m,by rw[hGs k (eY hG hk)];exact hk,List.prefix_refl _⟩,hGk,⟨hF.1,?_⟩,.inr ?_⟩
    ·rcases hF.2 with hF|⟨b',cap',cur,l',hv',hBb,rest⟩
     ·exact .inl hF
     ·exact .inr ⟨b',cap',cur,l',hv',⟨hB.2 _ hBb,fun _=>Nat.le_trans hB.1 hBb⟩,rest⟩
    ·intro k hk
     simp[Value.ownBlock] at hk;omega
   ·rcases hOv with hOv|⟨b',n,cap',cur,l',hv',hBb,hh,hn,hcm,hcs,hGb',hl'⟩
    ·rw[hv] at hOv;cases hOv
    ·rw[hv] at hv'
     simp only[Value.slice.injEq,Option.some.injEq,Addr.mk.injEq] at hv';obtain⟨⟨rfl,_,_⟩,hn2,rfl⟩:=hv';obtain⟨cur',e2,fr2,hh2,htk⟩:=hG b l tQ;rw[hh] at hh2;simp only[Option.some.injEq,Obj.cells.injEq] at hh2;obtain⟨rfl,_,_⟩:=hh2;rw[hl] at htk;have hcatE: ∀G',mF g.G G'→cK G' sh (aX xs ys) (l++news):=fun G' hm=>xP xs ys l news (iJ hm sh xs _ _ hE (List.prefix_refl _)) (iJ hm sh ys _ _ hE2 (List.prefix_refl _)) hl
     have hcatl:(l++news).length=(aX xs ys).length*sh.length:=by rw[List.length_append,hl,hlen,VD,Nat.add_mul]
     by_cases hroom:xs.length+ys.length≤cap
     ·
      have hfit:xs.length*i.size+news.length≤cur.size:=by rw[hlen,hcs,hsz,←Nat.add_mul];exact Nat.mul_le_mul_right _ hroom
      have hr:=Rr i hi hsz hne b xs.length cap cur hh hroom (by rw[hsz] at hfit;exact hfit);rw[htk] at hr;have hblt:b<w.heap.size:=(Array.getElem?_eq_some_iff.1 hh).1;have hset:=setRow_heap w b cur (l++news++cur.toList.drop (xs.length*sh.length+news.length)).toArray e (0,0) hh;have hmore:mF g.G (upd g.G b (l++news)):=by
       intro k m hk;by_cases ek:k=b
       ·subst ek
        rw[tQ] at hk;simp only[Option.some.injEq] at hk;subst hk;exact⟨_,upd_same _ _ _,List.prefix_append _ _⟩
       ·exact⟨m,by rw[gH _ _ _ _ ek];exact hk,List.prefix_refl _⟩
      refine⟨ρ s,_,_,upd g.G b (l++news),Q8,key _ _ (by rw[hv,hxv];exact hr),?_,?_,hmore,?_,⟨h0,.inr ⟨b,cap,_,l++news,by rw[VD],hBb,hset,by rw[VD];exact hroom,hcm,?_,upd_same _ _ _,hcatl,hcatE _ hmore⟩⟩,?_⟩
      ·exact⟨rfl,rfl,rfl,by simp,fun k _ hk=>setRow_other w b k _ (fun ek=>hk (by rw[hv,ek];rfl))⟩
      ·intro k hk hne2
       exact gH _ _ _ _ (fun ek=>hne2 (by rw[hv,ek];rfl))
      ·intro k m hk
       by_cases ek:k=b
       ·subst ek
        rw[upd_same] at hk;simp only[Option.some.injEq] at hk;subst hk;exact⟨_,e,(0,0),hset,by rw[List.append_assoc,←List.append_assoc l,List.take_left]⟩
       ·rw[gH _ _ _ _ ek] at hk
        obtain⟨c3,e3,f3,hc3,ht3⟩:=hG k m hk;exact⟨c3,e3,f3,by rw[setRow_other w b k _ ek];exact hc3,ht3⟩
      ·simp only[List.size_toArray,List.length_append,List.length_drop,Array.length_toList]
       rw[hl];have h5:(xs.length+ys.length)*sh.length≤cap*sh.length:=Nat.mul_le_mul_right _ hroom;rw[Nat.add_mul] at h5;have e1:cur.toList.length=cur.size:=by simp
       omega
      ·refine .inl ?_
       rw[hv];rfl
     ·
      have holds: ∀j v,l[j]? =some v→w.cell? ((⟨b,0,none⟩:Addr).add j)=some v:=by
       intro j v hjv;rw[Addr.add_mid,Nat.zero_add];exact jH hG tQ hjv
      have hr:=Rg i zv hi hz hsz hne b xs.length cap l (by rw[hl,hsz]) holds (by omega) (by omega) (growslice_fits (by omega) hbytes);have hge:=grownCap_ge w (xs.length+ys.length) cap e;obtain⟨G',hN,hF⟩:=pU (e:=e) (sh:=sh) (xs:=aX xs ys) (cap:=grownCap w (xs.length+ys.length) cap e) (c:=l.toArray++news.toArray++Builtin.zeroCells zv.cells (grownCap w (xs.length+ys.length) cap e-(xs.length+ys.length)))
       (w':=w.drew.alloc (.cells (l.toArray++news.toArray++Builtin.zeroCells zv.cells (grownCap w (xs.length+ys.length) cap e-(xs.length+ys.length))) e)) hG (fq w _) (fK w _) h0 (by rw[VD];exact hge) (gJ (by omega)) (by
        simp only[Array.size_append,List.size_toArray,size_zeroCells,hzc,hlen,hl,←Nat.add_mul];congr 1;omega) (by
        simp only[Array.toList_append,←hcatl,List.take_left];exact hcatE _ (.refl _))
      obtain⟨hb,hGs,hGk⟩:=hN;refine⟨ρ s,_,_,G',Q8,key _ _ (by rw[hv,hxv];exact hr),⟨hb.os,hb.tape,hb.output,hb.size,fun k hk _=>hb.block k hk⟩,fun k hk _=>hGs k hk,fun k m hk=>⟨m,by rw[hGs k (eY hG hk)];exact hk,List.prefix_refl _⟩,hGk,⟨hF.1,?_⟩,.inr ?_⟩
      ·rcases hF.2 with⟨hF,_⟩|⟨b',cap',cur',l',hv',hBb',rest⟩
       ·cases hF
       ·rw[VD] at hv'
        exact .inr ⟨b',cap',cur',l',by rw[VD];exact hv',⟨hB.2 _ hBb',fun _=>Nat.le_trans hB.1 hBb'⟩,rest⟩
      ·intro k hk
       simp[Value.ownBlock] at hk;omega
 ·cases h
theorem M6 {s x:Operand} {S:V} {eff:Eff} {t u:TypeId} {e:Nat} {sh:List Kd} {z:V} {ys:List V} {xv:Value} {news:List Value} (hne:ys≠[]) (hxv:ρ x=xv) (hel:elemOf P t=some (e,sh,z))
  (key: ∀v w',(Builtin.append_ #[t,u] o.type #[ρ s,ρ x]).run P w=.ok v w'→(execOp ρ o).run P w=.ok (.value v) w') (hG:ze g.G w) (hO:NP B g w) (hB:B.n≤w.heap.size∧ ∀b,w.heap.size≤b→B.m b)
  (hs:aM g S (ρ s)) (hE:cK g.G sh ys news) (hlen:news.length=ys.length*sh.length)
  (Rn: ∀i zv,P.info? e=some i→i.zero=some zv→ys≠[]→ys.length*i.bytes≤281474976710656→ys.length≤16777216→(Builtin.append_ #[t,u] o.type #[.slice none 0 0,xv]).run P w=.ok (.slice (some ⟨w.heap.size,0,none⟩) ys.length (grownCap w ys.length 0 e)) (w.drew.alloc (.cells (news.toArray++Builtin.zeroCells zv.cells (grownCap w ys.length 0 e-ys.length)) e)))
  (Rr: ∀i,P.info? e=some i→i.size=sh.length→ys≠[]→ ∀b sLen sCap (cur:Array Value),w.heap[b]? =some (.cells cur e (0,0))→sLen+ys.length≤sCap→sLen*sh.length+news.length≤cur.size→(Builtin.append_ #[t,u] o.type #[.slice (some ⟨b,0,none⟩) sLen sCap,xv]).run P w=.ok (.slice (some ⟨b,0,none⟩) (sLen+ys.length) sCap) (w.setRow b (cur.toList.take (sLen*sh.length)++news++cur.toList.drop (sLen*sh.length+news.length)).toArray))
  (Rg: ∀i zv,P.info? e=some i→i.zero=some zv→i.size=sh.length→ys≠[]→ ∀b sLen sCap (l:List Value),l.length=sLen*i.size→(∀j v,l[j]? =some v→w.cell? ((⟨b,0,none⟩:Addr).add j)=some v)→sCap<sLen+ys.length→sLen+ys.length≤16777216→Builtin.nextslicecap (sLen+ys.length) sCap*i.bytes≤281474976710656→
   (Builtin.append_ #[t,u] o.type #[.slice (some ⟨b,0,none⟩) sLen sCap,xv]).run P w=.ok (.slice (some ⟨w.heap.size,0,none⟩) (sLen+ys.length) (grownCap w (sLen+ys.length) sCap e)) (w.drew.alloc (.cells (l.toArray++news.toArray++Builtin.zeroCells zv.cells (grownCap w (sLen+ys.length) sCap e-(sLen+ys.length))) e)))
  (h:(match S with
     | .nilsl=>some (Gb ys,Jb e sh ys)
     | .sl e' sh' (some L) xs=>bif e==e'&&Kd.tO sh sh' then some (dR xs ys,Eff.app L e sh (aX xs ys)) else none
     | .slz L e' sh' xs _ _ _ _ _ _=>match Ym sh 0 with
      |some (c,e2,bK)=>bif e==e'&&Kd.tO sh sh'&&Vy c ys then some (dR xs ys,.appz L e sh (aX xs ys) (ax xs) c e2 bK) else none
      |none=>none
     |_=>none)=some (true,eff)):Does P ρ o B w g bx eff:=by
 have core:=fun h=>xQ (S:=S) (eff:=eff) (bx:=bx) hxv hel key hG hO hB hs (fun _=>hE) (fun _=>hlen) (fun h=>absurd h hne) Rn Rr Rg h
 obtain⟨_,_,_,_,_,_,_,_,h0,_⟩:=iP hel;split at h
 ·cases hz:Ym sh 0 with
  |none=>
   have e1:Jb e sh ys=.own e sh ys:=by unfold Jb;rw[hz]
   rw[e1] at h;exact core h
  |some p=>
   obtain⟨c,e2,bK⟩:=p;obtain⟨_,hk,_,hk0,_⟩:=BF _ _ _ _ _ hz
   cases h1:Vy c ys with
   |false=>
    have e1:Jb e sh ys=.own e sh ys:=by unfold Jb;rw[hz];simp only;rw[h1];rfl
    rw[e1] at h;exact core h
   |true=>
    have e1:Jb e sh ys=.ownz e sh ys c e2 bK:=by unfold Jb;rw[hz];simp only;rw[h1];rfl
    rw[e1] at h;simp only[Option.some.injEq,Prod.mk.injEq] at h;obtain⟨hle,rfl⟩:=h;obtain⟨k1,k2,k3⟩:=OJ (G':=g.G) h1 hE;obtain⟨u,w',r1,r2,r3⟩:=V4 hxv hel key hG hs hne hlen (of_decide_eq_true hle) Rn;have hcl:c<sh.length:=by rw[Nat.sub_zero] at hk;exact(List.getElem?_eq_some_iff.1 hk).1
    exact⟨u,w',news,r1,r2,r3,hE,hk0,fun y hy=>k3 hcl y hy⟩
 ·exact core h
 ·rename_i L e' sh' xs o2 i c' e2' mU ys'
  split at h
  ·rename_i c e2 bK hz
   obtain⟨hc,h9⟩:=aF h;clear h;simp only[Bool.and_eq_true,beq_iff_eq] at hc;obtain⟨⟨rfl,hsh⟩,h1⟩:=hc;obtain rfl:=Kd.bL _ _ hsh;simp only[Option.some.injEq,Prod.mk.injEq] at h9;obtain⟨hle,rfl⟩:=h9;obtain⟨l,hO1,hC1,hz1,_⟩:=ou.1 hs;obtain⟨k1,k2,k3⟩:=OJ (G':=g.G) h1 hE;obtain⟨_,hk,_,hk0,_⟩:=BF _ _ _ _ _ hz;have hcl:c<sh.length:=by rw[Nat.sub_zero] at hk;exact(List.getElem?_eq_some_iff.1 hk).1
   obtain⟨u,w',r1,r2,r3,r4,r5⟩:=V5 hxv hel key hG hO hB hO1 hC1 hz1 hne hlen (of_decide_eq_true hle) Rn Rr Rg;have hlc:(aX xs ys).length=xs.length+ys.length:=by unfold aX;simp
   refine⟨ρ s,u,w',l++news,hO1,r1,r2,r3,by rw[hlc];exact r4,xP xs ys l news hz1.2.2 hE hz1.2.1,r5,hk0,fun y _ hy=>?_⟩;have e3:(ax xs).toNat=xs.length:=by unfold ax;omega
   rw[e3,←hz1.2.1,List.getElem?_append_right (by omega),Nat.add_sub_cancel_left] at hy;exact k3 hcl y hy
  ·cases h
 ·cases h
theorem zx {G:aQ}: ∀l:List UInt8,cK G [.int .u8] (aZ l) (Lib.strCells ⟨l.toArray⟩)
 |[]=>iZ
 |c::l=>by
  have ih:=zx (G:=G) l;unfold Lib.strCells aZ at ih⊢;simp only[List.map_cons] at ih⊢;unfold cK;exact⟨rfl,⟨.int .u8 c.toNat,by unfold aP;rfl,rfl⟩,ih⟩
theorem M7 {c:Call} {s x:Operand} {S X:V} {eff:Eff} (ho:o.op=.call c) (hc:c.callee=.builtin .append) (ha:c.args.toList=[s,x]) (hG:ze g.G w) (hO:NP B g w) (hB:B.n≤w.heap.size∧ ∀b,w.heap.size≤b→B.m b)
  (hs:aM g S (ρ s)) (hx:aM g X (ρ x)) (h:Ms P c.argTypes.toList S X=some (true,eff)):Does P ρ o B w g bx eff:=by
 obtain⟨callee,args,argTypes⟩:=c;simp only at hc ha h;subst hc;obtain rfl:args= #[s,x]:=by rw[←Array.toList_inj];simpa using ha
 unfold Ms at h;split at h
 ·rename_i t u htu
  obtain rfl:argTypes= #[t,u]:=by rw[←Array.toList_inj];simpa using htu
  have key: ∀v w',(Builtin.append_ #[t,u] o.type #[ρ s,ρ x]).run P w=.ok v w'→(execOp ρ o).run P w=.ok (.value v) w':=by
   intro v w' hu;simp[execOp,ho,resolve,invoke,builtin,hu]
  split at h
  ·cases h
  ·rename_i e sh z hel
   obtain⟨hu,i,zv,hi,hz,_,_,hsz,h0,hzc,hby,hfit⟩:=iP hel;have hsT:dD P e=some sh.length:=by unfold dD;rw[hi];simp[hsz]
   cases htu:t==u with
   |true=>
    rw[htu,cond_true] at h;obtain rfl:t=u:=by simpa using htu
    split at h
    ·cases h
    ·rename_i ys hty
     obtain⟨q,cY,hxv,hrow⟩:=aaF hx hty;have hnews:ys≠[]→ ∃b off l,q=some ⟨b,off,none⟩∧g.G b=some l∧cK g.G sh ys ((l.drop off).take (ys.length*sh.length))∧((l.drop off).take (ys.length*sh.length)).length=ys.length*sh.length∧
       (∀j v,((l.drop off).take (ys.length*sh.length))[j]? =some v→w.cell? ((⟨b,off,none⟩:Addr).add j)=some v)∧ ∀v∈(l.drop off).take (ys.length*sh.length),v.oneCell'=true:=by
      intro hne;rcases hrow with hrow|⟨b,off,l,rfl,hl,hE⟩
      ·exact absurd hrow hne
      ·obtain⟨k1,k2⟩:=Ar _ _ hE
       refine⟨b,off,l,rfl,hl,k2,by rw[List.length_take];omega,fun j v hv=>?_,OD _ _ hE⟩;rw[Addr.add_mid];rw[List.getElem?_take] at hv;split at hv
       ·rw[List.getElem?_drop] at hv;exact jH hG hl hv
       ·cases hv
     by_cases hne:ys=[]
     ·subst hne
      refine xQ (news:=[]) hxv hel key hG hO hB hs (fun h=>absurd rfl h) (fun h=>absurd rfl h) (fun _ p len cap hle=>IU hu hsT hle) (fun _ _ _ _ h=>absurd rfl h) (fun _ _ _ h=>absurd rfl h) (fun _ _ _ _ _ h=>absurd rfl h) ?_;have e1:Jb e sh []=.own e sh []:=by
       unfold Jb;split
       ·rfl
       ·rfl
      rw[e1] at h;split at h
      ·exact h
      ·exact h
      ·split at h
       ·have:=(aF h).1
        rw[Bool.and_eq_true] at this
        cases this.2
       ·cases h
      ·cases h
     ·obtain⟨b,off,l,rfl,hl,hE,hlen,hcell,hone⟩:=hnews hne
      generalize hcells:(l.drop off).take (ys.length*sh.length)=news at*;have hpos:0<ys.length:=List.length_pos_iff.2 hne;refine M6 (news:=news) hne hxv hel key hG hO hB hs hE hlen (fun i' zv' hi' hz' _ h48 h24=>?_) (fun i' hi' hs' _ b' sLen sCap cur hb' hroom Ul=>?_) (fun i' zv' hi' hz' hs' _ b' sLen sCap l' hl' hold hgt h24 h48=>?_) h
      ·exact run_append_nil (P:=P) w t o.type e i' zv' hu hi' hz' ⟨b,off,none⟩ ys.length cY news (by
        rw[hi] at hi';simp only[Option.some.injEq] at hi';rw[hlen,←hi',hsz]) hcell hpos (by omega) h48
      ·have:=run_append_room (P:=P) w t o.type e i' hu hi' b' sLen sCap cur hb' ⟨b,off,none⟩ ys.length cY news (by rw[hlen,hs']) hcell hone hroom (by rw[hs'];exact Ul)
       rw[hs'] at this;exact this
      ·exact run_append_grow (P:=P) w t o.type e i' zv' hu hi' hz' ⟨b',0,none⟩ sLen sCap l' hl' hold ⟨b,off,none⟩ ys.length cY news (by rw[hlen,hs']) hcell hgt (by omega) h48
   |false=>
    rw[htu,cond_false] at h;split at h
    ·rename_i l hsu _
     have hxv:=gT.1 hx;have hcl:(Lib.strCells ⟨l.toArray⟩).length=l.length:=by rw[Lib.strCells_length];simp[ByteArray.size]
     have hsz1:(⟨l.toArray⟩:ByteArray).size=l.length:=by simp[ByteArray.size]
     have hbl:(aZ l).length=l.length:=by simp[aZ]
     have hE:cK g.G [.int .u8] (aZ l) (Lib.strCells ⟨l.toArray⟩):=zx l;refine xQ (news:=Lib.strCells ⟨l.toArray⟩) hxv hel key hG hO hB hs (fun _=>hE) (fun _=>by rw[hcl,hbl];simp) (fun h0' p len cap hle=>?_) (fun i' zv' hi' hz' hne h48 h24=>?_) (fun i' hi' hs' hne b' sLen sCap cur hb' hroom Ul=>?_) (fun i' zv' hi' hz' hs' hne b' sLen sCap l' hl' hold hgt h24 h48=>?_) h
     ·have hl0:l=[]:=by
       have:=congrArg List.length h0';rw[hbl] at this;exact List.eq_nil_of_length_eq_zero this
      subst hl0;have hf: ∀w,(Builtin.firstCells 1 0 (.string ⟨#[]⟩)).run P w=.ok #[] w:=fun w=>by simp[Builtin.firstCells]
      have hsT1:dD P e=some 1:=hsT
      cases p<;>simp[Builtin.append_,run_underlying hu,run_underlying hsu,dM hsT1,Builtin.lenOf,hle,hf,storeCells,ByteArray.size]
     ·rw[hbl] at h48 h24⊢
      have hne':l.length≠0:=fun e=>hne (by rw[List.eq_nil_of_length_eq_zero e];rfl)
      have hf:=Lib.run_firstCells_string (P:=P) w.drew 1 ⟨l.toArray⟩;rw[hsz1] at hf;have h63': ¬(9223372036854775807<(l.length:Int)):=by omega
      have h48': ¬(281474976710656<Builtin.nextslicecap l.length 0*i'.bytes):=by rw[nextslicecap_zero (by omega)];omega
      have hs1:i'.size=1:=by
       rw[hi] at hi';simp only[Option.some.injEq] at hi';rw[←hi',hsz];rfl
      simp[Builtin.append_,run_underlying hu,run_underlying hsu,Go.sizeOf,typeInfo,zeroValue,hi',hz',hs1,Builtin.lenOf,hne',h63',h48',Question.forced,run_firstCells_none,hf,newRow,grownCap,hsz1]
     ·have hs1:i'.size=1:=hs'
      have:=Lib.run_append_room_string (P:=P) w t u o.type e i' hu hsu hi' hs1 b' sLen sCap cur hb' ⟨l.toArray⟩ (by rw[hsz1,←hbl];exact hroom) (by rw[hsz1];rw[hcl] at Ul;simpa using Ul);rw[hsz1] at this;rw[hbl,hcl];simpa using this
     ·have:=Lib.run_append_grow_string (P:=P) w t u o.type e i' zv' hu hsu hi' hz' ⟨b',0,none⟩ sLen sCap l' hl' hold ⟨l.toArray⟩ (by rw[hsz1,←hbl];exact hgt) (by rw[hsz1];rw[hbl] at h24;omega) (by rw[hsz1,←hbl];exact h48)
      rw[hsz1] at this;rw[hbl];exact this
    ·cases h
 ·cases h
end
section
variable {P:Program} {ρ:Operand→Value} {o:Oper} {B:Own} {w:World} {g:Gh} {bx:List (Nat×List V)} {E:Env} {fr:List V} {ac:Act} {r:Operand→V}
theorem aaG {G:aQ} {sh:List Kd} {y v:V} {uy u:Value} {off:Nat} (ho:DZ sh off v=true) (h1v:v.cells=[v]) (h1u:u.cells= #[u]) (hf:gM sh y=true) (hy:aP G y uy) (hv:aP G v u):gM sh (y9 sh y off v)=true∧ ∃z,aP G (y9 sh y off v) z∧uy.cells.toList.set off u=z.cells.toList:=by
 unfold DZ at ho
 cases hk:sh[off]? with
 |none=>rw[hk] at ho;cases ho
 |some k=>
  rw[hk] at ho;have ho:fits k v=true:=ho;have hlen:=qh hf hy;by_cases h1: ∃q,sh=[q]
  ·obtain⟨q,rfl⟩:=h1
   have h0:off=0:=by
    have:=(List.getElem?_eq_some_iff.1 hk).1;simpa using this
   subst h0;have hkq:q=k:=by simpa using hk
   subst hkq;obtain⟨u1,hu1⟩: ∃u1,uy.cells.toList=[u1]:=List.length_eq_one_iff.1 (by simpa using hlen);rw[hu1];refine⟨?_,u,hv,by rw[h1u];rfl⟩;show fV [q] v.cells=true;rw[h1v];simp only[fV,ho,av]
  ·have hoff:=(List.getElem?_eq_some_iff.1 hk).1
   have h2:2≤sh.length:=by
    match sh,h1,hoff with
    |[],_,h=>simp at h
    |[q],h1,_=>exact absurd ⟨q,rfl⟩ h1
    |_::_::_,_,_=>simp
   obtain⟨cs,rfl⟩:=UG hf h2;have e:y9 sh (.agg cs) off v=.agg (cs.set off v):=by
    match sh,h1 with
    |[],_=>rfl
    |[q],h1=>exact absurd ⟨q,rfl⟩ h1
    |_::_::_,_=>rfl
   rw[e];unfold aP at hy;obtain⟨as,rfl,hy⟩:=hy;refine⟨Di ho sh cs off hk hf,.agg (as.set off u).toArray,?_,by simp[Value.cells]⟩;unfold aP;exact⟨_,rfl,G5 hv cs as off hy⟩
theorem Ii {G:aQ} {sh:List Kd} {v:V} {u:Value} {off:Nat} (ho:DZ sh off v=true) (h1v:v.cells=[v]) (h1u:u.cells= #[u]) (hoff:off<sh.length) (hv:aP G v u): ∀(xs:List V) (l:List Value) (i:Nat),cK G sh xs l→i<xs.length→cK G sh (xs.set i (y9 sh (xs.getD i .any) off v)) (l.set (i*sh.length+off) u)
 |[],_,_,_,h=>by simp at h
 |y::xs,l,i,h,hi=>by
  unfold cK at h;obtain⟨hf,⟨uy,huy,hc⟩,ht⟩:=h
  cases i with
  |zero=>
   obtain⟨h1,z,h2,h3⟩:=aaG ho h1v h1u hf huy hv;show cK G sh (y9 sh y off v::xs) (l.set (0*sh.length+off) u);rw[Nat.zero_mul,Nat.zero_add];unfold cK;refine⟨h1,⟨z,h2,?_⟩,?_⟩
   ·rw[List.take_set,hc,h3]
   ·rw[List.drop_set_of_lt hoff];exact ht
  |succ i=>
   show cK G sh (y::xs.set i (y9 sh (xs.getD i .any) off v)) (l.set ((i+1)*sh.length+off) u);unfold cK;have e1:(i+1)*sh.length+off=sh.length+(i*sh.length+off):=by rw[Nat.succ_mul];omega
   refine⟨hf,⟨uy,huy,?_⟩,?_⟩
   ·rw[List.take_set_of_le (by omega)];exact hc
   ·have:(l.set ((i+1)*sh.length+off) u).drop sh.length=(l.drop sh.length).set (i*sh.length+off) u:=by
     rw[List.drop_set,if_neg (by omega),show(i+1)*sh.length+off-sh.length=i*sh.length+off by omega]
    rw[this];exact Ii ho h1v h1u hoff hv xs _ i ht (by simpa using hi)
theorem Eb {L off:Nat} {x:Int×Nat×Nat×List Kd×List V}: ∀(cs:List V),CL L off cs=some x→ ∃e sh xs,V.slz L e sh xs (some x.2.1) x.1 off x.2.2.1 x.2.2.2.1 x.2.2.2.2∈cs∧off<sh.length
 |[],h=>by cases h
 |v::l,h=>by
  have next:CL L off l=some x→ ∃e sh xs,V.slz L e sh xs (some x.2.1) x.1 off x.2.2.1 x.2.2.2.1 x.2.2.2.2∈v::l∧off<sh.length:=fun h=>by
   obtain⟨e,sh,xs,h1,h2⟩:=Eb l h;exact⟨e,sh,xs,List.mem_cons_of_mem _ h1,h2⟩
  cases v with
  |slz L' e sh xs o2 i c e2 bK ys=>
   cases o2 with
   |none=>exact next h
   |some L2=>
    have h:(bif (L==L'&&c==off)&&Nat.blt off sh.length then some (i,L2,e2,bK,ys) else CL L off l)=some x:=h
    cases hc:(L==L'&&c==off)&&Nat.blt off sh.length with
    |false=>rw[hc] at h;exact next h
    |true=>
     rw[hc,cond_true] at h;simp only[Option.some.injEq] at h;subst h;simp only[Bool.and_eq_true,beq_iff_eq,Nat.blt_eq] at hc;obtain⟨⟨rfl,rfl⟩,h3⟩:=hc;exact⟨e,sh,xs,List.mem_cons_self,h3⟩
  |_=>exact next h
theorem Sz {L off:Nat} {x:Int×Nat×Nat×List Kd×List V} (h:Ud L off bx=some x): ∃k cs e sh xs,ay bx k=some cs∧V.slz L e sh xs (some x.2.1) x.1 off x.2.2.1 x.2.2.2.1 x.2.2.2.2∈cs∧off<sh.length:=by
 unfold Ud at h;have key: ∀(l:List (Nat×List V)),Gp bx L off l=some x→ ∃k cs e sh xs,ay bx k=some cs∧V.slz L e sh xs (some x.2.1) x.1 off x.2.2.1 x.2.2.2.1 x.2.2.2.2∈cs∧off<sh.length:=by
  intro l;induction l with
  |nil=>intro h;cases h
  |cons p l ih=>
   intro h;obtain⟨k,ds⟩:=p;unfold Gp at h;split at h
   ·rename_i cs hcs
    split at h
    ·rename_i y hy
     simp only[Option.some.injEq] at h;subst h;obtain⟨e,sh,xs,h1,h2⟩:=Eb cs hy;exact⟨k,cs,e,sh,xs,hcs,h1,h2⟩
    ·exact ih h
   ·exact ih h
 exact key bx h
theorem Ec {L:Nat} {x:List Kd×List V}: ∀(cs:List V),CO L cs=some x→ ∃e o2 i c e2 bK ys,V.slz L e x.1 x.2 o2 i c e2 bK ys∈cs
 |[],h=>by cases h
 |v::l,h=>by
  have next:CO L l=some x→ ∃e o2 i c e2 bK ys,V.slz L e x.1 x.2 o2 i c e2 bK ys∈v::l:=fun h=>by
   obtain⟨e,o2,i,c,e2,bK,ys,h1⟩:=Ec l h;exact⟨e,o2,i,c,e2,bK,ys,List.mem_cons_of_mem _ h1⟩
  cases v with
  |slz L' e sh xs o2 i c e2 bK ys=>
   have h:(bif L==L' then some (sh,xs) else CO L l)=some x:=h
   cases hc:L==L' with
   |false=>rw[hc] at h;exact next h
   |true=>
    rw[hc,cond_true] at h;simp only[Option.some.injEq] at h;subst h;rw[beq_iff_eq] at hc;subst hc;exact⟨e,o2,i,c,e2,bK,ys,List.mem_cons_self⟩
  |_=>exact next h
theorem SA {L:Nat} {x:List Kd×List V} (h:Ue L bx=some x): ∃k cs e o2 i c e2 bK ys,ay bx k=some cs∧V.slz L e x.1 x.2 o2 i c e2 bK ys∈cs:=by
 unfold Ue at h;have key: ∀(l:List (Nat×List V)),Gq bx L l=some x→ ∃k cs e o2 i c e2 bK ys,ay bx k=some cs∧V.slz L e x.1 x.2 o2 i c e2 bK ys∈cs:=by
  intro l;induction l with
  |nil=>intro h;cases h
  |cons p l ih=>
   intro h;obtain⟨k,ds⟩:=p;unfold Gq at h;split at h
   ·rename_i cs hcs
    split at h
    ·rename_i y hy
     simp only[Option.some.injEq] at h;subst h;obtain⟨e,o2,i,c,e2,bK,ys,h1⟩:=Ec cs hy;exact⟨k,cs,e,o2,i,c,e2,bK,ys,hcs,h1⟩
    ·exact ih h
   ·exact ih h
 exact key bx h
theorem UH (hB:Yo P B g bx w) {k:Nat} {cs:List V} {x:V} (hk:ay bx k=some cs) (hx:x∈cs): ∃v,aM g x v:=by
 obtain⟨b,c,e,_,_,_,hp,_⟩:=hB.1 k cs hk;obtain⟨i,hi⟩:=List.getElem?_of_mem hx;obtain⟨v,_,hv⟩:=hp.get hi;exact⟨v,hv⟩
theorem Y7 (hO:NP B g w) {L e sz b:Nat} {v0:Value} {l:List Value} (h1:g.O L=some (v0,e,sz)) (hC:g.C L=some l) (hb:v0.ownBlock=some b): ∃cur n cap,v0=.slice (some ⟨b,0,none⟩) n cap∧n≤cap∧w.heap[b]? =some (.cells cur e (0,0))∧cur.toList.take l.length=l∧cur.size=cap*sz∧l.length=n*sz∧g.G b=none∧B.ok L b:=by
 rcases(hO.1 L v0 e sz h1).2 with hv|⟨b',n,cap,cur,l',hv,hok,hh,hn,_,hcs,hrow,hl⟩
 ·rw[hv] at hb;cases hb
 ·rw[hv] at hb
  simp only[Value.ownBlock,Option.some.injEq] at hb;subst hb;obtain⟨hG,e9,ht⟩:=hrow.nested hC;subst e9;exact⟨cur,n,cap,hv,hn,hh,ht,hcs,hl,hG,hok⟩
theorem P7 {t:TypeId} {a:Operand} {L e sz:Nat} {i:Int} {off:Nat} {x:Int×Nat×Nat×List Kd×List V} (ho:o.op=.load t a) (hO:NP B g w) (hB:Yo P B g bx w) (ha:aM g (.epz L e sz i off) (ρ a)) (hf:Ud L off bx=some x) (hag:cr P t=some false) (hi:i=x.1):
  Does P ρ o B w g bx (.val (.sl x.2.2.1 x.2.2.2.1 (some x.2.1) x.2.2.2.2)):=by
 have he:execOp ρ o=(do pure (.value (←Instr.loadAt t (ρ a)))):=by simp only[execOp,ho]
 obtain⟨v0,b,l,h1,h2,h3,h4,h5,h6⟩:=qK.1 ha;obtain⟨k,cs,e',sh,xs,k1,k2,k3⟩:=Sz hf;obtain⟨v,hv⟩:=UH hB k1 k2;obtain⟨l',q1,q2,q3,v2,q4,q5,q6⟩:=ou.1 hv;rw[h1] at q1;simp only[Option.some.injEq,Prod.mk.injEq] at q1;obtain⟨rfl,rfl,rfl⟩:=q1;rw[h2] at q2;simp only[Option.some.injEq] at q2;subst q2;subst hi;obtain⟨cur,n,cap,_,_,hh,ht,_⟩:=Y7 hO h1 h2 h5;have hlt:x.1.toNat*sh.length+off<l.length:=by omega
 have hu:l[x.1.toNat*sh.length+off]? =some l[x.1.toNat*sh.length+off]:=List.getElem?_eq_getElem hlt;have e1:=q6 _ h3 hu;have hc:=Km hh ht hu;rw[Addr.add_mid,Nat.zero_add] at hc;refine bC he (u:=v2) ?_ ⟨q4,q5⟩;rw[h6,←e1];exact GY hag hc
theorem M8 {t:TypeId} {a y:Operand} {L e sz:Nat} {i:Int} {off:Nat} {sh:List Kd} {xs:List V} {e2:Nat} {bK:List Kd} {L3:Nat} {ys:List V} (ho:o.op=.store t a y) (hO:NP B g w) (hB:Yo P B g bx w) (hE: ∀y,aM g (r y) (ac.eval y)) (ha:r a=.epz L e sz i off) (hx:r y=.sl e2 bK (some L3) ys)
  (hf:Ue L bx=some (sh,xs)) (hs:dD P t=some 1) (hsz:sh.length=sz) {c e2':Nat} {mU:List Kd} (hz:Ym sh 0=some (c,e2',mU)) (hc:c=off) (he2:e2=e2') (hsh2:Kd.tO bK mU=true):
  Does P ac.eval o B w g bx (.F3 L e sh (sP xs i (y9 sh (aY xs i) off (.sl e2 bK none ys))) i off L3 e2 bK ys):=by
 subst hc;subst he2;obtain⟨_,hk,_⟩:=BF _ _ _ _ _ hz;rw[Nat.sub_zero] at hk;have hoff:=(List.getElem?_eq_some_iff.1 hk).1;have hpa:=hE a;rw[ha] at hpa;obtain⟨v0,b,l,h1,h2,h3,h4,h5,h6⟩:=qK.1 hpa;obtain⟨k,cs,e',o2,i',c',e2'',sh2'',ys'',k1,k2⟩:=SA hf;obtain⟨v,hv⟩:=UH hB k1 k2;obtain⟨l',q1,q2,q3,_⟩:=ou.1 hv;rw[h1] at q1;simp only[Option.some.injEq,Prod.mk.injEq] at q1;obtain⟨rfl,rfl,e9⟩:=q1;rw[h2] at q2;simp only[Option.some.injEq] at q2;subst q2;have q3:zG g sh xs v0 l:=q3;subst hsz;have hpy:=hE y;rw[hx] at hpy;obtain⟨p1,p2⟩:=hpy;obtain⟨cur,n,cap,hv0,hn,hh,ht,hcs,hln,_⟩:=Y7 hO h1 h2 h5;have hlt:i.toNat*sh.length+c<l.length:=by omega
 have hr:=mo (e:=e2) (o:=none) p2;have hone:(ac.eval y).cells= #[ac.eval y]∧(ac.eval y).oneCell'=true:=by
  unfold aP at hr;obtain⟨p,cp,hq,_⟩:=hr;rw[hq];exact⟨rfl,rfl⟩
 have hil:i.toNat<xs.length:=by
  have h8:=q3.2.1;rw[h8] at h4;refine Nat.lt_of_not_le fun hle=>?_
  have h9:=Nat.mul_le_mul_right sh.length hle;omega
 have hfit:DZ sh c (.sl e2 bK none ys)=true:=by
  unfold DZ;rw[hk];show(e2==e2&&Kd.tO mU bK)=true;have:=Kd.bL _ _ hsh2;subst this;rw[hsh2];simp
 refine⟨v0,b,cur,l,ac.eval y,h1,h2,h5,hh,hlt,hone.2,⟨?_,by rw[List.length_set,q3.2.1];unfold sP;rw[List.length_set],?_⟩,p1,p2,?_⟩
 ·rcases q3.1 with⟨h8,h9⟩|⟨b',cp,h8⟩
  ·rw[h9] at hil;simp at hil
  ·exact .inr ⟨b',cp,by rw[h8];unfold sP;rw[List.length_set]⟩
 ·unfold sP aY
  exact Ii hfit rfl hone.1 hoff hr xs l i.toNat q3.2.2 hil
 ·have hbd:i.toNat*sh.length+c+1≤cur.size:=by
   have h7:n*sh.length≤cap*sh.length:=Nat.mul_le_mul_right _ hn;omega
  have hcl:(ac.eval y).cells.toList=[ac.eval y]:=by rw[hone.1]
  have hst:=run_storeCells_at P b (i.toNat*sh.length+c) e [ac.eval y] 0 cur w hh (by simpa using hbd) (by intro z hz';rw[List.mem_singleton] at hz';rw[hz'];exact hone.2);simp only[Nat.add_zero] at hst;obtain⟨ii,hii,hin⟩:=lI hs;have hsz1:(ac.eval y).cells.size=1:=by rw[hone.1];rfl
  simp[execOp,ho,h6,Instr.storeAt,Instr.sureAddr,storeVar,Go.sizeOf,typeInfo,hii,hsz1,hin,hcl] at hst⊢;rw[hst];rfl
theorem SB {k:Nat} {v x:V} (h:Uf k v=some x): ∃n,Nat.blt n.toNat zP=true∧v=.fn BM [.int .i64 n,.box k 0]∧x=.int .i64 n:=by
 unfold Uf at h;split at h
 ·rename_i f n k'
  obtain⟨h1,h2⟩:=aF h;simp only[Bool.and_eq_true,beq_iff_eq] at h1;obtain⟨⟨rfl,rfl⟩,h4⟩:=h1;simp only[Option.some.injEq] at h2;exact⟨n,h4,rfl,h2.symm⟩
 ·cases h
theorem Ed {k:Nat}: ∀(vs xs:List V),Gr k vs=some xs→xs.length=vs.length∧ ∀(j:Nat) v x,vs[j]? =some v→xs[j]? =some x→Uf k v=some x
 |[],xs,h=>by
  simp only[Gr,Option.some.injEq] at h;subst h;exact⟨rfl,fun j v x hv=>by simp at hv⟩
 |v::vs,xs,h=>by
  unfold Gr at h;split at h
  ·rename_i x l hx hl
   simp only[Option.some.injEq] at h;subst h;obtain⟨h1,h2⟩:=Ed vs l hl;refine⟨by simp[h1],fun j v' x' hv hx'=>?_⟩
   cases j with
   |zero=>simp only[List.getElem?_cons_zero,Option.some.injEq] at hv hx';rw[←hv,←hx'];exact hx
   |succ j=>exact h2 j v' x' (by simpa using hv) (by simpa using hx')
  ·cases h
theorem SC {t:TypeId} {parts:Array (Nat×Operand)} {vs:List V} (ho:o.op=.build t parts) (hE: ∀y,aM g (r y) (ac.eval y))
  (h:arrC P t (parts.toList.map fun(i,x)=>(i,r x))=some vs):Does P ac.eval o B w g bx (.val (.fn AM vs)):=by
 have he:execOp ac.eval o=(do pure (.value (←Instr.build t (parts.map fun(i,x)=>(i,ac.eval x))))):=by simp only[execOp,ho]
 unfold arrC at h;split at h
 ·rename_i i n e hi hu
  split at h
  ·rename_i z m hz hs
   obtain⟨hc,h9⟩:=aF h;clear h;simp only[Bool.and_eq_true,beq_iff_eq] at hc;obtain⟨⟨⟨⟨rfl,hzs⟩,hnl⟩,hn0⟩,hseq⟩:=hc;have hn0:0<n:=by simpa[Nat.blt_eq] using hn0
   rw[List.length_map,Array.length_toList] at hnl;split at h9
   ·rename_i i0 f0 k rest hp
    split at h9
    ·rename_i l hl
     simp only[Option.some.injEq] at h9;subst h9;obtain⟨l1,l2⟩:=Ed _ _ hl;have hmm:((parts.toList.map fun(i,x)=>(i,r x)).map fun p=>p.2)=parts.toList.map fun p=>r p.2:=by simp
     rw[hmm] at l1 l2;have hparts:parts.toList≠[]:=fun e=>by
      have:=congrArg List.length e;rw[Array.length_toList,List.length_nil] at this;omega
     obtain⟨q,hq⟩: ∃q,parts.toList[0]? =some q:=by
      cases hpl:parts.toList with
      |nil=>exact absurd hpl hparts
      |cons q l=>exact⟨q,rfl⟩
     have hall: ∀(j:Nat) (p:Nat×Operand),parts.toList[j]? =some p→ ∃(n:Int) (pv:Value),l[j]? =some (.int .i64 n)∧bM g (.box k 0) pv∧ac.eval p.2=.func (.func n.toNat) #[pv] #[]:=by
      intro j p hj;have hjl:j<l.length:=by rw[l1,List.length_map];exact(List.getElem?_eq_some_iff.1 hj).1
      have hb:=l2 j (r p.2) l[j] (by rw[List.getElem?_map,hj];rfl) (List.getElem?_eq_getElem hjl);obtain⟨f,hf,hr,hx⟩:=SB hb;have h5:=hE p.2;rw[hr] at h5;obtain⟨a,ha,hpw⟩:=h5;obtain⟨iv,t',rfl,h6',h7⟩:=hpw.cons_inv;obtain⟨pv,t',rfl,h6,h7⟩:=h7.cons_inv;obtain rfl:=h7.cZ;have h6':iv=.int .i64 f:=by have h6':aP g.G (.int .i64 f) iv:=h6';unfold aP at h6';exact h6'
      subst h6';exact⟨f,pv,by rw[List.getElem?_eq_getElem hjl,hx],h6,ha⟩
     obtain⟨f1,pv,_,hpv,_⟩:=hall 0 q hq;have hsame: ∀pv',bM g (.box k 0) pv'→pv'=pv:=fun pv' h'=>by
      obtain⟨b1,e1,rfl⟩:=h';obtain⟨b2,e2,rfl⟩:=hpv;rw[e1] at e2;simp only[Option.some.injEq] at e2;rw[e2]
     have Y4:Instr.fill (fun i=>some (i*1,1)) z (parts.toList.map fun p=>(p.1,ac.eval p.2))=some (parts.toList.map fun p=>ac.eval p.2).toArray:=by
      rw[G4 _ 0 z (fun j p hp=>?_) (by rw[Nat.zero_add,List.length_map,Array.length_toList];omega)]
      ·simp
      ·simp only[List.getElem?_map] at hp
       cases hj:parts.toList[j]? with
       |none=>rw[hj] at hp;cases hp
       |some q=>
        rw[hj] at hp;simp only[Option.map_some,Option.some.injEq] at hp;subst hp;have h1:=Dg _ 0 hseq j (q.1,r q.2) (by rw[List.getElem?_map,hj];rfl);obtain⟨f,pv',_,_,h7⟩:=hall j q hj;exact⟨h1,by simp only;rw[h7];rfl⟩
     have hval:(parts.toList.map fun p=>ac.eval p.2)=(l.map fun x=>match x with| .int _ n=>Value.int .i64 n|_=>undef).map (Oq pv):=by
      apply List.ext_getElem?
      intro j;rw[List.getElem?_map,List.getElem?_map,List.getElem?_map]
      cases hj:parts.toList[j]? with
      |none=>
       have:l.length≤j:=by rw[l1,List.length_map];exact List.getElem?_eq_none_iff.1 hj
       rw[List.getElem?_eq_none this];rfl
      |some p=>
       obtain⟨f,pv',h6,h7,h8⟩:=hall j p hj;rw[h6];simp only[Option.map_some];rw[h8,hsame pv' h7];rfl
     refine bC he (u:=.agg (parts.toList.map fun p=>ac.eval p.2).toArray) ?_ ⟨pv::(l.map fun x=>match x with| .int _ n=>Value.int .i64 n|_=>undef),?_,.cons hpv ⟨by simp,fun j x v hx hv=>?_⟩⟩
     ·have hzr:(zeroValue t).run P w=.ok (.agg z) w:=by simp[zeroValue,typeInfo,hi,hz]
      have hpt:(parts.map fun(i,x)=>(i,ac.eval x)).toList=parts.toList.map fun p=>(p.1,ac.eval p.2):=by simp
      simp only[Instr.build,Sem.run_bind,hzr,Result.andThen_ok,run_underlying hu,dM hs,Value.cells,hpt,Y4,Sem.run_pure]
     ·rw[UE,hval]
     ·have hjp:j<parts.toList.length:=by
       have:=(List.getElem?_eq_some_iff.1 hx).1;rw[l1,List.length_map] at this;exact this
      obtain⟨f,pv',h6,_⟩:=hall j _ (List.getElem?_eq_getElem hjp);rw[h6] at hx;simp only[Option.some.injEq] at hx;subst hx;rw[List.getElem?_map,h6] at hv;simp only[Option.map_some,Option.some.injEq] at hv;subst hv;show aP g.G _ _;unfold aP;rfl
    ·cases h9
   ·cases h9
  ·cases h
 ·cases h
end
set_option maxRecDepth 100000
section
variable {P:Program} {ρ:Operand→Value} {o:Oper} {B:Own} {w:World} {g:Gh} {bx:List (Nat×List V)} {E:Env} {fr:List V} {ac:Act}
theorem Ij {G:aQ}: ∀(l:List UInt8) (rest:List Value),cK G [.int .u8] (aZ l) ((l.map fun c=>Value.int .u8 (c.toNat:Int))++rest)
 |[],rest=>iZ
 |c::l,rest=>by
  unfold aZ;rw[List.map_cons,List.map_cons,List.cons_append];unfold cK;refine⟨rfl,⟨.int .u8 (c.toNat:Int),by unfold aP;rfl,rfl⟩,?_⟩;exact Ij l rest
theorem SE {src dst:TypeId} {x:Operand} {X:V} {eff:Eff} (ho:o.op=.convert src dst x) (hG:ze g.G w) (hx:aM g X (ρ x)) (h:YY P src dst X=some (true,eff)):Does P ρ o B w g bx eff:=by
 have he:execOp ρ o=(do pure (.value (←convert src dst (ρ x)))):=by simp only[execOp,ho]
 unfold YY at h;split at h
 ·rename_i k0 k k' n hs hd
  simp only[ok,Option.some.injEq,Prod.mk.injEq,true_and] at h;subst h;rw[dw] at hx;refine bC he (u:=.int k (y8 k n)) ?_ (dw.2 rfl);rw[hx];simp[convert,run_underlying hs,run_underlying hd,Conv.intToInt,y8]
 ·rename_i l hs hd
  simp only[ok,Option.some.injEq,Prod.mk.injEq,true_and] at h;subst h;refine bC he (u:=ρ x) ?_ hx;rw[gT] at hx;rw[hx];simp[convert,run_underlying hs,run_underlying hd]
 ·rename_i e l hs hd
  split at h
  ·rename_i hue
   simp only[Option.some.injEq,Prod.mk.injEq] at h;obtain⟨hle,rfl⟩:=h;have hle:l.length≤1152921504606846976:=of_decide_eq_true hle;rw[gT] at hx;let cap:=grownCap w l.length 0 e
   let cells:Array Value:=((⟨l.toArray⟩:ByteArray).data.map fun b=>Value.int .u8 b.toNat)++Array.replicate (cap-l.length) (.int .u8 0)
   have hge:l.length≤cap:=grownCap_ge w l.length 0 e;have hcells:cells.toList=(l.map fun c=>Value.int .u8 (c.toNat:Int))++List.replicate (cap-l.length) (.int .u8 0):=by
    simp[cells]
   have hnew:=fK w (.cells cells e);have hrun:(convert src dst (ρ x)).run P w=.ok (.slice (some ⟨w.heap.size,0,none⟩) l.length cap) ((w.drew.alloc (.cells cells e)).freeze {block:=w.heap.size,off:=cells.size} 1):=by
    rw[hx];have hsz:(⟨l.toArray⟩:ByteArray).size=l.length:=yw l;have hms:(markStringish ⟨w.heap.size,0,none⟩).run P (w.drew.alloc (.cells cells e))=.ok () ((w.drew.alloc (.cells cells e)).freeze {block:=w.heap.size,off:=cells.size} 1):=by
     have hsh:(w.drew.alloc (.cells cells e)).shape? w.heap.size=some (e,cells.size):=by unfold World.shape?;rw[hnew]
     simp only[markStringish,Sem.run_bind,run_shape,hsh,Result.andThen_ok];rfl
    have hcs:(Conv.stringToBytes e ⟨l.toArray⟩).run P w=.ok (.slice (some ⟨w.heap.size,0,none⟩) l.length cap) ((w.drew.alloc (.cells cells e)).freeze {block:=w.heap.size,off:=cells.size} 1):=by
     unfold Conv.stringToBytes;rw[Sem.run_bind,run_choose,if_neg (by simp[Question.forced])];simp only[Result.andThen_ok,hsz];rw[Sem.run_bind];have hn:(newRow e (Array.map (fun(b:UInt8)=>Value.int .u8 b.toNat) (⟨l.toArray⟩:ByteArray).data++Array.replicate ((Question.appendCap l.length 0 e).cut (w.tape w.drawn (.appendCap l.length 0 e))-l.length) (.int .u8 0))).run P {w with drawn:=w.drawn+1}=.ok ⟨w.heap.size,0,none⟩ (w.drew.alloc (.cells cells e)):=by
      simp only[newRow,Sem.run_bind,run_newObj,Result.andThen_ok,Sem.run_pure];rfl
     rw[hn];simp only[Result.andThen_ok];rw[Sem.run_bind,hms];rfl
    simp only[convert,Sem.run_bind,run_underlying hs,run_underlying hd,Result.andThen_ok,run_underlying hue,hcs]
   obtain⟨f,hf⟩: ∃f:Obj→Obj,(w.drew.alloc (.cells cells e)).freeze {block:=w.heap.size,off:=cells.size} 1={w.drew.alloc (.cells cells e) with heap:=(w.drew.alloc (.cells cells e)).heap.modify w.heap.size f}∧ ∃fr,f (.cells cells e)=.cells cells e fr:=
    ⟨_,by unfold World.freeze;rw[if_neg (by decide)],_,rfl⟩
   obtain⟨hf,fr,hfr⟩:=hf;rw[hf] at hrun;have hB:Below w.heap.size w {w.drew.alloc (.cells cells e) with heap:=(w.drew.alloc (.cells cells e)).heap.modify w.heap.size f}:=by
    have h1:=fq w (.cells cells e);refine⟨h1.os,h1.tape,h1.output,?_,?_⟩
    ·show w.heap.size≤((w.drew.alloc (.cells cells e)).heap.modify w.heap.size f).size
     rw[Array.size_modify];exact h1.size
    ·intro k hk
     show((w.drew.alloc (.cells cells e)).heap.modify w.heap.size f)[k]? =_;rw[Array.getElem?_modify,if_neg (by omega)];exact h1.block k hk
   have hh:({w.drew.alloc (.cells cells e) with heap:=(w.drew.alloc (.cells cells e)).heap.modify w.heap.size f}:World).heap[w.heap.size]? =some (.cells cells e fr):=by
    show((w.drew.alloc (.cells cells e)).heap.modify w.heap.size f)[w.heap.size]? =_;rw[Array.getElem?_modify,if_pos rfl,hnew,Option.map_some,hfr]
   have hcsz:l.length≤cells.size:=by
    have:cells.toList.length=cells.size:=by simp
    rw[←this,hcells];simp
   refine⟨.slice (some ⟨w.heap.size,0,none⟩) l.length cap,_,upd g.G w.heap.size (cells.toList.take l.length),by rw[he];simp only[Sem.run_bind,hrun,Result.andThen_ok,Sem.run_pure],Mw hG hB hh l.length hcsz,?_⟩;unfold aP;refine⟨some ⟨w.heap.size,0,none⟩,cap,by unfold aZ;simp,by unfold aZ;simpa using hge,.inr ⟨w.heap.size,0,_,rfl,upd_same _ _ _,?_⟩⟩;have e1:cells.toList.take l.length=(l.map fun c=>Value.int .u8 (c.toNat:Int)):=by
    rw[hcells,List.take_append_of_le_length (by simp)];exact List.take_of_length_le (by simp)
   rw[e1,List.drop_zero];have:=Ij (G:=upd g.G w.heap.size (l.map fun c=>Value.int .u8 (c.toNat:Int))) l [];rwa [List.append_nil] at this
  ·cases h
 ·rename_i e sh ow xs hs hd
  split at h
  ·rename_i hue
   simp only[ok,Option.some.injEq,Prod.mk.injEq,true_and] at h;subst h;have hr:=lH hx;unfold aP at hr;obtain⟨p,cap,hv,hcap,hr⟩:=hr;refine bC he (u:=.string ⟨(lZ xs).toArray⟩) ?_ (gT.2 rfl);rw[hv];have e0: ∀y:Value,(convert src dst y).run P w=(Conv.bytesToString y).run P w∨True:=fun _=> .inr trivial
   by_cases hne:xs=[]
   ·subst hne
    cases p with
    |none=>simp[convert,run_underlying hs,run_underlying hd,run_underlying hue,Conv.bytesToString,lZ];rfl
    |some a=>
     have hl:(loadCells a 0).run P w=.ok (([]:List Int).map (Value.int .u8)).toArray w:=by simp[loadCells,loadCellsFrom]
     have:=run_bytesToString w a 0 cap [] hl;simp only[List.length_nil];simp[convert,run_underlying hs,run_underlying hd,run_underlying hue,this,lZ];rfl
   ·rcases hr with hr|⟨b,off,l,rfl,hG2,hE⟩
    ·exact absurd hr hne
    ·have hrow:=Dj xs _ hE
     have hl:(loadCells ⟨b,off,none⟩ xs.length).run P w=.ok ((xs.map fun x=>asInt (aD x 0)).map (Value.int .u8)).toArray w:=by
      have:=run_loadCells_list (P:=P) w ⟨b,off,none⟩ ((xs.map fun x=>asInt (aD x 0)).map (Value.int .u8)) (fun j v hv=>by
       rw[←hrow,List.getElem?_take] at hv;split at hv
       ·rw[List.getElem?_drop] at hv
        rw[Addr.add_mid];exact jH hG hG2 hv
       ·cases hv)
      simpa using this
     have h2:=run_bytesToString w ⟨b,off,none⟩ xs.length cap _ hl;rw[fold_push] at h2;simp[convert,run_underlying hs,run_underlying hd,run_underlying hue,h2,lZ]
  ·cases h
 ·rename_i e hs hd
  split at h
  ·rename_i hue
   simp only[ok,Option.some.injEq,Prod.mk.injEq,true_and] at h;subst h;rw[iW] at hx;refine bC he (u:=.string ⟨([]:List UInt8).toArray⟩) ?_ (gT.2 rfl);rw[hx];simp[convert,run_underlying hs,run_underlying hd,run_underlying hue,Conv.bytesToString];rfl
  ·cases h
 ·cases h
theorem zy (hE:vT E) {id:Nat} (hb:jO E.P id=true) (args:Array Value):(callFunc id args).run E.P w=.ok (.enter id args) w:=by
 unfold jO at hb;split at hb
 ·rename_i fn hfn
  have hname:fn.name≠ "runtime.NumGoroutine" :=by
   have:=Array.all_eq_true_iff_forall_mem.1 hE.names fn (Array.mem_of_getElem? hfn);have hbn:fn.body.isNone=false:=by cases hq:fn.body with|none=>rw[hq] at hb;cases hb|some _=>rfl
   rw[hbn] at this;simpa using this
  obtain⟨bd,hbd⟩:=Option.isSome_iff_exists.1 hb;simp[callFunc,hfn,hname,hbd]
 ·cases hb
theorem P8 {r:Operand→V} {f:Operand} {kK:Array Operand} {ZA:Array TypeId} {n:Int} {cs:List V} {a:List Value} {eff:Eff} (ho:o.op=.call ⟨.value f,kK,ZA⟩) (hE:vT E) (hfa:ac.eval f=Jd BM a) (hpa:PW (bM g) (.int .i64 n::cs) a) (hps:PW (aM g) (kK.toList.map r) (kK.toList.map ac.eval))
  (h:(match qC bx 0 (cs++kK.toList.map r) with
   |some (args,mb,ml)=>bif (jO E.P n.toNat&&Nat.blt n.toNat zP)&&qB mb ml then some (true,Eff.call n.toNat args mb ml) else none
   |none=>none)=some (true,eff)):Does E.P ac.eval o B w g bx eff:=by
 split at h
 ·rename_i args mb ml hargs
  have hh:=aF h;clear h;obtain⟨hb,h⟩:=hh;simp only[Bool.and_eq_true] at hb;obtain⟨⟨hb,hfA⟩,hn⟩:=hb;simp only[Option.some.injEq,Prod.mk.injEq,true_and] at h;subst h;obtain⟨iv,a,rfl,h6,hpb⟩:=hpa.cons_inv;have h6:iv=.int .i64 n:=by have h6:aP g.G (.int .i64 n) iv:=h6;unfold aP at h6;exact h6
  subst h6;rw[UD] at hfa;refine⟨a++kK.toList.map ac.eval,cs++kK.toList.map r,?_,(hpb.mono (S:=Lv g) fun _ _ _=> .inr).append (hps.mono (S:=Lv g) fun _ _ _=> .inl),hargs,hn⟩;have e9:a.toArray++Array.map ac.eval kK++ #[]=(a++kK.toList.map ac.eval).toArray:=by rw[←Array.toList_inj];simp
  simp only[execOp,ho,resolve,Deferred.ofValue,hfa,invoke,Sem.run_bind,Sem.run_pure,Result.andThen_ok,zy hE hb,e9]
 ·cases h
theorem Dk (hE:vT E) (hP:E.P=P) (hG:ze g.G w) (hO:NP B g w) (hBx:Yo P B g bx w) (hB:B.n≤w.heap.size∧ ∀b,w.heap.size≤b→B.m b) {r:Operand→V} (hr: ∀y,aM g (r y) (ac.eval y)) {eff:Eff} (h:Q7 P r bx o=some (true,eff)):Does P ac.eval o B w g bx eff:=by
 subst hP;have hok: ∀{v:V} {u:Value},execOp ac.eval o=pure (.value u)→aM g v u→Does E.P ac.eval o B w g bx (.val v):=fun h1 h2=>⟨_,by rw[h1];rfl,h2⟩
 unfold Q7 at h;simp only at h;split at h
 ·
  rename_i x ho;simp only[ok,Option.some.injEq,Prod.mk.injEq,true_and] at h;subst h;exact hok (by simp only[execOp,ho]) (hr x)
 ·
  rename_i x ho;have hx:=hr x;split at h
  ·rename_i hX
   rw[hX,iW] at hx;split at h
   ·rename_i e sh z hel
    simp only[Option.some.injEq,Prod.mk.injEq,true_and] at h;subst h;obtain⟨_,_,_,_,_,_,_,_,h0,_⟩:=iP hel;exact⟨.slice none 0 0,w,g.G,by simp only[execOp,ho,hx];rfl,⟨Below.refl _ _,fun _ _=>rfl,hG⟩,h0,.inl ⟨rfl,rfl⟩⟩
   ·simp only[ok,Option.some.injEq,Prod.mk.injEq,true_and] at h
    subst h;exact hok (by simp only[execOp,ho]) (iW.2 hx)
  ·simp only[ok,Option.some.injEq,Prod.mk.injEq,true_and] at h
   subst h;exact hok (by simp only[execOp,ho]) hx
 ·
  rename_i c x y ho;have hc:=hr c;split at h
  ·rename_i b hb
   simp only[Option.some.injEq,Prod.mk.injEq,true_and] at h;subst h;rw[hb,dG] at hc;refine⟨if b then ac.eval x else ac.eval y,?_,?_⟩
   ·simp only[execOp,ho,hc,Go.asBool,Sem.run_bind,Sem.run_pure,Result.andThen_ok]
   ·cases b
    ·exact hr y
    ·exact hr x
  ·cases h
 ·
  rename_i t ho;split at h
  ·rename_i i hi
   split at h
   ·rename_i z hz
    split at h
    ·rename_i cs hcs
     obtain⟨h,hq⟩:=RJ h;simp only[Option.some.injEq,Prod.mk.injEq,true_and] at h;subst h;exact P5 ho hi hz hcs hq
    ·cases h
   ·cases h
  ·cases h
 ·
  rename_i t x ho;split at h
  ·rename_i cs hcs
   obtain⟨h,hq⟩:=RJ h;simp only[Option.some.injEq,Prod.mk.injEq,true_and] at h;subst h;exact V3 ho hr hcs hq
  ·cases h
 ·rename_i t parts ho
  split at h
  ·rename_i vs hb
   simp only[ok,Option.some.injEq,Prod.mk.injEq,true_and] at h;subst h;exact Ss ho hr hb
  ·split at h
   ·rename_i vs hb
    simp only[ok,Option.some.injEq,Prod.mk.injEq,true_and] at h;subst h;exact SC ho hr hb
   ·exact P4 ho hr h
 ·rename_i t n parts ho
  exact DK ho hG hr h
 ·
  rename_i t a ho;have ha:=hr a;split at h
  ·rename_i sh x off hX
   rw[hX] at ha;exact Ea ho hG ha h
  ·rename_i L e sh xs i off hX
   rw[hX] at ha;exact Ea ho hG (VW ha) h
  ·rename_i L e sz i off hX
   rw[hX] at ha;split at h
   ·rename_i j L2 e2 bK ys hf hag
    simp only[Option.some.injEq,Prod.mk.injEq] at h;obtain⟨hc,rfl⟩:=h;have hij:i=j:=by unfold ieq at hc;simpa using hc
    exact P7 ho hO hBx ha hf hag hij
   ·cases h
  ·rename_i k off hX
   rw[hX] at ha;split at h
   ·rename_i cells hl
    obtain⟨l1,l2⟩:=M0 ho hBx ha hl;split at h
    ·rename_i n hag hs
     split at h
     ·rename_i cs hcs
      simp only[ok,Option.some.injEq,Prod.mk.injEq,true_and] at h;subst h;exact l1 n cs hag hs hcs
     ·cases h
    ·rename_i hag
     have hh:=aF h;obtain⟨h1,h2⟩:=hh;simp only[ok,Option.some.injEq,Prod.mk.injEq,true_and] at h2;subst h2;exact l2 hag (by simpa[Nat.blt_eq] using h1)
    ·cases h
   ·cases h
  ·cases h
 ·
  rename_i t a x ho;split at h
  ·rename_i k off vs hX hv
   split at h
   ·rename_i cells n hl hs
    have hh:=aF h;obtain⟨h1,h2⟩:=hh;simp only[Option.some.injEq,Prod.mk.injEq,true_and] at h2;subst h2;simp only[Bool.and_eq_true,beq_iff_eq] at h1;exact P6 ho hBx hr hX hv hl hs h1.1 (Nat.le_of_ble_eq_true h1.2)
   ·cases h
  ·rename_i L e sh xs i off v hX hv
   split at h
   ·rename_i hag hs
    have hh:=aF h;obtain⟨h1,h2⟩:=hh;simp only[Option.some.injEq,Prod.mk.injEq,true_and] at h2;subst h2;exact M5 ho hO hr hX hv hs h1
   ·cases h
  ·rename_i L e sz i off e2 bK L3 ys hX hv
   split at h
   ·rename_i sh xs hf hag hs
    have hh:=aF h;clear h;obtain⟨h1,h2⟩:=hh;simp only[Option.some.injEq,Prod.mk.injEq,true_and] at h2;subst h2;rw[Bool.and_eq_true,beq_iff_eq] at h1;obtain⟨h1,h3⟩:=h1;split at h3
    ·rename_i c e2' mU hz
     simp only[Bool.and_eq_true,beq_iff_eq] at h3;obtain⟨⟨h4,h5⟩,h6⟩:=h3;have hx:r x=.sl e2 bK (some L3) ys:=by
      cases hq:r x with
      |sl e' s' o' x'=>rw[hq] at hv;simpa[dF] using hv
      |fn f c=>
       exfalso;rw[hq] at hv;simp only[dF] at hv
       cases hfA:Nat.blt f zP with
       |true=>rw[hfA,cond_true] at hv;simp at hv
       |false=>
        rw[hfA,cond_false] at hv;obtain⟨_,h8⟩:=aF hv
        cases c with
        |nil=>cases h8
        |cons p l=>
         obtain⟨hall,h9⟩:=aF h8;simp only[Option.some.injEq] at h9;match l,h9,hall with
         |[],h9,_=>simp at h9
         |[y],h9,hall=>
          simp only[List.all_cons,List.all_nil,Bool.and_true] at hall
          cases y with
          |int k n=>simp[bmV] at h9
          |_=>cases hall
         |_::_::_,h9,_=>simp at h9
      |agg cs=>
       exfalso;rw[hq] at hv;simp only[dF] at hv;obtain⟨h8,h9⟩:=aF hv;simp only[Option.some.injEq] at h9;subst h9;simp[V.one] at h8
      |_=>rw[hq] at hv;first|(cases hv;done)|(simp[dF] at hv)
     exact M8 ho hO hBx hr hX hx hf hs h1 hz h4 h5 h6
    ·cases h3
   ·cases h
  ·cases h
 ·
  rename_i x ho;have hx:=hr x;split at h
  ·rename_i L e sh xs i off hX
   simp only[ok,Option.some.injEq,Prod.mk.injEq,true_and] at h;subst h;rw[hX] at hx;obtain⟨v0,b,_,_,_,_,_,hp⟩:=ni.1 hx;exact hok (u:=ac.eval x) (by simp only[execOp,ho,hp]) hx
  ·rename_i L e sz i off hX
   simp only[ok,Option.some.injEq,Prod.mk.injEq,true_and] at h;subst h;rw[hX] at hx;obtain⟨v0,b,l,_,_,_,_,_,hp⟩:=qK.1 hx;exact hok (u:=ac.eval x) (by simp only[execOp,ho,hp]) hx
  ·rename_i sh v off hX
   simp only[ok,Option.some.injEq,Prod.mk.injEq,true_and] at h;subst h;rw[hX] at hx;obtain⟨b,q,l,hp,_⟩:=iK.1 hx;exact hok (u:=ac.eval x) (by simp only[execOp,ho,hp]) hx
  ·rename_i k off hX
   simp only[ok,Option.some.injEq,Prod.mk.injEq,true_and] at h;subst h;rw[hX] at hx;obtain⟨b,_,hp⟩:=eF.1 hx;exact hok (u:=ac.eval x) (by simp only[execOp,ho,hp]) hx
  ·cases h
 ·
  rename_i op t x y yt ho;split at h
  ·rename_i e1 e2
   have hx:=hr x;have hy:=hr y;rw[e1] at hx;rw[e2] at hy;exact Ih ho hx hy h
  ·rename_i u v e1 e2
   have hx:=hr x;have hy:=hr y;rw[e1] at hx;rw[e2] at hy;exact Ih ho hx hy h
  refine Sr ho (hr x) (hr y) h ?_;clear h;intro eff h;have hh:=aF h;clear h;obtain⟨h1,h⟩:=hh;unfold resV at h;split at h
  ·rename_i c v hv
   simp only[Option.some.injEq,Prod.mk.injEq] at h;obtain⟨rfl,rfl⟩:=h;refine PU ho (hr x) (hr y) hv ?_;intro a b ha _;rw[ha] at h1;unfold RD at h1;split at h1
   ·split at h1
    ·assumption
    ·cases h1
   ·rename_i hne;exact absurd rfl (hne _)
  ·cases h
 ·
  rename_i t x ho;split at h
  ·cases h
  ·rename_i d v hne hu hX
   simp only[ok,Option.some.injEq,Prod.mk.injEq,true_and] at h;subst h;exact Fg ho hu (fun ms e=>hne ms e) hX (hr x)
  ·cases h
 ·
  rename_i x xt t ho;split at h
  ·cases h
  ·rename_i d z hne hu hz
   have hx:=hr x;obtain⟨k1,k2,k3⟩:=DJ (B:=B) (bx:=bx) (g:=g) (w:=w) (ρ:=ac.eval) ho hu (fun ms e=>hne ms e) hz hx;split at h
   ·rename_i hX
    simp only[ok,Option.some.injEq,Prod.mk.injEq,true_and] at h;subst h;exact k1 hX
   ·rename_i u v hX
    cases hut:u==t with
    |true=>
     rw[hut,cond_true] at h;have e:u=t:=by simpa using hut
     have hh:=aF h;clear h;obtain⟨hv,h⟩:=hh;simp only[ok,Option.some.injEq,Prod.mk.injEq,true_and] at h;subst h;exact k3 u _ hX e (by cases v<;>first|rfl|cases hv)
    |false=>
     rw[hut,cond_false] at h;have e:u≠t:=by simpa using hut
     simp only[ok,Option.some.injEq,Prod.mk.injEq,true_and] at h;subst h;exact k2 u v hX e
   ·cases h
  ·cases h
 ·
  rename_i x ho;have hx:=hr x;split at h
  ·rename_i t v hX
   simp only[Option.some.injEq,Prod.mk.injEq,true_and] at h;subst h;rw[hX] at hx;obtain⟨u,hu,hru⟩:=jG.1 hx;refine⟨.iface t u,?_,by unfold aP;exact⟨u,rfl,hru⟩⟩;simp only[execOp,ho,hu,Instr.panic,Sem.run_bind,run_goPanic];rfl
  ·cases h
 ·
  rename_i op t x ho;have hx:=hr x;split at h
  ·rename_i b hX
   simp only[ok,Option.some.injEq,Prod.mk.injEq,true_and] at h;subst h;rw[hX,dG] at hx;exact⟨.bool (aB b),by simp only[execOp,ho,hx,Op.unary,Sem.run_bind,Sem.run_pure,Result.andThen_ok];rfl,dG.2 rfl⟩
  ·rename_i k n hX
   simp only[ok,Option.some.injEq,Prod.mk.injEq,true_and] at h;subst h;rw[hX,dw] at hx;exact⟨.int k (nP k 0 n),by simp only[execOp,ho,hx,Op.unary,Op.intArith,Sem.run_bind,Sem.run_pure,Result.andThen_ok];rfl,dw.2 rfl⟩
  ·cases h
 ·rename_i src dst x ho
  exact SE ho hG (hr x) h
 ·
  rename_i f first bR ho
  cases hfc:(bR.size==0&&Nat.blt 0 first.size&&Nat.blt f zP)&&(first.toList.map r).all V.single with
  |true=>
   rw[hfc,cond_true] at h;simp only[ok,Option.some.injEq,Prod.mk.injEq,true_and] at h;subst h;simp only[Bool.and_eq_true,beq_iff_eq] at hfc;obtain⟨⟨⟨hc0,hf0⟩,hfA⟩,hsg⟩:=hfc;have hf0:0<first.size:=by simpa[Nat.blt_eq] using hf0
   have hc0:bR= #[]:=Array.eq_empty_of_size_eq_zero hc0;subst hc0;refine⟨.func (.func f) (first.map ac.eval) #[],by simp[execOp,ho,Instr.makeFunc],?_⟩;refine⟨.int .i64 (f:Int)::first.toList.map ac.eval,by rw[UD,←Array.toList_map];rfl,.cons (show aP g.G _ _ by unfold aP;rfl) ⟨by simp,fun i x v hx hv=>?_⟩⟩;rw[List.all_eq_true] at hsg;have hxs:=hsg x (List.mem_of_getElem? hx);simp only[List.getElem?_map] at hx hv
   cases hi:first.toList[i]? with
   |none=>rw[hi] at hx;cases hx
   |some y=>
    rw[hi] at hx hv;simp only[Option.map_some,Option.some.injEq] at hx hv;subst hx;subst hv;exact aW hxs (hr y)
  |false=>
  rw[hfc,cond_false] at h;have hh:=aF h;obtain⟨h1,h2⟩:=hh;simp only[ok,Option.some.injEq,Prod.mk.injEq,true_and] at h2;subst h2;rw[Bool.and_eq_true,Bool.and_eq_true] at h1;obtain⟨⟨h1,hfA⟩,hsg⟩:=h1;have hf0:first= #[]:=by
   have:first.size=0:=by simpa using h1
   exact Array.eq_empty_of_size_eq_zero this
  subst hf0;refine⟨.func (.func f) #[] (bR.map ac.eval),by simp[execOp,ho,Instr.makeFunc],?_⟩;refine⟨bR.toList.map ac.eval,by rw[Bp hfA,←Array.toList_map],by simp,fun i x v hx hv=>?_⟩;rw[List.all_eq_true] at hsg;have hxs:=hsg x (List.mem_of_getElem? hx);simp only[List.getElem?_map] at hx hv
  cases hi:bR.toList[i]? with
  |none=>rw[hi] at hx;cases hx
  |some y=>
   rw[hi] at hx hv;simp only[Option.map_some,Option.some.injEq] at hx hv;subst hx;subst hv;exact aW hxs (hr y)
 ·rename_i t l c ho
  exact PY ho hG (hr l) (hr c) h
 ·rename_i t x lo hi ho
  exact PX ho hr h
 ·
  rename_i t x f ho;split at h
  ·rename_i fd hf
   split at h
   ·cases h
   ·rename_i n hn hs
    have hx:=hr x;have hn0:n≠0:=fun e=>hn e
    split at h
    ·rename_i sh v off hX
     simp only[ok,Option.some.injEq,Prod.mk.injEq,true_and] at h;subst h;rw[hX] at hx;obtain⟨b,q,l,hp,hG2,hfit,u,hu,hc⟩:=iK.1 hx;exact⟨.pointer (some ⟨b,q+off+fd.offset,none⟩),by simp only[execOp,ho,hp,Sem.run_bind,nM hf hs hn0,Result.andThen_ok,Sem.run_pure],iK.2 ⟨b,q,l,by rw[Nat.add_assoc],hG2,hfit,u,hu,hc⟩⟩
    ·rename_i L e sh xs i off hX
     simp only[ok,Option.some.injEq,Prod.mk.injEq,true_and] at h;subst h;rw[hX] at hx;obtain⟨v0,b,q1,q2,q3,q4,q5,hp⟩:=ni.1 hx;exact⟨.pointer (some ⟨b,i.toNat*sh.length+off+fd.offset,none⟩),by simp only[execOp,ho,hp,Sem.run_bind,nM hf hs hn0,Result.andThen_ok,Sem.run_pure],ni.2 ⟨v0,b,q1,q2,q3,q4,q5,by rw[Nat.add_assoc]⟩⟩
    ·rename_i L e sz i off hX
     simp only[ok,Option.some.injEq,Prod.mk.injEq,true_and] at h;subst h;rw[hX] at hx;obtain⟨v0,b,l,q1,q2,q3,q4,q5,hp⟩:=qK.1 hx;exact⟨.pointer (some ⟨b,i.toNat*sz+off+fd.offset,none⟩),by simp only[execOp,ho,hp,Sem.run_bind,nM hf hs hn0,Result.andThen_ok,Sem.run_pure],qK.2 ⟨v0,b,l,q1,q2,q3,q4,q5,by rw[Nat.add_assoc]⟩⟩
    ·rename_i k off hX
     simp only[ok,Option.some.injEq,Prod.mk.injEq,true_and] at h;subst h;rw[hX] at hx;obtain⟨b,hb,hp⟩:=eF.1 hx;exact⟨.pointer (some ⟨b,off+fd.offset,none⟩),by simp only[execOp,ho,hp,Sem.run_bind,nM hf hs hn0,Result.andThen_ok,Sem.run_pure],eF.2 ⟨b,hb,rfl⟩⟩
    ·cases h
   ·cases h
  ·cases h
 ·
  rename_i t x f ho;split at h
  ·rename_i fd cs hf hX
   have hx:=hr x;rw[hX] at hx;exact M3 ho hf hx h
  ·cases h
 ·
  rename_i t x i ho;split at h
  ·rename_i k n hX
   have hi:=hr i;rw[hX,dw] at hi;have hx:=hr x;split at h
   ·rename_i k off hB
    rw[hB] at hx;exact Jp ho hx hi h
   ·exact Ff ho hx hi h
  ·cases h
 ·
  rename_i t x i ho;split at h
  ·rename_i k n hX
   have hi:=hr i;rw[hX,dw] at hi;have hx:=hr x;split at h
   ·rename_i cs hB
    rw[hB] at hx;exact IR ho hx hi h
   ·rename_i f vs hB
    rw[hB] at hx;obtain⟨hfv,h⟩:=aF h;rw[Bool.and_eq_true,beq_iff_eq] at hfv;rw[hfv.1] at hx;exact IQ ho hx hi hfv.2 h
   ·exact PV ho hx hi h
  ·cases h
 ·
  rename_i x i ho;split at h
  ·rename_i vs hX
   have hx:=hr x;rw[hX] at hx;have hh:=aF h;obtain⟨h1,h2⟩:=hh;simp only[ok,Option.some.injEq,Prod.mk.injEq,true_and] at h2;subst h2;rw[Bool.and_eq_true] at h1;exact Jo ho hx (by simpa[Nat.blt_eq] using h1.1) h1.2
  ·cases h
 ·
  rename_i c ho;split at h
  ·rename_i f lV
   split at h
   ·rename_i id bR hf
    have hpsc: ∀(kK:Array Operand),PW (aM g) (kK.toList.map r) (kK.toList.map ac.eval):=fun kK=>⟨by simp,fun i x v hx hv=>by
     simp only[List.getElem?_map] at hx hv
     cases hi:kK.toList[i]? with
     |none=>rw[hi] at hx;cases hx
     |some y=>
      rw[hi] at hx hv;simp only[Option.map_some,Option.some.injEq] at hx hv;subst hx;subst hv;exact hr y⟩
    have hfv:=hr f;rw[hf] at hfv;obtain⟨a,hfa,hpa⟩:=hfv;obtain⟨callee,kK,ZA⟩:=c;simp only at lV h;subst lV;have hps:=hpsc kK
    cases hq:id==BM with
    |false=>
     rw[hq,cond_false] at h;split at h
     ·rename_i args mb ml hargs
      have hh:=aF h;clear h;obtain⟨hb,h⟩:=hh;simp only[Bool.and_eq_true] at hb;obtain⟨⟨hb,hfA⟩,hn⟩:=hb;simp only[Option.some.injEq,Prod.mk.injEq,true_and] at h;subst h;rw[Bp hfA] at hfa;refine⟨kK.toList.map ac.eval++a,kK.toList.map r++bR,?_,?_,hargs,hn⟩
      ·simp only[execOp,ho,resolve,Deferred.ofValue,hfa,invoke,Sem.run_bind,Sem.run_pure,Result.andThen_ok,zy hE hb]
       simp
      ·exact(hps.mono fun _ _ _=> .inl).append (hpa.mono fun _ _ _=> .inr)
     ·cases h
    |true=>
     rw[hq,cond_true] at h;rw[beq_iff_eq] at hq;rw[hq] at hfa;split at h
     ·exact P8 ho hE hfa hpa hps h
     ·cases h
   ·cases h
  ·rename_i lV
   split at h
   ·rename_i x y ha
    exact Cg (great:=false) ho lV ha (hr x) (hr y) h
   ·cases h
  ·rename_i lV
   split at h
   ·rename_i x y ha
    exact Cg (great:=true) ho lV ha (hr x) (hr y) h
   ·cases h
  ·rename_i lV
   split at h
   ·rename_i t x ht hx
    exact VX ho lV ht hx (hr x) h
   ·cases h
  ·rename_i lV
   split at h
   ·rename_i t x ht hx
    split at h
    ·rename_i e' hu hX
     simp only[ok,Option.some.injEq,Prod.mk.injEq,true_and] at h;subst h;have hv:=hr x;rw[hX,iW] at hv;obtain⟨callee,args,argTypes⟩:=c;simp only at lV ht hx;subst lV;obtain rfl:args= #[x]:=by rw[←Array.toList_inj];simpa using hx
     obtain rfl:argTypes= #[t]:=by rw[←Array.toList_inj];simpa using ht
     refine⟨.int .i64 0,?_,dw.2 rfl⟩;have hv2:ac.eval x=.slice none 0 0:=hv;have hu2:(Builtin.cap_ #[t] o.type #[ac.eval x]).run E.P w=.ok (.int .i64 0) w:=by
      rw[hv2];simp[Builtin.cap_,run_underlying hu,goInt]
     simp[execOp,ho,resolve,invoke,builtin,hu2]
    ·cases h
   ·cases h
  ·rename_i lV
   split at h
   ·rename_i s x ha
    exact M7 ho lV ha hG hO hB (hr s) (hr x) h
   ·cases h
  ·cases h
 ·cases h
theorem aaH {B:Own} {g:Gh} {w:World} (h:g.O=fun _=>none):NP B g w:=⟨fun L v e sz hL=>by(rw[h] at hL;cases hL),fun L L' v v' e e' sz sz' b hL=>by(rw[h] at hL;cases hL)⟩
theorem jT (hE:vT E) (hP:E.P=P) (hG:ze g.G w) (hO:NP B g w) (hBx:Yo P B g bx w) (hB:B.n≤w.heap.size∧ ∀b,w.heap.size≤b→B.m b) (hm:mF g.G1 g.G) (hr: ∀y,aM g (nY E fr y) (ac.eval y)) {eff:Eff} (h:EV E fr bx o=some (true,eff)):Does P ac.eval o B w g bx eff:=by
 subst hP;unfold EV at h;simp only at h;have hun: ∀{eff:Eff},Q7 E.P (fun x=>(nY E fr x).DY) bx o=some (true,eff)→Does E.P ac.eval o B w g bx eff:=fun h=>Dk hE rfl hG hO hBx hB (fun y=>Ap (hr y)) h
 cases ha:o.op.operands.toList.any fun x=>(nY E fr x).Oh with
 |false=>rw[ha] at h;exact Dk hE rfl hG hO hBx hB hr h
 |true=>
  rw[ha,cond_true] at h;split at h
  ·rename_i c v hx
   cases hv:v.fA with
   |false=>rw[hv] at h;exact hun h
   |true=>
    rw[hv,cond_true] at h;simp only[Option.some.injEq,Prod.mk.injEq] at h;obtain⟨rfl,rfl⟩:=h;have hG1:ze g.g0.G w:=fun b l hb=>by
     obtain⟨l',h1,h2⟩:=hm b l hb;obtain⟨c,e,f,h3,h4⟩:=hG b l' h1;refine⟨c,e,f,h3,?_⟩;obtain⟨t,rfl⟩:=h2;have h5:(c.toList.take (l++t).length).take l.length=l:=by rw[h4];simp
     rw[List.take_take] at h5;rwa [Nat.min_eq_left (by simp)] at h5
    obtain⟨u,h1,h2⟩:=Dk (B:=B) (g:=g.g0) hE rfl hG1 (aaH rfl) (⟨fun k cs hk=>(by cases hk),fun k k' cs cs' hk=>(by cases hk)⟩:Yo E.P B g.g0 [] w) hB (fun y=>Kc (hr y)) hx;exact⟨u,h1,MZ hv hm h2⟩
  ·exact hun h
end
end Nt.Ev
