/-
  What a row's arguments are, by their data: structs of whole numbers, texts and truth values.
-/
import Derived.Test.YtjcencojgajgdaaGreatDoorMBB
import Derived.Handed
import Derived.HandedShaped
set_option linter.all false
namespace Nt.Ev
open Go Go.RowKit
def Iu (P:Program):List Field→Nat→Option Nat
 |[],off=>some off
 |f::l,off=>bif f.offset==off then Iu P l (off+P.cellsOf f.type) else none
theorem M0: ∀(a b:List Kd) (xs ys:ah),bW a xs=true→bW b ys=true→bW (a++b) (xs++ys)=true
 |[],b,[],ys,_,h=>h
 |[],_,_::_,_,h,_=>by simp[bW] at h
 |_::_,_,[],_,h,_=>by simp[bW] at h
 |k::a,b,x::xs,ys,h,c=>by simp only[bW] at h;obtain⟨e,d⟩:=aN h;simp only[Nj,bW,e,M0 a b xs ys d c,ak]
variable {H:Type} {enc:TypeId×Value→H} {P:Program} {w:World} {base:Nat} {spare:Nat→Bool} {held:Bool}
theorem mR {k:Kd} {l:List Kd} {xs:ah} (h:bW (k::l) xs=true): ∃x t,xs=x::t∧fits k x=true∧bW l t=true:=by
 cases xs with
 |nil=>simp[bW] at h
 |cons x t=>simp only[bW] at h;obtain⟨b,a⟩:=aN h;exact⟨x,t,rfl,b,a⟩
theorem M3 {xs:ah} (h:bW [] xs=true):xs=[]:=by
 cases xs with
 |nil=>rfl
 |cons _ _=>simp[bW] at h
def shaped (P:Program) (e:Nat) (sh:List Kd) (x:V):Prop:=match bL P e with|some true=>∃ys,x=.agg ys∧bW sh ys=true|_=>bW sh [x]=true
mutual
def F4 (P:Program):V→Prop
 | .int k n=>(Lit.int k n).wf=true
 | .str l=>l.length≤maxLen
 | .agg ys=>ZW P ys
 | .sl e sh o xs=>o=none∧xs.length≤maxLen∧(∀x∈xs,shaped P e sh x)∧ZW P xs
 |_=>True
def ZW (P:Program):ah→Prop
 |[]=>True
 |x::xs=>F4 P x∧ZW P xs
end
theorem sj (P:Program): ∀(xs:ah),ZW P xs↔ ∀x∈xs,F4 P x
 |[]=>by unfold ZW;simp
 |x::xs=>by unfold ZW;rw[sj P xs];simp
def UL (P:Program):Nat→TypeId→Bool
 |0,_=>false
 |f+1,t=>match P.underlying t with
  |some .bool=>true
  |some (.int _)=>true
  |some .string=>true
  |some (.slice e)=>UL P f e&&(gu P f e).length==P.cellsOf e&&Kd.tq (gu P f e) (gu P f e)&&Nat.blt 0 (P.cellsOf e)&&(match bL P e with|some true=>true|some false=>P.cellsOf e==1|none=>false)
  |some (.struct a)=>(match Iu P a.toList 0 with|some n=>n==P.cellsOf t|none=>false)&&a.toList.all fun b=>UL P f b.type
  |_=>false
theorem E5 (f:Nat) (k: ∀(t:TypeId),UL P f t=true→ ∀(fuel:Nat) (a:List Value) (d:DataW H) (p:List MemPlace),DataW.trod enc P w base spare held fuel t a=some (d,p)→
   ∃xs,PW (aV (kM w)) xs a∧bW (gu P f t) xs=true∧ ∀x∈xs,F4 P x) (a:List Value) (n:Nat): ∀(b:List Field) (off tot:Nat),Iu P b off=some tot→(b.all fun fd=>UL P f fd.type)=true→
   (∀fd∈b,∃d p,DataW.trod enc P w base spare held n fd.type ((a.drop fd.offset).take (P.cellsOf fd.type))=some (d,p))→tot≤a.length→
   ∃xs,PW (aV (kM w)) xs ((a.drop off).take (tot-off))∧off≤tot∧bW (b.flatMap fun fd=>gu P f fd.type) xs=true∧ ∀x∈xs,F4 P x
 |[],off,tot,c,_,_,_=>by simp only[Iu,aT] at c;subst c;exact⟨[],by simpa using PW.nil,kG _,rfl,fun x h=>by cases h⟩
 |fd::b,off,tot,c,i,j,y=>by
  simp only[Iu] at c;obtain⟨s,m⟩:=aP c;obtain rfl:fd.offset=off:=by simpa using s
  simp only[K8,bF] at i;obtain⟨xs,l,B,r,z⟩:=E5 f k a n b _ tot m i.2 (fun g q=>j g (uO _ q)) y;obtain⟨d,p,o⟩:=j fd rf;obtain⟨ys,u,A,v⟩:=k fd.type i.1 n _ d p o;refine⟨ys++xs,?_,by omega,?_,?_⟩
  ·have e:(a.drop fd.offset).take (tot-fd.offset)=(a.drop fd.offset).take (P.cellsOf fd.type)++(a.drop (fd.offset+P.cellsOf fd.type)).take (tot-(fd.offset+P.cellsOf fd.type)):=by rw[show tot-fd.offset=P.cellsOf fd.type+(tot-(fd.offset+P.cellsOf fd.type)) by omega,List.take_add,Zz]
   rw[e];exact u.append l
  ·exact M0 _ _ _ _ A r
  intro x h;rw[abq] at h;exact h.elim (v x) (z x)
theorem mapM_cells (w:World) (b o:Nat): ∀(n:Nat) (k:List Value),(List.range n).mapM (fun i=>w.cell? ⟨b,o+i,none⟩)=some k→0<n→ ∃l,kM w b=some l∧(l.drop o).take n=k:=by
 intro n k h p;have g:=mapM_some_length h;rw[acj] at g;have a:=fun i (f:i<n)=>mapM_some_get h i i (by simp[f])
 have d:=a 0 p;rw[iK (by omega)] at d;have m: ∃c e fr,w.heap[b]? =some (.cells c e fr):=by
  unfold World.cell? at d;simp only at d;split at d
  ·rename_i c e fr j;exact⟨c,e,fr,j⟩
  cases d
 obtain⟨c,e,fr,j⟩:=m;refine⟨c.toList,by unfold kM;rw[j],?_⟩;apply ac2;intro i;rw[Qt];by_cases f:i<n
 ·rw[if_pos f,T3]
  have:=a i f;unfold World.cell? at this;rw[j] at this;simp only[Option.isSome_none,GU,CK] at this;rw[acD,this]
 rw[if_neg f,abC (by omega)]
theorem M4 {a:Addr} {n:Nat} {d:List Value} (h:w.cells? base a n=some d) (k:0<n):a.spot=none∧ ∃l,kM w a.block=some l∧(l.drop a.off).take n=d:=by
 unfold World.cells? at h;split at h
 ·have f:=mapM_some_get h 0 0 (by simp[k])
  have c:=mapM_some_length h;rw[acj] at c;rw[iK (by omega)] at f;have g:a.spot=none:=by simpa[Addr.add] using World.cell?_spot f
  obtain⟨b,o,s⟩:=a;simp only at g;subst g;refine⟨rfl,mapM_cells w b o n d ?_ k⟩;have e:(fun i=>w.cell? ⟨b,o+i,none⟩)=(fun i=>w.cell? ((⟨b,o,none⟩:Addr).add i)):=by
   funext i
   by_cases j:i=0
   ·subst j;simp[Addr.add]
   simp[Addr.add,j]
  rw[e];exact h
 cases h
theorem M5 {Q:Nat→V→Prop}: ∀(n:Nat),(∀i,i<n→ ∃x,Q i x)→ ∃xs:ah,xs.length=n∧ ∀i x,xs[i]? =some x→Q i x
 |0,_=>⟨[],rfl,fun i x h=>by simp at h⟩
 |n+1,h=>by
  obtain⟨xs,d,c⟩:=M5 n (fun i b=>h i (by omega));obtain⟨x,e⟩:=h n (by omega);refine⟨xs++[x],by simp[d],fun i y a=>?_⟩;by_cases b:i<xs.length
  ·rw[abA b] at a;exact c i y a
  rw[aa6 (by omega)] at a;have:i-xs.length=0:=by have:=(List.getElem?_eq_some_iff.1 a).1;simp at this;omega
  rw[this] at a;simp only[Nh,aT] at a;subst a;rw[show i=n by omega];exact e
theorem YS {G:aW} {sh:List Kd}: ∀(xs:ah) (l:List Value),(∀i x,xs[i]? =some x→fV sh x=true∧ ∃u,aV G x u∧(l.drop (i*sh.length)).take sh.length=u.cells.toList)→cZ G sh xs l
 |[],_,_=>iy
 |x::xs,l,h=>by unfold cZ;obtain⟨g,u,c,d⟩:=h 0 x rfl;refine⟨g,⟨u,c,by simpa using d⟩,YS xs _ fun i y b=>?_⟩;obtain⟨a,v,e,f⟩:=h (i+1) y (by simpa using b);refine⟨a,v,e,?_⟩;rw[Zz,←f,GY,ab9,abS]
theorem D7: ∀(f:Nat) (t:TypeId),UL P f t=true→ ∀(fuel:Nat) (G:List Value) (d:DataW H) (p:List MemPlace),DataW.trod enc P w base spare held fuel t G=some (d,p)→
   ∃xs,PW (aV (kM w)) xs G∧bW (gu P f t) xs=true∧ ∀x∈xs,F4 P x
 |0,t,h,_,_,_,_,_=>by cases h
 |f+1,t,h,fuel,G,d,p,Q=>by
  unfold UL at h;unfold gu;split at h
  ·rename_i j
   obtain⟨b,rfl,_⟩:=DataW.trod_bool j Q;rw[j];exact⟨[.bool b],.cons (by unfold aV;rfl) .nil,rfl,by simp[F4]⟩
  ·rename_i k j
   obtain⟨n,rfl,_,hw⟩:=DataW.trod_int j Q;rw[j];exact⟨[.int k n],.cons (by unfold aV;rfl) .nil,by simp[bW,fits,ak],by simpa[F4] using hw⟩
  ·rename_i j
   obtain⟨s,rfl,_,hw⟩:=DataW.trod_string j Q;rw[j];refine⟨[.str s.data.toList],.cons (by unfold aV;cases s;simp) .nil,rfl,?_⟩;simp only[Ni,forall_eq,F4];simpa using hw
  ·rename_i e j
   simp only[bF,iJ] at h;obtain⟨⟨⟨⟨U,Y⟩,h2'⟩,h3⟩,h4⟩:=h;have h3:0<P.cellsOf e:=acW (Nat.succ_pos 0) (aa3 h3);rw[j];have B: ∀xs,bW [.sl e (gu P f e)] [.sl e (gu P f e) none xs]=true:=fun xs=>by simp[bW,fits,ak,h2']
   rcases DataW.trod_slice j Q with⟨rfl,_⟩|⟨a,len,cap,elems,rest,n,_,rfl,_,_,hlc,hcm,M,C,_,_⟩
   ·refine⟨[.sl e (gu P f e) none []],.cons ?_ .nil,B [],?_⟩
    ·unfold aV;exact⟨none,0,rfl,kG _,.inl rfl⟩
    intro x g;rw[Ni] at g;subst g;unfold F4;exact⟨rfl,Ko _,(fun x g=>by cases g),(sj _ _).2 fun x g=>by cases g⟩
   ·
    have key: ∀i,i<len→ ∃x,(shaped P e (gu P f e) x∧F4 P x)∧
      a.spot=none∧ ∃l,kM w a.block=some l∧fV (gu P f e) x=true∧ ∃u,aV (kM w) x u∧(l.drop (a.off+i*P.cellsOf e)).take (P.cellsOf e)=u.cells.toList:=by
     intro i N;have hg:=C i N;rw[iK (by omega)] at hg;obtain⟨ci,hc1,hc2⟩:=Option.bind_eq_some_iff.1 hg;obtain⟨ys,S,q,Z⟩:=D7 f e U _ _ _ _ hc2;obtain⟨X,l,I,F⟩:=M4 hc1 h3;have A:a.spot=none∧(a.add (i*P.cellsOf e)).block=a.block∧(a.add (i*P.cellsOf e)).off=a.off+i*P.cellsOf e:=by
      by_cases J:i*P.cellsOf e=0
      ·rw[J] at X⊢;exact⟨by simpa[Addr.add] using X,by simp[Addr.add],by simp[Addr.add]⟩
      have O:=C 0 (by omega);rw[iK (by omega)] at O;obtain⟨c0,hc0,_⟩:=Option.bind_eq_some_iff.1 O;obtain⟨hs0,_⟩:=M4 hc0 h3;exact⟨by simpa[Addr.add] using hs0,by simp[Addr.add,J],by simp[Addr.add,J]⟩
     rw[A.2.1] at I;rw[A.2.2] at F;split at h4
     ·rename_i ha
      refine⟨.agg ys,⟨by unfold shaped;rw[ha];exact⟨ys,rfl,q⟩,by unfold F4;exact(sj _ _).2 Z⟩,A.1,l,I,q,.agg ci.toArray,?_,?_⟩
      ·unfold aV;exact⟨ci,rfl,(fe _ _).2 S⟩
      rw[F];rfl
     ·rename_i ha
      have R:P.cellsOf e=1:=by simpa using h4
      have hys:ys.length=1:=by rw[←jA _ _ q,Y,R]
      match ys,hys with
      |[y],_=>
       obtain⟨v,t',rfl,r1,r2⟩:=S.cons_inv;obtain rfl:=r2.cO;have hag: ∀G,y≠.agg G:=by
        intro G e1;subst e1;obtain⟨k,K,hk⟩: ∃k K,gu P f e=k::K:=by
         cases hsh:gu P f e with
         |nil=>rw[hsh] at q;simp[bW] at q
         |cons k l=>exact⟨k,l,rfl⟩
        rw[hk] at q;simp only[bW] at q;have:=(aN q).1
        cases k<;>simp[fits] at this
       have z:y.cells=[y]:=by cases y<;>first|rfl|exact absurd rfl (hag _)
       refine⟨y,⟨by unfold shaped;rw[ha];exact q,Z y rf⟩,A.1,l,I,?_,v,r1,?_⟩
       ·unfold fV;rw[z];exact q
       rw[F];have hy:y≠.any:=by intro e1;subst e1;have:fV (gu P f e) .any=true:=q;rw[lF] at this;cases this
       have:=mG r1 hy;rw[z] at this;obtain⟨t1,t2⟩:=this;have hv:v.cells.toList=[v]:=by
        have r:v.cells.toList.length=1:=by rw[Km,←t1];rfl
        unfold Value.cells at r⊢
        cases v with
        |agg c=>
         exfalso
         cases y<;>(unfold aV at r1;simp_all)
        |_=>rfl
       rw[hv]
     cases h4
    obtain⟨xs,V,E⟩:=M5 len key;refine⟨[.sl e (gu P f e) none xs],.cons ?_ .nil,B xs,?_⟩
    ·unfold aV
     refine⟨some a,cap,by rw[V],by rw[V];exact hlc,?_⟩;by_cases J:xs=[]
     ·exact .inl J
     have T:0<xs.length:=List.length_pos_iff.2 J;obtain⟨_,X,l,hl,_⟩:=E 0 xs[0] (iK T);obtain⟨b,o,s⟩:=a;simp only at X;subst X;refine .inr ⟨b,o,l,rfl,hl,YS xs _ fun i x g=>?_⟩;obtain⟨_,_,l',W,k1,u,k2,k3⟩:=E i x g;rw[hl] at W;obtain rfl:=Option.some.inj W;exact⟨k1,u,k2,by rw[Zz,Y];exact k3⟩
    intro x g;rw[Ni] at g;subst g;have D: ∀x∈xs,shaped P e (gu P f e) x∧F4 P x:=fun x g=>by obtain⟨i,N⟩:=Zx g;exact(E i x N).1
    unfold F4;exact⟨rfl,by omega,fun x g=>(D x g).1,(sj _ _).2 fun x g=>(D x g).2⟩
  ·rename_i fs j
   rw[bF] at h;obtain⟨U,Y⟩:=h;split at U
   ·rename_i n hc
    have hn:n=P.cellsOf t:=by simpa using U
    obtain⟨xs,m,_,_,r,hsz,M⟩:=DataW.trod_struct j Q;rw[j];obtain⟨ys,S,q,Z,q4⟩:=E5 (enc:=enc) (w:=w) (base:=base) (spare:=spare) (held:=held) f (D7 f) G m fs.toList 0 n hc Y (fun fd hfd=>by
     obtain⟨i,N⟩:=Zx hfd;have L:fs[i]? =some fd:=by simpa using N
     have:=M i fd L;have hil:i<xs.length:=by rw[hsz];exact(Array.getElem?_eq_some_iff.1 L).1
     rw[iK hil] at this;exact⟨_,_,this⟩) (by omega)
    refine⟨ys,?_,Z,q4⟩;rw[WX,acy,hn,←r,abH] at S;exact S
   cases U
  cases h
theorem aggs_of {e:Nat} {sh:List Kd} {xs:ah} (c:bL P e=some true) (h: ∀x∈xs,shaped P e sh x∧F4 P x): ∀x∈xs,∃ys,x=.agg ys∧bW sh ys=true∧ ∀y∈ys,F4 P y:=by intro x f;obtain⟨a,b⟩:=h x f;unfold shaped at a;rw[c] at a;obtain⟨ys,rfl,d⟩:=a;exact⟨ys,rfl,d,by unfold F4 at b;exact(sj _ _).1 b⟩
theorem afc {r:Reach} {b0:Nat} {t:TypeId} {v:Value} {d:DataW H} {g:List MemPlace} {sh:List Kd} (n:UL P 8 t=true) (o:bL P t=some true) (l:gu P 8 t=sh) (b:Value.okWide P w r b0 t v) (h:DataW.Trod enc P w base spare held t v d g):
  ∃a xs,v=.agg a∧PW (aV (kM w)) xs a.toList∧bW sh xs=true∧(∀x∈xs,F4 P x):=by
 obtain⟨m,j,e⟩:=wC o;have p: ∃c,v=.agg c:=by
  unfold Value.okWide at b;rw[j] at b
  cases m<;>simp only[TypeDesc.isRow,GU] at e
  ·obtain⟨c,rfl,_⟩:=b;exact⟨c,rfl⟩
  obtain⟨c,rfl,_⟩:=b;exact⟨c,rfl⟩
 obtain⟨a,rfl⟩:=p;obtain⟨fuel,i⟩:=h;obtain⟨xs,q,f,k⟩:=D7 8 t n fuel _ d g i;rw[l] at f;exact⟨a,xs,rfl,q,f,k⟩
variable {H:Type} {enc:TypeId×Value→H}
theorem qf {a:Assume} {C:Checked} {os:Os} {f:FuncId} {fn:Func} {s:ChangeSpec} {h:List PathCond} {b m g l:Bool} {X:World→Array Value→Prop}
  (I: ∀(w w':World) (args:Array Value),w.heap=w'.heap→X w args→X w' args)
  (own:ownKnob C.prog.godebug=none) (n:os.Started) (p:C.prog.inits.idxOf? f=none) (E:C.prog.funcs[f]? =some fn)
  (o: ∃(w:World) (c:Tape) (i:Input),w.os=os∧(w.forCall c i).Shaped C.prog∧i.vars=[]∧Input.okWide C.prog (w.forCall c i) .any w.heap.size f i∧
   ((s.pre enc C.prog fn h b (w.forCall c i).memory i.args∧X (w.forCall c i).memory i.args)∧sizedMet enc C.prog fn (OpenSpec.ofChange s) b (w.forCall c i).memory i.args)∧a.holds C.prog (lone (Frame.enter C.prog f i.args .normal) [] (w.forCall c i)))
  (k: ∀(W:World) (base:Nat) (args:Array Value) (u q:List (DataW H)) (d:List MemPlace),
   (∀(j:Nat) t v,fn.params[j]? =some t→args[j]? =some v→Value.okWide C.prog W .any base t v)→
   DataW.Whole enc C.prog fn.params.toList s.vars b W args.toList u q d→
   h.all (PathCond.test C.prog ⟨fn.params.toList,u,s.plain.varTypes C.prog,q⟩)=true→
   (DataW.weightsEach C.prog (fn.params.toList++s.plain.varTypes C.prog) (u++q)).all (· ≤reachBytes)=true→X W args→W.ShapedOpen C.prog→
   Calls C.prog f args W fun e W'=>∃v,e=.returned v∧s.post enc C.prog fn b m g l W args v W'):
  ReturnsInHanded a C os f .any (fun w args=>(s.pre enc C.prog fn h b w args∧X w args)∧sizedMet enc C.prog fn (OpenSpec.ofChange s) b w args) (s.post enc C.prog fn b m g l):=by
 refine returnsInHanded_of_calls own n p o ?_;intro w c i _ D _ B y z;obtain⟨_,_,_,F,x,_,_,_,_,r⟩:=B;have e:F=fn:=Option.some.inj (x.symm.trans E);subst e;obtain⟨⟨⟨u,q,d,G,J⟩,M⟩,K⟩:=y;have A:=DataW.Whole.of_heap (w':=w.forCall c i) (by rfl) G;refine(k (w.forCall c i) w.heap.size i.args u q d r A J (K.weights G) (I _ _ _ (by rfl) M) D).mono fun e W' ⟨v,N,L⟩=>?_
 subst N;exact ChangeSpec.post_blind L
end Nt.Ev
