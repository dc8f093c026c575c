/-
  What a row's arguments are, by their data: structs of whole numbers, texts and truth values.
-/
import Derived.Test.YtcmockbdkppglaaDoorMBB
import Derived.Handed
import Derived.HandedShaped
set_option linter.all false
namespace Nt.Ev
open Go Go.RowKit
def zX (P:Program):List Field→Nat→Option Nat
 |[],off=>some off
 |f::l,off=>bif f.offset==off then zX P l (off+P.cellsOf f.type) else none
theorem Dx: ∀(a b:List Kd) (xs ys:af),bE a xs=true→bE b ys=true→bE (a++b) (xs++ys)=true
 |[],b,[],ys,_,h=>h
 |[],_,_::_,_,h,_=>by simp[bE] at h
 |_::_,_,[],_,h,_=>by simp[bE] at h
 |k::a,b,x::xs,ys,h,c=>by
  simp only[bE] at h;obtain⟨h3,d⟩:=aR h;simp only[Kb,bE,h3,Dx a b xs ys d c,av]
variable {H:Type} {enc:TypeId×Value→H} {P:Program} {w:World} {base:Nat} {spare:Nat→Bool} {held:Bool}
theorem J7 {k:Kd} {l:List Kd} {xs:af} (h:bE (k::l) xs=true): ∃x t,xs=x::t∧fits k x=true∧bE l t=true:=by
 cases xs with
 |nil=>simp[bE] at h
 |cons x t=>
  simp only[bE] at h;obtain⟨b,a⟩:=aR h;exact⟨x,t,rfl,b,a⟩
theorem N5 {xs:af} (h:bE [] xs=true):xs=[]:=by
 cases xs with
 |nil=>rfl
 |cons _ _=>simp[bE] at h
def shaped (P:Program) (e:Nat) (sh:List Kd) (x:V):Prop:=match bf P e with|some true=>∃ys,x=.agg ys∧bE sh ys=true|_=>bE sh [x]=true
mutual
def Fe (P:Program):V→Prop
 | .int k n=>(Lit.int k n).wf=true
 | .str l=>l.length≤maxLen
 | .agg ys=>Mx P ys
 | .sl e sh o xs=>o=none∧xs.length≤maxLen∧(∀x∈xs,shaped P e sh x)∧Mx P xs
 |_=>True
def Mx (P:Program):af→Prop
 |[]=>True
 |x::xs=>Fe P x∧Mx P xs
end
theorem nM (P:Program): ∀(xs:af),Mx P xs↔ ∀x∈xs,Fe P x
 |[]=>by unfold Mx;simp
 |x::xs=>by unfold Mx;rw[nM P xs];simp
def IR (P:Program):Nat→TypeId→Bool
 |0,_=>false
 |f+1,t=>match P.underlying t with
  |some .bool=>true
  |some (.int _)=>true
  |some .string=>true
  |some (.slice e)=>IR P f e&&(eG P f e).length==P.cellsOf e&&Kd.zn (eG P f e) (eG P f e)&&Nat.blt 0 (P.cellsOf e)&&(match bf P e with|some true=>true|some false=>P.cellsOf e==1|none=>false)
  |some (.struct a)=>(match zX P a.toList 0 with|some n=>n==P.cellsOf t|none=>false)&&a.toList.all fun b=>IR P f b.type
  |_=>false
theorem yg (f:Nat) (j: ∀(t:TypeId),IR P f t=true→ ∀(fuel:Nat) (a:List Value) (d:DataW H) (p:List MemPlace),DataW.trod enc P w base spare held fuel t a=some (d,p)→
   ∃xs,PW (aJ (iH w)) xs a∧bE (eG P f t) xs=true∧ ∀x∈xs,Fe P x) (a:List Value) (n:Nat): ∀(b:List Field) (off tot:Nat),zX P b off=some tot→(b.all fun fd=>IR P f fd.type)=true→
   (∀fd∈b,∃d p,DataW.trod enc P w base spare held n fd.type ((a.drop fd.offset).take (P.cellsOf fd.type))=some (d,p))→tot≤a.length→
   ∃xs,PW (aJ (iH w)) xs ((a.drop off).take (tot-off))∧off≤tot∧bE (b.flatMap fun fd=>eG P f fd.type) xs=true∧ ∀x∈xs,Fe P x
 |[],off,tot,c,_,_,_=>by
  simp only[zX,aF] at c;subst c;exact⟨[],by simpa using PW.nil,iA _,rfl,fun x hx=>by cases hx⟩
 |fd::b,off,tot,c,h,i,hl=>by
  simp only[zX] at c;obtain⟨r,l⟩:=au c;obtain rfl:fd.offset=off:=by simpa using r
  simp only[Me,bB] at h;obtain⟨xs,k,z,q,v⟩:=yg f j a n b _ tot l h.2 (fun g o=>i g (vg _ o)) hl;obtain⟨d,p,m⟩:=i fd sS;obtain⟨ys,s,y,u⟩:=j fd.type h.1 n _ d p m;refine⟨ys++xs,?_,by omega,?_,?_⟩
  ·have e:(a.drop fd.offset).take (tot-fd.offset)=(a.drop fd.offset).take (P.cellsOf fd.type)++(a.drop (fd.offset+P.cellsOf fd.type)).take (tot-(fd.offset+P.cellsOf fd.type)):=by
    rw[show tot-fd.offset=P.cellsOf fd.type+(tot-(fd.offset+P.cellsOf fd.type)) by omega,List.take_add,Ke]
   rw[e];exact s.append k
  ·exact Dx _ _ _ _ y q
  ·intro x hx
   rw[R9] at hx;exact hx.elim (u x) (v x)
theorem mapM_cells (w:World) (b o:Nat): ∀(n:Nat) (k:List Value),(List.range n).mapM (fun i=>w.cell? ⟨b,o+i,none⟩)=some k→0<n→ ∃l,iH w b=some l∧(l.drop o).take n=k:=by
 intro n k h p;have g:=mapM_some_length h;rw[XO] at g;have a:=fun i (f:i<n)=>mapM_some_get h i i (by simp[f])
 have d:=a 0 p;rw[gQ (by omega)] at d;have m: ∃c e fr,w.heap[b]? =some (.cells c e fr):=by
  unfold World.cell? at d;simp only at d;split at d
  ·rename_i c e fr j;exact⟨c,e,fr,j⟩
  ·cases d
 obtain⟨c,e,fr,j⟩:=m;refine⟨c.toList,by unfold iH;rw[j],?_⟩;apply acJ
 intro i;rw[Iw];by_cases f:i<n
 ·rw[if_pos f,IB]
  have:=a i f;unfold World.cell? at this;rw[j] at this;simp only[Option.isSome_none,N6,Fj] at this;rw[aci,this]
 ·rw[if_neg f,Xi (by omega)]
theorem Dy {a:Addr} {n:Nat} {d:List Value} (h:w.cells? base a n=some d) (k:0<n):a.spot=none∧ ∃l,iH w a.block=some l∧(l.drop a.off).take n=d:=by
 unfold World.cells? at h;split at h
 ·have f:=mapM_some_get h 0 0 (by simp[k])
  have c:=mapM_some_length h;rw[XO] at c;rw[gQ (by omega)] at f;have g:a.spot=none:=by simpa[Addr.add] using World.cell?_spot f
  obtain⟨b,o,s⟩:=a;simp only at g;subst g;refine⟨rfl,mapM_cells w b o n d ?_ k⟩;have e:(fun i=>w.cell? ⟨b,o+i,none⟩)=(fun i=>w.cell? ((⟨b,o,none⟩:Addr).add i)):=by
   funext i
   by_cases j:i=0
   ·subst j;simp[Addr.add]
   ·simp[Addr.add,j]
  rw[e];exact h
 ·cases h
theorem Dz {Q:Nat→V→Prop}: ∀(n:Nat),(∀i,i<n→ ∃x,Q i x)→ ∃xs:af,xs.length=n∧ ∀i x,xs[i]? =some x→Q i x
 |0,_=>⟨[],rfl,fun i x h=>by simp at h⟩
 |n+1,h=>by
  obtain⟨xs,d,c⟩:=Dz n (fun i b=>h i (by omega));obtain⟨x,hx⟩:=h n (by omega);refine⟨xs++[x],by simp[d],fun i y a=>?_⟩;by_cases b:i<xs.length
  ·rw[Xh b] at a;exact c i y a
  ·rw[Zu (by omega)] at a
   have:i-xs.length=0:=by
    have:=(List.getElem?_eq_some_iff.1 a).1;simp at this;omega
   rw[this] at a;simp only[BZ,aF] at a;subst a;rw[show i=n by omega];exact hx
theorem Ma {G:aI} {sh:List Kd}: ∀(xs:af) (l:List Value),(∀i x,xs[i]? =some x→eP sh x=true∧ ∃u,aJ G x u∧(l.drop (i*sh.length)).take sh.length=u.cells.toList)→bF G sh xs l
 |[],_,_=>fZ
 |x::xs,l,h=>by
  unfold bF;obtain⟨f,u,c,h3⟩:=h 0 x rfl;refine⟨f,⟨u,c,by simpa using h3⟩,Ma xs _ fun i y b=>?_⟩;obtain⟨a,v,d,e⟩:=h (i+1) y (by simpa using b);refine⟨a,v,d,?_⟩;rw[Ke,←e,vo,RS,Vx]
theorem wJ: ∀(f:Nat) (t:TypeId),IR P f t=true→ ∀(fuel:Nat) (F:List Value) (d:DataW H) (p:List MemPlace),DataW.trod enc P w base spare held fuel t F=some (d,p)→
   ∃xs,PW (aJ (iH w)) xs F∧bE (eG P f t) xs=true∧ ∀x∈xs,Fe P x
 |0,t,h,_,_,_,_,_=>by cases h
 |f+1,t,h,fuel,F,d,p,O=>by
  unfold IR at h;unfold eG;split at h
  ·rename_i g
   obtain⟨b,rfl,_⟩:=DataW.trod_bool g O;rw[g];exact⟨[.bool b],.cons (by unfold aJ;rfl) .nil,rfl,by simp[Fe]⟩
  ·rename_i k g
   obtain⟨n,rfl,_,hw⟩:=DataW.trod_int g O;rw[g];exact⟨[.int k n],.cons (by unfold aJ;rfl) .nil,by simp[bE,fits,av],by simpa[Fe] using hw⟩
  ·rename_i g
   obtain⟨s,rfl,_,hw⟩:=DataW.trod_string g O;rw[g];refine⟨[.str s.data.toList],.cons (by unfold aJ;cases s;simp) .nil,rfl,?_⟩;simp only[N7,forall_eq,Fe];simpa using hw
  ·rename_i e g
   simp only[bB,fT] at h;obtain⟨⟨⟨⟨T,X⟩,h2'⟩,h3⟩,h4⟩:=h;have h3:0<P.cellsOf e:=acG (Nat.succ_pos 0) (R6 h3);rw[g];have A: ∀xs,bE [.sl e (eG P f e)] [.sl e (eG P f e) none xs]=true:=fun xs=>by
    simp[bE,fits,av,h2']
   rcases DataW.trod_slice g O with⟨rfl,_⟩|⟨a,len,cap,elems,rest,n,_,rfl,_,_,hlc,hcm,L,B,_,_⟩
   ·refine⟨[.sl e (eG P f e) none []],.cons ?_ .nil,A [],?_⟩
    ·unfold aJ;exact⟨none,0,rfl,iA _,.inl rfl⟩
    ·intro x hx
     rw[N7] at hx;subst hx;unfold Fe;exact⟨rfl,Ca _,(fun x hx=>by cases hx),(nM _ _).2 fun x hx=>by cases hx⟩
   ·
    have key: ∀i,i<len→ ∃x,(shaped P e (eG P f e) x∧Fe P x)∧
      a.spot=none∧ ∃l,iH w a.block=some l∧eP (eG P f e) x=true∧ ∃u,aJ (iH w) x u∧(l.drop (a.off+i*P.cellsOf e)).take (P.cellsOf e)=u.cells.toList:=by
     intro i M;have hg:=B i M;rw[gQ (by omega)] at hg;obtain⟨ci,hc1,hc2⟩:=Option.bind_eq_some_iff.1 hg;obtain⟨ys,R,j,Y⟩:=wJ f e T _ _ _ _ hc2;obtain⟨W,l,G,E⟩:=Dy hc1 h3;have z:a.spot=none∧(a.add (i*P.cellsOf e)).block=a.block∧(a.add (i*P.cellsOf e)).off=a.off+i*P.cellsOf e:=by
      by_cases I:i*P.cellsOf e=0
      ·rw[I] at W⊢;exact⟨by simpa[Addr.add] using W,by simp[Addr.add],by simp[Addr.add]⟩
      ·have N:=B 0 (by omega)
       rw[gQ (by omega)] at N;obtain⟨c0,Z,_⟩:=Option.bind_eq_some_iff.1 N;obtain⟨hs0,_⟩:=Dy Z h3;exact⟨by simpa[Addr.add] using hs0,by simp[Addr.add,I],by simp[Addr.add,I]⟩
     rw[z.2.1] at G;rw[z.2.2] at E;split at h4
     ·rename_i ha
      refine⟨.agg ys,⟨by unfold shaped;rw[ha];exact⟨ys,rfl,j⟩,by unfold Fe;exact(nM _ _).2 Y⟩,z.1,l,G,j,.agg ci.toArray,?_,?_⟩
      ·unfold aJ;exact⟨ci,rfl,(dI _ _).2 R⟩
      ·rw[E];rfl
     ·rename_i ha
      have Q:P.cellsOf e=1:=by simpa using h4
      have hys:ys.length=1:=by rw[←gU _ _ j,X,Q]
      match ys,hys with
      |[y],_=>
       obtain⟨v,t',rfl,r1,r2⟩:=R.cons_inv;obtain rfl:=r2.bH;have hag: ∀F,y≠.agg F:=by
        intro F e1;subst e1;obtain⟨k,J,hk⟩: ∃k J,eG P f e=k::J:=by
         cases hsh:eG P f e with
         |nil=>rw[hsh] at j;simp[bE] at j
         |cons k l=>exact⟨k,l,rfl⟩
        rw[hk] at j;simp only[bE] at j;have:=(aR j).1
        cases k<;>simp[fits] at this
       have r:y.cells=[y]:=by cases y<;>first|rfl|exact absurd rfl (hag _)
       refine⟨y,⟨by unfold shaped;rw[ha];exact j,Y y sS⟩,z.1,l,G,?_,v,r1,?_⟩
       ·unfold eP;rw[r];exact j
       ·rw[E]
        have hy:y≠.any:=by
         intro e1;subst e1;have:eP (eG P f e) .any=true:=j;rw[jy] at this;cases this
        have:=jT r1 hy;rw[r] at this;obtain⟨t1,t2⟩:=this;have hv:v.cells.toList=[v]:=by
         have q:v.cells.toList.length=1:=by rw[yG,←t1];rfl
         unfold Value.cells at q⊢
         cases v with
         |agg c=>
          exfalso
          cases y<;>(unfold aJ at r1;simp_all)
         |_=>rfl
        rw[hv]
     ·cases h4
    obtain⟨xs,U,D⟩:=Dz len key;refine⟨[.sl e (eG P f e) none xs],.cons ?_ .nil,A xs,?_⟩
    ·unfold aJ
     refine⟨some a,cap,by rw[U],by rw[U];exact hlc,?_⟩;by_cases I:xs=[]
     ·exact .inl I
     ·have S:0<xs.length:=List.length_pos_iff.2 I
      obtain⟨_,W,l,hl,_⟩:=D 0 xs[0] (gQ S);obtain⟨b,o,s⟩:=a;simp only at W;subst W;refine .inr ⟨b,o,l,rfl,hl,Ma xs _ fun i x hx=>?_⟩;obtain⟨_,_,l',V,k1,u,k2,k3⟩:=D i x hx;rw[hl] at V;obtain rfl:=Option.some.inj V;exact⟨k1,u,k2,by rw[Ke,X];exact k3⟩
    ·intro x hx
     rw[N7] at hx;subst hx;have C: ∀x∈xs,shaped P e (eG P f e) x∧Fe P x:=fun x hx=>by
      obtain⟨i,M⟩:=BD hx;exact(D i x M).1
     unfold Fe;exact⟨rfl,by omega,fun x hx=>(C x hx).1,(nM _ _).2 fun x hx=>(C x hx).2⟩
  ·rename_i fs g
   rw[bB] at h;obtain⟨T,X⟩:=h;split at T
   ·rename_i n hc
    have hn:n=P.cellsOf t:=by simpa using T
    obtain⟨xs,m,_,_,q,hsz,L⟩:=DataW.trod_struct g O;rw[g];obtain⟨ys,R,j,Y,q4⟩:=yg (enc:=enc) (w:=w) (base:=base) (spare:=spare) (held:=held) f (wJ f) F m fs.toList 0 n hc X (fun fd hfd=>by
     obtain⟨i,M⟩:=BD hfd;have K:fs[i]? =some fd:=by simpa using M
     have:=L i fd K;have hil:i<xs.length:=by rw[hsz];exact(Array.getElem?_eq_some_iff.1 K).1
     rw[gQ hil] at this;exact⟨_,_,this⟩) (by omega)
    refine⟨ys,?_,Y,q4⟩;rw[Om,UQ,hn,←q,RP] at R;exact R
   ·cases T
  ·cases h
theorem Iv {t:TypeId} {a:Option Addr} {len cap:Nat} {d:DataW H} {h:List MemPlace} {e:Nat} {sh:List Kd} (m:IR P 8 t=true) (u:eG P 8 t=[.sl e sh]) (j:DataW.Trod enc P w base spare held t (.slice a len cap) d h):
  ∃xs,aJ (iH w) (.sl e sh none xs) (.slice a len cap)∧xs.length≤maxLen∧ ∀x∈xs,shaped P e sh x∧Fe P x:=by
 obtain⟨fuel,s⟩:=j;obtain⟨ys,q,g,h3⟩:=wJ 8 t m fuel _ d h s;rw[u] at g;obtain⟨x,k,rfl,b,z⟩:=J7 g;obtain rfl:=N5 z;have hx:=h3 x sS;obtain⟨v,k,i,c,y⟩:=q.cons_inv;obtain rfl:=y.bH;have f:v=.slice a len cap:=by
  have:(Value.slice a len cap).cells.toList=[Value.slice a len cap]:=rfl;rw[this] at i;exact(List.cons.inj i).1.symm
 subst f
 cases x with
 |sl B l o xs=>
  unfold Fe at hx;obtain⟨rfl,p,A,r⟩:=hx;simp only[fits] at b;rw[bB,fT] at b;obtain⟨rfl,n⟩:=b;obtain rfl:=Kd.fD _ _ n;exact⟨xs,c,p,fun x hx=>⟨A x hx,(nM _ _).1 r x hx⟩⟩
 |nilsl=>
  unfold aJ at c
  cases c;exact⟨[],by unfold aJ;exact⟨none,0,rfl,iA _,.inl rfl⟩,Ca _,fun x hx=>by cases hx⟩
 |_=>simp[fits] at b
theorem UL {e:Nat} {sh:List Kd} {xs:af} (c:bf P e=some true) (h: ∀x∈xs,shaped P e sh x∧Fe P x): ∀x∈xs,∃ys,x=.agg ys∧bE sh ys=true∧ ∀y∈ys,Fe P y:=by
 intro x hx;obtain⟨a,b⟩:=h x hx;unfold shaped at a;rw[c] at a;obtain⟨ys,rfl,h3⟩:=a;exact⟨ys,rfl,h3,by unfold Fe at b;exact(nM _ _).1 b⟩
variable {H:Type} {enc:TypeId×Value→H}
theorem mh {a:Assume} {C:Checked} {os:Os} {f:FuncId} {fn:Func} {s:ChangeSpec} {h:List PathCond} {b m g l:Bool} {X:World→Array Value→Prop}
  (I: ∀(w w':World) (args:Array Value),w.heap=w'.heap→X w args→X w' args)
  (own:ownKnob C.prog.godebug=none) (n:os.Started) (p:C.prog.inits.idxOf? f=none) (E:C.prog.funcs[f]? =some fn)
  (o: ∃(w:World) (c:Tape) (i:Input),w.os=os∧(w.forCall c i).Shaped C.prog∧i.vars=[]∧Input.okWide C.prog (w.forCall c i) .any w.heap.size f i∧
   ((s.pre enc C.prog fn h b (w.forCall c i).memory i.args∧X (w.forCall c i).memory i.args)∧sizedMet enc C.prog fn (OpenSpec.ofChange s) b (w.forCall c i).memory i.args)∧a.holds C.prog (lone (Frame.enter C.prog f i.args .normal) [] (w.forCall c i)))
  (k: ∀(W:World) (base:Nat) (args:Array Value) (u q:List (DataW H)) (d:List MemPlace),
   (∀(j:Nat) t v,fn.params[j]? =some t→args[j]? =some v→Value.okWide C.prog W .any base t v)→
   DataW.Whole enc C.prog fn.params.toList s.vars b W args.toList u q d→
   h.all (PathCond.test C.prog ⟨fn.params.toList,u,s.plain.varTypes C.prog,q⟩)=true→
   (DataW.weightsEach C.prog (fn.params.toList++s.plain.varTypes C.prog) (u++q)).all (· ≤reachBytes)=true→X W args→W.ShapedOpen C.prog→
   Calls C.prog f args W fun e W'=>∃v,e=.returned v∧s.post enc C.prog fn b m g l W args v W'):
  ReturnsInHanded a C os f .any (fun w args=>(s.pre enc C.prog fn h b w args∧X w args)∧sizedMet enc C.prog fn (OpenSpec.ofChange s) b w args) (s.post enc C.prog fn b m g l):=by
 refine returnsInHanded_of_calls own n p o ?_;intro w c i _ D _ B y z;obtain⟨_,_,_,F,x,_,_,_,_,r⟩:=B;have e:F=fn:=Option.some.inj (x.symm.trans E);subst e;obtain⟨⟨⟨u,q,d,G,J⟩,hx⟩,K⟩:=y;have A:=DataW.Whole.of_heap (w':=w.forCall c i) (by rfl) G;refine(k (w.forCall c i) w.heap.size i.args u q d r A J (K.weights G) (I _ _ _ (by rfl) hx) D).mono fun e W' ⟨v,M,L⟩=>?_
 subst M;exact ChangeSpec.post_blind L
end Nt.Ev
