/-
  Leaps: what a source tells, both sides; whether two lists are one.
-/
import Derived.Test.YtcmockbdkppglaaDoorMXT
set_option linter.all false
set_option maxRecDepth 100000
namespace Nt.Ev.YtcmockbdkppglaaDoor.Lp
open Go Go.RowKit Nt Nt.Num Nt.Civil Nt.Fld Nt.Lin Go.Proofs.YtcmockbdkppglaaDoor Nt.Ev Nt.Ev.YtcmockbdkppglaaDoor
noncomputable def XD (q:af×Int×Int):V:=if q.2.2≠0 then .tup [.nilsl,.agg [.int .i64 q.2.1,.int .i64 q.2.2]] else if kU q.1=true then .tup [.sl 30 kP none q.1,.agg [.int .i64 0,.int .i64 0]] else .tup [.nilsl,.agg [.int .i64 0,.int .i64 4]]
theorem LW (t:af) (s:ah):(Fb t s).length≤t.length+1:=by
 unfold Fb;split
 ·unfold bT;simp
 ·omega
theorem tT {x:V} {xs:af} {a:Int} {t:af} (h:mW (eO (aN x 0))=0):jc (x::xs) a t=jc xs (a+1) (Fb t (eO (aN x 0))):=by
 show(if mW (eO (aN x 0))=0 then _ else _)=_;rw[if_pos h]
theorem za {x:V} {xs:af} {a:Int} {t:af} (h:mW (eO (aN x 0))≠0):jc (x::xs) a t=([],a+1,mW (eO (aN x 0))):=by
 show(if mW (eO (aN x 0))=0 then _ else _)=_;rw[if_neg h]
theorem LX:kU []=true:=iq.2 ⟨fun i a=>absurd a (Sc i),by decide⟩
theorem LY (F:Nat) (s:ah) (xs:af) (hx:xs.length≤900000) (b: ∀x∈xs,(eO (aN x 0)).length≤900000): ∀(j i n:Nat) (t:af),i+j=xs.length→j<n→t.length≤i→
  y8 F [] n s xs (aQ xs) (i:Int) t (i:Int) 0 0 some=some (XD (jc (xs.drop i) i t))
 |0,i,n,t,e,f,d=>by
  obtain⟨n,rfl⟩: ∃k,n=k+1:=⟨n-1,by omega⟩
  (rw[u6];(conv=>zeta);rw[aD (bC (by rw[aM];omega)),XH (by omega),ai (show av true (aH (aQ t) 1000000)=true from by rw[ay,ax,aM];exact⟨rfl,by omega⟩),jX,jX])
  unfold jc XD;rw[if_neg (by simp)]
  cases hB:kU t with
  |true=>rw[aD (show aS true=false from rfl),if_pos rfl]
  |false=>rw[ai (show aS false=true from rfl),if_neg (by decide)]
 |j+1,i,n,t,e,f,d=>by
  obtain⟨n,rfl⟩: ∃k,n=k+1:=⟨n-1,by omega⟩
  have hl:i<xs.length:=by omega
  have g:aY .i64 (i:Int) 1=((i+1:Nat):Int):=by rw[bQ (by omega)];omega
  have c:=b _ (get_mem hl)
  (rw[u6];(conv=>zeta);rw[ai (bV (by rw[aM];omega)),ai (by rw[ay,ax,aU,aM];omega),ai (by rw[ay,ax,ax,aA,aM];omega),Ao hl,g])
  by_cases a:mW (eO (aN (bq xs (i:Int)) 0))=0
  ·have:=LW t (eO (aN (bq xs (i:Int)) 0))
   rw[tT a,ai (cZ a),LY F s xs hx b j (i+1) n _ (by omega) (by omega) (by omega)];rfl
  ·rw[za a,aD (bJ a)]
   unfold XD;rw[if_pos a];rfl
theorem Ux (s:ah) (g:s.length≤900000):gF fu (fK fu VJ ((eu s).length+2) 3) ((eu s).length+2) 8 [V.str s] some=some (if eu s=[] then .tup [.nilsl,.agg [.int .i64 0,.int .i64 0]] else XD (jc (eu s) 0 [])):=by
 have h:=RE s;have c:=NW s g
 (rw[RH,aD (bC (by rw[aA];omega)),ai (fU (by rw[aA];omega)),E7];(conv=>zeta))
 by_cases f:eu s=[]
 ·rw[if_pos f,aD (bC (by rw[f];decide)),jX,jX,ai (by rfl),aD (by rw[LX];rfl)]
 ·rw[if_neg f]
  have hl:0<(eu s).length:=List.length_pos_iff.2 f;have a:=c _ (get_mem (i:=0) hl);have b:=Ao (xs:=eu s) (i:=0) hl;rw[Om] at b;have b:eu s=bq (eu s) 0::(eu s).drop 1:=b;have a:(eO (aN (bq (eu s) 0) 0)).length≤900000:=a;rw[ai (bV (by rw[aM];omega)),ai (by rw[ay,ax,aU,aM];omega),ai (by rw[ay,ax,ax,aA];exact⟨by omega,by decide⟩)];by_cases d:mW (eO (aN (bq (eu s) 0) 0))=0
  ·rw[ai (cZ d)]
   have e:jc (eu s) 0 []=jc ((eu s).drop 1) 1 (Fb [] (eO (aN (bq (eu s) 0) 0))):=by
    rw[show jc (eu s) 0 []=jc (bq (eu s) 0::(eu s).drop 1) 0 [] from by rw[←b],tT d];rfl
   rw[e];exact LY _ s (eu s) (by omega) c ((eu s).length-1) 1 _ _ (by omega) (by omega) (LW [] _)
  ·rw[aD (bJ d)]
   have e:jc (eu s) 0 []=([],1,mW (eO (aN (bq (eu s) 0) 0))):=by
    rw[show jc (eu s) 0 []=jc (bq (eu s) 0::(eu s).drop 1) 0 [] from by rw[←b],za d];rfl
   rw[e];unfold XD;rw[if_pos d];rfl
theorem Uy {f:Nat} {args:af} {e:Nat} {sh:List Kd} {y:V} (m: ∀G w B v,jO G w B y v↔aJ G y v) (n:nZ y=false) (h:ak fu f args (.tup [.nilsl,y])):ak fu f args (.tup [.sl e sh none [],y]):=by
 intro G w vs i g b;refine(h G w vs i g b).mono ?_;rintro l w' ⟨v,G',rfl,j,a,rfl,b,k⟩;refine⟨_,G',rfl,j,a,rfl,?_,k⟩;obtain⟨u,t,rfl,c,d⟩:=b.cons_inv;exact .cons (show jO _ _ _ (.sl e sh none []) u from GG (e:=e) (sh:=sh) c) d
theorem PV {s:ah} (a:s.length≤900000):Kj s=if(jc (eu s) 0 []).2.2≠0 then jc (eu s) 0 [] else if kU (jc (eu s) 0 []).1=true then jc (eu s) 0 [] else([],0,4):=by
 unfold Kj;rw[if_neg (by omega)]
theorem GN: ∀(xs:af) (a:Int) (t:af),(jc xs a t).2.2≠0→(jc xs a t).1=[]
 |[],a,t,h=>absurd rfl h
 |x::xs,a,t,h=>by
  by_cases b:mW (eO (aN x 0))=0
  ·rw[tT b] at h⊢;exact GN xs _ _ h
  ·rw[za b]
theorem Dw: ∀(xs:af) (a:Int) (t:af),¬(jc xs a t).2.2≠0→(jc xs a t).2=(0,0)
 |[],a,t,h=>rfl
 |x::xs,a,t,h=>by
  by_cases b:mW (eO (aN x 0))=0
  ·rw[tT b] at h⊢;exact Dw xs _ _ h
  ·rw[za b] at h;exact absurd b h
theorem Uz (s:ah) (j:aH (aK s) 900000=true):ak fu 8 [.str s] (.tup [.sl 30 kP none (Kj s).1,.agg [.int .i64 (Kj s).2.1,.int .i64 (Kj s).2.2]]):=by
 rw[ax,aA] at j;have g:s.length≤900000:=by omega
 have c:=Ux s g;have nil: ∀a b:Int,(Kj s)=([],a,b)→gF fu (fK fu VJ ((eu s).length+2) 3) ((eu s).length+2) 8 [V.str s] some=some (.tup [.nilsl,.agg [.int .i64 a,.int .i64 b]])→ak fu 8 [.str s] (.tup [.sl 30 kP none (Kj s).1,.agg [.int .i64 (Kj s).2.1,.int .i64 (Kj s).2.2]]):=fun a b h i=>by
  rw[h];exact Uy (fun G w B v=>Iff.rfl) rfl (aG jG PU _ 3 i)
 have d:=PV g;by_cases f:eu s=[]
 ·rw[if_pos f] at c
  refine nil 0 0 ?_ c;rw[d,f];unfold jc;rw[if_neg (by simp),if_pos LX]
 ·rw[if_neg f] at c
  unfold XD at c;by_cases e:(jc (eu s) 0 []).2.2≠0
  ·rw[if_pos e] at c d
   refine nil _ _ ?_ c;rw[d];exact Prod.ext (GN _ _ _ e) rfl
  ·rw[if_neg e] at c d
   by_cases hB:kU (jc (eu s) 0 []).1=true
   ·rw[if_pos hB] at c d
    rw[d,Dw _ _ _ e];exact aG jG PU _ 3 c
   ·rw[if_neg hB] at c d
    exact nil 0 4 d c
noncomputable def Kk (xs ys:af):Bool:=@decide (xs.length=ys.length∧ ∀i,i<xs.length→lA xs i=lA ys i∧lT xs i=lT ys i) (Classical.propDecidable _)
theorem ze {xs ys:af}:Kk xs ys=true↔xs.length=ys.length∧ ∀i,i<xs.length→lA xs i=lA ys i∧lT xs i=lT ys i:=by unfold Kk;exact @Ka _ (Classical.propDecidable _)
theorem Vu {xs ys:af} (h: ¬(xs.length=ys.length∧ ∀i,i<xs.length→lA xs i=lA ys i∧lT xs i=lT ys i)):Kk xs ys=false:=by
 cases a:Kk xs ys with
 |false=>rfl
 |true=>exact absurd (ze.1 a) h
theorem LZ (F:Nat) (xs ys:af) (b:Bool) (hl:xs.length=ys.length) (hx:xs.length≤1000000): ∀(j i n:Nat),i+j=xs.length→j<n→(∀k,k<i→lA xs k=lA ys k∧lT xs k=lT ys k)→
  y9 F [] n xs ys b (aQ xs) (i:Int) some=some (.bool (Kk xs ys))
 |0,i,n,g,l,h=>by
  obtain⟨n,rfl⟩: ∃k,n=k+1:=⟨n-1,by omega⟩
  rw[u7,aD (bC (by rw[aM];omega)),ze.2 ⟨hl,fun k c=>h k (by omega)⟩]
 |j+1,i,n,g,l,h=>by
  obtain⟨n,rfl⟩: ∃k,n=k+1:=⟨n-1,by omega⟩
  have m:aY .i64 (i:Int) 1=((i+1:Nat):Int):=by rw[bQ (by omega)];omega
  rw[u7,ai (bV (by rw[aM];omega)),ai (by rw[ay,ax,aU,aM];omega),ai (by rw[ay,ax,aU,aM];omega),m];by_cases a:lA xs i=lA ys i∧lT xs i=lT ys i
  ·refine(aD (show aS (av (ieq (lA xs i) (lA ys i)) (ieq (lT xs i) (lT ys i)))=false from by rw[cZ a.1,cZ a.2];rfl)).trans ?_
   exact LZ F xs ys b hl hx j (i+1) n (by omega) (by omega) fun k c=>by
    rcases Nat.lt_succ_iff_lt_or_eq.1 c with c|rfl
    ·exact h k c
    ·exact a
  ·rw[Vu fun f=>a (f.2 i (by omega))]
   exact ai (show aS (av (ieq (lA xs i) (lA ys i)) (ieq (lT xs i) (lT ys i)))=true from by
    by_cases d:lA xs i=lA ys i
    ·rw[bJ fun e=>a ⟨d,e⟩,cZ d];rfl
    ·rw[bJ d];rfl)
theorem Xa (xs ys:af) (hx:xs.length≤1000000):ak fu 10 [.sl 30 kP none xs,.sl 30 kP none ys] (.bool (Kk xs ys)):=by
 refine aG jG Eb (xs.length+1) 2 ?_;rw[RI];by_cases h:xs.length=ys.length
 ·rw[aD (by rw[cZ (by rw[aM,aM,h])];rfl)]
  exact LZ _ xs ys _ h hx xs.length 0 _ (by omega) (by omega) fun k a=>absurd a (Sc k)
 ·rw[ai (by rw[bJ (by rw[aM,aM];omega)];rfl),Vu fun b=>h b.1]
noncomputable def Oh (s:ah):af:=(Kj s).1
noncomputable def U0 (s:ah):Int:=(Kj s).2.1
noncomputable def U1 (s:ah):Int:=(Kj s).2.2
noncomputable def Wd:aO:=fun a=>match a with|[x,.int .i64 t]=>some (av (lC x) (aH (aQ (bY x)) 1000000),.tup [.int .i64 (sP (bY x) t),.int .i64 (wN (bY x) t)])|_=>none
noncomputable def Wh:aO:=fun a=>match a with|[x,.int .i64 n]=>some (av (lC x) (aH (aQ (bY x)) 1000000),.tup [.int .i64 (Cc (bY x) n),.bool (BB (bY x) n),.int .i64 (sV (bY x) n)])|_=>none
noncomputable def Wi:aO:=fun a=>match a with|[x]=>some (av (lC x) (aH (aQ (bY x)) 1000000),.tup [.str (qM (bY x)),.int .i64 (IG (bY x))])|_=>none
noncomputable def Wj:aO:=fun a=>match a with|[.str s]=>some (aH (aK s) 900000,.tup [.sl 30 kP none (Oh s),.agg [.int .i64 (U0 s),.int .i64 (U1 s)]])|_=>none
noncomputable def lRrS:aO:=fun a=>match a with|[.str s]=>some (aH (aK s) 900000,.tup [.sl 30 kP (some 0) (Oh s),.agg [.int .i64 (U0 s),.int .i64 (U1 s)]])|_=>none
noncomputable def Wk:aO:=fun a=>match a with|[x,y]=>some (av (av (lC x) (lC y)) (aH (aQ (bY x)) 1000000),.bool (Kk (bY x) (bY y)))|_=>none
noncomputable def lp6:List (Nat×aO):=(5,Wd)::(6,Wh)::(7,Wi)::(8,Wj)::(10,Wk)::(9,zF)::[]
noncomputable def YW:aO:=fun a=>match a with|[]=>some (true,.bool true)|_=>none
theorem XE {x:V} (a:av (lC x) (aH (aQ (bY x)) 1000000)=true):lC x=true∧(bY x).length≤1000000:=by
 rw[ay,ax,aM] at a;exact⟨a.1,by omega⟩
theorem UA (x:V) (t:Int) (a:av (lC x) (aH (aQ (bY x)) 1000000)=true):ak fu 5 [x,.int .i64 t] (.tup [.int .i64 (sP (bY x) t),.int .i64 (wN (bY x) t)]):=Mv (XE a).1 (Uk _ t (XE a).2)
theorem UB (x:V) (n:Int) (a:av (lC x) (aH (aQ (bY x)) 1000000)=true):ak fu 6 [x,.int .i64 n] (.tup [.int .i64 (Cc (bY x) n),.bool (BB (bY x) n),.int .i64 (sV (bY x) n)]):=Mv (XE a).1 (Ul _ n (XE a).2)
theorem UC (x:V) (a:av (lC x) (aH (aQ (bY x)) 1000000)=true):ak fu 7 [x] (.tup [.str (qM (bY x)),.int .i64 (IG (bY x))]):=Mv (XE a).1 (Uo _ (XE a).2)
theorem Zl {f:Nat} {x y r:V} (hx:lC x=true) (b:lC y=true) (h:ak fu f [.sl 30 [.int .i64,.int .i64] none (bY x),.sl 30 [.int .i64,.int .i64] none (bY y)] r):ak fu f [x,y] r:=by
 intro G w vs e d a;obtain⟨v,t,rfl,g,a⟩:=a.cons_inv;obtain⟨u,t,rfl,c,a⟩:=a.cons_inv;exact h G w _ e d (.cons (Jj hx g) (.cons (Jj b c) a))
theorem UD (x y:V) (a:av (av (lC x) (lC y)) (aH (aQ (bY x)) 1000000)=true):ak fu 10 [x,y] (.bool (Kk (bY x) (bY y))):=by
 rw[ay,ay,ax,aM] at a;exact Zl a.1.1 a.1.2 (Xa _ _ (by omega))
theorem PX:dP fu lp6:=by
 unfold lp6;refine dP.cons (fun args r h=>?_) (dP.cons (fun args r h=>?_) (dP.cons (fun args r h=>?_) (dP.cons (fun args r h=>?_) (dP.cons (fun args r h=>?_) (dP.cons (fun args r h=>?_) dP.nil)))));all_goals (revert h;intro h;first|unfold Wd at h|unfold Wh at h|unfold Wi at h|unfold Wj at h|unfold Wk at h|unfold zF at h)
 all_goals (split at h;rotate_left; · cases h)
 all_goals (simp only[aF,bP] at h;obtain⟨a,rfl⟩:=h)
 ·exact UA _ _ a
 ·exact UB _ _ a
 ·exact UC _ a
 ·exact Uz _ a
 ·exact UD _ _ a
 ·exact Av _ a
instance (A T:Nat→Int) (i:Nat):Decidable (Nt.Leap.Fz A T i):=by unfold Nt.Leap.Fz;infer_instance
noncomputable def lpD (xs:af):Bool:=(List.range xs.length).all (fun i=>decide (Nt.Leap.Fz (lA xs) (lT xs) i))&&decide (xs.length≤1000)
theorem Zm:kU=lpD:=funext fun xs=>by
 rw[Kc,iq];unfold lpD Nt.Leap.fA;rw[bB,jJ,Ka];exact and_congr_left fun _=>⟨fun h i a=>DD (h i (List.mem_range.1 a)),fun h i a=>B5 (h i (List.mem_range.2 a))⟩
noncomputable def smD (xs ys:af):Bool:=decide (xs.length=ys.length)&&(List.range xs.length).all fun i=>decide (lA xs i=lA ys i)&&decide (lT xs i=lT ys i)
theorem Zn:Kk=smD:=funext fun xs=>funext fun ys=>by
 rw[Kc,ze];unfold smD;rw[bB,jJ,Ka];refine and_congr_right fun _=>⟨fun h i a=>?_,fun h i a=>?_⟩
 ·have:=h i (List.mem_range.1 a)
  rw[bB];exact⟨DD this.1,DD this.2⟩
 ·have:=h i (List.mem_range.2 a)
  rw[bB] at this;exact⟨B5 this.1,B5 this.2⟩
noncomputable def utD (xs:af) (m:Int):Int:=Nt.Leap.KA (lA xs) (lT xs) xs.length m 4000 (Nt.Leap.least (m+1001) 971890963199)
theorem Vv {xs:af} (hB:kU xs=true) (m:Int):DJ xs m=utD xs m:=by
 obtain⟨h,hl⟩:=iq.1 hB;have a:=Nt.Leap.pz h (m+1001+1);refine zW h (Nt.Leap.wG h 4000 _ ?_ ?_ ?_);all_goals unfold Nt.Leap.least
 ·omega
 ·omega
 ·split
  ·exact .inr (by omega)
  ·exact .inl rfl
noncomputable def Wl (xs:af) (n:Int):Int:=if sV xs n=0 then utD xs n else 0
noncomputable def Wm (xs:af) (n:Int):Bool:=if sV xs n=0 then aZ (iP xs (utD xs n)) n else false
theorem PY {xs:af} {n:Int} (h:sV xs n=0):kU xs=true:=by
 unfold sV at h
 cases hB:kU xs with
 |true=>rfl
 |false=>rw[hB] at h;cases h
theorem Zo:Cc=Wl:=funext fun xs=>funext fun n=>by
 unfold Cc Wl;by_cases h:sV xs n=0
 ·rw[if_pos h,if_pos h,Vv (PY h)]
 ·rw[if_neg h,if_neg h]
theorem Zp:BB=Wm:=funext fun xs=>funext fun n=>by
 unfold BB Wm;by_cases h:sV xs n=0
 ·rw[if_pos h,if_pos h,Vv (PY h)]
 ·rw[if_neg h,if_neg h]
theorem UE (a:true=true):ak fu 4 [] (.bool true):=by
 refine aG jG PX 3 3 ?_;unfold lp6 Wd Wh Wi Wj Wk zF;try unfold lRrS
 rw[Zo,Zp];unfold Wl Wm;unfold sP;unfold wN sV qM IG Oh U0 U1 Kj;rw[Zn,Zm];kernel_rfl
end Nt.Ev.YtcmockbdkppglaaDoor.Lp
