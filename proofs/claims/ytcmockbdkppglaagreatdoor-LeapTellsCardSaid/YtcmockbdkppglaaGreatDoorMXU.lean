/-
  Leaps: what a source tells, both sides; whether two lists are one.
-/
import Derived.Test.YtcmockbdkppglaaGreatDoorMXT
set_option linter.all false
set_option maxRecDepth 100000
namespace Nt.Ev.YtcmockbdkppglaaGreatDoor.Lp
open Go Go.RowKit Nt Nt.Num Nt.Civil Nt.Fld Nt.Lin Go.Proofs.YtcmockbdkppglaaGreatDoor Nt.Ev Nt.Ev.YtcmockbdkppglaaGreatDoor
noncomputable def ZW (q:af×Int×Int):V:=if q.2.2≠0 then .tup [.nilsl,.agg [.int .i64 q.2.1,.int .i64 q.2.2]] else if j6 q.1=true then .tup [.sl 39 kP none q.1,.agg [.int .i64 0,.int .i64 0]] else .tup [.nilsl,.agg [.int .i64 0,.int .i64 4]]
noncomputable def rrO (q:af×Int×Int):V:=if q.2.2≠0 then .tup [.sl 39 kP (some 0) [],.agg [.int .i64 q.2.1,.int .i64 q.2.2]] else if j6 q.1=true then .tup [.sl 39 kP (some 0) q.1,.agg [.int .i64 0,.int .i64 0]] else .tup [.sl 39 kP (some 0) [],.agg [.int .i64 0,.int .i64 4]]
theorem A7 (t:af) (s:ah):(FD t s).length≤t.length+1:=by
 unfold FD;split
 ·unfold bS;simp
 ·omega
theorem rX {x:V} {xs:af} {a:Int} {t:af} (h:jS (dV (aL x 0))=0):iM (x::xs) a t=iM xs (a+1) (FD t (dV (aL x 0))):=by
 show(if jS (dV (aL x 0))=0 then _ else _)=_;rw[if_pos h]
theorem rY {x:V} {xs:af} {a:Int} {t:af} (h:jS (dV (aL x 0))≠0):iM (x::xs) a t=([],a+1,jS (dV (aL x 0))):=by
 show(if jS (dV (aL x 0))=0 then _ else _)=_;rw[if_neg h]
theorem Oe:j6 []=true:=jg.2 ⟨fun i a=>absurd a (X7 i),by decide⟩
theorem Og (F:Nat) (s:ah) (xs:af) (hx:xs.length≤900000) (b: ∀x∈xs,(dV (aL x 0)).length≤900000): ∀(j i n:Nat) (t:af),i+j=xs.length→j<n→t.length≤i→
  AY F [] n s xs (aM xs) (i:Int) t (i:Int) 0 0 some=some (ZW (iM (xs.drop i) i t))
 |0,i,n,t,e,f,d=>by
  obtain⟨n,rfl⟩: ∃k,n=k+1:=⟨n-1,by omega⟩
  (rw[xw];(conv=>zeta);rw[aB (aW (by rw[aO];omega)),QI (by omega),ai (show au true (aD (aM t) 1000000)=true from by rw[ay,ak,aO];exact⟨rfl,by omega⟩),kI,kI])
  unfold iM ZW;rw[if_neg (by simp)]
  cases hB:j6 t with
  |true=>rw[aB (show aT true=false from rfl),if_pos rfl]
  |false=>rw[ai (show aT false=true from rfl),if_neg (by decide)]
 |j+1,i,n,t,e,f,d=>by
  obtain⟨n,rfl⟩: ∃k,n=k+1:=⟨n-1,by omega⟩
  have hl:i<xs.length:=by omega
  have g:aV .i64 (i:Int) 1=((i+1:Nat):Int):=by rw[aZ (by omega)];omega
  have c:=b _ (get_mem hl)
  (rw[xw];(conv=>zeta);rw[ai (aY (by rw[aO];omega)),ai (by rw[ay,ak,aQ,aO];omega),ai (by rw[ay,ak,ak,av,aO];omega),pu hl,g])
  by_cases a:jS (dV (aL (bf xs (i:Int)) 0))=0
  ·have:=A7 t (dV (aL (bf xs (i:Int)) 0))
   rw[rX a,ai (dN a),Og F s xs hx b j (i+1) n _ (by omega) (by omega) (by omega)];rfl
  ·rw[rY a,aB (bD a)]
   unfold ZW;rw[if_pos a];rfl
theorem WY (s:ah) (g:s.length≤900000):dn dK (cu dK Vf ((dW s).length+2) 3) ((dW s).length+2) 11 [V.str s] some=some (if dW s=[] then .tup [.nilsl,.agg [.int .i64 0,.int .i64 0]] else ZW (iM (dW s) 0 [])):=by
 have h:=Ct s;have c:=Fj s g
 (rw[UC,aB (aW (by rw[av];omega)),ai (cO (by rw[av];omega)),Hf];(conv=>zeta))
 by_cases f:dW s=[]
 ·rw[if_pos f,aB (aW (by rw[f];decide)),kI,kI,ai (by rfl),aB (by rw[Oe];rfl)]
 ·rw[if_neg f]
  have hl:0<(dW s).length:=List.length_pos_iff.2 f;have a:=c _ (get_mem (i:=0) hl);have b:=pu (xs:=dW s) (i:=0) hl;rw[Ko] at b;have b:dW s=bf (dW s) 0::(dW s).drop 1:=b;have a:(dV (aL (bf (dW s) 0) 0)).length≤900000:=a;rw[ai (aY (by rw[aO];omega)),ai (by rw[ay,ak,aQ,aO];omega),ai (by rw[ay,ak,ak,av];exact⟨by omega,by decide⟩)];by_cases d:jS (dV (aL (bf (dW s) 0) 0))=0
  ·rw[ai (dN d)]
   have e:iM (dW s) 0 []=iM ((dW s).drop 1) 1 (FD [] (dV (aL (bf (dW s) 0) 0))):=by
    rw[show iM (dW s) 0 []=iM (bf (dW s) 0::(dW s).drop 1) 0 [] from by rw[←b],rX d];rfl
   rw[e];exact Og _ s (dW s) (by omega) c ((dW s).length-1) 1 _ _ (by omega) (by omega) (A7 [] _)
  ·rw[aB (bD d)]
   have e:iM (dW s) 0 []=([],1,jS (dV (aL (bf (dW s) 0) 0))):=by
    rw[show iM (dW s) 0 []=iM (bf (dW s) 0::(dW s).drop 1) 0 [] from by rw[←b],rY d];rfl
   rw[e];unfold ZW;rw[if_pos d];rfl
theorem WZ {f:Nat} {args:af} {e:Nat} {sh:List Kd} {y:V} (m: ∀G w B v,kz G w B y v↔aK G y v) (n:mD y=false) (h:aj dK f args (.tup [.nilsl,y])):aj dK f args (.tup [.sl e sh none [],y]):=by
 intro G w vs i g b;refine(h G w vs i g b).mono ?_;rintro l w' ⟨v,G',rfl,j,a,rfl,b,k⟩;refine⟨_,G',rfl,j,a,rfl,?_,k⟩;obtain⟨u,t,rfl,c,d⟩:=b.cons_inv;exact .cons (show kz _ _ _ (.sl e sh none []) u from Jb (e:=e) (sh:=sh) c) d
theorem Lr {s:ah} (a:s.length≤900000):Kl s=if(iM (dW s) 0 []).2.2≠0 then iM (dW s) 0 [] else if j6 (iM (dW s) 0 []).1=true then iM (dW s) 0 [] else([],0,4):=by
 unfold Kl;rw[if_neg (by omega)]
theorem Cu: ∀(xs:af) (a:Int) (t:af),(iM xs a t).2.2≠0→(iM xs a t).1=[]
 |[],a,t,h=>absurd rfl h
 |x::xs,a,t,h=>by
  by_cases b:jS (dV (aL x 0))=0
  ·rw[rX b] at h⊢;exact Cu xs _ _ h
  ·rw[rY b]
theorem yL: ∀(xs:af) (a:Int) (t:af),¬(iM xs a t).2.2≠0→(iM xs a t).2=(0,0)
 |[],a,t,h=>rfl
 |x::xs,a,t,h=>by
  by_cases b:jS (dV (aL x 0))=0
  ·rw[rX b] at h⊢;exact yL xs _ _ h
  ·rw[rY b] at h;exact absurd b h
theorem W9 (s:ah) (j:aD (aF s) 900000=true):aj dK 11 [.str s] (.tup [.sl 39 kP none (Kl s).1,.agg [.int .i64 (Kl s).2.1,.int .i64 (Kl s).2.2]]):=by
 rw[ak,av] at j;have g:s.length≤900000:=by omega
 have c:=WY s g;have nil: ∀a b:Int,(Kl s)=([],a,b)→dn dK (cu dK Vf ((dW s).length+2) 3) ((dW s).length+2) 11 [V.str s] some=some (.tup [.nilsl,.agg [.int .i64 a,.int .i64 b]])→aj dK 11 [.str s] (.tup [.sl 39 kP none (Kl s).1,.agg [.int .i64 (Kl s).2.1,.int .i64 (Kl s).2.2]]):=fun a b h i=>by
  rw[h];exact WZ (fun G w B v=>Iff.rfl) rfl (ax gD Lm _ 3 i)
 have d:=Lr g;by_cases f:dW s=[]
 ·rw[if_pos f] at c
  refine nil 0 0 ?_ c;rw[d,f];unfold iM;rw[if_neg (by simp),if_pos Oe]
 ·rw[if_neg f] at c
  unfold ZW at c;by_cases e:(iM (dW s) 0 []).2.2≠0
  ·rw[if_pos e] at c d
   refine nil _ _ ?_ c;rw[d];exact Prod.ext (Cu _ _ _ e) rfl
  ·rw[if_neg e] at c d
   by_cases hB:j6 (iM (dW s) 0 []).1=true
   ·rw[if_pos hB] at c d
    rw[d,yL _ _ _ e];exact ax gD Lm _ 3 c
   ·rw[if_neg hB] at c d
    exact nil 0 4 d c
theorem Jk (F:Nat) (s:ah) (xs c:af) (hx:xs.length≤900000) (b: ∀x∈xs,(dV (aL x 0)).length≤900000): ∀(j i n:Nat) (t:af),i+j=xs.length→j<n→t.length≤i→
  vT F [] n s c t xs (aM xs) (i:Int) 0 0 some=some (rrO (iM (xs.drop i) i t))
 |0,i,n,t,g,h,f=>by
  obtain⟨n,rfl⟩: ∃k,n=k+1:=⟨n-1,by omega⟩
  (rw[xx];(conv=>zeta);rw[aB (aW (by rw[aO];omega)),QI (by omega),ai (show au true (aD (aM t) 1000000)=true from by rw[ay,ak,aO];exact⟨rfl,by omega⟩)])
  unfold iM rrO;rw[if_neg (by simp)]
  cases hB:j6 t with
  |true=>rw[aB (show aT true=false from rfl),if_pos rfl]
  |false=>rw[ai (show aT false=true from rfl),if_neg (by decide)]
 |j+1,i,n,t,g,h,f=>by
  obtain⟨n,rfl⟩: ∃k,n=k+1:=⟨n-1,by omega⟩
  have hl:i<xs.length:=by omega
  have l:aV .i64 (i:Int) 1=((i+1:Nat):Int):=by rw[aZ (by omega)];omega
  have d:=b _ (get_mem hl)
  (rw[xx];(conv=>zeta);rw[ai (aY (by rw[aO];omega)),ai (by rw[ay,ak,aQ,aO];omega),ai (by rw[ak,av];omega),pu hl,l])
  by_cases a:jS (dV (aL (bf xs (i:Int)) 0))=0
  ·have e:=A7 t (dV (aL (bf xs (i:Int)) 0))
   rw[rX a,aB (by rw[dN a];rfl)];refine Eq.trans ?_ ((Jk F s xs c hx b j (i+1) n (FD t (dV (aL (bf xs (i:Int)) 0))) (by omega) (by omega) (by omega)).trans rfl)
   cases hB:Ku (dV (aL (bf xs (i:Int)) 0)) with
   |true=>
    rw[ai rfl,ai (app1 (by omega))];unfold FD Xy Xz;rw[hB,if_pos rfl,if_pos rfl,if_pos rfl]
   |false=>
    rw[aB rfl];unfold FD;rw[hB,if_neg (by decide)]
  ·rw[rY a,ai (by rw[bD a];rfl)]
   unfold rrO;rw[if_pos a];rfl
theorem Xa (s:ah) (e:aD (aF s) 900000=true):aj dK 12 [.str s] (.tup [.sl 39 kP (some 0) (Kl s).1,.agg [.int .i64 (Kl s).2.1,.int .i64 (Kl s).2.2]]):=by
 rw[ak,av] at e;have d:s.length≤900000:=by omega
 have f:=Ct s;have c:=Fj s d;refine ax gD Lm ((dW s).length+1) 3 ?_;rw[UD,aB (aW (by rw[av];omega)),ai (cO (by rw[av];omega))];refine(Jk _ s (dW s) [] (by omega) c (dW s).length 0 _ [] (by omega) (by omega) (iI _)).trans ?_;rw[Ko];have a:=Lr d;show some (rrO (iM (dW s) 0 []))=_;unfold rrO;by_cases b:(iM (dW s) 0 []).2.2≠0
 ·rw[if_pos b] at a⊢
  rw[a,Cu _ _ _ b]
 ·rw[if_neg b] at a⊢
  by_cases hB:j6 (iM (dW s) 0 []).1=true
  ·rw[if_pos hB] at a⊢
   rw[a,yL _ _ _ b]
  ·rw[if_neg hB] at a⊢
   rw[a]
noncomputable def QW (xs ys:af):Bool:=@decide (xs.length=ys.length∧ ∀i,i<xs.length→lA xs i=lA ys i∧lT xs i=lT ys i) (Classical.propDecidable _)
theorem A8 {xs ys:af}:QW xs ys=true↔xs.length=ys.length∧ ∀i,i<xs.length→lA xs i=lA ys i∧lT xs i=lT ys i:=by unfold QW;exact @Ol _ (Classical.propDecidable _)
theorem X4 {xs ys:af} (h: ¬(xs.length=ys.length∧ ∀i,i<xs.length→lA xs i=lA ys i∧lT xs i=lT ys i)):QW xs ys=false:=by
 cases a:QW xs ys with
 |false=>rfl
 |true=>exact absurd (A8.1 a) h
theorem Oh (F:Nat) (xs ys:af) (b:Bool) (hl:xs.length=ys.length) (hx:xs.length≤1000000): ∀(j i n:Nat),i+j=xs.length→j<n→(∀k,k<i→lA xs k=lA ys k∧lT xs k=lT ys k)→
  AZ F [] n xs ys b (aM xs) (i:Int) some=some (.bool (QW xs ys))
 |0,i,n,g,l,h=>by
  obtain⟨n,rfl⟩: ∃k,n=k+1:=⟨n-1,by omega⟩
  rw[xA,aB (aW (by rw[aO];omega)),A8.2 ⟨hl,fun k c=>h k (by omega)⟩]
 |j+1,i,n,g,l,h=>by
  obtain⟨n,rfl⟩: ∃k,n=k+1:=⟨n-1,by omega⟩
  have m:aV .i64 (i:Int) 1=((i+1:Nat):Int):=by rw[aZ (by omega)];omega
  rw[xA,ai (aY (by rw[aO];omega)),ai (by rw[ay,ak,aQ,aO];omega),ai (by rw[ay,ak,aQ,aO];omega),m];by_cases a:lA xs i=lA ys i∧lT xs i=lT ys i
  ·refine(aB (show aT (au (ieq (lA xs i) (lA ys i)) (ieq (lT xs i) (lT ys i)))=false from by rw[dN a.1,dN a.2];rfl)).trans ?_
   exact Oh F xs ys b hl hx j (i+1) n (by omega) (by omega) fun k c=>by
    rcases Nat.lt_succ_iff_lt_or_eq.1 c with c|rfl
    ·exact h k c
    ·exact a
  ·rw[X4 fun f=>a (f.2 i (by omega))]
   exact ai (show aT (au (ieq (lA xs i) (lA ys i)) (ieq (lT xs i) (lT ys i)))=true from by
    by_cases d:lA xs i=lA ys i
    ·rw[bD fun e=>a ⟨d,e⟩,dN d];rfl
    ·rw[bD d];rfl)
theorem Zw (xs ys:af) (hx:xs.length≤1000000):aj dK 13 [.sl 39 kP none xs,.sl 39 kP none ys] (.bool (QW xs ys)):=by
 refine ax gD xU (xs.length+1) 2 ?_;rw[UE];by_cases h:xs.length=ys.length
 ·rw[aB (by rw[dN (by rw[aO,aO,h])];rfl)]
  exact Oh _ xs ys _ h hx xs.length 0 _ (by omega) (by omega) fun k a=>absurd a (X7 k)
 ·rw[ai (by rw[bD (by rw[aO,aO];omega)];rfl),X4 fun b=>h b.1]
noncomputable def Vg (s:ah):af:=(Kl s).1
noncomputable def lQ1 (s:ah):Int:=(Kl s).2.1
noncomputable def lQ2 (s:ah):Int:=(Kl s).2.2
noncomputable def Vv:aN:=fun a=>match a with|[x,.int .i64 t]=>some (au (jT x) (aD (aM (bB x)) 1000000),.tup [.int .i64 (UT (bB x) t),.int .i64 (QT (bB x) t)])|_=>none
noncomputable def Vw:aN:=fun a=>match a with|[x,.int .i64 n]=>some (au (jT x) (aD (aM (bB x)) 1000000),.tup [.int .i64 (QU (bB x) n),.bool (QV (bB x) n),.int .i64 (Ht (bB x) n)])|_=>none
noncomputable def Vx:aN:=fun a=>match a with|[x]=>some (au (jT x) (aD (aM (bB x)) 1000000),.tup [.str (UU (bB x)),.int .i64 (UW (bB x))])|_=>none
noncomputable def YX:aN:=fun a=>match a with|[.str s]=>some (aD (aF s) 900000,.tup [.sl 39 kP none (Vg s),.agg [.int .i64 (lQ1 s),.int .i64 (lQ2 s)]])|_=>none
noncomputable def YY:aN:=fun a=>match a with|[.str s]=>some (aD (aF s) 900000,.tup [.sl 39 kP (some 0) (Vg s),.agg [.int .i64 (lQ1 s),.int .i64 (lQ2 s)]])|_=>none
noncomputable def YZ:aN:=fun a=>match a with|[x,y]=>some (au (au (jT x) (jT y)) (aD (aM (bB x)) 1000000),.bool (QW (bB x) (bB y)))|_=>none
noncomputable def lp6:List (Nat×aN):=(5,Vv)::(6,Vv)::(7,Vw)::(8,Vw)::(9,Vx)::(10,Vx)::(11,YX)::(12,YY)::(13,YZ)::(14,tN)::(15,tN)::[]
noncomputable def lLvS:aN:=fun a=>match a with|[]=>some (true,.bool true)|_=>none
noncomputable def lp7:List (Nat×aN):=(4,lLvS)::lp6
theorem UH (F xs t n s) (K:V→Option V):
 dn dK (cu dK lp7 F 3) F 3 [V.sl 39 [Kd.int .i64,Kd.int .i64] none xs,V.int .i64 t,V.int .i64 n,V.str s] K=
 let A:=au true (aD (aM xs) 1000000);let B:=K (V.bool false);let C:=K (V.bool true);let D:=aD (aF s) 900000;sel (aU 100 (aM xs)) C (sel (aU 3000 (aF s)) C (sel A (sel A (sel A (sel A (sel A (sel A (sel D (sel D (sel (ieq (UT xs t) (UT xs t)) (sel (ieq (QT xs t) (QT xs t)) (sel (ieq (QU xs n) (QU xs n)) (sel (beq (QV xs n) (QV xs n)) (sel (ieq (Ht xs n) (Ht xs n)) (sel (seq (UU xs) (UU xs)) (sel (ieq (UW xs) (UW xs)) (sel (au (au true true) (aD (aM (Vg s)) 1000000)) (sel (QW (Vg s) (Vg s)) (sel (au (ieq (lQ1 s) (lQ1 s)) (ieq (lQ2 s) (lQ2 s))) (sel A (sel A (sel (beq (j6 xs) (j6 xs)) C B) none) none) B) B) none) B) B) B) B) B) B) B) none) none) none) none) none) none) none) none)):=by kernel_rfl
theorem QH {x:V} (a:au (jT x) (aD (aM (bB x)) 1000000)=true):jT x=true∧(bB x).length≤1000000:=by
 rw[ay,ak,aO] at a;exact⟨a.1,by omega⟩
theorem Xb (x:V) (t:Int) (a:au (jT x) (aD (aM (bB x)) 1000000)=true):aj dK 5 [x,.int .i64 t] (.tup [.int .i64 (UT (bB x) t),.int .i64 (QT (bB x) t)]):=Bh (QH a).1 (WM _ t (QH a).2)
theorem nK (x:V) (t:Int) (a:au (jT x) (aD (aM (bB x)) 1000000)=true):aj dK 6 [x,.int .i64 t] (.tup [.int .i64 (UT (bB x) t),.int .i64 (QT (bB x) t)]):=Bh (QH a).1 (Uu _ t (QH a).2)
theorem Xc (x:V) (n:Int) (a:au (jT x) (aD (aM (bB x)) 1000000)=true):aj dK 7 [x,.int .i64 n] (.tup [.int .i64 (QU (bB x) n),.bool (QV (bB x) n),.int .i64 (Ht (bB x) n)]):=Bh (QH a).1 (WN _ n (QH a).2)
theorem nR (x:V) (n:Int) (a:au (jT x) (aD (aM (bB x)) 1000000)=true):aj dK 8 [x,.int .i64 n] (.tup [.int .i64 (QU (bB x) n),.bool (QV (bB x) n),.int .i64 (Ht (bB x) n)]):=Bh (QH a).1 (Uv _ n (QH a).2)
theorem Xd (x:V) (a:au (jT x) (aD (aM (bB x)) 1000000)=true):aj dK 9 [x] (.tup [.str (UU (bB x)),.int .i64 (UW (bB x))]):=Bh (QH a).1 (WQ _ (QH a).2)
theorem nL (x:V) (a:au (jT x) (aD (aM (bB x)) 1000000)=true):aj dK 10 [x] (.tup [.str (UU (bB x)),.int .i64 (UW (bB x))]):=Bh (QH a).1 (Uz _ (QH a).2)
theorem conL2 {f:Nat} {x y r:V} (hx:jT x=true) (b:jT y=true) (h:aj dK f [.sl 39 [.int .i64,.int .i64] none (bB x),.sl 39 [.int .i64,.int .i64] none (bB y)] r):aj dK f [x,y] r:=by
 intro G w vs e d a;obtain⟨v,t,rfl,g,a⟩:=a.cons_inv;obtain⟨u,t,rfl,c,a⟩:=a.cons_inv;exact h G w _ e d (.cons (Lh hx g) (.cons (Lh b c) a))
theorem Xe (x y:V) (a:au (au (jT x) (jT y)) (aD (aM (bB x)) 1000000)=true):aj dK 13 [x,y] (.bool (QW (bB x) (bB y))):=by
 rw[ay,ay,ak,aO] at a;exact conL2 a.1.1 a.1.2 (Zw _ _ (by omega))
theorem Sn:bT dK lp6:=by
 unfold lp6;refine bT.cons (fun args r h=>?_) (bT.cons (fun args r h=>?_) (bT.cons (fun args r h=>?_) (bT.cons (fun args r h=>?_) (bT.cons (fun args r h=>?_) (bT.cons (fun args r h=>?_) (bT.cons (fun args r h=>?_) (bT.cons (fun args r h=>?_) (bT.cons (fun args r h=>?_) (bT.cons (fun args r h=>?_) (bT.cons (fun args r h=>?_) bT.nil))))))))));all_goals (revert h;intro h;first|unfold Vv at h|unfold Vw at h|unfold Vx at h|unfold YX at h|unfold YY at h|unfold YZ at h|unfold tN at h)
 all_goals (split at h;rotate_left; · cases h)
 all_goals (simp only[aI,bU] at h;obtain⟨a,rfl⟩:=h)
 ·exact Xb _ _ a
 ·exact nK _ _ a
 ·exact Xc _ _ a
 ·exact nR _ _ a
 ·exact Xd _ a
 ·exact nL _ a
 ·exact W9 _ a
 ·exact Xa _ a
 ·exact Xe _ _ a
 ·exact Cr _ a
 ·exact fw _ a
instance (A T:Nat→Int) (i:Nat):Decidable (Nt.Leap.Ia A T i):=by unfold Nt.Leap.Ia;infer_instance
noncomputable def lpD (xs:af):Bool:=(List.range xs.length).all (fun i=>decide (Nt.Leap.Ia (lA xs) (lT xs) i))&&decide (xs.length≤1000)
theorem lpB_D:j6=lpD:=funext fun xs=>by
 rw[D8,jg];unfold lpD Nt.Leap.iU;rw[bL,ko,Ol];exact and_congr_left fun _=>⟨fun h i a=>Dx (h i (List.mem_range.1 a)),fun h i a=>D7 (h i (List.mem_range.2 a))⟩
noncomputable def smD (xs ys:af):Bool:=decide (xs.length=ys.length)&&(List.range xs.length).all fun i=>decide (lA xs i=lA ys i)&&decide (lT xs i=lT ys i)
theorem smL_D:QW=smD:=funext fun xs=>funext fun ys=>by
 rw[D8,A8];unfold smD;rw[bL,ko,Ol];refine and_congr_right fun _=>⟨fun h i a=>?_,fun h i a=>?_⟩
 ·have:=h i (List.mem_range.1 a)
  rw[bL];exact⟨Dx this.1,Dx this.2⟩
 ·have:=h i (List.mem_range.2 a)
  rw[bL] at this;exact⟨D7 this.1,D7 this.2⟩
noncomputable def utD (xs:af) (m:Int):Int:=Nt.Leap.M0 (lA xs) (lT xs) xs.length m 4000 (Nt.Leap.least (m+1001) 971890963199)
theorem X5 {xs:af} (hB:j6 xs=true) (m:Int):QE xs m=utD xs m:=by
 obtain⟨h,hl⟩:=jg.1 hB;have a:=Nt.Leap.qB h (m+1001+1);refine Lg h (Nt.Leap.Fg h 4000 _ ?_ ?_ ?_);all_goals unfold Nt.Leap.least
 ·omega
 ·omega
 ·split
  ·exact .inr (by omega)
  ·exact .inl rfl
noncomputable def Y0 (xs:af) (n:Int):Int:=if Ht xs n=0 then utD xs n else 0
noncomputable def Y1 (xs:af) (n:Int):Bool:=if Ht xs n=0 then aU (jR xs (utD xs n)) n else false
theorem Sq {xs:af} {n:Int} (h:Ht xs n=0):j6 xs=true:=by
 unfold Ht at h
 cases hB:j6 xs with
 |true=>rfl
 |false=>rw[hB] at h;cases h
theorem utT_D:QU=Y0:=funext fun xs=>funext fun n=>by
 unfold QU Y0;by_cases h:Ht xs n=0
 ·rw[if_pos h,if_pos h,X5 (Sq h)]
 ·rw[if_neg h,if_neg h]
theorem utM_D:QV=Y1:=funext fun xs=>funext fun n=>by
 unfold QV Y1;by_cases h:Ht xs n=0
 ·rw[if_pos h,if_pos h,X5 (Sq h)]
 ·rw[if_neg h,if_neg h]
theorem Xf (a:true=true):aj dK 4 [] (.bool true):=by
 refine ax gD Sn 3 3 ?_;unfold lp6 Vv Vw Vx YX YY YZ tN;rw[utT_D,utM_D];unfold Y0 Y1;unfold UT;unfold QT Ht UU UW Vg lQ1 lQ2 Kl;rw[smL_D,lpB_D];kernel_rfl
theorem Zx:bT dK lp7:=by
 unfold lp7;refine bT.cons (fun args r h=>?_) Sn;all_goals (revert h;intro h;first|unfold lLvS at h)
 all_goals (split at h;rotate_left; · cases h)
 all_goals (simp only[aI,bU] at h;obtain⟨a,rfl⟩:=h)
 ·exact Xf rfl
theorem Jl: ∀(xs:af) (a:Int) (t:af),(iM xs a t).1.length≤t.length+xs.length
 |[],a,t=>by unfold iM;simp
 |x::xs,a,t=>by
  by_cases b:jS (dV (aL x 0))=0
  ·rw[rX b]
   have d:=Jl xs (a+1) (FD t (dV (aL x 0)));have c:=A7 t (dV (aL x 0));rw[fQ];omega
  ·rw[rY b];simp
theorem Xg (s:ah) (a:s.length≤900000):(Vg s).length≤900000:=by
 have h:=Jl (dW s) 0 [];have b:=Ct s;rw[nN] at h;unfold Vg;rw[Lr a];split
 ·omega
 ·split
  ·omega
  ·simp
theorem UI (xs:af):QW xs xs=true:=A8.2 ⟨rfl,fun _ _=>⟨rfl,rfl⟩⟩
theorem Xh (xs:af) (t n:Int) (s:ah):aj dK 3 [.sl 39 kP none xs,.int .i64 t,.int .i64 n,.str s] (.bool true):=by
 refine ax gD Zx 3 3 ?_
 (rw[UH];(conv=>zeta))
 by_cases h:100<xs.length
 ·rw[ai (aY (by rw[aO];omega))]
 rw[aB (aW (by rw[aO];omega))];by_cases g:3000<s.length
 ·rw[ai (aY (by rw[av];omega))]
 have g1:au true (aD (aM xs) 1000000)=true:=by rw[ay,ak,aO];exact⟨rfl,by omega⟩
 have d:aD (aF s) 900000=true:=cO (by rw[av];omega);have f:=Xg s (by omega);have e:au true (aD (aM (Vg s)) 1000000)=true:=by rw[ay,ak,aO];exact⟨rfl,by omega⟩
 have b: ∀c:Bool,beq c c=true:=fun c=>by cases c<;>rfl
 have q: ∀a:ah,seq a a=true:=fun a=>by rw[nZ]
 rw[aB (aW (by rw[av];omega))];simp only[g1,d,e,b,q,Im,UI,gt,show au true true=true from rfl]
end Nt.Ev.YtcmockbdkppglaaGreatDoor.Lp
