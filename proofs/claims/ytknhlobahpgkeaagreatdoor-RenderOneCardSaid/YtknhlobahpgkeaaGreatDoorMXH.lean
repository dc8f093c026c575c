/-
  A table's source: Text, of both sides; whether a table may be written.
-/
import Derived.Test.YtknhlobahpgkeaaGreatDoorMXG
set_option linter.all false
set_option maxRecDepth 100000
namespace Nt.Ev.YtknhlobahpgkeaaGreatDoor.Rx
open Go Go.RowKit Nt Nt.Num Nt.Civil Nt.Fld Go.Proofs.YtknhlobahpgkeaaGreatDoor Nt.Ev.YtknhlobahpgkeaaGreatDoor Nt.Ev.YtknhlobahpgkeaaGreatDoor.Lk
variable [kM]
def cT (f:V→af) (l:ah):Nat→Nat→af|0,_=>[]|k+1,i=>f (aG l i)++cT f l k (i+1)
def foldI (g:Int→V→Int) (l:ah):Nat→Nat→Int→Int|0,_,w=>w|k+1,i,w=>foldI g l k (i+1) (g w (aG l i))
noncomputable def tR (e:V):af:=ve [82,117,108,101] (V6 e)
noncomputable def tL (e:V):af:=ve [76,105,110,107] (fvL e)
noncomputable def tZ (e:V):af:=znT (zN e) (Pt e)
noncomputable def gRw (w:Int) (e:V):Int:=Aj w (feR e) (rC (V6 e))
noncomputable def Pv (w:Int) (e:V):Int:=Aj w (feL e) (rC (fvL e))
noncomputable def Pw (xs:ah) (w:Int) (e:V):Int:=znW w xs (zN e) (Pt e)
def AL (w:Int) (s:af):V:=.tup [.str (sel (aL (ieq w 0)) [] s),.int .i64 (sel (aL (ieq w 0)) 4 0)]
theorem tR_len (e:V):(tR e).length≤1500:=xu (FW e) (by show 4≤950;omega)
theorem tL_len (e:V):(tL e).length≤1500:=xu (FX e) (by show 4≤950;omega)
theorem UD {e:V} (h:gZ e=true):(zN e).length≤900∧zoK (Pt e)=true∧(Pt e).length≤256:=by unfold gZ at h;obtain⟨b,a⟩:=aO h;exact⟨l9 b,a,zoK_12 a⟩
theorem tZ_len {e:V} (h:gZ e=true):(tZ e).length≤(Pt e).length*1500:=by obtain⟨a,c,b⟩:=UD h;exact eT_len (zN e) (Pt e) a (Pt e).length 0
theorem wu (l:ah) (k i:Nat):rD l (k+1) i=(Pt (aG l i)).length+rD l k (i+1):=rfl
theorem erN_zero (l:ah) (i:Nat):rD l 0 i=0:=rfl
theorem rgK_iff {xs zs a:ah} (h:YE xs zs a=true):xs.length≤450∧(zs.length≤1024∧rD zs zs.length 0≤1400)∧a.length≤1024∧xs.all gR=true∧zs.all gZ=true:=by unfold YE at h;obtain⟨g,e⟩:=aO h;obtain⟨m,f⟩:=aO e;obtain⟨i,b⟩:=aO f;obtain⟨j,d⟩:=aO b;obtain⟨c,l⟩:=aO m;exact⟨YF (k:=450) g,⟨YF (k:=1024) c,Fw l⟩,YF (k:=1024) i,j,d⟩
theorem rs_of {xs:ah} (c:xs.length≤450) (a:xs.all gR=true):kP xs=true:=by show(xs.all Oc.rOk&&av (ay xs) 1000)=true;rw[bC];refine⟨List.all_eq_true.2 fun x b=>?_,bg (by rw[aD];omega)⟩;have:=List.all_eq_true.1 a x b;unfold gR at this;exact(aO (aO this).1).2
theorem c0:((0:Nat):Int)=0:=rfl
theorem UE (a b:af):aX (aF a) (aF b)=aF (a++b):=by unfold aX aF;simp
theorem vb_bv (l:af):fZ (aF l)=l:=Nt.Ev.YtknhlobahpgkeaaGreatDoor.bvb l
theorem UF {s:af} {m:Int} (h:(s.length:Int)≤m):av (ay (aF s)) m=true:=bg (by rw[aD,bv_len];omega)
theorem tx5 (F:Nat) (a b c d:ah) (l j:Int) (e:ah) (h g:Int) (f p q r:ah) (A:f.length≤1024) (K:V→Option V): ∀(k i:Nat) (s:af) (w:Int) (G:Nat),i+k=f.length→k<G→s.length+k*1500≤4400000→
  zz F [] G a b c d l j e h g f (ay f) i (aF s) w p q r K=K (AL (foldI Pv f k i w) (s++cT tL f k i)):=by
 intro k;induction k with
 |zero=>
  intro i s w G t n v;obtain⟨G,rfl⟩:=Am (show G≠0 by omega)
  (rw[EW];(conv=>zeta);rw[aK (mX (by omega)),vb_bv])
  unfold AL foldI cT;rw[JQ]
  cases aL (ieq w 0)<;>rfl
 |succ k y=>
  intro i s w G t n v;obtain⟨G,rfl⟩:=Am (show G≠0 by omega);obtain⟨x,o,u⟩:=jN (xs:=f) (i:=i) (by omega) (by omega)
  (rw[EW];(conv=>zeta);rw[ax x,ax o,u])
  show sel (ak true (ak (Ct [76,105,110,107] (fvL (aG f i))) (av (ay (aF s)) 9000000))) (zz F [] G a b c d l j e h g f (ay f) ((i+1:Nat):Int) (aX (aF s) (aF (tL (aG f i)))) (Pv w (aG f i)) p q r K) none=_;have z:=tL_len (aG f i);rw[zA (FX (aG f i)) (by show 4≤1000;omega),UF (m:=9000000) (by omega),ax Gu,UE,y (i+1) _ _ G (by omega) (by omega) (by rw[iH];omega),DX];rfl
theorem tx4 (F:Nat) (x:1026≤F) (a b c d:ah) (n l:Int) (e:ah) (j g:Int) (f p q r:ah) (s:f.length≤1024) (w:Int) (K:V→Option V):
  UB F [] F a b c d n l e j g f (ay f) 0 w p q r K=K (AL (foldI Pv f f.length 0 w) (cT tL f f.length 0)):=by
 obtain⟨G,rfl⟩:=Am (show F≠0 by omega)
 (rw[SX];(conv=>zeta))
 by_cases o:f=[]
 ·subst o
  rw[aK (by rfl)];unfold AL;show sel (aL (ieq w 0)) _ _=K (.tup [.str (sel (aL (ieq w 0)) [] []),.int .i64 (sel (aL (ieq w 0)) 4 0)])
  cases aL (ieq w 0)<;>rfl
 obtain⟨k,t⟩: ∃k,f.length=k+1:=⟨f.length-1,by have:=List.length_pos_iff.2 o;omega⟩
 obtain⟨m,h,u⟩:=jN (xs:=f) (i:=0) (by omega) (by omega);have m:aW 0 (ay f)=true:=m;have h:ak (av 0 0) (aW 0 (ay f))=true:=h;rw[ax m,ax h,show bJ .i64 (0:Int) 1=((1:Nat):Int) from rfl];show sel (ak true (ak (Ct [76,105,110,107] (fvL (aG f 0))) (av (ay []) 9000000))) (zz (G+1) [] G a b c d n l e j g f (ay f) ((1:Nat):Int) (aF (tL (aG f 0))) (Pv w (aG f 0)) p q r K) none=_;have v:=tL_len (aG f 0);rw[zA (FX (aG f 0)) (by show 4≤1000;omega),show av (ay []) 9000000=true from rfl,ax Gu,tx5 (G+1) a b c d n l e j g f p q r s K k 1 _ _ G (by omega) (by omega) (by omega),t];rfl
theorem tx3 (F:Nat) (C:1026≤F) (a b c d:ah) (j h:Int) (zs xs q f:ah) (v:f.length≤1024) (y:kP xs=true) (u:zs.all gZ=true) (D:zs.length≤1024∧rD zs zs.length 0≤1400) (K:V→Option V): ∀(k i:Nat) (s:af) (w:Int) (G:Nat),i+k=zs.length→k<G→s.length+rD zs k i*1500≤2800000→
  zy F [] G a b c d j h zs (ay zs) i (aF s) w xs q f K=K (AL (foldI Pv f f.length 0 (foldI (Pw xs) zs k i w)) (s++cT tZ zs k i++cT tL f f.length 0)):=by
 intro k;induction k with
 |zero=>
  intro i s w G t n g;rw[erN_zero,acR] at g;obtain⟨G,rfl⟩:=Am (show G≠0 by omega)
  (rw[EV];(conv=>zeta);rw[aK (mX (by omega))])
  have e:=tx5 F a b c d j h zs (ay zs) i f xs q f v K f.length 0 s w F (by omega) (by omega) (by omega);rw[c0] at e;rw[e];show _=K (AL (foldI Pv f f.length 0 w) (s++[]++cT tL f f.length 0));rw[JQ]
 |succ k A=>
  intro i s w G t n g;obtain⟨G,rfl⟩:=Am (show G≠0 by omega);obtain⟨z,o,x⟩:=jN (xs:=zs) (i:=i) (by omega) (by omega);have l:=qN u (i:=i) (by omega);obtain⟨g1,r,E⟩:=UD l;have p:znK xs (zN (aG zs i)) (Pt (aG zs i))=true:=by unfold znK;rw[y,r,bg (show aA (zN (aG zs i))≤900 by rw[aI];omega)];rfl
  (rw[EV];(conv=>zeta);rw[ax z,ax o,x])
  show sel (ak true (ak (znK xs (zN (aG zs i)) (Pt (aG zs i))) (av (ay (aF s)) 4400000))) (zy F [] G a b c d j h zs (ay zs) ((i+1:Nat):Int) (aX (aF s) (aF (tZ (aG zs i)))) (Pw xs w (aG zs i)) xs q f K) none=_;have B:=tZ_len l;rw[wu] at g;rw[p,UF (m:=4400000) (by omega),ax Gu,UE,A (i+1) _ _ G (by omega) (by omega) (by rw[iH];omega)];show _=K (AL (foldI Pv f f.length 0 (foldI (Pw xs) zs k (i+1) (Pw xs w (aG zs i)))) (s++(tZ (aG zs i)++cT tZ zs k (i+1))++cT tL f f.length 0));simp only[DX]
theorem tx2 (F:Nat) (m:1026≤F) (a b c d:ah) (h g:Int) (zs xs q f:ah) (o:f.length≤1024) (p:kP xs=true) (n:zs.all gZ=true) (z:zs.length≤1024∧rD zs zs.length 0≤1400) (K:V→Option V): ∀(k i:Nat) (w:Int) (G:Nat),i+k=zs.length→k<G→rD zs k i≤1400→
  Ho F [] G a b c d h g zs (ay zs) i w xs q f K=K (AL (foldI Pv f f.length 0 (foldI (Pw xs) zs k i w)) (cT tZ zs k i++cT tL f f.length 0)):=by
 intro k;induction k with
 |zero=>
  intro i w G x s r;obtain⟨G,rfl⟩:=Am (show G≠0 by omega)
  (rw[EU];(conv=>zeta);rw[aK (mX (by omega)),tx4 F m a b c d h g zs (ay zs) i f xs q f o w K])
  rfl
 |succ k B=>
  intro i w G x s r;obtain⟨G,rfl⟩:=Am (show G≠0 by omega);obtain⟨A,t,y⟩:=jN (xs:=zs) (i:=i) (by omega) (by omega);have l:=qN n (i:=i) (by omega);obtain⟨g1,v,E⟩:=UD l;have u:znK xs (zN (aG zs i)) (Pt (aG zs i))=true:=by unfold znK;rw[p,v,bg (show aA (zN (aG zs i))≤900 by rw[aI];omega)];rfl
  (rw[EU];(conv=>zeta);rw[ax A,ax t,y])
  show sel (ak true (ak (znK xs (zN (aG zs i)) (Pt (aG zs i))) (av (ay []) 4400000))) (sel (ak true (ieq (ay (Pt (aG zs i))) 0)) (Ho F [] G a b c d h g zs (ay zs) ((i+1:Nat):Int) (Pw xs w (aG zs i)) xs q f K) (zy F [] G a b c d h g zs (ay zs) ((i+1:Nat):Int) (aF (tZ (aG zs i))) (Pw xs w (aG zs i)) xs q f K)) none=_;have C:=tZ_len l;rw[wu] at r;rw[u,show av (ay []) 4400000=true from rfl,ax Gu];show _=K (AL (foldI Pv f f.length 0 (foldI (Pw xs) zs k (i+1) (Pw xs w (aG zs i)))) (tZ (aG zs i)++cT tZ zs k (i+1)++cT tL f f.length 0));by_cases j:Pt (aG zs i)=[]
  ·have e:tZ (aG zs i)=[]:=by unfold tZ znT;rw[j];rfl
   rw[ax (by rw[j];rfl),B (i+1) _ G (by omega) (by omega) (by omega),e];rfl
  have D:=List.length_pos_iff.2 j;rw[aK (by show ak true (ieq (ay (Pt (aG zs i))) 0)=false;rw[bD (by rw[aD];omega)];rfl),tx3 F m a b c d h g zs xs q f o p n z K k (i+1) _ _ G (by omega) (by omega) (by omega)]
theorem Cx (F:Nat) (o:1026≤F) (a b c xs p zs d:ah) (r:d.length≤1024) (u:kP p=true) (q:zs.all gZ=true) (g:zs.length≤1024∧rD zs zs.length 0≤1400) (v:xs.all gR=true) (A:xs.length≤450) (K:V→Option V): ∀(k i:Nat) (s:af) (w:Int) (G:Nat),i+k=xs.length→k<G→s.length+k*1500≤675000→
  C5 F [] G a b c xs (ay xs) i (aF s) w p zs d K=K (AL (foldI Pv d d.length 0 (foldI (Pw p) zs zs.length 0 (foldI gRw xs k i w))) (s++cT tR xs k i++(cT tZ zs zs.length 0++cT tL d d.length 0))):=by
 intro k;induction k with
 |zero=>
  intro i s w G n h f;rw[acR] at f;obtain⟨G,rfl⟩:=Am (show G≠0 by omega)
  (rw[ET];(conv=>zeta);rw[aK (mX (by omega))])
  have e:=tx3 F o a b c xs (ay xs) i zs p zs d r u q g K zs.length 0 s w F (by omega) (by omega) (by have:=g.2;omega);rw[c0] at e;rw[e];show _=K (AL (foldI Pv d d.length 0 (foldI (Pw p) zs zs.length 0 w)) (s++[]++(cT tZ zs zs.length 0++cT tL d d.length 0)));simp only[DX,Fx]
 |succ k y=>
  intro i s w G n h f;obtain⟨G,rfl⟩:=Am (show G≠0 by omega);obtain⟨x,j,t⟩:=jN (xs:=xs) (i:=i) (by omega) (by omega);have l:=qN v (i:=i) (by omega)
  (rw[ET];(conv=>zeta);rw[ax x,ax j,t])
  show sel (gR (aG xs i)) (sel (ak true (ak (Ct [82,117,108,101] (V6 (aG xs i))) (av (ay (aF s)) 9000000))) (C5 F [] G a b c xs (ay xs) ((i+1:Nat):Int) (aX (aF s) (aF (tR (aG xs i)))) (gRw w (aG xs i)) p zs d K) none) none=_;have z:=tR_len (aG xs i);rw[ax l,zA (FW (aG xs i)) (by show 4≤1000;omega),UF (m:=9000000) (by omega),ax Gu,UE,y (i+1) _ _ G (by omega) (by omega) (by rw[iH];omega)];show _=K (AL (foldI Pv d d.length 0 (foldI (Pw p) zs zs.length 0 (foldI gRw xs k (i+1) (gRw w (aG xs i))))) (s++(tR (aG xs i)++cT tR xs k (i+1))++(cT tZ zs zs.length 0++cT tL d d.length 0)));simp only[DX]
theorem tx0 (F:Nat) (o:1026≤F) (a b c xs p zs d:ah) (j:d.length≤1024) (l:kP p=true) (q:zs.all gZ=true) (g:zs.length≤1024∧rD zs zs.length 0≤1400) (n:xs.all gR=true) (s:xs.length≤450) (w:Int) (K:V→Option V):
  UA F [] F a b c xs (ay xs) 0 w p zs d K=K (AL (foldI Pv d d.length 0 (foldI (Pw p) zs zs.length 0 (foldI gRw xs xs.length 0 w))) (cT tR xs xs.length 0++(cT tZ zs zs.length 0++cT tL d d.length 0))):=by
 obtain⟨G,rfl⟩:=Am (show F≠0 by omega)
 (rw[SV];(conv=>zeta))
 by_cases m:xs=[]
 ·subst m
  rw[aK (by rfl)];have e:=tx2 (G+1) o a b c [] (ay []) 0 zs p zs d j l q g K zs.length 0 w (G+1) (by omega) (by omega) g.2;rw[c0] at e;rw[e];rfl
 obtain⟨k,t⟩: ∃k,xs.length=k+1:=⟨xs.length-1,by have:=List.length_pos_iff.2 m;omega⟩
 obtain⟨h,f,u⟩:=jN (xs:=xs) (i:=0) (by omega) (by omega);have h:aW 0 (ay xs)=true:=h;have f:ak (av 0 0) (aW 0 (ay xs))=true:=f;have r:gR (aG xs 0)=true:=qN n (i:=0) (by omega);rw[ax h,ax f,show bJ .i64 (0:Int) 1=((1:Nat):Int) from rfl];show sel (gR (aG xs 0)) (sel (ak true (ak (Ct [82,117,108,101] (V6 (aG xs 0))) (av (ay []) 9000000))) (C5 (G+1) [] G a b c xs (ay xs) ((1:Nat):Int) (aF (tR (aG xs 0))) (gRw w (aG xs 0)) p zs d K) none) none=_;have v:=tR_len (aG xs 0);rw[ax r,zA (FW (aG xs 0)) (by show 4≤1000;omega),show av (ay []) 9000000=true from rfl,ax Gu,Cx (G+1) o a b c xs p zs d j l q g n s K k 1 _ _ G (by omega) (by omega) (by omega),t];rfl
theorem fold_zero (g:Int→V→Int) (p:V→Bool) (a: ∀w e,g w e=0↔w=0∧p e=true) (l:ah): ∀(k i:Nat) (w:Int),foldI g l k i w=0↔w=0∧allI p l k i=true
 |0,i,w=>by unfold foldI allI;simp
 |k+1,i,w=>by unfold foldI allI;rw[fold_zero g p a l k (i+1),a,bC];exact and_assoc
theorem feR_zero (e:V):feR e=0↔rrR e=true:=by
 show sel (rrR e) (0:Int) 4=0↔_
 cases rrR e<;>simp[sel]
theorem feE_zero (e:V):feE e=0↔Ti e=true:=by
 show sel (Ti e) (0:Int) 4=0↔_
 cases Ti e<;>simp[sel]
theorem feL_zero (e:V):feL e=0↔rrL e=true:=by
 show(if rrL e=true then(0:Int) else 4)=0↔_
 cases rrL e<;>simp
theorem gR_zero (w:Int) (e:V):gRw w e=0↔w=0∧rrR e=true:=by unfold gRw;rw[BN,feR_zero,(FW e).2.1];simp
theorem gL_zero (w:Int) (e:V):Pv w e=0↔w=0∧rrL e=true:=by unfold Pv;rw[BN,feL_zero,(FX e).2.1];simp
theorem Yg (a:ah): ∀(k i:Nat) (w:Int),eW a k i w=0↔w=0∧allI Ti a k i=true
 |0,i,w=>by unfold eW allI;simp
 |k+1,i,w=>by unfold eW allI;rw[Yg a k (i+1),BN,feE_zero,(Bh _).2.1,bC];simp[and_assoc]
theorem eV_eq (e:V):Rd.eV e=Ti e:=by unfold Rd.eV Ti;exact er_eq _ _ _ _ _ _ _ _ _ _ _ _ _
theorem Rw (xs b:ah) (a:Int): ∀(k i:Nat) (c:ah),(Rd.enF xs b a k i c).2=0↔zB b a k i=true∧0≤a
 |0,i,c=>by
  unfold Rd.enF zB;split
  ·simp;omega
  simp;omega
 |k+1,i,c=>by
  unfold Rd.enF zB;have e:Rd.okE a i (aG b i)=(Ti (aG b i)&&beq (asBool (ai (aG b i) 5)) (aW i a)):=by unfold Rd.okE;rw[eV_eq]
  rw[e]
  cases h:(Ti (aG b i)&&beq (asBool (ai (aG b i) 5)) (aW i a)) with
  |false=>simp
  |true=>rw[if_pos rfl,show((i:Int)+1)=((i+1:Nat):Int) by omega,Rw xs b a k (i+1)];simp
theorem zB_all (b:ah) (a:Int): ∀(k i:Nat),zB b a k i=true→allI Ti b k i=true
 |0,i,h=>rfl
 |k+1,i,h=>by unfold zB at h;unfold allI;rw[bC,bC] at h;rw[h.1.1,zB_all b a k (i+1) h.2];rfl
theorem ndE_zero (xs a:ah):ndE xs a=0↔zoB a=true:=by
 unfold ndE zoB;have:=Rw xs a ((a.length:Int)-1) a.length 0 [];rw[c0] at this;rw[this,bC,bq,aD];constructor
 ·rintro⟨b,c⟩;exact⟨b,by omega⟩
 rintro⟨b,c⟩;exact⟨b,by omega⟩
theorem gZ_zero (xs:ah) (w:Int) (e:V):Pw xs w e=0↔w=0∧zP e=true:=by
 unfold Pw znW zP;rw[Yg,BN,ndE_zero,bC,aN];constructor
 ·rintro⟨⟨c,b,d⟩,f⟩;exact⟨c,d,b⟩
 rintro⟨c,d,b⟩;have a:=b;unfold zoB at a;rw[bC] at a;exact⟨⟨c,b,d⟩,zB_all _ _ _ _ a.1⟩
noncomputable def txA (xs zs a:ah):af:=cT tR xs xs.length 0++(cT tZ zs zs.length 0++cT tL a a.length 0)
noncomputable def Tj (xs zs a:ah):af:=sel (Kw xs zs a) (txA xs zs a) []
noncomputable def E5 (xs zs a:ah):Int:=sel (Kw xs zs a) 0 4
theorem txt_ev (xs zs d:ah) (l:YE xs zs d=true):aj rE 7 [.agg [.sl 50 [.str,.int .i64,.int .i64,.int .i64,.int .i64,.int .i64,.int .i64,.int .i64,.int .i64,.int .i64,.str] none xs,.sl 54 [.str,.sl 48 [.int .i64,.int .i64,.int .i64,.str,.str,.bool,.int .i64,.int .i64,.int .i64,.int .i64,.int .i64,.int .i64,.int .i64]] none zs,.sl 56 [.str,.str] none d]] (.tup [.str (Tj xs zs d),.int .i64 (E5 xs zs d)]):=by
 obtain⟨g,i,j,f,k⟩:=rgK_iff l;refine au qI wS2_ok 1100 4 ?_;rw[wTx_top,tx0 1100 (by omega) xs zs d xs xs zs d j (rs_of g f) k i f g 0 some];have e:foldI Pv d d.length 0 (foldI (Pw xs) zs zs.length 0 (foldI gRw xs xs.length 0 0))=0↔Kw xs zs d=true:=by rw[fold_zero Pv rrL gL_zero,fold_zero (Pw xs) zP (gZ_zero xs),fold_zero gRw rrR gR_zero];unfold Kw;rw[bC,bC];exact⟨fun⟨⟨⟨_,a⟩,b⟩,c⟩=>⟨a,b,c⟩,fun⟨a,b,c⟩=>⟨⟨⟨rfl,a⟩,b⟩,c⟩⟩
 unfold AL Tj E5 txA
 cases h:Kw xs zs d with
 |true=>rw[e.2 h];rfl
 |false=>
  have:ieq (foldI Pv d d.length 0 (foldI (Pw xs) zs zs.length 0 (foldI gRw xs xs.length 0 0))) 0=false:=bD fun x=>by rw[e.1 x] at h;cases h
  rw[this];rfl
theorem aeB (p:V→Bool) (l:ah) (k i:Nat):allI p l (k+1) i=(p (aG l i)&&allI p l k (i+1)):=rfl
noncomputable def slK (K:List Kd) (x:V):Bool:=match x with| .nilsl=>true| .sl _ sh _ _=>Kd.Cs K sh|_=>false
noncomputable def bQ:V→ah| .sl _ _ _ xs=>xs|_=>[]
noncomputable def JN (x y z:V):Bool:=ak (slK [.str,.int .i64,.int .i64,.int .i64,.int .i64,.int .i64,.int .i64,.int .i64,.int .i64,.int .i64,.str] x) (ak (slK [.str,.sl 48 [.int .i64,.int .i64,.int .i64,.str,.str,.bool,.int .i64,.int .i64,.int .i64,.int .i64,.int .i64,.int .i64,.int .i64]] y) (slK [.str,.str] z))
noncomputable def TL (x y z:V):Bool:=ak (JN x y z) (YE (bQ x) (bQ y) (bQ z))
noncomputable def vTxS:aC:=fun a=>match a with|[.agg [x,y,z]]=>some (TL x y z,.tup [.str (Tj (bQ x) (bQ y) (bQ z)),.int .i64 (E5 (bQ x) (bQ y) (bQ z))])|_=>none
noncomputable def vRgS:aC:=fun a=>match a with|[.agg [x,y,z]]=>some (TL x y z,.bool (Kw (bQ x) (bQ y) (bQ z)))|_=>none
noncomputable def J3:List (Nat×aC):=(7,vTxS)::[]
def eqR (a b:V):Bool:=ak (seq (aH (ai a 0)) (aH (ai b 0))) (ak (ieq (asInt (ai a 1)) (asInt (ai b 1))) (ak (ieq (asInt (ai a 2)) (asInt (ai b 2))) (ak (ieq (asInt (ai a 3)) (asInt (ai b 3))) (ak (ak (ieq (asInt (ai a 4)) (asInt (ai b 4))) (ak (ieq (asInt (ai a 5)) (asInt (ai b 5))) (ieq (asInt (ai a 6)) (asInt (ai b 6))))) (ak (ak (ieq (asInt (ai a 7)) (asInt (ai b 7))) (ieq (asInt (ai a 8)) (asInt (ai b 8)))) (ak (ieq (asInt (ai a 9)) (asInt (ai b 9))) (seq (aH (ai a 10)) (aH (ai b 10)))))))))
def eqE (a b:V):Bool:=ak (ieq (asInt (ai a 0)) (asInt (ai b 0))) (ak (ieq (asInt (ai a 1)) (asInt (ai b 1))) (ak (ieq (asInt (ai a 2)) (asInt (ai b 2))) (ak (seq (aH (ai a 3)) (aH (ai b 3))) (ak (seq (aH (ai a 4)) (aH (ai b 4))) (ak (beq (asBool (ai a 5)) (asBool (ai b 5))) (ak (ieq (asInt (ai a 6)) (asInt (ai b 6))) (ak (ieq (asInt (ai a 7)) (asInt (ai b 7))) (ak (ak (ieq (asInt (ai a 8)) (asInt (ai b 8))) (ak (ieq (asInt (ai a 9)) (asInt (ai b 9))) (ieq (asInt (ai a 10)) (asInt (ai b 10))))) (ak (ieq (asInt (ai a 11)) (asInt (ai b 11))) (ieq (asInt (ai a 12)) (asInt (ai b 12))))))))))))
def Y3 (a b:V):Bool:=ak (seq (aH (ai a 0)) (aH (ai b 0))) (seq (aH (ai a 1)) (aH (ai b 1)))
def all2 (p:V→V→Bool) (l m:ah):Nat→Nat→Bool|0,_=>true|k+1,i=>p (aG l i) (aG m i)&&all2 p l m k (i+1)
def eqs (p:V→V→Bool) (l m:ah):Bool:=ieq (ay l) (ay m)&&all2 p l m l.length 0
def eqZ (a b:V):Bool:=ak (seq (aH (ai a 0)) (aH (ai b 0))) (eqs eqE (Ap (ai a 1)) (Ap (ai b 1)))
def J4 (l m:ah):Bool:=eqs eqR l m
def TV (l m:ah):Bool:=eqs eqE l m
def MS (l m:ah):Bool:=eqs Y3 l m
def Gv (l m:ah):Bool:=eqs eqZ l m
noncomputable def vERs:aC:=fun a=>match a with|[.sl e1 [.str,.int .i64,.int .i64,.int .i64,.int .i64,.int .i64,.int .i64,.int .i64,.int .i64,.int .i64,.str] o1 xs,.sl e2 [.str,.int .i64,.int .i64,.int .i64,.int .i64,.int .i64,.int .i64,.int .i64,.int .i64,.int .i64,.str] o2 ys]=>some (av (ay xs) 2000,.bool (J4 xs ys))|_=>none
noncomputable def vEEs:aC:=fun a=>match a with|[.sl e1 [.int .i64,.int .i64,.int .i64,.str,.str,.bool,.int .i64,.int .i64,.int .i64,.int .i64,.int .i64,.int .i64,.int .i64] o1 xs,.sl e2 [.int .i64,.int .i64,.int .i64,.str,.str,.bool,.int .i64,.int .i64,.int .i64,.int .i64,.int .i64,.int .i64,.int .i64] o2 ys]=>some (av (ay xs) 2000,.bool (TV xs ys))|_=>none
noncomputable def vELs:aC:=fun a=>match a with|[.sl e1 [.str,.str] o1 xs,.sl e2 [.str,.str] o2 ys]=>some (av (ay xs) 2000,.bool (MS xs ys))|_=>none
noncomputable def qvS1:List (Nat×aC):=(20,vERs)::(19,vEEs)::(22,vELs)::J3
def e12 (l:ah):Bool:=ak (av (ay l) 1100) (l.all fun z=>av (ay (Ap (ai z 1))) 256)
noncomputable def vEzS:aC:=fun a=>match a with|[.sl e1 [.str,.sl 48 [.int .i64,.int .i64,.int .i64,.str,.str,.bool,.int .i64,.int .i64,.int .i64,.int .i64,.int .i64,.int .i64,.int .i64]] o1 xs,.sl e2 [.str,.sl 48 [.int .i64,.int .i64,.int .i64,.str,.str,.bool,.int .i64,.int .i64,.int .i64,.int .i64,.int .i64,.int .i64,.int .i64]] o2 ys,.fn g []]=>some (ak (g==18) (e12 xs),.bool (Gv xs ys))|_=>none
noncomputable def qvS2:List (Nat×aC):=(21,vEzS)::qvS1
noncomputable def qvS3:List (Nat×aC):=qvS2
noncomputable def vSmS:aC:=fun a=>match a with|[.agg [x,y,z],.agg [x2,y2,z2]]=>some (ak (ak (JN x y z) (JN x2 y2 z2)) (ak (av (ay (bQ x)) 2000) (ak (e12 (bQ y)) (av (ay (bQ z)) 2000))),.bool (ak (J4 (bQ x) (bQ x2)) (ak (Gv (bQ y) (bQ y2)) (MS (bQ z) (bQ z2)))))|_=>none
noncomputable def qvS4:List (Nat×aC):=(8,vSmS)::(10,vRgS)::qvS3
theorem vRr_top (F xs zs a) (K:V→Option V):
 bA rE (bu rE J3 F 3) F 10 [V.agg [V.sl 50 kR none xs,V.sl 54 kZ none zs,V.sl 56 [Kd.str,Kd.str] none a]] K=
 sel (ak (ak true (ak true true)) (YE xs zs a)) (K (V.bool (ieq (E5 xs zs a) 0))) none:=by kernel_rfl
noncomputable def F3:=fun F e n c f d a b K=>(gH rE J3 F 2 20 [1,1,0,1,0] e K n (kD 26 [(0,V.sl 50 kR none c),(1,V.sl 50 kR none f),(4,V.bool d),(12,V.int .i64 a),(13,V.int .i64 b)] []):Option V)
theorem vEqR_top (F xs ys) (K:V→Option V):
 bA rE (bu rE J3 F 2) F 20 [V.sl 50 kR none xs,V.sl 50 kR none ys] K=
 sel (aL (ieq (ay xs) (ay ys))) (K (V.bool false)) (F3 F [] F xs ys false (ay xs) 0 K):=by kernel_rfl
theorem Cn (F n c d e b a K):
 F3 F [] (n+1) c d e b a K=
 let A:=aG c a;let B:=aG d a;sel (aW a b) (sel (ak (av 0 a) (aW a (ay c))) (sel (ak (av 0 a) (aW a (ay d))) (sel (aL (ak (seq (aH (ai A 0)) (aH (ai B 0))) (ak (ieq (asInt (ai A 1)) (asInt (ai B 1))) (ak (ieq (asInt (ai A 2)) (asInt (ai B 2))) (ak (ieq (asInt (ai A 3)) (asInt (ai B 3))) (ak (ak (ieq (asInt (ai A 4)) (asInt (ai B 4))) (ak (ieq (asInt (ai A 5)) (asInt (ai B 5))) (ieq (asInt (ai A 6)) (asInt (ai B 6))))) (ak (ak (ieq (asInt (ai A 7)) (asInt (ai B 7))) (ieq (asInt (ai A 8)) (asInt (ai B 8)))) (ak (ieq (asInt (ai A 9)) (asInt (ai B 9))) (seq (aH (ai A 10)) (aH (ai B 10))))))))))) (K (V.bool false)) (F3 F [] n c d e b (bJ .i64 a 1) K)) none) none) (K (V.bool true)):=by kernel_rfl
noncomputable def F4:=fun F e n c f d a b K=>(gH rE J3 F 2 19 [1,1,0,1,0] e K n (kD 26 [(0,V.sl 48 kE none c),(1,V.sl 48 kE none f),(4,V.bool d),(12,V.int .i64 a),(13,V.int .i64 b)] []):Option V)
theorem vEqE_top (F a b) (K:V→Option V):
 bA rE (bu rE J3 F 2) F 19 [V.sl 48 kE none a,V.sl 48 kE none b] K=
 sel (aL (ieq (ay a) (ay b))) (K (V.bool false)) (F4 F [] F a b false (ay a) 0 K):=by kernel_rfl
theorem Co (F n c d e b a K):
 F4 F [] (n+1) c d e b a K=
 let A:=aG c a;let B:=aG d a;sel (aW a b) (sel (ak (av 0 a) (aW a (ay c))) (sel (ak (av 0 a) (aW a (ay d))) (sel (aL (ak (ieq (asInt (ai A 0)) (asInt (ai B 0))) (ak (ieq (asInt (ai A 1)) (asInt (ai B 1))) (ak (ieq (asInt (ai A 2)) (asInt (ai B 2))) (ak (seq (aH (ai A 3)) (aH (ai B 3))) (ak (seq (aH (ai A 4)) (aH (ai B 4))) (ak (beq (asBool (ai A 5)) (asBool (ai B 5))) (ak (ieq (asInt (ai A 6)) (asInt (ai B 6))) (ak (ieq (asInt (ai A 7)) (asInt (ai B 7))) (ak (ak (ieq (asInt (ai A 8)) (asInt (ai B 8))) (ak (ieq (asInt (ai A 9)) (asInt (ai B 9))) (ieq (asInt (ai A 10)) (asInt (ai B 10))))) (ak (ieq (asInt (ai A 11)) (asInt (ai B 11))) (ieq (asInt (ai A 12)) (asInt (ai B 12)))))))))))))) (K (V.bool false)) (F4 F [] n c d e b (bJ .i64 a 1) K)) none) none) (K (V.bool true)):=by kernel_rfl
noncomputable def F5:=fun F e n c f d a b K=>(gH rE J3 F 2 22 [1,1,0,1,0] e K n (kD 26 [(0,V.sl 56 [Kd.str,Kd.str] none c),(1,V.sl 56 [Kd.str,Kd.str] none f),(4,V.bool d),(12,V.int .i64 a),(13,V.int .i64 b)] []):Option V)
theorem vEqL_top (F a b) (K:V→Option V):
 bA rE (bu rE J3 F 2) F 22 [V.sl 56 [Kd.str,Kd.str] none a,V.sl 56 [Kd.str,Kd.str] none b] K=
 sel (aL (ieq (ay a) (ay b))) (K (V.bool false)) (F5 F [] F a b false (ay a) 0 K):=by kernel_rfl
theorem Cq (F n c d e b a K):
 F5 F [] (n+1) c d e b a K=
 sel (aW a b) (sel (ak (av 0 a) (aW a (ay c))) (sel (ak (av 0 a) (aW a (ay d))) (sel (aL (ak (seq (aH (ai (aG c a) 0)) (aH (ai (aG d a) 0))) (seq (aH (ai (aG c a) 1)) (aH (ai (aG d a) 1))))) (K (V.bool false)) (F5 F [] n c d e b (bJ .i64 a 1) K)) none) none) (K (V.bool true)):=by kernel_rfl
noncomputable def Nz:=fun F e n d f g b a c K=>(gH rE qvS1 F 3 21 [1,1,0,1,0] e K n (kD 32 [(0,V.sl 54 kZ none d),(1,V.sl 54 kZ none f),(2,V.fn 18 []),(6,V.bool g),(15,V.sl 54 kZ none b),(16,V.int .i64 a),(17,V.int .i64 c)] []):Option V)
theorem vEz_top (F zs a) (K:V→Option V):
 bA rE (bu rE qvS1 F 3) F 21 [V.sl 54 kZ none zs,V.sl 54 kZ none a,V.fn 18 []] K=
 sel (aL (ieq (ay zs) (ay a))) (K (V.bool false)) (Nz F [] F zs a false zs (ay zs) 0 K):=by kernel_rfl
theorem EX (F n e d f b c a K):
 Nz F [] (n+1) e d f b c a K=
 let A:=Ap (ai (aG b a) 1);let B:=K (V.bool false);sel (aW a c) (sel (ak (av 0 a) (aW a (ay b))) (sel (ak (av 0 a) (aW a (ay d))) (sel (seq (aH (ai (aG b a) 0)) (aH (ai (aG d a) 0))) (sel (av (ay A) 2000) (sel (aL (TV A (Ap (ai (aG d a) 1)))) B (Nz F [] n e d f b c (bJ .i64 a 1) K)) none) B) none) none) (K (V.bool true)):=by kernel_rfl
theorem vSm_top (F xs zs a ys c b) (K:V→Option V):
 bA rE (bu rE qvS2 F 3) F 8 [V.agg [V.sl 50 kR none xs,V.sl 54 kZ none zs,V.sl 56 [Kd.str,Kd.str] none a],V.agg [V.sl 50 kR none ys,V.sl 54 kZ none c,V.sl 56 [Kd.str,Kd.str] none b]] K=
 let A:=K (V.bool false);sel (av (ay xs) 2000) (sel (J4 xs ys) (sel (ak true (e12 zs)) (sel (Gv zs c) (sel (av (ay a) 2000) (K (V.bool (MS a b))) none) A) none) A) none:=by kernel_rfl
theorem Np {G:aU} {K:List Kd} {x:V} {v:Value} (e:Nat) (h:slK K x=true) (a:aV G x v):aV G (.sl e K none (bQ x)) v:=by
 unfold slK at h;split at h
 ·unfold aV at a
  unfold aV;exact⟨none,0,a,lg _,.inl rfl⟩
 ·rename_i b sh o xs
  have:=Kd.fA _ _ h;subst this;unfold aV at a⊢;exact a
 cases h
theorem UG {G:aU} {x y z:V} {v:Value} (h:JN x y z=true) (c:aV G (.agg [x,y,z]) v):aV G (.agg [.sl 50 [.str,.int .i64,.int .i64,.int .i64,.int .i64,.int .i64,.int .i64,.int .i64,.int .i64,.int .i64,.str] none (bQ x),.sl 54 [.str,.sl 48 [.int .i64,.int .i64,.int .i64,.str,.str,.bool,.int .i64,.int .i64,.int .i64,.int .i64,.int .i64,.int .i64,.int .i64]] none (bQ y),.sl 56 [.str,.str] none (bQ z)]) v:=by unfold JN at h;obtain⟨k,e⟩:=aO h;obtain⟨g,j⟩:=aO e;unfold aV at c;obtain⟨a,rfl,b,t,rfl,f,m,t2,rfl,i,n,l,rfl,d,rfl⟩:=c;unfold aV;exact⟨_,rfl,_,_,rfl,Np _ k f,_,_,rfl,Np _ g i,_,_,rfl,Np _ j d,rfl⟩
theorem con_tb {f:Nat} {x y z r:V} (h:JN x y z=true) (c:aj rE f [.agg [.sl 50 [.str,.int .i64,.int .i64,.int .i64,.int .i64,.int .i64,.int .i64,.int .i64,.int .i64,.int .i64,.str] none (bQ x),.sl 54 [.str,.sl 48 [.int .i64,.int .i64,.int .i64,.str,.str,.bool,.int .i64,.int .i64,.int .i64,.int .i64,.int .i64,.int .i64,.int .i64]] none (bQ y),.sl 56 [.str,.str] none (bQ z)]] r):aj rE f [.agg [x,y,z]] r:=by intro G w vs d b a;refine c G w vs d b ?_;obtain⟨v,rfl,e⟩:=CR a;exact .cons (UG h e) .nil
theorem con_tb2 {f:Nat} {x y z a e d r:V} (h:JN x y z=true) (i:JN a e d=true) (c:aj rE f [.agg [.sl 50 [.str,.int .i64,.int .i64,.int .i64,.int .i64,.int .i64,.int .i64,.int .i64,.int .i64,.int .i64,.str] none (bQ x),.sl 54 [.str,.sl 48 [.int .i64,.int .i64,.int .i64,.str,.str,.bool,.int .i64,.int .i64,.int .i64,.int .i64,.int .i64,.int .i64,.int .i64]] none (bQ y),.sl 56 [.str,.str] none (bQ z)],.agg [.sl 50 [.str,.int .i64,.int .i64,.int .i64,.int .i64,.int .i64,.int .i64,.int .i64,.int .i64,.int .i64,.str] none (bQ a),.sl 54 [.str,.sl 48 [.int .i64,.int .i64,.int .i64,.str,.str,.bool,.int .i64,.int .i64,.int .i64,.int .i64,.int .i64,.int .i64,.int .i64]] none (bQ e),.sl 56 [.str,.str] none (bQ d)]] r):aj rE f [.agg [x,y,z],.agg [a,e,d]] r:=by intro G w vs k j g;refine c G w vs k j ?_;obtain⟨v,m,rfl,l,b⟩:=iQ g;exact .cons (UG h l) (.cons (UG i b) .nil)
theorem Yh (x y z:V) (b:TL x y z=true):aj rE 7 [.agg [x,y,z]] (.tup [.str (Tj (bQ x) (bQ y) (bQ z)),.int .i64 (E5 (bQ x) (bQ y) (bQ z))]):=by obtain⟨a,c⟩:=aO b;exact con_tb a (txt_ev _ _ _ c)
theorem Bi:bf rE J3:=by
 unfold J3;refine bf.cons (fun args r h=>?_) bf.nil;all_goals (revert h;intro h;first|unfold vTxS at h)
 all_goals (split at h;rotate_left; · cases h)
 all_goals (simp only[aR,bM] at h;obtain⟨a,rfl⟩:=h)
 ·exact Yh _ _ _ a
theorem Yi (x y z:V) (b:TL x y z=true):aj rE 10 [.agg [x,y,z]] (.bool (Kw (bQ x) (bQ y) (bQ z))):=by
 obtain⟨a,c⟩:=aO b;refine con_tb a (au qI Bi 5 3 ?_);have e:ieq (E5 (bQ x) (bQ y) (bQ z)) 0=Kw (bQ x) (bQ y) (bQ z):=by
  unfold E5
  cases Kw (bQ x) (bQ y) (bQ z)<;>rfl
 rw[vRr_top,c,e];rfl
theorem xM (p:V→V→Bool) (l m:ah) (k i:Nat):all2 p l m (k+1) i=(p (aG l i) (aG m i)&&all2 p l m k (i+1)):=rfl
theorem Oy {f:Nat} {K K2:List Kd} {h j t1 t2:Nat} {k i:Option Nat} {xs ys:ah} {r:V} (c:aj rE f [.sl t1 K none xs,.sl t2 K2 none ys] r):aj rE f [.sl h K k xs,.sl j K2 i ys] r:=by
 intro G w vs g e d;refine c G w vs g e ?_;obtain⟨v,l,rfl,b,a⟩:=iQ d;refine .cons ?_ (.cons ?_ .nil)
 ·unfold aV at b⊢;exact b
 unfold aV at a⊢;exact a
theorem aeC (F:Nat) (xs ys:ah) (b:Bool) (j:ys.length=xs.length) (l:xs.length≤2000) (K:V→Option V): ∀(k i G:Nat),i+k=xs.length→k<G→F3 F [] G xs ys b (ay xs) i K=K (.bool (all2 eqR xs ys k i)):=by
 intro k;induction k with
 |zero=>
  intro i G g c;obtain⟨G,rfl⟩:=Am (show G≠0 by omega)
  (rw[Cn];(conv=>zeta);rw[aK (mX (by omega))]);rfl
 |succ k f=>
  intro i G g c;obtain⟨G,rfl⟩:=Am (show G≠0 by omega);obtain⟨e,d,a⟩:=jN (xs:=xs) (i:=i) (by omega) (by omega);obtain⟨_,h,_⟩:=jN (xs:=ys) (i:=i) (by omega) (by omega)
  (rw[Cn];(conv=>zeta);rw[ax e,ax d,ax h,a,f (i+1) G (by omega) (by omega),xM])
  show sel (aL (eqR (aG xs i) (aG ys i))) (K (.bool false)) _=_
  cases eqR (aG xs i) (aG ys i)<;>rfl
theorem vERs_ok (a:Nat) (g:Option Nat) (xs:ah) (f:Nat) (d:Option Nat) (ys:ah) (b:av (ay xs) 2000=true):aj rE 20 [.sl a [.str,.int .i64,.int .i64,.int .i64,.int .i64,.int .i64,.int .i64,.int .i64,.int .i64,.int .i64,.str] g xs,.sl f [.str,.int .i64,.int .i64,.int .i64,.int .i64,.int .i64,.int .i64,.int .i64,.int .i64,.int .i64,.str] d ys] (.bool (J4 xs ys)):=by
 refine Oy (t1:=50) (t2:=50) (au qI Bi 2010 2 ?_);have c:=YF (k:=2000) b;rw[vEqR_top];unfold J4 eqs
 cases h:ieq (ay xs) (ay ys) with
 |false=>rfl
 |true=>rw[aN,aD,aD] at h;have e:=aeC 2010 xs ys false (by omega) c some xs.length 0 2010 (by omega) (by omega);rw[c0] at e;rw[aK (show aL true=false from rfl),e];rfl
theorem aeD (F:Nat) (xs ys:ah) (b:Bool) (j:ys.length=xs.length) (l:xs.length≤2000) (K:V→Option V): ∀(k i G:Nat),i+k=xs.length→k<G→F4 F [] G xs ys b (ay xs) i K=K (.bool (all2 eqE xs ys k i)):=by
 intro k;induction k with
 |zero=>
  intro i G g c;obtain⟨G,rfl⟩:=Am (show G≠0 by omega)
  (rw[Co];(conv=>zeta);rw[aK (mX (by omega))]);rfl
 |succ k f=>
  intro i G g c;obtain⟨G,rfl⟩:=Am (show G≠0 by omega);obtain⟨e,d,a⟩:=jN (xs:=xs) (i:=i) (by omega) (by omega);obtain⟨_,h,_⟩:=jN (xs:=ys) (i:=i) (by omega) (by omega)
  (rw[Co];(conv=>zeta);rw[ax e,ax d,ax h,a,f (i+1) G (by omega) (by omega),xM])
  show sel (aL (eqE (aG xs i) (aG ys i))) (K (.bool false)) _=_
  cases eqE (aG xs i) (aG ys i)<;>rfl
theorem vEEs_ok (a:Nat) (g:Option Nat) (xs:ah) (f:Nat) (d:Option Nat) (ys:ah) (b:av (ay xs) 2000=true):aj rE 19 [.sl a [.int .i64,.int .i64,.int .i64,.str,.str,.bool,.int .i64,.int .i64,.int .i64,.int .i64,.int .i64,.int .i64,.int .i64] g xs,.sl f [.int .i64,.int .i64,.int .i64,.str,.str,.bool,.int .i64,.int .i64,.int .i64,.int .i64,.int .i64,.int .i64,.int .i64] d ys] (.bool (TV xs ys)):=by
 refine Oy (t1:=48) (t2:=48) (au qI Bi 2010 2 ?_);have c:=YF (k:=2000) b;rw[vEqE_top];unfold TV eqs
 cases h:ieq (ay xs) (ay ys) with
 |false=>rfl
 |true=>rw[aN,aD,aD] at h;have e:=aeD 2010 xs ys false (by omega) c some xs.length 0 2010 (by omega) (by omega);rw[c0] at e;rw[aK (show aL true=false from rfl),e];rfl
theorem aeE (F:Nat) (xs ys:ah) (b:Bool) (j:ys.length=xs.length) (l:xs.length≤2000) (K:V→Option V): ∀(k i G:Nat),i+k=xs.length→k<G→F5 F [] G xs ys b (ay xs) i K=K (.bool (all2 Y3 xs ys k i)):=by
 intro k;induction k with
 |zero=>intro i G g c;obtain⟨G,rfl⟩:=Am (show G≠0 by omega);rw[Cq,aK (mX (by omega))];rfl
 |succ k f=>
  intro i G g c;obtain⟨G,rfl⟩:=Am (show G≠0 by omega);obtain⟨e,d,a⟩:=jN (xs:=xs) (i:=i) (by omega) (by omega);obtain⟨_,h,_⟩:=jN (xs:=ys) (i:=i) (by omega) (by omega);rw[Cq,ax e,ax d,ax h,a,f (i+1) G (by omega) (by omega),xM];show sel (aL (Y3 (aG xs i) (aG ys i))) (K (.bool false)) _=_
  cases Y3 (aG xs i) (aG ys i)<;>rfl
theorem vELs_ok (a:Nat) (g:Option Nat) (xs:ah) (f:Nat) (d:Option Nat) (ys:ah) (b:av (ay xs) 2000=true):aj rE 22 [.sl a [.str,.str] g xs,.sl f [.str,.str] d ys] (.bool (MS xs ys)):=by
 refine Oy (t1:=56) (t2:=56) (au qI Bi 2010 2 ?_);have c:=YF (k:=2000) b;rw[vEqL_top];unfold MS eqs
 cases h:ieq (ay xs) (ay ys) with
 |false=>rfl
 |true=>rw[aN,aD,aD] at h;have e:=aeE 2010 xs ys false (by omega) c some xs.length 0 2010 (by omega) (by omega);rw[c0] at e;rw[aK (show aL true=false from rfl),e];rfl
theorem Yj:bf rE qvS1:=by
 unfold qvS1;refine bf.cons (fun args r h=>?_) (bf.cons (fun args r h=>?_) (bf.cons (fun args r h=>?_) Bi));all_goals (revert h;intro h;first|unfold vERs at h|unfold vEEs at h|unfold vELs at h)
 all_goals (split at h;rotate_left; · cases h)
 all_goals (simp only[aR,bM] at h;obtain⟨a,rfl⟩:=h)
 ·exact vERs_ok _ _ _ _ _ _ a
 ·exact vEEs_ok _ _ _ _ _ _ a
 exact vELs_ok _ _ _ _ _ _ a
theorem Yk {l:ah} (h:e12 l=true):l.length≤1100∧ ∀i,i<l.length→(Ap (ai (aG l (i:Int)) 1)).length≤256:=by unfold e12 at h;obtain⟨a,b⟩:=aO h;refine⟨YF (k:=1100) a,fun i c=>?_⟩;exact YF (k:=256) (qN b c)
theorem vEz_loop (F:Nat) (xs ys:ah) (b:Bool) (n:ys.length=xs.length) (h:e12 xs=true) (K:V→Option V): ∀(k i G:Nat),i+k=xs.length→k<G→Nz F [] G xs ys b xs (ay xs) i K=K (.bool (all2 eqZ xs ys k i)):=by
 obtain⟨o,a⟩:=Yk h;intro k;induction k with
 |zero=>
  intro i G l e;obtain⟨G,rfl⟩:=Am (show G≠0 by omega)
  (rw[EX];(conv=>zeta);rw[aK (mX (by omega))]);rfl
 |succ k j=>
  intro i G l e;obtain⟨G,rfl⟩:=Am (show G≠0 by omega);obtain⟨g,f,d⟩:=jN (xs:=xs) (i:=i) (by omega) (by omega);obtain⟨_,m,_⟩:=jN (xs:=ys) (i:=i) (by omega) (by omega);have p:=a i (by omega)
  (rw[EX];(conv=>zeta);rw[ax g,ax f,ax m,d,j (i+1) G (by omega) (by omega),xM,ax (c:=av (ay (Ap (ai (aG xs i) 1))) 2000) (bg (by rw[aD];omega))])
  show sel (seq (aH (ai (aG xs i) 0)) (aH (ai (aG ys i) 0))) (sel (aL (TV (Ap (ai (aG xs i) 1)) (Ap (ai (aG ys i) 1)))) (K (.bool false)) _) (K (.bool false))=K (.bool (ak (seq (aH (ai (aG xs i) 0)) (aH (ai (aG ys i) 0))) (TV (Ap (ai (aG xs i) 1)) (Ap (ai (aG ys i) 1)))&&all2 eqZ xs ys k (i+1)))
  cases seq (aH (ai (aG xs i) 0)) (aH (ai (aG ys i) 0))<;>cases TV (Ap (ai (aG xs i) 1)) (Ap (ai (aG ys i) 1))<;>rfl
theorem vEzS_ok (k:Nat) (q:Option Nat) (xs:ah) (p:Nat) (m:Option Nat) (ys:ah) (g:Nat) (o:ak (g==18) (e12 xs)=true):aj rE 21 [.sl k [.str,.sl 48 [.int .i64,.int .i64,.int .i64,.str,.str,.bool,.int .i64,.int .i64,.int .i64,.int .i64,.int .i64,.int .i64,.int .i64]] q xs,.sl p [.str,.sl 48 [.int .i64,.int .i64,.int .i64,.str,.str,.bool,.int .i64,.int .i64,.int .i64,.int .i64,.int .i64,.int .i64,.int .i64]] m ys,.fn g []] (.bool (Gv xs ys)):=by
 obtain⟨n,d⟩:=aO o;obtain rfl:g=18:=by simpa using n
 have h:aj rE 21 [.sl 54 [.str,.sl 48 [.int .i64,.int .i64,.int .i64,.str,.str,.bool,.int .i64,.int .i64,.int .i64,.int .i64,.int .i64,.int .i64,.int .i64]] none xs,.sl 54 [.str,.sl 48 [.int .i64,.int .i64,.int .i64,.str,.str,.bool,.int .i64,.int .i64,.int .i64,.int .i64,.int .i64,.int .i64,.int .i64]] none ys,.fn 18 []] (.bool (Gv xs ys)):=by
  refine au qI Yj 2010 3 ?_;obtain⟨u,l⟩:=Yk d;rw[vEz_top];unfold Gv eqs
  cases h:ieq (ay xs) (ay ys) with
  |false=>rfl
  |true=>rw[aN,aD,aD] at h;have e:=vEz_loop 2010 xs ys false (by omega) d some xs.length 0 2010 (by omega) (by omega);rw[c0] at e;rw[aK (show aL true=false from rfl),e];rfl
 intro G w vs j i b;refine h G w vs j i ?_;obtain⟨v,t,rfl,f,b⟩:=b.cons_inv;obtain⟨s,r,rfl,a,c⟩:=iQ b;refine .cons ?_ (.cons ?_ (.cons c .nil))
 ·unfold aV at f⊢;exact f
 unfold aV at a⊢;exact a
theorem Yl:bf rE qvS2:=by
 unfold qvS2;refine bf.cons (fun args r h=>?_) Yj;all_goals (revert h;intro h;first|unfold vEzS at h)
 all_goals (split at h;rotate_left; · cases h)
 all_goals (simp only[aR,bM] at h;obtain⟨a,rfl⟩:=h)
 ·exact vEzS_ok _ _ _ _ _ _ _ a
noncomputable def smT (xs zs c ys b a:ah):Bool:=ak (J4 xs ys) (ak (Gv zs b) (MS c a))
theorem same_ev (xs zs b ys a c:ah) (e:av (ay xs) 2000=true) (f:e12 zs=true) (d:av (ay b) 2000=true):aj rE 8 [.agg [.sl 50 [.str,.int .i64,.int .i64,.int .i64,.int .i64,.int .i64,.int .i64,.int .i64,.int .i64,.int .i64,.str] none xs,.sl 54 [.str,.sl 48 [.int .i64,.int .i64,.int .i64,.str,.str,.bool,.int .i64,.int .i64,.int .i64,.int .i64,.int .i64,.int .i64,.int .i64]] none zs,.sl 56 [.str,.str] none b],.agg [.sl 50 [.str,.int .i64,.int .i64,.int .i64,.int .i64,.int .i64,.int .i64,.int .i64,.int .i64,.int .i64,.str] none ys,.sl 54 [.str,.sl 48 [.int .i64,.int .i64,.int .i64,.str,.str,.bool,.int .i64,.int .i64,.int .i64,.int .i64,.int .i64,.int .i64,.int .i64]] none a,.sl 56 [.str,.str] none c]] (.bool (smT xs zs b ys a c)):=by
 refine au qI Yl 5 3 ?_
 (rw[vSm_top];(conv=>zeta);rw[e,d,f])
 unfold smT
 cases J4 xs ys<;>cases Gv zs a<;>rfl
theorem Ym (x y z c b a:V) (j:ak (ak (JN x y z) (JN c b a)) (ak (av (ay (bQ x)) 2000) (ak (e12 (bQ y)) (av (ay (bQ z)) 2000)))=true):aj rE 8 [.agg [x,y,z],.agg [c,b,a]] (.bool (ak (J4 (bQ x) (bQ c)) (ak (Gv (bQ y) (bQ b)) (MS (bQ z) (bQ a))))):=by obtain⟨d,f⟩:=aO j;obtain⟨i,g⟩:=aO f;obtain⟨h,e⟩:=aO g;exact con_tb2 (aO d).1 (aO d).2 (same_ev _ _ _ _ _ _ i h e)
theorem qvS3_ok:bf rE qvS3:=by unfold qvS3;refine Yl
theorem qvS4_ok:bf rE qvS4:=by
 unfold qvS4;refine bf.cons (fun args r h=>?_) (bf.cons (fun args r h=>?_) qvS3_ok);all_goals (revert h;intro h;first|unfold vSmS at h|unfold vRgS at h)
 all_goals (split at h;rotate_left; · cases h)
 all_goals (simp only[aR,bM] at h;obtain⟨a,rfl⟩:=h)
 ·exact Ym _ _ _ _ _ _ a
 exact Yi _ _ _ a
theorem lives_ev:aj rE 4 [] (.bool true):=au qI qvS4_ok 20 3 (by kernel_rfl)
theorem Ry (p:V→Bool) (l:ah): ∀(k i:Nat),allI p l k i=true→ ∀j,i≤j→j<i+k→p (aG l (j:Int))=true
 |0,i,h,j,b,a=>by omega
 |k+1,i,h,j,b,a=>by
  rw[aeB,bC] at h;by_cases e:j=i
  ·subst e;exact h.1
  exact Ry p l k (i+1) h.2 j (by omega) (by omega)
theorem IJ {p:V→Bool} {l:ah} (h:allI p l l.length 0=true): ∀x∈l,p x=true:=by intro x b;obtain⟨j,a,rfl⟩:=List.mem_iff_getElem.1 b;have:=Ry p l l.length 0 h j (by omega) (by omega);rw[eX,mg,iZ a] at this;exact this
theorem bd {a b:Bool} (c:a=true) (d:b=true):ak a b=true:=by rw[c,d];rfl
theorem l2 {s:af} (h:av (aA s) 200=true):av (aA s) 900=true:=by rw[aB] at h⊢;omega
end Nt.Ev.YtknhlobahpgkeaaGreatDoor.Rx
