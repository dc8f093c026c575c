/-
  A table's source: Text, of both sides; whether a table may be written.
-/
import Derived.Test.YtjcencojgajgdaaGreatDoorMXG
set_option linter.all false
set_option maxRecDepth 100000
namespace Nt.Ev.YtjcencojgajgdaaGreatDoor.Rx
open Go Go.RowKit Nt Nt.Num Nt.Civil Nt.Fld Go.Proofs.YtjcencojgajgdaaGreatDoor Nt.Ev.YtjcencojgajgdaaGreatDoor Nt.Ev.YtjcencojgajgdaaGreatDoor.Lk
variable [kH]
def cT (f:V→af) (l:ah):Nat→Nat→af|0,_=>[]|k+1,i=>f (aG l i)++cT f l k (i+1)
def foldI (g:Int→V→Int) (l:ah):Nat→Nat→Int→Int|0,_,w=>w|k+1,i,w=>foldI g l k (i+1) (g w (aG l i))
noncomputable def tR (e:V):af:=vg [82,117,108,101] (Xh e)
noncomputable def tL (e:V):af:=vg [76,105,110,107] (fvL e)
noncomputable def tZ (e:V):af:=znT (zN e) (QA e)
noncomputable def gRw (w:Int) (e:V):Int:=Am w (feR e) (rz (Xh e))
noncomputable def Qq (w:Int) (e:V):Int:=Am w (feL e) (rz (fvL e))
noncomputable def Qr (xs:ah) (w:Int) (e:V):Int:=znW w xs (zN e) (QA e)
def AP (w:Int) (s:af):V:=.tup [.str (sel (aL (ieq w 0)) [] s),.int .i64 (sel (aL (ieq w 0)) 4 0)]
theorem tR_len (e:V):(tR e).length≤1500:=xw (Gr e) (by show 4≤950;omega)
theorem tL_len (e:V):(tL e).length≤1500:=xw (Gs e) (by show 4≤950;omega)
theorem Oj {e:V} (h:gZ e=true):(zN e).length≤900∧zoK (QA e)=true∧(QA e).length≤12:=by unfold gZ at h;obtain⟨b,a⟩:=aN h;exact⟨l9 b,a,zoK_12 a⟩
theorem tZ_len {e:V} (h:gZ e=true):(tZ e).length≤18000:=by obtain⟨a,c,b⟩:=Oj h;have:=eT_len (zN e) (QA e) a (QA e).length 0;show(eT (zN e) (QA e) (QA e).length 0).length≤18000;omega
theorem Zh {xs zs a:ah} (h:Xj xs zs a=true):xs.length≤50∧zs.length≤20∧a.length≤100∧xs.all gR=true∧zs.all gZ=true:=by unfold Xj at h;obtain⟨f,d⟩:=aN h;obtain⟨j,e⟩:=aN d;obtain⟨g,b⟩:=aN e;obtain⟨i,c⟩:=aN b;exact⟨Qp (k:=50) f,Qp (k:=20) j,Qp (k:=100) g,i,c⟩
theorem rs_of {xs:ah} (c:xs.length≤50) (a:xs.all gR=true):kK xs=true:=by show(xs.all Oc.rOk&&ax (ay xs) 1000)=true;rw[bF];refine⟨List.all_eq_true.2 fun x b=>?_,bn (by rw[aC];omega)⟩;have:=List.all_eq_true.1 a x b;unfold gR at this;exact(aN (aN this).1).2
theorem c0:((0:Nat):Int)=0:=rfl
theorem Vu (a b:af):aX (aH a) (aH b)=aH (a++b):=by unfold aX aH;simp
theorem vb_bv (l:af):gq (aH l)=l:=Nt.Ev.YtjcencojgajgdaaGreatDoor.bvb l
theorem Vv {s:af} {m:Int} (h:(s.length:Int)≤m):ax (ay (aH s)) m=true:=bn (by rw[aC,bv_len];omega)
theorem tx5 (F:Nat) (a b c d:ah) (l j:Int) (e:ah) (h g:Int) (f p q r:ah) (A:f.length≤100) (K:V→Option V): ∀(k i:Nat) (s:af) (w:Int) (G:Nat),i+k=f.length→k<G→s.length+k*1500≤900000→
  zD F [] G a b c d l j e h g f (ay f) i (aH s) w p q r K=K (AP (foldI Qq f k i w) (s++cT tL f k i)):=by
 intro k;induction k with
 |zero=>
  intro i s w G t n v;obtain⟨G,rfl⟩:=uN (show G≠0 by omega)
  (rw[Ff];(conv=>zeta);rw[aI (jK (by omega)),vb_bv])
  unfold AP foldI cT;rw[FC]
  cases aL (ieq w 0)<;>rfl
 |succ k y=>
  intro i s w G t n v;obtain⟨G,rfl⟩:=uN (show G≠0 by omega);obtain⟨x,o,u⟩:=iH (xs:=f) (i:=i) (by omega) (by omega)
  (rw[Ff];(conv=>zeta);rw[av x,av o,u])
  show sel (ak true (ak (CL [76,105,110,107] (fvL (aG f i))) (ax (ay (aH s)) 1000000))) (zD F [] G a b c d l j e h g f (ay f) ((i+1:Nat):Int) (aX (aH s) (aH (tL (aG f i)))) (Qq w (aG f i)) p q r K) none=_;have z:=tL_len (aG f i);rw[zF (Gs (aG f i)) (by show 4≤1000;omega),Vv (m:=1000000) (by omega),av Hq,Vu,y (i+1) _ _ G (by omega) (by omega) (by rw[iW];omega),CJ];rfl
theorem tx4 (F:Nat) (x:102≤F) (a b c d:ah) (n l:Int) (e:ah) (j g:Int) (f p q r:ah) (s:f.length≤100) (w:Int) (K:V→Option V):
  Vs F [] F a b c d n l e j g f (ay f) 0 w p q r K=K (AP (foldI Qq f f.length 0 w) (cT tL f f.length 0)):=by
 obtain⟨G,rfl⟩:=uN (show F≠0 by omega)
 (rw[TY];(conv=>zeta))
 by_cases o:f=[]
 ·subst o
  rw[aI (by rfl)];unfold AP;show sel (aL (ieq w 0)) _ _=K (.tup [.str (sel (aL (ieq w 0)) [] []),.int .i64 (sel (aL (ieq w 0)) 4 0)])
  cases aL (ieq w 0)<;>rfl
 obtain⟨k,t⟩: ∃k,f.length=k+1:=⟨f.length-1,by have:=List.length_pos_iff.2 o;omega⟩
 obtain⟨m,h,u⟩:=iH (xs:=f) (i:=0) (by omega) (by omega);have m:aR 0 (ay f)=true:=m;have h:ak (ax 0 0) (aR 0 (ay f))=true:=h;rw[av m,av h,show bg .i64 (0:Int) 1=((1:Nat):Int) from rfl];show sel (ak true (ak (CL [76,105,110,107] (fvL (aG f 0))) (ax (ay []) 1000000))) (zD (G+1) [] G a b c d n l e j g f (ay f) ((1:Nat):Int) (aH (tL (aG f 0))) (Qq w (aG f 0)) p q r K) none=_;have v:=tL_len (aG f 0);rw[zF (Gs (aG f 0)) (by show 4≤1000;omega),show ax (ay []) 1000000=true from rfl,av Hq,tx5 (G+1) a b c d n l e j g f p q r s K k 1 _ _ G (by omega) (by omega) (by omega),t];rfl
theorem tx3 (F:Nat) (C:102≤F) (a b c d:ah) (h g:Int) (zs xs q f:ah) (v:f.length≤100) (y:kK xs=true) (u:zs.all gZ=true) (D:zs.length≤20) (K:V→Option V): ∀(k i:Nat) (s:af) (w:Int) (G:Nat),i+k=zs.length→k<G→s.length+k*18000≤500000→
  zC F [] G a b c d h g zs (ay zs) i (aH s) w xs q f K=K (AP (foldI Qq f f.length 0 (foldI (Qr xs) zs k i w)) (s++cT tZ zs k i++cT tL f f.length 0)):=by
 intro k;induction k with
 |zero=>
  intro i s w G t n l;rw[acT] at l;obtain⟨G,rfl⟩:=uN (show G≠0 by omega)
  (rw[Fe];(conv=>zeta);rw[aI (jK (by omega))])
  have e:=tx5 F a b c d h g zs (ay zs) i f xs q f v K f.length 0 s w F (by omega) (by omega) (by omega);rw[c0] at e;rw[e];show _=K (AP (foldI Qq f f.length 0 w) (s++[]++cT tL f f.length 0));rw[FC]
 |succ k A=>
  intro i s w G t n l;obtain⟨G,rfl⟩:=uN (show G≠0 by omega);obtain⟨z,o,x⟩:=iH (xs:=zs) (i:=i) (by omega) (by omega);have j:=qL u (i:=i) (by omega);obtain⟨g1,r,E⟩:=Oj j;have p:znK xs (zN (aG zs i)) (QA (aG zs i))=true:=by unfold znK;rw[y,r,bn (show aB (zN (aG zs i))≤900 by rw[aJ];omega)];rfl
  (rw[Fe];(conv=>zeta);rw[av z,av o,x])
  show sel (ak true (ak (znK xs (zN (aG zs i)) (QA (aG zs i))) (ax (ay (aH s)) 500000))) (zC F [] G a b c d h g zs (ay zs) ((i+1:Nat):Int) (aX (aH s) (aH (tZ (aG zs i)))) (Qr xs w (aG zs i)) xs q f K) none=_;have B:=tZ_len j;rw[p,Vv (m:=500000) (by omega),av Hq,Vu,A (i+1) _ _ G (by omega) (by omega) (by rw[iW];omega)];show _=K (AP (foldI Qq f f.length 0 (foldI (Qr xs) zs k (i+1) (Qr xs w (aG zs i)))) (s++(tZ (aG zs i)++cT tZ zs k (i+1))++cT tL f f.length 0));simp only[CJ]
theorem tx2 (F:Nat) (m:102≤F) (a b c d:ah) (h g:Int) (zs xs q f:ah) (o:f.length≤100) (p:kK xs=true) (n:zs.all gZ=true) (y:zs.length≤20) (K:V→Option V): ∀(k i:Nat) (w:Int) (G:Nat),i+k=zs.length→k<G→
  IA F [] G a b c d h g zs (ay zs) i w xs q f K=K (AP (foldI Qq f f.length 0 (foldI (Qr xs) zs k i w)) (cT tZ zs k i++cT tL f f.length 0)):=by
 intro k;induction k with
 |zero=>
  intro i w G v r;obtain⟨G,rfl⟩:=uN (show G≠0 by omega)
  (rw[Fb];(conv=>zeta);rw[aI (jK (by omega)),tx4 F m a b c d h g zs (ay zs) i f xs q f o w K])
  rfl
 |succ k A=>
  intro i w G v r;obtain⟨G,rfl⟩:=uN (show G≠0 by omega);obtain⟨z,s,x⟩:=iH (xs:=zs) (i:=i) (by omega) (by omega);have l:=qL n (i:=i) (by omega);obtain⟨g1,u,D⟩:=Oj l;have t:znK xs (zN (aG zs i)) (QA (aG zs i))=true:=by unfold znK;rw[p,u,bn (show aB (zN (aG zs i))≤900 by rw[aJ];omega)];rfl
  (rw[Fb];(conv=>zeta);rw[av z,av s,x])
  show sel (ak true (ak (znK xs (zN (aG zs i)) (QA (aG zs i))) (ax (ay []) 500000))) (sel (ak true (ieq (ay (QA (aG zs i))) 0)) (IA F [] G a b c d h g zs (ay zs) ((i+1:Nat):Int) (Qr xs w (aG zs i)) xs q f K) (zC F [] G a b c d h g zs (ay zs) ((i+1:Nat):Int) (aH (tZ (aG zs i))) (Qr xs w (aG zs i)) xs q f K)) none=_;have B:=tZ_len l;rw[t,show ax (ay []) 500000=true from rfl,av Hq];show _=K (AP (foldI Qq f f.length 0 (foldI (Qr xs) zs k (i+1) (Qr xs w (aG zs i)))) (tZ (aG zs i)++cT tZ zs k (i+1)++cT tL f f.length 0));by_cases j:QA (aG zs i)=[]
  ·have e:tZ (aG zs i)=[]:=by unfold tZ znT;rw[j];rfl
   rw[av (by rw[j];rfl),A (i+1) _ G (by omega) (by omega),e];rfl
  have C:=List.length_pos_iff.2 j;rw[aI (by show ak true (ieq (ay (QA (aG zs i))) 0)=false;rw[bH (by rw[aC];omega)];rfl),tx3 F m a b c d h g zs xs q f o p n y K k (i+1) _ _ G (by omega) (by omega) (by omega)]
theorem CR (F:Nat) (n:102≤F) (a b c xs p zs d:ah) (q:d.length≤100) (t:kK p=true) (o:zs.all gZ=true) (v:zs.length≤20) (u:xs.all gR=true) (A:xs.length≤50) (K:V→Option V): ∀(k i:Nat) (s:af) (w:Int) (G:Nat),i+k=xs.length→k<G→s.length+k*1500≤75000→
  Di F [] G a b c xs (ay xs) i (aH s) w p zs d K=K (AP (foldI Qq d d.length 0 (foldI (Qr p) zs zs.length 0 (foldI gRw xs k i w))) (s++cT tR xs k i++(cT tZ zs zs.length 0++cT tL d d.length 0))):=by
 intro k;induction k with
 |zero=>
  intro i s w G l g f;rw[acT] at f;obtain⟨G,rfl⟩:=uN (show G≠0 by omega)
  (rw[Fa];(conv=>zeta);rw[aI (jK (by omega))])
  have e:=tx3 F n a b c xs (ay xs) i zs p zs d q t o v K zs.length 0 s w F (by omega) (by omega) (by omega);rw[c0] at e;rw[e];show _=K (AP (foldI Qq d d.length 0 (foldI (Qr p) zs zs.length 0 w)) (s++[]++(cT tZ zs zs.length 0++cT tL d d.length 0)));simp only[CJ,FD]
 |succ k y=>
  intro i s w G l g f;obtain⟨G,rfl⟩:=uN (show G≠0 by omega);obtain⟨x,h,r⟩:=iH (xs:=xs) (i:=i) (by omega) (by omega);have j:=qL u (i:=i) (by omega)
  (rw[Fa];(conv=>zeta);rw[av x,av h,r])
  show sel (gR (aG xs i)) (sel (ak true (ak (CL [82,117,108,101] (Xh (aG xs i))) (ax (ay (aH s)) 1000000))) (Di F [] G a b c xs (ay xs) ((i+1:Nat):Int) (aX (aH s) (aH (tR (aG xs i)))) (gRw w (aG xs i)) p zs d K) none) none=_;have z:=tR_len (aG xs i);rw[av j,zF (Gr (aG xs i)) (by show 4≤1000;omega),Vv (m:=1000000) (by omega),av Hq,Vu,y (i+1) _ _ G (by omega) (by omega) (by rw[iW];omega)];show _=K (AP (foldI Qq d d.length 0 (foldI (Qr p) zs zs.length 0 (foldI gRw xs k (i+1) (gRw w (aG xs i))))) (s++(tR (aG xs i)++cT tR xs k (i+1))++(cT tZ zs zs.length 0++cT tL d d.length 0)));simp only[CJ]
theorem tx0 (F:Nat) (o:102≤F) (a b c xs p zs d:ah) (h:d.length≤100) (j:kK p=true) (q:zs.all gZ=true) (n:zs.length≤20) (m:xs.all gR=true) (s:xs.length≤50) (w:Int) (K:V→Option V):
  Vr F [] F a b c xs (ay xs) 0 w p zs d K=K (AP (foldI Qq d d.length 0 (foldI (Qr p) zs zs.length 0 (foldI gRw xs xs.length 0 w))) (cT tR xs xs.length 0++(cT tZ zs zs.length 0++cT tL d d.length 0))):=by
 obtain⟨G,rfl⟩:=uN (show F≠0 by omega)
 (rw[TX];(conv=>zeta))
 by_cases l:xs=[]
 ·subst l
  rw[aI (by rfl)];have e:=tx2 (G+1) o a b c [] (ay []) 0 zs p zs d h j q n K zs.length 0 w (G+1) (by omega) (by omega);rw[c0] at e;rw[e];rfl
 obtain⟨k,t⟩: ∃k,xs.length=k+1:=⟨xs.length-1,by have:=List.length_pos_iff.2 l;omega⟩
 obtain⟨g,f,u⟩:=iH (xs:=xs) (i:=0) (by omega) (by omega);have g:aR 0 (ay xs)=true:=g;have f:ak (ax 0 0) (aR 0 (ay xs))=true:=f;have r:gR (aG xs 0)=true:=qL m (i:=0) (by omega);rw[av g,av f,show bg .i64 (0:Int) 1=((1:Nat):Int) from rfl];show sel (gR (aG xs 0)) (sel (ak true (ak (CL [82,117,108,101] (Xh (aG xs 0))) (ax (ay []) 1000000))) (Di (G+1) [] G a b c xs (ay xs) ((1:Nat):Int) (aH (tR (aG xs 0))) (gRw w (aG xs 0)) p zs d K) none) none=_;have v:=tR_len (aG xs 0);rw[av r,zF (Gr (aG xs 0)) (by show 4≤1000;omega),show ax (ay []) 1000000=true from rfl,av Hq,CR (G+1) o a b c xs p zs d h j q n m s K k 1 _ _ G (by omega) (by omega) (by omega),t];rfl
theorem fold_zero (g:Int→V→Int) (p:V→Bool) (a: ∀w e,g w e=0↔w=0∧p e=true) (l:ah): ∀(k i:Nat) (w:Int),foldI g l k i w=0↔w=0∧allI p l k i=true
 |0,i,w=>by unfold foldI allI;simp
 |k+1,i,w=>by unfold foldI allI;rw[fold_zero g p a l k (i+1),a,bF];exact and_assoc
theorem feR_zero (e:V):feR e=0↔rrR e=true:=by
 show sel (rrR e) (0:Int) 4=0↔_
 cases rrR e<;>simp[sel]
theorem feE_zero (e:V):feE e=0↔Xi e=true:=by
 show sel (Xi e) (0:Int) 4=0↔_
 cases Xi e<;>simp[sel]
theorem feL_zero (e:V):feL e=0↔rrL e=true:=by
 show(if rrL e=true then(0:Int) else 4)=0↔_
 cases rrL e<;>simp
theorem gR_zero (w:Int) (e:V):gRw w e=0↔w=0∧rrR e=true:=by unfold gRw;rw[BP,feR_zero,(Gr e).2.1];simp
theorem gL_zero (w:Int) (e:V):Qq w e=0↔w=0∧rrL e=true:=by unfold Qq;rw[BP,feL_zero,(Gs e).2.1];simp
theorem Zi (a:ah): ∀(k i:Nat) (w:Int),eW a k i w=0↔w=0∧allI Xi a k i=true
 |0,i,w=>by unfold eW allI;simp
 |k+1,i,w=>by unfold eW allI;rw[Zi a k (i+1),BP,feE_zero,(Bj _).2.1,bF];simp[and_assoc]
theorem eV_eq (e:V):Rd.eV e=Xi e:=by unfold Rd.eV Xi;exact er_eq _ _ _ _ _ _ _ _ _ _ _ _ _
theorem Sy (xs b:ah) (a:Int): ∀(k i:Nat) (c:ah),(Rd.enF xs b a k i c).2=0↔zB b a k i=true∧0≤a
 |0,i,c=>by
  unfold Rd.enF zB;split
  ·simp;omega
  simp;omega
 |k+1,i,c=>by
  unfold Rd.enF zB;have e:Rd.okE a i (aG b i)=(Xi (aG b i)&&beq (asBool (ai (aG b i) 5)) (aR i a)):=by unfold Rd.okE;rw[eV_eq]
  rw[e]
  cases h:(Xi (aG b i)&&beq (asBool (ai (aG b i) 5)) (aR i a)) with
  |false=>simp
  |true=>rw[if_pos rfl,show((i:Int)+1)=((i+1:Nat):Int) by omega,Sy xs b a k (i+1)];simp
theorem zB_all (b:ah) (a:Int): ∀(k i:Nat),zB b a k i=true→allI Xi b k i=true
 |0,i,h=>rfl
 |k+1,i,h=>by unfold zB at h;unfold allI;rw[bF,bF] at h;rw[h.1.1,zB_all b a k (i+1) h.2];rfl
theorem ndE_zero (xs a:ah):ndE xs a=0↔zoB a=true:=by
 unfold ndE zoB;have:=Sy xs a ((a.length:Int)-1) a.length 0 [];rw[c0] at this;rw[this,bF,bq,aC];constructor
 ·rintro⟨b,c⟩;exact⟨b,by omega⟩
 rintro⟨b,c⟩;exact⟨b,by omega⟩
theorem gZ_zero (xs:ah) (w:Int) (e:V):Qr xs w e=0↔w=0∧zP e=true:=by
 unfold Qr znW zP;rw[Zi,BP,ndE_zero,bF,aO];constructor
 ·rintro⟨⟨c,b,d⟩,f⟩;exact⟨c,d,b⟩
 rintro⟨c,d,b⟩;have a:=b;unfold zoB at a;rw[bF] at a;exact⟨⟨c,b,d⟩,zB_all _ _ _ _ a.1⟩
noncomputable def txA (xs zs a:ah):af:=cT tR xs xs.length 0++(cT tZ zs zs.length 0++cT tL a a.length 0)
noncomputable def Qs (xs zs a:ah):af:=sel (Kt xs zs a) (txA xs zs a) []
noncomputable def CO (xs zs a:ah):Int:=sel (Kt xs zs a) 0 4
theorem txt_ev (xs zs d:ah) (l:Xj xs zs d=true):aj rE 7 [.agg [.sl 53 [.str,.int .i64,.int .i64,.int .i64,.int .i64,.int .i64,.int .i64,.int .i64,.int .i64,.int .i64,.str] none xs,.sl 57 [.str,.sl 51 [.int .i64,.int .i64,.int .i64,.str,.str,.bool,.int .i64,.int .i64,.int .i64,.int .i64,.int .i64,.int .i64,.int .i64]] none zs,.sl 59 [.str,.str] none d]] (.tup [.str (Qs xs zs d),.int .i64 (CO xs zs d)]):=by
 obtain⟨g,i,j,f,k⟩:=Zh l;refine au nD wS2_ok 200 4 ?_;rw[wTx_top,tx0 200 (by omega) xs zs d xs xs zs d j (rs_of g f) k i f g 0 some];have e:foldI Qq d d.length 0 (foldI (Qr xs) zs zs.length 0 (foldI gRw xs xs.length 0 0))=0↔Kt xs zs d=true:=by rw[fold_zero Qq rrL gL_zero,fold_zero (Qr xs) zP (gZ_zero xs),fold_zero gRw rrR gR_zero];unfold Kt;rw[bF,bF];exact⟨fun⟨⟨⟨_,a⟩,b⟩,c⟩=>⟨a,b,c⟩,fun⟨a,b,c⟩=>⟨⟨⟨rfl,a⟩,b⟩,c⟩⟩
 unfold AP Qs CO txA
 cases h:Kt xs zs d with
 |true=>rw[e.2 h];rfl
 |false=>
  have:ieq (foldI Qq d d.length 0 (foldI (Qr xs) zs zs.length 0 (foldI gRw xs xs.length 0 0))) 0=false:=bH fun x=>by rw[e.1 x] at h;cases h
  rw[this];rfl
theorem sQ (p:V→Bool) (l:ah) (k i:Nat):allI p l (k+1) i=(p (aG l i)&&allI p l k (i+1)):=rfl
noncomputable def slK (K:List Kd) (x:V):Bool:=match x with| .nilsl=>true| .sl _ sh _ _=>Kd.tq K sh|_=>false
noncomputable def bD:V→ah| .sl _ _ _ xs=>xs|_=>[]
noncomputable def Ee (x y z:V):Bool:=ak (slK [.str,.int .i64,.int .i64,.int .i64,.int .i64,.int .i64,.int .i64,.int .i64,.int .i64,.int .i64,.str] x) (ak (slK [.str,.sl 51 [.int .i64,.int .i64,.int .i64,.str,.str,.bool,.int .i64,.int .i64,.int .i64,.int .i64,.int .i64,.int .i64,.int .i64]] y) (slK [.str,.str] z))
noncomputable def Nv (x y z:V):Bool:=ak (Ee x y z) (Xj (bD x) (bD y) (bD z))
noncomputable def vTxS:aD:=fun a=>match a with|[.agg [x,y,z]]=>some (Nv x y z,.tup [.str (Qs (bD x) (bD y) (bD z)),.int .i64 (CO (bD x) (bD y) (bD z))])|_=>none
noncomputable def vRgS:aD:=fun a=>match a with|[.agg [x,y,z]]=>some (Nv x y z,.bool (Kt (bD x) (bD y) (bD z)))|_=>none
noncomputable def KH:List (Nat×aD):=(7,vTxS)::[]
def eqR (a b:V):Bool:=ak (seq (aF (ai a 0)) (aF (ai b 0))) (ak (ieq (asInt (ai a 1)) (asInt (ai b 1))) (ak (ieq (asInt (ai a 2)) (asInt (ai b 2))) (ak (ieq (asInt (ai a 3)) (asInt (ai b 3))) (ak (ak (ieq (asInt (ai a 4)) (asInt (ai b 4))) (ak (ieq (asInt (ai a 5)) (asInt (ai b 5))) (ieq (asInt (ai a 6)) (asInt (ai b 6))))) (ak (ak (ieq (asInt (ai a 7)) (asInt (ai b 7))) (ieq (asInt (ai a 8)) (asInt (ai b 8)))) (ak (ieq (asInt (ai a 9)) (asInt (ai b 9))) (seq (aF (ai a 10)) (aF (ai b 10)))))))))
def eqE (a b:V):Bool:=ak (ieq (asInt (ai a 0)) (asInt (ai b 0))) (ak (ieq (asInt (ai a 1)) (asInt (ai b 1))) (ak (ieq (asInt (ai a 2)) (asInt (ai b 2))) (ak (seq (aF (ai a 3)) (aF (ai b 3))) (ak (seq (aF (ai a 4)) (aF (ai b 4))) (ak (beq (asBool (ai a 5)) (asBool (ai b 5))) (ak (ieq (asInt (ai a 6)) (asInt (ai b 6))) (ak (ieq (asInt (ai a 7)) (asInt (ai b 7))) (ak (ak (ieq (asInt (ai a 8)) (asInt (ai b 8))) (ak (ieq (asInt (ai a 9)) (asInt (ai b 9))) (ieq (asInt (ai a 10)) (asInt (ai b 10))))) (ak (ieq (asInt (ai a 11)) (asInt (ai b 11))) (ieq (asInt (ai a 12)) (asInt (ai b 12))))))))))))
def Z5 (a b:V):Bool:=ak (seq (aF (ai a 0)) (aF (ai b 0))) (seq (aF (ai a 1)) (aF (ai b 1)))
def all2 (p:V→V→Bool) (l m:ah):Nat→Nat→Bool|0,_=>true|k+1,i=>p (aG l i) (aG m i)&&all2 p l m k (i+1)
def eqs (p:V→V→Bool) (l m:ah):Bool:=ieq (ay l) (ay m)&&all2 p l m l.length 0
def eqZ (a b:V):Bool:=ak (seq (aF (ai a 0)) (aF (ai b 0))) (eqs eqE (jM (ai a 1)) (jM (ai b 1)))
def KI (l m:ah):Bool:=eqs eqR l m
def US (l m:ah):Bool:=eqs eqE l m
def NB (l m:ah):Bool:=eqs Z5 l m
def Hr (l m:ah):Bool:=eqs eqZ l m
noncomputable def vERs:aD:=fun a=>match a with|[.sl e1 [.str,.int .i64,.int .i64,.int .i64,.int .i64,.int .i64,.int .i64,.int .i64,.int .i64,.int .i64,.str] o1 xs,.sl e2 [.str,.int .i64,.int .i64,.int .i64,.int .i64,.int .i64,.int .i64,.int .i64,.int .i64,.int .i64,.str] o2 ys]=>some (ax (ay xs) 1000,.bool (KI xs ys))|_=>none
noncomputable def vEEs:aD:=fun a=>match a with|[.sl e1 [.int .i64,.int .i64,.int .i64,.str,.str,.bool,.int .i64,.int .i64,.int .i64,.int .i64,.int .i64,.int .i64,.int .i64] o1 xs,.sl e2 [.int .i64,.int .i64,.int .i64,.str,.str,.bool,.int .i64,.int .i64,.int .i64,.int .i64,.int .i64,.int .i64,.int .i64] o2 ys]=>some (ax (ay xs) 1000,.bool (US xs ys))|_=>none
noncomputable def vELs:aD:=fun a=>match a with|[.sl e1 [.str,.str] o1 xs,.sl e2 [.str,.str] o2 ys]=>some (ax (ay xs) 1000,.bool (NB xs ys))|_=>none
noncomputable def qvS1:List (Nat×aD):=(26,vERs)::(25,vEEs)::(28,vELs)::KH
def e12 (l:ah):Bool:=ak (ax (ay l) 100) (l.all fun z=>ax (ay (jM (ai z 1))) 12)
noncomputable def vEzS:aD:=fun a=>match a with|[.sl e1 [.str,.sl 51 [.int .i64,.int .i64,.int .i64,.str,.str,.bool,.int .i64,.int .i64,.int .i64,.int .i64,.int .i64,.int .i64,.int .i64]] o1 xs,.sl e2 [.str,.sl 51 [.int .i64,.int .i64,.int .i64,.str,.str,.bool,.int .i64,.int .i64,.int .i64,.int .i64,.int .i64,.int .i64,.int .i64]] o2 ys,.fn g []]=>some (ak (g==24) (e12 xs),.bool (Hr xs ys))|_=>none
noncomputable def QO:List (Nat×aD):=(27,vEzS)::qvS1
def liR (e:V):Bool:=ax (aB (aF (ai e 0))) 200&&ax (aB (aF (ai e 10))) 200
def liE (e:V):Bool:=ax (aB (aF (ai e 3))) 200&&ax (aB (aF (ai e 4))) 200
def liL (e:V):Bool:=ax (aB (aF (ai e 1))) 200&&ax (aB (aF (ai e 0))) 200
def li5 (l:ah):Bool:=ax (ay l) 12&&allI liR l l.length 0
def li8 (n:af) (l:ah):Bool:=ax (ay l) 12&&(ax (aB n) 200&&allI liE l l.length 0)
def liZ (z:V):Bool:=li8 (aF (ai z 0)) (jM (ai z 1))
def li9 (xs zs a:ah):Bool:=(li5 xs&&(ax (ay zs) 10&&ax (ay a) 16))&&(allI liZ zs zs.length 0&&allI liL a a.length 0)
noncomputable def vL5S:aD:=fun a=>match a with|[.sl 53 [.str,.int .i64,.int .i64,.int .i64,.int .i64,.int .i64,.int .i64,.int .i64,.int .i64,.int .i64,.str] none xs]=>some (true,.bool (li5 xs))|_=>none
noncomputable def vL8S:aD:=fun a=>match a with|[.agg [.str n,.sl 51 [.int .i64,.int .i64,.int .i64,.str,.str,.bool,.int .i64,.int .i64,.int .i64,.int .i64,.int .i64,.int .i64,.int .i64] none es]]=>some (true,.bool (li8 n es))|_=>none
noncomputable def Z6:List (Nat×aD):=(15,vL5S)::(16,vL8S)::QO
noncomputable def vL9S:aD:=fun a=>match a with|[.agg [.sl 53 [.str,.int .i64,.int .i64,.int .i64,.int .i64,.int .i64,.int .i64,.int .i64,.int .i64,.int .i64,.str] none xs,.sl 57 [.str,.sl 51 [.int .i64,.int .i64,.int .i64,.str,.str,.bool,.int .i64,.int .i64,.int .i64,.int .i64,.int .i64,.int .i64,.int .i64]] none zs,.sl 59 [.str,.str] none ls]]=>some (true,.bool (li9 xs zs ls))|_=>none
noncomputable def vSmS:aD:=fun a=>match a with|[.agg [x,y,z],.agg [x2,y2,z2]]=>some (ak (ak (Ee x y z) (Ee x2 y2 z2)) (ak (ax (ay (bD x)) 1000) (ak (e12 (bD y)) (ax (ay (bD z)) 1000))),.bool (ak (KI (bD x) (bD x2)) (ak (Hr (bD y) (bD y2)) (NB (bD z) (bD z2)))))|_=>none
noncomputable def qvS4:List (Nat×aD):=(6,vL9S)::(10,vSmS)::(8,vRgS)::Z6
theorem vRr_top (F xs zs a) (K:V→Option V):
 bE rE (bC rE KH F 3) F 8 [V.agg [V.sl 53 kR none xs,V.sl 57 kZ none zs,V.sl 59 [Kd.str,Kd.str] none a]] K=
 sel (ak (ak true (ak true true)) (Xj xs zs a)) (K (V.bool (ieq (CO xs zs a) 0))) none:=by kernel_rfl
noncomputable def Gv:=fun F e n c f d a b K=>(bR rE KH F 2 26 [1,1,0,1,0] e K n (fB 26 [(0,V.sl 53 kR none c),(1,V.sl 53 kR none f),(4,V.bool d),(12,V.int .i64 a),(13,V.int .i64 b)] []):Option V)
theorem vEqR_top (F xs ys) (K:V→Option V):
 bE rE (bC rE KH F 2) F 26 [V.sl 53 kR none xs,V.sl 53 kR none ys] K=
 sel (aL (ieq (ay xs) (ay ys))) (K (V.bool false)) (Gv F [] F xs ys false (ay xs) 0 K):=by kernel_rfl
theorem Cn (F n c d e b a K):
 Gv F [] (n+1) c d e b a K=
 let A:=aG c a;let B:=aG d a;sel (aR a b) (sel (ak (ax 0 a) (aR a (ay c))) (sel (ak (ax 0 a) (aR a (ay d))) (sel (aL (ak (seq (aF (ai A 0)) (aF (ai B 0))) (ak (ieq (asInt (ai A 1)) (asInt (ai B 1))) (ak (ieq (asInt (ai A 2)) (asInt (ai B 2))) (ak (ieq (asInt (ai A 3)) (asInt (ai B 3))) (ak (ak (ieq (asInt (ai A 4)) (asInt (ai B 4))) (ak (ieq (asInt (ai A 5)) (asInt (ai B 5))) (ieq (asInt (ai A 6)) (asInt (ai B 6))))) (ak (ak (ieq (asInt (ai A 7)) (asInt (ai B 7))) (ieq (asInt (ai A 8)) (asInt (ai B 8)))) (ak (ieq (asInt (ai A 9)) (asInt (ai B 9))) (seq (aF (ai A 10)) (aF (ai B 10))))))))))) (K (V.bool false)) (Gv F [] n c d e b (bg .i64 a 1) K)) none) none) (K (V.bool true)):=by kernel_rfl
noncomputable def Gw:=fun F e n c f d a b K=>(bR rE KH F 2 25 [1,1,0,1,0] e K n (fB 26 [(0,V.sl 51 kE none c),(1,V.sl 51 kE none f),(4,V.bool d),(12,V.int .i64 a),(13,V.int .i64 b)] []):Option V)
theorem vEqE_top (F a b) (K:V→Option V):
 bE rE (bC rE KH F 2) F 25 [V.sl 51 kE none a,V.sl 51 kE none b] K=
 sel (aL (ieq (ay a) (ay b))) (K (V.bool false)) (Gw F [] F a b false (ay a) 0 K):=by kernel_rfl
theorem Co (F n c d e b a K):
 Gw F [] (n+1) c d e b a K=
 let A:=aG c a;let B:=aG d a;sel (aR a b) (sel (ak (ax 0 a) (aR a (ay c))) (sel (ak (ax 0 a) (aR a (ay d))) (sel (aL (ak (ieq (asInt (ai A 0)) (asInt (ai B 0))) (ak (ieq (asInt (ai A 1)) (asInt (ai B 1))) (ak (ieq (asInt (ai A 2)) (asInt (ai B 2))) (ak (seq (aF (ai A 3)) (aF (ai B 3))) (ak (seq (aF (ai A 4)) (aF (ai B 4))) (ak (beq (asBool (ai A 5)) (asBool (ai B 5))) (ak (ieq (asInt (ai A 6)) (asInt (ai B 6))) (ak (ieq (asInt (ai A 7)) (asInt (ai B 7))) (ak (ak (ieq (asInt (ai A 8)) (asInt (ai B 8))) (ak (ieq (asInt (ai A 9)) (asInt (ai B 9))) (ieq (asInt (ai A 10)) (asInt (ai B 10))))) (ak (ieq (asInt (ai A 11)) (asInt (ai B 11))) (ieq (asInt (ai A 12)) (asInt (ai B 12)))))))))))))) (K (V.bool false)) (Gw F [] n c d e b (bg .i64 a 1) K)) none) none) (K (V.bool true)):=by kernel_rfl
noncomputable def Gx:=fun F e n c f d a b K=>(bR rE KH F 2 28 [1,1,0,1,0] e K n (fB 26 [(0,V.sl 59 [Kd.str,Kd.str] none c),(1,V.sl 59 [Kd.str,Kd.str] none f),(4,V.bool d),(12,V.int .i64 a),(13,V.int .i64 b)] []):Option V)
theorem vEqL_top (F a b) (K:V→Option V):
 bE rE (bC rE KH F 2) F 28 [V.sl 59 [Kd.str,Kd.str] none a,V.sl 59 [Kd.str,Kd.str] none b] K=
 sel (aL (ieq (ay a) (ay b))) (K (V.bool false)) (Gx F [] F a b false (ay a) 0 K):=by kernel_rfl
theorem Cq (F n c d e b a K):
 Gx F [] (n+1) c d e b a K=
 sel (aR a b) (sel (ak (ax 0 a) (aR a (ay c))) (sel (ak (ax 0 a) (aR a (ay d))) (sel (aL (ak (seq (aF (ai (aG c a) 0)) (aF (ai (aG d a) 0))) (seq (aF (ai (aG c a) 1)) (aF (ai (aG d a) 1))))) (K (V.bool false)) (Gx F [] n c d e b (bg .i64 a 1) K)) none) none) (K (V.bool true)):=by kernel_rfl
noncomputable def Ol:=fun F e n d f g b a c K=>(bR rE qvS1 F 3 27 [1,1,0,1,0] e K n (fB 32 [(0,V.sl 57 kZ none d),(1,V.sl 57 kZ none f),(2,V.fn 24 []),(6,V.bool g),(15,V.sl 57 kZ none b),(16,V.int .i64 a),(17,V.int .i64 c)] []):Option V)
theorem vEz_top (F zs a) (K:V→Option V):
 bE rE (bC rE qvS1 F 3) F 27 [V.sl 57 kZ none zs,V.sl 57 kZ none a,V.fn 24 []] K=
 sel (aL (ieq (ay zs) (ay a))) (K (V.bool false)) (Ol F [] F zs a false zs (ay zs) 0 K):=by kernel_rfl
theorem Fg (F n e d f b c a K):
 Ol F [] (n+1) e d f b c a K=
 let A:=jM (ai (aG b a) 1);let B:=K (V.bool false);sel (aR a c) (sel (ak (ax 0 a) (aR a (ay b))) (sel (ak (ax 0 a) (aR a (ay d))) (sel (seq (aF (ai (aG b a) 0)) (aF (ai (aG d a) 0))) (sel (ax (ay A) 1000) (sel (aL (US A (jM (ai (aG d a) 1)))) B (Ol F [] n e d f b c (bg .i64 a 1) K)) none) B) none) none) (K (V.bool true)):=by kernel_rfl
theorem vSm_top (F xs zs a ys c b) (K:V→Option V):
 bE rE (bC rE QO F 3) F 10 [V.agg [V.sl 53 kR none xs,V.sl 57 kZ none zs,V.sl 59 [Kd.str,Kd.str] none a],V.agg [V.sl 53 kR none ys,V.sl 57 kZ none c,V.sl 59 [Kd.str,Kd.str] none b]] K=
 let A:=K (V.bool false);sel (ax (ay xs) 1000) (sel (KI xs ys) (sel (ak true (e12 zs)) (sel (Hr zs c) (sel (ax (ay a) 1000) (K (V.bool (NB a b))) none) A) none) A) none:=by kernel_rfl
noncomputable def Gy:=fun F d n b f c e a K=>(bR rE QO F 3 15 [1,1,0,1,0] d K n (fB 25 [(0,V.sl 53 kR none b),(2,V.bool f),(8,V.sl 53 kR none c),(9,V.int .i64 e),(10,V.int .i64 a)] []):Option V)
theorem vL25_top (F xs) (K:V→Option V):
 bE rE (bC rE QO F 3) F 15 [V.sl 53 kR none xs] K=
 sel (aR 12 (ay xs)) (K (V.bool false)) (Gy F [] F xs false xs (ay xs) 0 K):=by kernel_rfl
theorem Cr (F n d e b c a K):
 Gy F [] (n+1) d e b c a K=
 let A:=K (V.bool false);sel (aR a c) (sel (ak (ax 0 a) (aR a (ay b))) (sel (aR 200 (aB (aF (ai (aG b a) 0)))) A (sel (aR 200 (aB (aF (ai (aG b a) 10)))) A (Gy F [] n d e b c (bg .i64 a 1) K))) none) (K (V.bool true)):=by kernel_rfl
noncomputable def Gz:=fun F h n c a i e f g b d K=>(bR rE QO F 3 16 [1,1,0,1,0] h K n (fB 33 [(0,V.agg [V.str c,V.sl 51 kE none a]),(1,V.box 1 0),(2,V.bool i),(16,V.sl 51 kE none e),(17,V.int .i64 f),(18,V.int .i64 g)] [(1,[V.str b,V.sl 51 kE none d])]):Option V)
theorem vL28_top (F n a) (K:V→Option V):
 bE rE (bC rE QO F 3) F 16 [V.agg [V.str n,V.sl 51 kE none a]] K=
 let A:=K (V.bool false);sel (aR 12 (ay a)) A (sel (aR 200 (aB n)) A (Gz F [] F n a false a (ay a) 0 n a K)):=by kernel_rfl
theorem Cs (F n e c h b g a d f K):
 Gz F [] (n+1) e c h b g a d f K=
 let A:=K (V.bool false);sel (aR a g) (sel (ak (ax 0 a) (aR a (ay b))) (sel (aR 200 (aB (aF (ai (aG b a) 3)))) A (sel (aR 200 (aB (aF (ai (aG b a) 4)))) A (Gz F [] n e c h b g (bg .i64 a 1) d f K))) none) (K (V.bool true)):=by kernel_rfl
noncomputable def GA:=fun F j n d a c k i g h b f e K=>(bR rE Z6 F 3 6 [1,1,0,1,0] j K n (fB 52 [(0,V.agg [V.sl 53 kR none d,V.sl 57 kZ none a,V.sl 59 [Kd.str,Kd.str] none c]),(1,V.box 1 0),(2,V.bool k),(6,V.tup []),(24,V.sl 57 kZ none i),(25,V.int .i64 g),(26,V.int .i64 h),(35,V.tup []),(36,V.tup []),(37,V.tup [])] [(1,[V.sl 53 kR none b,V.sl 57 kZ none f,V.sl 59 [Kd.str,Kd.str] none e])]):Option V)
noncomputable def GD:=fun F m n f a b o k g j l i h e d c K=>(bR rE Z6 F 3 6 [1,1,1,0,1,0] m K n (fB 52 [(0,V.agg [V.sl 53 kR none f,V.sl 57 kZ none a,V.sl 59 [Kd.str,Kd.str] none b]),(1,V.box 1 0),(2,V.bool o),(24,V.sl 57 kZ none k),(25,V.int .i64 g),(26,V.int .i64 j),(35,V.sl 59 [Kd.str,Kd.str] none l),(36,V.int .i64 i),(37,V.int .i64 h)] [(1,[V.sl 53 kR none e,V.sl 57 kZ none d,V.sl 59 [Kd.str,Kd.str] none c])]):Option V)
theorem vL29_top (F xs zs a) (K:V→Option V):
 bE rE (bC rE Z6 F 3) F 6 [V.agg [V.sl 53 kR none xs,V.sl 57 kZ none zs,V.sl 59 [Kd.str,Kd.str] none a]] K=
 let A:=K (V.bool false);sel (aL (li5 xs)) A (sel (aR 10 (ay zs)) A (sel (aR 16 (ay a)) A (GA F [] F xs zs a false zs (ay zs) 0 xs zs a K))):=by kernel_rfl
theorem Ct (F n g d f j c i a e h b K):
 GA F [] (n+1) g d f j c i a e h b K=
 sel (aR a i) (sel (ak (ax 0 a) (aR a (ay c))) (sel (aL (li8 (aF (ai (aG c a) 0)) (jM (ai (aG c a) 1)))) (K (V.bool false)) (GA F [] n g d f j c i (bg .i64 a 1) e h b K)) none) (GD F [] F g d f j c i a b (ay b) 0 e h b K):=by kernel_rfl
theorem Cu (F n h c d m l j k b i a g f e K):
 GD F [] (n+1) h c d m l j k b i a g f e K=
 let A:=K (V.bool false);sel (aR a i) (sel (ak (ax 0 a) (aR a (ay b))) (sel (aR 200 (aB (aF (ai (aG b a) 1)))) A (sel (aR 200 (aB (aF (ai (aG b a) 0)))) A (GD F [] n h c d m l j k b i (bg .i64 a 1) g f e K))) none) (K (V.bool true)):=by kernel_rfl
theorem tQ {G:aW} {K:List Kd} {x:V} {v:Value} (e:Nat) (h:slK K x=true) (a:aV G x v):aV G (.sl e K none (bD x)) v:=by
 unfold slK at h;split at h
 ·unfold aV at a
  unfold aV;exact⟨none,0,a,kG _,.inl rfl⟩
 ·rename_i b sh o xs
  have:=Kd.cu _ _ h;subst this;unfold aV at a⊢;exact a
 cases h
theorem Om {G:aW} {x y z:V} {v:Value} (h:Ee x y z=true) (c:aV G (.agg [x,y,z]) v):aV G (.agg [.sl 53 [.str,.int .i64,.int .i64,.int .i64,.int .i64,.int .i64,.int .i64,.int .i64,.int .i64,.int .i64,.str] none (bD x),.sl 57 [.str,.sl 51 [.int .i64,.int .i64,.int .i64,.str,.str,.bool,.int .i64,.int .i64,.int .i64,.int .i64,.int .i64,.int .i64,.int .i64]] none (bD y),.sl 59 [.str,.str] none (bD z)]) v:=by unfold Ee at h;obtain⟨k,e⟩:=aN h;obtain⟨g,j⟩:=aN e;unfold aV at c;obtain⟨a,rfl,b,t,rfl,f,m,t2,rfl,i,n,l,rfl,d,rfl⟩:=c;unfold aV;exact⟨_,rfl,_,_,rfl,tQ _ k f,_,_,rfl,tQ _ g i,_,_,rfl,tQ _ j d,rfl⟩
theorem con_tb {f:Nat} {x y z r:V} (h:Ee x y z=true) (c:aj rE f [.agg [.sl 53 [.str,.int .i64,.int .i64,.int .i64,.int .i64,.int .i64,.int .i64,.int .i64,.int .i64,.int .i64,.str] none (bD x),.sl 57 [.str,.sl 51 [.int .i64,.int .i64,.int .i64,.str,.str,.bool,.int .i64,.int .i64,.int .i64,.int .i64,.int .i64,.int .i64,.int .i64]] none (bD y),.sl 59 [.str,.str] none (bD z)]] r):aj rE f [.agg [x,y,z]] r:=by intro G w vs d b a;refine c G w vs d b ?_;obtain⟨v,rfl,e⟩:=zx a;exact .cons (Om h e) .nil
theorem con_tb2 {f:Nat} {x y z a e d r:V} (h:Ee x y z=true) (i:Ee a e d=true) (c:aj rE f [.agg [.sl 53 [.str,.int .i64,.int .i64,.int .i64,.int .i64,.int .i64,.int .i64,.int .i64,.int .i64,.int .i64,.str] none (bD x),.sl 57 [.str,.sl 51 [.int .i64,.int .i64,.int .i64,.str,.str,.bool,.int .i64,.int .i64,.int .i64,.int .i64,.int .i64,.int .i64,.int .i64]] none (bD y),.sl 59 [.str,.str] none (bD z)],.agg [.sl 53 [.str,.int .i64,.int .i64,.int .i64,.int .i64,.int .i64,.int .i64,.int .i64,.int .i64,.int .i64,.str] none (bD a),.sl 57 [.str,.sl 51 [.int .i64,.int .i64,.int .i64,.str,.str,.bool,.int .i64,.int .i64,.int .i64,.int .i64,.int .i64,.int .i64,.int .i64]] none (bD e),.sl 59 [.str,.str] none (bD d)]] r):aj rE f [.agg [x,y,z],.agg [a,e,d]] r:=by intro G w vs k j g;refine c G w vs k j ?_;obtain⟨v,m,rfl,l,b⟩:=iO g;exact .cons (Om h l) (.cons (Om i b) .nil)
theorem Zj (x y z:V) (b:Nv x y z=true):aj rE 7 [.agg [x,y,z]] (.tup [.str (Qs (bD x) (bD y) (bD z)),.int .i64 (CO (bD x) (bD y) (bD z))]):=by obtain⟨a,c⟩:=aN b;exact con_tb a (txt_ev _ _ _ c)
theorem Bl:aZ rE KH:=by
 unfold KH;refine aZ.cons (fun args r h=>?_) aZ.nil;all_goals (revert h;intro h;first|unfold vTxS at h)
 all_goals (split at h;rotate_left; · cases h)
 all_goals (simp only[aT,bP] at h;obtain⟨a,rfl⟩:=h)
 ·exact Zj _ _ _ a
theorem Zk (x y z:V) (b:Nv x y z=true):aj rE 8 [.agg [x,y,z]] (.bool (Kt (bD x) (bD y) (bD z))):=by
 obtain⟨a,c⟩:=aN b;refine con_tb a (au nD Bl 5 3 ?_);have e:ieq (CO (bD x) (bD y) (bD z)) 0=Kt (bD x) (bD y) (bD z):=by
  unfold CO
  cases Kt (bD x) (bD y) (bD z)<;>rfl
 rw[vRr_top,c,e];rfl
theorem xP (p:V→V→Bool) (l m:ah) (k i:Nat):all2 p l m (k+1) i=(p (aG l i) (aG m i)&&all2 p l m k (i+1)):=rfl
theorem Pv {f:Nat} {K K2:List Kd} {h j t1 t2:Nat} {k i:Option Nat} {xs ys:ah} {r:V} (c:aj rE f [.sl t1 K none xs,.sl t2 K2 none ys] r):aj rE f [.sl h K k xs,.sl j K2 i ys] r:=by
 intro G w vs g e d;refine c G w vs g e ?_;obtain⟨v,l,rfl,b,a⟩:=iO d;refine .cons ?_ (.cons ?_ .nil)
 ·unfold aV at b⊢;exact b
 unfold aV at a⊢;exact a
theorem afD (F:Nat) (xs ys:ah) (b:Bool) (j:ys.length=xs.length) (l:xs.length≤1000) (K:V→Option V): ∀(k i G:Nat),i+k=xs.length→k<G→Gv F [] G xs ys b (ay xs) i K=K (.bool (all2 eqR xs ys k i)):=by
 intro k;induction k with
 |zero=>
  intro i G g c;obtain⟨G,rfl⟩:=uN (show G≠0 by omega)
  (rw[Cn];(conv=>zeta);rw[aI (jK (by omega))]);rfl
 |succ k f=>
  intro i G g c;obtain⟨G,rfl⟩:=uN (show G≠0 by omega);obtain⟨e,d,a⟩:=iH (xs:=xs) (i:=i) (by omega) (by omega);obtain⟨_,h,_⟩:=iH (xs:=ys) (i:=i) (by omega) (by omega)
  (rw[Cn];(conv=>zeta);rw[av e,av d,av h,a,f (i+1) G (by omega) (by omega),xP])
  show sel (aL (eqR (aG xs i) (aG ys i))) (K (.bool false)) _=_
  cases eqR (aG xs i) (aG ys i)<;>rfl
theorem vERs_ok (a:Nat) (g:Option Nat) (xs:ah) (f:Nat) (d:Option Nat) (ys:ah) (b:ax (ay xs) 1000=true):aj rE 26 [.sl a [.str,.int .i64,.int .i64,.int .i64,.int .i64,.int .i64,.int .i64,.int .i64,.int .i64,.int .i64,.str] g xs,.sl f [.str,.int .i64,.int .i64,.int .i64,.int .i64,.int .i64,.int .i64,.int .i64,.int .i64,.int .i64,.str] d ys] (.bool (KI xs ys)):=by
 refine Pv (t1:=53) (t2:=53) (au nD Bl 1010 2 ?_);have c:=Qp (k:=1000) b;rw[vEqR_top];unfold KI eqs
 cases h:ieq (ay xs) (ay ys) with
 |false=>rfl
 |true=>rw[aO,aC,aC] at h;have e:=afD 1010 xs ys false (by omega) c some xs.length 0 1010 (by omega) (by omega);rw[c0] at e;rw[aI (show aL true=false from rfl),e];rfl
theorem afE (F:Nat) (xs ys:ah) (b:Bool) (j:ys.length=xs.length) (l:xs.length≤1000) (K:V→Option V): ∀(k i G:Nat),i+k=xs.length→k<G→Gw F [] G xs ys b (ay xs) i K=K (.bool (all2 eqE xs ys k i)):=by
 intro k;induction k with
 |zero=>
  intro i G g c;obtain⟨G,rfl⟩:=uN (show G≠0 by omega)
  (rw[Co];(conv=>zeta);rw[aI (jK (by omega))]);rfl
 |succ k f=>
  intro i G g c;obtain⟨G,rfl⟩:=uN (show G≠0 by omega);obtain⟨e,d,a⟩:=iH (xs:=xs) (i:=i) (by omega) (by omega);obtain⟨_,h,_⟩:=iH (xs:=ys) (i:=i) (by omega) (by omega)
  (rw[Co];(conv=>zeta);rw[av e,av d,av h,a,f (i+1) G (by omega) (by omega),xP])
  show sel (aL (eqE (aG xs i) (aG ys i))) (K (.bool false)) _=_
  cases eqE (aG xs i) (aG ys i)<;>rfl
theorem vEEs_ok (a:Nat) (g:Option Nat) (xs:ah) (f:Nat) (d:Option Nat) (ys:ah) (b:ax (ay xs) 1000=true):aj rE 25 [.sl a [.int .i64,.int .i64,.int .i64,.str,.str,.bool,.int .i64,.int .i64,.int .i64,.int .i64,.int .i64,.int .i64,.int .i64] g xs,.sl f [.int .i64,.int .i64,.int .i64,.str,.str,.bool,.int .i64,.int .i64,.int .i64,.int .i64,.int .i64,.int .i64,.int .i64] d ys] (.bool (US xs ys)):=by
 refine Pv (t1:=51) (t2:=51) (au nD Bl 1010 2 ?_);have c:=Qp (k:=1000) b;rw[vEqE_top];unfold US eqs
 cases h:ieq (ay xs) (ay ys) with
 |false=>rfl
 |true=>rw[aO,aC,aC] at h;have e:=afE 1010 xs ys false (by omega) c some xs.length 0 1010 (by omega) (by omega);rw[c0] at e;rw[aI (show aL true=false from rfl),e];rfl
theorem afF (F:Nat) (xs ys:ah) (b:Bool) (j:ys.length=xs.length) (l:xs.length≤1000) (K:V→Option V): ∀(k i G:Nat),i+k=xs.length→k<G→Gx F [] G xs ys b (ay xs) i K=K (.bool (all2 Z5 xs ys k i)):=by
 intro k;induction k with
 |zero=>intro i G g c;obtain⟨G,rfl⟩:=uN (show G≠0 by omega);rw[Cq,aI (jK (by omega))];rfl
 |succ k f=>
  intro i G g c;obtain⟨G,rfl⟩:=uN (show G≠0 by omega);obtain⟨e,d,a⟩:=iH (xs:=xs) (i:=i) (by omega) (by omega);obtain⟨_,h,_⟩:=iH (xs:=ys) (i:=i) (by omega) (by omega);rw[Cq,av e,av d,av h,a,f (i+1) G (by omega) (by omega),xP];show sel (aL (Z5 (aG xs i) (aG ys i))) (K (.bool false)) _=_
  cases Z5 (aG xs i) (aG ys i)<;>rfl
theorem vELs_ok (a:Nat) (g:Option Nat) (xs:ah) (f:Nat) (d:Option Nat) (ys:ah) (b:ax (ay xs) 1000=true):aj rE 28 [.sl a [.str,.str] g xs,.sl f [.str,.str] d ys] (.bool (NB xs ys)):=by
 refine Pv (t1:=59) (t2:=59) (au nD Bl 1010 2 ?_);have c:=Qp (k:=1000) b;rw[vEqL_top];unfold NB eqs
 cases h:ieq (ay xs) (ay ys) with
 |false=>rfl
 |true=>rw[aO,aC,aC] at h;have e:=afF 1010 xs ys false (by omega) c some xs.length 0 1010 (by omega) (by omega);rw[c0] at e;rw[aI (show aL true=false from rfl),e];rfl
theorem Zl:aZ rE qvS1:=by
 unfold qvS1;refine aZ.cons (fun args r h=>?_) (aZ.cons (fun args r h=>?_) (aZ.cons (fun args r h=>?_) Bl));all_goals (revert h;intro h;first|unfold vERs at h|unfold vEEs at h|unfold vELs at h)
 all_goals (split at h;rotate_left; · cases h)
 all_goals (simp only[aT,bP] at h;obtain⟨a,rfl⟩:=h)
 ·exact vERs_ok _ _ _ _ _ _ a
 ·exact vEEs_ok _ _ _ _ _ _ a
 exact vELs_ok _ _ _ _ _ _ a
theorem Zm {l:ah} (h:e12 l=true):l.length≤100∧ ∀i,i<l.length→(jM (ai (aG l (i:Int)) 1)).length≤12:=by unfold e12 at h;obtain⟨a,b⟩:=aN h;refine⟨Qp (k:=100) a,fun i c=>?_⟩;exact Qp (k:=12) (qL b c)
theorem vEz_loop (F:Nat) (xs ys:ah) (b:Bool) (n:ys.length=xs.length) (h:e12 xs=true) (K:V→Option V): ∀(k i G:Nat),i+k=xs.length→k<G→Ol F [] G xs ys b xs (ay xs) i K=K (.bool (all2 eqZ xs ys k i)):=by
 obtain⟨o,a⟩:=Zm h;intro k;induction k with
 |zero=>
  intro i G l e;obtain⟨G,rfl⟩:=uN (show G≠0 by omega)
  (rw[Fg];(conv=>zeta);rw[aI (jK (by omega))]);rfl
 |succ k j=>
  intro i G l e;obtain⟨G,rfl⟩:=uN (show G≠0 by omega);obtain⟨g,f,d⟩:=iH (xs:=xs) (i:=i) (by omega) (by omega);obtain⟨_,m,_⟩:=iH (xs:=ys) (i:=i) (by omega) (by omega);have p:=a i (by omega)
  (rw[Fg];(conv=>zeta);rw[av g,av f,av m,d,j (i+1) G (by omega) (by omega),xP,av (c:=ax (ay (jM (ai (aG xs i) 1))) 1000) (bn (by rw[aC];omega))])
  show sel (seq (aF (ai (aG xs i) 0)) (aF (ai (aG ys i) 0))) (sel (aL (US (jM (ai (aG xs i) 1)) (jM (ai (aG ys i) 1)))) (K (.bool false)) _) (K (.bool false))=K (.bool (ak (seq (aF (ai (aG xs i) 0)) (aF (ai (aG ys i) 0))) (US (jM (ai (aG xs i) 1)) (jM (ai (aG ys i) 1)))&&all2 eqZ xs ys k (i+1)))
  cases seq (aF (ai (aG xs i) 0)) (aF (ai (aG ys i) 0))<;>cases US (jM (ai (aG xs i) 1)) (jM (ai (aG ys i) 1))<;>rfl
theorem vEzS_ok (k:Nat) (q:Option Nat) (xs:ah) (p:Nat) (m:Option Nat) (ys:ah) (g:Nat) (o:ak (g==24) (e12 xs)=true):aj rE 27 [.sl k [.str,.sl 51 [.int .i64,.int .i64,.int .i64,.str,.str,.bool,.int .i64,.int .i64,.int .i64,.int .i64,.int .i64,.int .i64,.int .i64]] q xs,.sl p [.str,.sl 51 [.int .i64,.int .i64,.int .i64,.str,.str,.bool,.int .i64,.int .i64,.int .i64,.int .i64,.int .i64,.int .i64,.int .i64]] m ys,.fn g []] (.bool (Hr xs ys)):=by
 obtain⟨n,d⟩:=aN o;obtain rfl:g=24:=by simpa using n
 have h:aj rE 27 [.sl 57 [.str,.sl 51 [.int .i64,.int .i64,.int .i64,.str,.str,.bool,.int .i64,.int .i64,.int .i64,.int .i64,.int .i64,.int .i64,.int .i64]] none xs,.sl 57 [.str,.sl 51 [.int .i64,.int .i64,.int .i64,.str,.str,.bool,.int .i64,.int .i64,.int .i64,.int .i64,.int .i64,.int .i64,.int .i64]] none ys,.fn 24 []] (.bool (Hr xs ys)):=by
  refine au nD Zl 1010 3 ?_;obtain⟨u,l⟩:=Zm d;rw[vEz_top];unfold Hr eqs
  cases h:ieq (ay xs) (ay ys) with
  |false=>rfl
  |true=>rw[aO,aC,aC] at h;have e:=vEz_loop 1010 xs ys false (by omega) d some xs.length 0 1010 (by omega) (by omega);rw[c0] at e;rw[aI (show aL true=false from rfl),e];rfl
 intro G w vs j i b;refine h G w vs j i ?_;obtain⟨v,t,rfl,f,b⟩:=b.cons_inv;obtain⟨s,r,rfl,a,c⟩:=iO b;refine .cons ?_ (.cons ?_ (.cons c .nil))
 ·unfold aV at f⊢;exact f
 unfold aV at a⊢;exact a
theorem GG:aZ rE QO:=by
 unfold QO;refine aZ.cons (fun args r h=>?_) Zl;all_goals (revert h;intro h;first|unfold vEzS at h)
 all_goals (split at h;rotate_left; · cases h)
 all_goals (simp only[aT,bP] at h;obtain⟨a,rfl⟩:=h)
 ·exact vEzS_ok _ _ _ _ _ _ _ a
noncomputable def smT (xs zs c ys b a:ah):Bool:=ak (KI xs ys) (ak (Hr zs b) (NB c a))
theorem same_ev (xs zs b ys a c:ah) (e:ax (ay xs) 1000=true) (f:e12 zs=true) (d:ax (ay b) 1000=true):aj rE 10 [.agg [.sl 53 [.str,.int .i64,.int .i64,.int .i64,.int .i64,.int .i64,.int .i64,.int .i64,.int .i64,.int .i64,.str] none xs,.sl 57 [.str,.sl 51 [.int .i64,.int .i64,.int .i64,.str,.str,.bool,.int .i64,.int .i64,.int .i64,.int .i64,.int .i64,.int .i64,.int .i64]] none zs,.sl 59 [.str,.str] none b],.agg [.sl 53 [.str,.int .i64,.int .i64,.int .i64,.int .i64,.int .i64,.int .i64,.int .i64,.int .i64,.int .i64,.str] none ys,.sl 57 [.str,.sl 51 [.int .i64,.int .i64,.int .i64,.str,.str,.bool,.int .i64,.int .i64,.int .i64,.int .i64,.int .i64,.int .i64,.int .i64]] none a,.sl 59 [.str,.str] none c]] (.bool (smT xs zs b ys a c)):=by
 refine au nD GG 5 3 ?_
 (rw[vSm_top];(conv=>zeta);rw[e,d,f])
 unfold smT
 cases KI xs ys<;>cases Hr zs a<;>rfl
theorem Zo (x y z c b a:V) (j:ak (ak (Ee x y z) (Ee c b a)) (ak (ax (ay (bD x)) 1000) (ak (e12 (bD y)) (ax (ay (bD z)) 1000)))=true):aj rE 10 [.agg [x,y,z],.agg [c,b,a]] (.bool (ak (KI (bD x) (bD c)) (ak (Hr (bD y) (bD b)) (NB (bD z) (bD a))))):=by obtain⟨d,f⟩:=aN j;obtain⟨i,g⟩:=aN f;obtain⟨h,e⟩:=aN g;exact con_tb2 (aN d).1 (aN d).2 (same_ev _ _ _ _ _ _ i h e)
theorem bd0 {a b:Bool} (c:a=true) (d:b=true):ak a b=true:=by rw[c,d];rfl
def fitR (e:V):Prop:=Fits (asInt (ai e 9))∧Fits (asInt (ai e 3))
def fitE (e:V):Prop:=Fits (asInt (ai e 0))∧Fits (asInt (ai e 2))∧Fits (asInt (ai e 6))∧Fits (asInt (ai e 7))
theorem fits0:Fits 0:=by unfold Fits;omega
def i64K:Kd→Bool| .int k=>k== .i64|_=>true
theorem lz {P:Program}: ∀(sh:List Kd) (ys:ah),sh.all i64K=true→bW sh ys=true→(∀y∈ys,F4 P y)→ ∀i,Fits (asInt (ys.getD i .any))
 |[],ys,_,a,_,i=>by obtain rfl:=M3 a;rw[show asInt (([]:ah).getD i .any)=0 from rfl];unfold Fits;omega
 |k::sh,ys,b,a,c,i=>by
  obtain⟨x,t,rfl,d,g⟩:=mR a;rw[K8,bF] at b
  cases i with
  |succ i=>exact lz sh t b.2 g (fun y j=>c y (uO _ j)) i
  |zero=>
   show Fits (asInt x);have f:=c x rf
   cases x with
   |int e n=>
    have h:k=.int e:=by
     cases k<;>simp[fits] at d
     rw[d]
    subst h;have:e=IntKind.i64:=by simpa[i64K] using b.1
    subst this;unfold F4 at f;exact bounds_i64 f
   |_=>exact fits0
theorem GH {P:Program} {e:Nat} {sh:List Kd} {x:V} (h:bL P e=some true) (a:fits (.sl e sh) x=true) (b:F4 P x):slK sh x=true∧ ∀r∈bD x,∃ys,r=.agg ys∧bW sh ys=true∧ ∀y∈ys,F4 P y:=by
 cases x with
 |sl l g o xs=>simp only[fits] at a;rw[bF,iJ] at a;obtain⟨rfl,c⟩:=a;have i:=Kd.cu _ _ c;subst i;unfold F4 at b;obtain⟨_,_,k,j⟩:=b;exact⟨c,aggs_of h fun x d=>⟨k x d,(sj _ _).1 j x d⟩⟩
 |nilsl=>exact⟨rfl,fun r f=>by cases f⟩
 |_=>simp[fits] at a
theorem xs_asL (x:V):bD x=jM x:=by cases x<;>rfl
theorem afG {P:Program} {g:ah} (s:bL P 53=some true) (m:bL P 57=some true) (B:bL P 59=some true) (r:bL P 51=some true)
  (a:bW [.sl 53 [.str,.int .i64,.int .i64,.int .i64,.int .i64,.int .i64,.int .i64,.int .i64,.int .i64,.int .i64,.str],.sl 57 [.str,.sl 51 [.int .i64,.int .i64,.int .i64,.str,.str,.bool,.int .i64,.int .i64,.int .i64,.int .i64,.int .i64,.int .i64,.int .i64]],.sl 59 [.str,.str]] g=true) (i: ∀c∈g,F4 P c):
  ∃x y z,g=[x,y,z]∧Ee x y z=true∧(∀e∈bD x,fitR e)∧(∀z∈bD y,∀e∈jM (ai z 1),fitE e):=by
 obtain⟨x,t,rfl,p,a⟩:=mR a;obtain⟨y,t,rfl,C,a⟩:=mR a;obtain⟨z,t,rfl,F,a⟩:=mR a;obtain rfl:=M3 a;obtain⟨E,G⟩:=GH s p (i x (by simp));obtain⟨l,A⟩:=GH m C (i y (by simp));obtain⟨v,J⟩:=GH B F (i z (by simp));refine⟨x,y,z,rfl,bd0 E (bd0 l v),fun e j=>?_,fun q o e j=>?_⟩
 ·obtain⟨ys,rfl,g1,d⟩:=G e j
  exact⟨lz _ ys (by rfl) g1 d 9,lz _ ys (by rfl) g1 d 3⟩
 obtain⟨ys,rfl,g1,d⟩:=A q o;obtain⟨n,t,rfl,K,w⟩:=mR g1;obtain⟨u,t,rfl,D,H⟩:=mR w;obtain⟨I,k⟩:=GH r D (d u (by simp));have h:e∈bD u:=by rw[xs_asL];exact j
 obtain⟨vs,rfl,b,f⟩:=k e h;exact⟨lz _ vs (by rfl) b f 0,lz _ vs (by rfl) b f 2,lz _ vs (by rfl) b f 6,lz _ vs (by rfl) b f 7⟩
theorem vM (a b:Int):aR a b=aL (ax b a):=by
 unfold aR ax aL;by_cases h:a<b
 ·rw[uG h,uP (by omega)];rfl
 rw[uP h,uG (by omega)];rfl
theorem l25_loop (F:Nat) (a xs:ah) (b:Bool) (j:xs.length≤12) (K:V→Option V): ∀(k i G:Nat),i+k=xs.length→k<G→Gy F [] G a b xs (ay xs) i K=K (.bool (allI liR xs k i)):=by
 intro k;induction k with
 |zero=>
  intro i G h d;obtain⟨G,rfl⟩:=uN (show G≠0 by omega)
  (rw[Cr];(conv=>zeta);rw[aI (jK (by omega))]);rfl
 |succ k g=>
  intro i G h d;obtain⟨G,rfl⟩:=uN (show G≠0 by omega);obtain⟨f,e,c⟩:=iH (xs:=xs) (i:=i) (by omega) (by omega)
  (rw[Cr];(conv=>zeta);rw[av f,av e,c,g (i+1) G (by omega) (by omega),sQ,vM,vM])
  unfold liR
  cases ax (aB (aF (ai (aG xs i) 0))) 200<;>cases ax (aB (aF (ai (aG xs i) 10))) 200<;>rfl
theorem vL5S_ok (xs:ah) (b:true=true):aj rE 15 [.sl 53 [.str,.int .i64,.int .i64,.int .i64,.int .i64,.int .i64,.int .i64,.int .i64,.int .i64,.int .i64,.str] none xs] (.bool (li5 xs)):=by
 refine au nD GG 100 3 ?_;rw[vL25_top,vM];unfold li5
 cases h:ax (ay xs) 12 with
 |false=>rfl
 |true=>have a:=Qp (k:=12) h;have e:=l25_loop 100 xs xs false a some xs.length 0 100 (by omega) (by omega);rw[c0] at e;rw[aI (show aL true=false from rfl),e];rfl
theorem l28_loop (F:Nat) (n m:af) (a c q:ah) (b:Bool) (l:c.length≤12) (K:V→Option V): ∀(k i G:Nat),i+k=c.length→k<G→Gz F [] G n a b c (ay c) i m q K=K (.bool (allI liE c k i)):=by
 intro k;induction k with
 |zero=>
  intro i G j e;obtain⟨G,rfl⟩:=uN (show G≠0 by omega)
  (rw[Cs];(conv=>zeta);rw[aI (jK (by omega))]);rfl
 |succ k h=>
  intro i G j e;obtain⟨G,rfl⟩:=uN (show G≠0 by omega);obtain⟨g,f,d⟩:=iH (xs:=c) (i:=i) (by omega) (by omega)
  (rw[Cs];(conv=>zeta);rw[av g,av f,d,h (i+1) G (by omega) (by omega),sQ,vM,vM])
  unfold liE
  cases ax (aB (aF (ai (aG c i) 3))) 200<;>cases ax (aB (aF (ai (aG c i) 4))) 200<;>rfl
theorem vL8S_ok (n:af) (a:ah) (d:true=true):aj rE 16 [.agg [.str n,.sl 51 [.int .i64,.int .i64,.int .i64,.str,.str,.bool,.int .i64,.int .i64,.int .i64,.int .i64,.int .i64,.int .i64,.int .i64] none a]] (.bool (li8 n a)):=by
 refine au nD GG 100 3 ?_
 (rw[vL28_top];(conv=>zeta);rw[vM,vM])
 unfold li8
 cases h:ax (ay a) 12 with
 |false=>rfl
 |true=>
 cases c:ax (aB n) 200 with
 |false=>rfl
 |true=>have b:=Qp (k:=12) h;have e:=l28_loop 100 n n a a a false b some a.length 0 100 (by omega) (by omega);rw[c0] at e;rw[aI (show aL true=false from rfl),aI (show aL true=false from rfl),e];rfl
theorem Zp:aZ rE Z6:=by
 unfold Z6;refine aZ.cons (fun args r h=>?_) (aZ.cons (fun args r h=>?_) GG);all_goals (revert h;intro h;first|unfold vL5S at h|unfold vL8S at h)
 all_goals (split at h;rotate_left; · cases h)
 all_goals (simp only[aT,bP] at h;obtain⟨a,rfl⟩:=h)
 ·exact vL5S_ok _ rfl
 exact vL8S_ok _ _ rfl
theorem l29_1 (F:Nat) (a b c:ah) (x:Bool) (d:ah) (o j:Int) (e p q r:ah) (s:e.length≤16) (K:V→Option V): ∀(k i G:Nat),i+k=e.length→k<G→GD F [] G a b c x d o j e (ay e) i p q r K=K (.bool (allI liL e k i)):=by
 intro k;induction k with
 |zero=>
  intro i G n g;obtain⟨G,rfl⟩:=uN (show G≠0 by omega)
  (rw[Cu];(conv=>zeta);rw[aI (jK (by omega))]);rfl
 |succ k m=>
  intro i G n g;obtain⟨G,rfl⟩:=uN (show G≠0 by omega);obtain⟨l,h,f⟩:=iH (xs:=e) (i:=i) (by omega) (by omega)
  (rw[Cu];(conv=>zeta);rw[av l,av h,f,m (i+1) G (by omega) (by omega),sQ,vM,vM])
  unfold liL
  cases ax (aB (aF (ai (aG e i) 1))) 200<;>cases ax (aB (aF (ai (aG e i) 0))) 200<;>rfl
theorem l29_0 (F:Nat) (o:20≤F) (a b c:ah) (x:Bool) (zs p q d:ah) (r:zs.length≤10) (j:d.length≤16) (K:V→Option V): ∀(k i G:Nat),i+k=zs.length→k<G→GA F [] G a b c x zs (ay zs) i p q d K=K (.bool (allI liZ zs k i&&allI liL d d.length 0)):=by
 intro k;induction k with
 |zero=>intro i G n g;obtain⟨G,rfl⟩:=uN (show G≠0 by omega);rw[Ct,aI (jK (by omega))];have e:=l29_1 F a b c x zs (ay zs) i d p q d j K d.length 0 F (by omega) (by omega);rw[c0] at e;rw[e];rfl
 |succ k m=>
  intro i G n g;obtain⟨G,rfl⟩:=uN (show G≠0 by omega);obtain⟨l,h,f⟩:=iH (xs:=zs) (i:=i) (by omega) (by omega);rw[Ct,av l,av h,f,m (i+1) G (by omega) (by omega),sQ];show sel (aL (liZ (aG zs i))) (K (.bool false)) _=_
  cases liZ (aG zs i)<;>rfl
theorem Zq (xs zs a:ah) (d:true=true):aj rE 6 [.agg [.sl 53 [.str,.int .i64,.int .i64,.int .i64,.int .i64,.int .i64,.int .i64,.int .i64,.int .i64,.int .i64,.str] none xs,.sl 57 [.str,.sl 51 [.int .i64,.int .i64,.int .i64,.str,.str,.bool,.int .i64,.int .i64,.int .i64,.int .i64,.int .i64,.int .i64,.int .i64]] none zs,.sl 59 [.str,.str] none a]] (.bool (li9 xs zs a)):=by
 refine au nD Zp 100 3 ?_
 (rw[vL29_top];(conv=>zeta);rw[vM,vM])
 unfold li9
 cases c:li5 xs with
 |false=>rfl
 |true=>
 cases h:ax (ay zs) 10 with
 |false=>rfl
 |true=>
 cases b:ax (ay a) 16 with
 |false=>rfl
 |true=>have e:=l29_0 100 (by omega) xs zs a false zs xs zs a (Qp (k:=10) h) (Qp (k:=16) b) some zs.length 0 100 (by omega) (by have:=Qp (k:=10) h;omega);rw[c0] at e;rw[aI (show aL true=false from rfl),aI (show aL true=false from rfl),aI (show aL true=false from rfl),e];rfl
theorem qvS4_ok:aZ rE qvS4:=by
 unfold qvS4;refine aZ.cons (fun args r h=>?_) (aZ.cons (fun args r h=>?_) (aZ.cons (fun args r h=>?_) Zp));all_goals (revert h;intro h;first|unfold vL9S at h|unfold vSmS at h|unfold vRgS at h)
 all_goals (split at h;rotate_left; · cases h)
 all_goals (simp only[aT,bP] at h;obtain⟨a,rfl⟩:=h)
 ·exact Zq _ _ _ rfl
 ·exact Zo _ _ _ _ _ _ a
 exact Zk _ _ _ a
theorem lives_ev:aj rE 5 [] (.bool true):=au nD qvS4_ok 20 3 (by kernel_rfl)
theorem Sz (p:V→Bool) (l:ah): ∀(k i:Nat),allI p l k i=true→ ∀j,i≤j→j<i+k→p (aG l (j:Int))=true
 |0,i,h,j,b,a=>by omega
 |k+1,i,h,j,b,a=>by
  rw[sQ,bF] at h;by_cases e:j=i
  ·subst e;exact h.1
  exact Sz p l k (i+1) h.2 j (by omega) (by omega)
theorem sw {p:V→Bool} {l:ah} (h:allI p l l.length 0=true): ∀x∈l,p x=true:=by intro x b;obtain⟨j,a,rfl⟩:=List.mem_iff_getElem.1 b;have:=Sz p l l.length 0 h j (by omega) (by omega);rw[fo,l7,iK a] at this;exact this
theorem bd {a b:Bool} (c:a=true) (d:b=true):ak a b=true:=by rw[c,d];rfl
theorem ft {a:Int} (h:Fits a):ak (ax (-9223372036854775808) a) (ax a 9223372036854775807)=true:=by unfold Fits at h;rw[aM,aA,aA];omega
theorem l2 {s:af} (h:ax (aB s) 200=true):ax (aB s) 900=true:=by rw[aA] at h⊢;omega
theorem rgK_of {xs zs c:ah} (h:li9 xs zs c=true) (v: ∀e∈xs,fitR e) (q: ∀z∈zs,∀e∈jM (ai z 1),fitE e):Xj xs zs c=true∧e12 zs=true∧ax (ay xs) 1000=true∧ax (ay c) 1000=true:=by
 unfold li9 at h;simp only[bF] at h;obtain⟨⟨i,l,m⟩,o,w⟩:=h;unfold li5 at i;rw[bF] at i;obtain⟨j,s⟩:=i;have k: ∀z∈zs,(ax (ay (jM (ai z 1))) 12=true∧gZ z=true):=by intro z a;have:=sw o z a;unfold liZ li8 at this;rw[bF,bF] at this;obtain⟨n,p,r⟩:=this;refine⟨n,?_⟩;unfold gZ zoK;refine bd (l2 p) (bd n (List.all_eq_true.2 fun e b=>?_));have d:=sw r e b;unfold liE at d;rw[bF] at d;obtain⟨g,f,u,t⟩:=q z a e b;unfold gE;exact bd (bd (l2 d.1) (l2 d.2)) (bd (bd (ft g) (ft f)) (bd (ft u) (ft t)))
 refine⟨?_,?_,?_,?_⟩
 ·unfold Xj
  refine bd ?_ (bd ?_ (bd ?_ (bd (List.all_eq_true.2 fun e b=>?_) (List.all_eq_true.2 fun z a=>(k z a).2))))
  ·rw[aA] at j⊢;omega
  ·rw[aA] at l⊢;omega
  ·rw[aA] at m⊢;omega
  have d:=sw s e b;unfold liR at d;rw[bF] at d;obtain⟨g,f⟩:=v e b;unfold gR;exact bd (bd (l2 d.1) (l2 d.2)) (bd (ft g) (ft f))
 ·unfold e12
  refine bd ?_ (List.all_eq_true.2 fun z a=>(k z a).1);rw[aA] at l⊢;omega
 ·rw[aA] at j⊢;omega
 rw[aA] at m⊢;omega
end Nt.Ev.YtjcencojgajgdaaGreatDoor.Rx
