/-
  Leaps: their text, both sides. Lines that tell leaps: what is read.
-/
import Derived.Test.YtcmockbdkppglaaGreatDoorMXS
set_option linter.all false
set_option maxRecDepth 100000
namespace Nt.Ev.YtcmockbdkppglaaGreatDoor.Lp
open Go Go.RowKit Nt Nt.Num Nt.Civil Nt.Fld Nt.Lin Go.Proofs.YtcmockbdkppglaaGreatDoor Nt.Ev.YtcmockbdkppglaaGreatDoor
theorem fitB {t:Int} (h:au (aD (-9223372036854775808) t) (aD t 9223372036854775807)=true):Fits t:=by
 rw[ay,ak,ak] at h;unfold Fits;omega
theorem N8 (t:Int):DI (Ks t)=.tup [.agg [.int .i64 (lS 0 t),.int .i64 (lS 1 t),.int .i64 (lS 2 t),.int .i64 (lS 3 t),.int .i64 (lS 4 t),.int .i64 (lS 5 t)],.int .i64 (sOW t)]:=by
 unfold lS sOW DI Ks;by_cases h:di (t/86400)=true
 ·rw[if_pos h];rfl
 ·rw[if_neg h];rfl
theorem Uw (t:Int) (a:au (aD (-9223372036854775808) t) (aD t 9223372036854775807)=true):aj dK 20 [.int .i64 t] (.tup [.agg [.int .i64 (lS 0 t),.int .i64 (lS 1 t),.int .i64 (lS 2 t),.int .i64 (lS 3 t),.int .i64 (lS 4 t),.int .i64 (lS 5 t)],.int .i64 (sOW t)]):=N8 t▸Xv (US (Wl t (fitB a)))
theorem nQ (t:Int) (a:au (aD (-9223372036854775808) t) (aD t 9223372036854775807)=true):aj dK 24 [.int .i64 t] (.tup [.agg [.int .i64 (lS 0 t),.int .i64 (lS 1 t),.int .i64 (lS 2 t),.int .i64 (lS 3 t),.int .i64 (lS 4 t),.int .i64 (lS 5 t)],.int .i64 (sOW t)]):=N8 t▸Xv (US (Wm t (fitB a)))
theorem Ux (y m d h i s:Int) (a:true=true):aj dK 22 [.agg [.int .i64 y,.int .i64 m,.int .i64 d,.int .i64 h,.int .i64 i,.int .i64 s]] (.str (o6 y m d h i s)):=Xv (TP y m d h i s)
theorem l7 (y m d h i s:Int) (a:true=true):aj dK 25 [.agg [.int .i64 y,.int .i64 m,.int .i64 d,.int .i64 h,.int .i64 i,.int .i64 s]] (.str (o6 y m d h i s)):=Xv (US (P5 y m d h i s))
theorem Gp (x b:V) (a:H9 x=true):rG dK 37 [.bxa 0 [x,b]] (.out false (.tup []) [[.box HL 0,b]]):=rG.env (E:=oE) rfl (fun n v h=>by cases h) (Nt.Ev.YtcmockbdkppglaaGreatDoor.Gp x b a)
theorem Gq (x b:V) (a:au (H9 x) (Vt b)=true):rG dK 23 [.bxa 0 [x,b]] (.out false (.str (bbS b)) [[x,bbN b]]):=rG.env (E:=oE) rfl (fun n v h=>by cases h) (Nt.Ev.YtcmockbdkppglaaGreatDoor.Gq x b a)
theorem Sl:bT dK Yr:=by
 unfold Yr;refine bT.cons (fun args r h=>?_) (bT.cons (fun args r h=>?_) (bT.cons (fun args r h=>?_) (bT.cons (fun args r h=>?_) (bT.Bn (fun args r h=>?_) (bT.Bn (fun args r h=>?_) BO)))));all_goals (revert h;intro h;first|unfold RA at h|unfold RB at h|unfold bCpS at h|unfold bStS at h)
 all_goals (split at h;rotate_left; · cases h)
 all_goals (simp only[aI,bU] at h;obtain⟨a,rfl⟩:=h)
 ·exact Uw _ a
 ·exact nQ _ a
 ·exact Ux _ _ _ _ _ _ rfl
 ·exact l7 _ _ _ _ _ _ rfl
 ·exact Gp _ _ a
 ·exact Gq _ _ a
theorem WO (y m d h i s:Int):(o6 y m d h i s).length≤400:=by
 unfold o6;split
 ·rename_i hB
  obtain⟨c,o⟩:=vP.1 hB;obtain⟨k,q,a⟩:=iY.1 c;have b:=iD a;have f:1≤d∧d≤31:=⟨a.1,by have:=og y m b.1 b.2;have:=a.2;omega⟩
  have r:=bP m 2 (by omega) (by omega);have n:=bP d 2 (by omega) (by omega);have j:=bP h 2 (by omega) (by omega);have g:=bP i 2 (by omega) (by omega);have l:=bP s 2 (by omega) (by omega);have p:=bP y 4 (by omega) (by omega);have e:=bP (-y) 4 (by omega) (by omega);split<;>(simp only[qw,fQ];omega)
 ·simp
def sgn (n:Int):ah:=if n<0 then[45] else[43]
theorem AV (n:Int):(sgn n).length=1:=by unfold sgn;split<;>rfl
noncomputable def HZ (t:Int):ah:=o6 (lS 0 t) (lS 1 t) (lS 2 t) (lS 3 t) (lS 4 t) (lS 5 t)
noncomputable def Ve (xs:af) (i:Nat):ah:=bg (bg (bg (HZ (lA xs i)) [32]) (sgn (lT xs i))) [10]
noncomputable def Xw (xs:af):Nat→Nat→ah
 |_,0=>[]
 |i,k+1=>Ve xs i++Xw xs (i+1) k
noncomputable def UU (xs:af):ah:=if j6 xs=true then Xw xs 0 xs.length else[]
noncomputable def UW (xs:af):Int:=if j6 xs=true then 0 else 4
theorem AX (t:Int):(HZ t).length≤400:=WO _ _ _ _ _ _
theorem Gu (xs:af) (i:Nat):(Ve xs i).length≤500:=by
 unfold Ve bg;have:=AX (lA xs i);have:=AV (lT xs i);simp only[qw,Km];omega
theorem UX {a b:ah} (h:a.length+b.length≤2000000000):bC a b=true:=by rw[jO];omega
abbrev mp:af:=[V.agg [V.int .i64 (-1),V.str [45]],V.agg [V.int .i64 1,V.str [43]]]
theorem N9 {n:Int} (h:n=1∨n= -1):DD mp n=true∧kg mp n=sgn n:=by
 rcases h with rfl|rfl<;>exact⟨rfl,rfl⟩
theorem Jf (F:Nat) (xs:af) (h:Nt.Leap.iU (lA xs) (lT xs) xs.length) (hl:xs.length≤1000) (K:V→Option V): ∀(k i n:Nat) (a:ah),i+k=xs.length→k<n→a.length≤i*500→
  oh F [] n xs xs (aM xs) (i:Int) (aH a) K=K (.tup [.str (a++Xw xs i k),.int .i64 0])
 |0,i,n,a,d,e,g=>by
  obtain⟨n,rfl⟩: ∃m,n=m+1:=⟨n-1,by omega⟩
  (rw[xu];(conv=>zeta);rw[rW (by omega),gf,bvb])
  unfold Xw;rw[On]
 |k+1,i,n,a,d,e,g=>by
  obtain⟨n,rfl⟩: ∃m,n=m+1:=⟨n-1,by omega⟩
  obtain⟨f,i2,i3⟩:=uI (xs:=xs) (i:=i) (by omega) (by omega);have b:=h i (by omega);obtain⟨m1,c⟩:=N9 b.2.2.1;have l:=Gu xs i;have o:=AX (lA xs i);have p:=AV (lT xs i)
  (rw[xu];(conv=>zeta);rw[i2,f,gt,gt,i3,show asInt (aL (bf xs (i:Int)) 0)=lA xs i from rfl,show asInt (aL (bf xs (i:Int)) 1)=lT xs i from rfl])
  change sel _ (sel (bC (HZ (lA xs i)) [32]) (sel (DD mp (lT xs i)) (sel (bC (bg (HZ (lA xs i)) [32]) (kg mp (lT xs i))) (sel (bC (bg (bg (HZ (lA xs i)) [32]) (kg mp (lT xs i))) [10]) (sel (dU (aH a) (aH (bg (bg (bg (HZ (lA xs i)) [32]) (kg mp (lT xs i))) [10]))) (oh F [] n xs xs (aM xs) ((i+1:Nat):Int) (bS (aH a) (aH (bg (bg (bg (HZ (lA xs i)) [32]) (kg mp (lT xs i))) [10]))) K) none) none) none) none) none) none=_
  rw[m1,c,show au (aD (-9223372036854775808) (lA xs i)) (aD (lA xs i) 9223372036854775807)=true from by rw[ay,ak,ak];have:=b.1;have:=b.2.1;omega,gt,
   UX (by simp only[Km];omega),gt,gt,UX (by unfold bg;simp only[qw,Km];omega),gt,UX (by unfold bg;simp only[qw,Km];omega),gt]
  change sel (dU (aH a) (aH (Ve xs i))) (oh F [] n xs xs (aM xs) ((i+1:Nat):Int) (bS (aH a) (aH (Ve xs i))) K) none=_
  have j:i*500≤1000*500:=MF _ (by omega);rw[bapp _ _ (by omega),gt,bcat,Jf F xs h hl K k (i+1) n _ (by omega) (by omega) (by rw[qw,xG];omega),Kj];rfl
theorem Uy (F:Nat) (xs:af) (h:Nt.Leap.iU (lA xs) (lT xs) xs.length) (hl:xs.length≤1000) (K:V→Option V) (n:Nat) (l:xs.length<n):
  Gs F [] n xs xs (aM xs) 0 K=K (.tup [.str (Xw xs 0 xs.length),.int .i64 0]):=by
 obtain⟨n,rfl⟩: ∃m,n=m+1:=⟨n-1,by omega⟩
 by_cases c:xs.length=0
 ·(rw[xq];(conv=>zeta);rw[show aU 0 (aM xs)=false from aW (by rw[aO];omega),gf,c]);rfl
 obtain⟨k,e⟩: ∃k,xs.length=k+1:=⟨xs.length-1,by omega⟩
 obtain⟨d,i2,i3⟩:=uI (xs:=xs) (i:=0) (by omega) (by omega);have a:=h 0 (by omega);obtain⟨m1,b⟩:=N9 a.2.2.1;have f:=Gu xs 0;have g:=AX (lA xs 0);have j:=AV (lT xs 0)
 (rw[xq];(conv=>zeta);rw[show aU 0 (aM xs)=true from d,show au (aD 0 0) true=true from rfl,gt,gt,show aV .i64 0 1=((0+1:Nat):Int) from i3,show asInt (aL (bf xs 0) 0)=lA xs 0 from rfl,show asInt (aL (bf xs 0) 1)=lT xs 0 from rfl])
 change sel _ (sel (bC (HZ (lA xs 0)) [32]) (sel (DD mp (lT xs 0)) (sel (bC (bg (HZ (lA xs 0)) [32]) (kg mp (lT xs 0))) (sel (bC (bg (bg (HZ (lA xs 0)) [32]) (kg mp (lT xs 0))) [10]) (sel (qz (aH (bg (bg (bg (HZ (lA xs 0)) [32]) (kg mp (lT xs 0))) [10]))) (oh F [] n xs xs (aM xs) ((0+1:Nat):Int) (aH (bg (bg (bg (HZ (lA xs 0)) [32]) (kg mp (lT xs 0))) [10])) K) none) none) none) none) none) none=_
 rw[m1,b,show au (aD (-9223372036854775808) (lA xs 0)) (aD (lA xs 0) 9223372036854775807)=true from by rw[ay,ak,ak];have:=a.1;have:=a.2.1;omega,gt,
  UX (by simp only[Km];omega),gt,gt,UX (by unfold bg;simp only[qw,Km];omega),gt,UX (by unfold bg;simp only[qw,Km];omega),gt]
 change sel (qz (aH (Ve xs 0))) (oh F [] n xs xs (aM xs) ((0+1:Nat):Int) (aH (Ve xs 0)) K) none=_
 rw[bnew _ (by omega),gt,Jf F xs h hl K k 1 n _ (by omega) (by omega) (by omega),e];rfl
theorem WQ (xs:af) (hl:xs.length≤1000000):aj dK 9 [.sl 39 [.int .i64,.int .i64] none xs] (.tup [.str (UU xs),.int .i64 (UW xs)]):=by
 refine ax gD Sl (xs.length+1) 2 ?_;rw[Uo,show aD (aM xs) 1000000=true from cO (by rw[aO];omega)];unfold UU UW
 cases hB:j6 xs with
 |false=>rfl
 |true=>
  obtain⟨b,a⟩:=jg.1 hB;rw[gB,gt,gn,gf,if_pos rfl,if_pos rfl];exact Uy _ xs b a some _ (by omega)
theorem Jg (F:Nat) (xs:af) (h:Nt.Leap.iU (lA xs) (lT xs) xs.length) (hl:xs.length≤1000) (K:V→Option V): ∀(k i n:Nat) (a:ah),i+k=xs.length→k<n→a.length≤i*500→
  mY F [] n xs a xs (aM xs) (i:Int) K=K (.tup [.str (a++Xw xs i k),.int .i64 0])
 |0,i,n,a,c,d,j=>by
  obtain⟨n,rfl⟩: ∃m,n=m+1:=⟨n-1,by omega⟩
  (rw[uk];(conv=>zeta);rw[rW (by omega),gf])
  unfold Xw;rw[On]
 |k+1,i,n,a,c,d,j=>by
  obtain⟨n,rfl⟩: ∃m,n=m+1:=⟨n-1,by omega⟩
  obtain⟨f,i2,i3⟩:=uI (xs:=xs) (i:=i) (by omega) (by omega);have b:=h i (by omega);have o:=Gu xs i;have p:=AX (lA xs i);have l:i*500≤1000*500:=MF _ (by omega);have step: ∀g,g=sgn (lT xs i)→sel (bC (HZ (lA xs i)) [32]) (sel (bC (bg (HZ (lA xs i)) [32]) g) (sel (bC (bg (bg (HZ (lA xs i)) [32]) g) [10]) (sel (bC a (bg (bg (bg (HZ (lA xs i)) [32]) g) [10])) (mY F [] n xs (bg a (bg (bg (bg (HZ (lA xs i)) [32]) g) [10])) xs (aM xs) ((i+1:Nat):Int) K) none) none) none) none=K (.tup [.str (a++Xw xs i (k+1)),.int .i64 0]):=by
   rintro g rfl;have q:=AV (lT xs i);rw[UX (by simp only[Km];omega),gt,UX (by unfold bg;simp only[qw,Km];omega),gt,UX (by unfold bg;simp only[qw,Km];omega),gt];change sel (bC a (Ve xs i)) (mY F [] n xs (a++Ve xs i) xs (aM xs) ((i+1:Nat):Int) K) none=_
   rw[UX (by omega),gt,Jg F xs h hl K k (i+1) n _ (by omega) (by omega) (by rw[qw,xG];omega),Kj];rfl
  rw[uk,i2,f,gt,gt,i3,show asInt (aL (bf xs (i:Int)) 0)=lA xs i from rfl,show asInt (aL (bf xs (i:Int)) 1)=lT xs i from rfl,
   show au (aD (-9223372036854775808) (lA xs i)) (aD (lA xs i) 9223372036854775807)=true from by rw[ay,ak,ak];have:=b.1;have:=b.2.1;omega,gt]
  rcases b.2.2.1 with e|e
  ·rw[show aU (lT xs i) 0=false from aW (by omega),gf]
   exact step [43] (by rw[e];rfl)
  ·rw[show aU (lT xs i) 0=true from aY (by omega),gt]
   exact step [45] (by rw[e];rfl)
theorem Uz (xs:af) (hl:xs.length≤1000000):aj dK 10 [.sl 39 [.int .i64,.int .i64] none xs] (.tup [.str (UU xs),.int .i64 (UW xs)]):=by
 refine ax gD Sl (xs.length+1) 2 ?_;rw[Qv,show aD (aM xs) 1000000=true from cO (by rw[aO];omega)];unfold UU UW
 cases hB:j6 xs with
 |false=>rfl
 |true=>
  obtain⟨b,a⟩:=jg.1 hB;rw[gB,gt,gn,gf,if_pos rfl,if_pos rfl];exact Jg _ xs b a some xs.length 0 _ [] (by omega) (by omega) (by simp)
end Nt.Ev.YtcmockbdkppglaaGreatDoor.Lp
namespace Nt.Fld
open Go Nt.Ev
theorem qa (N:Nat): ∀(s:ah) (out:List (ah)) (f:ah) (a e:Bool),(∀x∈out,x.length≤N)→f.length+s.length≤N→ ∀x∈(oP s out f a e).1,x.length≤N
 |[],out,f,a,e,b,g=>by
  have g:f.length≤N:=by simpa using g
  have d: ∀x∈qA a out f,x.length≤N:=by
   intro x hx
   cases a with
   |false=>exact b x hx
   |true=>
    have hx:x∈out++[f]:=hx;rw[X6,UK] at hx;rcases hx with hx|rfl
    ·exact b x hx
    ·exact g
  cases e with
  |true=>intro x hx;cases hx
  |false=>
   show∀x∈(vv (qA a out f)).1,_;unfold vv;split
   ·intro x hx;cases hx
   ·exact d
 |c::t,out,f,a,e,b,g=>by
  rw[fQ] at g;have d: ∀x∈qA a out f,x.length≤N:=by
   intro x hx
   cases a with
   |false=>exact b x hx
   |true=>
    have hx:x∈out++[f]:=hx;rw[X6,UK] at hx;rcases hx with hx|rfl
    ·exact b x hx
    ·omega
  have i: ∀x∈(vv (qA a out f)).1,x.length≤N:=by
   unfold vv;split
   ·intro x hx;cases hx
   ·exact d
  have k:(f++[c]).length+t.length≤N:=by rw[qw,Km];omega
  have j:f.length+t.length≤N:=by omega
  have h:([]:ah).length+t.length≤N:=by rw[nN];omega
  unfold oP
  cases e with
  |true=>
   cases l:c==34 with
   |true=>exact qa N t out f a false b j
   |false=>exact qa N t out (f++[c]) a true b k
  |false=>
   cases n:c==35 with
   |true=>exact i
   |false=>
    cases m:c==9 with
    |true=>exact qa N t _ [] false false d h
    |false=>
     cases h3:c==32 with
     |true=>exact qa N t _ [] false false d h
     |false=>
      cases l:c==34 with
      |true=>exact qa N t out f true true b j
      |false=>exact qa N t out (f++[c]) true false b k
end Nt.Fld
namespace Nt.Lin
open Go Nt.Ev
theorem Cs: ∀(s a:ah),∀l∈oU s a,l.length≤a.length+s.length
 |[],a,l,h=>by
  unfold oU at h
  cases a with
  |nil=>cases h
  |cons c t=>simp only[UK] at h;subst h;simp
 |c::t,a,l,h=>by
  unfold oU at h
  cases b:c==10 with
  |true=>
   rw[b,iy,ZK] at h;rcases h with rfl|h
   ·rw[fQ];omega
   ·have:=Cs t [] l h
    rw[nN] at this;rw[fQ];omega
  |false=>
   rw[b,gF] at h;have:=Cs t (a++[c]) l h;rw[qw,Km] at this;rw[fQ];omega
end Nt.Lin
namespace Nt.Ev.YtcmockbdkppglaaGreatDoor.Lp
open Go Go.RowKit Nt Nt.Num Nt.Civil Nt.Fld Nt.Lin Go.Proofs.YtcmockbdkppglaaGreatDoor Nt.Ev.YtcmockbdkppglaaGreatDoor
theorem Fj (s:ah) {N:Nat} (a:s.length≤N): ∀x∈dW s,(dV (aL x 0)).length≤N:=by
 intro x hx;unfold dW Nt.Ev.dx at hx;obtain⟨l,hl,rfl⟩:=List.mem_map.1 hx;have:=Nt.Lin.Cs s [] l hl;rw[nN] at this;show l.length≤N;omega
theorem Ct (s:ah):(dW s).length≤s.length:=by
 unfold dW;rw[pP,Nt.Lin.Lc (s.length+1) s (by omega),xC];exact Nt.Lin.Ld (s.length+1) s (by omega)
theorem pu {xs:af} {i:Nat} (h:i<xs.length):xs.drop i=bf xs (i:Int)::xs.drop (i+1):=by
 rw[Zz h,wB];congr 1
 simp[h]
theorem get_mem {xs:af} {i:Nat} (h:i<xs.length):bf xs (i:Int)∈xs:=by
 rw[wB];simp[h]
def kT (k:Nat) (s:ah):Int:=(Xt s).1.getD k 0
def QF (s:ah):Int:=(Xt s).2
def Xx (y m d h i s:Int):Int:=(yY y m d h i s).1
def scW (y m d h i s:Int):Int:=(yY y m d h i s).2
abbrev kP:List Kd:=[Kd.int .i64,Kd.int .i64]
def xL:V→af
 | .sl _ _ _ xs=>xs
 |_=>[]
def okP:V→Bool
 | .sl e k (some L) _=>(L==1000001001&&e==39)&&Kd.Ba kP k
 | .nilsl=>true
 |_=>false
abbrev lU (a e:Int):V:=.iface 62 (.agg [.int .i64 a,.int .i64 e])
noncomputable abbrev f0 (s:ah):ah:=dV (aL (bf (qE s) 0) 0)
noncomputable abbrev f1 (s:ah):ah:=dV (aL (bf (qE s) 1) 0)
noncomputable def jS (s:ah):Int:=
 if Hr s≠0 then Hr s else if Kt s≠0 then Kt s else if aM (qE s)=0 then 0 else if aM (qE s)<2 then 5 else if 2<aM (qE s) then 6 else if QF (f0 s)≠0 then QF (f0 s) else if f1 s=[43] then 0 else if f1 s=[45] then 0 else 3
noncomputable def Ku (s:ah):Bool:=decide (jS s=0)&&decide (aM (qE s)≠0)
noncomputable def lfA (s:ah):Int:=Xx (kT 0 (f0 s)) (kT 1 (f0 s)) (kT 2 (f0 s)) (kT 3 (f0 s)) (kT 4 (f0 s)) (kT 5 (f0 s))
noncomputable def QG (s:ah):Int:=if f1 s=[45] then -1 else 1
noncomputable def FD (xs:af) (s:ah):af:=if Ku s=true then bS xs [.agg [.int .i64 (lfA s),.int .i64 (QG s)]] else xs
noncomputable def Xy (s:ah):Int:=if Ku s=true then lfA s else 0
noncomputable def Xz (s:ah):Int:=if Ku s=true then QG s else 0
theorem Zv {s:ah} (h:Hr s=0):s.length≤511:=by
 unfold Hr at h;rcases acT 511 s.length with hl|hl
 ·rw[ai (aY (by rw[av];omega))] at h;cases h
 ·exact hl
theorem Jh {s:ah} (h:Hr s=0) (b:aM (qE s)≠0):(f0 s).length≤511:=by
 rw[aO] at b;have hl:0<(qE s).length:=by omega
 have a:=get_mem (xs:=qE s) (i:=0) hl;show(dV (aL (bf (qE s) ((0:Nat):Int)) 0)).length≤511;generalize bf (qE s) ((0:Nat):Int)=v at a;unfold qE dx at a;obtain⟨l,hl,rfl⟩:=List.mem_map.1 a;exact qa 511 s [] [] false false (fun x hx=>nomatch hx) (by have:=Zv h;simpa using this) l hl
noncomputable def iM:af→Int→af→af×Int×Int
 |[],a,t=>(t,0,0)
 |x::xs,a,t=>if jS (dV (aL x 0))=0 then iM xs (a+1) (FD t (dV (aL x 0))) else([],a+1,jS (dV (aL x 0)))
noncomputable def Kl (s:ah):af×Int×Int:=if 1048576<s.length then([],0,9) else
 if(iM (dW s) 0 []).2.2≠0 then iM (dW s) 0 [] else if j6 (iM (dW s) 0 []).1=true then iM (dW s) 0 [] else([],0,4)
noncomputable def Vu:aN:=fun a=>match a with|[.bxa 0 [c0,.int .i64 ln],.int .i64 e]=>some (true,.sK (ieq e 0) (.keep false (.tup [])) (.keep true (lU ln e)))|_=>none
noncomputable def YS:aN:=fun a=>match a with|[.str s]=>some (aD (aF s) 4000000,.int .i64 (Hr s))|_=>none
noncomputable def YT:aN:=fun a=>match a with|[.str s]=>some (aD (aF s) 4000000,.tup [.sl 9 [.str] none (qE s),.int .i64 (Kt s)])|_=>none
noncomputable def YU:aN:=fun a=>match a with|[.str s]=>some (aD (aF s) 1000,.tup [.agg [.int .i64 (kT 0 s),.int .i64 (kT 1 s),.int .i64 (kT 2 s),.int .i64 (kT 3 s),.int .i64 (kT 4 s),.int .i64 (kT 5 s)],.int .i64 (QF s)])|_=>none
noncomputable def YV:aN:=fun a=>match a with|[.agg [.int .i64 y,.int .i64 m,.int .i64 d,.int .i64 h,.int .i64 i,.int .i64 s]]=>some (true,.tup [.int .i64 (Xx y m d h i s),.int .i64 (scW y m d h i s)])|_=>none
noncomputable def lp4:List (Nat×aN):=(KX+27,Vu)::(47,YS)::(51,YS)::(48,YT)::(52,YT)::(49,YU)::(53,YU)::(50,YV)::(54,YV)::[]
noncomputable def X0:aN:=fun a=>match a with|[.bxa 0 [c0,.int .i64 ln],.str s]=>some (bif okP c0 then au (aD (aF s) 4000000) (aD (aM (xL c0)) 3000000) else false,.sK (ieq (jS s) 0) (.out false (.tup []) [[V.sl 39 kP (some 1000001001) (FD (xL c0) s),.int .i64 ln]]) (.out true (lU ln (jS s)) [[V.sl 39 kP (some 1000001001) (xL c0),.int .i64 ln]]))|_=>none
noncomputable def X3:aN:=fun a=>match a with|[.str s]=>some (aD (aF s) 4000000,.tup [.agg [.int .i64 (Xy s),.int .i64 (Xz s)],.bool (Ku s),.int .i64 (jS s)])|_=>none
noncomputable def YW:aN:=fun a=>match a with|[.str s]=>some (aD (aF s) 4000000,.sl 9 [.str] none (dW s))|_=>none
noncomputable def Vf:List (Nat×aN):=(GX+29,X0)::(31,X3)::(KX+27,Vu)::(28,YW)::(30,YW)::(14,tN)::(15,tN)::[]
theorem UA (F xs a s) (K:V→Option V):
 dn dK (cu dK lp4 F 3) F 29 [V.bxa 0 [V.sl 39 [Kd.int .i64,Kd.int .i64] (some 1000001001) xs,V.int .i64 a],V.str s] K=
 let C:=dV (aL (bf (qE s) 0) 0);let G:=V.int .i64 a;let I:=dV (aL (bf (qE s) 1) 0);let J:=Kd.int .i64;let M:=aM (qE s);let P:=aD (aF s) 4000000;let Q:=V.tup [];let A:=V.int .i64 (Xx (kT 0 C) (kT 1 C) (kT 2 C) (kT 3 C) (kT 4 C) (kT 5 C));let B:=[[V.sl 39 [J,J] (some 1000001001) xs,G]];let H:=au (aD 0 1) (aU 1 M);let L:=K (V.out true (V.iface 62 (V.agg [G,V.int .i64 3])) B);let N:=[V.agg [A,V.int .i64 (-1)]];let O:=[V.agg [A,V.int .i64 1]];let D:=sel (dU xs N) (K (V.out false Q [[V.sl 39 [J,J] (some 1000001001) (bS xs N),G]])) (none);let E:=sel (dU xs O) (K (V.out false Q [[V.sl 39 [J,J] (some 1000001001) (bS xs O),G]])) (none);sel P (sel (ieq (Hr s) 0) (sel P (sel (ieq (Kt s) 0) (sel (ieq M 0) (K (V.out false Q B)) (sel (aU M 2) (K (V.out true (V.iface 62 (V.agg [G,V.int .i64 5])) B)) (sel (aU 2 M) (K (V.out true (V.iface 62 (V.agg [G,V.int .i64 6])) B)) (sel (au (aD 0 0) (aU 0 M)) (sel (aD (aF C) 1000) (sel (ieq (QF C) 0) (both (sel H (sel (seq I [45]) D (sel H (sel (seq I [43]) E L) none)) none) (sel H (sel (seq I [43]) E (sel H (sel (seq I [45]) D L) none)) none)) (K (V.out true (V.iface 62 (V.agg [G,V.int .i64 (QF C)])) B))) none) none)))) (K (V.out true (V.iface 62 (V.agg [G,V.int .i64 (Kt s)])) B))) none) (K (V.out true (V.iface 62 (V.agg [G,V.int .i64 (Hr s)])) B))) none:=by kernel_rfl
theorem UB (F s) (K:V→Option V):
 dn dK (cu dK lp4 F 3) F 31 [V.str s] K=
 let A:=dV (aL (bf (qE s) 0) 0);let D:=V.bool false;let E:=aM (qE s);let H:=dV (aL (bf (qE s) 1) 0);let L:=V.int .i64 0;let M:=aD (aF s) 4000000;let C:=V.agg [L,L];let G:=V.int .i64 (Xx (kT 0 A) (kT 1 A) (kT 2 A) (kT 3 A) (kT 4 A) (kT 5 A));let I:=au (aD 0 1) (aU 1 E);let B:=sel I (sel (seq H [45]) (K (V.tup [V.agg [G,V.int .i64 (-1)],V.bool true,L])) (K (V.tup [V.agg [G,V.int .i64 1],V.bool true,L]))) (none);let J:=K (V.tup [C,D,V.int .i64 (Kt s)]);sel M (sel (aT (ieq (Hr s) 0)) (K (V.tup [C,D,V.int .i64 (Hr s)])) (sel M (sel (aT (ieq (Kt s) 0)) J (sel (ieq E 0) J (sel (aU E 2) (K (V.tup [C,D,V.int .i64 5])) (sel (aU 2 E) (K (V.tup [C,D,V.int .i64 6])) (sel (au (aD 0 0) (aU 0 E)) (sel (aD (aF A) 1000) (sel (aT (ieq (QF A) 0)) (K (V.tup [C,D,V.int .i64 (QF A)])) (sel I (sel (aT (seq H [43])) (sel I (sel (aT (seq H [45])) (K (V.tup [C,D,V.int .i64 3])) B) none) B) none)) none) none))))) none)) none:=by kernel_rfl
noncomputable def Oa:=fun F h n g f d e c b a K=>(Al dK Vf F 3 11 26 [V.box 1000005000 0,V.box 1000005001 0] [] [1,1,1,1,0,1,0] h K n (iN 35 [(0,V.str g),(2,V.box 1000005000 0),(3,V.box 1000005001 0),(4,V.box 4 0),(13,V.sl 9 [Kd.str] none f),(14,V.int .i64 d),(15,V.int .i64 e)] [(4,[V.nilsl,V.int .i64 c]),(1000005001,[V.int .i64 b,V.int .i64 a]),(1000005000,[V.nilsl])]):Option V)
noncomputable def AY:=fun F i n h g e f d c b a K=>(Al dK Vf F 3 11 26 [V.box 1000005000 0,V.box 1000005001 0] [] [1,1,1,1,0,1,0] i K n (iN 35 [(0,V.str h),(2,V.box 1000005000 0),(3,V.box 1000005001 0),(4,V.box 4 0),(13,V.sl 9 [Kd.str] none g),(14,V.int .i64 e),(15,V.int .i64 f)] [(4,[V.sl 39 [Kd.int .i64,Kd.int .i64] (some 50000) d,V.int .i64 c]),(1000005001,[V.int .i64 b,V.int .i64 a]),(1000005000,[V.nilsl])]):Option V)
theorem UC (F s) (K:V→Option V):
 dn dK (cu dK Vf F 3) F 11 [V.str s] K=
 sel (aU 1048576 (aF s)) (K (V.tup [V.nilsl,V.agg [V.int .i64 0,V.int .i64 9]])) (sel (aD (aF s) 4000000) (Oa F [] F s (dW s) (aM (dW s)) 0 0 0 0 K) none):=by kernel_rfl
theorem Hf (F n g d f c e b a K):
 Oa F [] (n+1) g d f c e b a K=
 let A:=K (V.tup [V.nilsl,V.agg [V.int .i64 b,V.int .i64 a]]);let B:=dV (aL (bf d c) 0);let C:=aV .i64 e 1;sel (aU c f) (sel (au (aD 0 c) (aU c (aM d))) (sel (au (aD (aF B) 4000000) (aD (aM []) 3000000)) (sel (ieq (jS B) 0) (AY F [] n g d f (aV .i64 c 1) (FD [] B) C b a K) (K (V.tup [V.nilsl,V.agg [V.int .i64 C,V.int .i64 (jS B)]]))) none) none) (sel (au true (aD (aM []) 1000000)) (sel (aT (j6 [])) (K (V.tup [V.nilsl,V.agg [V.int .i64 0,V.int .i64 4]])) (both (both A A) A)) none):=by kernel_rfl
theorem xw (F n h e g d c f b a K):
 AY F [] (n+1) h e g d c f b a K=
 let A:=K (V.tup [V.sl 39 [Kd.int .i64,Kd.int .i64] none c,V.agg [V.int .i64 b,V.int .i64 a]]);let B:=dV (aL (bf e d) 0);let C:=aV .i64 f 1;sel (aU d g) (sel (au (aD 0 d) (aU d (aM e))) (sel (au (aD (aF B) 4000000) (aD (aM c) 3000000)) (sel (ieq (jS B) 0) (AY F [] n h e g (aV .i64 d 1) (FD c B) C b a K) (K (V.tup [V.nilsl,V.agg [V.int .i64 C,V.int .i64 (jS B)]]))) none) none) (sel (au true (aD (aM c) 1000000)) (sel (aT (j6 c)) (K (V.tup [V.nilsl,V.agg [V.int .i64 0,V.int .i64 4]])) (both (both A A) A)) none):=by kernel_rfl
noncomputable def vT:=fun F h n f i g d c e b a K=>(eB dK Vf F 3 12 [1,1,1,0,1,0] h K n (iN 46 [(0,V.str f),(2,V.sl 39 [Kd.int .i64,Kd.int .i64] (some 2) i),(3,V.box 3 0),(4,V.sl 39 [Kd.int .i64,Kd.int .i64] (some 4) g),(15,V.sl 9 [Kd.str] none d),(16,V.int .i64 c),(17,V.int .i64 e)] [(3,[V.int .i64 b,V.int .i64 a])]):Option V)
theorem UD (F s) (K:V→Option V):
 dn dK (cu dK Vf F 3) F 12 [V.str s] K=
 sel (aU 1048576 (aF s)) (K (V.tup [V.sl 39 [Kd.int .i64,Kd.int .i64] (some 0) [],V.agg [V.int .i64 0,V.int .i64 9]])) (sel (aD (aF s) 4000000) (vT F [] F s [] [] (dW s) (aM (dW s)) 0 0 0 K) none):=by kernel_rfl
theorem xx (F n g h f b e a c d K):
 vT F [] (n+1) g h f b e a c d K=
 let A:=dV (aL (bf b a) 0);let B:=Kd.int .i64;let D:=aV .i64 a 1;let G:=V.int .i64 0;let C:=[V.agg [V.int .i64 (Xy A),V.int .i64 (Xz A)]];let E:=V.sl 39 [B,B] (some 0) [];sel (aU a e) (sel (au (aD 0 a) (aU a (aM b))) (sel (aD (aF A) 4000000) (sel (aT (ieq (jS A) 0)) (K (V.tup [E,V.agg [V.int .i64 D,V.int .i64 (jS A)]])) (sel (Ku A) (sel (dU f C) (vT F [] n g h (bS f C) b e D c d K) none) (vT F [] n g h f b e D c d K))) none) none) (sel (au true (aD (aM f) 1000000)) (sel (aT (j6 f)) (K (V.tup [E,V.agg [G,V.int .i64 4]])) (K (V.tup [V.sl 39 [B,B] (some 0) f,V.agg [G,G]]))) none):=by kernel_rfl
noncomputable def AZ:=fun F e n c f d a b K=>(eB dK Ou F 2 13 [1,1,0,1,0] e K n (iN 26 [(0,V.sl 39 [Kd.int .i64,Kd.int .i64] none c),(1,V.sl 39 [Kd.int .i64,Kd.int .i64] none f),(4,V.bool d),(12,V.int .i64 a),(13,V.int .i64 b)] []):Option V)
theorem UE (F xs ys) (K:V→Option V):
 dn dK (cu dK Ou F 2) F 13 [V.sl 39 [Kd.int .i64,Kd.int .i64] none xs,V.sl 39 [Kd.int .i64,Kd.int .i64] none ys] K=
 sel (aT (ieq (aM xs) (aM ys))) (K (V.bool false)) (AZ F [] F xs ys false (aM xs) 0 K):=by kernel_rfl
theorem xA (F n c d e b a K):
 AZ F [] (n+1) c d e b a K=
 sel (aU a b) (sel (au (aD 0 a) (aU a (aM c))) (sel (au (aD 0 a) (aU a (aM d))) (sel (aT (au (ieq (asInt (aL (bf c a) 0)) (asInt (aL (bf d a) 0))) (ieq (asInt (aL (bf c a) 1)) (asInt (aL (bf d a) 1))))) (K (V.bool false)) (AZ F [] n c d e b (aV .i64 a 1) K)) none) none) (K (V.bool true)):=by kernel_rfl
end Nt.Ev.YtcmockbdkppglaaGreatDoor.Lp
namespace Go.Proofs.YtcmockbdkppglaaGreatDoor
open Go Go.RowKit Go.Shelf Nt Nt.Ev
set_option maxRecDepth 100000 in
set_option maxHeartbeats 2000000 in
theorem Ke (g:Nat) (w:World):Calls Tryz.prog 27 #[.pointer (some ⟨g,0,none⟩),.int .i64 0] w fun ex w'=>ex=.returned (.tuple #[])∧Below w.heap.size w w':=by
 go_enter Tryz.func27,Tryz.ntmps27
 go_wp2
 exact⟨rfl,.tuple #[],by kernel_rfl,rfl,Below.refl _ _⟩
set_option maxRecDepth 100000 in
set_option maxHeartbeats 2000000 in
theorem Kg (g:Nat) (w:World) (ln e:Int) (he:e≠0) (h6:w.cell? ⟨g,1,none⟩=some (.int .i64 ln)):Calls Tryz.prog 27 #[.pointer (some ⟨g,0,none⟩),.int .i64 e] w fun ex w'=>ex=.panicked [{v:=.iface 62 (.agg #[.int .i64 ln,.int .i64 e]),recovered:=false}]∧Below w.heap.size w w':=by
 go_enter Tryz.func27,Tryz.ntmps27
 go_wp2
 exact⟨rfl,rfl,Below.refl _ _⟩
end Go.Proofs.YtcmockbdkppglaaGreatDoor
namespace Nt.Ev.YtcmockbdkppglaaGreatDoor.Lp
open Go Go.RowKit Nt Nt.Num Nt.Civil Nt.Fld Nt.Lin Go.Proofs.YtcmockbdkppglaaGreatDoor Nt.Ev Nt.Ev.YtcmockbdkppglaaGreatDoor
theorem Ji {E:Env} {B:Own} {G0:aJ} {w0 w:World} {s:St} {g:Gh} {a:Act} (h:Inv E B G0 w0 s g a w) {k i:Nat} {l:af} {n:Int} (hl:aA s.bx k=some l) (o:l[i]? =some (.int .i64 n)) {v:Value} (j:aG g (.box k 0) v):
  ∃b,v=.pointer (some ⟨b,0,none⟩)∧w.cell? ⟨b,i,none⟩=some (.int .i64 n):=by
 obtain⟨b,q,j⟩:=dH.1 j;obtain⟨r,c,e,d,_,p,m,_⟩:=h.bxs.1 k l hl;rw[q] at d;simp only[aI] at d;subst d;refine⟨b,j,?_⟩;rw[Lib.cell_of_heap p];have f:i<c.toList.length:=by rw[←m.1];exact(List.getElem?_eq_some_iff.1 o).1
 have:=m.2 i (.int .i64 n) c.toList[i] o (gP f);simp only[aG,bA] at this;unfold aK at this;rw[←ach,gP f,this]
theorem Sm {g:Gh} {n:Int} {v:Value} (h:aG g (.int .i64 n) v):v=.int .i64 n:=by
 simp only[aG,bA] at h;unfold aK at h;exact h
theorem Ob (k:V) (c e:Int) (C:true=true): ∃p x,oG (.sK (ieq e 0) (.keep false (.tup [])) (.keep true (lU c e)))=.keep p x∧KC dK 27 [.bxa 0 [k,.int .i64 c],.int .i64 e] p x:=by
 have d:bF 0 [.bxa 0 [k,.int .i64 c],.int .i64 e]=[.box HL 0,.int .i64 e]:=rfl;have f:aA (dF 0 [.bxa 0 [k,.int .i64 c],.int .i64 e]) HL=some [k,.int .i64 c]:=rfl;by_cases u:e=0
 ·subst u
  refine⟨false,.tup [],rfl,fun B g w vs o j=>?_⟩;have a:=j.fr;rw[d] at a;obtain⟨r,y,h,l,a⟩:=a.cons_inv;obtain⟨s,z,t,q,a⟩:=a.cons_inv;obtain rfl:=a.bR;subst t;have h:vs=[r,s]:=h;subst h;obtain⟨b,m,_⟩:=Ji j f (i:=1) (n:=c) rfl l;rw[m,Sm q];refine(Ke b w).mono ?_;rintro v w' ⟨rfl,hB⟩;exact⟨_,rfl,⟨rfl,rfl⟩,hB⟩
 ·refine⟨true,lU c e,by rw[show ieq e 0=false from by unfold ieq;simpa using u];rfl,fun B g w vs o j=>?_⟩
  have a:=j.fr;rw[d] at a;obtain⟨r,y,h,l,a⟩:=a.cons_inv;obtain⟨s,z,t,q,a⟩:=a.cons_inv;obtain rfl:=a.bR;subst t;have h:vs=[r,s]:=h;subst h;obtain⟨b,m,A⟩:=Ji j f (i:=1) (n:=c) rfl l;rw[m,Sm q];refine(Kg b w c e u A).mono ?_;rintro v w' ⟨rfl,hB⟩;exact⟨_,rfl,rfl,hB⟩
theorem oL {f:Nat} {args:af} {r:V} (h:aj oE f args r):aj dK f args r:=aj.env (E:=oE) rfl (fun n v h=>by cases h) h
theorem hL {f:Nat} {args:af} {r:V} (h:aj hE f args r):aj dK f args r:=aj.env (E:=hE) rfl (fun n v h=>by cases h) h
theorem WR (s:ah) (a:aD (aF s) 4000000=true):aj dK 47 [.str s] (.int .i64 (Hr s)):=oL (WI s a)
theorem l8 (s:ah) (a:aD (aF s) 4000000=true):aj dK 51 [.str s] (.int .i64 (Hr s)):=oL (l6 s a)
theorem WS (s:ah) (a:aD (aF s) 4000000=true):aj dK 48 [.str s] (.tup [.sl 9 [.str] none (qE s),.int .i64 (Kt s)]):=hL (WA s a)
theorem oN (s:ah) (a:aD (aF s) 4000000=true):aj dK 52 [.str s] (.tup [.sl 9 [.str] none (qE s),.int .i64 (Kt s)]):=hL (oK s a)
theorem WT (s:ah) (a:aD (aF s) 4000000=true):aj dK 28 [.str s] (.sl 9 [.str] none (dW s)):=oL (NU s a)
theorem oO (s:ah) (a:aD (aF s) 4000000=true):aj dK 30 [.str s] (.sl 9 [.str] none (dW s)):=oL (oM s a)
theorem Oc (s:ah):DI (Xt s)=(.tup [.agg [.int .i64 (kT 0 s),.int .i64 (kT 1 s),.int .i64 (kT 2 s),.int .i64 (kT 3 s),.int .i64 (kT 4 s),.int .i64 (kT 5 s)],.int .i64 (QF s)]):=by
 have k: ∀p:List Int×Int,(∃a b c d e f w,p=([a,b,c,d,e,f],w))→DI p=.tup [.agg [.int .i64 (p.1.getD 0 0),.int .i64 (p.1.getD 1 0),.int .i64 (p.1.getD 2 0),.int .i64 (p.1.getD 3 0),.int .i64 (p.1.getD 4 0),.int .i64 (p.1.getD 5 0)],.int .i64 p.2]:=by
  rintro p ⟨a,b,c,d,e,f,w,rfl⟩;rfl
 refine k _ ?_;unfold Xt rdQ z6;repeat' split
 all_goals exact⟨_,_,_,_,_,_,_,rfl⟩
theorem WU (s:ah) (a:aD (aF s) 1000=true):aj dK 49 [.str s] (.tup [.agg [.int .i64 (kT 0 s),.int .i64 (kT 1 s),.int .i64 (kT 2 s),.int .i64 (kT 3 s),.int .i64 (kT 4 s),.int .i64 (kT 5 s)],.int .i64 (QF s)]):=Oc s▸Xv (TY s (Bq a))
theorem nI (s:ah) (a:aD (aF s) 1000=true):aj dK 53 [.str s] (.tup [.agg [.int .i64 (kT 0 s),.int .i64 (kT 1 s),.int .i64 (kT 2 s),.int .i64 (kT 3 s),.int .i64 (kT 4 s),.int .i64 (kT 5 s)],.int .i64 (QF s)]):=Oc s▸Xv (Qg s (Bq a))
theorem WV (y m d h i s:Int) (a:true=true):aj dK 50 [.agg [.int .i64 y,.int .i64 m,.int .i64 d,.int .i64 h,.int .i64 i,.int .i64 s]] (.tup [.int .i64 (Xx y m d h i s),.int .i64 (scW y m d h i s)]):=Xv (US (PV y m d h i s))
theorem nJ (y m d h i s:Int) (a:true=true):aj dK 54 [.agg [.int .i64 y,.int .i64 m,.int .i64 d,.int .i64 h,.int .i64 i,.int .i64 s]] (.tup [.int .i64 (Xx y m d h i s),.int .i64 (scW y m d h i s)]):=Xv (US (PX y m d h i s))
theorem Li:bT dK lp4:=by
 unfold lp4;refine bT.XH (fun args r h=>?_) (bT.cons (fun args r h=>?_) (bT.cons (fun args r h=>?_) (bT.cons (fun args r h=>?_) (bT.cons (fun args r h=>?_) (bT.cons (fun args r h=>?_) (bT.cons (fun args r h=>?_) (bT.cons (fun args r h=>?_) (bT.cons (fun args r h=>?_) bT.nil))))))));all_goals (revert h;intro h;first|unfold Vu at h|unfold YS at h|unfold YT at h|unfold YU at h|unfold YV at h)
 all_goals (split at h;rotate_left; · cases h)
 all_goals (simp only[aI,bU] at h;obtain⟨a,rfl⟩:=h)
 ·exact Ob _ _ _ rfl
 ·exact WR _ a
 ·exact l8 _ a
 ·exact WS _ a
 ·exact oN _ a
 ·exact WU _ a
 ·exact nI _ a
 ·exact WV _ _ _ _ _ _ rfl
 ·exact nJ _ _ _ _ _ _ rfl
theorem app1 {xs:af} {y:V} (h:xs.length≤16000000):dU xs [y]=true:=by rw[dm,Km];omega
theorem OE {a b:ah} (h:a=b):seq a b=true:=by rw[nZ];exact h
theorem KB {a b:ah} (h: ¬a=b):seq a b=false:=by
 cases c:seq a b with
 |false=>rfl
 |true=>exact absurd ((nZ a b).mp c) h
noncomputable def ZV (xs:af) (a:Int) (s:ah):V:=sel (ieq (jS s) 0) (.out false (.tup []) [[.sl 39 kP (some 1000001001) (FD xs s),.int .i64 a]]) (.out true (lU a (jS s)) [[.sl 39 kP (some 1000001001) xs,.int .i64 a]])
theorem xV {xs:af} {a:Int} {s:ah} {e:Int} (h:jS s=e) (b:e≠0):ZV xs a s=.out true (lU a e) [[.sl 39 kP (some 1000001001) xs,.int .i64 a]]:=by
 subst h;unfold ZV;rw[aB (bD b)]
theorem Lj {xs:af} {a:Int} {s:ah} (h:jS s=0):ZV xs a s=.out false (.tup []) [[.sl 39 kP (some 1000001001) (FD xs s),.int .i64 a]]:=by
 unfold ZV;rw[ai (dN h)]
theorem WW (F:Nat) (xs:af) (o:Int) (s:ah) (t:s.length≤4000000) (hx:xs.length≤3000000):dn dK (cu dK lp4 F 3) F 29 [V.bxa 0 [V.sl 39 kP (some 1000001001) xs,V.int .i64 o],V.str s] some=some (ZV xs o s):=by
 have hl:aD (aF s) 4000000=true:=cO (by rw[av];omega)
 (rw[UA];(conv=>zeta);rw[ai hl])
 by_cases a:Hr s=0;rotate_left
 ·rw[aB (bD a),xV (by unfold jS;rw[if_pos a]) a]
 rw[ai (dN a),ai hl];by_cases c:Kt s=0;rotate_left
 ·rw[aB (bD c),xV (by unfold jS;rw[if_neg (not_not_intro a),if_pos c]) c]
 rw[ai (dN c)];by_cases b:aM (qE s)=0
 ·have e:jS s=0:=by unfold jS;rw[if_neg (not_not_intro a),if_neg (not_not_intro c),if_pos b]
  rw[ai (dN b),Lj e];unfold FD Ku;rw[if_neg (by simp[b])]
 rw[aB (bD b)];by_cases i:aM (qE s)<2
 ·rw[ai (aY i),xV (e:=5) (by unfold jS;rw[if_neg (not_not_intro a),if_neg (not_not_intro c),if_neg b,if_pos i]) (by decide)]
 rw[aB (aW (by omega))];by_cases j:2<aM (qE s)
 ·rw[ai (aY j),xV (e:=6) (by unfold jS;rw[if_neg (not_not_intro a),if_neg (not_not_intro c),if_neg b,if_neg i,if_pos j]) (by decide)]
 have g0:au (aD 0 0) (aU 0 (aM (qE s)))=true:=by rw[ay,ak,aQ];omega
 have g1:au (aD 0 1) (aU 1 (aM (qE s)))=true:=by rw[ay,ak,aQ];omega
 have q:aD (aF (f0 s)) 1000=true:=cO (by rw[av];have:=Jh a b;omega);have m: ∀y:V,dU xs [y]=true:=fun y=>app1 (by omega)
 rw[aB (aW (by omega)),ai g0,ai q];by_cases g:QF (f0 s)=0;rotate_left
 ·rw[aB (bD g),xV (by unfold jS;rw[if_neg (not_not_intro a),if_neg (not_not_intro c),if_neg b,if_neg i,if_neg j,if_pos g]) g]
 rw[ai (dN g),ai g1,ai g1,ai g1];have eq:jS s=if f1 s=[43] then 0 else if f1 s=[45] then 0 else 3:=by unfold jS;rw[if_neg (not_not_intro a),if_neg (not_not_intro c),if_neg b,if_neg i,if_neg j,if_neg (not_not_intro g)]
 have l: ∀n:Int,jS s=0→QG s=n→FD xs s=bS xs [.agg [.int .i64 (Xx (kT 0 (f0 s)) (kT 1 (f0 s)) (kT 2 (f0 s)) (kT 3 (f0 s)) (kT 4 (f0 s)) (kT 5 (f0 s))),.int .i64 n]]:=fun n h p=>by
  unfold FD Ku;rw[if_pos (by simp[h,b]),p];rfl
 by_cases d:f1 s=[43]
 ·have e:jS s=0:=by rw[eq,if_pos d]
  have k:QG s=1:=by unfold QG;rw[if_neg (by rw[d];decide)]
  have r:seq (f1 s) [45]=false:=KB (by rw[d];decide);rw[aB r,ai (OE d),ai (OE d),ai (m _),Lj e,l 1 e k];exact kI _
 ·rw[aB (KB d),aB (KB d)]
  by_cases f:f1 s=[45]
  ·have e:jS s=0:=by rw[eq,if_neg d,if_pos f]
   have k:QG s= -1:=by unfold QG;rw[if_pos f]
   rw[ai (OE f),ai (m _),ai g1,Lj e,l (-1) e k];exact kI _
  ·rw[aB (KB f),ai g1,xV (e:=3) (by rw[eq,if_neg d,if_neg f]) (by decide)]
   exact kI _
theorem Jj (xs:af) (a:Int) (s:ah) (c:s.length≤4000000) (hx:xs.length≤3000000):rG dK 29 [V.bxa 0 [V.sl 39 kP (some 1000001001) xs,V.int .i64 a],V.str s]
  (.sK (ieq (jS s) 0) (.out false (.tup []) [[.sl 39 kP (some 1000001001) (FD xs s),.int .i64 a]]) (.out true (lU a (jS s)) [[.sl 39 kP (some 1000001001) xs,.int .i64 a]])):=by
 have h:=WW 3 xs a s c hx;unfold ZV at h;refine rG.sK (fun b=>rG.out (nA gD Li 3 3 ?_)) fun b=>rG.out (nA gD Li 3 3 ?_)
 ·rw[h,ai b]
 ·rw[h,aB b]
def bare:V→Bool
 | .box _ _=>true
 | .str _=>true
 | .int _ _=>true
 |_=>false
theorem Fp {g g':Gh} (a:g'.G=g.G) (hβ:g'.β=g.β) {x:V} (hx:bare x=true) {v:Value} (h:aG g x v):aG g' x v:=by
 cases x with
 |box k off=>
  rw[dH] at h⊢;rw[hβ];exact h
 |str l=>simp only[aG,bA] at h⊢;rw[a];exact h
 |int k n=>simp only[aG,bA] at h⊢;rw[a];exact h
 |_=>cases hx
def nT (L:Nat):Option (Value×Nat×Nat):=if L=1000001001 then some (.slice none 0 0,39,2) else none
theorem Ll {L:Nat} {v:Value} {e a:Nat} (h:nT L=some (v,e,a)):v=.slice none 0 0∧0<a:=by
 unfold nT at h;split at h
 ·simp only[aI,bU] at h;obtain⟨rfl,_,rfl⟩:=h;exact⟨rfl,by decide⟩
 ·cases h
theorem WX {B:Own} {g:Gh} {w:World} {a:Act} {fr r:af} (p: ∀x∈fr,bare x=true) (F: ∀x∈r,bare x=true) (h:Inv dK B g.G w ⟨fr,[(HL,.nilsl::r)]⟩ g a w): ∃g',g'.G=g.G∧Inv dK B g'.G w ⟨fr,[(HL,.sl 39 kP (some 1000001001) []::r)]⟩ g' a w:=by
 refine⟨{g with O:=nT},rfl,⟨h.fr.mono fun x hx v n=>Fp (g:=g) (by rfl) (by rfl) (p x hx) n,h.df,h.gok,⟨fun L v e z hL=>?_,fun L L' v K e N z H b m y l _=>?_⟩,⟨fun k o j=>?_,fun k P o E j q _=>?_⟩,h.iq,h.hB,h.ext,h.glob,h.g1,fun k o L v e z b j hL l=>?_⟩⟩
 ·obtain⟨m,y⟩:=Ll hL
  exact⟨y,.inl m⟩
 ·obtain⟨m,_⟩:=Ll m
  rw[m] at l;cases l
 ·have i:aA [(HL,.sl 39 kP (some 1000001001) []::r)] k=some o:=j
  unfold aA at i
  cases d:HL==k with
  |false=>rw[d] at i;cases i
  |true=>
   rw[d,iy] at i;obtain rfl:=Option.some.inj i;obtain rfl:HL=k:=by simpa using d
   obtain⟨b,c,e,l,s,u,t,D,I,M⟩:=h.bxs.1 HL (.nilsl::r) (by unfold aA;rw[Hl,iy]);refine⟨b,c,e,l,s,u,?_,D,I,fun u=>by cases u⟩;obtain⟨R,Q,A,C,t⟩:=PW.cons_inv t;have J: ∀{v:Value},aG g .nilsl v→v=.slice none 0 0:=fun {v} n=>by
    simp only[aG,bA] at n;unfold aK at n;exact n
   rw[A,J C];exact .cons ⟨rfl,.inl ⟨rfl,rfl⟩⟩ (t.mono fun x hx v n=>Fp (g:=g) (by rfl) (by rfl) (F x hx) n)
 ·have f: ∀{k:Nat} {o:af},aA [(HL,.sl 39 kP (some 1000001001) []::r)] k=some o→k=HL:=fun {k o} j=>by
   unfold aA at j
   cases d:HL==k with
   |false=>rw[d] at j;cases j
   |true=>exact(by simpa using d:HL=k).symm
  rw[f j,f q]
 ·obtain⟨m,_⟩:=Ll hL
  rw[m] at l;cases l
theorem Od: ∀(ys:af) (j:Nat),(∀y∈ys,bare y=true∧ ∀k off,y≠.box k off)→bF j ys=ys∧dF j ys=[]
 |[],_,_=>⟨rfl,rfl⟩
 |y::ys,j,h=>by
  obtain⟨d,c⟩:=h y vg;obtain⟨a,b⟩:=Od ys (j+1) fun z e=>h z (xE _ e)
  cases y with
  |str l=>unfold bF dF;rw[a,b];exact⟨rfl,rfl⟩
  |int k n=>unfold bF dF;rw[a,b];exact⟨rfl,rfl⟩
  |box k off=>exact absurd rfl (c k off)
  |_=>cases d
theorem nil_x {f:Nat} {r ys:af} {v:V} (j: ∀x∈r,bare x=true) (d: ∀y∈ys,bare y=true∧ ∀k off,y≠.box k off) (h:rG dK f (.bxa 0 (.sl 39 kP (some 1000001001) []::r)::ys) v):rG dK f (.bxa 0 (.nilsl::r)::ys) v:=by
 intro p x bs n B g w vs b e;obtain⟨m,o⟩:=Od ys 1 d;have f1: ∀a:af,bF 0 (.bxa 0 a::ys)=.box HL 0::ys:=fun a=>by
  show V.box HL 0::bF 1 ys=_;rw[m]
 have i: ∀a:af,dF 0 (.bxa 0 a::ys)=[(HL,a)]:=fun a=>by
  show(HL+0,a)::dF 1 ys=_;rw[o];rfl
 rw[f1,i] at e;obtain⟨g',l,c⟩:=WX (by
  intro x hx;rcases List.mem_cons.1 hx with rfl|hx
  ·rfl
  ·exact(d x hx).1) j e
 have:=h p x bs n B g' w vs b (by rw[f1,i];exact c);rw[l,show eY 0 (V.bxa 0 (.sl 39 kP (some 1000001001) []::r)::ys) bs=eY 0 (V.bxa 0 (.nilsl::r)::ys) bs by cases bs<;>rfl] at this;exact this
theorem UF (c0:V) (ln:Int) (s:ah) (hc:(bif okP c0 then au (aD (aF s) 4000000) (aD (aM (xL c0)) 3000000) else false)=true):rG dK 29 [.bxa 0 [c0,.int .i64 ln],.str s] (.sK (ieq (jS s) 0) (.out false (.tup []) [[V.sl 39 kP (some 1000001001) (FD (xL c0) s),.int .i64 ln]]) (.out true (lU ln (jS s)) [[V.sl 39 kP (some 1000001001) (xL c0),.int .i64 ln]])):=by
 cases hk:okP c0 with
 |false=>rw[hk] at hc;cases hc
 |true=>
  rw[hk,iy,ay,ak,ak,av,aO] at hc;unfold okP at hk;split at hk
  ·rename_i e k L xs
   simp only[bL,ig] at hk;obtain⟨⟨rfl,rfl⟩,h3⟩:=hk;obtain rfl:=Kd.fT _ _ h3;exact Jj xs ln s (by omega) (by
    have:xs.length≤3000000:=by have:=hc.2;simp only[xL] at this;omega
    exact this)
  ·exact nil_x (r:=[.int .i64 ln]) (ys:=[.str s]) (by simp[bare]) (by simp[bare]) (Jj [] ln s (by omega) (by simp))
  ·cases hk
theorem UG (s:ah) (u:aD (aF s) 4000000=true):aj dK 31 [.str s] (.tup [.agg [.int .i64 (Xy s),.int .i64 (Xz s)],.bool (Ku s),.int .i64 (jS s)]):=by
 rw[ak,av] at u;refine ax gD Li 3 3 ?_;have hl:aD (aF s) 4000000=true:=cO (by rw[av];omega)
 (rw[UB];(conv=>zeta);rw[ai hl])
 have d: ∀e:Int,jS s=e→(e≠0∨aM (qE s)=0)→some (V.tup [V.agg [V.int .i64 0,V.int .i64 0],V.bool false,V.int .i64 e])=some (.tup [.agg [.int .i64 (Xy s),.int .i64 (Xz s)],.bool (Ku s),.int .i64 (jS s)]):=fun e h j=>by
  have o:Ku s=false:=by
   unfold Ku;rcases j with j|j
   ·rw[h];simp[j]
   ·simp[j]
  unfold Xy Xz;rw[h,o,if_neg (by decide),if_neg (by decide)]
 by_cases a:Hr s=0;rotate_left
 ·rw[ai (by rw[bD a];rfl),d _ (by unfold jS;rw[if_pos a]) (.inl a)]
 rw[aB (by rw[dN a];rfl),ai hl];by_cases b:Kt s=0;rotate_left
 ·rw[ai (by rw[bD b];rfl),d _ (by unfold jS;rw[if_neg (not_not_intro a),if_pos b]) (.inl b)]
 rw[aB (by rw[dN b];rfl)];by_cases c:aM (qE s)=0
 ·rw[ai (dN c),b,d 0 (by unfold jS;rw[if_neg (not_not_intro a),if_neg (not_not_intro b),if_pos c]) (.inr c)]
 rw[aB (bD c)];by_cases l:aM (qE s)<2
 ·rw[ai (aY l),d 5 (by unfold jS;rw[if_neg (not_not_intro a),if_neg (not_not_intro b),if_neg c,if_pos l]) (.inl (by decide))]
 rw[aB (aW (by omega))];by_cases m:2<aM (qE s)
 ·rw[ai (aY m),d 6 (by unfold jS;rw[if_neg (not_not_intro a),if_neg (not_not_intro b),if_neg c,if_neg l,if_pos m]) (.inl (by decide))]
 have g0:au (aD 0 0) (aU 0 (aM (qE s)))=true:=by rw[ay,ak,aQ];omega
 have g1:au (aD 0 1) (aU 1 (aM (qE s)))=true:=by rw[ay,ak,aQ];omega
 have r:aD (aF (f0 s)) 1000=true:=cO (by rw[av];have:=Jh a c;omega);rw[aB (aW (by omega)),ai g0,ai r];by_cases k:QF (f0 s)=0;rotate_left
 ·rw[ai (by rw[bD k];rfl),d _ (by unfold jS;rw[if_neg (not_not_intro a),if_neg (not_not_intro b),if_neg c,if_neg l,if_neg m,if_pos k]) (.inl k)]
 have eq:jS s=if f1 s=[43] then 0 else if f1 s=[45] then 0 else 3:=by unfold jS;rw[if_neg (not_not_intro a),if_neg (not_not_intro b),if_neg c,if_neg l,if_neg m,if_neg (not_not_intro k)]
 have i: ∀n:Int,jS s=0→QG s=n→some (V.tup [V.agg [V.int .i64 (Xx (kT 0 (f0 s)) (kT 1 (f0 s)) (kT 2 (f0 s)) (kT 3 (f0 s)) (kT 4 (f0 s)) (kT 5 (f0 s))),V.int .i64 n],V.bool true,V.int .i64 0])=some (.tup [.agg [.int .i64 (Xy s),.int .i64 (Xz s)],.bool (Ku s),.int .i64 (jS s)]):=fun n h q=>by
  have o:Ku s=true:=by unfold Ku;simp[h,c]
  unfold Xy Xz;rw[o,if_pos rfl,if_pos rfl,q,h];rfl
 rw[aB (by rw[dN k];rfl),ai g1];by_cases f:f1 s=[43]
 ·have e:jS s=0:=by rw[eq,if_pos f]
  have p:QG s=1:=by unfold QG;rw[if_neg (by rw[f];decide)]
  have t:seq (f1 s) [45]=false:=KB (by rw[f];decide);rw[aB (by rw[OE f];rfl),ai g1,aB t];exact i 1 e p
 ·rw[ai (by rw[KB f];rfl),ai g1]
  by_cases g:f1 s=[45]
  ·have e:jS s=0:=by rw[eq,if_neg f,if_pos g]
   have p:QG s= -1:=by unfold QG;rw[if_pos g]
   rw[aB (by rw[OE g];rfl),ai g1,ai (OE g)];exact i (-1) e p
  ·rw[ai (by rw[KB g];rfl),d 3 (by rw[eq,if_neg f,if_neg g]) (.inl (by decide))]
theorem Lm:bT dK Vf:=by
 unfold Vf;refine bT.Bn (fun args r h=>?_) (bT.cons (fun args r h=>?_) (bT.XH (fun args r h=>?_) (bT.cons (fun args r h=>?_) (bT.cons (fun args r h=>?_) (bT.cons (fun args r h=>?_) (bT.cons (fun args r h=>?_) bT.nil))))));all_goals (revert h;intro h;first|unfold X0 at h|unfold X3 at h|unfold Vu at h|unfold YW at h|unfold tN at h)
 all_goals (split at h;rotate_left; · cases h)
 all_goals (simp only[aI,bU] at h;obtain⟨a,rfl⟩:=h)
 ·exact UF _ _ _ a
 ·exact UG _ a
 ·exact Ob _ _ _ rfl
 ·exact WT _ a
 ·exact oO _ a
 ·exact Cr _ a
 ·exact fw _ a
end Nt.Ev.YtcmockbdkppglaaGreatDoor.Lp
