/-
  ReadLaw: equations of functions, as the evaluator prints them.
-/
import Derived.Test.YtjcencojgajgdaaGreatDoorMXM
set_option linter.all false
set_option maxRecDepth 100000
namespace Nt.Ev.YtjcencojgajgdaaGreatDoor.Rr
open Go Nt.Num Go.Proofs.YtjcencojgajgdaaGreatDoor
variable [kH]
open Nt.Ev.YtjcencojgajgdaaGreatDoor
open Nt.Civil
open Nt.Fld
open Nt.Ev.YtjcencojgajgdaaGreatDoor.Lk
noncomputable def sqI (a b:ah):Bool:=@decide (a=b∧a.length≤1000000) (Classical.propDecidable _)
noncomputable def sqW (a b c f e d:ah):Bool:=@decide (a=f∧b=e∧c=d∧a.length≤1000000∧b.length≤1000000∧c.length≤1000000∧ ∀z∈b,(jM (ai z 0)).length≤1000000) (Classical.propDecidable _)
noncomputable def ksW (e a b c f d:List Kd):Bool:=(Kd.tq kI e&&Kd.tq kW a)&&(Kd.tq kI b&&(Kd.tq kI c&&(Kd.tq kW f&&Kd.tq kI d)))
noncomputable def lTbS:aD:=fun a=>match a with|[.str s]=>some (true,tbV (KB s) (KD s) (KF s) (UO s) (UQ s) (UR s) (Ee s) (Ud s))|_=>none
noncomputable def lInS:aD:=fun a=>match a with|[.sl e1 k1 o1 es,.sl e2 k2 o2 fs]=>some (bif Kd.tq kI k1&&Kd.tq kI k2 then sqI es fs else false,.bool true)|_=>none
noncomputable def lSwS:aD:=fun a=>match a with|[.agg [.sl e0 k0 o0 a,.sl e1 k1 o1 b,.sl e2 k2 o2 c],.agg [.sl f0 q0 p0 a2,.sl f1 q1 p1 b2,.sl f2 q2 p2 c2]]=>some (bif ksW k0 k1 k2 q0 q1 q2 then sqW a b c a2 b2 c2 else false,.bool true)|_=>none
noncomputable def lSe:List (Nat×aD):=[]
noncomputable def lS0:List (Nat×aD):=(29,lInS)::[]
noncomputable def N8:=fun F e n c f d a b K=>(bR eE lSe F 2 29 [1,1,0,1,0] e K n (fB 26 [(0,V.sl 3 [Kd.int .i64] none c),(1,V.sl 3 [Kd.int .i64] none f),(4,V.bool d),(12,V.int .i64 a),(13,V.int .i64 b)] []):Option V)
theorem lIn_top (F a) (K:V→Option V):
 bE eE (bC eE lSe F 2) F 29 [V.sl 3 [Kd.int .i64] none a,V.sl 3 [Kd.int .i64] none a] K=
 sel (aL (ieq (ay a) (ay a))) (K (V.bool false)) (N8 F [] F a a false (ay a) 0 K):=by kernel_rfl
theorem E6 (F n c d e b a K):
 N8 F [] (n+1) c d e b a K=
 sel (aR a b) (sel (ak (ax 0 a) (aR a (ay c))) (sel (ak (ax 0 a) (aR a (ay d))) (sel (aL (ieq (asInt (ai (aG c a) 0)) (asInt (ai (aG d a) 0)))) (K (V.bool false)) (N8 F [] n c d e b (bg .i64 a 1) K)) none) none) (K (V.bool true)):=by kernel_rfl
noncomputable def N9:=fun F q n i a e g c k p o m j l d h f b K=>(bR eE lS0 F 2 11 [1,1,0,1,0] q K n (fB 48 [(0,V.agg [V.sl 3 [Kd.int .i64] none i,V.sl 32 kW none a,V.sl 3 [Kd.int .i64] none e]),(1,V.agg [V.sl 3 [Kd.int .i64] none g,V.sl 32 kW none c,V.sl 3 [Kd.int .i64] none k]),(2,V.box 2 0),(3,V.box 3 0),(4,V.bool p),(31,V.int .i64 o),(32,V.int .i64 m)] [(3,[V.sl 3 [Kd.int .i64] none j,V.sl 32 kW none l,V.sl 3 [Kd.int .i64] none d]),(2,[V.sl 3 [Kd.int .i64] none h,V.sl 32 kW none f,V.sl 3 [Kd.int .i64] none b])]):Option V)
theorem lSw_top (F a b c) (K:V→Option V):
 bE eE (bC eE lS0 F 2) F 11 [V.agg [V.sl 3 [Kd.int .i64] none a,V.sl 32 kW none b,V.sl 3 [Kd.int .i64] none c],V.agg [V.sl 3 [Kd.int .i64] none a,V.sl 32 kW none b,V.sl 3 [Kd.int .i64] none c]] K=
 sel (sqI a a) (sel (sqI c c) (sel (aL (ieq (ay b) (ay b))) (K (V.bool false)) (N9 F [] F a b c a b c false (ay b) 0 a b c a b c K)) none) none:=by kernel_rfl
theorem E7 (F n k d h i f m p o a l c g j b e K):
 N9 F [] (n+1) k d h i f m p o a l c g j b e K=
 sel (aR a o) (sel (ak (ax 0 a) (aR a (ay b))) (sel (ak (ax 0 a) (aR a (ay c))) (sel (sqI (jM (ai (aG b a) 0)) (jM (ai (aG c a) 0))) (N9 F [] n k d h i f m p o (bg .i64 a 1) l c g j b e K) none) none) none) (K (V.bool true)):=by kernel_rfl
open Go.RowKit Nt
theorem lSe_ok:aZ eE lSe:=aZ.nil
theorem su (a:Int):ieq a a=true:=bA rfl
theorem tQ {G:aW} {a c:Nat} {d b:Option Nat} {sh:List Kd} {xs:ah} {v:Value} (h:aV G (.sl a sh d xs) v):aV G (.sl c sh b xs) v:=by unfold aV at h⊢;exact h
theorem YY {G:aW} {g t n p t1 t2:Nat} {s o m u q j:Option Nat} {e d f:List Kd} {a b c:ah} {v:Value} (h:aV G (.agg [.sl g e s a,.sl t d o b,.sl n f m c]) v):aV G (.agg [.sl p e u a,.sl t1 d q b,.sl t2 f j c]) v:=by unfold aV at h;obtain⟨l,rfl,h⟩:=h;unfold jm at h;obtain⟨x,A,rfl,k,h⟩:=h;unfold jm at h;obtain⟨z,l2,rfl,i,h⟩:=h;unfold jm at h;obtain⟨w,y,rfl,r,h⟩:=h;unfold aV;refine⟨_,rfl,?_⟩;unfold jm;refine⟨_,_,rfl,tQ k,?_⟩;unfold jm;refine⟨_,_,rfl,tQ i,?_⟩;unfold jm;exact⟨_,_,rfl,tQ r,h⟩
theorem YZ {E:Env} {f:Nat} {x y x' y' r:V} (h: ∀G v,aV G x v→aV G x' v) (b: ∀G v,aV G y v→aV G y' v) (c:aj E f [x',y'] r):aj E f [x,y] r:=by intro G w vs e d a;obtain⟨k,t1,rfl,g,a⟩:=a.cons_inv;obtain⟨j,t2,rfl,i,a⟩:=a.cons_inv;exact c G w _ e d (.cons (h _ _ g) (.cons (b _ _ i) a))
theorem un_dec {p:Prop} (h: @decide p (Classical.propDecidable p)=true):p:=@FY p (Classical.propDecidable p) h
theorem to_dec {p:Prop} (h:p): @decide p (Classical.propDecidable p)=true:=@uG p (Classical.propDecidable p) h
theorem Jl {a:ah} (h:a.length≤1000000):sqI a a=true:=to_dec ⟨rfl,h⟩
theorem in_loop (F:Nat) (a:ah) (f:a.length≤1000000): ∀(j i n:Nat),i+j=a.length→j<n→
  N8 F [] n a a false (ay a) (i:Int) some=some (.bool true):=by
 intro j;induction j with
 |zero=>
  intro i n d e;obtain⟨n,rfl⟩: ∃k,n=k+1:=⟨n-1,by omega⟩
  rw[E6,aI (bB (by rw[aC];omega))]
 |succ j c=>
  intro i n d e;obtain⟨n,rfl⟩: ∃k,n=k+1:=⟨n-1,by omega⟩
  have b:ak (ax 0 (i:Int)) (aR (i:Int) (ay a))=true:=by rw[aM,aA,bq,aC];omega
  rw[E6,av (bu (by rw[aC];omega)),av b,av b];simp only[su,jF,jq];rw[cr (by omega),show(i:Int)+1=((i+1:Nat):Int) by omega];exact c (i+1) n (by omega) (by omega)
theorem lInS_ok (f:Nat) (c:List Kd) (k:Option Nat) (a:ah) (j:Nat) (d:List Kd) (i:Option Nat) (e:ah) (b:(bif Kd.tq kI c&&Kd.tq kI d then sqI a e else false)=true):aj eE 29 [.sl f c k a,.sl j d i e] (.bool true):=by obtain⟨h,b⟩:=oI b;rw[bF] at h;obtain rfl:=Kd.cu _ _ h.1;obtain rfl:=Kd.cu _ _ h.2;obtain⟨rfl,g⟩:=un_dec b;refine YZ (x':=.sl 3 kI none a) (y':=.sl 3 kI none a) (fun _ _ h=>tQ h) (fun _ _ h=>tQ h) ?_;refine au iZ lSe_ok (a.length+1) 2 ?_;rw[lIn_top,su];exact in_loop (a.length+1) a g a.length 0 (a.length+1) (by omega) (by omega)
theorem lS0_ok:aZ eE lS0:=by
 unfold lS0;refine aZ.cons (fun args r h=>?_) aZ.nil;all_goals (revert h;intro h;first|unfold lInS at h)
 all_goals (split at h;rotate_left; · cases h)
 all_goals (simp only[aT,bP] at h;obtain⟨a,rfl⟩:=h)
 ·exact lInS_ok _ _ _ _ _ _ _ _ a
theorem sw_loop (F:Nat) (p e s o g d q f c r a:ah) (u:a.length≤1000000) (t: ∀z∈a,(jM (ai z 0)).length≤1000000): ∀(j i n:Nat),i+j=a.length→j<n→
  N9 F [] n p e s o g d false (ay a) (i:Int) q a f c a r some=some (.bool true):=by
 intro j;induction j with
 |zero=>
  intro i n h l;obtain⟨n,rfl⟩: ∃k,n=k+1:=⟨n-1,by omega⟩
  rw[E7,aI (bB (by rw[aC];omega))]
 |succ j m=>
  intro i n h l;obtain⟨n,rfl⟩: ∃k,n=k+1:=⟨n-1,by omega⟩
  have b:ak (ax 0 (i:Int)) (aR (i:Int) (ay a))=true:=by rw[aM,aA,bq,aC];omega
  rw[E7,av (bu (by rw[aC];omega)),av b,av b,av (Jl (t _ (get_mem (by omega)))),cr (by omega),show(i:Int)+1=((i+1:Nat):Int) by omega];exact m (i+1) n (by omega) (by omega)
theorem lSwS_ok (o:Nat) (g:List Kd) (F:Option Nat) (a:ah) (G:Nat) (e:List Kd) (z:Option Nat) (b:ah) (y:Nat) (l:List Kd) (x:Option Nat) (c:ah) (s:Nat) (f:List Kd) (H:Option Nat) (m:ah) (t:Nat) (i:List Kd) (B:Option Nat) (k:ah) (D:Nat) (n:List Kd) (q:Option Nat) (j:ah) (d:(bif ksW g e l f i n then sqW a b c m k j else false)=true):aj eE 11 [.agg [.sl o g F a,.sl G e z b,.sl y l x c],.agg [.sl s f H m,.sl t i B k,.sl D n q j]] (.bool true):=by obtain⟨h,d⟩:=oI d;unfold ksW at h;simp only[bF] at h;obtain⟨⟨v,p⟩,C,u,w,E⟩:=h;obtain rfl:=Kd.cu _ _ v;obtain rfl:=Kd.cu _ _ p;obtain rfl:=Kd.cu _ _ C;obtain rfl:=Kd.cu _ _ u;obtain rfl:=Kd.cu _ _ w;obtain rfl:=Kd.cu _ _ E;obtain⟨rfl,rfl,rfl,I,r,d,A⟩:=un_dec d;refine YZ (x':=.agg [.sl 3 kI none a,.sl 32 kW none b,.sl 3 kI none c]) (y':=.agg [.sl 3 kI none a,.sl 32 kW none b,.sl 3 kI none c]) (fun _ _ h=>YY h) (fun _ _ h=>YY h) ?_;refine au iZ lS0_ok (b.length+1) 2 ?_;rw[lSw_top,av (Jl I),av (Jl d),su];exact sw_loop (b.length+1) a b c a b c a c a c b r A b.length 0 (b.length+1) (by omega) (by omega)
theorem lTbS_ok (s:af) (a:true=true):aj eE 9 [.str s] (tbV (KB s) (KD s) (KF s) (UO s) (UQ s) (UR s) (Ee s) (Ud s)):=tbP_ev s
def Few (t:qh):Prop:=(∀z∈t.zs,(jM (ai z 1)).length≤256)∧ ∀z∈t.we,(jM (ai z 0)).length≤256
theorem afn {x:V} {e:Nat} {sh:List Kd} {o:Option Nat} {ys:ah} (h:ys.length≤256):(jM (ai (aset x 1 (.sl e sh o ys)) 1)).length≤256:=by
 show(jM ((x.cells.set 1 (.sl e sh o ys)).getD 1 .any)).length≤256;rcases acV 1 x.cells.length with a|a
 ·rw[l7,ab7 a]
  exact h
 rw[l7,abC (by simpa using a)];show([]:ah).length≤256;simp
theorem Few.step {t:qh} (i:Good t) (h:Few t) {c:Int} {s:af} (k:t.err s=0):Few (t.step c s):=by
 obtain⟨j,_,_⟩:=err_0 k;rcases j with b|⟨b,e,d⟩|⟨e,b,d⟩|⟨e,b,d⟩|⟨e,b,d⟩
 ·rw[jf b];exact h
 ·rw[jf b]
  have g:=(nN d).2;rw[aC] at g;have l:=i.ye;refine⟨fun z a=>?_,fun z a=>?_⟩
  ·have a:z∈oF t.zs t.yz (dm s):=a
   unfold oF oC at a;rcases List.mem_or_eq_of_mem_set a with f|rfl
   ·exact h.1 z f
   exact afn (by unfold aX;rw[iW,Ec];omega)
  have a:z∈rD t.we t.ye c:=a;unfold rD oC at a;rcases List.mem_or_eq_of_mem_set a with f|rfl
  ·exact h.2 z f
  show(aX t.ye [.int .i64 c]).length≤256;unfold aX;rw[iW,Ec];omega
 ·rw[jf b];exact h
 ·rw[jf b]
  refine⟨fun z a=>?_,fun z a=>?_⟩
  ·have a:z∈tJ t.zs (tl1 (dm s)):=a
   unfold tJ aX at a;rw[abq,Ni] at a;rcases a with a|rfl
   ·exact h.1 z a
   show([qz (tl1 (tl1 (dm s)))]:ah).length≤256;simp
  have a:z∈AL t.we c:=a;unfold AL aX at a;rw[abq,Ni] at a;rcases a with a|rfl
  ·exact h.2 z a
  show([V.int .i64 c]:ah).length≤256;simp
 rw[jf b];exact h
end Nt.Ev.YtjcencojgajgdaaGreatDoor.Rr
