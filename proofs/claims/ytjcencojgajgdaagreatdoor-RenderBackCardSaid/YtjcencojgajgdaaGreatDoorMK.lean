/-
  Stamp: equations of functions, as the evaluator prints them. Stamps: Right, Secs, Of, Split, both sides.
-/
import Derived.Test.YtjcencojgajgdaaGreatDoorMI
set_option linter.all false
set_option maxRecDepth 100000
namespace Nt.Ev.YtjcencojgajgdaaGreatDoor
open Go Nt.Num Go.Proofs.YtjcencojgajgdaaGreatDoor
open Nt.Civil
def dyI (y m d:Int):Int:=(AX y m d).1
def dyW (y m d:Int):Int:=(AX y m d).2
def daY (n:Int):Int:=(Ep n).1
def daM (n:Int):Int:=(Ep n).2.1
def daD (n:Int):Int:=(Ep n).2.2.1
def daW (n:Int):Int:=(Ep n).2.2.2
noncomputable def sdivS:aD:=fun a=>match a with|[.int .i64 a,.int .i64 b]=>some (ak (ak (ax (-9223372036854775808) a) (ax a 9223372036854775807)) (ak (aR 0 b) (ax b 1000000)),.tup [.int .i64 (fq a b),.int .i64 (fr a b),.int .i64 0])|_=>none
noncomputable def Ze:aD:=fun a=>match a with|[.agg [.int .i64 y,.int .i64 m,.int .i64 d]]=>some (true,.bool (gQ y m d))|_=>none
noncomputable def sdaysS:aD:=fun a=>match a with|[.agg [.int .i64 y,.int .i64 m,.int .i64 d]]=>some (true,.tup [.int .i64 (dyI y m d),.int .i64 (dyW y m d)])|_=>none
noncomputable def sdateS:aD:=fun a=>match a with|[.int .i64 n]=>some (ak (ax (-9223372036854775808) n) (ax n 9223372036854775807),.tup [.agg [.int .i64 (daY n),.int .i64 (daM n),.int .i64 (daD n)],.int .i64 (daW n)])|_=>none
noncomputable def stS:List (Nat×aD):=(183,sdivS)::(159,Ze)::(135,sdaysS)::(204,sdateS)::[]
noncomputable def stS2:List (Nat×aD):=stS
theorem stOf_top (F t) (K:V→Option V):
 bE vE (bC vE stS2 F 3) F 185 [V.int .i64 t] K=
 let A:=V.int .i64 0;let B:=fq t 86400;let C:=fr t 86400;sel (ak (ak (ax (-9223372036854775808) t) (ax t 9223372036854775807)) (ak (aR 0 86400) (ax 86400 1000000))) (sel (ak (ax (-9223372036854775808) B) (ax B 9223372036854775807)) (sel (aL (ieq (daW B) 0)) (K (V.tup [V.agg [A,A,A,A,A,A],V.int .i64 (daW B)])) (K (V.tup [V.agg [V.int .i64 (daY B),V.int .i64 (daM B),V.int .i64 (daD B),V.int .i64 (gF .i64 C 3600),V.int .i64 (gF .i64 (tF C 3600) 60),V.int .i64 (tF C 60)],A]))) none) none:=by kernel_rfl
open Go.RowKit Nt
theorem sdivS_ok (a b:Int) (c:ak (ak (ax (-9223372036854775808) a) (ax a 9223372036854775807)) (ak (aR 0 b) (ax b 1000000))=true):aj vE 183 [.int .i64 a,.int .i64 b] (.tup [.int .i64 (fq a b),.int .i64 (fr a b),.int .i64 0]):=O8 a b c
theorem WV (y m d:Int) (a:true=true):aj vE 159 [.agg [.int .i64 y,.int .i64 m,.int .i64 d]] (.bool (gQ y m d)):=MR y m d a
theorem afA (y m d:Int) (a:true=true):aj vE 135 [.agg [.int .i64 y,.int .i64 m,.int .i64 d]] (.tup [.int .i64 (dyI y m d),.int .i64 (dyW y m d)]):=R6 y m d
theorem afB (n:Int) (a:ak (ax (-9223372036854775808) n) (ax n 9223372036854775807)=true):aj vE 204 [.int .i64 n] (.tup [.agg [.int .i64 (daY n),.int .i64 (daM n),.int .i64 (daD n)],.int .i64 (daW n)]):=vDate_ev n
theorem stS_ok:aZ vE stS:=by
 unfold stS;refine aZ.cons (fun args r h=>?_) (aZ.cons (fun args r h=>?_) (aZ.cons (fun args r h=>?_) (aZ.cons (fun args r h=>?_) aZ.nil)));all_goals (revert h;intro h;first|unfold sdivS at h|unfold Ze at h|unfold sdaysS at h|unfold sdateS at h)
 all_goals (split at h;rotate_left; · cases h)
 all_goals (simp only[aT,bP] at h;obtain⟨a,rfl⟩:=h)
 ·exact sdivS_ok _ _ a
 ·exact WV _ _ _ rfl
 ·exact afA _ _ _ rfl
 exact afB _ a
theorem stS2_ok:aZ vE stS2:=by unfold stS2;refine stS_ok
def wN (t:Int):List Int×Int:=if ji (t/86400)=true then([dY (t/86400),dM (t/86400),dD (t/86400),t%86400/3600,t%86400/60%60,t%86400%60],0) else([0,0,0,0,0,0],1)
def resO (p:List Int×Int):V:=.tup [.agg (p.1.map (V.int .i64)),.int .i64 p.2]
theorem da_in {n:Int} (h:ji n=true):daY n=dY n∧daM n=dM n∧daD n=dD n∧daW n=0:=by unfold daY daM daD daW Ep;rw[if_pos h];exact⟨rfl,rfl,rfl,rfl⟩
theorem da_out {n:Int} (h: ¬ji n=true):daW n=1:=by unfold daW Ep;rw[if_neg h]
theorem stOf_ev (t:Int) (g:Fits t):aj vE 185 [.int .i64 t] (resO (wN t)):=by
 refine au Eo stS2_ok 5 3 ?_;unfold Fits at g;have d:fq t 86400=t/86400:=rfl;have i:fr t 86400=t%86400:=rfl
 (rw[stOf_top];(conv=>zeta);rw[av (by simp only[aM,aA,bq];omega),d,i,av (by simp only[aM,aA];omega)])
 unfold wN;by_cases a:ji (t/86400)=true
 ·obtain⟨e,f,h,c⟩:=da_in a
  rw[e,f,h,c,aI (by rfl),if_pos a];have j:0≤t%86400∧t%86400<86400:=by omega
  generalize t%86400=r at*;have b:r%3600/60=r/60%60:=by omega
  simp(disch:=omega) only[pI,nL];rw[b];rfl
 rw[da_out a,av (by rfl),if_neg a];rfl
end Nt.Ev.YtjcencojgajgdaaGreatDoor
