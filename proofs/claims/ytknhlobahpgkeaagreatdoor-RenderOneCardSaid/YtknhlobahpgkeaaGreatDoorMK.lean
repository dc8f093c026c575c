/-
  Stamp: equations of functions, as the evaluator prints them. Stamps: Right, Secs, Of, Split, both sides.
-/
import Derived.Test.YtknhlobahpgkeaaGreatDoorMI
set_option linter.all false
set_option maxRecDepth 100000
namespace Nt.Ev.YtknhlobahpgkeaaGreatDoor
open Go Nt.Num Go.Proofs.YtknhlobahpgkeaaGreatDoor
open Nt.Civil
def dyI (y m d:Int):Int:=(AR y m d).1
def dyW (y m d:Int):Int:=(AR y m d).2
def daY (n:Int):Int:=(Ed n).1
def daM (n:Int):Int:=(Ed n).2.1
def daD (n:Int):Int:=(Ed n).2.2.1
def daW (n:Int):Int:=(Ed n).2.2.2
noncomputable def sdivS:aC:=fun a=>match a with|[.int .i64 a,.int .i64 b]=>some (ak (ak (av (-9223372036854775808) a) (av a 9223372036854775807)) (ak (aW 0 b) (av b 1000000)),.tup [.int .i64 (fq a b),.int .i64 (fr a b),.int .i64 0])|_=>none
noncomputable def Yd:aC:=fun a=>match a with|[.agg [.int .i64 y,.int .i64 m,.int .i64 d]]=>some (true,.bool (gV y m d))|_=>none
noncomputable def sdaysS:aC:=fun a=>match a with|[.agg [.int .i64 y,.int .i64 m,.int .i64 d]]=>some (true,.tup [.int .i64 (dyI y m d),.int .i64 (dyW y m d)])|_=>none
noncomputable def sdateS:aC:=fun a=>match a with|[.int .i64 n]=>some (ak (av (-9223372036854775808) n) (av n 9223372036854775807),.tup [.agg [.int .i64 (daY n),.int .i64 (daM n),.int .i64 (daD n)],.int .i64 (daW n)])|_=>none
noncomputable def stS:List (Nat×aC):=(187,sdivS)::(166,Yd)::(146,sdaysS)::(204,sdateS)::[]
noncomputable def stS2:List (Nat×aC):=stS
theorem stOf_top (F t) (K:V→Option V):
 bA vE (bu vE stS2 F 3) F 189 [V.int .i64 t] K=
 let A:=V.int .i64 0;let B:=fq t 86400;let C:=fr t 86400;sel (ak (ak (av (-9223372036854775808) t) (av t 9223372036854775807)) (ak (aW 0 86400) (av 86400 1000000))) (sel (ak (av (-9223372036854775808) B) (av B 9223372036854775807)) (sel (aL (ieq (daW B) 0)) (K (V.tup [V.agg [A,A,A,A,A,A],V.int .i64 (daW B)])) (K (V.tup [V.agg [V.int .i64 (daY B),V.int .i64 (daM B),V.int .i64 (daD B),V.int .i64 (gF .i64 C 3600),V.int .i64 (gF .i64 (tH C 3600) 60),V.int .i64 (tH C 60)],A]))) none) none:=by kernel_rfl
open Go.RowKit Nt
theorem sdivS_ok (a b:Int) (c:ak (ak (av (-9223372036854775808) a) (av a 9223372036854775807)) (ak (aW 0 b) (av b 1000000))=true):aj vE 187 [.int .i64 a,.int .i64 b] (.tup [.int .i64 (fq a b),.int .i64 (fr a b),.int .i64 0]):=Og a b c
theorem VS (y m d:Int) (a:true=true):aj vE 166 [.agg [.int .i64 y,.int .i64 m,.int .i64 d]] (.bool (gV y m d)):=Mc y m d a
theorem aey (y m d:Int) (a:true=true):aj vE 146 [.agg [.int .i64 y,.int .i64 m,.int .i64 d]] (.tup [.int .i64 (dyI y m d),.int .i64 (dyW y m d)]):=QZ y m d
theorem aez (n:Int) (a:ak (av (-9223372036854775808) n) (av n 9223372036854775807)=true):aj vE 204 [.int .i64 n] (.tup [.agg [.int .i64 (daY n),.int .i64 (daM n),.int .i64 (daD n)],.int .i64 (daW n)]):=vDate_ev n
theorem stS_ok:bf vE stS:=by
 unfold stS;refine bf.cons (fun args r h=>?_) (bf.cons (fun args r h=>?_) (bf.cons (fun args r h=>?_) (bf.cons (fun args r h=>?_) bf.nil)));all_goals (revert h;intro h;first|unfold sdivS at h|unfold Yd at h|unfold sdaysS at h|unfold sdateS at h)
 all_goals (split at h;rotate_left; · cases h)
 all_goals (simp only[aR,bM] at h;obtain⟨a,rfl⟩:=h)
 ·exact sdivS_ok _ _ a
 ·exact VS _ _ _ rfl
 ·exact aey _ _ _ rfl
 exact aez _ a
theorem stS2_ok:bf vE stS2:=by unfold stS2;refine stS_ok
def vo (t:Int):List Int×Int:=if jl (t/86400)=true then([dY (t/86400),dM (t/86400),dD (t/86400),t%86400/3600,t%86400/60%60,t%86400%60],0) else([0,0,0,0,0,0],1)
def resO (p:List Int×Int):V:=.tup [.agg (p.1.map (V.int .i64)),.int .i64 p.2]
theorem da_in {n:Int} (h:jl n=true):daY n=dY n∧daM n=dM n∧daD n=dD n∧daW n=0:=by unfold daY daM daD daW Ed;rw[if_pos h];exact⟨rfl,rfl,rfl,rfl⟩
theorem da_out {n:Int} (h: ¬jl n=true):daW n=1:=by unfold daW Ed;rw[if_neg h]
theorem stOf_ev (t:Int) (g:Fits t):aj vE 189 [.int .i64 t] (resO (vo t)):=by
 refine au Ec stS2_ok 5 3 ?_;unfold Fits at g;have d:fq t 86400=t/86400:=rfl;have i:fr t 86400=t%86400:=rfl
 (rw[stOf_top];(conv=>zeta);rw[ax (by simp only[aM,aB,bq];omega),d,i,ax (by simp only[aM,aB];omega)])
 unfold vo;by_cases a:jl (t/86400)=true
 ·obtain⟨e,f,h,c⟩:=da_in a
  rw[e,f,h,c,aK (by rfl),if_pos a];have j:0≤t%86400∧t%86400<86400:=by omega
  generalize t%86400=r at*;have b:r%3600/60=r/60%60:=by omega
  simp(disch:=omega) only[pF,nN];rw[b];rfl
 rw[da_out a,ax (by rfl),if_neg a];rfl
end Nt.Ev.YtknhlobahpgkeaaGreatDoor
