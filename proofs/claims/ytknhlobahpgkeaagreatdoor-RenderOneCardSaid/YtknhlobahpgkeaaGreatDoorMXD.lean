/-
  Rl: equations of functions, as the evaluator prints them. What holds for good: days, rules that are too close, what may be; both sides.
-/
import Derived.Test.YtknhlobahpgkeaaGreatDoorMR
import Derived.Test.YtknhlobahpgkeaaGreatDoorMJ
import Derived.Test.YtknhlobahpgkeaaGreatDoorMG
import Derived.Test.YtknhlobahpgkeaaGreatDoorMK
set_option linter.all false
set_option maxRecDepth 100000
namespace Nt.Ev.YtknhlobahpgkeaaGreatDoor.Rl
open Go Nt.Num Go.Proofs.YtknhlobahpgkeaaGreatDoor
variable [kM]
open Nt.Ev.YtknhlobahpgkeaaGreatDoor
open Nt.Civil
def dJ (n b:Int):Bool:=decide (0≤n∧n≤172800∧0≤b∧b≤2)
noncomputable def kN0:List (Nat×aC):=[]
abbrev dG (s:af):Int:=Nm.dG s
noncomputable def kNmS:aC:=fun a=>match a with|[.str s]=>some (true,.int .i64 (dG s))|_=>none
noncomputable def kLtS:aC:=fun a=>match a with|[.str s]=>some (av (aA s) 1000,.tup [.str (Gg s),.int .i64 (JV s)])|_=>none
noncomputable def kCrS:aC:=fun a=>match a with|[.agg [.int .i64 n,.int .i64 b]]=>some (true,.bool (dJ n b))|_=>none
noncomputable def WE:aC:=fun a=>match a with|[.int .i64 y,.int .i64 m]=>some (ak (av (-9223372036854775808) y) (av y 9223372036854775807),.int .i64 (gM y m))|_=>none
noncomputable def kNbS:aC:=fun a=>match a with|[.agg [.int .i64 y,.int .i64 m,.int .i64 d]]=>some (gV y m d,.int .i64 (fK y m d))|_=>none
noncomputable def kVaS:aC:=fun a=>match a with|[.agg [.int .i64 y,.int .i64 m,.int .i64 d]]=>some (true,.bool (gV y m d))|_=>none
def Kt (n:Int):af:=(fe n).1
def YA (n:Int):Int:=(fe n).2
def uP (m n:Int):af:=(iC m n).1
def CF (m n:Int):Int:=(iC m n).2
noncomputable def kFxS:aC:=fun a=>match a with|[.int .i64 n]=>some (true,.tup [.str (Kt n),.int .i64 (YA n)])|_=>none
noncomputable def kTxS:aC:=fun a=>match a with|[.int .i64 m,.int .i64 n]=>some (true,.tup [.str (uP m n),.int .i64 (CF m n)])|_=>none
noncomputable def kS0:List (Nat×aC):=(27,kFxS)::(28,kTxS)::(38,kNmS)::(32,kLtS)::(51,kCrS)::(79,WE)::(167,kNbS)::(166,kVaS)::[]
def onP (k w d:Int):Bool:=if k=1 then decide (0≤w∧w≤6∧d=0) else if k=0 then decide (w=0∧1≤d∧d≤31) else decide ((k=2∨k=3)∧0≤w∧w≤6∧1≤d∧d≤31)
noncomputable def kOnS:aC:=fun a=>match a with|[.agg [.int .i64 k,.int .i64 w,.int .i64 d]]=>some (true,.bool (onP k w d))|_=>none
noncomputable def kS1:List (Nat×aC):=(55,kOnS)::kS0
def E8 (k w d m:Int):Bool:=onP k w d&&decide (1≤m∧m≤12∧d≤gM 1 m)
noncomputable def YZ:aC:=fun a=>match a with|[.agg [.int .i64 k,.int .i64 w,.int .i64 d],.int .i64 m]=>some (true,.bool (E8 k w d m))|_=>none
noncomputable def kS2:List (Nat×aC):=(50,YZ)::kS1
def wlP (k w d m:Int):Int:=if E8 k w d m=true then(if k=1 then gM 1 m-6 else if k=3 then d-6 else d) else 0
def whP (k w d m:Int):Int:=if E8 k w d m=true then(if k=1 then gM 4 m else if k=2 then d+6 else d) else 0
def yrP (f t:Int):Bool:=av (-32767) f&&(av f t&&av t 32767)
def ruP (n:af) (f t m k w d c b v:Int) (l:af):Bool:=ieq (dG n) 0&&(yrP f t&&(E8 k w d m&&(dJ c b&&((av (-10800) v&&av v 10800)&&ieq (JV l) 0))))
noncomputable def kRrS:aC:=fun a=>match a with|[.agg [.str n,.int .i64 f,.int .i64 t,.int .i64 m,.int .i64 k,.int .i64 w,.int .i64 d,.int .i64 c,.int .i64 b,.int .i64 v,.str l]]=>some (av (aA l) 900,.bool (ruP n f t m k w d c b v l))|_=>none
def bY (m k w d c:Int):Int:=(zh 2001 m+wlP k w d m-1)*86400+c
def ofH (m k w d c:Int):Int:=(zh 2001 m+whP k w d m-1)*86400+c
theorem kCr_top (F n b) (K:V→Option V):
 bA fE (bu fE kN0 F 2) F 51 [V.agg [V.int .i64 n,V.int .i64 b]] K=
 let B:=K (V.bool false);let A:=sel (av 0 n) (K (V.bool (av n 172800))) B;sel (ieq b 0) (sel (ieq b 0) A B) (sel (ieq b 1) (sel (ieq b 1) A B) (sel (ieq b 2) A B)):=by kernel_rfl
theorem kOn_top (F k w d) (K:V→Option V):
 bA fE (bu fE kS0 F 3) F 55 [V.agg [V.int .i64 k,V.int .i64 w,V.int .i64 d]] K=
 let A:=K (V.bool false);let B:=sel (av 1 d) (K (V.bool (av d 31))) A;sel (ieq k 1) (sel (av 0 w) (sel (av w 6) (K (V.bool (ieq d 0))) A) A) (sel (ieq k 0) (sel (av 0 k) (sel (av k 3) (sel (av 0 w) (sel (av w 0) B A) A) A) A) (sel (av 0 k) (sel (av k 3) (sel (av 0 w) (sel (av w 6) B A) A) A) A)):=by kernel_rfl
theorem kFt_top (F k w d m) (K:V→Option V):
 bA fE (bu fE kS1 F 2) F 50 [V.agg [V.int .i64 k,V.int .i64 w,V.int .i64 d],V.int .i64 m] K=
 let A:=K (V.bool false);sel (onP k w d) (sel (av 1 m) (sel (av m 12) (K (V.bool (av d (gM 1 m)))) A) A) A:=by kernel_rfl
theorem kRr_top (F n f t m k w d c b v l) (K:V→Option V):
 bA fE (bu fE kS2 F 2) F 26 [V.agg [V.str n,V.int .i64 f,V.int .i64 t,V.int .i64 m,V.int .i64 k,V.int .i64 w,V.int .i64 d,V.int .i64 c,V.int .i64 b,V.int .i64 v,V.str l]] K=
 let A:=K (V.bool false);sel (av (aA l) 1000) (sel (ieq (CF f t) 0) (sel (ieq (YA f) 0) (sel (ieq (JV l) 0) (sel (ieq (dG n) 0) (sel (E8 k w d m) (sel (dJ c b) (sel (av (-10800) v) (K (V.bool (av v 10800))) A) A) A) A) A) A) A) none:=by kernel_rfl
open Go.RowKit Nt
theorem toPy {f:Nat} {args:ah} {r:V} (h:aj yE f args r):aj fE f args r:=aj.env (E:=yE) rfl (fun n v h=>by cases h) h
theorem Y0 {f:Nat} {args:ah} {r:V} (h:aj vE f args r):aj fE f args r:=aj.env (E:=vE) rfl (fun n v h=>by cases h) h
theorem toPo {f:Nat} {args:ah} {r:V} (h:aj oE f args r):aj fE f args r:=aj.env (E:=oE) rfl (fun n v h=>by cases h) h
theorem toPf {f:Nat} {args:ah} {r:V} (h:aj fE f args r):aj fE f args r:=h
theorem len_p {s:af} (h:av (aA s) 1000=true):s.length≤1000:=by rw[aB,aI] at h;omega
theorem len_p9 {s:af} (h:av (aA s) 900=true):s.length≤900:=by rw[aB,aI] at h;omega
theorem p_len {s:af} (h:s.length≤1000):av (aA s) 1000=true:=by rw[aB,aI];omega
theorem fits_p {m:Int} (h:ak (av (-9223372036854775808) m) (av m 9223372036854775807)=true):Fits m:=by rw[aM,aB,aB] at h;exact h
theorem Uz {m:Int} (h:Fits m):ak (av (-9223372036854775808) m) (av m 9223372036854775807)=true:=by rw[aM,aB,aB];exact h
theorem kFxS_ok (n:Int) (a:true=true):aj fE 27 [.int .i64 n] (.tup [.str (Kt n),.int .i64 (YA n)]):=toPy (Cf n)
theorem kTxS_ok (m n:Int) (a:true=true):aj fE 28 [.int .i64 m,.int .i64 n] (.tup [.str (uP m n),.int .i64 (CF m n)]):=toPy (Jm m n)
theorem X9 (s:af) (a:true=true):aj fE 38 [.str s] (.int .i64 (dG s)):=toPo (Nm.Rh s)
theorem kLtS_ok (s:af) (a:av (aA s) 1000=true):aj fE 32 [.str s] (.tup [.str (Gg s),.int .i64 (JV s)]):=toPf (LY s (len_p a))
theorem kN0_ok:bf fE kN0:=bf.nil
theorem Ya (n b:Int) (a:true=true):aj fE 51 [.agg [.int .i64 n,.int .i64 b]] (.bool (dJ n b)):=by
 refine au gL kN0_ok 5 2 ?_
 (rw[kCr_top];(conv=>zeta))
 unfold dJ;simp only[bK,aB,aN];repeat' split
 all_goals (congr 2;rw[uF,lG];simp only[aB,aN,JP,false_iff,true_iff,not_and];omega)
theorem Rq (y m:Int) (a:ak (av (-9223372036854775808) y) (av y 9223372036854775807)=true):aj fE 79 [.int .i64 y,.int .i64 m] (.int .i64 (gM y m)):=Y0 (NV y m (fits_p a))
theorem kNbS_ok (y m d:Int) (a:gV y m d=true):aj fE 167 [.agg [.int .i64 y,.int .i64 m,.int .i64 d]] (.int .i64 (fK y m d)):=Y0 (Jr y m d a)
theorem kVaS_ok (y m d:Int) (a:true=true):aj fE 166 [.agg [.int .i64 y,.int .i64 m,.int .i64 d]] (.bool (gV y m d)):=Y0 (Mb y m d)
theorem CX:bf fE kS0:=by
 unfold kS0;refine bf.cons (fun args r h=>?_) (bf.cons (fun args r h=>?_) (bf.cons (fun args r h=>?_) (bf.cons (fun args r h=>?_) (bf.cons (fun args r h=>?_) (bf.cons (fun args r h=>?_) (bf.cons (fun args r h=>?_) (bf.cons (fun args r h=>?_) bf.nil)))))));all_goals (revert h;intro h;first|unfold kFxS at h|unfold kTxS at h|unfold kNmS at h|unfold kLtS at h|unfold kCrS at h|unfold WE at h|unfold kNbS at h|unfold kVaS at h)
 all_goals (split at h;rotate_left; · cases h)
 all_goals (simp only[aR,bM] at h;obtain⟨a,rfl⟩:=h)
 ·exact kFxS_ok _ rfl
 ·exact kTxS_ok _ _ rfl
 ·exact X9 _ rfl
 ·exact kLtS_ok _ a
 ·exact Ya _ _ rfl
 ·exact Rq _ _ a
 ·exact kNbS_ok _ _ _ a
 exact kVaS_ok _ _ _ rfl
theorem kOnS_ok (k w d:Int) (a:true=true):aj fE 55 [.agg [.int .i64 k,.int .i64 w,.int .i64 d]] (.bool (onP k w d)):=by
 refine au gL CX 5 3 ?_
 (rw[kOn_top];(conv=>zeta))
 unfold onP;simp only[bK,aN,aB];repeat' split
 all_goals first
  |(rw[uZ (by omega)];done)
  |(exfalso;omega)
  |(congr 2;unfold av;rw[uF];simp;omega)
  |(congr 2;unfold ieq;rw[uF];simp;omega)
theorem Uu:bf fE kS1:=by
 unfold kS1;refine bf.cons (fun args r h=>?_) CX;all_goals (revert h;intro h;first|unfold kOnS at h)
 all_goals (split at h;rotate_left; · cases h)
 all_goals (simp only[aR,bM] at h;obtain⟨a,rfl⟩:=h)
 ·exact kOnS_ok _ _ _ rfl
theorem pft_tree (k w d m y:Int) (c:jq y=false):sel (onP k w d) (sel (av 1 m) (sel (av m 12) (some (V.bool (av d (gM y m)))) (some (V.bool false))) (some (V.bool false))) (some (V.bool false))=some (.bool (E8 k w d m)):=by
 have e:gM y m=gM 1 m:=by unfold gM;rw[c];rfl
 rw[e];unfold E8
 cases f:onP k w d with
 |false=>rfl
 |true=>
  by_cases a:1≤m
  ·by_cases b:m≤12
   ·rw[ax rfl,ax (bg a),ax (bg b)]
    congr 2
    rw[JH,uF,aB,lG];exact⟨fun h=>⟨a,b,h⟩,fun h=>h.2.2⟩
   rw[ax rfl,ax (bg a),aK (mr (by omega))];congr 2
   rw[JH,eq_comm,ab4];omega
  rw[ax rfl,aK (mr (by omega))];congr 2
  rw[JH,eq_comm,ab4];omega
theorem Ow (k w d m:Int) (a:true=true):aj fE 50 [.agg [.int .i64 k,.int .i64 w,.int .i64 d],.int .i64 m] (.bool (E8 k w d m)):=by
 refine au gL Uu 5 2 ?_
 (rw[kFt_top];(conv=>zeta))
 exact pft_tree k w d m 1 (by decide)
theorem kS2_ok:bf fE kS2:=by
 unfold kS2;refine bf.cons (fun args r h=>?_) Uu;all_goals (revert h;intro h;first|unfold YZ at h)
 all_goals (split at h;rotate_left; · cases h)
 all_goals (simp only[aR,bM] at h;obtain⟨a,rfl⟩:=h)
 ·exact Ow _ _ _ _ rfl
theorem on_k {k w d:Int} (h:onP k w d=true):(k=1∧d=0∧0≤w∧w≤6)∨(k=0∧w=0∧1≤d∧d≤31)∨((k=2∨k=3)∧0≤w∧w≤6∧1≤d∧d≤31):=by
 unfold onP at h;split at h
 ·rw[lG] at h;omega
 split at h
 ·rw[lG] at h;omega
 rw[lG] at h;omega
theorem ft_k {k w d m:Int} (h:E8 k w d m=true):((k=1∧d=0∧0≤w∧w≤6)∨(k=0∧w=0∧1≤d∧d≤31)∨((k=2∨k=3)∧0≤w∧w≤6∧1≤d∧d≤31))∧1≤m∧m≤12∧d≤gM 1 m:=by unfold E8 at h;rw[bC,lG] at h;exact⟨on_k h.1,h.2⟩
theorem yr_p (f t:Int):(ieq (CF f t) 0&&ieq (YA f) 0)=yrP f t:=by
 rw[uF,bC,aN,aN];unfold yrP;rw[bC,bC,aB,aB,aB];unfold CF YA iC fe;constructor
 ·rintro⟨d,e⟩
  by_cases a: -32767≤f∧f≤32767
  ·by_cases b: -32767≤t∧t≤32767
   ·rw[if_pos b] at d
    by_cases c:t<f
    ·rw[if_pos c] at d;cases d
    omega
   rw[if_neg b] at d;cases d
  rw[if_neg a] at e;cases e
 rintro⟨d,e,g⟩;rw[if_pos (show -32767≤t∧t≤32767 by omega),if_pos (show -32767≤f∧f≤32767 by omega),if_neg (show¬t<f by omega)];constructor
 ·(repeat' split)<;>rfl
 (repeat' split)<;>rfl
theorem kRrS_ok (n:af) (f t m k w d c b v:Int) (l:af) (a:av (aA l) 900=true):aj fE 26 [.agg [.str n,.int .i64 f,.int .i64 t,.int .i64 m,.int .i64 k,.int .i64 w,.int .i64 d,.int .i64 c,.int .i64 b,.int .i64 v,.str l]] (.bool (ruP n f t m k w d c b v l)):=by
 refine au gL kS2_ok 5 2 ?_
 (rw[kRr_top];(conv=>zeta);rw[ax (p_len (by have:=len_p9 a;omega))])
 unfold ruP;rw[←yr_p]
 cases ieq (CF f t) 0<;>cases ieq (YA f) 0<;>cases ieq (JV l) 0<;>cases ieq (dG n) 0<;>cases E8 k w d m<;>cases dJ c b<;>cases av (-10800) v<;>cases av v 10800<;>rfl
theorem cum_in (m:Int) (a:1≤m) (b:m≤12):0≤zh 2001 m∧zh 2001 m≤334:=by unfold zh;rw[if_neg (show¬jq 2001=true by decide)];split<;>omega
theorem wl_in {k w d m:Int} (h:E8 k w d m=true): -5≤wlP k w d m∧wlP k w d m≤31∧-5≤whP k w d m∧whP k w d m≤37:=by
 have a:=ft_k h;have c:=oG 1 m (by omega) (by omega);have b:=oG 4 m (by omega) (by omega);unfold wlP whP;rw[if_pos h,if_pos h];repeat' split
 all_goals omega
theorem of_in {m k w d c:Int} (h:E8 k w d m=true) (f:0≤c∧c≤172800): -600000≤bY m k w d c∧bY m k w d c≤40000000∧-600000≤ofH m k w d c∧ofH m k w d c≤40000000:=by have e:=wl_in h;have a:=ft_k h;have b:=cum_in m (by omega) (by omega);unfold bY ofH;omega
theorem ru_ft {n:af} {f t m k w d c b v:Int} {l:af} (h:ruP n f t m k w d c b v l=true):E8 k w d m=true∧(0≤c∧c≤172800)∧-32767≤f∧f≤t∧t≤32767∧(-10800≤v∧v≤10800):=by unfold ruP yrP dJ at h;simp only[bC,aB,lG] at h;obtain⟨_,a,g,e,i,_⟩:=h;exact⟨g,⟨e.1,e.2.1⟩,a.1,a.2.1,a.2.2,i⟩
end Nt.Ev.YtknhlobahpgkeaaGreatDoor.Rl
namespace Nt.Ev.YtknhlobahpgkeaaGreatDoor.Oc
open Go Nt.Num Go.Proofs.YtknhlobahpgkeaaGreatDoor
variable [kM]
open Nt.Ev.YtknhlobahpgkeaaGreatDoor
open Nt.Civil
open Nt.Ev.YtknhlobahpgkeaaGreatDoor.Rl
def cdI (y m d:Int):Int:=(AR y m d).1
def cdE (y m d:Int):Int:=(AR y m d).2
noncomputable def oDivS:aC:=fun a=>match a with|[.int .i64 a,.int .i64 b]=>some (ak (ak (av (-9223372036854775808) a) (av a 9223372036854775807)) (ak (aW 0 b) (av b 1000000)),.tup [.int .i64 (fq a b),.int .i64 (fr a b),.int .i64 0])|_=>none
noncomputable def oDaysS:aC:=fun a=>match a with|[.agg [.int .i64 y,.int .i64 m,.int .i64 d]]=>some (true,.tup [.int .i64 (cdI y m d),.int .i64 (cdE y m d)])|_=>none
noncomputable def oS0:List (Nat×aC):=(187,oDivS)::(146,oDaysS)::(79,WE)::(50,YZ)::(26,kRrS)::[]
def wkI (n:Int):Int:=(n%7+4)%7
noncomputable def oWdS:aC:=fun a=>match a with|[.int .i64 n]=>some (ak (av (-9223372036854775808) n) (av n 9223372036854775807),.int .i64 (wkI n))|_=>none
def clI (n a b:Int):Int:=if n<a then a else if b<n then b else n
noncomputable def oClS:aC:=fun a=>match a with|[.int .i64 n,.int .i64 a,.int .i64 b]=>some (av a b,.int .i64 (clI n a b))|_=>none
def cm1 (a b:Int):Int:=if a<b then -1 else if b<a then 1 else 0
noncomputable def oCmS:aC:=fun a=>match a with|[.int .i64 a,.int .i64 b]=>some (true,.int .i64 (cm1 a b))|_=>none
def JW (a b:Int):Int:=if a=0 then b else a
noncomputable def oOrS:aC:=fun a=>match a with|[.sl e [.int .i64] o [.int .i64 a,.int .i64 b]]=>some (true,.int .i64 (JW a b))|_=>none
noncomputable def oS1:List (Nat×aC):=(168,oWdS)::(190,oClS)::(194,oCmS)::(193,oCmS)::(192,oOrS)::oS0
def V4 (n w:Int):Int:=(wkI n-w+7)%7
noncomputable def oBkS:aC:=fun a=>match a with|[.int .i64 n,.int .i64 w]=>some (ak (ak (av (-100000000) n) (av n 100000000)) (ak (av 0 w) (av w 6)),.int .i64 (V4 n w))|_=>none
noncomputable def oS2:List (Nat×aC):=(147,oBkS)::oS1
def oyI (k w d y m:Int):Int:=if E8 k w d m=true∧-39999≤y∧y≤39999 then(if k=1 then fK y m 1+gM y m-1-V4 (fK y m 1+gM y m-1) w else if k=2 then fK y m 1+d+5-V4 (fK y m 1+d+5) w else if k=3 then fK y m 1+d-1-V4 (fK y m 1+d-1) w else fK y m 1+d-1) else 0
def oyE (k w d y m:Int):Int:=if E8 k w d m=true then(if -39999≤y∧y≤39999 then 0 else 1) else 4
noncomputable def oDyS:aC:=fun a=>match a with|[.agg [.int .i64 k,.int .i64 w,.int .i64 d],.int .i64 y,.int .i64 m]=>some (true,.tup [.int .i64 (oyI k w d y m),.int .i64 (oyE k w d y m)])|_=>none
def JO (j:Nat) (t:Int):Int:=(Nt.Ev.YtknhlobahpgkeaaGreatDoor.vo t).1.getD j 0
def soE (t:Int):Int:=(Nt.Ev.YtknhlobahpgkeaaGreatDoor.vo t).2
noncomputable def oSoS:aC:=fun a=>match a with|[.int .i64 t]=>some (ak (av (-9223372036854775808) t) (av t 9223372036854775807),.tup [.agg [.int .i64 (JO 0 t),.int .i64 (JO 1 t),.int .i64 (JO 2 t),.int .i64 (JO 3 t),.int .i64 (JO 4 t),.int .i64 (JO 5 t)],.int .i64 (soE t)])|_=>none
noncomputable def oS3:List (Nat×aC):=(108,oDyS)::(189,oSoS)::oS2
def vN (t:Int):Int:=if soE (clI t (-1099511627776) 1099511627776)=0 then JO 0 (clI t (-1099511627776) 1099511627776) else if t<0 then -65534 else 65534
def lsB (r n b a:Int):Bool:=decide (n<a∨n=a∧r<b)
def oW (m k w d c y:Int):Int:=oyI k w d y m*86400+c
noncomputable def oNearS:aC:=fun a=>match a with|[.int .i64 t]=>some (true,.int .i64 (vN t))|_=>none
noncomputable def oLessS:aC:=fun a=>match a with|[.agg [.int .i64 r,.int .i64 y,.int .i64 n],.agg [.int .i64 r2,.int .i64 y2,.int .i64 n2]]=>some (true,.bool (lsB r n r2 n2))|_=>none
noncomputable def oNmS:aC:=fun a=>match a with|[.agg [.str n,.int .i64 f,.int .i64 t,.int .i64 m,.int .i64 k,.int .i64 w,.int .i64 d,.int .i64 c,.int .i64 b,.int .i64 v,.str l],.int .i64 y]=>some (ak (av 0 c) (av c 172800),.int .i64 (oW m k w d c y))|_=>none
noncomputable def oS4:List (Nat×aC):=(169,oNearS)::(172,oLessS)::(191,oNmS)::oS3
def dnY (P:Int→Bool):Nat→Int→Option Int
 |0,_=>none
 |n+1,y=>if P y=true then some y else dnY P n (y-1)
def pvO (f t m k w d c p q x z:Int):Option Int:=dnY (fun y=>lsB p (oW m k w d c y) x z) ((if t<q+2 then t else q+2)-f+1).toNat (if t<q+2 then t else q+2)
def pvB (f t m k w d c p q x z:Int):Bool:=(pvO f t m k w d c p q x z).isSome
def qvR (f t m k w d c p q x z:Int):Int:=if pvB f t m k w d c p q x z=true then p else 0
def qvY (f t m k w d c p q x z:Int):Int:=(pvO f t m k w d c p q x z).getD 0
def qvN (f t m k w d c p q x z:Int):Int:=if pvB f t m k w d c p q x z=true then oW m k w d c (qvY f t m k w d c p q x z) else 0
noncomputable def oPvS:aC:=fun a=>match a with|[.agg [.str n,.int .i64 f,.int .i64 t,.int .i64 m,.int .i64 k,.int .i64 w,.int .i64 d,.int .i64 c,.int .i64 b,.int .i64 v,.str l],.int .i64 p,.int .i64 q,.fn fb [.box bb bo],.bxa hh [.int .i64 x,.int .i64 y,.int .i64 z]]=>some (ak (fb==171&&(bb==1000000004&&(bo==0&&hh==1000000000000))) (ak (ruP n f t m k w d c b v l) (ak (av (-70000) q) (av q 70000))),.out false (.tup [.agg [.int .i64 (qvR f t m k w d c p q x z),.int .i64 (qvY f t m k w d c p q x z),.int .i64 (qvN f t m k w d c p q x z)],.bool (pvB f t m k w d c p q x z)]) [[.int .i64 x,.int .i64 y,.int .i64 z]])|_=>none
noncomputable def oS5:List (Nat×aC):=(GX+170,oPvS)::oS4
theorem oWd_top (F n) (K:V→Option V):
 bA fE (bu fE oS0 F 2) F 168 [V.int .i64 n] K=
 sel (ak (ak (av (-9223372036854775808) n) (av n 9223372036854775807)) (ak (aW 0 7) (av 7 1000000))) (K (V.int .i64 (tH (bJ .i64 (fr n 7) 4) 7))) none:=by kernel_rfl
theorem VP (F n a b) (K:V→Option V):
 bA fE (bu fE oS0 F 2) F 190 [V.int .i64 n,V.int .i64 a,V.int .i64 b] K=
 sel (aW n a) (K (V.int .i64 a)) (sel (aW b n) (K (V.int .i64 b)) (K (V.int .i64 n))):=by kernel_rfl
theorem oCmp_top (F a b) (K:V→Option V):
 bA fE (bu fE oS0 F 3) F 194 [V.int .i64 a,V.int .i64 b] K=
 let A:=K (V.int .i64 (-1));let B:=K (V.int .i64 0);let C:=K (V.int .i64 1);sel (aL (ieq a a)) (sel (aL (ieq b b)) B A) (sel (aL (ieq b b)) C (sel (aW a b) A (sel (aW b a) C B))):=by kernel_rfl
theorem VQ (F a b) (K:V→Option V):
 bA fE (bu fE oS0 F 3) F 193 [V.int .i64 a,V.int .i64 b] K=
 let A:=K (V.int .i64 (-1));let B:=K (V.int .i64 0);let C:=K (V.int .i64 1);sel (aL (ieq a a)) (sel (aL (ieq b b)) B A) (sel (aL (ieq b b)) C (sel (aW a b) A (sel (aW b a) C B))):=by kernel_rfl
theorem VR (a b) (K:V→Option V):
 bA fE (bu fE oS0 4 3) 4 192 [V.sl 3 [Kd.int .i64] none [V.int .i64 a,V.int .i64 b]] K=
 sel (aL (ieq a 0)) (K (V.int .i64 a)) (sel (aL (ieq b 0)) (K (V.int .i64 b)) (K (V.int .i64 0))):=by kernel_rfl
theorem oBk_top (F n w) (K:V→Option V):
 bA fE (bu fE oS1 F 2) F 147 [V.int .i64 n,V.int .i64 w] K=
 sel (ak (av (-9223372036854775808) n) (av n 9223372036854775807)) (K (V.int .i64 (tH (bJ .i64 (dw .i64 (wkI n) w) 7) 7))) none:=by kernel_rfl
theorem oDy_top (F k w d y m) (K:V→Option V):
 bA fE (bu fE oS2 F 2) F 108 [V.agg [V.int .i64 k,V.int .i64 w,V.int .i64 d],V.int .i64 y,V.int .i64 m] K=
 let A:=dw .i64 (bJ .i64 (cdI y m 1) d) 1;let B:=dw .i64 (bJ .i64 (cdI y m 1) (gM y m)) 1;let C:=V.int .i64 (cdE y m 1);let E:=ak (av 0 w) (av w 6);let G:=K (V.tup [V.int .i64 0,V.int .i64 1]);let D:=dw .i64 (bJ .i64 A 7) 1;sel (aL (E8 k w d m)) (K (V.tup [V.int .i64 0,V.int .i64 4])) (sel (av (-39999) y) (sel (aL (av y 39999)) G (sel (ak (av (-9223372036854775808) y) (av y 9223372036854775807)) (sel (ieq k 1) (sel (ak (ak (av (-100000000) B) (av B 100000000)) E) (K (V.tup [V.int .i64 (dw .i64 B (V4 B w)),C])) none) (sel (ieq k 2) (sel (ak (ak (av (-100000000) D) (av D 100000000)) E) (K (V.tup [V.int .i64 (bJ .i64 A (dw .i64 6 (V4 D w))),C])) none) (sel (ieq k 3) (sel (ak (ak (av (-100000000) A) (av A 100000000)) E) (K (V.tup [V.int .i64 (dw .i64 A (V4 A w)),C])) none) (K (V.tup [V.int .i64 A,C]))))) none)) G):=by kernel_rfl
theorem aes (F t) (K:V→Option V):
 bA fE (bu fE oS3 F 2) F 169 [V.int .i64 t] K=
 let A:=clI t (-1099511627776) 1099511627776;sel (ak (av (-9223372036854775808) A) (av A 9223372036854775807)) (sel (ieq (soE A) 0) (K (V.int .i64 (JO 0 A))) (sel (aW t 0) (K (V.int .i64 (-65534))) (K (V.int .i64 65534)))) none:=by kernel_rfl
theorem aet (F r y n a c b) (K:V→Option V):
 bA fE (bu fE oS3 F 2) F 172 [V.agg [V.int .i64 r,V.int .i64 y,V.int .i64 n],V.agg [V.int .i64 a,V.int .i64 c,V.int .i64 b]] K=
 K (V.bool (aW (JW (cm1 n b) (cm1 r a)) 0)):=by kernel_rfl
theorem oNm_top (F n f t m k w d c b v l y) (K:V→Option V):
 bA fE (bu fE oS3 F 2) F 191 [V.agg [V.str n,V.int .i64 f,V.int .i64 t,V.int .i64 m,V.int .i64 k,V.int .i64 w,V.int .i64 d,V.int .i64 c,V.int .i64 b,V.int .i64 v,V.str l],V.int .i64 y] K=
 K (V.int .i64 (bJ .i64 (mF .i64 (oyI k w d y m) 86400) c)):=by kernel_rfl
noncomputable def Nv:=fun F E n r u g j y z w i l v d I H G D x C k o f m h s q A B p t e b a c K=>(qK fE oS4 F 3 170 [V.nilsl,V.nilsl,V.nilsl,V.nilsl,V.bxa 0 []] [1,0,1,0] E K n (kD 34 [(0,V.agg [V.str r,V.int .i64 u,V.int .i64 g,V.int .i64 j,V.int .i64 y,V.int .i64 z,V.int .i64 w,V.int .i64 i,V.int .i64 l,V.int .i64 v,V.str d]),(1,V.int .i64 I),(2,V.int .i64 H),(3,V.fn 171 [V.box 1000000004 0]),(4,V.box 4 0),(8,V.box 8 0),(9,V.bool G),(10,V.int .i64 D)] [(8,[V.int .i64 x,V.int .i64 C,V.int .i64 k]),(4,[V.str o,V.int .i64 f,V.int .i64 m,V.int .i64 h,V.int .i64 s,V.int .i64 q,V.int .i64 A,V.int .i64 B,V.int .i64 p,V.int .i64 t,V.str e]),(1000000004,[V.int .i64 b,V.int .i64 a,V.int .i64 c])]):Option V)
theorem oPv_top (F n f t m k w d c b v l p q x y z) (K:V→Option V):
 bA fE (bu fE oS4 F 3) F 170 [V.agg [V.str n,V.int .i64 f,V.int .i64 t,V.int .i64 m,V.int .i64 k,V.int .i64 w,V.int .i64 d,V.int .i64 c,V.int .i64 b,V.int .i64 v,V.str l],V.int .i64 p,V.int .i64 q,V.fn 171 [V.box 1000000004 0],V.bxa 1000000000000 [V.int .i64 x,V.int .i64 y,V.int .i64 z]] K=
 Nv F [] F n f t m k w d c b v l p q false (YG t (bJ .i64 q 2)) 0 0 0 n f t m k w d c b v l x y z K:=by kernel_rfl
theorem ER (F n v x m p E G z o r y j I L J i D H q t e s f h g k d u w l a c b K):
 Nv F [] (n+1) v x m p E G z o r y j I L J i D H q t e s f h g k d u w l a c b K=
 let A:=[[V.int .i64 a,V.int .i64 c,V.int .i64 b]];let B:=oW f h g k d i;let C:=V.int .i64 0;sel (av e i) (sel (ak (av 0 d) (av d 172800)) (sel (lsB I B a b) (K (V.out false (V.tup [V.agg [V.int .i64 I,V.int .i64 i,V.int .i64 B],V.bool true]) A)) (Nv F [] n v x m p E G z o r y j I L J (dw .i64 i 1) D H q t e s f h g k d u w l a c b K)) none) (K (V.out false (V.tup [V.agg [C,C,C],V.bool false]) A)):=by kernel_rfl
noncomputable def pV:=fun F o n m r i b h p q k l j g e a f c d K=>(gH fE oS5 F 3 148 [1,1,0,1,0] o K n (kD 54 [(0,V.sl 50 [Kd.str,Kd.int .i64,Kd.int .i64,Kd.int .i64,Kd.int .i64,Kd.int .i64,Kd.int .i64,Kd.int .i64,Kd.int .i64,Kd.int .i64,Kd.str] none m),(1,V.str r),(2,V.agg [V.int .i64 i,V.int .i64 b,V.int .i64 h]),(5,V.box 5 0),(6,V.box 6 0),(7,V.bool p),(8,V.int .i64 q),(16,V.sl 50 [Kd.str,Kd.int .i64,Kd.int .i64,Kd.int .i64,Kd.int .i64,Kd.int .i64,Kd.int .i64,Kd.int .i64,Kd.int .i64,Kd.int .i64,Kd.str] none k),(17,V.int .i64 l),(18,V.int .i64 j)] [(6,[V.int .i64 g,V.int .i64 e,V.int .i64 a]),(5,[V.int .i64 f,V.int .i64 c,V.int .i64 d])]):Option V)
theorem aeu (F xs s x y z) (K:V→Option V):
 bA fE (bu fE oS5 F 3) F 148 [V.sl 50 [Kd.str,Kd.int .i64,Kd.int .i64,Kd.int .i64,Kd.int .i64,Kd.int .i64,Kd.int .i64,Kd.int .i64,Kd.int .i64,Kd.int .i64,Kd.str] none xs,V.str s,V.agg [V.int .i64 x,V.int .i64 y,V.int .i64 z]] K=
 pV F [] F xs s x y z false (vN z) xs (ay xs) 0 0 0 0 x y z K:=by kernel_rfl
theorem yR (F n q p k f j o m i l c e h d a g b K):
 pV F [] (n+1) q p k f j o m i l c e h d a g b K=
 let A:=aG i c;let R:=bJ .i64 c 1;let C:=pV F [] n q p k f j o m i l R e h d a g b K;let H:=asInt (ai A 1);let I:=asInt (ai A 2);let J:=asInt (ai A 3);let L:=asInt (ai A 4);let M:=asInt (ai A 5);let N:=asInt (ai A 6);let O:=asInt (ai A 7);let P:=aH (ai A 10);let Q:=aH (ai A 0);let D:=ruP Q H I J L M N O (asInt (ai A 8)) (asInt (ai A 9)) P;let E:=qvR H I J L M N O c m a b;let G:=qvN H I J L M N O c m a b;let B:=pV F [] n q p k f j true m i l R E (qvY H I J L M N O c m a b) G a g b K;sel (aW c l) (sel (ak (av 0 c) (aW c (ay i))) (sel (aL (seq Q p)) C (sel (av (aA P) 900) (sel (aL D) C (sel (ak true (ak D (ak (av (-70000) m) (av m 70000)))) (sel (pvB H I J L M N O c m a b) (sel (aL o) B (sel (lsB e d E G) B C)) C) none)) none)) none) (K (V.tup [V.agg [V.int .i64 e,V.int .i64 h,V.int .i64 d],V.bool o])):=by kernel_rfl
open Go.RowKit Nt
theorem oDivS_ok (a b:Int) (c:ak (ak (av (-9223372036854775808) a) (av a 9223372036854775807)) (ak (aW 0 b) (av b 1000000))=true):aj fE 187 [.int .i64 a,.int .i64 b] (.tup [.int .i64 (fq a b),.int .i64 (fr a b),.int .i64 0]):=Y0 (Og a b c)
theorem aev (y m d:Int) (a:true=true):aj fE 146 [.agg [.int .i64 y,.int .i64 m,.int .i64 d]] (.tup [.int .i64 (cdI y m d),.int .i64 (cdE y m d)]):=Y0 (QZ y m d)
theorem CZ:bf fE oS0:=by
 unfold oS0;refine bf.cons (fun args r h=>?_) (bf.cons (fun args r h=>?_) (bf.cons (fun args r h=>?_) (bf.cons (fun args r h=>?_) (bf.cons (fun args r h=>?_) bf.nil))));all_goals (revert h;intro h;first|unfold oDivS at h|unfold oDaysS at h|unfold WE at h|unfold YZ at h|unfold kRrS at h)
 all_goals (split at h;rotate_left; · cases h)
 all_goals (simp only[aR,bM] at h;obtain⟨a,rfl⟩:=h)
 ·exact oDivS_ok _ _ a
 ·exact aev _ _ _ rfl
 ·exact Rq _ _ a
 ·exact Ow _ _ _ _ rfl
 exact kRrS_ok _ _ _ _ _ _ _ _ _ _ _ a
theorem oWdS_ok (n:Int) (a:ak (av (-9223372036854775808) n) (av n 9223372036854775807)=true):aj fE 168 [.int .i64 n] (.int .i64 (wkI n)):=by refine au gL CZ 5 2 ?_;have e:fr n 7=n%7:=rfl;rw[oWd_top,a,ax (by rfl),e,cZ (by omega),nN (by omega)];rfl
theorem oClS_ok (n a b:Int) (c:av a b=true):aj fE 190 [.int .i64 n,.int .i64 a,.int .i64 b] (.int .i64 (clI n a b)):=by
 refine au gL CZ 5 2 ?_;rw[VP];unfold clI;simp only[bK,bq];repeat' split
 all_goals rfl
theorem Yb (a b:Int):sel (aL (ieq a a))
  (sel (aL (ieq b b))
   (some (V.int .i64 0))
   (some (V.int .i64 (-1))))
  (sel (aL (ieq b b))
   (some (V.int .i64 1))
   (sel (aW a b)
    (some (V.int .i64 (-1)))
    (sel (aW b a)
     (some (V.int .i64 1))
     (some (V.int .i64 0)))))=some (.int .i64 (cm1 a b)):=by
 have c:ieq a a=true:=bn rfl;have d:ieq b b=true:=bn rfl;rw[c,d,aK (show aL true=false from rfl),aK (show aL true=false from rfl)];unfold cm1;simp only[bK,bq];repeat' split
 all_goals rfl
theorem oCmS_ok (a b:Int) (c:true=true):aj fE 194 [.int .i64 a,.int .i64 b] (.int .i64 (cm1 a b)):=by
 refine au gL CZ 5 3 ?_
 (rw[oCmp_top];(conv=>zeta))
 exact Yb a b
theorem qg (a b:Int) (c:true=true):aj fE 193 [.int .i64 a,.int .i64 b] (.int .i64 (cm1 a b)):=by
 refine au gL CZ 5 3 ?_
 (rw[VQ];(conv=>zeta))
 exact Yb a b
theorem or_ev (a b:Int):aj fE 192 [.sl 3 [.int .i64] none [.int .i64 a,.int .i64 b]] (.int .i64 (JW a b)):=by
 refine au gL CZ 4 3 ?_;rw[VR];unfold JW;simp only[bK,bW,aN];repeat' split
 all_goals first|rfl|(exfalso;omega)|(congr 2;omega)
theorem oOrS_ok (e:Nat) (o:Option Nat) (a b:Int) (h:true=true):aj fE 192 [.sl e [.int .i64] o [.int .i64 a,.int .i64 b]] (.int .i64 (JW a b)):=by intro G w vs g f d;refine or_ev a b G w vs g f ?_;obtain⟨x,rfl,c⟩:=CR d;refine .cons ?_ .nil;unfold aV at c⊢;exact c
theorem oS1_ok:bf fE oS1:=by
 unfold oS1;refine bf.cons (fun args r h=>?_) (bf.cons (fun args r h=>?_) (bf.cons (fun args r h=>?_) (bf.cons (fun args r h=>?_) (bf.cons (fun args r h=>?_) CZ))));all_goals (revert h;intro h;first|unfold oWdS at h|unfold oClS at h|unfold oCmS at h|unfold oOrS at h)
 all_goals (split at h;rotate_left; · cases h)
 all_goals (simp only[aR,bM] at h;obtain⟨a,rfl⟩:=h)
 ·exact oWdS_ok _ a
 ·exact oClS_ok _ _ _ a
 ·exact oCmS_ok _ _ rfl
 ·exact qg _ _ rfl
 exact oOrS_ok _ _ _ _ rfl
theorem wk_in (n:Int):0≤wkI n∧wkI n≤6:=by unfold wkI;omega
theorem oBkS_ok (n w:Int) (a:ak (ak (av (-100000000) n) (av n 100000000)) (ak (av 0 w) (av w 6))=true):aj fE 147 [.int .i64 n,.int .i64 w] (.int .i64 (V4 n w)):=by rw[aM,aM,aM,aB,aB,aB,aB] at a;obtain⟨⟨e,c⟩,f,d⟩:=a;refine au gL oS1_ok 5 2 ?_;have b:=wk_in n;rw[oBk_top,ax (Uz ⟨by omega,by omega⟩)];unfold V4;rw[dO (by omega),cZ (by omega),nN (by omega)]
theorem oS2_ok:bf fE oS2:=by
 unfold oS2;refine bf.cons (fun args r h=>?_) oS1_ok;all_goals (revert h;intro h;first|unfold oBkS at h)
 all_goals (split at h;rotate_left; · cases h)
 all_goals (simp only[aR,bM] at h;obtain⟨a,rfl⟩:=h)
 ·exact oBkS_ok _ _ a
theorem AX (n w:Int):0≤V4 n w∧V4 n w≤6:=by unfold V4;omega
theorem bk_c {n w:Int} (a: -100000000≤n∧n≤100000000) (b:0≤w∧w≤6):ak (ak (av (-100000000) n) (av n 100000000)) (ak (av 0 w) (av w 6))=true:=by rw[aM,aM,aM,aB,aB,aB,aB];exact⟨a,b⟩
theorem Rs {y m:Int} (c: -39999≤y∧y≤39999) (a:1≤m∧m≤12): -20000000≤fK y m 1∧fK y m 1≤20000000:=by
 have b:=oG y m a.1 a.2;have f:=DJ (y:=y) (m:=m) (d:=1) ⟨by omega,by omega⟩;have e: -19000000≤iJ y∧iJ y≤19000000:=by unfold iJ CW;omega
 have g:(if jq y=true then(1:Int) else 0)≤1:=by split<;>omega
 unfold fK;omega
theorem Yc (k w d y m:Int) (s:true=true):aj fE 108 [.agg [.int .i64 k,.int .i64 w,.int .i64 d],.int .i64 y,.int .i64 m] (.tup [.int .i64 (oyI k w d y m),.int .i64 (oyE k w d y m)]):=by
 refine au gL oS2_ok 5 2 ?_
 (rw[oDy_top];(conv=>zeta))
 unfold oyI oyE
 cases h:E8 k w d m with
 |false=>rfl
 |true=>
  rw[aK (show aL true=false from rfl),if_pos (show true=true from rfl)];by_cases c: -39999≤y
  ·by_cases e:y≤39999
   ·rw[ax (bg c),bg e,aK (show aL true=false from rfl),ax (Uz ⟨by omega,by omega⟩),if_pos (show -39999≤y∧y≤39999 from⟨c,e⟩),if_pos (show true=true∧-39999≤y∧y≤39999 from⟨rfl,c,e⟩)]
    have r:=ft_k h;have p:=oG y m (by omega) (by omega);have q:=Rs (y:=y) (m:=m) ⟨c,e⟩ (by omega);have l:gV y m 1=true:=zW.2 ⟨by omega,by omega,by unfold valid;omega⟩;have n:cdI y m 1=fK y m 1:=by unfold cdI AR;rw[if_pos l]
    have o:cdE y m 1=0:=by unfold cdE AR;rw[if_pos l]
    rw[n,o];generalize fK y m 1=D at*;generalize gM y m=L at*;by_cases f:k=1
    ·have j:=AX (D+L-1) w
     rw[ax (bn f),if_pos f,cZ (a:=D) (by omega),dO (a:=D+L) (by omega),ax (bk_c (by omega) (by omega)),dO (by omega)]
    rw[aK (bD f),if_neg f,cZ (a:=D) (b:=d) (by omega),dO (a:=D+d) (by omega)];by_cases g:k=2
    ·have j:=AX (D+d+5) w
     rw[ax (bn g),if_pos g,cZ (a:=D+d-1) (b:=7) (by omega),dO (a:=D+d-1+7) (by omega),show D+d-1+7-1=D+d+5 by omega,ax (bk_c (by omega) (by omega)),dO (a:=6) (by omega),cZ (by omega),show D+d-1+(6-V4 (D+d+5) w)=D+d+5-V4 (D+d+5) w by omega]
    rw[aK (bD g),if_neg g];by_cases i:k=3
    ·have j:=AX (D+d-1) w
     rw[ax (bn i),if_pos i,ax (bk_c (by omega) (by omega)),dO (by omega)]
    rw[aK (bD i),if_neg i]
   rw[ax (bg c),mr (by omega),ax (show aL false=true from rfl),if_neg (show¬(-39999≤y∧y≤39999) by omega),if_neg (show¬(true=true∧-39999≤y∧y≤39999) by omega)]
  rw[aK (mr (by omega)),if_neg (show¬(-39999≤y∧y≤39999) by omega),if_neg (show¬(true=true∧-39999≤y∧y≤39999) by omega)]
theorem oSoS_ok (t:Int) (a:ak (av (-9223372036854775808) t) (av t 9223372036854775807)=true):aj fE 189 [.int .i64 t] (.tup [.agg [.int .i64 (JO 0 t),.int .i64 (JO 1 t),.int .i64 (JO 2 t),.int .i64 (JO 3 t),.int .i64 (JO 4 t),.int .i64 (JO 5 t)],.int .i64 (soE t)]):=by
 have h:=Y0 (stOf_ev t (fits_p a));have e:resO (Nt.Ev.YtknhlobahpgkeaaGreatDoor.vo t)=.tup [.agg [.int .i64 (JO 0 t),.int .i64 (JO 1 t),.int .i64 (JO 2 t),.int .i64 (JO 3 t),.int .i64 (JO 4 t),.int .i64 (JO 5 t)],.int .i64 (soE t)]:=by unfold resO JO soE Nt.Ev.YtknhlobahpgkeaaGreatDoor.vo;split<;>rfl
 rw[←e];exact h
theorem Nw:bf fE oS3:=by
 unfold oS3;refine bf.cons (fun args r h=>?_) (bf.cons (fun args r h=>?_) oS2_ok);all_goals (revert h;intro h;first|unfold oDyS at h|unfold oSoS at h)
 all_goals (split at h;rotate_left; · cases h)
 all_goals (simp only[aR,bM] at h;obtain⟨a,rfl⟩:=h)
 ·exact Yc _ _ _ _ _ rfl
 exact oSoS_ok _ a
theorem cl_in (t a b:Int) (h:a≤b):a≤clI t a b∧clI t a b≤b:=by unfold clI;repeat' split<;>omega
theorem aew (t:Int) (a:true=true):aj fE 169 [.int .i64 t] (.int .i64 (vN t)):=by
 refine au gL Nw 5 2 ?_;have h:=cl_in t (-1099511627776) 1099511627776 (by omega)
 (rw[aes];(conv=>zeta);rw[ax (Uz ⟨by omega,by omega⟩)])
 unfold vN;simp only[bK,aN,bq];repeat' split
 all_goals rfl
theorem near_in (t:Int): -70000≤vN t∧vN t≤70000:=by
 unfold vN;generalize clI t (-1099511627776) 1099511627776=u;split
 ·rename_i h
  unfold soE Nt.Ev.YtknhlobahpgkeaaGreatDoor.vo at h;unfold JO Nt.Ev.YtknhlobahpgkeaaGreatDoor.vo;split at h
  ·rename_i a
   rw[if_pos a];have:=(Js _).1 a;show -70000≤dY (u/86400)∧dY (u/86400)≤70000;omega
  cases h
 split<;>omega
theorem aex (r y n a c b:Int) (d:true=true):aj fE 172 [.agg [.int .i64 r,.int .i64 y,.int .i64 n],.agg [.int .i64 a,.int .i64 c,.int .i64 b]] (.bool (lsB r n a b)):=by
 refine au gL Nw 5 2 ?_;rw[aet];congr 2;rw[uF,bq];unfold lsB JW cm1;rw[lG];repeat' split
 all_goals omega
theorem nom_lim (m k w d y:Int): -30000000≤oyI k w d y m∧oyI k w d y m≤30000000:=by
 unfold oyI;split
 ·rename_i h
  have a:=ft_k h.1;have g:=Rs (y:=y) (m:=m) h.2 (by omega);have c:=oG y m (by omega) (by omega);have b:=AX (fK y m 1+gM y m-1) w;have e:=AX (fK y m 1+d+5) w;have f:=AX (fK y m 1+d-1) w;repeat' split
  all_goals omega
 omega
theorem oNmS_ok (n:af) (f t m k w d c b v:Int) (l:af) (y:Int) (a:ak (av 0 c) (av c 172800)=true):aj fE 191 [.agg [.str n,.int .i64 f,.int .i64 t,.int .i64 m,.int .i64 k,.int .i64 w,.int .i64 d,.int .i64 c,.int .i64 b,.int .i64 v,.str l],.int .i64 y] (.int .i64 (oW m k w d c y)):=by rw[aM,aB,aB] at a;refine au gL Nw 5 2 ?_;have:=nom_lim m k w d y;rw[oNm_top,og (by omega),cZ (by omega)];rfl
theorem oS4_ok:bf fE oS4:=by
 unfold oS4;refine bf.cons (fun args r h=>?_) (bf.cons (fun args r h=>?_) (bf.cons (fun args r h=>?_) Nw));all_goals (revert h;intro h;first|unfold oNearS at h|unfold oLessS at h|unfold oNmS at h)
 all_goals (split at h;rotate_left; · cases h)
 all_goals (simp only[aR,bM] at h;obtain⟨a,rfl⟩:=h)
 ·exact aew _ rfl
 ·exact aex _ _ _ _ _ _ rfl
 exact oNmS_ok _ _ _ _ _ _ _ _ _ _ _ _ a
theorem dn_t {P:Int→Bool} {r:Nat} {j:Int} (h:P j=true):dnY P (r+1) j=some j:=by show(if P j=true then some j else dnY P r (j-1))=_;rw[if_pos h]
theorem dn_f {P:Int→Bool} {r:Nat} {j:Int} (h:P j=false):dnY P (r+1) j=dnY P r (j-1):=by show(if P j=true then some j else dnY P r (j-1))=_;rw[if_neg (by rw[h];simp)]
theorem pv_loop (F:Nat) (a:af) (I h B C o E s i A:Int) (H n:af) (f t m k w d c b v:Int) (l:af) (p q x y z:Int) (L:0≤c∧c≤172800) (M: -32767≤f) (K:V→Option V): ∀(r:Nat) (j:Int) (G:Nat),j≤70000→(j-f+1).toNat=r→r<G→
  Nv F [] G a I h B C o E s i A H p q false j 0 0 0 n f t m k w d c b v l x y z K=
   K (.out false (.tup [.agg [.int .i64 (if(dnY (fun y=>lsB p (oW m k w d c y) x z) r j).isSome=true then p else 0),.int .i64 ((dnY (fun y=>lsB p (oW m k w d c y) x z) r j).getD 0),.int .i64 (if(dnY (fun y=>lsB p (oW m k w d c y) x z) r j).isSome=true then oW m k w d c ((dnY (fun y=>lsB p (oW m k w d c y) x z) r j).getD 0) else 0)],.bool (dnY (fun y=>lsB p (oW m k w d c y) x z) r j).isSome]) [[.int .i64 x,.int .i64 y,.int .i64 z]]):=by
 intro r;induction r with
 |zero=>
  intro j G u g D;obtain⟨G,rfl⟩:=Am (show G≠0 by omega)
  (rw[ER];(conv=>zeta);rw[aK (mr (by omega))])
  rfl
 |succ r J=>
  intro j G u g D;obtain⟨G,rfl⟩:=Am (show G≠0 by omega)
  (rw[ER];(conv=>zeta);rw[ax (bg (by omega)),ax (by rw[aM,aB,aB];exact L)])
  cases e:lsB p (oW m k w d c j) x z with
  |true=>rw[ax rfl,dn_t (P:=fun y=>lsB p (oW m k w d c y) x z) e];rfl
  |false=>rw[aK rfl,dO (by omega),dn_f (P:=fun y=>lsB p (oW m k w d c y) x z) e,J (j-1) G (by omega) (by omega) (by omega)]
theorem oPvS_ok (n:af) (f t m k w d c b v:Int) (l:af) (p q:Int) (i h j a:Nat) (x y z:Int) (A:ak (i==171&&(h==1000000004&&(j==0&&a==1000000000000))) (ak (ruP n f t m k w d c b v l) (ak (av (-70000) q) (av q 70000)))=true):nR fE 170 [.agg [.str n,.int .i64 f,.int .i64 t,.int .i64 m,.int .i64 k,.int .i64 w,.int .i64 d,.int .i64 c,.int .i64 b,.int .i64 v,.str l],.int .i64 p,.int .i64 q,.fn i [.box h j],.bxa a [.int .i64 x,.int .i64 y,.int .i64 z]] (.out false (.tup [.agg [.int .i64 (qvR f t m k w d c p q x z),.int .i64 (qvY f t m k w d c p q x z),.int .i64 (qvN f t m k w d c p q x z)],.bool (pvB f t m k w d c p q x z)]) [[.int .i64 x,.int .i64 y,.int .i64 z]]):=by
 obtain⟨o,u⟩:=aO A;obtain⟨r,s⟩:=aO u;rw[aM,aB,aB] at s;simp only[bC,iM] at o;obtain⟨rfl,rfl,rfl,rfl⟩:=o;have g:=ru_ft r;refine nR.out (fQ gL oS4_ok 140000 3 ?_);have e:YG t (bJ .i64 q 2)=if t<q+2 then t else q+2:=by rw[cZ (by omega)];unfold YG;split<;>omega
 rw[oPv_top,e,pv_loop 140000 n f t m k w d c b v l n f t m k w d c b v l p q x y z g.2.1 g.2.2.1 some ((if t<q+2 then t else q+2)-f+1).toNat (if t<q+2 then t else q+2) 140000 (by split<;>omega) rfl (by split<;>omega)];rfl
theorem oS5_ok:bf fE oS5:=by
 unfold oS5;refine bf.nH (fun args r h=>?_) oS4_ok;all_goals (revert h;intro h;first|unfold oPvS at h)
 all_goals (split at h;rotate_left; · cases h)
 all_goals (simp only[aR,bM] at h;obtain⟨a,rfl⟩:=h)
 ·exact oPvS_ok _ _ _ _ _ _ _ _ _ _ _ _ _ _ _ _ _ _ _ _ a
def rOk (x:V):Bool:=av (aA (aH (ai x 10))) 900
def ruV (e:V):Bool:=ruP (aH (ai e 0)) (asInt (ai e 1)) (asInt (ai e 2)) (asInt (ai e 3)) (asInt (ai e 4)) (asInt (ai e 5)) (asInt (ai e 6)) (asInt (ai e 7)) (asInt (ai e 8)) (asInt (ai e 9)) (aH (ai e 10))
def bV (e:V) (i q x z:Int):Bool:=pvB (asInt (ai e 1)) (asInt (ai e 2)) (asInt (ai e 3)) (asInt (ai e 4)) (asInt (ai e 5)) (asInt (ai e 6)) (asInt (ai e 7)) i q x z
def rV (e:V) (i q x z:Int):Int:=qvR (asInt (ai e 1)) (asInt (ai e 2)) (asInt (ai e 3)) (asInt (ai e 4)) (asInt (ai e 5)) (asInt (ai e 6)) (asInt (ai e 7)) i q x z
def yV (e:V) (i q x z:Int):Int:=qvY (asInt (ai e 1)) (asInt (ai e 2)) (asInt (ai e 3)) (asInt (ai e 4)) (asInt (ai e 5)) (asInt (ai e 6)) (asInt (ai e 7)) i q x z
def nV (e:V) (i q x z:Int):Int:=qvN (asInt (ai e 1)) (asInt (ai e 2)) (asInt (ai e 3)) (asInt (ai e 4)) (asInt (ai e 5)) (asInt (ai e 6)) (asInt (ai e 7)) i q x z
def V5 (xs:ah) (s:af) (q x z:Int):Nat→Int→Bool×Int×Int×Int→Bool×Int×Int×Int
 |0,_,a=>a
 |k+1,i,a=>
  let e:=aG xs i
  V5 xs s q x z k (i+1) (if seq (aH (ai e 0)) s=true∧ruV e=true∧bV e i q x z=true∧(a.1=false∨lsB a.2.1 a.2.2.2 (rV e i q x z) (nV e i q x z)=true) then(true,rV e i q x z,yV e i q x z,nV e i q x z) else a)
def prA (xs:ah) (s:af) (x z:Int):Bool×Int×Int×Int:=V5 xs s (vN z) x z xs.length 0 (false,0,0,0)
theorem pr_loop (F:Nat) (xs:ah) (s:af) (x y z c d f q:Int) (p: ∀e∈xs,rOk e=true) (n: -70000≤q∧q≤70000) (w:(xs.length:Int)≤4611686018427387904) (K:V→Option V): ∀(k:Nat) (i:Int) (a:Bool×Int×Int×Int) (G:Nat),0≤i→i+k=xs.length→k<G→
  pV F [] G xs s c d f a.1 q xs (ay xs) i a.2.1 a.2.2.1 a.2.2.2 x y z K=
   K (.tup [.agg [.int .i64 (V5 xs s q x z k i a).2.1,.int .i64 (V5 xs s q x z k i a).2.2.1,.int .i64 (V5 xs s q x z k i a).2.2.2],.bool (V5 xs s q x z k i a).1]):=by
 intro k;induction k with
 |zero=>
  intro i a G m o l;obtain⟨G,rfl⟩:=Am (show G≠0 by omega)
  (rw[yR];(conv=>zeta);rw[aK (bF (by rw[aD];omega))])
  rfl
 |succ k b=>
  intro i a G m o l;obtain⟨G,rfl⟩:=Am (show G≠0 by omega);have j:rOk (aG xs i)=true:=by refine p _ ?_;unfold aG;rw[mg,iZ (by omega),yT];exact Ga _
  (rw[yR];(conv=>zeta);rw[ax (bH (by rw[aD];omega)),ax (by rw[aM,aB,bq,aD];omega),cZ (by omega)])
  unfold V5;have b:=fun a=>b (i+1) a G (by omega) (by omega) (by omega)
  unfold rOk at j;show sel (aL (seq (aH (ai (aG xs i) 0)) s)) _ (sel (av (aA (aH (ai (aG xs i) 10))) 900) (sel (aL (ruV (aG xs i))) _ (sel (ak true (ak (ruV (aG xs i)) _)) (sel (bV (aG xs i) i q x z) (sel (aL a.1) (pV F [] G xs s c d f true q xs (ay xs) (i+1) (rV (aG xs i) i q x z) (yV (aG xs i) i q x z) (nV (aG xs i) i q x z) x y z K) (sel (lsB a.2.1 a.2.2.2 (rV (aG xs i) i q x z) (nV (aG xs i) i q x z)) (pV F [] G xs s c d f true q xs (ay xs) (i+1) (rV (aG xs i) i q x z) (yV (aG xs i) i q x z) (nV (aG xs i) i q x z) x y z K) _)) _) _)) _)=_;rw[ax j];have g:=b (true,rV (aG xs i) i q x z,yV (aG xs i) i q x z,nV (aG xs i) i q x z);have h:=b a;simp only at g h⊢;rw[g,h]
  cases v:seq (aH (ai (aG xs i) 0)) s with
  |false=>rw[ax (show aL false=true from rfl),if_neg (by simp)]
  |true=>
   cases r:ruV (aG xs i) with
   |false=>rw[aK (show aL true=false from rfl),ax (show aL false=true from rfl),if_neg (by simp)]
   |true=>
    rw[aK (show aL true=false from rfl),aK (show aL true=false from rfl),ax (by rw[aM,aM,aM,aB,aB];exact⟨rfl,rfl,n⟩)]
    cases u:bV (aG xs i) i q x z with
    |false=>rw[aK rfl,if_neg (by simp)]
    |true=>
     rw[ax rfl]
     cases A:a.1 with
     |false=>rw[ax (show aL false=true from rfl),if_pos (by simp)]
     |true=>
      rw[aK (show aL true=false from rfl)]
      cases t:lsB a.2.1 a.2.2.2 (rV (aG xs i) i q x z) (nV (aG xs i) i q x z) with
      |false=>rw[aK rfl,if_neg (by simp)]
      |true=>rw[ax rfl,if_pos (by simp)]
theorem prev_ev (xs:ah) (s:af) (x y z:Int) (a: ∀e∈xs,rOk e=true) (b:(xs.length:Int)≤4611686018427387904):aj fE 148 [.sl 50 [.str,.int .i64,.int .i64,.int .i64,.int .i64,.int .i64,.int .i64,.int .i64,.int .i64,.int .i64,.str] none xs,.str s,.agg [.int .i64 x,.int .i64 y,.int .i64 z]] (.tup [.agg [.int .i64 (prA xs s x z).2.1,.int .i64 (prA xs s x z).2.2.1,.int .i64 (prA xs s x z).2.2.2],.bool (prA xs s x z).1]):=by refine au gL oS5_ok (xs.length+5) 3 ?_;rw[aeu];exact pr_loop (xs.length+5) xs s x y z x y z (vN z) a (near_in z) b some xs.length 0 (false,0,0,0) (xs.length+5) (by omega) (by omega) (by omega)
theorem pr_in (xs:ah) (s:af) (q x z N:Int): ∀(k:Nat) (i:Int) (a:Bool×Int×Int×Int),0≤i→i+k≤N→(a.1=true→0≤a.2.1∧a.2.1<N)→(V5 xs s q x z k i a).1=true→0≤(V5 xs s q x z k i a).2.1∧(V5 xs s q x z k i a).2.1<N:=by
 intro k;induction k with
 |zero=>intro i a _ _ h c;exact h c
 |succ k f=>
  intro i a g j h c;unfold V5 at c⊢;refine f (i+1) _ (by omega) (by omega) ?_ c;intro e;split at e
  ·rename_i d
   rw[if_pos d];have b:bV (aG xs i) i q x z=true:=d.2.2.1;have:rV (aG xs i) i q x z=i:=by unfold rV qvR;unfold bV at b;rw[if_pos b]
   show 0≤rV (aG xs i) i q x z∧rV (aG xs i) i q x z<N;omega
  rename_i d;rw[if_neg d];exact h e
theorem prev_in (xs:ah) (s:af) (x z:Int) (h:(prA xs s x z).1=true):0≤(prA xs s x z).2.1∧(prA xs s x z).2.1<xs.length:=
 pr_in xs s (vN z) x z xs.length xs.length 0 (false,0,0,0) (by omega) (by omega) (fun h=>by cases h) h
end Nt.Ev.YtknhlobahpgkeaaGreatDoor.Oc
