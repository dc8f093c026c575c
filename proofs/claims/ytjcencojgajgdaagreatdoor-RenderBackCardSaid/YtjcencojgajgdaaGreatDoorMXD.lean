/-
  Rl: equations of functions, as the evaluator prints them. What holds for good: days, rules that are too close, what may be; both sides.
-/
import Derived.Test.YtjcencojgajgdaaGreatDoorMR
import Derived.Test.YtjcencojgajgdaaGreatDoorMJ
import Derived.Test.YtjcencojgajgdaaGreatDoorMG
import Derived.Test.YtjcencojgajgdaaGreatDoorMK
set_option linter.all false
set_option maxRecDepth 100000
namespace Nt.Ev.YtjcencojgajgdaaGreatDoor.Rl
open Go Nt.Num Go.Proofs.YtjcencojgajgdaaGreatDoor
variable [kH]
open Nt.Ev.YtjcencojgajgdaaGreatDoor
open Nt.Civil
def dO (n b:Int):Bool:=decide (0≤n∧n≤172800∧0≤b∧b≤2)
noncomputable def kN0:List (Nat×aD):=[]
abbrev dK (s:af):Int:=Nm.dK s
noncomputable def kNmS:aD:=fun a=>match a with|[.str s]=>some (true,.int .i64 (dK s))|_=>none
noncomputable def kLtS:aD:=fun a=>match a with|[.str s]=>some (ax (aB s) 1000,.tup [.str (G5 s),.int .i64 (Kr s)])|_=>none
noncomputable def kCrS:aD:=fun a=>match a with|[.agg [.int .i64 n,.int .i64 b]]=>some (true,.bool (dO n b))|_=>none
noncomputable def XM:aD:=fun a=>match a with|[.int .i64 y,.int .i64 m]=>some (ak (ax (-9223372036854775808) y) (ax y 9223372036854775807),.int .i64 (gK y m))|_=>none
noncomputable def kNbS:aD:=fun a=>match a with|[.agg [.int .i64 y,.int .i64 m,.int .i64 d]]=>some (gQ y m d,.int .i64 (fM y m d))|_=>none
noncomputable def kVaS:aD:=fun a=>match a with|[.agg [.int .i64 y,.int .i64 m,.int .i64 d]]=>some (true,.bool (gQ y m d))|_=>none
def La (n:Int):af:=(fw n).1
def ZB (n:Int):Int:=(fw n).2
def uV (m n:Int):af:=(iC m n).1
def CW (m n:Int):Int:=(iC m n).2
noncomputable def kFxS:aD:=fun a=>match a with|[.int .i64 n]=>some (true,.tup [.str (La n),.int .i64 (ZB n)])|_=>none
noncomputable def kTxS:aD:=fun a=>match a with|[.int .i64 m,.int .i64 n]=>some (true,.tup [.str (uV m n),.int .i64 (CW m n)])|_=>none
noncomputable def kS0:List (Nat×aD):=(31,kFxS)::(32,kTxS)::(42,kNmS)::(36,kLtS)::(49,kCrS)::(75,XM)::(160,kNbS)::(159,kVaS)::[]
def onP (k w d:Int):Bool:=if k=1 then decide (0≤w∧w≤6∧d=0) else if k=0 then decide (w=0∧1≤d∧d≤31) else decide ((k=2∨k=3)∧0≤w∧w≤6∧1≤d∧d≤31)
noncomputable def kOnS:aD:=fun a=>match a with|[.agg [.int .i64 k,.int .i64 w,.int .i64 d]]=>some (true,.bool (onP k w d))|_=>none
noncomputable def kS1:List (Nat×aD):=(53,kOnS)::kS0
def FI (k w d m:Int):Bool:=onP k w d&&decide (1≤m∧m≤12∧d≤gK 1 m)
noncomputable def ZY:aD:=fun a=>match a with|[.agg [.int .i64 k,.int .i64 w,.int .i64 d],.int .i64 m]=>some (true,.bool (FI k w d m))|_=>none
noncomputable def kS2:List (Nat×aD):=(48,ZY)::kS1
def wlP (k w d m:Int):Int:=if FI k w d m=true then(if k=1 then gK 1 m-6 else if k=3 then d-6 else d) else 0
def whP (k w d m:Int):Int:=if FI k w d m=true then(if k=1 then gK 4 m else if k=2 then d+6 else d) else 0
def yrP (f t:Int):Bool:=ax (-32767) f&&(ax f t&&ax t 32767)
def ruP (n:af) (f t m k w d c b v:Int) (l:af):Bool:=ieq (dK n) 0&&(yrP f t&&(FI k w d m&&(dO c b&&((ax (-10800) v&&ax v 10800)&&ieq (Kr l) 0))))
noncomputable def kRrS:aD:=fun a=>match a with|[.agg [.str n,.int .i64 f,.int .i64 t,.int .i64 m,.int .i64 k,.int .i64 w,.int .i64 d,.int .i64 c,.int .i64 b,.int .i64 v,.str l]]=>some (ax (aB l) 900,.bool (ruP n f t m k w d c b v l))|_=>none
def dm (m k w d c:Int):Int:=(zi 2001 m+wlP k w d m-1)*86400+c
def ofH (m k w d c:Int):Int:=(zi 2001 m+whP k w d m-1)*86400+c
theorem kCr_top (F n b) (K:V→Option V):
 bE fE (bC fE kN0 F 2) F 49 [V.agg [V.int .i64 n,V.int .i64 b]] K=
 let B:=K (V.bool false);let A:=sel (ax 0 n) (K (V.bool (ax n 172800))) B;sel (ieq b 0) (sel (ieq b 0) A B) (sel (ieq b 1) (sel (ieq b 1) A B) (sel (ieq b 2) A B)):=by kernel_rfl
theorem kOn_top (F k w d) (K:V→Option V):
 bE fE (bC fE kS0 F 3) F 53 [V.agg [V.int .i64 k,V.int .i64 w,V.int .i64 d]] K=
 let A:=K (V.bool false);let B:=sel (ax 1 d) (K (V.bool (ax d 31))) A;sel (ieq k 1) (sel (ax 0 w) (sel (ax w 6) (K (V.bool (ieq d 0))) A) A) (sel (ieq k 0) (sel (ax 0 k) (sel (ax k 3) (sel (ax 0 w) (sel (ax w 0) B A) A) A) A) (sel (ax 0 k) (sel (ax k 3) (sel (ax 0 w) (sel (ax w 6) B A) A) A) A)):=by kernel_rfl
theorem kFt_top (F k w d m) (K:V→Option V):
 bE fE (bC fE kS1 F 2) F 48 [V.agg [V.int .i64 k,V.int .i64 w,V.int .i64 d],V.int .i64 m] K=
 let A:=K (V.bool false);sel (onP k w d) (sel (ax 1 m) (sel (ax m 12) (K (V.bool (ax d (gK 1 m)))) A) A) A:=by kernel_rfl
theorem kRr_top (F n f t m k w d c b v l) (K:V→Option V):
 bE fE (bC fE kS2 F 2) F 30 [V.agg [V.str n,V.int .i64 f,V.int .i64 t,V.int .i64 m,V.int .i64 k,V.int .i64 w,V.int .i64 d,V.int .i64 c,V.int .i64 b,V.int .i64 v,V.str l]] K=
 let A:=K (V.bool false);sel (ax (aB l) 1000) (sel (ieq (CW f t) 0) (sel (ieq (ZB f) 0) (sel (ieq (Kr l) 0) (sel (ieq (dK n) 0) (sel (FI k w d m) (sel (dO c b) (sel (ax (-10800) v) (K (V.bool (ax v 10800))) A) A) A) A) A) A) A) none:=by kernel_rfl
open Go.RowKit Nt
theorem toPy {f:Nat} {args:ah} {r:V} (h:aj yE f args r):aj fE f args r:=aj.env (E:=yE) rfl (fun n v h=>by cases h) h
theorem ZZ {f:Nat} {args:ah} {r:V} (h:aj vE f args r):aj fE f args r:=aj.env (E:=vE) rfl (fun n v h=>by cases h) h
theorem toPo {f:Nat} {args:ah} {r:V} (h:aj oE f args r):aj fE f args r:=aj.env (E:=oE) rfl (fun n v h=>by cases h) h
theorem toPf {f:Nat} {args:ah} {r:V} (h:aj fE f args r):aj fE f args r:=h
theorem len_p {s:af} (h:ax (aB s) 1000=true):s.length≤1000:=by rw[aA,aJ] at h;omega
theorem len_p9 {s:af} (h:ax (aB s) 900=true):s.length≤900:=by rw[aA,aJ] at h;omega
theorem p_len {s:af} (h:s.length≤1000):ax (aB s) 1000=true:=by rw[aA,aJ];omega
theorem fits_p {m:Int} (h:ak (ax (-9223372036854775808) m) (ax m 9223372036854775807)=true):Fits m:=by rw[aM,aA,aA] at h;exact h
theorem Vq {m:Int} (h:Fits m):ak (ax (-9223372036854775808) m) (ax m 9223372036854775807)=true:=by rw[aM,aA,aA];exact h
theorem kFxS_ok (n:Int) (a:true=true):aj fE 31 [.int .i64 n] (.tup [.str (La n),.int .i64 (ZB n)]):=toPy (Cf n)
theorem kTxS_ok (m n:Int) (a:true=true):aj fE 32 [.int .i64 m,.int .i64 n] (.tup [.str (uV m n),.int .i64 (CW m n)]):=toPy (JR m n)
theorem Za (s:af) (a:true=true):aj fE 42 [.str s] (.int .i64 (dK s)):=toPo (Nm.Sk s)
theorem kLtS_ok (s:af) (a:ax (aB s) 1000=true):aj fE 36 [.str s] (.tup [.str (G5 s),.int .i64 (Kr s)]):=toPf (MH s (len_p a))
theorem kN0_ok:aZ fE kN0:=aZ.nil
theorem Zb (n b:Int) (a:true=true):aj fE 49 [.agg [.int .i64 n,.int .i64 b]] (.bool (dO n b)):=by
 refine au gJ kN0_ok 5 2 ?_
 (rw[kCr_top];(conv=>zeta))
 unfold dO;simp only[bM,aA,aO];repeat' split
 all_goals (congr 2;rw[uF,lK];simp only[aA,aO,GU,false_iff,true_iff,not_and];omega)
theorem Sq (y m:Int) (a:ak (ax (-9223372036854775808) y) (ax y 9223372036854775807)=true):aj fE 75 [.int .i64 y,.int .i64 m] (.int .i64 (gK y m)):=ZZ (OU y m (fits_p a))
theorem kNbS_ok (y m d:Int) (a:gQ y m d=true):aj fE 160 [.agg [.int .i64 y,.int .i64 m,.int .i64 d]] (.int .i64 (fM y m d)):=ZZ (JX y m d a)
theorem kVaS_ok (y m d:Int) (a:true=true):aj fE 159 [.agg [.int .i64 y,.int .i64 m,.int .i64 d]] (.bool (gQ y m d)):=ZZ (MQ y m d)
theorem De:aZ fE kS0:=by
 unfold kS0;refine aZ.cons (fun args r h=>?_) (aZ.cons (fun args r h=>?_) (aZ.cons (fun args r h=>?_) (aZ.cons (fun args r h=>?_) (aZ.cons (fun args r h=>?_) (aZ.cons (fun args r h=>?_) (aZ.cons (fun args r h=>?_) (aZ.cons (fun args r h=>?_) aZ.nil)))))));all_goals (revert h;intro h;first|unfold kFxS at h|unfold kTxS at h|unfold kNmS at h|unfold kLtS at h|unfold kCrS at h|unfold XM at h|unfold kNbS at h|unfold kVaS at h)
 all_goals (split at h;rotate_left; · cases h)
 all_goals (simp only[aT,bP] at h;obtain⟨a,rfl⟩:=h)
 ·exact kFxS_ok _ rfl
 ·exact kTxS_ok _ _ rfl
 ·exact Za _ rfl
 ·exact kLtS_ok _ a
 ·exact Zb _ _ rfl
 ·exact Sq _ _ a
 ·exact kNbS_ok _ _ _ a
 exact kVaS_ok _ _ _ rfl
theorem kOnS_ok (k w d:Int) (a:true=true):aj fE 53 [.agg [.int .i64 k,.int .i64 w,.int .i64 d]] (.bool (onP k w d)):=by
 refine au gJ De 5 3 ?_
 (rw[kOn_top];(conv=>zeta))
 unfold onP;simp only[bM,aO,aA];repeat' split
 all_goals first
  |(rw[uP (by omega)];done)
  |(exfalso;omega)
  |(congr 2;unfold ax;rw[uF];simp;omega)
  |(congr 2;unfold ieq;rw[uF];simp;omega)
theorem Vm:aZ fE kS1:=by
 unfold kS1;refine aZ.cons (fun args r h=>?_) De;all_goals (revert h;intro h;first|unfold kOnS at h)
 all_goals (split at h;rotate_left; · cases h)
 all_goals (simp only[aT,bP] at h;obtain⟨a,rfl⟩:=h)
 ·exact kOnS_ok _ _ _ rfl
theorem pft_tree (k w d m y:Int) (c:jo y=false):sel (onP k w d) (sel (ax 1 m) (sel (ax m 12) (some (V.bool (ax d (gK y m)))) (some (V.bool false))) (some (V.bool false))) (some (V.bool false))=some (.bool (FI k w d m)):=by
 have e:gK y m=gK 1 m:=by unfold gK;rw[c];rfl
 rw[e];unfold FI
 cases f:onP k w d with
 |false=>rfl
 |true=>
  by_cases a:1≤m
  ·by_cases b:m≤12
   ·rw[av rfl,av (bn a),av (bn b)]
    congr 2
    rw[Ke,uF,aA,lK];exact⟨fun h=>⟨a,b,h⟩,fun h=>h.2.2⟩
   rw[av rfl,av (bn a),aI (nA (by omega))];congr 2
   rw[Ke,eq_comm,ab2];omega
  rw[av rfl,aI (nA (by omega))];congr 2
  rw[Ke,eq_comm,ab2];omega
theorem Ps (k w d m:Int) (a:true=true):aj fE 48 [.agg [.int .i64 k,.int .i64 w,.int .i64 d],.int .i64 m] (.bool (FI k w d m)):=by
 refine au gJ Vm 5 2 ?_
 (rw[kFt_top];(conv=>zeta))
 exact pft_tree k w d m 1 (by decide)
theorem kS2_ok:aZ fE kS2:=by
 unfold kS2;refine aZ.cons (fun args r h=>?_) Vm;all_goals (revert h;intro h;first|unfold ZY at h)
 all_goals (split at h;rotate_left; · cases h)
 all_goals (simp only[aT,bP] at h;obtain⟨a,rfl⟩:=h)
 ·exact Ps _ _ _ _ rfl
theorem on_k {k w d:Int} (h:onP k w d=true):(k=1∧d=0∧0≤w∧w≤6)∨(k=0∧w=0∧1≤d∧d≤31)∨((k=2∨k=3)∧0≤w∧w≤6∧1≤d∧d≤31):=by
 unfold onP at h;split at h
 ·rw[lK] at h;omega
 split at h
 ·rw[lK] at h;omega
 rw[lK] at h;omega
theorem ft_k {k w d m:Int} (h:FI k w d m=true):((k=1∧d=0∧0≤w∧w≤6)∨(k=0∧w=0∧1≤d∧d≤31)∨((k=2∨k=3)∧0≤w∧w≤6∧1≤d∧d≤31))∧1≤m∧m≤12∧d≤gK 1 m:=by unfold FI at h;rw[bF,lK] at h;exact⟨on_k h.1,h.2⟩
theorem yr_p (f t:Int):(ieq (CW f t) 0&&ieq (ZB f) 0)=yrP f t:=by
 rw[uF,bF,aO,aO];unfold yrP;rw[bF,bF,aA,aA,aA];unfold CW ZB iC fw;constructor
 ·rintro⟨d,e⟩
  by_cases a: -32767≤f∧f≤32767
  ·by_cases b: -32767≤t∧t≤32767
   ·rw[if_pos b] at d
    by_cases c:t<f
    ·rw[if_pos c] at d;cases d
    omega
   rw[if_neg b] at d;cases d
  rw[if_neg a] at e;cases e
 rintro⟨d,e,g⟩;rw[if_pos (show -32767≤t∧t≤32767 by omega),if_pos (show -32767≤f∧f≤32767 by omega),if_neg (show¬t<f by omega)];constructor
 ·(repeat' split)<;>rfl
 (repeat' split)<;>rfl
theorem kRrS_ok (n:af) (f t m k w d c b v:Int) (l:af) (a:ax (aB l) 900=true):aj fE 30 [.agg [.str n,.int .i64 f,.int .i64 t,.int .i64 m,.int .i64 k,.int .i64 w,.int .i64 d,.int .i64 c,.int .i64 b,.int .i64 v,.str l]] (.bool (ruP n f t m k w d c b v l)):=by
 refine au gJ kS2_ok 5 2 ?_
 (rw[kRr_top];(conv=>zeta);rw[av (p_len (by have:=len_p9 a;omega))])
 unfold ruP;rw[←yr_p]
 cases ieq (CW f t) 0<;>cases ieq (ZB f) 0<;>cases ieq (Kr l) 0<;>cases ieq (dK n) 0<;>cases FI k w d m<;>cases dO c b<;>cases ax (-10800) v<;>cases ax v 10800<;>rfl
theorem cum_in (m:Int) (a:1≤m) (b:m≤12):0≤zi 2001 m∧zi 2001 m≤334:=by unfold zi;rw[if_neg (show¬jo 2001=true by decide)];split<;>omega
theorem wl_in {k w d m:Int} (h:FI k w d m=true): -5≤wlP k w d m∧wlP k w d m≤31∧-5≤whP k w d m∧whP k w d m≤37:=by
 have a:=ft_k h;have c:=oH 1 m (by omega) (by omega);have b:=oH 4 m (by omega) (by omega);unfold wlP whP;rw[if_pos h,if_pos h];repeat' split
 all_goals omega
theorem of_in {m k w d c:Int} (h:FI k w d m=true) (f:0≤c∧c≤172800): -600000≤dm m k w d c∧dm m k w d c≤40000000∧-600000≤ofH m k w d c∧ofH m k w d c≤40000000:=by have e:=wl_in h;have a:=ft_k h;have b:=cum_in m (by omega) (by omega);unfold dm ofH;omega
theorem ru_ft {n:af} {f t m k w d c b v:Int} {l:af} (h:ruP n f t m k w d c b v l=true):FI k w d m=true∧(0≤c∧c≤172800)∧-32767≤f∧f≤t∧t≤32767∧(-10800≤v∧v≤10800):=by unfold ruP yrP dO at h;simp only[bF,aA,lK] at h;obtain⟨_,a,g,e,i,_⟩:=h;exact⟨g,⟨e.1,e.2.1⟩,a.1,a.2.1,a.2.2,i⟩
end Nt.Ev.YtjcencojgajgdaaGreatDoor.Rl
namespace Nt.Ev.YtjcencojgajgdaaGreatDoor.Oc
open Go Nt.Num Go.Proofs.YtjcencojgajgdaaGreatDoor
variable [kH]
open Nt.Ev.YtjcencojgajgdaaGreatDoor
open Nt.Civil
open Nt.Ev.YtjcencojgajgdaaGreatDoor.Rl
def cdI (y m d:Int):Int:=(AX y m d).1
def cdE (y m d:Int):Int:=(AX y m d).2
noncomputable def oDivS:aD:=fun a=>match a with|[.int .i64 a,.int .i64 b]=>some (ak (ak (ax (-9223372036854775808) a) (ax a 9223372036854775807)) (ak (aR 0 b) (ax b 1000000)),.tup [.int .i64 (fq a b),.int .i64 (fr a b),.int .i64 0])|_=>none
noncomputable def oDaysS:aD:=fun a=>match a with|[.agg [.int .i64 y,.int .i64 m,.int .i64 d]]=>some (true,.tup [.int .i64 (cdI y m d),.int .i64 (cdE y m d)])|_=>none
noncomputable def oS0:List (Nat×aD):=(183,oDivS)::(135,oDaysS)::(75,XM)::(48,ZY)::(30,kRrS)::[]
def wkI (n:Int):Int:=(n%7+4)%7
noncomputable def oWdS:aD:=fun a=>match a with|[.int .i64 n]=>some (ak (ax (-9223372036854775808) n) (ax n 9223372036854775807),.int .i64 (wkI n))|_=>none
def clI (n a b:Int):Int:=if n<a then a else if b<n then b else n
noncomputable def oClS:aD:=fun a=>match a with|[.int .i64 n,.int .i64 a,.int .i64 b]=>some (ax a b,.int .i64 (clI n a b))|_=>none
def cm1 (a b:Int):Int:=if a<b then -1 else if b<a then 1 else 0
noncomputable def oCmS:aD:=fun a=>match a with|[.int .i64 a,.int .i64 b]=>some (true,.int .i64 (cm1 a b))|_=>none
def Ks (a b:Int):Int:=if a=0 then b else a
noncomputable def oOrS:aD:=fun a=>match a with|[.sl e [.int .i64] o [.int .i64 a,.int .i64 b]]=>some (true,.int .i64 (Ks a b))|_=>none
noncomputable def oS1:List (Nat×aD):=(161,oWdS)::(186,oClS)::(190,oCmS)::(189,oCmS)::(188,oOrS)::oS0
def Xf (n w:Int):Int:=(wkI n-w+7)%7
noncomputable def oBkS:aD:=fun a=>match a with|[.int .i64 n,.int .i64 w]=>some (ak (ak (ax (-100000000) n) (ax n 100000000)) (ak (ax 0 w) (ax w 6)),.int .i64 (Xf n w))|_=>none
noncomputable def oS2:List (Nat×aD):=(136,oBkS)::oS1
def oyI (k w d y m:Int):Int:=if FI k w d m=true∧-39999≤y∧y≤39999 then(if k=1 then fM y m 1+gK y m-1-Xf (fM y m 1+gK y m-1) w else if k=2 then fM y m 1+d+5-Xf (fM y m 1+d+5) w else if k=3 then fM y m 1+d-1-Xf (fM y m 1+d-1) w else fM y m 1+d-1) else 0
def oyE (k w d y m:Int):Int:=if FI k w d m=true then(if -39999≤y∧y≤39999 then 0 else 1) else 4
noncomputable def oDyS:aD:=fun a=>match a with|[.agg [.int .i64 k,.int .i64 w,.int .i64 d],.int .i64 y,.int .i64 m]=>some (true,.tup [.int .i64 (oyI k w d y m),.int .i64 (oyE k w d y m)])|_=>none
def Kl (j:Nat) (t:Int):Int:=(Nt.Ev.YtjcencojgajgdaaGreatDoor.wN t).1.getD j 0
def soE (t:Int):Int:=(Nt.Ev.YtjcencojgajgdaaGreatDoor.wN t).2
noncomputable def oSoS:aD:=fun a=>match a with|[.int .i64 t]=>some (ak (ax (-9223372036854775808) t) (ax t 9223372036854775807),.tup [.agg [.int .i64 (Kl 0 t),.int .i64 (Kl 1 t),.int .i64 (Kl 2 t),.int .i64 (Kl 3 t),.int .i64 (Kl 4 t),.int .i64 (Kl 5 t)],.int .i64 (soE t)])|_=>none
noncomputable def oS3:List (Nat×aD):=(106,oDyS)::(185,oSoS)::oS2
def vL (t:Int):Int:=if soE (clI t (-1099511627776) 1099511627776)=0 then Kl 0 (clI t (-1099511627776) 1099511627776) else if t<0 then -65534 else 65534
def lsB (r n b a:Int):Bool:=decide (n<a∨n=a∧r<b)
def oW (m k w d c y:Int):Int:=oyI k w d y m*86400+c
noncomputable def oNearS:aD:=fun a=>match a with|[.int .i64 t]=>some (true,.int .i64 (vL t))|_=>none
noncomputable def oLessS:aD:=fun a=>match a with|[.agg [.int .i64 r,.int .i64 y,.int .i64 n],.agg [.int .i64 r2,.int .i64 y2,.int .i64 n2]]=>some (true,.bool (lsB r n r2 n2))|_=>none
noncomputable def oNmS:aD:=fun a=>match a with|[.agg [.str n,.int .i64 f,.int .i64 t,.int .i64 m,.int .i64 k,.int .i64 w,.int .i64 d,.int .i64 c,.int .i64 b,.int .i64 v,.str l],.int .i64 y]=>some (ak (ax 0 c) (ax c 172800),.int .i64 (oW m k w d c y))|_=>none
noncomputable def oS4:List (Nat×aD):=(162,oNearS)::(165,oLessS)::(187,oNmS)::oS3
def dnY (P:Int→Bool):Nat→Int→Option Int
 |0,_=>none
 |n+1,y=>if P y=true then some y else dnY P n (y-1)
def pvO (f t m k w d c p q x z:Int):Option Int:=dnY (fun y=>lsB p (oW m k w d c y) x z) ((if t<q+2 then t else q+2)-f+1).toNat (if t<q+2 then t else q+2)
def pvB (f t m k w d c p q x z:Int):Bool:=(pvO f t m k w d c p q x z).isSome
def qvR (f t m k w d c p q x z:Int):Int:=if pvB f t m k w d c p q x z=true then p else 0
def qvY (f t m k w d c p q x z:Int):Int:=(pvO f t m k w d c p q x z).getD 0
def qvN (f t m k w d c p q x z:Int):Int:=if pvB f t m k w d c p q x z=true then oW m k w d c (qvY f t m k w d c p q x z) else 0
noncomputable def oPvS:aD:=fun a=>match a with|[.agg [.str n,.int .i64 f,.int .i64 t,.int .i64 m,.int .i64 k,.int .i64 w,.int .i64 d,.int .i64 c,.int .i64 b,.int .i64 v,.str l],.int .i64 p,.int .i64 q,.fn fb [.box bb bo],.bxa hh [.int .i64 x,.int .i64 y,.int .i64 z]]=>some (ak (fb==164&&(bb==1000000004&&(bo==0&&hh==1000000000000))) (ak (ruP n f t m k w d c b v l) (ak (ax (-70000) q) (ax q 70000))),.out false (.tup [.agg [.int .i64 (qvR f t m k w d c p q x z),.int .i64 (qvY f t m k w d c p q x z),.int .i64 (qvN f t m k w d c p q x z)],.bool (pvB f t m k w d c p q x z)]) [[.int .i64 x,.int .i64 y,.int .i64 z]])|_=>none
noncomputable def oS5:List (Nat×aD):=(GX+163,oPvS)::oS4
theorem oWd_top (F n) (K:V→Option V):
 bE fE (bC fE oS0 F 2) F 161 [V.int .i64 n] K=
 sel (ak (ak (ax (-9223372036854775808) n) (ax n 9223372036854775807)) (ak (aR 0 7) (ax 7 1000000))) (K (V.int .i64 (tF (bg .i64 (fr n 7) 4) 7))) none:=by kernel_rfl
theorem WS (F n a b) (K:V→Option V):
 bE fE (bC fE oS0 F 2) F 186 [V.int .i64 n,V.int .i64 a,V.int .i64 b] K=
 sel (aR n a) (K (V.int .i64 a)) (sel (aR b n) (K (V.int .i64 b)) (K (V.int .i64 n))):=by kernel_rfl
theorem oCmp_top (F a b) (K:V→Option V):
 bE fE (bC fE oS0 F 3) F 190 [V.int .i64 a,V.int .i64 b] K=
 let A:=K (V.int .i64 (-1));let B:=K (V.int .i64 0);let C:=K (V.int .i64 1);sel (aL (ieq a a)) (sel (aL (ieq b b)) B A) (sel (aL (ieq b b)) C (sel (aR a b) A (sel (aR b a) C B))):=by kernel_rfl
theorem WT (F a b) (K:V→Option V):
 bE fE (bC fE oS0 F 3) F 189 [V.int .i64 a,V.int .i64 b] K=
 let A:=K (V.int .i64 (-1));let B:=K (V.int .i64 0);let C:=K (V.int .i64 1);sel (aL (ieq a a)) (sel (aL (ieq b b)) B A) (sel (aL (ieq b b)) C (sel (aR a b) A (sel (aR b a) C B))):=by kernel_rfl
theorem WU (a b) (K:V→Option V):
 bE fE (bC fE oS0 4 3) 4 188 [V.sl 3 [Kd.int .i64] none [V.int .i64 a,V.int .i64 b]] K=
 sel (aL (ieq a 0)) (K (V.int .i64 a)) (sel (aL (ieq b 0)) (K (V.int .i64 b)) (K (V.int .i64 0))):=by kernel_rfl
theorem oBk_top (F n w) (K:V→Option V):
 bE fE (bC fE oS1 F 2) F 136 [V.int .i64 n,V.int .i64 w] K=
 sel (ak (ax (-9223372036854775808) n) (ax n 9223372036854775807)) (K (V.int .i64 (tF (bg .i64 (dB .i64 (wkI n) w) 7) 7))) none:=by kernel_rfl
theorem oDy_top (F k w d y m) (K:V→Option V):
 bE fE (bC fE oS2 F 2) F 106 [V.agg [V.int .i64 k,V.int .i64 w,V.int .i64 d],V.int .i64 y,V.int .i64 m] K=
 let A:=dB .i64 (bg .i64 (cdI y m 1) d) 1;let B:=dB .i64 (bg .i64 (cdI y m 1) (gK y m)) 1;let C:=V.int .i64 (cdE y m 1);let E:=ak (ax 0 w) (ax w 6);let G:=K (V.tup [V.int .i64 0,V.int .i64 1]);let D:=dB .i64 (bg .i64 A 7) 1;sel (aL (FI k w d m)) (K (V.tup [V.int .i64 0,V.int .i64 4])) (sel (ax (-39999) y) (sel (aL (ax y 39999)) G (sel (ak (ax (-9223372036854775808) y) (ax y 9223372036854775807)) (sel (ieq k 1) (sel (ak (ak (ax (-100000000) B) (ax B 100000000)) E) (K (V.tup [V.int .i64 (dB .i64 B (Xf B w)),C])) none) (sel (ieq k 2) (sel (ak (ak (ax (-100000000) D) (ax D 100000000)) E) (K (V.tup [V.int .i64 (bg .i64 A (dB .i64 6 (Xf D w))),C])) none) (sel (ieq k 3) (sel (ak (ak (ax (-100000000) A) (ax A 100000000)) E) (K (V.tup [V.int .i64 (dB .i64 A (Xf A w)),C])) none) (K (V.tup [V.int .i64 A,C]))))) none)) G):=by kernel_rfl
theorem afu (F t) (K:V→Option V):
 bE fE (bC fE oS3 F 2) F 162 [V.int .i64 t] K=
 let A:=clI t (-1099511627776) 1099511627776;sel (ak (ax (-9223372036854775808) A) (ax A 9223372036854775807)) (sel (ieq (soE A) 0) (K (V.int .i64 (Kl 0 A))) (sel (aR t 0) (K (V.int .i64 (-65534))) (K (V.int .i64 65534)))) none:=by kernel_rfl
theorem afv (F r y n a c b) (K:V→Option V):
 bE fE (bC fE oS3 F 2) F 165 [V.agg [V.int .i64 r,V.int .i64 y,V.int .i64 n],V.agg [V.int .i64 a,V.int .i64 c,V.int .i64 b]] K=
 K (V.bool (aR (Ks (cm1 n b) (cm1 r a)) 0)):=by kernel_rfl
theorem oNm_top (F n f t m k w d c b v l y) (K:V→Option V):
 bE fE (bC fE oS3 F 2) F 187 [V.agg [V.str n,V.int .i64 f,V.int .i64 t,V.int .i64 m,V.int .i64 k,V.int .i64 w,V.int .i64 d,V.int .i64 c,V.int .i64 b,V.int .i64 v,V.str l],V.int .i64 y] K=
 K (V.int .i64 (bg .i64 (mD .i64 (oyI k w d y m) 86400) c)):=by kernel_rfl
noncomputable def Og:=fun F E n r u g j y z w i l v d I H G D x C k o f m h s q A B p t e b a c K=>(qI fE oS4 F 3 163 [V.nilsl,V.nilsl,V.nilsl,V.nilsl,V.bxa 0 []] [1,0,1,0] E K n (fB 34 [(0,V.agg [V.str r,V.int .i64 u,V.int .i64 g,V.int .i64 j,V.int .i64 y,V.int .i64 z,V.int .i64 w,V.int .i64 i,V.int .i64 l,V.int .i64 v,V.str d]),(1,V.int .i64 I),(2,V.int .i64 H),(3,V.fn 164 [V.box 1000000004 0]),(4,V.box 4 0),(8,V.box 8 0),(9,V.bool G),(10,V.int .i64 D)] [(8,[V.int .i64 x,V.int .i64 C,V.int .i64 k]),(4,[V.str o,V.int .i64 f,V.int .i64 m,V.int .i64 h,V.int .i64 s,V.int .i64 q,V.int .i64 A,V.int .i64 B,V.int .i64 p,V.int .i64 t,V.str e]),(1000000004,[V.int .i64 b,V.int .i64 a,V.int .i64 c])]):Option V)
theorem oPv_top (F n f t m k w d c b v l p q x y z) (K:V→Option V):
 bE fE (bC fE oS4 F 3) F 163 [V.agg [V.str n,V.int .i64 f,V.int .i64 t,V.int .i64 m,V.int .i64 k,V.int .i64 w,V.int .i64 d,V.int .i64 c,V.int .i64 b,V.int .i64 v,V.str l],V.int .i64 p,V.int .i64 q,V.fn 164 [V.box 1000000004 0],V.bxa 1000000000000 [V.int .i64 x,V.int .i64 y,V.int .i64 z]] K=
 Og F [] F n f t m k w d c b v l p q false (ZF t (bg .i64 q 2)) 0 0 0 n f t m k w d c b v l x y z K:=by kernel_rfl
theorem E8 (F n v x m p E G z o r y j I L J i D H q t e s f h g k d u w l a c b K):
 Og F [] (n+1) v x m p E G z o r y j I L J i D H q t e s f h g k d u w l a c b K=
 let A:=[[V.int .i64 a,V.int .i64 c,V.int .i64 b]];let B:=oW f h g k d i;let C:=V.int .i64 0;sel (ax e i) (sel (ak (ax 0 d) (ax d 172800)) (sel (lsB I B a b) (K (V.out false (V.tup [V.agg [V.int .i64 I,V.int .i64 i,V.int .i64 B],V.bool true]) A)) (Og F [] n v x m p E G z o r y j I L J (dB .i64 i 1) D H q t e s f h g k d u w l a c b K)) none) (K (V.out false (V.tup [V.agg [C,C,C],V.bool false]) A)):=by kernel_rfl
noncomputable def pX:=fun F o n m r i b h p q k l j g e a f c d K=>(bR fE oS5 F 3 137 [1,1,0,1,0] o K n (fB 54 [(0,V.sl 53 [Kd.str,Kd.int .i64,Kd.int .i64,Kd.int .i64,Kd.int .i64,Kd.int .i64,Kd.int .i64,Kd.int .i64,Kd.int .i64,Kd.int .i64,Kd.str] none m),(1,V.str r),(2,V.agg [V.int .i64 i,V.int .i64 b,V.int .i64 h]),(5,V.box 5 0),(6,V.box 6 0),(7,V.bool p),(8,V.int .i64 q),(16,V.sl 53 [Kd.str,Kd.int .i64,Kd.int .i64,Kd.int .i64,Kd.int .i64,Kd.int .i64,Kd.int .i64,Kd.int .i64,Kd.int .i64,Kd.int .i64,Kd.str] none k),(17,V.int .i64 l),(18,V.int .i64 j)] [(6,[V.int .i64 g,V.int .i64 e,V.int .i64 a]),(5,[V.int .i64 f,V.int .i64 c,V.int .i64 d])]):Option V)
theorem afw (F xs s x y z) (K:V→Option V):
 bE fE (bC fE oS5 F 3) F 137 [V.sl 53 [Kd.str,Kd.int .i64,Kd.int .i64,Kd.int .i64,Kd.int .i64,Kd.int .i64,Kd.int .i64,Kd.int .i64,Kd.int .i64,Kd.int .i64,Kd.str] none xs,V.str s,V.agg [V.int .i64 x,V.int .i64 y,V.int .i64 z]] K=
 pX F [] F xs s x y z false (vL z) xs (ay xs) 0 0 0 0 x y z K:=by kernel_rfl
theorem yT (F n q p k f j o m i l c e h d a g b K):
 pX F [] (n+1) q p k f j o m i l c e h d a g b K=
 let A:=aG i c;let R:=bg .i64 c 1;let C:=pX F [] n q p k f j o m i l R e h d a g b K;let H:=asInt (ai A 1);let I:=asInt (ai A 2);let J:=asInt (ai A 3);let L:=asInt (ai A 4);let M:=asInt (ai A 5);let N:=asInt (ai A 6);let O:=asInt (ai A 7);let P:=aF (ai A 10);let Q:=aF (ai A 0);let D:=ruP Q H I J L M N O (asInt (ai A 8)) (asInt (ai A 9)) P;let E:=qvR H I J L M N O c m a b;let G:=qvN H I J L M N O c m a b;let B:=pX F [] n q p k f j true m i l R E (qvY H I J L M N O c m a b) G a g b K;sel (aR c l) (sel (ak (ax 0 c) (aR c (ay i))) (sel (aL (seq Q p)) C (sel (ax (aB P) 900) (sel (aL D) C (sel (ak true (ak D (ak (ax (-70000) m) (ax m 70000)))) (sel (pvB H I J L M N O c m a b) (sel (aL o) B (sel (lsB e d E G) B C)) C) none)) none)) none) (K (V.tup [V.agg [V.int .i64 e,V.int .i64 h,V.int .i64 d],V.bool o])):=by kernel_rfl
open Go.RowKit Nt
theorem oDivS_ok (a b:Int) (c:ak (ak (ax (-9223372036854775808) a) (ax a 9223372036854775807)) (ak (aR 0 b) (ax b 1000000))=true):aj fE 183 [.int .i64 a,.int .i64 b] (.tup [.int .i64 (fq a b),.int .i64 (fr a b),.int .i64 0]):=ZZ (O8 a b c)
theorem afx (y m d:Int) (a:true=true):aj fE 135 [.agg [.int .i64 y,.int .i64 m,.int .i64 d]] (.tup [.int .i64 (cdI y m d),.int .i64 (cdE y m d)]):=ZZ (R6 y m d)
theorem Dg:aZ fE oS0:=by
 unfold oS0;refine aZ.cons (fun args r h=>?_) (aZ.cons (fun args r h=>?_) (aZ.cons (fun args r h=>?_) (aZ.cons (fun args r h=>?_) (aZ.cons (fun args r h=>?_) aZ.nil))));all_goals (revert h;intro h;first|unfold oDivS at h|unfold oDaysS at h|unfold XM at h|unfold ZY at h|unfold kRrS at h)
 all_goals (split at h;rotate_left; · cases h)
 all_goals (simp only[aT,bP] at h;obtain⟨a,rfl⟩:=h)
 ·exact oDivS_ok _ _ a
 ·exact afx _ _ _ rfl
 ·exact Sq _ _ a
 ·exact Ps _ _ _ _ rfl
 exact kRrS_ok _ _ _ _ _ _ _ _ _ _ _ a
theorem oWdS_ok (n:Int) (a:ak (ax (-9223372036854775808) n) (ax n 9223372036854775807)=true):aj fE 161 [.int .i64 n] (.int .i64 (wkI n)):=by refine au gJ Dg 5 2 ?_;have e:fr n 7=n%7:=rfl;rw[oWd_top,a,av (by rfl),e,cr (by omega),nL (by omega)];rfl
theorem oClS_ok (n a b:Int) (c:ax a b=true):aj fE 186 [.int .i64 n,.int .i64 a,.int .i64 b] (.int .i64 (clI n a b)):=by
 refine au gJ Dg 5 2 ?_;rw[WS];unfold clI;simp only[bM,bq];repeat' split
 all_goals rfl
theorem Zc (a b:Int):sel (aL (ieq a a))
  (sel (aL (ieq b b))
   (some (V.int .i64 0))
   (some (V.int .i64 (-1))))
  (sel (aL (ieq b b))
   (some (V.int .i64 1))
   (sel (aR a b)
    (some (V.int .i64 (-1)))
    (sel (aR b a)
     (some (V.int .i64 1))
     (some (V.int .i64 0)))))=some (.int .i64 (cm1 a b)):=by
 have c:ieq a a=true:=bA rfl;have d:ieq b b=true:=bA rfl;rw[c,d,aI (show aL true=false from rfl),aI (show aL true=false from rfl)];unfold cm1;simp only[bM,bq];repeat' split
 all_goals rfl
theorem oCmS_ok (a b:Int) (c:true=true):aj fE 190 [.int .i64 a,.int .i64 b] (.int .i64 (cm1 a b)):=by
 refine au gJ Dg 5 3 ?_
 (rw[oCmp_top];(conv=>zeta))
 exact Zc a b
theorem qg (a b:Int) (c:true=true):aj fE 189 [.int .i64 a,.int .i64 b] (.int .i64 (cm1 a b)):=by
 refine au gJ Dg 5 3 ?_
 (rw[WT];(conv=>zeta))
 exact Zc a b
theorem or_ev (a b:Int):aj fE 188 [.sl 3 [.int .i64] none [.int .i64 a,.int .i64 b]] (.int .i64 (Ks a b)):=by
 refine au gJ Dg 4 3 ?_;rw[WU];unfold Ks;simp only[bM,bY,aO];repeat' split
 all_goals first|rfl|(exfalso;omega)|(congr 2;omega)
theorem oOrS_ok (e:Nat) (o:Option Nat) (a b:Int) (h:true=true):aj fE 188 [.sl e [.int .i64] o [.int .i64 a,.int .i64 b]] (.int .i64 (Ks a b)):=by intro G w vs g f d;refine or_ev a b G w vs g f ?_;obtain⟨x,rfl,c⟩:=zx d;refine .cons ?_ .nil;unfold aV at c⊢;exact c
theorem oS1_ok:aZ fE oS1:=by
 unfold oS1;refine aZ.cons (fun args r h=>?_) (aZ.cons (fun args r h=>?_) (aZ.cons (fun args r h=>?_) (aZ.cons (fun args r h=>?_) (aZ.cons (fun args r h=>?_) Dg))));all_goals (revert h;intro h;first|unfold oWdS at h|unfold oClS at h|unfold oCmS at h|unfold oOrS at h)
 all_goals (split at h;rotate_left; · cases h)
 all_goals (simp only[aT,bP] at h;obtain⟨a,rfl⟩:=h)
 ·exact oWdS_ok _ a
 ·exact oClS_ok _ _ _ a
 ·exact oCmS_ok _ _ rfl
 ·exact qg _ _ rfl
 exact oOrS_ok _ _ _ _ rfl
theorem wk_in (n:Int):0≤wkI n∧wkI n≤6:=by unfold wkI;omega
theorem oBkS_ok (n w:Int) (a:ak (ak (ax (-100000000) n) (ax n 100000000)) (ak (ax 0 w) (ax w 6))=true):aj fE 136 [.int .i64 n,.int .i64 w] (.int .i64 (Xf n w)):=by rw[aM,aM,aM,aA,aA,aA,aA] at a;obtain⟨⟨e,c⟩,f,d⟩:=a;refine au gJ oS1_ok 5 2 ?_;have b:=wk_in n;rw[oBk_top,av (Vq ⟨by omega,by omega⟩)];unfold Xf;rw[dV (by omega),cr (by omega),nL (by omega)]
theorem oS2_ok:aZ fE oS2:=by
 unfold oS2;refine aZ.cons (fun args r h=>?_) oS1_ok;all_goals (revert h;intro h;first|unfold oBkS at h)
 all_goals (split at h;rotate_left; · cases h)
 all_goals (simp only[aT,bP] at h;obtain⟨a,rfl⟩:=h)
 ·exact oBkS_ok _ _ a
theorem A7 (n w:Int):0≤Xf n w∧Xf n w≤6:=by unfold Xf;omega
theorem bk_c {n w:Int} (a: -100000000≤n∧n≤100000000) (b:0≤w∧w≤6):ak (ak (ax (-100000000) n) (ax n 100000000)) (ak (ax 0 w) (ax w 6))=true:=by rw[aM,aM,aM,aA,aA,aA,aA];exact⟨a,b⟩
theorem Sr {y m:Int} (c: -39999≤y∧y≤39999) (a:1≤m∧m≤12): -20000000≤fM y m 1∧fM y m 1≤20000000:=by
 have b:=oH y m a.1 a.2;have f:=D4 (y:=y) (m:=m) (d:=1) ⟨by omega,by omega⟩;have e: -19000000≤iG y∧iG y≤19000000:=by unfold iG Dc;omega
 have g:(if jo y=true then(1:Int) else 0)≤1:=by split<;>omega
 unfold fM;omega
theorem Zd (k w d y m:Int) (s:true=true):aj fE 106 [.agg [.int .i64 k,.int .i64 w,.int .i64 d],.int .i64 y,.int .i64 m] (.tup [.int .i64 (oyI k w d y m),.int .i64 (oyE k w d y m)]):=by
 refine au gJ oS2_ok 5 2 ?_
 (rw[oDy_top];(conv=>zeta))
 unfold oyI oyE
 cases h:FI k w d m with
 |false=>rfl
 |true=>
  rw[aI (show aL true=false from rfl),if_pos (show true=true from rfl)];by_cases c: -39999≤y
  ·by_cases e:y≤39999
   ·rw[av (bn c),bn e,aI (show aL true=false from rfl),av (Vq ⟨by omega,by omega⟩),if_pos (show -39999≤y∧y≤39999 from⟨c,e⟩),if_pos (show true=true∧-39999≤y∧y≤39999 from⟨rfl,c,e⟩)]
    have r:=ft_k h;have p:=oH y m (by omega) (by omega);have q:=Sr (y:=y) (m:=m) ⟨c,e⟩ (by omega);have l:gQ y m 1=true:=zZ.2 ⟨by omega,by omega,by unfold valid;omega⟩;have n:cdI y m 1=fM y m 1:=by unfold cdI AX;rw[if_pos l]
    have o:cdE y m 1=0:=by unfold cdE AX;rw[if_pos l]
    rw[n,o];generalize fM y m 1=D at*;generalize gK y m=L at*;by_cases f:k=1
    ·have j:=A7 (D+L-1) w
     rw[av (bA f),if_pos f,cr (a:=D) (by omega),dV (a:=D+L) (by omega),av (bk_c (by omega) (by omega)),dV (by omega)]
    rw[aI (bH f),if_neg f,cr (a:=D) (b:=d) (by omega),dV (a:=D+d) (by omega)];by_cases g:k=2
    ·have j:=A7 (D+d+5) w
     rw[av (bA g),if_pos g,cr (a:=D+d-1) (b:=7) (by omega),dV (a:=D+d-1+7) (by omega),show D+d-1+7-1=D+d+5 by omega,av (bk_c (by omega) (by omega)),dV (a:=6) (by omega),cr (by omega),show D+d-1+(6-Xf (D+d+5) w)=D+d+5-Xf (D+d+5) w by omega]
    rw[aI (bH g),if_neg g];by_cases i:k=3
    ·have j:=A7 (D+d-1) w
     rw[av (bA i),if_pos i,av (bk_c (by omega) (by omega)),dV (by omega)]
    rw[aI (bH i),if_neg i]
   rw[av (bn c),nA (by omega),av (show aL false=true from rfl),if_neg (show¬(-39999≤y∧y≤39999) by omega),if_neg (show¬(true=true∧-39999≤y∧y≤39999) by omega)]
  rw[aI (nA (by omega)),if_neg (show¬(-39999≤y∧y≤39999) by omega),if_neg (show¬(true=true∧-39999≤y∧y≤39999) by omega)]
theorem oSoS_ok (t:Int) (a:ak (ax (-9223372036854775808) t) (ax t 9223372036854775807)=true):aj fE 185 [.int .i64 t] (.tup [.agg [.int .i64 (Kl 0 t),.int .i64 (Kl 1 t),.int .i64 (Kl 2 t),.int .i64 (Kl 3 t),.int .i64 (Kl 4 t),.int .i64 (Kl 5 t)],.int .i64 (soE t)]):=by
 have h:=ZZ (stOf_ev t (fits_p a));have e:resO (Nt.Ev.YtjcencojgajgdaaGreatDoor.wN t)=.tup [.agg [.int .i64 (Kl 0 t),.int .i64 (Kl 1 t),.int .i64 (Kl 2 t),.int .i64 (Kl 3 t),.int .i64 (Kl 4 t),.int .i64 (Kl 5 t)],.int .i64 (soE t)]:=by unfold resO Kl soE Nt.Ev.YtjcencojgajgdaaGreatDoor.wN;split<;>rfl
 rw[←e];exact h
theorem Oh:aZ fE oS3:=by
 unfold oS3;refine aZ.cons (fun args r h=>?_) (aZ.cons (fun args r h=>?_) oS2_ok);all_goals (revert h;intro h;first|unfold oDyS at h|unfold oSoS at h)
 all_goals (split at h;rotate_left; · cases h)
 all_goals (simp only[aT,bP] at h;obtain⟨a,rfl⟩:=h)
 ·exact Zd _ _ _ _ _ rfl
 exact oSoS_ok _ a
theorem cl_in (t a b:Int) (h:a≤b):a≤clI t a b∧clI t a b≤b:=by unfold clI;repeat' split<;>omega
theorem afy (t:Int) (a:true=true):aj fE 162 [.int .i64 t] (.int .i64 (vL t)):=by
 refine au gJ Oh 5 2 ?_;have h:=cl_in t (-1099511627776) 1099511627776 (by omega)
 (rw[afu];(conv=>zeta);rw[av (Vq ⟨by omega,by omega⟩)])
 unfold vL;simp only[bM,aO,bq];repeat' split
 all_goals rfl
theorem near_in (t:Int): -70000≤vL t∧vL t≤70000:=by
 unfold vL;generalize clI t (-1099511627776) 1099511627776=u;split
 ·rename_i h
  unfold soE Nt.Ev.YtjcencojgajgdaaGreatDoor.wN at h;unfold Kl Nt.Ev.YtjcencojgajgdaaGreatDoor.wN;split at h
  ·rename_i a
   rw[if_pos a];have:=(JY _).1 a;show -70000≤dY (u/86400)∧dY (u/86400)≤70000;omega
  cases h
 split<;>omega
theorem afz (r y n a c b:Int) (d:true=true):aj fE 165 [.agg [.int .i64 r,.int .i64 y,.int .i64 n],.agg [.int .i64 a,.int .i64 c,.int .i64 b]] (.bool (lsB r n a b)):=by
 refine au gJ Oh 5 2 ?_;rw[afv];congr 2;rw[uF,bq];unfold lsB Ks cm1;rw[lK];repeat' split
 all_goals omega
theorem nom_lim (m k w d y:Int): -30000000≤oyI k w d y m∧oyI k w d y m≤30000000:=by
 unfold oyI;split
 ·rename_i h
  have a:=ft_k h.1;have g:=Sr (y:=y) (m:=m) h.2 (by omega);have c:=oH y m (by omega) (by omega);have b:=A7 (fM y m 1+gK y m-1) w;have e:=A7 (fM y m 1+d+5) w;have f:=A7 (fM y m 1+d-1) w;repeat' split
  all_goals omega
 omega
theorem oNmS_ok (n:af) (f t m k w d c b v:Int) (l:af) (y:Int) (a:ak (ax 0 c) (ax c 172800)=true):aj fE 187 [.agg [.str n,.int .i64 f,.int .i64 t,.int .i64 m,.int .i64 k,.int .i64 w,.int .i64 d,.int .i64 c,.int .i64 b,.int .i64 v,.str l],.int .i64 y] (.int .i64 (oW m k w d c y)):=by rw[aM,aA,aA] at a;refine au gJ Oh 5 2 ?_;have:=nom_lim m k w d y;rw[oNm_top,og (by omega),cr (by omega)];rfl
theorem oS4_ok:aZ fE oS4:=by
 unfold oS4;refine aZ.cons (fun args r h=>?_) (aZ.cons (fun args r h=>?_) (aZ.cons (fun args r h=>?_) Oh));all_goals (revert h;intro h;first|unfold oNearS at h|unfold oLessS at h|unfold oNmS at h)
 all_goals (split at h;rotate_left; · cases h)
 all_goals (simp only[aT,bP] at h;obtain⟨a,rfl⟩:=h)
 ·exact afy _ rfl
 ·exact afz _ _ _ _ _ _ rfl
 exact oNmS_ok _ _ _ _ _ _ _ _ _ _ _ _ a
theorem dn_t {P:Int→Bool} {r:Nat} {j:Int} (h:P j=true):dnY P (r+1) j=some j:=by show(if P j=true then some j else dnY P r (j-1))=_;rw[if_pos h]
theorem dn_f {P:Int→Bool} {r:Nat} {j:Int} (h:P j=false):dnY P (r+1) j=dnY P r (j-1):=by show(if P j=true then some j else dnY P r (j-1))=_;rw[if_neg (by rw[h];simp)]
theorem pv_loop (F:Nat) (a:af) (I h B C o E s i A:Int) (H n:af) (f t m k w d c b v:Int) (l:af) (p q x y z:Int) (L:0≤c∧c≤172800) (M: -32767≤f) (K:V→Option V): ∀(r:Nat) (j:Int) (G:Nat),j≤70000→(j-f+1).toNat=r→r<G→
  Og F [] G a I h B C o E s i A H p q false j 0 0 0 n f t m k w d c b v l x y z K=
   K (.out false (.tup [.agg [.int .i64 (if(dnY (fun y=>lsB p (oW m k w d c y) x z) r j).isSome=true then p else 0),.int .i64 ((dnY (fun y=>lsB p (oW m k w d c y) x z) r j).getD 0),.int .i64 (if(dnY (fun y=>lsB p (oW m k w d c y) x z) r j).isSome=true then oW m k w d c ((dnY (fun y=>lsB p (oW m k w d c y) x z) r j).getD 0) else 0)],.bool (dnY (fun y=>lsB p (oW m k w d c y) x z) r j).isSome]) [[.int .i64 x,.int .i64 y,.int .i64 z]]):=by
 intro r;induction r with
 |zero=>
  intro j G u g D;obtain⟨G,rfl⟩:=uN (show G≠0 by omega)
  (rw[E8];(conv=>zeta);rw[aI (nA (by omega))])
  rfl
 |succ r J=>
  intro j G u g D;obtain⟨G,rfl⟩:=uN (show G≠0 by omega)
  (rw[E8];(conv=>zeta);rw[av (bn (by omega)),av (by rw[aM,aA,aA];exact L)])
  cases e:lsB p (oW m k w d c j) x z with
  |true=>rw[av rfl,dn_t (P:=fun y=>lsB p (oW m k w d c y) x z) e];rfl
  |false=>rw[aI rfl,dV (by omega),dn_f (P:=fun y=>lsB p (oW m k w d c y) x z) e,J (j-1) G (by omega) (by omega) (by omega)]
theorem oPvS_ok (n:af) (f t m k w d c b v:Int) (l:af) (p q:Int) (i h j a:Nat) (x y z:Int) (A:ak (i==164&&(h==1000000004&&(j==0&&a==1000000000000))) (ak (ruP n f t m k w d c b v l) (ak (ax (-70000) q) (ax q 70000)))=true):nQ fE 163 [.agg [.str n,.int .i64 f,.int .i64 t,.int .i64 m,.int .i64 k,.int .i64 w,.int .i64 d,.int .i64 c,.int .i64 b,.int .i64 v,.str l],.int .i64 p,.int .i64 q,.fn i [.box h j],.bxa a [.int .i64 x,.int .i64 y,.int .i64 z]] (.out false (.tup [.agg [.int .i64 (qvR f t m k w d c p q x z),.int .i64 (qvY f t m k w d c p q x z),.int .i64 (qvN f t m k w d c p q x z)],.bool (pvB f t m k w d c p q x z)]) [[.int .i64 x,.int .i64 y,.int .i64 z]]):=by
 obtain⟨o,u⟩:=aN A;obtain⟨r,s⟩:=aN u;rw[aM,aA,aA] at s;simp only[bF,iJ] at o;obtain⟨rfl,rfl,rfl,rfl⟩:=o;have g:=ru_ft r;refine nQ.out (fT gJ oS4_ok 140000 3 ?_);have e:ZF t (bg .i64 q 2)=if t<q+2 then t else q+2:=by rw[cr (by omega)];unfold ZF;split<;>omega
 rw[oPv_top,e,pv_loop 140000 n f t m k w d c b v l n f t m k w d c b v l p q x y z g.2.1 g.2.2.1 some ((if t<q+2 then t else q+2)-f+1).toNat (if t<q+2 then t else q+2) 140000 (by split<;>omega) rfl (by split<;>omega)];rfl
theorem oS5_ok:aZ fE oS5:=by
 unfold oS5;refine aZ.ny (fun args r h=>?_) oS4_ok;all_goals (revert h;intro h;first|unfold oPvS at h)
 all_goals (split at h;rotate_left; · cases h)
 all_goals (simp only[aT,bP] at h;obtain⟨a,rfl⟩:=h)
 ·exact oPvS_ok _ _ _ _ _ _ _ _ _ _ _ _ _ _ _ _ _ _ _ _ a
def rOk (x:V):Bool:=ax (aB (aF (ai x 10))) 900
def ruV (e:V):Bool:=ruP (aF (ai e 0)) (asInt (ai e 1)) (asInt (ai e 2)) (asInt (ai e 3)) (asInt (ai e 4)) (asInt (ai e 5)) (asInt (ai e 6)) (asInt (ai e 7)) (asInt (ai e 8)) (asInt (ai e 9)) (aF (ai e 10))
def bV (e:V) (i q x z:Int):Bool:=pvB (asInt (ai e 1)) (asInt (ai e 2)) (asInt (ai e 3)) (asInt (ai e 4)) (asInt (ai e 5)) (asInt (ai e 6)) (asInt (ai e 7)) i q x z
def rV (e:V) (i q x z:Int):Int:=qvR (asInt (ai e 1)) (asInt (ai e 2)) (asInt (ai e 3)) (asInt (ai e 4)) (asInt (ai e 5)) (asInt (ai e 6)) (asInt (ai e 7)) i q x z
def yV (e:V) (i q x z:Int):Int:=qvY (asInt (ai e 1)) (asInt (ai e 2)) (asInt (ai e 3)) (asInt (ai e 4)) (asInt (ai e 5)) (asInt (ai e 6)) (asInt (ai e 7)) i q x z
def nV (e:V) (i q x z:Int):Int:=qvN (asInt (ai e 1)) (asInt (ai e 2)) (asInt (ai e 3)) (asInt (ai e 4)) (asInt (ai e 5)) (asInt (ai e 6)) (asInt (ai e 7)) i q x z
def Xg (xs:ah) (s:af) (q x z:Int):Nat→Int→Bool×Int×Int×Int→Bool×Int×Int×Int
 |0,_,a=>a
 |k+1,i,a=>
  let e:=aG xs i
  Xg xs s q x z k (i+1) (if seq (aF (ai e 0)) s=true∧ruV e=true∧bV e i q x z=true∧(a.1=false∨lsB a.2.1 a.2.2.2 (rV e i q x z) (nV e i q x z)=true) then(true,rV e i q x z,yV e i q x z,nV e i q x z) else a)
def prA (xs:ah) (s:af) (x z:Int):Bool×Int×Int×Int:=Xg xs s (vL z) x z xs.length 0 (false,0,0,0)
theorem pr_loop (F:Nat) (xs:ah) (s:af) (x y z c d f q:Int) (p: ∀e∈xs,rOk e=true) (n: -70000≤q∧q≤70000) (w:(xs.length:Int)≤4611686018427387904) (K:V→Option V): ∀(k:Nat) (i:Int) (a:Bool×Int×Int×Int) (G:Nat),0≤i→i+k=xs.length→k<G→
  pX F [] G xs s c d f a.1 q xs (ay xs) i a.2.1 a.2.2.1 a.2.2.2 x y z K=
   K (.tup [.agg [.int .i64 (Xg xs s q x z k i a).2.1,.int .i64 (Xg xs s q x z k i a).2.2.1,.int .i64 (Xg xs s q x z k i a).2.2.2],.bool (Xg xs s q x z k i a).1]):=by
 intro k;induction k with
 |zero=>
  intro i a G m o l;obtain⟨G,rfl⟩:=uN (show G≠0 by omega)
  (rw[yT];(conv=>zeta);rw[aI (bB (by rw[aC];omega))])
  rfl
 |succ k b=>
  intro i a G m o l;obtain⟨G,rfl⟩:=uN (show G≠0 by omega);have j:rOk (aG xs i)=true:=by refine p _ ?_;unfold aG;rw[l7,iK (by omega),yU];exact GV _
  (rw[yT];(conv=>zeta);rw[av (bu (by rw[aC];omega)),av (by rw[aM,aA,bq,aC];omega),cr (by omega)])
  unfold Xg;have b:=fun a=>b (i+1) a G (by omega) (by omega) (by omega)
  unfold rOk at j;show sel (aL (seq (aF (ai (aG xs i) 0)) s)) _ (sel (ax (aB (aF (ai (aG xs i) 10))) 900) (sel (aL (ruV (aG xs i))) _ (sel (ak true (ak (ruV (aG xs i)) _)) (sel (bV (aG xs i) i q x z) (sel (aL a.1) (pX F [] G xs s c d f true q xs (ay xs) (i+1) (rV (aG xs i) i q x z) (yV (aG xs i) i q x z) (nV (aG xs i) i q x z) x y z K) (sel (lsB a.2.1 a.2.2.2 (rV (aG xs i) i q x z) (nV (aG xs i) i q x z)) (pX F [] G xs s c d f true q xs (ay xs) (i+1) (rV (aG xs i) i q x z) (yV (aG xs i) i q x z) (nV (aG xs i) i q x z) x y z K) _)) _) _)) _)=_;rw[av j];have g:=b (true,rV (aG xs i) i q x z,yV (aG xs i) i q x z,nV (aG xs i) i q x z);have h:=b a;simp only at g h⊢;rw[g,h]
  cases v:seq (aF (ai (aG xs i) 0)) s with
  |false=>rw[av (show aL false=true from rfl),if_neg (by simp)]
  |true=>
   cases r:ruV (aG xs i) with
   |false=>rw[aI (show aL true=false from rfl),av (show aL false=true from rfl),if_neg (by simp)]
   |true=>
    rw[aI (show aL true=false from rfl),aI (show aL true=false from rfl),av (by rw[aM,aM,aM,aA,aA];exact⟨rfl,rfl,n⟩)]
    cases u:bV (aG xs i) i q x z with
    |false=>rw[aI rfl,if_neg (by simp)]
    |true=>
     rw[av rfl]
     cases A:a.1 with
     |false=>rw[av (show aL false=true from rfl),if_pos (by simp)]
     |true=>
      rw[aI (show aL true=false from rfl)]
      cases t:lsB a.2.1 a.2.2.2 (rV (aG xs i) i q x z) (nV (aG xs i) i q x z) with
      |false=>rw[aI rfl,if_neg (by simp)]
      |true=>rw[av rfl,if_pos (by simp)]
theorem prev_ev (xs:ah) (s:af) (x y z:Int) (a: ∀e∈xs,rOk e=true) (b:(xs.length:Int)≤4611686018427387904):aj fE 137 [.sl 53 [.str,.int .i64,.int .i64,.int .i64,.int .i64,.int .i64,.int .i64,.int .i64,.int .i64,.int .i64,.str] none xs,.str s,.agg [.int .i64 x,.int .i64 y,.int .i64 z]] (.tup [.agg [.int .i64 (prA xs s x z).2.1,.int .i64 (prA xs s x z).2.2.1,.int .i64 (prA xs s x z).2.2.2],.bool (prA xs s x z).1]):=by refine au gJ oS5_ok (xs.length+5) 3 ?_;rw[afw];exact pr_loop (xs.length+5) xs s x y z x y z (vL z) a (near_in z) b some xs.length 0 (false,0,0,0) (xs.length+5) (by omega) (by omega) (by omega)
theorem pr_in (xs:ah) (s:af) (q x z N:Int): ∀(k:Nat) (i:Int) (a:Bool×Int×Int×Int),0≤i→i+k≤N→(a.1=true→0≤a.2.1∧a.2.1<N)→(Xg xs s q x z k i a).1=true→0≤(Xg xs s q x z k i a).2.1∧(Xg xs s q x z k i a).2.1<N:=by
 intro k;induction k with
 |zero=>intro i a _ _ h c;exact h c
 |succ k f=>
  intro i a g j h c;unfold Xg at c⊢;refine f (i+1) _ (by omega) (by omega) ?_ c;intro e;split at e
  ·rename_i d
   rw[if_pos d];have b:bV (aG xs i) i q x z=true:=d.2.2.1;have:rV (aG xs i) i q x z=i:=by unfold rV qvR;unfold bV at b;rw[if_pos b]
   show 0≤rV (aG xs i) i q x z∧rV (aG xs i) i q x z<N;omega
  rename_i d;rw[if_neg d];exact h e
theorem prev_in (xs:ah) (s:af) (x z:Int) (h:(prA xs s x z).1=true):0≤(prA xs s x z).2.1∧(prA xs s x z).2.1<xs.length:=
 pr_in xs s (vL z) x z xs.length xs.length 0 (false,0,0,0) (by omega) (by omega) (fun h=>by cases h) h
end Nt.Ev.YtjcencojgajgdaaGreatDoor.Oc
