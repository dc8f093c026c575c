/-
  Top06: equations of functions, as the evaluator prints them. Lines of rules and of eras: what the fields' texts are made of, and how long the lines are. Top06L: equations of functions, as the evaluator prints them. Lines of rules and of eras: the statement.
-/
import Derived.Test.YtplklcejbmfgdaaGreatDoorMN
import Derived.Test.YtplklcejbmfgdaaGreatDoorMO
import Derived.Test.YtplklcejbmfgdaaGreatDoorMQ
set_option linter.unusedVariables false
set_option linter.unusedSimpArgs false
set_option linter.unusedSectionVars false
namespace Nt.Ev.YtplklcejbmfgdaaGreatDoor
set_option maxRecDepth 100000
open Go Nt.Num Go.Proofs.YtplklcejbmfgdaaGreatDoor
variable [mJ]
open Nt.Civil
open Nt.Fld
noncomputable def tLeS:aF:=fun a=>match a with|[.str s]=>some (true,.tup [.str (Db s),.int .i64 (Dc s)])|_=>none
noncomputable def tSl:List (Nat×aF):=(70,tLeS)::[]
noncomputable def tNmS:aF:=fun a=>match a with|[.str s]=>some (true,.int .i64 (fF s))|_=>none
noncomputable def tLtS:aF:=fun a=>match a with|[.str s]=>some (true,.tup [.str (ltT s),.int .i64 (Ti s)])|_=>none
noncomputable def tChS:aF:=fun a=>match a with|[.str s]=>some (true,.int .i64 (jG s))|_=>none
noncomputable def tS0:List (Nat×aF):=(16,tNmS)::(38,tLtS)::(45,tChS)::(39,Av)::(37,zFxS)::(36,zTxS)::(58,TG)::(59,TH)::(40,TI)::(60,TJ)::(61,TK)::(63,eNtS)::[]
theorem tLT_top (F:Nat) (s:List UInt8) (K:V→Option V):
 cr eE (bV eE tSl F 2) F 38 [V.str s] K=
 let A:=K (V.tup [V.str [],V.int .i64 4]);sel (seq s []) (K (V.tup [V.str [45],V.int .i64 0])) (sel (aG (ieq (Dc s) 0)) A (sel (aG (seq (Db s) s)) A (K (V.tup [V.str s,V.int .i64 0])))):=by kernel_rfl
theorem tRR_top (F:Nat) (n:List UInt8) (f t m k w d c b v:Int) (l:List UInt8) (K:V→Option V):
 cr eE (bV eE tS0 F 3) F 14 [V.agg [V.str n,V.int .i64 f,V.int .i64 t,V.int .i64 m,V.int .i64 k,V.int .i64 w,V.int .i64 d,V.int .i64 c,V.int .i64 b,V.int .i64 v,V.str l]] K=
 let A:=K (V.bool false);sel (ieq (TF f t) 0) (sel (ieq (fxW f) 0) (sel (ieq (Ti l) 0) (sel (ieq (fF n) 0) (sel (rQ k w d m) (sel (iP c b) (sel (ai (-10800) v) (K (V.bool (ai v 10800))) A) A) A) A) A) A) A:=by kernel_rfl
theorem tER_top (F:Nat) (o k v:Int) (r q:List UInt8) (h:Bool) (y m ok ow od c b:Int) (K:V→Option V):
 cr eE (bV eE tS0 F 3) F 17 [V.agg [V.int .i64 o,V.int .i64 k,V.int .i64 v,V.str r,V.str q,V.bool h,V.int .i64 y,V.int .i64 m,V.int .i64 ok,V.int .i64 ow,V.int .i64 od,V.int .i64 c,V.int .i64 b]] K=
 let A:=K (V.bool false);let C:=ak (beq h false) (ak (ieq y 0) (ak (ieq m 0) (ak (ak (ieq ok 0) (ak (ieq ow 0) (ieq od 0))) (ak (ieq c 0) (ieq b 0)))));let G:=K (V.bool (seq r []));let H:=iP c b;let B:=sel (ieq k 0) A (sel (ieq k 1) A (sel (ieq k 2) A A));let D:=sel (ai (iX .i64 0 10800) v) (sel (ai v 10800) G A) A;let E:=sel (ieq v 0) (K (V.bool (ieq (fF r) 0))) A;let I:=sel (ieq v 0) G A;sel (ai (iX .i64 0 54000) o) (sel (ai o 54000) (sel (ieq (jG q) 0) (sel (aG h) (sel (ieq k 0) (sel C I A) (sel (ieq k 1) (sel C D A) (sel (ieq k 2) (sel C E A) A))) (sel (aT (-32767) y) (sel (aT y 32767) (sel (rQ ok ow od m) (sel (ieq k 0) (sel H I A) (sel (ieq k 1) (sel H D A) (sel (ieq k 2) (sel H E A) A))) B) B) B)) B) B) B:=by kernel_rfl
open Go.RowKit Nt
def GdB (c:UInt8):Prop:=33≤c.toNat∧c.toNat≤126∧c.toNat≠34
def Gd (l:List UInt8):Prop:=∀c∈l,GdB c
instance (c:UInt8):Decidable (GdB c):=by unfold GdB;infer_instance
instance (l:List UInt8):Decidable (Gd l):=by unfold Gd;infer_instance
def PrB (c:UInt8):Prop:=32≤c.toNat∧c.toNat≤126
def Pr (l:List UInt8):Prop:=∀c∈l,PrB c
instance (c:UInt8):Decidable (PrB c):=by unfold PrB;infer_instance
instance (l:List UInt8):Decidable (Pr l):=by unfold Pr;infer_instance
end Nt.Ev.YtplklcejbmfgdaaGreatDoor
namespace Nt.Ev.YtplklcejbmfgdaaGreatDoor.T6
open Go Nt.Num Go.Proofs.YtplklcejbmfgdaaGreatDoor
variable [mJ]
class TA where
 (fF:List UInt8→Int)
 (rB:List UInt8→Int→Int→Int→Int→Int→Int→Int→Int→Int→List UInt8→Bool)
 (rG:List UInt8→Int→Int→Int→Int→Int→Int→Int→Int→Int→List UInt8→Bool)
 (rfL:List UInt8→Int→Int→Int→Int→Int→Int→Int→Int→Int→List UInt8→List V)
 (eB:Int→Int→Int→List UInt8→List UInt8→Bool→Int→Int→Int→Int→Int→Int→Int→Bool)
 (eG:Int→Int→Int→List UInt8→List UInt8→Bool→Int→Int→Int→Int→Int→Int→Int→Bool)
 (efL:Int→Int→Int→List UInt8→List UInt8→Bool→Int→Int→Int→Int→Int→Int→Int→List V)
 (jnG:List V→Bool)
 (jnT:List V→List UInt8)
 (ofG:List UInt8→Bool)
 (bX:List UInt8→List V)
 (rdG:List V→Bool)
 (edG:List V→Bool)
 (ckG:List UInt8→Bool)
 (OC:List V→List UInt8)
 (OD:List V→Int)
 (OE:List V→Int)
 (OH:List V→Int)
 (OI:List V→Int)
 (OJ:List V→Int)
 (OL:List V→Int)
 (OM:List V→Int)
 (OO:List V→Int)
 (OP:List V→Int)
 (wT:List V→List UInt8)
 (OU:List V→Int)
 (Tm:List V→Int)
 (OV:List V→Int)
 (Q5:List V→List UInt8)
 (Q6:List V→List UInt8)
 (F6:List V→Bool)
 (OW:List V→Int)
 (OX:List V→Int)
 (Tn:List V→Int)
 (Tp:List V→Int)
 (Ag:List V→Int)
 (Ah:List V→Int)
 (Ai:List V→Int)
noncomputable abbrev fF [TA]:List UInt8→Int:=TA.fF
noncomputable abbrev rB [TA]:List UInt8→Int→Int→Int→Int→Int→Int→Int→Int→Int→List UInt8→Bool:=TA.rB
noncomputable abbrev rG [TA]:List UInt8→Int→Int→Int→Int→Int→Int→Int→Int→Int→List UInt8→Bool:=TA.rG
noncomputable abbrev rfL [TA]:List UInt8→Int→Int→Int→Int→Int→Int→Int→Int→Int→List UInt8→List V:=TA.rfL
noncomputable abbrev eB [TA]:Int→Int→Int→List UInt8→List UInt8→Bool→Int→Int→Int→Int→Int→Int→Int→Bool:=TA.eB
noncomputable abbrev eG [TA]:Int→Int→Int→List UInt8→List UInt8→Bool→Int→Int→Int→Int→Int→Int→Int→Bool:=TA.eG
noncomputable abbrev efL [TA]:Int→Int→Int→List UInt8→List UInt8→Bool→Int→Int→Int→Int→Int→Int→Int→List V:=TA.efL
noncomputable abbrev jnG [TA]:List V→Bool:=TA.jnG
noncomputable abbrev jnT [TA]:List V→List UInt8:=TA.jnT
noncomputable abbrev ofG [TA]:List UInt8→Bool:=TA.ofG
noncomputable abbrev bX [TA]:List UInt8→List V:=TA.bX
noncomputable abbrev rdG [TA]:List V→Bool:=TA.rdG
noncomputable abbrev edG [TA]:List V→Bool:=TA.edG
noncomputable abbrev ckG [TA]:List UInt8→Bool:=TA.ckG
noncomputable abbrev OC [TA]:List V→List UInt8:=TA.OC
noncomputable abbrev OD [TA]:List V→Int:=TA.OD
noncomputable abbrev OE [TA]:List V→Int:=TA.OE
noncomputable abbrev OH [TA]:List V→Int:=TA.OH
noncomputable abbrev OI [TA]:List V→Int:=TA.OI
noncomputable abbrev OJ [TA]:List V→Int:=TA.OJ
noncomputable abbrev OL [TA]:List V→Int:=TA.OL
noncomputable abbrev OM [TA]:List V→Int:=TA.OM
noncomputable abbrev OO [TA]:List V→Int:=TA.OO
noncomputable abbrev OP [TA]:List V→Int:=TA.OP
noncomputable abbrev wT [TA]:List V→List UInt8:=TA.wT
noncomputable abbrev OU [TA]:List V→Int:=TA.OU
noncomputable abbrev Tm [TA]:List V→Int:=TA.Tm
noncomputable abbrev OV [TA]:List V→Int:=TA.OV
noncomputable abbrev Q5 [TA]:List V→List UInt8:=TA.Q5
noncomputable abbrev Q6 [TA]:List V→List UInt8:=TA.Q6
noncomputable abbrev F6 [TA]:List V→Bool:=TA.F6
noncomputable abbrev OW [TA]:List V→Int:=TA.OW
noncomputable abbrev OX [TA]:List V→Int:=TA.OX
noncomputable abbrev Tn [TA]:List V→Int:=TA.Tn
noncomputable abbrev Tp [TA]:List V→Int:=TA.Tp
noncomputable abbrev Ag [TA]:List V→Int:=TA.Ag
noncomputable abbrev Ah [TA]:List V→Int:=TA.Ah
noncomputable abbrev Ai [TA]:List V→Int:=TA.Ai
variable [TA]
end Nt.Ev.YtplklcejbmfgdaaGreatDoor.T6
namespace Nt.Ev.YtplklcejbmfgdaaGreatDoor
open Go Go.RowKit Nt Nt.Num Nt.Civil Nt.Fld Go.Proofs.YtplklcejbmfgdaaGreatDoor
set_option maxRecDepth 100000
variable [mJ]
theorem Te (s:List UInt8) (hc:true=true):af eE 16 [.str s] (.int .i64 (fF s)):=by
 by_cases h:s.length≤1000
 ·exact xZ (Be s (bF (by rw[aB];omega)))
 ·refine xZ (ah Rw JF 100 2 ?_)
  rw[IG];unfold fF;rw[ay (bD (by rw[aB];omega)),if_pos (by omega)]
theorem tChS_ok (s:List UInt8) (hc:true=true):af eE 45 [.str s] (.int .i64 (jG s)):=by
 by_cases h:s.length≤900
 ·exact SA s (bF (by rw[aB];omega))
 ·refine xZ (WA (ah D7 PE 5 2 ?_))
  rw[FL];unfold jG;rw[ay (bD (by rw[aB];omega)),if_pos (by omega)]
theorem tLeS_ok (s:List UInt8) (hc:true=true):af eE 70 [.str s] (.tup [.str (Db s),.int .i64 (Dc s)]):=by
 by_cases h:s.length≤900
 ·exact xZ (MK s (bF (by rw[aB];omega)))
 ·refine xZ (WA (ah D7 JG 5 2 ?_))
  (rw[Cy];(conv=>zeta))
  have h1:s≠[45]:=fun e=>by rw[e] at h;exact h (by decide)
  unfold Db Dc leP;rw[if_neg h1,if_pos (by omega),aU (by rw[←Bool.not_eq_true,dI];exact h1),ay (bD (by rw[aB];omega))]
theorem tSl_ok:bq eE tSl:=by
 unfold tSl;refine bq.cons (fun args r h=>?_) bq.nil;all_goals (revert h;intro h;first|unfold tLeS at h)
 all_goals (split at h;rotate_left; · cases h)
 all_goals (simp only[Option.some.injEq,Prod.mk.injEq] at h;obtain⟨hc,rfl⟩:=h)
 ·exact tLeS_ok _ rfl
theorem tLtS_ok (s:List UInt8) (hc:true=true):af eE 38 [.str s] (.tup [.str (ltT s),.int .i64 (Ti s)]):=by
 refine ah iY tSl_ok 5 2 ?_
 (rw[tLT_top];(conv=>zeta))
 unfold ltT Ti ltP;by_cases h1:s=[]
 ·rw[if_pos h1,ay (by rw[dI];exact h1)]
 ·rw[if_neg h1,aU (by rw[←Bool.not_eq_true,dI];exact h1)]
  by_cases h2:Dc s=0
  ·by_cases h3:Db s=s
   ·rw[if_neg (fun e=>e.elim (fun x=>x h2) (fun x=>x h3)),aU (by rw[bn h2];rfl),aU (by rw[show seq (Db s) s=true by rw[dI];exact h3];rfl)]
   ·rw[if_pos (.inr h3),aU (by rw[bn h2];rfl),ay (by rw[bP,dI];exact h3)]
  ·rw[if_pos (.inl h2),ay (by rw[bP,aK];exact h2)]
theorem Yy:bq eE tS0:=by
 unfold tS0;refine bq.cons (fun args r h=>?_) (bq.cons (fun args r h=>?_) (bq.cons (fun args r h=>?_) (bq.cons (fun args r h=>?_) (bq.cons (fun args r h=>?_) (bq.cons (fun args r h=>?_) (bq.cons (fun args r h=>?_) (bq.cons (fun args r h=>?_) (bq.cons (fun args r h=>?_) (bq.cons (fun args r h=>?_) (bq.cons (fun args r h=>?_) (bq.cons (fun args r h=>?_) bq.nil)))))))))));all_goals (revert h;intro h;first|unfold tNmS at h|unfold tLtS at h|unfold tChS at h|unfold Av at h|unfold zFxS at h|unfold zTxS at h|unfold TG at h|unfold TH at h|unfold TI at h|unfold TJ at h|unfold TK at h|unfold eNtS at h)
 all_goals (split at h;rotate_left; · cases h)
 all_goals (simp only[Option.some.injEq,Prod.mk.injEq] at h;obtain⟨hc,rfl⟩:=h)
 ·exact Te _ rfl
 ·exact tLtS_ok _ rfl
 ·exact tChS_ok _ rfl
 ·exact xZ (Bf _ _ _ _ rfl)
 ·exact xZ (Sk _ rfl)
 ·exact xZ (Sl _ _ rfl)
 ·exact xZ (Kc _ _ _ rfl)
 ·exact xZ (Ke _ _ rfl)
 ·exact xZ (Kg _ _ rfl)
 ·exact xZ (Kh _ hc)
 ·exact xZ (Ki _ hc)
 ·exact Sz _ hc
theorem tRrS_ok (n:List UInt8) (f t m k w d c b v:Int) (l:List UInt8) (hc:true=true):af eE 14 [.agg [.str n,.int .i64 f,.int .i64 t,.int .i64 m,.int .i64 k,.int .i64 w,.int .i64 d,.int .i64 c,.int .i64 b,.int .i64 v,.str l]] (.bool (V7 n f t m k w d c b v l)):=by
 refine ah iY Yy 5 3 ?_
 (rw[tRR_top];(conv=>zeta))
 unfold V7;rw[←yr_eq]
 cases ieq (TF f t) 0<;>cases ieq (fxW f) 0<;>cases ieq (Ti l) 0<;>cases ieq (fF n) 0<;>cases rQ k w d m<;>cases iP c b<;>cases ai (-10800) v<;>cases ai v 10800<;>rfl
theorem tErS_ok (o k v:Int) (r q:List UInt8) (h:Bool) (y m ok ow od c b:Int) (hc:true=true):af eE 17 [.agg [.int .i64 o,.int .i64 k,.int .i64 v,.str r,.str q,.bool h,.int .i64 y,.int .i64 m,.int .i64 ok,.int .i64 ow,.int .i64 od,.int .i64 c,.int .i64 b]] (.bool (Wl o k v r q h y m ok ow od c b)):=by
 refine ah iY Yy 5 3 ?_
 (rw[tER_top];(conv=>zeta);rw[show iX .i64 0 54000= -54000 by decide,show iX .i64 0 10800= -10800 by decide])
 unfold Wl enR
 cases ai (-54000) o with
 |false=>cases ieq k 0<;>cases ieq k 1<;>cases ieq k 2<;>rfl
 |true=>
 cases ai o 54000 with
 |false=>cases ieq k 0<;>cases ieq k 1<;>cases ieq k 2<;>rfl
 |true=>
 cases ieq (jG q) 0 with
 |false=>cases ieq k 0<;>cases ieq k 1<;>cases ieq k 2<;>rfl
 |true=>
 cases h with
 |false=>
  have e:ak (beq false false) (ak (ieq y 0) (ak (ieq m 0) (ak (ak (ieq ok 0) (ak (ieq ow 0) (ieq od 0))) (ak (ieq c 0) (ieq b 0)))))=(ak (ieq y 0) (ak (ieq m 0) (ak (ak (ieq ok 0) (ak (ieq ow 0) (ieq od 0))) (ak (ieq c 0) (ieq b 0))))):=rfl;rw[e];generalize ak (ieq y 0) (ak (ieq m 0) (ak (ak (ieq ok 0) (ak (ieq ow 0) (ieq od 0))) (ak (ieq c 0) (ieq b 0))))=z
  cases z with
  |false=>cases ieq k 0<;>cases ieq k 1<;>cases ieq k 2<;>rfl
  |true=>
  cases ieq k 0 with
  |true=>cases ieq v 0<;>rfl
  |false=>
  cases ieq k 1 with
  |true=>cases ai (-10800) v<;>cases ai v 10800<;>rfl
  |false=>cases ieq k 2<;>cases ieq v 0<;>rfl
 |true=>
  cases aT (-32767) y with
  |false=>cases ieq k 0<;>cases ieq k 1<;>cases ieq k 2<;>rfl
  |true=>
  cases aT y 32767 with
  |false=>cases ieq k 0<;>cases ieq k 1<;>cases ieq k 2<;>rfl
  |true=>
  cases rQ ok ow od m with
  |false=>cases ieq k 0<;>cases ieq k 1<;>cases ieq k 2<;>rfl
  |true=>
  cases iP c b with
  |false=>cases ieq k 0<;>cases ieq k 1<;>cases ieq k 2<;>rfl
  |true=>
  cases ieq k 0 with
  |true=>cases ieq v 0<;>rfl
  |false=>
  cases ieq k 1 with
  |true=>cases ai (-10800) v<;>cases ai v 10800<;>rfl
  |false=>cases ieq k 2<;>cases ieq v 0<;>rfl
def rRng (m v:Int):Bool:=(ak (ak (ai (-9223372036854775808) v) (ai v 9223372036854775807)) (ak (ai (-9223372036854775808) m) (ai m 9223372036854775807)))
def eRng (o v y m:Int):Bool:=(ak (ak (ak (ai (-9223372036854775808) o) (ai o 9223372036854775807)) (ak (ai (-9223372036854775808) v) (ai v 9223372036854775807))) (ak (ak (ai (-9223372036854775808) y) (ai y 9223372036854775807)) (ak (ai (-9223372036854775808) m) (ai m 9223372036854775807))))
namespace T6
noncomputable instance tA:TA where
 fF:=Nt.Ev.YtplklcejbmfgdaaGreatDoor.fF
 rB:=fun n f t m k w d c b v l=>ak (aG (V7 n f t m k w d c b v l)) (rRng m v)
 rG:=fun n f t m k w d c b v l=>ak (V7 n f t m k w d c b v l) (rRng m v)
 rfL:=Nt.Ev.YtplklcejbmfgdaaGreatDoor.rfL
 eB:=fun o k v r q h y m ok ow od c b=>ak (aG (Wl o k v r q h y m ok ow od c b)) (eRng o v y m)
 eG:=fun o k v r q h y m ok ow od c b=>ak (Wl o k v r q h y m ok ow od c b) (eRng o v y m)
 efL:=Nt.Ev.YtplklcejbmfgdaaGreatDoor.efL
 jnG:=fun xs=>ak (jnC xs) (ieq (jnW xs) 0)
 jnT:=Nt.Ev.YtplklcejbmfgdaaGreatDoor.jnT
 ofG:=fun s=>ak (ai (aj s) 4000000) (ieq (Le s) 0)
 bX:=Nt.Ev.YtplklcejbmfgdaaGreatDoor.bX
 rdG:=fun xs=>ak (iN xs) (ieq (OQ xs) 0)
 edG:=fun xs=>ak (iN xs) (ieq (lM xs) 0)
 ckG:=fun s=>ak (ai (aj s) 4000000) (ieq (DD s) 0)
 OC:=Nt.Ev.YtplklcejbmfgdaaGreatDoor.OC
 OD:=Nt.Ev.YtplklcejbmfgdaaGreatDoor.OD
 OE:=Nt.Ev.YtplklcejbmfgdaaGreatDoor.OE
 OH:=Nt.Ev.YtplklcejbmfgdaaGreatDoor.OH
 OI:=Nt.Ev.YtplklcejbmfgdaaGreatDoor.OI
 OJ:=Nt.Ev.YtplklcejbmfgdaaGreatDoor.OJ
 OL:=Nt.Ev.YtplklcejbmfgdaaGreatDoor.OL
 OM:=Nt.Ev.YtplklcejbmfgdaaGreatDoor.OM
 OO:=Nt.Ev.YtplklcejbmfgdaaGreatDoor.OO
 OP:=Nt.Ev.YtplklcejbmfgdaaGreatDoor.OP
 wT:=Nt.Ev.YtplklcejbmfgdaaGreatDoor.wT
 OU:=Nt.Ev.YtplklcejbmfgdaaGreatDoor.OU
 Tm:=Nt.Ev.YtplklcejbmfgdaaGreatDoor.Tm
 OV:=Nt.Ev.YtplklcejbmfgdaaGreatDoor.OV
 Q5:=Nt.Ev.YtplklcejbmfgdaaGreatDoor.Q5
 Q6:=Nt.Ev.YtplklcejbmfgdaaGreatDoor.Q6
 F6:=Nt.Ev.YtplklcejbmfgdaaGreatDoor.F6
 OW:=Nt.Ev.YtplklcejbmfgdaaGreatDoor.OW
 OX:=Nt.Ev.YtplklcejbmfgdaaGreatDoor.OX
 Tn:=Nt.Ev.YtplklcejbmfgdaaGreatDoor.Tn
 Tp:=Nt.Ev.YtplklcejbmfgdaaGreatDoor.Tp
 Ag:=Nt.Ev.YtplklcejbmfgdaaGreatDoor.Ag
 Ah:=Nt.Ev.YtplklcejbmfgdaaGreatDoor.Ah
 Ai:=Nt.Ev.YtplklcejbmfgdaaGreatDoor.Ai
theorem n1:aG (ieq (fF [49]) 10)=false:=by
 have h:Nt.Ev.YtplklcejbmfgdaaGreatDoor.fF [49]=10:=by decide
 show aG (ieq (Nt.Ev.YtplklcejbmfgdaaGreatDoor.fF [49]) 10)=false;rw[h];rfl
theorem bN:aG true=false:=rfl
end T6
end Nt.Ev.YtplklcejbmfgdaaGreatDoor
