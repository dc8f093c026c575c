/-
  The reader of sources: its cells, what each step makes of them.
-/
import Derived.Test.YtknhlobahpgkeaaGreatDoorMN
import Derived.Test.YtknhlobahpgkeaaGreatDoorMO
import Derived.Test.YtknhlobahpgkeaaGreatDoorMQ
import Derived.Test.YtknhlobahpgkeaaGreatDoorMR
set_option linter.all false
set_option maxRecDepth 100000
namespace Nt.Ev.YtknhlobahpgkeaaGreatDoor.Rr
open Go Nt.Num Nt.Civil Nt.Fld Go.Proofs.YtknhlobahpgkeaaGreatDoor Nt.Ev.YtknhlobahpgkeaaGreatDoor Nt.Ev.YtknhlobahpgkeaaGreatDoor.Lk
variable [kM]
abbrev kE:List Kd:=[Kd.int .i64,Kd.int .i64,Kd.int .i64,Kd.str,Kd.str,Kd.bool,Kd.int .i64,Kd.int .i64,Kd.int .i64,Kd.int .i64,Kd.int .i64,Kd.int .i64,Kd.int .i64]
abbrev kR:List Kd:=[Kd.str,Kd.int .i64,Kd.int .i64,Kd.int .i64,Kd.int .i64,Kd.int .i64,Kd.int .i64,Kd.int .i64,Kd.int .i64,Kd.int .i64,Kd.str]
abbrev kL:List Kd:=[Kd.str,Kd.str]
abbrev kZ:List Kd:=[Kd.str,Kd.sl 48 kE]
abbrev kI:List Kd:=[Kd.int .i64]
abbrev kW:List Kd:=[Kd.sl 3 kI]
def xL:V→ah
 | .sl _ _ _ xs=>xs
 | .slz _ _ _ xs _ _ _ _ _ _=>xs
 |_=>[]
def xI:V→Int
 | .slz _ _ _ _ _ i _ _ _ _=>i
 |_=>0
def xY:V→ah
 | .slz _ _ _ _ _ _ _ _ _ ys=>ys
 |_=>[]
def YV (L e:Nat) (k:List Kd):V→Bool
 | .sl a b (some L') _=>(L==L'&&e==a)&&Kd.Cs k b
 |_=>false
def labZ (L e:Nat) (k:List Kd) (L2 c i:Nat) (f:List Kd):V→Bool
 | .slz L' g h _ (some L2') _ d a b _=>((L==L'&&e==g)&&(Kd.Cs k h&&L2==L2'))&&((c==d&&i==a)&&Kd.Cs f b)
 |_=>false
def isN:V→Bool
 | .nilsl=>true
 |_=>false
def okL (c0 d a e c b:V):Bool:=(YV 1000001001 50 kR c0&&labZ 1000001002 54 kZ 1000001502 1 48 kE d)&&((YV 1000001003 56 kL a&&YV 1000001004 3 kI e)&&(labZ 1000001005 29 kW 1000001505 0 3 kI c&&YV 1000001006 3 kI b))
def okN (c0 d a e c b:V):Bool:=(isN c0&&isN d)&&((isN a&&isN e)&&(isN c&&isN b))
def okB (c0 d a e c b:V):Bool:=okL c0 d a e c b||okN c0 d a e c b
abbrev oU (rs zs ks wr we wl:ah) (iz:Int) (yz:ah) (ie:Int) (ye:ah) (ln op:Int):ah:=[V.sl 50 kR (some 1000001001) rs,V.slz 1000001002 54 kZ zs (some 1000001502) iz 1 48 kE yz,V.sl 56 kL (some 1000001003) ks,V.sl 3 kI (some 1000001004) wr,V.slz 1000001005 29 kW we (some 1000001505) ie 0 3 kI ye,V.sl 3 kI (some 1000001006) wl,V.int .i64 ln,V.int .i64 op]
abbrev bxn (rs zs ks wr we wl:ah) (iz:Int) (yz:ah) (ie:Int) (ye:ah) (ln op:Int):ah:=[V.sl 50 kR (some 1001) rs,V.slz 1002 54 kZ zs (some 1502) iz 1 48 kE yz,V.sl 56 kL (some 1003) ks,V.sl 3 kI (some 1004) wr,V.slz 1005 29 kW we (some 1505) ie 0 3 kI ye,V.sl 3 kI (some 1006) wl,V.int .i64 ln,V.int .i64 op]
abbrev gU (ln e:Int):V:=.iface 58 (.agg [.int .i64 ln,.int .i64 e])
abbrev tbV (a b c d e f:ah) (l w:Int):V:=.tup [.agg [.sl 50 kR none a,.sl 54 kZ none b,.sl 56 kL none c],.agg [.sl 3 kI none d,.sl 29 kW none e,.sl 3 kI none f],.agg [.int .i64 l,.int .i64 w]]
abbrev nlV (l w:Int):V:=.tup [.agg [.nilsl,.nilsl,.nilsl],.agg [.nilsl,.nilsl,.nilsl],.agg [.int .i64 l,.int .i64 w]]
noncomputable def MG (xs:ah):V:=.agg [.str (Tx xs),.int .i64 (Ty xs),.int .i64 (Tz xs),.int .i64 (TB xs),.int .i64 (TC xs),.int .i64 (TD xs),.int .i64 (TE xs),.int .i64 (TF xs),.int .i64 (TG xs),.int .i64 (TH xs),.str (zf xs)]
noncomputable def Te (xs:ah):V:=.agg [.str (lrT xs),.str (lrN xs)]
noncomputable def qh (xs:ah):V:=.agg [.int .i64 (S9 xs),.int .i64 (VY xs),.int .i64 (Ta xs),.str (TI xs),.str (TJ xs),.bool (E6 xs),.int .i64 (Tc xs),.int .i64 (Td xs),.int .i64 (VZ xs),.int .i64 (V2 xs),.int .i64 (Aw xs),.int .i64 (Ay xs),.int .i64 (Az xs)]
def V3 (xs:ah):Bool:=decide (xs.length≤16000000)
def lX (e n m:Int):Int:=if e≠0 then e else if n<m then 0 else 17
noncomputable def AA (rs xs:ah):Int:=lX (Mx xs) (ay rs) 4096
noncomputable def AB (ks xs:ah):Int:=lX (Pq xs) (ay ks) 1024
noncomputable def zi (yz xs:ah):Int:=lX (kK xs) (ay yz) 256
noncomputable def erC (zs:ah) (iz:Int) (yz we:ah) (ie:Int) (ye xs:ah):Bool:=decide (gN xs=true∧(0<zs.length∧zs.length≤16000000)∧iz=(zs.length:Int)-1∧yz.length≤16000000∧(0<we.length∧we.length≤16000000)∧ie=(we.length:Int)-1∧ye.length≤16000000)
noncomputable def mG (zs yz xs:ah):ah:=oz zs (ay zs-1) (aset (aG zs (ay zs-1)) 1 (.sl 48 kE none (aX yz [qh xs])))
def rM (we ye:ah) (ln:Int):ah:=oz we (ay we-1) (.sl 3 kI none (aX ye [.int .i64 ln]))
noncomputable def jB (xs:ah) (ln:Int):Int:=if E6 xs=true then ln else 0
noncomputable def znC (zs we xs:ah):Bool:=decide (gN xs=true∧zs.length≤15000000∧we.length≤15000000)
abbrev tl1 (xs:ah):ah:=fo xs 1 (ay xs)
noncomputable def vz (zs xs:ah):Int:=if ay xs=0 then 5 else if dG (aH (ai (aG xs 0) 0))≠0 then dG (aH (ai (aG xs 0) 0)) else lX (kK (tl1 xs)) (ay zs) 1024
noncomputable def tN (zs xs:ah):ah:=aX zs [.agg [.str (aH (ai (aG xs 0) 0)),.sl 48 kE none [qh (tl1 xs)]]]
def AF (we:ah) (ln:Int):ah:=aX we [.sl 3 kI none [.int .i64 ln]]
abbrev E7:ah:=[.str [82,117,108,101],.str [90,111,110,101],.str [76,105,110,107]]
def wsR (a:ah):Bool:=uO a
noncomputable def gz (op:Int) (s:af):Nat:=if ay (bY s)=0 then 4 else if 0<op then 3 else(mo (aH (ai (aG (bY s) 0) 0)) E7).toNat
noncomputable def kN (rs zs ks yz:ah) (op:Int) (s:af):Int:=if Ai s≠0 then Ai s else if MF s≠0 then MF s else if ay (bY s)=0 then 0 else if 0<op then zi yz (bY s) else
 if oP (aH (ai (aG (bY s) 0) 0)) E7≠0 then oP (aH (ai (aG (bY s) 0) 0)) E7 else if mo (aH (ai (aG (bY s) 0) 0)) E7=0 then AA rs (tl1 (bY s)) else if mo (aH (ai (aG (bY s) 0) 0)) E7=1 then vz zs (tl1 (bY s)) else AB ks (tl1 (bY s))
noncomputable def J2 (rs zs:ah) (iz:Int) (yz wr we:ah) (ie:Int) (ye wl:ah) (op:Int) (s:af):Bool:=decide (s.length≤4000000∧zs.length≤15000000∧we.length≤15000000∧yz.length≤16000000∧ye.length≤16000000∧wr.length≤16000000∧wl.length≤16000000∧(0<op→0<zs.length∧iz=(zs.length:Int)-1∧0<we.length∧ie=(we.length:Int)-1))
noncomputable def qV (rs:ah) (op:Int) (s:af):ah:=if gz op s=0 then aX rs [MG (tl1 (bY s))] else rs
noncomputable def qW (zs yz:ah) (op:Int) (s:af):ah:=if gz op s=3 then mG zs yz (bY s) else if gz op s=1 then tN zs (tl1 (bY s)) else zs
noncomputable def qX (ks:ah) (op:Int) (s:af):ah:=if gz op s=2 then aX ks [Te (tl1 (bY s))] else ks
noncomputable def uR (wr:ah) (ln op:Int) (s:af):ah:=if gz op s=0 then aX wr [.int .i64 ln] else wr
noncomputable def uT (we ye:ah) (ln op:Int) (s:af):ah:=if gz op s=3 then rM we ye ln else if gz op s=1 then AF we ln else we
noncomputable def uU (wl:ah) (ln op:Int) (s:af):ah:=if gz op s=2 then aX wl [.int .i64 ln] else wl
noncomputable def uV (iz:Int) (zs:ah) (op:Int) (s:af):Int:=if gz op s=1 then ay zs else iz
noncomputable def qY (yz:ah) (op:Int) (s:af):ah:=if gz op s=3 then aX yz [qh (bY s)] else if gz op s=1 then[qh (tl1 (tl1 (bY s)))] else yz
noncomputable def uW (ie:Int) (we:ah) (op:Int) (s:af):Int:=if gz op s=1 then ay we else ie
noncomputable def uX (ye:ah) (ln op:Int) (s:af):ah:=if gz op s=3 then aX ye [.int .i64 ln] else if gz op s=1 then[.int .i64 ln] else ye
noncomputable def oD (op ln:Int) (s:af):Int:=if gz op s=3 then jB (bY s) ln else if gz op s=1 then jB (tl1 (tl1 (bY s))) ln else op
noncomputable def rRuS:aC:=fun a=>match a with|[.sl 9 [.str] none xs]=>some (gN xs,.tup [.agg [.str (Tx xs),.int .i64 (Ty xs),.int .i64 (Tz xs),.int .i64 (TB xs),.int .i64 (TC xs),.int .i64 (TD xs),.int .i64 (TE xs),.int .i64 (TF xs),.int .i64 (TG xs),.int .i64 (TH xs),.str (zf xs)],.int .i64 (Mx xs)])|_=>none
noncomputable def rLkS:aC:=fun a=>match a with|[.sl 9 [.str] none xs]=>some (true,.tup [.agg [.str (lrT xs),.str (lrN xs)],.int .i64 (Pq xs)])|_=>none
noncomputable def rNmS:aC:=fun a=>match a with|[.str s]=>some (true,.int .i64 (dG s))|_=>none
noncomputable def rMtS:aC:=fun a=>match a with|[.str s,.sl e [.str] o ws]=>some (ak (av (aA s) 1000) (wsR ws),.tup [.int .i64 (mo s ws),.int .i64 (oP s ws)])|_=>none
noncomputable def rOfS:aC:=fun a=>match a with|[.str s]=>some (av (aA s) 4000000,.tup [.sl 9 [.str] none (bY s),.int .i64 (MF s)])|_=>none
noncomputable def rCkS:aC:=fun a=>match a with|[.str s]=>some (av (aA s) 4000000,.int .i64 (Ai s))|_=>none
noncomputable def rLnS:aC:=fun a=>match a with|[.str s]=>some (av (aA s) 4000000,.sl 9 [.str] none (iN s))|_=>none
noncomputable def rFaS:aC:=fun a=>match a with|[.bxa 0 [c0,c1,c2,c3,c4,c5,.int .i64 ln,c7],.int .i64 e]=>some (true,.ni (ieq e 0) (.keep false (.tup [])) (.keep true (gU ln e)))|_=>none
noncomputable def rRoS:aC:=fun a=>match a with|[.bxa 0 [c0,c1,c2,c3,c4,c5,.int .i64 ln,c7],.int .i64 n,.int .i64 m]=>some (true,.ni (aW n m) (.keep false (.tup [])) (.keep true (gU ln 17)))|_=>none
noncomputable def rS0:List (Nat×aC):=(KX+23,rFaS)::(KX+74,rRoS)::(77,rRuS)::(73,eRdS)::(66,rLkS)::(38,rNmS)::(46,rMtS)::(44,rOfS)::(43,rCkS)::(24,rLnS)::[]
noncomputable def rRuleS:aC:=fun a=>match a with|[.bxa 0 [c0,c1,c2,c3,c4,c5,.int .i64 ln,.int .i64 op],.sl 9 [.str] none xs]=>some (bif okL c0 c1 c2 c3 c4 c5 then ak (gN xs) (V3 (xL c3)) else false,.ni (ieq (AA (xL c0) xs) 0) (.out false (.tup []) [oU (aX (xL c0) [MG xs]) (xL c1) (xL c2) (aX (xL c3) [.int .i64 ln]) (xL c4) (xL c5) (xI c1) (xY c1) (xI c4) (xY c4) ln op]) (.out true (gU ln (AA (xL c0) xs)) [oU (xL c0) (xL c1) (xL c2) (xL c3) (xL c4) (xL c5) (xI c1) (xY c1) (xI c4) (xY c4) ln op]))|_=>none
noncomputable def rLinkS:aC:=fun a=>match a with|[.bxa 0 [c0,c1,c2,c3,c4,c5,.int .i64 ln,.int .i64 op],.sl 9 [.str] none xs]=>some (bif okL c0 c1 c2 c3 c4 c5 then V3 (xL c5) else false,.ni (ieq (AB (xL c2) xs) 0) (.out false (.tup []) [oU (xL c0) (xL c1) (aX (xL c2) [Te xs]) (xL c3) (xL c4) (aX (xL c5) [.int .i64 ln]) (xI c1) (xY c1) (xI c4) (xY c4) ln op]) (.out true (gU ln (AB (xL c2) xs)) [oU (xL c0) (xL c1) (xL c2) (xL c3) (xL c4) (xL c5) (xI c1) (xY c1) (xI c4) (xY c4) ln op]))|_=>none
noncomputable def rEraS:aC:=fun a=>match a with|[.bxa 0 [c0,c1,c2,c3,c4,c5,.int .i64 ln,.int .i64 op],.sl 9 [.str] none xs]=>some (bif okL c0 c1 c2 c3 c4 c5 then erC (xL c1) (xI c1) (xY c1) (xL c4) (xI c4) (xY c4) xs else false,.ni (ieq (zi (xY c1) xs) 0) (.out false (.tup []) [oU (xL c0) (mG (xL c1) (xY c1) xs) (xL c2) (xL c3) (rM (xL c4) (xY c4) ln) (xL c5) (xI c1) (aX (xY c1) [qh xs]) (xI c4) (aX (xY c4) [.int .i64 ln]) ln (jB xs ln)]) (.out true (gU ln (zi (xY c1) xs)) [oU (xL c0) (xL c1) (xL c2) (xL c3) (xL c4) (xL c5) (xI c1) (xY c1) (xI c4) (xY c4) ln op]))|_=>none
noncomputable def rZoneS:aC:=fun a=>match a with|[.bxa 0 [c0,c1,c2,c3,c4,c5,.int .i64 ln,.int .i64 op],.sl 9 [.str] none xs]=>some (bif okL c0 c1 c2 c3 c4 c5 then znC (xL c1) (xL c4) xs else false,.ni (ieq (vz (xL c1) xs) 0) (.out false (.tup []) [oU (xL c0) (tN (xL c1) xs) (xL c2) (xL c3) (AF (xL c4) ln) (xL c5) (ay (xL c1)) [qh (fo xs 1 (ay xs))] (ay (xL c4)) [.int .i64 ln] ln (jB (fo xs 1 (ay xs)) ln)]) (.out true (gU ln (vz (xL c1) xs)) [oU (xL c0) (xL c1) (xL c2) (xL c3) (xL c4) (xL c5) (xI c1) (xY c1) (xI c4) (xY c4) ln op]))|_=>none
noncomputable def rReadS:aC:=fun a=>match a with|[.bxa 0 [c0,c1,c2,c3,c4,c5,.int .i64 ln,.int .i64 op],.str s]=>some (bif okB c0 c1 c2 c3 c4 c5 then J2 (xL c0) (xL c1) (xI c1) (xY c1) (xL c3) (xL c4) (xI c4) (xY c4) (xL c5) op s else false,.ni (ieq (kN (xL c0) (xL c1) (xL c2) (xY c1) op s) 0) (.out false (.tup []) [oU (qV (xL c0) op s) (qW (xL c1) (xY c1) op s) (qX (xL c2) op s) (uR (xL c3) ln op s) (uT (xL c4) (xY c4) ln op s) (uU (xL c5) ln op s) (uV (xI c1) (xL c1) op s) (qY (xY c1) op s) (uW (xI c4) (xL c4) op s) (uX (xY c4) ln op s) ln (oD op ln s)]) (.out true (gU ln (kN (xL c0) (xL c1) (xL c2) (xY c1) op s)) [oU (xL c0) (xL c1) (xL c2) (xL c3) (xL c4) (xL c5) (xI c1) (xY c1) (xI c4) (xY c4) ln op]))|_=>none
noncomputable def rS1:List (Nat×aC):=(GX+45,rEraS)::rS0
noncomputable def rS2:List (Nat×aC):=(GX+47,rRuleS)::(GX+49,rLinkS)::(GX+48,rZoneS)::rS1
noncomputable def rS3:List (Nat×aC):=(GX+25,rReadS)::rS0
theorem aea (F rs zs ks wr we wl ln op iz ie yz ye xs) (K:V→Option V):
 bA eE (bu eE rS0 F 3) F 47 [V.bxa 0 (oU rs zs ks wr we wl iz yz ie ye ln op),V.sl 9 [Kd.str] none xs] K=
 let A:=V.int .i64 ln;let B:=[oU rs zs ks wr we wl iz yz ie ye ln op];let C:=[Kd.int .i64];sel (gN xs) (sel (ieq (Mx xs) 0) (sel (aW (ay rs) 4096) (sel (eD rs [MG xs]) (sel (eD wr [A]) (K (V.out false (V.tup []) [[V.sl 50 kR (some 1000001001) (aX rs [MG xs]),V.slz 1000001002 54 kZ zs (some 1000001502) iz 1 48 kE yz,V.sl 56 kL (some 1000001003) ks,V.sl 3 C (some 1000001004) (aX wr [A]),V.slz 1000001005 29 kW we (some 1000001505) ie 0 3 C ye,V.sl 3 C (some 1000001006) wl,A,V.int .i64 op]])) none) none) (K (V.out true (V.iface 58 (V.agg [A,V.int .i64 17])) B))) (K (V.out true (V.iface 58 (V.agg [A,V.int .i64 (Mx xs)])) B))) none:=by kernel_rfl
theorem aeb (F rs zs ks wr we wl ln op iz ie yz ye xs) (K:V→Option V):
 bA eE (bu eE rS0 F 3) F 49 [V.bxa 0 (oU rs zs ks wr we wl iz yz ie ye ln op),V.sl 9 [Kd.str] none xs] K=
 let A:=V.int .i64 ln;let B:=[V.agg [V.str (lrT xs),V.str (lrN xs)]];let C:=[oU rs zs ks wr we wl iz yz ie ye ln op];let D:=[Kd.int .i64];sel (ieq (Pq xs) 0) (sel (aW (ay ks) 1024) (sel (eD ks B) (sel (eD wl [A]) (K (V.out false (V.tup []) [[V.sl 50 kR (some 1000001001) rs,V.slz 1000001002 54 kZ zs (some 1000001502) iz 1 48 kE yz,V.sl 56 kL (some 1000001003) (aX ks B),V.sl 3 D (some 1000001004) wr,V.slz 1000001005 29 kW we (some 1000001505) ie 0 3 D ye,V.sl 3 D (some 1000001006) (aX wl [A]),A,V.int .i64 op]])) none) none) (K (V.out true (V.iface 58 (V.agg [A,V.int .i64 17])) C))) (K (V.out true (V.iface 58 (V.agg [A,V.int .i64 (Pq xs)])) C)):=by kernel_rfl
theorem aec (F rs zs ks wr we wl ln op iz ie yz ye xs) (K:V→Option V):
 bA eE (bu eE rS0 F 3) F 45 [V.bxa 0 (oU rs zs ks wr we wl iz yz ie ye ln op),V.sl 9 [Kd.str] none xs] K=
 let C:=dw .i64 (ay zs) 1;let D:=V.int .i64 ln;let E:=dw .i64 (ay we) 1;let G:=[Kd.int .i64];let H:=[oU rs zs ks wr we wl iz yz ie ye ln op];let I:=V.sl 50 kR (some 1000001001) rs;let J:=V.sl 56 kL (some 1000001003) ks;let N:=aX yz [qh xs];let A:=V.slz 1000001002 54 kZ (oz zs C (aset (aG zs C) 1 (V.sl 48 kE none N))) (some 1000001502) C 1 48 kE N;let B:=V.slz 1000001005 29 kW (oz we E (V.sl 3 G none (aX ye [D]))) (some 1000001505) E 0 3 G (aX ye [D]);let L:=V.sl 3 G (some 1000001004) wr;let M:=V.sl 3 G (some 1000001006) wl;sel (ak (av 0 C) (aW C (ay zs))) (sel (gN xs) (sel (ieq (kK xs) 0) (sel (ieq C iz) (sel (aW (ay yz) 256) (sel (ieq C iz) (sel (eD yz [qh xs]) (sel (ak (av 0 E) (aW E (ay we))) (sel (ieq E ie) (sel (eD ye [D]) (sel (E6 xs) (K (V.out false (V.tup []) [[I,A,J,L,B,M,D,D]])) (K (V.out false (V.tup []) [[I,A,J,L,B,M,D,V.int .i64 0]]))) none) none) none) none) none) (K (V.out true (V.iface 58 (V.agg [D,V.int .i64 17])) H))) none) (K (V.out true (V.iface 58 (V.agg [D,V.int .i64 (kK xs)])) H))) none) none:=by kernel_rfl
theorem aed (F rs zs ks wr we wl ln op iz ie yz ye xs) (K:V→Option V):
 bA eE (bu eE rS1 F 3) F 48 [V.bxa 0 (oU rs zs ks wr we wl iz yz ie ye ln op),V.sl 9 [Kd.str] none xs] K=
 let B:=fo xs 1 (ay xs);let C:=[oU rs zs ks wr we wl iz yz ie ye ln op];let D:=V.int .i64 ln;let E:=[Kd.int .i64];let G:=aH (ai (aG xs 0) 0);let H:=aX we [V.nilsl];let I:=ak (av 0 0) (aW 0 (ay xs));let J:=ak (av 0 1) (av 1 (ay xs));let L:=V.sl 50 kR (some 1000001001) rs;let M:=V.sl 56 kL (some 1000001003) ks;let A:=[V.agg [V.str G,V.nilsl]];let N:=V.sl 3 E (some 1000001004) wr;let O:=V.sl 3 E (some 1000001006) wl;let P:=aX zs A;sel (ieq (ay xs) 0) (K (V.out true (V.iface 58 (V.agg [D,V.int .i64 5])) C)) (sel I (sel (ieq (dG G) 0) (sel J (sel (gN B) (sel (ieq (kK B) 0) (sel (aW (ay zs) 1024) (sel I (sel (eD zs A) (sel (eD we [V.nilsl]) (sel J (sel (erC P (ay zs) [] H (ay we) [] B) (sel (ieq (zi [] B) 0) (K (V.out false (V.tup []) [[L,V.slz 1000001002 54 kZ (mG P [] B) (some 1000001502) (ay zs) 1 48 kE (aX [] [qh B]),M,N,V.slz 1000001005 29 kW (rM H [] ln) (some 1000001505) (ay we) 0 3 E (aX [] [D]),O,D,V.int .i64 (jB B ln)]])) (K (V.out true (V.iface 58 (V.agg [D,V.int .i64 (zi [] B)])) [[L,V.slz 1000001002 54 kZ P (some 1000001502) (ay zs) 1 48 kE [],M,N,V.slz 1000001005 29 kW H (some 1000001505) (ay we) 0 3 E [],O,D,V.int .i64 op]]))) none) none) none) none) none) (K (V.out true (V.iface 58 (V.agg [D,V.int .i64 17])) C))) (K (V.out true (V.iface 58 (V.agg [D,V.int .i64 (kK B)])) C))) none) none) (K (V.out true (V.iface 58 (V.agg [D,V.int .i64 (dG G)])) C))) none):=by kernel_rfl
theorem aee (F rs zs ks wr we wl ln op iz ie yz ye s) (K:V→Option V):
 bA eE (bu eE rS2 F 3) F 25 [V.bxa 0 (oU rs zs ks wr we wl iz yz ie ye ln op),V.str s] K=
 let A:=[V.str [82,117,108,101],V.str [90,111,110,101],V.str [76,105,110,107]];let C:=[oU rs zs ks wr we wl iz yz ie ye ln op];let D:=V.int .i64 ln;let E:=aH (ai (aG (bY s) 0) 0);let G:=[Kd.int .i64];let I:=V.sl 50 kR (some 1000001001) rs;let J:=V.sl 56 kL (some 1000001003) ks;let N:=V.slz 1000001002 54 kZ zs (some 1000001502) iz 1 48 kE yz;let P:=ay (bY s);let Q:=V.tup [];let R:=av (aA s) 4000000;let T:=zi yz (bY s);let B:=fo (bY s) 1 P;let H:=ak (av 0 1) (av 1 P);let L:=V.sl 3 G (some 1000001004) wr;let M:=V.sl 3 G (some 1000001006) wl;let O:=V.slz 1000001005 29 kW we (some 1000001505) ie 0 3 G ye;let S:=fo B 1 (ay B);sel R (sel (ieq (Ai s) 0) (sel R (sel (ieq (MF s) 0) (sel (ieq P 0) (K (V.out false Q C)) (sel (aW 0 op) (sel (erC zs iz yz we ie ye (bY s)) (sel (ieq T 0) (K (V.out false Q [[I,V.slz 1000001002 54 kZ (mG zs yz (bY s)) (some 1000001502) iz 1 48 kE (aX yz [qh (bY s)]),J,L,V.slz 1000001005 29 kW (rM we ye ln) (some 1000001505) ie 0 3 G (aX ye [D]),M,D,V.int .i64 (jB (bY s) ln)]])) (K (V.out true (V.iface 58 (V.agg [D,V.int .i64 T])) C))) none) (sel (ak (av 0 0) (aW 0 P)) (sel (ak (av (aA E) 1000) (wsR A)) (sel (ieq (oP E A) 0) (sel (ieq (mo E A) 0) (sel H (sel (ak (gN B) (V3 wr)) (sel (ieq (AA rs B) 0) (K (V.out false Q [[V.sl 50 kR (some 1000001001) (aX rs [MG B]),N,J,V.sl 3 G (some 1000001004) (aX wr [D]),O,M,D,V.int .i64 op]])) (K (V.out true (V.iface 58 (V.agg [D,V.int .i64 (AA rs B)])) C))) none) none) (sel (ieq (mo E A) 1) (sel H (sel (znC zs we B) (sel (ieq (vz zs B) 0) (K (V.out false Q [[I,V.slz 1000001002 54 kZ (tN zs B) (some 1000001502) (ay zs) 1 48 kE [qh S],J,L,V.slz 1000001005 29 kW (AF we ln) (some 1000001505) (ay we) 0 3 G [D],M,D,V.int .i64 (jB S ln)]])) (K (V.out true (V.iface 58 (V.agg [D,V.int .i64 (vz zs B)])) C))) none) none) (sel (ieq (mo E A) 2) (sel H (sel (V3 wl) (sel (ieq (AB ks B) 0) (K (V.out false Q [[I,N,V.sl 56 kL (some 1000001003) (aX ks [Te B]),L,O,V.sl 3 G (some 1000001006) (aX wl [D]),D,V.int .i64 op]])) (K (V.out true (V.iface 58 (V.agg [D,V.int .i64 (AB ks B)])) C))) none) none) none))) (K (V.out true (V.iface 58 (V.agg [D,V.int .i64 (oP E A)])) C))) none) none))) (K (V.out true (V.iface 58 (V.agg [D,V.int .i64 (MF s)])) C))) none) (K (V.out true (V.iface 58 (V.agg [D,V.int .i64 (Ai s)])) C))) none:=by kernel_rfl
end Nt.Ev.YtknhlobahpgkeaaGreatDoor.Rr
namespace Go.Proofs.YtknhlobahpgkeaaGreatDoor
open Go Go.RowKit Go.Shelf Nt Nt.Ev
set_option maxRecDepth 100000 in
set_option maxHeartbeats 2000000 in
theorem VK (g:Nat) (w:World):Calls Tryz.prog 23 #[.pointer (some ⟨g,0,none⟩),.int .i64 0] w fun ex w'=>ex=.returned (.tuple #[])∧Below w.heap.size w w':=by
 go_enter Tryz.func23,Tryz.ntmps23
 go_wp2
 exact⟨rfl,.tuple #[],by kernel_rfl,rfl,Below.refl _ _⟩
set_option maxRecDepth 100000 in
set_option maxHeartbeats 2000000 in
theorem VL (g:Nat) (w:World) (ln e:Int) (he:e≠0) (h6:w.cell? ⟨g,6,none⟩=some (.int .i64 ln)):Calls Tryz.prog 23 #[.pointer (some ⟨g,0,none⟩),.int .i64 e] w fun ex w'=>ex=.panicked [{v:=.iface 58 (.agg #[.int .i64 ln,.int .i64 e]),recovered:=false}]∧Below w.heap.size w w':=by
 go_enter Tryz.func23,Tryz.ntmps23
 go_wp2
 exact⟨rfl,rfl,Below.refl _ _⟩
set_option maxRecDepth 100000 in
set_option maxHeartbeats 2000000 in
theorem VM (g:Nat) (w:World) (n m:Int) (h:n<m):Calls Tryz.prog 74 #[.pointer (some ⟨g,0,none⟩),.int .i64 n,.int .i64 m] w fun ex w'=>ex=.returned (.tuple #[])∧Below w.heap.size w w':=by
 go_enter Tryz.func74,Tryz.ntmps74
 go_wp2
 exact⟨rfl,.tuple #[],by kernel_rfl,rfl,Below.refl _ _⟩
set_option maxRecDepth 100000 in
set_option maxHeartbeats 2000000 in
theorem VN (g:Nat) (w:World) (ln n m:Int) (h: ¬n<m) (h6:w.cell? ⟨g,6,none⟩=some (.int .i64 ln)):Calls Tryz.prog 74 #[.pointer (some ⟨g,0,none⟩),.int .i64 n,.int .i64 m] w fun ex w'=>ex=.panicked [{v:=.iface 58 (.agg #[.int .i64 ln,.int .i64 17]),recovered:=false}]∧Below w.heap.size w w':=by
 go_enter Tryz.func74,Tryz.ntmps74
 go_wp2
 exact⟨rfl,rfl,rfl,Below.refl _ _⟩
end Go.Proofs.YtknhlobahpgkeaaGreatDoor
namespace Nt.Ev.YtknhlobahpgkeaaGreatDoor.Rr
open Go Go.RowKit Nt Nt.Num Nt.Civil Nt.Fld Go.Proofs.YtknhlobahpgkeaaGreatDoor Nt.Ev Nt.Ev.YtknhlobahpgkeaaGreatDoor
variable [kM]
theorem BH {E:Env} {B:Own} {G0:aU} {r w:World} {s:St} {g:Gh} {a:Act} (h:Inv E B G0 r s g a w) {k i:Nat} {l:ah} {n:Int} (p:aJ s.bx k=some l) (o:l[i]? =some (.int .i64 n)) {v:Value} (j:aT g (.box k 0) v):
  ∃b,v=.pointer (some ⟨b,0,none⟩)∧w.cell? ⟨b,i,none⟩=some (.int .i64 n):=by
 obtain⟨b,t,j⟩:=dV.1 j;obtain⟨u,c,e,d,_,q,m,_⟩:=h.bxs.1 k l p;rw[t] at d;simp only[aR] at d;subst d;refine⟨b,j,?_⟩;rw[Lib.cell_of_heap q];have f:i<c.toList.length:=by rw[←m.1];exact(List.getElem?_eq_some_iff.1 o).1
 have:=m.2 i (.int .i64 n) c.toList[i] o (iZ f);simp only[aT,bP] at this;unfold aV at this;rw[←Array.getElem?_toList,iZ f,this]
theorem CY {g:Gh} {n:Int} {v:Value} (h:aT g (.int .i64 n) v):v=.int .i64 n:=by simp only[aT,bP] at h;unfold aV at h;exact h
theorem rFaS_ok (c0 k l m q o:V) (ln:Int) (j:V) (e:Int) (F:true=true): ∃p x,pE (.ni (ieq e 0) (.keep false (.tup [])) (.keep true (gU ln e)))=.keep p x∧KC eE 23 [.bxa 0 [c0,k,l,m,q,o,.int .i64 ln,j],.int .i64 e] p x:=by
 have c:bR 0 [.bxa 0 [c0,k,l,m,q,o,.int .i64 ln,j],.int .i64 e]=[.box HL 0,.int .i64 e]:=rfl;have d:aJ (dI 0 [.bxa 0 [c0,k,l,m,q,o,.int .i64 ln,j],.int .i64 e]) HL=some [c0,k,l,m,q,o,.int .i64 ln,j]:=rfl;by_cases A:e=0
 ·subst A
  refine⟨false,.tup [],rfl,fun B g w vs t h=>?_⟩;have a:=h.fr;rw[c] at a;obtain⟨v,D,f,r,a⟩:=a.cons_inv;obtain⟨y,t1,z,u,a⟩:=a.cons_inv;obtain rfl:=a.di;subst z;have f:vs=[v,y]:=f;subst f;obtain⟨b,s,_⟩:=BH h d (i:=6) (n:=ln) rfl r;rw[s,CY u];refine(VK b w).mono ?_;rintro C w' ⟨rfl,hB⟩;exact⟨_,rfl,⟨rfl,rfl⟩,hB⟩
 refine⟨true,gU ln e,by rw[show ieq e 0=false from by unfold ieq;simpa using A];rfl,fun B g w vs t h=>?_⟩;have a:=h.fr;rw[c] at a;obtain⟨v,D,f,r,a⟩:=a.cons_inv;obtain⟨y,t1,z,u,a⟩:=a.cons_inv;obtain rfl:=a.di;subst z;have f:vs=[v,y]:=f;subst f;obtain⟨b,s,E⟩:=BH h d (i:=6) (n:=ln) rfl r;rw[s,CY u];refine(VL b w ln e A E).mono ?_;rintro C w' ⟨rfl,hB⟩;exact⟨_,rfl,rfl,hB⟩
theorem rRoS_ok (c0 j k l q o:V) (ln:Int) (h:V) (n m:Int) (I:true=true): ∃p x,pE (.ni (aW n m) (.keep false (.tup [])) (.keep true (gU ln 17)))=.keep p x∧KC eE 74 [.bxa 0 [c0,j,k,l,q,o,.int .i64 ln,h],.int .i64 n,.int .i64 m] p x:=by
 have c:bR 0 [.bxa 0 [c0,j,k,l,q,o,.int .i64 ln,h],.int .i64 n,.int .i64 m]=[.box HL 0,.int .i64 n,.int .i64 m]:=rfl;have d:aJ (dI 0 [.bxa 0 [c0,j,k,l,q,o,.int .i64 ln,h],.int .i64 n,.int .i64 m]) HL=some [c0,j,k,l,q,o,.int .i64 ln,h]:=rfl;by_cases E:n<m
 ·refine⟨false,.tup [],by rw[bH E];rfl,fun B g w vs u f=>?_⟩
  have a:=f.fr;rw[c] at a;obtain⟨z,G,e,s,a⟩:=a.cons_inv;obtain⟨C,t1,D,y,a⟩:=a.cons_inv;obtain⟨v,t2,A,r,a⟩:=a.cons_inv;obtain rfl:=a.di;subst A;subst D;have e:vs=[z,C,v]:=e;subst e;obtain⟨b,t,_⟩:=BH f d (i:=6) (n:=ln) rfl s;rw[t,CY y,CY r];refine(VM b w n m E).mono ?_;rintro F w' ⟨rfl,hB⟩;exact⟨_,rfl,⟨rfl,rfl⟩,hB⟩
 refine⟨true,gU ln 17,by rw[bF (by omega)];rfl,fun B g w vs u f=>?_⟩;have a:=f.fr;rw[c] at a;obtain⟨z,G,e,s,a⟩:=a.cons_inv;obtain⟨C,t1,D,y,a⟩:=a.cons_inv;obtain⟨v,t2,A,r,a⟩:=a.cons_inv;obtain rfl:=a.di;subst A;subst D;have e:vs=[z,C,v]:=e;subst e;obtain⟨b,t,H⟩:=BH f d (i:=6) (n:=ln) rfl s;rw[t,CY y,CY r];refine(VN b w ln n m E H).mono ?_;rintro F w' ⟨rfl,hB⟩;exact⟨_,rfl,rfl,hB⟩
open Nt.Ev.YtknhlobahpgkeaaGreatDoor.Lk
theorem eO {f:Nat} {args:ah} {r:V} (h:aj oE f args r):aj eE f args r:=aj.env (E:=oE) rfl (fun n v h=>by cases h) h
theorem eH {f:Nat} {args:ah} {r:V} (h:aj hE f args r):aj eE f args r:=aj.env (E:=hE) rfl (fun n v h=>by cases h) h
theorem rRuS_ok (xs:ah) (a:gN xs=true):aj eE 77 [.sl 9 [.str] none xs] (.tup [.agg [.str (Tx xs),.int .i64 (Ty xs),.int .i64 (Tz xs),.int .i64 (TB xs),.int .i64 (TC xs),.int .i64 (TD xs),.int .i64 (TE xs),.int .i64 (TF xs),.int .i64 (TG xs),.int .i64 (TH xs),.str (zf xs)],.int .i64 (Mx xs)]):=Au (zRdS_ok xs a)
theorem rLkS_ok (xs:ah) (a:true=true):aj eE 66 [.sl 9 [.str] none xs] (.tup [.agg [.str (lrT xs),.str (lrN xs)],.int .i64 (Pq xs)]):=eO (kRead_ev xs)
theorem He: ∀(s:af) (k:Nat),Nm.xV k s=Nt.Ev.YtknhlobahpgkeaaGreatDoor.xV k s
 |[],_=>rfl
 |c::t,k=>by
  show(Nm.JU k c&&Nm.xV (k+1) t)=(Nt.Ev.YtknhlobahpgkeaaGreatDoor.JU k c&&Nt.Ev.YtknhlobahpgkeaaGreatDoor.xV (k+1) t)
  rw[He t (k+1)];rfl
theorem uJ (s:af):Nm.dG s=Nt.Ev.YtknhlobahpgkeaaGreatDoor.dG s:=by unfold Nm.dG Nt.Ev.YtknhlobahpgkeaaGreatDoor.dG;rw[He]
theorem rNmS_ok (s:af) (a:true=true):aj eE 38 [.str s] (.int .i64 (dG s)):=by rw[←uJ];exact eO (XR s rfl)
theorem rMtS_ok (s:af) (e:Nat) (o:Option Nat) (a:ah) (b:ak (av (aA s) 1000) (wsR a)=true):aj eE 46 [.str s,.sl e [.str] o a] (.tup [.int .i64 (mo s a),.int .i64 (oP s a)]):=Au (toZm (Jk s e o a b))
theorem rOfS_ok (s:af) (a:av (aA s) 4000000=true):aj eE 44 [.str s] (.tup [.sl 9 [.str] none (bY s),.int .i64 (MF s)]):=eH (hOfS_ok s a)
theorem rCkS_ok (s:af) (a:av (aA s) 4000000=true):aj eE 43 [.str s] (.int .i64 (Ai s)):=eO (xCkS_ok s a)
theorem rLnS_ok (s:af) (a:av (aA s) 4000000=true):aj eE 24 [.str s] (.sl 9 [.str] none (iN s)):=eO (XP s a)
theorem Hf:bf eE rS0:=by
 unfold rS0;refine bf.consK (fun args r h=>?_) (bf.consK (fun args r h=>?_) (bf.cons (fun args r h=>?_) (bf.cons (fun args r h=>?_) (bf.cons (fun args r h=>?_) (bf.cons (fun args r h=>?_) (bf.cons (fun args r h=>?_) (bf.cons (fun args r h=>?_) (bf.cons (fun args r h=>?_) (bf.cons (fun args r h=>?_) bf.nil)))))))));all_goals (revert h;intro h;first|unfold rFaS at h|unfold rRoS at h|unfold rRuS at h|unfold eRdS at h|unfold rLkS at h|unfold rNmS at h|unfold rMtS at h|unfold rOfS at h|unfold rCkS at h|unfold rLnS at h)
 all_goals (split at h;rotate_left; · cases h)
 all_goals (simp only[aR,bM] at h;obtain⟨a,rfl⟩:=h)
 ·exact rFaS_ok _ _ _ _ _ _ _ _ _ rfl
 ·exact rRoS_ok _ _ _ _ _ _ _ _ _ _ rfl
 ·exact rRuS_ok _ a
 ·exact eRdS_ok _ a
 ·exact rLkS_ok _ rfl
 ·exact rNmS_ok _ rfl
 ·exact rMtS_ok _ _ _ _ a
 ·exact rOfS_ok _ a
 ·exact rCkS_ok _ a
 exact rLnS_ok _ a
theorem FT {L e:Nat} {k:List Kd} {v:V} (h:YV L e k v=true):v=.sl e k (some L) (xL v):=by
 unfold YV at h;split at h
 ·rw[bC,bC] at h
  obtain⟨⟨b,a⟩,c⟩:=h;rw[iM] at b a;rw[b,a,Kd.fA _ _ c];rfl
 cases h
theorem XT {L e:Nat} {k:List Kd} {L2 c b:Nat} {a:List Kd} {v:V} (h:labZ L e k L2 c b a v=true):v=.slz L e k (xL v) (some L2) (xI v) c b a (xY v):=by
 unfold labZ at h;split at h
 ·simp only[bC,iM] at h
  obtain⟨⟨⟨j,d⟩,f,i⟩,⟨m,g⟩,l⟩:=h;rw[j,d,i,m,g,Kd.fA _ _ f,Kd.fA _ _ l];rfl
 cases h
theorem Hg {c0 b c d a e:V} (h:okL c0 b c d a e=true) (r:ah):c0::b::c::d::a::e::r=V.sl 50 kR (some 1000001001) (xL c0)::V.slz 1000001002 54 kZ (xL b) (some 1000001502) (xI b) 1 48 kE (xY b)::V.sl 56 kL (some 1000001003) (xL c)::V.sl 3 kI (some 1000001004) (xL d)::V.slz 1000001005 29 kW (xL a) (some 1000001505) (xI a) 0 3 kI (xY a)::V.sl 3 kI (some 1000001006) (xL e)::r:=by unfold okL at h;simp only[bC] at h;obtain⟨⟨k,i⟩,⟨f,l⟩,g,j⟩:=h;rw[←FT k,←XT i,←FT f,←FT l,←XT g,←FT j]
theorem uf {a b:Bool} (h:(bif a then b else false)=true):a=true∧b=true:=by
 cases a with
 |true=>exact⟨rfl,h⟩
 |false=>cases h
theorem KR {S:List (Nat×aC)} (b:bf eE S) (F d:Nat) {f:Nat} {args:ah} {c p q:Bool} {x y:V} {bs e:List (ah)} (h:bA eE (bu eE S F d) F f args some=some (sel c (.out p x bs) (.out q y e))):nR eE f args (.ni c (.out p x bs) (.out q y e)):=by
 refine nR.ni (fun a=>nR.out (fQ jL b F d ?_)) (fun a=>nR.out (fQ jL b F d ?_))
 ·rw[h,a];rfl
 rw[h,a];rfl
theorem iO {α:Type} (a b:α):sel true a b=a:=rfl
theorem jE {α:Type} (a b:α):sel false a b=b:=rfl
theorem KS {e n m:Int} (h:e=0) (a:n<m):lX e n m=0:=by unfold lX;simp[h,a]
theorem Nk {e n m:Int} (h:e=0) (a: ¬n<m):lX e n m=17:=by unfold lX;simp[h,a]
theorem WB {e n m:Int} (h:e≠0):lX e n m=e:=by unfold lX;rw[if_pos h]
theorem app1 {xs:ah} {y:V} (h:xs.length≤16000000):eD xs [y]=true:=by rw[iY,vg];omega
theorem appL {xs:ah} {y:V} {n:Int} (h:ay xs<n) (a:n≤16000000):eD xs [y]=true:=app1 (by rw[aD] at h;omega)
theorem XU {xs:ah} (h:V3 xs=true):xs.length≤16000000:=by unfold V3 at h;simpa using h
theorem rule_p (rs zs ks wr we wl:ah) (ln op iz ie:Int) (yz ye xs:ah) (c:gN xs=true) (d:V3 wr=true):bA eE (bu eE rS0 5 3) 5 47 [.bxa 0 (oU rs zs ks wr we wl iz yz ie ye ln op),.sl 9 [.str] none xs] some=
  some (sel (ieq (AA rs xs) 0) (.out false (.tup []) [oU (aX rs [MG xs]) zs ks (aX wr [.int .i64 ln]) we wl iz yz ie ye ln op]) (.out true (gU ln (AA rs xs)) [oU rs zs ks wr we wl iz yz ie ye ln op])):=by
 (rw[aea];(conv=>zeta))
 unfold AA;by_cases a:Mx xs=0
 ·by_cases b:ay rs<4096
  ·simp only[c,bn a,bH b,appL b (by decide),app1 (XU d),iO,KS a b]
   rfl
  simp only[c,bn a,bF (Int.not_lt.1 b),iO,jE,Nk a b];rfl
 simp only[c,bD a,iO,jE,WB a]
theorem aef (c0 b d c a e:V) (ln op:Int) (xs:ah) (f:(bif okL c0 b d c a e then ak (gN xs) (V3 (xL c)) else false)=true):nR eE 47 [.bxa 0 [c0,b,d,c,a,e,.int .i64 ln,.int .i64 op],.sl 9 [.str] none xs] (.ni (ieq (AA (xL c0) xs) 0) (.out false (.tup []) [oU (aX (xL c0) [MG xs]) (xL b) (xL d) (aX (xL c) [.int .i64 ln]) (xL a) (xL e) (xI b) (xY b) (xI a) (xY a) ln op]) (.out true (gU ln (AA (xL c0) xs)) [oU (xL c0) (xL b) (xL d) (xL c) (xL a) (xL e) (xI b) (xY b) (xI a) (xY a) ln op])):=by obtain⟨h,f⟩:=uf f;obtain⟨i,g⟩:=aO f;rw[Hg h];exact KR Hf 5 3 (rule_p _ _ _ _ _ _ _ _ _ _ _ _ _ i g)
theorem link_p (rs zs ks wr we wl:ah) (ln op iz ie:Int) (yz ye xs:ah) (c:V3 wl=true):bA eE (bu eE rS0 5 3) 5 49 [.bxa 0 (oU rs zs ks wr we wl iz yz ie ye ln op),.sl 9 [.str] none xs] some=
  some (sel (ieq (AB ks xs) 0) (.out false (.tup []) [oU rs zs (aX ks [Te xs]) wr we (aX wl [.int .i64 ln]) iz yz ie ye ln op]) (.out true (gU ln (AB ks xs)) [oU rs zs ks wr we wl iz yz ie ye ln op])):=by
 (rw[aeb];(conv=>zeta))
 unfold AB;by_cases a:Pq xs=0
 ·by_cases b:ay ks<1024
  ·simp only[bn a,bH b,appL b (by decide),app1 (XU c),iO,KS a b]
   rfl
  simp only[bn a,bF (Int.not_lt.1 b),iO,jE,Nk a b];rfl
 simp only[bD a,iO,jE,WB a]
theorem aeg (c0 b c e a d:V) (ln op:Int) (xs:ah) (f:(bif okL c0 b c e a d then V3 (xL d) else false)=true):nR eE 49 [.bxa 0 [c0,b,c,e,a,d,.int .i64 ln,.int .i64 op],.sl 9 [.str] none xs] (.ni (ieq (AB (xL c) xs) 0) (.out false (.tup []) [oU (xL c0) (xL b) (aX (xL c) [Te xs]) (xL e) (xL a) (aX (xL d) [.int .i64 ln]) (xI b) (xY b) (xI a) (xY a) ln op]) (.out true (gU ln (AB (xL c) xs)) [oU (xL c0) (xL b) (xL c) (xL e) (xL a) (xL d) (xI b) (xY b) (xI a) (xY a) ln op])):=by obtain⟨h,f⟩:=uf f;rw[Hg h];exact KR Hf 5 3 (link_p _ _ _ _ _ _ _ _ _ _ _ _ _ f)
theorem jM:aL true=false:=rfl
theorem jh:aL false=true:=rfl
theorem era_p (rs zs ks wr we wl:ah) (ln op iz ie:Int) (yz ye xs:ah) (o:erC zs iz yz we ie ye xs=true):bA eE (bu eE rS0 5 3) 5 45 [.bxa 0 (oU rs zs ks wr we wl iz yz ie ye ln op),.sl 9 [.str] none xs] some=
  some (sel (ieq (zi yz xs) 0) (.out false (.tup []) [oU rs (mG zs yz xs) ks wr (rM we ye ln) wl iz (aX yz [qh xs]) ie (aX ye [.int .i64 ln]) ln (jB xs ln)]) (.out true (gU ln (zi yz xs)) [oU rs zs ks wr we wl iz yz ie ye ln op])):=by
 (rw[aec];(conv=>zeta))
 unfold erC at o;rw[lG] at o;obtain⟨j,⟨w,u⟩,f,p,⟨v,t⟩,g,s⟩:=o;have h:dw .i64 (ay zs) 1=iz:=by rw[dO (by rw[aD];omega),aD,f]
 have l:dw .i64 (ay we) 1=ie:=by rw[dO (by rw[aD];omega),aD,g]
 have r:ay zs-1=iz:=by rw[aD,f]
 have q:ay we-1=ie:=by rw[aD,g]
 have i:ak (av 0 iz) (aW iz (ay zs))=true:=by rw[aM,aB,bq,aD];omega
 have k:ak (av 0 ie) (aW ie (ay we))=true:=by rw[aM,aB,bq,aD];omega
 have c:ieq iz iz=true:=bn rfl;have e:ieq ie ie=true:=bn rfl;unfold zi;by_cases a:kK xs=0
 ·by_cases b:ay yz<256
  ·unfold mG rM
   rcases abI (E6 xs) with d|d
   ·have n: ∀A B:Option V,sel (E6 xs) A B=A:=fun A B=>by rw[d];rfl
    have m:jB xs ln=ln:=by unfold jB;rw[d];rfl
    simp only[h,l,r,q,i,k,c,e,j,bn a,bH b,app1 p,app1 s,jM,jh,iO,jE,KS a b,n,m];rfl
   have n: ∀A B:Option V,sel (E6 xs) A B=B:=fun A B=>by rw[d];rfl
   have m:jB xs ln=0:=by unfold jB;rw[d];rfl
   simp only[h,l,r,q,i,k,c,e,j,bn a,bH b,app1 p,app1 s,jM,jh,iO,jE,KS a b,n,m];rfl
  simp only[h,l,i,k,c,j,bn a,bF (Int.not_lt.1 b),iO,jE,Nk a b];rfl
 simp only[h,l,i,k,c,j,bD a,iO,jE,jh,WB a]
theorem rEraS_ok (c0 a c d b e:V) (ln op:Int) (xs:ah) (f:(bif okL c0 a c d b e then erC (xL a) (xI a) (xY a) (xL b) (xI b) (xY b) xs else false)=true):nR eE 45 [.bxa 0 [c0,a,c,d,b,e,.int .i64 ln,.int .i64 op],.sl 9 [.str] none xs] (.ni (ieq (zi (xY a) xs) 0) (.out false (.tup []) [oU (xL c0) (mG (xL a) (xY a) xs) (xL c) (xL d) (rM (xL b) (xY b) ln) (xL e) (xI a) (aX (xY a) [qh xs]) (xI b) (aX (xY b) [.int .i64 ln]) ln (jB xs ln)]) (.out true (gU ln (zi (xY a) xs)) [oU (xL c0) (xL a) (xL c) (xL d) (xL b) (xL e) (xI a) (xY a) (xI b) (xY b) ln op])):=by obtain⟨h,f⟩:=uf f;rw[Hg h];exact KR Hf 5 3 (era_p _ _ _ _ _ _ _ _ _ _ _ _ _ f)
theorem rS1_ok:bf eE rS1:=by
 unfold rS1;refine bf.nH (fun args r h=>?_) Hf;all_goals (revert h;intro h;first|unfold rEraS at h)
 all_goals (split at h;rotate_left; · cases h)
 all_goals (simp only[aR,bM] at h;obtain⟨a,rfl⟩:=h)
 ·exact rEraS_ok _ _ _ _ _ _ _ _ _ a
theorem IC {xs:ah} (h:gN xs=true) (a b:Int):gN (fo xs a b)=true:=by unfold gN at h⊢;rw[l8] at h⊢;exact fun x c=>h x (acF (abK c))
theorem zn_zs (zs xs:ah):mG (aX zs [V.agg [V.str (aH (ai (aG xs 0) 0)),V.nilsl]]) [] (fo xs 1 (ay xs))=tN zs xs:=by
 unfold mG tN;have e:ay (aX zs [V.agg [V.str (aH (ai (aG xs 0) 0)),V.nilsl]])-1=(zs.length:Int):=by rw[aD];unfold aX;simp
 rw[e];generalize aH (ai (aG xs 0) 0)=n;have a:(zs++[V.agg [V.str n,V.nilsl]]).getD zs.length V.any=V.agg [V.str n,V.nilsl]:=by simp
 unfold oz aG aX;rw[Kr,ace _ _ (lg _),Yz,a];rfl
theorem zn_we (we:ah) (ln:Int):rM (aX we [V.nilsl]) [] ln=AF we ln:=by
 unfold rM AF;have e:ay (aX we [V.nilsl])-1=(we.length:Int):=by rw[aD];unfold aX;simp
 rw[e];unfold oz aX;rw[Kr,ace _ _ (lg _),Yz];rfl
theorem zone_p (rs zs ks wr we wl:ah) (ln op iz ie:Int) (yz ye xs:ah) (i:znC zs we xs=true):bA eE (bu eE rS1 5 3) 5 48 [.bxa 0 (oU rs zs ks wr we wl iz yz ie ye ln op),.sl 9 [.str] none xs] some=
  some (sel (ieq (vz zs xs) 0) (.out false (.tup []) [oU rs (tN zs xs) ks wr (AF we ln) wl (ay zs) [qh (fo xs 1 (ay xs))] (ay we) [.int .i64 ln] ln (jB (fo xs 1 (ay xs)) ln)]) (.out true (gU ln (vz zs xs)) [oU rs zs ks wr we wl iz yz ie ye ln op])):=by
 (rw[aed];(conv=>zeta))
 unfold znC at i;rw[lG] at i;obtain⟨k,m,l⟩:=i;unfold vz;by_cases c:ay xs=0
 ·simp only[bn c,iO,if_pos c]
  rfl
 have n1:1≤ay xs:=by rw[aD] at c⊢;omega
 have i0:ak (av 0 0) (aW 0 (ay xs))=true:=by rw[aM,aB,bq];omega
 have g:ak (av 0 1) (av 1 (ay xs))=true:=by rw[aM,aB,aB];omega
 have f:gN (fo xs 1 (ay xs))=true:=IC k _ _;by_cases e:dG (aH (ai (aG xs 0) 0))=0
 ·have d: ∀A B:Int,(if dG (aH (ai (aG xs 0) 0))≠0 then A else B)=B:=fun A B=>if_neg (fun h=>h e)
  by_cases a:kK (fo xs 1 (ay xs))=0
  ·by_cases b:ay zs<1024
   ·have hE:erC (aX zs [V.agg [V.str (aH (ai (aG xs 0) 0)),V.nilsl]]) (ay zs) [] (aX we [V.nilsl]) (ay we) [] (fo xs 1 (ay xs))=true:=by unfold erC;rw[lG];simp only[aX,iH,vg,qz,aD];refine⟨f,⟨by omega,by omega⟩,by omega,by omega,⟨by omega,by omega⟩,by omega,by omega⟩
    have j:zi [] (fo xs 1 (ay xs))=0:=KS a (by rw[aD];decide);simp only[bD c,i0,g,f,bn e,bn a,bH b,app1 (y:=(V.agg [V.str (aH (ai (aG xs 0) 0)),V.nilsl])) (show zs.length≤16000000 by omega),app1 (y:=V.nilsl) (show we.length≤16000000 by omega),hE,j,jM,jh,iO,jE,if_neg c,d,KS a b,zn_zs,zn_we];rfl
   simp only[bD c,i0,g,f,bn e,bn a,bF (Int.not_lt.1 b),jM,jh,iO,jE,if_neg c,d,Nk a b];rfl
  simp only[bD c,i0,g,f,bn e,bD a,jM,jh,iO,jE,if_neg c,d,WB a]
 simp only[bD c,i0,bD e,jh,iO,jE,if_neg c,if_pos (show dG (aH (ai (aG xs 0) 0))≠0 from e)]
theorem aeh (c0 a c d b e:V) (ln op:Int) (xs:ah) (f:(bif okL c0 a c d b e then znC (xL a) (xL b) xs else false)=true):nR eE 48 [.bxa 0 [c0,a,c,d,b,e,.int .i64 ln,.int .i64 op],.sl 9 [.str] none xs] (.ni (ieq (vz (xL a) xs) 0) (.out false (.tup []) [oU (xL c0) (tN (xL a) xs) (xL c) (xL d) (AF (xL b) ln) (xL e) (ay (xL a)) [qh (fo xs 1 (ay xs))] (ay (xL b)) [.int .i64 ln] ln (jB (fo xs 1 (ay xs)) ln)]) (.out true (gU ln (vz (xL a) xs)) [oU (xL c0) (xL a) (xL c) (xL d) (xL b) (xL e) (xI a) (xY a) (xI b) (xY b) ln op])):=by obtain⟨h,f⟩:=uf f;rw[Hg h];exact KR rS1_ok 5 3 (zone_p _ _ _ _ _ _ _ _ _ _ _ _ _ f)
theorem rS2_ok:bf eE rS2:=by
 unfold rS2;refine bf.nH (fun args r h=>?_) (bf.nH (fun args r h=>?_) (bf.nH (fun args r h=>?_) rS1_ok));all_goals (revert h;intro h;first|unfold rRuleS at h|unfold rLinkS at h|unfold rZoneS at h)
 all_goals (split at h;rotate_left; · cases h)
 all_goals (simp only[aR,bM] at h;obtain⟨a,rfl⟩:=h)
 ·exact aef _ _ _ _ _ _ _ _ _ a
 ·exact aeg _ _ _ _ _ _ _ _ _ a
 exact aeh _ _ _ _ _ _ _ _ _ a
end Nt.Ev.YtknhlobahpgkeaaGreatDoor.Rr
