/-
  The reader of sources: its cells, what each step makes of them. Reader: equations of functions, as the evaluator prints them. The reader's fail and room, walked: they leave all as it was. The reader of sources: rules, links, eras, zones; both sides as contracts.
-/
import Derived.Test.YtplklcejbmfgdaaGreatDoorMN
import Derived.Test.YtplklcejbmfgdaaGreatDoorMO
import Derived.Test.YtplklcejbmfgdaaGreatDoorMQ
import Derived.Test.YtplklcejbmfgdaaGreatDoorMR
import Derived.WalkKit
set_option linter.unusedVariables false
set_option linter.unusedSimpArgs false
set_option linter.unusedSectionVars false
namespace Nt.Ev.YtplklcejbmfgdaaGreatDoor.Rr
open Go Nt.Num Nt.Civil Nt.Fld Go.Proofs.YtplklcejbmfgdaaGreatDoor Nt.Ev.YtplklcejbmfgdaaGreatDoor Nt.Ev.YtplklcejbmfgdaaGreatDoor.Lk
variable [mJ]
abbrev kE:List Kd:=[Kd.int .i64,Kd.int .i64,Kd.int .i64,Kd.str,Kd.str,Kd.bool,Kd.int .i64,Kd.int .i64,Kd.int .i64,Kd.int .i64,Kd.int .i64,Kd.int .i64,Kd.int .i64]
abbrev kR:List Kd:=[Kd.str,Kd.int .i64,Kd.int .i64,Kd.int .i64,Kd.int .i64,Kd.int .i64,Kd.int .i64,Kd.int .i64,Kd.int .i64,Kd.int .i64,Kd.str]
abbrev kL:List Kd:=[Kd.str,Kd.str]
abbrev kZ:List Kd:=[Kd.str,Kd.sl 59 kE]
abbrev kI:List Kd:=[Kd.int .i64]
abbrev kW:List Kd:=[Kd.sl 3 kI]
def xL:V→List V
 | .sl _ _ _ xs=>xs
 | .slz _ _ _ xs _ _ _ _ _ _=>xs
 |_=>[]
def xI:V→Int
 | .slz _ _ _ _ _ i _ _ _ _=>i
 |_=>0
def xY:V→List V
 | .slz _ _ _ _ _ _ _ _ _ ys=>ys
 |_=>[]
def TS (L e:Nat) (k:List Kd):V→Bool
 | .sl e' k' (some L') _=>(L==L'&&e==e')&&Kd.qO k k'
 |_=>false
def labZ (L e:Nat) (k:List Kd) (L2 c e2:Nat) (k2:List Kd):V→Bool
 | .slz L' e' k' _ (some L2') _ c' e2' k2' _=>((L==L'&&e==e')&&(Kd.qO k k'&&L2==L2'))&&((c==c'&&e2==e2')&&Kd.qO k2 k2')
 |_=>false
def isN:V→Bool
 | .nilsl=>true
 |_=>false
def Wk (c0 c1 c2 c3 c4 c5:V):Bool:=(TS 1000001001 47 kR c0&&labZ 1000001002 54 kZ 1000001502 1 59 kE c1)&&((TS 1000001003 50 kL c2&&TS 1000001004 3 kI c3)&&(labZ 1000001005 31 kW 1000001505 0 3 kI c4&&TS 1000001006 3 kI c5))
def okN (c0 c1 c2 c3 c4 c5:V):Bool:=(isN c0&&isN c1)&&((isN c2&&isN c3)&&(isN c4&&isN c5))
def okB (c0 c1 c2 c3 c4 c5:V):Bool:=Wk c0 c1 c2 c3 c4 c5||okN c0 c1 c2 c3 c4 c5
abbrev nZ (rs zs ks wr we wl:List V) (iz:Int) (yz:List V) (ie:Int) (ye:List V) (ln op:Int):List V:=[V.sl 47 kR (some 1000001001) rs,V.slz 1000001002 54 kZ zs (some 1000001502) iz 1 59 kE yz,V.sl 50 kL (some 1000001003) ks,V.sl 3 kI (some 1000001004) wr,V.slz 1000001005 31 kW we (some 1000001505) ie 0 3 kI ye,V.sl 3 kI (some 1000001006) wl,V.int .i64 ln,V.int .i64 op]
abbrev bxn (rs zs ks wr we wl:List V) (iz:Int) (yz:List V) (ie:Int) (ye:List V) (ln op:Int):List V:=[V.sl 47 kR (some 1001) rs,V.slz 1002 54 kZ zs (some 1502) iz 1 59 kE yz,V.sl 50 kL (some 1003) ks,V.sl 3 kI (some 1004) wr,V.slz 1005 31 kW we (some 1505) ie 0 3 kI ye,V.sl 3 kI (some 1006) wl,V.int .i64 ln,V.int .i64 op]
abbrev gU (ln e:Int):V:=.iface 76 (.agg [.int .i64 ln,.int .i64 e])
abbrev tbV (a b c d e f:List V) (l w:Int):V:=.tup [.agg [.sl 47 kR none a,.sl 54 kZ none b,.sl 50 kL none c],.agg [.sl 3 kI none d,.sl 31 kW none e,.sl 3 kI none f],.agg [.int .i64 l,.int .i64 w]]
abbrev nlV (l w:Int):V:=.tup [.agg [.nilsl,.nilsl,.nilsl],.agg [.nilsl,.nilsl,.nilsl],.agg [.int .i64 l,.int .i64 w]]
noncomputable def Tq (xs:List V):V:=.agg [.str (OC xs),.int .i64 (OD xs),.int .i64 (OE xs),.int .i64 (OH xs),.int .i64 (OI xs),.int .i64 (OJ xs),.int .i64 (OL xs),.int .i64 (OM xs),.int .i64 (OO xs),.int .i64 (OP xs),.str (wT xs)]
noncomputable def Wn (xs:List V):V:=.agg [.str (lrT xs),.str (lrN xs)]
noncomputable def z8 (xs:List V):V:=.agg [.int .i64 (OU xs),.int .i64 (Tm xs),.int .i64 (OV xs),.str (Q5 xs),.str (Q6 xs),.bool (F6 xs),.int .i64 (OW xs),.int .i64 (OX xs),.int .i64 (Tn xs),.int .i64 (Tp xs),.int .i64 (Ag xs),.int .i64 (Ah xs),.int .i64 (Ai xs)]
def Q7 (xs:List V):Bool:=decide (xs.length≤16000000)
def nK (e n m:Int):Int:=if e≠0 then e else if n<m then 0 else 17
noncomputable def yh (rs xs:List V):Int:=nK (OQ xs) (av rs) 4096
noncomputable def yj (ks xs:List V):Int:=nK (Wj xs) (av ks) 1024
noncomputable def wU (yz xs:List V):Int:=nK (lM xs) (av yz) 256
noncomputable def erC (zs:List V) (iz:Int) (yz we:List V) (ie:Int) (ye xs:List V):Bool:=decide (iN xs=true∧(0<zs.length∧zs.length≤16000000)∧iz=(zs.length:Int)-1∧yz.length≤16000000∧(0<we.length∧we.length≤16000000)∧ie=(we.length:Int)-1∧ye.length≤16000000)
noncomputable def pE (zs yz xs:List V):List V:=pY zs (av zs-1) (aset (aP zs (av zs-1)) 1 (.sl 59 kE none (aZ yz [z8 xs])))
def rZ (we ye:List V) (ln:Int):List V:=pY we (av we-1) (.sl 3 kI none (aZ ye [.int .i64 ln]))
noncomputable def nD (xs:List V) (ln:Int):Int:=if F6 xs=true then ln else 0
noncomputable def znC (zs we xs:List V):Bool:=decide (iN xs=true∧zs.length≤15000000∧we.length≤15000000)
abbrev tl1 (xs:List V):List V:=dL xs 1 (av xs)
noncomputable def vL (zs xs:List V):Int:=if av xs=0 then 5 else if fF (aR (ax (aP xs 0) 0))≠0 then fF (aR (ax (aP xs 0) 0)) else nK (lM (tl1 xs)) (av zs) 1024
noncomputable def sj (zs xs:List V):List V:=aZ zs [.agg [.str (aR (ax (aP xs 0) 0)),.sl 59 kE none [z8 (tl1 xs)]]]
def yo (we:List V) (ln:Int):List V:=aZ we [.sl 3 kI none [.int .i64 ln]]
abbrev Ow:List V:=[.str [82,117,108,101],.str [90,111,110,101],.str [76,105,110,107]]
def wsR (ws:List V):Bool:=rX ws
noncomputable def iq (op:Int) (s:List UInt8):Nat:=if av (bX s)=0 then 4 else if 0<op then 3 else(nY (aR (ax (aP (bX s) 0) 0)) Ow).toNat
noncomputable def lJ (rs zs ks yz:List V) (op:Int) (s:List UInt8):Int:=if DD s≠0 then DD s else if Le s≠0 then Le s else if av (bX s)=0 then 0 else if 0<op then wU yz (bX s) else
 if qo (aR (ax (aP (bX s) 0) 0)) Ow≠0 then qo (aR (ax (aP (bX s) 0) 0)) Ow else if nY (aR (ax (aP (bX s) 0) 0)) Ow=0 then yh rs (tl1 (bX s)) else if nY (aR (ax (aP (bX s) 0) 0)) Ow=1 then vL zs (tl1 (bX s)) else yj ks (tl1 (bX s))
noncomputable def Gi (rs zs:List V) (iz:Int) (yz wr we:List V) (ie:Int) (ye wl:List V) (op:Int) (s:List UInt8):Bool:=decide (s.length≤4000000∧zs.length≤15000000∧we.length≤15000000∧yz.length≤16000000∧ye.length≤16000000∧wr.length≤16000000∧wl.length≤16000000∧(0<op→0<zs.length∧iz=(zs.length:Int)-1∧0<we.length∧ie=(we.length:Int)-1))
noncomputable def qa (rs:List V) (op:Int) (s:List UInt8):List V:=if iq op s=0 then aZ rs [Tq (tl1 (bX s))] else rs
noncomputable def qb (zs yz:List V) (op:Int) (s:List UInt8):List V:=if iq op s=3 then pE zs yz (bX s) else if iq op s=1 then sj zs (tl1 (bX s)) else zs
noncomputable def qc (ks:List V) (op:Int) (s:List UInt8):List V:=if iq op s=2 then aZ ks [Wn (tl1 (bX s))] else ks
noncomputable def su (wr:List V) (ln op:Int) (s:List UInt8):List V:=if iq op s=0 then aZ wr [.int .i64 ln] else wr
noncomputable def sw (we ye:List V) (ln op:Int) (s:List UInt8):List V:=if iq op s=3 then rZ we ye ln else if iq op s=1 then yo we ln else we
noncomputable def sD (wl:List V) (ln op:Int) (s:List UInt8):List V:=if iq op s=2 then aZ wl [.int .i64 ln] else wl
noncomputable def sG (iz:Int) (zs:List V) (op:Int) (s:List UInt8):Int:=if iq op s=1 then av zs else iz
noncomputable def qd (yz:List V) (op:Int) (s:List UInt8):List V:=if iq op s=3 then aZ yz [z8 (bX s)] else if iq op s=1 then[z8 (tl1 (tl1 (bX s)))] else yz
noncomputable def sH (ie:Int) (we:List V) (op:Int) (s:List UInt8):Int:=if iq op s=1 then av we else ie
noncomputable def sI (ye:List V) (ln op:Int) (s:List UInt8):List V:=if iq op s=3 then aZ ye [.int .i64 ln] else if iq op s=1 then[.int .i64 ln] else ye
noncomputable def nN (op ln:Int) (s:List UInt8):Int:=if iq op s=3 then nD (bX s) ln else if iq op s=1 then nD (tl1 (tl1 (bX s))) ln else op
set_option maxRecDepth 100000
noncomputable def rRuS:aF:=fun a=>match a with|[.sl 9 [.str] none xs]=>some (iN xs,.tup [.agg [.str (OC xs),.int .i64 (OD xs),.int .i64 (OE xs),.int .i64 (OH xs),.int .i64 (OI xs),.int .i64 (OJ xs),.int .i64 (OL xs),.int .i64 (OM xs),.int .i64 (OO xs),.int .i64 (OP xs),.str (wT xs)],.int .i64 (OQ xs)])|_=>none
noncomputable def rLkS:aF:=fun a=>match a with|[.sl 9 [.str] none xs]=>some (true,.tup [.agg [.str (lrT xs),.str (lrN xs)],.int .i64 (Wj xs)])|_=>none
noncomputable def rNmS:aF:=fun a=>match a with|[.str s]=>some (true,.int .i64 (fF s))|_=>none
noncomputable def rMtS:aF:=fun a=>match a with|[.str s,.sl e [.str] o ws]=>some (ak (ai (aj s) 1000) (wsR ws),.tup [.int .i64 (nY s ws),.int .i64 (qo s ws)])|_=>none
noncomputable def rOfS:aF:=fun a=>match a with|[.str s]=>some (ai (aj s) 4000000,.tup [.sl 9 [.str] none (bX s),.int .i64 (Le s)])|_=>none
noncomputable def rCkS:aF:=fun a=>match a with|[.str s]=>some (ai (aj s) 4000000,.int .i64 (DD s))|_=>none
noncomputable def rLnS:aF:=fun a=>match a with|[.str s]=>some (ai (aj s) 4000000,.sl 9 [.str] none (bY s))|_=>none
noncomputable def rFaS:aF:=fun a=>match a with|[.bxa 0 [c0,c1,c2,c3,c4,c5,.int .i64 ln,c7],.int .i64 e]=>some (true,.o9 (ieq e 0) (.keep false (.tup [])) (.keep true (gU ln e)))|_=>none
noncomputable def rRoS:aF:=fun a=>match a with|[.bxa 0 [c0,c1,c2,c3,c4,c5,.int .i64 ln,c7],.int .i64 n,.int .i64 m]=>some (true,.o9 (aT n m) (.keep false (.tup [])) (.keep true (gU ln 17)))|_=>none
noncomputable def rS0:List (Nat×aF):=(KX+66,rFaS)::(KX+107,rRoS)::(110,rRuS)::(106,eRdS)::(42,rLkS)::(16,rNmS)::(89,rMtS)::(87,rOfS)::(86,rCkS)::(10,rLnS)::[]
noncomputable def Ym:aF:=fun a=>match a with|[.bxa 0 [c0,c1,c2,c3,c4,c5,.int .i64 ln,.int .i64 op],.sl 9 [.str] none xs]=>some (bif Wk c0 c1 c2 c3 c4 c5 then ak (iN xs) (Q7 (xL c3)) else false,.o9 (ieq (yh (xL c0) xs) 0) (.out false (.tup []) [nZ (aZ (xL c0) [Tq xs]) (xL c1) (xL c2) (aZ (xL c3) [.int .i64 ln]) (xL c4) (xL c5) (xI c1) (xY c1) (xI c4) (xY c4) ln op]) (.out true (gU ln (yh (xL c0) xs)) [nZ (xL c0) (xL c1) (xL c2) (xL c3) (xL c4) (xL c5) (xI c1) (xY c1) (xI c4) (xY c4) ln op]))|_=>none
noncomputable def Yn:aF:=fun a=>match a with|[.bxa 0 [c0,c1,c2,c3,c4,c5,.int .i64 ln,.int .i64 op],.sl 9 [.str] none xs]=>some (bif Wk c0 c1 c2 c3 c4 c5 then Q7 (xL c5) else false,.o9 (ieq (yj (xL c2) xs) 0) (.out false (.tup []) [nZ (xL c0) (xL c1) (aZ (xL c2) [Wn xs]) (xL c3) (xL c4) (aZ (xL c5) [.int .i64 ln]) (xI c1) (xY c1) (xI c4) (xY c4) ln op]) (.out true (gU ln (yj (xL c2) xs)) [nZ (xL c0) (xL c1) (xL c2) (xL c3) (xL c4) (xL c5) (xI c1) (xY c1) (xI c4) (xY c4) ln op]))|_=>none
noncomputable def rEraS:aF:=fun a=>match a with|[.bxa 0 [c0,c1,c2,c3,c4,c5,.int .i64 ln,.int .i64 op],.sl 9 [.str] none xs]=>some (bif Wk c0 c1 c2 c3 c4 c5 then erC (xL c1) (xI c1) (xY c1) (xL c4) (xI c4) (xY c4) xs else false,.o9 (ieq (wU (xY c1) xs) 0) (.out false (.tup []) [nZ (xL c0) (pE (xL c1) (xY c1) xs) (xL c2) (xL c3) (rZ (xL c4) (xY c4) ln) (xL c5) (xI c1) (aZ (xY c1) [z8 xs]) (xI c4) (aZ (xY c4) [.int .i64 ln]) ln (nD xs ln)]) (.out true (gU ln (wU (xY c1) xs)) [nZ (xL c0) (xL c1) (xL c2) (xL c3) (xL c4) (xL c5) (xI c1) (xY c1) (xI c4) (xY c4) ln op]))|_=>none
noncomputable def Yo:aF:=fun a=>match a with|[.bxa 0 [c0,c1,c2,c3,c4,c5,.int .i64 ln,.int .i64 op],.sl 9 [.str] none xs]=>some (bif Wk c0 c1 c2 c3 c4 c5 then znC (xL c1) (xL c4) xs else false,.o9 (ieq (vL (xL c1) xs) 0) (.out false (.tup []) [nZ (xL c0) (sj (xL c1) xs) (xL c2) (xL c3) (yo (xL c4) ln) (xL c5) (av (xL c1)) [z8 (dL xs 1 (av xs))] (av (xL c4)) [.int .i64 ln] ln (nD (dL xs 1 (av xs)) ln)]) (.out true (gU ln (vL (xL c1) xs)) [nZ (xL c0) (xL c1) (xL c2) (xL c3) (xL c4) (xL c5) (xI c1) (xY c1) (xI c4) (xY c4) ln op]))|_=>none
noncomputable def Yp:aF:=fun a=>match a with|[.bxa 0 [c0,c1,c2,c3,c4,c5,.int .i64 ln,.int .i64 op],.str s]=>some (bif okB c0 c1 c2 c3 c4 c5 then Gi (xL c0) (xL c1) (xI c1) (xY c1) (xL c3) (xL c4) (xI c4) (xY c4) (xL c5) op s else false,.o9 (ieq (lJ (xL c0) (xL c1) (xL c2) (xY c1) op s) 0) (.out false (.tup []) [nZ (qa (xL c0) op s) (qb (xL c1) (xY c1) op s) (qc (xL c2) op s) (su (xL c3) ln op s) (sw (xL c4) (xY c4) ln op s) (sD (xL c5) ln op s) (sG (xI c1) (xL c1) op s) (qd (xY c1) op s) (sH (xI c4) (xL c4) op s) (sI (xY c4) ln op s) ln (nN op ln s)]) (.out true (gU ln (lJ (xL c0) (xL c1) (xL c2) (xY c1) op s)) [nZ (xL c0) (xL c1) (xL c2) (xL c3) (xL c4) (xL c5) (xI c1) (xY c1) (xI c4) (xY c4) ln op]))|_=>none
noncomputable def rS1:List (Nat×aF):=(GX+88,rEraS)::rS0
noncomputable def rS2:List (Nat×aF):=(GX+90,Ym)::(GX+92,Yn)::(GX+91,Yo)::rS1
noncomputable def rS3:List (Nat×aF):=(GX+67,Yp)::rS0
theorem VK (F:Nat) (rs zs ks wr we wl:List V) (ln op iz ie:Int) (yz ye xs:List V) (K:V→Option V):
 cr eE (bV eE rS0 F 3) F 90 [V.bxa 0 (nZ rs zs ks wr we wl iz yz ie ye ln op),V.sl 9 [Kd.str] none xs] K=
 let A:=V.int .i64 ln;let B:=[nZ rs zs ks wr we wl iz yz ie ye ln op];let C:=[Kd.int .i64];sel (iN xs) (sel (ieq (OQ xs) 0) (sel (aT (av rs) 4096) (sel (fI rs [Tq xs]) (sel (fI wr [A]) (K (V.out false (V.tup []) [[V.sl 47 kR (some 1000001001) (aZ rs [Tq xs]),V.slz 1000001002 54 kZ zs (some 1000001502) iz 1 59 kE yz,V.sl 50 kL (some 1000001003) ks,V.sl 3 C (some 1000001004) (aZ wr [A]),V.slz 1000001005 31 kW we (some 1000001505) ie 0 3 C ye,V.sl 3 C (some 1000001006) wl,A,V.int .i64 op]])) none) none) (K (V.out true (V.iface 76 (V.agg [A,V.int .i64 17])) B))) (K (V.out true (V.iface 76 (V.agg [A,V.int .i64 (OQ xs)])) B))) none:=by kernel_rfl
theorem VL (F:Nat) (rs zs ks wr we wl:List V) (ln op iz ie:Int) (yz ye xs:List V) (K:V→Option V):
 cr eE (bV eE rS0 F 3) F 92 [V.bxa 0 (nZ rs zs ks wr we wl iz yz ie ye ln op),V.sl 9 [Kd.str] none xs] K=
 let A:=V.int .i64 ln;let B:=[V.agg [V.str (lrT xs),V.str (lrN xs)]];let C:=[nZ rs zs ks wr we wl iz yz ie ye ln op];let D:=[Kd.int .i64];sel (ieq (Wj xs) 0) (sel (aT (av ks) 1024) (sel (fI ks B) (sel (fI wl [A]) (K (V.out false (V.tup []) [[V.sl 47 kR (some 1000001001) rs,V.slz 1000001002 54 kZ zs (some 1000001502) iz 1 59 kE yz,V.sl 50 kL (some 1000001003) (aZ ks B),V.sl 3 D (some 1000001004) wr,V.slz 1000001005 31 kW we (some 1000001505) ie 0 3 D ye,V.sl 3 D (some 1000001006) (aZ wl [A]),A,V.int .i64 op]])) none) none) (K (V.out true (V.iface 76 (V.agg [A,V.int .i64 17])) C))) (K (V.out true (V.iface 76 (V.agg [A,V.int .i64 (Wj xs)])) C)):=by kernel_rfl
theorem VM (F:Nat) (rs zs ks wr we wl:List V) (ln op iz ie:Int) (yz ye xs:List V) (K:V→Option V):
 cr eE (bV eE rS0 F 3) F 88 [V.bxa 0 (nZ rs zs ks wr we wl iz yz ie ye ln op),V.sl 9 [Kd.str] none xs] K=
 let C:=iX .i64 (av zs) 1;let D:=V.int .i64 ln;let E:=iX .i64 (av we) 1;let G:=[Kd.int .i64];let H:=[nZ rs zs ks wr we wl iz yz ie ye ln op];let I:=V.sl 47 kR (some 1000001001) rs;let J:=V.sl 50 kL (some 1000001003) ks;let N:=aZ yz [z8 xs];let A:=V.slz 1000001002 54 kZ (pY zs C (aset (aP zs C) 1 (V.sl 59 kE none N))) (some 1000001502) C 1 59 kE N;let B:=V.slz 1000001005 31 kW (pY we E (V.sl 3 G none (aZ ye [D]))) (some 1000001505) E 0 3 G (aZ ye [D]);let L:=V.sl 3 G (some 1000001004) wr;let M:=V.sl 3 G (some 1000001006) wl;sel (ak (ai 0 C) (aT C (av zs))) (sel (iN xs) (sel (ieq (lM xs) 0) (sel (ieq C iz) (sel (aT (av yz) 256) (sel (ieq C iz) (sel (fI yz [z8 xs]) (sel (ak (ai 0 E) (aT E (av we))) (sel (ieq E ie) (sel (fI ye [D]) (sel (F6 xs) (K (V.out false (V.tup []) [[I,A,J,L,B,M,D,D]])) (K (V.out false (V.tup []) [[I,A,J,L,B,M,D,V.int .i64 0]]))) none) none) none) none) none) (K (V.out true (V.iface 76 (V.agg [D,V.int .i64 17])) H))) none) (K (V.out true (V.iface 76 (V.agg [D,V.int .i64 (lM xs)])) H))) none) none:=by kernel_rfl
theorem VN (F:Nat) (rs zs ks wr we wl:List V) (ln op iz ie:Int) (yz ye xs:List V) (K:V→Option V):
 cr eE (bV eE rS1 F 3) F 91 [V.bxa 0 (nZ rs zs ks wr we wl iz yz ie ye ln op),V.sl 9 [Kd.str] none xs] K=
 let B:=dL xs 1 (av xs);let C:=[nZ rs zs ks wr we wl iz yz ie ye ln op];let D:=V.int .i64 ln;let E:=[Kd.int .i64];let G:=aR (ax (aP xs 0) 0);let H:=aZ we [V.nilsl];let I:=ak (ai 0 0) (aT 0 (av xs));let J:=ak (ai 0 1) (ai 1 (av xs));let L:=V.sl 47 kR (some 1000001001) rs;let M:=V.sl 50 kL (some 1000001003) ks;let A:=[V.agg [V.str G,V.nilsl]];let N:=V.sl 3 E (some 1000001004) wr;let O:=V.sl 3 E (some 1000001006) wl;let P:=aZ zs A;sel (ieq (av xs) 0) (K (V.out true (V.iface 76 (V.agg [D,V.int .i64 5])) C)) (sel I (sel (ieq (fF G) 0) (sel J (sel (iN B) (sel (ieq (lM B) 0) (sel (aT (av zs) 1024) (sel I (sel (fI zs A) (sel (fI we [V.nilsl]) (sel J (sel (erC P (av zs) [] H (av we) [] B) (sel (ieq (wU [] B) 0) (K (V.out false (V.tup []) [[L,V.slz 1000001002 54 kZ (pE P [] B) (some 1000001502) (av zs) 1 59 kE (aZ [] [z8 B]),M,N,V.slz 1000001005 31 kW (rZ H [] ln) (some 1000001505) (av we) 0 3 E (aZ [] [D]),O,D,V.int .i64 (nD B ln)]])) (K (V.out true (V.iface 76 (V.agg [D,V.int .i64 (wU [] B)])) [[L,V.slz 1000001002 54 kZ P (some 1000001502) (av zs) 1 59 kE [],M,N,V.slz 1000001005 31 kW H (some 1000001505) (av we) 0 3 E [],O,D,V.int .i64 op]]))) none) none) none) none) none) (K (V.out true (V.iface 76 (V.agg [D,V.int .i64 17])) C))) (K (V.out true (V.iface 76 (V.agg [D,V.int .i64 (lM B)])) C))) none) none) (K (V.out true (V.iface 76 (V.agg [D,V.int .i64 (fF G)])) C))) none):=by kernel_rfl
theorem VO (F:Nat) (rs zs ks wr we wl:List V) (ln op iz ie:Int) (yz ye:List V) (s:List UInt8) (K:V→Option V):
 cr eE (bV eE rS2 F 3) F 67 [V.bxa 0 (nZ rs zs ks wr we wl iz yz ie ye ln op),V.str s] K=
 let A:=[V.str [82,117,108,101],V.str [90,111,110,101],V.str [76,105,110,107]];let C:=[nZ rs zs ks wr we wl iz yz ie ye ln op];let D:=V.int .i64 ln;let E:=aR (ax (aP (bX s) 0) 0);let G:=[Kd.int .i64];let I:=V.sl 47 kR (some 1000001001) rs;let J:=V.sl 50 kL (some 1000001003) ks;let N:=V.slz 1000001002 54 kZ zs (some 1000001502) iz 1 59 kE yz;let P:=av (bX s);let Q:=V.tup [];let R:=ai (aj s) 4000000;let T:=wU yz (bX s);let B:=dL (bX s) 1 P;let H:=ak (ai 0 1) (ai 1 P);let L:=V.sl 3 G (some 1000001004) wr;let M:=V.sl 3 G (some 1000001006) wl;let O:=V.slz 1000001005 31 kW we (some 1000001505) ie 0 3 G ye;let S:=dL B 1 (av B);sel R (sel (ieq (DD s) 0) (sel R (sel (ieq (Le s) 0) (sel (ieq P 0) (K (V.out false Q C)) (sel (aT 0 op) (sel (erC zs iz yz we ie ye (bX s)) (sel (ieq T 0) (K (V.out false Q [[I,V.slz 1000001002 54 kZ (pE zs yz (bX s)) (some 1000001502) iz 1 59 kE (aZ yz [z8 (bX s)]),J,L,V.slz 1000001005 31 kW (rZ we ye ln) (some 1000001505) ie 0 3 G (aZ ye [D]),M,D,V.int .i64 (nD (bX s) ln)]])) (K (V.out true (V.iface 76 (V.agg [D,V.int .i64 T])) C))) none) (sel (ak (ai 0 0) (aT 0 P)) (sel (ak (ai (aj E) 1000) (wsR A)) (sel (ieq (qo E A) 0) (sel (ieq (nY E A) 0) (sel H (sel (ak (iN B) (Q7 wr)) (sel (ieq (yh rs B) 0) (K (V.out false Q [[V.sl 47 kR (some 1000001001) (aZ rs [Tq B]),N,J,V.sl 3 G (some 1000001004) (aZ wr [D]),O,M,D,V.int .i64 op]])) (K (V.out true (V.iface 76 (V.agg [D,V.int .i64 (yh rs B)])) C))) none) none) (sel (ieq (nY E A) 1) (sel H (sel (znC zs we B) (sel (ieq (vL zs B) 0) (K (V.out false Q [[I,V.slz 1000001002 54 kZ (sj zs B) (some 1000001502) (av zs) 1 59 kE [z8 S],J,L,V.slz 1000001005 31 kW (yo we ln) (some 1000001505) (av we) 0 3 G [D],M,D,V.int .i64 (nD S ln)]])) (K (V.out true (V.iface 76 (V.agg [D,V.int .i64 (vL zs B)])) C))) none) none) (sel (ieq (nY E A) 2) (sel H (sel (Q7 wl) (sel (ieq (yj ks B) 0) (K (V.out false Q [[I,N,V.sl 50 kL (some 1000001003) (aZ ks [Wn B]),L,O,V.sl 3 G (some 1000001006) (aZ wl [D]),D,V.int .i64 op]])) (K (V.out true (V.iface 76 (V.agg [D,V.int .i64 (yj ks B)])) C))) none) none) none))) (K (V.out true (V.iface 76 (V.agg [D,V.int .i64 (qo E A)])) C))) none) none))) (K (V.out true (V.iface 76 (V.agg [D,V.int .i64 (Le s)])) C))) none) (K (V.out true (V.iface 76 (V.agg [D,V.int .i64 (DD s)])) C))) none:=by kernel_rfl
end Nt.Ev.YtplklcejbmfgdaaGreatDoor.Rr
namespace Go.Proofs.YtplklcejbmfgdaaGreatDoor
open Go Go.RowKit Go.Shelf Nt Nt.Ev
set_option maxRecDepth 100000 in
set_option maxHeartbeats 2000000 in
theorem QT (g:Nat) (w:World):Calls Tryz.prog 66 #[.pointer (some ⟨g,0,none⟩),.int .i64 0] w fun ex w'=>ex=.returned (.tuple #[])∧Below w.heap.size w w':=by
 go_enter Tryz.func66,Tryz.ntmps66
 go_wp2
 exact⟨rfl,.tuple #[],by kernel_rfl,rfl,Below.refl _ _⟩
set_option maxRecDepth 100000 in
set_option maxHeartbeats 2000000 in
theorem QU (g:Nat) (w:World) (ln e:Int) (he:e≠0) (h6:w.cell? ⟨g,6,none⟩=some (.int .i64 ln)):Calls Tryz.prog 66 #[.pointer (some ⟨g,0,none⟩),.int .i64 e] w fun ex w'=>ex=.panicked [{v:=.iface 76 (.agg #[.int .i64 ln,.int .i64 e]),recovered:=false}]∧Below w.heap.size w w':=by
 go_enter Tryz.func66,Tryz.ntmps66
 go_wp2
 exact⟨rfl,rfl,Below.refl _ _⟩
set_option maxRecDepth 100000 in
set_option maxHeartbeats 2000000 in
theorem QV (g:Nat) (w:World) (n m:Int) (h:n<m):Calls Tryz.prog 107 #[.pointer (some ⟨g,0,none⟩),.int .i64 n,.int .i64 m] w fun ex w'=>ex=.returned (.tuple #[])∧Below w.heap.size w w':=by
 go_enter Tryz.func107,Tryz.ntmps107
 go_wp2
 exact⟨rfl,.tuple #[],by kernel_rfl,rfl,Below.refl _ _⟩
set_option maxRecDepth 100000 in
set_option maxHeartbeats 2000000 in
theorem QW (g:Nat) (w:World) (ln n m:Int) (h: ¬n<m) (h6:w.cell? ⟨g,6,none⟩=some (.int .i64 ln)):Calls Tryz.prog 107 #[.pointer (some ⟨g,0,none⟩),.int .i64 n,.int .i64 m] w fun ex w'=>ex=.panicked [{v:=.iface 76 (.agg #[.int .i64 ln,.int .i64 17]),recovered:=false}]∧Below w.heap.size w w':=by
 go_enter Tryz.func107,Tryz.ntmps107
 go_wp2
 exact⟨rfl,rfl,rfl,Below.refl _ _⟩
end Go.Proofs.YtplklcejbmfgdaaGreatDoor
namespace Nt.Ev.YtplklcejbmfgdaaGreatDoor.Rr
open Go Go.RowKit Nt Nt.Num Nt.Civil Nt.Fld Go.Proofs.YtplklcejbmfgdaaGreatDoor Nt.Ev Nt.Ev.YtplklcejbmfgdaaGreatDoor
variable [mJ]
theorem zl {E:Env} {B:Own} {G0:aM} {w0 w:World} {s:St} {g:Gh} {a:Act} (h:Inv E B G0 w0 s g a w) {k i:Nat} {cs:List V} {n:Int} (hl:au s.bx k=some cs) (hi:cs[i]? =some (.int .i64 n)) {v:Value} (hv:aI g (.box k 0) v):
  ∃b,v=.pointer (some ⟨b,0,none⟩)∧w.cell? ⟨b,i,none⟩=some (.int .i64 n):=by
 obtain⟨b,hb,hv⟩:=dQ.1 hv;obtain⟨b',c,e,hb',_,hh,hp,_⟩:=h.bxs.1 k cs hl;rw[hb] at hb';simp only[Option.some.injEq] at hb';subst hb';refine⟨b,hv,?_⟩;rw[Lib.cell_of_heap hh];have hlt:i<c.toList.length:=by rw[←hp.1];exact(List.getElem?_eq_some_iff.1 hi).1
 have:=hp.2 i (.int .i64 n) c.toList[i] hi (List.getElem?_eq_getElem hlt);simp only[aI,bE] at this;unfold aN at this;rw[←Array.getElem?_toList,List.getElem?_eq_getElem hlt,this]
theorem Aw {g:Gh} {n:Int} {v:Value} (h:aI g (.int .i64 n) v):v=.int .i64 n:=by
 simp only[aI,bE] at h;unfold aN at h;exact h
theorem rFaS_ok (c0 c1 c2 c3 c4 c5:V) (ln:Int) (c7:V) (e:Int) (hc:true=true): ∃p x,oF (.o9 (ieq e 0) (.keep false (.tup [])) (.keep true (gU ln e)))=.keep p x∧KC eE 66 [.bxa 0 [c0,c1,c2,c3,c4,c5,.int .i64 ln,c7],.int .i64 e] p x:=by
 have WH:bH 0 [.bxa 0 [c0,c1,c2,c3,c4,c5,.int .i64 ln,c7],.int .i64 e]=[.box HL 0,.int .i64 e]:=rfl;have hbx0:au (dG 0 [.bxa 0 [c0,c1,c2,c3,c4,c5,.int .i64 ln,c7],.int .i64 e]) HL=some [c0,c1,c2,c3,c4,c5,.int .i64 ln,c7]:=rfl;by_cases he:e=0
 ·subst he
  refine⟨false,.tup [],rfl,fun B g w vs hdf hi=>?_⟩;have hfr:=hi.fr;rw[WH] at hfr;obtain⟨u0,t0,e0,h0,hfr⟩:=hfr.cons_inv;obtain⟨u1,t1,e1,h1,hfr⟩:=hfr.cons_inv;obtain rfl:=hfr.bT;subst e1;have e0:vs=[u0,u1]:=e0;subst e0;obtain⟨b,hb,_⟩:=zl hi hbx0 (i:=6) (n:=ln) rfl h0;rw[hb,Aw h1];refine(QT b w).mono ?_;rintro ex w' ⟨rfl,hB⟩;exact⟨_,rfl,⟨rfl,rfl⟩,hB⟩
 ·refine⟨true,gU ln e,by rw[show ieq e 0=false from by unfold ieq;simpa using he];rfl,fun B g w vs hdf hi=>?_⟩
  have hfr:=hi.fr;rw[WH] at hfr;obtain⟨u0,t0,e0,h0,hfr⟩:=hfr.cons_inv;obtain⟨u1,t1,e1,h1,hfr⟩:=hfr.cons_inv;obtain rfl:=hfr.bT;subst e1;have e0:vs=[u0,u1]:=e0;subst e0;obtain⟨b,hb,h6⟩:=zl hi hbx0 (i:=6) (n:=ln) rfl h0;rw[hb,Aw h1];refine(QU b w ln e he h6).mono ?_;rintro ex w' ⟨rfl,hB⟩;exact⟨_,rfl,rfl,hB⟩
theorem rRoS_ok (c0 c1 c2 c3 c4 c5:V) (ln:Int) (c7:V) (n m:Int) (hc:true=true): ∃p x,oF (.o9 (aT n m) (.keep false (.tup [])) (.keep true (gU ln 17)))=.keep p x∧KC eE 107 [.bxa 0 [c0,c1,c2,c3,c4,c5,.int .i64 ln,c7],.int .i64 n,.int .i64 m] p x:=by
 have WH:bH 0 [.bxa 0 [c0,c1,c2,c3,c4,c5,.int .i64 ln,c7],.int .i64 n,.int .i64 m]=[.box HL 0,.int .i64 n,.int .i64 m]:=rfl;have hbx0:au (dG 0 [.bxa 0 [c0,c1,c2,c3,c4,c5,.int .i64 ln,c7],.int .i64 n,.int .i64 m]) HL=some [c0,c1,c2,c3,c4,c5,.int .i64 ln,c7]:=rfl;by_cases he:n<m
 ·refine⟨false,.tup [],by rw[bD he];rfl,fun B g w vs hdf hi=>?_⟩
  have hfr:=hi.fr;rw[WH] at hfr;obtain⟨u0,t0,e0,h0,hfr⟩:=hfr.cons_inv;obtain⟨u1,t1,e1,h1,hfr⟩:=hfr.cons_inv;obtain⟨u2,t2,e2,h2,hfr⟩:=hfr.cons_inv;obtain rfl:=hfr.bT;subst e2;subst e1;have e0:vs=[u0,u1,u2]:=e0;subst e0;obtain⟨b,hb,_⟩:=zl hi hbx0 (i:=6) (n:=ln) rfl h0;rw[hb,Aw h1,Aw h2];refine(QV b w n m he).mono ?_;rintro ex w' ⟨rfl,hB⟩;exact⟨_,rfl,⟨rfl,rfl⟩,hB⟩
 ·refine⟨true,gU ln 17,by rw[bB (by omega)];rfl,fun B g w vs hdf hi=>?_⟩
  have hfr:=hi.fr;rw[WH] at hfr;obtain⟨u0,t0,e0,h0,hfr⟩:=hfr.cons_inv;obtain⟨u1,t1,e1,h1,hfr⟩:=hfr.cons_inv;obtain⟨u2,t2,e2,h2,hfr⟩:=hfr.cons_inv;obtain rfl:=hfr.bT;subst e2;subst e1;have e0:vs=[u0,u1,u2]:=e0;subst e0;obtain⟨b,hb,h6⟩:=zl hi hbx0 (i:=6) (n:=ln) rfl h0;rw[hb,Aw h1,Aw h2];refine(QW b w ln n m he h6).mono ?_;rintro ex w' ⟨rfl,hB⟩;exact⟨_,rfl,rfl,hB⟩
set_option maxRecDepth 100000
open Nt.Ev.YtplklcejbmfgdaaGreatDoor.Lk
theorem eO {f:Nat} {args:List V} {r:V} (h:af oE f args r):af eE f args r:=af.env (E:=oE) rfl (fun n v h=>by cases h) h
theorem eH {f:Nat} {args:List V} {r:V} (h:af hE f args r):af eE f args r:=af.env (E:=hE) rfl (fun n v h=>by cases h) h
theorem rRuS_ok (xs:List V) (hc:iN xs=true):af eE 110 [.sl 9 [.str] none xs] (.tup [.agg [.str (OC xs),.int .i64 (OD xs),.int .i64 (OE xs),.int .i64 (OH xs),.int .i64 (OI xs),.int .i64 (OJ xs),.int .i64 (OL xs),.int .i64 (OM xs),.int .i64 (OO xs),.int .i64 (OP xs),.str (wT xs)],.int .i64 (OQ xs)]):=xZ (zRdS_ok xs hc)
theorem rLkS_ok (xs:List V) (hc:true=true):af eE 42 [.sl 9 [.str] none xs] (.tup [.agg [.str (lrT xs),.str (lrN xs)],.int .i64 (Wj xs)]):=eO (Z5 xs)
theorem Yq: ∀(s:List UInt8) (k:Nat),Nm.F7 k s=Nt.Ev.YtplklcejbmfgdaaGreatDoor.F7 k s
 |[],_=>rfl
 |c::t,k=>by
  show(Nm.Tg k c&&Nm.F7 (k+1) t)=(Nt.Ev.YtplklcejbmfgdaaGreatDoor.Tg k c&&Nt.Ev.YtplklcejbmfgdaaGreatDoor.F7 (k+1) t)
  rw[Yq t (k+1)];rfl
theorem RE (s:List UInt8):Nm.fF s=Nt.Ev.YtplklcejbmfgdaaGreatDoor.fF s:=by
 unfold Nm.fF Nt.Ev.YtplklcejbmfgdaaGreatDoor.fF;rw[Yq]
theorem rNmS_ok (s:List UInt8) (hc:true=true):af eE 16 [.str s] (.int .i64 (fF s)):=by rw[←RE];exact eO (SS s rfl)
theorem rMtS_ok (s:List UInt8) (e:Nat) (o:Option Nat) (ws:List V) (hc:ak (ai (aj s) 1000) (wsR ws)=true):af eE 89 [.str s,.sl e [.str] o ws] (.tup [.int .i64 (nY s ws),.int .i64 (qo s ws)]):=xZ (toZm (FH s e o ws hc))
theorem rOfS_ok (s:List UInt8) (hc:ai (aj s) 4000000=true):af eE 87 [.str s] (.tup [.sl 9 [.str] none (bX s),.int .i64 (Le s)]):=eH (hOfS_ok s hc)
theorem rCkS_ok (s:List UInt8) (hc:ai (aj s) 4000000=true):af eE 86 [.str s] (.int .i64 (DD s)):=eO (xCkS_ok s hc)
theorem rLnS_ok (s:List UInt8) (hc:ai (aj s) 4000000=true):af eE 10 [.str s] (.sl 9 [.str] none (bY s)):=eO (Kq s hc)
theorem Es:bq eE rS0:=by
 unfold rS0;refine bq.consK (fun args r h=>?_) (bq.consK (fun args r h=>?_) (bq.cons (fun args r h=>?_) (bq.cons (fun args r h=>?_) (bq.cons (fun args r h=>?_) (bq.cons (fun args r h=>?_) (bq.cons (fun args r h=>?_) (bq.cons (fun args r h=>?_) (bq.cons (fun args r h=>?_) (bq.cons (fun args r h=>?_) bq.nil)))))))));all_goals (revert h;intro h;first|unfold rFaS at h|unfold rRoS at h|unfold rRuS at h|unfold eRdS at h|unfold rLkS at h|unfold rNmS at h|unfold rMtS at h|unfold rOfS at h|unfold rCkS at h|unfold rLnS at h)
 all_goals (split at h;rotate_left; · cases h)
 all_goals (simp only[Option.some.injEq,Prod.mk.injEq] at h;obtain⟨hc,rfl⟩:=h)
 ·exact rFaS_ok _ _ _ _ _ _ _ _ _ rfl
 ·exact rRoS_ok _ _ _ _ _ _ _ _ _ _ rfl
 ·exact rRuS_ok _ hc
 ·exact eRdS_ok _ hc
 ·exact rLkS_ok _ rfl
 ·exact rNmS_ok _ rfl
 ·exact rMtS_ok _ _ _ _ hc
 ·exact rOfS_ok _ hc
 ·exact rCkS_ok _ hc
 ·exact rLnS_ok _ hc
theorem Dv {L e:Nat} {k:List Kd} {v:V} (h:TS L e k v=true):v=.sl e k (some L) (xL v):=by
 unfold TS at h;split at h
 ·rw[Bool.and_eq_true,Bool.and_eq_true] at h
  obtain⟨⟨h1,h2⟩,h3⟩:=h;rw[beq_iff_eq] at h1 h2;rw[h1,h2,Kd.bK _ _ h3];rfl
 ·cases h
theorem SV {L e:Nat} {k:List Kd} {L2 c e2:Nat} {k2:List Kd} {v:V} (h:labZ L e k L2 c e2 k2 v=true):v=.slz L e k (xL v) (some L2) (xI v) c e2 k2 (xY v):=by
 unfold labZ at h;split at h
 ·simp only[Bool.and_eq_true,beq_iff_eq] at h
  obtain⟨⟨⟨h1,h2⟩,h3,h4⟩,⟨h5,h6⟩,h7⟩:=h;rw[h1,h2,h4,h5,h6,Kd.bK _ _ h3,Kd.bK _ _ h7];rfl
 ·cases h
theorem Et {c0 c1 c2 c3 c4 c5:V} (h:Wk c0 c1 c2 c3 c4 c5=true) (r:List V):c0::c1::c2::c3::c4::c5::r=V.sl 47 kR (some 1000001001) (xL c0)::V.slz 1000001002 54 kZ (xL c1) (some 1000001502) (xI c1) 1 59 kE (xY c1)::V.sl 50 kL (some 1000001003) (xL c2)::V.sl 3 kI (some 1000001004) (xL c3)::V.slz 1000001005 31 kW (xL c4) (some 1000001505) (xI c4) 0 3 kI (xY c4)::V.sl 3 kI (some 1000001006) (xL c5)::r:=by
 unfold Wk at h;simp only[Bool.and_eq_true] at h;obtain⟨⟨h0,h1⟩,⟨h2,h3⟩,h4,h5⟩:=h;rw[←Dv h0,←SV h1,←Dv h2,←Dv h3,←SV h4,←Dv h5]
theorem lG {a b:Bool} (h:(bif a then b else false)=true):a=true∧b=true:=by
 cases a with
 |true=>exact⟨rfl,h⟩
 |false=>cases h
theorem He {S:List (Nat×aF)} (hS:bq eE S) (F d:Nat) {f:Nat} {args:List V} {c p q:Bool} {x y:V} {bs cs:List (List V)} (h:cr eE (bV eE S F d) F f args some=some (sel c (.out p x bs) (.out q y cs))):rP eE f args (.o9 c (.out p x bs) (.out q y cs)):=by
 refine rP.o9 (fun hb=>rP.out (mq iY hS F d ?_)) (fun hb=>rP.out (mq iY hS F d ?_))
 ·rw[h,hb];rfl
 ·rw[h,hb];rfl
theorem iw {α:Type} (a b:α):sel true a b=a:=rfl
theorem gV {α:Type} (a b:α):sel false a b=b:=rfl
theorem Hf {e n m:Int} (h:e=0) (h2:n<m):nK e n m=0:=by unfold nK;simp[h,h2]
theorem JH {e n m:Int} (h:e=0) (h2: ¬n<m):nK e n m=17:=by unfold nK;simp[h,h2]
theorem RF {e n m:Int} (h:e≠0):nK e n m=e:=by unfold nK;rw[if_pos h]
theorem app1 {xs:List V} {y:V} (h:xs.length≤16000000):fI xs [y]=true:=by rw[kU,List.length_singleton];omega
theorem appL {xs:List V} {y:V} {n:Int} (h:av xs<n) (hn:n≤16000000):fI xs [y]=true:=app1 (by rw[aD] at h;omega)
theorem SX {xs:List V} (h:Q7 xs=true):xs.length≤16000000:=by unfold Q7 at h;simpa using h
theorem rule_p (rs zs ks wr we wl:List V) (ln op iz ie:Int) (yz ye xs:List V) (h1:iN xs=true) (h2:Q7 wr=true):cr eE (bV eE rS0 5 3) 5 90 [.bxa 0 (nZ rs zs ks wr we wl iz yz ie ye ln op),.sl 9 [.str] none xs] some=
  some (sel (ieq (yh rs xs) 0) (.out false (.tup []) [nZ (aZ rs [Tq xs]) zs ks (aZ wr [.int .i64 ln]) we wl iz yz ie ye ln op]) (.out true (gU ln (yh rs xs)) [nZ rs zs ks wr we wl iz yz ie ye ln op])):=by
 (rw[VK];(conv=>zeta))
 unfold yh;by_cases a:OQ xs=0
 ·by_cases b:av rs<4096
  ·simp only[h1,bn a,bD b,appL b (by decide),app1 (SX h2),iw,Hf a b]
   rfl
  ·simp only[h1,bn a,bB (Int.not_lt.1 b),iw,gV,JH a b]
   rfl
 ·simp only[h1,cO a,iw,gV,RF a]
theorem VP (c0 c1 c2 c3 c4 c5:V) (ln op:Int) (xs:List V) (hc:(bif Wk c0 c1 c2 c3 c4 c5 then ak (iN xs) (Q7 (xL c3)) else false)=true):rP eE 90 [.bxa 0 [c0,c1,c2,c3,c4,c5,.int .i64 ln,.int .i64 op],.sl 9 [.str] none xs] (.o9 (ieq (yh (xL c0) xs) 0) (.out false (.tup []) [nZ (aZ (xL c0) [Tq xs]) (xL c1) (xL c2) (aZ (xL c3) [.int .i64 ln]) (xL c4) (xL c5) (xI c1) (xY c1) (xI c4) (xY c4) ln op]) (.out true (gU ln (yh (xL c0) xs)) [nZ (xL c0) (xL c1) (xL c2) (xL c3) (xL c4) (xL c5) (xI c1) (xY c1) (xI c4) (xY c4) ln op])):=by
 obtain⟨h,hc⟩:=lG hc;obtain⟨h1,h2⟩:=aY hc;rw[Et h];exact He Es 5 3 (rule_p _ _ _ _ _ _ _ _ _ _ _ _ _ h1 h2)
theorem link_p (rs zs ks wr we wl:List V) (ln op iz ie:Int) (yz ye xs:List V) (hc:Q7 wl=true):cr eE (bV eE rS0 5 3) 5 92 [.bxa 0 (nZ rs zs ks wr we wl iz yz ie ye ln op),.sl 9 [.str] none xs] some=
  some (sel (ieq (yj ks xs) 0) (.out false (.tup []) [nZ rs zs (aZ ks [Wn xs]) wr we (aZ wl [.int .i64 ln]) iz yz ie ye ln op]) (.out true (gU ln (yj ks xs)) [nZ rs zs ks wr we wl iz yz ie ye ln op])):=by
 (rw[VL];(conv=>zeta))
 unfold yj;by_cases a:Wj xs=0
 ·by_cases b:av ks<1024
  ·simp only[bn a,bD b,appL b (by decide),app1 (SX hc),iw,Hf a b]
   rfl
  ·simp only[bn a,bB (Int.not_lt.1 b),iw,gV,JH a b]
   rfl
 ·simp only[cO a,iw,gV,RF a]
theorem VQ (c0 c1 c2 c3 c4 c5:V) (ln op:Int) (xs:List V) (hc:(bif Wk c0 c1 c2 c3 c4 c5 then Q7 (xL c5) else false)=true):rP eE 92 [.bxa 0 [c0,c1,c2,c3,c4,c5,.int .i64 ln,.int .i64 op],.sl 9 [.str] none xs] (.o9 (ieq (yj (xL c2) xs) 0) (.out false (.tup []) [nZ (xL c0) (xL c1) (aZ (xL c2) [Wn xs]) (xL c3) (xL c4) (aZ (xL c5) [.int .i64 ln]) (xI c1) (xY c1) (xI c4) (xY c4) ln op]) (.out true (gU ln (yj (xL c2) xs)) [nZ (xL c0) (xL c1) (xL c2) (xL c3) (xL c4) (xL c5) (xI c1) (xY c1) (xI c4) (xY c4) ln op])):=by
 obtain⟨h,hc⟩:=lG hc;rw[Et h];exact He Es 5 3 (link_p _ _ _ _ _ _ _ _ _ _ _ _ _ hc)
theorem gP:aG true=false:=rfl
theorem iQ:aG false=true:=rfl
theorem era_p (rs zs ks wr we wl:List V) (ln op iz ie:Int) (yz ye xs:List V) (hc:erC zs iz yz we ie ye xs=true):cr eE (bV eE rS0 5 3) 5 88 [.bxa 0 (nZ rs zs ks wr we wl iz yz ie ye ln op),.sl 9 [.str] none xs] some=
  some (sel (ieq (wU yz xs) 0) (.out false (.tup []) [nZ rs (pE zs yz xs) ks wr (rZ we ye ln) wl iz (aZ yz [z8 xs]) ie (aZ ye [.int .i64 ln]) ln (nD xs ln)]) (.out true (gU ln (wU yz xs)) [nZ rs zs ks wr we wl iz yz ie ye ln op])):=by
 (rw[VM];(conv=>zeta))
 unfold erC at hc;rw[decide_eq_true_eq] at hc;obtain⟨h1,⟨z0,z1⟩,hiz,y1,⟨w0,w1⟩,hie,e1⟩:=hc;have kz:iX .i64 (av zs) 1=iz:=by rw[qY (by rw[aD];omega),aD,hiz]
 have kw:iX .i64 (av we) 1=ie:=by rw[qY (by rw[aD];omega),aD,hie]
 have lz:av zs-1=iz:=by rw[aD,hiz]
 have lw:av we-1=ie:=by rw[aD,hie]
 have bz:ak (ai 0 iz) (aT iz (av zs))=true:=by rw[aH,aA,bf,aD];omega
 have bw:ak (ai 0 ie) (aT ie (av we))=true:=by rw[aH,aA,bf,aD];omega
 have iz1:ieq iz iz=true:=bn rfl;have ie1:ieq ie ie=true:=bn rfl;unfold wU;by_cases a:lM xs=0
 ·by_cases b:av yz<256
  ·unfold pE rZ
   rcases Bool.eq_false_or_eq_true (F6 xs) with hb|hb
   ·have hs: ∀A B:Option V,sel (F6 xs) A B=A:=fun A B=>by rw[hb];rfl
    have ho:nD xs ln=ln:=by unfold nD;rw[hb];rfl
    simp only[kz,kw,lz,lw,bz,bw,iz1,ie1,h1,bn a,bD b,app1 y1,app1 e1,gP,iQ,iw,gV,Hf a b,hs,ho];rfl
   ·have hs: ∀A B:Option V,sel (F6 xs) A B=B:=fun A B=>by rw[hb];rfl
    have ho:nD xs ln=0:=by unfold nD;rw[hb];rfl
    simp only[kz,kw,lz,lw,bz,bw,iz1,ie1,h1,bn a,bD b,app1 y1,app1 e1,gP,iQ,iw,gV,Hf a b,hs,ho];rfl
  ·simp only[kz,kw,bz,bw,iz1,h1,bn a,bB (Int.not_lt.1 b),iw,gV,JH a b]
   rfl
 ·simp only[kz,kw,bz,bw,iz1,h1,cO a,iw,gV,iQ,RF a]
theorem Z6 (c0 c1 c2 c3 c4 c5:V) (ln op:Int) (xs:List V) (hc:(bif Wk c0 c1 c2 c3 c4 c5 then erC (xL c1) (xI c1) (xY c1) (xL c4) (xI c4) (xY c4) xs else false)=true):rP eE 88 [.bxa 0 [c0,c1,c2,c3,c4,c5,.int .i64 ln,.int .i64 op],.sl 9 [.str] none xs] (.o9 (ieq (wU (xY c1) xs) 0) (.out false (.tup []) [nZ (xL c0) (pE (xL c1) (xY c1) xs) (xL c2) (xL c3) (rZ (xL c4) (xY c4) ln) (xL c5) (xI c1) (aZ (xY c1) [z8 xs]) (xI c4) (aZ (xY c4) [.int .i64 ln]) ln (nD xs ln)]) (.out true (gU ln (wU (xY c1) xs)) [nZ (xL c0) (xL c1) (xL c2) (xL c3) (xL c4) (xL c5) (xI c1) (xY c1) (xI c4) (xY c4) ln op])):=by
 obtain⟨h,hc⟩:=lG hc;rw[Et h];exact He Es 5 3 (era_p _ _ _ _ _ _ _ _ _ _ _ _ _ hc)
theorem Yr:bq eE rS1:=by
 unfold rS1;refine bq.tF (fun args r h=>?_) Es;all_goals (revert h;intro h;first|unfold rEraS at h)
 all_goals (split at h;rotate_left; · cases h)
 all_goals (simp only[Option.some.injEq,Prod.mk.injEq] at h;obtain⟨hc,rfl⟩:=h)
 ·exact Z6 _ _ _ _ _ _ _ _ _ hc
theorem EX {xs:List V} (h:iN xs=true) (a b:Int):iN (dL xs a b)=true:=by
 unfold iN at h⊢;rw[List.all_eq_true] at h⊢;exact fun x hx=>h x (List.mem_of_mem_drop (List.mem_of_mem_take hx))
theorem zn_zs (zs xs:List V):pE (aZ zs [V.agg [V.str (aR (ax (aP xs 0) 0)),V.nilsl]]) [] (dL xs 1 (av xs))=sj zs xs:=by
 unfold pE sj;have e:av (aZ zs [V.agg [V.str (aR (ax (aP xs 0) 0)),V.nilsl]])-1=(zs.length:Int):=by rw[aD];unfold aZ;simp
 rw[e];generalize aR (ax (aP xs 0) 0)=n;have e2:(zs++[V.agg [V.str n,V.nilsl]]).getD zs.length V.any=V.agg [V.str n,V.nilsl]:=by simp
 unfold pY aP aZ;rw[Int.toNat_natCast,List.set_append_right _ _ (Nat.le_refl _),Nat.sub_self,e2];rfl
theorem zn_we (we:List V) (ln:Int):rZ (aZ we [V.nilsl]) [] ln=yo we ln:=by
 unfold rZ yo;have e:av (aZ we [V.nilsl])-1=(we.length:Int):=by rw[aD];unfold aZ;simp
 rw[e];unfold pY aZ;rw[Int.toNat_natCast,List.set_append_right _ _ (Nat.le_refl _),Nat.sub_self];rfl
theorem zone_p (rs zs ks wr we wl:List V) (ln op iz ie:Int) (yz ye xs:List V) (hc:znC zs we xs=true):cr eE (bV eE rS1 5 3) 5 91 [.bxa 0 (nZ rs zs ks wr we wl iz yz ie ye ln op),.sl 9 [.str] none xs] some=
  some (sel (ieq (vL zs xs) 0) (.out false (.tup []) [nZ rs (sj zs xs) ks wr (yo we ln) wl (av zs) [z8 (dL xs 1 (av xs))] (av we) [.int .i64 ln] ln (nD (dL xs 1 (av xs)) ln)]) (.out true (gU ln (vL zs xs)) [nZ rs zs ks wr we wl iz yz ie ye ln op])):=by
 (rw[VN];(conv=>zeta))
 unfold znC at hc;rw[decide_eq_true_eq] at hc;obtain⟨h1,z1,w1⟩:=hc;unfold vL;by_cases n0:av xs=0
 ·simp only[bn n0,iw,if_pos n0]
  rfl
 have n1:1≤av xs:=by rw[aD] at n0⊢;omega
 have i0:ak (ai 0 0) (aT 0 (av xs))=true:=by rw[aH,aA,bf];omega
 have i1:ak (ai 0 1) (ai 1 (av xs))=true:=by rw[aH,aA,aA];omega
 have ht:iN (dL xs 1 (av xs))=true:=EX h1 _ _;by_cases nm:fF (aR (ax (aP xs 0) 0))=0
 ·have nmN: ∀A B:Int,(if fF (aR (ax (aP xs 0) 0))≠0 then A else B)=B:=fun A B=>if_neg (fun h=>h nm)
  by_cases a:lM (dL xs 1 (av xs))=0
  ·by_cases b:av zs<1024
   ·have hE:erC (aZ zs [V.agg [V.str (aR (ax (aP xs 0) 0)),V.nilsl]]) (av zs) [] (aZ we [V.nilsl]) (av we) [] (dL xs 1 (av xs))=true:=by
     unfold erC;rw[decide_eq_true_eq];simp only[aZ,List.length_append,List.length_singleton,List.length_nil,aD];refine⟨ht,⟨by omega,by omega⟩,by omega,by omega,⟨by omega,by omega⟩,by omega,by omega⟩
    have e0:wU [] (dL xs 1 (av xs))=0:=Hf a (by rw[aD];decide);simp only[cO n0,i0,i1,ht,bn nm,bn a,bD b,app1 (y:=(V.agg [V.str (aR (ax (aP xs 0) 0)),V.nilsl])) (show zs.length≤16000000 by omega),app1 (y:=V.nilsl) (show we.length≤16000000 by omega),hE,e0,gP,iQ,iw,gV,if_neg n0,nmN,Hf a b,zn_zs,zn_we];rfl
   ·simp only[cO n0,i0,i1,ht,bn nm,bn a,bB (Int.not_lt.1 b),gP,iQ,iw,gV,if_neg n0,nmN,JH a b]
    rfl
  ·simp only[cO n0,i0,i1,ht,bn nm,cO a,gP,iQ,iw,gV,if_neg n0,nmN,RF a]
 ·simp only[cO n0,i0,cO nm,iQ,iw,gV,if_neg n0,if_pos (show fF (aR (ax (aP xs 0) 0))≠0 from nm)]
theorem VR (c0 c1 c2 c3 c4 c5:V) (ln op:Int) (xs:List V) (hc:(bif Wk c0 c1 c2 c3 c4 c5 then znC (xL c1) (xL c4) xs else false)=true):rP eE 91 [.bxa 0 [c0,c1,c2,c3,c4,c5,.int .i64 ln,.int .i64 op],.sl 9 [.str] none xs] (.o9 (ieq (vL (xL c1) xs) 0) (.out false (.tup []) [nZ (xL c0) (sj (xL c1) xs) (xL c2) (xL c3) (yo (xL c4) ln) (xL c5) (av (xL c1)) [z8 (dL xs 1 (av xs))] (av (xL c4)) [.int .i64 ln] ln (nD (dL xs 1 (av xs)) ln)]) (.out true (gU ln (vL (xL c1) xs)) [nZ (xL c0) (xL c1) (xL c2) (xL c3) (xL c4) (xL c5) (xI c1) (xY c1) (xI c4) (xY c4) ln op])):=by
 obtain⟨h,hc⟩:=lG hc;rw[Et h];exact He Yr 5 3 (zone_p _ _ _ _ _ _ _ _ _ _ _ _ _ hc)
theorem rS2_ok:bq eE rS2:=by
 unfold rS2;refine bq.tF (fun args r h=>?_) (bq.tF (fun args r h=>?_) (bq.tF (fun args r h=>?_) Yr));all_goals (revert h;intro h;first|unfold Ym at h|unfold Yn at h|unfold Yo at h)
 all_goals (split at h;rotate_left; · cases h)
 all_goals (simp only[Option.some.injEq,Prod.mk.injEq] at h;obtain⟨hc,rfl⟩:=h)
 ·exact VP _ _ _ _ _ _ _ _ _ hc
 ·exact VQ _ _ _ _ _ _ _ _ _ hc
 ·exact VR _ _ _ _ _ _ _ _ _ hc
end Nt.Ev.YtplklcejbmfgdaaGreatDoor.Rr
