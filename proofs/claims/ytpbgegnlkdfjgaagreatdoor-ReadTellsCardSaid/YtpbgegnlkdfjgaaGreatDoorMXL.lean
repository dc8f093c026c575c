/-
  The reader of sources: its cells, what each step makes of them. Reader: equations of functions, as the evaluator prints them. The reader's fail and room, walked: they leave all as it was. The reader of sources: rules, links, eras, zones; both sides as contracts.
-/
import Derived.Test.YtpbgegnlkdfjgaaGreatDoorMN
import Derived.Test.YtpbgegnlkdfjgaaGreatDoorMO
import Derived.Test.YtpbgegnlkdfjgaaGreatDoorMQ
import Derived.Test.YtpbgegnlkdfjgaaGreatDoorMR
import Derived.WalkKit
set_option linter.unusedVariables false
set_option linter.unusedSimpArgs false
set_option linter.unusedSectionVars false
namespace Nt.Ev.YtpbgegnlkdfjgaaGreatDoor.Rr
open Go Nt.Num Nt.Civil Nt.Fld Go.Proofs.YtpbgegnlkdfjgaaGreatDoor Nt.Ev.YtpbgegnlkdfjgaaGreatDoor Nt.Ev.YtpbgegnlkdfjgaaGreatDoor.Lk
variable [uT]
abbrev kE:List Kd:=[Kd.int .i64,Kd.int .i64,Kd.int .i64,Kd.str,Kd.str,Kd.bool,Kd.int .i64,Kd.int .i64,Kd.int .i64,Kd.int .i64,Kd.int .i64,Kd.int .i64,Kd.int .i64]
abbrev kR:List Kd:=[Kd.str,Kd.int .i64,Kd.int .i64,Kd.int .i64,Kd.int .i64,Kd.int .i64,Kd.int .i64,Kd.int .i64,Kd.int .i64,Kd.int .i64,Kd.str]
abbrev kL:List Kd:=[Kd.str,Kd.str]
abbrev kZ:List Kd:=[Kd.str,Kd.sl 50 kE]
abbrev kI:List Kd:=[Kd.int .i64]
abbrev kW:List Kd:=[Kd.sl 3 kI]
def xL:V→List V
 | .sl _ _ _ xs=>xs
 | .slz _ _ _ xs _ _ _ _ _ _=>xs
 |_=>[]
def xI:V→Int
 | .slz _ _ _ _ _ i _ _ _ _=>i
 |_=>0
def xY:V→List V
 | .slz _ _ _ _ _ _ _ _ _ ys=>ys
 |_=>[]
def VL (L e:Nat) (k:List Kd):V→Bool
 | .sl e' k' (some L') _=>(L==L'&&e==e')&&Kd.tO k k'
 |_=>false
def labZ (L e:Nat) (k:List Kd) (L2 c e2:Nat) (k2:List Kd):V→Bool
 | .slz L' e' k' _ (some L2') _ c' e2' k2' _=>((L==L'&&e==e')&&(Kd.tO k k'&&L2==L2'))&&((c==c'&&e2==e2')&&Kd.tO k2 k2')
 |_=>false
def isN:V→Bool
 | .nilsl=>true
 |_=>false
def Ja (c0 c1 c2 c3 c4 c5:V):Bool:=(VL 1000001001 61 kR c0&&labZ 1000001002 42 kZ 1000001502 1 50 kE c1)&&((VL 1000001003 63 kL c2&&VL 1000001004 3 kI c3)&&(labZ 1000001005 29 kW 1000001505 0 3 kI c4&&VL 1000001006 3 kI c5))
def okN (c0 c1 c2 c3 c4 c5:V):Bool:=(isN c0&&isN c1)&&((isN c2&&isN c3)&&(isN c4&&isN c5))
def okB (c0 c1 c2 c3 c4 c5:V):Bool:=Ja c0 c1 c2 c3 c4 c5||okN c0 c1 c2 c3 c4 c5
abbrev qw (rs zs ks wr we wl:List V) (iz:Int) (yz:List V) (ie:Int) (ye:List V) (op:Int):List V:=[V.sl 61 kR (some 1000001001) rs,V.slz 1000001002 42 kZ zs (some 1000001502) iz 1 50 kE yz,V.sl 63 kL (some 1000001003) ks,V.sl 3 kI (some 1000001004) wr,V.slz 1000001005 29 kW we (some 1000001505) ie 0 3 kI ye,V.sl 3 kI (some 1000001006) wl,V.int .i64 op]
abbrev qx (rs zs ks wr we wl:List V) (iz:Int) (yz:List V) (ie:Int) (ye:List V) (ln op:Int):List V:=[V.sl 61 kR (some 1000001001) rs,V.slz 1000001002 42 kZ zs (some 1000001502) iz 1 50 kE yz,V.sl 63 kL (some 1000001003) ks,V.sl 3 kI (some 1000001004) wr,V.slz 1000001005 29 kW we (some 1000001505) ie 0 3 kI ye,V.sl 3 kI (some 1000001006) wl,V.int .i64 ln,V.int .i64 op]
abbrev bxn (rs zs ks wr we wl:List V) (iz:Int) (yz:List V) (ie:Int) (ye:List V) (ln op:Int):List V:=[V.sl 61 kR (some 1001) rs,V.slz 1002 42 kZ zs (some 1502) iz 1 50 kE yz,V.sl 63 kL (some 1003) ks,V.sl 3 kI (some 1004) wr,V.slz 1005 29 kW we (some 1505) ie 0 3 kI ye,V.sl 3 kI (some 1006) wl,V.int .i64 ln,V.int .i64 op]
abbrev gU (ln e:Int):V:=.iface 51 (.agg [.int .i64 ln,.int .i64 e])
abbrev tbV (a b c d e f:List V) (l w:Int):V:=.tup [.agg [.sl 61 kR none a,.sl 42 kZ none b,.sl 63 kL none c],.agg [.sl 3 kI none d,.sl 29 kW none e,.sl 3 kI none f],.agg [.int .i64 l,.int .i64 w]]
abbrev Vv (l w:Int):V:=.tup [.agg [.nilsl,.nilsl,.nilsl],.agg [.nilsl,.nilsl,.nilsl],.agg [.int .i64 l,.int .i64 w]]
noncomputable def NW (xs:List V):V:=.agg [.str (ru0 xs),.int .i64 (ru1 xs),.int .i64 (ru2 xs),.int .i64 (ru3 xs),.int .i64 (ru4 xs),.int .i64 (ru5 xs),.int .i64 (ru6 xs),.int .i64 (ru7 xs),.int .i64 (ru8 xs),.int .i64 (ru9 xs),.str (Jf xs)]
noncomputable def Vw (xs:List V):V:=.agg [.str (lrT xs),.str (lrN xs)]
noncomputable def yg (xs:List V):V:=.agg [.int .i64 (er0 xs),.int .i64 (er1 xs),.int .i64 (er2 xs),.str (er3 xs),.str (er4 xs),.bool (Ri xs),.int .i64 (er6 xs),.int .i64 (er7 xs),.int .i64 (er8 xs),.int .i64 (er9 xs),.int .i64 (VG xs),.int .i64 (VH xs),.int .i64 (VI xs)]
def DX (xs:List V):Bool:=decide (xs.length≤16000000)
def oV (e n m:Int):Int:=if e≠0 then e else if n<m then 0 else 17
noncomputable def nS (rs xs:List V):Int:=oV (NT xs) (ax rs) 4096
noncomputable def nU (ks xs:List V):Int:=oV (Lt xs) (ax ks) 1024
noncomputable def mG (yz xs:List V):Int:=oV (lC xs) (ax yz) 256
noncomputable def JO (zs:List V) (iz:Int) (yz we:List V) (ie:Int) (ye xs:List V):Bool:=decide (dZ xs=true∧(0<zs.length∧zs.length≤16000000)∧iz=(zs.length:Int)-1∧yz.length≤16000000∧(0<we.length∧we.length≤16000000)∧ie=(we.length:Int)-1∧ye.length≤16000000)
noncomputable def nV (zs yz xs:List V):List V:=sP zs (ax zs-1) (YF (aY zs (ax zs-1)) 1 (.sl 50 kE none (aX yz [yg xs])))
def rM (we ye:List V) (ln:Int):List V:=sP we (ax we-1) (.sl 3 kI none (aX ye [.int .i64 ln]))
noncomputable def kJ (xs:List V) (ln:Int):Int:=if Ri xs=true then ln else 0
noncomputable def Ua (zs we xs:List V):Bool:=decide (dZ xs=true∧zs.length≤15000000∧we.length≤15000000)
abbrev tl1 (xs:List V):List V:=dI xs 1 (ax xs)
noncomputable def mH (zs xs:List V):Int:=if ax xs=0 then 5 else if gW (aT (aD (aY xs 0) 0))≠0 then gW (aT (aD (aY xs 0) 0)) else oV (lC (tl1 xs)) (ax zs) 1024
noncomputable def rO (zs xs:List V):List V:=aX zs [.agg [.str (aT (aD (aY xs 0) 0)),.sl 50 kE none [yg (tl1 xs)]]]
def vP (we:List V) (ln:Int):List V:=aX we [.sl 3 kI none [.int .i64 ln]]
abbrev I5:List V:=[.str [82,117,108,101],.str [90,111,110,101],.str [76,105,110,107]]
def wsR (ws:List V):Bool:=mV ws
noncomputable def gz (op:Int) (s:List UInt8):Nat:=if ax (bX s)=0 then 4 else if 0<op then 3 else(kH (aT (aD (aY (bX s) 0) 0)) I5).toNat
noncomputable def fG (rs zs ks yz:List V) (op:Int) (s:List UInt8):Int:=if I9 s≠0 then I9 s else if Ls s≠0 then Ls s else if ax (bX s)=0 then 0 else if 0<op then mG yz (bX s) else
 if mO (aT (aD (aY (bX s) 0) 0)) I5≠0 then mO (aT (aD (aY (bX s) 0) 0)) I5 else if kH (aT (aD (aY (bX s) 0) 0)) I5=0 then nS rs (tl1 (bX s)) else if kH (aT (aD (aY (bX s) 0) 0)) I5=1 then mH zs (tl1 (bX s)) else nU ks (tl1 (bX s))
noncomputable def vQ (rs zs:List V) (iz:Int) (yz wr we:List V) (ie:Int) (ye wl:List V) (op:Int) (s:List UInt8):Bool:=decide (s.length≤4000000∧zs.length≤15000000∧we.length≤15000000∧yz.length≤16000000∧ye.length≤16000000∧wr.length≤16000000∧wl.length≤16000000∧(0<op→0<zs.length∧iz=(zs.length:Int)-1∧0<we.length∧ie=(we.length:Int)-1))
noncomputable def pE (rs:List V) (op:Int) (s:List UInt8):List V:=if gz op s=0 then aX rs [NW (tl1 (bX s))] else rs
noncomputable def pF (zs yz:List V) (op:Int) (s:List UInt8):List V:=if gz op s=3 then nV zs yz (bX s) else if gz op s=1 then rO zs (tl1 (bX s)) else zs
noncomputable def pG (ks:List V) (op:Int) (s:List UInt8):List V:=if gz op s=2 then aX ks [Vw (tl1 (bX s))] else ks
noncomputable def pI (wr:List V) (ln op:Int) (s:List UInt8):List V:=if gz op s=0 then aX wr [.int .i64 ln] else wr
noncomputable def pJ (we ye:List V) (ln op:Int) (s:List UInt8):List V:=if gz op s=3 then rM we ye ln else if gz op s=1 then vP we ln else we
noncomputable def pK (wl:List V) (ln op:Int) (s:List UInt8):List V:=if gz op s=2 then aX wl [.int .i64 ln] else wl
noncomputable def pM (iz:Int) (zs:List V) (op:Int) (s:List UInt8):Int:=if gz op s=1 then ax zs else iz
noncomputable def pN (yz:List V) (op:Int) (s:List UInt8):List V:=if gz op s=3 then aX yz [yg (bX s)] else if gz op s=1 then[yg (tl1 (tl1 (bX s)))] else yz
noncomputable def pO (ie:Int) (we:List V) (op:Int) (s:List UInt8):Int:=if gz op s=1 then ax we else ie
noncomputable def pP (ye:List V) (ln op:Int) (s:List UInt8):List V:=if gz op s=3 then aX ye [.int .i64 ln] else if gz op s=1 then[.int .i64 ln] else ye
noncomputable def pQ (op ln:Int) (s:List UInt8):Int:=if gz op s=3 then kJ (bX s) ln else if gz op s=1 then kJ (tl1 (tl1 (bX s))) ln else op
set_option maxRecDepth 100000
noncomputable def rRuS:aL:=fun a=>match a with|[.sl 9 [.str] none xs]=>some (dZ xs,.tup [.agg [.str (ru0 xs),.int .i64 (ru1 xs),.int .i64 (ru2 xs),.int .i64 (ru3 xs),.int .i64 (ru4 xs),.int .i64 (ru5 xs),.int .i64 (ru6 xs),.int .i64 (ru7 xs),.int .i64 (ru8 xs),.int .i64 (ru9 xs),.str (Jf xs)],.int .i64 (NT xs)])|_=>none
noncomputable def rLkS:aL:=fun a=>match a with|[.sl 9 [.str] none xs]=>some (true,.tup [.agg [.str (lrT xs),.str (lrN xs)],.int .i64 (Lt xs)])|_=>none
noncomputable def rNmS:aL:=fun a=>match a with|[.str s]=>some (true,.int .i64 (gW s))|_=>none
noncomputable def rMtS:aL:=fun a=>match a with|[.str s,.sl e [.str] o ws]=>some (av (ak (ah s) 1000) (wsR ws),.tup [.int .i64 (kH s ws),.int .i64 (mO s ws)])|_=>none
noncomputable def rOfS:aL:=fun a=>match a with|[.str s]=>some (ak (ah s) 4000000,.tup [.sl 9 [.str] none (bX s),.int .i64 (Ls s)])|_=>none
noncomputable def rCkS:aL:=fun a=>match a with|[.str s]=>some (ak (ah s) 4000000,.int .i64 (I9 s))|_=>none
noncomputable def rLnS:aL:=fun a=>match a with|[.str s]=>some (ak (ah s) 4000000,.sl 9 [.str] none (fw s))|_=>none
noncomputable def rFaS:aL:=fun a=>match a with|[.bxa 0 [c0,c1,c2,c3,c4,c5,.int .i64 ln,c7],.int .i64 e]=>some (true,.mK (ieq e 0) (.keep false (.tup [])) (.keep true (gU ln e)))|_=>none
noncomputable def rRoS:aL:=fun a=>match a with|[.bxa 0 [c0,c1,c2,c3,c4,c5,.int .i64 ln,c7],.int .i64 n,.int .i64 m]=>some (true,.mK (aK n m) (.keep false (.tup [])) (.keep true (gU ln 17)))|_=>none
noncomputable def Q5:List (Nat×aL):=(KX+16,rFaS)::(KX+50,rRoS)::(53,rRuS)::(39,rRuS)::(49,eRdS)::(36,eRdS)::(55,rLkS)::(41,rLkS)::(54,rNmS)::(40,rNmS)::(31,rMtS)::(22,rMtS)::(29,rOfS)::(20,rOfS)::(28,rCkS)::(19,rCkS)::(17,rLnS)::(12,rLnS)::[]
noncomputable def aak:aL:=fun a=>match a with|[.bxa 0 [c0,c1,c2,c3,c4,c5,.int .i64 ln,.int .i64 op],.sl 9 [.str] none xs]=>some (bif Ja c0 c1 c2 c3 c4 c5 then av (dZ xs) (DX (xL c3)) else false,.mK (ieq (nS (xL c0) xs) 0) (.out false (.tup []) [qx (aX (xL c0) [NW xs]) (xL c1) (xL c2) (aX (xL c3) [.int .i64 ln]) (xL c4) (xL c5) (xI c1) (xY c1) (xI c4) (xY c4) ln op]) (.out true (gU ln (nS (xL c0) xs)) [qx (xL c0) (xL c1) (xL c2) (xL c3) (xL c4) (xL c5) (xI c1) (xY c1) (xI c4) (xY c4) ln op]))|_=>none
noncomputable def aal:aL:=fun a=>match a with|[.bxa 0 [c0,c1,c2,c3,c4,c5,.int .i64 op],.sl 9 [.str] none xs,.int .i64 ln]=>some (bif Ja c0 c1 c2 c3 c4 c5 then av (dZ xs) (DX (xL c3)) else false,.mK (ieq (nS (xL c0) xs) 0) (.out false (.int .i64 0) [qw (aX (xL c0) [NW xs]) (xL c1) (xL c2) (aX (xL c3) [.int .i64 ln]) (xL c4) (xL c5) (xI c1) (xY c1) (xI c4) (xY c4) op]) (.out false (.int .i64 (nS (xL c0) xs)) [qw (xL c0) (xL c1) (xL c2) (xL c3) (xL c4) (xL c5) (xI c1) (xY c1) (xI c4) (xY c4) op]))|_=>none
noncomputable def aam:aL:=fun a=>match a with|[.bxa 0 [c0,c1,c2,c3,c4,c5,.int .i64 ln,.int .i64 op],.sl 9 [.str] none xs]=>some (bif Ja c0 c1 c2 c3 c4 c5 then DX (xL c5) else false,.mK (ieq (nU (xL c2) xs) 0) (.out false (.tup []) [qx (xL c0) (xL c1) (aX (xL c2) [Vw xs]) (xL c3) (xL c4) (aX (xL c5) [.int .i64 ln]) (xI c1) (xY c1) (xI c4) (xY c4) ln op]) (.out true (gU ln (nU (xL c2) xs)) [qx (xL c0) (xL c1) (xL c2) (xL c3) (xL c4) (xL c5) (xI c1) (xY c1) (xI c4) (xY c4) ln op]))|_=>none
noncomputable def aan:aL:=fun a=>match a with|[.bxa 0 [c0,c1,c2,c3,c4,c5,.int .i64 op],.sl 9 [.str] none xs,.int .i64 ln]=>some (bif Ja c0 c1 c2 c3 c4 c5 then DX (xL c5) else false,.mK (ieq (nU (xL c2) xs) 0) (.out false (.int .i64 0) [qw (xL c0) (xL c1) (aX (xL c2) [Vw xs]) (xL c3) (xL c4) (aX (xL c5) [.int .i64 ln]) (xI c1) (xY c1) (xI c4) (xY c4) op]) (.out false (.int .i64 (nU (xL c2) xs)) [qw (xL c0) (xL c1) (xL c2) (xL c3) (xL c4) (xL c5) (xI c1) (xY c1) (xI c4) (xY c4) op]))|_=>none
noncomputable def rEraS:aL:=fun a=>match a with|[.bxa 0 [c0,c1,c2,c3,c4,c5,.int .i64 ln,.int .i64 op],.sl 9 [.str] none xs]=>some (bif Ja c0 c1 c2 c3 c4 c5 then JO (xL c1) (xI c1) (xY c1) (xL c4) (xI c4) (xY c4) xs else false,.mK (ieq (mG (xY c1) xs) 0) (.out false (.tup []) [qx (xL c0) (nV (xL c1) (xY c1) xs) (xL c2) (xL c3) (rM (xL c4) (xY c4) ln) (xL c5) (xI c1) (aX (xY c1) [yg xs]) (xI c4) (aX (xY c4) [.int .i64 ln]) ln (kJ xs ln)]) (.out true (gU ln (mG (xY c1) xs)) [qx (xL c0) (xL c1) (xL c2) (xL c3) (xL c4) (xL c5) (xI c1) (xY c1) (xI c4) (xY c4) ln op]))|_=>none
noncomputable def rEraT:aL:=fun a=>match a with|[.bxa 0 [c0,c1,c2,c3,c4,c5,.int .i64 op],.sl 9 [.str] none xs,.int .i64 ln]=>some (bif Ja c0 c1 c2 c3 c4 c5 then JO (xL c1) (xI c1) (xY c1) (xL c4) (xI c4) (xY c4) xs else false,.mK (ieq (mG (xY c1) xs) 0) (.out false (.int .i64 0) [qw (xL c0) (nV (xL c1) (xY c1) xs) (xL c2) (xL c3) (rM (xL c4) (xY c4) ln) (xL c5) (xI c1) (aX (xY c1) [yg xs]) (xI c4) (aX (xY c4) [.int .i64 ln]) (kJ xs ln)]) (.out false (.int .i64 (mG (xY c1) xs)) [qw (xL c0) (xL c1) (xL c2) (xL c3) (xL c4) (xL c5) (xI c1) (xY c1) (xI c4) (xY c4) op]))|_=>none
noncomputable def aao:aL:=fun a=>match a with|[.bxa 0 [c0,c1,c2,c3,c4,c5,.int .i64 ln,.int .i64 op],.sl 9 [.str] none xs]=>some (bif Ja c0 c1 c2 c3 c4 c5 then Ua (xL c1) (xL c4) xs else false,.mK (ieq (mH (xL c1) xs) 0) (.out false (.tup []) [qx (xL c0) (rO (xL c1) xs) (xL c2) (xL c3) (vP (xL c4) ln) (xL c5) (ax (xL c1)) [yg (dI xs 1 (ax xs))] (ax (xL c4)) [.int .i64 ln] ln (kJ (dI xs 1 (ax xs)) ln)]) (.out true (gU ln (mH (xL c1) xs)) [qx (xL c0) (xL c1) (xL c2) (xL c3) (xL c4) (xL c5) (xI c1) (xY c1) (xI c4) (xY c4) ln op]))|_=>none
noncomputable def aap:aL:=fun a=>match a with|[.bxa 0 [c0,c1,c2,c3,c4,c5,.int .i64 op],.sl 9 [.str] none xs,.int .i64 ln]=>some (bif Ja c0 c1 c2 c3 c4 c5 then Ua (xL c1) (xL c4) xs else false,.mK (ieq (mH (xL c1) xs) 0) (.out false (.int .i64 0) [qw (xL c0) (rO (xL c1) xs) (xL c2) (xL c3) (vP (xL c4) ln) (xL c5) (ax (xL c1)) [yg (dI xs 1 (ax xs))] (ax (xL c4)) [.int .i64 ln] (kJ (dI xs 1 (ax xs)) ln)]) (.out false (.int .i64 (mH (xL c1) xs)) [qw (xL c0) (xL c1) (xL c2) (xL c3) (xL c4) (xL c5) (xI c1) (xY c1) (xI c4) (xY c4) op]))|_=>none
noncomputable def aaq:aL:=fun a=>match a with|[.bxa 0 [c0,c1,c2,c3,c4,c5,.int .i64 ln,.int .i64 op],.str s]=>some (bif okB c0 c1 c2 c3 c4 c5 then vQ (xL c0) (xL c1) (xI c1) (xY c1) (xL c3) (xL c4) (xI c4) (xY c4) (xL c5) op s else false,.mK (ieq (fG (xL c0) (xL c1) (xL c2) (xY c1) op s) 0) (.out false (.tup []) [qx (pE (xL c0) op s) (pF (xL c1) (xY c1) op s) (pG (xL c2) op s) (pI (xL c3) ln op s) (pJ (xL c4) (xY c4) ln op s) (pK (xL c5) ln op s) (pM (xI c1) (xL c1) op s) (pN (xY c1) op s) (pO (xI c4) (xL c4) op s) (pP (xY c4) ln op s) ln (pQ op ln s)]) (.out true (gU ln (fG (xL c0) (xL c1) (xL c2) (xY c1) op s)) [qx (xL c0) (xL c1) (xL c2) (xL c3) (xL c4) (xL c5) (xI c1) (xY c1) (xI c4) (xY c4) ln op]))|_=>none
noncomputable def aar:aL:=fun a=>match a with|[.bxa 0 [c0,c1,c2,c3,c4,c5,.int .i64 op],.str s,.int .i64 ln]=>some (bif okB c0 c1 c2 c3 c4 c5 then vQ (xL c0) (xL c1) (xI c1) (xY c1) (xL c3) (xL c4) (xI c4) (xY c4) (xL c5) op s else false,.mK (ieq (fG (xL c0) (xL c1) (xL c2) (xY c1) op s) 0) (.out false (.int .i64 0) [qw (pE (xL c0) op s) (pF (xL c1) (xY c1) op s) (pG (xL c2) op s) (pI (xL c3) ln op s) (pJ (xL c4) (xY c4) ln op s) (pK (xL c5) ln op s) (pM (xI c1) (xL c1) op s) (pN (xY c1) op s) (pO (xI c4) (xL c4) op s) (pP (xY c4) ln op s) (pQ op ln s)]) (.out false (.int .i64 (fG (xL c0) (xL c1) (xL c2) (xY c1) op s)) [qw (xL c0) (xL c1) (xL c2) (xL c3) (xL c4) (xL c5) (xI c1) (xY c1) (xI c4) (xY c4) op]))|_=>none
noncomputable def rS1:List (Nat×aL):=(GX+30,rEraS)::(GX+21,rEraT)::Q5
noncomputable def rS2:List (Nat×aL):=(GX+32,aak)::(GX+23,aal)::(GX+34,aam)::(GX+25,aan)::(GX+33,aao)::(GX+24,aap)::rS1
noncomputable def YB:List (Nat×aL):=(GX+18,aaq)::(GX+13,aar)::Q5
theorem X0 (F:Nat) (rs zs ks wr we wl:List V) (ln op iz ie:Int) (yz ye xs:List V) (K:V→Option V):
 bD eE (bB eE Q5 F 3) F 32 [V.bxa 0 (qx rs zs ks wr we wl iz yz ie ye ln op),V.sl 9 [Kd.str] none xs] K=
 let A:=V.int .i64 ln;let B:=[qx rs zs ks wr we wl iz yz ie ye ln op];let C:=[Kd.int .i64];sel (dZ xs) (sel (ieq (NT xs) 0) (sel (aK (ax rs) 4096) (sel (dR rs [NW xs]) (sel (dR wr [A]) (K (V.out false (V.tup []) [[V.sl 61 kR (some 1000001001) (aX rs [NW xs]),V.slz 1000001002 42 kZ zs (some 1000001502) iz 1 50 kE yz,V.sl 63 kL (some 1000001003) ks,V.sl 3 C (some 1000001004) (aX wr [A]),V.slz 1000001005 29 kW we (some 1000001505) ie 0 3 C ye,V.sl 3 C (some 1000001006) wl,A,V.int .i64 op]])) none) none) (K (V.out true (V.iface 51 (V.agg [A,V.int .i64 17])) B))) (K (V.out true (V.iface 51 (V.agg [A,V.int .i64 (NT xs)])) B))) none:=by kernel_rfl
theorem X3 (F:Nat) (rs zs ks wr we wl:List V) (ln op iz ie:Int) (yz ye xs:List V) (K:V→Option V):
 bD eE (bB eE Q5 F 3) F 23 [V.bxa 0 (qw rs zs ks wr we wl iz yz ie ye op),V.sl 9 [Kd.str] none xs,V.int .i64 ln] K=
 let B:=[qw rs zs ks wr we wl iz yz ie ye op];let C:=[Kd.int .i64];let D:=[V.int .i64 ln];let A:=sel (aB (ieq (NT xs) 0)) (K (V.out false (V.int .i64 (NT xs)) B)) (sel (dR rs [NW xs]) (sel (dR wr D) (K (V.out false (V.int .i64 0) [[V.sl 61 kR (some 1000001001) (aX rs [NW xs]),V.slz 1000001002 42 kZ zs (some 1000001502) iz 1 50 kE yz,V.sl 63 kL (some 1000001003) ks,V.sl 3 C (some 1000001004) (aX wr D),V.slz 1000001005 29 kW we (some 1000001505) ie 0 3 C ye,V.sl 3 C (some 1000001006) wl,V.int .i64 op]])) none) none);sel (dZ xs) (sel (ieq (NT xs) 0) (sel (ak 4096 (ax rs)) (K (V.out false (V.int .i64 17) B)) A) A) none:=by kernel_rfl
theorem X4 (F:Nat) (rs zs ks wr we wl:List V) (ln op iz ie:Int) (yz ye xs:List V) (K:V→Option V):
 bD eE (bB eE Q5 F 3) F 34 [V.bxa 0 (qx rs zs ks wr we wl iz yz ie ye ln op),V.sl 9 [Kd.str] none xs] K=
 let A:=V.int .i64 ln;let B:=[V.agg [V.str (lrT xs),V.str (lrN xs)]];let C:=[qx rs zs ks wr we wl iz yz ie ye ln op];let D:=[Kd.int .i64];sel (ieq (Lt xs) 0) (sel (aK (ax ks) 1024) (sel (dR ks B) (sel (dR wl [A]) (K (V.out false (V.tup []) [[V.sl 61 kR (some 1000001001) rs,V.slz 1000001002 42 kZ zs (some 1000001502) iz 1 50 kE yz,V.sl 63 kL (some 1000001003) (aX ks B),V.sl 3 D (some 1000001004) wr,V.slz 1000001005 29 kW we (some 1000001505) ie 0 3 D ye,V.sl 3 D (some 1000001006) (aX wl [A]),A,V.int .i64 op]])) none) none) (K (V.out true (V.iface 51 (V.agg [A,V.int .i64 17])) C))) (K (V.out true (V.iface 51 (V.agg [A,V.int .i64 (Lt xs)])) C)):=by kernel_rfl
theorem X5 (F:Nat) (rs zs ks wr we wl:List V) (ln op iz ie:Int) (yz ye xs:List V) (K:V→Option V):
 bD eE (bB eE Q5 F 3) F 25 [V.bxa 0 (qw rs zs ks wr we wl iz yz ie ye op),V.sl 9 [Kd.str] none xs,V.int .i64 ln] K=
 let B:=[V.agg [V.str (lrT xs),V.str (lrN xs)]];let C:=[qw rs zs ks wr we wl iz yz ie ye op];let D:=[Kd.int .i64];let E:=[V.int .i64 ln];let A:=sel (aB (ieq (Lt xs) 0)) (K (V.out false (V.int .i64 (Lt xs)) C)) (sel (dR ks B) (sel (dR wl E) (K (V.out false (V.int .i64 0) [[V.sl 61 kR (some 1000001001) rs,V.slz 1000001002 42 kZ zs (some 1000001502) iz 1 50 kE yz,V.sl 63 kL (some 1000001003) (aX ks B),V.sl 3 D (some 1000001004) wr,V.slz 1000001005 29 kW we (some 1000001505) ie 0 3 D ye,V.sl 3 D (some 1000001006) (aX wl E),V.int .i64 op]])) none) none);sel (ieq (Lt xs) 0) (sel (ak 1024 (ax ks)) (K (V.out false (V.int .i64 17) C)) A) A:=by kernel_rfl
theorem X6 (F:Nat) (rs zs ks wr we wl:List V) (ln op iz ie:Int) (yz ye xs:List V) (K:V→Option V):
 bD eE (bB eE Q5 F 3) F 30 [V.bxa 0 (qx rs zs ks wr we wl iz yz ie ye ln op),V.sl 9 [Kd.str] none xs] K=
 let C:=nP .i64 (ax zs) 1;let D:=V.int .i64 ln;let E:=nP .i64 (ax we) 1;let G:=[Kd.int .i64];let H:=[qx rs zs ks wr we wl iz yz ie ye ln op];let I:=V.sl 61 kR (some 1000001001) rs;let J:=V.sl 63 kL (some 1000001003) ks;let N:=aX yz [yg xs];let A:=V.slz 1000001002 42 kZ (sP zs C (YF (aY zs C) 1 (V.sl 50 kE none N))) (some 1000001502) C 1 50 kE N;let B:=V.slz 1000001005 29 kW (sP we E (V.sl 3 G none (aX ye [D]))) (some 1000001505) E 0 3 G (aX ye [D]);let L:=V.sl 3 G (some 1000001004) wr;let M:=V.sl 3 G (some 1000001006) wl;sel (av (ak 0 C) (aK C (ax zs))) (sel (dZ xs) (sel (ieq (lC xs) 0) (sel (ieq C iz) (sel (aK (ax yz) 256) (sel (ieq C iz) (sel (dR yz [yg xs]) (sel (av (ak 0 E) (aK E (ax we))) (sel (ieq E ie) (sel (dR ye [D]) (sel (Ri xs) (K (V.out false (V.tup []) [[I,A,J,L,B,M,D,D]])) (K (V.out false (V.tup []) [[I,A,J,L,B,M,D,V.int .i64 0]]))) none) none) none) none) none) (K (V.out true (V.iface 51 (V.agg [D,V.int .i64 17])) H))) none) (K (V.out true (V.iface 51 (V.agg [D,V.int .i64 (lC xs)])) H))) none) none:=by kernel_rfl
theorem X7 (F:Nat) (rs zs ks wr we wl:List V) (ln op iz ie:Int) (yz ye xs:List V) (K:V→Option V):
 bD eE (bB eE Q5 F 3) F 21 [V.bxa 0 (qw rs zs ks wr we wl iz yz ie ye op),V.sl 9 [Kd.str] none xs,V.int .i64 ln] K=
 let D:=nP .i64 (ax zs) 1;let E:=nP .i64 (ax we) 1;let G:=[Kd.int .i64];let H:=V.int .i64 ln;let I:=[qw rs zs ks wr we wl iz yz ie ye op];let J:=V.sl 61 kR (some 1000001001) rs;let L:=V.sl 63 kL (some 1000001003) ks;let O:=V.int .i64 0;let P:=aX yz [yg xs];let B:=V.slz 1000001002 42 kZ (sP zs D (YF (aY zs D) 1 (V.sl 50 kE none P))) (some 1000001502) D 1 50 kE P;let C:=V.slz 1000001005 29 kW (sP we E (V.sl 3 G none (aX ye [H]))) (some 1000001505) E 0 3 G (aX ye [H]);let M:=V.sl 3 G (some 1000001004) wr;let N:=V.sl 3 G (some 1000001006) wl;let A:=sel (aB (ieq (lC xs) 0)) (K (V.out false (V.int .i64 (lC xs)) I)) (sel (ieq D iz) (sel (dR yz [yg xs]) (sel (av (ak 0 E) (aK E (ax we))) (sel (ieq E ie) (sel (dR ye [H]) (sel (Ri xs) (K (V.out false O [[J,B,L,M,C,N,H]])) (K (V.out false O [[J,B,L,M,C,N,O]]))) none) none) none) none) none);sel (av (ak 0 D) (aK D (ax zs))) (sel (dZ xs) (sel (ieq (lC xs) 0) (sel (ieq D iz) (sel (ak 256 (ax yz)) (K (V.out false (V.int .i64 17) I)) A) none) A) none) none:=by kernel_rfl
theorem X8 (F:Nat) (rs zs ks wr we wl:List V) (ln op iz ie:Int) (yz ye xs:List V) (K:V→Option V):
 bD eE (bB eE rS1 F 3) F 33 [V.bxa 0 (qx rs zs ks wr we wl iz yz ie ye ln op),V.sl 9 [Kd.str] none xs] K=
 let B:=dI xs 1 (ax xs);let C:=[qx rs zs ks wr we wl iz yz ie ye ln op];let D:=V.int .i64 ln;let E:=[Kd.int .i64];let G:=aT (aD (aY xs 0) 0);let H:=aX we [V.nilsl];let I:=av (ak 0 0) (aK 0 (ax xs));let J:=av (ak 0 1) (ak 1 (ax xs));let L:=V.sl 61 kR (some 1000001001) rs;let M:=V.sl 63 kL (some 1000001003) ks;let A:=[V.agg [V.str G,V.nilsl]];let N:=V.sl 3 E (some 1000001004) wr;let O:=V.sl 3 E (some 1000001006) wl;let P:=aX zs A;sel (ieq (ax xs) 0) (K (V.out true (V.iface 51 (V.agg [D,V.int .i64 5])) C)) (sel I (sel (ieq (gW G) 0) (sel J (sel (dZ B) (sel (ieq (lC B) 0) (sel (aK (ax zs) 1024) (sel I (sel (dR zs A) (sel (dR we [V.nilsl]) (sel J (sel (JO P (ax zs) [] H (ax we) [] B) (sel (ieq (mG [] B) 0) (K (V.out false (V.tup []) [[L,V.slz 1000001002 42 kZ (nV P [] B) (some 1000001502) (ax zs) 1 50 kE (aX [] [yg B]),M,N,V.slz 1000001005 29 kW (rM H [] ln) (some 1000001505) (ax we) 0 3 E (aX [] [D]),O,D,V.int .i64 (kJ B ln)]])) (K (V.out true (V.iface 51 (V.agg [D,V.int .i64 (mG [] B)])) [[L,V.slz 1000001002 42 kZ P (some 1000001502) (ax zs) 1 50 kE [],M,N,V.slz 1000001005 29 kW H (some 1000001505) (ax we) 0 3 E [],O,D,V.int .i64 op]]))) none) none) none) none) none) (K (V.out true (V.iface 51 (V.agg [D,V.int .i64 17])) C))) (K (V.out true (V.iface 51 (V.agg [D,V.int .i64 (lC B)])) C))) none) none) (K (V.out true (V.iface 51 (V.agg [D,V.int .i64 (gW G)])) C))) none):=by kernel_rfl
theorem X9 (F:Nat) (rs zs ks wr we wl:List V) (ln op iz ie:Int) (yz ye xs:List V) (K:V→Option V):
 bD eE (bB eE rS1 F 3) F 24 [V.bxa 0 (qw rs zs ks wr we wl iz yz ie ye op),V.sl 9 [Kd.str] none xs,V.int .i64 ln] K=
 let B:=dI xs 1 (ax xs);let C:=[qw rs zs ks wr we wl iz yz ie ye op];let D:=[Kd.int .i64];let E:=aT (aD (aY xs 0) 0);let G:=aX we [V.nilsl];let H:=av (ak 0 0) (aK 0 (ax xs));let I:=av (ak 0 1) (ak 1 (ax xs));let J:=V.sl 61 kR (some 1000001001) rs;let L:=V.sl 63 kL (some 1000001003) ks;let A:=[V.agg [V.str E,V.nilsl]];let M:=V.sl 3 D (some 1000001004) wr;let N:=V.sl 3 D (some 1000001006) wl;let O:=aX zs A;sel (ieq (ax xs) 0) (K (V.out false (V.int .i64 5) C)) (sel H (sel (aB (ieq (gW E) 0)) (K (V.out false (V.int .i64 (gW E)) C)) (sel I (sel (dZ B) (sel (aB (ieq (lC B) 0)) (K (V.out false (V.int .i64 (lC B)) C)) (sel (ak 1024 (ax zs)) (K (V.out false (V.int .i64 17) C)) (sel H (sel (dR zs A) (sel (dR we [V.nilsl]) (sel I (sel (JO O (ax zs) [] G (ax we) [] B) (sel (ieq (mG [] B) 0) (K (V.out false (V.int .i64 0) [[J,V.slz 1000001002 42 kZ (nV O [] B) (some 1000001502) (ax zs) 1 50 kE (aX [] [yg B]),L,M,V.slz 1000001005 29 kW (rM G [] ln) (some 1000001505) (ax we) 0 3 D (aX [] [V.int .i64 ln]),N,V.int .i64 (kJ B ln)]])) (K (V.out false (V.int .i64 (mG [] B)) [[J,V.slz 1000001002 42 kZ O (some 1000001502) (ax zs) 1 50 kE [],L,M,V.slz 1000001005 29 kW G (some 1000001505) (ax we) 0 3 D [],N,V.int .i64 op]]))) none) none) none) none) none))) none) none)) none):=by kernel_rfl
theorem Ya (F:Nat) (rs zs ks wr we wl:List V) (ln op iz ie:Int) (yz ye:List V) (s:List UInt8) (K:V→Option V):
 bD eE (bB eE rS2 F 3) F 18 [V.bxa 0 (qx rs zs ks wr we wl iz yz ie ye ln op),V.str s] K=
 let A:=[V.str [82,117,108,101],V.str [90,111,110,101],V.str [76,105,110,107]];let C:=[qx rs zs ks wr we wl iz yz ie ye ln op];let D:=V.int .i64 ln;let E:=aT (aD (aY (bX s) 0) 0);let G:=[Kd.int .i64];let I:=V.sl 61 kR (some 1000001001) rs;let J:=V.sl 63 kL (some 1000001003) ks;let N:=V.slz 1000001002 42 kZ zs (some 1000001502) iz 1 50 kE yz;let P:=ax (bX s);let Q:=V.tup [];let R:=ak (ah s) 4000000;let T:=mG yz (bX s);let B:=dI (bX s) 1 P;let H:=av (ak 0 1) (ak 1 P);let L:=V.sl 3 G (some 1000001004) wr;let M:=V.sl 3 G (some 1000001006) wl;let O:=V.slz 1000001005 29 kW we (some 1000001505) ie 0 3 G ye;let S:=dI B 1 (ax B);sel R (sel (ieq (I9 s) 0) (sel R (sel (ieq (Ls s) 0) (sel (ieq P 0) (K (V.out false Q C)) (sel (aK 0 op) (sel (JO zs iz yz we ie ye (bX s)) (sel (ieq T 0) (K (V.out false Q [[I,V.slz 1000001002 42 kZ (nV zs yz (bX s)) (some 1000001502) iz 1 50 kE (aX yz [yg (bX s)]),J,L,V.slz 1000001005 29 kW (rM we ye ln) (some 1000001505) ie 0 3 G (aX ye [D]),M,D,V.int .i64 (kJ (bX s) ln)]])) (K (V.out true (V.iface 51 (V.agg [D,V.int .i64 T])) C))) none) (sel (av (ak 0 0) (aK 0 P)) (sel (av (ak (ah E) 1000) (wsR A)) (sel (ieq (mO E A) 0) (sel (ieq (kH E A) 0) (sel H (sel (av (dZ B) (DX wr)) (sel (ieq (nS rs B) 0) (K (V.out false Q [[V.sl 61 kR (some 1000001001) (aX rs [NW B]),N,J,V.sl 3 G (some 1000001004) (aX wr [D]),O,M,D,V.int .i64 op]])) (K (V.out true (V.iface 51 (V.agg [D,V.int .i64 (nS rs B)])) C))) none) none) (sel (ieq (kH E A) 1) (sel H (sel (Ua zs we B) (sel (ieq (mH zs B) 0) (K (V.out false Q [[I,V.slz 1000001002 42 kZ (rO zs B) (some 1000001502) (ax zs) 1 50 kE [yg S],J,L,V.slz 1000001005 29 kW (vP we ln) (some 1000001505) (ax we) 0 3 G [D],M,D,V.int .i64 (kJ S ln)]])) (K (V.out true (V.iface 51 (V.agg [D,V.int .i64 (mH zs B)])) C))) none) none) (sel (ieq (kH E A) 2) (sel H (sel (DX wl) (sel (ieq (nU ks B) 0) (K (V.out false Q [[I,N,V.sl 63 kL (some 1000001003) (aX ks [Vw B]),L,O,V.sl 3 G (some 1000001006) (aX wl [D]),D,V.int .i64 op]])) (K (V.out true (V.iface 51 (V.agg [D,V.int .i64 (nU ks B)])) C))) none) none) none))) (K (V.out true (V.iface 51 (V.agg [D,V.int .i64 (mO E A)])) C))) none) none))) (K (V.out true (V.iface 51 (V.agg [D,V.int .i64 (Ls s)])) C))) none) (K (V.out true (V.iface 51 (V.agg [D,V.int .i64 (I9 s)])) C))) none:=by kernel_rfl
theorem Yb (F:Nat) (rs zs ks wr we wl:List V) (ln op iz ie:Int) (yz ye:List V) (s:List UInt8) (K:V→Option V):
 bD eE (bB eE rS2 F 3) F 13 [V.bxa 0 (qw rs zs ks wr we wl iz yz ie ye op),V.str s,V.int .i64 ln] K=
 let B:=[V.str [82,117,108,101],V.str [90,111,110,101],V.str [76,105,110,107]];let C:=[qw rs zs ks wr we wl iz yz ie ye op];let D:=[Kd.int .i64];let E:=aT (aD (aY (bX s) 0) 0);let H:=V.sl 61 kR (some 1000001001) rs;let I:=V.sl 63 kL (some 1000001003) ks;let M:=V.slz 1000001002 42 kZ zs (some 1000001502) iz 1 50 kE yz;let O:=[V.int .i64 ln];let Q:=ax (bX s);let R:=V.int .i64 0;let S:=ak (ah s) 4000000;let U:=mG yz (bX s);let A:=dI (bX s) 1 Q;let G:=av (ak 0 1) (ak 1 Q);let J:=V.sl 3 D (some 1000001004) wr;let L:=V.sl 3 D (some 1000001006) wl;let N:=V.slz 1000001005 29 kW we (some 1000001505) ie 0 3 D ye;let P:=K (V.out false (V.int .i64 (Ls s)) C);let T:=dI A 1 (ax A);sel S (sel (aB (ieq (I9 s) 0)) (K (V.out false (V.int .i64 (I9 s)) C)) (sel S (sel (aB (ieq (Ls s) 0)) P (sel (ieq Q 0) P (sel (aK 0 op) (sel (JO zs iz yz we ie ye (bX s)) (sel (ieq U 0) (K (V.out false R [[H,V.slz 1000001002 42 kZ (nV zs yz (bX s)) (some 1000001502) iz 1 50 kE (aX yz [yg (bX s)]),I,J,V.slz 1000001005 29 kW (rM we ye ln) (some 1000001505) ie 0 3 D (aX ye O),L,V.int .i64 (kJ (bX s) ln)]])) (K (V.out false (V.int .i64 U) C))) none) (sel (av (ak 0 0) (aK 0 Q)) (sel (av (ak (ah E) 1000) (wsR B)) (sel (aB (ieq (mO E B) 0)) (K (V.out false (V.int .i64 (mO E B)) C)) (sel (ieq (kH E B) 0) (sel G (sel (av (dZ A) (DX wr)) (sel (ieq (nS rs A) 0) (K (V.out false R [[V.sl 61 kR (some 1000001001) (aX rs [NW A]),M,I,V.sl 3 D (some 1000001004) (aX wr O),N,L,V.int .i64 op]])) (K (V.out false (V.int .i64 (nS rs A)) C))) none) none) (sel (ieq (kH E B) 1) (sel G (sel (Ua zs we A) (sel (ieq (mH zs A) 0) (K (V.out false R [[H,V.slz 1000001002 42 kZ (rO zs A) (some 1000001502) (ax zs) 1 50 kE [yg T],I,J,V.slz 1000001005 29 kW (vP we ln) (some 1000001505) (ax we) 0 3 D O,L,V.int .i64 (kJ T ln)]])) (K (V.out false (V.int .i64 (mH zs A)) C))) none) none) (sel G (sel (DX wl) (sel (ieq (nU ks A) 0) (K (V.out false R [[H,M,V.sl 63 kL (some 1000001003) (aX ks [Vw A]),J,N,V.sl 3 D (some 1000001006) (aX wl O),V.int .i64 op]])) (K (V.out false (V.int .i64 (nU ks A)) C))) none) none)))) none) none)))) none)) none:=by kernel_rfl
end Nt.Ev.YtpbgegnlkdfjgaaGreatDoor.Rr
namespace Go.Proofs.YtpbgegnlkdfjgaaGreatDoor
open Go Go.RowKit Go.Shelf Nt Nt.Ev
set_option maxRecDepth 100000 in
set_option maxHeartbeats 2000000 in
theorem TU (g:Nat) (w:World):Calls Tryz.prog 16 #[.pointer (some ⟨g,0,none⟩),.int .i64 0] w fun ex w'=>ex=.returned (.tuple #[])∧Below w.heap.size w w':=by
 go_enter Tryz.func16,Tryz.ntmps16
 go_wp2
 exact⟨rfl,.tuple #[],by kernel_rfl,rfl,Below.refl _ _⟩
set_option maxRecDepth 100000 in
set_option maxHeartbeats 2000000 in
theorem TV (g:Nat) (w:World) (ln e:Int) (he:e≠0) (h6:w.cell? ⟨g,6,none⟩=some (.int .i64 ln)):Calls Tryz.prog 16 #[.pointer (some ⟨g,0,none⟩),.int .i64 e] w fun ex w'=>ex=.panicked [{v:=.iface 51 (.agg #[.int .i64 ln,.int .i64 e]),recovered:=false}]∧Below w.heap.size w w':=by
 go_enter Tryz.func16,Tryz.ntmps16
 go_wp2
 exact⟨rfl,rfl,Below.refl _ _⟩
set_option maxRecDepth 100000 in
set_option maxHeartbeats 2000000 in
theorem TW (g:Nat) (w:World) (n m:Int) (h:n<m):Calls Tryz.prog 50 #[.pointer (some ⟨g,0,none⟩),.int .i64 n,.int .i64 m] w fun ex w'=>ex=.returned (.tuple #[])∧Below w.heap.size w w':=by
 go_enter Tryz.func50,Tryz.ntmps50
 go_wp2
 exact⟨rfl,.tuple #[],by kernel_rfl,rfl,Below.refl _ _⟩
set_option maxRecDepth 100000 in
set_option maxHeartbeats 2000000 in
theorem TX (g:Nat) (w:World) (ln n m:Int) (h: ¬n<m) (h6:w.cell? ⟨g,6,none⟩=some (.int .i64 ln)):Calls Tryz.prog 50 #[.pointer (some ⟨g,0,none⟩),.int .i64 n,.int .i64 m] w fun ex w'=>ex=.panicked [{v:=.iface 51 (.agg #[.int .i64 ln,.int .i64 17]),recovered:=false}]∧Below w.heap.size w w':=by
 go_enter Tryz.func50,Tryz.ntmps50
 go_wp2
 exact⟨rfl,rfl,rfl,Below.refl _ _⟩
end Go.Proofs.YtpbgegnlkdfjgaaGreatDoor
namespace Nt.Ev.YtpbgegnlkdfjgaaGreatDoor.Rr
open Go Go.RowKit Nt Nt.Num Nt.Civil Nt.Fld Go.Proofs.YtpbgegnlkdfjgaaGreatDoor Nt.Ev Nt.Ev.YtpbgegnlkdfjgaaGreatDoor
variable [uT]
theorem BZ {E:Env} {B:Own} {G0:aQ} {w0 w:World} {s:St} {g:Gh} {a:Act} (h:Inv E B G0 w0 s g a w) {k i:Nat} {cs:List V} {n:Int} (hl:ay s.bx k=some cs) (hi:cs[i]? =some (.int .i64 n)) {v:Value} (hv:aM g (.box k 0) v):
  ∃b,v=.pointer (some ⟨b,0,none⟩)∧w.cell? ⟨b,i,none⟩=some (.int .i64 n):=by
 obtain⟨b,hb,hv⟩:=eF.1 hv;obtain⟨b',c,e,hb',_,hh,hp,_⟩:=h.bxs.1 k cs hl;rw[hb] at hb';simp only[Option.some.injEq] at hb';subst hb';refine⟨b,hv,?_⟩;rw[Lib.cell_of_heap hh];have hlt:i<c.toList.length:=by rw[←hp.1];exact(List.getElem?_eq_some_iff.1 hi).1
 have:=hp.2 i (.int .i64 n) c.toList[i] hi (List.getElem?_eq_getElem hlt);simp only[aM,bM] at this;unfold aP at this;rw[←Array.getElem?_toList,List.getElem?_eq_getElem hlt,this]
theorem CX {g:Gh} {n:Int} {v:Value} (h:aM g (.int .i64 n) v):v=.int .i64 n:=by
 simp only[aM,bM] at h;unfold aP at h;exact h
theorem rFaS_ok (c0 c1 c2 c3 c4 c5:V) (ln:Int) (c7:V) (e:Int) (hc:true=true): ∃p x,qI (.mK (ieq e 0) (.keep false (.tup [])) (.keep true (gU ln e)))=.keep p x∧KC eE 16 [.bxa 0 [c0,c1,c2,c3,c4,c5,.int .i64 ln,c7],.int .i64 e] p x:=by
 have YV:bV 0 [.bxa 0 [c0,c1,c2,c3,c4,c5,.int .i64 ln,c7],.int .i64 e]=[.box HL 0,.int .i64 e]:=rfl;have hbx0:ay (dU 0 [.bxa 0 [c0,c1,c2,c3,c4,c5,.int .i64 ln,c7],.int .i64 e]) HL=some [c0,c1,c2,c3,c4,c5,.int .i64 ln,c7]:=rfl;by_cases he:e=0
 ·subst he
  refine⟨false,.tup [],rfl,fun B g w vs hdf hi=>?_⟩;have hfr:=hi.fr;rw[YV] at hfr;obtain⟨u0,t0,e0,h0,hfr⟩:=hfr.cons_inv;obtain⟨u1,t1,e1,h1,hfr⟩:=hfr.cons_inv;obtain rfl:=hfr.cZ;subst e1;have e0:vs=[u0,u1]:=e0;subst e0;obtain⟨b,hb,_⟩:=BZ hi hbx0 (i:=6) (n:=ln) rfl h0;rw[hb,CX h1];refine(TU b w).mono ?_;rintro ex w' ⟨rfl,hB⟩;exact⟨_,rfl,⟨rfl,rfl⟩,hB⟩
 ·refine⟨true,gU ln e,by rw[show ieq e 0=false from by unfold ieq;simpa using he];rfl,fun B g w vs hdf hi=>?_⟩
  have hfr:=hi.fr;rw[YV] at hfr;obtain⟨u0,t0,e0,h0,hfr⟩:=hfr.cons_inv;obtain⟨u1,t1,e1,h1,hfr⟩:=hfr.cons_inv;obtain rfl:=hfr.cZ;subst e1;have e0:vs=[u0,u1]:=e0;subst e0;obtain⟨b,hb,h6⟩:=BZ hi hbx0 (i:=6) (n:=ln) rfl h0;rw[hb,CX h1];refine(TV b w ln e he h6).mono ?_;rintro ex w' ⟨rfl,hB⟩;exact⟨_,rfl,rfl,hB⟩
theorem rRoS_ok (c0 c1 c2 c3 c4 c5:V) (ln:Int) (c7:V) (n m:Int) (hc:true=true): ∃p x,qI (.mK (aK n m) (.keep false (.tup [])) (.keep true (gU ln 17)))=.keep p x∧KC eE 50 [.bxa 0 [c0,c1,c2,c3,c4,c5,.int .i64 ln,c7],.int .i64 n,.int .i64 m] p x:=by
 have YV:bV 0 [.bxa 0 [c0,c1,c2,c3,c4,c5,.int .i64 ln,c7],.int .i64 n,.int .i64 m]=[.box HL 0,.int .i64 n,.int .i64 m]:=rfl;have hbx0:ay (dU 0 [.bxa 0 [c0,c1,c2,c3,c4,c5,.int .i64 ln,c7],.int .i64 n,.int .i64 m]) HL=some [c0,c1,c2,c3,c4,c5,.int .i64 ln,c7]:=rfl;by_cases he:n<m
 ·refine⟨false,.tup [],by rw[bq he];rfl,fun B g w vs hdf hi=>?_⟩
  have hfr:=hi.fr;rw[YV] at hfr;obtain⟨u0,t0,e0,h0,hfr⟩:=hfr.cons_inv;obtain⟨u1,t1,e1,h1,hfr⟩:=hfr.cons_inv;obtain⟨u2,t2,e2,h2,hfr⟩:=hfr.cons_inv;obtain rfl:=hfr.cZ;subst e2;subst e1;have e0:vs=[u0,u1,u2]:=e0;subst e0;obtain⟨b,hb,_⟩:=BZ hi hbx0 (i:=6) (n:=ln) rfl h0;rw[hb,CX h1,CX h2];refine(TW b w n m he).mono ?_;rintro ex w' ⟨rfl,hB⟩;exact⟨_,rfl,⟨rfl,rfl⟩,hB⟩
 ·refine⟨true,gU ln 17,by rw[bu (by omega)];rfl,fun B g w vs hdf hi=>?_⟩
  have hfr:=hi.fr;rw[YV] at hfr;obtain⟨u0,t0,e0,h0,hfr⟩:=hfr.cons_inv;obtain⟨u1,t1,e1,h1,hfr⟩:=hfr.cons_inv;obtain⟨u2,t2,e2,h2,hfr⟩:=hfr.cons_inv;obtain rfl:=hfr.cZ;subst e2;subst e1;have e0:vs=[u0,u1,u2]:=e0;subst e0;obtain⟨b,hb,h6⟩:=BZ hi hbx0 (i:=6) (n:=ln) rfl h0;rw[hb,CX h1,CX h2];refine(TX b w ln n m he h6).mono ?_;rintro ex w' ⟨rfl,hB⟩;exact⟨_,rfl,rfl,hB⟩
set_option maxRecDepth 100000
open Nt.Ev.YtpbgegnlkdfjgaaGreatDoor.Lk
theorem eO {f:Nat} {args:List V} {r:V} (h:af oE f args r):af eE f args r:=af.env (E:=oE) rfl (fun n v h=>by cases h) h
theorem eH {f:Nat} {args:List V} {r:V} (h:af hE f args r):af eE f args r:=af.env (E:=hE) rfl (fun n v h=>by cases h) h
theorem rRuS_ok (xs:List V) (hc:dZ xs=true):af eE 53 [.sl 9 [.str] none xs] (.tup [.agg [.str (ru0 xs),.int .i64 (ru1 xs),.int .i64 (ru2 xs),.int .i64 (ru3 xs),.int .i64 (ru4 xs),.int .i64 (ru5 xs),.int .i64 (ru6 xs),.int .i64 (ru7 xs),.int .i64 (ru8 xs),.int .i64 (ru9 xs),.str (Jf xs)],.int .i64 (NT xs)]):=FV (zRdS_ok xs hc)
theorem rC (xs:List V) (hc:dZ xs=true):af eE 39 [.sl 9 [.str] none xs] (.tup [.agg [.str (ru0 xs),.int .i64 (ru1 xs),.int .i64 (ru2 xs),.int .i64 (ru3 xs),.int .i64 (ru4 xs),.int .i64 (ru5 xs),.int .i64 (ru6 xs),.int .i64 (ru7 xs),.int .i64 (ru8 xs),.int .i64 (ru9 xs),.str (Jf xs)],.int .i64 (NT xs)]):=FV (rf xs hc)
theorem rLkS_ok (xs:List V) (hc:true=true):af eE 55 [.sl 9 [.str] none xs] (.tup [.agg [.str (lrT xs),.str (lrN xs)],.int .i64 (Lt xs)]):=eO (ab8 xs)
theorem rD (xs:List V) (hc:true=true):af eE 41 [.sl 9 [.str] none xs] (.tup [.agg [.str (lrT xs),.str (lrN xs)],.int .i64 (Lt xs)]):=eO (TT xs)
theorem aas: ∀(s:List UInt8) (k:Nat),Nm.Cz k s=Nt.Ev.YtpbgegnlkdfjgaaGreatDoor.Cz k s
 |[],_=>rfl
 |c::t,k=>by
  show(Nm.I7 k c&&Nm.Cz (k+1) t)=(Nt.Ev.YtpbgegnlkdfjgaaGreatDoor.I7 k c&&Nt.Ev.YtpbgegnlkdfjgaaGreatDoor.Cz (k+1) t)
  rw[aas t (k+1)];rfl
theorem nm_eq (s:List UInt8):Nm.gW s=Nt.Ev.YtpbgegnlkdfjgaaGreatDoor.gW s:=by
 unfold Nm.gW Nt.Ev.YtpbgegnlkdfjgaaGreatDoor.gW;rw[aas]
theorem rNmS_ok (s:List UInt8) (hc:true=true):af eE 54 [.str s] (.int .i64 (gW s)):=by rw[←nm_eq];exact eO (Vl s rfl)
theorem rE (s:List UInt8) (hc:true=true):af eE 40 [.str s] (.int .i64 (gW s)):=by rw[←nm_eq];exact eO (jM s rfl)
theorem rMtS_ok (s:List UInt8) (e:Nat) (o:Option Nat) (ws:List V) (hc:av (ak (ah s) 1000) (wsR ws)=true):af eE 31 [.str s,.sl e [.str] o ws] (.tup [.int .i64 (kH s ws),.int .i64 (mO s ws)]):=FV (toZm (IG s e o ws hc))
theorem qd (s:List UInt8) (e:Nat) (o:Option Nat) (ws:List V) (hc:av (ak (ah s) 1000) (wsR ws)=true):af eE 22 [.str s,.sl e [.str] o ws] (.tup [.int .i64 (kH s ws),.int .i64 (mO s ws)]):=FV (toZm (iM s e o ws hc))
theorem rOfS_ok (s:List UInt8) (hc:ak (ah s) 4000000=true):af eE 29 [.str s] (.tup [.sl 9 [.str] none (bX s),.int .i64 (Ls s)]):=eH (hOfS_ok s hc)
theorem tL (s:List UInt8) (hc:ak (ah s) 4000000=true):af eE 20 [.str s] (.tup [.sl 9 [.str] none (bX s),.int .i64 (Ls s)]):=eH (tJ s hc)
theorem rCkS_ok (s:List UInt8) (hc:ak (ah s) 4000000=true):af eE 28 [.str s] (.int .i64 (I9 s)):=eO (xCkS_ok s hc)
theorem qf (s:List UInt8) (hc:ak (ah s) 4000000=true):af eE 19 [.str s] (.int .i64 (I9 s)):=eO (qc s hc)
theorem rLnS_ok (s:List UInt8) (hc:ak (ah s) 4000000=true):af eE 17 [.str s] (.sl 9 [.str] none (fw s)):=eO (Vj s hc)
theorem tN (s:List UInt8) (hc:ak (ah s) 4000000=true):af eE 12 [.str s] (.sl 9 [.str] none (fw s)):=eO (tK s hc)
theorem wZ:bF eE Q5:=by
 unfold Q5;refine bF.consK (fun args r h=>?_) (bF.consK (fun args r h=>?_) (bF.cons (fun args r h=>?_) (bF.cons (fun args r h=>?_) (bF.cons (fun args r h=>?_) (bF.cons (fun args r h=>?_) (bF.cons (fun args r h=>?_) (bF.cons (fun args r h=>?_) (bF.cons (fun args r h=>?_) (bF.cons (fun args r h=>?_) (bF.cons (fun args r h=>?_) (bF.cons (fun args r h=>?_) (bF.cons (fun args r h=>?_) (bF.cons (fun args r h=>?_) (bF.cons (fun args r h=>?_) (bF.cons (fun args r h=>?_) (bF.cons (fun args r h=>?_) (bF.cons (fun args r h=>?_) bF.nil)))))))))))))))));all_goals (revert h;intro h;first|unfold rFaS at h|unfold rRoS at h|unfold rRuS at h|unfold eRdS at h|unfold rLkS at h|unfold rNmS at h|unfold rMtS at h|unfold rOfS at h|unfold rCkS at h|unfold rLnS at h)
 all_goals (split at h;rotate_left; · cases h)
 all_goals (simp only[Option.some.injEq,Prod.mk.injEq] at h;obtain⟨hc,rfl⟩:=h)
 ·exact rFaS_ok _ _ _ _ _ _ _ _ _ rfl
 ·exact rRoS_ok _ _ _ _ _ _ _ _ _ _ rfl
 ·exact rRuS_ok _ hc
 ·exact rC _ hc
 ·exact eRdS_ok _ hc
 ·exact rz _ hc
 ·exact rLkS_ok _ rfl
 ·exact rD _ rfl
 ·exact rNmS_ok _ rfl
 ·exact rE _ rfl
 ·exact rMtS_ok _ _ _ _ hc
 ·exact qd _ _ _ _ hc
 ·exact rOfS_ok _ hc
 ·exact tL _ hc
 ·exact rCkS_ok _ hc
 ·exact qf _ hc
 ·exact rLnS_ok _ hc
 ·exact tN _ hc
theorem FM {L e:Nat} {k:List Kd} {v:V} (h:VL L e k v=true):v=.sl e k (some L) (xL v):=by
 unfold VL at h;split at h
 ·rw[Bool.and_eq_true,Bool.and_eq_true] at h
  obtain⟨⟨h1,h2⟩,h3⟩:=h;rw[beq_iff_eq] at h1 h2;rw[h1,h2,Kd.bL _ _ h3];rfl
 ·cases h
theorem Vm {L e:Nat} {k:List Kd} {L2 c e2:Nat} {k2:List Kd} {v:V} (h:labZ L e k L2 c e2 k2 v=true):v=.slz L e k (xL v) (some L2) (xI v) c e2 k2 (xY v):=by
 unfold labZ at h;split at h
 ·simp only[Bool.and_eq_true,beq_iff_eq] at h
  obtain⟨⟨⟨h1,h2⟩,h3,h4⟩,⟨h5,h6⟩,h7⟩:=h;rw[h1,h2,h4,h5,h6,Kd.bL _ _ h3,Kd.bL _ _ h7];rfl
 ·cases h
theorem sZ {c0 c1 c2 c3 c4 c5:V} (h:Ja c0 c1 c2 c3 c4 c5=true) (r:List V):c0::c1::c2::c3::c4::c5::r=V.sl 61 kR (some 1000001001) (xL c0)::V.slz 1000001002 42 kZ (xL c1) (some 1000001502) (xI c1) 1 50 kE (xY c1)::V.sl 63 kL (some 1000001003) (xL c2)::V.sl 3 kI (some 1000001004) (xL c3)::V.slz 1000001005 29 kW (xL c4) (some 1000001505) (xI c4) 0 3 kI (xY c4)::V.sl 3 kI (some 1000001006) (xL c5)::r:=by
 unfold Ja at h;simp only[Bool.and_eq_true] at h;obtain⟨⟨h0,h1⟩,⟨h2,h3⟩,h4,h5⟩:=h;rw[←FM h0,←Vm h1,←FM h2,←FM h3,←Vm h4,←FM h5]
theorem gP {a b:Bool} (h:(bif a then b else false)=true):a=true∧b=true:=by
 cases a with
 |true=>exact⟨rfl,h⟩
 |false=>cases h
theorem wR {S:List (Nat×aL)} (hS:bF eE S) (F d:Nat) {f:Nat} {args:List V} {c p q:Bool} {x y:V} {bs cs:List (List V)} (h:bD eE (bB eE S F d) F f args some=some (sel c (.out p x bs) (.out q y cs))):uP eE f args (.mK c (.out p x bs) (.out q y cs)):=by
 refine uP.mK (fun hb=>uP.out (nI d9 hS F d ?_)) (fun hb=>uP.out (nI d9 hS F d ?_))
 ·rw[h,hb];rfl
 ·rw[h,hb];rfl
theorem bY {α:Type} (a b:α):sel true a b=a:=rfl
theorem bZ {α:Type} (a b:α):sel false a b=b:=rfl
theorem vJ {e n m:Int} (h:e=0) (h2:n<m):oV e n m=0:=by unfold oV;simp[h,h2]
theorem w9 {e n m:Int} (h:e=0) (h2: ¬n<m):oV e n m=17:=by unfold oV;simp[h,h2]
theorem D8 {e n m:Int} (h:e≠0):oV e n m=e:=by unfold oV;rw[if_pos h]
theorem GL {a b:Int} (h: ¬a≤b):ak a b=false:=by unfold ak;simpa using h
theorem app1 {xs:List V} {y:V} (h:xs.length≤16000000):dR xs [y]=true:=by rw[nA,List.length_singleton];omega
theorem appL {xs:List V} {y:V} {n:Int} (h:ax xs<n) (hn:n≤16000000):dR xs [y]=true:=app1 (by rw[aI] at h;omega)
theorem FN {xs:List V} (h:DX xs=true):xs.length≤16000000:=by unfold DX at h;simpa using h
theorem rule_p (rs zs ks wr we wl:List V) (ln op iz ie:Int) (yz ye xs:List V) (h1:dZ xs=true) (h2:DX wr=true):bD eE (bB eE Q5 5 3) 5 32 [.bxa 0 (qx rs zs ks wr we wl iz yz ie ye ln op),.sl 9 [.str] none xs] some=
  some (sel (ieq (nS rs xs) 0) (.out false (.tup []) [qx (aX rs [NW xs]) zs ks (aX wr [.int .i64 ln]) we wl iz yz ie ye ln op]) (.out true (gU ln (nS rs xs)) [qx rs zs ks wr we wl iz yz ie ye ln op])):=by
 (rw[X0];(conv=>zeta))
 unfold nS;by_cases a:NT xs=0
 ·by_cases b:ax rs<4096
  ·simp only[h1,aR a,bq b,appL b (by decide),app1 (FN h2),bY,vJ a b]
   rfl
  ·simp only[h1,aR a,bu (Int.not_lt.1 b),bY,bZ,w9 a b]
   rfl
 ·simp only[h1,bf a,bY,bZ,D8 a]
theorem rule_r (rs zs ks wr we wl:List V) (ln op iz ie:Int) (yz ye xs:List V) (h1:dZ xs=true) (h2:DX wr=true):bD eE (bB eE Q5 5 3) 5 23 [.bxa 0 (qw rs zs ks wr we wl iz yz ie ye op),.sl 9 [.str] none xs,.int .i64 ln] some=
  some (sel (ieq (nS rs xs) 0) (.out false (.int .i64 0) [qw (aX rs [NW xs]) zs ks (aX wr [.int .i64 ln]) we wl iz yz ie ye op]) (.out false (.int .i64 (nS rs xs)) [qw rs zs ks wr we wl iz yz ie ye op])):=by
 (rw[X3];(conv=>zeta))
 unfold nS;by_cases a:NT xs=0
 ·by_cases b:ax rs<4096
  ·simp only[h1,aR a,GL (Int.not_le.2 b),appL b (by decide),app1 (FN h2),bY,bZ,vJ a b]
   rfl
  ·simp only[h1,aR a,bA (Int.not_lt.1 b),bY,bZ,w9 a b]
   rfl
 ·simp only[h1,bf a,bY,bZ,D8 a]
  rfl
theorem Yc (c0 c1 c2 c3 c4 c5:V) (ln op:Int) (xs:List V) (hc:(bif Ja c0 c1 c2 c3 c4 c5 then av (dZ xs) (DX (xL c3)) else false)=true):uP eE 32 [.bxa 0 [c0,c1,c2,c3,c4,c5,.int .i64 ln,.int .i64 op],.sl 9 [.str] none xs] (.mK (ieq (nS (xL c0) xs) 0) (.out false (.tup []) [qx (aX (xL c0) [NW xs]) (xL c1) (xL c2) (aX (xL c3) [.int .i64 ln]) (xL c4) (xL c5) (xI c1) (xY c1) (xI c4) (xY c4) ln op]) (.out true (gU ln (nS (xL c0) xs)) [qx (xL c0) (xL c1) (xL c2) (xL c3) (xL c4) (xL c5) (xI c1) (xY c1) (xI c4) (xY c4) ln op])):=by
 obtain⟨h,hc⟩:=gP hc;obtain⟨h1,h2⟩:=aV hc;rw[sZ h];exact wR wZ 5 3 (rule_p _ _ _ _ _ _ _ _ _ _ _ _ _ h1 h2)
theorem Yd (c0 c1 c2 c3 c4 c5:V) (op:Int) (xs:List V) (ln:Int) (hc:(bif Ja c0 c1 c2 c3 c4 c5 then av (dZ xs) (DX (xL c3)) else false)=true):uP eE 23 [.bxa 0 [c0,c1,c2,c3,c4,c5,.int .i64 op],.sl 9 [.str] none xs,.int .i64 ln] (.mK (ieq (nS (xL c0) xs) 0) (.out false (.int .i64 0) [qw (aX (xL c0) [NW xs]) (xL c1) (xL c2) (aX (xL c3) [.int .i64 ln]) (xL c4) (xL c5) (xI c1) (xY c1) (xI c4) (xY c4) op]) (.out false (.int .i64 (nS (xL c0) xs)) [qw (xL c0) (xL c1) (xL c2) (xL c3) (xL c4) (xL c5) (xI c1) (xY c1) (xI c4) (xY c4) op])):=by
 obtain⟨h,hc⟩:=gP hc;obtain⟨h1,h2⟩:=aV hc;rw[sZ h];exact wR wZ 5 3 (rule_r _ _ _ _ _ _ _ _ _ _ _ _ _ h1 h2)
theorem link_p (rs zs ks wr we wl:List V) (ln op iz ie:Int) (yz ye xs:List V) (hc:DX wl=true):bD eE (bB eE Q5 5 3) 5 34 [.bxa 0 (qx rs zs ks wr we wl iz yz ie ye ln op),.sl 9 [.str] none xs] some=
  some (sel (ieq (nU ks xs) 0) (.out false (.tup []) [qx rs zs (aX ks [Vw xs]) wr we (aX wl [.int .i64 ln]) iz yz ie ye ln op]) (.out true (gU ln (nU ks xs)) [qx rs zs ks wr we wl iz yz ie ye ln op])):=by
 (rw[X4];(conv=>zeta))
 unfold nU;by_cases a:Lt xs=0
 ·by_cases b:ax ks<1024
  ·simp only[aR a,bq b,appL b (by decide),app1 (FN hc),bY,vJ a b]
   rfl
  ·simp only[aR a,bu (Int.not_lt.1 b),bY,bZ,w9 a b]
   rfl
 ·simp only[bf a,bY,bZ,D8 a]
theorem Ye (c0 c1 c2 c3 c4 c5:V) (ln op:Int) (xs:List V) (hc:(bif Ja c0 c1 c2 c3 c4 c5 then DX (xL c5) else false)=true):uP eE 34 [.bxa 0 [c0,c1,c2,c3,c4,c5,.int .i64 ln,.int .i64 op],.sl 9 [.str] none xs] (.mK (ieq (nU (xL c2) xs) 0) (.out false (.tup []) [qx (xL c0) (xL c1) (aX (xL c2) [Vw xs]) (xL c3) (xL c4) (aX (xL c5) [.int .i64 ln]) (xI c1) (xY c1) (xI c4) (xY c4) ln op]) (.out true (gU ln (nU (xL c2) xs)) [qx (xL c0) (xL c1) (xL c2) (xL c3) (xL c4) (xL c5) (xI c1) (xY c1) (xI c4) (xY c4) ln op])):=by
 obtain⟨h,hc⟩:=gP hc;rw[sZ h];exact wR wZ 5 3 (link_p _ _ _ _ _ _ _ _ _ _ _ _ _ hc)
theorem link_r (rs zs ks wr we wl:List V) (ln op iz ie:Int) (yz ye xs:List V) (hc:DX wl=true):bD eE (bB eE Q5 5 3) 5 25 [.bxa 0 (qw rs zs ks wr we wl iz yz ie ye op),.sl 9 [.str] none xs,.int .i64 ln] some=
  some (sel (ieq (nU ks xs) 0) (.out false (.int .i64 0) [qw rs zs (aX ks [Vw xs]) wr we (aX wl [.int .i64 ln]) iz yz ie ye op]) (.out false (.int .i64 (nU ks xs)) [qw rs zs ks wr we wl iz yz ie ye op])):=by
 (rw[X5];(conv=>zeta))
 unfold nU;by_cases a:Lt xs=0
 ·by_cases b:ax ks<1024
  ·simp only[aR a,GL (Int.not_le.2 b),appL b (by decide),app1 (FN hc),bY,bZ,vJ a b]
   rfl
  ·simp only[aR a,bA (Int.not_lt.1 b),bY,bZ,w9 a b]
   rfl
 ·simp only[bf a,bY,bZ,D8 a]
  rfl
theorem Yf (c0 c1 c2 c3 c4 c5:V) (op:Int) (xs:List V) (ln:Int) (hc:(bif Ja c0 c1 c2 c3 c4 c5 then DX (xL c5) else false)=true):uP eE 25 [.bxa 0 [c0,c1,c2,c3,c4,c5,.int .i64 op],.sl 9 [.str] none xs,.int .i64 ln] (.mK (ieq (nU (xL c2) xs) 0) (.out false (.int .i64 0) [qw (xL c0) (xL c1) (aX (xL c2) [Vw xs]) (xL c3) (xL c4) (aX (xL c5) [.int .i64 ln]) (xI c1) (xY c1) (xI c4) (xY c4) op]) (.out false (.int .i64 (nU (xL c2) xs)) [qw (xL c0) (xL c1) (xL c2) (xL c3) (xL c4) (xL c5) (xI c1) (xY c1) (xI c4) (xY c4) op])):=by
 obtain⟨h,hc⟩:=gP hc;rw[sZ h];exact wR wZ 5 3 (link_r _ _ _ _ _ _ _ _ _ _ _ _ _ hc)
theorem dm:aB true=false:=rfl
theorem dn:aB false=true:=rfl
theorem era_p (rs zs ks wr we wl:List V) (ln op iz ie:Int) (yz ye xs:List V) (hc:JO zs iz yz we ie ye xs=true):bD eE (bB eE Q5 5 3) 5 30 [.bxa 0 (qx rs zs ks wr we wl iz yz ie ye ln op),.sl 9 [.str] none xs] some=
  some (sel (ieq (mG yz xs) 0) (.out false (.tup []) [qx rs (nV zs yz xs) ks wr (rM we ye ln) wl iz (aX yz [yg xs]) ie (aX ye [.int .i64 ln]) ln (kJ xs ln)]) (.out true (gU ln (mG yz xs)) [qx rs zs ks wr we wl iz yz ie ye ln op])):=by
 (rw[X6];(conv=>zeta))
 unfold JO at hc;rw[decide_eq_true_eq] at hc;obtain⟨h1,⟨z0,z1⟩,hiz,y1,⟨w0,w1⟩,hie,e1⟩:=hc;have kz:nP .i64 (ax zs) 1=iz:=by rw[wV (by rw[aI];omega),aI,hiz]
 have kw:nP .i64 (ax we) 1=ie:=by rw[wV (by rw[aI];omega),aI,hie]
 have lz:ax zs-1=iz:=by rw[aI,hiz]
 have lw:ax we-1=ie:=by rw[aI,hie]
 have bz:av (ak 0 iz) (aK iz (ax zs))=true:=by rw[aC,aA,aU,aI];omega
 have bw:av (ak 0 ie) (aK ie (ax we))=true:=by rw[aC,aA,aU,aI];omega
 have iz1:ieq iz iz=true:=aR rfl;have ie1:ieq ie ie=true:=aR rfl;unfold mG;by_cases a:lC xs=0
 ·by_cases b:ax yz<256
  ·unfold nV rM
   rcases Bool.eq_false_or_eq_true (Ri xs) with hb|hb
   ·have hs: ∀A B:Option V,sel (Ri xs) A B=A:=fun A B=>by rw[hb];rfl
    have ho:kJ xs ln=ln:=by unfold kJ;rw[hb];rfl
    simp only[kz,kw,lz,lw,bz,bw,iz1,ie1,h1,aR a,bq b,app1 y1,app1 e1,dm,dn,bY,bZ,vJ a b,hs,ho];rfl
   ·have hs: ∀A B:Option V,sel (Ri xs) A B=B:=fun A B=>by rw[hb];rfl
    have ho:kJ xs ln=0:=by unfold kJ;rw[hb];rfl
    simp only[kz,kw,lz,lw,bz,bw,iz1,ie1,h1,aR a,bq b,app1 y1,app1 e1,dm,dn,bY,bZ,vJ a b,hs,ho];rfl
  ·simp only[kz,kw,bz,bw,iz1,h1,aR a,bu (Int.not_lt.1 b),bY,bZ,w9 a b]
   rfl
 ·simp only[kz,kw,bz,bw,iz1,h1,bf a,bY,bZ,dn,D8 a]
theorem ab9 (c0 c1 c2 c3 c4 c5:V) (ln op:Int) (xs:List V) (hc:(bif Ja c0 c1 c2 c3 c4 c5 then JO (xL c1) (xI c1) (xY c1) (xL c4) (xI c4) (xY c4) xs else false)=true):uP eE 30 [.bxa 0 [c0,c1,c2,c3,c4,c5,.int .i64 ln,.int .i64 op],.sl 9 [.str] none xs] (.mK (ieq (mG (xY c1) xs) 0) (.out false (.tup []) [qx (xL c0) (nV (xL c1) (xY c1) xs) (xL c2) (xL c3) (rM (xL c4) (xY c4) ln) (xL c5) (xI c1) (aX (xY c1) [yg xs]) (xI c4) (aX (xY c4) [.int .i64 ln]) ln (kJ xs ln)]) (.out true (gU ln (mG (xY c1) xs)) [qx (xL c0) (xL c1) (xL c2) (xL c3) (xL c4) (xL c5) (xI c1) (xY c1) (xI c4) (xY c4) ln op])):=by
 obtain⟨h,hc⟩:=gP hc;rw[sZ h];exact wR wZ 5 3 (era_p _ _ _ _ _ _ _ _ _ _ _ _ _ hc)
theorem era_r (rs zs ks wr we wl:List V) (ln op iz ie:Int) (yz ye xs:List V) (hc:JO zs iz yz we ie ye xs=true):bD eE (bB eE Q5 5 3) 5 21 [.bxa 0 (qw rs zs ks wr we wl iz yz ie ye op),.sl 9 [.str] none xs,.int .i64 ln] some=
  some (sel (ieq (mG yz xs) 0) (.out false (.int .i64 0) [qw rs (nV zs yz xs) ks wr (rM we ye ln) wl iz (aX yz [yg xs]) ie (aX ye [.int .i64 ln]) (kJ xs ln)]) (.out false (.int .i64 (mG yz xs)) [qw rs zs ks wr we wl iz yz ie ye op])):=by
 (rw[X7];(conv=>zeta))
 unfold JO at hc;rw[decide_eq_true_eq] at hc;obtain⟨h1,⟨z0,z1⟩,hiz,y1,⟨w0,w1⟩,hie,e1⟩:=hc;have kz:nP .i64 (ax zs) 1=iz:=by rw[wV (by rw[aI];omega),aI,hiz]
 have kw:nP .i64 (ax we) 1=ie:=by rw[wV (by rw[aI];omega),aI,hie]
 have lz:ax zs-1=iz:=by rw[aI,hiz]
 have lw:ax we-1=ie:=by rw[aI,hie]
 have bz:av (ak 0 iz) (aK iz (ax zs))=true:=by rw[aC,aA,aU,aI];omega
 have bw:av (ak 0 ie) (aK ie (ax we))=true:=by rw[aC,aA,aU,aI];omega
 have iz1:ieq iz iz=true:=aR rfl;have ie1:ieq ie ie=true:=aR rfl;unfold mG;by_cases a:lC xs=0
 ·by_cases b:ax yz<256
  ·unfold nV rM
   rcases Bool.eq_false_or_eq_true (Ri xs) with hb|hb
   ·have hs: ∀A B:Option V,sel (Ri xs) A B=A:=fun A B=>by rw[hb];rfl
    have ho:kJ xs ln=ln:=by unfold kJ;rw[hb];rfl
    simp only[kz,kw,lz,lw,bz,bw,iz1,ie1,h1,aR a,GL (Int.not_le.2 b),app1 y1,app1 e1,dm,dn,bY,bZ,vJ a b,hs,ho];rfl
   ·have hs: ∀A B:Option V,sel (Ri xs) A B=B:=fun A B=>by rw[hb];rfl
    have ho:kJ xs ln=0:=by unfold kJ;rw[hb];rfl
    simp only[kz,kw,lz,lw,bz,bw,iz1,ie1,h1,aR a,GL (Int.not_le.2 b),app1 y1,app1 e1,dm,dn,bY,bZ,vJ a b,hs,ho];rfl
  ·simp only[kz,kw,bz,bw,iz1,h1,aR a,bA (Int.not_lt.1 b),bY,bZ,w9 a b]
   rfl
 ·simp only[kz,kw,bz,bw,iz1,h1,bf a,bY,bZ,dn,D8 a]
theorem acd (c0 c1 c2 c3 c4 c5:V) (op:Int) (xs:List V) (ln:Int) (hc:(bif Ja c0 c1 c2 c3 c4 c5 then JO (xL c1) (xI c1) (xY c1) (xL c4) (xI c4) (xY c4) xs else false)=true):uP eE 21 [.bxa 0 [c0,c1,c2,c3,c4,c5,.int .i64 op],.sl 9 [.str] none xs,.int .i64 ln] (.mK (ieq (mG (xY c1) xs) 0) (.out false (.int .i64 0) [qw (xL c0) (nV (xL c1) (xY c1) xs) (xL c2) (xL c3) (rM (xL c4) (xY c4) ln) (xL c5) (xI c1) (aX (xY c1) [yg xs]) (xI c4) (aX (xY c4) [.int .i64 ln]) (kJ xs ln)]) (.out false (.int .i64 (mG (xY c1) xs)) [qw (xL c0) (xL c1) (xL c2) (xL c3) (xL c4) (xL c5) (xI c1) (xY c1) (xI c4) (xY c4) op])):=by
 obtain⟨h,hc⟩:=gP hc;rw[sZ h];exact wR wZ 5 3 (era_r _ _ _ _ _ _ _ _ _ _ _ _ _ hc)
theorem Sl:bF eE rS1:=by
 unfold rS1;refine bF.rX (fun args r h=>?_) (bF.rX (fun args r h=>?_) wZ);all_goals (revert h;intro h;first|unfold rEraS at h|unfold rEraT at h)
 all_goals (split at h;rotate_left; · cases h)
 all_goals (simp only[Option.some.injEq,Prod.mk.injEq] at h;obtain⟨hc,rfl⟩:=h)
 ·exact ab9 _ _ _ _ _ _ _ _ _ hc
 ·exact acd _ _ _ _ _ _ _ _ _ hc
theorem B5 {xs:List V} (h:dZ xs=true) (a b:Int):dZ (dI xs a b)=true:=by
 unfold dZ at h⊢;rw[List.all_eq_true] at h⊢;exact fun x hx=>h x (List.mem_of_mem_drop (List.mem_of_mem_take hx))
theorem zn_zs (zs xs:List V):nV (aX zs [V.agg [V.str (aT (aD (aY xs 0) 0)),V.nilsl]]) [] (dI xs 1 (ax xs))=rO zs xs:=by
 unfold nV rO;have e:ax (aX zs [V.agg [V.str (aT (aD (aY xs 0) 0)),V.nilsl]])-1=(zs.length:Int):=by rw[aI];unfold aX;simp
 rw[e];generalize aT (aD (aY xs 0) 0)=n;have e2:(zs++[V.agg [V.str n,V.nilsl]]).getD zs.length V.any=V.agg [V.str n,V.nilsl]:=by simp
 unfold sP aY aX;rw[Int.toNat_natCast,List.set_append_right _ _ (Nat.le_refl _),Nat.sub_self,e2];rfl
theorem zn_we (we:List V) (ln:Int):rM (aX we [V.nilsl]) [] ln=vP we ln:=by
 unfold rM vP;have e:ax (aX we [V.nilsl])-1=(we.length:Int):=by rw[aI];unfold aX;simp
 rw[e];unfold sP aX;rw[Int.toNat_natCast,List.set_append_right _ _ (Nat.le_refl _),Nat.sub_self];rfl
theorem zone_p (rs zs ks wr we wl:List V) (ln op iz ie:Int) (yz ye xs:List V) (hc:Ua zs we xs=true):bD eE (bB eE rS1 5 3) 5 33 [.bxa 0 (qx rs zs ks wr we wl iz yz ie ye ln op),.sl 9 [.str] none xs] some=
  some (sel (ieq (mH zs xs) 0) (.out false (.tup []) [qx rs (rO zs xs) ks wr (vP we ln) wl (ax zs) [yg (dI xs 1 (ax xs))] (ax we) [.int .i64 ln] ln (kJ (dI xs 1 (ax xs)) ln)]) (.out true (gU ln (mH zs xs)) [qx rs zs ks wr we wl iz yz ie ye ln op])):=by
 (rw[X8];(conv=>zeta))
 unfold Ua at hc;rw[decide_eq_true_eq] at hc;obtain⟨h1,z1,w1⟩:=hc;unfold mH;by_cases n0:ax xs=0
 ·simp only[aR n0,bY,if_pos n0]
  rfl
 have n1:1≤ax xs:=by rw[aI] at n0⊢;omega
 have i0:av (ak 0 0) (aK 0 (ax xs))=true:=by rw[aC,aA,aU];omega
 have i1:av (ak 0 1) (ak 1 (ax xs))=true:=by rw[aC,aA,aA];omega
 have ht:dZ (dI xs 1 (ax xs))=true:=B5 h1 _ _;by_cases nm:gW (aT (aD (aY xs 0) 0))=0
 ·have nmN: ∀A B:Int,(if gW (aT (aD (aY xs 0) 0))≠0 then A else B)=B:=fun A B=>if_neg (fun h=>h nm)
  by_cases a:lC (dI xs 1 (ax xs))=0
  ·by_cases b:ax zs<1024
   ·have hE:JO (aX zs [V.agg [V.str (aT (aD (aY xs 0) 0)),V.nilsl]]) (ax zs) [] (aX we [V.nilsl]) (ax we) [] (dI xs 1 (ax xs))=true:=by
     unfold JO;rw[decide_eq_true_eq];simp only[aX,List.length_append,List.length_singleton,List.length_nil,aI];refine⟨ht,⟨by omega,by omega⟩,by omega,by omega,⟨by omega,by omega⟩,by omega,by omega⟩
    have e0:mG [] (dI xs 1 (ax xs))=0:=vJ a (by rw[aI];decide);simp only[bf n0,i0,i1,ht,aR nm,aR a,bq b,app1 (y:=(V.agg [V.str (aT (aD (aY xs 0) 0)),V.nilsl])) (show zs.length≤16000000 by omega),app1 (y:=V.nilsl) (show we.length≤16000000 by omega),hE,e0,dm,dn,bY,bZ,if_neg n0,nmN,vJ a b,zn_zs,zn_we];rfl
   ·simp only[bf n0,i0,i1,ht,aR nm,aR a,bu (Int.not_lt.1 b),dm,dn,bY,bZ,if_neg n0,nmN,w9 a b]
    rfl
  ·simp only[bf n0,i0,i1,ht,aR nm,bf a,dm,dn,bY,bZ,if_neg n0,nmN,D8 a]
 ·simp only[bf n0,i0,bf nm,dn,bY,bZ,if_neg n0,if_pos (show gW (aT (aD (aY xs 0) 0))≠0 from nm)]
theorem Yg (c0 c1 c2 c3 c4 c5:V) (ln op:Int) (xs:List V) (hc:(bif Ja c0 c1 c2 c3 c4 c5 then Ua (xL c1) (xL c4) xs else false)=true):uP eE 33 [.bxa 0 [c0,c1,c2,c3,c4,c5,.int .i64 ln,.int .i64 op],.sl 9 [.str] none xs] (.mK (ieq (mH (xL c1) xs) 0) (.out false (.tup []) [qx (xL c0) (rO (xL c1) xs) (xL c2) (xL c3) (vP (xL c4) ln) (xL c5) (ax (xL c1)) [yg (dI xs 1 (ax xs))] (ax (xL c4)) [.int .i64 ln] ln (kJ (dI xs 1 (ax xs)) ln)]) (.out true (gU ln (mH (xL c1) xs)) [qx (xL c0) (xL c1) (xL c2) (xL c3) (xL c4) (xL c5) (xI c1) (xY c1) (xI c4) (xY c4) ln op])):=by
 obtain⟨h,hc⟩:=gP hc;rw[sZ h];exact wR Sl 5 3 (zone_p _ _ _ _ _ _ _ _ _ _ _ _ _ hc)
theorem zone_r (rs zs ks wr we wl:List V) (ln op iz ie:Int) (yz ye xs:List V) (hc:Ua zs we xs=true):bD eE (bB eE rS1 5 3) 5 24 [.bxa 0 (qw rs zs ks wr we wl iz yz ie ye op),.sl 9 [.str] none xs,.int .i64 ln] some=
  some (sel (ieq (mH zs xs) 0) (.out false (.int .i64 0) [qw rs (rO zs xs) ks wr (vP we ln) wl (ax zs) [yg (dI xs 1 (ax xs))] (ax we) [.int .i64 ln] (kJ (dI xs 1 (ax xs)) ln)]) (.out false (.int .i64 (mH zs xs)) [qw rs zs ks wr we wl iz yz ie ye op])):=by
 (rw[X9];(conv=>zeta))
 unfold Ua at hc;rw[decide_eq_true_eq] at hc;obtain⟨h1,z1,w1⟩:=hc;unfold mH;by_cases n0:ax xs=0
 ·simp only[aR n0,bY,if_pos n0]
  rfl
 have n1:1≤ax xs:=by rw[aI] at n0⊢;omega
 have i0:av (ak 0 0) (aK 0 (ax xs))=true:=by rw[aC,aA,aU];omega
 have i1:av (ak 0 1) (ak 1 (ax xs))=true:=by rw[aC,aA,aA];omega
 have ht:dZ (dI xs 1 (ax xs))=true:=B5 h1 _ _;by_cases nm:gW (aT (aD (aY xs 0) 0))=0
 ·have nmN: ∀A B:Int,(if gW (aT (aD (aY xs 0) 0))≠0 then A else B)=B:=fun A B=>if_neg (fun h=>h nm)
  by_cases a:lC (dI xs 1 (ax xs))=0
  ·by_cases b:ax zs<1024
   ·have hE:JO (aX zs [V.agg [V.str (aT (aD (aY xs 0) 0)),V.nilsl]]) (ax zs) [] (aX we [V.nilsl]) (ax we) [] (dI xs 1 (ax xs))=true:=by
     unfold JO;rw[decide_eq_true_eq];simp only[aX,List.length_append,List.length_singleton,List.length_nil,aI];refine⟨ht,⟨by omega,by omega⟩,by omega,by omega,⟨by omega,by omega⟩,by omega,by omega⟩
    have e0:mG [] (dI xs 1 (ax xs))=0:=vJ a (by rw[aI];decide);simp only[bf n0,i0,i1,ht,aR nm,aR a,GL (Int.not_le.2 b),app1 (y:=(V.agg [V.str (aT (aD (aY xs 0) 0)),V.nilsl])) (show zs.length≤16000000 by omega),app1 (y:=V.nilsl) (show we.length≤16000000 by omega),hE,e0,dm,dn,bY,bZ,if_neg n0,nmN,vJ a b,zn_zs,zn_we];rfl
   ·simp only[bf n0,i0,i1,ht,aR nm,aR a,bA (Int.not_lt.1 b),dm,dn,bY,bZ,if_neg n0,nmN,w9 a b]
    rfl
  ·simp only[bf n0,i0,i1,ht,aR nm,bf a,dm,dn,bY,bZ,if_neg n0,nmN,D8 a]
 ·simp only[bf n0,i0,bf nm,dn,bY,bZ,if_neg n0,if_pos (show gW (aT (aD (aY xs 0) 0))≠0 from nm)]
theorem Yh (c0 c1 c2 c3 c4 c5:V) (op:Int) (xs:List V) (ln:Int) (hc:(bif Ja c0 c1 c2 c3 c4 c5 then Ua (xL c1) (xL c4) xs else false)=true):uP eE 24 [.bxa 0 [c0,c1,c2,c3,c4,c5,.int .i64 op],.sl 9 [.str] none xs,.int .i64 ln] (.mK (ieq (mH (xL c1) xs) 0) (.out false (.int .i64 0) [qw (xL c0) (rO (xL c1) xs) (xL c2) (xL c3) (vP (xL c4) ln) (xL c5) (ax (xL c1)) [yg (dI xs 1 (ax xs))] (ax (xL c4)) [.int .i64 ln] (kJ (dI xs 1 (ax xs)) ln)]) (.out false (.int .i64 (mH (xL c1) xs)) [qw (xL c0) (xL c1) (xL c2) (xL c3) (xL c4) (xL c5) (xI c1) (xY c1) (xI c4) (xY c4) op])):=by
 obtain⟨h,hc⟩:=gP hc;rw[sZ h];exact wR Sl 5 3 (zone_r _ _ _ _ _ _ _ _ _ _ _ _ _ hc)
theorem aat:bF eE rS2:=by
 unfold rS2;refine bF.rX (fun args r h=>?_) (bF.rX (fun args r h=>?_) (bF.rX (fun args r h=>?_) (bF.rX (fun args r h=>?_) (bF.rX (fun args r h=>?_) (bF.rX (fun args r h=>?_) Sl)))));all_goals (revert h;intro h;first|unfold aak at h|unfold aal at h|unfold aam at h|unfold aan at h|unfold aao at h|unfold aap at h)
 all_goals (split at h;rotate_left; · cases h)
 all_goals (simp only[Option.some.injEq,Prod.mk.injEq] at h;obtain⟨hc,rfl⟩:=h)
 ·exact Yc _ _ _ _ _ _ _ _ _ hc
 ·exact Yd _ _ _ _ _ _ _ _ _ hc
 ·exact Ye _ _ _ _ _ _ _ _ _ hc
 ·exact Yf _ _ _ _ _ _ _ _ _ hc
 ·exact Yg _ _ _ _ _ _ _ _ _ hc
 ·exact Yh _ _ _ _ _ _ _ _ _ hc
end Nt.Ev.YtpbgegnlkdfjgaaGreatDoor.Rr
