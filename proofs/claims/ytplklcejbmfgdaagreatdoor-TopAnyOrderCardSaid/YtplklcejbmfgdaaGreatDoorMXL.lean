/-
  The reader of sources: its cells, what each step makes of them. Reader: equations of functions, as the evaluator prints them. The reader's fail and room, walked: they leave all as it was. The reader of sources: rules, links, eras, zones; both sides as contracts.
-/
import Derived.Test.YtplklcejbmfgdaaGreatDoorMN
import Derived.Test.YtplklcejbmfgdaaGreatDoorMO
import Derived.Test.YtplklcejbmfgdaaGreatDoorMQ
import Derived.Test.YtplklcejbmfgdaaGreatDoorMR
import Derived.WalkKit
set_option linter.unusedVariables false
set_option linter.unusedSimpArgs false
set_option linter.unusedSectionVars false
namespace Nt.Ev.YtplklcejbmfgdaaGreatDoor.Rr
open Go Nt.Num Nt.Civil Nt.Fld Go.Proofs.YtplklcejbmfgdaaGreatDoor Nt.Ev.YtplklcejbmfgdaaGreatDoor Nt.Ev.YtplklcejbmfgdaaGreatDoor.Lk
variable [nP]
abbrev kE:List Kd:=[Kd.int .i64,Kd.int .i64,Kd.int .i64,Kd.str,Kd.str,Kd.bool,Kd.int .i64,Kd.int .i64,Kd.int .i64,Kd.int .i64,Kd.int .i64,Kd.int .i64,Kd.int .i64]
abbrev kR:List Kd:=[Kd.str,Kd.int .i64,Kd.int .i64,Kd.int .i64,Kd.int .i64,Kd.int .i64,Kd.int .i64,Kd.int .i64,Kd.int .i64,Kd.int .i64,Kd.str]
abbrev kL:List Kd:=[Kd.str,Kd.str]
abbrev kZ:List Kd:=[Kd.str,Kd.sl 59 kE]
abbrev kI:List Kd:=[Kd.int .i64]
abbrev kW:List Kd:=[Kd.sl 3 kI]
def xL:V→List V
 | .sl _ _ _ xs=>xs
 | .slz _ _ _ xs _ _ _ _ _ _=>xs
 |_=>[]
def xI:V→Int
 | .slz _ _ _ _ _ i _ _ _ _=>i
 |_=>0
def xY:V→List V
 | .slz _ _ _ _ _ _ _ _ _ ys=>ys
 |_=>[]
def XE (L e:Nat) (k:List Kd):V→Bool
 | .sl e' k' (some L') _=>(L==L'&&e==e')&&Kd.qV k k'
 |_=>false
def labZ (L e:Nat) (k:List Kd) (L2 c e2:Nat) (k2:List Kd):V→Bool
 | .slz L' e' k' _ (some L2') _ c' e2' k2' _=>((L==L'&&e==e')&&(Kd.qV k k'&&L2==L2'))&&((c==c'&&e2==e2')&&Kd.qV k2 k2')
 |_=>false
def isN:V→Bool
 | .nilsl=>true
 |_=>false
def Z8 (c0 c1 c2 c3 c4 c5:V):Bool:=(XE 1000001001 47 kR c0&&labZ 1000001002 54 kZ 1000001502 1 59 kE c1)&&((XE 1000001003 50 kL c2&&XE 1000001004 3 kI c3)&&(labZ 1000001005 31 kW 1000001505 0 3 kI c4&&XE 1000001006 3 kI c5))
def okN (c0 c1 c2 c3 c4 c5:V):Bool:=(isN c0&&isN c1)&&((isN c2&&isN c3)&&(isN c4&&isN c5))
def okB (c0 c1 c2 c3 c4 c5:V):Bool:=Z8 c0 c1 c2 c3 c4 c5||okN c0 c1 c2 c3 c4 c5
abbrev oN (rs zs ks wr we wl:List V) (iz:Int) (yz:List V) (ie:Int) (ye:List V) (ln op:Int):List V:=[V.sl 47 kR (some 1000001001) rs,V.slz 1000001002 54 kZ zs (some 1000001502) iz 1 59 kE yz,V.sl 50 kL (some 1000001003) ks,V.sl 3 kI (some 1000001004) wr,V.slz 1000001005 31 kW we (some 1000001505) ie 0 3 kI ye,V.sl 3 kI (some 1000001006) wl,V.int .i64 ln,V.int .i64 op]
abbrev bxn (rs zs ks wr we wl:List V) (iz:Int) (yz:List V) (ie:Int) (ye:List V) (ln op:Int):List V:=[V.sl 47 kR (some 1001) rs,V.slz 1002 54 kZ zs (some 1502) iz 1 59 kE yz,V.sl 50 kL (some 1003) ks,V.sl 3 kI (some 1004) wr,V.slz 1005 31 kW we (some 1505) ie 0 3 kI ye,V.sl 3 kI (some 1006) wl,V.int .i64 ln,V.int .i64 op]
abbrev gU (ln e:Int):V:=.iface 76 (.agg [.int .i64 ln,.int .i64 e])
abbrev tbV (a b c d e f:List V) (l w:Int):V:=.tup [.agg [.sl 47 kR none a,.sl 54 kZ none b,.sl 50 kL none c],.agg [.sl 3 kI none d,.sl 31 kW none e,.sl 3 kI none f],.agg [.int .i64 l,.int .i64 w]]
abbrev nlV (l w:Int):V:=.tup [.agg [.nilsl,.nilsl,.nilsl],.agg [.nilsl,.nilsl,.nilsl],.agg [.int .i64 l,.int .i64 w]]
noncomputable def On (xs:List V):V:=.agg [.str (R3 xs),.int .i64 (R4 xs),.int .i64 (R5 xs),.int .i64 (R6 xs),.int .i64 (R7 xs),.int .i64 (R8 xs),.int .i64 (R9 xs),.int .i64 (Sb xs),.int .i64 (Sc xs),.int .i64 (Sd xs),.str (za xs)]
noncomputable def RQ (xs:List V):V:=.agg [.str (lrT xs),.str (lrN xs)]
noncomputable def qK (xs:List V):V:=.agg [.int .i64 (RH xs),.int .i64 (UX xs),.int .i64 (RI xs),.str (Se xs),.str (Sf xs),.bool (ED xs),.int .i64 (RJ xs),.int .i64 (RL xs),.int .i64 (UY xs),.int .i64 (UZ xs),.int .i64 (Ak xs),.int .i64 (Al xs),.int .i64 (Am xs)]
def U2 (xs:List V):Bool:=decide (xs.length≤16000000)
def lN (e n m:Int):Int:=if e≠0 then e else if n<m then 0 else 17
noncomputable def Ap (rs xs:List V):Int:=lN (Oy xs) (av rs) 4096
noncomputable def Aq (ks xs:List V):Int:=lN (RP xs) (av ks) 1024
noncomputable def zf (yz xs:List V):Int:=lN (kT xs) (av yz) 256
noncomputable def erC (zs:List V) (iz:Int) (yz we:List V) (ie:Int) (ye xs:List V):Bool:=decide (gB xs=true∧(0<zs.length∧zs.length≤16000000)∧iz=(zs.length:Int)-1∧yz.length≤16000000∧(0<we.length∧we.length≤16000000)∧ie=(we.length:Int)-1∧ye.length≤16000000)
noncomputable def oq (zs yz xs:List V):List V:=om zs (av zs-1) (aset (aX zs (av zs-1)) 1 (.sl 59 kE none (aM yz [qK xs])))
def q8 (we ye:List V) (ln:Int):List V:=om we (av we-1) (.sl 3 kI none (aM ye [.int .i64 ln]))
noncomputable def jw (xs:List V) (ln:Int):Int:=if ED xs=true then ln else 0
noncomputable def znC (zs we xs:List V):Bool:=decide (gB xs=true∧zs.length≤15000000∧we.length≤15000000)
abbrev tl1 (xs:List V):List V:=dX xs 1 (av xs)
noncomputable def uH (zs xs:List V):Int:=if av xs=0 then 5 else if dZ (aH (ah (aX xs 0) 0))≠0 then dZ (aH (ah (aX xs 0) 0)) else lN (kT (tl1 xs)) (av zs) 1024
noncomputable def sJ (zs xs:List V):List V:=aM zs [.agg [.str (aH (ah (aX xs 0) 0)),.sl 59 kE none [qK (tl1 xs)]]]
def Ar (we:List V) (ln:Int):List V:=aM we [.sl 3 kI none [.int .i64 ln]]
abbrev EG:List V:=[.str [82,117,108,101],.str [90,111,110,101],.str [76,105,110,107]]
def wsR (ws:List V):Bool:=ug ws
noncomputable def fQ (op:Int) (s:List UInt8):Nat:=if av (cK s)=0 then 4 else if 0<op then 3 else(mh (aH (ah (aX (cK s) 0) 0)) EG).toNat
noncomputable def kF (rs zs ks yz:List V) (op:Int) (s:List UInt8):Int:=if Af s≠0 then Af s else if LP s≠0 then LP s else if av (cK s)=0 then 0 else if 0<op then zf yz (cK s) else
 if oM (aH (ah (aX (cK s) 0) 0)) EG≠0 then oM (aH (ah (aX (cK s) 0) 0)) EG else if mh (aH (ah (aX (cK s) 0) 0)) EG=0 then Ap rs (tl1 (cK s)) else if mh (aH (ah (aX (cK s) 0) 0)) EG=1 then uH zs (tl1 (cK s)) else Aq ks (tl1 (cK s))
noncomputable def Jf (rs zs:List V) (iz:Int) (yz wr we:List V) (ie:Int) (ye wl:List V) (op:Int) (s:List UInt8):Bool:=decide (s.length≤4000000∧zs.length≤15000000∧we.length≤15000000∧yz.length≤16000000∧ye.length≤16000000∧wr.length≤16000000∧wl.length≤16000000∧(0<op→0<zs.length∧iz=(zs.length:Int)-1∧0<we.length∧ie=(we.length:Int)-1))
noncomputable def qM (rs:List V) (op:Int) (s:List UInt8):List V:=if fQ op s=0 then aM rs [On (tl1 (cK s))] else rs
noncomputable def qN (zs yz:List V) (op:Int) (s:List UInt8):List V:=if fQ op s=3 then oq zs yz (cK s) else if fQ op s=1 then sJ zs (tl1 (cK s)) else zs
noncomputable def qO (ks:List V) (op:Int) (s:List UInt8):List V:=if fQ op s=2 then aM ks [RQ (tl1 (cK s))] else ks
noncomputable def uh (wr:List V) (ln op:Int) (s:List UInt8):List V:=if fQ op s=0 then aM wr [.int .i64 ln] else wr
noncomputable def uj (we ye:List V) (ln op:Int) (s:List UInt8):List V:=if fQ op s=3 then q8 we ye ln else if fQ op s=1 then Ar we ln else we
noncomputable def uk (wl:List V) (ln op:Int) (s:List UInt8):List V:=if fQ op s=2 then aM wl [.int .i64 ln] else wl
noncomputable def ul (iz:Int) (zs:List V) (op:Int) (s:List UInt8):Int:=if fQ op s=1 then av zs else iz
noncomputable def qP (yz:List V) (op:Int) (s:List UInt8):List V:=if fQ op s=3 then aM yz [qK (cK s)] else if fQ op s=1 then[qK (tl1 (tl1 (cK s)))] else yz
noncomputable def um (ie:Int) (we:List V) (op:Int) (s:List UInt8):Int:=if fQ op s=1 then av we else ie
noncomputable def uo (ye:List V) (ln op:Int) (s:List UInt8):List V:=if fQ op s=3 then aM ye [.int .i64 ln] else if fQ op s=1 then[.int .i64 ln] else ye
noncomputable def qQ (op ln:Int) (s:List UInt8):Int:=if fQ op s=3 then jw (cK s) ln else if fQ op s=1 then jw (tl1 (tl1 (cK s))) ln else op
set_option maxRecDepth 100000
noncomputable def rRuS:aG:=fun a=>match a with|[.sl 9 [.str] none xs]=>some (gB xs,.tup [.agg [.str (R3 xs),.int .i64 (R4 xs),.int .i64 (R5 xs),.int .i64 (R6 xs),.int .i64 (R7 xs),.int .i64 (R8 xs),.int .i64 (R9 xs),.int .i64 (Sb xs),.int .i64 (Sc xs),.int .i64 (Sd xs),.str (za xs)],.int .i64 (Oy xs)])|_=>none
noncomputable def rLkS:aG:=fun a=>match a with|[.sl 9 [.str] none xs]=>some (true,.tup [.agg [.str (lrT xs),.str (lrN xs)],.int .i64 (RP xs)])|_=>none
noncomputable def rNmS:aG:=fun a=>match a with|[.str s]=>some (true,.int .i64 (dZ s))|_=>none
noncomputable def rMtS:aG:=fun a=>match a with|[.str s,.sl e [.str] o ws]=>some (ai (ak (au s) 1000) (wsR ws),.tup [.int .i64 (mh s ws),.int .i64 (oM s ws)])|_=>none
noncomputable def rOfS:aG:=fun a=>match a with|[.str s]=>some (ak (au s) 4000000,.tup [.sl 9 [.str] none (cK s),.int .i64 (LP s)])|_=>none
noncomputable def rCkS:aG:=fun a=>match a with|[.str s]=>some (ak (au s) 4000000,.int .i64 (Af s))|_=>none
noncomputable def rLnS:aG:=fun a=>match a with|[.str s]=>some (ak (au s) 4000000,.sl 9 [.str] none (ko s))|_=>none
noncomputable def rFaS:aG:=fun a=>match a with|[.bxa 0 [c0,c1,c2,c3,c4,c5,.int .i64 ln,c7],.int .i64 e]=>some (true,.qb (ieq e 0) (.keep false (.tup [])) (.keep true (gU ln e)))|_=>none
noncomputable def rRoS:aG:=fun a=>match a with|[.bxa 0 [c0,c1,c2,c3,c4,c5,.int .i64 ln,c7],.int .i64 n,.int .i64 m]=>some (true,.qb (aU n m) (.keep false (.tup [])) (.keep true (gU ln 17)))|_=>none
noncomputable def rS0:List (Nat×aG):=(KX+66,rFaS)::(KX+107,rRoS)::(110,rRuS)::(106,eRdS)::(42,rLkS)::(16,rNmS)::(89,rMtS)::(87,rOfS)::(86,rCkS)::(10,rLnS)::[]
noncomputable def rRuleS:aG:=fun a=>match a with|[.bxa 0 [c0,c1,c2,c3,c4,c5,.int .i64 ln,.int .i64 op],.sl 9 [.str] none xs]=>some (bif Z8 c0 c1 c2 c3 c4 c5 then ai (gB xs) (U2 (xL c3)) else false,.qb (ieq (Ap (xL c0) xs) 0) (.out false (.tup []) [oN (aM (xL c0) [On xs]) (xL c1) (xL c2) (aM (xL c3) [.int .i64 ln]) (xL c4) (xL c5) (xI c1) (xY c1) (xI c4) (xY c4) ln op]) (.out true (gU ln (Ap (xL c0) xs)) [oN (xL c0) (xL c1) (xL c2) (xL c3) (xL c4) (xL c5) (xI c1) (xY c1) (xI c4) (xY c4) ln op]))|_=>none
noncomputable def rLinkS:aG:=fun a=>match a with|[.bxa 0 [c0,c1,c2,c3,c4,c5,.int .i64 ln,.int .i64 op],.sl 9 [.str] none xs]=>some (bif Z8 c0 c1 c2 c3 c4 c5 then U2 (xL c5) else false,.qb (ieq (Aq (xL c2) xs) 0) (.out false (.tup []) [oN (xL c0) (xL c1) (aM (xL c2) [RQ xs]) (xL c3) (xL c4) (aM (xL c5) [.int .i64 ln]) (xI c1) (xY c1) (xI c4) (xY c4) ln op]) (.out true (gU ln (Aq (xL c2) xs)) [oN (xL c0) (xL c1) (xL c2) (xL c3) (xL c4) (xL c5) (xI c1) (xY c1) (xI c4) (xY c4) ln op]))|_=>none
noncomputable def rEraS:aG:=fun a=>match a with|[.bxa 0 [c0,c1,c2,c3,c4,c5,.int .i64 ln,.int .i64 op],.sl 9 [.str] none xs]=>some (bif Z8 c0 c1 c2 c3 c4 c5 then erC (xL c1) (xI c1) (xY c1) (xL c4) (xI c4) (xY c4) xs else false,.qb (ieq (zf (xY c1) xs) 0) (.out false (.tup []) [oN (xL c0) (oq (xL c1) (xY c1) xs) (xL c2) (xL c3) (q8 (xL c4) (xY c4) ln) (xL c5) (xI c1) (aM (xY c1) [qK xs]) (xI c4) (aM (xY c4) [.int .i64 ln]) ln (jw xs ln)]) (.out true (gU ln (zf (xY c1) xs)) [oN (xL c0) (xL c1) (xL c2) (xL c3) (xL c4) (xL c5) (xI c1) (xY c1) (xI c4) (xY c4) ln op]))|_=>none
noncomputable def rZoneS:aG:=fun a=>match a with|[.bxa 0 [c0,c1,c2,c3,c4,c5,.int .i64 ln,.int .i64 op],.sl 9 [.str] none xs]=>some (bif Z8 c0 c1 c2 c3 c4 c5 then znC (xL c1) (xL c4) xs else false,.qb (ieq (uH (xL c1) xs) 0) (.out false (.tup []) [oN (xL c0) (sJ (xL c1) xs) (xL c2) (xL c3) (Ar (xL c4) ln) (xL c5) (av (xL c1)) [qK (dX xs 1 (av xs))] (av (xL c4)) [.int .i64 ln] ln (jw (dX xs 1 (av xs)) ln)]) (.out true (gU ln (uH (xL c1) xs)) [oN (xL c0) (xL c1) (xL c2) (xL c3) (xL c4) (xL c5) (xI c1) (xY c1) (xI c4) (xY c4) ln op]))|_=>none
noncomputable def rReadS:aG:=fun a=>match a with|[.bxa 0 [c0,c1,c2,c3,c4,c5,.int .i64 ln,.int .i64 op],.str s]=>some (bif okB c0 c1 c2 c3 c4 c5 then Jf (xL c0) (xL c1) (xI c1) (xY c1) (xL c3) (xL c4) (xI c4) (xY c4) (xL c5) op s else false,.qb (ieq (kF (xL c0) (xL c1) (xL c2) (xY c1) op s) 0) (.out false (.tup []) [oN (qM (xL c0) op s) (qN (xL c1) (xY c1) op s) (qO (xL c2) op s) (uh (xL c3) ln op s) (uj (xL c4) (xY c4) ln op s) (uk (xL c5) ln op s) (ul (xI c1) (xL c1) op s) (qP (xY c1) op s) (um (xI c4) (xL c4) op s) (uo (xY c4) ln op s) ln (qQ op ln s)]) (.out true (gU ln (kF (xL c0) (xL c1) (xL c2) (xY c1) op s)) [oN (xL c0) (xL c1) (xL c2) (xL c3) (xL c4) (xL c5) (xI c1) (xY c1) (xI c4) (xY c4) ln op]))|_=>none
noncomputable def rS1:List (Nat×aG):=(GX+88,rEraS)::rS0
noncomputable def rS2:List (Nat×aG):=(GX+90,rRuleS)::(GX+92,rLinkS)::(GX+91,rZoneS)::rS1
noncomputable def rS3:List (Nat×aG):=(GX+67,rReadS)::rS0
theorem ZC (F:Nat) (rs zs ks wr we wl:List V) (ln op iz ie:Int) (yz ye xs:List V) (K:V→Option V):
 bW eE (bT eE rS0 F 3) F 90 [V.bxa 0 (oN rs zs ks wr we wl iz yz ie ye ln op),V.sl 9 [Kd.str] none xs] K=
 let A:=V.int .i64 ln;let B:=[oN rs zs ks wr we wl iz yz ie ye ln op];let C:=[Kd.int .i64];sel (gB xs) (sel (ieq (Oy xs) 0) (sel (aU (av rs) 4096) (sel (cO rs [On xs]) (sel (cO wr [A]) (K (V.out false (V.tup []) [[V.sl 47 kR (some 1000001001) (aM rs [On xs]),V.slz 1000001002 54 kZ zs (some 1000001502) iz 1 59 kE yz,V.sl 50 kL (some 1000001003) ks,V.sl 3 C (some 1000001004) (aM wr [A]),V.slz 1000001005 31 kW we (some 1000001505) ie 0 3 C ye,V.sl 3 C (some 1000001006) wl,A,V.int .i64 op]])) none) none) (K (V.out true (V.iface 76 (V.agg [A,V.int .i64 17])) B))) (K (V.out true (V.iface 76 (V.agg [A,V.int .i64 (Oy xs)])) B))) none:=by kernel_rfl
theorem ZD (F:Nat) (rs zs ks wr we wl:List V) (ln op iz ie:Int) (yz ye xs:List V) (K:V→Option V):
 bW eE (bT eE rS0 F 3) F 92 [V.bxa 0 (oN rs zs ks wr we wl iz yz ie ye ln op),V.sl 9 [Kd.str] none xs] K=
 let A:=V.int .i64 ln;let B:=[V.agg [V.str (lrT xs),V.str (lrN xs)]];let C:=[oN rs zs ks wr we wl iz yz ie ye ln op];let D:=[Kd.int .i64];sel (ieq (RP xs) 0) (sel (aU (av ks) 1024) (sel (cO ks B) (sel (cO wl [A]) (K (V.out false (V.tup []) [[V.sl 47 kR (some 1000001001) rs,V.slz 1000001002 54 kZ zs (some 1000001502) iz 1 59 kE yz,V.sl 50 kL (some 1000001003) (aM ks B),V.sl 3 D (some 1000001004) wr,V.slz 1000001005 31 kW we (some 1000001505) ie 0 3 D ye,V.sl 3 D (some 1000001006) (aM wl [A]),A,V.int .i64 op]])) none) none) (K (V.out true (V.iface 76 (V.agg [A,V.int .i64 17])) C))) (K (V.out true (V.iface 76 (V.agg [A,V.int .i64 (RP xs)])) C)):=by kernel_rfl
theorem ZE (F:Nat) (rs zs ks wr we wl:List V) (ln op iz ie:Int) (yz ye xs:List V) (K:V→Option V):
 bW eE (bT eE rS0 F 3) F 88 [V.bxa 0 (oN rs zs ks wr we wl iz yz ie ye ln op),V.sl 9 [Kd.str] none xs] K=
 let C:=jN .i64 (av zs) 1;let D:=V.int .i64 ln;let E:=jN .i64 (av we) 1;let G:=[Kd.int .i64];let H:=[oN rs zs ks wr we wl iz yz ie ye ln op];let I:=V.sl 47 kR (some 1000001001) rs;let J:=V.sl 50 kL (some 1000001003) ks;let N:=aM yz [qK xs];let A:=V.slz 1000001002 54 kZ (om zs C (aset (aX zs C) 1 (V.sl 59 kE none N))) (some 1000001502) C 1 59 kE N;let B:=V.slz 1000001005 31 kW (om we E (V.sl 3 G none (aM ye [D]))) (some 1000001505) E 0 3 G (aM ye [D]);let L:=V.sl 3 G (some 1000001004) wr;let M:=V.sl 3 G (some 1000001006) wl;sel (ai (ak 0 C) (aU C (av zs))) (sel (gB xs) (sel (ieq (kT xs) 0) (sel (ieq C iz) (sel (aU (av yz) 256) (sel (ieq C iz) (sel (cO yz [qK xs]) (sel (ai (ak 0 E) (aU E (av we))) (sel (ieq E ie) (sel (cO ye [D]) (sel (ED xs) (K (V.out false (V.tup []) [[I,A,J,L,B,M,D,D]])) (K (V.out false (V.tup []) [[I,A,J,L,B,M,D,V.int .i64 0]]))) none) none) none) none) none) (K (V.out true (V.iface 76 (V.agg [D,V.int .i64 17])) H))) none) (K (V.out true (V.iface 76 (V.agg [D,V.int .i64 (kT xs)])) H))) none) none:=by kernel_rfl
theorem ZF (F:Nat) (rs zs ks wr we wl:List V) (ln op iz ie:Int) (yz ye xs:List V) (K:V→Option V):
 bW eE (bT eE rS1 F 3) F 91 [V.bxa 0 (oN rs zs ks wr we wl iz yz ie ye ln op),V.sl 9 [Kd.str] none xs] K=
 let B:=dX xs 1 (av xs);let C:=[oN rs zs ks wr we wl iz yz ie ye ln op];let D:=V.int .i64 ln;let E:=[Kd.int .i64];let G:=aH (ah (aX xs 0) 0);let H:=aM we [V.nilsl];let I:=ai (ak 0 0) (aU 0 (av xs));let J:=ai (ak 0 1) (ak 1 (av xs));let L:=V.sl 47 kR (some 1000001001) rs;let M:=V.sl 50 kL (some 1000001003) ks;let A:=[V.agg [V.str G,V.nilsl]];let N:=V.sl 3 E (some 1000001004) wr;let O:=V.sl 3 E (some 1000001006) wl;let P:=aM zs A;sel (ieq (av xs) 0) (K (V.out true (V.iface 76 (V.agg [D,V.int .i64 5])) C)) (sel I (sel (ieq (dZ G) 0) (sel J (sel (gB B) (sel (ieq (kT B) 0) (sel (aU (av zs) 1024) (sel I (sel (cO zs A) (sel (cO we [V.nilsl]) (sel J (sel (erC P (av zs) [] H (av we) [] B) (sel (ieq (zf [] B) 0) (K (V.out false (V.tup []) [[L,V.slz 1000001002 54 kZ (oq P [] B) (some 1000001502) (av zs) 1 59 kE (aM [] [qK B]),M,N,V.slz 1000001005 31 kW (q8 H [] ln) (some 1000001505) (av we) 0 3 E (aM [] [D]),O,D,V.int .i64 (jw B ln)]])) (K (V.out true (V.iface 76 (V.agg [D,V.int .i64 (zf [] B)])) [[L,V.slz 1000001002 54 kZ P (some 1000001502) (av zs) 1 59 kE [],M,N,V.slz 1000001005 31 kW H (some 1000001505) (av we) 0 3 E [],O,D,V.int .i64 op]]))) none) none) none) none) none) (K (V.out true (V.iface 76 (V.agg [D,V.int .i64 17])) C))) (K (V.out true (V.iface 76 (V.agg [D,V.int .i64 (kT B)])) C))) none) none) (K (V.out true (V.iface 76 (V.agg [D,V.int .i64 (dZ G)])) C))) none):=by kernel_rfl
theorem ZG (F:Nat) (rs zs ks wr we wl:List V) (ln op iz ie:Int) (yz ye:List V) (s:List UInt8) (K:V→Option V):
 bW eE (bT eE rS2 F 3) F 67 [V.bxa 0 (oN rs zs ks wr we wl iz yz ie ye ln op),V.str s] K=
 let A:=[V.str [82,117,108,101],V.str [90,111,110,101],V.str [76,105,110,107]];let C:=[oN rs zs ks wr we wl iz yz ie ye ln op];let D:=V.int .i64 ln;let E:=aH (ah (aX (cK s) 0) 0);let G:=[Kd.int .i64];let I:=V.sl 47 kR (some 1000001001) rs;let J:=V.sl 50 kL (some 1000001003) ks;let N:=V.slz 1000001002 54 kZ zs (some 1000001502) iz 1 59 kE yz;let P:=av (cK s);let Q:=V.tup [];let R:=ak (au s) 4000000;let T:=zf yz (cK s);let B:=dX (cK s) 1 P;let H:=ai (ak 0 1) (ak 1 P);let L:=V.sl 3 G (some 1000001004) wr;let M:=V.sl 3 G (some 1000001006) wl;let O:=V.slz 1000001005 31 kW we (some 1000001505) ie 0 3 G ye;let S:=dX B 1 (av B);sel R (sel (ieq (Af s) 0) (sel R (sel (ieq (LP s) 0) (sel (ieq P 0) (K (V.out false Q C)) (sel (aU 0 op) (sel (erC zs iz yz we ie ye (cK s)) (sel (ieq T 0) (K (V.out false Q [[I,V.slz 1000001002 54 kZ (oq zs yz (cK s)) (some 1000001502) iz 1 59 kE (aM yz [qK (cK s)]),J,L,V.slz 1000001005 31 kW (q8 we ye ln) (some 1000001505) ie 0 3 G (aM ye [D]),M,D,V.int .i64 (jw (cK s) ln)]])) (K (V.out true (V.iface 76 (V.agg [D,V.int .i64 T])) C))) none) (sel (ai (ak 0 0) (aU 0 P)) (sel (ai (ak (au E) 1000) (wsR A)) (sel (ieq (oM E A) 0) (sel (ieq (mh E A) 0) (sel H (sel (ai (gB B) (U2 wr)) (sel (ieq (Ap rs B) 0) (K (V.out false Q [[V.sl 47 kR (some 1000001001) (aM rs [On B]),N,J,V.sl 3 G (some 1000001004) (aM wr [D]),O,M,D,V.int .i64 op]])) (K (V.out true (V.iface 76 (V.agg [D,V.int .i64 (Ap rs B)])) C))) none) none) (sel (ieq (mh E A) 1) (sel H (sel (znC zs we B) (sel (ieq (uH zs B) 0) (K (V.out false Q [[I,V.slz 1000001002 54 kZ (sJ zs B) (some 1000001502) (av zs) 1 59 kE [qK S],J,L,V.slz 1000001005 31 kW (Ar we ln) (some 1000001505) (av we) 0 3 G [D],M,D,V.int .i64 (jw S ln)]])) (K (V.out true (V.iface 76 (V.agg [D,V.int .i64 (uH zs B)])) C))) none) none) (sel (ieq (mh E A) 2) (sel H (sel (U2 wl) (sel (ieq (Aq ks B) 0) (K (V.out false Q [[I,N,V.sl 50 kL (some 1000001003) (aM ks [RQ B]),L,O,V.sl 3 G (some 1000001006) (aM wl [D]),D,V.int .i64 op]])) (K (V.out true (V.iface 76 (V.agg [D,V.int .i64 (Aq ks B)])) C))) none) none) none))) (K (V.out true (V.iface 76 (V.agg [D,V.int .i64 (oM E A)])) C))) none) none))) (K (V.out true (V.iface 76 (V.agg [D,V.int .i64 (LP s)])) C))) none) (K (V.out true (V.iface 76 (V.agg [D,V.int .i64 (Af s)])) C))) none:=by kernel_rfl
end Nt.Ev.YtplklcejbmfgdaaGreatDoor.Rr
namespace Go.Proofs.YtplklcejbmfgdaaGreatDoor
open Go Go.RowKit Go.Shelf Nt Nt.Ev
set_option maxRecDepth 100000 in
set_option maxHeartbeats 2000000 in
theorem UL (g:Nat) (w:World):Calls Tryz.prog 66 #[.pointer (some ⟨g,0,none⟩),.int .i64 0] w fun ex w'=>ex=.returned (.tuple #[])∧Below w.heap.size w w':=by
 go_enter Tryz.func66,Tryz.ntmps66
 go_wp2
 exact⟨rfl,.tuple #[],by kernel_rfl,rfl,Below.refl _ _⟩
set_option maxRecDepth 100000 in
set_option maxHeartbeats 2000000 in
theorem UM (g:Nat) (w:World) (ln e:Int) (he:e≠0) (h6:w.cell? ⟨g,6,none⟩=some (.int .i64 ln)):Calls Tryz.prog 66 #[.pointer (some ⟨g,0,none⟩),.int .i64 e] w fun ex w'=>ex=.panicked [{v:=.iface 76 (.agg #[.int .i64 ln,.int .i64 e]),recovered:=false}]∧Below w.heap.size w w':=by
 go_enter Tryz.func66,Tryz.ntmps66
 go_wp2
 exact⟨rfl,rfl,Below.refl _ _⟩
set_option maxRecDepth 100000 in
set_option maxHeartbeats 2000000 in
theorem UN (g:Nat) (w:World) (n m:Int) (h:n<m):Calls Tryz.prog 107 #[.pointer (some ⟨g,0,none⟩),.int .i64 n,.int .i64 m] w fun ex w'=>ex=.returned (.tuple #[])∧Below w.heap.size w w':=by
 go_enter Tryz.func107,Tryz.ntmps107
 go_wp2
 exact⟨rfl,.tuple #[],by kernel_rfl,rfl,Below.refl _ _⟩
set_option maxRecDepth 100000 in
set_option maxHeartbeats 2000000 in
theorem UO (g:Nat) (w:World) (ln n m:Int) (h: ¬n<m) (h6:w.cell? ⟨g,6,none⟩=some (.int .i64 ln)):Calls Tryz.prog 107 #[.pointer (some ⟨g,0,none⟩),.int .i64 n,.int .i64 m] w fun ex w'=>ex=.panicked [{v:=.iface 76 (.agg #[.int .i64 ln,.int .i64 17]),recovered:=false}]∧Below w.heap.size w w':=by
 go_enter Tryz.func107,Tryz.ntmps107
 go_wp2
 exact⟨rfl,rfl,rfl,Below.refl _ _⟩
end Go.Proofs.YtplklcejbmfgdaaGreatDoor
namespace Nt.Ev.YtplklcejbmfgdaaGreatDoor.Rr
open Go Go.RowKit Nt Nt.Num Nt.Civil Nt.Fld Go.Proofs.YtplklcejbmfgdaaGreatDoor Nt.Ev Nt.Ev.YtplklcejbmfgdaaGreatDoor
variable [nP]
theorem Bv {E:Env} {B:Own} {G0:aP} {w0 w:World} {s:St} {g:Gh} {a:Act} (h:Inv E B G0 w0 s g a w) {k i:Nat} {cs:List V} {n:Int} (hl:ax s.bx k=some cs) (hi:cs[i]? =some (.int .i64 n)) {v:Value} (hv:aN g (.box k 0) v):
  ∃b,v=.pointer (some ⟨b,0,none⟩)∧w.cell? ⟨b,i,none⟩=some (.int .i64 n):=by
 obtain⟨b,hb,hv⟩:=dM.1 hv;obtain⟨b',c,e,hb',_,hh,hp,_⟩:=h.bxs.1 k cs hl;rw[hb] at hb';simp only[Option.some.injEq] at hb';subst hb';refine⟨b,hv,?_⟩;rw[Lib.cell_of_heap hh];have hlt:i<c.toList.length:=by rw[←hp.1];exact(List.getElem?_eq_some_iff.1 hi).1
 have:=hp.2 i (.int .i64 n) c.toList[i] hi (List.getElem?_eq_getElem hlt);simp only[aN,bH] at this;unfold aO at this;rw[←Array.getElem?_toList,List.getElem?_eq_getElem hlt,this]
theorem Cr {g:Gh} {n:Int} {v:Value} (h:aN g (.int .i64 n) v):v=.int .i64 n:=by
 simp only[aN,bH] at h;unfold aO at h;exact h
theorem rFaS_ok (c0 c1 c2 c3 c4 c5:V) (ln:Int) (c7:V) (e:Int) (hc:true=true): ∃p x,pu (.qb (ieq e 0) (.keep false (.tup [])) (.keep true (gU ln e)))=.keep p x∧KC eE 66 [.bxa 0 [c0,c1,c2,c3,c4,c5,.int .i64 ln,c7],.int .i64 e] p x:=by
 have hfr0:bI 0 [.bxa 0 [c0,c1,c2,c3,c4,c5,.int .i64 ln,c7],.int .i64 e]=[.box HL 0,.int .i64 e]:=rfl;have hbx0:ax (dH 0 [.bxa 0 [c0,c1,c2,c3,c4,c5,.int .i64 ln,c7],.int .i64 e]) HL=some [c0,c1,c2,c3,c4,c5,.int .i64 ln,c7]:=rfl;by_cases he:e=0
 ·subst he
  refine⟨false,.tup [],rfl,fun B g w vs hdf hi=>?_⟩;have hfr:=hi.fr;rw[hfr0] at hfr;obtain⟨u0,t0,e0,h0,hfr⟩:=hfr.cons_inv;obtain⟨u1,t1,e1,h1,hfr⟩:=hfr.cons_inv;obtain rfl:=hfr.bU;subst e1;have e0:vs=[u0,u1]:=e0;subst e0;obtain⟨b,hb,_⟩:=Bv hi hbx0 (i:=6) (n:=ln) rfl h0;rw[hb,Cr h1];refine(UL b w).mono ?_;rintro ex w' ⟨rfl,hB⟩;exact⟨_,rfl,⟨rfl,rfl⟩,hB⟩
 ·refine⟨true,gU ln e,by rw[show ieq e 0=false from by unfold ieq;simpa using he];rfl,fun B g w vs hdf hi=>?_⟩
  have hfr:=hi.fr;rw[hfr0] at hfr;obtain⟨u0,t0,e0,h0,hfr⟩:=hfr.cons_inv;obtain⟨u1,t1,e1,h1,hfr⟩:=hfr.cons_inv;obtain rfl:=hfr.bU;subst e1;have e0:vs=[u0,u1]:=e0;subst e0;obtain⟨b,hb,h6⟩:=Bv hi hbx0 (i:=6) (n:=ln) rfl h0;rw[hb,Cr h1];refine(UM b w ln e he h6).mono ?_;rintro ex w' ⟨rfl,hB⟩;exact⟨_,rfl,rfl,hB⟩
theorem rRoS_ok (c0 c1 c2 c3 c4 c5:V) (ln:Int) (c7:V) (n m:Int) (hc:true=true): ∃p x,pu (.qb (aU n m) (.keep false (.tup [])) (.keep true (gU ln 17)))=.keep p x∧KC eE 107 [.bxa 0 [c0,c1,c2,c3,c4,c5,.int .i64 ln,c7],.int .i64 n,.int .i64 m] p x:=by
 have hfr0:bI 0 [.bxa 0 [c0,c1,c2,c3,c4,c5,.int .i64 ln,c7],.int .i64 n,.int .i64 m]=[.box HL 0,.int .i64 n,.int .i64 m]:=rfl;have hbx0:ax (dH 0 [.bxa 0 [c0,c1,c2,c3,c4,c5,.int .i64 ln,c7],.int .i64 n,.int .i64 m]) HL=some [c0,c1,c2,c3,c4,c5,.int .i64 ln,c7]:=rfl;by_cases he:n<m
 ·refine⟨false,.tup [],by rw[bE he];rfl,fun B g w vs hdf hi=>?_⟩
  have hfr:=hi.fr;rw[hfr0] at hfr;obtain⟨u0,t0,e0,h0,hfr⟩:=hfr.cons_inv;obtain⟨u1,t1,e1,h1,hfr⟩:=hfr.cons_inv;obtain⟨u2,t2,e2,h2,hfr⟩:=hfr.cons_inv;obtain rfl:=hfr.bU;subst e2;subst e1;have e0:vs=[u0,u1,u2]:=e0;subst e0;obtain⟨b,hb,_⟩:=Bv hi hbx0 (i:=6) (n:=ln) rfl h0;rw[hb,Cr h1,Cr h2];refine(UN b w n m he).mono ?_;rintro ex w' ⟨rfl,hB⟩;exact⟨_,rfl,⟨rfl,rfl⟩,hB⟩
 ·refine⟨true,gU ln 17,by rw[bD (by omega)];rfl,fun B g w vs hdf hi=>?_⟩
  have hfr:=hi.fr;rw[hfr0] at hfr;obtain⟨u0,t0,e0,h0,hfr⟩:=hfr.cons_inv;obtain⟨u1,t1,e1,h1,hfr⟩:=hfr.cons_inv;obtain⟨u2,t2,e2,h2,hfr⟩:=hfr.cons_inv;obtain rfl:=hfr.bU;subst e2;subst e1;have e0:vs=[u0,u1,u2]:=e0;subst e0;obtain⟨b,hb,h6⟩:=Bv hi hbx0 (i:=6) (n:=ln) rfl h0;rw[hb,Cr h1,Cr h2];refine(UO b w ln n m he h6).mono ?_;rintro ex w' ⟨rfl,hB⟩;exact⟨_,rfl,rfl,hB⟩
set_option maxRecDepth 100000
open Nt.Ev.YtplklcejbmfgdaaGreatDoor.Lk
theorem eO {f:Nat} {args:List V} {r:V} (h:af oE f args r):af eE f args r:=af.env (E:=oE) rfl (fun n v h=>by cases h) h
theorem eH {f:Nat} {args:List V} {r:V} (h:af hE f args r):af eE f args r:=af.env (E:=hE) rfl (fun n v h=>by cases h) h
theorem rRuS_ok (xs:List V) (hc:gB xs=true):af eE 110 [.sl 9 [.str] none xs] (.tup [.agg [.str (R3 xs),.int .i64 (R4 xs),.int .i64 (R5 xs),.int .i64 (R6 xs),.int .i64 (R7 xs),.int .i64 (R8 xs),.int .i64 (R9 xs),.int .i64 (Sb xs),.int .i64 (Sc xs),.int .i64 (Sd xs),.str (za xs)],.int .i64 (Oy xs)]):=Ah (zRdS_ok xs hc)
theorem rLkS_ok (xs:List V) (hc:true=true):af eE 42 [.sl 9 [.str] none xs] (.tup [.agg [.str (lrT xs),.str (lrN xs)],.int .i64 (RP xs)]):=eO (kRead_ev xs)
theorem nmF_eq: ∀(s:List UInt8) (k:Nat),Nm.B6 k s=Nt.Ev.YtplklcejbmfgdaaGreatDoor.B6 k s
 |[],_=>rfl
 |c::t,k=>by
  show(Nm.LH k c&&Nm.B6 (k+1) t)=(Nt.Ev.YtplklcejbmfgdaaGreatDoor.LH k c&&Nt.Ev.YtplklcejbmfgdaaGreatDoor.B6 (k+1) t)
  rw[nmF_eq t (k+1)];rfl
theorem Dw (s:List UInt8):Nm.dZ s=Nt.Ev.YtplklcejbmfgdaaGreatDoor.dZ s:=by
 unfold Nm.dZ Nt.Ev.YtplklcejbmfgdaaGreatDoor.dZ;rw[nmF_eq]
theorem rNmS_ok (s:List UInt8) (hc:true=true):af eE 16 [.str s] (.int .i64 (dZ s)):=by rw[←Dw];exact eO (WJ s rfl)
theorem rMtS_ok (s:List UInt8) (e:Nat) (o:Option Nat) (ws:List V) (hc:ai (ak (au s) 1000) (wsR ws)=true):af eE 89 [.str s,.sl e [.str] o ws] (.tup [.int .i64 (mh s ws),.int .i64 (oM s ws)]):=Ah (toZm (IB s e o ws hc))
theorem rOfS_ok (s:List UInt8) (hc:ak (au s) 4000000=true):af eE 87 [.str s] (.tup [.sl 9 [.str] none (cK s),.int .i64 (LP s)]):=eH (hOfS_ok s hc)
theorem rCkS_ok (s:List UInt8) (hc:ak (au s) 4000000=true):af eE 86 [.str s] (.int .i64 (Af s)):=eO (xCkS_ok s hc)
theorem rLnS_ok (s:List UInt8) (hc:ak (au s) 4000000=true):af eE 10 [.str s] (.sl 9 [.str] none (ko s)):=eO (WG s hc)
theorem Gy:bn eE rS0:=by
 unfold rS0;refine bn.consK (fun args r h=>?_) (bn.consK (fun args r h=>?_) (bn.cons (fun args r h=>?_) (bn.cons (fun args r h=>?_) (bn.cons (fun args r h=>?_) (bn.cons (fun args r h=>?_) (bn.cons (fun args r h=>?_) (bn.cons (fun args r h=>?_) (bn.cons (fun args r h=>?_) (bn.cons (fun args r h=>?_) bn.nil)))))))));all_goals (revert h;intro h;first|unfold rFaS at h|unfold rRoS at h|unfold rRuS at h|unfold eRdS at h|unfold rLkS at h|unfold rNmS at h|unfold rMtS at h|unfold rOfS at h|unfold rCkS at h|unfold rLnS at h)
 all_goals (split at h;rotate_left; · cases h)
 all_goals (simp only[Option.some.injEq,Prod.mk.injEq] at h;obtain⟨hc,rfl⟩:=h)
 ·exact rFaS_ok _ _ _ _ _ _ _ _ _ rfl
 ·exact rRoS_ok _ _ _ _ _ _ _ _ _ _ rfl
 ·exact rRuS_ok _ hc
 ·exact eRdS_ok _ hc
 ·exact rLkS_ok _ rfl
 ·exact rNmS_ok _ rfl
 ·exact rMtS_ok _ _ _ _ hc
 ·exact rOfS_ok _ hc
 ·exact rCkS_ok _ hc
 ·exact rLnS_ok _ hc
theorem Fw {L e:Nat} {k:List Kd} {v:V} (h:XE L e k v=true):v=.sl e k (some L) (xL v):=by
 unfold XE at h;split at h
 ·rw[Bool.and_eq_true,Bool.and_eq_true] at h
  obtain⟨⟨h1,h2⟩,h3⟩:=h;rw[beq_iff_eq] at h1 h2;rw[h1,h2,Kd.bK _ _ h3];rfl
 ·cases h
theorem WM {L e:Nat} {k:List Kd} {L2 c e2:Nat} {k2:List Kd} {v:V} (h:labZ L e k L2 c e2 k2 v=true):v=.slz L e k (xL v) (some L2) (xI v) c e2 k2 (xY v):=by
 unfold labZ at h;split at h
 ·simp only[Bool.and_eq_true,beq_iff_eq] at h
  obtain⟨⟨⟨h1,h2⟩,h3,h4⟩,⟨h5,h6⟩,h7⟩:=h;rw[h1,h2,h4,h5,h6,Kd.bK _ _ h3,Kd.bK _ _ h7];rfl
 ·cases h
theorem Gz {c0 c1 c2 c3 c4 c5:V} (h:Z8 c0 c1 c2 c3 c4 c5=true) (r:List V):c0::c1::c2::c3::c4::c5::r=V.sl 47 kR (some 1000001001) (xL c0)::V.slz 1000001002 54 kZ (xL c1) (some 1000001502) (xI c1) 1 59 kE (xY c1)::V.sl 50 kL (some 1000001003) (xL c2)::V.sl 3 kI (some 1000001004) (xL c3)::V.slz 1000001005 31 kW (xL c4) (some 1000001505) (xI c4) 0 3 kI (xY c4)::V.sl 3 kI (some 1000001006) (xL c5)::r:=by
 unfold Z8 at h;simp only[Bool.and_eq_true] at h;obtain⟨⟨h0,h1⟩,⟨h2,h3⟩,h4,h5⟩:=h;rw[←Fw h0,←WM h1,←Fw h2,←Fw h3,←WM h4,←Fw h5]
theorem lU {a b:Bool} (h:(bif a then b else false)=true):a=true∧b=true:=by
 cases a with
 |true=>exact⟨rfl,h⟩
 |false=>cases h
theorem Kh {S:List (Nat×aG)} (hS:bn eE S) (F d:Nat) {f:Nat} {args:List V} {c p q:Bool} {x y:V} {bs cs:List (List V)} (h:bW eE (bT eE S F d) F f args some=some (sel c (.out p x bs) (.out q y cs))):su eE f args (.qb c (.out p x bs) (.out q y cs)):=by
 refine su.qb (fun hb=>su.out (mR iX hS F d ?_)) (fun hb=>su.out (mR iX hS F d ?_))
 ·rw[h,hb];rfl
 ·rw[h,hb];rfl
theorem iE {α:Type} (a b:α):sel true a b=a:=rfl
theorem iC {α:Type} (a b:α):sel false a b=b:=rfl
theorem Ki {e n m:Int} (h:e=0) (h2:n<m):lN e n m=0:=by unfold lN;simp[h,h2]
theorem Mx {e n m:Int} (h:e=0) (h2: ¬n<m):lN e n m=17:=by unfold lN;simp[h,h2]
theorem Vv {e n m:Int} (h:e≠0):lN e n m=e:=by unfold lN;rw[if_pos h]
theorem app1 {xs:List V} {y:V} (h:xs.length≤16000000):cO xs [y]=true:=by rw[iM,List.length_singleton];omega
theorem appL {xs:List V} {y:V} {n:Int} (h:av xs<n) (hn:n≤16000000):cO xs [y]=true:=app1 (by rw[aA] at h;omega)
theorem WN {xs:List V} (h:U2 xs=true):xs.length≤16000000:=by unfold U2 at h;simpa using h
theorem rule_p (rs zs ks wr we wl:List V) (ln op iz ie:Int) (yz ye xs:List V) (h1:gB xs=true) (h2:U2 wr=true):bW eE (bT eE rS0 5 3) 5 90 [.bxa 0 (oN rs zs ks wr we wl iz yz ie ye ln op),.sl 9 [.str] none xs] some=
  some (sel (ieq (Ap rs xs) 0) (.out false (.tup []) [oN (aM rs [On xs]) zs ks (aM wr [.int .i64 ln]) we wl iz yz ie ye ln op]) (.out true (gU ln (Ap rs xs)) [oN rs zs ks wr we wl iz yz ie ye ln op])):=by
 (rw[ZC];(conv=>zeta))
 unfold Ap;by_cases a:Oy xs=0
 ·by_cases b:av rs<4096
  ·simp only[h1,bq a,bE b,appL b (by decide),app1 (WN h2),iE,Ki a b]
   rfl
  ·simp only[h1,bq a,bD (Int.not_lt.1 b),iE,iC,Mx a b]
   rfl
 ·simp only[h1,bQ a,iE,iC,Vv a]
theorem ZH (c0 c1 c2 c3 c4 c5:V) (ln op:Int) (xs:List V) (hc:(bif Z8 c0 c1 c2 c3 c4 c5 then ai (gB xs) (U2 (xL c3)) else false)=true):su eE 90 [.bxa 0 [c0,c1,c2,c3,c4,c5,.int .i64 ln,.int .i64 op],.sl 9 [.str] none xs] (.qb (ieq (Ap (xL c0) xs) 0) (.out false (.tup []) [oN (aM (xL c0) [On xs]) (xL c1) (xL c2) (aM (xL c3) [.int .i64 ln]) (xL c4) (xL c5) (xI c1) (xY c1) (xI c4) (xY c4) ln op]) (.out true (gU ln (Ap (xL c0) xs)) [oN (xL c0) (xL c1) (xL c2) (xL c3) (xL c4) (xL c5) (xI c1) (xY c1) (xI c4) (xY c4) ln op])):=by
 obtain⟨h,hc⟩:=lU hc;obtain⟨h1,h2⟩:=aR hc;rw[Gz h];exact Kh Gy 5 3 (rule_p _ _ _ _ _ _ _ _ _ _ _ _ _ h1 h2)
theorem link_p (rs zs ks wr we wl:List V) (ln op iz ie:Int) (yz ye xs:List V) (hc:U2 wl=true):bW eE (bT eE rS0 5 3) 5 92 [.bxa 0 (oN rs zs ks wr we wl iz yz ie ye ln op),.sl 9 [.str] none xs] some=
  some (sel (ieq (Aq ks xs) 0) (.out false (.tup []) [oN rs zs (aM ks [RQ xs]) wr we (aM wl [.int .i64 ln]) iz yz ie ye ln op]) (.out true (gU ln (Aq ks xs)) [oN rs zs ks wr we wl iz yz ie ye ln op])):=by
 (rw[ZD];(conv=>zeta))
 unfold Aq;by_cases a:RP xs=0
 ·by_cases b:av ks<1024
  ·simp only[bq a,bE b,appL b (by decide),app1 (WN hc),iE,Ki a b]
   rfl
  ·simp only[bq a,bD (Int.not_lt.1 b),iE,iC,Mx a b]
   rfl
 ·simp only[bQ a,iE,iC,Vv a]
theorem ZI (c0 c1 c2 c3 c4 c5:V) (ln op:Int) (xs:List V) (hc:(bif Z8 c0 c1 c2 c3 c4 c5 then U2 (xL c5) else false)=true):su eE 92 [.bxa 0 [c0,c1,c2,c3,c4,c5,.int .i64 ln,.int .i64 op],.sl 9 [.str] none xs] (.qb (ieq (Aq (xL c2) xs) 0) (.out false (.tup []) [oN (xL c0) (xL c1) (aM (xL c2) [RQ xs]) (xL c3) (xL c4) (aM (xL c5) [.int .i64 ln]) (xI c1) (xY c1) (xI c4) (xY c4) ln op]) (.out true (gU ln (Aq (xL c2) xs)) [oN (xL c0) (xL c1) (xL c2) (xL c3) (xL c4) (xL c5) (xI c1) (xY c1) (xI c4) (xY c4) ln op])):=by
 obtain⟨h,hc⟩:=lU hc;rw[Gz h];exact Kh Gy 5 3 (link_p _ _ _ _ _ _ _ _ _ _ _ _ _ hc)
theorem iw:aK true=false:=rfl
theorem iT:aK false=true:=rfl
theorem era_p (rs zs ks wr we wl:List V) (ln op iz ie:Int) (yz ye xs:List V) (hc:erC zs iz yz we ie ye xs=true):bW eE (bT eE rS0 5 3) 5 88 [.bxa 0 (oN rs zs ks wr we wl iz yz ie ye ln op),.sl 9 [.str] none xs] some=
  some (sel (ieq (zf yz xs) 0) (.out false (.tup []) [oN rs (oq zs yz xs) ks wr (q8 we ye ln) wl iz (aM yz [qK xs]) ie (aM ye [.int .i64 ln]) ln (jw xs ln)]) (.out true (gU ln (zf yz xs)) [oN rs zs ks wr we wl iz yz ie ye ln op])):=by
 (rw[ZE];(conv=>zeta))
 unfold erC at hc;rw[decide_eq_true_eq] at hc;obtain⟨h1,⟨z0,z1⟩,hiz,y1,⟨w0,w1⟩,hie,e1⟩:=hc;have kz:jN .i64 (av zs) 1=iz:=by rw[vg (by rw[aA];omega),aA,hiz]
 have kw:jN .i64 (av we) 1=ie:=by rw[vg (by rw[aA];omega),aA,hie]
 have lz:av zs-1=iz:=by rw[aA,hiz]
 have lw:av we-1=ie:=by rw[aA,hie]
 have bz:ai (ak 0 iz) (aU iz (av zs))=true:=by rw[aJ,ay,bf,aA];omega
 have bw:ai (ak 0 ie) (aU ie (av we))=true:=by rw[aJ,ay,bf,aA];omega
 have iz1:ieq iz iz=true:=bq rfl;have ie1:ieq ie ie=true:=bq rfl;unfold zf;by_cases a:kT xs=0
 ·by_cases b:av yz<256
  ·unfold oq q8
   rcases Bool.eq_false_or_eq_true (ED xs) with hb|hb
   ·have hs: ∀A B:Option V,sel (ED xs) A B=A:=fun A B=>by rw[hb];rfl
    have ho:jw xs ln=ln:=by unfold jw;rw[hb];rfl
    simp only[kz,kw,lz,lw,bz,bw,iz1,ie1,h1,bq a,bE b,app1 y1,app1 e1,iw,iT,iE,iC,Ki a b,hs,ho];rfl
   ·have hs: ∀A B:Option V,sel (ED xs) A B=B:=fun A B=>by rw[hb];rfl
    have ho:jw xs ln=0:=by unfold jw;rw[hb];rfl
    simp only[kz,kw,lz,lw,bz,bw,iz1,ie1,h1,bq a,bE b,app1 y1,app1 e1,iw,iT,iE,iC,Ki a b,hs,ho];rfl
  ·simp only[kz,kw,bz,bw,iz1,h1,bq a,bD (Int.not_lt.1 b),iE,iC,Mx a b]
   rfl
 ·simp only[kz,kw,bz,bw,iz1,h1,bQ a,iE,iC,iT,Vv a]
theorem rEraS_ok (c0 c1 c2 c3 c4 c5:V) (ln op:Int) (xs:List V) (hc:(bif Z8 c0 c1 c2 c3 c4 c5 then erC (xL c1) (xI c1) (xY c1) (xL c4) (xI c4) (xY c4) xs else false)=true):su eE 88 [.bxa 0 [c0,c1,c2,c3,c4,c5,.int .i64 ln,.int .i64 op],.sl 9 [.str] none xs] (.qb (ieq (zf (xY c1) xs) 0) (.out false (.tup []) [oN (xL c0) (oq (xL c1) (xY c1) xs) (xL c2) (xL c3) (q8 (xL c4) (xY c4) ln) (xL c5) (xI c1) (aM (xY c1) [qK xs]) (xI c4) (aM (xY c4) [.int .i64 ln]) ln (jw xs ln)]) (.out true (gU ln (zf (xY c1) xs)) [oN (xL c0) (xL c1) (xL c2) (xL c3) (xL c4) (xL c5) (xI c1) (xY c1) (xI c4) (xY c4) ln op])):=by
 obtain⟨h,hc⟩:=lU hc;rw[Gz h];exact Kh Gy 5 3 (era_p _ _ _ _ _ _ _ _ _ _ _ _ _ hc)
theorem rS1_ok:bn eE rS1:=by
 unfold rS1;refine bn.qB (fun args r h=>?_) Gy;all_goals (revert h;intro h;first|unfold rEraS at h)
 all_goals (split at h;rotate_left; · cases h)
 all_goals (simp only[Option.some.injEq,Prod.mk.injEq] at h;obtain⟨hc,rfl⟩:=h)
 ·exact rEraS_ok _ _ _ _ _ _ _ _ _ hc
theorem Hy {xs:List V} (h:gB xs=true) (a b:Int):gB (dX xs a b)=true:=by
 unfold gB at h⊢;rw[List.all_eq_true] at h⊢;exact fun x hx=>h x (List.mem_of_mem_drop (List.mem_of_mem_take hx))
theorem zn_zs (zs xs:List V):oq (aM zs [V.agg [V.str (aH (ah (aX xs 0) 0)),V.nilsl]]) [] (dX xs 1 (av xs))=sJ zs xs:=by
 unfold oq sJ;have e:av (aM zs [V.agg [V.str (aH (ah (aX xs 0) 0)),V.nilsl]])-1=(zs.length:Int):=by rw[aA];unfold aM;simp
 rw[e];generalize aH (ah (aX xs 0) 0)=n;have e2:(zs++[V.agg [V.str n,V.nilsl]]).getD zs.length V.any=V.agg [V.str n,V.nilsl]:=by simp
 unfold om aX aM;rw[Int.toNat_natCast,List.set_append_right _ _ (Nat.le_refl _),Nat.sub_self,e2];rfl
theorem zn_we (we:List V) (ln:Int):q8 (aM we [V.nilsl]) [] ln=Ar we ln:=by
 unfold q8 Ar;have e:av (aM we [V.nilsl])-1=(we.length:Int):=by rw[aA];unfold aM;simp
 rw[e];unfold om aM;rw[Int.toNat_natCast,List.set_append_right _ _ (Nat.le_refl _),Nat.sub_self];rfl
theorem zone_p (rs zs ks wr we wl:List V) (ln op iz ie:Int) (yz ye xs:List V) (hc:znC zs we xs=true):bW eE (bT eE rS1 5 3) 5 91 [.bxa 0 (oN rs zs ks wr we wl iz yz ie ye ln op),.sl 9 [.str] none xs] some=
  some (sel (ieq (uH zs xs) 0) (.out false (.tup []) [oN rs (sJ zs xs) ks wr (Ar we ln) wl (av zs) [qK (dX xs 1 (av xs))] (av we) [.int .i64 ln] ln (jw (dX xs 1 (av xs)) ln)]) (.out true (gU ln (uH zs xs)) [oN rs zs ks wr we wl iz yz ie ye ln op])):=by
 (rw[ZF];(conv=>zeta))
 unfold znC at hc;rw[decide_eq_true_eq] at hc;obtain⟨h1,z1,w1⟩:=hc;unfold uH;by_cases n0:av xs=0
 ·simp only[bq n0,iE,if_pos n0]
  rfl
 have n1:1≤av xs:=by rw[aA] at n0⊢;omega
 have i0:ai (ak 0 0) (aU 0 (av xs))=true:=by rw[aJ,ay,bf];omega
 have i1:ai (ak 0 1) (ak 1 (av xs))=true:=by rw[aJ,ay,ay];omega
 have ht:gB (dX xs 1 (av xs))=true:=Hy h1 _ _;by_cases nm:dZ (aH (ah (aX xs 0) 0))=0
 ·have nmN: ∀A B:Int,(if dZ (aH (ah (aX xs 0) 0))≠0 then A else B)=B:=fun A B=>if_neg (fun h=>h nm)
  by_cases a:kT (dX xs 1 (av xs))=0
  ·by_cases b:av zs<1024
   ·have hE:erC (aM zs [V.agg [V.str (aH (ah (aX xs 0) 0)),V.nilsl]]) (av zs) [] (aM we [V.nilsl]) (av we) [] (dX xs 1 (av xs))=true:=by
     unfold erC;rw[decide_eq_true_eq];simp only[aM,List.length_append,List.length_singleton,List.length_nil,aA];refine⟨ht,⟨by omega,by omega⟩,by omega,by omega,⟨by omega,by omega⟩,by omega,by omega⟩
    have e0:zf [] (dX xs 1 (av xs))=0:=Ki a (by rw[aA];decide);simp only[bQ n0,i0,i1,ht,bq nm,bq a,bE b,app1 (y:=(V.agg [V.str (aH (ah (aX xs 0) 0)),V.nilsl])) (show zs.length≤16000000 by omega),app1 (y:=V.nilsl) (show we.length≤16000000 by omega),hE,e0,iw,iT,iE,iC,if_neg n0,nmN,Ki a b,zn_zs,zn_we];rfl
   ·simp only[bQ n0,i0,i1,ht,bq nm,bq a,bD (Int.not_lt.1 b),iw,iT,iE,iC,if_neg n0,nmN,Mx a b]
    rfl
  ·simp only[bQ n0,i0,i1,ht,bq nm,bQ a,iw,iT,iE,iC,if_neg n0,nmN,Vv a]
 ·simp only[bQ n0,i0,bQ nm,iT,iE,iC,if_neg n0,if_pos (show dZ (aH (ah (aX xs 0) 0))≠0 from nm)]
theorem ZJ (c0 c1 c2 c3 c4 c5:V) (ln op:Int) (xs:List V) (hc:(bif Z8 c0 c1 c2 c3 c4 c5 then znC (xL c1) (xL c4) xs else false)=true):su eE 91 [.bxa 0 [c0,c1,c2,c3,c4,c5,.int .i64 ln,.int .i64 op],.sl 9 [.str] none xs] (.qb (ieq (uH (xL c1) xs) 0) (.out false (.tup []) [oN (xL c0) (sJ (xL c1) xs) (xL c2) (xL c3) (Ar (xL c4) ln) (xL c5) (av (xL c1)) [qK (dX xs 1 (av xs))] (av (xL c4)) [.int .i64 ln] ln (jw (dX xs 1 (av xs)) ln)]) (.out true (gU ln (uH (xL c1) xs)) [oN (xL c0) (xL c1) (xL c2) (xL c3) (xL c4) (xL c5) (xI c1) (xY c1) (xI c4) (xY c4) ln op])):=by
 obtain⟨h,hc⟩:=lU hc;rw[Gz h];exact Kh rS1_ok 5 3 (zone_p _ _ _ _ _ _ _ _ _ _ _ _ _ hc)
theorem rS2_ok:bn eE rS2:=by
 unfold rS2;refine bn.qB (fun args r h=>?_) (bn.qB (fun args r h=>?_) (bn.qB (fun args r h=>?_) rS1_ok));all_goals (revert h;intro h;first|unfold rRuleS at h|unfold rLinkS at h|unfold rZoneS at h)
 all_goals (split at h;rotate_left; · cases h)
 all_goals (simp only[Option.some.injEq,Prod.mk.injEq] at h;obtain⟨hc,rfl⟩:=h)
 ·exact ZH _ _ _ _ _ _ _ _ _ hc
 ·exact ZI _ _ _ _ _ _ _ _ _ hc
 ·exact ZJ _ _ _ _ _ _ _ _ _ hc
end Nt.Ev.YtplklcejbmfgdaaGreatDoor.Rr
