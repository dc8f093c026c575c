/-
  The reader of sources: its cells, what each step makes of them.
-/
import Derived.Test.YtjcencojgajgdaaGreatDoorMN
import Derived.Test.YtjcencojgajgdaaGreatDoorMO
import Derived.Test.YtjcencojgajgdaaGreatDoorMQ
import Derived.Test.YtjcencojgajgdaaGreatDoorMR
set_option linter.all false
set_option maxRecDepth 100000
namespace Nt.Ev.YtjcencojgajgdaaGreatDoor.Rr
open Go Nt.Num Nt.Civil Nt.Fld Go.Proofs.YtjcencojgajgdaaGreatDoor Nt.Ev.YtjcencojgajgdaaGreatDoor Nt.Ev.YtjcencojgajgdaaGreatDoor.Lk
variable [kH]
abbrev kE:List Kd:=[Kd.int .i64,Kd.int .i64,Kd.int .i64,Kd.str,Kd.str,Kd.bool,Kd.int .i64,Kd.int .i64,Kd.int .i64,Kd.int .i64,Kd.int .i64,Kd.int .i64,Kd.int .i64]
abbrev kR:List Kd:=[Kd.str,Kd.int .i64,Kd.int .i64,Kd.int .i64,Kd.int .i64,Kd.int .i64,Kd.int .i64,Kd.int .i64,Kd.int .i64,Kd.int .i64,Kd.str]
abbrev kL:List Kd:=[Kd.str,Kd.str]
abbrev kZ:List Kd:=[Kd.str,Kd.sl 51 kE]
abbrev kI:List Kd:=[Kd.int .i64]
abbrev kW:List Kd:=[Kd.sl 3 kI]
def xL:V→ah
 | .sl _ _ _ xs=>xs
 | .slz _ _ _ xs _ _ _ _ _ _=>xs
 |_=>[]
def xI:V→Int
 | .slz _ _ _ _ _ i _ _ _ _=>i
 |_=>0
def xY:V→ah
 | .slz _ _ _ _ _ _ _ _ _ ys=>ys
 |_=>[]
def ZX (L e:Nat) (k:List Kd):V→Bool
 | .sl a b (some L') _=>(L==L'&&e==a)&&Kd.tq k b
 |_=>false
def labZ (L e:Nat) (k:List Kd) (L2 c i:Nat) (f:List Kd):V→Bool
 | .slz L' g h _ (some L2') _ d a b _=>((L==L'&&e==g)&&(Kd.tq k h&&L2==L2'))&&((c==d&&i==a)&&Kd.tq f b)
 |_=>false
def isN:V→Bool
 | .nilsl=>true
 |_=>false
def okL (c0 d a e c b:V):Bool:=(ZX 1000001001 53 kR c0&&labZ 1000001002 57 kZ 1000001502 1 51 kE d)&&((ZX 1000001003 59 kL a&&ZX 1000001004 3 kI e)&&(labZ 1000001005 32 kW 1000001505 0 3 kI c&&ZX 1000001006 3 kI b))
def okN (c0 d a e c b:V):Bool:=(isN c0&&isN d)&&((isN a&&isN e)&&(isN c&&isN b))
def okB (c0 d a e c b:V):Bool:=okL c0 d a e c b||okN c0 d a e c b
abbrev oV (rs zs ks wr we wl:ah) (iz:Int) (yz:ah) (ie:Int) (ye:ah) (a op:Int):ah:=[V.sl 53 kR (some 1000001001) rs,V.slz 1000001002 57 kZ zs (some 1000001502) iz 1 51 kE yz,V.sl 59 kL (some 1000001003) ks,V.sl 3 kI (some 1000001004) wr,V.slz 1000001005 32 kW we (some 1000001505) ie 0 3 kI ye,V.sl 3 kI (some 1000001006) wl,V.int .i64 a,V.int .i64 op]
abbrev bxn (rs zs ks wr we wl:ah) (iz:Int) (yz:ah) (ie:Int) (ye:ah) (a op:Int):ah:=[V.sl 53 kR (some 1001) rs,V.slz 1002 57 kZ zs (some 1502) iz 1 51 kE yz,V.sl 59 kL (some 1003) ks,V.sl 3 kI (some 1004) wr,V.slz 1005 32 kW we (some 1505) ie 0 3 kI ye,V.sl 3 kI (some 1006) wl,V.int .i64 a,V.int .i64 op]
abbrev gU (a e:Int):V:=.iface 75 (.agg [.int .i64 a,.int .i64 e])
abbrev tbV (a b c d e f:ah) (l w:Int):V:=.tup [.agg [.sl 53 kR none a,.sl 57 kZ none b,.sl 59 kL none c],.agg [.sl 3 kI none d,.sl 32 kW none e,.sl 3 kI none f],.agg [.int .i64 l,.int .i64 w]]
abbrev nlV (l w:Int):V:=.tup [.agg [.nilsl,.nilsl,.nilsl],.agg [.nilsl,.nilsl,.nilsl],.agg [.int .i64 l,.int .i64 w]]
noncomputable def Qn (xs:ah):V:=.agg [.str (Uq xs),.int .i64 (Ur xs),.int .i64 (Us xs),.int .i64 (Ut xs),.int .i64 (Uu xs),.int .i64 (Uv xs),.int .i64 (Uw xs),.int .i64 (Ux xs),.int .i64 (Uy xs),.int .i64 (Uz xs),.str (zh xs)]
noncomputable def UD (xs:ah):V:=.agg [.str (lrT xs),.str (lrN xs)]
noncomputable def qz (xs:ah):V:=.agg [.int .i64 (T7 xs),.int .i64 (Xb xs),.int .i64 (T8 xs),.str (UA xs),.str (UB xs),.bool (FF xs),.int .i64 (T9 xs),.int .i64 (Ua xs),.int .i64 (Xc xs),.int .i64 (Xd xs),.int .i64 (Ay xs),.int .i64 (Az xs),.int .i64 (AA xs)]
def Xe (xs:ah):Bool:=decide (xs.length≤16000000)
def lT (e n m:Int):Int:=if e≠0 then e else if n<m then 0 else 17
noncomputable def AF (rs xs:ah):Int:=lT (Qz xs) (ay rs) 4096
noncomputable def AJ (ks xs:ah):Int:=lT (Ub xs) (ay ks) 1024
noncomputable def zl (yz xs:ah):Int:=lT (kT xs) (ay yz) 256
noncomputable def erC (zs:ah) (iz:Int) (yz we:ah) (ie:Int) (ye xs:ah):Bool:=decide (gL xs=true∧(0<zs.length∧zs.length≤16000000)∧iz=(zs.length:Int)-1∧yz.length≤16000000∧(0<we.length∧we.length≤16000000)∧ie=(we.length:Int)-1∧ye.length≤16000000)
noncomputable def oF (zs yz xs:ah):ah:=oC zs (ay zs-1) (aset (aG zs (ay zs-1)) 1 (.sl 51 kE none (aX yz [qz xs])))
def rD (we ye:ah) (a:Int):ah:=oC we (ay we-1) (.sl 3 kI none (aX ye [.int .i64 a]))
noncomputable def jN (xs:ah) (a:Int):Int:=if FF xs=true then a else 0
noncomputable def znC (zs we xs:ah):Bool:=decide (gL xs=true∧zs.length≤15000000∧we.length≤15000000)
abbrev tl1 (xs:ah):ah:=fA xs 1 (ay xs)
noncomputable def vw (zs xs:ah):Int:=if ay xs=0 then 5 else if dK (aF (ai (aG xs 0) 0))≠0 then dK (aF (ai (aG xs 0) 0)) else lT (kT (tl1 xs)) (ay zs) 1024
noncomputable def tJ (zs xs:ah):ah:=aX zs [.agg [.str (aF (ai (aG xs 0) 0)),.sl 51 kE none [qz (tl1 xs)]]]
def AL (we:ah) (a:Int):ah:=aX we [.sl 3 kI none [.int .i64 a]]
abbrev FH:ah:=[.str [82,117,108,101],.str [90,111,110,101],.str [76,105,110,107]]
def wsR (a:ah):Bool:=uU a
noncomputable def gz (op:Int) (s:af):Nat:=if ay (dm s)=0 then 4 else if 0<op then 3 else(mo (aF (ai (aG (dm s) 0) 0)) FH).toNat
noncomputable def kJ (rs zs ks yz:ah) (op:Int) (s:af):Int:=if Al s≠0 then Al s else if Ns s≠0 then Ns s else if ay (dm s)=0 then 0 else if 0<op then zl yz (dm s) else
 if oU (aF (ai (aG (dm s) 0) 0)) FH≠0 then oU (aF (ai (aG (dm s) 0) 0)) FH else if mo (aF (ai (aG (dm s) 0) 0)) FH=0 then AF rs (tl1 (dm s)) else if mo (aF (ai (aG (dm s) 0) 0)) FH=1 then vw zs (tl1 (dm s)) else AJ ks (tl1 (dm s))
noncomputable def KA (rs zs:ah) (iz:Int) (yz wr we:ah) (ie:Int) (ye wl:ah) (op:Int) (s:af):Bool:=decide (s.length≤4000000∧zs.length≤15000000∧we.length≤15000000∧yz.length≤16000000∧ye.length≤16000000∧wr.length≤16000000∧wl.length≤16000000∧(0<op→0<zs.length∧iz=(zs.length:Int)-1∧0<we.length∧ie=(we.length:Int)-1))
noncomputable def qT (rs:ah) (op:Int) (s:af):ah:=if gz op s=0 then aX rs [Qn (tl1 (dm s))] else rs
noncomputable def qU (zs yz:ah) (op:Int) (s:af):ah:=if gz op s=3 then oF zs yz (dm s) else if gz op s=1 then tJ zs (tl1 (dm s)) else zs
noncomputable def qV (ks:ah) (op:Int) (s:af):ah:=if gz op s=2 then aX ks [UD (tl1 (dm s))] else ks
noncomputable def uW (wr:ah) (a op:Int) (s:af):ah:=if gz op s=0 then aX wr [.int .i64 a] else wr
noncomputable def uX (we ye:ah) (a op:Int) (s:af):ah:=if gz op s=3 then rD we ye a else if gz op s=1 then AL we a else we
noncomputable def uY (wl:ah) (a op:Int) (s:af):ah:=if gz op s=2 then aX wl [.int .i64 a] else wl
noncomputable def uZ (iz:Int) (zs:ah) (op:Int) (s:af):Int:=if gz op s=1 then ay zs else iz
noncomputable def qW (yz:ah) (op:Int) (s:af):ah:=if gz op s=3 then aX yz [qz (dm s)] else if gz op s=1 then[qz (tl1 (tl1 (dm s)))] else yz
noncomputable def u6 (ie:Int) (we:ah) (op:Int) (s:af):Int:=if gz op s=1 then ay we else ie
noncomputable def u7 (ye:ah) (a op:Int) (s:af):ah:=if gz op s=3 then aX ye [.int .i64 a] else if gz op s=1 then[.int .i64 a] else ye
noncomputable def qX (op a:Int) (s:af):Int:=if gz op s=3 then jN (dm s) a else if gz op s=1 then jN (tl1 (tl1 (dm s))) a else op
noncomputable def rRuS:aD:=fun a=>match a with|[.sl 9 [.str] none xs]=>some (gL xs,.tup [.agg [.str (Uq xs),.int .i64 (Ur xs),.int .i64 (Us xs),.int .i64 (Ut xs),.int .i64 (Uu xs),.int .i64 (Uv xs),.int .i64 (Uw xs),.int .i64 (Ux xs),.int .i64 (Uy xs),.int .i64 (Uz xs),.str (zh xs)],.int .i64 (Qz xs)])|_=>none
noncomputable def rLkS:aD:=fun a=>match a with|[.sl 9 [.str] none xs]=>some (true,.tup [.agg [.str (lrT xs),.str (lrN xs)],.int .i64 (Ub xs)])|_=>none
noncomputable def rNmS:aD:=fun a=>match a with|[.str s]=>some (true,.int .i64 (dK s))|_=>none
noncomputable def rMtS:aD:=fun a=>match a with|[.str s,.sl e [.str] o ws]=>some (ak (ax (aB s) 1000) (wsR ws),.tup [.int .i64 (mo s ws),.int .i64 (oU s ws)])|_=>none
noncomputable def rOfS:aD:=fun a=>match a with|[.str s]=>some (ax (aB s) 4000000,.tup [.sl 9 [.str] none (dm s),.int .i64 (Ns s)])|_=>none
noncomputable def rCkS:aD:=fun a=>match a with|[.str s]=>some (ax (aB s) 4000000,.int .i64 (Al s))|_=>none
noncomputable def rLnS:aD:=fun a=>match a with|[.str s]=>some (ax (aB s) 4000000,.sl 9 [.str] none (kC s))|_=>none
noncomputable def rFaS:aD:=fun a=>match a with|[.bxa 0 [c0,c1,c2,c3,c4,c5,.int .i64 ln,c7],.int .i64 e]=>some (true,.oq (ieq e 0) (.keep false (.tup [])) (.keep true (gU ln e)))|_=>none
noncomputable def rRoS:aD:=fun a=>match a with|[.bxa 0 [c0,c1,c2,c3,c4,c5,.int .i64 ln,c7],.int .i64 n,.int .i64 m]=>some (true,.oq (aR n m) (.keep false (.tup [])) (.keep true (gU ln 17)))|_=>none
noncomputable def rS0:List (Nat×aD):=(KX+45,rFaS)::(KX+95,rRoS)::(98,rRuS)::(94,eRdS)::(64,rLkS)::(42,rNmS)::(70,rMtS)::(68,rOfS)::(67,rCkS)::(46,rLnS)::[]
noncomputable def rRuleS:aD:=fun a=>match a with|[.bxa 0 [c0,c1,c2,c3,c4,c5,.int .i64 ln,.int .i64 op],.sl 9 [.str] none xs]=>some (bif okL c0 c1 c2 c3 c4 c5 then ak (gL xs) (Xe (xL c3)) else false,.oq (ieq (AF (xL c0) xs) 0) (.out false (.tup []) [oV (aX (xL c0) [Qn xs]) (xL c1) (xL c2) (aX (xL c3) [.int .i64 ln]) (xL c4) (xL c5) (xI c1) (xY c1) (xI c4) (xY c4) ln op]) (.out true (gU ln (AF (xL c0) xs)) [oV (xL c0) (xL c1) (xL c2) (xL c3) (xL c4) (xL c5) (xI c1) (xY c1) (xI c4) (xY c4) ln op]))|_=>none
noncomputable def rLinkS:aD:=fun a=>match a with|[.bxa 0 [c0,c1,c2,c3,c4,c5,.int .i64 ln,.int .i64 op],.sl 9 [.str] none xs]=>some (bif okL c0 c1 c2 c3 c4 c5 then Xe (xL c5) else false,.oq (ieq (AJ (xL c2) xs) 0) (.out false (.tup []) [oV (xL c0) (xL c1) (aX (xL c2) [UD xs]) (xL c3) (xL c4) (aX (xL c5) [.int .i64 ln]) (xI c1) (xY c1) (xI c4) (xY c4) ln op]) (.out true (gU ln (AJ (xL c2) xs)) [oV (xL c0) (xL c1) (xL c2) (xL c3) (xL c4) (xL c5) (xI c1) (xY c1) (xI c4) (xY c4) ln op]))|_=>none
noncomputable def rEraS:aD:=fun a=>match a with|[.bxa 0 [c0,c1,c2,c3,c4,c5,.int .i64 ln,.int .i64 op],.sl 9 [.str] none xs]=>some (bif okL c0 c1 c2 c3 c4 c5 then erC (xL c1) (xI c1) (xY c1) (xL c4) (xI c4) (xY c4) xs else false,.oq (ieq (zl (xY c1) xs) 0) (.out false (.tup []) [oV (xL c0) (oF (xL c1) (xY c1) xs) (xL c2) (xL c3) (rD (xL c4) (xY c4) ln) (xL c5) (xI c1) (aX (xY c1) [qz xs]) (xI c4) (aX (xY c4) [.int .i64 ln]) ln (jN xs ln)]) (.out true (gU ln (zl (xY c1) xs)) [oV (xL c0) (xL c1) (xL c2) (xL c3) (xL c4) (xL c5) (xI c1) (xY c1) (xI c4) (xY c4) ln op]))|_=>none
noncomputable def rZoneS:aD:=fun a=>match a with|[.bxa 0 [c0,c1,c2,c3,c4,c5,.int .i64 ln,.int .i64 op],.sl 9 [.str] none xs]=>some (bif okL c0 c1 c2 c3 c4 c5 then znC (xL c1) (xL c4) xs else false,.oq (ieq (vw (xL c1) xs) 0) (.out false (.tup []) [oV (xL c0) (tJ (xL c1) xs) (xL c2) (xL c3) (AL (xL c4) ln) (xL c5) (ay (xL c1)) [qz (fA xs 1 (ay xs))] (ay (xL c4)) [.int .i64 ln] ln (jN (fA xs 1 (ay xs)) ln)]) (.out true (gU ln (vw (xL c1) xs)) [oV (xL c0) (xL c1) (xL c2) (xL c3) (xL c4) (xL c5) (xI c1) (xY c1) (xI c4) (xY c4) ln op]))|_=>none
noncomputable def rReadS:aD:=fun a=>match a with|[.bxa 0 [c0,c1,c2,c3,c4,c5,.int .i64 ln,.int .i64 op],.str s]=>some (bif okB c0 c1 c2 c3 c4 c5 then KA (xL c0) (xL c1) (xI c1) (xY c1) (xL c3) (xL c4) (xI c4) (xY c4) (xL c5) op s else false,.oq (ieq (kJ (xL c0) (xL c1) (xL c2) (xY c1) op s) 0) (.out false (.tup []) [oV (qT (xL c0) op s) (qU (xL c1) (xY c1) op s) (qV (xL c2) op s) (uW (xL c3) ln op s) (uX (xL c4) (xY c4) ln op s) (uY (xL c5) ln op s) (uZ (xI c1) (xL c1) op s) (qW (xY c1) op s) (u6 (xI c4) (xL c4) op s) (u7 (xY c4) ln op s) ln (qX op ln s)]) (.out true (gU ln (kJ (xL c0) (xL c1) (xL c2) (xY c1) op s)) [oV (xL c0) (xL c1) (xL c2) (xL c3) (xL c4) (xL c5) (xI c1) (xY c1) (xI c4) (xY c4) ln op]))|_=>none
noncomputable def rS1:List (Nat×aD):=(GX+69,rEraS)::rS0
noncomputable def rS2:List (Nat×aD):=(GX+71,rRuleS)::(GX+73,rLinkS)::(GX+72,rZoneS)::rS1
noncomputable def rS3:List (Nat×aD):=(GX+47,rReadS)::rS0
theorem afd (F rs zs ks wr we wl a op iz ie yz ye xs) (K:V→Option V):
 bE eE (bC eE rS0 F 3) F 71 [V.bxa 0 (oV rs zs ks wr we wl iz yz ie ye a op),V.sl 9 [Kd.str] none xs] K=
 let A:=V.int .i64 a;let B:=[oV rs zs ks wr we wl iz yz ie ye a op];let C:=[Kd.int .i64];sel (gL xs) (sel (ieq (Qz xs) 0) (sel (aR (ay rs) 4096) (sel (dh rs [Qn xs]) (sel (dh wr [A]) (K (V.out false (V.tup []) [[V.sl 53 kR (some 1000001001) (aX rs [Qn xs]),V.slz 1000001002 57 kZ zs (some 1000001502) iz 1 51 kE yz,V.sl 59 kL (some 1000001003) ks,V.sl 3 C (some 1000001004) (aX wr [A]),V.slz 1000001005 32 kW we (some 1000001505) ie 0 3 C ye,V.sl 3 C (some 1000001006) wl,A,V.int .i64 op]])) none) none) (K (V.out true (V.iface 75 (V.agg [A,V.int .i64 17])) B))) (K (V.out true (V.iface 75 (V.agg [A,V.int .i64 (Qz xs)])) B))) none:=by kernel_rfl
theorem afe (F rs zs ks wr we wl a op iz ie yz ye xs) (K:V→Option V):
 bE eE (bC eE rS0 F 3) F 73 [V.bxa 0 (oV rs zs ks wr we wl iz yz ie ye a op),V.sl 9 [Kd.str] none xs] K=
 let A:=V.int .i64 a;let B:=[V.agg [V.str (lrT xs),V.str (lrN xs)]];let C:=[oV rs zs ks wr we wl iz yz ie ye a op];let D:=[Kd.int .i64];sel (ieq (Ub xs) 0) (sel (aR (ay ks) 1024) (sel (dh ks B) (sel (dh wl [A]) (K (V.out false (V.tup []) [[V.sl 53 kR (some 1000001001) rs,V.slz 1000001002 57 kZ zs (some 1000001502) iz 1 51 kE yz,V.sl 59 kL (some 1000001003) (aX ks B),V.sl 3 D (some 1000001004) wr,V.slz 1000001005 32 kW we (some 1000001505) ie 0 3 D ye,V.sl 3 D (some 1000001006) (aX wl [A]),A,V.int .i64 op]])) none) none) (K (V.out true (V.iface 75 (V.agg [A,V.int .i64 17])) C))) (K (V.out true (V.iface 75 (V.agg [A,V.int .i64 (Ub xs)])) C)):=by kernel_rfl
theorem aff (F rs zs ks wr we wl a op iz ie yz ye xs) (K:V→Option V):
 bE eE (bC eE rS0 F 3) F 69 [V.bxa 0 (oV rs zs ks wr we wl iz yz ie ye a op),V.sl 9 [Kd.str] none xs] K=
 let C:=dB .i64 (ay zs) 1;let D:=V.int .i64 a;let E:=dB .i64 (ay we) 1;let G:=[Kd.int .i64];let H:=[oV rs zs ks wr we wl iz yz ie ye a op];let I:=V.sl 53 kR (some 1000001001) rs;let J:=V.sl 59 kL (some 1000001003) ks;let N:=aX yz [qz xs];let A:=V.slz 1000001002 57 kZ (oC zs C (aset (aG zs C) 1 (V.sl 51 kE none N))) (some 1000001502) C 1 51 kE N;let B:=V.slz 1000001005 32 kW (oC we E (V.sl 3 G none (aX ye [D]))) (some 1000001505) E 0 3 G (aX ye [D]);let L:=V.sl 3 G (some 1000001004) wr;let M:=V.sl 3 G (some 1000001006) wl;sel (ak (ax 0 C) (aR C (ay zs))) (sel (gL xs) (sel (ieq (kT xs) 0) (sel (ieq C iz) (sel (aR (ay yz) 256) (sel (ieq C iz) (sel (dh yz [qz xs]) (sel (ak (ax 0 E) (aR E (ay we))) (sel (ieq E ie) (sel (dh ye [D]) (sel (FF xs) (K (V.out false (V.tup []) [[I,A,J,L,B,M,D,D]])) (K (V.out false (V.tup []) [[I,A,J,L,B,M,D,V.int .i64 0]]))) none) none) none) none) none) (K (V.out true (V.iface 75 (V.agg [D,V.int .i64 17])) H))) none) (K (V.out true (V.iface 75 (V.agg [D,V.int .i64 (kT xs)])) H))) none) none:=by kernel_rfl
theorem afg (F rs zs ks wr we wl a op iz ie yz ye xs) (K:V→Option V):
 bE eE (bC eE rS1 F 3) F 72 [V.bxa 0 (oV rs zs ks wr we wl iz yz ie ye a op),V.sl 9 [Kd.str] none xs] K=
 let B:=fA xs 1 (ay xs);let C:=[oV rs zs ks wr we wl iz yz ie ye a op];let D:=V.int .i64 a;let E:=[Kd.int .i64];let G:=aF (ai (aG xs 0) 0);let H:=aX we [V.nilsl];let I:=ak (ax 0 0) (aR 0 (ay xs));let J:=ak (ax 0 1) (ax 1 (ay xs));let L:=V.sl 53 kR (some 1000001001) rs;let M:=V.sl 59 kL (some 1000001003) ks;let A:=[V.agg [V.str G,V.nilsl]];let N:=V.sl 3 E (some 1000001004) wr;let O:=V.sl 3 E (some 1000001006) wl;let P:=aX zs A;sel (ieq (ay xs) 0) (K (V.out true (V.iface 75 (V.agg [D,V.int .i64 5])) C)) (sel I (sel (ieq (dK G) 0) (sel J (sel (gL B) (sel (ieq (kT B) 0) (sel (aR (ay zs) 1024) (sel I (sel (dh zs A) (sel (dh we [V.nilsl]) (sel J (sel (erC P (ay zs) [] H (ay we) [] B) (sel (ieq (zl [] B) 0) (K (V.out false (V.tup []) [[L,V.slz 1000001002 57 kZ (oF P [] B) (some 1000001502) (ay zs) 1 51 kE (aX [] [qz B]),M,N,V.slz 1000001005 32 kW (rD H [] a) (some 1000001505) (ay we) 0 3 E (aX [] [D]),O,D,V.int .i64 (jN B a)]])) (K (V.out true (V.iface 75 (V.agg [D,V.int .i64 (zl [] B)])) [[L,V.slz 1000001002 57 kZ P (some 1000001502) (ay zs) 1 51 kE [],M,N,V.slz 1000001005 32 kW H (some 1000001505) (ay we) 0 3 E [],O,D,V.int .i64 op]]))) none) none) none) none) none) (K (V.out true (V.iface 75 (V.agg [D,V.int .i64 17])) C))) (K (V.out true (V.iface 75 (V.agg [D,V.int .i64 (kT B)])) C))) none) none) (K (V.out true (V.iface 75 (V.agg [D,V.int .i64 (dK G)])) C))) none):=by kernel_rfl
theorem afh (F rs zs ks wr we wl a op iz ie yz ye s) (K:V→Option V):
 bE eE (bC eE rS2 F 3) F 47 [V.bxa 0 (oV rs zs ks wr we wl iz yz ie ye a op),V.str s] K=
 let A:=[V.str [82,117,108,101],V.str [90,111,110,101],V.str [76,105,110,107]];let C:=[oV rs zs ks wr we wl iz yz ie ye a op];let D:=V.int .i64 a;let E:=aF (ai (aG (dm s) 0) 0);let G:=[Kd.int .i64];let I:=V.sl 53 kR (some 1000001001) rs;let J:=V.sl 59 kL (some 1000001003) ks;let N:=V.slz 1000001002 57 kZ zs (some 1000001502) iz 1 51 kE yz;let P:=ay (dm s);let Q:=V.tup [];let R:=ax (aB s) 4000000;let T:=zl yz (dm s);let B:=fA (dm s) 1 P;let H:=ak (ax 0 1) (ax 1 P);let L:=V.sl 3 G (some 1000001004) wr;let M:=V.sl 3 G (some 1000001006) wl;let O:=V.slz 1000001005 32 kW we (some 1000001505) ie 0 3 G ye;let S:=fA B 1 (ay B);sel R (sel (ieq (Al s) 0) (sel R (sel (ieq (Ns s) 0) (sel (ieq P 0) (K (V.out false Q C)) (sel (aR 0 op) (sel (erC zs iz yz we ie ye (dm s)) (sel (ieq T 0) (K (V.out false Q [[I,V.slz 1000001002 57 kZ (oF zs yz (dm s)) (some 1000001502) iz 1 51 kE (aX yz [qz (dm s)]),J,L,V.slz 1000001005 32 kW (rD we ye a) (some 1000001505) ie 0 3 G (aX ye [D]),M,D,V.int .i64 (jN (dm s) a)]])) (K (V.out true (V.iface 75 (V.agg [D,V.int .i64 T])) C))) none) (sel (ak (ax 0 0) (aR 0 P)) (sel (ak (ax (aB E) 1000) (wsR A)) (sel (ieq (oU E A) 0) (sel (ieq (mo E A) 0) (sel H (sel (ak (gL B) (Xe wr)) (sel (ieq (AF rs B) 0) (K (V.out false Q [[V.sl 53 kR (some 1000001001) (aX rs [Qn B]),N,J,V.sl 3 G (some 1000001004) (aX wr [D]),O,M,D,V.int .i64 op]])) (K (V.out true (V.iface 75 (V.agg [D,V.int .i64 (AF rs B)])) C))) none) none) (sel (ieq (mo E A) 1) (sel H (sel (znC zs we B) (sel (ieq (vw zs B) 0) (K (V.out false Q [[I,V.slz 1000001002 57 kZ (tJ zs B) (some 1000001502) (ay zs) 1 51 kE [qz S],J,L,V.slz 1000001005 32 kW (AL we a) (some 1000001505) (ay we) 0 3 G [D],M,D,V.int .i64 (jN S a)]])) (K (V.out true (V.iface 75 (V.agg [D,V.int .i64 (vw zs B)])) C))) none) none) (sel (ieq (mo E A) 2) (sel H (sel (Xe wl) (sel (ieq (AJ ks B) 0) (K (V.out false Q [[I,N,V.sl 59 kL (some 1000001003) (aX ks [UD B]),L,O,V.sl 3 G (some 1000001006) (aX wl [D]),D,V.int .i64 op]])) (K (V.out true (V.iface 75 (V.agg [D,V.int .i64 (AJ ks B)])) C))) none) none) none))) (K (V.out true (V.iface 75 (V.agg [D,V.int .i64 (oU E A)])) C))) none) none))) (K (V.out true (V.iface 75 (V.agg [D,V.int .i64 (Ns s)])) C))) none) (K (V.out true (V.iface 75 (V.agg [D,V.int .i64 (Al s)])) C))) none:=by kernel_rfl
end Nt.Ev.YtjcencojgajgdaaGreatDoor.Rr
namespace Go.Proofs.YtjcencojgajgdaaGreatDoor
open Go Go.RowKit Go.Shelf Nt Nt.Ev
set_option maxRecDepth 100000 in
set_option maxHeartbeats 2000000 in
theorem WM (g:Nat) (w:World):Calls Tryz.prog 45 #[.pointer (some ⟨g,0,none⟩),.int .i64 0] w fun ex w'=>ex=.returned (.tuple #[])∧Below w.heap.size w w':=by
 go_enter Tryz.func45,Tryz.ntmps45
 go_wp2
 exact⟨rfl,.tuple #[],by kernel_rfl,rfl,Below.refl _ _⟩
set_option maxRecDepth 100000 in
set_option maxHeartbeats 2000000 in
theorem WN (g:Nat) (w:World) (ln e:Int) (he:e≠0) (h6:w.cell? ⟨g,6,none⟩=some (.int .i64 ln)):Calls Tryz.prog 45 #[.pointer (some ⟨g,0,none⟩),.int .i64 e] w fun ex w'=>ex=.panicked [{v:=.iface 75 (.agg #[.int .i64 ln,.int .i64 e]),recovered:=false}]∧Below w.heap.size w w':=by
 go_enter Tryz.func45,Tryz.ntmps45
 go_wp2
 exact⟨rfl,rfl,Below.refl _ _⟩
set_option maxRecDepth 100000 in
set_option maxHeartbeats 2000000 in
theorem WO (g:Nat) (w:World) (n m:Int) (h:n<m):Calls Tryz.prog 95 #[.pointer (some ⟨g,0,none⟩),.int .i64 n,.int .i64 m] w fun ex w'=>ex=.returned (.tuple #[])∧Below w.heap.size w w':=by
 go_enter Tryz.func95,Tryz.ntmps95
 go_wp2
 exact⟨rfl,.tuple #[],by kernel_rfl,rfl,Below.refl _ _⟩
set_option maxRecDepth 100000 in
set_option maxHeartbeats 2000000 in
theorem WQ (g:Nat) (w:World) (ln n m:Int) (h: ¬n<m) (h6:w.cell? ⟨g,6,none⟩=some (.int .i64 ln)):Calls Tryz.prog 95 #[.pointer (some ⟨g,0,none⟩),.int .i64 n,.int .i64 m] w fun ex w'=>ex=.panicked [{v:=.iface 75 (.agg #[.int .i64 ln,.int .i64 17]),recovered:=false}]∧Below w.heap.size w w':=by
 go_enter Tryz.func95,Tryz.ntmps95
 go_wp2
 exact⟨rfl,rfl,rfl,Below.refl _ _⟩
end Go.Proofs.YtjcencojgajgdaaGreatDoor
namespace Nt.Ev.YtjcencojgajgdaaGreatDoor.Rr
open Go Go.RowKit Nt Nt.Num Nt.Civil Nt.Fld Go.Proofs.YtjcencojgajgdaaGreatDoor Nt.Ev Nt.Ev.YtjcencojgajgdaaGreatDoor
variable [kH]
theorem BJ {E:Env} {B:Own} {G0:aW} {r w:World} {s:St} {g:Gh} {a:Act} (h:Inv E B G0 r s g a w) {k i:Nat} {l:ah} {n:Int} (p:aK s.bx k=some l) (o:l[i]? =some (.int .i64 n)) {v:Value} (j:aU g (.box k 0) v):
  ∃b,v=.pointer (some ⟨b,0,none⟩)∧w.cell? ⟨b,i,none⟩=some (.int .i64 n):=by
 obtain⟨b,t,j⟩:=d9.1 j;obtain⟨u,c,e,d,_,q,m,_⟩:=h.bxs.1 k l p;rw[t] at d;simp only[aT] at d;subst d;refine⟨b,j,?_⟩;rw[Lib.cell_of_heap q];have f:i<c.toList.length:=by rw[←m.1];exact(List.getElem?_eq_some_iff.1 o).1
 have:=m.2 i (.int .i64 n) c.toList[i] o (iK f);simp only[aU,bQ] at this;unfold aV at this;rw[←acD,iK f,this]
theorem Df {g:Gh} {n:Int} {v:Value} (h:aU g (.int .i64 n) v):v=.int .i64 n:=by simp only[aU,bQ] at h;unfold aV at h;exact h
theorem rFaS_ok (c0 l m o r q:V) (c:Int) (k:V) (e:Int) (G:true=true): ∃p x,pG (.oq (ieq e 0) (.keep false (.tup [])) (.keep true (gU c e)))=.keep p x∧KC eE 45 [.bxa 0 [c0,l,m,o,r,q,.int .i64 c,k],.int .i64 e] p x:=by
 have d:bU 0 [.bxa 0 [c0,l,m,o,r,q,.int .i64 c,k],.int .i64 e]=[.box HL 0,.int .i64 e]:=rfl;have f:aK (dU 0 [.bxa 0 [c0,l,m,o,r,q,.int .i64 c,k],.int .i64 e]) HL=some [c0,l,m,o,r,q,.int .i64 c,k]:=rfl;by_cases C:e=0
 ·subst C
  refine⟨false,.tup [],rfl,fun B g w vs u j=>?_⟩;have a:=j.fr;rw[d] at a;obtain⟨y,E,h,s,a⟩:=a.cons_inv;obtain⟨z,t1,A,v,a⟩:=a.cons_inv;obtain rfl:=a.cO;subst A;have h:vs=[y,z]:=h;subst h;obtain⟨b,t,_⟩:=BJ j f (i:=6) (n:=c) rfl s;rw[t,Df v];refine(WM b w).mono ?_;rintro D w' ⟨rfl,hB⟩;exact⟨_,rfl,⟨rfl,rfl⟩,hB⟩
 refine⟨true,gU c e,by rw[show ieq e 0=false from by unfold ieq;simpa using C];rfl,fun B g w vs u j=>?_⟩;have a:=j.fr;rw[d] at a;obtain⟨y,E,h,s,a⟩:=a.cons_inv;obtain⟨z,t1,A,v,a⟩:=a.cons_inv;obtain rfl:=a.cO;subst A;have h:vs=[y,z]:=h;subst h;obtain⟨b,t,F⟩:=BJ j f (i:=6) (n:=c) rfl s;rw[t,Df v];refine(WN b w c e C F).mono ?_;rintro D w' ⟨rfl,hB⟩;exact⟨_,rfl,rfl,hB⟩
theorem rRoS_ok (c0 k l o r q:V) (c:Int) (j:V) (n m:Int) (J:true=true): ∃p x,pG (.oq (aR n m) (.keep false (.tup [])) (.keep true (gU c 17)))=.keep p x∧KC eE 95 [.bxa 0 [c0,k,l,o,r,q,.int .i64 c,j],.int .i64 n,.int .i64 m] p x:=by
 have d:bU 0 [.bxa 0 [c0,k,l,o,r,q,.int .i64 c,j],.int .i64 n,.int .i64 m]=[.box HL 0,.int .i64 n,.int .i64 m]:=rfl;have e:aK (dU 0 [.bxa 0 [c0,k,l,o,r,q,.int .i64 c,j],.int .i64 n,.int .i64 m]) HL=some [c0,k,l,o,r,q,.int .i64 c,j]:=rfl;by_cases F:n<m
 ·refine⟨false,.tup [],by rw[bu F];rfl,fun B g w vs v h=>?_⟩
  have a:=h.fr;rw[d] at a;obtain⟨A,H,f,t,a⟩:=a.cons_inv;obtain⟨D,t1,E,z,a⟩:=a.cons_inv;obtain⟨y,t2,C,s,a⟩:=a.cons_inv;obtain rfl:=a.cO;subst C;subst E;have f:vs=[A,D,y]:=f;subst f;obtain⟨b,u,_⟩:=BJ h e (i:=6) (n:=c) rfl t;rw[u,Df z,Df s];refine(WO b w n m F).mono ?_;rintro G w' ⟨rfl,hB⟩;exact⟨_,rfl,⟨rfl,rfl⟩,hB⟩
 refine⟨true,gU c 17,by rw[bB (by omega)];rfl,fun B g w vs v h=>?_⟩;have a:=h.fr;rw[d] at a;obtain⟨A,H,f,t,a⟩:=a.cons_inv;obtain⟨D,t1,E,z,a⟩:=a.cons_inv;obtain⟨y,t2,C,s,a⟩:=a.cons_inv;obtain rfl:=a.cO;subst C;subst E;have f:vs=[A,D,y]:=f;subst f;obtain⟨b,u,I⟩:=BJ h e (i:=6) (n:=c) rfl t;rw[u,Df z,Df s];refine(WQ b w c n m F I).mono ?_;rintro G w' ⟨rfl,hB⟩;exact⟨_,rfl,rfl,hB⟩
open Nt.Ev.YtjcencojgajgdaaGreatDoor.Lk
theorem eO {f:Nat} {args:ah} {r:V} (h:aj oE f args r):aj eE f args r:=aj.env (E:=oE) rfl (fun n v h=>by cases h) h
theorem eH {f:Nat} {args:ah} {r:V} (h:aj hE f args r):aj eE f args r:=aj.env (E:=hE) rfl (fun n v h=>by cases h) h
theorem rRuS_ok (xs:ah) (a:gL xs=true):aj eE 98 [.sl 9 [.str] none xs] (.tup [.agg [.str (Uq xs),.int .i64 (Ur xs),.int .i64 (Us xs),.int .i64 (Ut xs),.int .i64 (Uu xs),.int .i64 (Uv xs),.int .i64 (Uw xs),.int .i64 (Ux xs),.int .i64 (Uy xs),.int .i64 (Uz xs),.str (zh xs)],.int .i64 (Qz xs)]):=Au (zRdS_ok xs a)
theorem rLkS_ok (xs:ah) (a:true=true):aj eE 64 [.sl 9 [.str] none xs] (.tup [.agg [.str (lrT xs),.str (lrN xs)],.int .i64 (Ub xs)]):=eO (kRead_ev xs)
theorem Iv: ∀(s:af) (k:Nat),Nm.xZ k s=Nt.Ev.YtjcencojgajgdaaGreatDoor.xZ k s
 |[],_=>rfl
 |c::t,k=>by
  show(Nm.Kq k c&&Nm.xZ (k+1) t)=(Nt.Ev.YtjcencojgajgdaaGreatDoor.Kq k c&&Nt.Ev.YtjcencojgajgdaaGreatDoor.xZ (k+1) t)
  rw[Iv t (k+1)];rfl
theorem uK (s:af):Nm.dK s=Nt.Ev.YtjcencojgajgdaaGreatDoor.dK s:=by unfold Nm.dK Nt.Ev.YtjcencojgajgdaaGreatDoor.dK;rw[Iv]
theorem rNmS_ok (s:af) (a:true=true):aj eE 42 [.str s] (.int .i64 (dK s)):=by rw[←uK];exact eO (YR s rfl)
theorem rMtS_ok (s:af) (e:Nat) (o:Option Nat) (a:ah) (b:ak (ax (aB s) 1000) (wsR a)=true):aj eE 70 [.str s,.sl e [.str] o a] (.tup [.int .i64 (mo s a),.int .i64 (oU s a)]):=Au (toZm (JP s e o a b))
theorem rOfS_ok (s:af) (a:ax (aB s) 4000000=true):aj eE 68 [.str s] (.tup [.sl 9 [.str] none (dm s),.int .i64 (Ns s)]):=eH (hOfS_ok s a)
theorem rCkS_ok (s:af) (a:ax (aB s) 4000000=true):aj eE 67 [.str s] (.int .i64 (Al s)):=eO (xCkS_ok s a)
theorem rLnS_ok (s:af) (a:ax (aB s) 4000000=true):aj eE 46 [.str s] (.sl 9 [.str] none (kC s)):=eO (YP s a)
theorem Iw:aZ eE rS0:=by
 unfold rS0;refine aZ.consK (fun args r h=>?_) (aZ.consK (fun args r h=>?_) (aZ.cons (fun args r h=>?_) (aZ.cons (fun args r h=>?_) (aZ.cons (fun args r h=>?_) (aZ.cons (fun args r h=>?_) (aZ.cons (fun args r h=>?_) (aZ.cons (fun args r h=>?_) (aZ.cons (fun args r h=>?_) (aZ.cons (fun args r h=>?_) aZ.nil)))))))));all_goals (revert h;intro h;first|unfold rFaS at h|unfold rRoS at h|unfold rRuS at h|unfold eRdS at h|unfold rLkS at h|unfold rNmS at h|unfold rMtS at h|unfold rOfS at h|unfold rCkS at h|unfold rLnS at h)
 all_goals (split at h;rotate_left; · cases h)
 all_goals (simp only[aT,bP] at h;obtain⟨a,rfl⟩:=h)
 ·exact rFaS_ok _ _ _ _ _ _ _ _ _ rfl
 ·exact rRoS_ok _ _ _ _ _ _ _ _ _ _ rfl
 ·exact rRuS_ok _ a
 ·exact eRdS_ok _ a
 ·exact rLkS_ok _ rfl
 ·exact rNmS_ok _ rfl
 ·exact rMtS_ok _ _ _ _ a
 ·exact rOfS_ok _ a
 ·exact rCkS_ok _ a
 exact rLnS_ok _ a
theorem Gn {L e:Nat} {k:List Kd} {v:V} (h:ZX L e k v=true):v=.sl e k (some L) (xL v):=by
 unfold ZX at h;split at h
 ·rw[bF,bF] at h
  obtain⟨⟨b,a⟩,c⟩:=h;rw[iJ] at b a;rw[b,a,Kd.cu _ _ c];rfl
 cases h
theorem YT {L e:Nat} {k:List Kd} {L2 c b:Nat} {a:List Kd} {v:V} (h:labZ L e k L2 c b a v=true):v=.slz L e k (xL v) (some L2) (xI v) c b a (xY v):=by
 unfold labZ at h;split at h
 ·simp only[bF,iJ] at h
  obtain⟨⟨⟨j,d⟩,f,i⟩,⟨m,g⟩,l⟩:=h;rw[j,d,i,m,g,Kd.cu _ _ f,Kd.cu _ _ l];rfl
 cases h
theorem Iy {c0 b c d a e:V} (h:okL c0 b c d a e=true) (r:ah):c0::b::c::d::a::e::r=V.sl 53 kR (some 1000001001) (xL c0)::V.slz 1000001002 57 kZ (xL b) (some 1000001502) (xI b) 1 51 kE (xY b)::V.sl 59 kL (some 1000001003) (xL c)::V.sl 3 kI (some 1000001004) (xL d)::V.slz 1000001005 32 kW (xL a) (some 1000001505) (xI a) 0 3 kI (xY a)::V.sl 3 kI (some 1000001006) (xL e)::r:=by unfold okL at h;simp only[bF] at h;obtain⟨⟨k,i⟩,⟨f,l⟩,g,j⟩:=h;rw[←Gn k,←YT i,←Gn f,←Gn l,←YT g,←Gn j]
theorem oI {a b:Bool} (h:(bif a then b else false)=true):a=true∧b=true:=by
 cases a with
 |true=>exact⟨rfl,h⟩
 |false=>cases h
theorem LA {S:List (Nat×aD)} (b:aZ eE S) (F d:Nat) {f:Nat} {args:ah} {c p q:Bool} {x y:V} {bs e:List (ah)} (h:bE eE (bC eE S F d) F f args some=some (sel c (.out p x bs) (.out q y e))):nQ eE f args (.oq c (.out p x bs) (.out q y e)):=by
 refine nQ.oq (fun a=>nQ.out (fT iZ b F d ?_)) (fun a=>nQ.out (fT iZ b F d ?_))
 ·rw[h,a];rfl
 rw[h,a];rfl
theorem iM {α:Type} (a b:α):sel true a b=a:=rfl
theorem jq {α:Type} (a b:α):sel false a b=b:=rfl
theorem LB {e n m:Int} (h:e=0) (a:n<m):lT e n m=0:=by unfold lT;simp[h,a]
theorem N5 {e n m:Int} (h:e=0) (a: ¬n<m):lT e n m=17:=by unfold lT;simp[h,a]
theorem XK {e n m:Int} (h:e≠0):lT e n m=e:=by unfold lT;rw[if_pos h]
theorem app1 {xs:ah} {y:V} (h:xs.length≤16000000):dh xs [y]=true:=by rw[gW,Ec];omega
theorem appL {xs:ah} {y:V} {n:Int} (h:ay xs<n) (a:n≤16000000):dh xs [y]=true:=app1 (by rw[aC] at h;omega)
theorem YU {xs:ah} (h:Xe xs=true):xs.length≤16000000:=by unfold Xe at h;simpa using h
theorem rule_p (rs zs ks wr we wl:ah) (c op iz ie:Int) (yz ye xs:ah) (d:gL xs=true) (e:Xe wr=true):bE eE (bC eE rS0 5 3) 5 71 [.bxa 0 (oV rs zs ks wr we wl iz yz ie ye c op),.sl 9 [.str] none xs] some=
  some (sel (ieq (AF rs xs) 0) (.out false (.tup []) [oV (aX rs [Qn xs]) zs ks (aX wr [.int .i64 c]) we wl iz yz ie ye c op]) (.out true (gU c (AF rs xs)) [oV rs zs ks wr we wl iz yz ie ye c op])):=by
 (rw[afd];(conv=>zeta))
 unfold AF;by_cases a:Qz xs=0
 ·by_cases b:ay rs<4096
  ·simp only[d,bA a,bu b,appL b (by decide),app1 (YU e),iM,LB a b]
   rfl
  simp only[d,bA a,bB (Int.not_lt.1 b),iM,jq,N5 a b];rfl
 simp only[d,bH a,iM,jq,XK a]
theorem afi (c0 b e c a f:V) (d op:Int) (xs:ah) (g:(bif okL c0 b e c a f then ak (gL xs) (Xe (xL c)) else false)=true):nQ eE 71 [.bxa 0 [c0,b,e,c,a,f,.int .i64 d,.int .i64 op],.sl 9 [.str] none xs] (.oq (ieq (AF (xL c0) xs) 0) (.out false (.tup []) [oV (aX (xL c0) [Qn xs]) (xL b) (xL e) (aX (xL c) [.int .i64 d]) (xL a) (xL f) (xI b) (xY b) (xI a) (xY a) d op]) (.out true (gU d (AF (xL c0) xs)) [oV (xL c0) (xL b) (xL e) (xL c) (xL a) (xL f) (xI b) (xY b) (xI a) (xY a) d op])):=by obtain⟨h,g⟩:=oI g;obtain⟨j,i⟩:=aN g;rw[Iy h];exact LA Iw 5 3 (rule_p _ _ _ _ _ _ _ _ _ _ _ _ _ j i)
theorem link_p (rs zs ks wr we wl:ah) (c op iz ie:Int) (yz ye xs:ah) (d:Xe wl=true):bE eE (bC eE rS0 5 3) 5 73 [.bxa 0 (oV rs zs ks wr we wl iz yz ie ye c op),.sl 9 [.str] none xs] some=
  some (sel (ieq (AJ ks xs) 0) (.out false (.tup []) [oV rs zs (aX ks [UD xs]) wr we (aX wl [.int .i64 c]) iz yz ie ye c op]) (.out true (gU c (AJ ks xs)) [oV rs zs ks wr we wl iz yz ie ye c op])):=by
 (rw[afe];(conv=>zeta))
 unfold AJ;by_cases a:Ub xs=0
 ·by_cases b:ay ks<1024
  ·simp only[bA a,bu b,appL b (by decide),app1 (YU d),iM,LB a b]
   rfl
  simp only[bA a,bB (Int.not_lt.1 b),iM,jq,N5 a b];rfl
 simp only[bH a,iM,jq,XK a]
theorem afj (c0 b c f a e:V) (d op:Int) (xs:ah) (g:(bif okL c0 b c f a e then Xe (xL e) else false)=true):nQ eE 73 [.bxa 0 [c0,b,c,f,a,e,.int .i64 d,.int .i64 op],.sl 9 [.str] none xs] (.oq (ieq (AJ (xL c) xs) 0) (.out false (.tup []) [oV (xL c0) (xL b) (aX (xL c) [UD xs]) (xL f) (xL a) (aX (xL e) [.int .i64 d]) (xI b) (xY b) (xI a) (xY a) d op]) (.out true (gU d (AJ (xL c) xs)) [oV (xL c0) (xL b) (xL c) (xL f) (xL a) (xL e) (xI b) (xY b) (xI a) (xY a) d op])):=by obtain⟨h,g⟩:=oI g;rw[Iy h];exact LA Iw 5 3 (link_p _ _ _ _ _ _ _ _ _ _ _ _ _ g)
theorem jF:aL true=false:=rfl
theorem je:aL false=true:=rfl
theorem era_p (rs zs ks wr we wl:ah) (c op iz ie:Int) (yz ye xs:ah) (p:erC zs iz yz we ie ye xs=true):bE eE (bC eE rS0 5 3) 5 69 [.bxa 0 (oV rs zs ks wr we wl iz yz ie ye c op),.sl 9 [.str] none xs] some=
  some (sel (ieq (zl yz xs) 0) (.out false (.tup []) [oV rs (oF zs yz xs) ks wr (rD we ye c) wl iz (aX yz [qz xs]) ie (aX ye [.int .i64 c]) c (jN xs c)]) (.out true (gU c (zl yz xs)) [oV rs zs ks wr we wl iz yz ie ye c op])):=by
 (rw[aff];(conv=>zeta))
 unfold erC at p;rw[lK] at p;obtain⟨k,⟨x,v⟩,g,q,⟨w,u⟩,h,t⟩:=p;have i:dB .i64 (ay zs) 1=iz:=by rw[dV (by rw[aC];omega),aC,g]
 have m:dB .i64 (ay we) 1=ie:=by rw[dV (by rw[aC];omega),aC,h]
 have s:ay zs-1=iz:=by rw[aC,g]
 have r:ay we-1=ie:=by rw[aC,h]
 have j:ak (ax 0 iz) (aR iz (ay zs))=true:=by rw[aM,aA,bq,aC];omega
 have l:ak (ax 0 ie) (aR ie (ay we))=true:=by rw[aM,aA,bq,aC];omega
 have d:ieq iz iz=true:=bA rfl;have f:ieq ie ie=true:=bA rfl;unfold zl;by_cases a:kT xs=0
 ·by_cases b:ay yz<256
  ·unfold oF rD
   rcases abJ (FF xs) with e|e
   ·have o: ∀A B:Option V,sel (FF xs) A B=A:=fun A B=>by rw[e];rfl
    have n:jN xs c=c:=by unfold jN;rw[e];rfl
    simp only[i,m,s,r,j,l,d,f,k,bA a,bu b,app1 q,app1 t,jF,je,iM,jq,LB a b,o,n];rfl
   have o: ∀A B:Option V,sel (FF xs) A B=B:=fun A B=>by rw[e];rfl
   have n:jN xs c=0:=by unfold jN;rw[e];rfl
   simp only[i,m,s,r,j,l,d,f,k,bA a,bu b,app1 q,app1 t,jF,je,iM,jq,LB a b,o,n];rfl
  simp only[i,m,j,l,d,k,bA a,bB (Int.not_lt.1 b),iM,jq,N5 a b];rfl
 simp only[i,m,j,l,d,k,bH a,iM,jq,je,XK a]
theorem rEraS_ok (c0 a d e b f:V) (c op:Int) (xs:ah) (g:(bif okL c0 a d e b f then erC (xL a) (xI a) (xY a) (xL b) (xI b) (xY b) xs else false)=true):nQ eE 69 [.bxa 0 [c0,a,d,e,b,f,.int .i64 c,.int .i64 op],.sl 9 [.str] none xs] (.oq (ieq (zl (xY a) xs) 0) (.out false (.tup []) [oV (xL c0) (oF (xL a) (xY a) xs) (xL d) (xL e) (rD (xL b) (xY b) c) (xL f) (xI a) (aX (xY a) [qz xs]) (xI b) (aX (xY b) [.int .i64 c]) c (jN xs c)]) (.out true (gU c (zl (xY a) xs)) [oV (xL c0) (xL a) (xL d) (xL e) (xL b) (xL f) (xI a) (xY a) (xI b) (xY b) c op])):=by obtain⟨h,g⟩:=oI g;rw[Iy h];exact LA Iw 5 3 (era_p _ _ _ _ _ _ _ _ _ _ _ _ _ g)
theorem rS1_ok:aZ eE rS1:=by
 unfold rS1;refine aZ.ny (fun args r h=>?_) Iw;all_goals (revert h;intro h;first|unfold rEraS at h)
 all_goals (split at h;rotate_left; · cases h)
 all_goals (simp only[aT,bP] at h;obtain⟨a,rfl⟩:=h)
 ·exact rEraS_ok _ _ _ _ _ _ _ _ _ a
theorem Jj {xs:ah} (h:gL xs=true) (a b:Int):gL (fA xs a b)=true:=by unfold gL at h⊢;rw[lM] at h⊢;exact fun x c=>h x (acH (abK c))
theorem zn_zs (zs xs:ah):oF (aX zs [V.agg [V.str (aF (ai (aG xs 0) 0)),V.nilsl]]) [] (fA xs 1 (ay xs))=tJ zs xs:=by
 unfold oF tJ;have e:ay (aX zs [V.agg [V.str (aF (ai (aG xs 0) 0)),V.nilsl]])-1=(zs.length:Int):=by rw[aC];unfold aX;simp
 rw[e];generalize aF (ai (aG xs 0) 0)=n;have a:(zs++[V.agg [V.str n,V.nilsl]]).getD zs.length V.any=V.agg [V.str n,V.nilsl]:=by simp
 unfold oC aG aX;rw[K7,acd _ _ (kG _),WZ,a];rfl
theorem zn_we (we:ah) (a:Int):rD (aX we [V.nilsl]) [] a=AL we a:=by
 unfold rD AL;have e:ay (aX we [V.nilsl])-1=(we.length:Int):=by rw[aC];unfold aX;simp
 rw[e];unfold oC aX;rw[K7,acd _ _ (kG _),WZ];rfl
theorem zone_p (rs zs ks wr we wl:ah) (e op iz ie:Int) (yz ye xs:ah) (j:znC zs we xs=true):bE eE (bC eE rS1 5 3) 5 72 [.bxa 0 (oV rs zs ks wr we wl iz yz ie ye e op),.sl 9 [.str] none xs] some=
  some (sel (ieq (vw zs xs) 0) (.out false (.tup []) [oV rs (tJ zs xs) ks wr (AL we e) wl (ay zs) [qz (fA xs 1 (ay xs))] (ay we) [.int .i64 e] e (jN (fA xs 1 (ay xs)) e)]) (.out true (gU e (vw zs xs)) [oV rs zs ks wr we wl iz yz ie ye e op])):=by
 (rw[afg];(conv=>zeta))
 unfold znC at j;rw[lK] at j;obtain⟨l,n,m⟩:=j;unfold vw;by_cases c:ay xs=0
 ·simp only[bA c,iM,if_pos c]
  rfl
 have n1:1≤ay xs:=by rw[aC] at c⊢;omega
 have i0:ak (ax 0 0) (aR 0 (ay xs))=true:=by rw[aM,aA,bq];omega
 have i:ak (ax 0 1) (ax 1 (ay xs))=true:=by rw[aM,aA,aA];omega
 have g:gL (fA xs 1 (ay xs))=true:=Jj l _ _;by_cases f:dK (aF (ai (aG xs 0) 0))=0
 ·have d: ∀A B:Int,(if dK (aF (ai (aG xs 0) 0))≠0 then A else B)=B:=fun A B=>if_neg (fun h=>h f)
  by_cases a:kT (fA xs 1 (ay xs))=0
  ·by_cases b:ay zs<1024
   ·have hE:erC (aX zs [V.agg [V.str (aF (ai (aG xs 0) 0)),V.nilsl]]) (ay zs) [] (aX we [V.nilsl]) (ay we) [] (fA xs 1 (ay xs))=true:=by unfold erC;rw[lK];simp only[aX,iW,Ec,mr,aC];refine⟨g,⟨by omega,by omega⟩,by omega,by omega,⟨by omega,by omega⟩,by omega,by omega⟩
    have k:zl [] (fA xs 1 (ay xs))=0:=LB a (by rw[aC];decide);simp only[bH c,i0,i,g,bA f,bA a,bu b,app1 (y:=(V.agg [V.str (aF (ai (aG xs 0) 0)),V.nilsl])) (show zs.length≤16000000 by omega),app1 (y:=V.nilsl) (show we.length≤16000000 by omega),hE,k,jF,je,iM,jq,if_neg c,d,LB a b,zn_zs,zn_we];rfl
   simp only[bH c,i0,i,g,bA f,bA a,bB (Int.not_lt.1 b),jF,je,iM,jq,if_neg c,d,N5 a b];rfl
  simp only[bH c,i0,i,g,bA f,bH a,jF,je,iM,jq,if_neg c,d,XK a]
 simp only[bH c,i0,bH f,je,iM,jq,if_neg c,if_pos (show dK (aF (ai (aG xs 0) 0))≠0 from f)]
theorem afk (c0 a d e b f:V) (c op:Int) (xs:ah) (g:(bif okL c0 a d e b f then znC (xL a) (xL b) xs else false)=true):nQ eE 72 [.bxa 0 [c0,a,d,e,b,f,.int .i64 c,.int .i64 op],.sl 9 [.str] none xs] (.oq (ieq (vw (xL a) xs) 0) (.out false (.tup []) [oV (xL c0) (tJ (xL a) xs) (xL d) (xL e) (AL (xL b) c) (xL f) (ay (xL a)) [qz (fA xs 1 (ay xs))] (ay (xL b)) [.int .i64 c] c (jN (fA xs 1 (ay xs)) c)]) (.out true (gU c (vw (xL a) xs)) [oV (xL c0) (xL a) (xL d) (xL e) (xL b) (xL f) (xI a) (xY a) (xI b) (xY b) c op])):=by obtain⟨h,g⟩:=oI g;rw[Iy h];exact LA rS1_ok 5 3 (zone_p _ _ _ _ _ _ _ _ _ _ _ _ _ g)
theorem rS2_ok:aZ eE rS2:=by
 unfold rS2;refine aZ.ny (fun args r h=>?_) (aZ.ny (fun args r h=>?_) (aZ.ny (fun args r h=>?_) rS1_ok));all_goals (revert h;intro h;first|unfold rRuleS at h|unfold rLinkS at h|unfold rZoneS at h)
 all_goals (split at h;rotate_left; · cases h)
 all_goals (simp only[aT,bP] at h;obtain⟨a,rfl⟩:=h)
 ·exact afi _ _ _ _ _ _ _ _ _ a
 ·exact afj _ _ _ _ _ _ _ _ _ a
 exact afk _ _ _ _ _ _ _ _ _ a
end Nt.Ev.YtjcencojgajgdaaGreatDoor.Rr
