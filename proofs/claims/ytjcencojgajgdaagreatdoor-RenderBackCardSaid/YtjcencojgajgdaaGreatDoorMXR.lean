/-
  RenderBack: what a source of a table is, where its parts stand.
-/
import Derived.Test.YtjcencojgajgdaaGreatDoorMXQ
import Derived.Test.YtjcencojgajgdaaGreatDoorMXH
set_option linter.all false
set_option maxRecDepth 100000
namespace Nt.Ev.YtjcencojgajgdaaGreatDoor.Rr
open Go Nt Nt.Num Nt.Civil Nt.Fld Nt.Lin Go.Proofs.YtjcencojgajgdaaGreatDoor Nt.Ev.YtjcencojgajgdaaGreatDoor Nt.Ev.YtjcencojgajgdaaGreatDoor.Lk
variable [kH]
noncomputable abbrev bD:V→ah:=Rx.bD
noncomputable abbrev Nv (x y z:V):Bool:=Rx.Nv x y z
noncomputable abbrev Xj (x y z:ah):Bool:=Rx.Xj x y z
noncomputable abbrev Kt (x y z:ah):Bool:=Rx.Kt x y z
noncomputable abbrev Qs (x y z:ah):af:=Rx.Qs x y z
noncomputable abbrev CO (x y z:ah):Int:=Rx.CO x y z
noncomputable abbrev li9 (x y z:ah):Bool:=Rx.li9 x y z
noncomputable def tl3 (x y z:V):Bool:=Rx.Ee x y z
noncomputable def sm3 (x y z b c a:V):Bool:=ak (ak (Rx.Ee x y z) (Rx.Ee b c a)) (ak (ax (ay (bD x)) 1000) (ak (Rx.e12 (bD y)) (ax (ay (bD z)) 1000)))
noncomputable def eq3 (x y z b c a:ah):Bool:=ak (Rx.KI x b) (ak (Rx.Hr y c) (Rx.NB z a))
def Ug:Int→ah→ah
 |_,[]=>[]
 |k,z::l=>V.sl 3 kI none (nums k (jM (ai z 1)).length)::Ug (k+((jM (ai z 1)).length:Int)) l
def CX:Int→ah→Int
 |k,[]=>k
 |k,z::l=>CX (k+((jM (ai z 1)).length:Int)) l
def Xk:ah→V
 |[]=> .nilsl
 |x::l=> .sl 3 kI none (x::l)
def nzW:ah→V
 |[]=> .nilsl
 |x::l=> .sl 32 kW none (x::l)
def plR (xs:ah):ah:=nums 0 xs.length
def plZ (xs zs:ah):ah:=Ug (xs.length:Int) zs
def plL (xs zs a:ah):ah:=nums (CX (xs.length:Int) zs) a.length
noncomputable def bTxS:aD:=fun a=>match a with|[.agg [x,y,z]]=>some (Nv x y z,.tup [.str (Qs (bD x) (bD y) (bD z)),.int .i64 (CO (bD x) (bD y) (bD z))])|_=>none
noncomputable def bRgS:aD:=fun a=>match a with|[.agg [x,y,z]]=>some (Nv x y z,.bool (Kt (bD x) (bD y) (bD z)))|_=>none
noncomputable def bSmS:aD:=fun a=>match a with|[.agg [x,y,z],.agg [x2,y2,z2]]=>some (sm3 x y z x2 y2 z2,.bool (eq3 (bD x) (bD y) (bD z) (bD x2) (bD y2) (bD z2)))|_=>none
noncomputable def bL9S:aD:=fun a=>match a with|[.agg [x,y,z]]=>some (tl3 x y z,.bool (li9 (bD x) (bD y) (bD z)))|_=>none
noncomputable def bPlS:aD:=fun a=>match a with|[.agg [x,y,z]]=>some (Nv x y z,.agg [.sl 3 kI none (plR (bD x)),.sl 32 kW none (plZ (bD x) (bD y)),.sl 3 kI none (plL (bD x) (bD y) (bD z))])|_=>none
noncomputable def bLvS:aD:=fun a=>match a with|[]=>some (true,.bool true)|_=>none
noncomputable def G9:List (Nat×aD):=(7,bTxS)::(8,bRgS)::(10,bSmS)::(6,bL9S)::(9,lTbS)::(11,lSwS)::[]
noncomputable def bB1:List (Nat×aD):=(12,bPlS)::(5,bLvS)::G9
noncomputable def bPl_L0:=fun F j n d a c i h g b f e K=>(bR eE G9 F 3 12 [1,1,1,0,1,0] j K n (fB 64 [(0,V.agg [V.sl 53 kR none d,V.sl 57 kZ none a,V.sl 59 kL none c]),(1,V.box 1 0),(2,V.box 2 0),(3,V.box 3 0),(4,V.int .i64 i),(6,V.tup []),(7,V.tup []),(11,V.int .i64 h),(12,V.int .i64 g),(24,V.tup []),(25,V.tup []),(26,V.tup []),(32,V.tup []),(33,V.tup []),(51,V.tup []),(52,V.tup [])] [(3,[V.nilsl,V.nilsl,V.nilsl]),(2,[V.nilsl,V.nilsl,V.nilsl]),(1,[V.sl 53 kR none b,V.sl 57 kZ none f,V.sl 59 kL none e])]):Option V)
noncomputable def On:=fun F k n d a c j i h f b g e K=>(bR eE G9 F 3 12 [1,1,1,0,1,0] k K n (fB 64 [(0,V.agg [V.sl 53 kR none d,V.sl 57 kZ none a,V.sl 59 kL none c]),(1,V.box 1 0),(2,V.box 2 0),(3,V.box 3 0),(4,V.int .i64 j),(6,V.tup []),(7,V.tup []),(11,V.int .i64 i),(12,V.int .i64 h),(24,V.tup []),(25,V.tup []),(26,V.tup []),(32,V.tup []),(33,V.tup []),(51,V.tup []),(52,V.tup [])] [(3,[V.sl 3 [Kd.int .i64] (some 40000) f,V.nilsl,V.nilsl]),(2,[V.nilsl,V.nilsl,V.nilsl]),(1,[V.sl 53 kR none b,V.sl 57 kZ none g,V.sl 59 kL none e])]):Option V)
noncomputable def Vw:=fun F m n f a b l i g k h j e d c K=>(bR eE G9 F 3 12 [1,1,1,1,0,1,0] m K n (fB 64 [(0,V.agg [V.sl 53 kR none f,V.sl 57 kZ none a,V.sl 59 kL none b]),(1,V.box 1 0),(2,V.box 2 0),(3,V.box 3 0),(4,V.int .i64 l),(11,V.int .i64 i),(12,V.int .i64 g),(24,V.sl 57 kZ none k),(25,V.int .i64 h),(26,V.int .i64 j),(51,V.tup []),(52,V.tup [])] [(3,[V.nilsl,V.nilsl,V.nilsl]),(2,[V.nilsl,V.nilsl,V.nilsl]),(1,[V.sl 53 kR none e,V.sl 57 kZ none d,V.sl 59 kL none c])]):Option V)
noncomputable def Vx:=fun F o n f a b m j h l i k g e d c K=>(bR eE G9 F 3 12 [1,1,1,1,0,1,0] o K n (fB 64 [(0,V.agg [V.sl 53 kR none f,V.sl 57 kZ none a,V.sl 59 kL none b]),(1,V.box 1 0),(2,V.box 2 0),(3,V.box 3 0),(4,V.int .i64 m),(11,V.int .i64 j),(12,V.int .i64 h),(24,V.sl 57 kZ none l),(25,V.int .i64 i),(26,V.int .i64 k),(51,V.tup []),(52,V.tup [])] [(3,[V.sl 3 [Kd.int .i64] (some 40000) g,V.nilsl,V.nilsl]),(2,[V.nilsl,V.nilsl,V.nilsl]),(1,[V.sl 53 kR none e,V.sl 57 kZ none d,V.sl 59 kL none c])]):Option V)
noncomputable def Oo:=fun F r n h a b q s k i o j m l p f e g d c K=>(bR eE G9 F 3 12 [1,1,1,1,0,1,0,0,1,1,0,0,1,1,0,1,0] r K n (fB 64 [(0,V.agg [V.sl 53 kR none h,V.sl 57 kZ none a,V.sl 59 kL none b]),(1,V.box 1 0),(2,V.box 2 0),(3,V.box 3 0),(4,V.int .i64 q),(6,V.box 6 0),(7,V.sl 3 [Kd.int .i64] (some 7) s),(11,V.int .i64 k),(12,V.int .i64 i),(24,V.sl 57 kZ none o),(25,V.int .i64 j),(26,V.int .i64 m),(32,V.int .i64 l),(33,V.int .i64 p),(51,V.tup []),(52,V.tup [])] [(6,[V.str f,V.sl 51 kE none e]),(3,[V.nilsl,V.nilsl,V.nilsl]),(2,[V.nilsl,V.nilsl,V.nilsl]),(1,[V.sl 53 kR none g,V.sl 57 kZ none d,V.sl 59 kL none c])]):Option V)
noncomputable def Vy:=fun F p n f a b o i g m h l j k e d c K=>(bR eE G9 F 3 12 [1,1,1,1,1,0,1,0] p K n (fB 64 [(0,V.agg [V.sl 53 kR none f,V.sl 57 kZ none a,V.sl 59 kL none b]),(1,V.box 1 0),(2,V.box 2 0),(3,V.box 3 0),(4,V.int .i64 o),(11,V.int .i64 i),(12,V.int .i64 g),(24,V.sl 57 kZ none m),(25,V.int .i64 h),(26,V.int .i64 l),(51,V.int .i64 j),(52,V.int .i64 k)] [(3,[V.nilsl,V.nilsl,V.nilsl]),(2,[V.nilsl,V.nilsl,V.nilsl]),(1,[V.sl 53 kR none e,V.sl 57 kZ none d,V.sl 59 kL none c])]):Option V)
noncomputable def Oq:=fun F s n h a b r t l j p k o m q f e i g d c K=>(bR eE G9 F 3 12 [1,1,1,1,0,1,0,0,1,1,0,0,1,1,0,1,0] s K n (fB 64 [(0,V.agg [V.sl 53 kR none h,V.sl 57 kZ none a,V.sl 59 kL none b]),(1,V.box 1 0),(2,V.box 2 0),(3,V.box 3 0),(4,V.int .i64 r),(6,V.box 6 0),(7,V.sl 3 [Kd.int .i64] (some 7) t),(11,V.int .i64 l),(12,V.int .i64 j),(24,V.sl 57 kZ none p),(25,V.int .i64 k),(26,V.int .i64 o),(32,V.int .i64 m),(33,V.int .i64 q),(51,V.tup []),(52,V.tup [])] [(6,[V.str f,V.sl 51 kE none e]),(3,[V.sl 3 [Kd.int .i64] (some 40000) i,V.nilsl,V.nilsl]),(2,[V.nilsl,V.nilsl,V.nilsl]),(1,[V.sl 53 kR none g,V.sl 57 kZ none d,V.sl 59 kL none c])]):Option V)
noncomputable def Vz:=fun F q n f a b p j h o i m k l g e d c K=>(bR eE G9 F 3 12 [1,1,1,1,1,0,1,0] q K n (fB 64 [(0,V.agg [V.sl 53 kR none f,V.sl 57 kZ none a,V.sl 59 kL none b]),(1,V.box 1 0),(2,V.box 2 0),(3,V.box 3 0),(4,V.int .i64 p),(11,V.int .i64 j),(12,V.int .i64 h),(24,V.sl 57 kZ none o),(25,V.int .i64 i),(26,V.int .i64 m),(51,V.int .i64 k),(52,V.int .i64 l)] [(3,[V.sl 3 [Kd.int .i64] (some 40000) g,V.nilsl,V.nilsl]),(2,[V.nilsl,V.nilsl,V.nilsl]),(1,[V.sl 53 kR none e,V.sl 57 kZ none d,V.sl 59 kL none c])]):Option V)
noncomputable def Dk:=fun F o n f a b m j h l i k g e d c K=>(bR eE G9 F 3 12 [1,1,1,1,0,1,0] o K n (fB 64 [(0,V.agg [V.sl 53 kR none f,V.sl 57 kZ none a,V.sl 59 kL none b]),(1,V.box 1 0),(2,V.box 2 0),(3,V.box 3 0),(4,V.int .i64 m),(11,V.int .i64 j),(12,V.int .i64 h),(24,V.sl 57 kZ none l),(25,V.int .i64 i),(26,V.int .i64 k),(51,V.tup []),(52,V.tup [])] [(3,[V.nilsl,V.sl 32 kW (some 40001) g,V.nilsl]),(2,[V.nilsl,V.nilsl,V.nilsl]),(1,[V.sl 53 kR none e,V.sl 57 kZ none d,V.sl 59 kL none c])]):Option V)
noncomputable def Ot:=fun F q n g a c p j h o i m k l b f e d K=>(bR eE G9 F 3 12 [1,1,1,1,1,0,1,0] q K n (fB 64 [(0,V.agg [V.sl 53 kR none g,V.sl 57 kZ none a,V.sl 59 kL none c]),(1,V.box 1 0),(2,V.box 2 0),(3,V.box 3 0),(4,V.int .i64 p),(11,V.int .i64 j),(12,V.int .i64 h),(24,V.sl 57 kZ none o),(25,V.int .i64 i),(26,V.int .i64 m),(51,V.int .i64 k),(52,V.int .i64 l)] [(3,[V.nilsl,V.nilsl,V.sl 3 [Kd.int .i64] (some 40002) b]),(2,[V.nilsl,V.nilsl,V.nilsl]),(1,[V.sl 53 kR none f,V.sl 57 kZ none e,V.sl 59 kL none d])]):Option V)
noncomputable def xx:=fun F p n f a b o k i m j l g h e d c K=>(bR eE G9 F 3 12 [1,1,1,1,0,1,0] p K n (fB 64 [(0,V.agg [V.sl 53 kR none f,V.sl 57 kZ none a,V.sl 59 kL none b]),(1,V.box 1 0),(2,V.box 2 0),(3,V.box 3 0),(4,V.int .i64 o),(11,V.int .i64 k),(12,V.int .i64 i),(24,V.sl 57 kZ none m),(25,V.int .i64 j),(26,V.int .i64 l),(51,V.tup []),(52,V.tup [])] [(3,[V.sl 3 [Kd.int .i64] (some 40000) g,V.sl 32 kW (some 40001) h,V.nilsl]),(2,[V.nilsl,V.nilsl,V.nilsl]),(1,[V.sl 53 kR none e,V.sl 57 kZ none d,V.sl 59 kL none c])]):Option V)
noncomputable def GI:=fun F r n g a c q k i p j o l m h b f e d K=>(bR eE G9 F 3 12 [1,1,1,1,1,0,1,0] r K n (fB 64 [(0,V.agg [V.sl 53 kR none g,V.sl 57 kZ none a,V.sl 59 kL none c]),(1,V.box 1 0),(2,V.box 2 0),(3,V.box 3 0),(4,V.int .i64 q),(11,V.int .i64 k),(12,V.int .i64 i),(24,V.sl 57 kZ none p),(25,V.int .i64 j),(26,V.int .i64 o),(51,V.int .i64 l),(52,V.int .i64 m)] [(3,[V.sl 3 [Kd.int .i64] (some 40000) h,V.nilsl,V.sl 3 [Kd.int .i64] (some 40002) b]),(2,[V.nilsl,V.nilsl,V.nilsl]),(1,[V.sl 53 kR none f,V.sl 57 kZ none e,V.sl 59 kL none d])]):Option V)
noncomputable def GJ:=fun F s n h a b r t l j p k o m q f e i g d c K=>(bR eE G9 F 3 12 [1,1,1,1,0,1,0,0,1,1,0,0,1,1,0,1,0] s K n (fB 64 [(0,V.agg [V.sl 53 kR none h,V.sl 57 kZ none a,V.sl 59 kL none b]),(1,V.box 1 0),(2,V.box 2 0),(3,V.box 3 0),(4,V.int .i64 r),(6,V.box 6 0),(7,V.sl 3 [Kd.int .i64] (some 7) t),(11,V.int .i64 l),(12,V.int .i64 j),(24,V.sl 57 kZ none p),(25,V.int .i64 k),(26,V.int .i64 o),(32,V.int .i64 m),(33,V.int .i64 q),(51,V.tup []),(52,V.tup [])] [(6,[V.str f,V.sl 51 kE none e]),(3,[V.nilsl,V.sl 32 kW (some 40001) i,V.nilsl]),(2,[V.nilsl,V.nilsl,V.nilsl]),(1,[V.sl 53 kR none g,V.sl 57 kZ none d,V.sl 59 kL none c])]):Option V)
noncomputable def Pw:=fun F q n f a b p j h o i m k l g e d c K=>(bR eE G9 F 3 12 [1,1,1,1,1,0,1,0] q K n (fB 64 [(0,V.agg [V.sl 53 kR none f,V.sl 57 kZ none a,V.sl 59 kL none b]),(1,V.box 1 0),(2,V.box 2 0),(3,V.box 3 0),(4,V.int .i64 p),(11,V.int .i64 j),(12,V.int .i64 h),(24,V.sl 57 kZ none o),(25,V.int .i64 i),(26,V.int .i64 m),(51,V.int .i64 k),(52,V.int .i64 l)] [(3,[V.nilsl,V.sl 32 kW (some 40001) g,V.nilsl]),(2,[V.nilsl,V.nilsl,V.nilsl]),(1,[V.sl 53 kR none e,V.sl 57 kZ none d,V.sl 59 kL none c])]):Option V)
noncomputable def GK:=fun F t n h a b s u m k q l p o r f e i j g d c K=>(bR eE G9 F 3 12 [1,1,1,1,0,1,0,0,1,1,0,0,1,1,0,1,0] t K n (fB 64 [(0,V.agg [V.sl 53 kR none h,V.sl 57 kZ none a,V.sl 59 kL none b]),(1,V.box 1 0),(2,V.box 2 0),(3,V.box 3 0),(4,V.int .i64 s),(6,V.box 6 0),(7,V.sl 3 [Kd.int .i64] (some 7) u),(11,V.int .i64 m),(12,V.int .i64 k),(24,V.sl 57 kZ none q),(25,V.int .i64 l),(26,V.int .i64 p),(32,V.int .i64 o),(33,V.int .i64 r),(51,V.tup []),(52,V.tup [])] [(6,[V.str f,V.sl 51 kE none e]),(3,[V.sl 3 [Kd.int .i64] (some 40000) i,V.sl 32 kW (some 40001) j,V.nilsl]),(2,[V.nilsl,V.nilsl,V.nilsl]),(1,[V.sl 53 kR none g,V.sl 57 kZ none d,V.sl 59 kL none c])]):Option V)
noncomputable def Px:=fun F r n f a b q k i p j o l m g h e d c K=>(bR eE G9 F 3 12 [1,1,1,1,1,0,1,0] r K n (fB 64 [(0,V.agg [V.sl 53 kR none f,V.sl 57 kZ none a,V.sl 59 kL none b]),(1,V.box 1 0),(2,V.box 2 0),(3,V.box 3 0),(4,V.int .i64 q),(11,V.int .i64 k),(12,V.int .i64 i),(24,V.sl 57 kZ none p),(25,V.int .i64 j),(26,V.int .i64 o),(51,V.int .i64 l),(52,V.int .i64 m)] [(3,[V.sl 3 [Kd.int .i64] (some 40000) g,V.sl 32 kW (some 40001) h,V.nilsl]),(2,[V.nilsl,V.nilsl,V.nilsl]),(1,[V.sl 53 kR none e,V.sl 57 kZ none d,V.sl 59 kL none c])]):Option V)
noncomputable def GL:=fun F r n g a c q k i p j o l m h b f e d K=>(bR eE G9 F 3 12 [1,1,1,1,1,0,1,0] r K n (fB 64 [(0,V.agg [V.sl 53 kR none g,V.sl 57 kZ none a,V.sl 59 kL none c]),(1,V.box 1 0),(2,V.box 2 0),(3,V.box 3 0),(4,V.int .i64 q),(11,V.int .i64 k),(12,V.int .i64 i),(24,V.sl 57 kZ none p),(25,V.int .i64 j),(26,V.int .i64 o),(51,V.int .i64 l),(52,V.int .i64 m)] [(3,[V.nilsl,V.sl 32 kW (some 40001) h,V.sl 3 [Kd.int .i64] (some 40002) b]),(2,[V.nilsl,V.nilsl,V.nilsl]),(1,[V.sl 53 kR none f,V.sl 57 kZ none e,V.sl 59 kL none d])]):Option V)
noncomputable def GM:=fun F s n g a c r l j q k p m o h i b f e d K=>(bR eE G9 F 3 12 [1,1,1,1,1,0,1,0] s K n (fB 64 [(0,V.agg [V.sl 53 kR none g,V.sl 57 kZ none a,V.sl 59 kL none c]),(1,V.box 1 0),(2,V.box 2 0),(3,V.box 3 0),(4,V.int .i64 r),(11,V.int .i64 l),(12,V.int .i64 j),(24,V.sl 57 kZ none q),(25,V.int .i64 k),(26,V.int .i64 p),(51,V.int .i64 m),(52,V.int .i64 o)] [(3,[V.sl 3 [Kd.int .i64] (some 40000) h,V.sl 32 kW (some 40001) i,V.sl 3 [Kd.int .i64] (some 40002) b]),(2,[V.nilsl,V.nilsl,V.nilsl]),(1,[V.sl 53 kR none f,V.sl 57 kZ none e,V.sl 59 kL none d])]):Option V)
theorem bPl_top (F xs zs a) (K:V→Option V):
 bE eE (bC eE G9 F 3) F 12 [V.agg [V.sl 53 kR none xs,V.sl 57 kZ none zs,V.sl 59 kL none a]] K=
 bPl_L0 F [] F xs zs a 0 (ay xs) 0 xs zs a K:=by kernel_rfl
theorem Fh (F n e b d i h g c a f K):
 bPl_L0 F [] (n+1) e b d i h g c a f K=
 sel (aR g h) (On F [] n e b d (bg .i64 i 1) h (bg .i64 g 1) [V.int .i64 (bg .i64 i 1)] c a f K) (Vw F [] F e b d i h g a (ay a) 0 c a f K):=by kernel_rfl
theorem Fj (F n f c e j i h b d a g K):
 On F [] (n+1) f c e j i h b d a g K=
 let A:=bg .i64 j 1;sel (aR h i) (sel (dh b [V.int .i64 A]) (On F [] n f c e A i (bg .i64 h 1) (aX b [V.int .i64 A]) d a g K) none) (Vx F [] F f c e j i h a (ay a) 0 b d a g K):=by kernel_rfl
theorem Fp (F n h d e l k j c i a g f b K):
 Vw F [] (n+1) h d e l k j c i a g f b K=
 let A:=jM (ai (aG c a) 1);sel (aR a i) (sel (ak (ax 0 a) (aR a (ay c))) (Oo F [n] F h d e l [] k j c i a (ay A) 0 (aF (ai (aG c a) 0)) A g f b K) none) (Vy F [] F h d e l k j c i a (ay b) 0 g f b K):=by kernel_rfl
theorem Fq (F n h d e m l k c j a i g f b K):
 Vx F [] (n+1) h d e m l k c j a i g f b K=
 let A:=jM (ai (aG c a) 1);sel (aR a j) (sel (ak (ax 0 a) (aR a (ay c))) (Oq F [n] F h d e m [] l k c j a (ay A) 0 (aF (ai (aG c a) 0)) A i g f b K) none) (Vz F [] F h d e m l k c j a (ay b) 0 i g f b K):=by kernel_rfl
theorem Fs (F r n f a b s q j i o k m l p h g e d c K):
 Oo F [r] (n+1) f a b s q j i o k m l p h g e d c K=
 let A:=bg .i64 s 1;sel (aR p l) (sel (dh q [V.int .i64 A]) (Oo F [r] n f a b A (aX q [V.int .i64 A]) j i o k m l (bg .i64 p 1) h g e d c K) none) (Dk F [] r f a b s j i o k (bg .i64 m 1) [V.sl 3 [Kd.int .i64] none q] e d c K):=by kernel_rfl
theorem Fu (F n f a b o k i m j l g h e d c K):
 Vy F [] (n+1) f a b o k i m j l g h e d c K=
 sel (aR h g) (Ot F [] n f a b (bg .i64 o 1) k i m j l g (bg .i64 h 1) [V.int .i64 (bg .i64 o 1)] e d c K) (K (V.agg [V.nilsl,V.nilsl,V.nilsl])):=by kernel_rfl
theorem Fv (F s n f a b t r k j p l o m q i h g e d c K):
 Oq F [s] (n+1) f a b t r k j p l o m q i h g e d c K=
 let A:=bg .i64 t 1;sel (aR q m) (sel (dh r [V.int .i64 A]) (Oq F [s] n f a b A (aX r [V.int .i64 A]) k j p l o m (bg .i64 q 1) i h g e d c K) none) (xx F [] s f a b t k j p l (bg .i64 o 1) g [V.sl 3 [Kd.int .i64] none r] e d c K):=by kernel_rfl
theorem Fw (F n g b c p l j o k m h i a f e d K):
 Vz F [] (n+1) g b c p l j o k m h i a f e d K=
 sel (aR i h) (GI F [] n g b c (bg .i64 p 1) l j o k m h (bg .i64 i 1) a [V.int .i64 (bg .i64 p 1)] f e d K) (K (V.agg [V.sl 3 [Kd.int .i64] none a,V.nilsl,V.nilsl])):=by kernel_rfl
theorem Fx (F n h d e m l k c j a i g f b K):
 Dk F [] (n+1) h d e m l k c j a i g f b K=
 let A:=jM (ai (aG c a) 1);sel (aR a j) (sel (ak (ax 0 a) (aR a (ay c))) (GJ F [n] F h d e m [] l k c j a (ay A) 0 (aF (ai (aG c a) 0)) A i g f b K) none) (Pw F [] F h d e m l k c j a (ay b) 0 i g f b K):=by kernel_rfl
theorem Fy (F n g b c p k j o l m h i a f e d K):
 Ot F [] (n+1) g b c p k j o l m h i a f e d K=
 let A:=bg .i64 p 1;sel (aR i h) (sel (dh a [V.int .i64 A]) (Ot F [] n g b c A k j o l m h (bg .i64 i 1) (aX a [V.int .i64 A]) f e d K) none) (K (V.agg [V.nilsl,V.nilsl,V.sl 3 [Kd.int .i64] none a])):=by kernel_rfl
theorem Cv (F n h d e o m l c k a i j g f b K):
 xx F [] (n+1) h d e o m l c k a i j g f b K=
 let A:=jM (ai (aG c a) 1);sel (aR a k) (sel (ak (ax 0 a) (aR a (ay c))) (GK F [n] F h d e o [] m l c k a (ay A) 0 (aF (ai (aG c a) 0)) A i j g f b K) none) (Px F [] F h d e o m l c k a (ay b) 0 i j g f b K):=by kernel_rfl
theorem Cw (F n h c d q l k p m o i j b a g f e K):
 GI F [] (n+1) h c d q l k p m o i j b a g f e K=
 let A:=bg .i64 q 1;sel (aR j i) (sel (dh a [V.int .i64 A]) (GI F [] n h c d A l k p m o i (bg .i64 j 1) b (aX a [V.int .i64 A]) g f e K) none) (K (V.agg [V.sl 3 [Kd.int .i64] none b,V.nilsl,V.sl 3 [Kd.int .i64] none a])):=by kernel_rfl
theorem Cx (F s n g b c t r k j p l o m q i h a f e d K):
 GJ F [s] (n+1) g b c t r k j p l o m q i h a f e d K=
 let A:=[V.sl 3 [Kd.int .i64] none r];let B:=bg .i64 t 1;sel (aR q m) (sel (dh r [V.int .i64 B]) (GJ F [s] n g b c B (aX r [V.int .i64 B]) k j p l o m (bg .i64 q 1) i h a f e d K) none) (sel (dh a A) (Dk F [] s g b c t k j p l (bg .i64 o 1) (aX a A) f e d K) none):=by kernel_rfl
theorem Cy (F n g b c p l j o k m h i a f e d K):
 Pw F [] (n+1) g b c p l j o k m h i a f e d K=
 sel (aR i h) (GL F [] n g b c (bg .i64 p 1) l j o k m h (bg .i64 i 1) a [V.int .i64 (bg .i64 p 1)] f e d K) (K (V.agg [V.nilsl,V.sl 32 kW none a,V.nilsl])):=by kernel_rfl
theorem Cz (F t n g b c u s l k q m p o r j i h a f e d K):
 GK F [t] (n+1) g b c u s l k q m p o r j i h a f e d K=
 let A:=[V.sl 3 [Kd.int .i64] none s];let B:=bg .i64 u 1;sel (aR r o) (sel (dh s [V.int .i64 B]) (GK F [t] n g b c B (aX s [V.int .i64 B]) l k q m p o (bg .i64 r 1) j i h a f e d K) none) (sel (dh a A) (xx F [] t g b c u l k q m (bg .i64 p 1) h (aX a A) f e d K) none):=by kernel_rfl
theorem CB (F n h c d q m k p l o i j a b g f e K):
 Px F [] (n+1) h c d q m k p l o i j a b g f e K=
 sel (aR j i) (GM F [] n h c d (bg .i64 q 1) m k p l o i (bg .i64 j 1) a b [V.int .i64 (bg .i64 q 1)] g f e K) (K (V.agg [V.sl 3 [Kd.int .i64] none a,V.sl 32 kW none b,V.nilsl])):=by kernel_rfl
theorem CF (F n h c d q l k p m o i j b a g f e K):
 GL F [] (n+1) h c d q l k p m o i j b a g f e K=
 let A:=bg .i64 q 1;sel (aR j i) (sel (dh a [V.int .i64 A]) (GL F [] n h c d A l k p m o i (bg .i64 j 1) b (aX a [V.int .i64 A]) g f e K) none) (K (V.agg [V.nilsl,V.sl 32 kW none b,V.sl 3 [Kd.int .i64] none a])):=by kernel_rfl
theorem CG (F n i d e r m l q o p j k b c a h g f K):
 GM F [] (n+1) i d e r m l q o p j k b c a h g f K=
 let A:=bg .i64 r 1;sel (aR k j) (sel (dh a [V.int .i64 A]) (GM F [] n i d e A m l q o p j (bg .i64 k 1) b c (aX a [V.int .i64 A]) h g f K) none) (K (V.agg [V.sl 3 [Kd.int .i64] none b,V.sl 32 kW none c,V.sl 3 [Kd.int .i64] none a])):=by kernel_rfl
theorem b31B_top (F xs zs a) (K:V→Option V):
 bE eE (bC eE bB1 F 3) F 3 [V.agg [V.sl 53 kR none xs,V.sl 57 kZ none zs,V.sl 59 kL none a]] K=
 let A:=Qs xs zs a;let C:=K (V.bool false);let D:=V.sl 53 kR none xs;let E:=V.sl 57 kZ none zs;let G:=V.sl 59 kL none a;let L:=K (V.bool true);let B:=Nv D E G;let H:=V.sl 53 kR none (KB A);let I:=V.sl 57 kZ none (KD A);let J:=V.sl 59 kL none (KF A);sel (tl3 D E G) (sel (aL (li9 xs zs a)) L (sel B (sel (aL (ieq (CO xs zs a) 0)) (sel (seq A []) (sel B (K (V.bool (aL (Kt xs zs a)))) none) C) (sel (Nv H I J) (sel (ak (ieq (Ee A) 0) (ieq (Ud A) 0)) (sel (sm3 D E G H I J) (sel (eq3 xs zs a (KB A) (KD A) (KF A)) (sel (seq (Qs (KB A) (KD A) (KF A)) A) (sel (ieq (CO (KB A) (KD A) (KF A)) 0) (sel B (sel (sqW (UO A) (UQ A) (UR A) (plR xs) (plZ xs zs) (plL xs zs a)) L none) none) C) C) C) none) C) none)) none)) none:=by kernel_rfl
theorem eRx {f:Nat} {args:ah} {r:V} (h:aj Rx.rE f args r):aj eE f args r:=h
theorem VA {f:Nat} {x y z r:V} (h:Rx.Ee x y z=true) (c:aj eE f [.agg [.sl 53 kR none (bD x),.sl 57 kZ none (bD y),.sl 59 kL none (bD z)]] r):aj eE f [.agg [x,y,z]] r:=by intro G w vs d b a;obtain⟨v,rfl,e⟩:=zx a;exact c G w _ d b (.cons (Rx.Om h e) .nil)
theorem bTxS_ok (x y z:V) (a:Nv x y z=true):aj eE 7 [.agg [x,y,z]] (.tup [.str (Rx.Qs (bD x) (bD y) (bD z)),.int .i64 (Rx.CO (bD x) (bD y) (bD z))]):=eRx (Rx.Zj x y z a)
theorem bRgS_ok (x y z:V) (a:Nv x y z=true):aj eE 8 [.agg [x,y,z]] (.bool (Rx.Kt (bD x) (bD y) (bD z))):=eRx (Rx.Zk x y z a)
theorem bSmS_ok (x y z a c b:V) (d:sm3 x y z a c b=true):aj eE 10 [.agg [x,y,z],.agg [a,c,b]] (.bool (eq3 (bD x) (bD y) (bD z) (bD a) (bD c) (bD b))):=eRx (Rx.Zo x y z a c b d)
theorem bL9S_ok (x y z:V) (a:tl3 x y z=true):aj eE 6 [.agg [x,y,z]] (.bool (Rx.li9 (bD x) (bD y) (bD z))):=VA a (eRx (Rx.Zq _ _ _ rfl))
theorem bB0_ok:aZ eE G9:=by
 unfold G9;refine aZ.cons (fun args r h=>?_) (aZ.cons (fun args r h=>?_) (aZ.cons (fun args r h=>?_) (aZ.cons (fun args r h=>?_) (aZ.cons (fun args r h=>?_) (aZ.cons (fun args r h=>?_) aZ.nil)))));all_goals (revert h;intro h;first|unfold bTxS at h|unfold bRgS at h|unfold bSmS at h|unfold bL9S at h|unfold lTbS at h|unfold lSwS at h)
 all_goals (split at h;rotate_left; · cases h)
 all_goals (simp only[aT,bP] at h;obtain⟨a,rfl⟩:=h)
 ·exact bTxS_ok _ _ _ a
 ·exact bRgS_ok _ _ _ a
 ·exact bSmS_ok _ _ _ _ _ _ a
 ·exact bL9S_ok _ _ _ a
 ·exact lTbS_ok _ rfl
 exact lSwS_ok _ _ _ _ _ _ _ _ _ _ _ _ _ _ _ _ _ _ _ _ _ _ _ _ a
theorem jB: ∀(n:Nat) (k:Int),nums k (n+1)=nums k n++[.int .i64 (k+(n:Int)+1)]
 |0,k=>by show[V.int .i64 (k+1)]=[]++[V.int .i64 (k+0+1)];rw[FD,Int.add_zero]
 |n+1,k=>by show V.int .i64 (k+1)::nums (k+1) (n+1)=V.int .i64 (k+1)::nums (k+1) n++_;rw[jB n (k+1),Nj,show(k+1+(n:Int)+1)=(k+((n+1:Nat):Int)+1) by omega]
theorem iR: ∀(n:Nat) (k:Int),(nums k n).length=n
 |0,_=>rfl
 |n+1,k=>by show(nums (k+1) n).length+1=n+1;rw[iR n]
theorem Zr: ∀(l:ah) (k:Int),(Ug k l).length=l.length
 |[],_=>rfl
 |z::l,k=>by show(Ug _ l).length+1=l.length+1;rw[Zr l]
theorem uL {k:Int} (a:0≤k) (h:k≤1000000):bg .i64 k 1=k+1:=cr (by omega)
section
variable (F:Nat) (xs zs ls ys ws ms:ah) (p:ah) (wP wQ x25 Ld:Int) (K:V→Option V)
theorem Nb (x24:ah) (hb:ls.length≤1000): ∀(j i n:Nat) (k:Int),i+j=ls.length→j<n→0≤k→k≤100000→
  Ot F [] n ys ws ms (k+(i:Int)) wP wQ x24 x25 Ld (ay ls) (i:Int) (nums k i) xs zs ls K=K (V.agg [V.nilsl,V.nilsl,V.sl 3 kI none (nums k ls.length)])
 |0,i,n,k,hi,hn,h0,h1=>by
  obtain⟨m,rfl⟩: ∃m,n=m+1:=⟨n-1,by omega⟩
  obtain rfl:i=ls.length:=by omega
  (rw[Fy];(conv=>zeta);rw[show aR ((ls.length:Nat):Int) (ay ls)=false from bB (by rw[aC];omega)])
  rfl
 |j+1,i,n,k,hi,hn,h0,h1=>by
  obtain⟨m,rfl⟩: ∃m,n=m+1:=⟨n-1,by omega⟩
  (rw[Fy];(conv=>zeta);rw[show aR (i:Int) (ay ls)=true from bu (by rw[aC];omega),uL (by omega) (by omega),lX (by omega),okA _ _ (by rw[iR];simp only[dN,mr];omega),gt,gt])
  have:=Nb x24 hb j (i+1) m k (by omega) (by omega) h0 h1;rw[jB,show(k+((i+1:Nat):Int))=k+(i:Int)+1 by omega] at this;exact this
theorem lka0 (x24:ah) (hb:ls.length≤1000) (n:Nat) (hn:ls.length<n) (k:Int) (h0:0≤k) (h1:k≤100000):
  Vy F [] n ys ws ms k wP wQ x24 x25 Ld (ay ls) 0 xs zs ls K=K (V.agg [V.nilsl,V.nilsl,Xk (nums k ls.length)]):=by
 obtain⟨m,rfl⟩: ∃m,n=m+1:=⟨n-1,by omega⟩
 cases ls with
 |nil=>rw[Fu];rfl
 |cons x l=>
  rw[Fu,show aR 0 (ay (x::l))=true from bu (by rw[aC,dN];omega),uL h0 (by omega),gt];exact Nb F xs zs (x::l) ys ws ms wP wQ x25 Ld K x24 hb l.length 1 m k (by rw[dN];omega) (by rw[dN] at hn;omega) h0 h1
theorem Nc (x24 q:ah) (hb:ls.length≤1000): ∀(j i n:Nat) (k:Int),i+j=ls.length→j<n→0≤k→k≤100000→
  GL F [] n ys ws ms (k+(i:Int)) wP wQ x24 x25 Ld (ay ls) (i:Int) q (nums k i) xs zs ls K=K (V.agg [V.nilsl,V.sl 32 kW none q,V.sl 3 kI none (nums k ls.length)])
 |0,i,n,k,hi,hn,h0,h1=>by
  obtain⟨m,rfl⟩: ∃m,n=m+1:=⟨n-1,by omega⟩
  obtain rfl:i=ls.length:=by omega
  (rw[CF];(conv=>zeta);rw[show aR ((ls.length:Nat):Int) (ay ls)=false from bB (by rw[aC];omega)])
  rfl
 |j+1,i,n,k,hi,hn,h0,h1=>by
  obtain⟨m,rfl⟩: ∃m,n=m+1:=⟨n-1,by omega⟩
  (rw[CF];(conv=>zeta);rw[show aR (i:Int) (ay ls)=true from bu (by rw[aC];omega),uL (by omega) (by omega),lX (by omega),okA _ _ (by rw[iR];simp only[dN,mr];omega),gt,gt])
  have:=Nc x24 q hb j (i+1) m k (by omega) (by omega) h0 h1;rw[jB,show(k+((i+1:Nat):Int))=k+(i:Int)+1 by omega] at this;exact this
theorem lka1 (x24 q:ah) (hb:ls.length≤1000) (n:Nat) (hn:ls.length<n) (k:Int) (h0:0≤k) (h1:k≤100000):
  Pw F [] n ys ws ms k wP wQ x24 x25 Ld (ay ls) 0 q xs zs ls K=K (V.agg [V.nilsl,V.sl 32 kW none q,Xk (nums k ls.length)]):=by
 obtain⟨m,rfl⟩: ∃m,n=m+1:=⟨n-1,by omega⟩
 cases ls with
 |nil=>rw[Cy];rfl
 |cons x l=>
  rw[Cy,show aR 0 (ay (x::l))=true from bu (by rw[aC,dN];omega),uL h0 (by omega),gt];exact Nc F xs zs (x::l) ys ws ms wP wQ x25 Ld K x24 q hb l.length 1 m k (by rw[dN];omega) (by rw[dN] at hn;omega) h0 h1
theorem ina_4 (a:ah) (b m:Nat) (c:af) (d:ah) (g:m≤1000): ∀(j i n:Nat) (k:Int),i+j=m→j<n→0≤k→k≤100000→
  Oo F [b] n ys ws ms (k+(i:Int)) (nums k i) wP wQ a x25 Ld (m:Int) (i:Int) c d xs zs ls K=Dk F [] b ys ws ms (k+(m:Int)) wP wQ a x25 (bg .i64 Ld 1) [V.sl 3 kI none (nums k m)] xs zs ls K
 |0,i,n,k,h,l,e,f=>by
  obtain⟨r,rfl⟩: ∃r,n=r+1:=⟨n-1,by omega⟩
  obtain rfl:i=m:=by omega
  (rw[Fs];(conv=>zeta);rw[show aR (i:Int) (i:Int)=false from bB (by omega)])
  rfl
 |j+1,i,n,k,h,l,e,f=>by
  obtain⟨r,rfl⟩: ∃r,n=r+1:=⟨n-1,by omega⟩
  (rw[Fs];(conv=>zeta);rw[show aR (i:Int) (m:Int)=true from bu (by omega),uL (by omega) (by omega),lX (by omega),okA _ _ (by rw[iR];simp only[dN,mr];omega),gt,gt])
  have:=ina_4 a b m c d g j (i+1) r k (by omega) (by omega) e f;rw[jB,show(k+((i+1:Nat):Int))=k+(i:Int)+1 by omega] at this;exact this
theorem ina_12 (a:ah) (b m:Nat) (c:af) (d q:ah) (g:m≤1000): ∀(j i n:Nat) (k:Int),i+j=m→j<n→0≤k→k≤100000→
  GJ F [b] n ys ws ms (k+(i:Int)) (nums k i) wP wQ a x25 Ld (m:Int) (i:Int) c d q xs zs ls K=sel (dh q [V.sl 3 kI none (nums k m)]) (Dk F [] b ys ws ms (k+(m:Int)) wP wQ a x25 (bg .i64 Ld 1) (aX q [V.sl 3 kI none (nums k m)]) xs zs ls K) none
 |0,i,n,k,h,l,e,f=>by
  obtain⟨r,rfl⟩: ∃r,n=r+1:=⟨n-1,by omega⟩
  obtain rfl:i=m:=by omega
  (rw[Cx];(conv=>zeta);rw[show aR (i:Int) (i:Int)=false from bB (by omega)])
  rfl
 |j+1,i,n,k,h,l,e,f=>by
  obtain⟨r,rfl⟩: ∃r,n=r+1:=⟨n-1,by omega⟩
  (rw[Cx];(conv=>zeta);rw[show aR (i:Int) (m:Int)=true from bu (by omega),uL (by omega) (by omega),lX (by omega),okA _ _ (by rw[iR];simp only[dN,mr];omega),gt,gt])
  have:=ina_12 a b m c d q g j (i+1) r k (by omega) (by omega) e f;rw[jB,show(k+((i+1:Nat):Int))=k+(i:Int)+1 by omega] at this;exact this
theorem zma (p:1100≤F) (f:ls.length≤1000) (s:zs.length≤1000) (j: ∀z∈zs,(jM (ai z 1)).length≤50): ∀(d a:ah) (n:Nat) (k:Int) (q:ah),a++d=zs→d.length<n→q.length=a.length→0≤k→k+50*(d.length:Int)≤100000→
  Dk F [] n ys ws ms k wP wQ zs (ay zs) (a.length:Int) q xs zs ls K=K (V.agg [V.nilsl,V.sl 32 kW none (q++Ug k d),Xk (nums (CX k d) ls.length)])
 |[],a,n,k,q,e,g,h,b,c=>by
  obtain⟨r,rfl⟩: ∃r,n=r+1:=⟨n-1,by omega⟩
  rw[FC] at e;subst e
  (rw[Fx];(conv=>zeta);rw[show aR ((a.length:Nat):Int) (ay a)=false from bB (by rw[aC];omega),gf])
  rw[lka1 F xs a ls ys ws ms wP wQ (ay a) (a.length:Int) K a q f F (by omega) k b (by simp only[mr] at c;omega)];simp only[Ug,CX,FC]
 |z::d,a,n,k,q,e,g,h,b,c=>by
  obtain⟨r,rfl⟩: ∃r,n=r+1:=⟨n-1,by omega⟩
  have m:zs.length=a.length+(d.length+1):=by rw[←e];simp
  have o:aG zs (a.length:Int)=z:=by rw[fo,←e,l7,aa6 (by omega),WZ];rfl
  have t:=j z (by rw[←e];simp);simp only[dN] at c g
  (rw[Fx];(conv=>zeta);rw[XL (xs:=zs) (i:=a.length) (by omega),show aR (a.length:Int) (ay zs)=true from bu (by rw[aC];omega),o,gt,gt,aC (jM (ai z 1))])
  have:=ina_12 F xs zs ls ys ws ms wP wQ (ay zs) (a.length:Int) K zs r (jM (ai z 1)).length (aF (ai z 0)) (jM (ai z 1)) q (by omega) (jM (ai z 1)).length 0 F k (by omega) (by omega) b (by omega);rw[show(k+((0:Nat):Int))=k by omega,show nums k 0=[] from rfl] at this;rw[show((0:Nat):Int)=0 from rfl] at this;rw[this,okA _ _ (by simp only[dN,mr];omega),gt,lX (by omega)];have l:=zma p f s j d (a++[z]) r (k+((jM (ai z 1)).length:Int)) (q++[V.sl 3 kI none (nums k (jM (ai z 1)).length)]) (by rw[←e];simp) (by omega) (by simp[h]) (by omega) (by omega);rw[iW] at l;refine Eq.trans l ?_;simp only[Ug,CX,CJ,abu]
theorem zfa (h:1100≤F) (a:ls.length≤1000) (j:zs.length≤1000) (c: ∀z∈zs,(jM (ai z 1)).length≤50) (n:Nat) (k:Int) (f:zs.length<n) (b:0≤k) (e:k+50*(zs.length:Int)≤100000):
  Vw F [] n ys ws ms k wP wQ zs (ay zs) 0 xs zs ls K=K (V.agg [V.nilsl,nzW (Ug k zs),Xk (nums (CX k zs) ls.length)]):=by
 obtain⟨r,rfl⟩: ∃r,n=r+1:=⟨n-1,by omega⟩
 cases zs with
 |nil=>
  (rw[Fp];(conv=>zeta);rw[show aR 0 (ay ([]:ah))=false from rfl,gf])
  rw[lka0 F xs [] ls ys ws ms wP wQ (ay []) 0 K [] a F (by omega) k b (by simp only[mr] at e;omega)];rfl
 |cons z d=>
  have l:=c z rf;simp only[dN] at e f j
  (rw[Fp];(conv=>zeta);rw[show ak (ax 0 0) (aR 0 (ay (z::d)))=true from XL (xs:=z::d) (i:=0) (by simp),show aR 0 (ay (z::d))=true from bu (by rw[aC,dN];omega),show aG (z::d) 0=z from rfl,gt,gt,aC (jM (ai z 1))])
  have:=ina_4 F xs (z::d) ls ys ws ms wP wQ (ay (z::d)) 0 K (z::d) r (jM (ai z 1)).length (aF (ai z 0)) (jM (ai z 1)) (by omega) (jM (ai z 1)).length 0 F k (by omega) (by omega) b (by omega);rw[show(k+((0:Nat):Int))=k by omega,show nums k 0=[] from rfl] at this;rw[show((0:Nat):Int)=0 from rfl] at this;rw[this];have g:=zma F xs (z::d) ls ys ws ms wP wQ K h a (by simp only[dN];omega) c d [z] r (k+((jM (ai z 1)).length:Int)) [V.sl 3 kI none (nums k (jM (ai z 1)).length)] rfl (by omega) rfl (by omega) (by omega);refine Eq.trans g ?_;rfl
theorem Nf (x24:ah) (hb:ls.length≤1000): ∀(j i n:Nat) (k:Int),i+j=ls.length→j<n→0≤k→k≤100000→
  GI F [] n ys ws ms (k+(i:Int)) wP wQ x24 x25 Ld (ay ls) (i:Int) p (nums k i) xs zs ls K=K (V.agg [V.sl 3 kI none p,V.nilsl,V.sl 3 kI none (nums k ls.length)])
 |0,i,n,k,hi,hn,h0,h1=>by
  obtain⟨m,rfl⟩: ∃m,n=m+1:=⟨n-1,by omega⟩
  obtain rfl:i=ls.length:=by omega
  (rw[Cw];(conv=>zeta);rw[show aR ((ls.length:Nat):Int) (ay ls)=false from bB (by rw[aC];omega)])
  rfl
 |j+1,i,n,k,hi,hn,h0,h1=>by
  obtain⟨m,rfl⟩: ∃m,n=m+1:=⟨n-1,by omega⟩
  (rw[Cw];(conv=>zeta);rw[show aR (i:Int) (ay ls)=true from bu (by rw[aC];omega),uL (by omega) (by omega),lX (by omega),okA _ _ (by rw[iR];simp only[dN,mr];omega),gt,gt])
  have:=Nf x24 hb j (i+1) m k (by omega) (by omega) h0 h1;rw[jB,show(k+((i+1:Nat):Int))=k+(i:Int)+1 by omega] at this;exact this
theorem lkb0 (x24:ah) (hb:ls.length≤1000) (n:Nat) (hn:ls.length<n) (k:Int) (h0:0≤k) (h1:k≤100000):
  Vz F [] n ys ws ms k wP wQ x24 x25 Ld (ay ls) 0 p xs zs ls K=K (V.agg [V.sl 3 kI none p,V.nilsl,Xk (nums k ls.length)]):=by
 obtain⟨m,rfl⟩: ∃m,n=m+1:=⟨n-1,by omega⟩
 cases ls with
 |nil=>rw[Fw];rfl
 |cons x l=>
  rw[Fw,show aR 0 (ay (x::l))=true from bu (by rw[aC,dN];omega),uL h0 (by omega),gt];exact Nf F xs zs (x::l) ys ws ms p wP wQ x25 Ld K x24 hb l.length 1 m k (by rw[dN];omega) (by rw[dN] at hn;omega) h0 h1
theorem Ng (x24 q:ah) (hb:ls.length≤1000): ∀(j i n:Nat) (k:Int),i+j=ls.length→j<n→0≤k→k≤100000→
  GM F [] n ys ws ms (k+(i:Int)) wP wQ x24 x25 Ld (ay ls) (i:Int) p q (nums k i) xs zs ls K=K (V.agg [V.sl 3 kI none p,V.sl 32 kW none q,V.sl 3 kI none (nums k ls.length)])
 |0,i,n,k,hi,hn,h0,h1=>by
  obtain⟨m,rfl⟩: ∃m,n=m+1:=⟨n-1,by omega⟩
  obtain rfl:i=ls.length:=by omega
  (rw[CG];(conv=>zeta);rw[show aR ((ls.length:Nat):Int) (ay ls)=false from bB (by rw[aC];omega)])
  rfl
 |j+1,i,n,k,hi,hn,h0,h1=>by
  obtain⟨m,rfl⟩: ∃m,n=m+1:=⟨n-1,by omega⟩
  (rw[CG];(conv=>zeta);rw[show aR (i:Int) (ay ls)=true from bu (by rw[aC];omega),uL (by omega) (by omega),lX (by omega),okA _ _ (by rw[iR];simp only[dN,mr];omega),gt,gt])
  have:=Ng x24 q hb j (i+1) m k (by omega) (by omega) h0 h1;rw[jB,show(k+((i+1:Nat):Int))=k+(i:Int)+1 by omega] at this;exact this
theorem lkb1 (x24 q:ah) (hb:ls.length≤1000) (n:Nat) (hn:ls.length<n) (k:Int) (h0:0≤k) (h1:k≤100000):
  Px F [] n ys ws ms k wP wQ x24 x25 Ld (ay ls) 0 p q xs zs ls K=K (V.agg [V.sl 3 kI none p,V.sl 32 kW none q,Xk (nums k ls.length)]):=by
 obtain⟨m,rfl⟩: ∃m,n=m+1:=⟨n-1,by omega⟩
 cases ls with
 |nil=>rw[CB];rfl
 |cons x l=>
  rw[CB,show aR 0 (ay (x::l))=true from bu (by rw[aC,dN];omega),uL h0 (by omega),gt];exact Ng F xs zs (x::l) ys ws ms p wP wQ x25 Ld K x24 q hb l.length 1 m k (by rw[dN];omega) (by rw[dN] at hn;omega) h0 h1
theorem inb_6 (a:ah) (b m:Nat) (c:af) (d:ah) (g:m≤1000): ∀(j i n:Nat) (k:Int),i+j=m→j<n→0≤k→k≤100000→
  Oq F [b] n ys ws ms (k+(i:Int)) (nums k i) wP wQ a x25 Ld (m:Int) (i:Int) c d p xs zs ls K=xx F [] b ys ws ms (k+(m:Int)) wP wQ a x25 (bg .i64 Ld 1) p [V.sl 3 kI none (nums k m)] xs zs ls K
 |0,i,n,k,h,l,e,f=>by
  obtain⟨r,rfl⟩: ∃r,n=r+1:=⟨n-1,by omega⟩
  obtain rfl:i=m:=by omega
  (rw[Fv];(conv=>zeta);rw[show aR (i:Int) (i:Int)=false from bB (by omega)])
  rfl
 |j+1,i,n,k,h,l,e,f=>by
  obtain⟨r,rfl⟩: ∃r,n=r+1:=⟨n-1,by omega⟩
  (rw[Fv];(conv=>zeta);rw[show aR (i:Int) (m:Int)=true from bu (by omega),uL (by omega) (by omega),lX (by omega),okA _ _ (by rw[iR];simp only[dN,mr];omega),gt,gt])
  have:=inb_6 a b m c d g j (i+1) r k (by omega) (by omega) e f;rw[jB,show(k+((i+1:Nat):Int))=k+(i:Int)+1 by omega] at this;exact this
theorem inb_14 (a:ah) (b m:Nat) (c:af) (d q:ah) (g:m≤1000): ∀(j i n:Nat) (k:Int),i+j=m→j<n→0≤k→k≤100000→
  GK F [b] n ys ws ms (k+(i:Int)) (nums k i) wP wQ a x25 Ld (m:Int) (i:Int) c d p q xs zs ls K=sel (dh q [V.sl 3 kI none (nums k m)]) (xx F [] b ys ws ms (k+(m:Int)) wP wQ a x25 (bg .i64 Ld 1) p (aX q [V.sl 3 kI none (nums k m)]) xs zs ls K) none
 |0,i,n,k,h,l,e,f=>by
  obtain⟨r,rfl⟩: ∃r,n=r+1:=⟨n-1,by omega⟩
  obtain rfl:i=m:=by omega
  (rw[Cz];(conv=>zeta);rw[show aR (i:Int) (i:Int)=false from bB (by omega)])
  rfl
 |j+1,i,n,k,h,l,e,f=>by
  obtain⟨r,rfl⟩: ∃r,n=r+1:=⟨n-1,by omega⟩
  (rw[Cz];(conv=>zeta);rw[show aR (i:Int) (m:Int)=true from bu (by omega),uL (by omega) (by omega),lX (by omega),okA _ _ (by rw[iR];simp only[dN,mr];omega),gt,gt])
  have:=inb_14 a b m c d q g j (i+1) r k (by omega) (by omega) e f;rw[jB,show(k+((i+1:Nat):Int))=k+(i:Int)+1 by omega] at this;exact this
theorem zmb (s:1100≤F) (f:ls.length≤1000) (t:zs.length≤1000) (j: ∀z∈zs,(jM (ai z 1)).length≤50): ∀(d a:ah) (n:Nat) (k:Int) (q:ah),a++d=zs→d.length<n→q.length=a.length→0≤k→k+50*(d.length:Int)≤100000→
  xx F [] n ys ws ms k wP wQ zs (ay zs) (a.length:Int) p q xs zs ls K=K (V.agg [V.sl 3 kI none p,V.sl 32 kW none (q++Ug k d),Xk (nums (CX k d) ls.length)])
 |[],a,n,k,q,e,g,h,b,c=>by
  obtain⟨r,rfl⟩: ∃r,n=r+1:=⟨n-1,by omega⟩
  rw[FC] at e;subst e
  (rw[Cv];(conv=>zeta);rw[show aR ((a.length:Nat):Int) (ay a)=false from bB (by rw[aC];omega),gf])
  rw[lkb1 F xs a ls ys ws ms p wP wQ (ay a) (a.length:Int) K a q f F (by omega) k b (by simp only[mr] at c;omega)];simp only[Ug,CX,FC]
 |z::d,a,n,k,q,e,g,h,b,c=>by
  obtain⟨r,rfl⟩: ∃r,n=r+1:=⟨n-1,by omega⟩
  have m:zs.length=a.length+(d.length+1):=by rw[←e];simp
  have o:aG zs (a.length:Int)=z:=by rw[fo,←e,l7,aa6 (by omega),WZ];rfl
  have u:=j z (by rw[←e];simp);simp only[dN] at c g
  (rw[Cv];(conv=>zeta);rw[XL (xs:=zs) (i:=a.length) (by omega),show aR (a.length:Int) (ay zs)=true from bu (by rw[aC];omega),o,gt,gt,aC (jM (ai z 1))])
  have:=inb_14 F xs zs ls ys ws ms p wP wQ (ay zs) (a.length:Int) K zs r (jM (ai z 1)).length (aF (ai z 0)) (jM (ai z 1)) q (by omega) (jM (ai z 1)).length 0 F k (by omega) (by omega) b (by omega);rw[show(k+((0:Nat):Int))=k by omega,show nums k 0=[] from rfl] at this;rw[show((0:Nat):Int)=0 from rfl] at this;rw[this,okA _ _ (by simp only[dN,mr];omega),gt,lX (by omega)];have l:=zmb s f t j d (a++[z]) r (k+((jM (ai z 1)).length:Int)) (q++[V.sl 3 kI none (nums k (jM (ai z 1)).length)]) (by rw[←e];simp) (by omega) (by simp[h]) (by omega) (by omega);rw[iW] at l;refine Eq.trans l ?_;simp only[Ug,CX,CJ,abu]
theorem zfb (h:1100≤F) (a:ls.length≤1000) (j:zs.length≤1000) (c: ∀z∈zs,(jM (ai z 1)).length≤50) (n:Nat) (k:Int) (f:zs.length<n) (b:0≤k) (e:k+50*(zs.length:Int)≤100000):
  Vx F [] n ys ws ms k wP wQ zs (ay zs) 0 p xs zs ls K=K (V.agg [V.sl 3 kI none p,nzW (Ug k zs),Xk (nums (CX k zs) ls.length)]):=by
 obtain⟨r,rfl⟩: ∃r,n=r+1:=⟨n-1,by omega⟩
 cases zs with
 |nil=>
  (rw[Fq];(conv=>zeta);rw[show aR 0 (ay ([]:ah))=false from rfl,gf])
  rw[lkb0 F xs [] ls ys ws ms p wP wQ (ay []) 0 K [] a F (by omega) k b (by simp only[mr] at e;omega)];rfl
 |cons z d=>
  have l:=c z rf;simp only[dN] at e f j
  (rw[Fq];(conv=>zeta);rw[show ak (ax 0 0) (aR 0 (ay (z::d)))=true from XL (xs:=z::d) (i:=0) (by simp),show aR 0 (ay (z::d))=true from bu (by rw[aC,dN];omega),show aG (z::d) 0=z from rfl,gt,gt,aC (jM (ai z 1))])
  have:=inb_6 F xs (z::d) ls ys ws ms p wP wQ (ay (z::d)) 0 K (z::d) r (jM (ai z 1)).length (aF (ai z 0)) (jM (ai z 1)) (by omega) (jM (ai z 1)).length 0 F k (by omega) (by omega) b (by omega);rw[show(k+((0:Nat):Int))=k by omega,show nums k 0=[] from rfl] at this;rw[show((0:Nat):Int)=0 from rfl] at this;rw[this];have g:=zmb F xs (z::d) ls ys ws ms p wP wQ K h a (by simp only[dN];omega) c d [z] r (k+((jM (ai z 1)).length:Int)) [V.sl 3 kI none (nums k (jM (ai z 1)).length)] rfl (by omega) rfl (by omega) (by omega);refine Eq.trans g ?_;rfl
end
theorem SA (F:Nat) (xs zs a:ah) (d:1100≤F) (f:xs.length≤1000) (b:a.length≤1000) (e:zs.length≤1000) (c: ∀z∈zs,(jM (ai z 1)).length≤50) (K:V→Option V): ∀(j i n:Nat),i+j=xs.length→j<n→
  On F [] n xs zs a (i:Int) (ay xs) (i:Int) (nums 0 i) xs zs a K=K (V.agg [V.sl 3 kI none (nums 0 xs.length),nzW (Ug (xs.length:Int) zs),Xk (nums (CX (xs.length:Int) zs) a.length)])
 |0,i,n,h,g=>by
  obtain⟨r,rfl⟩: ∃r,n=r+1:=⟨n-1,by omega⟩
  obtain rfl:i=xs.length:=by omega
  (rw[Fj];(conv=>zeta);rw[show aR ((xs.length:Nat):Int) (ay xs)=false from bB (by rw[aC];omega),gf])
  exact zfb F xs zs a xs zs a (nums 0 xs.length) (ay xs) (xs.length:Int) K d b e c F (xs.length:Int) (by omega) (by omega) (by omega)
 |j+1,i,n,h,g=>by
  obtain⟨r,rfl⟩: ∃r,n=r+1:=⟨n-1,by omega⟩
  (rw[Fj];(conv=>zeta);rw[show aR (i:Int) (ay xs)=true from bu (by rw[aC];omega),lX (by omega),okA _ _ (by rw[iR];simp only[dN,mr];omega),gt,gt])
  have:=SA F xs zs a d f b e c K j (i+1) r (by omega) (by omega);rw[jB,show((0:Int)+(i:Int)+1)=((i+1:Nat):Int) by omega] at this;exact this
theorem pl_body (F:Nat) (xs zs a:ah) (d:1100≤F) (f:xs.length≤1000) (b:a.length≤1000) (e:zs.length≤1000) (c: ∀z∈zs,(jM (ai z 1)).length≤50) (K:V→Option V):
  bE eE (bC eE G9 F 3) F 12 [V.agg [V.sl 53 kR none xs,V.sl 57 kZ none zs,V.sl 59 kL none a]] K=K (V.agg [Xk (plR xs),nzW (plZ xs zs),Xk (plL xs zs a)]):=by
 rw[bPl_top];obtain⟨G,rfl⟩: ∃G,F=G+1:=⟨F-1,by omega⟩
 cases xs with
 |nil=>rw[Fh,show aR 0 (ay ([]:ah))=false from rfl,gf];exact zfa (G+1) [] zs a [] zs a (ay []) 0 K d b e c (G+1) 0 (by omega) (by omega) (by omega)
 |cons x l=>rw[Fh,show aR 0 (ay (x::l))=true from bu (by rw[aC,dN];omega),gt];rw[dN] at f;exact SA (G+1) (x::l) zs a d (by rw[dN];omega) b e c K l.length 1 G (by rw[dN];omega) (by omega)
theorem rep_agg3 {G:aW} {a b c f e d:V} (k: ∀v,aV G a v→aV G f v) (g: ∀v,aV G b v→aV G e v) (i: ∀v,aV G c v→aV G d v) {v:Value} (h:aV G (.agg [a,b,c]) v):aV G (.agg [f,e,d]) v:=by unfold aV at h;obtain⟨a,rfl,h⟩:=h;unfold jm at h;obtain⟨q,t1,rfl,j,h⟩:=h;unfold jm at h;obtain⟨o,t2,rfl,m,h⟩:=h;unfold jm at h;obtain⟨p,n,rfl,l,h⟩:=h;unfold aV;refine⟨_,rfl,?_⟩;unfold jm;refine⟨_,_,rfl,k _ j,?_⟩;unfold jm;refine⟨_,_,rfl,g _ m,?_⟩;unfold jm;exact⟨_,_,rfl,i _ l,h⟩
theorem Zs {G:aW} (l:ah) (v:Value) (h:aV G (Xk l) v):aV G (V.sl 3 kI none l) v:=by
 cases l with
 |nil=>exact wo h
 |cons x l=>exact h
theorem rep_nzW {G:aW} (l:ah) (v:Value) (h:aV G (nzW l) v):aV G (V.sl 32 kW none l) v:=by
 cases l with
 |nil=>exact wo h
 |cons x l=>exact h
theorem pl_ev (xs zs a:ah) (g:xs.length≤1000) (d:a.length≤1000) (k:zs.length≤1000) (j: ∀z∈zs,(jM (ai z 1)).length≤50):aj eE 12 [V.agg [V.sl 53 kR none xs,V.sl 57 kZ none zs,V.sl 59 kL none a]] (.agg [.sl 3 kI none (plR xs),.sl 32 kW none (plZ xs zs),.sl 3 kI none (plL xs zs a)]):=by have c:aj eE 12 [V.agg [V.sl 53 kR none xs,V.sl 57 kZ none zs,V.sl 59 kL none a]] (V.agg [Xk (plR xs),nzW (plZ xs zs),Xk (plL xs zs a)]):=au iZ bB0_ok 1100 3 (pl_body 1100 xs zs a (by omega) g d k j some);intro G w vs i f b;refine(c G w vs i f b).mono ?_;rintro l w' ⟨v,G',rfl,h,e⟩;exact⟨_,G',rfl,h,rep_agg3 (Zs _) (rep_nzW _) (Zs _) e⟩
abbrev Av (x:V):V:=.agg [.int .i64 (asInt (ai x 0)),.int .i64 (asInt (ai x 1)),.int .i64 (asInt (ai x 2)),.str (aF (ai x 3)),.str (aF (ai x 4)),.bool (asBool (ai x 5)),.int .i64 (asInt (ai x 6)),.int .i64 (asInt (ai x 7)),.int .i64 (asInt (ai x 8)),.int .i64 (asInt (ai x 9)),.int .i64 (asInt (ai x 10)),.int .i64 (asInt (ai x 11)),.int .i64 (asInt (ai x 12))]
abbrev Nw (x:V):V:=.agg [.str (aF (ai x 0)),.str (aF (ai x 1))]
abbrev He (z:V):af:=aF (ai z 0)
abbrev oL (z:V):ah:=jM (ai z 1)
noncomputable def QB (z:V):V:=zV (He z) ((oL z).map Av)
noncomputable def fvX (x:V):ah:=efV (asInt (ai x 0)) (asInt (ai x 1)) (asInt (ai x 2)) (aF (ai x 3)) (aF (ai x 4)) (asBool (ai x 5)) (asInt (ai x 6)) (asInt (ai x 7)) (asInt (ai x 8)) (asInt (ai x 9)) (asInt (ai x 10)) (asInt (ai x 11)) (asInt (ai x 12))
noncomputable def z0S (n:af) (x:V):af:=dZ (dZ (dZ [90,111,110,101,32] n) [32]) (tC (fvX x))
noncomputable def z1S (x:V):af:=dZ (dZ [] [32]) (tC (fvX x))
noncomputable def jb (z:V):Zn:=match oL z with
 |[]=>⟨He z,[],.any,[]⟩
 |e::r=>⟨He z,z0S (He z) e,Av e,r.map fun x=>(z1S x,Av x)⟩
theorem GN (f:V→af) (l:ah): ∀(d a:ah),a++d=l→Rx.cT f l d.length a.length=(d.map f).flatten
 |[],a,_=>rfl
 |x::d,a,h=>by
  have c:aG l (a.length:Int)=x:=by rw[fo,←h,l7,aa6 (by omega),WZ];rfl
  have b:=GN f l d (a++[x]) (by rw[←h];simp);rw[iW] at b;show f (aG l (a.length:Int))++Rx.cT f l d.length (a.length+1)=_;rw[c,rA,abO];exact congrArg _ b
theorem Zt (n:af) (l:ah): ∀(d a:ah),a++d=l→a≠[]→Rx.eT n l d.length a.length=(d.map fun x=>z1S x++[10]).flatten
 |[],a,_,_=>rfl
 |x::d,a,h,f=>by
  have g:aG l (a.length:Int)=x:=by rw[fo,←h,l7,aa6 (by omega),WZ];rfl
  have b:=Zt n l d (a++[x]) (by rw[←h];simp) (by simp);rw[iW] at b;have c:a.length≠0:=fun e=>f (Zw e)
  show Rx.vg (Rx.Ao n a.length) (Rx.oz (aG l (a.length:Int)))++Rx.eT n l d.length (a.length+1)=_;rw[g,rA,abO];have e:Rx.vg (Rx.Ao n a.length) (Rx.oz x)=z1S x++[10]:=by unfold Rx.vg Rx.Ao;rw[if_neg c];rfl
  rw[e];exact congrArg _ b
theorem Dl (l:List (af)):xR l=(l.map fun x=>x++[10]).flatten:=rfl
theorem Py (a b:List (af)):xR (a++b)=xR a++xR b:=by rw[Dl,Dl,Dl,aci,List.flatten_append]
theorem tZ_lines (z:V) (h:oL z≠[]):Rx.tZ z=xR (jb z).lines:=by
 show Rx.eT (He z) (oL z) (oL z).length 0=_;unfold jb
 cases a:oL z with
 |nil=>exact absurd a h
 |cons e r=>have:=Zt (He z) (e::r) r [e] rfl (by simp);show Rx.vg (Rx.Ao (He z) 0) (Rx.oz e)++Rx.eT (He z) (e::r) r.length 1=xR (z0S (He z) e::(r.map fun x=>(z1S x,Av x)).map (·.1));rw[show Rx.eT (He z) (e::r) r.length 1=_ from this,Dl,rA,abO,F3,F3];rfl
theorem SB: ∀(l:List (List (af))),xR l.flatten=(l.map xR).flatten
 |[]=>rfl
 |x::l=>by rw[abO,Py,SB l];rfl
noncomputable def qY (xs zs a:ah):List (af):=xs.map Ar++(jg (zs.map jb)++a.map zm)
theorem tx_lines (xs zs a:ah) (i: ∀z∈zs,oL z≠[]):Rx.txA xs zs a=xR (qY xs zs a):=by
 unfold Rx.txA qY;rw[Py,Py];have d:=GN Rx.tR xs xs [] rfl;have g:=GN Rx.tZ zs zs [] rfl;have e:=GN Rx.tL a a [] rfl;rw[show Rx.cT Rx.tR xs xs.length 0=_ from d,show Rx.cT Rx.tZ zs zs.length 0=_ from g,show Rx.cT Rx.tL a a.length 0=_ from e];have b:(xs.map Rx.tR).flatten=xR (xs.map Ar):=by rw[Dl,F3];rfl
 have f:(a.map Rx.tL).flatten=xR (a.map zm):=by rw[Dl,F3];rfl
 have c:(zs.map Rx.tZ).flatten=xR (jg (zs.map jb)):=by
  unfold jg;rw[SB,F3,F3];congr 1;exact abf (fun z h=>tZ_lines z (i z h))
 rw[b,c,f]
structure Rgt (xs zs ls:ah):Prop where
 r: ∀x∈xs,rgtR x=true
 l: ∀x∈ls,rgtL x=true
 n: ∀z∈zs,dK (He z)=0
 e: ∀z∈zs,oL z≠[]
 h: ∀z∈zs,∀i,i<(oL z).length→KG (aG (oL z) (i:Int))=true∧AO (aG (oL z) (i:Int))=decide (i+1<(oL z).length)
theorem zB_get (b:ah) (a:Int): ∀(k i:Nat),Rx.zB b a k i=true→ ∀j,i≤j→j<i+k→Rx.Xi (aG b (j:Int))=true∧asBool (ai (aG b (j:Int)) 5)=aR (j:Int) a
 |0,i,_,j,d,c=>by omega
 |k+1,i,h,j,d,c=>by
  have h:((Rx.Xi (aG b (i:Int))&&beq (asBool (ai (aG b (i:Int)) 5)) (aR (i:Int) a))&&Rx.zB b a k (i+1))=true:=h;rw[bF,bF] at h;by_cases e:j=i
  ·subst e
   exact⟨h.1.1,(beq_iff _ _).mp h.1.2⟩
  exact zB_get b a k (i+1) h.2 j (by omega) (by omega)
theorem rgt_of {xs zs f:ah} (h:Rx.Kt xs zs f=true):Rgt xs zs f:=by
 unfold Rx.Kt at h;rw[bF,bF] at h;obtain⟨k,g,j⟩:=h;have l: ∀z∈zs,Rx.zP z=true:=Rx.sw g;have d: ∀z∈zs,dK (He z)=0∧Rx.zB (oL z) (((oL z).length:Int)-1) (oL z).length 0=true∧0<(oL z).length:=by intro z c;have:=l z c;unfold Rx.zP Rx.zoB at this;rw[bF,bF,aO,bq,aC] at this;exact⟨this.1,this.2.1,by have:(0:Int)<((oL z).length:Int):=this.2.2;omega⟩
 refine⟨Rx.sw k,Rx.sw j,fun z c=>(d z c).1,fun z c e=>?_,fun z c i m=>?_⟩
 ·have:=(d z c).2.2
  rw[e] at this;cases this
 obtain⟨a,b⟩:=zB_get _ _ _ 0 (d z c).2.1 i (by omega) (by omega);refine⟨a,b.trans ?_⟩;unfold aR;exact decide_eq_decide.2 (by omega)
theorem eraX {x:V} (h:KG x=true): ∃a:List (af),a≠[]∧fvX x=a.map V.str∧(∀y∈a,Gd y)∧a.length≤7∧Pr (eF a).1∧(eF a).1.length≤430∧kT (a.map V.str)=0∧qz (a.map V.str)=Av x:=(era_line (asInt (ai x 0)) (asInt (ai x 1)) (asInt (ai x 2)) (aF (ai x 3)) (aF (ai x 4)) (asBool (ai x 5)) (asInt (ai x 6)) (asInt (ai x 7)) (asInt (ai x 8)) (asInt (ai x 9)) (asInt (ai x 10)) (asInt (ai x 11)) (asInt (ai x 12)) h).1
theorem z1_ok {x:V} (h:KG x=true):EraL (z1S x) (Av x)∧FM (z1S x):=by
 obtain⟨c,d,i,e,k,g,l,j,f⟩:=eraX h;have b:z1S x=[32]++(eF c).1:=by unfold z1S;rw[i,(H8 _).1];rfl
 have a:FM (z1S x):=by rw[b];refine⟨mF (by decide) g,?_⟩;simp only[iW,dN,mr];omega
 exact⟨⟨c,d,by rw[b];exact Qd d (by omega) e,Gq _ a.1 a.2,j,f⟩,a⟩
theorem z0_ok {n:af} {x:V} (c:dK n=0) (h:KG x=true):ZoneL n (z0S n x) (Av x)∧FM (z0S n x):=by
 obtain⟨b,f,k,g,o,j,l,e,i⟩:=eraX h;obtain⟨_,_,_,_,_,g1,m⟩:=Od c;have d:z0S n x=Es++([32]++n)++([32]++(eF b).1):=by unfold z0S;rw[k,(H8 _).1];show(([90,111,110,101,32]++n)++[32])++(eF b).1=_;rw[CJ];rfl
 have a:FM (z0S n x):=by rw[d];refine⟨mF (mF (by decide) (mF (by decide) (gd_pr g1))) (mF (by decide) j),?_⟩;simp only[iW,dN,mr];omega
 exact⟨⟨b,by rw[d];exact of_zone c f (by omega) g,Gq _ a.1 a.2,c,e,i⟩,a⟩
theorem zn_ok {xs zs u:ah} (h:Rgt xs zs u) (w: ∀z∈zs,(oL z).length≤12) {z:V} (f:z∈zs):(jb z).ok∧(jb z).v=QB z∧(jb z).lines.length=(oL z).length∧ ∀s∈(jb z).lines,FM s:=by
 have o:=h.n z f;have j:=h.h z f;have l:=w z f;have y:=h.e z f;unfold QB;unfold jb
 cases q:oL z with
 |nil=>exact absurd q y
 |cons e r=>
  rw[q] at j l;rw[dN] at l;have a:=j 0 (by simp);have k: ∀i (b:i<r.length),KG r[i]=true∧AO r[i]=decide (i+1<r.length):=by
   intro i b;have:=j (i+1) (by rw[dN];omega);have g:aG (e::r) ((i+1:Nat):Int)=r[i]:=by rw[fo,l7,abF,iK b];rfl
   rw[g] at this;refine⟨this.1,this.2.trans (decide_eq_decide.2 (by rw[dN];omega))⟩
  have m: ∀x∈r,KG x=true:=by intro x d;obtain⟨i,b,rfl⟩:=List.mem_iff_getElem.1 d;exact(k i b).1
  refine⟨⟨(z0_ok o a.1).1,?_,by simp only[kS];omega,?_,?_⟩,?_,by simp[Zn.lines],?_⟩
  ·intro p t
   obtain⟨x,d,rfl⟩:=List.mem_map.1 t;exact(z1_ok (m x d)).1
  ·show AO e=_
   rw[show AO e=AO (aG (e::r) ((0:Nat):Int)) from rfl,a.2];simp only[kS,dN];exact decide_eq_decide.2 (by omega)
  ·intro i b
   rw[kS] at b;have:=(k i b).2;simp only[aco,kS];exact this
  ·show zV (He z) (Av e::(r.map fun x=>(z1S x,Av x)).map (·.2))=zV (He z) ((e::r).map Av)
   rw[F3];rfl
  intro s c;have c:s∈z0S (He z) e::(r.map fun x=>(z1S x,Av x)).map (·.1):=c;rw[ZA,F3] at c;rcases c with rfl|c
  ·exact(z0_ok o a.1).2
  obtain⟨x,d,rfl⟩:=List.mem_map.1 c;exact(z1_ok (m x d)).2
theorem SC: ∀(zs:ah) (k:Int),(∀z∈zs,(jb z).lines.length=(oL z).length)→AZ k (zs.map jb)=Ug k zs∧k+((jg (zs.map jb)).length:Int)=CX k zs
 |[],k,_=>⟨rfl,by show k+0=k;omega⟩
 |z::l,k,h=>by
  obtain⟨a,b⟩:=SC l (k+((oL z).length:Int)) (fun y d=>h y (uO _ d));have c:=h z rf;constructor
  ·show V.sl _ kI none (nums k (jb z).lines.length)::AZ (k+((jb z).lines.length:Int)) (l.map jb)=_
   rw[c,a];rfl
  show k+(((jb z).lines++(((l.map jb).map Zn.lines).flatten)).length:Int)=CX (k+((oL z).length:Int)) l;rw[←b,iW,c];show _=k+((oL z).length:Int)+((((l.map jb).map Zn.lines).flatten).length:Int)
  omega
theorem src_read {xs zs c:ah} (h:Rgt xs zs c) (i:xs.length≤50) (H:zs.length≤20) (o:c.length≤100) (B: ∀z∈zs,(oL z).length≤12):
  Ud (xR (qY xs zs c))=0∧Ee (xR (qY xs zs c))=0∧KB (xR (qY xs zs c))=xs.map Qo∧KD (xR (qY xs zs c))=zs.map QB∧KF (xR (qY xs zs c))=c.map Nw∧UO (xR (qY xs zs c))=plR xs∧UQ (xR (qY xs zs c))=plZ xs zs∧UR (xR (qY xs zs c))=plL xs zs c:=by
 have f: ∀z∈zs,(jb z).ok∧(jb z).v=QB z∧(jb z).lines.length=(oL z).length∧ ∀s∈(jb z).lines,FM s:=fun z d=>zn_ok h B d
 obtain⟨n1,G⟩:=SC zs (xs.length:Int) (fun z d=>(f z d).2.2.1);have n: ∀(l:ah),(∀z∈l,(jb z).lines.length≤12)→(jg (l.map jb)).length≤12*l.length:=by
  intro l;induction l with
  |nil=>intro _;exact kG _
  |cons z l F=>intro A;have a:=A z rf;have b:=F (fun y t=>A y (uO _ t));show((jb z).lines++jg (l.map jb)).length≤_;rw[iW,dN];omega
 have E:=n zs (fun z d=>by rw[(f z d).2.2.1];exact B z d);have j: ∀s∈qY xs zs c,FM s:=by
  intro s g;unfold qY jg at g;rw[abq,abq] at g;rcases g with g|g|g
  ·obtain⟨x,i,rfl⟩:=List.mem_map.1 g
   exact(rlS_ok (h.r x i)).2.1
  ·obtain⟨l,o,g⟩:=List.mem_flatten.1 g
   rw[F3] at o;obtain⟨z,d,rfl⟩:=List.mem_map.1 o;exact(f z d).2.2.2 s g
  obtain⟨x,i,rfl⟩:=List.mem_map.1 g;exact(lkS_ok (h.l x i)).2.1
 have w:(xR (qY xs zs c)).length≤1048576:=by
  have:=Y9 _ j;have e:(qY xs zs c).length=xs.length+((jg (zs.map jb)).length+c.length):=by unfold qY;rw[iW,iW,kS,kS]
  omega
 have k:=M8 (xs.map fun x=>(Ar x,Qo x)) 0 r0 (by intro p m;obtain⟨x,i,rfl⟩:=List.mem_map.1 m;exact(rlS_ok (h.r x i)).1) (by decide) (by rw[kS];show 0+_≤_;omega);rw[F3,F3,kS] at k;obtain⟨iz,yz,ie,ye,C⟩:=Na (zs.map jb) (0+(xs.length:Int)) {r0 with rs:=r0.rs++xs.map (Prod.snd ∘ fun x=>(Ar x,Qo x)),wr:=r0.wr++nums 0 xs.length} (by omega) (by intro z d;obtain⟨y,t,rfl⟩:=List.mem_map.1 d;exact(f y t).1) rfl (by rw[kS];show 0+_≤_;omega);have u:=M9 (c.map fun x=>(zm x,Nw x)) (0+(xs.length:Int)+((jg (zs.map jb)).length:Int)) {r0 with rs:=r0.rs++xs.map (Prod.snd ∘ fun x=>(Ar x,Qo x)),wr:=r0.wr++nums 0 xs.length,zs:=r0.zs++(zs.map jb).map Zn.v,we:=r0.we++AZ (0+(xs.length:Int)) (zs.map jb),iz:=iz,yz:=yz,ie:=ie,ye:=ye,op:=0} (by intro p m;obtain⟨x,i,rfl⟩:=List.mem_map.1 m;exact(lkS_ok (h.l x i)).1) (show¬(0:Int)<0 by decide) (by rw[kS];show 0+_≤_;omega)
 rw[show(c.map fun x=>(zm x,Nw x)).map (fun p=>V.str p.1)=c.map ((fun p=>V.str p.1) ∘ fun x=>(zm x,Nw x)) from F3,show(c.map fun x=>(zm x,Nw x)).map (·.2)=c.map (Prod.snd ∘ fun x=>(zm x,Nw x)) from F3,show(c.map fun x=>(zm x,Nw x)).length=c.length from kS _] at u;have D:(qY xs zs c).map V.str=xs.map ((fun p=>V.str p.1) ∘ fun x=>(Ar x,Qo x))++((jg (zs.map jb)).map V.str++c.map ((fun p=>V.str p.1) ∘ fun x=>(zm x,Nw x))):=by unfold qY;rw[aci,aci,F3,F3];rfl
 have q:Nu (xR (qY xs zs c))=({r0 with rs:=r0.rs++xs.map (Prod.snd ∘ fun x=>(Ar x,Qo x)),wr:=r0.wr++nums 0 xs.length,zs:=r0.zs++(zs.map jb).map Zn.v,we:=r0.we++AZ (0+(xs.length:Int)) (zs.map jb),iz:=iz,yz:=yz,ie:=ie,ye:=ye,op:=0,ks:=r0.ks++c.map (Prod.snd ∘ fun x=>(zm x,Nw x)),wl:=r0.wl++nums (0+(xs.length:Int)+((jg (zs.map jb)).length:Int)) c.length},0+(xs.length:Int)+((jg (zs.map jb)).length:Int)+(c.length:Int),0):=by show ni ((Ky (xR (qY xs zs c))).map V.str) 0 r0=_;rw[Sj _ (fun x i=>pr_ten (j x i).1),D,Bi _ _ _ _ (by rw[k]),k];show ni _ (0+(xs.length:Int)) _=_;rw[Bi _ _ _ _ (by rw[C]),C];exact u
 have hE:Ud (xR (qY xs zs c))=0:=by unfold Ud;rw[if_neg (by omega)];show UM (Nu _)=0;rw[q];rfl
 refine⟨hE,?_,?_,?_,?_,?_,?_,?_⟩
 ·unfold Ee
  rw[if_neg (by omega),if_pos];unfold Ud at hE;rw[if_neg (by omega)] at hE;exact hE
 ·unfold KB QH;rw[if_pos hE,q];exact FD _
 ·unfold KD QI;rw[if_pos hE,q]
  show[]++(zs.map jb).map Zn.v=_;rw[FD,F3];exact abf (fun z d=>(f z d).2.1)
 ·unfold KF QJ;rw[if_pos hE,q];exact FD _
 ·unfold UO QK;rw[if_pos hE,q];exact FD _
 ·unfold UQ QL;rw[if_pos hE,q]
  show[]++AZ (0+(xs.length:Int)) (zs.map jb)=_;rw[FD,Int.zero_add];exact n1
 unfold UR QM;rw[if_pos hE,q];show[]++nums (0+(xs.length:Int)+((jg (zs.map jb)).length:Int)) c.length=_;rw[FD,Int.zero_add,G];rfl
theorem Zu {xs zs f:ah} (h:Rx.Xj xs zs f=true):xs.length≤50∧zs.length≤20∧f.length≤100∧ ∀z∈zs,(oL z).length≤12:=by obtain⟨a,b,c,d,e⟩:=Rx.Zh h;refine⟨a,b,c,fun z g=>?_⟩;rw[lM] at e;exact(Rx.Oj (e z g)).2.2
theorem bPlS_ok (x y z:V) (e:Nv x y z=true):aj eE 12 [.agg [x,y,z]] (.agg [.sl 3 kI none (plR (bD x)),.sl 32 kW none (plZ (bD x) (bD y)),.sl 3 kI none (plL (bD x) (bD y) (bD z))]):=by unfold Nv Rx.Nv at e;rw[aM] at e;obtain⟨a,b,c,d⟩:=Zu e.2;exact VA e.1 (pl_ev _ _ _ (by show(bD x).length≤_;exact FZ a (by decide)) (FZ c (by decide)) (FZ b (by decide)) (fun z f=>FZ (d z f) (by decide)))
theorem bLvS_ok (a:true=true):aj eE 5 [] (.bool true):=eRx Rx.lives_ev
theorem bB1_ok:aZ eE bB1:=by
 unfold bB1;refine aZ.cons (fun args r h=>?_) (aZ.cons (fun args r h=>?_) bB0_ok);all_goals (revert h;intro h;first|unfold bPlS at h|unfold bLvS at h)
 all_goals (split at h;rotate_left; · cases h)
 all_goals (simp only[aT,bP] at h;obtain⟨a,rfl⟩:=h)
 ·exact bPlS_ok _ _ _ a
 exact bLvS_ok rfl
theorem get_map (g:V→V) (l:ah) {i:Nat} (h:i<l.length):aG (l.map g) (i:Int)=g (aG l (i:Int)):=by rw[fo,fo,l7,l7,uE,iK h];rfl
theorem Ou (f:V→af) (g:V→V) (a: ∀x,f (g x)=f x) (l:ah): ∀(k i:Nat),i+k≤l.length→Rx.cT f (l.map g) k i=Rx.cT f l k i
 |0,_,_=>rfl
 |k+1,i,h=>by show f (aG (l.map g) (i:Int))++_=f (aG l (i:Int))++_;rw[Ou f g a l k (i+1) (by omega),get_map g l (by omega),a]
theorem BQ (p:V→Bool) (g:V→V) (a: ∀x,p (g x)=p x) (l:ah): ∀(k i:Nat),i+k≤l.length→Rx.allI p (l.map g) k i=Rx.allI p l k i
 |0,_,_=>rfl
 |k+1,i,h=>by
  show(p (aG (l.map g) (i:Int))&&_)=(p (aG l (i:Int))&&_)
  rw[BQ p g a l k (i+1) (by omega),get_map g l (by omega),a]
theorem zB_map (l:ah) (a:Int): ∀(k i:Nat),i+k≤l.length→Rx.zB (l.map Av) a k i=Rx.zB l a k i
 |0,_,_=>rfl
 |k+1,i,h=>by
  show((Rx.Xi (aG (l.map Av) (i:Int))&&beq (asBool (ai (aG (l.map Av) (i:Int)) 5)) (aR (i:Int) a))&&_)=((Rx.Xi (aG l (i:Int))&&beq (asBool (ai (aG l (i:Int)) 5)) (aR (i:Int) a))&&_)
  rw[zB_map l a k (i+1) (by omega),get_map Av l (by omega)];rfl
theorem eT_map (n:af) (l:ah): ∀(k i:Nat),i+k≤l.length→Rx.eT n (l.map Av) k i=Rx.eT n l k i
 |0,_,_=>rfl
 |k+1,i,h=>by show Rx.vg (Rx.Ao n i) (Rx.oz (aG (l.map Av) (i:Int)))++_=Rx.vg (Rx.Ao n i) (Rx.oz (aG l (i:Int)))++_;rw[eT_map n l k (i+1) (by omega),get_map Av l (by omega)];rfl
theorem tZ_agZ (z:V):Rx.tZ (QB z)=Rx.tZ z:=by show Rx.eT (He z) ((oL z).map Av) ((oL z).map Av).length 0=Rx.eT (He z) (oL z) (oL z).length 0;rw[kS,eT_map _ _ _ _ (by omega)]
theorem zP_agZ (z:V):Rx.zP (QB z)=Rx.zP z:=by
 show(ieq (dK (He z)) 0&&(Rx.zB ((oL z).map Av) ((((oL z).map Av).length:Int)-1) ((oL z).map Av).length 0&&aR 0 (ay ((oL z).map Av))))=(ieq (dK (He z)) 0&&(Rx.zB (oL z) (((oL z).length:Int)-1) (oL z).length 0&&aR 0 (ay (oL z))))
 rw[kS,zB_map _ _ _ _ (by omega),aC,aC,kS]
theorem rgT_map (xs zs a:ah):Rx.Kt (xs.map Qo) (zs.map QB) (a.map Nw)=Rx.Kt xs zs a:=by unfold Rx.Kt;rw[kS,kS,kS,BQ Rx.rrR Qo (fun _=>rfl) xs _ _ (by omega),BQ Rx.zP QB zP_agZ zs _ _ (by omega),BQ Rx.rrL Nw (fun _=>rfl) a _ _ (by omega)]
theorem txT_map (xs zs a:ah):Rx.Qs (xs.map Qo) (zs.map QB) (a.map Nw)=Rx.Qs xs zs a∧Rx.CO (xs.map Qo) (zs.map QB) (a.map Nw)=Rx.CO xs zs a:=by unfold Rx.Qs Rx.CO;rw[rgT_map];unfold Rx.txA;rw[kS,kS,kS,Ou Rx.tR Qo (fun _=>rfl) xs _ _ (by omega),Ou Rx.tZ QB tZ_agZ zs _ _ (by omega),Ou Rx.tL Nw (fun _=>rfl) a _ _ (by omega)];exact⟨rfl,rfl⟩
theorem gZ_agZ (z:V):Rx.gZ (QB z)=Rx.gZ z:=by show ak (ax (aB (He z)) 900) (ak (ax (ay ((oL z).map Av)) 12) (((oL z).map Av).all Rx.gE))=ak (ax (aB (He z)) 900) (ak (ax (ay (oL z)) 12) ((oL z).all Rx.gE));rw[aC,aC,kS,List.all_map];rfl
theorem rgK_map (xs zs a:ah):Rx.Xj (xs.map Qo) (zs.map QB) (a.map Nw)=Rx.Xj xs zs a:=by unfold Rx.Xj;rw[aC,aC,aC,aC,aC,aC,kS,kS,kS,List.all_map,List.all_map,show(Rx.gR ∘ Qo)=Rx.gR from rfl,show(Rx.gZ ∘ QB)=Rx.gZ from funext gZ_agZ]
theorem SE (p:V→V→Bool) (g:V→V) (a: ∀x,p x (g x)=true) (l:ah): ∀(k i:Nat),i+k≤l.length→Rx.all2 p l (l.map g) k i=true
 |0,_,_=>rfl
 |k+1,i,h=>by show(p (aG l (i:Int)) (aG (l.map g) (i:Int))&&_)=true;rw[SE p g a l k (i+1) (by omega),get_map g l (by omega),a];rfl
theorem GQ (p:V→V→Bool) (g:V→V) (a: ∀x,p x (g x)=true) (l:ah):Rx.eqs p l (l.map g)=true:=by unfold Rx.eqs;rw[SE p g a l _ _ (by omega),bA (by rw[aC,aC,kS])];rfl
theorem sS (a:af):seq a a=true:=by rw[dx]
theorem eqR_ag (x:V):Rx.eqR x (Qo x)=true:=by unfold Rx.eqR;show ak (seq (aF (ai x 0)) (aF (ai x 0))) _=true;simp only[ai,Qo,abQ,acw,aF,asInt,su,sS,gB]
theorem eqE_ag (x:V):Rx.eqE x (Av x)=true:=by unfold Rx.eqE;simp only[ai,Av,abQ,acw,aF,asInt,asBool,su,sS,gb,gB]
theorem eqL_ag (x:V):Rx.Z5 x (Nw x)=true:=by unfold Rx.Z5;simp only[ai,Nw,abQ,acw,aF,sS,gB]
theorem eqZ_ag (z:V):Rx.eqZ z (QB z)=true:=by unfold Rx.eqZ;show ak (seq (He z) (He z)) (Rx.eqs Rx.eqE (oL z) ((oL z).map Av))=true;rw[sS,GQ _ _ eqE_ag];rfl
theorem eq3_ag (xs zs a:ah):eq3 xs zs a (xs.map Qo) (zs.map QB) (a.map Nw)=true:=by unfold eq3 Rx.KI Rx.Hr Rx.NB;rw[GQ _ _ eqR_ag,GQ _ _ eqZ_ag,GQ _ _ eqL_ag];rfl
theorem XN (a b c:ah):Rx.Ee (V.sl 53 kR none a) (V.sl 57 kZ none b) (V.sl 59 kL none c)=true:=by rfl
theorem plZ_len (xs zs:ah):(plZ xs zs).length=zs.length:=Zr zs _
theorem Zv: ∀(zs:ah) (k:Int),(∀z∈zs,(oL z).length≤12)→ ∀w∈Ug k zs,(jM (ai w 0)).length≤12
 |[],_,_,w,a=>by cases a
 |z::l,k,h,w,a=>by
  rcases List.mem_cons.1 (show w∈V.sl 3 kI none (nums k (oL z).length)::Ug _ l from a) with rfl|a
  ·show(nums k (oL z).length).length≤12
   rw[iR];exact h z rf
  exact Zv l _ (fun y b=>h y (uO _ b)) w a
theorem rb_ev (xs zs d:ah) (A: ∀e∈xs,Rx.fitR e) (x: ∀z∈zs,∀e∈jM (ai z 1),Rx.fitE e):aj eE 3 [.agg [.sl 53 kR none xs,.sl 57 kZ none zs,.sl 59 kL none d]] (.bool true):=by
 refine au iZ bB1_ok 5 3 ?_
 (rw[b31B_top];(conv=>zeta))
 unfold li9 CO Qs Kt;rw[show tl3 (V.sl 53 kR none xs) (V.sl 57 kZ none zs) (V.sl 59 kL none d)=true from XN xs zs d,gt]
 cases C:Rx.li9 xs zs d with
 |false=>rfl
 |true=>
  obtain⟨h,E,y,G⟩:=Rx.rgK_of C A x;obtain⟨F,l2,B,q⟩:=Zu h;have p: ∀a b c:ah,Nv (V.sl 53 kR none a) (V.sl 57 kZ none b) (V.sl 59 kL none c)=Rx.Xj a b c:=by intro a b c;unfold Nv Rx.Nv;rw[XN];rfl
  rw[gn,gf,p,h,gt]
  cases f:Rx.Kt xs zs d with
  |false=>
   have g:Rx.CO xs zs d=4:=by unfold Rx.CO;rw[f];rfl
   have j:Rx.Qs xs zs d=[]:=by unfold Rx.Qs;rw[f];rfl
   rw[g,j];rfl
  |true=>
   have t:=rgt_of f;have g:Rx.CO xs zs d=0:=by unfold Rx.CO;rw[f];rfl
   have j:Rx.Qs xs zs d=xR (qY xs zs d):=by unfold Rx.Qs;rw[f];exact tx_lines xs zs d t.e
   obtain⟨r,o,s,l,u,k,n,m⟩:=src_read t F l2 B q;obtain⟨m1,v⟩:=txT_map xs zs d;rw[←j] at r o s l u k n m;rw[g,r,o,s,l,u,k,n,m,p,rgK_map,h,m1,v,g,eq3_ag,sS,su];have D:sm3 (V.sl 53 kR none xs) (V.sl 57 kZ none zs) (V.sl 59 kL none d) (V.sl 53 kR none (xs.map Qo)) (V.sl 57 kZ none (zs.map QB)) (V.sl 59 kL none (d.map Nw))=true:=by unfold sm3;rw[XN,XN];show ak (ak true true) (ak (ax (ay xs) 1000) (ak (Rx.e12 zs) (ax (ay d) 1000)))=true;rw[E,y,G];rfl
   have i:sqW (plR xs) (plZ xs zs) (plL xs zs d) (plR xs) (plZ xs zs) (plL xs zs d)=true:=by
    refine to_dec ⟨rfl,rfl,rfl,?_,?_,?_,fun w i=>?_⟩
    ·unfold plR;rw[iR];omega
    ·rw[plZ_len];omega
    ·unfold plL;rw[iR];omega
    have:=Zv zs _ q w i;omega
   rw[D,i];rfl
theorem rb_all (x y z:V) (a:Rx.Ee x y z=true) (b: ∀e∈Rx.bD x,Rx.fitR e) (c: ∀z∈Rx.bD y,∀e∈jM (ai z 1),Rx.fitE e):aj eE 3 [.agg [x,y,z]] (.bool true):=VA a (rb_ev _ _ _ b c)
end Nt.Ev.YtjcencojgajgdaaGreatDoor.Rr
