/-
  A namespace. Plain facts on bytes, strings and byte lists, used by all walks of this work. No program in sight. The plain law of num: whole numbers that do not go round. The plain law of numbers' texts: digits, in order. The plain law of numbers that are read. The plain law of numbers there and back: what is written is read, and what is read is written. The plain law of words: what it means that a word begins with a text, large and small letters alike. The plain law of words, more of it: a longer beginning of the same word means the same. From the shelf's contracts to the evaluator's: slices of strings that a call makes. From contracts of calls that turn no given block to the evaluator's contracts. Numbers' digits and texts: the program's and the reference's. What a law's row gives the walk, and what the walk gives back: facts that hold of every program. What a law's row gives the walk, with the form's own reach: sizes of what is read. Same: equations of functions, as the evaluator prints them. Whether two rows of strings are the same. A row is looked through: loops of the laws.
-/
import Derived.Lib.IndexAny
import Derived.Lib.Bytealg
import Derived.WalkKit
import Derived.WalkSpells
import Derived.WalkLawsBesides
import Derived.Deep.QuietTactic
import Derived.BigQuiet
import Derived.Handy
import Derived.Lib.Hide
import Derived.Lib.Strings
import Derived.Lib.SlTrimSet
import Derived.Test.YtpbgegnlkdfjgaaGreatDoorMBB
import Derived.Lib.SplitLaws
import Derived.Test.YtpbgegnlkdfjgaaGreatDoorProg
import Derived.ProofKit
import Derived.OpenShut
import Derived.ShutString
import Derived.ChangeOld
import Derived.Below
import Derived.SliceStrings
import Derived.LaidMore
import Derived.Stop.Joined
set_option linter.unusedVariables false
set_option linter.unusedSimpArgs false
set_option linter.unusedSectionVars false
namespace Go.Proofs.YtpbgegnlkdfjgaaGreatDoor
theorem here:True:=trivial
end Go.Proofs.YtpbgegnlkdfjgaaGreatDoor
namespace Nt
open Go Go.RowKit
def at_ (s:ByteArray) (i:Nat):UInt8:=s.data.toList.getD i 0
theorem mX (s:ByteArray) (i:Nat) (h:i<s.size):at_ s i=s[i]:=by
 unfold at_;rw[List.getD_eq_getElem?_getD,List.getElem?_eq_getElem (by simpa using h)];rfl
theorem KO (c:UInt8):bits BinOp.or IntKind.u8 (↑c.toNat) 32=((c.toNat|||32:Nat):Int):=by
 have h: ∀n:Fin 256,bits BinOp.or IntKind.u8 (((n:Nat):Int)) 32=(((n:Nat)|||32:Nat):Int):=by decide+kernel
 exact h ⟨c.toNat,c.toNat_lt⟩
theorem ZM {P:Program} {f:FuncId} {args:Array Value} {w:World} {k n:Nat} {v:Value}
  (h:Calls P f args (w.drewN (k+n)) fun e w'=>e=.returned v∧ ∃m,w'=(w.drewN (k+n)).drewN m):Calls P f args (w.drewN (k+n)) fun e w''=>e=.returned v∧ ∃m,w''=w.drewN (k+m):=
 h.mono fun _ _ ⟨he,m,hm⟩=>⟨he,n+m,by rw[hm,World.drewN_drewN,Nat.add_assoc]⟩
theorem xW {P:Program} {f:FuncId} {args:Array Value} {w:World} {k n:Nat} {v:Value}
  (h:Calls P f args (w.drewN (k+n)) fun e w'=>e=.returned v∧w'=w.drewN (k+n)):Calls P f args (w.drewN (k+n)) fun e w''=>e=.returned v∧ ∃m,w''=w.drewN (k+m):=
 h.mono fun _ _ ⟨he,hm⟩=>⟨he,n,hm⟩
theorem iI {a b:Bool} (h:a=b):Ending.returned (.bool a)=.returned (.bool b):=by rw[h]
theorem Bt {k:IntKind} {a b:Int} (h:a=b):Ending.returned (.int k a)=.returned (.int k b):=by rw[h]
def Strs (w:World) (p:Option Addr) (len:Nat) (ss:List ByteArray):Prop:=
 ss.length=len∧(∀s∈ss,s.size≤maxLen)∧(0<len→ ∃b off,p=some ⟨b,off,none⟩∧b<w.heap.size∧ ∀i,i<len→w.cell? ⟨b,off+i,none⟩=some (.string (ss.getD i ByteArray.empty)))
theorem Strs.below {w w':World} {p:Option Addr} {len:Nat} {ss:List ByteArray} (h:Strs w p len ss) (hb:Below w.heap.size w w'):Strs w' p len ss:=by
 obtain⟨h1,h2,h3⟩:=h;refine⟨h1,h2,fun hp=>?_⟩;obtain⟨b,off,e,hlt,hc⟩:=h3 hp;exact⟨b,off,e,Nat.lt_of_lt_of_le hlt hb.size,fun i hi=>(hb.cell (p:=⟨b,off+i,none⟩) hlt).trans (hc i hi)⟩
theorem Strs.mem {w:World} {p:Option Addr} {len:Nat} {ss:List ByteArray} (h:Strs w p len ss) {i:Nat} (hi:i<len):(ss.getD i ByteArray.empty).size≤maxLen:=by
 obtain⟨h1,h2,_⟩:=h;rw[List.getD_eq_getElem?_getD,List.getElem?_eq_getElem (by omega)];exact h2 _ (List.getElem_mem _)
theorem below_drewN {B:Nat} {a w:World} (h:Below B a w) (n:Nat):Below B a (w.drewN n):=⟨h.os,h.tape,h.output,h.size,h.block⟩
theorem SY {B:Nat} {w w':World} (h: ∃n,w'=w.drewN n):Below B w w':=by
 obtain⟨n,rfl⟩:=h;exact Nt.below_drewN (Below.refl _ _) n
theorem append1 {P:Program} {ops:Array Oper} {rest:List Oper} {o:Oper} {a:Act} {Q:Exit→Act→World→Prop} (hgd:o.guard=none) (s x:Operand) (t:TypeId)
  (ho:o.op=.call {callee:=.builtin .append,args:= #[s,x],argTypes:= #[t,t]})
  (base:Nat) (e:TypeId) (z:Value) (bytes:Nat) (ht:P.underlying t=some (.slice e))
  (hinfo:(P.info? e).map (fun i=>(i.zero,i.size,i.bytes))=some (some z,1,bytes)) (hzs:z.cells.size=1)
  (v:Value) (n:Nat) (xs:List Value) (wr:World) (y:Value) (e':TypeId) (hs:a.eval s=v) (hown:wr.ownsRow base e 1 v n xs)
  (hx:a.eval x=.slice (some ⟨wr.heap.size,0,none⟩) 1 1) (hy:y.oneCell'=true)
  (hn:(n+1)*bytes≤140737488355328) (hb:0<bytes) (hbase:base≤wr.heap.size)
  (h: ∀v' w',w'.ownsRow base e 1 v' (n+1) (xs++[y])→Below base wr w'→wpList P ops Q rest (a.put o.dst v') w'):
  wpList P ops Q (o::rest) a (wr.alloc (.cells #[y] e')):=by
 obtain⟨i0,hi,hz0,hz1,hz2⟩:=info_parts hinfo;have hn':n+1≤140737488355328:=Nat.le_trans (Nat.le_mul_of_pos_right _ hb) hn;refine wpList_append_own _ hgd s x t ho base e i0 z 1 bytes ht hi hz0 hz1 hz2 hzs (by decide) v n xs hs (hown.alloc _) ⟨wr.heap.size,0,none⟩ 1 1 [y] hx rfl ?_ ?_ ?_ hn ?_ ?_
 ·intro j u hj
  match j,hj with
  |0,hj=>simp at hj;subst hj;simp[Addr.add]
 ·intro u hu;simp at hu;subst hu;exact hy
 ·unfold maxLen;omega
 ·simp;omega
 ·intro v' w' h2 h3 _
  refine h v' w' h2 ?_;refine((Below.refl base wr).alloc hbase _).grown h3 (by simp;omega) ?_;intro k hk;exact(hown.lt k hk).1
theorem IB {w:World} {base e:Nat} {v:Value} {n:Nat} {xs:List Value} (h:w.ownsRow base e 1 v n xs) (hn:0<n):
  ∃g cap,v=.slice (some ⟨g,0,none⟩) n cap∧base≤g∧g<w.heap.size∧ ∀i,i<n→w.cell? ⟨g,0+i,none⟩=some (xs.getD i undef):=by
 have hlt:=h.lt;have hcells: ∀{g:Nat},v.ownBlock=some g→ ∀j u,xs[j]? =some u→w.cell? ((⟨g,0,none⟩:Addr).add j)=some u:=fun hg=>h.cells hg
 obtain⟨h1,h2⟩:=h;rcases h2 with⟨_,h2⟩|⟨g,cap,cur,hv,hg,hh,r⟩
 ·omega
 ·subst hv
  refine⟨g,cap,rfl,hg,(hlt g rfl).2,fun i hi=>?_⟩;have:=hcells (g:=g) rfl i (xs.getD i undef) (by rw[List.getD_eq_getElem?_getD,List.getElem?_eq_getElem (by omega)];rfl);rw[←this];by_cases h0:i=0
  ·subst h0;simp[Addr.add]
  ·simp[Addr.add,h0]
theorem Wv {w:World} {base e:Nat} {v:Value} {n:Nat} {xs:List Value} (h:w.ownsRow base e 1 v n xs): ∃p cap,v=.slice p n cap:=by
 obtain⟨_,h2⟩:=h;rcases h2 with⟨h2,h3⟩|⟨g,cap,cur,hv,_⟩
 ·subst h3;exact⟨none,0,h2⟩
 ·exact⟨_,_,hv⟩
theorem toList_eq (s:ByteArray):s.toList=s.data.toList:=ByteArray.toList_eq s
theorem sH (s:ByteArray) (h:s.size=0):s.toList.isEmpty=true:=by
 rw[toList_eq,List.isEmpty_iff,←List.length_eq_zero_iff];simpa using h
theorem vv (s:ByteArray) (h:s.size≠0):s.toList.isEmpty=false:=by
 rw[toList_eq]
 cases e:s.data.toList with
 |nil=>exact absurd (by have:=congrArg List.length e;simpa using this) h
 |cons a l=>rfl
theorem zB {w:World} {base e size:Nat} {v:Value} {n:Nat} {xs:List Value} (h:w.ownsRow base e size v n xs) (k:Nat):(w.drewN k).ownsRow base e size v n xs:=h
end Nt
namespace Nt.Num
open Go Go.RowKit Nt
def Fits (n:Int):Prop:= -9223372036854775808≤n∧n≤9223372036854775807
instance (n:Int):Decidable (Fits n):=inferInstanceAs (Decidable (_∧_))
def told (n:Int):Int×Int:=if Fits n then(n,0) else(0,1)
theorem jc {n:Int} (h:Fits n):told n=(n,0):=if_pos h
theorem iq {n:Int} (h: ¬Fits n):told n=(0,1):=if_neg h
theorem Ww {n:Int} (h:9223372036854775807<n) (h2:n≤18446744073709551615):wrap64 n<0:=by unfold wrap64;omega
theorem S7 {n:Int} (h:n< -9223372036854775808) (h2: -18446744073709551616≤n):0≤wrap64 n:=by unfold wrap64;omega
theorem UW (a b:Int):(a*b).natAbs=a.natAbs*b.natAbs:=Int.natAbs_mul a b
theorem Wx (a b:Int) (h: ¬(a<0↔b<0)):a*b= -((a.natAbs*b.natAbs:Nat):Int):=by
 have h1:=UW a b;have h2:a*b≤0:=by
  by_cases ha:a<0
  ·exact Int.mul_nonpos_of_nonpos_of_nonneg (by omega) (by omega)
  ·exact Int.mul_nonpos_of_nonneg_of_nonpos (by omega) (by omega)
 omega
theorem Wy (a b:Int) (h:a<0↔b<0):a*b=((a.natAbs*b.natAbs:Nat):Int):=by
 have h1:=UW a b;have h2:0≤a*b:=by
  by_cases ha:a<0
  ·exact Int.mul_nonneg_of_nonpos_of_nonpos (by omega) (by omega)
  ·exact Int.mul_nonneg (by omega) (by omega)
 omega
def bs (l:List UInt8):ByteArray:=⟨l.toArray⟩
theorem yw (l:List UInt8):(bs l).size=l.length:=by simp[bs,ByteArray.size]
def digit (k:Nat):UInt8:=UInt8.ofNat (48+k)
def isDigit (c:UInt8):Bool:=decide (48≤c.toNat)&&decide (c.toNat≤57)
def minus (l:List UInt8):Bool:=match l with|c::_=>c==45|[]=>false
def bare (l:List UInt8):List UInt8:=if minus l then l.drop 1 else l
def good (l:List UInt8):Bool:=(bare l).all isDigit&& !(bare l).isEmpty&&(!((bare l).getD 0 0==48)||(decide ((bare l).length=1)&& !minus l))
def val (d:List UInt8):Nat:=d.foldl (fun n c=>10*n+(c.toNat-48)) 0
def read (l:List UInt8):Int×Int:=if good l then told (if minus l then -(val (bare l):Int) else(val (bare l):Int)) else(0,2)
theorem aaU (d:List UInt8) (c:UInt8):val (d++[c])=10*val d+(c.toNat-48):=by unfold val;rw[List.foldl_append];rfl
theorem mq (d:List UInt8) (k:Nat) (h:k<d.length):val (d.take (k+1))=10*val (d.take k)+((d.getD k 0).toNat-48):=by
 rw[List.take_add_one,List.getD_eq_getElem?_getD,List.getElem?_eq_getElem h];exact aaU _ _
theorem aaV (d:List UInt8) (k:Nat): ∀m,k≤m→val (d.take k)≤val (d.take m):=by
 intro m;induction m with
 |zero=>
  intro h;have e:k=0:=by omega
  rw[e];exact Nat.le_refl _
 |succ m ih=>
  intro h;by_cases e:k=m+1
  ·rw[e];exact Nat.le_refl _
  ·have h1:=ih (by omega)
   by_cases hm:m<d.length
   ·rw[mq d m hm];omega
   ·rw[List.take_of_length_le (show d.length≤m+1 by omega)]
    rw[List.take_of_length_le (show d.length≤m by omega)] at h1;exact h1
theorem L9 (d:List UInt8) (k:Nat):val (d.take k)≤val d:=by
 by_cases h:k≤d.length
 ·have:=aaV d k d.length h
  rwa [List.take_length] at this
 ·rw[List.take_of_length_le (by omega)];exact Nat.le_refl _
theorem Gx (d:List UInt8) (hd:d.all isDigit=true): ∀k,val (d.take k)<10 ^ k:=by
 intro k;induction k with
 |zero=>simp[val]
 |succ k ih=>
  by_cases h:k<d.length
  ·have hc:=List.all_eq_true.1 hd (d.getD k 0) (by rw[List.getD_eq_getElem?_getD,List.getElem?_eq_getElem h];exact List.getElem_mem _)
   simp only[isDigit,Bool.and_eq_true,decide_eq_true_eq] at hc;rw[mq d k h,Nat.pow_succ];omega
  ·rw[List.take_of_length_le (by omega)]
   rw[List.take_of_length_le (by omega)] at ih;exact Nat.lt_of_lt_of_le ih (Nat.pow_le_pow_right (by decide) (by omega))
theorem RU (d:List UInt8) (hd:d.all isDigit=true) (h0:(d.getD 0 0==48)=false): ∀k,k<d.length→10 ^ k≤val (d.take (k+1)):=by
 intro k;induction k with
 |zero=>
  intro h;have hc:=List.all_eq_true.1 hd (d.getD 0 0) (by rw[List.getD_eq_getElem?_getD,List.getElem?_eq_getElem h];exact List.getElem_mem _);simp only[isDigit,Bool.and_eq_true,decide_eq_true_eq] at hc;have h1:(d.getD 0 0).toNat≠48:=fun e=>by
   rw[beq_eq_false_iff_ne] at h0;exact h0 (UInt8.toNat_inj.1 e)
  rw[mq d 0 h];generalize (d.getD 0 0).toNat=c at*;simp[val];omega
 |succ k ih=>
  intro h;have:=ih (by omega);rw[mq d (k+1) h,Nat.pow_succ];omega
theorem KQ (d:List UInt8) (hd:d.all isDigit=true) (h0:(d.getD 0 0==48)=false) (hl:19<d.length):9999999999999999999<val d:=by
 have h1:=RU d hd h0 19 (by omega);have h2:=L9 d (19+1);omega
def signed (below:Bool) (n:Nat):Int:=if below then -(n:Int) else n
theorem Qj (below:Bool) (d:List UInt8) (k:Nat) (h:k<d.length) (hd:d.all isDigit=true):
  signed below (val (d.take (k+1)))=signed below (val (d.take k))*10+(if below then -((d.getD k 0).toNat-48:Int) else((d.getD k 0).toNat-48:Int)):=by
 have hc:=List.all_eq_true.1 hd (d.getD k 0) (by rw[List.getD_eq_getElem?_getD,List.getElem?_eq_getElem h];exact List.getElem_mem _);simp only[isDigit,Bool.and_eq_true,decide_eq_true_eq] at hc;rw[mq d k h];generalize (d.getD k 0).toNat=c at*;unfold signed
 cases below<;>simp<;>omega
theorem Qk (below:Bool) (n m:Nat) (h:n≤m) (hf: ¬Fits (signed below n)): ¬Fits (signed below m):=by
 unfold Fits signed at*
 cases below<;>simp at* <;>omega
theorem Ql (d:List UInt8):(Lib.trimS d [48,49,50,51,52,53,54,55,56,57]=[])↔d.all isDigit=true:=by
 have hset: ∀c:UInt8,([48,49,50,51,52,53,54,55,56,57]:List UInt8).contains c=isDigit c:=by
  have h: ∀n:Fin 256,([48,49,50,51,52,53,54,55,56,57]:List UInt8).contains (UInt8.ofNat n)=isDigit (UInt8.ofNat n):=by decide+kernel
  intro c;have:=h ⟨c.toNat,c.toNat_lt⟩;simpa using this
 have hnil: ∀(p:UInt8→Bool) (l:List UInt8),l.dropWhile p=[]↔ ∀x∈l,p x=true:=by
  intro p l;induction l with
  |nil=>simp
  |cons a l ih=>
   rw[List.dropWhile_cons];split
   ·rename_i h;rw[ih];simp[h]
   ·rename_i h;simp[h]
 have hall: ∀l:List UInt8,(∀x∈l.dropWhile isDigit,isDigit x=true)↔ ∀x∈l,isDigit x=true:=by
  intro l;induction l with
  |nil=>simp
  |cons a l ih=>
   rw[List.dropWhile_cons];split
   ·rename_i h;rw[ih];simp[h]
   ·rfl
 unfold Lib.trimS Lib.trimLeftS Lib.trimRightS;simp only[hset];rw[hnil,List.all_eq_true];simp only[List.mem_reverse];rw[hall];simp
end Nt.Num
namespace Nt.Words
open Go Nt
def low (c:UInt8):UInt8:=if 65≤c.toNat∧c.toNat≤90 then UInt8.ofNat (c.toNat+32) else c
def F5 (n:Nat):Nat:=if 65≤n∧n≤90 then n+32 else n
theorem UX (c:UInt8):F5 c.toNat=(low c).toNat:=by
 have h: ∀x:Fin 256,F5 x=(low (UInt8.ofNat x)).toNat:=by decide+kernel
 have:=h ⟨c.toNat,c.toNat_lt⟩;simpa using this
def alike (x y:UInt8):Bool:=low x==low y
def Gy (x y:Nat):Bool:=x==y||(x|||32==y|||32&&decide (97≤x|||32)&&decide (x|||32≤122))
theorem lowN: ∀x:Fin 256,(low (UInt8.ofNat x)).toNat=if 97≤(x:Nat)|||32∧(x:Nat)|||32≤122 then(x:Nat)|||32 else x:=by decide+kernel
theorem lowK: ∀x:Fin 256,¬(97≤(x:Nat)|||32∧(x:Nat)|||32≤122)→ ¬(97≤(x:Nat)∧(x:Nat)≤122):=by decide+kernel
theorem KR (x:UInt8):(low x).toNat=if 97≤x.toNat|||32∧x.toNat|||32≤122 then x.toNat|||32 else x.toNat:=by
 have:=lowN ⟨x.toNat,x.toNat_lt⟩;simpa using this
theorem aaW (x y:UInt8):alike x y=Gy x.toNat y.toNat:=by
 have h1:=KR x;have h2:=KR y;have k1:=lowK ⟨x.toNat,x.toNat_lt⟩;have k2:=lowK ⟨y.toNat,y.toNat_lt⟩;simp only at k1 k2;have e:alike x y=decide ((low x).toNat=(low y).toNat):=by
  unfold alike;rw[Bool.eq_iff_iff];simp[UInt8.toNat_inj]
 rw[e,h1,h2,Bool.eq_iff_iff];simp only[Gy,decide_eq_true_eq,Bool.or_eq_true,Bool.and_eq_true,beq_iff_eq];have hxy:x.toNat=y.toNat→x.toNat|||32=y.toNat|||32:=fun h=>by rw[h]
 clear h1 h2 e;generalize x.toNat|||32=u at*;generalize y.toNat|||32=v at*;split<;>split<;>omega
def begins (a s:ByteArray):Bool:=decide (s.size≤a.size)&&decide (∀i,i<s.size→alike (at_ a i) (at_ s i)=true)
def same (a b:ByteArray):Bool:=decide (a.size=b.size)&&begins a b
theorem EE (a s:ByteArray) (h:a.size<s.size):begins a s=false:=by
 unfold begins;simp;omega
theorem IC (a s:ByteArray) (h:s.size≤a.size) (k: ∀i,i<s.size→alike (at_ a i) (at_ s i)=true):begins a s=true:=by
 unfold begins;simp[h];exact k
theorem KS (a s:ByteArray) (i:Nat) (hi:i<s.size) (k:alike (at_ a i) (at_ s i)=false):begins a s=false:=by
 unfold begins;simp only[Bool.and_eq_false_iff,decide_eq_false_iff_not];right
 intro h;have:=h i hi;rw[k] at this
 cases this
theorem Wz (x y:UInt8):alike x y=(F5 x.toNat==F5 y.toNat):=by
 rw[UX,UX];unfold alike;rw[Bool.eq_iff_iff];simp[UInt8.toNat_inj]
def nK (ws:List ByteArray) (i:Nat):ByteArray:=ws.getD i ByteArray.empty
def found (s:ByteArray) (ws:List ByteArray) (k:Nat):List Nat:=(List.range k).filter fun i=>begins (nK ws i) s
def mt (s:ByteArray) (ws:List ByteArray):Nat×Nat:=
 if s.size=0 then(0,3) else
 match(List.range ws.length).find? (fun i=>same (nK ws i) s) with
 |some i=>(i,0)
 |none=>match found s ws ws.length with
  |[]=>(0,3)
  |f::r=>if(f::r).all (fun i=>same (nK ws i) (nK ws f)) then(f,0) else(0,3)
theorem KT (s:ByteArray) (ws:List ByteArray) (k:Nat) (h:begins (nK ws k) s=true):found s ws (k+1)=found s ws k++[k]:=by
 simp[found,List.range_succ,List.filter_append,h]
theorem OZ (s:ByteArray) (ws:List ByteArray) (k:Nat) (h:begins (nK ws k) s=false):found s ws (k+1)=found s ws k:=by
 simp[found,List.range_succ,List.filter_append,h]
theorem O0 (s:ByteArray) (ws:List ByteArray) (k:Nat):(found s ws k).length≤k:=by
 have:=List.length_filter_le (fun i=>begins (nK ws i) s) (List.range k);simpa[found] using this
theorem BL (s:ByteArray) (ws:List ByteArray) (k i:Nat) (h:i∈found s ws k):i<k:=by
 simp[found] at h;exact h.1
theorem RV (s:ByteArray) (ws:List ByteArray) (h:s.size=0):mt s ws=(0,3):=by simp[mt,h]
theorem Fh {p:Nat→Bool} {n:Nat} (h: ∀i,i<n→p i=false):(List.range n).find? p=none:=by
 rw[List.find?_eq_none];intro x hx;simp at hx;simp[h x hx]
theorem Fj {p:Nat→Bool} {n k:Nat} (hk:k<n) (hp:p k=true) (h: ∀i,i<k→p i=false):(List.range n).find? p=some k:=by
 rw[List.find?_eq_some_iff_append];refine⟨hp,List.range k,(List.range (n-(k+1))).map (k+1+ ·),?_,?_⟩
 ·have e:n=(k+1)+(n-(k+1)):=by omega
  conv=>lhs;rw[e,List.range_add]
  rw[List.range_succ];simp
 ·intro a ha
  simp at ha;simp[h a ha]
theorem ZN (s:ByteArray) (ws:List ByteArray) (k:Nat) (h:s.size≠0) (hk:k<ws.length) (hp:same (nK ws k) s=true) (hn: ∀i,i<k→same (nK ws i) s=false):mt s ws=(k,0):=by
 simp only[mt,if_neg h];rw[Fj hk hp hn]
theorem Bu (s:ByteArray) (ws:List ByteArray) (h:s.size≠0) (hn: ∀i,i<ws.length→same (nK ws i) s=false):
  mt s ws=match found s ws ws.length with
  |[]=>(0,3)
  |f::r=>if(f::r).all (fun i=>same (nK ws i) (nK ws f)) then(f,0) else(0,3):=by
 simp only[mt,if_neg h];rw[Fh hn]
theorem O1 (s:ByteArray) (ws:List ByteArray) (h:s.size≠0) (hn: ∀i,i<ws.length→same (nK ws i) s=false) (hf:(found s ws ws.length).length=0):mt s ws=(0,3):=by
 rw[Bu s ws h hn,List.length_eq_zero_iff.1 hf]
theorem mt_bad (s:ByteArray) (ws:List ByteArray) (h:s.size≠0) (hn: ∀i,i<ws.length→same (nK ws i) s=false) (k:Nat) (hk:k<(found s ws ws.length).length)
  (hb:same (nK ws ((found s ws ws.length).getD k 0)) (nK ws ((found s ws ws.length).getD 0 0))=false):mt s ws=(0,3):=by
 rw[Bu s ws h hn];generalize found s ws ws.length=l at*;match l,hk,hb with
 |f::r,hk,hb=>
  simp only;rw[if_neg];intro ha;rw[List.all_eq_true] at ha;have:=ha ((f::r).getD k 0) (by rw[List.getD_eq_getElem?_getD,List.getElem?_eq_getElem hk];exact List.getElem_mem _);simp only[List.getD_cons_zero] at hb;rw[hb] at this
  cases this
theorem mt_ok (s:ByteArray) (ws:List ByteArray) (h:s.size≠0) (hn: ∀i,i<ws.length→same (nK ws i) s=false) (hk:0<(found s ws ws.length).length)
  (hb: ∀k,k<(found s ws ws.length).length→same (nK ws ((found s ws ws.length).getD k 0)) (nK ws ((found s ws ws.length).getD 0 0))=true):mt s ws=((found s ws ws.length).getD 0 0,0):=by
 rw[Bu s ws h hn];generalize found s ws ws.length=l at*;match l,hk,hb with
 |f::r,hk,hb=>
  simp only;rw[if_pos]
  ·rfl
  ·rw[List.all_eq_true]
   intro x hx;obtain⟨i,hi,e⟩:=List.getElem_of_mem hx;have:=hb i hi;rw[List.getD_eq_getElem?_getD,List.getElem?_eq_getElem hi] at this;simp only[Option.getD_some,List.getD_cons_zero] at this;rw[←e];exact this
theorem mt_ok2 (s:ByteArray) (ws:List ByteArray) (h:s.size≠0) (hn: ∀i,i<ws.length→same (nK ws i) s=false) (f:Nat) (r:List Nat) (e:found s ws ws.length=f::r)
  (hb: ∀i∈f::r,same (nK ws i) (nK ws f)=true):mt s ws=(f,0):=by
 rw[Bu s ws h hn,e];simp only;rw[if_pos (List.all_eq_true.2 hb)]
theorem mt_bad2 (s:ByteArray) (ws:List ByteArray) (h:s.size≠0) (hn: ∀i,i<ws.length→same (nK ws i) s=false) (f:Nat) (r:List Nat) (e:found s ws ws.length=f::r)
  (i:Nat) (hi:i∈f::r) (hb:same (nK ws i) (nK ws f)=false):mt s ws=(0,3):=by
 rw[Bu s ws h hn,e];simp only;rw[if_neg];intro ha;have:=List.all_eq_true.1 ha i hi;rw[hb] at this
 cases this
theorem S8 (s:ByteArray) (ws:List ByteArray) (k m:Nat) (h:k≤m): ∃t,found s ws m=found s ws k++t:=by
 obtain⟨d,rfl⟩: ∃d,m=k+d:=⟨m-k,by omega⟩
 refine⟨((List.range d).map (k+ ·)).filter fun i=>begins (nK ws i) s,?_⟩;simp only[found,List.range_add,List.filter_append]
theorem ID (x y:UInt8):alike x y=alike y x:=by unfold alike;rw[Bool.eq_iff_iff,beq_iff_eq,beq_iff_eq];exact⟨Eq.symm,Eq.symm⟩
theorem KU (a b:ByteArray):same a b=same b a:=by
 rw[Bool.eq_iff_iff];simp only[same,begins,Bool.and_eq_true,decide_eq_true_eq];constructor
 ·rintro⟨h1,h2,h3⟩
  exact⟨h1.symm,by omega,fun i hi=>by rw[ID];exact h3 i (by omega)⟩
 ·rintro⟨h1,h2,h3⟩
  exact⟨h1.symm,by omega,fun i hi=>by rw[ID];exact h3 i (by omega)⟩
def Gz (l:List Nat):Int:=match l with|[]=>-1|f::_=>(f:Int)
def months:List ByteArray:=[⟨#[74,97,110,117,97,114,121]⟩,⟨#[70,101,98,114,117,97,114,121]⟩,⟨#[77,97,114,99,104]⟩,⟨#[65,112,114,105,108]⟩,⟨#[77,97,121]⟩,⟨#[74,117,110,101]⟩,⟨#[74,117,108,121]⟩,⟨#[65,117,103,117,115,116]⟩,⟨#[83,101,112,116,101,109,98,101,114]⟩,⟨#[79,99,116,111,98,101,114]⟩,⟨#[78,111,118,101,109,98,101,114]⟩,⟨#[68,101,99,101,109,98,101,114]⟩]
def weekdays:List ByteArray:=[⟨#[83,117,110,100,97,121]⟩,⟨#[77,111,110,100,97,121]⟩,⟨#[84,117,101,115,100,97,121]⟩,⟨#[87,101,100,110,101,115,100,97,121]⟩,⟨#[84,104,117,114,115,100,97,121]⟩,⟨#[70,114,105,100,97,121]⟩,⟨#[83,97,116,117,114,100,97,121]⟩]
theorem mt_err (s:ByteArray) (ws:List ByteArray):(mt s ws).2=0∨(mt s ws).2=3:=by
 unfold mt
 (repeat' split)<;>simp
theorem EF (a s:ByteArray):begins a s=true↔s.size≤a.size∧ ∀i,i<s.size→alike (at_ a i) (at_ s i)=true:=by
 unfold begins;simp
theorem WA (a s:ByteArray):same a s=true↔s.size=a.size∧ ∀i,i<s.size→alike (at_ a i) (at_ s i)=true:=by
 unfold same;rw[Bool.and_eq_true,EF,decide_eq_true_eq];constructor
 ·rintro⟨h1,h2,h3⟩;exact⟨h1.symm,h3⟩
 ·rintro⟨h1,h3⟩;exact⟨h1.symm,by omega,h3⟩
theorem Qm {a s:ByteArray} (h:same a s=true):begins a s=true:=by
 rw[WA] at h;rw[EF];exact⟨by omega,h.2⟩
theorem mt_told (s:ByteArray) (ws:List ByteArray) (i:Nat) (h:mt s ws=(i,0)):
  s.size≠0∧i<ws.length∧begins (nK ws i) s=true∧
  ((same (nK ws i) s=true)∨((∀j,j<ws.length→same (nK ws j) s=false)∧ ∃r,found s ws ws.length=i::r∧ ∀j∈i::r,same (nK ws j) (nK ws i)=true)):=by
 by_cases h0:s.size=0
 ·rw[RV s ws h0] at h;simp at h
 refine⟨h0,?_⟩;unfold mt at h;rw[if_neg h0] at h
 cases e:(List.range ws.length).find? (fun i=>same (nK ws i) s) with
 |some k=>
  rw[e] at h;simp only[Prod.mk.injEq,and_true] at h;subst h;have h1:=List.mem_of_find?_eq_some e;have h2:=List.find?_some e;simp only[List.mem_range] at h1;exact⟨h1,Qm h2,.inl h2⟩
 |none=>
  rw[e] at h;rw[List.find?_eq_none] at e;have hn: ∀j,j<ws.length→same (nK ws j) s=false:=fun j hj=>by
   have:=e j (by simpa using hj);simpa using this
  simp only at h
  cases ef:found s ws ws.length with
  |nil=>rw[ef] at h;simp at h
  |cons f r=>
   rw[ef] at h;simp only at h;split at h
   ·rename_i hall
    simp only[Prod.mk.injEq,and_true] at h;subst h;have hm:f∈found s ws ws.length:=by rw[ef];simp
    have hl:=BL s ws _ _ hm;have hb:begins (nK ws f) s=true:=by simp[found] at hm;exact hm.2
    exact⟨hl,hb,.inr ⟨hn,r,rfl,List.all_eq_true.1 hall⟩⟩
   ·simp at h
theorem mt_not (s:ByteArray) (ws:List ByteArray) (i c:Nat) (h:mt s ws=(i,c)) (hc:c≠0):i=0:=by
 unfold mt at h
 (repeat' split at h)<;>simp_all
end Nt.Words
namespace Nt.Ev
open Go Go.RowKit
class uT where val:Int
def bQ (L:List (List UInt8)):List V:=L.map V.str
def mh (L:List (List UInt8)):List Value:=L.map fun l=>Value.string ⟨l.toArray⟩
theorem Dv {G:aQ}: ∀(L:List (List UInt8)) (rest:List Value),cK G [.str] (bQ L) (mh L++rest)
 |[],_=>iZ
 |l::L,rest=>by
  show cK G [.str] (V.str l::bQ L) (Value.string ⟨l.toArray⟩::(mh L++rest));unfold cK;refine⟨rfl,⟨.string ⟨l.toArray⟩,by unfold aP;rfl,rfl⟩,?_⟩;exact Dv L rest
theorem aaX {G:aQ} {w:World} (hG:ze G w) (e:Nat) (t:TypeId) (L:List (List UInt8)) (n cap:Nat) (hn:n=L.length) (hcap:n≤cap):
  ∃G',New w (w.alloc (.cells (mh L).toArray t)) G G'∧aP G' (.sl e [.str] none (bQ L)) (.slice (some ⟨w.heap.size,0,none⟩) n cap):=by
 refine⟨_,Mw hG (iO _ _) (heap_alloc_new w _) (mh L).length (by simp),?_⟩;unfold aP;have hl:(bQ L).length=n:=by unfold bQ;simp[hn]
 refine⟨_,cap,by rw[hl],by omega,.inr ⟨w.heap.size,0,_,rfl,upd_same _ _ _,?_⟩⟩;have:=Dv (G:=upd G w.heap.size (List.take (mh L).length (mh L).toArray.toList)) L [];simpa using this
theorem str_bs (s:ByteArray):s=⟨s.data.toList.toArray⟩:=by cases s;simp
theorem jo {G:aQ} {a b:V} {vs:List Value} (h:PW (aP G) [a,b] vs): ∃x y,vs=[x,y]∧aP G a x∧aP G b y:=by
 obtain⟨x,t,rfl,h1,h2⟩:=h.cons_inv;obtain⟨y,t,rfl,h3,h4⟩:=h2.cons_inv;exact⟨x,y,by rw[h4.cZ],h1,h3⟩
theorem Ma {G:aQ} {a:V} {vs:List Value} (h:PW (aP G) [a] vs): ∃x,vs=[x]∧aP G a x:=by
 obtain⟨x,t,rfl,h1,h2⟩:=h.cons_inv;exact⟨x,by rw[h2.cZ],h1⟩
theorem O3 {E:Env} {G:aQ} {w:World} (hG:ze G w) (hg:oQ E G) {n:Nat} {k:IntKind} {m:Int} (h:E.glob n=some (.rptr [.int k] (.int k m) 0)):w.cell? ⟨n,0,none⟩=some (.int k m):=by
 have:=(hg n _ h).2;unfold aP at this;obtain⟨b,o,l,e,hb,_,u,hu,hc⟩:=this;unfold aP at hu;subst hu;simp only[Value.pointer.injEq,Option.some.injEq,Addr.mk.injEq,Nat.add_zero,and_true] at e;obtain⟨rfl,rfl⟩:=e;refine jH hG hb ?_;have h1:=congrArg (fun l=>l[0]?) hc;simpa[Value.cells] using h1
theorem IW {E:Env} {f T mx:Nat} {mv:Int} (hmx:E.glob mx=some (.rptr [.int .i64] (.int .i64 mv) 0)) (s sep:List UInt8) (h1:1≤sep.length) (hs:s.length<4294967281)
  (hc: ∀(s sep:ByteArray) (m:Int) (w:World),s.size<4294967281→w.cell? ⟨mx,0,none⟩=some (.int .i64 m)→1≤sep.size→Calls E.P f #[.string s,.string sep] w fun e w'=>
   e=.returned (.slice (some ⟨w.heap.size,0,none⟩) (Lib.countB s sep+1) (Lib.countB s sep+1))∧w'=w.alloc (.cells ((Lib.splitB sep 0 (Lib.countB s sep) s).map Value.string).toArray T)):
  af E f [.str s,.str sep] (.sl T [.str] none (bQ (Lib.splitK sep 0 (Lib.count s sep) s))):=by
 intro G w vs hG hg hp;obtain⟨x,y,rfl,hx,hy⟩:=jo hp;unfold aP at hx hy;subst hx;subst hy;refine(hc ⟨s.toArray⟩ ⟨sep.toArray⟩ mv w (show s.toArray.size<_ by simpa using hs) (O3 hG hg hmx) (show 1≤sep.toArray.size by simpa using h1)).mono ?_;rintro e w' ⟨rfl,rfl⟩;have e1:Lib.countB ⟨s.toArray⟩ ⟨sep.toArray⟩=Lib.count s sep:=rfl;have e2:(Lib.splitB ⟨sep.toArray⟩ 0 (Lib.count s sep) ⟨s.toArray⟩).map Value.string=mh (Lib.splitK sep 0 (Lib.count s sep) s):=by
  have:=Lib.splitB_data ⟨sep.toArray⟩ 0 (Lib.count s sep) ⟨s.toArray⟩;rw[show(ByteArray.mk sep.toArray).data.toList=sep from rfl,show(ByteArray.mk s.toArray).data.toList=s from rfl] at this;unfold mh;rw[←this,List.map_map];exact List.map_congr_left fun b _=>by show Value.string b=_;rw[Function.comp_apply,←str_bs]
 rw[e1,e2];have hlen:(Lib.splitK sep 0 (Lib.count s sep) s).length=Lib.count s sep+1:=by
  have h3:=Lib.splitB_all ⟨sep.toArray⟩ (show 1≤sep.toArray.size by simpa using h1) 0 _ ⟨s.toArray⟩ rfl;have h4:=congrArg List.length e2;unfold mh at h4;rw[List.length_map,List.length_map] at h4;rw[←h4];exact h3
 obtain⟨G',hN,hr⟩:=aaX hG T T (Lib.splitK sep 0 (Lib.count s sep) s) (Lib.count s sep+1) (Lib.count s sep+1) hlen.symm (Nat.le_refl _);exact⟨_,G',rfl,hN,hr⟩
theorem He (L:List (List UInt8)) (p:List UInt8):aX (bQ L) [V.str p]=bQ (L++[p]):=by unfold aX bQ;simp
theorem lS (L:List (List UInt8)):(bQ L).length=L.length:=by unfold bQ;simp
theorem O4 (s:List UInt8) (a k:Nat) (h:a≤k) (hk:k<s.length):(s.drop a).take (k+1-a)=(s.drop a).take (k-a)++[s.getD k 0]:=by
 rw[show k+1-a=(k-a)+1 by omega,List.take_add_one];congr 1
 rw[List.getElem?_drop,show a+(k-a)=k by omega,List.getElem?_eq_getElem hk,List.getD_eq_getElem?_getD,List.getElem?_eq_getElem hk];rfl
theorem oD (s:List UInt8) (k:Nat) (hk:k<s.length):s.drop k=s.getD k 0::s.drop (k+1):=by
 rw[List.drop_eq_getElem_cons hk,List.getD_eq_getElem?_getD,List.getElem?_eq_getElem hk];rfl
open Nt
theorem bJ {E:Env} {f:Nat} {args:List V} {r:V} (h: ∀(G:aQ) (w:World) (vs:List Value),ze G w→oQ E G→PW (aP G) args vs→
  Calls E.P f vs.toArray w fun e w'=>∃v,e=.returned v∧Below w.heap.size w w'∧ ∀(G':aQ) (w':World) (B:Nat→Prop),fP G' w' B r v):af E f args r:=by
 intro G w vs hG hg hp;refine(h G w vs hG hg hp).mono ?_;rintro e w' ⟨v,rfl,hb,hr⟩;refine⟨v,G,rfl,⟨hb,fun _ _=>rfl,fun b l hl=>?_⟩,hr _ _ _⟩;obtain⟨c,e,fr,hc,ht⟩:=hG b l hl;exact⟨c,e,fr,by rw[hb.block b (eY hG hl)];exact hc,ht⟩
theorem r9 (k:IntKind) (n:Int): ∀(G':aQ) (w':World) (B:Nat→Prop),fP G' w' B (.int k n) (.int k n):=fun _ _ _=>by simp only[fP,oM];unfold aP;rfl
theorem Hf (b:Bool): ∀(G':aQ) (w':World) (B:Nat→Prop),fP G' w' B (.bool b) (.bool b):=fun _ _ _=>by simp only[fP,oM];unfold aP;rfl
theorem MF (l:List UInt8): ∀(G':aQ) (w':World) (B:Nat→Prop),fP G' w' B (.str l) (.string ⟨l.toArray⟩):=fun _ _ _=>by simp only[fP,oM];unfold aP;rfl
def Same (x:V) (v:Value):Prop:=rH x=false∧ ∀(G':aQ) (w':World) (B:Nat→Prop),oM G' w' B x v
theorem oF (k:IntKind) (n:Int):Same (.int k n) (.int k n):=⟨rfl,fun _ _ _=>by simp only[oM];unfold aP;rfl⟩
theorem KV (b:Bool):Same (.bool b) (.bool b):=⟨rfl,fun _ _ _=>by simp only[oM];unfold aP;rfl⟩
theorem Hg (l:List UInt8):Same (.str l) (.string ⟨l.toArray⟩):=⟨rfl,fun _ _ _=>by simp only[oM];unfold aP;rfl⟩
theorem UY {xs:List V} {vs:List Value} (h:PW Same xs vs): ∀(G':aQ) (w':World) (B:Nat→Prop),fP G' w' B (.tup xs) (.tuple vs.toArray):=by
 intro G w B;refine⟨vs,rfl,h.mono fun x _ v hx=>hx.2 G w B,?_⟩;have:xs.countP rH=0:=by
  rw[List.countP_eq_zero];intro x hx;obtain⟨i,hi⟩:=List.getElem?_of_mem hx;obtain⟨v,_,hv⟩:=h.get hi;rw[hv.1];decide
 omega
theorem Bv {x y:V} {a b:Value} (h:Same x a) (k:Same y b): ∀(G':aQ) (w':World) (B:Nat→Prop),fP G' w' B (.tup [x,y]) (.tuple #[a,b]):=UY (vs:=[a,b]) (.cons h (.cons k .nil))
theorem O5 {G:aQ} {w:World} (hG:ze G w) {e:Nat} {o:Option Nat} {ws:List V} {v:Value} (h:aP G (.sl e [.str] o ws) v) (hws: ∀x∈ws,∃l,x=.str l∧l.length≤1000):
  ∃p cap,v=.slice p ws.length cap∧Strs w p ws.length (ws.map fun x=>(⟨(aT x).toArray⟩:ByteArray)):=by
 unfold aP at h;obtain⟨p,cap,rfl,hcap,h⟩:=h;refine⟨p,cap,rfl,by simp,?_,fun hpos=>?_⟩
 ·intro s hs
  rw[List.mem_map] at hs;obtain⟨x,hx,rfl⟩:=hs;obtain⟨l,rfl,hl⟩:=hws x hx;have:(⟨(aT (V.str l)).toArray⟩:ByteArray).size=l.length:=by simp[ByteArray.size,aT]
  rw[this];unfold maxLen;omega
 ·rcases h with h|⟨b,off,l,rfl,tQ,hE⟩
  ·rw[h] at hpos;simp at hpos
  ·refine⟨b,off,rfl,eY hG tQ,fun i hi=>?_⟩
   obtain⟨hf,u,hu,hcs⟩:=xu _ _ hE i _ (List.getElem?_eq_getElem hi);obtain⟨l',hl',_⟩:=hws _ (List.getElem_mem hi);refine jH hG tQ ?_;rw[hl'] at hu;unfold aP at hu;subst hu;have h0:=congrArg (fun q=>q[0]?) hcs;simp only[List.length_singleton,Nat.mul_one,Value.cells] at h0;have h1:((l.drop off).drop i)[0]? =some (Value.string ⟨l'.toArray⟩):=by
    rw[List.getElem?_take] at h0;simpa using h0
   rw[List.getElem?_drop,List.getElem?_drop] at h1;rw[show off+i=off+(i+0) by omega,h1];congr 2
   rw[List.getD_eq_getElem?_getD,List.getElem?_map,List.getElem?_eq_getElem hi,hl'];rfl
end Nt.Ev
namespace Go.Proofs.YtpbgegnlkdfjgaaGreatDoor
open Go Nt Nt.Ev Nt.Num
noncomputable def nE:Env:=⟨Tryz.prog,fun _=>none⟩
theorem nE_ok:vT nE:=⟨by kernel_rfl,by kernel_rfl⟩
def nS0:List (Nat×aL):=[]
def yD (l:List UInt8):Bool:=l.all isDigit&& !l.isEmpty
noncomputable def vw (F:Nat) (ns:List Nat) (n:Nat) (x0:List UInt8) (x2:Bool) (x3:Int) (K:V→Option V):Option V:=
 dN nE nS0 F 1 124 [1,0,1,0] ns K n (iY 22 [(0,V.str x0),(2,V.bool x2),(3,V.int .i64 x3)] [])
set_option maxRecDepth 100000 in
theorem Qn (F:Nat) (s:List UInt8) (K:V→Option V):
  bD nE (bB nE nS0 F 1) F 124 [V.str s] K=
 vw F [] F s false 0 K:=by kernel_rfl
set_option maxRecDepth 100000 in
theorem Fp (F n:Nat) (x0:List UInt8) (x2:Bool) (x3:Int) (K:V→Option V):
  vw F [] (n+1) x0 x2 x3 K=
 let B:=aK x3 (ah x0);let C:=K (V.bool false);let A:=av (ak 0 x3) B;sel B (sel A (sel (aK (sat x0 x3) 48) C (sel A (sel (aK 57 (sat x0 x3)) C (vw F [] n x0 x2 (bP .i64 x3 1) K)) none)) none) (K (V.bool (aB (seq x0 [])))):=by kernel_rfl
theorem jL (c:UInt8):isDigit c=true↔48≤c.toNat∧c.toNat≤57:=by unfold isDigit;simp
theorem Nn (s:List UInt8) (hs:s.length≤9223372036854775806) (F:Nat) (K:V→Option V): ∀(n k:Nat),k≤s.length→s.length-k<n→vw F [] n s false (k:Int) K=K (.bool ((s.drop k).all isDigit&& !s.isEmpty)):=by
 intro n;induction n with
 |zero=>intro k _ h;omega
 |succ n ih=>
  intro k hk hn
  (rw[Fp];(conv=>zeta))
  simp only[bI,aU,aA,aC,au,mg];by_cases hlt:k<s.length
  ·rw[if_pos (by omega),if_pos (by omega)]
   have hd:s.drop k=s.getD k 0::s.drop (k+1):=by
    rw[List.drop_eq_getElem_cons hlt,List.getD_eq_getElem?_getD,List.getElem?_eq_getElem hlt];rfl
   rw[hd,List.all_cons];generalize s.getD k 0=c;have hc:=c.toNat_lt;by_cases h1:c.toNat<48
   ·rw[if_pos (by omega)]
    have:isDigit c=false:=by rw[Bool.eq_false_iff,ne_eq,jL];omega
    rw[this];rfl
   ·rw[if_neg (by omega),if_pos (by omega)]
    by_cases h2:57<c.toNat
    ·rw[if_pos (by omega)]
     have:isDigit c=false:=by rw[Bool.eq_false_iff,ne_eq,jL];omega
     rw[this];rfl
    ·rw[if_neg (by omega),dh (by omega)]
     have:isDigit c=true:=by rw[jL];omega
     rw[this,Bool.true_and];exact ih (k+1) (by omega) (by omega)
  ·rw[if_neg (by omega)]
   have:s.drop k=[]:=List.drop_of_length_le (by omega);rw[this,List.all_nil,Bool.true_and]
   cases s with
   |nil=>rfl
   |cons a l=>rfl
theorem S9 (s:List UInt8) (hs:s.length≤9223372036854775806):af nE 124 [.str s] (.bool (yD s)):=by
 refine ai nE_ok (S:=nS0) bF.nil (s.length+1) 1 ?_;rw[Qn];have:=Nn s hs (s.length+1) some (s.length+1) 0 (by omega) (by omega);rw[List.drop_zero] at this;exact this
end Go.Proofs.YtpbgegnlkdfjgaaGreatDoor
namespace Nt
open Go Go.RowKit Go.ChangeShapes Go.WideShapes Go.ChangeAt
open Go.ChangeMaps (open_string shut_string)
section
variable {H:Type} {enc:TypeId×Value→H} {P:Program}
theorem zC (hl:laidOutB P=true) {W W':World} (hb:Below W.heap.size W W'):
  ∀(ts:List TypeId) (vs:List Value) (ds:List (DataW H)) (ps:List MemPlace),(ts.all fun t=>P.readableRec t&&decide (t<P.types.size))=true→
  DataW.TrodAll enc P W 0 (fun _=>true) true ts vs ds ps→DataW.TrodAll enc P W' 0 (fun b=>decide (b<W.heap.size)) true ts vs ds ps
 |[],[],[],_,_,h=>h
 |[],_::_,_,_,_,h=>by simp[DataW.TrodAll] at h
 |[],[],_::_,_,_,h=>by simp[DataW.TrodAll] at h
 |_::_,[],_,_,_,h=>by simp[DataW.TrodAll] at h
 |_::_,_::_,[],_,_,h=>by simp[DataW.TrodAll] at h
 |t::ts,v::vs,d::ds,ps,hr,h=>by
  simp only[List.all_cons,Bool.and_eq_true,decide_eq_true_eq] at hr;obtain⟨p,q,hp,hq,e⟩:=h;refine⟨p,q,?_,zC hl hb ts vs ds q hr.2 hq,e⟩;have lt: ∀x∈p,x.block<W.heap.size:=by obtain⟨m,hm⟩:=hp;exact DataW.trod_lt m _ _ _ hm
  exact Below.trod hl hr.1.1 hr.1.2 hp hb lt
end
section
variable {H:Type} {enc:TypeId×Value→H} {P:Program}
end
end Nt
namespace Nt.Ev.YtpbgegnlkdfjgaaGreatDoor
open Go Nt.Num Go.Proofs.YtpbgegnlkdfjgaaGreatDoor
noncomputable def oE:Env:=⟨Go.Proofs.Tryz.prog,fun _=>none⟩
noncomputable def oS:List (Nat×aL):=[]
open Go.RowKit Nt
theorem Be:vT oE:=⟨by kernel_rfl,by kernel_rfl⟩
theorem oS_ok:bF oE oS:=bF.nil
theorem sF' {α:Type} (a b:α):sel false a b=b:=rfl
theorem Jt {E:Env} {f:Nat} {args:List V} {e:Nat} {sh:List Kd} {o:Option Nat} {xs ys:List V} (h:af E f args (.tup (.sl e sh o xs::ys))):af E f args (.tup (.sl e sh none xs::ys)):=by
 cases o with
 |none=>exact h
 |some L=>
 intro G w vs hG hg hp;refine(h G w vs hG hg hp).mono ?_;rintro e' w' ⟨v,G',rfl,hn,a,rfl,hpw,hc⟩;refine⟨_,G',rfl,hn,a,rfl,?_,?_⟩
 ·match a,hpw with
  |[],hpw=>exact absurd hpw.1 (by simp)
  |u::us,hpw=>
   refine .cons ?_ hpw.tail;have h1:=hpw.head;show aP G' _ _;refine mo ?_;rcases h1.2 with⟨hu,hx⟩|⟨b,cap,cur,l,hv,_,_,hcap,_,_,hG,hl,hE⟩
   ·exact .inl ⟨hu,hx⟩
   ·exact .inr ⟨b,cap,l,hv,hcap,hG,hl,hE⟩
 ·have e1:(V.sl e sh (some L) xs::ys).countP rH=ys.countP rH+1:=by
   rw[List.countP_cons];rfl
  have e2:(V.sl e sh none xs::ys).countP rH=ys.countP rH:=by
   rw[List.countP_cons];rfl
  omega
theorem Np {E:Env} {f:Nat} {args:List V} {e:Nat} {sh:List Kd} {ys:List V} (h:af E f args (.tup (.nilsl::ys))):af E f args (.tup (.sl e sh none []::ys)):=by
 intro G w vs hG hg hp;refine(h G w vs hG hg hp).mono ?_;rintro e' w' ⟨v,G',rfl,hn,a,rfl,hpw,hc⟩;refine⟨_,G',rfl,hn,a,rfl,?_,hc⟩;match a,hpw with
 |[],hpw=>exact absurd hpw.1 (by simp)
 |u::us,hpw=>
  refine .cons ?_ hpw.tail;have h1:=hpw.head;have h2:u=.slice none 0 0:=h1;subst h2;show aP G' _ _;unfold aP;exact⟨none,0,rfl,Nat.le_refl _,.inl rfl⟩
theorem IX {E:Env} {f:Nat} {args:List V} {e:Nat} {sh:List Kd} {o:Option Nat} {xs:List V} (h:af E f args (.sl e sh o xs)):af E f args (.sl e sh none xs):=by
 cases o with
 |none=>exact h
 |some L=>
 intro G w vs hG hg hp;refine(h G w vs hG hg hp).mono ?_;rintro e' w' ⟨v,G',rfl,hn,h1⟩;refine⟨_,G',rfl,hn,?_⟩;show aP G' _ _;refine mo ?_;rcases h1.2 with⟨hu,hx⟩|⟨b,cap,cur,l,hv,_,_,hcap,_,_,hG,hl,hE⟩
 ·exact .inl ⟨hu,hx⟩
 ·exact .inr ⟨b,cap,l,hv,hcap,hG,hl,hE⟩
end Nt.Ev.YtpbgegnlkdfjgaaGreatDoor
