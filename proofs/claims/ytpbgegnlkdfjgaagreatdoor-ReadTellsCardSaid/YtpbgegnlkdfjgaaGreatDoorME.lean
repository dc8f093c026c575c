/-
  words.begins, words.Same and the reference's own: each tells what the plain law says. words.Match: it tells what the plain law says. The reference's Match: it tells what the plain law says. num and its reference, function by function: sums, products, what is left, quotients. num and its reference, function by function: sums, products, what is left, quotients, the rest. num.Mul and its reference: a product, if it fits. num.cut: a text's sign and digits. '[]byte(s)': a new row of the string's bytes. num.Read: the number of a text. The reference's Digits and Read. The reference's Read: the number of a text. The reference's Read of a text with a - ahead. Contracts of num.Read, of words.Match, and of the reference's, for the evaluator.
-/
import Derived.Test.YtpbgegnlkdfjgaaGreatDoorProg
import Derived.Test.YtpbgegnlkdfjgaaGreatDoorMC
import Derived.Test.YtpbgegnlkdfjgaaGreatDoorMS
import Derived.Laws.IdiomStrings
set_option linter.unusedVariables false
set_option linter.unusedSimpArgs false
set_option linter.unusedSectionVars false
namespace Go.Proofs.YtpbgegnlkdfjgaaGreatDoor
open Go.RowKit Nt Nt.Words
set_option maxHeartbeats 400000 in
theorem Hl (a s : ByteArray) (w : World) (ha : a.size ≤ maxLen) (hs : s.size ≤ maxLen) :
    Calls Tryz.prog 52 #[.string a, .string s] w fun e w' => e = .returned (.bool (begins a s)) ∧ ∃ n, w' = w.drewN n := by
  unfold maxLen at ha hs
  by_cases hlt : a.size < s.size
  · have H := Lib.hid (EE a s hlt)
    go_enter Tryz.func52, Tryz.ntmps52
    go_wp2
    go_ret
    exact ⟨iI H.out.symm, 0, rfl⟩
  · go_enter Tryz.func52, Tryz.ntmps52
    go_wp2
    go_loopw [15] (fun i wr => ∃ k : Nat, k ≤ s.size ∧ i = .int .i64 k ∧ Hid (∀ i, i < k → alike (at_ a i) (at_ s i) = true) ∧ ∃ n, wr = w.drewN n) (fun i _ => s.size - (intOf i).toNat)
    case atStart => exact ⟨0, by omega, rfl, fun i hi => by omega, 0, rfl⟩
    case round =>
      obtain ⟨k, hk, rfl, hall, nn, rfl⟩ := hrel
      by_cases hks : k < s.size
      · have hka : k < a.size := by omega
        have E : Hid (alike (at_ a k) (at_ s k) = Gy a[k].toNat s[k].toNat) := by rw [mX a k hka, mX s k hks]; exact aaW _ _
        have B := Lib.hid (KO a[k])
        have C := Lib.hid (KO s[k])
        go_wp2
        go_quiet (fail)
        go_wp2
        all_goals
          have e := E.out
          simp only [B.out, C.out, bne_iff_ne, ne_eq, bne_eq_false_iff_eq] at *
          clear E B C
          first
          | (have ht : alike (at_ a k) (at_ s k) = true := by rw [e]; simp [Gy]; omega
             refine ⟨⟨k + 1, by omega, by go_num, ?_, ?_⟩, by simp [intOf]; omega⟩
             · intro i hi
               by_cases h : i = k
               · rw [h]; exact ht
               · exact hall.out i (by omega)
             · exact ⟨_, rfl⟩)
          | (have ht : alike (at_ a k) (at_ s k) = false := by rw [e]; simp [Gy]; omega
             go_ret
             exact ⟨iI (KS a s k hks ht).symm, _, rfl⟩)
      · go_wp2
        go_ret
        exact ⟨iI (IC a s (by omega) (fun i hi => hall.out i (by omega))).symm, _, rfl⟩
theorem CR (a b:ByteArray) (w:World) (ha:a.size≤maxLen) (hb:b.size≤maxLen):
  Calls Tryz.prog 51 #[.string a,.string b] w fun e w'=>e=.returned (.bool (same a b))∧ ∃n,w'=w.drewN n:=by
 have ha':=ha;have hb':=hb;unfold maxLen at ha hb;by_cases h:a.size=b.size
 ·have hb1:((a.size:Int)==(b.size:Int))=true:=by simp[h]
  have H:=Lib.hid (show same a b=begins a b by unfold same;simp[h]);have h1:=Lib.hid h;clear h;go_enter Tryz.func51,Tryz.ntmps51
  go_wp2_with (go_at_call 52;refine(Hl _ _ _ ha' hb').mono ?_;rintro e w' ⟨rfl,n,rfl⟩)
  go_ret
  exact⟨iI H.out.symm,_,rfl⟩
 ·have hb1:((a.size:Int)==(b.size:Int))=false:=by simp;omega
  have H:=Lib.hid (show same a b=false by unfold same;simp[h]);go_enter Tryz.func51,Tryz.ntmps51
  go_wp2_with fail
  go_ret
  exact⟨iI H.out.symm,0,rfl⟩
theorem r_low (n:Nat) (w:World) (hn:n<256):
  Calls Tryz.prog 60 #[.int .u8 ↑n] w fun e w'=>e=.returned (.int .u8 ↑(F5 n))∧w'=w:=by
 by_cases h:65≤n∧n≤90
 ·have H:=Lib.hid (show((F5 n:Nat):Int)=(n:Int)+32 by unfold F5;rw[if_pos h];omega)
  obtain⟨h1,h2⟩:=h;go_enter Tryz.func60,Tryz.ntmps60
  go_wp2
  go_ret
  exact⟨Bt H.out.symm,rfl⟩
 ·have H:=Lib.hid (show F5 n=n by unfold F5;rw[if_neg h])
  by_cases h1:65≤n
  ·have h2:90<n:=by omega
   clear h;go_enter Tryz.func60,Tryz.ntmps60
   go_wp2
   go_ret
   exact⟨Bt (by rw[H.out]),rfl⟩
  ·clear h
   go_enter Tryz.func60,Tryz.ntmps60
   go_wp2
   go_ret
   exact⟨Bt (by rw[H.out]),rfl⟩
set_option maxHeartbeats 400000 in
theorem xC (a s : ByteArray) (w : World) (ha : a.size ≤ maxLen) (hs : s.size ≤ maxLen) :
    Calls Tryz.prog 38 #[.string a, .string s] w fun e w' => e = .returned (.bool (begins a s)) ∧ ∃ n, w' = w.drewN n := by
  unfold maxLen at ha hs
  by_cases hlt : a.size < s.size
  · have H := Lib.hid (EE a s hlt)
    go_enter Tryz.func38, Tryz.ntmps38
    go_wp2_with fail
    go_ret
    exact ⟨iI H.out.symm, 0, rfl⟩
  · go_enter Tryz.func38, Tryz.ntmps38
    go_wp2_with fail
    go_loopw [5] (fun i wr => ∃ k : Nat, k ≤ s.size ∧ i = .int .i64 k ∧ Hid (∀ i, i < k → alike (at_ a i) (at_ s i) = true) ∧ ∃ n, wr = w.drewN n) (fun i _ => s.size - (intOf i).toNat)
    case atStart => exact ⟨0, by omega, rfl, fun i hi => by omega, 0, rfl⟩
    case round =>
      obtain ⟨k, hk, rfl, hall, nn, rfl⟩ := hrel
      by_cases hks : k < s.size
      · have hka : k < a.size := by omega
        have E := Lib.hid (show alike (at_ a k) (at_ s k) = (F5 a[k].toNat == F5 s[k].toNat) by rw [mX a k hka, mX s k hks]; exact Wz _ _)
        go_wp2_with fail
        go_quiet ((go_at_call 60; exact xW (r_low _ _ (UInt8.toNat_lt _))))
        go_wp2_with fail
        all_goals
          have e := E.out
          clear E
          try simp only [bne_iff_ne, ne_eq, bne_eq_false_iff_eq] at *
          first
          | (have ht : alike (at_ a k) (at_ s k) = true := by rw [e]; simp; omega
             refine ⟨⟨k + 1, by omega, by go_num, ?_, ?_⟩, by simp [intOf]; omega⟩
             · intro i hi
               by_cases h : i = k
               · rw [h]; exact ht
               · exact hall.out i (by omega)
             · first | exact ⟨_, rfl⟩ | exact ⟨_, World.drewN_drewN _ _ _⟩)
          | (have ht : alike (at_ a k) (at_ s k) = false := by rw [e]; simp; omega
             go_ret
             exact ⟨iI (KS a s k hks ht).symm, _, World.drewN_drewN _ _ _⟩)
      · go_wp2_with fail
        go_ret
        exact ⟨iI (IC a s (by omega) (fun i hi => hall.out i (by omega))).symm, _, rfl⟩
theorem GA (a b:ByteArray) (w:World) (ha:a.size≤maxLen) (hb:b.size≤maxLen):
  Calls Tryz.prog 37 #[.string a,.string b] w fun e w'=>e=.returned (.bool (same a b))∧ ∃n,w'=w.drewN n:=by
 have ha':=ha;have hb':=hb;unfold maxLen at ha hb;by_cases h:a.size=b.size
 ·have hb1:((a.size:Int)==(b.size:Int))=true:=by simp[h]
  have H:=Lib.hid (show same a b=begins a b by unfold same;simp[h]);have h1:=Lib.hid h;clear h;go_enter Tryz.func37,Tryz.ntmps37
  go_wp2_with (go_at_call 38;refine(xC _ _ _ ha' hb').mono ?_;rintro e w' ⟨rfl,n,rfl⟩)
  go_ret
  exact⟨iI H.out.symm,_,rfl⟩
 ·have hb1:((a.size:Int)==(b.size:Int))=false:=by simp;omega
  have H:=Lib.hid (show same a b=false by unfold same;simp[h]);go_enter Tryz.func37,Tryz.ntmps37
  go_wp2_with fail
  go_ret
  exact⟨iI H.out.symm,0,rfl⟩
theorem aa0:(Tryz.prog.info? 3).map (fun i=>(i.zero,i.size,i.bytes))=some (some (.int .i64 0),1,8):=by kernel_rfl
def iv (i:Nat):Value:=.int .i64 (i:Int)
set_option maxRecDepth 100000 in
set_option maxHeartbeats 1000000 in
theorem w_match (s:ByteArray) (p:Option Addr) (len cap:Nat) (ws:List ByteArray) (w:World) (hs:s.size≤maxLen) (hS:Strs w p len ws) (hlen:len≤8796093022208):
  Calls Tryz.prog 31 #[.string s,.slice p len cap] w fun e w'=>e=.returned (.tuple #[.int .i64 ↑(mt s ws).1,.int .i64 ↑(mt s ws).2])∧Below w.heap.size w w':=by
 have hs':=hs;unfold maxLen at hs;obtain⟨hl1,hl2⟩:ws.length≤len∧len≤ws.length:=by have:=hS.1;omega
 by_cases h0:s.size=0
 ·have h1:=sH s h0
  have H:=Lib.hid (RV s ws h0);clear h0;go_enter Tryz.func31,Tryz.ntmps31
  go_wp2_with fail
  go_ret2
  exact⟨by rw[H.out];rfl,Below.refl _ _⟩
 ·have h1:=vv s h0
  have h0':=Lib.hid h0;clear h0;go_enter Tryz.func31,Tryz.ntmps31
  go_wp2_with fail
  go_loopw [6,15] (fun v i wr=>∃k:Nat,k≤len∧i=.int .i64 k∧wr.ownsRow w.heap.size 3 1 v (found s ws k).length ((found s ws k).map iv)∧Below w.heap.size w wr∧Hid (∀i,i<k→same (nK ws i) s=false)) (fun _ i _=>len-(intOf i).toNat)
  case atStart=>exact⟨0,Nat.zero_le _,rfl,World.ownsRow_nil _ _ _ _,Below.refl _ _,fun i hi=>by omega⟩
  case round=>
   obtain⟨k,hk,rfl,hown,hB,hno⟩:=hrel;by_cases hlt:k<len
   ·obtain⟨b,off,rfl,hb,hc⟩:=(hS.below hB).2.2 (by omega)
    obtain⟨x,hx⟩: ∃x,x=nK ws k:=⟨_,rfl⟩
    have hck:wr.cell? ⟨b,off+k,none⟩=some (.string x):=by rw[hx];exact hc k hlt
    have hxs:x.size≤maxLen:=by rw[hx];exact hS.mem hlt
    have HX:=Lib.hid hx;clear hx hc;by_cases hsame:same x s=true
    ·have hr:=Lib.hid (ZN s ws k h0'.out (by omega) (by rw[←HX.out];exact hsame) hno.out)
     go_wp2_with (go_at_call 51;refine(CR _ _ _ hxs hs').mono ?_;rintro e w' ⟨rfl,n,rfl⟩)
     go_ret2
     exact⟨by rw[hr.out];rfl,Nt.below_drewN hB _⟩
    ·have hsame:same x s=false:=by simpa using hsame
     have hno':Hid (∀i,i<k+1→same (nK ws i) s=false):=fun i hi=>by
      by_cases h:i=k
      ·rw[h,←HX.out];exact hsame
      ·exact hno.out i (by omega)
     have hfl:=O0 s ws k;by_cases LA:begins x s=true
     ·have hf:=Lib.hid (KT s ws k (by rw[←HX.out];exact LA))
      go_wp2_with (first
       |(go_at_call 51;refine(CR _ _ _ hxs hs').mono ?_;rintro e w' ⟨rfl,n,rfl⟩)
       |(go_at_call 52;refine(Hl _ _ _ hxs hs').mono ?_;rintro e w' ⟨rfl,n,rfl⟩)
       |(at_builtin;refine append1 rfl _ _ 29 rfl w.heap.size 3 (.int .i64 0) 8 Tryz.underlying29 aa0 rfl _ (found s ws k).length ((found s ws k).map iv) _ (iv k) 3 rfl ?c1 rfl rfl ?c2 (by decide) ?c3 ?_))
      case c1=>exact zB hown _
      case c2=>omega
      case c3=>have:=hB.size;simp;omega
      intro v' w' hown' hB';have hown2:w'.ownsRow w.heap.size 3 1 v' (found s ws (k+1)).length ((found s ws (k+1)).map iv):=by rw[hf.out];simpa using hown'
      have hB2:Below w.heap.size w w':=(Nt.below_drewN hB _).trans hB';clear hown hown' hB hB' hf;go_wp2_with fail
      go_roundw
      case rel=>exact⟨k+1,by omega,by go_num,hown2,hB2,hno'⟩
      case measure=>simp[intOf];omega
     ·have LA:begins x s=false:=by simpa using LA
      have hf:=Lib.hid (OZ s ws k (by rw[←HX.out];exact LA));go_wp2_with (first
       |(go_at_call 51;refine(CR _ _ _ hxs hs').mono ?_;rintro e w' ⟨rfl,n,rfl⟩)
       |(go_at_call 52;refine(Hl _ _ _ hxs hs').mono ?_;rintro e w' ⟨rfl,n,rfl⟩))
      go_roundw
      case rel=>exact⟨k+1,by omega,by go_num,by rw[hf.out];exact zB hown _,Nt.below_drewN hB _,hno'⟩
      case measure=>simp[intOf];omega
   ·obtain rfl:k=len:=by omega
    have hlw:Hid (ws.length=k):=hS.1;have F6:Hid (∀i,i<ws.length→same (nK ws i) s=false):=fun i hi=>hno.out i (by have:=hlw.out;omega)
    obtain⟨fl,hfl⟩: ∃fl,fl=found s ws k:=⟨_,rfl⟩
    have hfle:=O0 s ws k;rw[←hfl] at hown hfle;have hmem:Hid (∀i∈fl,i<k):=fun i hi=>by rw[hfl] at hi;exact BL s ws k i hi
    have HF:Hid (found s ws ws.length=fl):=by rw[hlw.out];exact hfl.symm
    clear hfl hno hlt;obtain⟨n,hn⟩: ∃n,n=fl.length:=⟨_,rfl⟩
    rw[←hn] at hown hfle;have Hn:=Lib.hid hn;clear hn;obtain⟨pf,cf,rfl⟩:=Wv hown;go_wp2_with fail
    go_loopw [36] (fun i w2=>∃j:Nat,j≤n∧i=.int .i64 j∧Hid (∃m,w2=wr.drewN m)∧Hid (∀i,i<j→same (nK ws (fl.getD i 0)) (nK ws (fl.getD 0 0))=true)) (fun i _=>n-(intOf i).toNat)
    case atStart=>exact⟨0,Nat.zero_le _,rfl,⟨0,rfl⟩,fun i hi=>by omega⟩
    case round=>
     obtain⟨j,hj,rfl,⟨m,rfl⟩,hall⟩:=hrel;by_cases hjn:j<n
     ·obtain⟨g,cap',e,hg,hgs,hgc⟩:=IB hown (by omega)
      obtain⟨b,off,rfl,hb,hc⟩:=(hS.below hB).2.2 (by omega);simp only[Value.slice.injEq,true_and] at e;obtain⟨rfl,rfl⟩:=e;have gm: ∀i,i<n→ ∃y,y=fl.getD i 0∧y<k∧wr.cell? ⟨g,i,none⟩=some (.int .i64 ↑y):=fun i hi=>by
       have hi':i<fl.length:=by rw[←Hn.out];exact hi
       refine⟨_,rfl,?_,?_⟩
       ·rw[List.getD_eq_getElem?_getD,List.getElem?_eq_getElem hi']
        exact hmem.out _ (List.getElem_mem _)
       ·have:=hgc i hi
        rw[Nat.zero_add] at this;rw[this];simp[List.getD_eq_getElem?_getD,List.getElem?_eq_getElem hi',iv]
      obtain⟨y,hy,hyk,cy⟩:=gm j hjn;obtain⟨z,hz,hzk,cz⟩:=gm 0 (by omega);obtain⟨xy,hxy⟩: ∃x,x=nK ws y:=⟨_,rfl⟩
      obtain⟨xz,hxz⟩: ∃x,x=nK ws z:=⟨_,rfl⟩
      have wy:wr.cell? ⟨b,off+y,none⟩=some (.string xy):=by rw[hxy];exact hc y hyk
      have wz:wr.cell? ⟨b,off+z,none⟩=some (.string xz):=by rw[hxz];exact hc z hzk
      have sy:xy.size≤maxLen:=by rw[hxy];exact hS.mem hyk
      have sz:xz.size≤maxLen:=by rw[hxz];exact hS.mem hzk
      have HY:=Lib.hid hy;have HZ:=Lib.hid hz;have HXY:=Lib.hid hxy;have HXZ:=Lib.hid hxz;clear gm hgc hc hy hz hxy hxz;by_cases hsm:same xy xz=true
      ·go_wp2_with fail
       go_quiet ((go_at_call 51;exact ZM (CR _ _ _ sy sz)))
       go_wp2_with fail
       go_roundw
       case rel=>
        refine⟨j+1,by omega,by go_num,⟨_,rfl⟩,fun i hi=>?_⟩;by_cases h:i=j
        ·rw[h,←HY.out,←HZ.out,←HXY.out,←HXZ.out];exact hsm
        ·exact hall.out i (by omega)
       case measure=>simp[intOf];omega
      ·have hsm:same xy xz=false:=by simpa using hsm
       have H:=Lib.hid (mt_bad s ws h0'.out F6.out j (by rw[HF.out,←Hn.out];exact hjn) (by rw[HF.out,←HY.out,←HZ.out,←HXY.out,←HXZ.out];exact hsm));go_wp2_with fail
       go_quiet ((go_at_call 51;exact ZM (CR _ _ _ sy sz)))
       go_wp2_with fail
       go_ret2
       exact⟨by rw[H.out];rfl,Nt.below_drewN (Nt.below_drewN hB _) _⟩
     ·obtain rfl:j=n:=by omega
      by_cases hn0:0<j
      ·obtain⟨g,cap',e,hg,hgs,hgc⟩:=IB hown hn0
       simp only[Value.slice.injEq,true_and] at e;obtain⟨rfl,rfl⟩:=e;have H:=Lib.hid (mt_ok s ws h0'.out F6.out (by rw[HF.out,←Hn.out];exact hn0) (by rw[HF.out,←Hn.out];exact hall.out));obtain⟨y,hy⟩: ∃y,y=fl.getD 0 0:=⟨_,rfl⟩
       have cz:wr.cell? ⟨g,0,none⟩=some (.int .i64 ↑y):=by
        have:=hgc 0 hn0;rw[Nat.zero_add] at this;rw[this,hy];have hi':0<fl.length:=by rw[←Hn.out];exact hn0
        simp[List.getD_eq_getElem?_getD,List.getElem?_eq_getElem hi',iv]
       have HY:=Lib.hid hy;have hj0:((j:Int)==0)=false:=by simp;omega
       clear hy hgc;go_wp2_with fail
       go_ret2
       exact⟨by rw[H.out,HF.out,←HY.out];rfl,Nt.below_drewN hB _⟩
      ·obtain rfl:j=0:=by omega
       have H:=Lib.hid (O1 s ws h0'.out F6.out (by rw[HF.out,←Hn.out]));go_wp2_with fail
       go_ret2
       exact⟨by rw[H.out];rfl,Nt.below_drewN hB _⟩
set_option maxRecDepth 100000 in
set_option maxHeartbeats 1000000 in
theorem r_match (s:ByteArray) (p:Option Addr) (len cap:Nat) (ws:List ByteArray) (w:World) (hs:s.size≤maxLen) (hS:Strs w p len ws) (hlen:len≤8796093022208):
  Calls Tryz.prog 22 #[.string s,.slice p len cap] w fun e w'=>e=.returned (.tuple #[.int .i64 ↑(mt s ws).1,.int .i64 ↑(mt s ws).2])∧ ∃n,w'=w.drewN n:=by
 have hs':=hs;unfold maxLen at hs;obtain⟨hl1,hl2⟩:ws.length≤len∧len≤ws.length:=by have:=hS.1;omega
 by_cases h0:s.size=0
 ·have h1:=sH s h0
  have H:=Lib.hid (RV s ws h0);clear h0;go_enter Tryz.func22,Tryz.ntmps22
  go_wp2_with fail
  go_ret2
  exact⟨by rw[H.out];rfl,0,rfl⟩
 ·have h1:=vv s h0
  have h0':=Lib.hid h0;clear h0;go_enter Tryz.func22,Tryz.ntmps22
  go_wp2_with fail
  go_loopw [15] (fun i wr=>∃k:Nat,k≤len∧i=.int .i64 k∧Hid (∃m,wr=w.drewN m)∧Hid (∀i,i<k→same (nK ws i) s=false)) (fun i _=>len-(intOf i).toNat)
  case atStart=>exact⟨0,Nat.zero_le _,rfl,⟨0,rfl⟩,fun i hi=>by omega⟩
  case round=>
   obtain⟨k,hk,rfl,⟨m,rfl⟩,hno⟩:=hrel;by_cases hlt:k<len
   ·obtain⟨b,off,rfl,hb,hc⟩:=hS.2.2 (by omega)
    obtain⟨x,hx⟩: ∃x,x=nK ws k:=⟨_,rfl⟩
    have hck:w.cell? ⟨b,off+k,none⟩=some (.string x):=by rw[hx];exact hc k hlt
    have hxs:x.size≤maxLen:=by rw[hx];exact hS.mem hlt
    have HX:=Lib.hid hx;clear hx hc;by_cases hsame:same x s=true
    ·have hr:=Lib.hid (ZN s ws k h0'.out (by omega) (by rw[←HX.out];exact hsame) hno.out)
     go_wp2_with (go_at_call 37;refine(GA _ _ _ hxs hs').mono ?_;rintro e w' ⟨rfl,n,rfl⟩)
     go_ret2
     exact⟨by rw[hr.out];rfl,_,rfl⟩
    ·have hsame:same x s=false:=by simpa using hsame
     have hno':Hid (∀i,i<k+1→same (nK ws i) s=false):=fun i hi=>by
      by_cases h:i=k
      ·rw[h,←HX.out];exact hsame
      ·exact hno.out i (by omega)
     go_wp2_with (go_at_call 37;refine(GA _ _ _ hxs hs').mono ?_;rintro e w' ⟨rfl,n,rfl⟩)
     go_roundw
     case rel=>exact⟨k+1,by omega,by go_num,⟨_,rfl⟩,hno'⟩
     case measure=>simp[intOf];omega
   ·obtain rfl:k=len:=by omega
    have hlw:Hid (ws.length=k):=hS.1;have F6:Hid (∀i,i<ws.length→same (nK ws i) s=false):=fun i hi=>hno.out i (by have:=hlw.out;omega)
    clear hno hlt;go_wp2_with fail
    go_loopw [8,27] (fun v i w2=>∃j:Nat,j≤k∧i=.int .i64 j∧v=.int .i64 (Gz (found s ws j))∧Hid (∃n,w2=w.drewN n)∧Hid (∀f r,found s ws j=f::r→ ∀i∈f::r,same (nK ws i) (nK ws f)=true)) (fun _ i _=>k-(intOf i).toNat)
    case atStart=>exact⟨0,Nat.zero_le _,rfl,rfl,⟨m,rfl⟩,fun f r h=>by simp[found] at h⟩
    case round=>
     obtain⟨j,hj,rfl,rfl,⟨n,rfl⟩,hall⟩:=hrel;by_cases hjk:j<k
     ·obtain⟨b,off,rfl,hb,hc⟩:=hS.2.2 (by omega)
      obtain⟨x,hx⟩: ∃x,x=nK ws j:=⟨_,rfl⟩
      have hck:w.cell? ⟨b,off+j,none⟩=some (.string x):=by rw[hx];exact hc j hjk
      have hxs:x.size≤maxLen:=by rw[hx];exact hS.mem hjk
      have HX:=Lib.hid hx;clear hx;by_cases LA:begins x s=true
      ·have hf:=KT s ws j (by rw[←HX.out];exact LA)
       cases e:found s ws j with
       |nil=>
        rw[e] at hf;have HF:=Lib.hid hf;have hh:Gz ([]:List Nat)= -1:=rfl;have Zf:Hid (∀f r,found s ws (j+1)=f::r→ ∀i∈f::r,same (nK ws i) (nK ws f)=true):=by
         intro f r h i hi;rw[HF.out] at h;simp at h;obtain⟨rfl,rfl⟩:=h;simp at hi;subst hi;simp[same,begins];intro i _;simp[alike]
        clear hc e hf hall;go_wp2_with (go_at_call 38;refine(xC _ _ _ hxs hs').mono ?_;rintro e w' ⟨rfl,n',rfl⟩)
        go_roundw
        case rel=>exact⟨j+1,by omega,by go_num,by rw[HF.out];rfl,⟨_,rfl⟩,Zf⟩
        case measure=>simp[intOf];omega
       |cons f r=>
        rw[e] at hf;have HF:=Lib.hid hf;have hfj:f<j:=BL s ws j f (by rw[e];simp);obtain⟨xf,hxf⟩: ∃x,x=nK ws f:=⟨_,rfl⟩
        have hcf:w.cell? ⟨b,off+f,none⟩=some (.string xf):=by rw[hxf];exact hc f (by omega)
        have hxfs:xf.size≤maxLen:=by rw[hxf];exact hS.mem (by omega)
        have HXF:=Lib.hid hxf;have hh:Gz (f::r)=(f:Int):=rfl;by_cases hsm:same xf x=true
        ·have Zf:Hid (∀f r,found s ws (j+1)=f::r→ ∀i∈f::r,same (nK ws i) (nK ws f)=true):=by
          intro f' r' h i hi;rw[HF.out] at h;simp at h;obtain⟨rfl,rfl⟩:=h;simp only[List.mem_cons,List.mem_append,List.mem_nil_iff,or_false] at hi;rcases hi with rfl|hi|rfl
          ·exact hall.out _ _ e _ (by simp)
          ·exact hall.out _ _ e _ (by simp[hi])
          ·rw[←HX.out,←HXF.out,KU];exact hsm
         clear hc e hf hall hxf;go_wp2_with (first
          |(go_at_call 38;refine(xC _ _ _ hxs hs').mono ?_;rintro e w' ⟨rfl,n',rfl⟩)
          |(go_at_call 37;refine(GA _ _ _ hxfs hxs).mono ?_;rintro e w' ⟨rfl,n',rfl⟩))
         go_roundw
         case rel=>exact⟨j+1,by omega,by go_num,by rw[HF.out];rfl,⟨_,rfl⟩,Zf⟩
         case measure=>simp[intOf];omega
        ·have hsm:same xf x=false:=by simpa using hsm
         obtain⟨t,ht⟩:=S8 s ws (j+1) ws.length (by omega);have H:=Lib.hid (mt_bad2 s ws h0'.out F6.out f ((r++[j])++t) (by rw[ht,HF.out];simp) j (by simp) (by rw[←HX.out,←HXF.out,KU];exact hsm));clear hc e hf hall hxf ht;go_wp2_with (first
          |(go_at_call 38;refine(xC _ _ _ hxs hs').mono ?_;rintro e w' ⟨rfl,n',rfl⟩)
          |(go_at_call 37;refine(GA _ _ _ hxfs hxs).mono ?_;rintro e w' ⟨rfl,n',rfl⟩))
         go_ret2
         exact⟨by rw[H.out];rfl,_,rfl⟩
      ·have LA:begins x s=false:=by simpa using LA
       have HF:=Lib.hid (OZ s ws j (by rw[←HX.out];exact LA));clear hc;go_wp2_with (go_at_call 38;refine(xC _ _ _ hxs hs').mono ?_;rintro e w' ⟨rfl,n',rfl⟩)
       go_roundw
       case rel=>exact⟨j+1,by omega,by go_num,by rw[HF.out],⟨_,rfl⟩,by rw[HF.out];exact hall⟩
       case measure=>simp[intOf];omega
     ·obtain rfl:j=k:=by omega
      cases e:found s ws j with
      |nil=>
       have H:=Lib.hid (O1 s ws h0'.out F6.out (by rw[hlw.out,e];rfl));have hh:Gz ([]:List Nat)= -1:=rfl;clear e;go_wp2_with fail
       go_ret2
       exact⟨by rw[H.out];rfl,_,rfl⟩
      |cons f r=>
       have H:=Lib.hid (mt_ok2 s ws h0'.out F6.out f r (by rw[hlw.out,e]) (hall.out _ _ e));have hh:Gz (f::r)=(f:Int):=rfl;clear e;go_wp2_with fail
       go_ret2
       exact⟨by rw[H.out];rfl,_,rfl⟩
open Nt.Num
set_option maxHeartbeats 400000 in
theorem n_add (a b:Int) (w:World) (ha:Fits a) (hb:Fits b):
  Calls Tryz.prog 167 #[.int .i64 a,.int .i64 b] w fun e w'=>e=.returned (.tuple #[.int .i64 (told (a+b)).1,.int .i64 (told (a+b)).2])∧w'=w:=by
 obtain⟨a1,a2⟩:=ha;obtain⟨b1,b2⟩:=hb;by_cases hf:Fits (a+b)
 ·have H:=Lib.hid (jc hf)
  obtain⟨f1,f2⟩:=hf;by_cases sa:a<0<;>by_cases sb:b<0
  ·have d:decide (a+b<0)=true:=decide_eq_true (by omega)
   go_enter Tryz.func167,Tryz.ntmps167
   go_wp2
   go_ret2
   exact⟨by rw[H.out];rfl,rfl⟩
  ·have d:decide (b<0)=false:=decide_eq_false sb
   go_enter Tryz.func167,Tryz.ntmps167
   go_wp2
   go_ret2
   exact⟨by rw[H.out];rfl,rfl⟩
  ·have d:decide (a<0)=false:=decide_eq_false sa
   go_enter Tryz.func167,Tryz.ntmps167
   go_wp2
   go_ret2
   exact⟨by rw[H.out];rfl,rfl⟩
  ·have d1:decide (a<0)=false:=decide_eq_false sa
   have d2:decide (b<0)=false:=decide_eq_false sb;have d:decide (a+b<0)=false:=decide_eq_false (by omega);go_enter Tryz.func167,Tryz.ntmps167
   go_wp2
   go_ret2
   exact⟨by rw[H.out];rfl,rfl⟩
 ·have H:=Lib.hid (iq hf)
  by_cases sa:a<0
  ·have hw:0≤wrap64 (a+b):=S7 (by unfold Fits at hf;omega) (by omega)
   have d:decide (wrap64 (a+b)<0)=false:=decide_eq_false (by omega);have sb:b<0:=by unfold Fits at hf;omega
   clear hf;go_enter Tryz.func167,Tryz.ntmps167
   go_wp2
   go_ret2
   exact⟨by rw[H.out];rfl,rfl⟩
  ·have hw:wrap64 (a+b)<0:=Ww (by unfold Fits at hf;omega) (by omega)
   have d:decide (wrap64 (a+b)<0)=true:=decide_eq_true hw;have sb:0≤b:=by unfold Fits at hf;omega
   have d1:decide (a<0)=false:=decide_eq_false sa;have d2:decide (b<0)=false:=decide_eq_false (by omega);clear hf;go_enter Tryz.func167,Tryz.ntmps167
   go_wp2
   go_ret2
   exact⟨by rw[H.out];rfl,rfl⟩
set_option maxHeartbeats 400000 in
theorem iN (n:Int) (w:World) (ha:Fits n):
  Calls Tryz.prog 184 #[.int .i64 n] w fun e w'=>e=.returned (.int .u64 (n.natAbs:Int))∧w'=w:=by
 obtain⟨a1,a2⟩:=ha;by_cases s:n<0
 ·have h:IntKind.u64.wrap n=n+18446744073709551616:=by rw[IntKind.wrap_u64];omega
  have h2:IntKind.u64.wrap (-(n+18446744073709551616))= -n:=by rw[IntKind.wrap_u64];omega
  go_enter Tryz.func184,Tryz.ntmps184
  go_wp2
  go_ret
  exact⟨Bt (by omega),rfl⟩
 ·go_enter Tryz.func184,Tryz.ntmps184
  go_wp2
  go_ret
  exact⟨Bt (by omega),rfl⟩
theorem n_mul64 (x y hi lo:Nat) (h1:x*y/18446744073709551616=hi) (h2:x*y%18446744073709551616=lo) (hx:x<18446744073709551616) (hy:y<18446744073709551616) (w:World):
  Calls Tryz.prog 183 #[.int .u64 x,.int .u64 y] w fun e w'=>e=.returned (.tuple #[.int .u64 (hi:Int),.int .u64 (lo:Int)])∧w'=w:=by
 have:=Tryz.bits_Mul64 x y hx hy w;rw[h1,h2] at this;exact this
set_option maxHeartbeats 1000000 in
theorem n_mul (a b:Int) (w:World) (ha:Fits a) (hb:Fits b):
  Calls Tryz.prog 166 #[.int .i64 a,.int .i64 b] w fun e w'=>e=.returned (.tuple #[.int .i64 (told (a*b)).1,.int .i64 (told (a*b)).2])∧w'=w:=by
 have ha':=ha;have hb':=hb;obtain⟨a1,a2⟩:=ha;obtain⟨b1,b2⟩:=hb;obtain⟨hi,h1⟩: ∃hi,a.natAbs*b.natAbs/18446744073709551616=hi:=⟨_,rfl⟩
 obtain⟨lo,h2⟩: ∃lo,a.natAbs*b.natAbs%18446744073709551616=lo:=⟨_,rfl⟩
 have hlo:lo<18446744073709551616:=by omega
 have C:=n_mul64 a.natAbs b.natAbs hi lo h1 h2 (by omega) (by omega);have hB:=Wx a b;have hA:=Wy a b;have hp:a.natAbs*b.natAbs=hi*18446744073709551616+lo:=by omega
 rw[hp] at hA hB;have HC:Hid (∀w,Calls Tryz.prog 183 #[.int .u64 a.natAbs,.int .u64 b.natAbs] w fun e w'=>e=.returned (.tuple #[.int .u64 (hi:Int),.int .u64 (lo:Int)])∧w'=w):=C;clear h1 h2 hp C;by_cases h0:0<hi
 ·have H:=Lib.hid (iq (n:=a*b) (by
   unfold Fits;by_cases hs:a<0↔b<0
   ·rw[hA hs];omega
   ·rw[hB hs];omega))
  clear hA hB;go_enter Tryz.func166,Tryz.ntmps166
  go_wp2_with fail
  refine(iN a _ ha').mono ?_;rintro e w' ⟨rfl,rfl⟩;go_wp2_with fail
  refine(iN b _ hb').mono ?_;rintro e w' ⟨rfl,rfl⟩;go_wp2_with fail
  refine(HC.out _).mono ?_;rintro e w' ⟨rfl,rfl⟩;go_wp2_with fail
  go_ret2
  exact⟨by rw[H.out];rfl,rfl⟩
 ·obtain rfl:hi=0:=by omega
  clear h0;simp only[Nat.zero_mul,Nat.zero_add] at hA hB;have d64:IntKind.u64.wrap (-(lo:Int))=((18446744073709551616-lo)%18446744073709551616:Nat):=by rw[IntKind.wrap_u64];omega
  obtain⟨m,hm⟩: ∃m,(18446744073709551616-lo)%18446744073709551616=m:=⟨_,rfl⟩
  rw[hm] at d64;have hmb:m<18446744073709551616:=by omega
  have m64:lo≤9223372036854775808→IntKind.i64.wrap (m:Int)= -(lo:Int):=fun h=>by rw[IntKind.wrap_i64];omega
  have M64:Hid (lo≤9223372036854775808→IntKind.i64.wrap (m:Int)= -(lo:Int)∧wrap64 (m:Int)= -(lo:Int)):=fun h=>⟨m64 h,by have:=m64 h;rw[IntKind.wrap_i64] at this;unfold wrap64;exact this⟩
  clear hm m64;by_cases sa:a<0<;>by_cases sb:b<0
  ·have da:decide (a<0)=true:=decide_eq_true sa
   have db:decide (b<0)=true:=decide_eq_true sb;have hP:=hA (by omega);clear hA hB;by_cases hl:9223372036854775808<lo
   ·have H:=Lib.hid (iq (n:=a*b) (by unfold Fits;rw[hP];omega))
    clear hP;have dl:decide (9223372036854775808<(lo:Int))=true:=decide_eq_true (by omega);go_enter Tryz.func166,Tryz.ntmps166
    go_wp2_with fail
    refine(iN a _ ha').mono ?_;rintro e w' ⟨rfl,rfl⟩;go_wp2_with fail
    refine(iN b _ hb').mono ?_;rintro e w' ⟨rfl,rfl⟩;go_wp2_with fail
    refine(HC.out _).mono ?_;rintro e w' ⟨rfl,rfl⟩;go_wp2_with fail
    go_ret2
    exact⟨by rw[H.out];rfl,rfl⟩
   ·have dl:decide (9223372036854775808<(lo:Int))=false:=decide_eq_false (by omega)
    by_cases he:lo=9223372036854775808
    ·have H:=Lib.hid (iq (n:=a*b) (by unfold Fits;rw[hP];omega))
     have dk:((lo:Int)==9223372036854775808)=true:=by simp;omega
     clear he hP;go_enter Tryz.func166,Tryz.ntmps166
     go_wp2_with fail
     refine(iN a _ ha').mono ?_;rintro e w' ⟨rfl,rfl⟩;go_wp2_with fail
     refine(iN b _ hb').mono ?_;rintro e w' ⟨rfl,rfl⟩;go_wp2_with fail
     refine(HC.out _).mono ?_;rintro e w' ⟨rfl,rfl⟩;go_wp2_with fail
     go_ret2
     exact⟨by rw[H.out];rfl,rfl⟩
    ·have H:=Lib.hid (jc (n:=a*b) (by unfold Fits;rw[hP];omega))
     rw[hP] at H;have hq:=Lib.hid hP;have dk:((lo:Int)==9223372036854775808)=false:=by simp;omega
     have m1:lo≤9223372036854775807:=by omega
     clear he hP;go_enter Tryz.func166,Tryz.ntmps166
     go_wp2_with fail
     refine(iN a _ ha').mono ?_;rintro e w' ⟨rfl,rfl⟩;go_wp2_with fail
     refine(iN b _ hb').mono ?_;rintro e w' ⟨rfl,rfl⟩;go_wp2_with fail
     refine(HC.out _).mono ?_;rintro e w' ⟨rfl,rfl⟩;go_wp2_with fail
     go_ret2
     exact⟨by rw[hq.out,H.out];rfl,rfl⟩
  ·have da:decide (a<0)=true:=decide_eq_true sa
   have db:decide (b<0)=false:=decide_eq_false sb;have hP:=hB (by omega);clear hA hB;by_cases hl:9223372036854775808<lo
   ·have H:=Lib.hid (iq (n:=a*b) (by unfold Fits;rw[hP];omega))
    clear hP;have dl:decide (9223372036854775808<(lo:Int))=true:=decide_eq_true (by omega);go_enter Tryz.func166,Tryz.ntmps166
    go_wp2_with fail
    refine(iN a _ ha').mono ?_;rintro e w' ⟨rfl,rfl⟩;go_wp2_with fail
    refine(iN b _ hb').mono ?_;rintro e w' ⟨rfl,rfl⟩;go_wp2_with fail
    refine(HC.out _).mono ?_;rintro e w' ⟨rfl,rfl⟩;go_wp2_with fail
    go_ret2
    exact⟨by rw[H.out];rfl,rfl⟩
   ·have H:=Lib.hid (jc (n:=a*b) (by unfold Fits;rw[hP];omega))
    rw[hP] at H;have hq:=Lib.hid hP;obtain⟨m1,m2⟩:=M64.out (by omega);clear hP;have dl:decide (9223372036854775808<(lo:Int))=false:=decide_eq_false (by omega);by_cases he:lo=9223372036854775808
    ·have dk:((lo:Int)==9223372036854775808)=true:=by simp;omega
     clear he;go_enter Tryz.func166,Tryz.ntmps166
     go_wp2_with fail
     refine(iN a _ ha').mono ?_;rintro e w' ⟨rfl,rfl⟩;go_wp2_with fail
     refine(iN b _ hb').mono ?_;rintro e w' ⟨rfl,rfl⟩;go_wp2_with fail
     refine(HC.out _).mono ?_;rintro e w' ⟨rfl,rfl⟩;go_wp2_with fail
     go_ret2
     exact⟨by rw[hq.out,H.out];rfl,rfl⟩
    ·have dk:((lo:Int)==9223372036854775808)=false:=by simp;omega
     go_enter Tryz.func166,Tryz.ntmps166
     go_wp2_with fail
     refine(iN a _ ha').mono ?_;rintro e w' ⟨rfl,rfl⟩;go_wp2_with fail
     refine(iN b _ hb').mono ?_;rintro e w' ⟨rfl,rfl⟩;go_wp2_with fail
     refine(HC.out _).mono ?_;rintro e w' ⟨rfl,rfl⟩;go_wp2_with fail
     go_ret2
     exact⟨by rw[hq.out,H.out];rfl,rfl⟩
  ·have da:decide (a<0)=false:=decide_eq_false sa
   have db:decide (b<0)=true:=decide_eq_true sb;have hP:=hB (by omega);clear hA hB;by_cases hl:9223372036854775808<lo
   ·have H:=Lib.hid (iq (n:=a*b) (by unfold Fits;rw[hP];omega))
    clear hP;have dl:decide (9223372036854775808<(lo:Int))=true:=decide_eq_true (by omega);go_enter Tryz.func166,Tryz.ntmps166
    go_wp2_with fail
    refine(iN a _ ha').mono ?_;rintro e w' ⟨rfl,rfl⟩;go_wp2_with fail
    refine(iN b _ hb').mono ?_;rintro e w' ⟨rfl,rfl⟩;go_wp2_with fail
    refine(HC.out _).mono ?_;rintro e w' ⟨rfl,rfl⟩;go_wp2_with fail
    go_ret2
    exact⟨by rw[H.out];rfl,rfl⟩
   ·have H:=Lib.hid (jc (n:=a*b) (by unfold Fits;rw[hP];omega))
    rw[hP] at H;have hq:=Lib.hid hP;obtain⟨m1,m2⟩:=M64.out (by omega);clear hP;have dl:decide (9223372036854775808<(lo:Int))=false:=decide_eq_false (by omega);by_cases he:lo=9223372036854775808
    ·have dk:((lo:Int)==9223372036854775808)=true:=by simp;omega
     clear he;go_enter Tryz.func166,Tryz.ntmps166
     go_wp2_with fail
     refine(iN a _ ha').mono ?_;rintro e w' ⟨rfl,rfl⟩;go_wp2_with fail
     refine(iN b _ hb').mono ?_;rintro e w' ⟨rfl,rfl⟩;go_wp2_with fail
     refine(HC.out _).mono ?_;rintro e w' ⟨rfl,rfl⟩;go_wp2_with fail
     go_ret2
     exact⟨by rw[hq.out,H.out];rfl,rfl⟩
    ·have dk:((lo:Int)==9223372036854775808)=false:=by simp;omega
     go_enter Tryz.func166,Tryz.ntmps166
     go_wp2_with fail
     refine(iN a _ ha').mono ?_;rintro e w' ⟨rfl,rfl⟩;go_wp2_with fail
     refine(iN b _ hb').mono ?_;rintro e w' ⟨rfl,rfl⟩;go_wp2_with fail
     refine(HC.out _).mono ?_;rintro e w' ⟨rfl,rfl⟩;go_wp2_with fail
     go_ret2
     exact⟨by rw[hq.out,H.out];rfl,rfl⟩
  ·have da:decide (a<0)=false:=decide_eq_false sa
   have db:decide (b<0)=false:=decide_eq_false sb;have hP:=hA (by omega);clear hA hB;by_cases hl:9223372036854775808<lo
   ·have H:=Lib.hid (iq (n:=a*b) (by unfold Fits;rw[hP];omega))
    clear hP;have dl:decide (9223372036854775808<(lo:Int))=true:=decide_eq_true (by omega);go_enter Tryz.func166,Tryz.ntmps166
    go_wp2_with fail
    refine(iN a _ ha').mono ?_;rintro e w' ⟨rfl,rfl⟩;go_wp2_with fail
    refine(iN b _ hb').mono ?_;rintro e w' ⟨rfl,rfl⟩;go_wp2_with fail
    refine(HC.out _).mono ?_;rintro e w' ⟨rfl,rfl⟩;go_wp2_with fail
    go_ret2
    exact⟨by rw[H.out];rfl,rfl⟩
   ·have dl:decide (9223372036854775808<(lo:Int))=false:=decide_eq_false (by omega)
    by_cases he:lo=9223372036854775808
    ·have H:=Lib.hid (iq (n:=a*b) (by unfold Fits;rw[hP];omega))
     have dk:((lo:Int)==9223372036854775808)=true:=by simp;omega
     clear he hP;go_enter Tryz.func166,Tryz.ntmps166
     go_wp2_with fail
     refine(iN a _ ha').mono ?_;rintro e w' ⟨rfl,rfl⟩;go_wp2_with fail
     refine(iN b _ hb').mono ?_;rintro e w' ⟨rfl,rfl⟩;go_wp2_with fail
     refine(HC.out _).mono ?_;rintro e w' ⟨rfl,rfl⟩;go_wp2_with fail
     go_ret2
     exact⟨by rw[H.out];rfl,rfl⟩
    ·have H:=Lib.hid (jc (n:=a*b) (by unfold Fits;rw[hP];omega))
     rw[hP] at H;have hq:=Lib.hid hP;have dk:((lo:Int)==9223372036854775808)=false:=by simp;omega
     have m1:lo≤9223372036854775807:=by omega
     clear he hP;go_enter Tryz.func166,Tryz.ntmps166
     go_wp2_with fail
     refine(iN a _ ha').mono ?_;rintro e w' ⟨rfl,rfl⟩;go_wp2_with fail
     refine(iN b _ hb').mono ?_;rintro e w' ⟨rfl,rfl⟩;go_wp2_with fail
     refine(HC.out _).mono ?_;rintro e w' ⟨rfl,rfl⟩;go_wp2_with fail
     go_ret2
     exact⟨by rw[hq.out,H.out];rfl,rfl⟩
theorem Fq (l:List UInt8):Lib.hasPrefix l [45]=minus l:=by
 unfold Lib.hasPrefix minus
 cases l with
 |nil=>rfl
 |cons c l=>
  simp only[List.isPrefixOf,Bool.and_true];rw[Bool.eq_iff_iff,beq_iff_eq,beq_iff_eq];exact⟨Eq.symm,Eq.symm⟩
theorem QB (s:ByteArray) (w:World):
  Calls Tryz.prog 137 #[.string s,.string ⟨#[45]⟩] w fun e w'=>e=.returned (.tuple #[.string (bs (bare s.data.toList)),.bool (minus s.data.toList)])∧w'=w:=by
 have:=Tryz.strings_CutPrefix s ⟨#[45]⟩ w;have e1:Lib.hasPrefix s.data.toList [45]=minus s.data.toList:=Fq _;have e2:Lib.trimPrefix s.data.toList [45]=bare s.data.toList:=by unfold Lib.trimPrefix bare;rw[e1];rfl
 rw[show(⟨#[45]⟩:ByteArray).data.toList=[45] from rfl,e1,e2] at this;exact this
theorem n_trim (s:ByteArray) (w:World) (hs:s.size≤maxLen):
  Calls Tryz.prog 176 #[.string s,.string ⟨#[48,49,50,51,52,53,54,55,56,57]⟩] w fun e w'=>e=.returned (.string (bs (Lib.trimS s.data.toList [48,49,50,51,52,53,54,55,56,57])))∧Below w.heap.size w w':=
 Tryz.Cr s ⟨#[48,49,50,51,52,53,54,55,56,57]⟩ w (by unfold maxLen at hs;omega) (by decide) (ascii_of_all (by decide))
theorem O6 (l:List UInt8):(bare l).length≤l.length:=by unfold bare;split<;>simp
set_option maxRecDepth 100000 in
set_option maxHeartbeats 1000000 in
theorem n_cut (s:ByteArray) (w:World) (hs:s.size≤maxLen):
  Calls Tryz.prog 165 #[.string s] w fun e w'=>e=.returned (.tuple #[.bool (minus s.data.toList),.string (bs (bare s.data.toList)),.bool (good s.data.toList)])∧Below w.heap.size w w':=by
 have hgood:good s.data.toList=((bare s.data.toList).all isDigit&& !(bare s.data.toList).isEmpty&&(!((bare s.data.toList).getD 0 0==48)||(decide ((bare s.data.toList).length=1)&& !minus s.data.toList))):=rfl;have hlen:(bare s.data.toList).length≤s.size:=by have:=O6 s.data.toList;simpa using this
 have C:Hid (∀w,Calls Tryz.prog 137 #[.string s,.string ⟨#[45]⟩] w fun e w'=>e=.returned (.tuple #[.string (bs (bare s.data.toList)),.bool (minus s.data.toList)])∧w'=w):=QB s;generalize good s.data.toList=G at*;generalize minus s.data.toList=M at*;obtain⟨D,hD⟩: ∃D,D=bs (bare s.data.toList):=⟨_,rfl⟩
 have hDl:D.data.toList=bare s.data.toList:=by rw[hD];rfl
 rw[←hD] at C;rw[←hDl] at hgood hlen;have hDs:D.size≤s.size:=by simpa using hlen
 have hDm:D.size≤maxLen:=by omega
 have HD:=Lib.hid hD;have T:Hid (∀w,Calls Tryz.prog 176 #[.string D,.string ⟨#[48,49,50,51,52,53,54,55,56,57]⟩] w fun e w'=>e=.returned (.string (bs (Lib.trimS D.data.toList [48,49,50,51,52,53,54,55,56,57])))∧Below w.heap.size w w'):=fun w=>n_trim D w hDm
 have htr:=Ql D.data.toList;have hts:(bs (Lib.trimS D.data.toList [48,49,50,51,52,53,54,55,56,57])).size=(Lib.trimS D.data.toList [48,49,50,51,52,53,54,55,56,57]).length:=yw _;obtain⟨Z,hZ⟩: ∃Z,Z=bs (Lib.trimS D.data.toList [48,49,50,51,52,53,54,55,56,57]):=⟨_,rfl⟩
 rw[←hZ] at T hts;rw[←List.length_eq_zero_iff,←hts] at htr;have HGx:=Lib.hid hgood;have htr':=Lib.hid htr;unfold maxLen at hs hDm;rw[show bs (bare s.data.toList)=D from hD.symm];clear hD hDl hlen hgood htr hts hZ;by_cases h0:D.size=0
 ·have he:=sH D h0
  have hG:Hid (G=false):=by
   have:D.data.toList=[]:=by rw[←List.length_eq_zero_iff];simpa using h0
   rw[HGx.out,this];rfl
  clear h0;go_enter Tryz.func165,Tryz.ntmps165
  go_wp2_with fail
  refine(C.out _).mono ?_;rintro e w' ⟨rfl,rfl⟩;go_wp2_with fail
  go_ret3
  exact⟨by rw[hG.out];rfl,Below.refl _ _⟩
 ·have he:=vv D h0
  have hne:D.data.toList.isEmpty=false:=by rw[←toList_eq];exact he
  have hD0:0<D.size:=by omega
  by_cases hz:Z.size=0
  ·have hze:=sH Z hz
   have hall:=htr'.out.1 hz;have hat:(D.data.toList.getD 0 0)=D[0]:=mX D 0 hD0;by_cases h48:D[0].toNat=48
   ·have k48:((D[0].toNat:Int) != 48)=false:=by simp;omega
    have hb48:(D.data.toList.getD 0 0==48)=true:=by rw[hat,beq_iff_eq];exact UInt8.toNat_inj.1 h48
    by_cases h1:D.size=1
    ·have k1:((D.size:Int)==1)=true:=by simp[h1]
     have hG:=Lib.hid (show G= !M by rw[HGx.out,hall,hne,hb48];simp[h1]);clear h48 h1 hz h0 hat hb48 hall hne;go_enter Tryz.func165,Tryz.ntmps165
     go_wp2_with fail
     refine(C.out _).mono ?_;rintro e w' ⟨rfl,rfl⟩;go_wp2_with fail
     refine(T.out _).mono ?_;rintro e w1 ⟨rfl,hB⟩;go_wp2_with fail
     go_ret3
     exact⟨by rw[hG.out];rfl,hB⟩
    ·have k1:((D.size:Int)==1)=false:=by simp;omega
     have hG:=Lib.hid (show G=false by rw[HGx.out,hall,hne,hb48];simp[h1]);clear h48 h1 hz h0 hat hb48 hall hne;go_enter Tryz.func165,Tryz.ntmps165
     go_wp2_with fail
     refine(C.out _).mono ?_;rintro e w' ⟨rfl,rfl⟩;go_wp2_with fail
     refine(T.out _).mono ?_;rintro e w1 ⟨rfl,hB⟩;go_wp2_with fail
     go_ret3
     exact⟨by rw[hG.out];rfl,hB⟩
   ·have k48:((D[0].toNat:Int) != 48)=true:=by simp;omega
    have hb48:(D.data.toList.getD 0 0==48)=false:=by rw[hat,beq_eq_false_iff_ne];exact fun e=>h48 (by rw[e];rfl)
    have hG:Hid (G=true):=by rw[HGx.out,hall,hne,hb48];rfl
    clear h48 hz h0 hat hb48 hall hne;go_enter Tryz.func165,Tryz.ntmps165
    go_wp2_with fail
    refine(C.out _).mono ?_;rintro e w' ⟨rfl,rfl⟩;go_wp2_with fail
    refine(T.out _).mono ?_;rintro e w1 ⟨rfl,hB⟩;go_wp2_with fail
    go_ret3
    exact⟨by rw[hG.out];rfl,hB⟩
  ·have hze:=vv Z hz
   have hG:Hid (G=false):=by
    rw[HGx.out]
    cases ha:D.data.toList.all isDigit with
    |false=>rfl
    |true=>exact absurd (htr'.out.2 ha) hz
   clear hz h0 hne;go_enter Tryz.func165,Tryz.ntmps165
   go_wp2_with fail
   refine(C.out _).mono ?_;rintro e w' ⟨rfl,rfl⟩;go_wp2_with fail
   refine(T.out _).mono ?_;rintro e w1 ⟨rfl,hB⟩;go_wp2_with fail
   go_ret3
   exact⟨by rw[hG.out];rfl,hB⟩
end Go.Proofs.YtpbgegnlkdfjgaaGreatDoor
namespace Nt
open Go Go.RowKit
theorem WB {P:Program} (w:World) (src dst e:TypeId) (s:ByteArray) (hs:P.underlying src=some .string) (hd:P.underlying dst=some (.slice e)) (he:P.underlying e=some (.int .u8)):
  ∃cap w2,(convert src dst (.string s)).run P w=.ok (.slice (some ⟨w.heap.size,0,none⟩) s.size cap) w2∧Below w.heap.size w w2∧w.heap.size<w2.heap.size∧ ∀i (h:i<s.size),w2.cell? ⟨w.heap.size,i,none⟩=some (.int .u8 (s[i].toNat:Int)):=by
 refine⟨_,_,run_bytes_of_string w src dst e s hs hd he,(Below.refl _ _).drew.alloc (Nat.le_refl _) _,by simp,fun i h=>?_⟩;have hn:(w.drew.alloc (.cells (bytesRow s (grownCap w s.size 0 e)) e ((bytesRow s (grownCap w s.size 0 e)).size,(bytesRow s (grownCap w s.size 0 e)).size+1))).heap[w.heap.size]? =some (.cells (bytesRow s (grownCap w s.size 0 e)) e ((bytesRow s (grownCap w s.size 0 e)).size,(bytesRow s (grownCap w s.size 0 e)).size+1)):=heap_alloc_new w.drew _;unfold World.cell?;simp only[hn];unfold bytesRow;have h':i<(s.data.map fun b=>Value.int .u8 (b.toNat:Int)).size:=by simpa using h
 simp only[Option.isSome_none,Bool.false_eq_true,if_false];rw[Array.getElem?_append_left h',Array.getElem?_map,Array.getElem?_eq_getElem (by simpa using h)];rfl
end Nt
namespace Go.Proofs.YtpbgegnlkdfjgaaGreatDoor
open Go.RowKit Nt Nt.Num
theorem ZO (a b r c:Int) (hr:told (a*b)=(r,c)) (w:World) (ha:Fits a) (hb:Fits b):
  Calls Tryz.prog 166 #[.int .i64 a,.int .i64 b] w fun e w'=>e=.returned (.tuple #[.int .i64 r,.int .i64 c])∧w'=w:=by
 have:=n_mul a b w ha hb;rw[hr] at this;exact this
theorem CS (a b r c:Int) (hr:told (a+b)=(r,c)) (w:World) (ha:Fits a) (hb:Fits b):
  Calls Tryz.prog 167 #[.int .i64 a,.int .i64 b] w fun e w'=>e=.returned (.tuple #[.int .i64 r,.int .i64 c])∧w'=w:=by
 have:=n_add a b w ha hb;rw[hr] at this;exact this
set_option maxRecDepth 100000 in
set_option maxHeartbeats 2000000 in
theorem n_read (s:ByteArray) (w:World) (hs:s.size≤maxLen):
  Calls Tryz.prog 142 #[.string s] w fun e w'=>e=.returned (.tuple #[.int .i64 (read s.data.toList).1,.int .i64 (read s.data.toList).2])∧Below w.heap.size w w':=by
 have C:=n_cut s w hs;have hlen:(bare s.data.toList).length≤s.size:=by have:=O6 s.data.toList;simpa using this
 have hread:read s.data.toList=if good s.data.toList then told (signed (minus s.data.toList) (val (bare s.data.toList))) else(0,2):=rfl
 have hgood:good s.data.toList=true→(bare s.data.toList).all isDigit=true:=fun h=>by unfold good at h;simp only[Bool.and_eq_true] at h;exact h.1.1
 generalize read s.data.toList=R at*;generalize good s.data.toList=G at*;generalize minus s.data.toList=M at*;obtain⟨d,hd⟩: ∃d,d=bare s.data.toList:=⟨_,rfl⟩
 rw[←hd] at C hlen hread hgood;clear hd;obtain⟨D,hD⟩: ∃D,D=bs d:=⟨_,rfl⟩
 rw[←hD] at C;have Yq:D.data.toList=d:=by rw[hD];rfl
 have hDs:D.size=d.length:=by rw[←Yq];simp
 have HC:=Lib.hid C;clear C hD
 cases G with
 |false=>
  have H:Hid (R=(0,2)):=hread;clear hread hgood;go_enter Tryz.func142,Tryz.ntmps142
  go_wp2_with fail
  refine HC.out.mono ?_;rintro e w1 ⟨rfl,hB⟩;go_wp2_with fail
  go_ret2
  exact⟨by rw[H.out];rfl,hB⟩
 |true=>
  have hall:=Lib.hid (hgood rfl);have HR:Hid (R=told (signed M (val d))):=hread;have I6:=Lib.hid hDs;have hDl:D.size≤s.size:=by omega
  have HDd:=Lib.hid Yq;unfold maxLen at hs;clear hread hgood hDs Yq hlen;go_enter Tryz.func142,Tryz.ntmps142
  go_wp2_with fail
  refine HC.out.mono ?_;clear HC;rintro e w1 ⟨rfl,hB⟩;obtain⟨cap,w2,hcv,hB2,hg2,hcell⟩:=WB (P:=Tryz.prog) w1 9 120 5 D Tryz.underlying9 Tryz.underlying120 Tryz.underlying5;have hB':=hB.trans (hB2.mono hB.size);obtain⟨g,hg⟩: ∃g,g=w1.heap.size:=⟨_,rfl⟩
  rw[←hg] at hcv hcell;have Hcell:=Lib.hid hcell;clear hcell hg hB2 hg2 hB;go_wp2_with fail
  go_loop [7,24] (fun a i=>∃k:Nat,k≤D.size∧i=.int .i64 (k:Int)∧a=.int .i64 (signed M (val (d.take k)))∧Hid (Fits (signed M (val (d.take k))))) (fun _ i=>D.size-(intOf i).toNat)
  case atStart=>exact⟨0,by omega,rfl,by simp[val,signed],by show Fits _;simp[val,signed];decide⟩
  case round=>
   obtain⟨k,hk,rfl,rfl,hfit⟩:=hrel;by_cases hlt:k<D.size
   ·have hkd:k<d.length:=by rw[←I6.out];exact hlt
    have hck:=Hcell.out k hlt;have hat:D[k]=d.getD k 0:=by rw[←HDd.out];exact(mX D k hlt).symm
    have hdig:=List.all_eq_true.1 hall.out (d.getD k 0) (by rw[List.getD_eq_getElem?_getD,List.getElem?_eq_getElem hkd];exact List.getElem_mem _);simp only[isDigit,Bool.and_eq_true,decide_eq_true_eq] at hdig;have hstep:=Qj M d k hkd hall.out;have Zg: ¬Fits (signed M (val (d.take (k+1))))→ ¬Fits (signed M (val d)):=Qk M _ _ (L9 d (k+1));rw[hat] at hck;obtain⟨c,hc⟩: ∃c:Nat,c=(d.getD k 0).toNat:=⟨_,rfl⟩
    rw[←hc] at hck hdig hstep;obtain⟨c1,c2⟩:=hdig;obtain⟨acc,hacc⟩: ∃acc,acc=signed M (val (d.take k)):=⟨_,rfl⟩
    obtain⟨nxt,hnxt⟩: ∃nxt,nxt=signed M (val (d.take (k+1))):=⟨_,rfl⟩
    have hsg:(M=false→0≤acc)∧(M=true→acc≤0):=by rw[hacc];unfold signed;cases M<;>simp
    rw[←hacc] at hfit hstep⊢;rw[←hnxt] at hstep Zg;have HNX:=Lib.hid hnxt;have Hlost:=Lib.hid Zg;clear hat hc hacc hnxt Zg;by_cases hm:Fits (acc*10)
    ·clear hsg
     have E1:=jc hm;have M1:=Lib.hid (ZO acc 10 _ _ E1 w2 hfit.out (by decide));clear E1;by_cases hn:Fits nxt
     ·have E2:=jc hn
      cases M
      ·have hs2:nxt=acc*10+((c:Int)-48):=by simpa using hstep
       rw[hs2] at E2;have A1:=Lib.hid (CS (acc*10) ((c:Int)-48) _ _ E2 w2 hm (by unfold Fits;omega));have HS:=Lib.hid hs2;have HN:=Lib.hid hn;clear E2 hstep hs2 hm hn;go_wp2_with fail
       refine M1.out.mono ?_;rintro e w' ⟨rfl,rfl⟩;go_wp2_with fail
       refine A1.out.mono ?_;rintro e w' ⟨rfl,rfl⟩;go_wp2_with fail
       go_round
       case rel=>exact⟨k+1,by omega,by go_num,by rw[←HNX.out,HS.out],by rw[←HNX.out];exact HN.out⟩
       case measure=>simp[intOf];omega
      ·have hs2:nxt=acc*10+ -((c:Int)-48):=by simpa using hstep
       rw[hs2] at E2;have A1:=Lib.hid (CS (acc*10) (-((c:Int)-48)) _ _ E2 w2 hm (by unfold Fits;omega));have HS:=Lib.hid hs2;have HN:=Lib.hid hn;clear E2 hstep hs2 hm hn;go_wp2_with fail
       refine M1.out.mono ?_;rintro e w' ⟨rfl,rfl⟩;go_wp2_with fail
       refine A1.out.mono ?_;rintro e w' ⟨rfl,rfl⟩;go_wp2_with fail
       go_round
       case rel=>exact⟨k+1,by omega,by go_num,by rw[←HNX.out,HS.out],by rw[←HNX.out];exact HN.out⟩
       case measure=>simp[intOf];omega
     ·have E2:=iq hn
      have HF:=Lib.hid (iq (Hlost.out hn))
      cases M
      ·have hs2:nxt=acc*10+((c:Int)-48):=by simpa using hstep
       rw[hs2] at E2;have A1:=Lib.hid (CS (acc*10) ((c:Int)-48) _ _ E2 w2 hm (by unfold Fits;omega));clear E2 hstep hs2 hm hn;go_wp2_with fail
       refine M1.out.mono ?_;rintro e w' ⟨rfl,rfl⟩;go_wp2_with fail
       refine A1.out.mono ?_;rintro e w' ⟨rfl,rfl⟩;go_wp2_with fail
       go_ret2
       exact⟨by rw[HR.out,HF.out];rfl,hB'⟩
      ·have hs2:nxt=acc*10+ -((c:Int)-48):=by simpa using hstep
       rw[hs2] at E2;have A1:=Lib.hid (CS (acc*10) (-((c:Int)-48)) _ _ E2 w2 hm (by unfold Fits;omega));clear E2 hstep hs2 hm hn;go_wp2_with fail
       refine M1.out.mono ?_;rintro e w' ⟨rfl,rfl⟩;go_wp2_with fail
       refine A1.out.mono ?_;rintro e w' ⟨rfl,rfl⟩;go_wp2_with fail
       go_ret2
       exact⟨by rw[HR.out,HF.out];rfl,hB'⟩
    ·have M1:=Lib.hid (ZO acc 10 _ _ (iq hm) w2 hfit.out (by decide))
     have hn: ¬Fits nxt:=by
      have hf:=hfit.out;intro hn;apply hm
      unfold Fits at hn hf⊢
      cases M
      ·have h1:=hsg.1 rfl
       have h2:nxt=acc*10+((c:Int)-48):=by simpa using hstep
       omega
      ·have h1:=hsg.2 rfl
       have h2:nxt=acc*10+ -((c:Int)-48):=by simpa using hstep
       omega
     have HF:=Lib.hid (iq (Hlost.out hn));clear hstep hm hn hsg
     cases M
     ·have A1:=Lib.hid (CS 0 ((c:Int)-48) _ _ (jc (by unfold Fits;omega)) w2 (by decide) (by unfold Fits;omega))
      go_wp2_with fail
      refine M1.out.mono ?_;rintro e w' ⟨rfl,rfl⟩;go_wp2_with fail
      refine A1.out.mono ?_;rintro e w' ⟨rfl,rfl⟩;go_wp2_with fail
      go_ret2
      exact⟨by rw[HR.out,HF.out];rfl,hB'⟩
     ·have A1:=Lib.hid (CS 0 (-((c:Int)-48)) _ _ (jc (by unfold Fits;omega)) w2 (by decide) (by unfold Fits;omega))
      go_wp2_with fail
      refine M1.out.mono ?_;rintro e w' ⟨rfl,rfl⟩;go_wp2_with fail
      refine A1.out.mono ?_;rintro e w' ⟨rfl,rfl⟩;go_wp2_with fail
      go_ret2
      exact⟨by rw[HR.out,HF.out];rfl,hB'⟩
   ·obtain rfl:k=D.size:=by omega
    have hfull:signed M (val (d.take D.size))=signed M (val d):=by rw[I6.out,List.take_length]
    rw[hfull] at hfit⊢;have HF:=Lib.hid (jc hfit.out);clear hfull;go_wp2_with fail
    go_ret2
    exact⟨by rw[HR.out,HF.out];rfl,hB'⟩
def fe (l:List UInt8):Bool:=l.all isDigit&& !l.isEmpty
set_option maxHeartbeats 1000000 in
theorem O7 (s:ByteArray) (w:World) (hs:s.size≤maxLen):
  Calls Tryz.prog 124 #[.string s] w fun e w'=>e=.returned (.bool (fe s.data.toList))∧w'=w:=by
 unfold maxLen at hs;have hsl:s.data.toList.length=s.size:=by simp
 have HSL:=Lib.hid hsl;clear hsl;go_enter Tryz.func124,Tryz.ntmps124
 go_wp2_with fail
 go_loop [3] (fun i=>∃k:Nat,k≤s.size∧i=.int .i64 (k:Int)∧Hid (∀j,j<k→isDigit (at_ s j)=true)) (fun i=>s.size-(intOf i).toNat)
 case atStart=>exact⟨0,by omega,rfl,fun j hj=>by omega⟩
 case round=>
  obtain⟨k,hk,rfl,hall⟩:=hrel;by_cases hlt:k<s.size
  ·have hat:=Lib.hid (mX s k hlt)
   by_cases h48:s[k].toNat<48
   ·have H:Hid (fe s.data.toList=false):=by
     have:isDigit (at_ s k)=false:=by rw[hat.out];unfold isDigit;simp;omega
     show _=_;unfold fe;rw[Bool.and_eq_false_iff];left
     rw[List.all_eq_false];exact⟨_,List.getElem_mem (by rw[HSL.out];exact hlt),by
      unfold at_ at this;rw[List.getD_eq_getElem?_getD,List.getElem?_eq_getElem (by rw[HSL.out];exact hlt)] at this;simpa using this⟩
    go_wp2_with fail
    go_ret
    exact⟨iI H.out.symm,rfl⟩
   ·by_cases h57:57<s[k].toNat
    ·have d48:decide ((s[k].toNat:Int)<48)=false:=decide_eq_false (by omega)
     have d57:decide (57<(s[k].toNat:Int))=true:=decide_eq_true (by omega);have H:Hid (fe s.data.toList=false):=by
      have:isDigit (at_ s k)=false:=by rw[hat.out];unfold isDigit;simp;omega
      show _=_;unfold fe;rw[Bool.and_eq_false_iff];left
      rw[List.all_eq_false];exact⟨_,List.getElem_mem (by rw[HSL.out];exact hlt),by
       unfold at_ at this;rw[List.getD_eq_getElem?_getD,List.getElem?_eq_getElem (by rw[HSL.out];exact hlt)] at this;simpa using this⟩
     go_wp2_with fail
     go_ret
     exact⟨iI H.out.symm,rfl⟩
    ·have d48:decide ((s[k].toNat:Int)<48)=false:=decide_eq_false (by omega)
     have d57:decide (57<(s[k].toNat:Int))=false:=decide_eq_false (by omega);have hd:Hid (isDigit (at_ s k)=true):=by show _=_;rw[hat.out];unfold isDigit;simp;omega
     go_wp2_with fail
     go_round
     case rel=>
      refine⟨k+1,by omega,by go_num,fun j hj=>?_⟩;by_cases h:j=k
      ·rw[h];exact hd.out
      ·exact hall.out j (by omega)
     case measure=>simp[intOf];omega
  ·obtain rfl:k=s.size:=by omega
   have hA:s.data.toList.all isDigit=true:=by
    rw[List.all_eq_true];intro x hx;obtain⟨i,hi,e⟩:=List.getElem_of_mem hx;have:=hall.out i (by rw[HSL.out] at hi;exact hi);unfold at_ at this;rw[List.getD_eq_getElem?_getD,List.getElem?_eq_getElem hi] at this;rw[←e];simpa using this
   have H:Hid (fe s.data.toList= !s.toList.isEmpty):=by
    show _=_;unfold fe;rw[hA,toList_eq];rfl
   clear hA;go_wp2_with fail
   go_ret
   exact⟨iI H.out.symm,rfl⟩
set_option maxRecDepth 100000 in
set_option maxHeartbeats 4000000 in
theorem WC (s:ByteArray) (w:World) (hs:s.size≤maxLen) (hM:minus s.data.toList=false):
  Calls Tryz.prog 85 #[.string s] w fun e w'=>e=.returned (.tuple #[.int .i64 (read s.data.toList).1,.int .i64 (read s.data.toList).2])∧w'=w:=by
 have hs':=hs;have iE:good s.data.toList=((bare s.data.toList).all isDigit&& !(bare s.data.toList).isEmpty&&(!((bare s.data.toList).getD 0 0==48)||(decide ((bare s.data.toList).length=1)&& !minus s.data.toList))):=rfl;have hread:read s.data.toList=if good s.data.toList then told (signed (minus s.data.toList) (val (bare s.data.toList))) else(0,2):=rfl
 have hgood:=iE;rw[hM] at hread hgood;clear iE;have hb:bare s.data.toList=s.data.toList:=by unfold bare;rw[hM];rfl
 rw[hb] at hread hgood;generalize hGe:good s.data.toList=G at hread hgood;have iE:G=good s.data.toList:=hGe.symm;clear hGe;generalize read s.data.toList=R at*;obtain⟨d,hd⟩: ∃d,d=s.data.toList:=⟨_,rfl⟩
 rw[←hd] at hread hgood;have Yq:s.data.toList=d:=hd.symm;have hDs:s.size=d.length:=by rw[hd];simp
 have pq:Hid (∀w,Calls Tryz.prog 124 #[.string s] w fun e w'=>e=.returned (.bool (fe d))∧w'=w):=fun w=>by rw[hd];exact O7 s w hs'
 unfold maxLen at hs;have hminus:s.size=0∨(0<s.size∧ ∀h:0<s.size,((s[0].toNat:Int)==45)=false):=by
  by_cases h0:s.size=0
  ·exact .inl h0
  ·refine .inr ⟨by omega,fun h=>?_⟩
   have h1:at_ s 0=s[0]:=mX s 0 h;unfold at_ at h1;rw[beq_eq_false_iff_ne];intro h2;have h3:s[0]=45:=UInt8.toNat_inj.1 (by rw[show s[0].toNat=45 by omega];rfl);rw[h3] at h1;unfold minus at hM
   cases e:s.data.toList with
   |nil=>rw[e] at h1;simp at h1
   |cons c l=>rw[e] at h1 hM;simp at h1 hM;exact hM h1
 clear hM hb hd;rcases hminus with hm|⟨hm,hm2⟩
 ·have A8:fe d=false:=by
   have:d=[]:=List.eq_nil_of_length_eq_zero (by omega);rw[this];rfl
  have hG:Hid (G=false):=by
   show _=_;have:d=[]:=List.eq_nil_of_length_eq_zero (by omega);rw[hgood,this];rfl
  have H:Hid (R=(0,2)):=by show _=_;rw[hread,hG.out];rfl
  have hm1:s.size≤0:=by omega
  have pq:Hid (∀w,Calls Tryz.prog 124 #[.string s] w fun e w'=>e=.returned (.bool false)∧w'=w):=fun w=>by have:=pq.out w;rw[A8] at this;exact this
  clear hread hgood iE hm Yq hDs A8;go_enter Tryz.func85,Tryz.ntmps85
  go_wp2_with fail
  refine(pq.out _).mono ?_;rintro e w' ⟨rfl,rfl⟩;go_wp2_with fail
  go_ret2
  exact⟨by rw[H.out];rfl,rfl⟩
 ·have hm45:=hm2 hm
  clear hm2;obtain⟨D,hD⟩: ∃D,D=s:=⟨_,rfl⟩
  subst hD;have HDd:=Lib.hid Yq;have I6:=Lib.hid hDs;clear Yq hDs;by_cases hdg:fe d=true
  ·have pq:Hid (∀w,Calls Tryz.prog 124 #[.string D] w fun e w'=>e=.returned (.bool true)∧w'=w):=fun w=>by have:=pq.out w;rw[hdg] at this;exact this
   have Rt:=hdg;unfold fe at Rt;rw[Bool.and_eq_true] at Rt;obtain⟨hall,hne⟩:=Rt;have hD0:0<D.size:=by
    rw[I6.out]
    cases d with
    |nil=>simp at hne
    |cons a l=>simp
   have hat:D[0]=d.getD 0 0:=by rw[←HDd.out];exact(mX D 0 hD0).symm
   by_cases Yw:1<D.size∧D[0].toNat=48
   ·have hG:Hid (G=false):=by
     show _=_;have e1:(d.getD 0 0==48)=true:=by rw[←hat,beq_iff_eq];exact UInt8.toNat_inj.1 Yw.2
     have e2:decide (d.length=1)=false:=decide_eq_false (by have:=I6.out;omega);rw[hgood,e1,e2];simp
    have H:Hid (R=(0,2)):=by show _=_;rw[hread,hG.out];rfl
    obtain⟨k1,k2⟩:=Yw;have k3:((D[0].toNat:Int)==48)=true:=by simp;omega
    clear hall hne hat hdg hread hgood k2 iE;go_enter Tryz.func85,Tryz.ntmps85
    go_wp2_with fail
    refine(pq.out _).mono ?_;rintro e w' ⟨rfl,rfl⟩;go_wp2_with fail
    go_ret2
    exact⟨by rw[H.out];rfl,rfl⟩
   ·have t1:D.size≤1∨(1<D.size∧((D[0].toNat:Int)==48)=false):=by
     by_cases h1:1<D.size
     ·right;refine⟨h1,?_⟩;simp;omega
     ·left;omega
    by_cases T7:D.data.toList=[45,48]
    ·have k4:(D.toList==[45,48])=true:=by rw[toList_eq,T7];rfl
     have hG:Hid (G=false):=by show _=_;rw[iE,T7];rfl
     have H:Hid (R=(0,2)):=by show _=_;rw[hread,hG.out];rfl
     clear hall hne hat hdg hread hgood Yw T7 iE;rcases t1 with t1|⟨t1,t2⟩
     all_goals
      go_enter Tryz.func85,Tryz.ntmps85
      go_wp2_with fail
      refine(pq.out _).mono ?_;rintro e w' ⟨rfl,rfl⟩;go_wp2_with fail
      go_ret2
      exact⟨by rw[H.out];rfl,rfl⟩
    ·have k4:(D.toList==[45,48])=false:=by rw[toList_eq,beq_eq_false_iff_ne];exact T7
     have hz:(d.getD 0 0==48)=true→false=false∧d.length=1:=fun h=>by
      have h1:D.size=1:=by
       have:D[0].toNat=48:=by rw[hat];rw[beq_iff_eq] at h;rw[h];rfl
       omega
      refine⟨?_,by have:=I6.out;omega⟩;rfl
     have hG:Hid (G=true):=by
      show _=_;rw[hgood];have e3:d.isEmpty=false:=by simpa using hne
      rw[hall,e3]
      cases hz0:(d.getD 0 0==48) with
      |false=>rfl
      |true=>obtain⟨h1,h2⟩:=hz hz0;simp[h1,h2]
     have HR:Hid (R=told (signed false (val d))):=by show _=_;rw[hread,hG.out];rfl
     have Hall:=Lib.hid hall;have hnz:Hid (false=true→1≤val d):=fun hM=>by
      have h0:(d.getD 0 0==48)=false:=by
       cases hz0:(d.getD 0 0==48) with
       |false=>rfl
       |true=>exact absurd ((hz hz0).1.symm.trans hM) (by decide)
      have h1:=RU d hall h0 0 (by have:=I6.out;omega);have h2:=L9 d (0+1);omega
     by_cases h19:19<D.size
     ·have hgt:9999999999999999999<val d:=KQ d hall (by
       cases hz0:(d.getD 0 0==48) with
       |false=>rfl
       |true=>have:=(hz hz0).2;have:=I6.out;omega) (by have:=I6.out;omega)
      have H:Hid (R=(0,1)):=by show _=_;rw[HR.out];exact iq (by unfold Fits signed;simp;omega)
      clear hall hne hat hdg hread hgood Yw T7 hz hgt iE;rcases t1 with t1|⟨t1,t2⟩
      ·omega
      ·go_enter Tryz.func85,Tryz.ntmps85
       go_wp2_with fail
       refine(pq.out _).mono ?_;rintro e w' ⟨rfl,rfl⟩;go_wp2_with fail
       go_ret2
       exact⟨by rw[H.out];rfl,rfl⟩
     ·have hlt:=Lib.hid (fun k=>Gx d hall k)
      clear hall hne hat hdg hread hgood Yw T7 hz iE;rcases t1 with t1|⟨t1,t2⟩
      all_goals
       go_enter Tryz.func85,Tryz.ntmps85
       go_wp2_with fail
       refine(pq.out _).mono ?_;clear pq;rintro e w' ⟨rfl,rfl⟩;go_wp2_with fail
       go_loop [5,6] (fun a i=>∃k:Nat,k≤D.size∧i=.int .i64 (k:Int)∧a=.int .u64 (val (d.take k):Int)) (fun _ i=>D.size-(intOf i).toNat)
       case atStart=>exact⟨0,by omega,rfl,by simp[val]⟩
       case round=>
        obtain⟨k,hk,rfl,rfl⟩:=hrel;by_cases hks:k<D.size
        ·have hkd:k<d.length:=by rw[←I6.out];exact hks
         have hat:Hid (D[k].toNat=(d.getD k 0).toNat):=by show _=_;rw[←HDd.out,←mX D k hks];rfl
         have hdig:=List.all_eq_true.1 Hall.out (d.getD k 0) (by rw[List.getD_eq_getElem?_getD,List.getElem?_eq_getElem hkd];exact List.getElem_mem _);simp only[isDigit,Bool.and_eq_true,decide_eq_true_eq] at hdig;have hst:=Lib.hid (mq d k hkd);rw[←hat.out] at hdig hst;obtain⟨c1,c2⟩:=hdig;have hb:=hlt.out k;have hb2:val (d.take k)<1000000000000000000:=Nat.lt_of_lt_of_le hb (Nat.le_trans (Nat.pow_le_pow_right (by decide) (show k≤18 by omega)) (by decide));obtain⟨a,ha⟩: ∃a,a=val (d.take k):=⟨_,rfl⟩
         rw[←ha] at hb2 hst⊢;clear hb ha;go_wp2_with fail
         go_round
         case rel=>
          refine⟨k+1,by omega,by go_num,?_⟩;rw[hst.out];congr 1
          omega
         case measure=>simp[intOf];omega
        ·obtain rfl:k=D.size:=by omega
         have hfull:val (d.take D.size)=val d:=by rw[I6.out,List.take_length]
         have hb2:val d<10000000000000000000:=by
          have h1:=hlt.out D.size;rw[hfull] at h1;exact Nat.lt_of_lt_of_le h1 (Nat.le_trans (Nat.pow_le_pow_right (by decide) (show D.size≤19 by omega)) (by decide))
         rw[hfull];clear hfull hlt;have YM:=hnz.out;obtain⟨v,hv⟩: ∃v,v=val d:=⟨_,rfl⟩
         rw[←hv] at hb2 YM HR⊢;clear hv hnz;by_cases hgr:9223372036854775807<v
         ·have H:Hid (R=(0,1)):=by show _=_;rw[HR.out];exact iq (by unfold Fits signed;simp;omega)
          go_wp2_with fail
          go_ret2
          exact⟨by rw[H.out];rfl,rfl⟩
         ·have H:Hid (R=((v:Int),0)):=by show _=_;rw[HR.out];exact jc (by unfold Fits signed;simp;omega)
          go_wp2_with fail
          go_ret2
          exact⟨by rw[H.out];rfl,rfl⟩
  ·have A8:fe d=false:=by simpa using hdg
   have pq:Hid (∀w,Calls Tryz.prog 124 #[.string D] w fun e w'=>e=.returned (.bool false)∧w'=w):=fun w=>by have:=pq.out w;rw[A8] at this;exact this
   have hG:Hid (G=false):=by
    show _=_;unfold fe at A8;rw[hgood];rw[Bool.and_eq_false_iff] at A8⊢;left
    rw[Bool.and_eq_false_iff];exact A8
   have H:Hid (R=(0,2)):=by show _=_;rw[hread,hG.out];rfl
   clear hread hgood iE hdg A8;go_enter Tryz.func85,Tryz.ntmps85
   go_wp2_with fail
   refine(pq.out _).mono ?_;rintro e w' ⟨rfl,rfl⟩;go_wp2_with fail
   go_ret2
   exact⟨by rw[H.out];rfl,rfl⟩
set_option maxRecDepth 100000 in
set_option maxHeartbeats 4000000 in
theorem Ta (s:ByteArray) (w:World) (hs:s.size≤maxLen) (hM:minus s.data.toList=true):
  Calls Tryz.prog 85 #[.string s] w fun e w'=>e=.returned (.tuple #[.int .i64 (read s.data.toList).1,.int .i64 (read s.data.toList).2])∧w'=w:=by
 have hs':=hs;have iE:good s.data.toList=((bare s.data.toList).all isDigit&& !(bare s.data.toList).isEmpty&&(!((bare s.data.toList).getD 0 0==48)||(decide ((bare s.data.toList).length=1)&& !minus s.data.toList))):=rfl;have hread:read s.data.toList=if good s.data.toList then told (signed (minus s.data.toList) (val (bare s.data.toList))) else(0,2):=rfl
 have hgood:=iE;rw[hM] at hread hgood;clear iE;have hs0:0<s.size:=by
  unfold minus at hM
  cases e:s.data.toList with
  |nil=>rw[e] at hM;simp at hM
  |cons c l=>have:=congrArg List.length e;simp at this;omega
 have h45:((s[0].toNat:Int)==45)=true:=by
  have h1:at_ s 0=s[0]:=mX s 0 hs0;unfold at_ at h1;unfold minus at hM
  cases e:s.data.toList with
  |nil=>rw[e] at hM;simp at hM
  |cons c l=>
   rw[e] at h1 hM;simp at h1 hM;rw[←h1,hM];rfl
 have Uq:s.data.toList=45::bare s.data.toList:=by
  unfold bare;rw[hM];unfold minus at hM
  cases e:s.data.toList with
  |nil=>rw[e] at hM;simp at hM
  |cons c l=>rw[e] at hM;simp at hM;rw[hM];simp
 have hbare:bare s.data.toList=s.data.toList.drop 1:=by unfold bare;rw[hM];rfl
 generalize hGe:good s.data.toList=G at hread hgood;have iE:G=good s.data.toList:=hGe.symm;clear hGe;generalize read s.data.toList=R at*;obtain⟨d,hd⟩: ∃d,d=bare s.data.toList:=⟨_,rfl⟩
 rw[←hd] at hread hgood Uq hbare;obtain⟨D,hD⟩: ∃D,D=s.extract 1 s.size:=⟨_,rfl⟩
 have Yq:D.data.toList=d:=by
  rw[hD,hbare];simp[ByteArray.data_extract,List.extract];exact List.take_of_length_le (by simp)
 have hDs:D.size=d.length:=by rw[←Yq];simp
 have hsl:s.data.toList.length=s.size:=by simp
 have hDlt:D.size<s.size:=by
  rw[Uq] at hsl;simp at hsl;omega
 have hDx:Hid (s.extract 1 s.size=D):=hD.symm;have pq:Hid (∀w,Calls Tryz.prog 124 #[.string D] w fun e w'=>e=.returned (.bool (fe d))∧w'=w):=fun w=>by rw[←Yq];exact O7 D w (by omega)
 unfold maxLen at hs;have Hcons:=Lib.hid Uq;clear hM hd hbare Uq hD hsl;have HDd:=Lib.hid Yq;have I6:=Lib.hid hDs;clear Yq hDs;by_cases hdg:fe d=true
 ·have pq:Hid (∀w,Calls Tryz.prog 124 #[.string D] w fun e w'=>e=.returned (.bool true)∧w'=w):=fun w=>by have:=pq.out w;rw[hdg] at this;exact this
  have Rt:=hdg;unfold fe at Rt;rw[Bool.and_eq_true] at Rt;obtain⟨hall,hne⟩:=Rt;have hD0:0<D.size:=by
   rw[I6.out]
   cases d with
   |nil=>simp at hne
   |cons a l=>simp
  have hat:D[0]=d.getD 0 0:=by rw[←HDd.out];exact(mX D 0 hD0).symm
  by_cases Yw:1<D.size∧D[0].toNat=48
  ·have hG:Hid (G=false):=by
    show _=_;have e1:(d.getD 0 0==48)=true:=by rw[←hat,beq_iff_eq];exact UInt8.toNat_inj.1 Yw.2
    have e2:decide (d.length=1)=false:=decide_eq_false (by have:=I6.out;omega);rw[hgood,e1,e2];simp
   have H:Hid (R=(0,2)):=by show _=_;rw[hread,hG.out];rfl
   obtain⟨k1,k2⟩:=Yw;have k3:((D[0].toNat:Int)==48)=true:=by simp;omega
   clear hall hne hat hdg hread hgood k2 iE;go_enter Tryz.func85,Tryz.ntmps85
   go_wp2_with fail
   rw[hDx.out];refine(pq.out _).mono ?_;rintro e w' ⟨rfl,rfl⟩;go_wp2_with fail
   go_ret2
   exact⟨by rw[H.out];rfl,rfl⟩
  ·have t1:D.size≤1∨(1<D.size∧((D[0].toNat:Int)==48)=false):=by
    by_cases h1:1<D.size
    ·right;refine⟨h1,?_⟩;simp;omega
    ·left;omega
   by_cases T7:s.data.toList=[45,48]
   ·have k4:(s.toList==[45,48])=true:=by rw[toList_eq,T7];rfl
    have hG:Hid (G=false):=by show _=_;rw[iE,T7];rfl
    have H:Hid (R=(0,2)):=by show _=_;rw[hread,hG.out];rfl
    clear hall hne hat hdg hread hgood Yw T7 iE;rcases t1 with t1|⟨t1,t2⟩
    all_goals
     go_enter Tryz.func85,Tryz.ntmps85
     go_wp2_with fail
     rw[hDx.out];refine(pq.out _).mono ?_;rintro e w' ⟨rfl,rfl⟩;go_wp2_with fail
     go_ret2
     exact⟨by rw[H.out];rfl,rfl⟩
   ·have k4:(s.toList==[45,48])=false:=by rw[toList_eq,beq_eq_false_iff_ne];exact T7
    have hz:(d.getD 0 0==48)=true→true=false∧d.length=1:=fun h=>by
     have h1:D.size=1:=by
      have:D[0].toNat=48:=by rw[hat];rw[beq_iff_eq] at h;rw[h];rfl
      omega
     refine⟨?_,by have:=I6.out;omega⟩;exfalso;apply T7
     rw[Hcons.out];have hd1:d.length=1:=by have:=I6.out;omega
     match d,hd1,h with
     |[x],_,h=>simp at h;rw[h]
    have hG:Hid (G=true):=by
     show _=_;rw[hgood];have e3:d.isEmpty=false:=by simpa using hne
     rw[hall,e3]
     cases hz0:(d.getD 0 0==48) with
     |false=>rfl
     |true=>obtain⟨h1,h2⟩:=hz hz0;simp[h1,h2]
    have HR:Hid (R=told (signed true (val d))):=by show _=_;rw[hread,hG.out];rfl
    have Hall:=Lib.hid hall;have hnz:Hid (true=true→1≤val d):=fun hM=>by
     have h0:(d.getD 0 0==48)=false:=by
      cases hz0:(d.getD 0 0==48) with
      |false=>rfl
      |true=>exact absurd ((hz hz0).1.symm.trans hM) (by decide)
     have h1:=RU d hall h0 0 (by have:=I6.out;omega);have h2:=L9 d (0+1);omega
    by_cases h19:19<D.size
    ·have hgt:9999999999999999999<val d:=KQ d hall (by
      cases hz0:(d.getD 0 0==48) with
      |false=>rfl
      |true=>have:=(hz hz0).2;have:=I6.out;omega) (by have:=I6.out;omega)
     have H:Hid (R=(0,1)):=by show _=_;rw[HR.out];exact iq (by unfold Fits signed;simp;omega)
     clear hall hne hat hdg hread hgood Yw T7 hz hgt iE;rcases t1 with t1|⟨t1,t2⟩
     ·omega
     ·go_enter Tryz.func85,Tryz.ntmps85
      go_wp2_with fail
      rw[hDx.out];refine(pq.out _).mono ?_;rintro e w' ⟨rfl,rfl⟩;go_wp2_with fail
      go_ret2
      exact⟨by rw[H.out];rfl,rfl⟩
    ·have hlt:=Lib.hid (fun k=>Gx d hall k)
     clear hall hne hat hdg hread hgood Yw T7 hz iE;rcases t1 with t1|⟨t1,t2⟩
     all_goals
      go_enter Tryz.func85,Tryz.ntmps85
      go_wp2_with fail
      rw[hDx.out];refine(pq.out _).mono ?_;clear pq;rintro e w' ⟨rfl,rfl⟩;go_wp2_with fail
      go_loop [5,6] (fun a i=>∃k:Nat,k≤D.size∧i=.int .i64 (k:Int)∧a=.int .u64 (val (d.take k):Int)) (fun _ i=>D.size-(intOf i).toNat)
      case atStart=>exact⟨0,by omega,rfl,by simp[val]⟩
      case round=>
       obtain⟨k,hk,rfl,rfl⟩:=hrel;by_cases hks:k<D.size
       ·have hkd:k<d.length:=by rw[←I6.out];exact hks
        have hat:Hid (D[k].toNat=(d.getD k 0).toNat):=by show _=_;rw[←HDd.out,←mX D k hks];rfl
        have hdig:=List.all_eq_true.1 Hall.out (d.getD k 0) (by rw[List.getD_eq_getElem?_getD,List.getElem?_eq_getElem hkd];exact List.getElem_mem _);simp only[isDigit,Bool.and_eq_true,decide_eq_true_eq] at hdig;have hst:=Lib.hid (mq d k hkd);rw[←hat.out] at hdig hst;obtain⟨c1,c2⟩:=hdig;have hb:=hlt.out k;have hb2:val (d.take k)<1000000000000000000:=Nat.lt_of_lt_of_le hb (Nat.le_trans (Nat.pow_le_pow_right (by decide) (show k≤18 by omega)) (by decide));obtain⟨a,ha⟩: ∃a,a=val (d.take k):=⟨_,rfl⟩
        rw[←ha] at hb2 hst⊢;clear hb ha;go_wp2_with fail
        go_round
        case rel=>
         refine⟨k+1,by omega,by go_num,?_⟩;rw[hst.out];congr 1
         omega
        case measure=>simp[intOf];omega
       ·obtain rfl:k=D.size:=by omega
        have hfull:val (d.take D.size)=val d:=by rw[I6.out,List.take_length]
        have hb2:val d<10000000000000000000:=by
         have h1:=hlt.out D.size;rw[hfull] at h1;exact Nat.lt_of_lt_of_le h1 (Nat.le_trans (Nat.pow_le_pow_right (by decide) (show D.size≤19 by omega)) (by decide))
        rw[hfull];clear hfull hlt;have YM:=hnz.out;obtain⟨v,hv⟩: ∃v,v=val d:=⟨_,rfl⟩
        rw[←hv] at hb2 YM HR⊢;clear hv hnz;have hv1:1≤v:=by simpa using YM
        clear YM;by_cases hgr:9223372036854775808<v
        ·have H:Hid (R=(0,1)):=by show _=_;rw[HR.out];exact iq (by unfold Fits signed;simp;omega)
         go_wp2_with fail
         go_ret2
         exact⟨by rw[H.out];rfl,rfl⟩
        ·have H:Hid (R=(-(v:Int),0)):=by show _=_;rw[HR.out];exact jc (by unfold Fits signed;simp;omega)
         go_wp2_with fail
         go_ret2
         exact⟨by rw[H.out];congr 3;simp;omega,rfl⟩
 ·have A8:fe d=false:=by simpa using hdg
  have pq:Hid (∀w,Calls Tryz.prog 124 #[.string D] w fun e w'=>e=.returned (.bool false)∧w'=w):=fun w=>by have:=pq.out w;rw[A8] at this;exact this
  have hG:Hid (G=false):=by
   show _=_;unfold fe at A8;rw[hgood];rw[Bool.and_eq_false_iff] at A8⊢;left
   rw[Bool.and_eq_false_iff];exact A8
  have H:Hid (R=(0,2)):=by show _=_;rw[hread,hG.out];rfl
  clear hread hgood iE hdg A8;go_enter Tryz.func85,Tryz.ntmps85
  go_wp2_with fail
  rw[hDx.out];refine(pq.out _).mono ?_;rintro e w' ⟨rfl,rfl⟩;go_wp2_with fail
  go_ret2
  exact⟨by rw[H.out];rfl,rfl⟩
theorem r_read (s:ByteArray) (w:World) (hs:s.size≤maxLen):
  Calls Tryz.prog 85 #[.string s] w fun e w'=>e=.returned (.tuple #[.int .i64 (read s.data.toList).1,.int .i64 (read s.data.toList).2])∧w'=w:=by
 cases h:minus s.data.toList with
 |false=>exact WC s w hs h
 |true=>exact Ta s w hs h
end Go.Proofs.YtpbgegnlkdfjgaaGreatDoor
namespace Nt.Ev.YtpbgegnlkdfjgaaGreatDoor
open Go Go.RowKit Nt Nt.Num Go.Proofs.YtpbgegnlkdfjgaaGreatDoor
def eU (s:List UInt8):Int:=(Num.read s).1
def nrW (s:List UInt8):Int:=(Num.read s).2
theorem yF (s:List UInt8):(⟨s.toArray⟩:ByteArray).size=s.length:=by simp[ByteArray.size]
theorem wW {s:List UInt8} (h:s.length≤1000):(⟨s.toArray⟩:ByteArray).size≤maxLen:=by rw[yF];unfold maxLen;omega
theorem MH (s:List UInt8) (h:s.length≤1000):af nE 142 [.str s] (.tup [.int .i64 (eU s),.int .i64 (nrW s)]):=by
 refine bJ fun G w vs hG hg hp=>?_
 obtain⟨x,rfl,hx⟩:=Ma hp;unfold aP at hx;subst hx;refine(n_read ⟨s.toArray⟩ w (wW h)).mono ?_;rintro e w' ⟨rfl,hb⟩;exact⟨_,rfl,hb,Bv (oF _ _) (oF _ _)⟩
theorem MI (s:List UInt8) (h:s.length≤1000):af nE 85 [.str s] (.tup [.int .i64 (eU s),.int .i64 (nrW s)]):=by
 refine bJ fun G w vs hG hg hp=>?_
 obtain⟨x,rfl,hx⟩:=Ma hp;unfold aP at hx;subst hx;refine(r_read ⟨s.toArray⟩ w (wW h)).mono ?_;rintro e w' ⟨rfl,hb⟩;exact⟨_,rfl,by rw[hb];exact Below.refl _ _,Bv (oF _ _) (oF _ _)⟩
def mV (ws:List V):Bool:=decide (ws.length≤1000)&&ws.all fun v=>match v with| .str l=>decide (l.length≤1000)|_=>false
def QW (ws:List V):List ByteArray:=ws.map fun x=>⟨(aT x).toArray⟩
def kH (s:List UInt8) (ws:List V):Int:=((Words.mt ⟨s.toArray⟩ (QW ws)).1:Int)
def mO (s:List UInt8) (ws:List V):Int:=((Words.mt ⟨s.toArray⟩ (QW ws)).2:Int)
theorem KW {ws:List V} (h:mV ws=true):ws.length≤1000∧ ∀x∈ws,∃l,x=.str l∧l.length≤1000:=by
 unfold mV at h;rw[Bool.and_eq_true,decide_eq_true_eq,List.all_eq_true] at h;refine⟨h.1,fun x hx=>?_⟩;have:=h.2 x hx
 cases x with
 |str l=>exact⟨l,rfl,by simpa using this⟩
 |_=>cases this
theorem Ho (s:List UInt8) (e:Nat) (o:Option Nat) (ws:List V) (h:s.length≤1000) (hw:mV ws=true):af nE 31 [.str s,.sl e [.str] o ws] (.tup [.int .i64 (kH s ws),.int .i64 (mO s ws)]):=by
 obtain⟨h1,h2⟩:=KW hw;refine bJ fun G w vs hG hg hp=>?_
 obtain⟨x,y,rfl,hx,hy⟩:=jo hp;unfold aP at hx;subst hx;obtain⟨p,cap,rfl,hS⟩:=O5 hG hy h2;refine(w_match ⟨s.toArray⟩ p ws.length cap (QW ws) w (wW h) hS (by omega)).mono ?_;rintro e w' ⟨rfl,hb⟩;exact⟨_,rfl,hb,Bv (oF _ _) (oF _ _)⟩
theorem Hq (s:List UInt8) (e:Nat) (o:Option Nat) (ws:List V) (h:s.length≤1000) (hw:mV ws=true):af nE 22 [.str s,.sl e [.str] o ws] (.tup [.int .i64 (kH s ws),.int .i64 (mO s ws)]):=by
 obtain⟨h1,h2⟩:=KW hw;refine bJ fun G w vs hG hg hp=>?_
 obtain⟨x,y,rfl,hx,hy⟩:=jo hp;unfold aP at hx;subst hx;obtain⟨p,cap,rfl,hS⟩:=O5 hG hy h2;refine(r_match ⟨s.toArray⟩ p ws.length cap (QW ws) w (wW h) hS (by omega)).mono ?_;rintro e w' ⟨rfl,hb⟩;exact⟨_,rfl,SY hb,Bv (oF _ _) (oF _ _)⟩
def wo (s:List UInt8) (c:Int):Int:=Lib.indexByte s c.toNat.toUInt8
theorem Zh (s:List UInt8) (c:Int):af nE 43 [.str s,.int .u8 c] (.int .i64 (wo s c)):=by
 refine bJ fun G w vs hG hg hp=>?_
 obtain⟨x,y,rfl,hx,hy⟩:=jo hp;unfold aP at hx hy;subst hx;subst hy;refine(Go.Proofs.Tryz.strings_IndexByte ⟨s.toArray⟩ c w).mono ?_;rintro e w' ⟨rfl,rfl⟩;exact⟨_,rfl,Below.refl _ _,r9 _ _⟩
end Nt.Ev.YtpbgegnlkdfjgaaGreatDoor
