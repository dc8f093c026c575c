/-
  words.begins, words.Same and the reference's own: each tells what the plain law says.
-/
import Derived.Test.YtknhlobahpgkeaaGreatDoorMC
import Derived.Test.YtknhlobahpgkeaaGreatDoorMS
import Derived.Laws.IdiomStrings
set_option linter.all false
namespace Go.Proofs.YtknhlobahpgkeaaGreatDoor
open Go.RowKit Nt Nt.Words
set_option maxHeartbeats 400000 in
theorem Ik (a s : ByteArray) (w : World) (ha : a.size ≤ maxLen) (hs : s.size ≤ maxLen) :
    Calls Tryz.prog 76 #[.string a, .string s] w fun e w' => e = .returned (.bool (begins a s)) ∧ ∃ n, w' = w.drewN n := by
  unfold maxLen at ha hs
  by_cases hlt : a.size < s.size
  · have H := Lib.hid (Sf a s hlt)
    go_enter Tryz.func76, Tryz.ntmps76
    go_wp2
    go_ret
    exact ⟨vX H.out.symm, 0, rfl⟩
  · go_enter Tryz.func76, Tryz.ntmps76
    go_wp2
    go_loopw [15] (fun i wr => ∃ k : Nat, k ≤ s.size ∧ i = .int .i64 k ∧ Hid (∀ i, i < k → alike (at_ a i) (at_ s i) = true) ∧ ∃ n, wr = w.drewN n) (fun i _ => s.size - (intOf i).toNat)
    case atStart => exact ⟨0, by omega, rfl, fun i hi => by omega, 0, rfl⟩
    case round =>
      obtain ⟨k, hk, rfl, hall, nn, rfl⟩ := hrel
      by_cases hks : k < s.size
      · have hka : k < a.size := by omega
        have E : Hid (alike (at_ a k) (at_ s k) = G4 a[k].toNat s[k].toNat) := by rw [Na a k hka, Na s k hks]; exact alike_eq _ _
        have B := Lib.hid (LF a[k])
        have C := Lib.hid (LF s[k])
        go_wp2
        go_quiet (fail)
        go_wp2
        all_goals
          have e := E.out
          simp only [B.out, C.out, acM, ne_eq, bne_eq_false_iff_eq] at *
          clear E B C
          first
          | (have ht : alike (at_ a k) (at_ s k) = true := by rw [e]; simp [G4]; omega
             refine ⟨⟨k + 1, by omega, by go_num, ?_, ?_⟩, by simp [intOf]; omega⟩
             · intro i hi
               by_cases h : i = k
               · rw [h]; exact ht
               · exact hall.out i (by omega)
             · exact ⟨_, rfl⟩)
          | (have ht : alike (at_ a k) (at_ s k) = false := by rw [e]; simp [G4]; omega
             go_ret
             exact ⟨vX (ZI a s k hks ht).symm, _, rfl⟩)
      · go_wp2
        go_ret
        exact ⟨vX (Vb a s (by omega) (fun i hi => hall.out i (by omega))).symm, _, rfl⟩
theorem CS (a b:ByteArray) (w:World) (g:a.size≤maxLen) (i:b.size≤maxLen):
  Calls Tryz.prog 75 #[.string a,.string b] w fun e w'=>e=.returned (.bool (same a b))∧ ∃n,w'=w.drewN n:=by
 have f:=g;have c:=i;unfold maxLen at g i;by_cases h:a.size=b.size
 ·have d:((a.size:Int)==(b.size:Int))=true:=by simp[h]
  have H:=Lib.hid (show same a b=begins a b by unfold same;simp[h]);have j:=Lib.hid h;clear h;go_enter Tryz.func75,Tryz.ntmps75;go_wp2_with (go_at_call 76;refine(Ik _ _ _ f c).mono ?_;rintro e w' ⟨rfl,n,rfl⟩)
  go_ret
  exact⟨vX H.out.symm,_,rfl⟩
 have d:((a.size:Int)==(b.size:Int))=false:=by simp;omega
 have H:=Lib.hid (show same a b=false by unfold same;simp[h]);go_enter Tryz.func75,Tryz.ntmps75;go_wp2_with fail
 go_ret
 exact⟨vX H.out.symm,0,rfl⟩
theorem info_int:(Tryz.prog.info? 3).map (fun i=>(i.zero,i.size,i.bytes))=some (some (.int .i64 0),1,8):=by kernel_rfl
def iv (i:Nat):Value:=.int .i64 (i:Int)
set_option maxRecDepth 100000 in
set_option maxHeartbeats 1000000 in
theorem w_match (s:ByteArray) (p:Option Addr) (len cap:Nat) (ws:List ByteArray) (w:World) (hs:s.size≤maxLen) (hS:Strs w p len ws) (hlen:len≤8796093022208):
  Calls Tryz.prog 46 #[.string s,.slice p len cap] w fun e w'=>e=.returned (.tuple #[.int .i64 ↑(mt s ws).1,.int .i64 ↑(mt s ws).2])∧Below w.heap.size w w':=by
 have hs':=hs;unfold maxLen at hs;obtain⟨hl1,hl2⟩:ws.length≤len∧len≤ws.length:=by have:=hS.1;omega
 by_cases h0:s.size=0
 ·have h1:=wJ s h0
  have H:=Lib.hid (mt_nil s ws h0);clear h0;go_enter Tryz.func46,Tryz.ntmps46;go_wp2_with fail
  go_ret2
  exact⟨by rw[H.out];rfl,Below.refl _ _⟩
 have h1:=zR s h0;have h0':=Lib.hid h0;clear h0;go_enter Tryz.func46,Tryz.ntmps46;go_wp2_with fail
 go_loopw [6,15] (fun v i wr=>∃k:Nat,k≤len∧i=.int .i64 k∧wr.ownsRow w.heap.size 3 1 v (found s ws k).length ((found s ws k).map iv)∧Below w.heap.size w wr∧Hid (∀i,i<k→same (vk ws i) s=false)) (fun _ i _=>len-(intOf i).toNat)
 case atStart=>exact⟨0,JS _,rfl,World.ownsRow_nil _ _ _ _,Below.refl _ _,fun i hi=>by omega⟩
 case round=>
  obtain⟨k,hk,rfl,hown,hB,hno⟩:=hrel;by_cases hlt:k<len
  ·obtain⟨b,off,rfl,hb,hc⟩:=(hS.below hB).2.2 (by omega)
   obtain⟨x,hx⟩: ∃x,x=vk ws k:=⟨_,rfl⟩
   have hck:wr.cell? ⟨b,off+k,none⟩=some (.string x):=by rw[hx];exact hc k hlt
   have hxs:x.size≤maxLen:=by rw[hx];exact hS.mem hlt
   have HX:=Lib.hid hx;clear hx hc;by_cases hsame:same x s=true
   ·have hr:=Lib.hid (mt_hit s ws k h0'.out (by omega) (by rw[←HX.out];exact hsame) hno.out)
    go_wp2_with (go_at_call 75;refine(CS _ _ _ hxs hs').mono ?_;rintro e w' ⟨rfl,n,rfl⟩)
    go_ret2
    exact⟨by rw[hr.out];rfl,Nt.below_drewN hB _⟩
   have hsame:same x s=false:=by simpa using hsame
   have hno':Hid (∀i,i<k+1→same (vk ws i) s=false):=fun i hi=>by
    by_cases h:i=k
    ·rw[h,←HX.out];exact hsame
    exact hno.out i (by omega)
   have hfl:=Qz s ws k;by_cases hbeg:begins x s=true
   ·have hf:=Lib.hid (ZJ s ws k (by rw[←HX.out];exact hbeg))
    go_wp2_with (first
     |(go_at_call 75;refine(CS _ _ _ hxs hs').mono ?_;rintro e w' ⟨rfl,n,rfl⟩)
     |(go_at_call 76;refine(Ik _ _ _ hxs hs').mono ?_;rintro e w' ⟨rfl,n,rfl⟩)
     |(at_builtin;refine append1 rfl _ _ 29 rfl w.heap.size 3 (.int .i64 0) 8 Tryz.underlying29 info_int rfl _ (found s ws k).length ((found s ws k).map iv) _ (iv k) 3 rfl ?c1 rfl rfl ?c2 (by decide) ?c3 ?_))
    case c1=>exact yB hown _
    case c2=>omega
    case c3=>have:=hB.size;simp;omega
    intro v' w' hown' hB';have hown2:w'.ownsRow w.heap.size 3 1 v' (found s ws (k+1)).length ((found s ws (k+1)).map iv):=by rw[hf.out];simpa using hown'
    have hB2:Below w.heap.size w w':=(Nt.below_drewN hB _).trans hB';clear hown hown' hB hB' hf;go_wp2_with fail;go_roundw
    case rel=>exact⟨k+1,by omega,by go_num,hown2,hB2,hno'⟩
    case measure=>simp[intOf];omega
   have hbeg:begins x s=false:=by simpa using hbeg
   have hf:=Lib.hid (found_no s ws k (by rw[←HX.out];exact hbeg));go_wp2_with (first
    |(go_at_call 75;refine(CS _ _ _ hxs hs').mono ?_;rintro e w' ⟨rfl,n,rfl⟩)
    |(go_at_call 76;refine(Ik _ _ _ hxs hs').mono ?_;rintro e w' ⟨rfl,n,rfl⟩))
   go_roundw
   case rel=>exact⟨k+1,by omega,by go_num,by rw[hf.out];exact yB hown _,Nt.below_drewN hB _,hno'⟩
   case measure=>simp[intOf];omega
  obtain rfl:k=len:=by omega
  have hlw:Hid (ws.length=k):=hS.1;have TP:Hid (∀i,i<ws.length→same (vk ws i) s=false):=fun i hi=>hno.out i (by have:=hlw.out;omega)
  obtain⟨fl,hfl⟩: ∃fl,fl=found s ws k:=⟨_,rfl⟩
  have hfle:=Qz s ws k;rw[←hfl] at hown hfle;have hmem:Hid (∀i∈fl,i<k):=fun i hi=>by rw[hfl] at hi;exact Ih s ws k i hi
  have HF:Hid (found s ws ws.length=fl):=by rw[hlw.out];exact hfl.symm
  clear hfl hno hlt;obtain⟨n,hn⟩: ∃n,n=fl.length:=⟨_,rfl⟩
  rw[←hn] at hown hfle;have Hn:=Lib.hid hn;clear hn;obtain⟨pf,cf,rfl⟩:=ZD hown;go_wp2_with fail;go_loopw [36] (fun i w2=>∃j:Nat,j≤n∧i=.int .i64 j∧Hid (∃m,w2=wr.drewN m)∧Hid (∀i,i<j→same (vk ws (fl.getD i 0)) (vk ws (fl.getD 0 0))=true)) (fun i _=>n-(intOf i).toNat)
  case atStart=>exact⟨0,JS _,rfl,⟨0,rfl⟩,fun i hi=>by omega⟩
  case round=>
   obtain⟨j,hj,rfl,⟨m,rfl⟩,hall⟩:=hrel;by_cases hjn:j<n
   ·obtain⟨g,cap',e,hg,hgs,hgc⟩:=Jh hown (by omega)
    obtain⟨b,off,rfl,hb,hc⟩:=(hS.below hB).2.2 (by omega);simp only[Value.slice.injEq,jA] at e;obtain⟨rfl,rfl⟩:=e;have gm: ∀i,i<n→ ∃y,y=fl.getD i 0∧y<k∧wr.cell? ⟨g,i,none⟩=some (.int .i64 ↑y):=fun i hi=>by
     have hi':i<fl.length:=by rw[←Hn.out];exact hi
     refine⟨_,rfl,?_,?_⟩
     ·rw[mg,iZ hi']
      exact hmem.out _ (Ga _)
     have:=hgc i hi;rw[S8] at this;rw[this];simp[mg,iZ hi',iv]
    obtain⟨y,hy,hyk,cy⟩:=gm j hjn;obtain⟨z,hz,hzk,cz⟩:=gm 0 (by omega);obtain⟨xy,hxy⟩: ∃x,x=vk ws y:=⟨_,rfl⟩
    obtain⟨xz,hxz⟩: ∃x,x=vk ws z:=⟨_,rfl⟩
    have wy:wr.cell? ⟨b,off+y,none⟩=some (.string xy):=by rw[hxy];exact hc y hyk
    have wz:wr.cell? ⟨b,off+z,none⟩=some (.string xz):=by rw[hxz];exact hc z hzk
    have sy:xy.size≤maxLen:=by rw[hxy];exact hS.mem hyk
    have sz:xz.size≤maxLen:=by rw[hxz];exact hS.mem hzk
    have HY:=Lib.hid hy;have HZ:=Lib.hid hz;have HXY:=Lib.hid hxy;have HXZ:=Lib.hid hxz;clear gm hgc hc hy hz hxy hxz;by_cases hsm:same xy xz=true
    ·go_wp2_with fail
     go_quiet ((go_at_call 75;exact quiet2 (CS _ _ _ sy sz)))
     go_wp2_with fail
     go_roundw
     case rel=>
      refine⟨j+1,by omega,by go_num,⟨_,rfl⟩,fun i hi=>?_⟩;by_cases h:i=j
      ·rw[h,←HY.out,←HZ.out,←HXY.out,←HXZ.out];exact hsm
      exact hall.out i (by omega)
     case measure=>simp[intOf];omega
    have hsm:same xy xz=false:=by simpa using hsm
    have H:=Lib.hid (mt_bad s ws h0'.out TP.out j (by rw[HF.out,←Hn.out];exact hjn) (by rw[HF.out,←HY.out,←HZ.out,←HXY.out,←HXZ.out];exact hsm));go_wp2_with fail;go_quiet ((go_at_call 75;exact quiet2 (CS _ _ _ sy sz)))
    go_wp2_with fail
    go_ret2
    exact⟨by rw[H.out];rfl,Nt.below_drewN (Nt.below_drewN hB _) _⟩
   obtain rfl:j=n:=by omega
   by_cases hn0:0<j
   ·obtain⟨g,cap',e,hg,hgs,hgc⟩:=Jh hown hn0
    simp only[Value.slice.injEq,jA] at e;obtain⟨rfl,rfl⟩:=e;have H:=Lib.hid (mt_ok s ws h0'.out TP.out (by rw[HF.out,←Hn.out];exact hn0) (by rw[HF.out,←Hn.out];exact hall.out));obtain⟨y,hy⟩: ∃y,y=fl.getD 0 0:=⟨_,rfl⟩
    have cz:wr.cell? ⟨g,0,none⟩=some (.int .i64 ↑y):=by
     have:=hgc 0 hn0;rw[S8] at this;rw[this,hy];have hi':0<fl.length:=by rw[←Hn.out];exact hn0
     simp[mg,iZ hi',iv]
    have HY:=Lib.hid hy;have hj0:((j:Int)==0)=false:=by simp;omega
    clear hy hgc;go_wp2_with fail;go_ret2
    exact⟨by rw[H.out,HF.out,←HY.out];rfl,Nt.below_drewN hB _⟩
   obtain rfl:j=0:=by omega
   have H:=Lib.hid (mt_empty s ws h0'.out TP.out (by rw[HF.out,←Hn.out]));go_wp2_with fail;go_ret2
   exact⟨by rw[H.out];rfl,Nt.below_drewN hB _⟩
open Nt.Num
set_option maxHeartbeats 400000 in
theorem n_add (a b:Int) (w:World) (ha:Fits a) (hb:Fits b):
  Calls Tryz.prog 179 #[.int .i64 a,.int .i64 b] w fun e w'=>e=.returned (.tuple #[.int .i64 (told (a+b)).1,.int .i64 (told (a+b)).2])∧w'=w:=by
 obtain⟨a1,a2⟩:=ha;obtain⟨b1,b2⟩:=hb;by_cases hf:Fits (a+b)
 ·have H:=Lib.hid (jw hf)
  obtain⟨f1,f2⟩:=hf;by_cases sa:a<0<;>by_cases sb:b<0
  ·have d:decide (a+b<0)=true:=u6 (by omega)
   go_enter Tryz.func179,Tryz.ntmps179
   go_wp2
   go_ret2
   exact⟨by rw[H.out];rfl,rfl⟩
  ·have d:decide (b<0)=false:=uZ sb
   go_enter Tryz.func179,Tryz.ntmps179
   go_wp2
   go_ret2
   exact⟨by rw[H.out];rfl,rfl⟩
  ·have d:decide (a<0)=false:=uZ sa
   go_enter Tryz.func179,Tryz.ntmps179
   go_wp2
   go_ret2
   exact⟨by rw[H.out];rfl,rfl⟩
  have d1:decide (a<0)=false:=uZ sa;have d2:decide (b<0)=false:=uZ sb;have d:decide (a+b<0)=false:=uZ (by omega);go_enter Tryz.func179,Tryz.ntmps179;go_wp2
  go_ret2
  exact⟨by rw[H.out];rfl,rfl⟩
 have H:=Lib.hid (kY hf);by_cases sa:a<0
 ·have hw:0≤wrap64 (a+b):=U9 (by unfold Fits at hf;omega) (by omega)
  have d:decide (wrap64 (a+b)<0)=false:=uZ (by omega);have sb:b<0:=by unfold Fits at hf;omega
  clear hf;go_enter Tryz.func179,Tryz.ntmps179;go_wp2
  go_ret2
  exact⟨by rw[H.out];rfl,rfl⟩
 have hw:wrap64 (a+b)<0:=ZE (by unfold Fits at hf;omega) (by omega);have d:decide (wrap64 (a+b)<0)=true:=u6 hw;have sb:0≤b:=by unfold Fits at hf;omega
 have d1:decide (a<0)=false:=uZ sa;have d2:decide (b<0)=false:=uZ (by omega);clear hf;go_enter Tryz.func179,Tryz.ntmps179;go_wp2
 go_ret2
 exact⟨by rw[H.out];rfl,rfl⟩
set_option maxHeartbeats 400000 in
theorem jb (n:Int) (w:World) (ha:Fits n):
  Calls Tryz.prog 80 #[.int .i64 n] w fun e w'=>e=.returned (.int .u64 (n.natAbs:Int))∧w'=w:=by
 obtain⟨a1,a2⟩:=ha;by_cases s:n<0
 ·have h:IntKind.u64.wrap n=n+18446744073709551616:=by rw[IntKind.wrap_u64];omega
  have h2:IntKind.u64.wrap (-(n+18446744073709551616))= -n:=by rw[IntKind.wrap_u64];omega
  go_enter Tryz.func80,Tryz.ntmps80
  go_wp2
  go_ret
  exact⟨Xa (by omega),rfl⟩
 go_enter Tryz.func80,Tryz.ntmps80
 go_wp2
 go_ret
 exact⟨Xa (by omega),rfl⟩
set_option maxHeartbeats 400000 in
theorem n_div (a b : Int) (w : World) (ha : Fits a) (hb : Fits b) :
    Calls Tryz.prog 187 #[.int .i64 a, .int .i64 b] w fun e w' => e = .returned (.tuple #[.int .i64 (MK a b).1, .int .i64 (MK a b).2.1, .int .i64 (MK a b).2.2]) ∧ ∃ n, w' = w.drewN n := by
  obtain ⟨a1, a2⟩ := ha
  obtain ⟨b1, b2⟩ := hb
  by_cases h0 : b = 0
  · subst h0
    go_enter Tryz.func187, Tryz.ntmps187
    go_wp2
    go_ret3
    exact ⟨rfl, 0, rfl⟩
  · have k0 : (b == 0) = false := by simp [h0]
    by_cases hm : a = -9223372036854775808 ∧ b = -1
    · obtain ⟨rfl, rfl⟩ := hm
      go_enter Tryz.func187, Tryz.ntmps187
      go_wp2
      go_ret3
      exact ⟨rfl, 0, rfl⟩
    · obtain ⟨q1, q2, r1, r2⟩ := U8 a b ⟨a1, a2⟩ ⟨b1, b2⟩ h0 hm
      have H := Lib.hid (LG a b h0 hm)
      have X := Lib.hid (xor_neg (a.tmod b) b (by unfold Fits; omega) ⟨b1, b2⟩)
      have hlt := NK a b h0
      have hab : (a == -9223372036854775808) = false ∨ ((a == -9223372036854775808) = true ∧ (b == -1) = false) := by simp only [uE, iM]; omega
      have hq : a.tdiv b - 1 < -9223372036854775808 → a.tmod b = 0 := fun h => by
        have e : a.tdiv b = -9223372036854775808 := by omega
        have h1 := Int.mul_tdiv_add_tmod a b
        have h2 := Qx a b
        have ha' : a = -9223372036854775808 := by
          have := acQ a b
          omega
        have h3 : (a.tdiv b).natAbs = a.natAbs / b.natAbs := acQ a b
        have hb1 : b.natAbs = 1 := by
          by_cases h4 : b.natAbs = 1
          · exact h4
          · have : a.natAbs / b.natAbs ≤ a.natAbs / 2 := Nat.div_le_div_left (by omega) (by omega)
            omega
        omega
      clear hm h0
      by_cases hr0 : a.tmod b = 0
      · have kr : (a.tmod b != 0) = false := by simp [hr0]
        have H2 := Lib.hid (show MK a b = (a.tdiv b, a.tmod b, 0) by rw [H.out, if_neg (by simp [hr0])])
        clear hr0 H X hq
        rcases hab with ka | ⟨ka, kb⟩
        all_goals
          go_enter Tryz.func187, Tryz.ntmps187
          go_wp2
          go_quiet (fail)
          go_wp2
          go_ret3
          exact ⟨by rw [H2.out]; rfl, _, rfl⟩
      · have kr : (a.tmod b != 0) = true := by simp [hr0]
        have q3 : -9223372036854775808 ≤ a.tdiv b - 1 := by
          by_cases h : a.tdiv b - 1 < -9223372036854775808
          · exact absurd (hq h) hr0
          · omega
        by_cases hs : a.tmod b < 0 ↔ b < 0
        · have H2 := Lib.hid (show MK a b = (a.tdiv b, a.tmod b, 0) by rw [H.out, if_neg (by simp [hs])])
          have d1 : decide (bits .xor .i64 (a.tmod b) b < 0) = false := uZ (by rw [X.out]; simp [hs])
          have d2 : (!decide (a.tmod b < 0) == decide (b < 0)) = false := by by_cases h2 : b < 0 <;> simp [hs, h2]
          clear hr0 H X hq hs
          rcases hab with ka | ⟨ka, kb⟩
          all_goals
            go_enter Tryz.func187, Tryz.ntmps187
            go_wp2
            go_quiet (fail)
            go_wp2
            go_ret3
            exact ⟨by rw [H2.out]; rfl, _, rfl⟩
        · have H2 := Lib.hid (show MK a b = (a.tdiv b - 1, a.tmod b + b, 0) by rw [H.out, if_pos ⟨hr0, hs⟩])
          have d1 : decide (bits .xor .i64 (a.tmod b) b < 0) = true := u6 (by rw [X.out]; exact hs)
          have d2 : (!decide (a.tmod b < 0) == decide (b < 0)) = true := by
            by_cases h1 : a.tmod b < 0 <;> by_cases h2 : b < 0 <;> simp_all
          have r3 : -9223372036854775808 ≤ a.tmod b + b := by omega
          have r4 : a.tmod b + b ≤ 9223372036854775807 := by omega
          clear hr0 H X hq hs
          rcases hab with ka | ⟨ka, kb⟩
          all_goals
            go_enter Tryz.func187, Tryz.ntmps187
            go_wp2
            go_quiet (fail)
            go_wp2
            go_ret3
            exact ⟨by rw [H2.out]; rfl, _, rfl⟩
theorem n_mul64 (x y b a:Nat) (f:x*y/18446744073709551616=b) (c:x*y%18446744073709551616=a) (g:x<18446744073709551616) (d:y<18446744073709551616) (w:World):
  Calls Tryz.prog 200 #[.int .u64 x,.int .u64 y] w fun e w'=>e=.returned (.tuple #[.int .u64 (b:Int),.int .u64 (a:Int)])∧w'=w:=by
 have:=Tryz.bits_Mul64 x y g d w;rw[f,c] at this;exact this
set_option maxHeartbeats 1000000 in
theorem n_mul (a b:Int) (w:World) (ha:Fits a) (hb:Fits b):
  Calls Tryz.prog 178 #[.int .i64 a,.int .i64 b] w fun e w'=>e=.returned (.tuple #[.int .i64 (told (a*b)).1,.int .i64 (told (a*b)).2])∧w'=w:=by
 have ha':=ha;have hb':=hb;obtain⟨a1,a2⟩:=ha;obtain⟨b1,b2⟩:=hb;obtain⟨hi,h1⟩: ∃hi,a.natAbs*b.natAbs/18446744073709551616=hi:=⟨_,rfl⟩
 obtain⟨lo,h2⟩: ∃lo,a.natAbs*b.natAbs%18446744073709551616=lo:=⟨_,rfl⟩
 have hlo:lo<18446744073709551616:=by omega
 have C:=n_mul64 a.natAbs b.natAbs hi lo h1 h2 (by omega) (by omega);have hB:=ZF a b;have hA:=ZG a b;have hp:a.natAbs*b.natAbs=hi*18446744073709551616+lo:=by omega
 rw[hp] at hA hB;have HC:Hid (∀w,Calls Tryz.prog 200 #[.int .u64 a.natAbs,.int .u64 b.natAbs] w fun e w'=>e=.returned (.tuple #[.int .u64 (hi:Int),.int .u64 (lo:Int)])∧w'=w):=C;clear h1 h2 hp C;by_cases h0:0<hi
 ·have H:=Lib.hid (kY (n:=a*b) (by
   unfold Fits;by_cases hs:a<0↔b<0
   ·rw[hA hs];omega
   rw[hB hs];omega))
  clear hA hB;go_enter Tryz.func178,Tryz.ntmps178;go_wp2_with fail
  refine(jb a _ ha').mono ?_;rintro e w' ⟨rfl,rfl⟩;go_wp2_with fail;refine(jb b _ hb').mono ?_;rintro e w' ⟨rfl,rfl⟩;go_wp2_with fail;refine(HC.out _).mono ?_;rintro e w' ⟨rfl,rfl⟩;go_wp2_with fail;go_ret2
  exact⟨by rw[H.out];rfl,rfl⟩
 obtain rfl:hi=0:=by omega
 clear h0;simp only[acR,S8] at hA hB;have d64:IntKind.u64.wrap (-(lo:Int))=((18446744073709551616-lo)%18446744073709551616:Nat):=by rw[IntKind.wrap_u64];omega
 obtain⟨m,hm⟩: ∃m,(18446744073709551616-lo)%18446744073709551616=m:=⟨_,rfl⟩
 rw[hm] at d64;have hmb:m<18446744073709551616:=by omega
 have m64:lo≤9223372036854775808→IntKind.i64.wrap (m:Int)= -(lo:Int):=fun h=>by rw[IntKind.wrap_i64];omega
 have M64:Hid (lo≤9223372036854775808→IntKind.i64.wrap (m:Int)= -(lo:Int)∧wrap64 (m:Int)= -(lo:Int)):=fun h=>⟨m64 h,by have:=m64 h;rw[IntKind.wrap_i64] at this;unfold wrap64;exact this⟩
 clear hm m64;by_cases sa:a<0<;>by_cases sb:b<0
 ·have da:decide (a<0)=true:=u6 sa
  have db:decide (b<0)=true:=u6 sb;have hP:=hA (by omega);clear hA hB;by_cases hl:9223372036854775808<lo
  ·have H:=Lib.hid (kY (n:=a*b) (by unfold Fits;rw[hP];omega))
   clear hP;have dl:decide (9223372036854775808<(lo:Int))=true:=u6 (by omega);go_enter Tryz.func178,Tryz.ntmps178;go_wp2_with fail
   refine(jb a _ ha').mono ?_;rintro e w' ⟨rfl,rfl⟩;go_wp2_with fail;refine(jb b _ hb').mono ?_;rintro e w' ⟨rfl,rfl⟩;go_wp2_with fail;refine(HC.out _).mono ?_;rintro e w' ⟨rfl,rfl⟩;go_wp2_with fail;go_ret2
   exact⟨by rw[H.out];rfl,rfl⟩
  have dl:decide (9223372036854775808<(lo:Int))=false:=uZ (by omega);by_cases he:lo=9223372036854775808
  ·have H:=Lib.hid (kY (n:=a*b) (by unfold Fits;rw[hP];omega))
   have dk:((lo:Int)==9223372036854775808)=true:=by simp;omega
   clear he hP;go_enter Tryz.func178,Tryz.ntmps178;go_wp2_with fail
   refine(jb a _ ha').mono ?_;rintro e w' ⟨rfl,rfl⟩;go_wp2_with fail;refine(jb b _ hb').mono ?_;rintro e w' ⟨rfl,rfl⟩;go_wp2_with fail;refine(HC.out _).mono ?_;rintro e w' ⟨rfl,rfl⟩;go_wp2_with fail;go_ret2
   exact⟨by rw[H.out];rfl,rfl⟩
  have H:=Lib.hid (jw (n:=a*b) (by unfold Fits;rw[hP];omega));rw[hP] at H;have hq:=Lib.hid hP;have dk:((lo:Int)==9223372036854775808)=false:=by simp;omega
  have m1:lo≤9223372036854775807:=by omega
  clear he hP;go_enter Tryz.func178,Tryz.ntmps178;go_wp2_with fail
  refine(jb a _ ha').mono ?_;rintro e w' ⟨rfl,rfl⟩;go_wp2_with fail;refine(jb b _ hb').mono ?_;rintro e w' ⟨rfl,rfl⟩;go_wp2_with fail;refine(HC.out _).mono ?_;rintro e w' ⟨rfl,rfl⟩;go_wp2_with fail;go_ret2
  exact⟨by rw[hq.out,H.out];rfl,rfl⟩
 ·have da:decide (a<0)=true:=u6 sa
  have db:decide (b<0)=false:=uZ sb;have hP:=hB (by omega);clear hA hB;by_cases hl:9223372036854775808<lo
  ·have H:=Lib.hid (kY (n:=a*b) (by unfold Fits;rw[hP];omega))
   clear hP;have dl:decide (9223372036854775808<(lo:Int))=true:=u6 (by omega);go_enter Tryz.func178,Tryz.ntmps178;go_wp2_with fail
   refine(jb a _ ha').mono ?_;rintro e w' ⟨rfl,rfl⟩;go_wp2_with fail;refine(jb b _ hb').mono ?_;rintro e w' ⟨rfl,rfl⟩;go_wp2_with fail;refine(HC.out _).mono ?_;rintro e w' ⟨rfl,rfl⟩;go_wp2_with fail;go_ret2
   exact⟨by rw[H.out];rfl,rfl⟩
  have H:=Lib.hid (jw (n:=a*b) (by unfold Fits;rw[hP];omega));rw[hP] at H;have hq:=Lib.hid hP;obtain⟨m1,m2⟩:=M64.out (by omega);clear hP;have dl:decide (9223372036854775808<(lo:Int))=false:=uZ (by omega);by_cases he:lo=9223372036854775808
  ·have dk:((lo:Int)==9223372036854775808)=true:=by simp;omega
   clear he;go_enter Tryz.func178,Tryz.ntmps178;go_wp2_with fail
   refine(jb a _ ha').mono ?_;rintro e w' ⟨rfl,rfl⟩;go_wp2_with fail;refine(jb b _ hb').mono ?_;rintro e w' ⟨rfl,rfl⟩;go_wp2_with fail;refine(HC.out _).mono ?_;rintro e w' ⟨rfl,rfl⟩;go_wp2_with fail;go_ret2
   exact⟨by rw[hq.out,H.out];rfl,rfl⟩
  have dk:((lo:Int)==9223372036854775808)=false:=by simp;omega
  go_enter Tryz.func178,Tryz.ntmps178
  go_wp2_with fail
  refine(jb a _ ha').mono ?_;rintro e w' ⟨rfl,rfl⟩;go_wp2_with fail;refine(jb b _ hb').mono ?_;rintro e w' ⟨rfl,rfl⟩;go_wp2_with fail;refine(HC.out _).mono ?_;rintro e w' ⟨rfl,rfl⟩;go_wp2_with fail;go_ret2
  exact⟨by rw[hq.out,H.out];rfl,rfl⟩
 ·have da:decide (a<0)=false:=uZ sa
  have db:decide (b<0)=true:=u6 sb;have hP:=hB (by omega);clear hA hB;by_cases hl:9223372036854775808<lo
  ·have H:=Lib.hid (kY (n:=a*b) (by unfold Fits;rw[hP];omega))
   clear hP;have dl:decide (9223372036854775808<(lo:Int))=true:=u6 (by omega);go_enter Tryz.func178,Tryz.ntmps178;go_wp2_with fail
   refine(jb a _ ha').mono ?_;rintro e w' ⟨rfl,rfl⟩;go_wp2_with fail;refine(jb b _ hb').mono ?_;rintro e w' ⟨rfl,rfl⟩;go_wp2_with fail;refine(HC.out _).mono ?_;rintro e w' ⟨rfl,rfl⟩;go_wp2_with fail;go_ret2
   exact⟨by rw[H.out];rfl,rfl⟩
  have H:=Lib.hid (jw (n:=a*b) (by unfold Fits;rw[hP];omega));rw[hP] at H;have hq:=Lib.hid hP;obtain⟨m1,m2⟩:=M64.out (by omega);clear hP;have dl:decide (9223372036854775808<(lo:Int))=false:=uZ (by omega);by_cases he:lo=9223372036854775808
  ·have dk:((lo:Int)==9223372036854775808)=true:=by simp;omega
   clear he;go_enter Tryz.func178,Tryz.ntmps178;go_wp2_with fail
   refine(jb a _ ha').mono ?_;rintro e w' ⟨rfl,rfl⟩;go_wp2_with fail;refine(jb b _ hb').mono ?_;rintro e w' ⟨rfl,rfl⟩;go_wp2_with fail;refine(HC.out _).mono ?_;rintro e w' ⟨rfl,rfl⟩;go_wp2_with fail;go_ret2
   exact⟨by rw[hq.out,H.out];rfl,rfl⟩
  have dk:((lo:Int)==9223372036854775808)=false:=by simp;omega
  go_enter Tryz.func178,Tryz.ntmps178
  go_wp2_with fail
  refine(jb a _ ha').mono ?_;rintro e w' ⟨rfl,rfl⟩;go_wp2_with fail;refine(jb b _ hb').mono ?_;rintro e w' ⟨rfl,rfl⟩;go_wp2_with fail;refine(HC.out _).mono ?_;rintro e w' ⟨rfl,rfl⟩;go_wp2_with fail;go_ret2
  exact⟨by rw[hq.out,H.out];rfl,rfl⟩
 have da:decide (a<0)=false:=uZ sa;have db:decide (b<0)=false:=uZ sb;have hP:=hA (by omega);clear hA hB;by_cases hl:9223372036854775808<lo
 ·have H:=Lib.hid (kY (n:=a*b) (by unfold Fits;rw[hP];omega))
  clear hP;have dl:decide (9223372036854775808<(lo:Int))=true:=u6 (by omega);go_enter Tryz.func178,Tryz.ntmps178;go_wp2_with fail
  refine(jb a _ ha').mono ?_;rintro e w' ⟨rfl,rfl⟩;go_wp2_with fail;refine(jb b _ hb').mono ?_;rintro e w' ⟨rfl,rfl⟩;go_wp2_with fail;refine(HC.out _).mono ?_;rintro e w' ⟨rfl,rfl⟩;go_wp2_with fail;go_ret2
  exact⟨by rw[H.out];rfl,rfl⟩
 have dl:decide (9223372036854775808<(lo:Int))=false:=uZ (by omega);by_cases he:lo=9223372036854775808
 ·have H:=Lib.hid (kY (n:=a*b) (by unfold Fits;rw[hP];omega))
  have dk:((lo:Int)==9223372036854775808)=true:=by simp;omega
  clear he hP;go_enter Tryz.func178,Tryz.ntmps178;go_wp2_with fail
  refine(jb a _ ha').mono ?_;rintro e w' ⟨rfl,rfl⟩;go_wp2_with fail;refine(jb b _ hb').mono ?_;rintro e w' ⟨rfl,rfl⟩;go_wp2_with fail;refine(HC.out _).mono ?_;rintro e w' ⟨rfl,rfl⟩;go_wp2_with fail;go_ret2
  exact⟨by rw[H.out];rfl,rfl⟩
 have H:=Lib.hid (jw (n:=a*b) (by unfold Fits;rw[hP];omega));rw[hP] at H;have hq:=Lib.hid hP;have dk:((lo:Int)==9223372036854775808)=false:=by simp;omega
 have m1:lo≤9223372036854775807:=by omega
 clear he hP;go_enter Tryz.func178,Tryz.ntmps178;go_wp2_with fail
 refine(jb a _ ha').mono ?_;rintro e w' ⟨rfl,rfl⟩;go_wp2_with fail;refine(jb b _ hb').mono ?_;rintro e w' ⟨rfl,rfl⟩;go_wp2_with fail;refine(HC.out _).mono ?_;rintro e w' ⟨rfl,rfl⟩;go_wp2_with fail;go_ret2
 exact⟨by rw[hq.out,H.out];rfl,rfl⟩
theorem Fq (l:af):Lib.hasPrefix l [45]=minus l:=by
 unfold Lib.hasPrefix minus
 cases l with
 |nil=>rfl
 |cons c l=>simp only[List.isPrefixOf,ac4];rw[uF,iM,iM];exact⟨Eq.symm,Eq.symm⟩
theorem SA (s:ByteArray) (w:World):
  Calls Tryz.prog 150 #[.string s,.string ⟨#[45]⟩] w fun e w'=>e=.returned (.tuple #[.string (bs (bare s.data.toList)),.bool (minus s.data.toList)])∧w'=w:=by
 have:=Tryz.strings_CutPrefix s ⟨#[45]⟩ w;have a:Lib.hasPrefix s.data.toList [45]=minus s.data.toList:=Fq _;have b:Lib.trimPrefix s.data.toList [45]=bare s.data.toList:=by unfold Lib.trimPrefix bare;rw[a];rfl
 rw[show(⟨#[45]⟩:ByteArray).data.toList=[45] from rfl,a,b] at this;exact this
theorem n_trim (s:ByteArray) (w:World) (a:s.size≤maxLen):
  Calls Tryz.prog 102 #[.string s,.string ⟨#[48,49,50,51,52,53,54,55,56,57]⟩] w fun e w'=>e=.returned (.string (bs (Lib.trimS s.data.toList [48,49,50,51,52,53,54,55,56,57])))∧Below w.heap.size w w':=
 Tryz.Ce s ⟨#[48,49,50,51,52,53,54,55,56,57]⟩ w (by unfold maxLen at a;omega) (by decide) (ascii_of_all (by decide))
theorem QC (l:af):(bare l).length≤l.length:=by unfold bare;split<;>simp
set_option maxRecDepth 100000 in
set_option maxHeartbeats 1000000 in
theorem n_cut (s:ByteArray) (w:World) (hs:s.size≤maxLen):
  Calls Tryz.prog 177 #[.string s] w fun e w'=>e=.returned (.tuple #[.bool (minus s.data.toList),.string (bs (bare s.data.toList)),.bool (good s.data.toList)])∧Below w.heap.size w w':=by
 have hgood:good s.data.toList=((bare s.data.toList).all isDigit&& !(bare s.data.toList).isEmpty&&(!((bare s.data.toList).getD 0 0==48)||(decide ((bare s.data.toList).length=1)&& !minus s.data.toList))):=rfl;have hlen:(bare s.data.toList).length≤s.size:=by have:=QC s.data.toList;simpa using this
 have C:Hid (∀w,Calls Tryz.prog 150 #[.string s,.string ⟨#[45]⟩] w fun e w'=>e=.returned (.tuple #[.string (bs (bare s.data.toList)),.bool (minus s.data.toList)])∧w'=w):=SA s;generalize good s.data.toList=G at*;generalize minus s.data.toList=M at*;obtain⟨D,hD⟩: ∃D,D=bs (bare s.data.toList):=⟨_,rfl⟩
 have hDl:D.data.toList=bare s.data.toList:=by rw[hD];rfl
 rw[←hD] at C;rw[←hDl] at hgood hlen;have hDs:D.size≤s.size:=by simpa using hlen
 have hDm:D.size≤maxLen:=by omega
 have HD:=Lib.hid hD;have T:Hid (∀w,Calls Tryz.prog 102 #[.string D,.string ⟨#[48,49,50,51,52,53,54,55,56,57]⟩] w fun e w'=>e=.returned (.string (bs (Lib.trimS D.data.toList [48,49,50,51,52,53,54,55,56,57])))∧Below w.heap.size w w'):=fun w=>n_trim D w hDm
 have htr:=Se D.data.toList;have hts:(bs (Lib.trimS D.data.toList [48,49,50,51,52,53,54,55,56,57])).size=(Lib.trimS D.data.toList [48,49,50,51,52,53,54,55,56,57]).length:=wW _;obtain⟨Z,hZ⟩: ∃Z,Z=bs (Lib.trimS D.data.toList [48,49,50,51,52,53,54,55,56,57]):=⟨_,rfl⟩
 rw[←hZ] at T hts;rw[←List.length_eq_zero_iff,←hts] at htr;have HGx:=Lib.hid hgood;have htr':=Lib.hid htr;unfold maxLen at hs hDm;rw[show bs (bare s.data.toList)=D from hD.symm];clear hD hDl hlen hgood htr hts hZ;by_cases h0:D.size=0
 ·have he:=wJ D h0
  have hG:Hid (G=false):=by
   have:D.data.toList=[]:=by rw[←List.length_eq_zero_iff];simpa using h0
   rw[HGx.out,this];rfl
  clear h0;go_enter Tryz.func177,Tryz.ntmps177;go_wp2_with fail
  refine(C.out _).mono ?_;rintro e w' ⟨rfl,rfl⟩;go_wp2_with fail;go_ret3
  exact⟨by rw[hG.out];rfl,Below.refl _ _⟩
 have he:=zR D h0;have hne:D.data.toList.isEmpty=false:=by rw[←toList_eq];exact he
 have hD0:0<D.size:=by omega
 by_cases hz:Z.size=0
 ·have hze:=wJ Z hz
  have hall:=htr'.out.1 hz;have hat:(D.data.toList.getD 0 0)=D[0]:=Na D 0 hD0;by_cases h48:D[0].toNat=48
  ·have k48:((D[0].toNat:Int) != 48)=false:=by simp;omega
   have hb48:(D.data.toList.getD 0 0==48)=true:=by rw[hat,iM];exact UInt8.toNat_inj.1 h48
   by_cases h1:D.size=1
   ·have k1:((D.size:Int)==1)=true:=by simp[h1]
    have hG:=Lib.hid (show G= !M by rw[HGx.out,hall,hne,hb48];simp[h1]);clear h48 h1 hz h0 hat hb48 hall hne;go_enter Tryz.func177,Tryz.ntmps177;go_wp2_with fail
    refine(C.out _).mono ?_;rintro e w' ⟨rfl,rfl⟩;go_wp2_with fail;refine(T.out _).mono ?_;rintro e w1 ⟨rfl,hB⟩;go_wp2_with fail;go_ret3
    exact⟨by rw[hG.out];rfl,hB⟩
   have k1:((D.size:Int)==1)=false:=by simp;omega
   have hG:=Lib.hid (show G=false by rw[HGx.out,hall,hne,hb48];simp[h1]);clear h48 h1 hz h0 hat hb48 hall hne;go_enter Tryz.func177,Tryz.ntmps177;go_wp2_with fail
   refine(C.out _).mono ?_;rintro e w' ⟨rfl,rfl⟩;go_wp2_with fail;refine(T.out _).mono ?_;rintro e w1 ⟨rfl,hB⟩;go_wp2_with fail;go_ret3
   exact⟨by rw[hG.out];rfl,hB⟩
  have k48:((D[0].toNat:Int) != 48)=true:=by simp;omega
  have hb48:(D.data.toList.getD 0 0==48)=false:=by rw[hat,uE];exact fun e=>h48 (by rw[e];rfl)
  have hG:Hid (G=true):=by rw[HGx.out,hall,hne,hb48];rfl
  clear h48 hz h0 hat hb48 hall hne;go_enter Tryz.func177,Tryz.ntmps177;go_wp2_with fail
  refine(C.out _).mono ?_;rintro e w' ⟨rfl,rfl⟩;go_wp2_with fail;refine(T.out _).mono ?_;rintro e w1 ⟨rfl,hB⟩;go_wp2_with fail;go_ret3
  exact⟨by rw[hG.out];rfl,hB⟩
 have hze:=zR Z hz;have hG:Hid (G=false):=by
  rw[HGx.out]
  cases ha:D.data.toList.all isDigit with
  |false=>rfl
  |true=>exact absurd (htr'.out.2 ha) hz
 clear hz h0 hne;go_enter Tryz.func177,Tryz.ntmps177;go_wp2_with fail
 refine(C.out _).mono ?_;rintro e w' ⟨rfl,rfl⟩;go_wp2_with fail;refine(T.out _).mono ?_;rintro e w1 ⟨rfl,hB⟩;go_wp2_with fail;go_ret3
 exact⟨by rw[hG.out];rfl,hB⟩
end Go.Proofs.YtknhlobahpgkeaaGreatDoor
namespace Nt
open Go Go.RowKit
theorem ZN {P:Program} (w:World) (c a e:TypeId) (s:ByteArray) (g:P.underlying c=some .string) (f:P.underlying a=some (.slice e)) (l:P.underlying e=some (.int .u8)):
  ∃cap d,(convert c a (.string s)).run P w=.ok (.slice (some ⟨w.heap.size,0,none⟩) s.size cap) d∧Below w.heap.size w d∧w.heap.size<d.heap.size∧ ∀i (h:i<s.size),d.cell? ⟨w.heap.size,i,none⟩=some (.int .u8 (s[i].toNat:Int)):=by
 refine⟨_,_,run_bytes_of_string w c a e s g f l,(Below.refl _ _).drew.alloc (lg _) _,by simp,fun i h=>?_⟩;have j:(w.drew.alloc (.cells (bytesRow s (grownCap w s.size 0 e)) e ((bytesRow s (grownCap w s.size 0 e)).size,(bytesRow s (grownCap w s.size 0 e)).size+1))).heap[w.heap.size]? =some (.cells (bytesRow s (grownCap w s.size 0 e)) e ((bytesRow s (grownCap w s.size 0 e)).size,(bytesRow s (grownCap w s.size 0 e)).size+1)):=heap_alloc_new w.drew _;unfold World.cell?;simp only[j];unfold bytesRow;have k:i<(s.data.map fun b=>Value.int .u8 (b.toNat:Int)).size:=by simpa using h
 simp only[Option.isSome_none,JP,Cu];rw[Array.getElem?_append_left k,Array.getElem?_map,Ao (by simpa using h)];rfl
end Nt
namespace Go.Proofs.YtknhlobahpgkeaaGreatDoor
open Go.RowKit Nt Nt.Num
theorem n_mul' (a b r c:Int) (f:told (a*b)=(r,c)) (w:World) (d:Fits a) (g:Fits b):
  Calls Tryz.prog 178 #[.int .i64 a,.int .i64 b] w fun e w'=>e=.returned (.tuple #[.int .i64 r,.int .i64 c])∧w'=w:=by
 have:=n_mul a b w d g;rw[f] at this;exact this
theorem CU (a b r c:Int) (f:told (a+b)=(r,c)) (w:World) (d:Fits a) (g:Fits b):
  Calls Tryz.prog 179 #[.int .i64 a,.int .i64 b] w fun e w'=>e=.returned (.tuple #[.int .i64 r,.int .i64 c])∧w'=w:=by
 have:=n_add a b w d g;rw[f] at this;exact this
set_option maxRecDepth 100000 in
set_option maxHeartbeats 2000000 in
theorem n_read (s:ByteArray) (w:World) (hs:s.size≤maxLen):
  Calls Tryz.prog 154 #[.string s] w fun e w'=>e=.returned (.tuple #[.int .i64 (read s.data.toList).1,.int .i64 (read s.data.toList).2])∧Below w.heap.size w w':=by
 have C:=n_cut s w hs;have hlen:(bare s.data.toList).length≤s.size:=by have:=QC s.data.toList;simpa using this
 have hread:read s.data.toList=if good s.data.toList then told (signed (minus s.data.toList) (val (bare s.data.toList))) else(0,2):=rfl
 have hgood:good s.data.toList=true→(bare s.data.toList).all isDigit=true:=fun h=>by unfold good at h;simp only[bC] at h;exact h.1.1
 generalize read s.data.toList=R at*;generalize good s.data.toList=G at*;generalize minus s.data.toList=M at*;obtain⟨d,hd⟩: ∃d,d=bare s.data.toList:=⟨_,rfl⟩
 rw[←hd] at C hlen hread hgood;clear hd;obtain⟨D,hD⟩: ∃D,D=bs d:=⟨_,rfl⟩
 rw[←hD] at C;have hDd:D.data.toList=d:=by rw[hD];rfl
 have hDs:D.size=d.length:=by rw[←hDd];simp
 have HC:=Lib.hid C;clear C hD
 cases G with
 |false=>
  have H:Hid (R=(0,2)):=hread;clear hread hgood;go_enter Tryz.func154,Tryz.ntmps154;go_wp2_with fail
  refine HC.out.mono ?_;rintro e w1 ⟨rfl,hB⟩;go_wp2_with fail;go_ret2
  exact⟨by rw[H.out];rfl,hB⟩
 |true=>
  have hall:=Lib.hid (hgood rfl);have HR:Hid (R=told (signed M (val d))):=hread;have HDs:=Lib.hid hDs;have hDl:D.size≤s.size:=by omega
  have HDd:=Lib.hid hDd;unfold maxLen at hs;clear hread hgood hDs hDd hlen;go_enter Tryz.func154,Tryz.ntmps154;go_wp2_with fail
  refine HC.out.mono ?_;clear HC;rintro e w1 ⟨rfl,hB⟩;obtain⟨cap,w2,hcv,hB2,hg2,hcell⟩:=ZN (P:=Tryz.prog) w1 9 63 5 D Tryz.underlying9 Tryz.underlying63 Tryz.underlying5;have hB':=hB.trans (hB2.mono hB.size);obtain⟨g,hg⟩: ∃g,g=w1.heap.size:=⟨_,rfl⟩
  rw[←hg] at hcv hcell;have Hcell:=Lib.hid hcell;clear hcell hg hB2 hg2 hB;go_wp2_with fail;go_loop [7,24] (fun a i=>∃k:Nat,k≤D.size∧i=.int .i64 (k:Int)∧a=.int .i64 (signed M (val (d.take k)))∧Hid (Fits (signed M (val (d.take k))))) (fun _ i=>D.size-(intOf i).toNat)
  case atStart=>exact⟨0,by omega,rfl,by simp[val,signed],by show Fits _;simp[val,signed];decide⟩
  case round=>
   obtain⟨k,hk,rfl,rfl,hfit⟩:=hrel;by_cases hlt:k<D.size
   ·have hkd:k<d.length:=by rw[←HDs.out];exact hlt
    have hck:=Hcell.out k hlt;have hat:D[k]=d.getD k 0:=by rw[←HDd.out];exact(Na D k hlt).symm
    have hdig:=List.all_eq_true.1 hall.out (d.getD k 0) (by rw[mg,iZ hkd];exact Ga _);simp only[isDigit,bC,lG] at hdig;have hstep:=Sc M d k hkd hall.out;have hlost: ¬Fits (signed M (val (d.take (k+1))))→ ¬Fits (signed M (val d)):=Sd M _ _ (val_le d (k+1));rw[hat] at hck;obtain⟨c,hc⟩: ∃c:Nat,c=(d.getD k 0).toNat:=⟨_,rfl⟩
    rw[←hc] at hck hdig hstep;obtain⟨c1,c2⟩:=hdig;obtain⟨acc,hacc⟩: ∃acc,acc=signed M (val (d.take k)):=⟨_,rfl⟩
    obtain⟨nxt,hnxt⟩: ∃nxt,nxt=signed M (val (d.take (k+1))):=⟨_,rfl⟩
    have hsg:(M=false→0≤acc)∧(M=true→acc≤0):=by rw[hacc];unfold signed;cases M<;>simp
    rw[←hacc] at hfit hstep⊢;rw[←hnxt] at hstep hlost;have HNX:=Lib.hid hnxt;have Hlost:=Lib.hid hlost;clear hat hc hacc hnxt hlost;by_cases hm:Fits (acc*10)
    ·clear hsg
     have E1:=jw hm;have M1:=Lib.hid (n_mul' acc 10 _ _ E1 w2 hfit.out (by decide));clear E1;by_cases hn:Fits nxt
     ·have E2:=jw hn
      cases M
      ·have hs2:nxt=acc*10+((c:Int)-48):=by simpa using hstep
       rw[hs2] at E2;have A1:=Lib.hid (CU (acc*10) ((c:Int)-48) _ _ E2 w2 hm (by unfold Fits;omega));have HS:=Lib.hid hs2;have HN:=Lib.hid hn;clear E2 hstep hs2 hm hn;go_wp2_with fail;refine M1.out.mono ?_;rintro e w' ⟨rfl,rfl⟩;go_wp2_with fail;refine A1.out.mono ?_;rintro e w' ⟨rfl,rfl⟩;go_wp2_with fail;go_round
       case rel=>exact⟨k+1,by omega,by go_num,by rw[←HNX.out,HS.out],by rw[←HNX.out];exact HN.out⟩
       case measure=>simp[intOf];omega
      have hs2:nxt=acc*10+ -((c:Int)-48):=by simpa using hstep
      rw[hs2] at E2;have A1:=Lib.hid (CU (acc*10) (-((c:Int)-48)) _ _ E2 w2 hm (by unfold Fits;omega));have HS:=Lib.hid hs2;have HN:=Lib.hid hn;clear E2 hstep hs2 hm hn;go_wp2_with fail;refine M1.out.mono ?_;rintro e w' ⟨rfl,rfl⟩;go_wp2_with fail;refine A1.out.mono ?_;rintro e w' ⟨rfl,rfl⟩;go_wp2_with fail;go_round
      case rel=>exact⟨k+1,by omega,by go_num,by rw[←HNX.out,HS.out],by rw[←HNX.out];exact HN.out⟩
      case measure=>simp[intOf];omega
     have E2:=kY hn;have HF:=Lib.hid (kY (Hlost.out hn))
     cases M
     ·have hs2:nxt=acc*10+((c:Int)-48):=by simpa using hstep
      rw[hs2] at E2;have A1:=Lib.hid (CU (acc*10) ((c:Int)-48) _ _ E2 w2 hm (by unfold Fits;omega));clear E2 hstep hs2 hm hn;go_wp2_with fail;refine M1.out.mono ?_;rintro e w' ⟨rfl,rfl⟩;go_wp2_with fail;refine A1.out.mono ?_;rintro e w' ⟨rfl,rfl⟩;go_wp2_with fail;go_ret2
      exact⟨by rw[HR.out,HF.out];rfl,hB'⟩
     have hs2:nxt=acc*10+ -((c:Int)-48):=by simpa using hstep
     rw[hs2] at E2;have A1:=Lib.hid (CU (acc*10) (-((c:Int)-48)) _ _ E2 w2 hm (by unfold Fits;omega));clear E2 hstep hs2 hm hn;go_wp2_with fail;refine M1.out.mono ?_;rintro e w' ⟨rfl,rfl⟩;go_wp2_with fail;refine A1.out.mono ?_;rintro e w' ⟨rfl,rfl⟩;go_wp2_with fail;go_ret2
     exact⟨by rw[HR.out,HF.out];rfl,hB'⟩
    have M1:=Lib.hid (n_mul' acc 10 _ _ (kY hm) w2 hfit.out (by decide));have hn: ¬Fits nxt:=by
     have hf:=hfit.out;intro hn;apply hm;unfold Fits at hn hf⊢
     cases M
     ·have h1:=hsg.1 rfl
      have h2:nxt=acc*10+((c:Int)-48):=by simpa using hstep
      omega
     have h1:=hsg.2 rfl;have h2:nxt=acc*10+ -((c:Int)-48):=by simpa using hstep
     omega
    have HF:=Lib.hid (kY (Hlost.out hn));clear hstep hm hn hsg
    cases M
    ·have A1:=Lib.hid (CU 0 ((c:Int)-48) _ _ (jw (by unfold Fits;omega)) w2 (by decide) (by unfold Fits;omega))
     go_wp2_with fail
     refine M1.out.mono ?_;rintro e w' ⟨rfl,rfl⟩;go_wp2_with fail;refine A1.out.mono ?_;rintro e w' ⟨rfl,rfl⟩;go_wp2_with fail;go_ret2
     exact⟨by rw[HR.out,HF.out];rfl,hB'⟩
    have A1:=Lib.hid (CU 0 (-((c:Int)-48)) _ _ (jw (by unfold Fits;omega)) w2 (by decide) (by unfold Fits;omega));go_wp2_with fail
    refine M1.out.mono ?_;rintro e w' ⟨rfl,rfl⟩;go_wp2_with fail;refine A1.out.mono ?_;rintro e w' ⟨rfl,rfl⟩;go_wp2_with fail;go_ret2
    exact⟨by rw[HR.out,HF.out];rfl,hB'⟩
   obtain rfl:k=D.size:=by omega
   have hfull:signed M (val (d.take D.size))=signed M (val d):=by rw[HDs.out,abJ]
   rw[hfull] at hfit⊢;have HF:=Lib.hid (jw hfit.out);clear hfull;go_wp2_with fail;go_ret2
   exact⟨by rw[HR.out,HF.out];rfl,hB'⟩
end Go.Proofs.YtknhlobahpgkeaaGreatDoor
namespace Nt.Ev.YtknhlobahpgkeaaGreatDoor
open Go Go.RowKit Nt Nt.Num Go.Proofs.YtknhlobahpgkeaaGreatDoor
def iG (s:af):Int:=(Num.read s).1
def nrW (s:af):Int:=(Num.read s).2
theorem wZ (s:af):(⟨s.toArray⟩:ByteArray).size=s.length:=by simp[ByteArray.size]
theorem Nb {s:af} (h:s.length≤1000):(⟨s.toArray⟩:ByteArray).size≤maxLen:=by rw[wZ];unfold maxLen;omega
theorem NR (s:af) (h:s.length≤1000):aj nE 154 [.str s] (.tup [.int .i64 (iG s),.int .i64 (nrW s)]):=by
 refine bX fun G w vs f d b=>?_
 obtain⟨x,rfl,a⟩:=CR b;unfold aV at a;subst a;refine(n_read ⟨s.toArray⟩ w (Nb h)).mono ?_;rintro e w' ⟨rfl,c⟩;exact⟨_,rfl,c,NP (pK _ _) (pK _ _)⟩
def uO (a:ah):Bool:=decide (a.length≤1000)&&a.all fun v=>match v with| .str l=>decide (l.length≤1000)|_=>false
def Tv (a:ah):List ByteArray:=a.map fun x=>⟨(aH x).toArray⟩
def mo (s:af) (a:ah):Int:=((Words.mt ⟨s.toArray⟩ (Tv a)).1:Int)
def oP (s:af) (a:ah):Int:=((Words.mt ⟨s.toArray⟩ (Tv a)).2:Int)
theorem ZO {a:ah} (h:uO a=true):a.length≤1000∧ ∀x∈a,∃l,x=.str l∧l.length≤1000:=by
 unfold uO at h;rw[bC,lG,l8] at h;refine⟨h.1,fun x b=>?_⟩;have:=h.2 x b
 cases x with
 |str l=>exact⟨l,rfl,by simpa using this⟩
 |_=>cases this
theorem Il (s:af) (e:Nat) (o:Option Nat) (a:ah) (h:s.length≤1000) (c:uO a=true):aj nE 46 [.str s,.sl e [.str] o a] (.tup [.int .i64 (mo s a),.int .i64 (oP s a)]):=by
 obtain⟨m,f⟩:=ZO c;refine bX fun G w vs j l d=>?_
 obtain⟨x,y,rfl,b,g⟩:=iQ d;unfold aV at b;subst b;obtain⟨p,cap,rfl,k⟩:=rep_strs j g f;refine(w_match ⟨s.toArray⟩ p a.length cap (Tv a) w (Nb h) k (by omega)).mono ?_;rintro e w' ⟨rfl,i⟩;exact⟨_,rfl,i,NP (pK _ _) (pK _ _)⟩
def vw (s:af) (c:Int):Int:=Lib.indexByte s c.toNat.toUInt8
theorem idx_c (s:af) (c:Int):aj nE 65 [.str s,.int .u8 c] (.int .i64 (vw s c)):=by
 refine bX fun G w vs g f d=>?_
 obtain⟨x,y,rfl,b,a⟩:=iQ d;unfold aV at b a;subst b;subst a;refine(Go.Proofs.Tryz.strings_IndexByte ⟨s.toArray⟩ c w).mono ?_;rintro e w' ⟨rfl,rfl⟩;exact⟨_,rfl,Below.refl _ _,qL _ _⟩
end Nt.Ev.YtknhlobahpgkeaaGreatDoor
