/-
  words.begins, words.Same and the reference's own: each tells what the plain law says.
-/
import Derived.Test.YtcmockbdkppglaaDoorMC
import Derived.Test.YtcmockbdkppglaaDoorMS
import Derived.Laws.IdiomStrings
set_option linter.all false
namespace Go.Proofs.YtcmockbdkppglaaDoor
open Go.RowKit Nt Nt.Words
def iv (i:Nat):Value:=.int .i64 (i:Int)
open Nt.Num
set_option maxHeartbeats 400000 in
theorem Zb (a b:Int) (w:World) (ha:Fits a) (hb:Fits b):
  Calls Tryd.prog 81 #[.int .i64 a,.int .i64 b] w fun e w'=>e=.returned (.tuple #[.int .i64 (told (a+b)).1,.int .i64 (told (a+b)).2])∧w'=w:=by
 obtain⟨a1,a2⟩:=ha;obtain⟨b1,b2⟩:=hb;by_cases hf:Fits (a+b)
 ·have H:=Lib.hid (jh hf)
  obtain⟨f1,f2⟩:=hf;by_cases sa:a<0<;>by_cases sb:b<0
  ·have d:decide (a+b<0)=true:=DD (by omega)
   go_enter Tryd.func81,Tryd.ntmps81
   go_wp2
   go_ret2
   exact⟨by rw[H.out];rfl,rfl⟩
  ·have d:decide (b<0)=false:=yI sb
   go_enter Tryd.func81,Tryd.ntmps81
   go_wp2
   go_ret2
   exact⟨by rw[H.out];rfl,rfl⟩
  ·have d:decide (a<0)=false:=yI sa
   go_enter Tryd.func81,Tryd.ntmps81
   go_wp2
   go_ret2
   exact⟨by rw[H.out];rfl,rfl⟩
  ·have d1:decide (a<0)=false:=yI sa
   have d2:decide (b<0)=false:=yI sb;have d:decide (a+b<0)=false:=yI (by omega);go_enter Tryd.func81,Tryd.ntmps81
   go_wp2
   go_ret2
   exact⟨by rw[H.out];rfl,rfl⟩
 ·have H:=Lib.hid (jl hf)
  by_cases sa:a<0
  ·have hw:0≤wrap64 (a+b):=JO (by unfold Fits at hf;omega) (by omega)
   have d:decide (wrap64 (a+b)<0)=false:=yI (by omega);have sb:b<0:=by unfold Fits at hf;omega
   clear hf;go_enter Tryd.func81,Tryd.ntmps81
   go_wp2
   go_ret2
   exact⟨by rw[H.out];rfl,rfl⟩
  ·have hw:wrap64 (a+b)<0:=Nf (by unfold Fits at hf;omega) (by omega)
   have d:decide (wrap64 (a+b)<0)=true:=DD hw;have sb:0≤b:=by unfold Fits at hf;omega
   have d1:decide (a<0)=false:=yI sa;have d2:decide (b<0)=false:=yI (by omega);clear hf;go_enter Tryd.func81,Tryd.ntmps81
   go_wp2
   go_ret2
   exact⟨by rw[H.out];rfl,rfl⟩
set_option maxHeartbeats 400000 in
theorem gG (n:Int) (w:World) (ha:Fits n):
  Calls Tryd.prog 55 #[.int .i64 n] w fun e w'=>e=.returned (.int .u64 (n.natAbs:Int))∧w'=w:=by
 obtain⟨a1,a2⟩:=ha;by_cases s:n<0
 ·have h:IntKind.u64.wrap n=n+18446744073709551616:=by rw[IntKind.wrap_u64];omega
  have h2:IntKind.u64.wrap (-(n+18446744073709551616))= -n:=by rw[IntKind.wrap_u64];omega
  go_enter Tryd.func55,Tryd.ntmps55
  go_wp2
  go_ret
  exact⟨K8 (by omega),rfl⟩
 ·go_enter Tryd.func55,Tryd.ntmps55
  go_wp2
  go_ret
  exact⟨K8 (by omega),rfl⟩
set_option maxHeartbeats 400000 in
theorem Zc (a b : Int) (w : World) (ha : Fits a) (hb : Fits b) :
    Calls Tryd.prog 37 #[.int .i64 a, .int .i64 b] w fun e w' => e = .returned (.tuple #[.int .i64 (DN a b).1, .int .i64 (DN a b).2.1, .int .i64 (DN a b).2.2]) ∧ ∃ n, w' = w.drewN n := by
  obtain ⟨a1, a2⟩ := ha
  obtain ⟨b1, b2⟩ := hb
  by_cases h0 : b = 0
  · subst h0
    go_enter Tryd.func37, Tryd.ntmps37
    go_wp2
    go_ret3
    exact ⟨rfl, 0, rfl⟩
  · have k0 : (b == 0) = false := by simp [h0]
    by_cases hm : a = -9223372036854775808 ∧ b = -1
    · obtain ⟨rfl, rfl⟩ := hm
      go_enter Tryd.func37, Tryd.ntmps37
      go_wp2
      go_ret3
      exact ⟨rfl, 0, rfl⟩
    · obtain ⟨q1, q2, r1, r2⟩ := JN a b ⟨a1, a2⟩ ⟨b1, b2⟩ h0 hm
      have H := Lib.hid (Dh a b h0 hm)
      have X := Lib.hid (Tz (a.tmod b) b (by unfold Fits; omega) ⟨b1, b2⟩)
      have hlt := Ep a b h0
      have hab : (a == -9223372036854775808) = false ∨ ((a == -9223372036854775808) = true ∧ (b == -1) = false) := by simp only [oZ, fT]; omega
      have hq : a.tdiv b - 1 < -9223372036854775808 → a.tmod b = 0 := fun h => by
        have e : a.tdiv b = -9223372036854775808 := by omega
        have h1 := Int.mul_tdiv_add_tmod a b
        have h2 := Gg a b
        have ha' : a = -9223372036854775808 := by
          have := ZH a b
          omega
        have h3 : (a.tdiv b).natAbs = a.natAbs / b.natAbs := ZH a b
        have hb1 : b.natAbs = 1 := by
          by_cases h4 : b.natAbs = 1
          · exact h4
          · have : a.natAbs / b.natAbs ≤ a.natAbs / 2 := Nat.div_le_div_left (by omega) (by omega)
            omega
        omega
      clear hm h0
      by_cases hr0 : a.tmod b = 0
      · have kr : (a.tmod b != 0) = false := by simp [hr0]
        have H2 := Lib.hid (show DN a b = (a.tdiv b, a.tmod b, 0) by rw [H.out, if_neg (by simp [hr0])])
        clear hr0 H X hq
        rcases hab with ka | ⟨ka, kb⟩
        all_goals
          go_enter Tryd.func37, Tryd.ntmps37
          go_wp2
          go_quiet (fail)
          go_wp2
          go_ret3
          exact ⟨by rw [H2.out]; rfl, _, rfl⟩
      · have kr : (a.tmod b != 0) = true := by simp [hr0]
        have q3 : -9223372036854775808 ≤ a.tdiv b - 1 := by
          by_cases h : a.tdiv b - 1 < -9223372036854775808
          · exact absurd (hq h) hr0
          · omega
        by_cases hs : a.tmod b < 0 ↔ b < 0
        · have H2 := Lib.hid (show DN a b = (a.tdiv b, a.tmod b, 0) by rw [H.out, if_neg (by simp [hs])])
          have d1 : decide (bits .xor .i64 (a.tmod b) b < 0) = false := yI (by rw [X.out]; simp [hs])
          have d2 : (!decide (a.tmod b < 0) == decide (b < 0)) = false := by by_cases h2 : b < 0 <;> simp [hs, h2]
          clear hr0 H X hq hs
          rcases hab with ka | ⟨ka, kb⟩
          all_goals
            go_enter Tryd.func37, Tryd.ntmps37
            go_wp2
            go_quiet (fail)
            go_wp2
            go_ret3
            exact ⟨by rw [H2.out]; rfl, _, rfl⟩
        · have H2 := Lib.hid (show DN a b = (a.tdiv b - 1, a.tmod b + b, 0) by rw [H.out, if_pos ⟨hr0, hs⟩])
          have d1 : decide (bits .xor .i64 (a.tmod b) b < 0) = true := DD (by rw [X.out]; exact hs)
          have d2 : (!decide (a.tmod b < 0) == decide (b < 0)) = true := by
            by_cases h1 : a.tmod b < 0 <;> by_cases h2 : b < 0 <;> simp_all
          have r3 : -9223372036854775808 ≤ a.tmod b + b := by omega
          have r4 : a.tmod b + b ≤ 9223372036854775807 := by omega
          clear hr0 H X hq hs
          rcases hab with ka | ⟨ka, kb⟩
          all_goals
            go_enter Tryd.func37, Tryd.ntmps37
            go_wp2
            go_quiet (fail)
            go_wp2
            go_ret3
            exact ⟨by rw [H2.out]; rfl, _, rfl⟩
theorem TH (x y b a:Nat) (f:x*y/18446744073709551616=b) (c:x*y%18446744073709551616=a) (hx:x<18446744073709551616) (d:y<18446744073709551616) (w:World):
  Calls Tryd.prog 89 #[.int .u64 x,.int .u64 y] w fun e w'=>e=.returned (.tuple #[.int .u64 (b:Int),.int .u64 (a:Int)])∧w'=w:=by
 have:=Tryd.bits_Mul64 x y hx d w;rw[f,c] at this;exact this
set_option maxHeartbeats 1000000 in
theorem Zd (a b:Int) (w:World) (ha:Fits a) (hb:Fits b):
  Calls Tryd.prog 80 #[.int .i64 a,.int .i64 b] w fun e w'=>e=.returned (.tuple #[.int .i64 (told (a*b)).1,.int .i64 (told (a*b)).2])∧w'=w:=by
 have ha':=ha;have hb':=hb;obtain⟨a1,a2⟩:=ha;obtain⟨b1,b2⟩:=hb;obtain⟨hi,h1⟩: ∃hi,a.natAbs*b.natAbs/18446744073709551616=hi:=⟨_,rfl⟩
 obtain⟨lo,h2⟩: ∃lo,a.natAbs*b.natAbs%18446744073709551616=lo:=⟨_,rfl⟩
 have hlo:lo<18446744073709551616:=by omega
 have C:=TH a.natAbs b.natAbs hi lo h1 h2 (by omega) (by omega);have hB:=Ng a b;have hA:=Nh a b;have hp:a.natAbs*b.natAbs=hi*18446744073709551616+lo:=by omega
 rw[hp] at hA hB;have HC:Hid (∀w,Calls Tryd.prog 89 #[.int .u64 a.natAbs,.int .u64 b.natAbs] w fun e w'=>e=.returned (.tuple #[.int .u64 (hi:Int),.int .u64 (lo:Int)])∧w'=w):=C;clear h1 h2 hp C;by_cases h0:0<hi
 ·have H:=Lib.hid (jl (n:=a*b) (by
   unfold Fits;by_cases hs:a<0↔b<0
   ·rw[hA hs];omega
   ·rw[hB hs];omega))
  clear hA hB;go_enter Tryd.func80,Tryd.ntmps80
  go_wp2_with fail
  refine(gG a _ ha').mono ?_;rintro e w' ⟨rfl,rfl⟩;go_wp2_with fail
  refine(gG b _ hb').mono ?_;rintro e w' ⟨rfl,rfl⟩;go_wp2_with fail
  refine(HC.out _).mono ?_;rintro e w' ⟨rfl,rfl⟩;go_wp2_with fail
  go_ret2
  exact⟨by rw[H.out];rfl,rfl⟩
 ·obtain rfl:hi=0:=by omega
  clear h0;simp only[ZL,Fh] at hA hB;have d64:IntKind.u64.wrap (-(lo:Int))=((18446744073709551616-lo)%18446744073709551616:Nat):=by rw[IntKind.wrap_u64];omega
  obtain⟨m,hm⟩: ∃m,(18446744073709551616-lo)%18446744073709551616=m:=⟨_,rfl⟩
  rw[hm] at d64;have hmb:m<18446744073709551616:=by omega
  have m64:lo≤9223372036854775808→IntKind.i64.wrap (m:Int)= -(lo:Int):=fun h=>by rw[IntKind.wrap_i64];omega
  have M64:Hid (lo≤9223372036854775808→IntKind.i64.wrap (m:Int)= -(lo:Int)∧wrap64 (m:Int)= -(lo:Int)):=fun h=>⟨m64 h,by have:=m64 h;rw[IntKind.wrap_i64] at this;unfold wrap64;exact this⟩
  clear hm m64;by_cases sa:a<0<;>by_cases sb:b<0
  ·have da:decide (a<0)=true:=DD sa
   have db:decide (b<0)=true:=DD sb;have hP:=hA (by omega);clear hA hB;by_cases hl:9223372036854775808<lo
   ·have H:=Lib.hid (jl (n:=a*b) (by unfold Fits;rw[hP];omega))
    clear hP;have dl:decide (9223372036854775808<(lo:Int))=true:=DD (by omega);go_enter Tryd.func80,Tryd.ntmps80
    go_wp2_with fail
    refine(gG a _ ha').mono ?_;rintro e w' ⟨rfl,rfl⟩;go_wp2_with fail
    refine(gG b _ hb').mono ?_;rintro e w' ⟨rfl,rfl⟩;go_wp2_with fail
    refine(HC.out _).mono ?_;rintro e w' ⟨rfl,rfl⟩;go_wp2_with fail
    go_ret2
    exact⟨by rw[H.out];rfl,rfl⟩
   ·have dl:decide (9223372036854775808<(lo:Int))=false:=yI (by omega)
    by_cases he:lo=9223372036854775808
    ·have H:=Lib.hid (jl (n:=a*b) (by unfold Fits;rw[hP];omega))
     have dk:((lo:Int)==9223372036854775808)=true:=by simp;omega
     clear he hP;go_enter Tryd.func80,Tryd.ntmps80
     go_wp2_with fail
     refine(gG a _ ha').mono ?_;rintro e w' ⟨rfl,rfl⟩;go_wp2_with fail
     refine(gG b _ hb').mono ?_;rintro e w' ⟨rfl,rfl⟩;go_wp2_with fail
     refine(HC.out _).mono ?_;rintro e w' ⟨rfl,rfl⟩;go_wp2_with fail
     go_ret2
     exact⟨by rw[H.out];rfl,rfl⟩
    ·have H:=Lib.hid (jh (n:=a*b) (by unfold Fits;rw[hP];omega))
     rw[hP] at H;have hq:=Lib.hid hP;have dk:((lo:Int)==9223372036854775808)=false:=by simp;omega
     have m1:lo≤9223372036854775807:=by omega
     clear he hP;go_enter Tryd.func80,Tryd.ntmps80
     go_wp2_with fail
     refine(gG a _ ha').mono ?_;rintro e w' ⟨rfl,rfl⟩;go_wp2_with fail
     refine(gG b _ hb').mono ?_;rintro e w' ⟨rfl,rfl⟩;go_wp2_with fail
     refine(HC.out _).mono ?_;rintro e w' ⟨rfl,rfl⟩;go_wp2_with fail
     go_ret2
     exact⟨by rw[hq.out,H.out];rfl,rfl⟩
  ·have da:decide (a<0)=true:=DD sa
   have db:decide (b<0)=false:=yI sb;have hP:=hB (by omega);clear hA hB;by_cases hl:9223372036854775808<lo
   ·have H:=Lib.hid (jl (n:=a*b) (by unfold Fits;rw[hP];omega))
    clear hP;have dl:decide (9223372036854775808<(lo:Int))=true:=DD (by omega);go_enter Tryd.func80,Tryd.ntmps80
    go_wp2_with fail
    refine(gG a _ ha').mono ?_;rintro e w' ⟨rfl,rfl⟩;go_wp2_with fail
    refine(gG b _ hb').mono ?_;rintro e w' ⟨rfl,rfl⟩;go_wp2_with fail
    refine(HC.out _).mono ?_;rintro e w' ⟨rfl,rfl⟩;go_wp2_with fail
    go_ret2
    exact⟨by rw[H.out];rfl,rfl⟩
   ·have H:=Lib.hid (jh (n:=a*b) (by unfold Fits;rw[hP];omega))
    rw[hP] at H;have hq:=Lib.hid hP;obtain⟨m1,m2⟩:=M64.out (by omega);clear hP;have dl:decide (9223372036854775808<(lo:Int))=false:=yI (by omega);by_cases he:lo=9223372036854775808
    ·have dk:((lo:Int)==9223372036854775808)=true:=by simp;omega
     clear he;go_enter Tryd.func80,Tryd.ntmps80
     go_wp2_with fail
     refine(gG a _ ha').mono ?_;rintro e w' ⟨rfl,rfl⟩;go_wp2_with fail
     refine(gG b _ hb').mono ?_;rintro e w' ⟨rfl,rfl⟩;go_wp2_with fail
     refine(HC.out _).mono ?_;rintro e w' ⟨rfl,rfl⟩;go_wp2_with fail
     go_ret2
     exact⟨by rw[hq.out,H.out];rfl,rfl⟩
    ·have dk:((lo:Int)==9223372036854775808)=false:=by simp;omega
     go_enter Tryd.func80,Tryd.ntmps80
     go_wp2_with fail
     refine(gG a _ ha').mono ?_;rintro e w' ⟨rfl,rfl⟩;go_wp2_with fail
     refine(gG b _ hb').mono ?_;rintro e w' ⟨rfl,rfl⟩;go_wp2_with fail
     refine(HC.out _).mono ?_;rintro e w' ⟨rfl,rfl⟩;go_wp2_with fail
     go_ret2
     exact⟨by rw[hq.out,H.out];rfl,rfl⟩
  ·have da:decide (a<0)=false:=yI sa
   have db:decide (b<0)=true:=DD sb;have hP:=hB (by omega);clear hA hB;by_cases hl:9223372036854775808<lo
   ·have H:=Lib.hid (jl (n:=a*b) (by unfold Fits;rw[hP];omega))
    clear hP;have dl:decide (9223372036854775808<(lo:Int))=true:=DD (by omega);go_enter Tryd.func80,Tryd.ntmps80
    go_wp2_with fail
    refine(gG a _ ha').mono ?_;rintro e w' ⟨rfl,rfl⟩;go_wp2_with fail
    refine(gG b _ hb').mono ?_;rintro e w' ⟨rfl,rfl⟩;go_wp2_with fail
    refine(HC.out _).mono ?_;rintro e w' ⟨rfl,rfl⟩;go_wp2_with fail
    go_ret2
    exact⟨by rw[H.out];rfl,rfl⟩
   ·have H:=Lib.hid (jh (n:=a*b) (by unfold Fits;rw[hP];omega))
    rw[hP] at H;have hq:=Lib.hid hP;obtain⟨m1,m2⟩:=M64.out (by omega);clear hP;have dl:decide (9223372036854775808<(lo:Int))=false:=yI (by omega);by_cases he:lo=9223372036854775808
    ·have dk:((lo:Int)==9223372036854775808)=true:=by simp;omega
     clear he;go_enter Tryd.func80,Tryd.ntmps80
     go_wp2_with fail
     refine(gG a _ ha').mono ?_;rintro e w' ⟨rfl,rfl⟩;go_wp2_with fail
     refine(gG b _ hb').mono ?_;rintro e w' ⟨rfl,rfl⟩;go_wp2_with fail
     refine(HC.out _).mono ?_;rintro e w' ⟨rfl,rfl⟩;go_wp2_with fail
     go_ret2
     exact⟨by rw[hq.out,H.out];rfl,rfl⟩
    ·have dk:((lo:Int)==9223372036854775808)=false:=by simp;omega
     go_enter Tryd.func80,Tryd.ntmps80
     go_wp2_with fail
     refine(gG a _ ha').mono ?_;rintro e w' ⟨rfl,rfl⟩;go_wp2_with fail
     refine(gG b _ hb').mono ?_;rintro e w' ⟨rfl,rfl⟩;go_wp2_with fail
     refine(HC.out _).mono ?_;rintro e w' ⟨rfl,rfl⟩;go_wp2_with fail
     go_ret2
     exact⟨by rw[hq.out,H.out];rfl,rfl⟩
  ·have da:decide (a<0)=false:=yI sa
   have db:decide (b<0)=false:=yI sb;have hP:=hA (by omega);clear hA hB;by_cases hl:9223372036854775808<lo
   ·have H:=Lib.hid (jl (n:=a*b) (by unfold Fits;rw[hP];omega))
    clear hP;have dl:decide (9223372036854775808<(lo:Int))=true:=DD (by omega);go_enter Tryd.func80,Tryd.ntmps80
    go_wp2_with fail
    refine(gG a _ ha').mono ?_;rintro e w' ⟨rfl,rfl⟩;go_wp2_with fail
    refine(gG b _ hb').mono ?_;rintro e w' ⟨rfl,rfl⟩;go_wp2_with fail
    refine(HC.out _).mono ?_;rintro e w' ⟨rfl,rfl⟩;go_wp2_with fail
    go_ret2
    exact⟨by rw[H.out];rfl,rfl⟩
   ·have dl:decide (9223372036854775808<(lo:Int))=false:=yI (by omega)
    by_cases he:lo=9223372036854775808
    ·have H:=Lib.hid (jl (n:=a*b) (by unfold Fits;rw[hP];omega))
     have dk:((lo:Int)==9223372036854775808)=true:=by simp;omega
     clear he hP;go_enter Tryd.func80,Tryd.ntmps80
     go_wp2_with fail
     refine(gG a _ ha').mono ?_;rintro e w' ⟨rfl,rfl⟩;go_wp2_with fail
     refine(gG b _ hb').mono ?_;rintro e w' ⟨rfl,rfl⟩;go_wp2_with fail
     refine(HC.out _).mono ?_;rintro e w' ⟨rfl,rfl⟩;go_wp2_with fail
     go_ret2
     exact⟨by rw[H.out];rfl,rfl⟩
    ·have H:=Lib.hid (jh (n:=a*b) (by unfold Fits;rw[hP];omega))
     rw[hP] at H;have hq:=Lib.hid hP;have dk:((lo:Int)==9223372036854775808)=false:=by simp;omega
     have m1:lo≤9223372036854775807:=by omega
     clear he hP;go_enter Tryd.func80,Tryd.ntmps80
     go_wp2_with fail
     refine(gG a _ ha').mono ?_;rintro e w' ⟨rfl,rfl⟩;go_wp2_with fail
     refine(gG b _ hb').mono ?_;rintro e w' ⟨rfl,rfl⟩;go_wp2_with fail
     refine(HC.out _).mono ?_;rintro e w' ⟨rfl,rfl⟩;go_wp2_with fail
     go_ret2
     exact⟨by rw[hq.out,H.out];rfl,rfl⟩
theorem kT (l:ah):Lib.hasPrefix l [45]=minus l:=by
 unfold Lib.hasPrefix minus
 cases l with
 |nil=>rfl
 |cons c l=>
  simp only[List.isPrefixOf,ac1];rw[Kc,fT,fT];exact⟨Eq.symm,Eq.symm⟩
theorem Ih (s:ByteArray) (w:World):
  Calls Tryd.prog 64 #[.string s,.string ⟨#[45]⟩] w fun e w'=>e=.returned (.tuple #[.string (bs (bare s.data.toList)),.bool (minus s.data.toList)])∧w'=w:=by
 have:=Tryd.strings_CutPrefix s ⟨#[45]⟩ w;have a:Lib.hasPrefix s.data.toList [45]=minus s.data.toList:=kT _;have b:Lib.trimPrefix s.data.toList [45]=bare s.data.toList:=by unfold Lib.trimPrefix bare;rw[a];rfl
 rw[show(⟨#[45]⟩:ByteArray).data.toList=[45] from rfl,a,b] at this;exact this
theorem WI (s:ByteArray) (w:World) (a:s.size≤maxLen):
  Calls Tryd.prog 63 #[.string s,.string ⟨#[48,49,50,51,52,53,54,55,56,57]⟩] w fun e w'=>e=.returned (.string (bs (Lib.trimS s.data.toList [48,49,50,51,52,53,54,55,56,57])))∧Below w.heap.size w w':=
 Tryd.uR s ⟨#[48,49,50,51,52,53,54,55,56,57]⟩ w (by unfold maxLen at a;omega) (by decide) (ascii_of_all (by decide))
theorem Ap (l:ah):(bare l).length≤l.length:=by unfold bare;split<;>simp
set_option maxRecDepth 100000 in
set_option maxHeartbeats 1000000 in
theorem Ze (s:ByteArray) (w:World) (hs:s.size≤maxLen):
  Calls Tryd.prog 79 #[.string s] w fun e w'=>e=.returned (.tuple #[.bool (minus s.data.toList),.string (bs (bare s.data.toList)),.bool (good s.data.toList)])∧Below w.heap.size w w':=by
 have hgood:good s.data.toList=((bare s.data.toList).all isDigit&& !(bare s.data.toList).isEmpty&&(!((bare s.data.toList).getD 0 0==48)||(decide ((bare s.data.toList).length=1)&& !minus s.data.toList))):=rfl;have hlen:(bare s.data.toList).length≤s.size:=by have:=Ap s.data.toList;simpa using this
 have C:Hid (∀w,Calls Tryd.prog 64 #[.string s,.string ⟨#[45]⟩] w fun e w'=>e=.returned (.tuple #[.string (bs (bare s.data.toList)),.bool (minus s.data.toList)])∧w'=w):=Ih s;generalize good s.data.toList=G at*;generalize minus s.data.toList=M at*;obtain⟨D,hD⟩: ∃D,D=bs (bare s.data.toList):=⟨_,rfl⟩
 have hDl:D.data.toList=bare s.data.toList:=by rw[hD];rfl
 rw[←hD] at C;rw[←hDl] at hgood hlen;have hDs:D.size≤s.size:=by simpa using hlen
 have hDm:D.size≤maxLen:=by omega
 have HD:=Lib.hid hD;have T:Hid (∀w,Calls Tryd.prog 63 #[.string D,.string ⟨#[48,49,50,51,52,53,54,55,56,57]⟩] w fun e w'=>e=.returned (.string (bs (Lib.trimS D.data.toList [48,49,50,51,52,53,54,55,56,57])))∧Below w.heap.size w w'):=fun w=>WI D w hDm
 have htr:=xV D.data.toList;have hts:(bs (Lib.trimS D.data.toList [48,49,50,51,52,53,54,55,56,57])).size=(Lib.trimS D.data.toList [48,49,50,51,52,53,54,55,56,57]).length:=qj _;obtain⟨Z,hZ⟩: ∃Z,Z=bs (Lib.trimS D.data.toList [48,49,50,51,52,53,54,55,56,57]):=⟨_,rfl⟩
 rw[←hZ] at T hts;rw[←List.length_eq_zero_iff,←hts] at htr;have X5:=Lib.hid hgood;have Yz:=Lib.hid htr;unfold maxLen at hs hDm;rw[show bs (bare s.data.toList)=D from hD.symm];clear hD hDl hlen hgood htr hts hZ;by_cases h0:D.size=0
 ·have he:=xS D h0
  have hG:Hid (G=false):=by
   have:D.data.toList=[]:=by rw[←List.length_eq_zero_iff];simpa using h0
   rw[X5.out,this];rfl
  clear h0;go_enter Tryd.func79,Tryd.ntmps79
  go_wp2_with fail
  refine(C.out _).mono ?_;rintro e w' ⟨rfl,rfl⟩;go_wp2_with fail
  go_ret3
  exact⟨by rw[hG.out];rfl,Below.refl _ _⟩
 ·have he:=Be D h0
  have hne:D.data.toList.isEmpty=false:=by rw[←toList_eq];exact he
  have hD0:0<D.size:=by omega
  by_cases hz:Z.size=0
  ·have hze:=xS Z hz
   have hall:=Yz.out.1 hz;have hat:(D.data.toList.getD 0 0)=D[0]:=Pj D 0 hD0;by_cases h48:D[0].toNat=48
   ·have k48:((D[0].toNat:Int) != 48)=false:=by simp;omega
    have hb48:(D.data.toList.getD 0 0==48)=true:=by rw[hat,fT];exact UInt8.toNat_inj.1 h48
    by_cases h1:D.size=1
    ·have k1:((D.size:Int)==1)=true:=by simp[h1]
     have hG:=Lib.hid (show G= !M by rw[X5.out,hall,hne,hb48];simp[h1]);clear h48 h1 hz h0 hat hb48 hall hne;go_enter Tryd.func79,Tryd.ntmps79
     go_wp2_with fail
     refine(C.out _).mono ?_;rintro e w' ⟨rfl,rfl⟩;go_wp2_with fail
     refine(T.out _).mono ?_;rintro e w1 ⟨rfl,hB⟩;go_wp2_with fail
     go_ret3
     exact⟨by rw[hG.out];rfl,hB⟩
    ·have k1:((D.size:Int)==1)=false:=by simp;omega
     have hG:=Lib.hid (show G=false by rw[X5.out,hall,hne,hb48];simp[h1]);clear h48 h1 hz h0 hat hb48 hall hne;go_enter Tryd.func79,Tryd.ntmps79
     go_wp2_with fail
     refine(C.out _).mono ?_;rintro e w' ⟨rfl,rfl⟩;go_wp2_with fail
     refine(T.out _).mono ?_;rintro e w1 ⟨rfl,hB⟩;go_wp2_with fail
     go_ret3
     exact⟨by rw[hG.out];rfl,hB⟩
   ·have k48:((D[0].toNat:Int) != 48)=true:=by simp;omega
    have hb48:(D.data.toList.getD 0 0==48)=false:=by rw[hat,oZ];exact fun e=>h48 (by rw[e];rfl)
    have hG:Hid (G=true):=by rw[X5.out,hall,hne,hb48];rfl
    clear h48 hz h0 hat hb48 hall hne;go_enter Tryd.func79,Tryd.ntmps79
    go_wp2_with fail
    refine(C.out _).mono ?_;rintro e w' ⟨rfl,rfl⟩;go_wp2_with fail
    refine(T.out _).mono ?_;rintro e w1 ⟨rfl,hB⟩;go_wp2_with fail
    go_ret3
    exact⟨by rw[hG.out];rfl,hB⟩
  ·have hze:=Be Z hz
   have hG:Hid (G=false):=by
    rw[X5.out]
    cases ha:D.data.toList.all isDigit with
    |false=>rfl
    |true=>exact absurd (Yz.out.2 ha) hz
   clear hz h0 hne;go_enter Tryd.func79,Tryd.ntmps79
   go_wp2_with fail
   refine(C.out _).mono ?_;rintro e w' ⟨rfl,rfl⟩;go_wp2_with fail
   refine(T.out _).mono ?_;rintro e w1 ⟨rfl,hB⟩;go_wp2_with fail
   go_ret3
   exact⟨by rw[hG.out];rfl,hB⟩
end Go.Proofs.YtcmockbdkppglaaDoor
namespace Nt
open Go Go.RowKit
theorem Nn {P:Program} (w:World) (c a e:TypeId) (s:ByteArray) (g:P.underlying c=some .string) (f:P.underlying a=some (.slice e)) (l:P.underlying e=some (.int .u8)):
  ∃cap d,(convert c a (.string s)).run P w=.ok (.slice (some ⟨w.heap.size,0,none⟩) s.size cap) d∧Below w.heap.size w d∧w.heap.size<d.heap.size∧ ∀i (h:i<s.size),d.cell? ⟨w.heap.size,i,none⟩=some (.int .u8 (s[i].toNat:Int)):=by
 refine⟨_,_,run_bytes_of_string w c a e s g f l,(Below.refl _ _).drew.alloc (iA _) _,by simp,fun i h=>?_⟩;have j:(w.drew.alloc (.cells (bytesRow s (grownCap w s.size 0 e)) e ((bytesRow s (grownCap w s.size 0 e)).size,(bytesRow s (grownCap w s.size 0 e)).size+1))).heap[w.heap.size]? =some (.cells (bytesRow s (grownCap w s.size 0 e)) e ((bytesRow s (grownCap w s.size 0 e)).size,(bytesRow s (grownCap w s.size 0 e)).size+1)):=heap_alloc_new w.drew _;unfold World.cell?;simp only[j];unfold bytesRow;have k:i<(s.data.map fun b=>Value.int .u8 (b.toNat:Int)).size:=by simpa using h
 simp only[Option.isSome_none,N6,Fj];rw[Array.getElem?_append_left k,Array.getElem?_map,o6 (by simpa using h)];rfl
end Nt
namespace Go.Proofs.YtcmockbdkppglaaDoor
open Go.RowKit Nt Nt.Num
theorem Po (a b r c:Int) (f:told (a*b)=(r,c)) (w:World) (d:Fits a) (g:Fits b):
  Calls Tryd.prog 80 #[.int .i64 a,.int .i64 b] w fun e w'=>e=.returned (.tuple #[.int .i64 r,.int .i64 c])∧w'=w:=by
 have:=Zd a b w d g;rw[f] at this;exact this
theorem vK (a b r c:Int) (f:told (a+b)=(r,c)) (w:World) (d:Fits a) (g:Fits b):
  Calls Tryd.prog 81 #[.int .i64 a,.int .i64 b] w fun e w'=>e=.returned (.tuple #[.int .i64 r,.int .i64 c])∧w'=w:=by
 have:=Zb a b w d g;rw[f] at this;exact this
set_option maxRecDepth 100000 in
set_option maxHeartbeats 2000000 in
theorem WJ (s:ByteArray) (w:World) (hs:s.size≤maxLen):
  Calls Tryd.prog 65 #[.string s] w fun e w'=>e=.returned (.tuple #[.int .i64 (read s.data.toList).1,.int .i64 (read s.data.toList).2])∧Below w.heap.size w w':=by
 have C:=Ze s w hs;have hlen:(bare s.data.toList).length≤s.size:=by have:=Ap s.data.toList;simpa using this
 have hread:read s.data.toList=if good s.data.toList then told (signed (minus s.data.toList) (val (bare s.data.toList))) else(0,2):=rfl
 have hgood:good s.data.toList=true→(bare s.data.toList).all isDigit=true:=fun h=>by unfold good at h;simp only[bB] at h;exact h.1.1
 generalize read s.data.toList=R at*;generalize good s.data.toList=G at*;generalize minus s.data.toList=M at*;obtain⟨d,hd⟩: ∃d,d=bare s.data.toList:=⟨_,rfl⟩
 rw[←hd] at C hlen hread hgood;clear hd;obtain⟨D,hD⟩: ∃D,D=bs d:=⟨_,rfl⟩
 rw[←hD] at C;have hDd:D.data.toList=d:=by rw[hD];rfl
 have hDs:D.size=d.length:=by rw[←hDd];simp
 have HC:=Lib.hid C;clear C hD
 cases G with
 |false=>
  have H:Hid (R=(0,2)):=hread;clear hread hgood;go_enter Tryd.func65,Tryd.ntmps65
  go_wp2_with fail
  refine HC.out.mono ?_;rintro e w1 ⟨rfl,hB⟩;go_wp2_with fail
  go_ret2
  exact⟨by rw[H.out];rfl,hB⟩
 |true=>
  have hall:=Lib.hid (hgood rfl);have HR:Hid (R=told (signed M (val d))):=hread;have HDs:=Lib.hid hDs;have hDl:D.size≤s.size:=by omega
  have HDd:=Lib.hid hDd;unfold maxLen at hs;clear hread hgood hDs hDd hlen;go_enter Tryd.func65,Tryd.ntmps65
  go_wp2_with fail
  refine HC.out.mono ?_;clear HC;rintro e w1 ⟨rfl,hB⟩;obtain⟨cap,w2,hcv,hB2,hg2,hcell⟩:=Nn (P:=Tryd.prog) w1 9 45 5 D Tryd.underlying9 Tryd.underlying45 Tryd.underlying5;have hB':=hB.trans (hB2.mono hB.size);obtain⟨g,hg⟩: ∃g,g=w1.heap.size:=⟨_,rfl⟩
  rw[←hg] at hcv hcell;have Zf:=Lib.hid hcell;clear hcell hg hB2 hg2 hB;go_wp2_with fail
  go_loop [7,24] (fun a i=>∃k:Nat,k≤D.size∧i=.int .i64 (k:Int)∧a=.int .i64 (signed M (val (d.take k)))∧Hid (Fits (signed M (val (d.take k))))) (fun _ i=>D.size-(intOf i).toNat)
  case atStart=>exact⟨0,by omega,rfl,by simp[val,signed],by show Fits _;simp[val,signed];decide⟩
  case round=>
   obtain⟨k,hk,rfl,rfl,hfit⟩:=hrel;by_cases hlt:k<D.size
   ·have hkd:k<d.length:=by rw[←HDs.out];exact hlt
    have hck:=Zf.out k hlt;have hat:D[k]=d.getD k 0:=by rw[←HDd.out];exact(Pj D k hlt).symm
    have hdig:=List.all_eq_true.1 hall.out (d.getD k 0) (by rw[sQ,gQ hkd];exact Fg _);simp only[isDigit,bB,Iy] at hdig;have hstep:=HZ M d k hkd hall.out;have OV: ¬Fits (signed M (val (d.take (k+1))))→ ¬Fits (signed M (val d)):=H6 M _ _ (Pk d (k+1));rw[hat] at hck;obtain⟨c,hc⟩: ∃c:Nat,c=(d.getD k 0).toNat:=⟨_,rfl⟩
    rw[←hc] at hck hdig hstep;obtain⟨c1,c2⟩:=hdig;obtain⟨acc,hacc⟩: ∃acc,acc=signed M (val (d.take k)):=⟨_,rfl⟩
    obtain⟨RY,V7⟩: ∃RY,RY=signed M (val (d.take (k+1))):=⟨_,rfl⟩
    have hsg:(M=false→0≤acc)∧(M=true→acc≤0):=by rw[hacc];unfold signed;cases M<;>simp
    rw[←hacc] at hfit hstep⊢;rw[←V7] at hstep OV;have ZV:=Lib.hid V7;have Vd:=Lib.hid OV;clear hat hc hacc V7 OV;by_cases hm:Fits (acc*10)
    ·clear hsg
     have E1:=jh hm;have M1:=Lib.hid (Po acc 10 _ _ E1 w2 hfit.out (by decide));clear E1;by_cases hn:Fits RY
     ·have E2:=jh hn
      cases M
      ·have hs2:RY=acc*10+((c:Int)-48):=by simpa using hstep
       rw[hs2] at E2;have A1:=Lib.hid (vK (acc*10) ((c:Int)-48) _ _ E2 w2 hm (by unfold Fits;omega));have HS:=Lib.hid hs2;have HN:=Lib.hid hn;clear E2 hstep hs2 hm hn;go_wp2_with fail
       refine M1.out.mono ?_;rintro e w' ⟨rfl,rfl⟩;go_wp2_with fail
       refine A1.out.mono ?_;rintro e w' ⟨rfl,rfl⟩;go_wp2_with fail
       go_round
       case rel=>exact⟨k+1,by omega,by go_num,by rw[←ZV.out,HS.out],by rw[←ZV.out];exact HN.out⟩
       case measure=>simp[intOf];omega
      ·have hs2:RY=acc*10+ -((c:Int)-48):=by simpa using hstep
       rw[hs2] at E2;have A1:=Lib.hid (vK (acc*10) (-((c:Int)-48)) _ _ E2 w2 hm (by unfold Fits;omega));have HS:=Lib.hid hs2;have HN:=Lib.hid hn;clear E2 hstep hs2 hm hn;go_wp2_with fail
       refine M1.out.mono ?_;rintro e w' ⟨rfl,rfl⟩;go_wp2_with fail
       refine A1.out.mono ?_;rintro e w' ⟨rfl,rfl⟩;go_wp2_with fail
       go_round
       case rel=>exact⟨k+1,by omega,by go_num,by rw[←ZV.out,HS.out],by rw[←ZV.out];exact HN.out⟩
       case measure=>simp[intOf];omega
     ·have E2:=jl hn
      have HF:=Lib.hid (jl (Vd.out hn))
      cases M
      ·have hs2:RY=acc*10+((c:Int)-48):=by simpa using hstep
       rw[hs2] at E2;have A1:=Lib.hid (vK (acc*10) ((c:Int)-48) _ _ E2 w2 hm (by unfold Fits;omega));clear E2 hstep hs2 hm hn;go_wp2_with fail
       refine M1.out.mono ?_;rintro e w' ⟨rfl,rfl⟩;go_wp2_with fail
       refine A1.out.mono ?_;rintro e w' ⟨rfl,rfl⟩;go_wp2_with fail
       go_ret2
       exact⟨by rw[HR.out,HF.out];rfl,hB'⟩
      ·have hs2:RY=acc*10+ -((c:Int)-48):=by simpa using hstep
       rw[hs2] at E2;have A1:=Lib.hid (vK (acc*10) (-((c:Int)-48)) _ _ E2 w2 hm (by unfold Fits;omega));clear E2 hstep hs2 hm hn;go_wp2_with fail
       refine M1.out.mono ?_;rintro e w' ⟨rfl,rfl⟩;go_wp2_with fail
       refine A1.out.mono ?_;rintro e w' ⟨rfl,rfl⟩;go_wp2_with fail
       go_ret2
       exact⟨by rw[HR.out,HF.out];rfl,hB'⟩
    ·have M1:=Lib.hid (Po acc 10 _ _ (jl hm) w2 hfit.out (by decide))
     have hn: ¬Fits RY:=by
      have hf:=hfit.out;intro hn;apply hm
      unfold Fits at hn hf⊢
      cases M
      ·have h1:=hsg.1 rfl
       have h2:RY=acc*10+((c:Int)-48):=by simpa using hstep
       omega
      ·have h1:=hsg.2 rfl
       have h2:RY=acc*10+ -((c:Int)-48):=by simpa using hstep
       omega
     have HF:=Lib.hid (jl (Vd.out hn));clear hstep hm hn hsg
     cases M
     ·have A1:=Lib.hid (vK 0 ((c:Int)-48) _ _ (jh (by unfold Fits;omega)) w2 (by decide) (by unfold Fits;omega))
      go_wp2_with fail
      refine M1.out.mono ?_;rintro e w' ⟨rfl,rfl⟩;go_wp2_with fail
      refine A1.out.mono ?_;rintro e w' ⟨rfl,rfl⟩;go_wp2_with fail
      go_ret2
      exact⟨by rw[HR.out,HF.out];rfl,hB'⟩
     ·have A1:=Lib.hid (vK 0 (-((c:Int)-48)) _ _ (jh (by unfold Fits;omega)) w2 (by decide) (by unfold Fits;omega))
      go_wp2_with fail
      refine M1.out.mono ?_;rintro e w' ⟨rfl,rfl⟩;go_wp2_with fail
      refine A1.out.mono ?_;rintro e w' ⟨rfl,rfl⟩;go_wp2_with fail
      go_ret2
      exact⟨by rw[HR.out,HF.out];rfl,hB'⟩
   ·obtain rfl:k=D.size:=by omega
    have hfull:signed M (val (d.take D.size))=signed M (val d):=by rw[HDs.out,RP]
    rw[hfull] at hfit⊢;have HF:=Lib.hid (jh hfit.out);clear hfull;go_wp2_with fail
    go_ret2
    exact⟨by rw[HR.out,HF.out];rfl,hB'⟩
end Go.Proofs.YtcmockbdkppglaaDoor
namespace Nt.Ev.YtcmockbdkppglaaDoor
open Go Go.RowKit Nt Nt.Num Go.Proofs.YtcmockbdkppglaaDoor
def Sm (s:ah):Int:=(Num.read s).1
def nrW (s:ah):Int:=(Num.read s).2
theorem TI (s:ah):(⟨s.toArray⟩:ByteArray).size=s.length:=by simp[ByteArray.size]
theorem WK {s:ah} (h:s.length≤1000):(⟨s.toArray⟩:ByteArray).size≤maxLen:=by rw[TI];unfold maxLen;omega
theorem TJ (s:ah) (h:s.length≤1000):ak nE 65 [.str s] (.tup [.int .i64 (Sm s),.int .i64 (nrW s)]):=by
 refine fJ fun G w vs d c a=>?_
 obtain⟨x,rfl,hx⟩:=Pn a;unfold aJ at hx;subst hx;refine(WJ ⟨s.toArray⟩ w (WK h)).mono ?_;rintro e w' ⟨rfl,b⟩;exact⟨_,rfl,b,Lc (pO _ _) (pO _ _)⟩
end Nt.Ev.YtcmockbdkppglaaDoor
