/-
  strings.IndexRune at a rune of 128 or more in a string of ASCII bytes; strings.
-/
import Derived.Shelf.Strings.IndexAnyAll
import Derived.Shelf.Small.Utf8
import Derived.Laws.Runes
import Derived.Laws.RangeAny
import Derived.Lib.OthersKept
import Derived.WalkMore
import Derived.Lib.TrimU
import Derived.WalkKit
import Derived.WalkSpells
import Derived.WalkLawsBesides
import Derived.Deep.QuietTactic
import Derived.BigQuiet
import Derived.Handy
import Derived.Shelf.RegionOpenPlain
set_option linter.all false
namespace Nt.AnyS
open Go Go.Proofs Go.Shelf Go.RowKit Go.Lib
variable {P:Program} {ρ:Ren}
theorem EH {P:Program} {f:FuncId} {args:Array Value} {w:World} {k n:Nat} {v:Value}
  (h:Calls P f args (w.drewN (k+n)) fun e w'=>e=.returned v∧w'=w.drewN (k+n)):Calls P f args (w.drewN (k+n)) fun e a=>e=.returned v∧ ∃m,a=w.drewN (k+m):=
 h.mono fun e w' ⟨c,b⟩=>⟨c,n,b⟩
theorem QD: ∀(l:List UInt8) (c:UInt8),(∀b∈l,b≠c)→Lib.indexByte l c= -1
 |[],_,_=>rfl
 |b::l,c,h=>by have d:=QD l c (fun b e=>h b (List.mem_cons_of_mem _ e));have a:(b==c)=false:=beq_eq_false_iff_ne.2 (h b List.mem_cons_self);unfold Lib.indexByte;rw[a,d];rfl
set_option maxHeartbeats 4000000 in
set_option maxRecDepth 1000000 in
theorem JD (L:Lays.n152 P ρ) (s:ByteArray) (w:World) (hs: ∀b∈s.data.toList,b.toNat<128):
  Calls P (ρ.f 152) #[.string s,.int .i32 65533] w fun e w'=>e=.returned (.int .i64 (-1))∧Below w.heap.size w w':=by
 have HA:Aside (∀b∈s.data.toList,b.toNat<128):=hs;clear hs;have t3:=L.t3;have a3:=L.a3;have z3:=L.z3;have v3:=L.v3;have t4:=L.t4;have a4:=L.a4;have z4:=L.z4;have v4:=L.v4;have t5:=L.t5;have a5:=L.a5;have z5:=L.z5;have v5:=L.v5;have t9:=L.t9;have a9:=L.a9;have z9:=L.z9;have v9:=L.v9;have t21:=L.t21;have a21:=L.a21;have z21:=L.z21;have v21:=L.v21;go_enter L.f152,Body.n152_ntmps ρ;go_wp2
 go_loopg [5,6] s.size (fun gf _ _ wx=>∃pos:Nat,wx.heap[w.heap.size]? =some (.stringIter s pos)∧Below w.heap.size w wx∧pos+gf=s.size)
 case atStart=>exact⟨0,World.iter_heap w s 0,(Below.refl _ w).alloc (Nat.le_refl _) _,by omega⟩
 case round=>
  obtain⟨pos,hit,hbw,hfu⟩:=hrel
  cases gk with
  |zero=>
   have hps: ¬pos<s.size:=by omega
   have hnx: ∀ty,(Instr.next (.pointer (some ⟨w.heap.size,0,none⟩)) true ty).run P wr=_:=fun ty=>Lib.run_next_end_at wr w.heap.size s pos ty hit hps
   go_wp2
   go_ret
   exact⟨rfl,hbw⟩
  |succ g=>
   have hps:pos<s.size:=by omega
   obtain⟨x,hx⟩: ∃x:UInt8,s[pos]'hps=x:=⟨_,rfl⟩
   have hx128:x.toNat<128:=HA.out x (by rw[←hx];exact Array.getElem_mem_toList (xs:=s.data) hps);have hnx:=fun ty=>Lib.run_next_ascii_at (P:=P) wr w.heap.size s pos ty hit hps (by rw[hx];exact hx128)
   rw[hx] at hnx;have hne:((x.toNat:Int)==65533)=false:=beq_eq_false_iff_ne.2 (by omega);have hit2:=Lib.iterAt_heap wr w.heap.size s pos (pos+1) hit;have hbw2:=Lib.below_iterAt hbw (k:=w.heap.size) (Nat.le_refl _) s (pos+1);obtain⟨W,hWd⟩: ∃W,wr.iterAt w.heap.size s (pos+1)=W:=⟨_,rfl⟩
   rw[hWd] at hnx hit2 hbw2;clear hx;go_wp2;go_roundg g
   case measure=>omega
   case rel=>exact⟨pos+1,hit2,hbw2,by omega⟩
set_option maxHeartbeats 4000000 in
set_option maxRecDepth 1000000 in
theorem JE (L:Lays.n152 P ρ) (s:ByteArray) (r:Int) (w:World) (h0:128≤r) (hE:r≠65533) (hv:Utf8.valid r=false):
  Calls P (ρ.f 152) #[.string s,.int .i32 r] w fun e w'=>e=.returned (.int .i64 (-1))∧w'=w:=by
 have t3:=L.t3;have a3:=L.a3;have z3:=L.z3;have v3:=L.v3;have t4:=L.t4;have a4:=L.a4;have z4:=L.z4;have v4:=L.v4;have t5:=L.t5;have a5:=L.a5;have z5:=L.z5;have v5:=L.v5;have t9:=L.t9;have a9:=L.a9;have z9:=L.z9;have v9:=L.v9;have t21:=L.t21;have a21:=L.a21;have z21:=L.z21;have v21:=L.v21;have e119: ∀args w,(callFunc (ρ.f 119) args).run P w=.ok (.enter (ρ.f 119) args) w:=enters_of L.f119 (by kernel_rfl) rfl;have hl:(0:Int)≤r:=by omega
 have hh: ¬r<128:=by omega
 have hb:(r==65533)=false:=beq_eq_false_iff_ne.2 hE;have hvr:Lib.validRune r=false:=by rw[show Lib.validRune r=Go.validRune r from rfl,←validRune_eq,hv]
 go_enter L.f152,Body.n152_ntmps ρ
 go_wp2_with (go_at_fn (ρ.f 119);refine(Any.utf8_ValidRune {L with} _ _).mono ?_;rintro e w' ⟨rfl,hw⟩;rw[hw,hvr])
 go_ret
 exact⟨rfl,rfl⟩
set_option maxHeartbeats 4000000 in
set_option maxRecDepth 1000000 in
theorem Fs (L : Lays.n152 P ρ) (s : ByteArray) (r : Int) (w : World) (h0 : 128 ≤ r) (hE : r ≠ 65533) (hv : Utf8.valid r = true) (hs : ∀ b ∈ s.data.toList, b.toNat < 128) (hsz : s.size < 4294967281) :
    Calls P (ρ.f 152) #[.string s, .int .i32 r] w fun e w' => e = .returned (.int .i64 (-1)) ∧ ∃ n, w' = w.drewN n := by
  have HA : Aside (∀ b ∈ s.data.toList, b.toNat < 128) := hs
  clear hs
  have mixed := L.mixed
  have t3 := L.t3; have a3 := L.a3; have z3 := L.z3; have v3 := L.v3
  have t4 := L.t4; have a4 := L.a4; have z4 := L.z4; have v4 := L.v4
  have t5 := L.t5; have a5 := L.a5; have z5 := L.z5; have v5 := L.v5
  have t9 := L.t9; have a9 := L.a9; have z9 := L.z9; have v9 := L.v9
  have t21 := L.t21; have a21 := L.a21; have z21 := L.z21; have v21 := L.v21
  have e119 : ∀ args w, (callFunc (ρ.f 119) args).run P w = .ok (.enter (ρ.f 119) args) w := enters_of L.f119 (by kernel_rfl) rfl
  have e137 : ∀ args w, (callFunc (ρ.f 137) args).run P w = .ok (.enter (ρ.f 137) args) w := enters_of L.f137 (by kernel_rfl) rfl
  have hl : (0 : Int) ≤ r := by omega
  have hh : ¬ r < 128 := by omega
  have hb : (r == 65533) = false := beq_eq_false_iff_ne.2 hE
  have hvr : Lib.validRune r = true := by rw [show Lib.validRune r = Go.validRune r from rfl, ← validRune_eq, hv]
  obtain ⟨g1, g2, g3⟩ := encode_facts r hv h0
  obtain ⟨rs, hrs⟩ : ∃ rs, Utf8.encode r = rs := ⟨_, rfl⟩
  rw [hrs] at g1 g2 g3
  have s21 : (P.underlying (ρ.t 21)).isSome = true := by rw [t21]; rfl
  obtain ⟨k, hkr, hk⟩ : ∃ k : Nat, k < rs.size ∧ rs.size = k + 1 := ⟨rs.size - 1, by omega, by omega⟩
  obtain ⟨c, hc⟩ : ∃ c : UInt8, rs[k]'hkr = c := ⟨_, rfl⟩
  have hc128 : 128 ≤ c.toNat := by
    have := g3 (by omega)
    simpa [hk, hc] using this
  clear g3
  have ek : IntKind.i64.wrap ((rs.size : Int) - 1) = (k : Int) := by
    rw [IntWalk.i64_in _ (by omega)]; omega
  have hkz : (k : Int) < (rs.size : Int) := by omega
  have hk4 : k ≤ 3 := by omega
  clear hk g1 g2
  go_enter L.f152, Body.n152_ntmps ρ
  go_wp2_with (go_at_fn (ρ.f 119); refine (Any.utf8_ValidRune { L with } _ _).mono ?_; rintro e w' ⟨rfl, hw⟩; rw [hw, hvr])
  go_step3
  go_wp2
  go_loopg [9, 10] 0 (fun _ s9 s10 wx => s9 = .int .i64 (k : Int) ∧ wx = w)
  case atStart => exact ⟨by go_num, rfl⟩
  case round =>
    obtain ⟨rfl, rfl⟩ := hrel
    by_cases hi : k < s.size
    · have hiz : (k : Int) < (s.size : Int) := by omega
      obtain ⟨x, hx⟩ : ∃ x : UInt8, s[k]'hi = x := ⟨_, rfl⟩
      have hx128 : x.toNat < 128 := HA.out x (by rw [← hx]; exact Array.getElem_mem_toList (xs := s.data) hi)
      have hne : ((x.toNat : Int) == (c.toNat : Int)) = false := beq_eq_false_iff_ne.2 (by omega)
      have hback : ((c.toNat : Int)).toNat.toUInt8 = c := by simp
      have hidx : Lib.indexByte (s.extract (k + 1) s.size).data.toList c = -1 := QD _ _ fun b hb hbc => by
        have := HA.out b (mem_extract hb)
        rw [hbc] at this
        omega
      have hm1 : (-1 : Int) < 0 := by decide
      have ek1 : IntKind.i64.wrap ((k : Int) + 1) = (k : Int) + 1 := IntWalk.i64_in _ (by omega)
      have hsl : ∀ W, (Instr.slice (ρ.t 9) (.string s) (some (.int .i64 ((k : Int) + 1))) none none).run P W = .ok (.string (s.extract (k + 1) s.size)) W := fun W => by
        rw [run_slice_string_from_if W (ρ.t 9) s .i64 ((k : Int) + 1) t9, if_pos (by omega)]
        rfl
      have hcall : ∀ W, Calls P (ρ.f 137) #[.string (s.extract (k + 1) s.size), .int .u8 (c.toNat : Int)] W (fun e w' => e = .returned (.int .i64 (-1)) ∧ w' = W) := fun W => by
        refine (Any.strings_IndexByte { L with } _ _ _).mono ?_
        rintro e w' ⟨rfl, hw⟩
        rw [hback, hidx]
        exact ⟨rfl, hw⟩
      go_wp2
      go_step3
      go_wp2
      go_quiet_o (fail)
      go_wp2
      go_quiet_o ((go_at_fn (ρ.f 137); first | exact Calls.quiet_of_same (hcall _) | exact EH (hcall _)))
      go_wp2
      show bodyPost P (Body.n152 ρ) (fun e w' => e = .returned (.int .i64 (-1)) ∧ ∃ n, w' = wr.drewN n) Exit.ret _ _
      go_ret
      exact ⟨rfl, _, rfl⟩
    · have hiz : ¬ (k : Int) < (s.size : Int) := by omega
      go_wp2
      go_ret
      exact ⟨rfl, 0, rfl⟩
theorem uK (L:Lays.n152 P ρ) (s:ByteArray) (r:Int) (w:World) (g:128≤r) (h: ∀b∈s.data.toList,b.toNat<128) (d:s.size<4294967281):
  Calls P (ρ.f 152) #[.string s,.int .i32 r] w fun e w'=>e=.returned (.int .i64 (-1))∧Below w.heap.size w w':=by
 by_cases hE:r=65533
 ·subst hE;exact JD L s w h
 cases i:Utf8.valid r with
 |true=>exact(Fs L s r w g hE i h d).mono fun _ _ ⟨c,n,a⟩=>⟨c,a▸below_drewN (Below.refl _ _) n⟩
 |false=>exact(JE L s r w g hE i).mono fun _ _ ⟨c,a⟩=>⟨c,a▸Below.refl _ _⟩
theorem conts0 (n b0 b a c:Nat):
  (2≤(decodeN n b0 b a c).2→b/64=2∧1<n)∧(3≤(decodeN n b0 b a c).2→a/64=2∧2<n)∧(4≤(decodeN n b0 b a c).2→c/64=2∧3<n)∧(decodeN n b0 b a c).2≤4:=by
 unfold decodeN;repeat' split
 all_goals (simp only;omega)
theorem conts (n b0 a b c:Nat):
  (2≤(decodeN n b0 a b c).2→128≤a∧1<n)∧(3≤(decodeN n b0 a b c).2→128≤b∧2<n)∧(4≤(decodeN n b0 a b c).2→128≤c∧3<n)∧(decodeN n b0 a b c).2≤4:=by
 obtain⟨f,d,g,e⟩:=conts0 n b0 a b c;exact⟨fun h=>by have:=f h;omega,fun h=>by have:=d h;omega,fun h=>by have:=g h;omega,e⟩
theorem get_list (s:ByteArray) (i:Nat) (b:UInt8) (h:s.data.toList[i]? =some b):s.get! i=b:=by
 have a:i<s.size:=by have:=(List.getElem?_eq_some_iff.1 h).1;rw[Lib.size_eq];exact this
 have e:=get_at s i a;rw[Nat.add_zero] at e;rw[e];have:=Lib.data_getElem? s i a;rw[h] at this;exact(Option.some.inj this).symm
theorem SC {s:ByteArray} {c:List UInt8} {a:Nat} (r: ∀b∈c,b.toNat<128) (h:Lib.NoAny s.data.toList c a) (k:a<s.size) (n:128≤(s[a]'k).toNat):
  Lib.NoAny s.data.toList c (a+(Utf8.decode s a).2)∧a+(Utf8.decode s a).2≤s.size:=by
 have l:=get_at s a k;rw[Nat.add_zero] at l;have e:=conts (s.size-a) (s.get! a).toNat (s.get! (a+1)).toNat (s.get! (a+2)).toNat (s.get! (a+3)).toNat;rw[←decode_at] at e;obtain⟨m,o,q,u⟩:=e;have t:=width_pos s a;refine⟨fun j b v e=>?_,by omega⟩;by_cases g:j<a
 ·exact h j b g e
 have p:=get_list s j b e;have i:128≤b.toNat:=by
  rw[←p];obtain d|d|d|d:j=a∨j=a+1∨j=a+2∨j=a+3:=by omega
  ·rw[d,l];exact n
  ·rw[d];exact(m (by omega)).1
  ·rw[d];exact(o (by omega)).1
  rw[d];exact(q (by omega)).1
 cases f:c.contains b with
 |false=>rfl
 |true=>have:=r b (List.contains_iff_mem.1 f);omega
set_option maxHeartbeats 8000000 in
set_option maxRecDepth 1000000 in
theorem Fu (L:Lays.n153 P ρ) (s chars:ByteArray) (w:World) (h2:2≤chars.size) (h8:s.size≤8) (hcs:chars.size<4294967281) (hascii: ∀b∈chars.data.toList,b.toNat<128):
  Calls P (ρ.f 153) #[.string s,.string chars] w fun e w'=>e=.returned (.int .i64 (Lib.indexAny s.data.toList chars.data.toList))∧Below w.heap.size w w':=by
 have HA:Aside (∀b∈chars.data.toList,b.toNat<128):=hascii;clear hascii;have hemp:chars.toList.isEmpty=false:=by
  rw[Lib.toList_data]
  cases h:chars.data.toList with
  |nil=>have:=Lib.size_eq chars;rw[h,List.length_nil] at this;omega
  |cons _ _=>rfl
 have hn1:((chars.size:Int)==1)=false:=beq_eq_false_iff_ne.2 (by omega);have h8z:decide ((8:Int)<(s.size:Int))=false:=decide_eq_false (by omega);have t3:=L.t3;have a3:=L.a3;have z3:=L.z3;have v3:=L.v3;have t4:=L.t4;have a4:=L.a4;have z4:=L.z4;have v4:=L.v4;have t5:=L.t5;have a5:=L.a5;have z5:=L.z5;have v5:=L.v5;have t9:=L.t9;have a9:=L.a9;have z9:=L.z9;have v9:=L.v9;have t21:=L.t21;have a21:=L.a21;have z21:=L.z21;have v21:=L.v21;have e152: ∀args w,(callFunc (ρ.f 152) args).run P w=.ok (.enter (ρ.f 152) args) w:=enters_of L.f152 (by kernel_rfl) rfl;have e226: ∀args w,(callFunc (ρ.f 226) args).run P w=.ok (.enter (ρ.f 226) args) w:=enters_of L.f226 (by kernel_rfl) rfl;have L152:Lays.n152 P ρ:={L with}
 go_enter L.f153,Body.n153_ntmps ρ
 go_wp2_with (go_at_fn (ρ.f 226);refine(Any.strings_shouldUseASCIISet {L with} _ _).mono ?_;rintro e w' ⟨rfl,hw⟩;rw[hw,h8z])
 go_loopg [9,10] s.size (fun gf _ _ wx=>∃pos:Nat,wx.heap[w.heap.size]? =some (.stringIter s pos)∧Below w.heap.size w wx∧Lib.NoAny s.data.toList chars.data.toList pos∧s.size≤pos+gf∧pos≤s.size)
 case atStart=>exact⟨0,World.iter_heap w s 0,(Below.refl _ w).alloc (Nat.le_refl _) _,Lib.NoAny.zero _ _,by omega,by omega⟩
 case round=>
  obtain⟨pos,hit,hbw,hno,hfu,hle⟩:=hrel;have HN:Aside (Lib.NoAny s.data.toList chars.data.toList pos):=hno;clear hno;by_cases hps:pos<s.size
  ·obtain⟨g,rfl⟩: ∃g,gk=g+1:=⟨gk-1,by omega⟩
   have hnx: ∀ty,(Instr.next (.pointer (some ⟨w.heap.size,0,none⟩)) true ty).run P wr=_:=fun ty=>Lib.run_next_any_at wr w.heap.size s pos ty hit hps
   have hwd:=Lib.width_pos s pos;obtain⟨x,hx⟩: ∃x:UInt8,s[pos]'hps=x:=⟨_,rfl⟩
   have Hx:Aside (s.data.toList[pos]? =some x):=by rw[←hx];exact Lib.data_getElem? s pos hps
   by_cases h128:x.toNat<128
   ·
    have hde:=decode_ascii s pos hps (by rw[hx];exact h128);rw[hx] at hde;rw[hde] at hnx hwd;clear hde hx hwd;have hit2:=Lib.iterAt_heap wr w.heap.size s pos (pos+1) hit;have hbw2:=Lib.below_iterAt hbw (k:=w.heap.size) (Nat.le_refl _) s (pos+1);obtain⟨W,hWd⟩: ∃W,wr.iterAt w.heap.size s (pos+1)=W:=⟨_,rfl⟩
    simp only[] at hnx;rw[hWd] at hnx hit2 hbw2;have hcon:=Lib.contains_iff_indexByte chars.data.toList x;have hback:((x.toNat:Int)).toNat.toUInt8=x:=by simp
    cases hin:chars.data.toList.contains x
    ·rw[hin] at hcon
     have hlt: ¬((0:Int)≤Lib.indexByte chars.data.toList x):=of_decide_eq_false hcon.symm;clear hcon;go_wp2_with (go_at_fn (ρ.f 152);refine(Any.strings_IndexRune_ascii {L with} _ _ _ (by omega) (by omega)).mono ?_;rintro e w' ⟨rfl,hw⟩;rw[hw,hback]);go_roundg g
     case measure=>omega
     case rel=>exact⟨pos+1,hit2,hbw2,HN.out.succ Hx.out hin,by omega,by omega⟩
    rw[hin] at hcon;have hge:(0:Int)≤Lib.indexByte chars.data.toList x:=of_decide_eq_true hcon.symm;clear hcon;go_wp2_with (go_at_fn (ρ.f 152);refine(Any.strings_IndexRune_ascii {L with} _ _ _ (by omega) (by omega)).mono ?_;rintro e w' ⟨rfl,hw⟩;rw[hw,hback]);go_ret
    exact⟨by rw[Lib.indexAny_hit HN.out Hx.out hin];rfl,hbw2⟩
   ·
    have hhi:=decode_high s pos hps (by rw[hx];omega);obtain⟨TP,hle2⟩:=SC HA.out HN.out hps (by rw[hx];omega);obtain⟨R,hR⟩: ∃R,(Utf8.decode s pos).1=R:=⟨_,rfl⟩
    obtain⟨K,hK⟩: ∃K,(Utf8.decode s pos).2=K:=⟨_,rfl⟩
    rw[hR,hK] at hnx hhi;rw[hK] at hwd TP hle2;have HN2:Aside (Lib.NoAny s.data.toList chars.data.toList (pos+K)):=TP;clear TP hx;have hit2:=Lib.iterAt_heap wr w.heap.size s pos (pos+K) hit;have hbw2:=Lib.below_iterAt hbw (k:=w.heap.size) (Nat.le_refl _) s (pos+K);obtain⟨W,hWd⟩: ∃W,wr.iterAt w.heap.size s (pos+K)=W:=⟨_,rfl⟩
    rw[hWd] at hnx hit2 hbw2;have cR:Calls P (ρ.f 152) #[.string chars,.int .i32 (R:Int)] W _:=uK L152 chars (R:Int) W (by omega) HA.out hcs;have hm1: ¬((0:Int)≤ -1):=by decide
    go_wp2_with (go_at_fn (ρ.f 152);refine cR.mono ?_;rintro e W' ⟨rfl,hb1⟩)
    go_roundg g
    case measure=>omega
    case rel=>have hlt:w.heap.size<W.heap.size:=(Array.getElem?_eq_some_iff.1 hit2).1;exact⟨pos+K,by rw[hb1.block _ hlt];exact hit2,hbw2.trans (hb1.mono hbw2.size),HN2.out,by omega,hle2⟩
  obtain rfl:pos=s.size:=by omega
  have hnx: ∀ty,(Instr.next (.pointer (some ⟨w.heap.size,0,none⟩)) true ty).run P wr=_:=fun ty=>Lib.run_next_end_at wr w.heap.size s s.size ty hit hps
  go_wp2
  go_ret
  exact⟨by rw[Lib.indexAny_none (by rw[←Lib.size_eq];exact HN.out)];rfl,hbw⟩
theorem LQ (L:Lays.n153 P ρ) (c:(P.info? (ρ.t 116)).map (fun i=>(i.zero,i.size))=some (some (.agg (Array.replicate 256 (.bool false))),256)) (s a:ByteArray) (w:World) (l:s.size<4294967281) (d:a.size<4294967281) (g:2≤a.size) (h: ∀b∈a.data.toList,b.toNat<128):
  Calls P (ρ.f 153) #[.string s,.string a] w fun e w'=>e=.returned (.int .i64 (Lib.indexAny s.data.toList a.data.toList))∧Below w.heap.size w w':=by
 by_cases k:s.size≤8
 ·exact Fu L s a w g k d h
 refine(Any.strings_IndexAny_long L (zero_of_info c).1 (zero_of_info c).2 s a w g (by omega) l d (fun j b m=>h b (List.mem_of_getElem? m))).mono fun e w' ⟨n,g⟩=>⟨n,?_⟩
 rw[g];exact((Below.refl _ _).alloc (Nat.le_refl _) _).alloc (by simp) _
end Nt.AnyS
