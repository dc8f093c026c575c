/-
  LeapBack, the row: for every input the law returns true, and each argument reads afterwards as before; its listed variables are tied to the program's text.
-/
import Derived.Test.YtcmockbdkppglaaDoorRows
import Derived.Lay
import Derived.Test.YtcmockbdkppglaaDoorCards
import Derived.Test.YtcmockbdkppglaaDoorTie
import Derived.SevenTiedAt
import Derived.Test.YtcmockbdkppglaaDoorMXVB
import Derived.Test.YtcmockbdkppglaaDoorMZ
set_option linter.all false
namespace Go.Proofs.YtcmockbdkppglaaDoor.leapBack
open Nt.Ev Nt.Ev.YtcmockbdkppglaaDoor Go.ChangeShapes Go.WideShapes Go.ChangeAt Go.RowKit Nt Nt.Num
open Go.ChangeMaps (open_string shut_string)
theorem own:ownKnob Tryd.prog.godebug=none:=by kernel_rfl
theorem laidOut:laidOutB Tryd.prog=true:=by kernel_rfl
theorem Zt {W:World} (h:laidMetH Tryd.prog Rows.leapBackRow.laid W):jQ Lp.fu (iH W) W:=by
 rw[MakeChecks.laidMetH_plain _ _ _ (by kernel_rfl)] at h;obtain⟨H,⟨g0,K,r,f0,O,E,w,y,s,z,⟨g1,M,u,f1,L,I,b,k,e,j,⟨G,C,o,N,F,Q,c,l,g,d,⟨R,D,A,P,B,J,p,x,t,q,_,_⟩,_⟩,_⟩,_⟩,_,_⟩:=h;obtain rfl:=Option.some.inj ((show Tryd.prog.globalNamed "noontide/leap.signs" =some 0 by kernel_rfl).symm.trans c);obtain rfl:=Option.some.inj ((show(Tryd.prog.globals[0]?).map (·.type)=some 59 by kernel_rfl).symm.trans l);obtain rfl:=Option.some.inj ((show Tryd.prog.globalNamed "noontide/stamp.signs" =some 1 by kernel_rfl).symm.trans b);obtain rfl:=Option.some.inj ((show(Tryd.prog.globals[1]?).map (·.type)=some 79 by kernel_rfl).symm.trans k);intro n v a;unfold Lp.fu at a;simp only at a
 cases i:n==0 with
 |true=>
  rw[i] at a;obtain rfl:n=0:=by simpa using i
  simp only[gY,fQ,aF] at a;subst a;exact⟨by kernel_rfl,Qs [(-1,[45]),(1,[43])] c g Tryd.underlying59 Tryd.underlying3 Tryd.underlying9 d⟩
 |false=>
  rw[i] at a
  cases m:n==1 with
  |true=>
   rw[m] at a;obtain rfl:n=1:=by simpa using m
   simp only[gY,fQ,aF] at a;subst a;exact⟨by kernel_rfl,Nc (f:=8) b e j (by kernel_rfl) (by kernel_rfl),trivial⟩
  |false=>
   rw[m] at a
   cases a
/-- The door's own heap,and the table that it takes from Go's own text. -/
noncomputable def wit (os:Os):World:={World.doorLaid Tryd.prog 400 os with heap:=(World.doorLaid Tryd.prog 400 os).heap.setIfInBounds 3 ((World.laidAll Tryd.prog os [("unicode/utf8.first",Rows.laid_unicode_utf8_first)]).heap.getD 3 (.cells #[] 0 (0,0)))}
set_option maxRecDepth 100000 in
theorem lifted (os : Os) (started : os.Started) (H : Type) (enc : TypeId × Value → H) :
    ReturnsInHanded {} Tryd.checked os 3 .any (fun w args => (Rows.leapBackSpec.pre enc Tryd.prog Tryd.f3 [] false w args ∧ laidMetH Tryd.prog Rows.leapBackRow.laid w) ∧ sizedMet enc Tryd.prog Tryd.f3 (OpenSpec.ofChange Rows.leapBackSpec) false w args)
      (Rows.leapBackSpec.post enc Tryd.prog Tryd.f3 false true false false) := by
  refine mh (C := Tryd.checked) (X := fun w _ => laidMetH Tryd.prog Rows.leapBackRow.laid w) (fun _ _ _ hh h => h.of_heap hh) own started (by kernel_rfl) Tryd.func3
    (ChangeSpec.witness_shaped (enc := enc) (C := Tryd.checked) (os := os) (X := fun w _ => laidMetH Tryd.prog Rows.leapBackRow.laid w) false (wit os) #[.slice none 0 0, .int .i64 0, .int .i64 0] 8 rfl (World.shaped_of_RefB (by kernel_rfl) (by kernel_rfl)) (by kernel_rfl) (by kernel_rfl) (by kernel_rfl)
      (laidMetH_of_parts3 (fuel := 8) (laidMet_of_run' 8 (by kernel_rfl) (by kernel_rfl)) (by kernel_rfl) (by kernel_rfl))) ?_
  intro W base args ds gs before hval0 hW _ hsz0 hL hS
  have hval : ∀ (j : Nat) t v, Tryd.f3.params[j]? = some t → args[j]? = some v → Value.okWide Tryd.prog W .any base t v := hval0
  have hsz : (DataW.weightsEach Tryd.prog (Tryd.f3.params.toList ++ Rows.leapBackSpec.plain.varTypes Tryd.prog) (ds ++ gs)).all (· ≤ reachBytes) = true := hsz0
  have hW' := hW
  obtain ⟨p, q, hA0, hV, rfl, hfz, hnd⟩ := hW
  have hA : DataW.TrodAll enc Tryd.prog W 0 (fun _ => true) true Tryd.f3.params.toList args.toList ds p := hA0
  rw [Tryd.params3] at hA hval hsz
  have hAll := hA
  obtain ⟨v0, vs0, d0, ds0, p0, q0, hargs, rfl, rfl, h0, r0⟩ := trodAll_cons hA
  obtain ⟨v1, vs1, d1, ds1, p1, q1, rfl, rfl, rfl, h1, r1⟩ := trodAll_cons r0
  obtain ⟨v2, vs2, d2, ds2, p2, q2, rfl, rfl, rfl, h2, r2⟩ := trodAll_cons r1
  obtain ⟨rfl, rfl, rfl⟩ := trodAll_nil r2
  obtain rfl : args = #[v0, v1, v2] := by cases args; simp_all
  obtain ⟨rfl, rfl⟩ := trodVars_none hV
  obtain ⟨sa0, sl0, sc0, rfl⟩ := okWide_slice Tryd.underlying22 (hval 0 22 v0 rfl rfl)
  obtain ⟨xs0, hr0, hn0, hx0⟩ := Iv (e := 30) (sh := [.int .i64, .int .i64]) (by kernel_rfl) (by kernel_rfl) h0
  have hx0 := UL (by kernel_rfl) hx0
  obtain ⟨a1, rfl, rfl, _, w1⟩ := open_int Tryd.underlying2 (hval 1 2 v1 rfl rfl) h1
  obtain ⟨a2, rfl, rfl, _, w2⟩ := open_int Tryd.underlying2 (hval 2 2 v2 rfl rfl) h2
  clear hA0 hval0
  refine (EW (E := Lp.fu) (args := [.sl 30 [.int .i64, .int .i64] none xs0, .int .i64 a1, .int .i64 a2]) (vs := [.slice sa0 sl0 sc0, .int .i64 a1, .int .i64 a2]) (Lp.UK xs0 a1 a2) (Zt hL) (.cons hr0 (.cons (by unfold aJ; rfl) (.cons (by unfold aJ; rfl) .nil)))).mono fun e W' ⟨he, gN⟩ => ?_
  subst he
  exact ⟨_, rfl, _, _, _, [], _, [], hW', trodAll_mk1 (shut_bool Tryd.underlying4 _), q9 laidOut gN _ _ _ _ (by kernel_rfl) hAll, rfl, gN.frame _, fun h => by cases h⟩

theorem over:Rows.LeapBackSaid:=
 OpenClaim.holds_of_wide 3 Tryd.f3 rfl rfl rfl rfl rfl rfl rfl ⟨rfl,rfl,rfl,rfl,rfl⟩ rfl rfl rfl rfl rfl (by kernel_rfl) Tryd.func3 (by kernel_rfl)
  (B5 (by kernel_rfl)) (by unfold Func.isWrapper;rw[if_neg (acF (by kernel_rfl))];exact⟨rfl,rfl⟩)
  (fun os a H enc _=>lifted os a H enc)
theorem card:Rows.LeapBackCardSaid:=
 Claim7.holds_tied_plain_at .later [] _ true _ _
  over (fun _ h=>by cases h) (by kernel_rfl) (fun _ h=>by cases h) leapBack_row_tie rfl ⟨rfl,rfl⟩ (by kernel_rfl) rfl
  (fun f fn d b=>by
   obtain rfl:f=3:=Option.some.inj ((show Tryd.prog.funcNamed "noontide/noontidelaw53.LeapBack" =some 3 by kernel_rfl).symm.trans d) |>.symm;obtain rfl:fn=Tryd.f3:=(Option.some.inj (Tryd.func3.symm.trans b)).symm;exact⟨by kernel_rfl,fun j t c=>by
    rw[Tryd.params3] at c;have a: ∀t∈[22,2,2],Tryd.prog.wantsStandIn t=false:=by
     intro t h;simp only[Xr,List.mem_nil_iff,or_false] at h;rcases h with rfl|rfl|rfl|rfl|rfl|rfl|rfl|rfl<;>kernel_rfl
    exact a t (Bz (by simpa using c))⟩)
  (by kernel_rfl)
#print axioms card
end Go.Proofs.YtcmockbdkppglaaDoor.leapBack
