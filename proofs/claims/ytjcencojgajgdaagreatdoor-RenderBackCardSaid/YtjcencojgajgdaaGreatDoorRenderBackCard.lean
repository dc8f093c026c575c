/-
  RenderBack, the row: for every input the law returns true, and each argument reads afterwards as before; its listed variables are tied to the program's text.
-/
import Derived.Test.YtjcencojgajgdaaGreatDoorRows
import Derived.Lay
import Derived.Test.YtjcencojgajgdaaGreatDoorCards
import Derived.Test.YtjcencojgajgdaaGreatDoorTie
import Derived.SevenTiedAt
import Derived.Test.YtjcencojgajgdaaGreatDoorMXR
set_option linter.all false
namespace Go.Proofs.YtjcencojgajgdaaGreatDoor.renderBack
open Nt.Ev Nt.Ev.YtjcencojgajgdaaGreatDoor Go.ChangeShapes Go.WideShapes Go.ChangeAt Go.RowKit Nt Nt.Num
open Go.ChangeMaps (open_string shut_string)
theorem own:ownKnob Tryz.prog.godebug=none:=by kernel_rfl
theorem laidOut:laidOutB Tryz.prog=true:=by kernel_rfl
theorem globs {W:World} {m:Int} (h:laidMetH Tryz.prog Rows.renderBackRow.laid W) (N:W.cell? ⟨3,0,none⟩=some (.int .i64 m)):nY (@eE ⟨m⟩) (kM W):=by
 letI:kH:=⟨m⟩
 rw[MakeChecks.laidMetH_plain _ _ _ (by kernel_rfl)] at h;obtain⟨T,⟨g0,Y,E,f0,p0,q0,b,t,y,u,⟨g1,t1,M,U,p1,q1,e,o,w,j,⟨g2,t2,J,f2,R,q2,K,G,C,B,⟨g3,t3,P,f3,Q,V,d,q,k,i,⟨Z,S,F,f4,p4,q4,c,z,x,s,⟨g5,t5,H,f5,p5,X,O,D,L,I,_,_⟩,_⟩,_⟩,_⟩,_⟩,_⟩,_,_⟩:=h;obtain rfl:=Option.some.inj ((show Tryz.prog.globalNamed "noontide/era.first" =some 1 by kernel_rfl).symm.trans c);obtain rfl:=Option.some.inj ((show(Tryz.prog.globals[1]?).map (·.type)=some 45 by kernel_rfl).symm.trans z);obtain rfl:=Option.some.inj ((show Tryz.prog.globalNamed "noontide/words.weekdays" =some 2 by kernel_rfl).symm.trans e);obtain rfl:=Option.some.inj ((show(Tryz.prog.globals[2]?).map (·.type)=some 140 by kernel_rfl).symm.trans o);obtain rfl:=Option.some.inj ((show Tryz.prog.globalNamed "noontide/words.months" =some 0 by kernel_rfl).symm.trans b);obtain rfl:=Option.some.inj ((show(Tryz.prog.globals[0]?).map (·.type)=some 117 by kernel_rfl).symm.trans t);obtain rfl:=Option.some.inj ((show Tryz.prog.globalNamed "noontide/amount.parts" =some 4 by kernel_rfl).symm.trans d);obtain rfl:=Option.some.inj ((show(Tryz.prog.globals[4]?).map (·.type)=some 232 by kernel_rfl).symm.trans q);intro n v a;unfold eE at a;simp only at a
 cases r:n==1 with
 |true=>
  rw[r] at a;obtain rfl:n=1:=by simpa using r
  simp only[lC,jW,aT] at a;subst a;exact⟨by kernel_rfl,xH (f:=8) c x s (by kernel_rfl) (by kernel_rfl)⟩
 |false=>
  rw[r] at a
  cases p:n==2 with
  |true=>
   rw[p] at a;obtain rfl:n=2:=by simpa using p
   simp only[lC,jW,aT] at a;subst a;exact⟨by kernel_rfl,xH (f:=8) e w j (by kernel_rfl) (by kernel_rfl)⟩
  |false=>
   rw[p] at a
   cases g:n==0 with
   |true=>
    rw[g] at a;obtain rfl:n=0:=by simpa using g
    simp only[lC,jW,aT] at a;subst a;exact⟨by kernel_rfl,xH (f:=8) b y u (by kernel_rfl) (by kernel_rfl)⟩
   |false=>
    rw[g] at a
    cases A:n==4 with
    |true=>
     rw[A] at a;obtain rfl:n=4:=by simpa using A
     simp only[lC,jW,aT] at a;subst a;exact⟨by kernel_rfl,xH (f:=8) d k i (by kernel_rfl) (by kernel_rfl)⟩
    |false=>
     rw[A] at a
     cases l:n==3 with
     |true=>
      rw[l] at a;obtain rfl:n=3:=by simpa using l
      simp only[lC,jW,aT] at a;subst a;exact⟨rfl,adN N⟩
     |false=>rw[l] at a;cases a
set_option maxRecDepth 100000 in
theorem lifted (os : Os) (started : os.Started) (H : Type) (enc : TypeId × Value → H) :
    ReturnsInHanded {} Tryz.checked os 3 .any (fun w args => (Rows.renderBackSpec.pre enc Tryz.prog Tryz.f3 [] false w args ∧ laidMetH Tryz.prog Rows.renderBackRow.laid w) ∧ sizedMet enc Tryz.prog Tryz.f3 (OpenSpec.ofChange Rows.renderBackSpec) false w args)
      (Rows.renderBackSpec.post enc Tryz.prog Tryz.f3 false true false false) := by
  refine qf (C := Tryz.checked) (X := fun w _ => laidMetH Tryz.prog Rows.renderBackRow.laid w) (fun _ _ _ hh h => h.of_heap hh) own started (by kernel_rfl) Tryz.func3
    (ChangeSpec.witness_shaped (enc := enc) (C := Tryz.checked) (os := os) (X := fun w _ => laidMetH Tryz.prog Rows.renderBackRow.laid w) false (World.laidAll Tryz.prog os Rows.renderBackRow.laid) #[.agg #[.slice none 0 0, .slice none 0 0, .slice none 0 0]] 8 (World.laidAll_os _ _ _) (World.shaped_of_ZipB (by kernel_rfl) (by kernel_rfl)) (by kernel_rfl) (by kernel_rfl) (by kernel_rfl)
      (by rw [MakeChecks.laidMetH_plain _ _ _ (by kernel_rfl)]; exact laidMet_laidAll _ (by kernel_rfl) (by kernel_rfl))) ?_
  intro W base args ds gs before hval0 hW _ hsz0 hL hS
  have hval : ∀ (j : Nat) t v, Tryz.f3.params[j]? = some t → args[j]? = some v → Value.okWide Tryz.prog W .any base t v := hval0
  have hsz : (DataW.weightsEach Tryz.prog (Tryz.f3.params.toList ++ Rows.renderBackSpec.plain.varTypes Tryz.prog) (ds ++ gs)).all (· ≤ reachBytes) = true := hsz0
  have hW' := hW
  obtain ⟨p, q, hA0, hV, rfl, hfz, hnd⟩ := hW
  have hA : DataW.TrodAll enc Tryz.prog W 0 (fun _ => true) true Tryz.f3.params.toList args.toList ds p := hA0
  rw [Tryz.params3] at hA hval hsz
  have hAll := hA
  obtain ⟨v0, vs0, d0, ds0, p0, q0, hargs, rfl, rfl, h0, r0⟩ := trodAll_cons hA
  obtain ⟨rfl, rfl, rfl⟩ := trodAll_nil r0
  obtain rfl : args = #[v0] := by cases args; simp_all
  obtain ⟨rfl, rfl⟩ := trodVars_none hV
  obtain ⟨a0, cs0, rfl, hp0, hf0, ho0⟩ := afc (sh := [.sl 53 [.str, .int .i64, .int .i64, .int .i64, .int .i64, .int .i64, .int .i64, .int .i64, .int .i64, .int .i64, .str], .sl 57 [.str, .sl 51 [.int .i64, .int .i64, .int .i64, .str, .str, .bool, .int .i64, .int .i64, .int .i64, .int .i64, .int .i64, .int .i64, .int .i64]], .sl 59 [.str, .str]]) (by kernel_rfl) (by kernel_rfl) (by kernel_rfl) (hval 0 26 v0 rfl rfl) h0
  obtain ⟨m, hm⟩ := Go.Proofs.Tryz.laysM219.s1_3 W hS
  letI : kH := ⟨m⟩
  obtain ⟨x0, y0, z0, rfl, tb0, fr0, fe0⟩ := Rx.afG (P := Tryz.prog) (by kernel_rfl) (by kernel_rfl) (by kernel_rfl) (by kernel_rfl) hf0 ho0
  clear hA0 hval0
  refine (P4 (E := eE) (args := [.agg [x0, y0, z0]]) (vs := [.agg a0]) (Rr.rb_all x0 y0 z0 tb0 fr0 fe0) (globs hL hm) (.cons (by unfold aV; exact ⟨a0.toList, by simp, (fe _ _).2 hp0⟩) .nil)).mono fun e W' ⟨he, mh⟩ => ?_
  subst he
  exact ⟨_, rfl, _, _, _, [], _, [], hW', trodAll_mk1 (shut_bool Tryz.underlying4 _), yG laidOut mh _ _ _ _ (by kernel_rfl) hAll, rfl, mh.frame _, fun h => by cases h⟩

theorem over:Rows.RenderBackSaid:=
 OpenClaim.holds_of_wide 3 Tryz.f3 rfl rfl rfl rfl rfl rfl rfl ⟨rfl,rfl,rfl,rfl,rfl⟩ rfl rfl rfl rfl rfl (by kernel_rfl) Tryz.func3 (by kernel_rfl)
  (FY (by kernel_rfl)) (by unfold Func.isWrapper;rw[if_neg (acU (by kernel_rfl))];exact⟨rfl,rfl⟩)
  (fun os a H enc _=>lifted os a H enc)
theorem card:Rows.RenderBackCardSaid:=
 Claim7.holds_tied_plain_at .later [] _ true _ _
  over (fun _ h=>by cases h) (by kernel_rfl) (fun _ h=>by cases h) renderBack_row_tie rfl ⟨rfl,rfl⟩ (by kernel_rfl) rfl
  (fun f fn d b=>by
   obtain rfl:f=3:=Option.some.inj ((show Tryz.prog.funcNamed "noontide/noontidelaw31.RenderBack" =some 3 by kernel_rfl).symm.trans d) |>.symm;obtain rfl:fn=Tryz.f3:=(Option.some.inj (Tryz.func3.symm.trans b)).symm;exact⟨by kernel_rfl,fun j t c=>by
    rw[Tryz.params3] at c;have a: ∀t∈[26],Tryz.prog.wantsStandIn t=false:=by
     intro t h;simp only[ZA,List.mem_nil_iff,or_false] at h;rcases h with rfl|rfl|rfl|rfl|rfl|rfl|rfl|rfl<;>kernel_rfl
    exact a t (GR (by simpa using c))⟩)
  (by kernel_rfl)
#print axioms card
end Go.Proofs.YtjcencojgajgdaaGreatDoor.renderBack
