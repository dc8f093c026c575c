/-
  RenderOne, the row: for every input the law returns true, and each argument reads afterwards as before; its listed variables are tied to the program's text.
-/
import Derived.Test.YtknhlobahpgkeaaGreatDoorRows
import Derived.Lay
import Derived.Test.YtknhlobahpgkeaaGreatDoorCards
import Derived.Test.YtknhlobahpgkeaaGreatDoorTie
import Derived.SevenTiedAt
import Derived.Test.YtknhlobahpgkeaaGreatDoorMXR
set_option linter.all false
namespace Go.Proofs.YtknhlobahpgkeaaGreatDoor.renderOne
open Nt.Ev Nt.Ev.YtknhlobahpgkeaaGreatDoor Go.ChangeShapes Go.WideShapes Go.ChangeAt Go.RowKit Nt Nt.Num
open Go.ChangeMaps (open_string shut_string)
theorem own:ownKnob Tryz.prog.godebug=none:=by kernel_rfl
theorem laidOut:laidOutB Tryz.prog=true:=by kernel_rfl
theorem globs {W:World} {m:Int} (h:laidMetH Tryz.prog Rows.renderOneRow.laid W) (N:W.cell? ⟨3,0,none⟩=some (.int .i64 m)):lV (@eE ⟨m⟩) (uG W) W:=by
 letI:kM:=⟨m⟩
 rw[MakeChecks.laidMetH_plain _ _ _ (by kernel_rfl)] at h;obtain⟨T,⟨g0,Y,E,f0,p0,q0,b,t,y,u,⟨g1,t1,M,U,p1,q1,e,o,w,j,⟨g2,t2,J,f2,R,q2,K,G,C,B,⟨g3,t3,P,f3,Q,V,d,q,k,i,⟨Z,S,F,f4,p4,q4,c,z,x,s,⟨g5,t5,H,f5,p5,X,O,D,L,I,_,_⟩,_⟩,_⟩,_⟩,_⟩,_⟩,_,_⟩:=h;obtain rfl:=Option.some.inj ((show Tryz.prog.globalNamed "noontide/era.first" =some 1 by kernel_rfl).symm.trans c);obtain rfl:=Option.some.inj ((show(Tryz.prog.globals[1]?).map (·.type)=some 42 by kernel_rfl).symm.trans z);obtain rfl:=Option.some.inj ((show Tryz.prog.globalNamed "noontide/words.weekdays" =some 2 by kernel_rfl).symm.trans e);obtain rfl:=Option.some.inj ((show(Tryz.prog.globals[2]?).map (·.type)=some 151 by kernel_rfl).symm.trans o);obtain rfl:=Option.some.inj ((show Tryz.prog.globalNamed "noontide/words.months" =some 0 by kernel_rfl).symm.trans b);obtain rfl:=Option.some.inj ((show(Tryz.prog.globals[0]?).map (·.type)=some 121 by kernel_rfl).symm.trans t);obtain rfl:=Option.some.inj ((show Tryz.prog.globalNamed "noontide/amount.parts" =some 4 by kernel_rfl).symm.trans d);obtain rfl:=Option.some.inj ((show(Tryz.prog.globals[4]?).map (·.type)=some 221 by kernel_rfl).symm.trans q);intro n v a;unfold eE at a;simp only at a
 cases r:n==1 with
 |true=>
  rw[r] at a;obtain rfl:n=1:=by simpa using r
  simp only[lm,jW,aR] at a;subst a;exact⟨by kernel_rfl,xE (f:=8) c x s (by kernel_rfl) (by kernel_rfl),trivial⟩
 |false=>
  rw[r] at a
  cases p:n==2 with
  |true=>
   rw[p] at a;obtain rfl:n=2:=by simpa using p
   simp only[lm,jW,aR] at a;subst a;exact⟨by kernel_rfl,xE (f:=8) e w j (by kernel_rfl) (by kernel_rfl),trivial⟩
  |false=>
   rw[p] at a
   cases g:n==0 with
   |true=>
    rw[g] at a;obtain rfl:n=0:=by simpa using g
    simp only[lm,jW,aR] at a;subst a;exact⟨by kernel_rfl,xE (f:=8) b y u (by kernel_rfl) (by kernel_rfl),trivial⟩
   |false=>
    rw[g] at a
    cases A:n==4 with
    |true=>
     rw[A] at a;obtain rfl:n=4:=by simpa using A
     simp only[lm,jW,aR] at a;subst a;exact⟨by kernel_rfl,xE (f:=8) d k i (by kernel_rfl) (by kernel_rfl),trivial⟩
    |false=>
     rw[A] at a
     cases l:n==3 with
     |true=>
      rw[l] at a;obtain rfl:n=3:=by simpa using l
      simp only[lm,jW,aR] at a;subst a;exact⟨rfl,ZC N,trivial⟩
     |false=>rw[l] at a;cases a
set_option maxRecDepth 100000 in
theorem lifted (os : Os) (started : os.Started) (H : Type) (enc : TypeId × Value → H) :
    ReturnsInHanded {} Tryz.checked os 3 .any (fun w args => (Rows.renderOneSpec.pre enc Tryz.prog Tryz.f3 [] false w args ∧ laidMetH Tryz.prog Rows.renderOneRow.laid w) ∧ sizedMet enc Tryz.prog Tryz.f3 (OpenSpec.ofChange Rows.renderOneSpec) false w args)
      (Rows.renderOneSpec.post enc Tryz.prog Tryz.f3 false true false false) := by
  refine qf (C := Tryz.checked) (X := fun w _ => laidMetH Tryz.prog Rows.renderOneRow.laid w) (fun _ _ _ hh h => h.of_heap hh) own started (by kernel_rfl) Tryz.func3
    (ChangeSpec.witness_shaped (enc := enc) (C := Tryz.checked) (os := os) (X := fun w _ => laidMetH Tryz.prog Rows.renderOneRow.laid w) false (World.laidAll Tryz.prog os Rows.renderOneRow.laid) #[.string ⟨#[]⟩] 8 (World.laidAll_os _ _ _) (World.shaped_of_ZipB (by kernel_rfl) (by kernel_rfl)) (by kernel_rfl) (by kernel_rfl) (by kernel_rfl)
      (by rw [MakeChecks.laidMetH_plain _ _ _ (by kernel_rfl)]; exact laidMet_laidAll _ (by kernel_rfl) (by kernel_rfl))) ?_
  intro W base args ds gs before hval0 hW _ hsz0 hL hS
  have hval : ∀ (j : Nat) t v, Tryz.f3.params[j]? = some t → args[j]? = some v → Value.okWide Tryz.prog W .any base t v := hval0
  have hsz : (DataW.weightsEach Tryz.prog (Tryz.f3.params.toList ++ Rows.renderOneSpec.plain.varTypes Tryz.prog) (ds ++ gs)).all (· ≤ reachBytes) = true := hsz0
  have hW' := hW
  obtain ⟨p, q, hA0, hV, rfl, hfz, hnd⟩ := hW
  have hA : DataW.TrodAll enc Tryz.prog W 0 (fun _ => true) true Tryz.f3.params.toList args.toList ds p := hA0
  rw [Tryz.params3] at hA hval hsz
  have hAll := hA
  obtain ⟨v0, vs0, d0, ds0, p0, q0, hargs, rfl, rfl, h0, r0⟩ := trodAll_cons hA
  obtain ⟨rfl, rfl, rfl⟩ := trodAll_nil r0
  obtain rfl : args = #[v0] := by cases args; simp_all
  obtain ⟨rfl, rfl⟩ := trodVars_none hV
  obtain ⟨a0, rfl, rfl, _, w0⟩ := open_string Tryz.underlying9 (hval 0 9 v0 rfl rfl) h0
  clear hA0 hval0
  obtain ⟨m, hm⟩ := Go.Proofs.Tryz.laysM219.s1_3 W hS
  letI : kM := ⟨m⟩
  refine (OX (E := eE) (args := [.str a0.data.toList]) (vs := [.string a0]) (Rr.ro_ev a0.data.toList) (globs hL hm) (.cons (by unfold aV; cases a0; simp) .nil)).mono fun e W' ⟨he, lS⟩ => ?_
  subst he
  exact ⟨_, rfl, _, _, _, [], _, [], hW', trodAll_mk1 (shut_bool Tryz.underlying4 _), yF laidOut lS _ _ _ _ (by kernel_rfl) hAll, rfl, lS.frame _, fun h => by cases h⟩

theorem over:Rows.RenderOneSaid:=
 OpenClaim.holds_of_wide 3 Tryz.f3 rfl rfl rfl rfl rfl rfl rfl ⟨rfl,rfl,rfl,rfl,rfl⟩ rfl rfl rfl rfl rfl (by kernel_rfl) Tryz.func3 (by kernel_rfl)
  (Fw (by kernel_rfl)) (by unfold Func.isWrapper;rw[if_neg (acT (by kernel_rfl))];exact⟨rfl,rfl⟩)
  (fun os a H enc _=>lifted os a H enc)
theorem card:Rows.RenderOneCardSaid:=
 Claim7.holds_tied_plain_at .later [] _ true _ _
  over (fun _ h=>by cases h) (by kernel_rfl) (fun _ h=>by cases h) renderOne_row_tie rfl ⟨rfl,rfl⟩ (by kernel_rfl) rfl
  (fun f fn d b=>by
   obtain rfl:f=3:=Option.some.inj ((show Tryz.prog.funcNamed "noontide/noontidelaw31.RenderOne" =some 3 by kernel_rfl).symm.trans d) |>.symm;obtain rfl:fn=Tryz.f3:=(Option.some.inj (Tryz.func3.symm.trans b)).symm;exact⟨by kernel_rfl,fun j t c=>by
    rw[Tryz.params3] at c;have a: ∀t∈[9],Tryz.prog.wantsStandIn t=false:=by
     intro t h;simp only[Yy,List.mem_nil_iff,or_false] at h;rcases h with rfl|rfl|rfl|rfl|rfl|rfl|rfl|rfl<;>kernel_rfl
    exact a t (F9 (by simpa using c))⟩)
  (by kernel_rfl)
#print axioms card
end Go.Proofs.YtknhlobahpgkeaaGreatDoor.renderOne
