/-
  ReadTells, the row: for every input the law returns true, and each argument reads afterwards as before; its listed variables are tied to the program's text.
-/
import Derived.Test.YtpbgegnlkdfjgaaGreatDoorRows
import Derived.Lay
import Derived.Test.YtpbgegnlkdfjgaaGreatDoorCards
import Derived.Test.YtpbgegnlkdfjgaaGreatDoorTie
import Derived.SevenTiedAt
import Derived.Test.YtpbgegnlkdfjgaaGreatDoorMXN
import Derived.Test.YtpbgegnlkdfjgaaGreatDoorMBB
import Derived.Test.YtpbgegnlkdfjgaaGreatDoorMZ
import Derived.Test.YtpbgegnlkdfjgaaGreatDoorMC
set_option linter.unusedVariables false
set_option linter.unusedSimpArgs false
namespace Go.Proofs.YtpbgegnlkdfjgaaGreatDoor.readTells
open Nt.Ev Nt.Ev.YtpbgegnlkdfjgaaGreatDoor Go.ChangeShapes Go.WideShapes Go.ChangeAt Go.RowKit Nt Nt.Num
open Go.ChangeMaps (open_string shut_string)
theorem own:ownKnob Tryz.prog.godebug=none:=by kernel_rfl
theorem laidOut:laidOutB Tryz.prog=true:=by kernel_rfl
theorem globs {W:World} {m:Int} (h:laidMetH Tryz.prog Rows.readTellsRow.laid W) (hm:W.cell? ⟨0,0,none⟩=some (.int .i64 m)):oQ (@eE ⟨m⟩) (vG W):=by
 letI:uT:=⟨m⟩
 rw[MakeChecks.laidMetH_plain _ _ _ (by kernel_rfl)] at h;obtain⟨ps,⟨g0,t0,cs0,f0,p0,q0,hg0,ht0,hv0,hd0,⟨g1,t1,cs1,f1,p1,q1,hg1,ht1,hv1,hd1,⟨g2,t2,cs2,f2,p2,q2,hg2,ht2,hv2,hd2,⟨g3,t3,cs3,f3,p3,q3,hg3,ht3,hv3,hd3,⟨g4,t4,cs4,f4,p4,q4,hg4,ht4,hv4,hd4,⟨g5,t5,cs5,f5,p5,q5,hg5,ht5,hv5,hd5,_,_⟩,_⟩,_⟩,_⟩,_⟩,_⟩,_,_⟩:=h;obtain rfl:=Option.some.inj ((show Tryz.prog.globalNamed "noontide/era.first" =some 2 by kernel_rfl).symm.trans hg4);obtain rfl:=Option.some.inj ((show(Tryz.prog.globals[2]?).map (·.type)=some 44 by kernel_rfl).symm.trans ht4);obtain rfl:=Option.some.inj ((show Tryz.prog.globalNamed "noontide/words.weekdays" =some 6 by kernel_rfl).symm.trans hg1);obtain rfl:=Option.some.inj ((show(Tryz.prog.globals[6]?).map (·.type)=some 208 by kernel_rfl).symm.trans ht1);obtain rfl:=Option.some.inj ((show Tryz.prog.globalNamed "noontide/words.months" =some 3 by kernel_rfl).symm.trans hg0);obtain rfl:=Option.some.inj ((show(Tryz.prog.globals[3]?).map (·.type)=some 184 by kernel_rfl).symm.trans ht0);obtain rfl:=Option.some.inj ((show Tryz.prog.globalNamed "noontide/amount.parts" =some 1 by kernel_rfl).symm.trans hg3);obtain rfl:=Option.some.inj ((show(Tryz.prog.globals[1]?).map (·.type)=some 178 by kernel_rfl).symm.trans ht3);intro n v hv;unfold eE at hv;simp only at hv
 cases e4:n==2 with
 |true=>
  rw[e4] at hv;obtain rfl:n=2:=by simpa using e4
  simp only[cond_true,cond_false,Option.some.injEq] at hv;subst hv;exact⟨by kernel_rfl,yQ (f:=8) hg4 hv4 hd4 (by kernel_rfl) (by kernel_rfl)⟩
 |false=>
  rw[e4] at hv
  cases e1:n==6 with
  |true=>
   rw[e1] at hv;obtain rfl:n=6:=by simpa using e1
   simp only[cond_true,cond_false,Option.some.injEq] at hv;subst hv;exact⟨by kernel_rfl,yQ (f:=8) hg1 hv1 hd1 (by kernel_rfl) (by kernel_rfl)⟩
  |false=>
   rw[e1] at hv
   cases e0:n==3 with
   |true=>
    rw[e0] at hv;obtain rfl:n=3:=by simpa using e0
    simp only[cond_true,cond_false,Option.some.injEq] at hv;subst hv;exact⟨by kernel_rfl,yQ (f:=8) hg0 hv0 hd0 (by kernel_rfl) (by kernel_rfl)⟩
   |false=>
    rw[e0] at hv
    cases e3:n==1 with
    |true=>
     rw[e3] at hv;obtain rfl:n=1:=by simpa using e3
     simp only[cond_true,cond_false,Option.some.injEq] at hv;subst hv;exact⟨by kernel_rfl,yQ (f:=8) hg3 hv3 hd3 (by kernel_rfl) (by kernel_rfl)⟩
    |false=>
     rw[e3] at hv
     cases em:n==0 with
     |true=>
      rw[em] at hv;obtain rfl:n=0:=by simpa using em
      simp only[cond_true,cond_false,Option.some.injEq] at hv;subst hv;exact⟨rfl,Wu hm⟩
     |false=>rw[em] at hv;cases hv
set_option maxRecDepth 100000 in
theorem lifted (os:Os) (started:os.Started) (H:Type) (enc:TypeId×Value→H):
  ReturnsInHanded {} Tryz.checked os 3 .any (fun w args=>(Rows.readTellsSpec.pre enc Tryz.prog Tryz.f3 [] false w args∧laidMetH Tryz.prog Rows.readTellsRow.laid w)∧sizedMet enc Tryz.prog Tryz.f3 (OpenSpec.ofChange Rows.readTellsSpec) false w args)
   (Rows.readTellsSpec.post enc Tryz.prog Tryz.f3 false true false false):=by
 refine rA (C:=Tryz.checked) (X:=fun w _=>laidMetH Tryz.prog Rows.readTellsRow.laid w) (fun _ _ _ hh h=>h.of_heap hh) own started (by kernel_rfl) Tryz.func3
  (ChangeSpec.witness_shaped (enc:=enc) (C:=Tryz.checked) (os:=os) (X:=fun w _=>laidMetH Tryz.prog Rows.readTellsRow.laid w) false (World.laidAll Tryz.prog os Rows.readTellsRow.laid) #[.string ⟨#[]⟩] 8 (World.laidAll_os _ _ _) (World.shaped_of_ZipB (by kernel_rfl) (by kernel_rfl)) (by kernel_rfl) (by kernel_rfl) (by kernel_rfl)
   (by rw[MakeChecks.laidMetH_plain _ _ _ (by kernel_rfl)];exact laidMet_laidAll _ (by kernel_rfl) (by kernel_rfl))) ?_
 intro W base args ds gs before hval0 hW _ hsz0 hL hS;have hval: ∀(j:Nat) t v,Tryz.f3.params[j]? =some t→args[j]? =some v→Value.okWide Tryz.prog W .any base t v:=hval0;have hsz:(DataW.weightsEach Tryz.prog (Tryz.f3.params.toList++Rows.readTellsSpec.plain.varTypes Tryz.prog) (ds++gs)).all (· ≤reachBytes)=true:=hsz0;have hW':=hW;obtain⟨p,q,hA0,hV,rfl,hfz,hnd⟩:=hW;have hA:DataW.TrodAll enc Tryz.prog W 0 (fun _=>true) true Tryz.f3.params.toList args.toList ds p:=hA0;rw[Tryz.params3] at hA hval hsz;have hAll:=hA;obtain⟨v0,vs0,d0,ds0,p0,q0,hargs,rfl,rfl,h0,r0⟩:=trodAll_cons hA;obtain⟨rfl,rfl,rfl⟩:=trodAll_nil r0;obtain rfl:args= #[v0]:=by cases args;simp_all
 obtain⟨rfl,rfl⟩:=trodVars_none hV;obtain⟨a0,rfl,rfl,_,w0⟩:=open_string Tryz.underlying9 (hval 0 9 v0 rfl rfl) h0;clear hA0 hval0;obtain⟨m,hm⟩:=Go.Proofs.Tryz.aaY.s1_3 W hS;letI:uT:=⟨m⟩
 refine(Nl (E:=eE) (args:=[.str a0.data.toList]) (vs:=[.string a0]) (Rr.rT_ev a0.data.toList) (globs hL hm) (.cons (by unfold aP;cases a0;simp) .nil)).mono fun e W' ⟨he,mM⟩=>?_
 subst he;exact⟨_,rfl,_,_,_,[],_,[],hW',trodAll_mk1 (shut_bool Tryz.underlying4 _),zC laidOut mM _ _ _ _ (by kernel_rfl) hAll,rfl,mM.frame _,fun h=>by cases h⟩
theorem over:Rows.ReadTellsSaid:=
 OpenClaim.holds_of_wide 3 Tryz.f3 rfl rfl rfl rfl rfl rfl rfl ⟨rfl,rfl,rfl,rfl,rfl⟩ rfl rfl rfl rfl rfl (by kernel_rfl) Tryz.func3 (by kernel_rfl)
  (of_decide_eq_true (by kernel_rfl)) (by unfold Func.isWrapper;rw[if_neg (of_decide_eq_false (by kernel_rfl))];exact⟨rfl,rfl⟩)
  (fun os started H enc _=>lifted os started H enc)
theorem card:Rows.ReadTellsCardSaid:=
 Claim7.holds_tied_plain_at .later [] _ true _ _
  over (fun _ h=>by cases h) (by kernel_rfl) (fun _ h=>by cases h) readTells_row_tie rfl ⟨rfl,rfl⟩ (by kernel_rfl) rfl
  (fun f fn hf hfn=>by
   obtain rfl:f=3:=Option.some.inj ((show Tryz.prog.funcNamed "noontide/noontidelaw24.ReadTells" =some 3 by kernel_rfl).symm.trans hf) |>.symm;obtain rfl:fn=Tryz.f3:=(Option.some.inj (Tryz.func3.symm.trans hfn)).symm;exact⟨by kernel_rfl,fun j t ht=>by
    rw[Tryz.params3] at ht;have key: ∀t∈[9],Tryz.prog.wantsStandIn t=false:=by
     intro t h;simp only[List.mem_cons,List.mem_nil_iff,or_false] at h;rcases h with rfl|rfl|rfl|rfl|rfl|rfl|rfl|rfl<;>kernel_rfl
    exact key t (List.mem_of_getElem? (by simpa using ht))⟩)
  (by kernel_rfl)
#print axioms card
end Go.Proofs.YtpbgegnlkdfjgaaGreatDoor.readTells
