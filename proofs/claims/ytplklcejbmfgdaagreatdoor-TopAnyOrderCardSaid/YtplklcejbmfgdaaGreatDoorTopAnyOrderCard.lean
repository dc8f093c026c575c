/-
  TopAnyOrder, the row: for every input the law returns true, and each argument reads afterwards as before; its listed variables are tied to the program's text.
-/
import Derived.Test.YtplklcejbmfgdaaGreatDoorRows
import Derived.Lay
import Derived.Test.YtplklcejbmfgdaaGreatDoorCards
import Derived.Test.YtplklcejbmfgdaaGreatDoorTie
import Derived.SevenTiedAt
import Derived.Test.YtplklcejbmfgdaaGreatDoorMXQ
import Derived.Test.YtplklcejbmfgdaaGreatDoorMBB
import Derived.Test.YtplklcejbmfgdaaGreatDoorMZ
import Derived.Test.YtplklcejbmfgdaaGreatDoorMC
set_option linter.unusedVariables false
set_option linter.unusedSimpArgs false
namespace Go.Proofs.YtplklcejbmfgdaaGreatDoor.topAnyOrder
open Nt.Ev Nt.Ev.YtplklcejbmfgdaaGreatDoor Go.ChangeShapes Go.WideShapes Go.ChangeAt Go.RowKit Nt Nt.Num
open Go.ChangeMaps (open_string shut_string)
theorem own:ownKnob Tryz.prog.godebug=none:=by kernel_rfl
theorem laidOut:laidOutB Tryz.prog=true:=by kernel_rfl
theorem globs {W:World} {m:Int} (h:laidMetH Tryz.prog Rows.topAnyOrderRow.laid W) (hm:W.cell? ⟨3,0,none⟩=some (.int .i64 m)):nW (@eE ⟨m⟩) (jC W):=by
 letI:nP:=⟨m⟩
 rw[MakeChecks.laidMetH_plain _ _ _ (by kernel_rfl)] at h;obtain⟨ps,⟨g0,t0,cs0,f0,p0,q0,hg0,ht0,hv0,hd0,⟨g1,t1,cs1,f1,p1,q1,hg1,ht1,hv1,hd1,⟨g2,t2,cs2,f2,p2,q2,hg2,ht2,hv2,hd2,⟨g3,t3,cs3,f3,p3,q3,hg3,ht3,hv3,hd3,⟨g4,t4,cs4,f4,p4,q4,hg4,ht4,hv4,hd4,⟨g5,t5,cs5,f5,p5,q5,hg5,ht5,hv5,hd5,_,_⟩,_⟩,_⟩,_⟩,_⟩,_⟩,_,_⟩:=h;obtain rfl:=Option.some.inj ((show Tryz.prog.globalNamed "noontide/era.first" =some 0 by kernel_rfl).symm.trans hg4);obtain rfl:=Option.some.inj ((show(Tryz.prog.globals[0]?).map (·.type)=some 43 by kernel_rfl).symm.trans ht4);obtain rfl:=Option.some.inj ((show Tryz.prog.globalNamed "noontide/words.weekdays" =some 2 by kernel_rfl).symm.trans hg1);obtain rfl:=Option.some.inj ((show(Tryz.prog.globals[2]?).map (·.type)=some 153 by kernel_rfl).symm.trans ht1);obtain rfl:=Option.some.inj ((show Tryz.prog.globalNamed "noontide/words.months" =some 1 by kernel_rfl).symm.trans hg0);obtain rfl:=Option.some.inj ((show(Tryz.prog.globals[1]?).map (·.type)=some 135 by kernel_rfl).symm.trans ht0);obtain rfl:=Option.some.inj ((show Tryz.prog.globalNamed "noontide/amount.parts" =some 4 by kernel_rfl).symm.trans hg3);obtain rfl:=Option.some.inj ((show(Tryz.prog.globals[4]?).map (·.type)=some 229 by kernel_rfl).symm.trans ht3);intro n v hv;unfold eE at hv;simp only at hv
 cases e4:n==0 with
 |true=>
  rw[e4] at hv;obtain rfl:n=0:=by simpa using e4
  simp only[cond_true,cond_false,Option.some.injEq] at hv;subst hv;exact⟨by kernel_rfl,wR (f:=8) hg4 hv4 hd4 (by kernel_rfl) (by kernel_rfl)⟩
 |false=>
  rw[e4] at hv
  cases e1:n==2 with
  |true=>
   rw[e1] at hv;obtain rfl:n=2:=by simpa using e1
   simp only[cond_true,cond_false,Option.some.injEq] at hv;subst hv;exact⟨by kernel_rfl,wR (f:=8) hg1 hv1 hd1 (by kernel_rfl) (by kernel_rfl)⟩
  |false=>
   rw[e1] at hv
   cases e0:n==1 with
   |true=>
    rw[e0] at hv;obtain rfl:n=1:=by simpa using e0
    simp only[cond_true,cond_false,Option.some.injEq] at hv;subst hv;exact⟨by kernel_rfl,wR (f:=8) hg0 hv0 hd0 (by kernel_rfl) (by kernel_rfl)⟩
   |false=>
    rw[e0] at hv
    cases e3:n==4 with
    |true=>
     rw[e3] at hv;obtain rfl:n=4:=by simpa using e3
     simp only[cond_true,cond_false,Option.some.injEq] at hv;subst hv;exact⟨by kernel_rfl,wR (f:=8) hg3 hv3 hd3 (by kernel_rfl) (by kernel_rfl)⟩
    |false=>
     rw[e3] at hv
     cases em:n==3 with
     |true=>
      rw[em] at hv;obtain rfl:n=3:=by simpa using em
      simp only[cond_true,cond_false,Option.some.injEq] at hv;subst hv;exact⟨rfl,Yf hm⟩
     |false=>rw[em] at hv;cases hv
set_option maxRecDepth 100000 in
theorem lifted (os:Os) (started:os.Started) (H:Type) (enc:TypeId×Value→H):
  ReturnsInHanded {} Tryz.checked os 7 .any (fun w args=>(Rows.topAnyOrderSpec.pre enc Tryz.prog Tryz.f7 [] false w args∧laidMetH Tryz.prog Rows.topAnyOrderRow.laid w)∧sizedMet enc Tryz.prog Tryz.f7 (OpenSpec.ofChange Rows.topAnyOrderSpec) false w args)
   (Rows.topAnyOrderSpec.post enc Tryz.prog Tryz.f7 false true false false):=by
 refine qa (C:=Tryz.checked) (X:=fun w _=>laidMetH Tryz.prog Rows.topAnyOrderRow.laid w) (fun _ _ _ hh h=>h.of_heap hh) own started (by kernel_rfl) Tryz.func7
  (ChangeSpec.witness_shaped (enc:=enc) (C:=Tryz.checked) (os:=os) (X:=fun w _=>laidMetH Tryz.prog Rows.topAnyOrderRow.laid w) false (World.laidAll Tryz.prog os Rows.topAnyOrderRow.laid) #[.slice none 0 0,.agg #[.int .i64 0,.int .i64 0,.int .i64 0,.string ⟨#[]⟩,.string ⟨#[]⟩,.bool false,.int .i64 0,.int .i64 0,.int .i64 0,.int .i64 0,.int .i64 0,.int .i64 0,.int .i64 0],.agg #[.int .i64 0,.int .i64 0,.int .i64 0,.string ⟨#[]⟩,.string ⟨#[]⟩,.bool false,.int .i64 0,.int .i64 0,.int .i64 0,.int .i64 0,.int .i64 0,.int .i64 0,.int .i64 0],.slice none 0 0] 8 (World.laidAll_os _ _ _) (World.shaped_of_ZipB (by kernel_rfl) (by kernel_rfl)) (by kernel_rfl) (by kernel_rfl) (by kernel_rfl)
   (by rw[MakeChecks.laidMetH_plain _ _ _ (by kernel_rfl)];exact laidMet_laidAll _ (by kernel_rfl) (by kernel_rfl))) ?_
 intro W base args ds gs before hval0 hW _ hsz0 hL hS;have hval: ∀(j:Nat) t v,Tryz.f7.params[j]? =some t→args[j]? =some v→Value.okWide Tryz.prog W .any base t v:=hval0;have hsz:(DataW.weightsEach Tryz.prog (Tryz.f7.params.toList++Rows.topAnyOrderSpec.plain.varTypes Tryz.prog) (ds++gs)).all (· ≤reachBytes)=true:=hsz0;have hW':=hW;obtain⟨p,q,hA0,hV,rfl,hfz,hnd⟩:=hW;have hA:DataW.TrodAll enc Tryz.prog W 0 (fun _=>true) true Tryz.f7.params.toList args.toList ds p:=hA0;rw[Tryz.params7] at hA hval hsz;have hAll:=hA;obtain⟨v0,vs0,d0,ds0,p0,q0,hargs,rfl,rfl,h0,r0⟩:=trodAll_cons hA;obtain⟨v1,vs1,d1,ds1,p1,q1,rfl,rfl,rfl,h1,r1⟩:=trodAll_cons r0;obtain⟨v2,vs2,d2,ds2,p2,q2,rfl,rfl,rfl,h2,r2⟩:=trodAll_cons r1;obtain⟨v3,vs3,d3,ds3,p3,q3,rfl,rfl,rfl,h3,r3⟩:=trodAll_cons r2;obtain⟨rfl,rfl,rfl⟩:=trodAll_nil r3;obtain rfl:args= #[v0,v1,v2,v3]:=by cases args;simp_all
 obtain⟨rfl,rfl⟩:=trodVars_none hV;obtain⟨sa0,sl0,sc0,rfl⟩:=okWide_slice Tryz.underlying26 (hval 0 26 v0 rfl rfl);obtain⟨xs0,hr0,hn0,hx0⟩:=Ep (e:=47) (sh:=[.str,.int .i64,.int .i64,.int .i64,.int .i64,.int .i64,.int .i64,.int .i64,.int .i64,.int .i64,.str]) (by kernel_rfl) (by kernel_rfl) h0;have hx0:=WL (by kernel_rfl) hx0;obtain⟨a1,xs1,rfl,hp1,hf1,ho1⟩:=Qv (sh:=[.int .i64,.int .i64,.int .i64,.str,.str,.bool,.int .i64,.int .i64,.int .i64,.int .i64,.int .i64,.int .i64,.int .i64]) (by kernel_rfl) (by kernel_rfl) (by kernel_rfl) (hval 1 59 v1 rfl rfl) h1;obtain⟨a1_0,t1_0,rfl,w1_0,hf1,ho1⟩:=dA hf1 ho1;obtain⟨a1_1,t1_1,rfl,w1_1,hf1,ho1⟩:=dA hf1 ho1;obtain⟨a1_2,t1_2,rfl,w1_2,hf1,ho1⟩:=dA hf1 ho1;obtain⟨a1_3,t1_3,rfl,w1_3,hf1,ho1⟩:=wW hf1 ho1;obtain⟨a1_4,t1_4,rfl,w1_4,hf1,ho1⟩:=wW hf1 ho1;obtain⟨a1_5,t1_5,rfl,w1_5,hf1,ho1⟩:=IL hf1 ho1;obtain⟨a1_6,t1_6,rfl,w1_6,hf1,ho1⟩:=dA hf1 ho1;obtain⟨a1_7,t1_7,rfl,w1_7,hf1,ho1⟩:=dA hf1 ho1;obtain⟨a1_8,t1_8,rfl,w1_8,hf1,ho1⟩:=dA hf1 ho1;obtain⟨a1_9,t1_9,rfl,w1_9,hf1,ho1⟩:=dA hf1 ho1;obtain⟨a1_10,t1_10,rfl,w1_10,hf1,ho1⟩:=dA hf1 ho1;obtain⟨a1_11,t1_11,rfl,w1_11,hf1,ho1⟩:=dA hf1 ho1;obtain⟨a1_12,t1_12,rfl,w1_12,hf1,ho1⟩:=dA hf1 ho1;obtain rfl:=wU hf1
 obtain⟨a2,xs2,rfl,hp2,hf2,ho2⟩:=Qv (sh:=[.int .i64,.int .i64,.int .i64,.str,.str,.bool,.int .i64,.int .i64,.int .i64,.int .i64,.int .i64,.int .i64,.int .i64]) (by kernel_rfl) (by kernel_rfl) (by kernel_rfl) (hval 2 59 v2 rfl rfl) h2;obtain⟨a2_0,t2_0,rfl,w2_0,hf2,ho2⟩:=dA hf2 ho2;obtain⟨a2_1,t2_1,rfl,w2_1,hf2,ho2⟩:=dA hf2 ho2;obtain⟨a2_2,t2_2,rfl,w2_2,hf2,ho2⟩:=dA hf2 ho2;obtain⟨a2_3,t2_3,rfl,w2_3,hf2,ho2⟩:=wW hf2 ho2;obtain⟨a2_4,t2_4,rfl,w2_4,hf2,ho2⟩:=wW hf2 ho2;obtain⟨a2_5,t2_5,rfl,w2_5,hf2,ho2⟩:=IL hf2 ho2;obtain⟨a2_6,t2_6,rfl,w2_6,hf2,ho2⟩:=dA hf2 ho2;obtain⟨a2_7,t2_7,rfl,w2_7,hf2,ho2⟩:=dA hf2 ho2;obtain⟨a2_8,t2_8,rfl,w2_8,hf2,ho2⟩:=dA hf2 ho2;obtain⟨a2_9,t2_9,rfl,w2_9,hf2,ho2⟩:=dA hf2 ho2;obtain⟨a2_10,t2_10,rfl,w2_10,hf2,ho2⟩:=dA hf2 ho2;obtain⟨a2_11,t2_11,rfl,w2_11,hf2,ho2⟩:=dA hf2 ho2;obtain⟨a2_12,t2_12,rfl,w2_12,hf2,ho2⟩:=dA hf2 ho2;obtain rfl:=wU hf2;obtain⟨sa3,sl3,sc3,rfl⟩:=okWide_slice Tryz.underlying28 (hval 3 28 v3 rfl rfl);obtain⟨xs3,hr3,hn3,hx3⟩:=Ep (e:=50) (sh:=[.str,.str]) (by kernel_rfl) (by kernel_rfl) h3;have hx3:=WL (by kernel_rfl) hx3;clear hA0 hval0;obtain⟨m,hm⟩:=Go.Proofs.Tryz.laysM219.s1_3 W hS;letI:nP:=⟨m⟩
 refine(N5 (E:=eE) (args:=[.sl 47 [.str,.int .i64,.int .i64,.int .i64,.int .i64,.int .i64,.int .i64,.int .i64,.int .i64,.int .i64,.str] none xs0,.agg [.int .i64 a1_0,.int .i64 a1_1,.int .i64 a1_2,.str a1_3,.str a1_4,.bool a1_5,.int .i64 a1_6,.int .i64 a1_7,.int .i64 a1_8,.int .i64 a1_9,.int .i64 a1_10,.int .i64 a1_11,.int .i64 a1_12],.agg [.int .i64 a2_0,.int .i64 a2_1,.int .i64 a2_2,.str a2_3,.str a2_4,.bool a2_5,.int .i64 a2_6,.int .i64 a2_7,.int .i64 a2_8,.int .i64 a2_9,.int .i64 a2_10,.int .i64 a2_11,.int .i64 a2_12],.sl 50 [.str,.str] none xs3]) (vs:=[.slice sa0 sl0 sc0,.agg a1,.agg a2,.slice sa3 sl3 sc3]) (Rr.ao_ev xs0 xs3 a1_0 a1_1 a1_2 a1_3 a1_4 a1_5 a1_6 a1_7 a1_8 a1_9 a1_10 a1_11 a1_12 a2_0 a2_1 a2_2 a2_3 a2_4 a2_5 a2_6 a2_7 a2_8 a2_9 a2_10 a2_11 a2_12 (Rr.ao_rules hx0) (Rr.efK_of (bounds_i64 w1_0) (bounds_i64 w1_2) (bounds_i64 w1_6) (bounds_i64 w1_7)) (Rr.efK_of (bounds_i64 w2_0) (bounds_i64 w2_2) (bounds_i64 w2_6) (bounds_i64 w2_7))) (globs hL hm) (.cons hr0 (.cons (by unfold aO;exact⟨a1.toList,by simp,(dL _ _).2 hp1⟩) (.cons (by unfold aO;exact⟨a2.toList,by simp,(dL _ _).2 hp2⟩) (.cons hr3 .nil))))).mono fun e W' ⟨he,mg⟩=>?_
 subst he;exact⟨_,rfl,_,_,_,[],_,[],hW',trodAll_mk1 (shut_bool Tryz.underlying4 _),yB laidOut mg _ _ _ _ (by kernel_rfl) hAll,rfl,mg.frame _,fun h=>by cases h⟩
theorem over:Rows.TopAnyOrderSaid:=
 OpenClaim.holds_of_wide 7 Tryz.f7 rfl rfl rfl rfl rfl rfl rfl ⟨rfl,rfl,rfl,rfl,rfl⟩ rfl rfl rfl rfl rfl (by kernel_rfl) Tryz.func7 (by kernel_rfl)
  (of_decide_eq_true (by kernel_rfl)) (by unfold Func.isWrapper;rw[if_neg (of_decide_eq_false (by kernel_rfl))];exact⟨rfl,rfl⟩)
  (fun os started H enc _=>lifted os started H enc)
theorem card:Rows.TopAnyOrderCardSaid:=
 Claim7.holds_tied_plain_at .later [] _ true _ _
  over (fun _ h=>by cases h) (by kernel_rfl) (fun _ h=>by cases h) topAnyOrder_row_tie rfl ⟨rfl,rfl⟩ (by kernel_rfl) rfl
  (fun f fn hf hfn=>by
   obtain rfl:f=7:=Option.some.inj ((show Tryz.prog.funcNamed "noontide/noontidetop.TopAnyOrder" =some 7 by kernel_rfl).symm.trans hf) |>.symm;obtain rfl:fn=Tryz.f7:=(Option.some.inj (Tryz.func7.symm.trans hfn)).symm;exact⟨by kernel_rfl,fun j t ht=>by
    rw[Tryz.params7] at ht;have key: ∀t∈[26,59,59,28],Tryz.prog.wantsStandIn t=false:=by
     intro t h;simp only[List.mem_cons,List.mem_nil_iff,or_false] at h;rcases h with rfl|rfl|rfl|rfl|rfl|rfl|rfl|rfl<;>kernel_rfl
    exact key t (List.mem_of_getElem? (by simpa using ht))⟩)
  (by kernel_rfl)
#print axioms card
end Go.Proofs.YtplklcejbmfgdaaGreatDoor.topAnyOrder
