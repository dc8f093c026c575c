/-
  The reader of sources: lines; both sides as contracts. The reader's run over lines: the plain law. Reader2: equations of functions, as the evaluator prints them. The reader of sources: all lines, the table.
-/
import Derived.Test.YtplklcejbmfgdaaGreatDoorMXL
set_option linter.unusedVariables false
set_option linter.unusedSimpArgs false
set_option linter.unusedSectionVars false
namespace Nt.Fld
open Go Nt.Ev
theorem rq (N:Nat): ∀(s:List UInt8) (out:List (List UInt8)) (f:List UInt8) (op qu:Bool),(∀x∈out,x.length≤N)→f.length+s.length≤N→ ∀x∈(qN s out f op qu).1,x.length≤N
 |[],out,f,op,qu,ho,hf=>by
  have hf:f.length≤N:=by simpa using hf
  have hp: ∀x∈BN op out f,x.length≤N:=by
   intro x hx
   cases op with
   |false=>exact ho x hx
   |true=>
    have hx:x∈out++[f]:=hx;rw[List.mem_append,List.mem_singleton] at hx;rcases hx with hx|rfl
    ·exact ho x hx
    ·exact hf
  cases qu with
  |true=>intro x hx;cases hx
  |false=>
   show∀x∈(Gg (BN op out f)).1,_;unfold Gg;split
   ·intro x hx;cases hx
   ·exact hp
 |c::t,out,f,op,qu,ho,hf=>by
  rw[List.length_cons] at hf;have hp: ∀x∈BN op out f,x.length≤N:=by
   intro x hx
   cases op with
   |false=>exact ho x hx
   |true=>
    have hx:x∈out++[f]:=hx;rw[List.mem_append,List.mem_singleton] at hx;rcases hx with hx|rfl
    ·exact ho x hx
    ·omega
  have hfin: ∀x∈(Gg (BN op out f)).1,x.length≤N:=by
   unfold Gg;split
   ·intro x hx;cases hx
   ·exact hp
  have hf2:(f++[c]).length+t.length≤N:=by rw[List.length_append,List.length_singleton];omega
  have hf3:f.length+t.length≤N:=by omega
  have hf4:([]:List UInt8).length+t.length≤N:=by rw[List.length_nil];omega
  unfold qN
  cases qu with
  |true=>
   cases hc:c==34 with
   |true=>exact rq N t out f op false ho hf3
   |false=>exact rq N t out (f++[c]) op true ho hf2
  |false=>
   cases h1:c==35 with
   |true=>exact hfin
   |false=>
    cases h2:c==9 with
    |true=>exact rq N t _ [] false false hp hf4
    |false=>
     cases h3:c==32 with
     |true=>exact rq N t _ [] false false hp hf4
     |false=>
      cases hc:c==34 with
      |true=>exact rq N t out f true true ho hf3
      |false=>exact rq N t out (f++[c]) true false ho hf2
end Nt.Fld
namespace Nt.Ev.YtplklcejbmfgdaaGreatDoor.Rr
set_option maxRecDepth 100000
open Go Go.RowKit Nt Nt.Num Nt.Civil Nt.Fld Go.Proofs.YtplklcejbmfgdaaGreatDoor Nt.Ev.YtplklcejbmfgdaaGreatDoor Nt.Ev.YtplklcejbmfgdaaGreatDoor.Lk
variable [mJ]
theorem Yd {s:List UInt8} (h:DD s=0):s.length≤511:=by
 unfold DD at h;rcases Nat.lt_or_ge 511 s.length with hl|hl
 ·rw[ay (bD (by rw[aB];omega))] at h;cases h
 ·exact hl
theorem SY {s:List UInt8} (h:s.length≤511):iN (bX s)=true:=by
 unfold iN;rw[List.all_eq_true];intro v hv;unfold bX bL at hv;obtain⟨l,hl,rfl⟩:=List.mem_map.1 hv;have:=rq 511 s [] [] false false (fun x hx=>nomatch hx) (by simpa using h) l hl;show ai (aj l) 900=true;exact bF (by rw[aB];omega)
theorem f0_len {xs:List V} (h:iN xs=true) (h0:0<xs.length):ai (aj (aR (ax (aP xs 0) 0))) 1000=true:=by
 unfold iN at h;rw[List.all_eq_true] at h;match xs,h0,h with
 |x::t,_,h=>
  have hx:=h x List.mem_cons_self;have e:aP (x::t) 0=x:=rfl;rw[e]
  cases x with
  |str l=>
   have hx:ai (aj l) 900=true:=hx;rw[aA] at hx;exact bF (show aj l≤1000 by omega)
  |_=>cases hx
theorem ws3_ok:wsR [V.str [82,117,108,101],V.str [90,111,110,101],V.str [76,105,110,107]]=true:=by unfold wsR;decide+kernel
theorem tN (rs zs ks wr we wl yz ye:List V) (iz ie ln:Int) {op:Int} {s:List UInt8} (kd:iq op s=0):qa rs op s=aZ rs [Tq (dL (bX s) 1 (av (bX s)))]∧qb zs yz op s=zs∧qc ks op s=ks∧su wr ln op s=aZ wr [.int .i64 ln]∧sw we ye ln op s=we∧sD wl ln op s=wl∧sG iz zs op s=iz∧qd yz op s=yz∧sH ie we op s=ie∧sI ye ln op s=ye∧nN op ln s=op:=by
 unfold qa qb qc su sw sD sG qd sH sI nN;rw[kd];exact⟨rfl,rfl,rfl,rfl,rfl,rfl,rfl,rfl,rfl,rfl,rfl⟩
theorem tO (rs zs ks wr we wl yz ye:List V) (iz ie ln:Int) {op:Int} {s:List UInt8} (kd:iq op s=1):qa rs op s=rs∧qb zs yz op s=sj zs (dL (bX s) 1 (av (bX s)))∧qc ks op s=ks∧su wr ln op s=wr∧sw we ye ln op s=yo we ln∧sD wl ln op s=wl∧sG iz zs op s=av zs∧qd yz op s=[z8 (dL (dL (bX s) 1 (av (bX s))) 1 (av (dL (bX s) 1 (av (bX s)))))]∧sH ie we op s=av we∧sI ye ln op s=[.int .i64 ln]∧nN op ln s=nD (dL (dL (bX s) 1 (av (bX s))) 1 (av (dL (bX s) 1 (av (bX s))))) ln:=by
 unfold qa qb qc su sw sD sG qd sH sI nN;rw[kd];exact⟨rfl,rfl,rfl,rfl,rfl,rfl,rfl,rfl,rfl,rfl,rfl⟩
theorem tQ (rs zs ks wr we wl yz ye:List V) (iz ie ln:Int) {op:Int} {s:List UInt8} (kd:iq op s=2):qa rs op s=rs∧qb zs yz op s=zs∧qc ks op s=aZ ks [Wn (dL (bX s) 1 (av (bX s)))]∧su wr ln op s=wr∧sw we ye ln op s=we∧sD wl ln op s=aZ wl [.int .i64 ln]∧sG iz zs op s=iz∧qd yz op s=yz∧sH ie we op s=ie∧sI ye ln op s=ye∧nN op ln s=op:=by
 unfold qa qb qc su sw sD sG qd sH sI nN;rw[kd];exact⟨rfl,rfl,rfl,rfl,rfl,rfl,rfl,rfl,rfl,rfl,rfl⟩
theorem tT (rs zs ks wr we wl yz ye:List V) (iz ie ln:Int) {op:Int} {s:List UInt8} (kd:iq op s=3):qa rs op s=rs∧qb zs yz op s=pE zs yz (bX s)∧qc ks op s=ks∧su wr ln op s=wr∧sw we ye ln op s=rZ we ye ln∧sD wl ln op s=wl∧sG iz zs op s=iz∧qd yz op s=aZ yz [z8 (bX s)]∧sH ie we op s=ie∧sI ye ln op s=aZ ye [.int .i64 ln]∧nN op ln s=nD (bX s) ln:=by
 unfold qa qb qc su sw sD sG qd sH sI nN;rw[kd];exact⟨rfl,rfl,rfl,rfl,rfl,rfl,rfl,rfl,rfl,rfl,rfl⟩
theorem tV (rs zs ks wr we wl yz ye:List V) (iz ie ln:Int) {op:Int} {s:List UInt8} (kd:iq op s=4):qa rs op s=rs∧qb zs yz op s=zs∧qc ks op s=ks∧su wr ln op s=wr∧sw we ye ln op s=we∧sD wl ln op s=wl∧sG iz zs op s=iz∧qd yz op s=yz∧sH ie we op s=ie∧sI ye ln op s=ye∧nN op ln s=op:=by
 unfold qa qb qc su sw sD sG qd sH sI nN;rw[kd];exact⟨rfl,rfl,rfl,rfl,rfl,rfl,rfl,rfl,rfl,rfl,rfl⟩
theorem read_p (rs zs ks wr we wl:List V) (ln op iz ie:Int) (yz ye:List V) (s:List UInt8) (hc:Gi rs zs iz yz wr we ie ye wl op s=true):cr eE (bV eE rS2 5 3) 5 67 [.bxa 0 (nZ rs zs ks wr we wl iz yz ie ye ln op),.str s] some=
  some (sel (ieq (lJ rs zs ks yz op s) 0) (.out false (.tup []) [nZ (qa rs op s) (qb zs yz op s) (qc ks op s) (su wr ln op s) (sw we ye ln op s) (sD wl ln op s) (sG iz zs op s) (qd yz op s) (sH ie we op s) (sI ye ln op s) ln (nN op ln s)]) (.out true (gU ln (lJ rs zs ks yz op s)) [nZ rs zs ks wr we wl iz yz ie ye ln op])):=by
 (rw[VO];(conv=>zeta))
 unfold Gi at hc;rw[decide_eq_true_eq] at hc;obtain⟨hl,z1,w1,y1,e1,r1,l1,hop⟩:=hc;have i4:ai (aj s) 4000000=true:=bF (by rw[aB];omega);by_cases c1:DD s=0
 case neg=>
  have er:lJ rs zs ks yz op s=DD s:=by unfold lJ;rw[if_pos c1]
  simp only[i4,cO c1,er,gP,iQ,iw,gV];try rfl
 have hA:=SY (Yd c1);by_cases c2:Le s=0
 case neg=>
  have er:lJ rs zs ks yz op s=Le s:=by unfold lJ;rw[if_neg (fun h=>h c1),if_pos c2]
  simp only[i4,bn c1,cO c2,er,gP,iQ,iw,gV];try rfl
 by_cases c3:av (bX s)=0
 case pos=>
  have er:lJ rs zs ks yz op s=0:=by unfold lJ;rw[if_neg (fun h=>h c1),if_neg (fun h=>h c2),if_pos c3]
  have kd:iq op s=4:=by unfold iq;rw[if_pos c3]
  simp only[i4,bn c1,bn c2,bn c3,er,gP,iQ,iw,gV,(tV rs zs ks wr we wl yz ye iz ie ln kd).1,(tV rs zs ks wr we wl yz ye iz ie ln kd).2.1,(tV rs zs ks wr we wl yz ye iz ie ln kd).2.2.1,(tV rs zs ks wr we wl yz ye iz ie ln kd).2.2.2.1,(tV rs zs ks wr we wl yz ye iz ie ln kd).2.2.2.2.1,(tV rs zs ks wr we wl yz ye iz ie ln kd).2.2.2.2.2.1,(tV rs zs ks wr we wl yz ye iz ie ln kd).2.2.2.2.2.2.1,(tV rs zs ks wr we wl yz ye iz ie ln kd).2.2.2.2.2.2.2.1,(tV rs zs ks wr we wl yz ye iz ie ln kd).2.2.2.2.2.2.2.2.1,(tV rs zs ks wr we wl yz ye iz ie ln kd).2.2.2.2.2.2.2.2.2.1,(tV rs zs ks wr we wl yz ye iz ie ln kd).2.2.2.2.2.2.2.2.2.2];first|rfl|(rw[c2];rfl)
 have c3l:0<(bX s).length:=by rw[aD] at c3;omega
 have n1:ak (ai 0 0) (aT 0 (av (bX s)))=true:=by rw[aH,aA,bf,aD];omega
 have n2:ak (ai 0 1) (ai 1 (av (bX s)))=true:=by rw[aH,aA,aA,aD];omega
 have f0:=f0_len hA c3l;have hw:ak (ai (aj (aR (ax (aP (bX s) 0) 0))) 1000) (wsR [V.str [82,117,108,101],V.str [90,111,110,101],V.str [76,105,110,107]])=true:=by rw[aH];exact⟨f0,ws3_ok⟩
 have hT:iN (dL (bX s) 1 (av (bX s)))=true:=EX hA _ _;by_cases c4:0<op
 case pos=>
  have hE:erC zs iz yz we ie ye (bX s)=true:=by
   unfold erC;rw[decide_eq_true_eq];obtain⟨p1,p2,p3,p4⟩:=hop c4;exact⟨hA,⟨p1,by omega⟩,p2,y1,⟨p3,by omega⟩,p4,e1⟩
  have er:lJ rs zs ks yz op s=wU yz (bX s):=by unfold lJ;rw[if_neg (fun h=>h c1),if_neg (fun h=>h c2),if_neg c3,if_pos c4]
  have kd:iq op s=3:=by unfold iq;rw[if_neg c3,if_pos c4]
  rcases Bool.eq_false_or_eq_true (ieq (wU yz (bX s)) 0) with hb|hb
  ·simp only[i4,bn c1,bn c2,cO c3,bD c4,hE,hb,er,gP,iQ,iw,gV,(tT rs zs ks wr we wl yz ye iz ie ln kd).1,(tT rs zs ks wr we wl yz ye iz ie ln kd).2.1,(tT rs zs ks wr we wl yz ye iz ie ln kd).2.2.1,(tT rs zs ks wr we wl yz ye iz ie ln kd).2.2.2.1,(tT rs zs ks wr we wl yz ye iz ie ln kd).2.2.2.2.1,(tT rs zs ks wr we wl yz ye iz ie ln kd).2.2.2.2.2.1,(tT rs zs ks wr we wl yz ye iz ie ln kd).2.2.2.2.2.2.1,(tT rs zs ks wr we wl yz ye iz ie ln kd).2.2.2.2.2.2.2.1,(tT rs zs ks wr we wl yz ye iz ie ln kd).2.2.2.2.2.2.2.2.1,(tT rs zs ks wr we wl yz ye iz ie ln kd).2.2.2.2.2.2.2.2.2.1,(tT rs zs ks wr we wl yz ye iz ie ln kd).2.2.2.2.2.2.2.2.2.2]
  ·simp only[i4,bn c1,bn c2,cO c3,bD c4,hE,hb,er,gP,iQ,iw,gV]
 by_cases c5:qo (aR (ax (aP (bX s) 0) 0)) [V.str [82,117,108,101],V.str [90,111,110,101],V.str [76,105,110,107]]=0
 case neg=>
  have er:lJ rs zs ks yz op s=qo (aR (ax (aP (bX s) 0) 0)) [V.str [82,117,108,101],V.str [90,111,110,101],V.str [76,105,110,107]]:=by unfold lJ;rw[if_neg (fun h=>h c1),if_neg (fun h=>h c2),if_neg c3,if_neg c4,if_pos c5]
  simp only[i4,bn c1,bn c2,cO c3,bB (Int.not_lt.1 c4),n1,hw,cO c5,er,gP,iQ,iw,gV];try rfl
 obtain⟨m0,m3⟩:=za _ _ (by decide) c5;have m3:nY (aR (ax (aP (bX s) 0) 0)) [V.str [82,117,108,101],V.str [90,111,110,101],V.str [76,105,110,107]]<3:=m3;have erS:lJ rs zs ks yz op s=if nY (aR (ax (aP (bX s) 0) 0)) Ow=0 then yh rs (tl1 (bX s)) else if nY (aR (ax (aP (bX s) 0) 0)) Ow=1 then vL zs (tl1 (bX s)) else yj ks (tl1 (bX s)):=by unfold lJ;rw[if_neg (fun h=>h c1),if_neg (fun h=>h c2),if_neg c3,if_neg c4,if_neg (fun h=>h c5)]
 have kdS:iq op s=(nY (aR (ax (aP (bX s) 0) 0)) Ow).toNat:=by unfold iq;rw[if_neg c3,if_neg c4]
 by_cases c6:nY (aR (ax (aP (bX s) 0) 0)) [V.str [82,117,108,101],V.str [90,111,110,101],V.str [76,105,110,107]]=0
 case pos=>
  have er:lJ rs zs ks yz op s=yh rs (tl1 (bX s)):=by rw[erS,if_pos c6]
  have kd:iq op s=0:=by rw[kdS];unfold Ow;rw[c6];rfl
  have hr:ak (iN (dL (bX s) 1 (av (bX s)))) (Q7 wr)=true:=by rw[aH];exact⟨hT,by unfold Q7;simpa using r1⟩
  rcases Bool.eq_false_or_eq_true (ieq (yh rs (dL (bX s) 1 (av (bX s)))) 0) with hb|hb
  ·simp only[i4,bn c1,bn c2,cO c3,bB (Int.not_lt.1 c4),n1,n2,hw,bn c5,bn c6,hr,hb,er,gP,iQ,iw,gV,(tN rs zs ks wr we wl yz ye iz ie ln kd).1,(tN rs zs ks wr we wl yz ye iz ie ln kd).2.1,(tN rs zs ks wr we wl yz ye iz ie ln kd).2.2.1,(tN rs zs ks wr we wl yz ye iz ie ln kd).2.2.2.1,(tN rs zs ks wr we wl yz ye iz ie ln kd).2.2.2.2.1,(tN rs zs ks wr we wl yz ye iz ie ln kd).2.2.2.2.2.1,(tN rs zs ks wr we wl yz ye iz ie ln kd).2.2.2.2.2.2.1,(tN rs zs ks wr we wl yz ye iz ie ln kd).2.2.2.2.2.2.2.1,(tN rs zs ks wr we wl yz ye iz ie ln kd).2.2.2.2.2.2.2.2.1,(tN rs zs ks wr we wl yz ye iz ie ln kd).2.2.2.2.2.2.2.2.2.1,(tN rs zs ks wr we wl yz ye iz ie ln kd).2.2.2.2.2.2.2.2.2.2]
  ·simp only[i4,bn c1,bn c2,cO c3,bB (Int.not_lt.1 c4),n1,n2,hw,bn c5,bn c6,hr,hb,er,gP,iQ,iw,gV]
 by_cases c7:nY (aR (ax (aP (bX s) 0) 0)) [V.str [82,117,108,101],V.str [90,111,110,101],V.str [76,105,110,107]]=1
 case pos=>
  have er:lJ rs zs ks yz op s=vL zs (tl1 (bX s)):=by rw[erS,if_neg c6,if_pos c7]
  have kd:iq op s=1:=by rw[kdS];unfold Ow;rw[c7];rfl
  have hr:znC zs we (dL (bX s) 1 (av (bX s)))=true:=by unfold znC;rw[decide_eq_true_eq];exact⟨hT,z1,w1⟩
  rcases Bool.eq_false_or_eq_true (ieq (vL zs (dL (bX s) 1 (av (bX s)))) 0) with hb|hb
  ·simp only[i4,bn c1,bn c2,cO c3,bB (Int.not_lt.1 c4),n1,n2,hw,bn c5,cO c6,bn c7,hr,hb,er,gP,iQ,iw,gV,(tO rs zs ks wr we wl yz ye iz ie ln kd).1,(tO rs zs ks wr we wl yz ye iz ie ln kd).2.1,(tO rs zs ks wr we wl yz ye iz ie ln kd).2.2.1,(tO rs zs ks wr we wl yz ye iz ie ln kd).2.2.2.1,(tO rs zs ks wr we wl yz ye iz ie ln kd).2.2.2.2.1,(tO rs zs ks wr we wl yz ye iz ie ln kd).2.2.2.2.2.1,(tO rs zs ks wr we wl yz ye iz ie ln kd).2.2.2.2.2.2.1,(tO rs zs ks wr we wl yz ye iz ie ln kd).2.2.2.2.2.2.2.1,(tO rs zs ks wr we wl yz ye iz ie ln kd).2.2.2.2.2.2.2.2.1,(tO rs zs ks wr we wl yz ye iz ie ln kd).2.2.2.2.2.2.2.2.2.1,(tO rs zs ks wr we wl yz ye iz ie ln kd).2.2.2.2.2.2.2.2.2.2]
  ·simp only[i4,bn c1,bn c2,cO c3,bB (Int.not_lt.1 c4),n1,n2,hw,bn c5,cO c6,bn c7,hr,hb,er,gP,iQ,iw,gV]
 have c8:nY (aR (ax (aP (bX s) 0) 0)) [V.str [82,117,108,101],V.str [90,111,110,101],V.str [76,105,110,107]]=2:=by omega
 have er:lJ rs zs ks yz op s=yj ks (tl1 (bX s)):=by rw[erS,if_neg c6,if_neg c7]
 have kd:iq op s=2:=by rw[kdS];unfold Ow;rw[c8];rfl
 have hr:Q7 wl=true:=by unfold Q7;simpa using l1
 rcases Bool.eq_false_or_eq_true (ieq (yj ks (dL (bX s) 1 (av (bX s)))) 0) with hb|hb
 ·simp only[i4,bn c1,bn c2,cO c3,bB (Int.not_lt.1 c4),n1,n2,hw,bn c5,cO c6,cO c7,bn c8,hr,hb,er,gP,iQ,iw,gV,(tQ rs zs ks wr we wl yz ye iz ie ln kd).1,(tQ rs zs ks wr we wl yz ye iz ie ln kd).2.1,(tQ rs zs ks wr we wl yz ye iz ie ln kd).2.2.1,(tQ rs zs ks wr we wl yz ye iz ie ln kd).2.2.2.1,(tQ rs zs ks wr we wl yz ye iz ie ln kd).2.2.2.2.1,(tQ rs zs ks wr we wl yz ye iz ie ln kd).2.2.2.2.2.1,(tQ rs zs ks wr we wl yz ye iz ie ln kd).2.2.2.2.2.2.1,(tQ rs zs ks wr we wl yz ye iz ie ln kd).2.2.2.2.2.2.2.1,(tQ rs zs ks wr we wl yz ye iz ie ln kd).2.2.2.2.2.2.2.2.1,(tQ rs zs ks wr we wl yz ye iz ie ln kd).2.2.2.2.2.2.2.2.2.1,(tQ rs zs ks wr we wl yz ye iz ie ln kd).2.2.2.2.2.2.2.2.2.2]
 ·simp only[i4,bn c1,bn c2,cO c3,bB (Int.not_lt.1 c4),n1,n2,hw,bn c5,cO c6,cO c7,bn c8,hr,hb,er,gP,iQ,iw,gV]
theorem FP (c0 c1 c2 c3 c4 c5:V) (ln op:Int) (s:List UInt8) (hc:(bif Wk c0 c1 c2 c3 c4 c5 then Gi (xL c0) (xL c1) (xI c1) (xY c1) (xL c3) (xL c4) (xI c4) (xY c4) (xL c5) op s else false)=true):rP eE 67 [.bxa 0 [c0,c1,c2,c3,c4,c5,.int .i64 ln,.int .i64 op],.str s] (.o9 (ieq (lJ (xL c0) (xL c1) (xL c2) (xY c1) op s) 0) (.out false (.tup []) [nZ (qa (xL c0) op s) (qb (xL c1) (xY c1) op s) (qc (xL c2) op s) (su (xL c3) ln op s) (sw (xL c4) (xY c4) ln op s) (sD (xL c5) ln op s) (sG (xI c1) (xL c1) op s) (qd (xY c1) op s) (sH (xI c4) (xL c4) op s) (sI (xY c4) ln op s) ln (nN op ln s)]) (.out true (gU ln (lJ (xL c0) (xL c1) (xL c2) (xY c1) op s)) [nZ (xL c0) (xL c1) (xL c2) (xL c3) (xL c4) (xL c5) (xI c1) (xY c1) (xI c4) (xY c4) ln op])):=by
 obtain⟨h,hc⟩:=lG hc;rw[Et h];exact He rS2_ok 5 3 (read_p _ _ _ _ _ _ _ _ _ _ _ _ _ hc)
abbrev nil6:List V:=[.nilsl,.nilsl,.nilsl,.nilsl,.nilsl,.nilsl]
abbrev WI:List V:=[.sl 47 kR (some 1000001001) [],.slz 1000001002 54 kZ [] (some 1000001502) 0 1 59 kE [],.sl 50 kL (some 1000001003) [],.sl 3 kI (some 1000001004) [],.slz 1000001005 31 kW [] (some 1000001505) 0 0 3 kI [],.sl 3 kI (some 1000001006) []]
theorem Yt {c0 c1 c2 c3 c4 c5:V} (h:okN c0 c1 c2 c3 c4 c5=true):c0=.nilsl∧c1=.nilsl∧c2=.nilsl∧c3=.nilsl∧c4=.nilsl∧c5=.nilsl:=by
 have one: ∀{v:V},isN v=true→v=.nilsl:=fun {v} h=>by
  unfold isN at h;split at h
  ·rfl
  ·cases h
 unfold okN at h;simp only[Bool.and_eq_true] at h;obtain⟨⟨h0,h1⟩,⟨h2,h3⟩,h4,h5⟩:=h;exact⟨one h0,one h1,one h2,one h3,one h4,one h5⟩
def nT (L:Nat):Option (Value×Nat×Nat):=
 if L=1000001001 then some (.slice none 0 0,47,11) else if L=1000001002 then some (.slice none 0 0,54,2) else if L=1000001502 then some (.slice none 0 0,59,13) else if L=1000001003 then some (.slice none 0 0,50,2) else
 if L=1000001004 then some (.slice none 0 0,3,1) else if L=1000001005 then some (.slice none 0 0,31,1) else if L=1000001505 then some (.slice none 0 0,3,1) else if L=1000001006 then some (.slice none 0 0,3,1) else none
def nC (L:Nat):Option (List Value):=if L=1000001002 then some [] else if L=1000001005 then some [] else none
theorem PT {L:Nat} {v:Value} {e sz:Nat} (h:nT L=some (v,e,sz)):v=.slice none 0 0∧0<sz:=by
 unfold nT at h;repeat' split at h
 all_goals first|(simp only[Option.some.injEq,Prod.mk.injEq] at h;obtain⟨rfl,_,rfl⟩:=h;exact⟨rfl,by decide⟩)|cases h
def bare:V→Bool
 | .box _ _=>true
 | .str _=>true
 | .int _ _=>true
 |_=>false
theorem I1 {g g':Gh} (hG:g'.G=g.G) (hβ:g'.β=g.β) {x:V} (hx:bare x=true) {v:Value} (h:aI g x v):aI g' x v:=by
 cases x with
 |box k off=>
  rw[dQ] at h⊢;rw[hβ];exact h
 |str l=>simp only[aI,bE] at h⊢;rw[hG];exact h
 |int k n=>simp only[aI,bE] at h⊢;rw[hG];exact h
 |_=>cases hx
theorem nil_inv {B:Own} {g:Gh} {w:World} {a:Act} {fr r:List V} (hfr: ∀x∈fr,bare x=true) (hr: ∀x∈r,bare x=true) (h:Inv eE B g.G w ⟨fr,[(HL,nil6++r)]⟩ g a w): ∃g',g'.G=g.G∧Inv eE B g'.G w ⟨fr,[(HL,WI++r)]⟩ g' a w:=by
 refine⟨{g with O:=nT,C:=nC},rfl,⟨h.fr.mono fun x hx v hv=>I1 (g:=g) (by rfl) (by rfl) (hfr x hx) hv,h.df,h.gok,⟨fun L v e sz hL=>?_,fun L L' v v' e e' sz sz' b h1 h2 hb _=>?_⟩,⟨fun k cs hk=>?_,fun k k' cs cs' hk hk' _=>?_⟩,h.kX,h.hB,h.ext,h.glob,h.g1,fun k cs L v e sz b hk hL hb=>?_⟩⟩
 ·obtain⟨h1,h2⟩:=PT hL
  exact⟨h2,.inl h1⟩
 ·obtain⟨h1,_⟩:=PT h1
  rw[h1] at hb;cases hb
 ·have hk0:au [(HL,WI++r)] k=some cs:=hk
  unfold au at hk0
  cases hkk:HL==k with
  |false=>rw[hkk] at hk0;cases hk0
  |true=>
   rw[hkk,cond_true] at hk0;obtain rfl:=Option.some.inj hk0;obtain rfl:HL=k:=by simpa using hkk
   obtain⟨b,c,e,hb,hBb,hh,hp,ho,hG,hq⟩:=h.bxs.1 HL (nil6++r) (by unfold au;rw[beq_self_eq_true,cond_true]);refine⟨b,c,e,hb,hBb,hh,?_,ho,hG,fun hh=>by cases hh⟩;obtain⟨v0,t0,e0,q0,hp⟩:=PW.cons_inv hp;obtain⟨v1,t1,e1,q1,hp⟩:=PW.cons_inv hp;obtain⟨v2,t2,e2,q2,hp⟩:=PW.cons_inv hp;obtain⟨v3,t3,e3,q3,hp⟩:=PW.cons_inv hp;obtain⟨v4,t4,e4,q4,hp⟩:=PW.cons_inv hp;obtain⟨v5,t5,e5,q5,hp⟩:=PW.cons_inv hp;have nl: ∀{v:Value},aI g .nilsl v→v=.slice none 0 0:=fun {v} hv=>by
    simp only[aI,bE] at hv;unfold aN at hv;exact hv
   rw[e0,e1,e2,e3,e4,e5,nl q0,nl q1,nl q2,nl q3,nl q4,nl q5];have o1: ∀(L e:Nat) (sh:List Kd),nT L=some (.slice none 0 0,e,sh.length)→aI {g with O:=nT,C:=nC} (.sl e sh (some L) []) (.slice none 0 0):=fun L e sh hL=>⟨hL,.inl ⟨rfl,rfl⟩⟩
   have oz: ∀(L e:Nat) (sh:List Kd) (L2:Nat) (i:Int) (c e2:Nat) (bC:List Kd),nT L=some (.slice none 0 0,e,sh.length)→nC L=some []→nT L2=some (.slice none 0 0,e2,bC.length)→aI {g with O:=nT,C:=nC} (.slz L e sh [] (some L2) i c e2 bC []) (.slice none 0 0):=
    fun L e sh L2 i c e2 bC hL hC hL2=>⟨[],hL,hC,⟨.inl ⟨rfl,rfl⟩,by simp,by unfold bQ;trivial⟩,⟨_,hL2,.inl ⟨rfl,rfl⟩,fun u _ hu=>by simp at hu⟩⟩
   exact .cons (o1 _ _ _ rfl) (.cons (oz _ _ _ _ _ _ _ _ rfl rfl rfl) (.cons (o1 _ _ _ rfl) (.cons (o1 _ _ _ rfl) (.cons (oz _ _ _ _ _ _ _ _ rfl rfl rfl) (.cons (o1 _ _ _ rfl) (hp.mono fun x hx v hv=>I1 (g:=g) (by rfl) (by rfl) (hr x hx) hv))))))
 ·have f: ∀{k:Nat} {cs:List V},au [(HL,WI++r)] k=some cs→k=HL:=fun {k cs} hk=>by
   unfold au at hk
   cases hkk:HL==k with
   |false=>rw[hkk] at hk;cases hk
   |true=>exact(by simpa using hkk:HL=k).symm
  rw[f hk,f hk']
 ·obtain⟨h1,_⟩:=PT hL
  rw[h1] at hb;cases hb
theorem S7: ∀(ys:List V) (j:Nat),(∀y∈ys,bare y=true∧ ∀k off,y≠.box k off)→bH j ys=ys∧dG j ys=[]
 |[],_,_=>⟨rfl,rfl⟩
 |y::ys,j,h=>by
  obtain⟨h1,h2⟩:=h y List.mem_cons_self;obtain⟨e1,e2⟩:=S7 ys (j+1) fun z hz=>h z (List.mem_cons_of_mem _ hz)
  cases y with
  |str l=>unfold bH dG;rw[e1,e2];exact⟨rfl,rfl⟩
  |int k n=>unfold bH dG;rw[e1,e2];exact⟨rfl,rfl⟩
  |box k off=>exact absurd rfl (h2 k off)
  |_=>cases h1
theorem nil_x {f:Nat} {r ys:List V} {v:V} (hr: ∀x∈r,bare x=true) (hy: ∀y∈ys,bare y=true∧ ∀k off,y≠.box k off) (h:rP eE f (.bxa 0 (WI++r)::ys) v):rP eE f (.bxa 0 (nil6++r)::ys) v:=by
 intro p x bs hc B g w vs hdf hi;obtain⟨e1,e2⟩:=S7 ys 1 hy;have f1: ∀cs:List V,bH 0 (.bxa 0 cs::ys)=.box HL 0::ys:=fun cs=>by
  show V.box HL 0::bH 1 ys=_;rw[e1]
 have f2: ∀cs:List V,dG 0 (.bxa 0 cs::ys)=[(HL,cs)]:=fun cs=>by
  show(HL+0,cs)::dG 1 ys=_;rw[e2];rfl
 rw[f1,f2] at hi;obtain⟨g',hG,hi'⟩:=nil_inv (by
  intro x hx;rcases List.mem_cons.1 hx with rfl|hx
  ·rfl
  ·exact(hy x hx).1) hr hi
 have:=h p x bs hc B g' w vs hdf (by rw[f1,f2];exact hi');rw[hG,show eX 0 (V.bxa 0 (WI++r)::ys) bs=eX 0 (V.bxa 0 (nil6++r)::ys) bs by cases bs<;>rfl] at this;exact this
theorem VS (c0 c1 c2 c3 c4 c5:V) (ln op:Int) (s:List UInt8) (hc:(bif okB c0 c1 c2 c3 c4 c5 then Gi (xL c0) (xL c1) (xI c1) (xY c1) (xL c3) (xL c4) (xI c4) (xY c4) (xL c5) op s else false)=true):rP eE 67 [.bxa 0 [c0,c1,c2,c3,c4,c5,.int .i64 ln,.int .i64 op],.str s] (.o9 (ieq (lJ (xL c0) (xL c1) (xL c2) (xY c1) op s) 0) (.out false (.tup []) [nZ (qa (xL c0) op s) (qb (xL c1) (xY c1) op s) (qc (xL c2) op s) (su (xL c3) ln op s) (sw (xL c4) (xY c4) ln op s) (sD (xL c5) ln op s) (sG (xI c1) (xL c1) op s) (qd (xY c1) op s) (sH (xI c4) (xL c4) op s) (sI (xY c4) ln op s) ln (nN op ln s)]) (.out true (gU ln (lJ (xL c0) (xL c1) (xL c2) (xY c1) op s)) [nZ (xL c0) (xL c1) (xL c2) (xL c3) (xL c4) (xL c5) (xI c1) (xY c1) (xI c4) (xY c4) ln op])):=by
 obtain⟨h,hc⟩:=lG hc;unfold okB at h;rw[Bool.or_eq_true] at h;rcases h with h|h
 ·exact FP _ _ _ _ _ _ _ _ _ (by rw[h];exact hc)
 ·obtain⟨rfl,rfl,rfl,rfl,rfl,rfl⟩:=Yt h
  exact nil_x (r:=[.int .i64 ln,.int .i64 op]) (ys:=[.str s]) (by simp[bare]) (by simp[bare]) (FP (.sl 47 kR (some 1000001001) []) (.slz 1000001002 54 kZ [] (some 1000001502) 0 1 59 kE []) (.sl 50 kL (some 1000001003) []) (.sl 3 kI (some 1000001004) []) (.slz 1000001005 31 kW [] (some 1000001505) 0 0 3 kI []) (.sl 3 kI (some 1000001006) []) ln op s hc)
theorem JI:bq eE rS3:=by
 unfold rS3;refine bq.tF (fun args r h=>?_) Es;all_goals (revert h;intro h;first|unfold Yp at h)
 all_goals (split at h;rotate_left; · cases h)
 all_goals (simp only[Option.some.injEq,Prod.mk.injEq] at h;obtain⟨hc,rfl⟩:=h)
 ·exact VS _ _ _ _ _ _ _ _ _ hc
structure qP where
 rs:List V
 zs:List V
 ks:List V
 wr:List V
 we:List V
 wl:List V
 iz:Int
 yz:List V
 ie:Int
 ye:List V
 op:Int
def r0:qP:=⟨[],[],[],[],[],[],0,[],0,[],0⟩
noncomputable def qP.err (t:qP) (s:List UInt8):Int:=lJ t.rs t.zs t.ks t.yz t.op s
noncomputable def qP.step (t:qP) (ln:Int) (s:List UInt8):qP:=
 ⟨qa t.rs t.op s,qb t.zs t.yz t.op s,qc t.ks t.op s,su t.wr ln t.op s,sw t.we t.ye ln t.op s,sD t.wl ln t.op s,sG t.iz t.zs t.op s,qd t.yz t.op s,sH t.ie t.we t.op s,sI t.ye ln t.op s,nN t.op ln s⟩
noncomputable abbrev DF (x:V):List UInt8:=aR (ax x 0)
noncomputable def fQ:List V→Int→qP→qP×Int×Int
 |[],ln,t=>(t,ln,0)
 |x::xs,ln,t=>if t.err (DF x)=0 then fQ xs (ln+1) (t.step (ln+1) (DF x)) else(t,ln+1,t.err (DF x))
structure Good (t:qP):Prop where
 z:t.zs.length≤1024
 we:t.we.length=t.zs.length
 y:t.yz.length≤256
 ye:t.ye.length=t.yz.length
 r:t.rs.length≤4096
 wr:t.wr.length=t.rs.length
 k:t.ks.length≤1024
 wl:t.wl.length=t.ks.length
 op:0<t.op→0<t.zs.length
 i:0<t.zs.length→t.iz=(t.zs.length:Int)-1∧t.ie=(t.zs.length:Int)-1
theorem ru:Good r0:=⟨by decide,rfl,by decide,rfl,by decide,rfl,by decide,rfl,by decide,by decide⟩
theorem Good.ck {t:qP} (h:Good t) {s:List UInt8} (hs:s.length≤4000000):Gi t.rs t.zs t.iz t.yz t.wr t.we t.ie t.ye t.wl t.op s=true:=by
 obtain⟨h1,h2,h3,h4,h5,h6,h7,h8,h9,h10⟩:=h;unfold Gi;rw[decide_eq_true_eq];refine⟨hs,by omega,by omega,by omega,by omega,by omega,by omega,fun ho=>?_⟩;have hz:=h9 ho;have hi:=h10 hz;exact⟨hz,hi.1,by omega,by rw[hi.2,h2]⟩
theorem ni {e n m:Int} (h:nK e n m=0):e=0∧n<m:=by
 unfold nK at h;split at h
 ·exact absurd h ‹_›
 ·rename_i he
  split at h
  ·exact⟨by omega, ‹_›⟩
  ·cases h
theorem zm (zs yz xs:List V):(pE zs yz xs).length=zs.length:=by unfold pE pY;simp
theorem Z7 (we ye:List V) (ln:Int):(rZ we ye ln).length=we.length:=by unfold rZ pY;simp
theorem zn (zs xs:List V):(sj zs xs).length=zs.length+1:=by unfold sj aZ;simp
theorem Z8 (we:List V) (ln:Int):(yo we ln).length=we.length+1:=by unfold yo aZ;simp
theorem Xo {t:qP} {s:List UInt8} (h:t.err s=0):(iq t.op s=4∨(iq t.op s=3∧0<t.op∧wU t.yz (bX s)=0)∨(¬0<t.op∧iq t.op s=0∧yh t.rs (tl1 (bX s))=0)∨(¬0<t.op∧iq t.op s=1∧vL t.zs (tl1 (bX s))=0)∨(¬0<t.op∧iq t.op s=2∧yj t.ks (tl1 (bX s))=0))∧DD s=0∧Le s=0:=by
 unfold qP.err lJ at h;by_cases c1:DD s=0
 case neg=>rw[if_pos c1] at h;exact absurd h c1
 rw[if_neg (fun e=>e c1)] at h;by_cases c2:Le s=0
 case neg=>rw[if_pos c2] at h;exact absurd h c2
 rw[if_neg (fun e=>e c2)] at h;refine⟨?_,c1,c2⟩;unfold iq;by_cases c3:av (bX s)=0
 ·rw[if_pos c3];exact .inl rfl
 rw[if_neg c3] at h⊢;by_cases c4:0<t.op
 ·rw[if_pos c4] at h⊢
  exact .inr (.inl ⟨rfl,c4,h⟩)
 rw[if_neg c4] at h⊢;by_cases c5:qo (aR (ax (aP (bX s) 0) 0)) Ow=0
 case neg=>rw[if_pos c5] at h;exact absurd h c5
 rw[if_neg (fun e=>e c5)] at h;obtain⟨m0,m3⟩:=za _ _ (by decide) c5;have m3:nY (aR (ax (aP (bX s) 0) 0)) Ow<3:=m3;by_cases c6:nY (aR (ax (aP (bX s) 0) 0)) Ow=0
 ·rw[if_pos c6] at h
  rw[c6];exact .inr (.inr (.inl ⟨c4,rfl,h⟩))
 rw[if_neg c6] at h;by_cases c7:nY (aR (ax (aP (bX s) 0) 0)) Ow=1
 ·rw[if_pos c7] at h
  rw[c7];exact .inr (.inr (.inr (.inl ⟨c4,rfl,h⟩)))
 rw[if_neg c7] at h;have c8:nY (aR (ax (aP (bX s) 0) 0)) Ow=2:=by omega
 rw[c8];exact .inr (.inr (.inr (.inr ⟨c4,rfl,h⟩)))
theorem Yu {zs xs:List V} (h:vL zs xs=0): ¬av xs=0∧fF (aR (ax (aP xs 0) 0))=0∧lM (tl1 xs)=0∧av zs<1024:=by
 unfold vL at h;by_cases a:av xs=0
 ·rw[if_pos a] at h;cases h
 rw[if_neg a] at h;by_cases b:fF (aR (ax (aP xs 0) 0))=0
 case neg=>rw[if_pos b] at h;exact absurd h b
 rw[if_neg (fun e=>e b)] at h;exact⟨a,b,ni h⟩
theorem jW {t:qP} {ln:Int} {s:List UInt8} {k:Nat} (kd:iq t.op s=k):t.step ln s=
  ⟨if k=0 then aZ t.rs [Tq (tl1 (bX s))] else t.rs,if k=3 then pE t.zs t.yz (bX s) else if k=1 then sj t.zs (tl1 (bX s)) else t.zs,if k=2 then aZ t.ks [Wn (tl1 (bX s))] else t.ks,if k=0 then aZ t.wr [.int .i64 ln] else t.wr,if k=3 then rZ t.we t.ye ln else if k=1 then yo t.we ln else t.we,if k=2 then aZ t.wl [.int .i64 ln] else t.wl,if k=1 then av t.zs else t.iz,if k=3 then aZ t.yz [z8 (bX s)] else if k=1 then[z8 (tl1 (tl1 (bX s)))] else t.yz,if k=1 then av t.we else t.ie,if k=3 then aZ t.ye [.int .i64 ln] else if k=1 then[.int .i64 ln] else t.ye,if k=3 then nD (bX s) ln else if k=1 then nD (tl1 (tl1 (bX s))) ln else t.op⟩:=by
 unfold qP.step qa qb qc su sw sD sG qd sH sI nN;rw[kd]
theorem Good.step {t:qP} (h:Good t) {ln:Int} {s:List UInt8} (he:t.err s=0):Good (t.step ln s):=by
 obtain⟨h1,h2,h3,h4,h5,h6,h7,h8,h9,h10⟩:=h;obtain⟨hk,_,_⟩:=Xo he;rcases hk with kd|⟨kd,ho,er⟩|⟨ho,kd,er⟩|⟨ho,kd,er⟩|⟨ho,kd,er⟩
 ·rw[jW kd]
  exact⟨h1,h2,h3,h4,h5,h6,h7,h8,h9,h10⟩
 ·rw[jW kd]
  have hy:=(ni er).2;rw[aD] at hy;have hz:=h9 ho;have hi:=h10 hz;refine⟨?_,?_,?_,?_,h5,h6,h7,h8,?_,?_⟩
  ·show(pE t.zs t.yz (bX s)).length≤1024;rw[zm];exact h1
  ·show(rZ t.we t.ye ln).length=(pE t.zs t.yz (bX s)).length;rw[zm,Z7];exact h2
  ·show(aZ t.yz [z8 (bX s)]).length≤256;unfold aZ;rw[List.length_append,List.length_singleton];omega
  ·show(aZ t.ye [.int .i64 ln]).length=(aZ t.yz [z8 (bX s)]).length;unfold aZ;rw[List.length_append,List.length_append,List.length_singleton,List.length_singleton];omega
  ·intro _;show 0<(pE t.zs t.yz (bX s)).length;rw[zm];exact hz
  ·intro _;show t.iz=((pE t.zs t.yz (bX s)).length:Int)-1∧t.ie=((pE t.zs t.yz (bX s)).length:Int)-1;rw[zm];exact hi
 ·rw[jW kd]
  have hy:=(ni er).2;rw[aD] at hy;refine⟨h1,h2,h3,h4,?_,?_,h7,h8,h9,h10⟩
  ·show(aZ t.rs [Tq (tl1 (bX s))]).length≤4096;unfold aZ;rw[List.length_append,List.length_singleton];omega
  ·show(aZ t.wr [.int .i64 ln]).length=(aZ t.rs [Tq (tl1 (bX s))]).length;unfold aZ;rw[List.length_append,List.length_append,List.length_singleton,List.length_singleton];omega
 ·rw[jW kd]
  have hy:=(Yu er).2.2.2;rw[aD] at hy;refine⟨?_,?_,?_,rfl,h5,h6,h7,h8,?_,?_⟩
  ·show(sj t.zs (tl1 (bX s))).length≤1024;rw[zn];omega
  ·show(yo t.we ln).length=(sj t.zs (tl1 (bX s))).length;rw[zn,Z8];omega
  ·show([z8 (tl1 (tl1 (bX s)))]:List V).length≤256;simp
  ·intro _;show 0<(sj t.zs (tl1 (bX s))).length;rw[zn];omega
  ·intro _;show av t.zs=((sj t.zs (tl1 (bX s))).length:Int)-1∧av t.we=((sj t.zs (tl1 (bX s))).length:Int)-1;rw[zn,aD,aD];omega
 ·rw[jW kd]
  have hy:=(ni er).2;rw[aD] at hy;refine⟨h1,h2,h3,h4,h5,h6,?_,?_,h9,h10⟩
  ·show(aZ t.ks [Wn (tl1 (bX s))]).length≤1024;unfold aZ;rw[List.length_append,List.length_singleton];omega
  ·show(aZ t.wl [.int .i64 ln]).length=(aZ t.ks [Wn (tl1 (bX s))]).length;unfold aZ;rw[List.length_append,List.length_append,List.length_singleton,List.length_singleton];omega
theorem Bi: ∀(xs:List V) (ln:Int) (t:qP),Good t→Good (fQ xs ln t).1
 |[],ln,t,h=>h
 |x::xs,ln,t,h=>by
  unfold fQ;split
  ·exact Bi xs (ln+1) _ (h.step ‹_›)
  ·exact h
noncomputable def fU (s:List UInt8):qP×Int×Int:=fQ (bY s) 0 r0
noncomputable def vM (q:qP×Int×Int):Int:=if q.2.2≠0 then q.2.2 else if 0<q.1.op then 16 else 0
noncomputable def wW (q:qP×Int×Int):Int:=if q.2.2≠0 then q.2.1 else if 0<q.1.op then q.1.op else q.2.1
noncomputable def Jg (s:List UInt8):List V:=(fU s).1.rs
noncomputable def Jh (s:List UInt8):List V:=(fU s).1.zs
noncomputable def Ji (s:List UInt8):List V:=(fU s).1.ks
noncomputable def Lv (s:List UInt8):List V:=(fU s).1.wr
noncomputable def Lx (s:List UInt8):List V:=(fU s).1.we
noncomputable def LA (s:List UInt8):List V:=(fU s).1.wl
noncomputable def alIz (s:List UInt8):Int:=(fU s).1.iz
noncomputable def alYz (s:List UInt8):List V:=(fU s).1.yz
noncomputable def alIe (s:List UInt8):Int:=(fU s).1.ie
noncomputable def alYe (s:List UInt8):List V:=(fU s).1.ye
noncomputable def alOp (s:List UInt8):Int:=(fU s).1.op
noncomputable def Lf (s:List UInt8):Int:=vM (fU s)
noncomputable def Tt (s:List UInt8):Int:=wW (fU s)
noncomputable def rAllS:aF:=fun a=>match a with|[.bxa 0 [c0,c1,c2,c3,c4,c5,.int .i64 ln,.int .i64 op],.str s]=>some (bif okN c0 c1 c2 c3 c4 c5 then ak (ieq ln 0) (ieq op 0) else false,.o9 (aT 1048576 (aj s)) (.out true (gU 0 9) [[.nilsl,.nilsl,.nilsl,.nilsl,.nilsl,.nilsl,.int .i64 0,.int .i64 0]]) (.o9 (ieq (av (bY s)) 0) (.out false (.tup []) [[.nilsl,.nilsl,.nilsl,.nilsl,.nilsl,.nilsl,.int .i64 0,.int .i64 0]]) (.o9 (ieq (Lf s) 0) (.out false (.tup []) [bxn (Jg s) (Jh s) (Ji s) (Lv s) (Lx s) (LA s) (alIz s) (alYz s) (alIe s) (alYe s) (Tt s) (alOp s)]) (.out true (gU (Tt s) (Lf s)) [bxn (Jg s) (Jh s) (Ji s) (Lv s) (Lx s) (LA s) (alIz s) (alYz s) (alIe s) (alYe s) (Tt s) (alOp s)]))))|_=>none
noncomputable def rS4:List (Nat×aF):=(GX+32,rAllS)::rS3
noncomputable def M9 (F:Nat) (ns:List Nat) (n:Nat) (x1:List UInt8) (Df:List V) (DI CU dD aL:Int) (K:V→Option V):Option V:=
 Di eE rS3 F 3 32 [V.bxa 0 [],V.nilsl] [1,0,1,0] ns K n (mH 43 [(0,V.box 1000000000 0),(1,V.str x1),(12,V.sl 9 [Kd.str] none Df),(13,V.int .i64 DI),(14,V.int .i64 CU)] [(1000000000,[V.nilsl,V.nilsl,V.nilsl,V.nilsl,V.nilsl,V.nilsl,V.int .i64 dD,V.int .i64 aL])])
noncomputable def zo (F:Nat) (ns:List Nat) (n:Nat) (x1:List UInt8) (Df:List V) (DI CU:Int) (aX fH:List V) (gz:Int) (dU jf jg gT:List V) (gD:Int) (fA jh:List V) (dD aL:Int) (K:V→Option V):Option V:=
 Di eE rS3 F 3 32 [V.bxa 0 [],V.nilsl] [1,0,1,0] ns K n (mH 43 [(0,V.box 1000000000 0),(1,V.str x1),(12,V.sl 9 [Kd.str] none Df),(13,V.int .i64 DI),(14,V.int .i64 CU)] [(1000000000,[V.sl 47 kR (some 10000) aX,V.slz 10001 54 kZ fH (some 15001) gz 1 59 kE dU,V.sl 50 kL (some 10002) jf,V.sl 3 [Kd.int .i64] (some 10003) jg,V.slz 10004 31 kW gT (some 15004) gD 0 3 [Kd.int .i64] fA,V.sl 3 [Kd.int .i64] (some 10005) jh,V.int .i64 dD,V.int .i64 aL])])
theorem Bj (F:Nat) (s:List UInt8) (K:V→Option V):
 cr eE (bV eE rS3 F 3) F 32 [V.bxa 0 [V.nilsl,V.nilsl,V.nilsl,V.nilsl,V.nilsl,V.nilsl,V.int .i64 0,V.int .i64 0],V.str s] K=
 let A:=V.int .i64 0;sel (aT 1048576 (aj s)) (K (V.out true (V.iface 76 (V.agg [A,V.int .i64 9])) [[V.nilsl,V.nilsl,V.nilsl,V.nilsl,V.nilsl,V.nilsl,A,A]])) (sel (ai (aj s) 4000000) (M9 F [] F s (bY s) (av (bY s)) 0 0 0 K) none):=by kernel_rfl
theorem wL (F n:Nat) (x1:List UInt8) (Df:List V) (DI CU dD aL:Int) (K:V→Option V):
 M9 F [] (n+1) x1 Df DI CU dD aL K=
 let A:=aR (ax (aP Df CU) 0);let B:=fB .i64 dD 1;let C:=V.int .i64 aL;let E:=[Kd.int .i64];let D:=lJ [] [] [] [] aL A;sel (aT CU DI) (sel (ak (ai 0 CU) (aT CU (av Df))) (sel (Gi [] [] 0 [] [] [] 0 [] [] aL A) (sel (ieq D 0) (zo F [] n x1 Df DI (fB .i64 CU 1) (qa [] aL A) (qb [] [] aL A) (sG 0 [] aL A) (qd [] aL A) (qc [] aL A) (su [] B aL A) (sw [] [] B aL A) (sH 0 [] aL A) (sI [] B aL A) (sD [] B aL A) B (nN aL B A) K) (K (V.out true (V.iface 76 (V.agg [V.int .i64 B,V.int .i64 D])) [[V.sl 47 kR (some 1001) [],V.slz 1002 54 kZ [] (some 1502) 0 1 59 kE [],V.sl 50 kL (some 1003) [],V.sl 3 E (some 1004) [],V.slz 1005 31 kW [] (some 1505) 0 0 3 E [],V.sl 3 E (some 1006) [],V.int .i64 B,C]]))) none) none) (sel (aT 0 aL) (K (V.out true (V.iface 76 (V.agg [C,V.int .i64 16])) [[V.nilsl,V.nilsl,V.nilsl,V.nilsl,V.nilsl,V.nilsl,C,C]])) (K (V.out false (V.tup []) [[V.nilsl,V.nilsl,V.nilsl,V.nilsl,V.nilsl,V.nilsl,V.int .i64 dD,C]]))):=by kernel_rfl
theorem wM (F n:Nat) (x1:List UInt8) (Df:List V) (DI CU:Int) (aX fH:List V) (gz:Int) (dU jf jg gT:List V) (gD:Int) (fA jh:List V) (dD aL:Int) (K:V→Option V):
 zo F [] (n+1) x1 Df DI CU aX fH gz dU jf jg gT gD fA jh dD aL K=
 let A:=aR (ax (aP Df CU) 0);let C:=fB .i64 dD 1;let D:=V.slz 1002 54 kZ fH (some 1502) gz 1 59 kE dU;let E:=V.int .i64 aL;let J:=V.sl 47 kR (some 1001) aX;let L:=V.sl 50 kL (some 1003) jf;let M:=[Kd.int .i64];let B:=V.slz 1005 31 kW gT (some 1505) gD 0 3 M fA;let G:=V.sl 3 M (some 1004) jg;let H:=V.sl 3 M (some 1006) jh;let I:=lJ aX fH jf dU aL A;sel (aT CU DI) (sel (ak (ai 0 CU) (aT CU (av Df))) (sel (Gi aX fH gz dU jg gT gD fA jh aL A) (sel (ieq I 0) (zo F [] n x1 Df DI (fB .i64 CU 1) (qa aX aL A) (qb fH dU aL A) (sG gz fH aL A) (qd dU aL A) (qc jf aL A) (su jg C aL A) (sw gT fA C aL A) (sH gD gT aL A) (sI fA C aL A) (sD jh C aL A) C (nN aL C A) K) (K (V.out true (V.iface 76 (V.agg [V.int .i64 C,V.int .i64 I])) [[J,D,L,G,B,H,V.int .i64 C,E]]))) none) none) (sel (aT 0 aL) (K (V.out true (V.iface 76 (V.agg [E,V.int .i64 16])) [[J,D,L,G,B,H,E,E]])) (K (V.out false (V.tup []) [[J,D,L,G,B,H,V.int .i64 dD,E]]))):=by kernel_rfl
theorem vC (F:Nat) (s:List UInt8) (K:V→Option V):
 cr eE (bV eE rS4 F 3) F 11 [V.str s] K=
 let A:=K (tbV (Jg s) (Jh s) (Ji s) (Lv s) (Lx s) (LA s) 0 0);let B:=K (nlV (Tt s) (Lf s));let C:=K (nlV 0 9);let D:=K (nlV 0 0);let E:=both C C;let G:=both D D;let H:=both A A;let I:=both B B;sel (aT 1048576 (aj s)) (both (both (both C E) (both E (both E C))) (both (both (both C E) C) (both E C))) (sel (ieq (av (bY s)) 0) (both (both (both D G) (both G (both G D))) (both (both (both D G) D) (both G D))) (sel (ieq (Lf s) 0) (both (both (both A H) (both H (both H A))) (both (both (both A H) A) (both H A))) (both (both (both B I) (both I (both I B))) (both (both (both B I) B) (both I B))))):=by kernel_rfl
end Nt.Ev.YtplklcejbmfgdaaGreatDoor.Rr
namespace Nt.Lin
open Go Nt.Ev
theorem EY: ∀(s cur:List UInt8),∀l∈lg s cur,l.length≤cur.length+s.length
 |[],cur,l,h=>by
  unfold lg at h
  cases cur with
  |nil=>cases h
  |cons c t=>simp only[List.mem_singleton] at h;subst h;simp
 |c::t,cur,l,h=>by
  unfold lg at h
  cases hc:c==10 with
  |true=>
   rw[hc,cond_true,List.mem_cons] at h;rcases h with rfl|h
   ·rw[List.length_cons];omega
   ·have:=EY t [] l h
    rw[List.length_nil] at this;rw[List.length_cons];omega
  |false=>
   rw[hc,cond_false] at h;have:=EY t (cur++[c]) l h;rw[List.length_append,List.length_singleton] at this;rw[List.length_cons];omega
end Nt.Lin
namespace Nt.Ev.YtplklcejbmfgdaaGreatDoor.Rr
set_option maxRecDepth 100000
open Go Go.RowKit Nt Nt.Num Nt.Civil Nt.Fld Go.Proofs.YtplklcejbmfgdaaGreatDoor Nt.Ev.YtplklcejbmfgdaaGreatDoor Nt.Ev.YtplklcejbmfgdaaGreatDoor.Lk
variable [mJ]
theorem VT (s:List UInt8) (hs:s.length≤4000000): ∀x∈bY s,(DF x).length≤4000000:=by
 intro x hx;unfold bY Nt.Ev.bL at hx;obtain⟨l,hl,rfl⟩:=List.mem_map.1 hx;have:=Nt.Lin.EY s [] l hl;rw[List.length_nil] at this;show l.length≤4000000;omega
theorem qE (s:List UInt8):(bY s).length≤s.length:=by
 unfold bY;rw[je,Nt.Lin.PO (s.length+1) s (by omega),List.length_map];exact Nt.Lin.PR (s.length+1) s (by omega)
theorem EN {xs:List V} {i:Nat} (h:i<xs.length):xs.drop i=aP xs (i:Int)::xs.drop (i+1):=by
 rw[List.drop_eq_getElem_cons h,ku];congr 1
 simp[h]
theorem get_mem {xs:List V} {i:Nat} (h:i<xs.length):aP xs (i:Int)∈xs:=by
 rw[ku];simp[h]
noncomputable def D8 (q:qP×Int×Int):V:=sel (ieq (vM q) 0) (.out false (.tup []) [bxn q.1.rs q.1.zs q.1.ks q.1.wr q.1.we q.1.wl q.1.iz q.1.yz q.1.ie q.1.ye (wW q) q.1.op]) (.out true (gU (wW q) (vM q)) [bxn q.1.rs q.1.zs q.1.ks q.1.wr q.1.we q.1.wl q.1.iz q.1.yz q.1.ie q.1.ye (wW q) q.1.op])
theorem gL {x:V} {xs:List V} {ln:Int} {t:qP} (h:t.err (DF x)=0):fQ (x::xs) ln t=fQ xs (ln+1) (t.step (ln+1) (DF x)):=by
 show(if t.err (DF x)=0 then _ else _)=_;rw[if_pos h]
theorem iV {x:V} {xs:List V} {ln:Int} {t:qP} (h:t.err (DF x)≠0):fQ (x::xs) ln t=(t,ln+1,t.err (DF x)):=by
 show(if t.err (DF x)=0 then _ else _)=_;rw[if_neg h]
theorem al_loop (F:Nat) (s:List UInt8) (xs:List V) (hx:xs.length≤4000000) (hs: ∀x∈xs,(DF x).length≤4000000): ∀(j i n:Nat) (t:qP),i+j=xs.length→j<n→Good t→
  zo F [] n s xs (av xs) (i:Int) t.rs t.zs t.iz t.yz t.ks t.wr t.we t.ie t.ye t.wl (i:Int) t.op some=some (D8 (fQ (xs.drop i) i t)):=by
 intro j;induction j with
 |zero=>
  intro i n t hi hn hg;obtain⟨n,rfl⟩: ∃k,n=k+1:=⟨n-1,by omega⟩
  (rw[wM];(conv=>zeta);rw[aU (bB (by rw[aD];omega)),List.drop_of_length_le (by omega)])
  unfold fQ D8 vM wW;by_cases ho:0<t.op
  ·rw[ay (bD ho)]
   simp only[ne_eq,not_true_eq_false,if_false,if_pos ho];rfl
  ·rw[aU (bB (by omega))]
   simp only[ne_eq,not_true_eq_false,if_false,if_neg ho];rfl
 |succ j ih=>
  intro i n t hi hn hg;obtain⟨n,rfl⟩: ∃k,n=k+1:=⟨n-1,by omega⟩
  have hl:i<xs.length:=by omega
  have i1:fB .i64 (i:Int) 1=((i+1:Nat):Int):=by rw[iO (by omega)];omega
  (rw[wM];(conv=>zeta);rw[ay (bD (by rw[aD];omega)),ay (by rw[aH,aA,bf,aD];omega),ay (hg.ck (hs _ (get_mem hl))),EN hl,i1])
  by_cases he:t.err (DF (aP xs (i:Int)))=0
  ·rw[gL he,show((i:Int)+1)=((i+1:Nat):Int) by omega,←ih (i+1) n (t.step ((i+1:Nat):Int) (DF (aP xs (i:Int)))) (by omega) (by omega) (hg.step he)]
   exact ay (bn he)
  ·rw[iV he]
   refine(aU (cO he)).trans ?_;unfold D8 vM wW;simp only[ne_eq,he,not_false_eq_true,if_true];rw[aU (cO he),show((i:Int)+1)=((i+1:Nat):Int) by omega];rfl
theorem al_body (s:List UInt8) (hs:s.length≤1048576) (h0: ¬av (bY s)=0):cr eE (bV eE rS3 ((bY s).length+1) 3) ((bY s).length+1) 32 [V.bxa 0 [V.nilsl,V.nilsl,V.nilsl,V.nilsl,V.nilsl,V.nilsl,V.int .i64 0,V.int .i64 0],V.str s] some=some (D8 (fU s)):=by
 have hf:=qE s;have hln:=VT s (by omega);rw[aD] at h0;have hl:0<(bY s).length:=by omega
 (rw[Bj];(conv=>zeta);rw[aU (bB (by rw[aB];omega)),ay (bF (by rw[aB];omega))])
 (rw[wL];(conv=>zeta);rw[ay (bD (by rw[aD];omega)),ay (by rw[aH,aA,bf,aD];omega),ay (show Gi [] [] 0 [] [] [] 0 [] [] 0 (aR (ax (aP (bY s) 0) 0))=true from ru.ck (hln _ (get_mem (i:=0) hl))),show fB .i64 0 1=((0+1:Nat):Int) from rfl])
 unfold fU;have hd:=EN (xs:=bY s) (i:=0) hl;rw[List.drop_zero] at hd;refine Eq.symm (Eq.trans (show some (D8 (fQ (bY s) 0 r0))=some (D8 (fQ (aP (bY s) ((0:Nat):Int)::(bY s).drop 1) 0 r0)) by rw[←hd]) ?_);by_cases he:r0.err (DF (aP (bY s) ((0:Nat):Int)))=0
 ·rw[gL he]
  have:=al_loop ((bY s).length+1) s (bY s) (by omega) hln ((bY s).length-1) 1 (bY s).length (r0.step 1 (DF (aP (bY s) ((0:Nat):Int)))) (by omega) (by omega) (ru.step he);refine Eq.trans ?_ (ay (bn he)).symm;exact this.symm
 ·rw[iV he]
  refine Eq.trans ?_ (aU (cO he)).symm;unfold D8 vM wW;simp only[ne_eq,he,not_false_eq_true,if_true];rw[aU (cO he)];rfl
theorem Z9 (c0 c1 c2 c3 c4 c5:V) (ln op:Int) (s:List UInt8) (hc:(bif okN c0 c1 c2 c3 c4 c5 then ak (ieq ln 0) (ieq op 0) else false)=true):rP eE 32 [.bxa 0 [c0,c1,c2,c3,c4,c5,.int .i64 ln,.int .i64 op],.str s] (.o9 (aT 1048576 (aj s)) (.out true (gU 0 9) [[.nilsl,.nilsl,.nilsl,.nilsl,.nilsl,.nilsl,.int .i64 0,.int .i64 0]]) (.o9 (ieq (av (bY s)) 0) (.out false (.tup []) [[.nilsl,.nilsl,.nilsl,.nilsl,.nilsl,.nilsl,.int .i64 0,.int .i64 0]]) (.o9 (ieq (Lf s) 0) (.out false (.tup []) [bxn (Jg s) (Jh s) (Ji s) (Lv s) (Lx s) (LA s) (alIz s) (alYz s) (alIe s) (alYe s) (Tt s) (alOp s)]) (.out true (gU (Tt s) (Lf s)) [bxn (Jg s) (Jh s) (Ji s) (Lv s) (Lx s) (LA s) (alIz s) (alYz s) (alIe s) (alYe s) (Tt s) (alOp s)])))):=by
 obtain⟨h,hc⟩:=lG hc;obtain⟨h1,h2⟩:=aY hc;rw[aK] at h1 h2;subst h1;subst h2;obtain⟨rfl,rfl,rfl,rfl,rfl,rfl⟩:=Yt h;refine rP.o9 (fun h=>rP.out (mq iY JI 1 3 ?_)) (fun h=>rP.o9 (fun h0=>rP.out (mq iY JI 1 3 ?_)) (fun h0=>?_))
 ·(rw[Bj];(conv=>zeta);rw[ay h])
 ·have hl:s.length≤1048576:=by
   have: ¬(1048576<aj s):=fun hh=>by rw[bD hh] at h;cases h
   rw[aB] at this;omega
  rw[aK] at h0
  (rw[Bj];(conv=>zeta);rw[aU h,ay (bF (by rw[aB];omega)),wL];(conv=>zeta);rw[aU (bB (by omega)),aU (bB (by omega))])
 ·have hl:s.length≤1048576:=by
   have: ¬(1048576<aj s):=fun hh=>by rw[bD hh] at h;cases h
   rw[aB] at this;omega
  have h0': ¬av (bY s)=0:=fun hh=>by rw[bn hh] at h0;cases h0
  exact He JI _ 3 (al_body s hl h0')
theorem JJ:bq eE rS4:=by
 unfold rS4;refine bq.tF (fun args r h=>?_) JI;all_goals (revert h;intro h;first|unfold rAllS at h)
 all_goals (split at h;rotate_left; · cases h)
 all_goals (simp only[Option.some.injEq,Prod.mk.injEq] at h;obtain⟨hc,rfl⟩:=h)
 ·exact Z9 _ _ _ _ _ _ _ _ _ hc
noncomputable def rU (s:List UInt8):Int:=if 1048576<s.length then 9 else Lf s
noncomputable def qp (s:List UInt8):Int:=if 1048576<s.length then 0 else if Lf s=0 then 0 else Tt s
noncomputable def qT (s:List UInt8):List V:=if rU s=0 then Jg s else[]
noncomputable def qU (s:List UInt8):List V:=if rU s=0 then Jh s else[]
noncomputable def qV (s:List UInt8):List V:=if rU s=0 then Ji s else[]
noncomputable def Gj (s:List UInt8):List V:=if rU s=0 then Lv s else[]
noncomputable def Gl (s:List UInt8):List V:=if rU s=0 then Lx s else[]
noncomputable def Gm (s:List UInt8):List V:=if rU s=0 then LA s else[]
theorem zq {G:aM} {v:Value} {e:Nat} {sh:List Kd} (h:aN G .nilsl v):aN G (.sl e sh none []) v:=by
 unfold aN at h;subst h;unfold aN;exact⟨none,0,rfl,Nat.le_refl _,.inl rfl⟩
theorem Na {G:aM} {v:Value} {e1 e2 e3:Nat} {s1 s2 s3:List Kd} (h:aN G (.agg [.nilsl,.nilsl,.nilsl]) v):aN G (.agg [.sl e1 s1 none [],.sl e2 s2 none [],.sl e3 s3 none []]) v:=by
 unfold aN at h;obtain⟨a,rfl,h⟩:=h;unfold jm at h;obtain⟨v1,t1,rfl,h1,h⟩:=h;unfold jm at h;obtain⟨v2,t2,rfl,h2,h⟩:=h;unfold jm at h;obtain⟨v3,t3,rfl,h3,h⟩:=h;unfold aN;refine⟨_,rfl,?_⟩;unfold jm;refine⟨_,_,rfl,zq h1,?_⟩;unfold jm;refine⟨_,_,rfl,zq h2,?_⟩;unfold jm;exact⟨_,_,rfl,zq h3,h⟩
theorem PU {E:Env} {f:Nat} {args:List V} {l w:Int} (h:af E f args (nlV l w)):af E f args (tbV [] [] [] [] [] [] l w):=by
 intro G w vs hG hg hp;refine(h G w vs hG hg hp).mono ?_;rintro e' w' ⟨v,G',rfl,hn,a,rfl,hpw,hc⟩;refine⟨_,G',rfl,hn,a,rfl,?_,hc⟩;obtain⟨v1,t1,rfl,h1,hpw⟩:=hpw.cons_inv;obtain⟨v2,t2,rfl,h2,hpw⟩:=hpw.cons_inv;exact .cons (Na h1) (.cons (Na h2) hpw)
theorem alE_nil {s:List UInt8} (h:av (bY s)=0):fU s=(r0,0,0):=by
 rw[aD] at h;have:bY s=[]:=List.eq_nil_of_length_eq_zero (by omega);unfold fU;rw[this];rfl
theorem tbP_ev (s:List UInt8):af eE 11 [.str s] (tbV (qT s) (qU s) (qV s) (Gj s) (Gl s) (Gm s) (qp s) (rU s)):=by
 unfold qT qU qV Gj Gl Gm;by_cases hl:1048576<s.length
 ·have e:rU s=9:=if_pos hl
  have e2:qp s=0:=if_pos hl;rw[e,e2];refine PU (ah iY JJ 1 3 ?_)
  (rw[vC];(conv=>zeta);rw[ay (bD (by rw[aB];omega))])
  simp only[vv]
 ·have e:rU s=Lf s:=if_neg hl
  have e2:qp s=if Lf s=0 then 0 else Tt s:=if_neg hl
  rw[e,e2];by_cases h0:av (bY s)=0
  ·have hq:=alE_nil h0
   have ha:Lf s=0:=by unfold Lf;rw[hq];rfl
   rw[if_pos ha,if_pos ha,if_pos ha,if_pos ha,if_pos ha,if_pos ha,if_pos ha,ha];unfold Jg Jh Ji Lv Lx LA;rw[hq];refine PU (ah iY JJ 1 3 ?_)
   (rw[vC];(conv=>zeta);rw[aU (bB (by rw[aB];omega)),ay (bn h0)])
   simp only[vv]
  ·by_cases ha:Lf s=0
   ·rw[if_pos ha,if_pos ha,if_pos ha,if_pos ha,if_pos ha,if_pos ha,if_pos ha,ha]
    refine ah iY JJ 1 3 ?_
    (rw[vC];(conv=>zeta);rw[aU (bB (by rw[aB];omega)),aU (cO h0),ay (bn ha)])
    simp only[vv]
   ·rw[if_neg ha,if_neg ha,if_neg ha,if_neg ha,if_neg ha,if_neg ha,if_neg ha]
    refine PU (ah iY JJ 1 3 ?_)
    (rw[vC];(conv=>zeta);rw[aU (bB (by rw[aB];omega)),aU (cO h0),aU (cO ha)])
    simp only[vv]
end Nt.Ev.YtplklcejbmfgdaaGreatDoor.Rr
