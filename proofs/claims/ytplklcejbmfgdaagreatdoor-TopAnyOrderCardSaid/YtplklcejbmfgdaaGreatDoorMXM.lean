/-
  The reader of sources: lines; both sides as contracts. The reader's run over lines: the plain law. Reader2: equations of functions, as the evaluator prints them. The reader of sources: all lines, the table.
-/
import Derived.Test.YtplklcejbmfgdaaGreatDoorMXL
set_option linter.unusedVariables false
set_option linter.unusedSimpArgs false
set_option linter.unusedSectionVars false
namespace Nt.Fld
open Go Nt.Ev
theorem sZ (N:Nat): ∀(s:List UInt8) (out:List (List UInt8)) (f:List UInt8) (op qu:Bool),(∀x∈out,x.length≤N)→f.length+s.length≤N→ ∀x∈(nY s out f op qu).1,x.length≤N
 |[],out,f,op,qu,ho,hf=>by
  have hf:f.length≤N:=by simpa using hf
  have hp: ∀x∈oV op out f,x.length≤N:=by
   intro x hx
   cases op with
   |false=>exact ho x hx
   |true=>
    have hx:x∈out++[f]:=hx;rw[List.mem_append,List.mem_singleton] at hx;rcases hx with hx|rfl
    ·exact ho x hx
    ·exact hf
  cases qu with
  |true=>intro x hx;cases hx
  |false=>
   show∀x∈(Ao (oV op out f)).1,_;unfold Ao;split
   ·intro x hx;cases hx
   ·exact hp
 |c::t,out,f,op,qu,ho,hf=>by
  rw[List.length_cons] at hf;have hp: ∀x∈oV op out f,x.length≤N:=by
   intro x hx
   cases op with
   |false=>exact ho x hx
   |true=>
    have hx:x∈out++[f]:=hx;rw[List.mem_append,List.mem_singleton] at hx;rcases hx with hx|rfl
    ·exact ho x hx
    ·omega
  have hfin: ∀x∈(Ao (oV op out f)).1,x.length≤N:=by
   unfold Ao;split
   ·intro x hx;cases hx
   ·exact hp
  have hf2:(f++[c]).length+t.length≤N:=by rw[List.length_append,List.length_singleton];omega
  have hf3:f.length+t.length≤N:=by omega
  have hf4:([]:List UInt8).length+t.length≤N:=by rw[List.length_nil];omega
  unfold nY
  cases qu with
  |true=>
   cases hc:c==34 with
   |true=>exact sZ N t out f op false ho hf3
   |false=>exact sZ N t out (f++[c]) op true ho hf2
  |false=>
   cases h1:c==35 with
   |true=>exact hfin
   |false=>
    cases h2:c==9 with
    |true=>exact sZ N t _ [] false false hp hf4
    |false=>
     cases h3:c==32 with
     |true=>exact sZ N t _ [] false false hp hf4
     |false=>
      cases hc:c==34 with
      |true=>exact sZ N t out f true true ho hf3
      |false=>exact sZ N t out (f++[c]) true false ho hf2
end Nt.Fld
namespace Nt.Ev.YtplklcejbmfgdaaGreatDoor.Rr
set_option maxRecDepth 100000
open Go Go.RowKit Nt Nt.Num Nt.Civil Nt.Fld Go.Proofs.YtplklcejbmfgdaaGreatDoor Nt.Ev.YtplklcejbmfgdaaGreatDoor Nt.Ev.YtplklcejbmfgdaaGreatDoor.Lk
variable [nP]
theorem ck_len {s:List UInt8} (h:Af s=0):s.length≤511:=by
 unfold Af at h;rcases Nat.lt_or_ge 511 s.length with hl|hl
 ·rw[aB (bE (by rw[aC];omega))] at h;cases h
 ·exact hl
theorem WO {s:List UInt8} (h:s.length≤511):gB (cK s)=true:=by
 unfold gB;rw[List.all_eq_true];intro v hv;unfold cK bF at hv;obtain⟨l,hl,rfl⟩:=List.mem_map.1 hv;have:=sZ 511 s [] [] false false (fun x hx=>nomatch hx) (by simpa using h) l hl;show ak (au l) 900=true;exact bB (by rw[aC];omega)
theorem f0_len {xs:List V} (h:gB xs=true) (h0:0<xs.length):ak (au (aH (ah (aX xs 0) 0))) 1000=true:=by
 unfold gB at h;rw[List.all_eq_true] at h;match xs,h0,h with
 |x::t,_,h=>
  have hx:=h x List.mem_cons_self;have e:aX (x::t) 0=x:=rfl;rw[e]
  cases x with
  |str l=>
   have hx:ak (au l) 900=true:=hx;rw[ay] at hx;exact bB (show au l≤1000 by omega)
  |_=>cases hx
theorem ws3_ok:wsR [V.str [82,117,108,101],V.str [90,111,110,101],V.str [76,105,110,107]]=true:=by unfold wsR;decide+kernel
theorem uO (rs zs ks wr we wl yz ye:List V) (iz ie ln:Int) {op:Int} {s:List UInt8} (kd:fQ op s=0):qM rs op s=aM rs [On (dX (cK s) 1 (av (cK s)))]∧qN zs yz op s=zs∧qO ks op s=ks∧uh wr ln op s=aM wr [.int .i64 ln]∧uj we ye ln op s=we∧uk wl ln op s=wl∧ul iz zs op s=iz∧qP yz op s=yz∧um ie we op s=ie∧uo ye ln op s=ye∧qQ op ln s=op:=by
 unfold qM qN qO uh uj uk ul qP um uo qQ;rw[kd];exact⟨rfl,rfl,rfl,rfl,rfl,rfl,rfl,rfl,rfl,rfl,rfl⟩
theorem uP (rs zs ks wr we wl yz ye:List V) (iz ie ln:Int) {op:Int} {s:List UInt8} (kd:fQ op s=1):qM rs op s=rs∧qN zs yz op s=sJ zs (dX (cK s) 1 (av (cK s)))∧qO ks op s=ks∧uh wr ln op s=wr∧uj we ye ln op s=Ar we ln∧uk wl ln op s=wl∧ul iz zs op s=av zs∧qP yz op s=[qK (dX (dX (cK s) 1 (av (cK s))) 1 (av (dX (cK s) 1 (av (cK s)))))]∧um ie we op s=av we∧uo ye ln op s=[.int .i64 ln]∧qQ op ln s=jw (dX (dX (cK s) 1 (av (cK s))) 1 (av (dX (cK s) 1 (av (cK s))))) ln:=by
 unfold qM qN qO uh uj uk ul qP um uo qQ;rw[kd];exact⟨rfl,rfl,rfl,rfl,rfl,rfl,rfl,rfl,rfl,rfl,rfl⟩
theorem uQ (rs zs ks wr we wl yz ye:List V) (iz ie ln:Int) {op:Int} {s:List UInt8} (kd:fQ op s=2):qM rs op s=rs∧qN zs yz op s=zs∧qO ks op s=aM ks [RQ (dX (cK s) 1 (av (cK s)))]∧uh wr ln op s=wr∧uj we ye ln op s=we∧uk wl ln op s=aM wl [.int .i64 ln]∧ul iz zs op s=iz∧qP yz op s=yz∧um ie we op s=ie∧uo ye ln op s=ye∧qQ op ln s=op:=by
 unfold qM qN qO uh uj uk ul qP um uo qQ;rw[kd];exact⟨rfl,rfl,rfl,rfl,rfl,rfl,rfl,rfl,rfl,rfl,rfl⟩
theorem uR (rs zs ks wr we wl yz ye:List V) (iz ie ln:Int) {op:Int} {s:List UInt8} (kd:fQ op s=3):qM rs op s=rs∧qN zs yz op s=oq zs yz (cK s)∧qO ks op s=ks∧uh wr ln op s=wr∧uj we ye ln op s=q8 we ye ln∧uk wl ln op s=wl∧ul iz zs op s=iz∧qP yz op s=aM yz [qK (cK s)]∧um ie we op s=ie∧uo ye ln op s=aM ye [.int .i64 ln]∧qQ op ln s=jw (cK s) ln:=by
 unfold qM qN qO uh uj uk ul qP um uo qQ;rw[kd];exact⟨rfl,rfl,rfl,rfl,rfl,rfl,rfl,rfl,rfl,rfl,rfl⟩
theorem uT (rs zs ks wr we wl yz ye:List V) (iz ie ln:Int) {op:Int} {s:List UInt8} (kd:fQ op s=4):qM rs op s=rs∧qN zs yz op s=zs∧qO ks op s=ks∧uh wr ln op s=wr∧uj we ye ln op s=we∧uk wl ln op s=wl∧ul iz zs op s=iz∧qP yz op s=yz∧um ie we op s=ie∧uo ye ln op s=ye∧qQ op ln s=op:=by
 unfold qM qN qO uh uj uk ul qP um uo qQ;rw[kd];exact⟨rfl,rfl,rfl,rfl,rfl,rfl,rfl,rfl,rfl,rfl,rfl⟩
theorem read_p (rs zs ks wr we wl:List V) (ln op iz ie:Int) (yz ye:List V) (s:List UInt8) (hc:Jf rs zs iz yz wr we ie ye wl op s=true):bW eE (bT eE rS2 5 3) 5 67 [.bxa 0 (oN rs zs ks wr we wl iz yz ie ye ln op),.str s] some=
  some (sel (ieq (kF rs zs ks yz op s) 0) (.out false (.tup []) [oN (qM rs op s) (qN zs yz op s) (qO ks op s) (uh wr ln op s) (uj we ye ln op s) (uk wl ln op s) (ul iz zs op s) (qP yz op s) (um ie we op s) (uo ye ln op s) ln (qQ op ln s)]) (.out true (gU ln (kF rs zs ks yz op s)) [oN rs zs ks wr we wl iz yz ie ye ln op])):=by
 (rw[ZG];(conv=>zeta))
 unfold Jf at hc;rw[decide_eq_true_eq] at hc;obtain⟨hl,z1,w1,y1,e1,r1,l1,hop⟩:=hc;have i4:ak (au s) 4000000=true:=bB (by rw[aC];omega);by_cases c1:Af s=0
 case neg=>
  have er:kF rs zs ks yz op s=Af s:=by unfold kF;rw[if_pos c1]
  simp only[i4,bQ c1,er,iw,iT,iE,iC];try rfl
 have hA:=WO (ck_len c1);by_cases c2:LP s=0
 case neg=>
  have er:kF rs zs ks yz op s=LP s:=by unfold kF;rw[if_neg (fun h=>h c1),if_pos c2]
  simp only[i4,bq c1,bQ c2,er,iw,iT,iE,iC];try rfl
 by_cases c3:av (cK s)=0
 case pos=>
  have er:kF rs zs ks yz op s=0:=by unfold kF;rw[if_neg (fun h=>h c1),if_neg (fun h=>h c2),if_pos c3]
  have kd:fQ op s=4:=by unfold fQ;rw[if_pos c3]
  simp only[i4,bq c1,bq c2,bq c3,er,iw,iT,iE,iC,(uT rs zs ks wr we wl yz ye iz ie ln kd).1,(uT rs zs ks wr we wl yz ye iz ie ln kd).2.1,(uT rs zs ks wr we wl yz ye iz ie ln kd).2.2.1,(uT rs zs ks wr we wl yz ye iz ie ln kd).2.2.2.1,(uT rs zs ks wr we wl yz ye iz ie ln kd).2.2.2.2.1,(uT rs zs ks wr we wl yz ye iz ie ln kd).2.2.2.2.2.1,(uT rs zs ks wr we wl yz ye iz ie ln kd).2.2.2.2.2.2.1,(uT rs zs ks wr we wl yz ye iz ie ln kd).2.2.2.2.2.2.2.1,(uT rs zs ks wr we wl yz ye iz ie ln kd).2.2.2.2.2.2.2.2.1,(uT rs zs ks wr we wl yz ye iz ie ln kd).2.2.2.2.2.2.2.2.2.1,(uT rs zs ks wr we wl yz ye iz ie ln kd).2.2.2.2.2.2.2.2.2.2];first|rfl|(rw[c2];rfl)
 have c3l:0<(cK s).length:=by rw[aA] at c3;omega
 have n1:ai (ak 0 0) (aU 0 (av (cK s)))=true:=by rw[aJ,ay,bf,aA];omega
 have n2:ai (ak 0 1) (ak 1 (av (cK s)))=true:=by rw[aJ,ay,ay,aA];omega
 have f0:=f0_len hA c3l;have hw:ai (ak (au (aH (ah (aX (cK s) 0) 0))) 1000) (wsR [V.str [82,117,108,101],V.str [90,111,110,101],V.str [76,105,110,107]])=true:=by rw[aJ];exact⟨f0,ws3_ok⟩
 have hT:gB (dX (cK s) 1 (av (cK s)))=true:=Hy hA _ _;by_cases c4:0<op
 case pos=>
  have hE:erC zs iz yz we ie ye (cK s)=true:=by
   unfold erC;rw[decide_eq_true_eq];obtain⟨p1,p2,p3,p4⟩:=hop c4;exact⟨hA,⟨p1,by omega⟩,p2,y1,⟨p3,by omega⟩,p4,e1⟩
  have er:kF rs zs ks yz op s=zf yz (cK s):=by unfold kF;rw[if_neg (fun h=>h c1),if_neg (fun h=>h c2),if_neg c3,if_pos c4]
  have kd:fQ op s=3:=by unfold fQ;rw[if_neg c3,if_pos c4]
  rcases Bool.eq_false_or_eq_true (ieq (zf yz (cK s)) 0) with hb|hb
  ·simp only[i4,bq c1,bq c2,bQ c3,bE c4,hE,hb,er,iw,iT,iE,iC,(uR rs zs ks wr we wl yz ye iz ie ln kd).1,(uR rs zs ks wr we wl yz ye iz ie ln kd).2.1,(uR rs zs ks wr we wl yz ye iz ie ln kd).2.2.1,(uR rs zs ks wr we wl yz ye iz ie ln kd).2.2.2.1,(uR rs zs ks wr we wl yz ye iz ie ln kd).2.2.2.2.1,(uR rs zs ks wr we wl yz ye iz ie ln kd).2.2.2.2.2.1,(uR rs zs ks wr we wl yz ye iz ie ln kd).2.2.2.2.2.2.1,(uR rs zs ks wr we wl yz ye iz ie ln kd).2.2.2.2.2.2.2.1,(uR rs zs ks wr we wl yz ye iz ie ln kd).2.2.2.2.2.2.2.2.1,(uR rs zs ks wr we wl yz ye iz ie ln kd).2.2.2.2.2.2.2.2.2.1,(uR rs zs ks wr we wl yz ye iz ie ln kd).2.2.2.2.2.2.2.2.2.2]
  ·simp only[i4,bq c1,bq c2,bQ c3,bE c4,hE,hb,er,iw,iT,iE,iC]
 by_cases c5:oM (aH (ah (aX (cK s) 0) 0)) [V.str [82,117,108,101],V.str [90,111,110,101],V.str [76,105,110,107]]=0
 case neg=>
  have er:kF rs zs ks yz op s=oM (aH (ah (aX (cK s) 0) 0)) [V.str [82,117,108,101],V.str [90,111,110,101],V.str [76,105,110,107]]:=by unfold kF;rw[if_neg (fun h=>h c1),if_neg (fun h=>h c2),if_neg c3,if_neg c4,if_pos c5]
  simp only[i4,bq c1,bq c2,bQ c3,bD (Int.not_lt.1 c4),n1,hw,bQ c5,er,iw,iT,iE,iC];try rfl
 obtain⟨m0,m3⟩:=Bo _ _ (by decide) c5;have m3:mh (aH (ah (aX (cK s) 0) 0)) [V.str [82,117,108,101],V.str [90,111,110,101],V.str [76,105,110,107]]<3:=m3;have erS:kF rs zs ks yz op s=if mh (aH (ah (aX (cK s) 0) 0)) EG=0 then Ap rs (tl1 (cK s)) else if mh (aH (ah (aX (cK s) 0) 0)) EG=1 then uH zs (tl1 (cK s)) else Aq ks (tl1 (cK s)):=by unfold kF;rw[if_neg (fun h=>h c1),if_neg (fun h=>h c2),if_neg c3,if_neg c4,if_neg (fun h=>h c5)]
 have kdS:fQ op s=(mh (aH (ah (aX (cK s) 0) 0)) EG).toNat:=by unfold fQ;rw[if_neg c3,if_neg c4]
 by_cases c6:mh (aH (ah (aX (cK s) 0) 0)) [V.str [82,117,108,101],V.str [90,111,110,101],V.str [76,105,110,107]]=0
 case pos=>
  have er:kF rs zs ks yz op s=Ap rs (tl1 (cK s)):=by rw[erS,if_pos c6]
  have kd:fQ op s=0:=by rw[kdS];unfold EG;rw[c6];rfl
  have hr:ai (gB (dX (cK s) 1 (av (cK s)))) (U2 wr)=true:=by rw[aJ];exact⟨hT,by unfold U2;simpa using r1⟩
  rcases Bool.eq_false_or_eq_true (ieq (Ap rs (dX (cK s) 1 (av (cK s)))) 0) with hb|hb
  ·simp only[i4,bq c1,bq c2,bQ c3,bD (Int.not_lt.1 c4),n1,n2,hw,bq c5,bq c6,hr,hb,er,iw,iT,iE,iC,(uO rs zs ks wr we wl yz ye iz ie ln kd).1,(uO rs zs ks wr we wl yz ye iz ie ln kd).2.1,(uO rs zs ks wr we wl yz ye iz ie ln kd).2.2.1,(uO rs zs ks wr we wl yz ye iz ie ln kd).2.2.2.1,(uO rs zs ks wr we wl yz ye iz ie ln kd).2.2.2.2.1,(uO rs zs ks wr we wl yz ye iz ie ln kd).2.2.2.2.2.1,(uO rs zs ks wr we wl yz ye iz ie ln kd).2.2.2.2.2.2.1,(uO rs zs ks wr we wl yz ye iz ie ln kd).2.2.2.2.2.2.2.1,(uO rs zs ks wr we wl yz ye iz ie ln kd).2.2.2.2.2.2.2.2.1,(uO rs zs ks wr we wl yz ye iz ie ln kd).2.2.2.2.2.2.2.2.2.1,(uO rs zs ks wr we wl yz ye iz ie ln kd).2.2.2.2.2.2.2.2.2.2]
  ·simp only[i4,bq c1,bq c2,bQ c3,bD (Int.not_lt.1 c4),n1,n2,hw,bq c5,bq c6,hr,hb,er,iw,iT,iE,iC]
 by_cases c7:mh (aH (ah (aX (cK s) 0) 0)) [V.str [82,117,108,101],V.str [90,111,110,101],V.str [76,105,110,107]]=1
 case pos=>
  have er:kF rs zs ks yz op s=uH zs (tl1 (cK s)):=by rw[erS,if_neg c6,if_pos c7]
  have kd:fQ op s=1:=by rw[kdS];unfold EG;rw[c7];rfl
  have hr:znC zs we (dX (cK s) 1 (av (cK s)))=true:=by unfold znC;rw[decide_eq_true_eq];exact⟨hT,z1,w1⟩
  rcases Bool.eq_false_or_eq_true (ieq (uH zs (dX (cK s) 1 (av (cK s)))) 0) with hb|hb
  ·simp only[i4,bq c1,bq c2,bQ c3,bD (Int.not_lt.1 c4),n1,n2,hw,bq c5,bQ c6,bq c7,hr,hb,er,iw,iT,iE,iC,(uP rs zs ks wr we wl yz ye iz ie ln kd).1,(uP rs zs ks wr we wl yz ye iz ie ln kd).2.1,(uP rs zs ks wr we wl yz ye iz ie ln kd).2.2.1,(uP rs zs ks wr we wl yz ye iz ie ln kd).2.2.2.1,(uP rs zs ks wr we wl yz ye iz ie ln kd).2.2.2.2.1,(uP rs zs ks wr we wl yz ye iz ie ln kd).2.2.2.2.2.1,(uP rs zs ks wr we wl yz ye iz ie ln kd).2.2.2.2.2.2.1,(uP rs zs ks wr we wl yz ye iz ie ln kd).2.2.2.2.2.2.2.1,(uP rs zs ks wr we wl yz ye iz ie ln kd).2.2.2.2.2.2.2.2.1,(uP rs zs ks wr we wl yz ye iz ie ln kd).2.2.2.2.2.2.2.2.2.1,(uP rs zs ks wr we wl yz ye iz ie ln kd).2.2.2.2.2.2.2.2.2.2]
  ·simp only[i4,bq c1,bq c2,bQ c3,bD (Int.not_lt.1 c4),n1,n2,hw,bq c5,bQ c6,bq c7,hr,hb,er,iw,iT,iE,iC]
 have c8:mh (aH (ah (aX (cK s) 0) 0)) [V.str [82,117,108,101],V.str [90,111,110,101],V.str [76,105,110,107]]=2:=by omega
 have er:kF rs zs ks yz op s=Aq ks (tl1 (cK s)):=by rw[erS,if_neg c6,if_neg c7]
 have kd:fQ op s=2:=by rw[kdS];unfold EG;rw[c8];rfl
 have hr:U2 wl=true:=by unfold U2;simpa using l1
 rcases Bool.eq_false_or_eq_true (ieq (Aq ks (dX (cK s) 1 (av (cK s)))) 0) with hb|hb
 ·simp only[i4,bq c1,bq c2,bQ c3,bD (Int.not_lt.1 c4),n1,n2,hw,bq c5,bQ c6,bQ c7,bq c8,hr,hb,er,iw,iT,iE,iC,(uQ rs zs ks wr we wl yz ye iz ie ln kd).1,(uQ rs zs ks wr we wl yz ye iz ie ln kd).2.1,(uQ rs zs ks wr we wl yz ye iz ie ln kd).2.2.1,(uQ rs zs ks wr we wl yz ye iz ie ln kd).2.2.2.1,(uQ rs zs ks wr we wl yz ye iz ie ln kd).2.2.2.2.1,(uQ rs zs ks wr we wl yz ye iz ie ln kd).2.2.2.2.2.1,(uQ rs zs ks wr we wl yz ye iz ie ln kd).2.2.2.2.2.2.1,(uQ rs zs ks wr we wl yz ye iz ie ln kd).2.2.2.2.2.2.2.1,(uQ rs zs ks wr we wl yz ye iz ie ln kd).2.2.2.2.2.2.2.2.1,(uQ rs zs ks wr we wl yz ye iz ie ln kd).2.2.2.2.2.2.2.2.2.1,(uQ rs zs ks wr we wl yz ye iz ie ln kd).2.2.2.2.2.2.2.2.2.2]
 ·simp only[i4,bq c1,bq c2,bQ c3,bD (Int.not_lt.1 c4),n1,n2,hw,bq c5,bQ c6,bQ c7,bq c8,hr,hb,er,iw,iT,iE,iC]
theorem IP (c0 c1 c2 c3 c4 c5:V) (ln op:Int) (s:List UInt8) (hc:(bif Z8 c0 c1 c2 c3 c4 c5 then Jf (xL c0) (xL c1) (xI c1) (xY c1) (xL c3) (xL c4) (xI c4) (xY c4) (xL c5) op s else false)=true):su eE 67 [.bxa 0 [c0,c1,c2,c3,c4,c5,.int .i64 ln,.int .i64 op],.str s] (.qb (ieq (kF (xL c0) (xL c1) (xL c2) (xY c1) op s) 0) (.out false (.tup []) [oN (qM (xL c0) op s) (qN (xL c1) (xY c1) op s) (qO (xL c2) op s) (uh (xL c3) ln op s) (uj (xL c4) (xY c4) ln op s) (uk (xL c5) ln op s) (ul (xI c1) (xL c1) op s) (qP (xY c1) op s) (um (xI c4) (xL c4) op s) (uo (xY c4) ln op s) ln (qQ op ln s)]) (.out true (gU ln (kF (xL c0) (xL c1) (xL c2) (xY c1) op s)) [oN (xL c0) (xL c1) (xL c2) (xL c3) (xL c4) (xL c5) (xI c1) (xY c1) (xI c4) (xY c4) ln op])):=by
 obtain⟨h,hc⟩:=lU hc;rw[Gz h];exact Kh rS2_ok 5 3 (read_p _ _ _ _ _ _ _ _ _ _ _ _ _ hc)
abbrev nil6:List V:=[.nilsl,.nilsl,.nilsl,.nilsl,.nilsl,.nilsl]
abbrev lab6:List V:=[.sl 47 kR (some 1000001001) [],.slz 1000001002 54 kZ [] (some 1000001502) 0 1 59 kE [],.sl 50 kL (some 1000001003) [],.sl 3 kI (some 1000001004) [],.slz 1000001005 31 kW [] (some 1000001505) 0 0 3 kI [],.sl 3 kI (some 1000001006) []]
theorem okN_eq {c0 c1 c2 c3 c4 c5:V} (h:okN c0 c1 c2 c3 c4 c5=true):c0=.nilsl∧c1=.nilsl∧c2=.nilsl∧c3=.nilsl∧c4=.nilsl∧c5=.nilsl:=by
 have one: ∀{v:V},isN v=true→v=.nilsl:=fun {v} h=>by
  unfold isN at h;split at h
  ·rfl
  ·cases h
 unfold okN at h;simp only[Bool.and_eq_true] at h;obtain⟨⟨h0,h1⟩,⟨h2,h3⟩,h4,h5⟩:=h;exact⟨one h0,one h1,one h2,one h3,one h4,one h5⟩
def nT (L:Nat):Option (Value×Nat×Nat):=
 if L=1000001001 then some (.slice none 0 0,47,11) else if L=1000001002 then some (.slice none 0 0,54,2) else if L=1000001502 then some (.slice none 0 0,59,13) else if L=1000001003 then some (.slice none 0 0,50,2) else
 if L=1000001004 then some (.slice none 0 0,3,1) else if L=1000001005 then some (.slice none 0 0,31,1) else if L=1000001505 then some (.slice none 0 0,3,1) else if L=1000001006 then some (.slice none 0 0,3,1) else none
def nC (L:Nat):Option (List Value):=if L=1000001002 then some [] else if L=1000001005 then some [] else none
theorem TC {L:Nat} {v:Value} {e sz:Nat} (h:nT L=some (v,e,sz)):v=.slice none 0 0∧0<sz:=by
 unfold nT at h;repeat' split at h
 all_goals first|(simp only[Option.some.injEq,Prod.mk.injEq] at h;obtain⟨rfl,_,rfl⟩:=h;exact⟨rfl,by decide⟩)|cases h
def bare:V→Bool
 | .box _ _=>true
 | .str _=>true
 | .int _ _=>true
 |_=>false
theorem LA {g g':Gh} (hG:g'.G=g.G) (hβ:g'.β=g.β) {x:V} (hx:bare x=true) {v:Value} (h:aN g x v):aN g' x v:=by
 cases x with
 |box k off=>
  rw[dM] at h⊢;rw[hβ];exact h
 |str l=>simp only[aN,bH] at h⊢;rw[hG];exact h
 |int k n=>simp only[aN,bH] at h⊢;rw[hG];exact h
 |_=>cases hx
theorem nil_inv {B:Own} {g:Gh} {w:World} {a:Act} {fr r:List V} (hfr: ∀x∈fr,bare x=true) (hr: ∀x∈r,bare x=true) (h:Inv eE B g.G w ⟨fr,[(HL,nil6++r)]⟩ g a w): ∃g',g'.G=g.G∧Inv eE B g'.G w ⟨fr,[(HL,lab6++r)]⟩ g' a w:=by
 refine⟨{g with O:=nT,C:=nC},rfl,⟨h.fr.mono fun x hx v hv=>LA (g:=g) (by rfl) (by rfl) (hfr x hx) hv,h.df,h.gok,⟨fun L v e sz hL=>?_,fun L L' v v' e e' sz sz' b h1 h2 hb _=>?_⟩,⟨fun k cs hk=>?_,fun k k' cs cs' hk hk' _=>?_⟩,h.mg,h.hB,h.ext,h.glob,h.g1,fun k cs L v e sz b hk hL hb=>?_⟩⟩
 ·obtain⟨h1,h2⟩:=TC hL
  exact⟨h2,.inl h1⟩
 ·obtain⟨h1,_⟩:=TC h1
  rw[h1] at hb;cases hb
 ·have hk0:ax [(HL,lab6++r)] k=some cs:=hk
  unfold ax at hk0
  cases hkk:HL==k with
  |false=>rw[hkk] at hk0;cases hk0
  |true=>
   rw[hkk,cond_true] at hk0;obtain rfl:=Option.some.inj hk0;obtain rfl:HL=k:=by simpa using hkk
   obtain⟨b,c,e,hb,hBb,hh,hp,ho,hG,hq⟩:=h.bxs.1 HL (nil6++r) (by unfold ax;rw[beq_self_eq_true,cond_true]);refine⟨b,c,e,hb,hBb,hh,?_,ho,hG,fun hh=>by cases hh⟩;obtain⟨v0,t0,e0,q0,hp⟩:=PW.cons_inv hp;obtain⟨v1,t1,e1,q1,hp⟩:=PW.cons_inv hp;obtain⟨v2,t2,e2,q2,hp⟩:=PW.cons_inv hp;obtain⟨v3,t3,e3,q3,hp⟩:=PW.cons_inv hp;obtain⟨v4,t4,e4,q4,hp⟩:=PW.cons_inv hp;obtain⟨v5,t5,e5,q5,hp⟩:=PW.cons_inv hp;have nl: ∀{v:Value},aN g .nilsl v→v=.slice none 0 0:=fun {v} hv=>by
    simp only[aN,bH] at hv;unfold aO at hv;exact hv
   rw[e0,e1,e2,e3,e4,e5,nl q0,nl q1,nl q2,nl q3,nl q4,nl q5];have o1: ∀(L e:Nat) (sh:List Kd),nT L=some (.slice none 0 0,e,sh.length)→aN {g with O:=nT,C:=nC} (.sl e sh (some L) []) (.slice none 0 0):=fun L e sh hL=>⟨hL,.inl ⟨rfl,rfl⟩⟩
   have oz: ∀(L e:Nat) (sh:List Kd) (L2:Nat) (i:Int) (c e2:Nat) (bG:List Kd),nT L=some (.slice none 0 0,e,sh.length)→nC L=some []→nT L2=some (.slice none 0 0,e2,bG.length)→aN {g with O:=nT,C:=nC} (.slz L e sh [] (some L2) i c e2 bG []) (.slice none 0 0):=
    fun L e sh L2 i c e2 bG hL hC hL2=>⟨[],hL,hC,⟨.inl ⟨rfl,rfl⟩,by simp,by unfold bX;trivial⟩,⟨_,hL2,.inl ⟨rfl,rfl⟩,fun u _ hu=>by simp at hu⟩⟩
   exact .cons (o1 _ _ _ rfl) (.cons (oz _ _ _ _ _ _ _ _ rfl rfl rfl) (.cons (o1 _ _ _ rfl) (.cons (o1 _ _ _ rfl) (.cons (oz _ _ _ _ _ _ _ _ rfl rfl rfl) (.cons (o1 _ _ _ rfl) (hp.mono fun x hx v hv=>LA (g:=g) (by rfl) (by rfl) (hr x hx) hv))))))
 ·have f: ∀{k:Nat} {cs:List V},ax [(HL,lab6++r)] k=some cs→k=HL:=fun {k cs} hk=>by
   unfold ax at hk
   cases hkk:HL==k with
   |false=>rw[hkk] at hk;cases hk
   |true=>exact(by simpa using hkk:HL=k).symm
  rw[f hk,f hk']
 ·obtain⟨h1,_⟩:=TC hL
  rw[h1] at hb;cases hb
theorem WQ: ∀(ys:List V) (j:Nat),(∀y∈ys,bare y=true∧ ∀k off,y≠.box k off)→bI j ys=ys∧dH j ys=[]
 |[],_,_=>⟨rfl,rfl⟩
 |y::ys,j,h=>by
  obtain⟨h1,h2⟩:=h y List.mem_cons_self;obtain⟨e1,e2⟩:=WQ ys (j+1) fun z hz=>h z (List.mem_cons_of_mem _ hz)
  cases y with
  |str l=>unfold bI dH;rw[e1,e2];exact⟨rfl,rfl⟩
  |int k n=>unfold bI dH;rw[e1,e2];exact⟨rfl,rfl⟩
  |box k off=>exact absurd rfl (h2 k off)
  |_=>cases h1
theorem nil_x {f:Nat} {r ys:List V} {v:V} (hr: ∀x∈r,bare x=true) (hy: ∀y∈ys,bare y=true∧ ∀k off,y≠.box k off) (h:su eE f (.bxa 0 (lab6++r)::ys) v):su eE f (.bxa 0 (nil6++r)::ys) v:=by
 intro p x bs hc B g w vs hdf hi;obtain⟨e1,e2⟩:=WQ ys 1 hy;have f1: ∀cs:List V,bI 0 (.bxa 0 cs::ys)=.box HL 0::ys:=fun cs=>by
  show V.box HL 0::bI 1 ys=_;rw[e1]
 have f2: ∀cs:List V,dH 0 (.bxa 0 cs::ys)=[(HL,cs)]:=fun cs=>by
  show(HL+0,cs)::dH 1 ys=_;rw[e2];rfl
 rw[f1,f2] at hi;obtain⟨g',hG,hi'⟩:=nil_inv (by
  intro x hx;rcases List.mem_cons.1 hx with rfl|hx
  ·rfl
  ·exact(hy x hx).1) hr hi
 have:=h p x bs hc B g' w vs hdf (by rw[f1,f2];exact hi');rw[hG,show fC 0 (V.bxa 0 (lab6++r)::ys) bs=fC 0 (V.bxa 0 (nil6++r)::ys) bs by cases bs<;>rfl] at this;exact this
theorem ZK (c0 c1 c2 c3 c4 c5:V) (ln op:Int) (s:List UInt8) (hc:(bif okB c0 c1 c2 c3 c4 c5 then Jf (xL c0) (xL c1) (xI c1) (xY c1) (xL c3) (xL c4) (xI c4) (xY c4) (xL c5) op s else false)=true):su eE 67 [.bxa 0 [c0,c1,c2,c3,c4,c5,.int .i64 ln,.int .i64 op],.str s] (.qb (ieq (kF (xL c0) (xL c1) (xL c2) (xY c1) op s) 0) (.out false (.tup []) [oN (qM (xL c0) op s) (qN (xL c1) (xY c1) op s) (qO (xL c2) op s) (uh (xL c3) ln op s) (uj (xL c4) (xY c4) ln op s) (uk (xL c5) ln op s) (ul (xI c1) (xL c1) op s) (qP (xY c1) op s) (um (xI c4) (xL c4) op s) (uo (xY c4) ln op s) ln (qQ op ln s)]) (.out true (gU ln (kF (xL c0) (xL c1) (xL c2) (xY c1) op s)) [oN (xL c0) (xL c1) (xL c2) (xL c3) (xL c4) (xL c5) (xI c1) (xY c1) (xI c4) (xY c4) ln op])):=by
 obtain⟨h,hc⟩:=lU hc;unfold okB at h;rw[Bool.or_eq_true] at h;rcases h with h|h
 ·exact IP _ _ _ _ _ _ _ _ _ (by rw[h];exact hc)
 ·obtain⟨rfl,rfl,rfl,rfl,rfl,rfl⟩:=okN_eq h
  exact nil_x (r:=[.int .i64 ln,.int .i64 op]) (ys:=[.str s]) (by simp[bare]) (by simp[bare]) (IP (.sl 47 kR (some 1000001001) []) (.slz 1000001002 54 kZ [] (some 1000001502) 0 1 59 kE []) (.sl 50 kL (some 1000001003) []) (.sl 3 kI (some 1000001004) []) (.slz 1000001005 31 kW [] (some 1000001505) 0 0 3 kI []) (.sl 3 kI (some 1000001006) []) ln op s hc)
theorem My:bn eE rS3:=by
 unfold rS3;refine bn.qB (fun args r h=>?_) Gy;all_goals (revert h;intro h;first|unfold rReadS at h)
 all_goals (split at h;rotate_left; · cases h)
 all_goals (simp only[Option.some.injEq,Prod.mk.injEq] at h;obtain⟨hc,rfl⟩:=h)
 ·exact ZK _ _ _ _ _ _ _ _ _ hc
structure qg where
 rs:List V
 zs:List V
 ks:List V
 wr:List V
 we:List V
 wl:List V
 iz:Int
 yz:List V
 ie:Int
 ye:List V
 op:Int
def r0:qg:=⟨[],[],[],[],[],[],0,[],0,[],0⟩
noncomputable def qg.err (t:qg) (s:List UInt8):Int:=kF t.rs t.zs t.ks t.yz t.op s
noncomputable def qg.step (t:qg) (ln:Int) (s:List UInt8):qg:=
 ⟨qM t.rs t.op s,qN t.zs t.yz t.op s,qO t.ks t.op s,uh t.wr ln t.op s,uj t.we t.ye ln t.op s,uk t.wl ln t.op s,ul t.iz t.zs t.op s,qP t.yz t.op s,um t.ie t.we t.op s,uo t.ye ln t.op s,qQ t.op ln s⟩
noncomputable abbrev RS (x:V):List UInt8:=aH (ah x 0)
noncomputable def ou:List V→Int→qg→qg×Int×Int
 |[],ln,t=>(t,ln,0)
 |x::xs,ln,t=>if t.err (RS x)=0 then ou xs (ln+1) (t.step (ln+1) (RS x)) else(t,ln+1,t.err (RS x))
structure Good (t:qg):Prop where
 z:t.zs.length≤1024
 we:t.we.length=t.zs.length
 y:t.yz.length≤256
 ye:t.ye.length=t.yz.length
 r:t.rs.length≤4096
 wr:t.wr.length=t.rs.length
 k:t.ks.length≤1024
 wl:t.wl.length=t.ks.length
 op:0<t.op→0<t.zs.length
 i:0<t.zs.length→t.iz=(t.zs.length:Int)-1∧t.ie=(t.zs.length:Int)-1
theorem WR:Good r0:=⟨by decide,rfl,by decide,rfl,by decide,rfl,by decide,rfl,by decide,by decide⟩
theorem Good.ck {t:qg} (h:Good t) {s:List UInt8} (hs:s.length≤4000000):Jf t.rs t.zs t.iz t.yz t.wr t.we t.ie t.ye t.wl t.op s=true:=by
 obtain⟨h1,h2,h3,h4,h5,h6,h7,h8,h9,h10⟩:=h;unfold Jf;rw[decide_eq_true_eq];refine⟨hs,by omega,by omega,by omega,by omega,by omega,by omega,fun ho=>?_⟩;have hz:=h9 ho;have hi:=h10 hz;exact⟨hz,hi.1,by omega,by rw[hi.2,h2]⟩
theorem nM {e n m:Int} (h:lN e n m=0):e=0∧n<m:=by
 unfold lN at h;split at h
 ·exact absurd h ‹_›
 ·rename_i he
  split at h
  ·exact⟨by omega, ‹_›⟩
  ·cases h
theorem Bw (zs yz xs:List V):(oq zs yz xs).length=zs.length:=by unfold oq om;simp
theorem erWe_len (we ye:List V) (ln:Int):(q8 we ye ln).length=we.length:=by unfold q8 om;simp
theorem Bz (zs xs:List V):(sJ zs xs).length=zs.length+1:=by unfold sJ aM;simp
theorem znWe_len (we:List V) (ln:Int):(Ar we ln).length=we.length+1:=by unfold Ar aM;simp
theorem err_0 {t:qg} {s:List UInt8} (h:t.err s=0):(fQ t.op s=4∨(fQ t.op s=3∧0<t.op∧zf t.yz (cK s)=0)∨(¬0<t.op∧fQ t.op s=0∧Ap t.rs (tl1 (cK s))=0)∨(¬0<t.op∧fQ t.op s=1∧uH t.zs (tl1 (cK s))=0)∨(¬0<t.op∧fQ t.op s=2∧Aq t.ks (tl1 (cK s))=0))∧Af s=0∧LP s=0:=by
 unfold qg.err kF at h;by_cases c1:Af s=0
 case neg=>rw[if_pos c1] at h;exact absurd h c1
 rw[if_neg (fun e=>e c1)] at h;by_cases c2:LP s=0
 case neg=>rw[if_pos c2] at h;exact absurd h c2
 rw[if_neg (fun e=>e c2)] at h;refine⟨?_,c1,c2⟩;unfold fQ;by_cases c3:av (cK s)=0
 ·rw[if_pos c3];exact .inl rfl
 rw[if_neg c3] at h⊢;by_cases c4:0<t.op
 ·rw[if_pos c4] at h⊢
  exact .inr (.inl ⟨rfl,c4,h⟩)
 rw[if_neg c4] at h⊢;by_cases c5:oM (aH (ah (aX (cK s) 0) 0)) EG=0
 case neg=>rw[if_pos c5] at h;exact absurd h c5
 rw[if_neg (fun e=>e c5)] at h;obtain⟨m0,m3⟩:=Bo _ _ (by decide) c5;have m3:mh (aH (ah (aX (cK s) 0) 0)) EG<3:=m3;by_cases c6:mh (aH (ah (aX (cK s) 0) 0)) EG=0
 ·rw[if_pos c6] at h
  rw[c6];exact .inr (.inr (.inl ⟨c4,rfl,h⟩))
 rw[if_neg c6] at h;by_cases c7:mh (aH (ah (aX (cK s) 0) 0)) EG=1
 ·rw[if_pos c7] at h
  rw[c7];exact .inr (.inr (.inr (.inl ⟨c4,rfl,h⟩)))
 rw[if_neg c7] at h;have c8:mh (aH (ah (aX (cK s) 0) 0)) EG=2:=by omega
 rw[c8];exact .inr (.inr (.inr (.inr ⟨c4,rfl,h⟩)))
theorem znEr_0 {zs xs:List V} (h:uH zs xs=0): ¬av xs=0∧dZ (aH (ah (aX xs 0) 0))=0∧kT (tl1 xs)=0∧av zs<1024:=by
 unfold uH at h;by_cases a:av xs=0
 ·rw[if_pos a] at h;cases h
 rw[if_neg a] at h;by_cases b:dZ (aH (ah (aX xs 0) 0))=0
 case neg=>rw[if_pos b] at h;exact absurd h b
 rw[if_neg (fun e=>e b)] at h;exact⟨a,b,nM h⟩
theorem iU {t:qg} {ln:Int} {s:List UInt8} {k:Nat} (kd:fQ t.op s=k):t.step ln s=
  ⟨if k=0 then aM t.rs [On (tl1 (cK s))] else t.rs,if k=3 then oq t.zs t.yz (cK s) else if k=1 then sJ t.zs (tl1 (cK s)) else t.zs,if k=2 then aM t.ks [RQ (tl1 (cK s))] else t.ks,if k=0 then aM t.wr [.int .i64 ln] else t.wr,if k=3 then q8 t.we t.ye ln else if k=1 then Ar t.we ln else t.we,if k=2 then aM t.wl [.int .i64 ln] else t.wl,if k=1 then av t.zs else t.iz,if k=3 then aM t.yz [qK (cK s)] else if k=1 then[qK (tl1 (tl1 (cK s)))] else t.yz,if k=1 then av t.we else t.ie,if k=3 then aM t.ye [.int .i64 ln] else if k=1 then[.int .i64 ln] else t.ye,if k=3 then jw (cK s) ln else if k=1 then jw (tl1 (tl1 (cK s))) ln else t.op⟩:=by
 unfold qg.step qM qN qO uh uj uk ul qP um uo qQ;rw[kd]
theorem Good.step {t:qg} (h:Good t) {ln:Int} {s:List UInt8} (he:t.err s=0):Good (t.step ln s):=by
 obtain⟨h1,h2,h3,h4,h5,h6,h7,h8,h9,h10⟩:=h;obtain⟨hk,_,_⟩:=err_0 he;rcases hk with kd|⟨kd,ho,er⟩|⟨ho,kd,er⟩|⟨ho,kd,er⟩|⟨ho,kd,er⟩
 ·rw[iU kd]
  exact⟨h1,h2,h3,h4,h5,h6,h7,h8,h9,h10⟩
 ·rw[iU kd]
  have hy:=(nM er).2;rw[aA] at hy;have hz:=h9 ho;have hi:=h10 hz;refine⟨?_,?_,?_,?_,h5,h6,h7,h8,?_,?_⟩
  ·show(oq t.zs t.yz (cK s)).length≤1024;rw[Bw];exact h1
  ·show(q8 t.we t.ye ln).length=(oq t.zs t.yz (cK s)).length;rw[Bw,erWe_len];exact h2
  ·show(aM t.yz [qK (cK s)]).length≤256;unfold aM;rw[List.length_append,List.length_singleton];omega
  ·show(aM t.ye [.int .i64 ln]).length=(aM t.yz [qK (cK s)]).length;unfold aM;rw[List.length_append,List.length_append,List.length_singleton,List.length_singleton];omega
  ·intro _;show 0<(oq t.zs t.yz (cK s)).length;rw[Bw];exact hz
  ·intro _;show t.iz=((oq t.zs t.yz (cK s)).length:Int)-1∧t.ie=((oq t.zs t.yz (cK s)).length:Int)-1;rw[Bw];exact hi
 ·rw[iU kd]
  have hy:=(nM er).2;rw[aA] at hy;refine⟨h1,h2,h3,h4,?_,?_,h7,h8,h9,h10⟩
  ·show(aM t.rs [On (tl1 (cK s))]).length≤4096;unfold aM;rw[List.length_append,List.length_singleton];omega
  ·show(aM t.wr [.int .i64 ln]).length=(aM t.rs [On (tl1 (cK s))]).length;unfold aM;rw[List.length_append,List.length_append,List.length_singleton,List.length_singleton];omega
 ·rw[iU kd]
  have hy:=(znEr_0 er).2.2.2;rw[aA] at hy;refine⟨?_,?_,?_,rfl,h5,h6,h7,h8,?_,?_⟩
  ·show(sJ t.zs (tl1 (cK s))).length≤1024;rw[Bz];omega
  ·show(Ar t.we ln).length=(sJ t.zs (tl1 (cK s))).length;rw[Bz,znWe_len];omega
  ·show([qK (tl1 (tl1 (cK s)))]:List V).length≤256;simp
  ·intro _;show 0<(sJ t.zs (tl1 (cK s))).length;rw[Bz];omega
  ·intro _;show av t.zs=((sJ t.zs (tl1 (cK s))).length:Int)-1∧av t.we=((sJ t.zs (tl1 (cK s))).length:Int)-1;rw[Bz,aA,aA];omega
 ·rw[iU kd]
  have hy:=(nM er).2;rw[aA] at hy;refine⟨h1,h2,h3,h4,h5,h6,?_,?_,h9,h10⟩
  ·show(aM t.ks [RQ (tl1 (cK s))]).length≤1024;unfold aM;rw[List.length_append,List.length_singleton];omega
  ·show(aM t.wl [.int .i64 ln]).length=(aM t.ks [RQ (tl1 (cK s))]).length;unfold aM;rw[List.length_append,List.length_append,List.length_singleton,List.length_singleton];omega
noncomputable def I9 (s:List UInt8):qg×Int×Int:=ou (ko s) 0 r0
noncomputable def OT (q:qg×Int×Int):Int:=if q.2.2≠0 then q.2.2 else if 0<q.1.op then 16 else 0
noncomputable def SG (q:qg×Int×Int):Int:=if q.2.2≠0 then q.2.1 else if 0<q.1.op then q.1.op else q.2.1
noncomputable def OU (s:List UInt8):List V:=(I9 s).1.rs
noncomputable def OV (s:List UInt8):List V:=(I9 s).1.zs
noncomputable def LW (s:List UInt8):List V:=(I9 s).1.ks
noncomputable def SH (s:List UInt8):List V:=(I9 s).1.wr
noncomputable def SI (s:List UInt8):List V:=(I9 s).1.we
noncomputable def SK (s:List UInt8):List V:=(I9 s).1.wl
noncomputable def alIz (s:List UInt8):Int:=(I9 s).1.iz
noncomputable def alYz (s:List UInt8):List V:=(I9 s).1.yz
noncomputable def alIe (s:List UInt8):Int:=(I9 s).1.ie
noncomputable def alYe (s:List UInt8):List V:=(I9 s).1.ye
noncomputable def alOp (s:List UInt8):Int:=(I9 s).1.op
noncomputable def Xe (s:List UInt8):Int:=OT (I9 s)
noncomputable def alL (s:List UInt8):Int:=SG (I9 s)
noncomputable def rAllS:aG:=fun a=>match a with|[.bxa 0 [c0,c1,c2,c3,c4,c5,.int .i64 ln,.int .i64 op],.str s]=>some (bif okN c0 c1 c2 c3 c4 c5 then ai (ieq ln 0) (ieq op 0) else false,.qb (aU 1048576 (au s)) (.out true (gU 0 9) [[.nilsl,.nilsl,.nilsl,.nilsl,.nilsl,.nilsl,.int .i64 0,.int .i64 0]]) (.qb (ieq (av (ko s)) 0) (.out false (.tup []) [[.nilsl,.nilsl,.nilsl,.nilsl,.nilsl,.nilsl,.int .i64 0,.int .i64 0]]) (.qb (ieq (Xe s) 0) (.out false (.tup []) [bxn (OU s) (OV s) (LW s) (SH s) (SI s) (SK s) (alIz s) (alYz s) (alIe s) (alYe s) (alL s) (alOp s)]) (.out true (gU (alL s) (Xe s)) [bxn (OU s) (OV s) (LW s) (SH s) (SI s) (SK s) (alIz s) (alYz s) (alIe s) (alYe s) (alL s) (alOp s)]))))|_=>none
noncomputable def rS4:List (Nat×aG):=(GX+32,rAllS)::rS3
noncomputable def Qw (F:Nat) (ns:List Nat) (n:Nat) (x1:List UInt8) (lu:List V) (uD OA dK aQ:Int) (K:V→Option V):Option V:=
 Fb eE rS3 F 3 32 [V.bxa 0 [],V.nilsl] [1,0,1,0] ns K n (mY 43 [(0,V.box 1000000000 0),(1,V.str x1),(12,V.sl 9 [Kd.str] none lu),(13,V.int .i64 uD),(14,V.int .i64 OA)] [(1000000000,[V.nilsl,V.nilsl,V.nilsl,V.nilsl,V.nilsl,V.nilsl,V.int .i64 dK,V.int .i64 aQ])])
noncomputable def BA (F:Nat) (ns:List Nat) (n:Nat) (x1:List UInt8) (lu:List V) (uD OA:Int) (aZ fO:List V) (gL:Int) (dY je jf iB:List V) (gM:Int) (fI jg:List V) (dK aQ:Int) (K:V→Option V):Option V:=
 Fb eE rS3 F 3 32 [V.bxa 0 [],V.nilsl] [1,0,1,0] ns K n (mY 43 [(0,V.box 1000000000 0),(1,V.str x1),(12,V.sl 9 [Kd.str] none lu),(13,V.int .i64 uD),(14,V.int .i64 OA)] [(1000000000,[V.sl 47 kR (some 10000) aZ,V.slz 10001 54 kZ fO (some 15001) gL 1 59 kE dY,V.sl 50 kL (some 10002) je,V.sl 3 [Kd.int .i64] (some 10003) jf,V.slz 10004 31 kW iB (some 15004) gM 0 3 [Kd.int .i64] fI,V.sl 3 [Kd.int .i64] (some 10005) jg,V.int .i64 dK,V.int .i64 aQ])])
theorem Dc (F:Nat) (s:List UInt8) (K:V→Option V):
 bW eE (bT eE rS3 F 3) F 32 [V.bxa 0 [V.nilsl,V.nilsl,V.nilsl,V.nilsl,V.nilsl,V.nilsl,V.int .i64 0,V.int .i64 0],V.str s] K=
 let A:=V.int .i64 0;sel (aU 1048576 (au s)) (K (V.out true (V.iface 76 (V.agg [A,V.int .i64 9])) [[V.nilsl,V.nilsl,V.nilsl,V.nilsl,V.nilsl,V.nilsl,A,A]])) (sel (ak (au s) 4000000) (Qw F [] F s (ko s) (av (ko s)) 0 0 0 K) none):=by kernel_rfl
theorem yN (F n:Nat) (x1:List UInt8) (lu:List V) (uD OA dK aQ:Int) (K:V→Option V):
 Qw F [] (n+1) x1 lu uD OA dK aQ K=
 let A:=aH (ah (aX lu OA) 0);let B:=eu .i64 dK 1;let C:=V.int .i64 aQ;let E:=[Kd.int .i64];let D:=kF [] [] [] [] aQ A;sel (aU OA uD) (sel (ai (ak 0 OA) (aU OA (av lu))) (sel (Jf [] [] 0 [] [] [] 0 [] [] aQ A) (sel (ieq D 0) (BA F [] n x1 lu uD (eu .i64 OA 1) (qM [] aQ A) (qN [] [] aQ A) (ul 0 [] aQ A) (qP [] aQ A) (qO [] aQ A) (uh [] B aQ A) (uj [] [] B aQ A) (um 0 [] aQ A) (uo [] B aQ A) (uk [] B aQ A) B (qQ aQ B A) K) (K (V.out true (V.iface 76 (V.agg [V.int .i64 B,V.int .i64 D])) [[V.sl 47 kR (some 1001) [],V.slz 1002 54 kZ [] (some 1502) 0 1 59 kE [],V.sl 50 kL (some 1003) [],V.sl 3 E (some 1004) [],V.slz 1005 31 kW [] (some 1505) 0 0 3 E [],V.sl 3 E (some 1006) [],V.int .i64 B,C]]))) none) none) (sel (aU 0 aQ) (K (V.out true (V.iface 76 (V.agg [C,V.int .i64 16])) [[V.nilsl,V.nilsl,V.nilsl,V.nilsl,V.nilsl,V.nilsl,C,C]])) (K (V.out false (V.tup []) [[V.nilsl,V.nilsl,V.nilsl,V.nilsl,V.nilsl,V.nilsl,V.int .i64 dK,C]]))):=by kernel_rfl
theorem yO (F n:Nat) (x1:List UInt8) (lu:List V) (uD OA:Int) (aZ fO:List V) (gL:Int) (dY je jf iB:List V) (gM:Int) (fI jg:List V) (dK aQ:Int) (K:V→Option V):
 BA F [] (n+1) x1 lu uD OA aZ fO gL dY je jf iB gM fI jg dK aQ K=
 let A:=aH (ah (aX lu OA) 0);let C:=eu .i64 dK 1;let D:=V.slz 1002 54 kZ fO (some 1502) gL 1 59 kE dY;let E:=V.int .i64 aQ;let J:=V.sl 47 kR (some 1001) aZ;let L:=V.sl 50 kL (some 1003) je;let M:=[Kd.int .i64];let B:=V.slz 1005 31 kW iB (some 1505) gM 0 3 M fI;let G:=V.sl 3 M (some 1004) jf;let H:=V.sl 3 M (some 1006) jg;let I:=kF aZ fO je dY aQ A;sel (aU OA uD) (sel (ai (ak 0 OA) (aU OA (av lu))) (sel (Jf aZ fO gL dY jf iB gM fI jg aQ A) (sel (ieq I 0) (BA F [] n x1 lu uD (eu .i64 OA 1) (qM aZ aQ A) (qN fO dY aQ A) (ul gL fO aQ A) (qP dY aQ A) (qO je aQ A) (uh jf C aQ A) (uj iB fI C aQ A) (um gM iB aQ A) (uo fI C aQ A) (uk jg C aQ A) C (qQ aQ C A) K) (K (V.out true (V.iface 76 (V.agg [V.int .i64 C,V.int .i64 I])) [[J,D,L,G,B,H,V.int .i64 C,E]]))) none) none) (sel (aU 0 aQ) (K (V.out true (V.iface 76 (V.agg [E,V.int .i64 16])) [[J,D,L,G,B,H,E,E]])) (K (V.out false (V.tup []) [[J,D,L,G,B,H,V.int .i64 dK,E]]))):=by kernel_rfl
theorem wX (F:Nat) (s:List UInt8) (K:V→Option V):
 bW eE (bT eE rS4 F 3) F 11 [V.str s] K=
 let A:=K (tbV (OU s) (OV s) (LW s) (SH s) (SI s) (SK s) 0 0);let B:=K (nlV (alL s) (Xe s));let C:=K (nlV 0 9);let D:=K (nlV 0 0);let E:=both C C;let G:=both D D;let H:=both A A;let I:=both B B;sel (aU 1048576 (au s)) (both (both (both C E) (both E (both E C))) (both (both (both C E) C) (both E C))) (sel (ieq (av (ko s)) 0) (both (both (both D G) (both G (both G D))) (both (both (both D G) D) (both G D))) (sel (ieq (Xe s) 0) (both (both (both A H) (both H (both H A))) (both (both (both A H) A) (both H A))) (both (both (both B I) (both I (both I B))) (both (both (both B I) B) (both I B))))):=by kernel_rfl
end Nt.Ev.YtplklcejbmfgdaaGreatDoor.Rr
namespace Nt.Lin
open Go Nt.Ev
theorem Hz: ∀(s cur:List UInt8),∀l∈ze s cur,l.length≤cur.length+s.length
 |[],cur,l,h=>by
  unfold ze at h
  cases cur with
  |nil=>cases h
  |cons c t=>simp only[List.mem_singleton] at h;subst h;simp
 |c::t,cur,l,h=>by
  unfold ze at h
  cases hc:c==10 with
  |true=>
   rw[hc,cond_true,List.mem_cons] at h;rcases h with rfl|h
   ·rw[List.length_cons];omega
   ·have:=Hz t [] l h
    rw[List.length_nil] at this;rw[List.length_cons];omega
  |false=>
   rw[hc,cond_false] at h;have:=Hz t (cur++[c]) l h;rw[List.length_append,List.length_singleton] at this;rw[List.length_cons];omega
end Nt.Lin
namespace Nt.Ev.YtplklcejbmfgdaaGreatDoor.Rr
set_option maxRecDepth 100000
open Go Go.RowKit Nt Nt.Num Nt.Civil Nt.Fld Go.Proofs.YtplklcejbmfgdaaGreatDoor Nt.Ev.YtplklcejbmfgdaaGreatDoor Nt.Ev.YtplklcejbmfgdaaGreatDoor.Lk
variable [nP]
theorem ZL (s:List UInt8) (hs:s.length≤4000000): ∀x∈ko s,(RS x).length≤4000000:=by
 intro x hx;unfold ko Nt.Ev.bF at hx;obtain⟨l,hl,rfl⟩:=List.mem_map.1 hx;have:=Nt.Lin.Hz s [] l hl;rw[List.length_nil] at this;show l.length≤4000000;omega
theorem linL_few (s:List UInt8):(ko s).length≤s.length:=by
 unfold ko;rw[rY,Nt.Lin.Ty (s.length+1) s (by omega),List.length_map];exact Nt.Lin.Tz (s.length+1) s (by omega)
theorem G6 {xs:List V} {i:Nat} (h:i<xs.length):xs.drop i=aX xs (i:Int)::xs.drop (i+1):=by
 rw[List.drop_eq_getElem_cons h,ja];congr 1
 simp[h]
theorem get_mem {xs:List V} {i:Nat} (h:i<xs.length):aX xs (i:Int)∈xs:=by
 rw[ja];simp[h]
noncomputable def F9 (q:qg×Int×Int):V:=sel (ieq (OT q) 0) (.out false (.tup []) [bxn q.1.rs q.1.zs q.1.ks q.1.wr q.1.we q.1.wl q.1.iz q.1.yz q.1.ie q.1.ye (SG q) q.1.op]) (.out true (gU (SG q) (OT q)) [bxn q.1.rs q.1.zs q.1.ks q.1.wr q.1.we q.1.wl q.1.iz q.1.yz q.1.ie q.1.ye (SG q) q.1.op])
theorem lW {x:V} {xs:List V} {ln:Int} {t:qg} (h:t.err (RS x)=0):ou (x::xs) ln t=ou xs (ln+1) (t.step (ln+1) (RS x)):=by
 show(if t.err (RS x)=0 then _ else _)=_;rw[if_pos h]
theorem tO {x:V} {xs:List V} {ln:Int} {t:qg} (h:t.err (RS x)≠0):ou (x::xs) ln t=(t,ln+1,t.err (RS x)):=by
 show(if t.err (RS x)=0 then _ else _)=_;rw[if_neg h]
theorem al_loop (F:Nat) (s:List UInt8) (xs:List V) (hx:xs.length≤4000000) (hs: ∀x∈xs,(RS x).length≤4000000): ∀(j i n:Nat) (t:qg),i+j=xs.length→j<n→Good t→
  BA F [] n s xs (av xs) (i:Int) t.rs t.zs t.iz t.yz t.ks t.wr t.we t.ie t.ye t.wl (i:Int) t.op some=some (F9 (ou (xs.drop i) i t)):=by
 intro j;induction j with
 |zero=>
  intro i n t hi hn hg;obtain⟨n,rfl⟩: ∃k,n=k+1:=⟨n-1,by omega⟩
  (rw[yO];(conv=>zeta);rw[aW (bD (by rw[aA];omega)),List.drop_of_length_le (by omega)])
  unfold ou F9 OT SG;by_cases ho:0<t.op
  ·rw[aB (bE ho)]
   simp only[ne_eq,not_true_eq_false,if_false,if_pos ho];rfl
  ·rw[aW (bD (by omega))]
   simp only[ne_eq,not_true_eq_false,if_false,if_neg ho];rfl
 |succ j ih=>
  intro i n t hi hn hg;obtain⟨n,rfl⟩: ∃k,n=k+1:=⟨n-1,by omega⟩
  have hl:i<xs.length:=by omega
  have i1:eu .i64 (i:Int) 1=((i+1:Nat):Int):=by rw[fU (by omega)];omega
  (rw[yO];(conv=>zeta);rw[aB (bE (by rw[aA];omega)),aB (by rw[aJ,ay,bf,aA];omega),aB (hg.ck (hs _ (get_mem hl))),G6 hl,i1])
  by_cases he:t.err (RS (aX xs (i:Int)))=0
  ·rw[lW he,show((i:Int)+1)=((i+1:Nat):Int) by omega,←ih (i+1) n (t.step ((i+1:Nat):Int) (RS (aX xs (i:Int)))) (by omega) (by omega) (hg.step he)]
   exact aB (bq he)
  ·rw[tO he]
   refine(aW (bQ he)).trans ?_;unfold F9 OT SG;simp only[ne_eq,he,not_false_eq_true,if_true];rw[aW (bQ he),show((i:Int)+1)=((i+1:Nat):Int) by omega];rfl
theorem al_body (s:List UInt8) (hs:s.length≤1048576) (h0: ¬av (ko s)=0):bW eE (bT eE rS3 ((ko s).length+1) 3) ((ko s).length+1) 32 [V.bxa 0 [V.nilsl,V.nilsl,V.nilsl,V.nilsl,V.nilsl,V.nilsl,V.int .i64 0,V.int .i64 0],V.str s] some=some (F9 (I9 s)):=by
 have hf:=linL_few s;have hln:=ZL s (by omega);rw[aA] at h0;have hl:0<(ko s).length:=by omega
 (rw[Dc];(conv=>zeta);rw[aW (bD (by rw[aC];omega)),aB (bB (by rw[aC];omega))])
 (rw[yN];(conv=>zeta);rw[aB (bE (by rw[aA];omega)),aB (by rw[aJ,ay,bf,aA];omega),aB (show Jf [] [] 0 [] [] [] 0 [] [] 0 (aH (ah (aX (ko s) 0) 0))=true from WR.ck (hln _ (get_mem (i:=0) hl))),show eu .i64 0 1=((0+1:Nat):Int) from rfl])
 unfold I9;have hd:=G6 (xs:=ko s) (i:=0) hl;rw[List.drop_zero] at hd;refine Eq.symm (Eq.trans (show some (F9 (ou (ko s) 0 r0))=some (F9 (ou (aX (ko s) ((0:Nat):Int)::(ko s).drop 1) 0 r0)) by rw[←hd]) ?_);by_cases he:r0.err (RS (aX (ko s) ((0:Nat):Int)))=0
 ·rw[lW he]
  have:=al_loop ((ko s).length+1) s (ko s) (by omega) hln ((ko s).length-1) 1 (ko s).length (r0.step 1 (RS (aX (ko s) ((0:Nat):Int)))) (by omega) (by omega) (WR.step he);refine Eq.trans ?_ (aB (bq he)).symm;exact this.symm
 ·rw[tO he]
  refine Eq.trans ?_ (aW (bQ he)).symm;unfold F9 OT SG;simp only[ne_eq,he,not_false_eq_true,if_true];rw[aW (bQ he)];rfl
theorem rAllS_ok (c0 c1 c2 c3 c4 c5:V) (ln op:Int) (s:List UInt8) (hc:(bif okN c0 c1 c2 c3 c4 c5 then ai (ieq ln 0) (ieq op 0) else false)=true):su eE 32 [.bxa 0 [c0,c1,c2,c3,c4,c5,.int .i64 ln,.int .i64 op],.str s] (.qb (aU 1048576 (au s)) (.out true (gU 0 9) [[.nilsl,.nilsl,.nilsl,.nilsl,.nilsl,.nilsl,.int .i64 0,.int .i64 0]]) (.qb (ieq (av (ko s)) 0) (.out false (.tup []) [[.nilsl,.nilsl,.nilsl,.nilsl,.nilsl,.nilsl,.int .i64 0,.int .i64 0]]) (.qb (ieq (Xe s) 0) (.out false (.tup []) [bxn (OU s) (OV s) (LW s) (SH s) (SI s) (SK s) (alIz s) (alYz s) (alIe s) (alYe s) (alL s) (alOp s)]) (.out true (gU (alL s) (Xe s)) [bxn (OU s) (OV s) (LW s) (SH s) (SI s) (SK s) (alIz s) (alYz s) (alIe s) (alYe s) (alL s) (alOp s)])))):=by
 obtain⟨h,hc⟩:=lU hc;obtain⟨h1,h2⟩:=aR hc;rw[aL] at h1 h2;subst h1;subst h2;obtain⟨rfl,rfl,rfl,rfl,rfl,rfl⟩:=okN_eq h;refine su.qb (fun h=>su.out (mR iX My 1 3 ?_)) (fun h=>su.qb (fun h0=>su.out (mR iX My 1 3 ?_)) (fun h0=>?_))
 ·(rw[Dc];(conv=>zeta);rw[aB h])
 ·have hl:s.length≤1048576:=by
   have: ¬(1048576<au s):=fun hh=>by rw[bE hh] at h;cases h
   rw[aC] at this;omega
  rw[aL] at h0
  (rw[Dc];(conv=>zeta);rw[aW h,aB (bB (by rw[aC];omega)),yN];(conv=>zeta);rw[aW (bD (by omega)),aW (bD (by omega))])
 ·have hl:s.length≤1048576:=by
   have: ¬(1048576<au s):=fun hh=>by rw[bE hh] at h;cases h
   rw[aC] at this;omega
  have h0': ¬av (ko s)=0:=fun hh=>by rw[bq hh] at h0;cases h0
  exact Kh My _ 3 (al_body s hl h0')
theorem MC:bn eE rS4:=by
 unfold rS4;refine bn.qB (fun args r h=>?_) My;all_goals (revert h;intro h;first|unfold rAllS at h)
 all_goals (split at h;rotate_left; · cases h)
 all_goals (simp only[Option.some.injEq,Prod.mk.injEq] at h;obtain⟨hc,rfl⟩:=h)
 ·exact rAllS_ok _ _ _ _ _ _ _ _ _ hc
noncomputable def EH (s:List UInt8):Int:=if 1048576<s.length then 9 else Xe s
noncomputable def tbL (s:List UInt8):Int:=if 1048576<s.length then 0 else if Xe s=0 then 0 else alL s
noncomputable def xw (s:List UInt8):List V:=if EH s=0 then OU s else[]
noncomputable def xx (s:List UInt8):List V:=if EH s=0 then OV s else[]
noncomputable def uq (s:List UInt8):List V:=if EH s=0 then LW s else[]
noncomputable def tbWr (s:List UInt8):List V:=if EH s=0 then SH s else[]
noncomputable def tbWe (s:List UInt8):List V:=if EH s=0 then SI s else[]
noncomputable def tbWl (s:List UInt8):List V:=if EH s=0 then SK s else[]
theorem BB {G:aP} {v:Value} {e:Nat} {sh:List Kd} (h:aO G .nilsl v):aO G (.sl e sh none []) v:=by
 unfold aO at h;subst h;unfold aO;exact⟨none,0,rfl,Nat.le_refl _,.inl rfl⟩
theorem Qx {G:aP} {v:Value} {e1 e2 e3:Nat} {s1 s2 s3:List Kd} (h:aO G (.agg [.nilsl,.nilsl,.nilsl]) v):aO G (.agg [.sl e1 s1 none [],.sl e2 s2 none [],.sl e3 s3 none []]) v:=by
 unfold aO at h;obtain⟨a,rfl,h⟩:=h;unfold jv at h;obtain⟨v1,t1,rfl,h1,h⟩:=h;unfold jv at h;obtain⟨v2,t2,rfl,h2,h⟩:=h;unfold jv at h;obtain⟨v3,t3,rfl,h3,h⟩:=h;unfold aO;refine⟨_,rfl,?_⟩;unfold jv;refine⟨_,_,rfl,BB h1,?_⟩;unfold jv;refine⟨_,_,rfl,BB h2,?_⟩;unfold jv;exact⟨_,_,rfl,BB h3,h⟩
theorem TD {E:Env} {f:Nat} {args:List V} {l w:Int} (h:af E f args (nlV l w)):af E f args (tbV [] [] [] [] [] [] l w):=by
 intro G w vs hG hg hp;refine(h G w vs hG hg hp).mono ?_;rintro e' w' ⟨v,G',rfl,hn,a,rfl,hpw,hc⟩;refine⟨_,G',rfl,hn,a,rfl,?_,hc⟩;obtain⟨v1,t1,rfl,h1,hpw⟩:=hpw.cons_inv;obtain⟨v2,t2,rfl,h2,hpw⟩:=hpw.cons_inv;exact .cons (Qx h1) (.cons (Qx h2) hpw)
theorem alE_nil {s:List UInt8} (h:av (ko s)=0):I9 s=(r0,0,0):=by
 rw[aA] at h;have:ko s=[]:=List.eq_nil_of_length_eq_zero (by omega);unfold I9;rw[this];rfl
theorem tbP_ev (s:List UInt8):af eE 11 [.str s] (tbV (xw s) (xx s) (uq s) (tbWr s) (tbWe s) (tbWl s) (tbL s) (EH s)):=by
 unfold xw xx uq tbWr tbWe tbWl;by_cases hl:1048576<s.length
 ·have e:EH s=9:=if_pos hl
  have e2:tbL s=0:=if_pos hl;rw[e,e2];refine TD (aj iX MC 1 3 ?_)
  (rw[wX];(conv=>zeta);rw[aB (bE (by rw[aC];omega))])
  simp only[wP]
 ·have e:EH s=Xe s:=if_neg hl
  have e2:tbL s=if Xe s=0 then 0 else alL s:=if_neg hl
  rw[e,e2];by_cases h0:av (ko s)=0
  ·have hq:=alE_nil h0
   have ha:Xe s=0:=by unfold Xe;rw[hq];rfl
   rw[if_pos ha,if_pos ha,if_pos ha,if_pos ha,if_pos ha,if_pos ha,if_pos ha,ha];unfold OU OV LW SH SI SK;rw[hq];refine TD (aj iX MC 1 3 ?_)
   (rw[wX];(conv=>zeta);rw[aW (bD (by rw[aC];omega)),aB (bq h0)])
   simp only[wP]
  ·by_cases ha:Xe s=0
   ·rw[if_pos ha,if_pos ha,if_pos ha,if_pos ha,if_pos ha,if_pos ha,if_pos ha,ha]
    refine aj iX MC 1 3 ?_
    (rw[wX];(conv=>zeta);rw[aW (bD (by rw[aC];omega)),aW (bQ h0),aB (bq ha)])
    simp only[wP]
   ·rw[if_neg ha,if_neg ha,if_neg ha,if_neg ha,if_neg ha,if_neg ha,if_neg ha]
    refine TD (aj iX MC 1 3 ?_)
    (rw[wX];(conv=>zeta);rw[aW (bD (by rw[aC];omega)),aW (bQ h0),aW (bQ ha)])
    simp only[wP]
end Nt.Ev.YtplklcejbmfgdaaGreatDoor.Rr
