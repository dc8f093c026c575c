/-
  The reader of sources: lines; both sides as contracts. The reader's run over lines: the plain law. Reader2: equations of functions, as the evaluator prints them. The reader of sources: all lines, the table.
-/
import Derived.Test.YtpbgegnlkdfjgaaGreatDoorMXL
set_option linter.unusedVariables false
set_option linter.unusedSimpArgs false
set_option linter.unusedSectionVars false
namespace Nt.Fld
open Go Nt.Ev
theorem u7 (N:Nat): ∀(s:List UInt8) (out:List (List UInt8)) (f:List UInt8) (op qu:Bool),(∀x∈out,x.length≤N)→f.length+s.length≤N→ ∀x∈(tV s out f op qu).1,x.length≤N
 |[],out,f,op,qu,ho,hf=>by
  have hf:f.length≤N:=by simpa using hf
  have hp: ∀x∈vI op out f,x.length≤N:=by
   intro x hx
   cases op with
   |false=>exact ho x hx
   |true=>
    have hx:x∈out++[f]:=hx;rw[List.mem_append,List.mem_singleton] at hx;rcases hx with hx|rfl
    ·exact ho x hx
    ·exact hf
  cases qu with
  |true=>intro x hx;cases hx
  |false=>
   show∀x∈(A9 (vI op out f)).1,_;unfold A9;split
   ·intro x hx;cases hx
   ·exact hp
 |c::t,out,f,op,qu,ho,hf=>by
  rw[List.length_cons] at hf;have hp: ∀x∈vI op out f,x.length≤N:=by
   intro x hx
   cases op with
   |false=>exact ho x hx
   |true=>
    have hx:x∈out++[f]:=hx;rw[List.mem_append,List.mem_singleton] at hx;rcases hx with hx|rfl
    ·exact ho x hx
    ·omega
  have hfin: ∀x∈(A9 (vI op out f)).1,x.length≤N:=by
   unfold A9;split
   ·intro x hx;cases hx
   ·exact hp
  have hf2:(f++[c]).length+t.length≤N:=by rw[List.length_append,List.length_singleton];omega
  have hf3:f.length+t.length≤N:=by omega
  have hf4:([]:List UInt8).length+t.length≤N:=by rw[List.length_nil];omega
  unfold tV
  cases qu with
  |true=>
   cases hc:c==34 with
   |true=>exact u7 N t out f op false ho hf3
   |false=>exact u7 N t out (f++[c]) op true ho hf2
  |false=>
   cases h1:c==35 with
   |true=>exact hfin
   |false=>
    cases h2:c==9 with
    |true=>exact u7 N t _ [] false false hp hf4
    |false=>
     cases h3:c==32 with
     |true=>exact u7 N t _ [] false false hp hf4
     |false=>
      cases hc:c==34 with
      |true=>exact u7 N t out f true true ho hf3
      |false=>exact u7 N t out (f++[c]) true false ho hf2
end Nt.Fld
namespace Nt.Ev.YtpbgegnlkdfjgaaGreatDoor.Rr
set_option maxRecDepth 100000
open Go Go.RowKit Nt Nt.Num Nt.Civil Nt.Fld Go.Proofs.YtpbgegnlkdfjgaaGreatDoor Nt.Ev.YtpbgegnlkdfjgaaGreatDoor Nt.Ev.YtpbgegnlkdfjgaaGreatDoor.Lk
variable [uT]
theorem Sb {s:List UInt8} (h:I9 s=0):s.length≤511:=by
 unfold I9 at h;rcases Nat.lt_or_ge 511 s.length with hl|hl
 ·rw[aj (bq (by rw[au];omega))] at h;cases h
 ·exact hl
theorem Vn {s:List UInt8} (h:s.length≤511):dZ (bX s)=true:=by
 unfold dZ;rw[List.all_eq_true];intro v hv;unfold bX bQ at hv;obtain⟨l,hl,rfl⟩:=List.mem_map.1 hv;have:=u7 511 s [] [] false false (fun x hx=>nomatch hx) (by simpa using h) l hl;show ak (ah l) 900=true;exact bA (by rw[au];omega)
theorem aau {xs:List V} (h:dZ xs=true) (h0:0<xs.length):ak (ah (aT (aD (aY xs 0) 0))) 1000=true:=by
 unfold dZ at h;rw[List.all_eq_true] at h;match xs,h0,h with
 |x::t,_,h=>
  have hx:=h x List.mem_cons_self;have e:aY (x::t) 0=x:=rfl;rw[e]
  cases x with
  |str l=>
   have hx:ak (ah l) 900=true:=hx;rw[aA] at hx;exact bA (show ah l≤1000 by omega)
  |_=>cases hx
theorem aav:wsR [V.str [82,117,108,101],V.str [90,111,110,101],V.str [76,105,110,107]]=true:=by unfold wsR;decide+kernel
theorem jY (rs zs ks wr we wl yz ye:List V) (iz ie ln:Int) {op:Int} {s:List UInt8} (kd:gz op s=0):pE rs op s=aX rs [NW (dI (bX s) 1 (ax (bX s)))]∧pF zs yz op s=zs∧pG ks op s=ks∧pI wr ln op s=aX wr [.int .i64 ln]∧pJ we ye ln op s=we∧pK wl ln op s=wl∧pM iz zs op s=iz∧pN yz op s=yz∧pO ie we op s=ie∧pP ye ln op s=ye∧pQ op ln s=op:=by
 unfold pE pF pG pI pJ pK pM pN pO pP pQ;rw[kd];exact⟨rfl,rfl,rfl,rfl,rfl,rfl,rfl,rfl,rfl,rfl,rfl⟩
theorem jZ (rs zs ks wr we wl yz ye:List V) (iz ie ln:Int) {op:Int} {s:List UInt8} (kd:gz op s=1):pE rs op s=rs∧pF zs yz op s=rO zs (dI (bX s) 1 (ax (bX s)))∧pG ks op s=ks∧pI wr ln op s=wr∧pJ we ye ln op s=vP we ln∧pK wl ln op s=wl∧pM iz zs op s=ax zs∧pN yz op s=[yg (dI (dI (bX s) 1 (ax (bX s))) 1 (ax (dI (bX s) 1 (ax (bX s)))))]∧pO ie we op s=ax we∧pP ye ln op s=[.int .i64 ln]∧pQ op ln s=kJ (dI (dI (bX s) 1 (ax (bX s))) 1 (ax (dI (bX s) 1 (ax (bX s))))) ln:=by
 unfold pE pF pG pI pJ pK pM pN pO pP pQ;rw[kd];exact⟨rfl,rfl,rfl,rfl,rfl,rfl,rfl,rfl,rfl,rfl,rfl⟩
theorem kg (rs zs ks wr we wl yz ye:List V) (iz ie ln:Int) {op:Int} {s:List UInt8} (kd:gz op s=2):pE rs op s=rs∧pF zs yz op s=zs∧pG ks op s=aX ks [Vw (dI (bX s) 1 (ax (bX s)))]∧pI wr ln op s=wr∧pJ we ye ln op s=we∧pK wl ln op s=aX wl [.int .i64 ln]∧pM iz zs op s=iz∧pN yz op s=yz∧pO ie we op s=ie∧pP ye ln op s=ye∧pQ op ln s=op:=by
 unfold pE pF pG pI pJ pK pM pN pO pP pQ;rw[kd];exact⟨rfl,rfl,rfl,rfl,rfl,rfl,rfl,rfl,rfl,rfl,rfl⟩
theorem ko (rs zs ks wr we wl yz ye:List V) (iz ie ln:Int) {op:Int} {s:List UInt8} (kd:gz op s=3):pE rs op s=rs∧pF zs yz op s=nV zs yz (bX s)∧pG ks op s=ks∧pI wr ln op s=wr∧pJ we ye ln op s=rM we ye ln∧pK wl ln op s=wl∧pM iz zs op s=iz∧pN yz op s=aX yz [yg (bX s)]∧pO ie we op s=ie∧pP ye ln op s=aX ye [.int .i64 ln]∧pQ op ln s=kJ (bX s) ln:=by
 unfold pE pF pG pI pJ pK pM pN pO pP pQ;rw[kd];exact⟨rfl,rfl,rfl,rfl,rfl,rfl,rfl,rfl,rfl,rfl,rfl⟩
theorem kr (rs zs ks wr we wl yz ye:List V) (iz ie ln:Int) {op:Int} {s:List UInt8} (kd:gz op s=4):pE rs op s=rs∧pF zs yz op s=zs∧pG ks op s=ks∧pI wr ln op s=wr∧pJ we ye ln op s=we∧pK wl ln op s=wl∧pM iz zs op s=iz∧pN yz op s=yz∧pO ie we op s=ie∧pP ye ln op s=ye∧pQ op ln s=op:=by
 unfold pE pF pG pI pJ pK pM pN pO pP pQ;rw[kd];exact⟨rfl,rfl,rfl,rfl,rfl,rfl,rfl,rfl,rfl,rfl,rfl⟩
theorem read_p (rs zs ks wr we wl:List V) (ln op iz ie:Int) (yz ye:List V) (s:List UInt8) (hc:vQ rs zs iz yz wr we ie ye wl op s=true):bD eE (bB eE rS2 5 3) 5 18 [.bxa 0 (qx rs zs ks wr we wl iz yz ie ye ln op),.str s] some=
  some (sel (ieq (fG rs zs ks yz op s) 0) (.out false (.tup []) [qx (pE rs op s) (pF zs yz op s) (pG ks op s) (pI wr ln op s) (pJ we ye ln op s) (pK wl ln op s) (pM iz zs op s) (pN yz op s) (pO ie we op s) (pP ye ln op s) ln (pQ op ln s)]) (.out true (gU ln (fG rs zs ks yz op s)) [qx rs zs ks wr we wl iz yz ie ye ln op])):=by
 (rw[Ya];(conv=>zeta))
 unfold vQ at hc;rw[decide_eq_true_eq] at hc;obtain⟨hl,z1,w1,y1,e1,r1,l1,hop⟩:=hc;have i4:ak (ah s) 4000000=true:=bA (by rw[au];omega);by_cases c1:I9 s=0
 case neg=>
  have er:fG rs zs ks yz op s=I9 s:=by unfold fG;rw[if_pos c1]
  simp only[i4,bf c1,er,dm,dn,bY,bZ];try rfl
 have hA:=Vn (Sb c1);by_cases c2:Ls s=0
 case neg=>
  have er:fG rs zs ks yz op s=Ls s:=by unfold fG;rw[if_neg (fun h=>h c1),if_pos c2]
  simp only[i4,aR c1,bf c2,er,dm,dn,bY,bZ];try rfl
 by_cases c3:ax (bX s)=0
 case pos=>
  have er:fG rs zs ks yz op s=0:=by unfold fG;rw[if_neg (fun h=>h c1),if_neg (fun h=>h c2),if_pos c3]
  have kd:gz op s=4:=by unfold gz;rw[if_pos c3]
  simp only[i4,aR c1,aR c2,aR c3,er,dm,dn,bY,bZ,(kr rs zs ks wr we wl yz ye iz ie ln kd).1,(kr rs zs ks wr we wl yz ye iz ie ln kd).2.1,(kr rs zs ks wr we wl yz ye iz ie ln kd).2.2.1,(kr rs zs ks wr we wl yz ye iz ie ln kd).2.2.2.1,(kr rs zs ks wr we wl yz ye iz ie ln kd).2.2.2.2.1,(kr rs zs ks wr we wl yz ye iz ie ln kd).2.2.2.2.2.1,(kr rs zs ks wr we wl yz ye iz ie ln kd).2.2.2.2.2.2.1,(kr rs zs ks wr we wl yz ye iz ie ln kd).2.2.2.2.2.2.2.1,(kr rs zs ks wr we wl yz ye iz ie ln kd).2.2.2.2.2.2.2.2.1,(kr rs zs ks wr we wl yz ye iz ie ln kd).2.2.2.2.2.2.2.2.2.1,(kr rs zs ks wr we wl yz ye iz ie ln kd).2.2.2.2.2.2.2.2.2.2];first|rfl|(rw[c2];rfl)
 have c3l:0<(bX s).length:=by rw[aI] at c3;omega
 have n1:av (ak 0 0) (aK 0 (ax (bX s)))=true:=by rw[aC,aA,aU,aI];omega
 have n2:av (ak 0 1) (ak 1 (ax (bX s)))=true:=by rw[aC,aA,aA,aI];omega
 have f0:=aau hA c3l;have hw:av (ak (ah (aT (aD (aY (bX s) 0) 0))) 1000) (wsR [V.str [82,117,108,101],V.str [90,111,110,101],V.str [76,105,110,107]])=true:=by rw[aC];exact⟨f0,aav⟩
 have hT:dZ (dI (bX s) 1 (ax (bX s)))=true:=B5 hA _ _;by_cases c4:0<op
 case pos=>
  have hE:JO zs iz yz we ie ye (bX s)=true:=by
   unfold JO;rw[decide_eq_true_eq];obtain⟨p1,p2,p3,p4⟩:=hop c4;exact⟨hA,⟨p1,by omega⟩,p2,y1,⟨p3,by omega⟩,p4,e1⟩
  have er:fG rs zs ks yz op s=mG yz (bX s):=by unfold fG;rw[if_neg (fun h=>h c1),if_neg (fun h=>h c2),if_neg c3,if_pos c4]
  have kd:gz op s=3:=by unfold gz;rw[if_neg c3,if_pos c4]
  rcases Bool.eq_false_or_eq_true (ieq (mG yz (bX s)) 0) with hb|hb
  ·simp only[i4,aR c1,aR c2,bf c3,bq c4,hE,hb,er,dm,dn,bY,bZ,(ko rs zs ks wr we wl yz ye iz ie ln kd).1,(ko rs zs ks wr we wl yz ye iz ie ln kd).2.1,(ko rs zs ks wr we wl yz ye iz ie ln kd).2.2.1,(ko rs zs ks wr we wl yz ye iz ie ln kd).2.2.2.1,(ko rs zs ks wr we wl yz ye iz ie ln kd).2.2.2.2.1,(ko rs zs ks wr we wl yz ye iz ie ln kd).2.2.2.2.2.1,(ko rs zs ks wr we wl yz ye iz ie ln kd).2.2.2.2.2.2.1,(ko rs zs ks wr we wl yz ye iz ie ln kd).2.2.2.2.2.2.2.1,(ko rs zs ks wr we wl yz ye iz ie ln kd).2.2.2.2.2.2.2.2.1,(ko rs zs ks wr we wl yz ye iz ie ln kd).2.2.2.2.2.2.2.2.2.1,(ko rs zs ks wr we wl yz ye iz ie ln kd).2.2.2.2.2.2.2.2.2.2]
  ·simp only[i4,aR c1,aR c2,bf c3,bq c4,hE,hb,er,dm,dn,bY,bZ]
 by_cases c5:mO (aT (aD (aY (bX s) 0) 0)) [V.str [82,117,108,101],V.str [90,111,110,101],V.str [76,105,110,107]]=0
 case neg=>
  have er:fG rs zs ks yz op s=mO (aT (aD (aY (bX s) 0) 0)) [V.str [82,117,108,101],V.str [90,111,110,101],V.str [76,105,110,107]]:=by unfold fG;rw[if_neg (fun h=>h c1),if_neg (fun h=>h c2),if_neg c3,if_neg c4,if_pos c5]
  simp only[i4,aR c1,aR c2,bf c3,bu (Int.not_lt.1 c4),n1,hw,bf c5,er,dm,dn,bY,bZ];try rfl
 obtain⟨m0,m3⟩:=xD _ _ (by decide) c5;have m3:kH (aT (aD (aY (bX s) 0) 0)) [V.str [82,117,108,101],V.str [90,111,110,101],V.str [76,105,110,107]]<3:=m3;have erS:fG rs zs ks yz op s=if kH (aT (aD (aY (bX s) 0) 0)) I5=0 then nS rs (tl1 (bX s)) else if kH (aT (aD (aY (bX s) 0) 0)) I5=1 then mH zs (tl1 (bX s)) else nU ks (tl1 (bX s)):=by unfold fG;rw[if_neg (fun h=>h c1),if_neg (fun h=>h c2),if_neg c3,if_neg c4,if_neg (fun h=>h c5)]
 have kdS:gz op s=(kH (aT (aD (aY (bX s) 0) 0)) I5).toNat:=by unfold gz;rw[if_neg c3,if_neg c4]
 by_cases c6:kH (aT (aD (aY (bX s) 0) 0)) [V.str [82,117,108,101],V.str [90,111,110,101],V.str [76,105,110,107]]=0
 case pos=>
  have er:fG rs zs ks yz op s=nS rs (tl1 (bX s)):=by rw[erS,if_pos c6]
  have kd:gz op s=0:=by rw[kdS];unfold I5;rw[c6];rfl
  have hr:av (dZ (dI (bX s) 1 (ax (bX s)))) (DX wr)=true:=by rw[aC];exact⟨hT,by unfold DX;simpa using r1⟩
  rcases Bool.eq_false_or_eq_true (ieq (nS rs (dI (bX s) 1 (ax (bX s)))) 0) with hb|hb
  ·simp only[i4,aR c1,aR c2,bf c3,bu (Int.not_lt.1 c4),n1,n2,hw,aR c5,aR c6,hr,hb,er,dm,dn,bY,bZ,(jY rs zs ks wr we wl yz ye iz ie ln kd).1,(jY rs zs ks wr we wl yz ye iz ie ln kd).2.1,(jY rs zs ks wr we wl yz ye iz ie ln kd).2.2.1,(jY rs zs ks wr we wl yz ye iz ie ln kd).2.2.2.1,(jY rs zs ks wr we wl yz ye iz ie ln kd).2.2.2.2.1,(jY rs zs ks wr we wl yz ye iz ie ln kd).2.2.2.2.2.1,(jY rs zs ks wr we wl yz ye iz ie ln kd).2.2.2.2.2.2.1,(jY rs zs ks wr we wl yz ye iz ie ln kd).2.2.2.2.2.2.2.1,(jY rs zs ks wr we wl yz ye iz ie ln kd).2.2.2.2.2.2.2.2.1,(jY rs zs ks wr we wl yz ye iz ie ln kd).2.2.2.2.2.2.2.2.2.1,(jY rs zs ks wr we wl yz ye iz ie ln kd).2.2.2.2.2.2.2.2.2.2]
  ·simp only[i4,aR c1,aR c2,bf c3,bu (Int.not_lt.1 c4),n1,n2,hw,aR c5,aR c6,hr,hb,er,dm,dn,bY,bZ]
 by_cases c7:kH (aT (aD (aY (bX s) 0) 0)) [V.str [82,117,108,101],V.str [90,111,110,101],V.str [76,105,110,107]]=1
 case pos=>
  have er:fG rs zs ks yz op s=mH zs (tl1 (bX s)):=by rw[erS,if_neg c6,if_pos c7]
  have kd:gz op s=1:=by rw[kdS];unfold I5;rw[c7];rfl
  have hr:Ua zs we (dI (bX s) 1 (ax (bX s)))=true:=by unfold Ua;rw[decide_eq_true_eq];exact⟨hT,z1,w1⟩
  rcases Bool.eq_false_or_eq_true (ieq (mH zs (dI (bX s) 1 (ax (bX s)))) 0) with hb|hb
  ·simp only[i4,aR c1,aR c2,bf c3,bu (Int.not_lt.1 c4),n1,n2,hw,aR c5,bf c6,aR c7,hr,hb,er,dm,dn,bY,bZ,(jZ rs zs ks wr we wl yz ye iz ie ln kd).1,(jZ rs zs ks wr we wl yz ye iz ie ln kd).2.1,(jZ rs zs ks wr we wl yz ye iz ie ln kd).2.2.1,(jZ rs zs ks wr we wl yz ye iz ie ln kd).2.2.2.1,(jZ rs zs ks wr we wl yz ye iz ie ln kd).2.2.2.2.1,(jZ rs zs ks wr we wl yz ye iz ie ln kd).2.2.2.2.2.1,(jZ rs zs ks wr we wl yz ye iz ie ln kd).2.2.2.2.2.2.1,(jZ rs zs ks wr we wl yz ye iz ie ln kd).2.2.2.2.2.2.2.1,(jZ rs zs ks wr we wl yz ye iz ie ln kd).2.2.2.2.2.2.2.2.1,(jZ rs zs ks wr we wl yz ye iz ie ln kd).2.2.2.2.2.2.2.2.2.1,(jZ rs zs ks wr we wl yz ye iz ie ln kd).2.2.2.2.2.2.2.2.2.2]
  ·simp only[i4,aR c1,aR c2,bf c3,bu (Int.not_lt.1 c4),n1,n2,hw,aR c5,bf c6,aR c7,hr,hb,er,dm,dn,bY,bZ]
 have c8:kH (aT (aD (aY (bX s) 0) 0)) [V.str [82,117,108,101],V.str [90,111,110,101],V.str [76,105,110,107]]=2:=by omega
 have er:fG rs zs ks yz op s=nU ks (tl1 (bX s)):=by rw[erS,if_neg c6,if_neg c7]
 have kd:gz op s=2:=by rw[kdS];unfold I5;rw[c8];rfl
 have hr:DX wl=true:=by unfold DX;simpa using l1
 rcases Bool.eq_false_or_eq_true (ieq (nU ks (dI (bX s) 1 (ax (bX s)))) 0) with hb|hb
 ·simp only[i4,aR c1,aR c2,bf c3,bu (Int.not_lt.1 c4),n1,n2,hw,aR c5,bf c6,bf c7,aR c8,hr,hb,er,dm,dn,bY,bZ,(kg rs zs ks wr we wl yz ye iz ie ln kd).1,(kg rs zs ks wr we wl yz ye iz ie ln kd).2.1,(kg rs zs ks wr we wl yz ye iz ie ln kd).2.2.1,(kg rs zs ks wr we wl yz ye iz ie ln kd).2.2.2.1,(kg rs zs ks wr we wl yz ye iz ie ln kd).2.2.2.2.1,(kg rs zs ks wr we wl yz ye iz ie ln kd).2.2.2.2.2.1,(kg rs zs ks wr we wl yz ye iz ie ln kd).2.2.2.2.2.2.1,(kg rs zs ks wr we wl yz ye iz ie ln kd).2.2.2.2.2.2.2.1,(kg rs zs ks wr we wl yz ye iz ie ln kd).2.2.2.2.2.2.2.2.1,(kg rs zs ks wr we wl yz ye iz ie ln kd).2.2.2.2.2.2.2.2.2.1,(kg rs zs ks wr we wl yz ye iz ie ln kd).2.2.2.2.2.2.2.2.2.2]
 ·simp only[i4,aR c1,aR c2,bf c3,bu (Int.not_lt.1 c4),n1,n2,hw,aR c5,bf c6,bf c7,aR c8,hr,hb,er,dm,dn,bY,bZ]
theorem IL (c0 c1 c2 c3 c4 c5:V) (ln op:Int) (s:List UInt8) (hc:(bif Ja c0 c1 c2 c3 c4 c5 then vQ (xL c0) (xL c1) (xI c1) (xY c1) (xL c3) (xL c4) (xI c4) (xY c4) (xL c5) op s else false)=true):uP eE 18 [.bxa 0 [c0,c1,c2,c3,c4,c5,.int .i64 ln,.int .i64 op],.str s] (.mK (ieq (fG (xL c0) (xL c1) (xL c2) (xY c1) op s) 0) (.out false (.tup []) [qx (pE (xL c0) op s) (pF (xL c1) (xY c1) op s) (pG (xL c2) op s) (pI (xL c3) ln op s) (pJ (xL c4) (xY c4) ln op s) (pK (xL c5) ln op s) (pM (xI c1) (xL c1) op s) (pN (xY c1) op s) (pO (xI c4) (xL c4) op s) (pP (xY c4) ln op s) ln (pQ op ln s)]) (.out true (gU ln (fG (xL c0) (xL c1) (xL c2) (xY c1) op s)) [qx (xL c0) (xL c1) (xL c2) (xL c3) (xL c4) (xL c5) (xI c1) (xY c1) (xI c4) (xY c4) ln op])):=by
 obtain⟨h,hc⟩:=gP hc;rw[sZ h];exact wR aat 5 3 (read_p _ _ _ _ _ _ _ _ _ _ _ _ _ hc)
theorem read_r (rs zs ks wr we wl:List V) (ln op iz ie:Int) (yz ye:List V) (s:List UInt8) (hc:vQ rs zs iz yz wr we ie ye wl op s=true):bD eE (bB eE rS2 5 3) 5 13 [.bxa 0 (qw rs zs ks wr we wl iz yz ie ye op),.str s,.int .i64 ln] some=
  some (sel (ieq (fG rs zs ks yz op s) 0) (.out false (.int .i64 0) [qw (pE rs op s) (pF zs yz op s) (pG ks op s) (pI wr ln op s) (pJ we ye ln op s) (pK wl ln op s) (pM iz zs op s) (pN yz op s) (pO ie we op s) (pP ye ln op s) (pQ op ln s)]) (.out false (.int .i64 (fG rs zs ks yz op s)) [qw rs zs ks wr we wl iz yz ie ye op])):=by
 (rw[Yb];(conv=>zeta))
 unfold vQ at hc;rw[decide_eq_true_eq] at hc;obtain⟨hl,z1,w1,y1,e1,r1,l1,hop⟩:=hc;have i4:ak (ah s) 4000000=true:=bA (by rw[au];omega);by_cases c1:I9 s=0
 case neg=>
  have er:fG rs zs ks yz op s=I9 s:=by unfold fG;rw[if_pos c1]
  simp only[i4,bf c1,er,dm,dn,bY,bZ];try rfl
 have hA:=Vn (Sb c1);by_cases c2:Ls s=0
 case neg=>
  have er:fG rs zs ks yz op s=Ls s:=by unfold fG;rw[if_neg (fun h=>h c1),if_pos c2]
  simp only[i4,aR c1,bf c2,er,dm,dn,bY,bZ];try rfl
 by_cases c3:ax (bX s)=0
 case pos=>
  have er:fG rs zs ks yz op s=0:=by unfold fG;rw[if_neg (fun h=>h c1),if_neg (fun h=>h c2),if_pos c3]
  have kd:gz op s=4:=by unfold gz;rw[if_pos c3]
  simp only[i4,aR c1,aR c2,aR c3,er,dm,dn,bY,bZ,(kr rs zs ks wr we wl yz ye iz ie ln kd).1,(kr rs zs ks wr we wl yz ye iz ie ln kd).2.1,(kr rs zs ks wr we wl yz ye iz ie ln kd).2.2.1,(kr rs zs ks wr we wl yz ye iz ie ln kd).2.2.2.1,(kr rs zs ks wr we wl yz ye iz ie ln kd).2.2.2.2.1,(kr rs zs ks wr we wl yz ye iz ie ln kd).2.2.2.2.2.1,(kr rs zs ks wr we wl yz ye iz ie ln kd).2.2.2.2.2.2.1,(kr rs zs ks wr we wl yz ye iz ie ln kd).2.2.2.2.2.2.2.1,(kr rs zs ks wr we wl yz ye iz ie ln kd).2.2.2.2.2.2.2.2.1,(kr rs zs ks wr we wl yz ye iz ie ln kd).2.2.2.2.2.2.2.2.2.1,(kr rs zs ks wr we wl yz ye iz ie ln kd).2.2.2.2.2.2.2.2.2.2];first|rfl|(rw[c2];rfl)
 have c3l:0<(bX s).length:=by rw[aI] at c3;omega
 have n1:av (ak 0 0) (aK 0 (ax (bX s)))=true:=by rw[aC,aA,aU,aI];omega
 have n2:av (ak 0 1) (ak 1 (ax (bX s)))=true:=by rw[aC,aA,aA,aI];omega
 have f0:=aau hA c3l;have hw:av (ak (ah (aT (aD (aY (bX s) 0) 0))) 1000) (wsR [V.str [82,117,108,101],V.str [90,111,110,101],V.str [76,105,110,107]])=true:=by rw[aC];exact⟨f0,aav⟩
 have hT:dZ (dI (bX s) 1 (ax (bX s)))=true:=B5 hA _ _;by_cases c4:0<op
 case pos=>
  have hE:JO zs iz yz we ie ye (bX s)=true:=by
   unfold JO;rw[decide_eq_true_eq];obtain⟨p1,p2,p3,p4⟩:=hop c4;exact⟨hA,⟨p1,by omega⟩,p2,y1,⟨p3,by omega⟩,p4,e1⟩
  have er:fG rs zs ks yz op s=mG yz (bX s):=by unfold fG;rw[if_neg (fun h=>h c1),if_neg (fun h=>h c2),if_neg c3,if_pos c4]
  have kd:gz op s=3:=by unfold gz;rw[if_neg c3,if_pos c4]
  rcases Bool.eq_false_or_eq_true (ieq (mG yz (bX s)) 0) with hb|hb
  ·simp only[i4,aR c1,aR c2,bf c3,bq c4,hE,hb,er,dm,dn,bY,bZ,(ko rs zs ks wr we wl yz ye iz ie ln kd).1,(ko rs zs ks wr we wl yz ye iz ie ln kd).2.1,(ko rs zs ks wr we wl yz ye iz ie ln kd).2.2.1,(ko rs zs ks wr we wl yz ye iz ie ln kd).2.2.2.1,(ko rs zs ks wr we wl yz ye iz ie ln kd).2.2.2.2.1,(ko rs zs ks wr we wl yz ye iz ie ln kd).2.2.2.2.2.1,(ko rs zs ks wr we wl yz ye iz ie ln kd).2.2.2.2.2.2.1,(ko rs zs ks wr we wl yz ye iz ie ln kd).2.2.2.2.2.2.2.1,(ko rs zs ks wr we wl yz ye iz ie ln kd).2.2.2.2.2.2.2.2.1,(ko rs zs ks wr we wl yz ye iz ie ln kd).2.2.2.2.2.2.2.2.2.1,(ko rs zs ks wr we wl yz ye iz ie ln kd).2.2.2.2.2.2.2.2.2.2]
  ·simp only[i4,aR c1,aR c2,bf c3,bq c4,hE,hb,er,dm,dn,bY,bZ]
 by_cases c5:mO (aT (aD (aY (bX s) 0) 0)) [V.str [82,117,108,101],V.str [90,111,110,101],V.str [76,105,110,107]]=0
 case neg=>
  have er:fG rs zs ks yz op s=mO (aT (aD (aY (bX s) 0) 0)) [V.str [82,117,108,101],V.str [90,111,110,101],V.str [76,105,110,107]]:=by unfold fG;rw[if_neg (fun h=>h c1),if_neg (fun h=>h c2),if_neg c3,if_neg c4,if_pos c5]
  simp only[i4,aR c1,aR c2,bf c3,bu (Int.not_lt.1 c4),n1,hw,bf c5,er,dm,dn,bY,bZ];try rfl
 obtain⟨m0,m3⟩:=xD _ _ (by decide) c5;have m3:kH (aT (aD (aY (bX s) 0) 0)) [V.str [82,117,108,101],V.str [90,111,110,101],V.str [76,105,110,107]]<3:=m3;have erS:fG rs zs ks yz op s=if kH (aT (aD (aY (bX s) 0) 0)) I5=0 then nS rs (tl1 (bX s)) else if kH (aT (aD (aY (bX s) 0) 0)) I5=1 then mH zs (tl1 (bX s)) else nU ks (tl1 (bX s)):=by unfold fG;rw[if_neg (fun h=>h c1),if_neg (fun h=>h c2),if_neg c3,if_neg c4,if_neg (fun h=>h c5)]
 have kdS:gz op s=(kH (aT (aD (aY (bX s) 0) 0)) I5).toNat:=by unfold gz;rw[if_neg c3,if_neg c4]
 by_cases c6:kH (aT (aD (aY (bX s) 0) 0)) [V.str [82,117,108,101],V.str [90,111,110,101],V.str [76,105,110,107]]=0
 case pos=>
  have er:fG rs zs ks yz op s=nS rs (tl1 (bX s)):=by rw[erS,if_pos c6]
  have kd:gz op s=0:=by rw[kdS];unfold I5;rw[c6];rfl
  have hr:av (dZ (dI (bX s) 1 (ax (bX s)))) (DX wr)=true:=by rw[aC];exact⟨hT,by unfold DX;simpa using r1⟩
  rcases Bool.eq_false_or_eq_true (ieq (nS rs (dI (bX s) 1 (ax (bX s)))) 0) with hb|hb
  ·simp only[i4,aR c1,aR c2,bf c3,bu (Int.not_lt.1 c4),n1,n2,hw,aR c5,aR c6,hr,hb,er,dm,dn,bY,bZ,(jY rs zs ks wr we wl yz ye iz ie ln kd).1,(jY rs zs ks wr we wl yz ye iz ie ln kd).2.1,(jY rs zs ks wr we wl yz ye iz ie ln kd).2.2.1,(jY rs zs ks wr we wl yz ye iz ie ln kd).2.2.2.1,(jY rs zs ks wr we wl yz ye iz ie ln kd).2.2.2.2.1,(jY rs zs ks wr we wl yz ye iz ie ln kd).2.2.2.2.2.1,(jY rs zs ks wr we wl yz ye iz ie ln kd).2.2.2.2.2.2.1,(jY rs zs ks wr we wl yz ye iz ie ln kd).2.2.2.2.2.2.2.1,(jY rs zs ks wr we wl yz ye iz ie ln kd).2.2.2.2.2.2.2.2.1,(jY rs zs ks wr we wl yz ye iz ie ln kd).2.2.2.2.2.2.2.2.2.1,(jY rs zs ks wr we wl yz ye iz ie ln kd).2.2.2.2.2.2.2.2.2.2]
  ·simp only[i4,aR c1,aR c2,bf c3,bu (Int.not_lt.1 c4),n1,n2,hw,aR c5,aR c6,hr,hb,er,dm,dn,bY,bZ]
 by_cases c7:kH (aT (aD (aY (bX s) 0) 0)) [V.str [82,117,108,101],V.str [90,111,110,101],V.str [76,105,110,107]]=1
 case pos=>
  have er:fG rs zs ks yz op s=mH zs (tl1 (bX s)):=by rw[erS,if_neg c6,if_pos c7]
  have kd:gz op s=1:=by rw[kdS];unfold I5;rw[c7];rfl
  have hr:Ua zs we (dI (bX s) 1 (ax (bX s)))=true:=by unfold Ua;rw[decide_eq_true_eq];exact⟨hT,z1,w1⟩
  rcases Bool.eq_false_or_eq_true (ieq (mH zs (dI (bX s) 1 (ax (bX s)))) 0) with hb|hb
  ·simp only[i4,aR c1,aR c2,bf c3,bu (Int.not_lt.1 c4),n1,n2,hw,aR c5,bf c6,aR c7,hr,hb,er,dm,dn,bY,bZ,(jZ rs zs ks wr we wl yz ye iz ie ln kd).1,(jZ rs zs ks wr we wl yz ye iz ie ln kd).2.1,(jZ rs zs ks wr we wl yz ye iz ie ln kd).2.2.1,(jZ rs zs ks wr we wl yz ye iz ie ln kd).2.2.2.1,(jZ rs zs ks wr we wl yz ye iz ie ln kd).2.2.2.2.1,(jZ rs zs ks wr we wl yz ye iz ie ln kd).2.2.2.2.2.1,(jZ rs zs ks wr we wl yz ye iz ie ln kd).2.2.2.2.2.2.1,(jZ rs zs ks wr we wl yz ye iz ie ln kd).2.2.2.2.2.2.2.1,(jZ rs zs ks wr we wl yz ye iz ie ln kd).2.2.2.2.2.2.2.2.1,(jZ rs zs ks wr we wl yz ye iz ie ln kd).2.2.2.2.2.2.2.2.2.1,(jZ rs zs ks wr we wl yz ye iz ie ln kd).2.2.2.2.2.2.2.2.2.2]
  ·simp only[i4,aR c1,aR c2,bf c3,bu (Int.not_lt.1 c4),n1,n2,hw,aR c5,bf c6,aR c7,hr,hb,er,dm,dn,bY,bZ]
 have c8:kH (aT (aD (aY (bX s) 0) 0)) [V.str [82,117,108,101],V.str [90,111,110,101],V.str [76,105,110,107]]=2:=by omega
 have er:fG rs zs ks yz op s=nU ks (tl1 (bX s)):=by rw[erS,if_neg c6,if_neg c7]
 have kd:gz op s=2:=by rw[kdS];unfold I5;rw[c8];rfl
 have hr:DX wl=true:=by unfold DX;simpa using l1
 rcases Bool.eq_false_or_eq_true (ieq (nU ks (dI (bX s) 1 (ax (bX s)))) 0) with hb|hb
 ·simp only[i4,aR c1,aR c2,bf c3,bu (Int.not_lt.1 c4),n1,n2,hw,aR c5,bf c6,bf c7,aR c8,hr,hb,er,dm,dn,bY,bZ,(kg rs zs ks wr we wl yz ye iz ie ln kd).1,(kg rs zs ks wr we wl yz ye iz ie ln kd).2.1,(kg rs zs ks wr we wl yz ye iz ie ln kd).2.2.1,(kg rs zs ks wr we wl yz ye iz ie ln kd).2.2.2.1,(kg rs zs ks wr we wl yz ye iz ie ln kd).2.2.2.2.1,(kg rs zs ks wr we wl yz ye iz ie ln kd).2.2.2.2.2.1,(kg rs zs ks wr we wl yz ye iz ie ln kd).2.2.2.2.2.2.1,(kg rs zs ks wr we wl yz ye iz ie ln kd).2.2.2.2.2.2.2.1,(kg rs zs ks wr we wl yz ye iz ie ln kd).2.2.2.2.2.2.2.2.1,(kg rs zs ks wr we wl yz ye iz ie ln kd).2.2.2.2.2.2.2.2.2.1,(kg rs zs ks wr we wl yz ye iz ie ln kd).2.2.2.2.2.2.2.2.2.2]
 ·simp only[i4,aR c1,aR c2,bf c3,bu (Int.not_lt.1 c4),n1,n2,hw,aR c5,bf c6,bf c7,aR c8,hr,hb,er,dm,dn,bY,bZ]
theorem IP (c0 c1 c2 c3 c4 c5:V) (op:Int) (s:List UInt8) (ln:Int) (hc:(bif Ja c0 c1 c2 c3 c4 c5 then vQ (xL c0) (xL c1) (xI c1) (xY c1) (xL c3) (xL c4) (xI c4) (xY c4) (xL c5) op s else false)=true):uP eE 13 [.bxa 0 [c0,c1,c2,c3,c4,c5,.int .i64 op],.str s,.int .i64 ln] (.mK (ieq (fG (xL c0) (xL c1) (xL c2) (xY c1) op s) 0) (.out false (.int .i64 0) [qw (pE (xL c0) op s) (pF (xL c1) (xY c1) op s) (pG (xL c2) op s) (pI (xL c3) ln op s) (pJ (xL c4) (xY c4) ln op s) (pK (xL c5) ln op s) (pM (xI c1) (xL c1) op s) (pN (xY c1) op s) (pO (xI c4) (xL c4) op s) (pP (xY c4) ln op s) (pQ op ln s)]) (.out false (.int .i64 (fG (xL c0) (xL c1) (xL c2) (xY c1) op s)) [qw (xL c0) (xL c1) (xL c2) (xL c3) (xL c4) (xL c5) (xI c1) (xY c1) (xI c4) (xY c4) op])):=by
 obtain⟨h,hc⟩:=gP hc;rw[sZ h];exact wR aat 5 3 (read_r _ _ _ _ _ _ _ _ _ _ _ _ _ hc)
abbrev nil6:List V:=[.nilsl,.nilsl,.nilsl,.nilsl,.nilsl,.nilsl]
abbrev YW:List V:=[.sl 61 kR (some 1000001001) [],.slz 1000001002 42 kZ [] (some 1000001502) 0 1 50 kE [],.sl 63 kL (some 1000001003) [],.sl 3 kI (some 1000001004) [],.slz 1000001005 29 kW [] (some 1000001505) 0 0 3 kI [],.sl 3 kI (some 1000001006) []]
theorem Sm {c0 c1 c2 c3 c4 c5:V} (h:okN c0 c1 c2 c3 c4 c5=true):c0=.nilsl∧c1=.nilsl∧c2=.nilsl∧c3=.nilsl∧c4=.nilsl∧c5=.nilsl:=by
 have one: ∀{v:V},isN v=true→v=.nilsl:=fun {v} h=>by
  unfold isN at h;split at h
  ·rfl
  ·cases h
 unfold okN at h;simp only[Bool.and_eq_true] at h;obtain⟨⟨h0,h1⟩,⟨h2,h3⟩,h4,h5⟩:=h;exact⟨one h0,one h1,one h2,one h3,one h4,one h5⟩
def nT (L:Nat):Option (Value×Nat×Nat):=
 if L=1000001001 then some (.slice none 0 0,61,11) else if L=1000001002 then some (.slice none 0 0,42,2) else if L=1000001502 then some (.slice none 0 0,50,13) else if L=1000001003 then some (.slice none 0 0,63,2) else
 if L=1000001004 then some (.slice none 0 0,3,1) else if L=1000001005 then some (.slice none 0 0,29,1) else if L=1000001505 then some (.slice none 0 0,3,1) else if L=1000001006 then some (.slice none 0 0,3,1) else none
def nC (L:Nat):Option (List Value):=if L=1000001002 then some [] else if L=1000001005 then some [] else none
theorem Sn {L:Nat} {v:Value} {e sz:Nat} (h:nT L=some (v,e,sz)):v=.slice none 0 0∧0<sz:=by
 unfold nT at h;repeat' split at h
 all_goals first|(simp only[Option.some.injEq,Prod.mk.injEq] at h;obtain⟨rfl,_,rfl⟩:=h;exact⟨rfl,by decide⟩)|cases h
def bare:V→Bool
 | .box _ _=>true
 | .str _=>true
 | .int _ _=>true
 |_=>false
theorem Lg {g g':Gh} (hG:g'.G=g.G) (hβ:g'.β=g.β) {x:V} (hx:bare x=true) {v:Value} (h:aM g x v):aM g' x v:=by
 cases x with
 |box k off=>
  rw[eF] at h⊢;rw[hβ];exact h
 |str l=>simp only[aM,bM] at h⊢;rw[hG];exact h
 |int k n=>simp only[aM,bM] at h⊢;rw[hG];exact h
 |_=>cases hx
theorem nil_inv {B:Own} {g:Gh} {w:World} {a:Act} {fr r:List V} (hfr: ∀x∈fr,bare x=true) (hr: ∀x∈r,bare x=true) (h:Inv eE B g.G w ⟨fr,[(HL,nil6++r)]⟩ g a w): ∃g',g'.G=g.G∧Inv eE B g'.G w ⟨fr,[(HL,YW++r)]⟩ g' a w:=by
 refine⟨{g with O:=nT,C:=nC},rfl,⟨h.fr.mono fun x hx v hv=>Lg (g:=g) (by rfl) (by rfl) (hfr x hx) hv,h.df,h.gok,⟨fun L v e sz hL=>?_,fun L L' v v' e e' sz sz' b h1 h2 hb _=>?_⟩,⟨fun k cs hk=>?_,fun k k' cs cs' hk hk' _=>?_⟩,h.mM,h.hB,h.ext,h.glob,h.g1,fun k cs L v e sz b hk hL hb=>?_⟩⟩
 ·obtain⟨h1,h2⟩:=Sn hL
  exact⟨h2,.inl h1⟩
 ·obtain⟨h1,_⟩:=Sn h1
  rw[h1] at hb;cases hb
 ·have hk0:ay [(HL,YW++r)] k=some cs:=hk
  unfold ay at hk0
  cases hkk:HL==k with
  |false=>rw[hkk] at hk0;cases hk0
  |true=>
   rw[hkk,cond_true] at hk0;obtain rfl:=Option.some.inj hk0;obtain rfl:HL=k:=by simpa using hkk
   obtain⟨b,c,e,hb,hBb,hh,hp,ho,hG,hq⟩:=h.bxs.1 HL (nil6++r) (by unfold ay;rw[beq_self_eq_true,cond_true]);refine⟨b,c,e,hb,hBb,hh,?_,ho,hG,fun hh=>by cases hh⟩;obtain⟨v0,t0,e0,q0,hp⟩:=PW.cons_inv hp;obtain⟨v1,t1,e1,q1,hp⟩:=PW.cons_inv hp;obtain⟨v2,t2,e2,q2,hp⟩:=PW.cons_inv hp;obtain⟨v3,t3,e3,q3,hp⟩:=PW.cons_inv hp;obtain⟨v4,t4,e4,q4,hp⟩:=PW.cons_inv hp;obtain⟨v5,t5,e5,q5,hp⟩:=PW.cons_inv hp;have nl: ∀{v:Value},aM g .nilsl v→v=.slice none 0 0:=fun {v} hv=>by
    simp only[aM,bM] at hv;unfold aP at hv;exact hv
   rw[e0,e1,e2,e3,e4,e5,nl q0,nl q1,nl q2,nl q3,nl q4,nl q5];have o1: ∀(L e:Nat) (sh:List Kd),nT L=some (.slice none 0 0,e,sh.length)→aM {g with O:=nT,C:=nC} (.sl e sh (some L) []) (.slice none 0 0):=fun L e sh hL=>⟨hL,.inl ⟨rfl,rfl⟩⟩
   have oz: ∀(L e:Nat) (sh:List Kd) (L2:Nat) (i:Int) (c e2:Nat) (bK:List Kd),nT L=some (.slice none 0 0,e,sh.length)→nC L=some []→nT L2=some (.slice none 0 0,e2,bK.length)→aM {g with O:=nT,C:=nC} (.slz L e sh [] (some L2) i c e2 bK []) (.slice none 0 0):=
    fun L e sh L2 i c e2 bK hL hC hL2=>⟨[],hL,hC,⟨.inl ⟨rfl,rfl⟩,by simp,by unfold cK;trivial⟩,⟨_,hL2,.inl ⟨rfl,rfl⟩,fun u _ hu=>by simp at hu⟩⟩
   exact .cons (o1 _ _ _ rfl) (.cons (oz _ _ _ _ _ _ _ _ rfl rfl rfl) (.cons (o1 _ _ _ rfl) (.cons (o1 _ _ _ rfl) (.cons (oz _ _ _ _ _ _ _ _ rfl rfl rfl) (.cons (o1 _ _ _ rfl) (hp.mono fun x hx v hv=>Lg (g:=g) (by rfl) (by rfl) (hr x hx) hv))))))
 ·have f: ∀{k:Nat} {cs:List V},ay [(HL,YW++r)] k=some cs→k=HL:=fun {k cs} hk=>by
   unfold ay at hk
   cases hkk:HL==k with
   |false=>rw[hkk] at hk;cases hk
   |true=>exact(by simpa using hkk:HL=k).symm
  rw[f hk,f hk']
 ·obtain⟨h1,_⟩:=Sn hL
  rw[h1] at hb;cases hb
theorem Vo: ∀(ys:List V) (j:Nat),(∀y∈ys,bare y=true∧ ∀k off,y≠.box k off)→bV j ys=ys∧dU j ys=[]
 |[],_,_=>⟨rfl,rfl⟩
 |y::ys,j,h=>by
  obtain⟨h1,h2⟩:=h y List.mem_cons_self;obtain⟨e1,e2⟩:=Vo ys (j+1) fun z hz=>h z (List.mem_cons_of_mem _ hz)
  cases y with
  |str l=>unfold bV dU;rw[e1,e2];exact⟨rfl,rfl⟩
  |int k n=>unfold bV dU;rw[e1,e2];exact⟨rfl,rfl⟩
  |box k off=>exact absurd rfl (h2 k off)
  |_=>cases h1
theorem nil_x {f:Nat} {r ys:List V} {v:V} (hr: ∀x∈r,bare x=true) (hy: ∀y∈ys,bare y=true∧ ∀k off,y≠.box k off) (h:uP eE f (.bxa 0 (YW++r)::ys) v):uP eE f (.bxa 0 (nil6++r)::ys) v:=by
 intro p x bs hc B g w vs hdf hi;obtain⟨e1,e2⟩:=Vo ys 1 hy;have f1: ∀cs:List V,bV 0 (.bxa 0 cs::ys)=.box HL 0::ys:=fun cs=>by
  show V.box HL 0::bV 1 ys=_;rw[e1]
 have f2: ∀cs:List V,dU 0 (.bxa 0 cs::ys)=[(HL,cs)]:=fun cs=>by
  show(HL+0,cs)::dU 1 ys=_;rw[e2];rfl
 rw[f1,f2] at hi;obtain⟨g',hG,hi'⟩:=nil_inv (by
  intro x hx;rcases List.mem_cons.1 hx with rfl|hx
  ·rfl
  ·exact(hy x hx).1) hr hi
 have:=h p x bs hc B g' w vs hdf (by rw[f1,f2];exact hi');rw[hG,show fH 0 (V.bxa 0 (YW++r)::ys) bs=fH 0 (V.bxa 0 (nil6++r)::ys) bs by cases bs<;>rfl] at this;exact this
theorem Yi (c0 c1 c2 c3 c4 c5:V) (ln op:Int) (s:List UInt8) (hc:(bif okB c0 c1 c2 c3 c4 c5 then vQ (xL c0) (xL c1) (xI c1) (xY c1) (xL c3) (xL c4) (xI c4) (xY c4) (xL c5) op s else false)=true):uP eE 18 [.bxa 0 [c0,c1,c2,c3,c4,c5,.int .i64 ln,.int .i64 op],.str s] (.mK (ieq (fG (xL c0) (xL c1) (xL c2) (xY c1) op s) 0) (.out false (.tup []) [qx (pE (xL c0) op s) (pF (xL c1) (xY c1) op s) (pG (xL c2) op s) (pI (xL c3) ln op s) (pJ (xL c4) (xY c4) ln op s) (pK (xL c5) ln op s) (pM (xI c1) (xL c1) op s) (pN (xY c1) op s) (pO (xI c4) (xL c4) op s) (pP (xY c4) ln op s) ln (pQ op ln s)]) (.out true (gU ln (fG (xL c0) (xL c1) (xL c2) (xY c1) op s)) [qx (xL c0) (xL c1) (xL c2) (xL c3) (xL c4) (xL c5) (xI c1) (xY c1) (xI c4) (xY c4) ln op])):=by
 obtain⟨h,hc⟩:=gP hc;unfold okB at h;rw[Bool.or_eq_true] at h;rcases h with h|h
 ·exact IL _ _ _ _ _ _ _ _ _ (by rw[h];exact hc)
 ·obtain⟨rfl,rfl,rfl,rfl,rfl,rfl⟩:=Sm h
  exact nil_x (r:=[.int .i64 ln,.int .i64 op]) (ys:=[.str s]) (by simp[bare]) (by simp[bare]) (IL (.sl 61 kR (some 1000001001) []) (.slz 1000001002 42 kZ [] (some 1000001502) 0 1 50 kE []) (.sl 63 kL (some 1000001003) []) (.sl 3 kI (some 1000001004) []) (.slz 1000001005 29 kW [] (some 1000001505) 0 0 3 kI []) (.sl 3 kI (some 1000001006) []) ln op s hc)
theorem Yj (c0 c1 c2 c3 c4 c5:V) (op:Int) (s:List UInt8) (ln:Int) (hc:(bif okB c0 c1 c2 c3 c4 c5 then vQ (xL c0) (xL c1) (xI c1) (xY c1) (xL c3) (xL c4) (xI c4) (xY c4) (xL c5) op s else false)=true):uP eE 13 [.bxa 0 [c0,c1,c2,c3,c4,c5,.int .i64 op],.str s,.int .i64 ln] (.mK (ieq (fG (xL c0) (xL c1) (xL c2) (xY c1) op s) 0) (.out false (.int .i64 0) [qw (pE (xL c0) op s) (pF (xL c1) (xY c1) op s) (pG (xL c2) op s) (pI (xL c3) ln op s) (pJ (xL c4) (xY c4) ln op s) (pK (xL c5) ln op s) (pM (xI c1) (xL c1) op s) (pN (xY c1) op s) (pO (xI c4) (xL c4) op s) (pP (xY c4) ln op s) (pQ op ln s)]) (.out false (.int .i64 (fG (xL c0) (xL c1) (xL c2) (xY c1) op s)) [qw (xL c0) (xL c1) (xL c2) (xL c3) (xL c4) (xL c5) (xI c1) (xY c1) (xI c4) (xY c4) op])):=by
 obtain⟨h,hc⟩:=gP hc;unfold okB at h;rw[Bool.or_eq_true] at h;rcases h with h|h
 ·exact IP _ _ _ _ _ _ _ _ _ (by rw[h];exact hc)
 ·obtain⟨rfl,rfl,rfl,rfl,rfl,rfl⟩:=Sm h
  exact nil_x (r:=[.int .i64 op]) (ys:=[.str s,.int .i64 ln]) (by simp[bare]) (by simp[bare]) (IP (.sl 61 kR (some 1000001001) []) (.slz 1000001002 42 kZ [] (some 1000001502) 0 1 50 kE []) (.sl 63 kL (some 1000001003) []) (.sl 3 kI (some 1000001004) []) (.slz 1000001005 29 kW [] (some 1000001505) 0 0 3 kI []) (.sl 3 kI (some 1000001006) []) op s ln hc)
theorem xg:bF eE YB:=by
 unfold YB;refine bF.rX (fun args r h=>?_) (bF.rX (fun args r h=>?_) wZ);all_goals (revert h;intro h;first|unfold aaq at h|unfold aar at h)
 all_goals (split at h;rotate_left; · cases h)
 all_goals (simp only[Option.some.injEq,Prod.mk.injEq] at h;obtain⟨hc,rfl⟩:=h)
 ·exact Yi _ _ _ _ _ _ _ _ _ hc
 ·exact Yj _ _ _ _ _ _ _ _ _ hc
structure Cx where
 rs:List V
 zs:List V
 ks:List V
 wr:List V
 we:List V
 wl:List V
 iz:Int
 yz:List V
 ie:Int
 ye:List V
 op:Int
def r0:Cx:=⟨[],[],[],[],[],[],0,[],0,[],0⟩
noncomputable def Cx.err (t:Cx) (s:List UInt8):Int:=fG t.rs t.zs t.ks t.yz t.op s
noncomputable def Cx.step (t:Cx) (ln:Int) (s:List UInt8):Cx:=
 ⟨pE t.rs t.op s,pF t.zs t.yz t.op s,pG t.ks t.op s,pI t.wr ln t.op s,pJ t.we t.ye ln t.op s,pK t.wl ln t.op s,pM t.iz t.zs t.op s,pN t.yz t.op s,pO t.ie t.we t.op s,pP t.ye ln t.op s,pQ t.op ln s⟩
noncomputable abbrev JP (x:V):List UInt8:=aT (aD x 0)
noncomputable def wI:List V→Int→Cx→Cx×Int×Int
 |[],ln,t=>(t,ln,0)
 |x::xs,ln,t=>if t.err (JP x)=0 then wI xs (ln+1) (t.step (ln+1) (JP x)) else(t,ln+1,t.err (JP x))
structure Good (t:Cx):Prop where
 z:t.zs.length≤1024
 we:t.we.length=t.zs.length
 y:t.yz.length≤256
 ye:t.ye.length=t.yz.length
 r:t.rs.length≤4096
 wr:t.wr.length=t.rs.length
 k:t.ks.length≤1024
 wl:t.wl.length=t.ks.length
 op:0<t.op→0<t.zs.length
 i:0<t.zs.length→t.iz=(t.zs.length:Int)-1∧t.ie=(t.zs.length:Int)-1
theorem yK:Good r0:=⟨by decide,rfl,by decide,rfl,by decide,rfl,by decide,rfl,by decide,by decide⟩
theorem Good.ck {t:Cx} (h:Good t) {s:List UInt8} (hs:s.length≤4000000):vQ t.rs t.zs t.iz t.yz t.wr t.we t.ie t.ye t.wl t.op s=true:=by
 obtain⟨h1,h2,h3,h4,h5,h6,h7,h8,h9,h10⟩:=h;unfold vQ;rw[decide_eq_true_eq];refine⟨hs,by omega,by omega,by omega,by omega,by omega,by omega,fun ho=>?_⟩;have hz:=h9 ho;have hi:=h10 hz;exact⟨hz,hi.1,by omega,by rw[hi.2,h2]⟩
theorem xM {e n m:Int} (h:oV e n m=0):e=0∧n<m:=by
 unfold oV at h;split at h
 ·exact absurd h ‹_›
 ·rename_i he
  split at h
  ·exact⟨by omega, ‹_›⟩
  ·cases h
theorem B6 (zs yz xs:List V):(nV zs yz xs).length=zs.length:=by unfold nV sP;simp
theorem ace (we ye:List V) (ln:Int):(rM we ye ln).length=we.length:=by unfold rM sP;simp
theorem Ca (zs xs:List V):(rO zs xs).length=zs.length+1:=by unfold rO aX;simp
theorem acf (we:List V) (ln:Int):(vP we ln).length=we.length+1:=by unfold vP aX;simp
theorem err_0 {t:Cx} {s:List UInt8} (h:t.err s=0):(gz t.op s=4∨(gz t.op s=3∧0<t.op∧mG t.yz (bX s)=0)∨(¬0<t.op∧gz t.op s=0∧nS t.rs (tl1 (bX s))=0)∨(¬0<t.op∧gz t.op s=1∧mH t.zs (tl1 (bX s))=0)∨(¬0<t.op∧gz t.op s=2∧nU t.ks (tl1 (bX s))=0))∧I9 s=0∧Ls s=0:=by
 unfold Cx.err fG at h;by_cases c1:I9 s=0
 case neg=>rw[if_pos c1] at h;exact absurd h c1
 rw[if_neg (fun e=>e c1)] at h;by_cases c2:Ls s=0
 case neg=>rw[if_pos c2] at h;exact absurd h c2
 rw[if_neg (fun e=>e c2)] at h;refine⟨?_,c1,c2⟩;unfold gz;by_cases c3:ax (bX s)=0
 ·rw[if_pos c3];exact .inl rfl
 rw[if_neg c3] at h⊢;by_cases c4:0<t.op
 ·rw[if_pos c4] at h⊢
  exact .inr (.inl ⟨rfl,c4,h⟩)
 rw[if_neg c4] at h⊢;by_cases c5:mO (aT (aD (aY (bX s) 0) 0)) I5=0
 case neg=>rw[if_pos c5] at h;exact absurd h c5
 rw[if_neg (fun e=>e c5)] at h;obtain⟨m0,m3⟩:=xD _ _ (by decide) c5;have m3:kH (aT (aD (aY (bX s) 0) 0)) I5<3:=m3;by_cases c6:kH (aT (aD (aY (bX s) 0) 0)) I5=0
 ·rw[if_pos c6] at h
  rw[c6];exact .inr (.inr (.inl ⟨c4,rfl,h⟩))
 rw[if_neg c6] at h;by_cases c7:kH (aT (aD (aY (bX s) 0) 0)) I5=1
 ·rw[if_pos c7] at h
  rw[c7];exact .inr (.inr (.inr (.inl ⟨c4,rfl,h⟩)))
 rw[if_neg c7] at h;have c8:kH (aT (aD (aY (bX s) 0) 0)) I5=2:=by omega
 rw[c8];exact .inr (.inr (.inr (.inr ⟨c4,rfl,h⟩)))
theorem znEr_0 {zs xs:List V} (h:mH zs xs=0): ¬ax xs=0∧gW (aT (aD (aY xs 0) 0))=0∧lC (tl1 xs)=0∧ax zs<1024:=by
 unfold mH at h;by_cases a:ax xs=0
 ·rw[if_pos a] at h;cases h
 rw[if_neg a] at h;by_cases b:gW (aT (aD (aY xs 0) 0))=0
 case neg=>rw[if_pos b] at h;exact absurd h b
 rw[if_neg (fun e=>e b)] at h;exact⟨a,b,xM h⟩
theorem tq {t:Cx} {ln:Int} {s:List UInt8} {k:Nat} (kd:gz t.op s=k):t.step ln s=
  ⟨if k=0 then aX t.rs [NW (tl1 (bX s))] else t.rs,if k=3 then nV t.zs t.yz (bX s) else if k=1 then rO t.zs (tl1 (bX s)) else t.zs,if k=2 then aX t.ks [Vw (tl1 (bX s))] else t.ks,if k=0 then aX t.wr [.int .i64 ln] else t.wr,if k=3 then rM t.we t.ye ln else if k=1 then vP t.we ln else t.we,if k=2 then aX t.wl [.int .i64 ln] else t.wl,if k=1 then ax t.zs else t.iz,if k=3 then aX t.yz [yg (bX s)] else if k=1 then[yg (tl1 (tl1 (bX s)))] else t.yz,if k=1 then ax t.we else t.ie,if k=3 then aX t.ye [.int .i64 ln] else if k=1 then[.int .i64 ln] else t.ye,if k=3 then kJ (bX s) ln else if k=1 then kJ (tl1 (tl1 (bX s))) ln else t.op⟩:=by
 unfold Cx.step pE pF pG pI pJ pK pM pN pO pP pQ;rw[kd]
theorem Good.step {t:Cx} (h:Good t) {ln:Int} {s:List UInt8} (he:t.err s=0):Good (t.step ln s):=by
 obtain⟨h1,h2,h3,h4,h5,h6,h7,h8,h9,h10⟩:=h;obtain⟨hk,_,_⟩:=err_0 he;rcases hk with kd|⟨kd,ho,er⟩|⟨ho,kd,er⟩|⟨ho,kd,er⟩|⟨ho,kd,er⟩
 ·rw[tq kd]
  exact⟨h1,h2,h3,h4,h5,h6,h7,h8,h9,h10⟩
 ·rw[tq kd]
  have hy:=(xM er).2;rw[aI] at hy;have hz:=h9 ho;have hi:=h10 hz;refine⟨?_,?_,?_,?_,h5,h6,h7,h8,?_,?_⟩
  ·show(nV t.zs t.yz (bX s)).length≤1024;rw[B6];exact h1
  ·show(rM t.we t.ye ln).length=(nV t.zs t.yz (bX s)).length;rw[B6,ace];exact h2
  ·show(aX t.yz [yg (bX s)]).length≤256;unfold aX;rw[List.length_append,List.length_singleton];omega
  ·show(aX t.ye [.int .i64 ln]).length=(aX t.yz [yg (bX s)]).length;unfold aX;rw[List.length_append,List.length_append,List.length_singleton,List.length_singleton];omega
  ·intro _;show 0<(nV t.zs t.yz (bX s)).length;rw[B6];exact hz
  ·intro _;show t.iz=((nV t.zs t.yz (bX s)).length:Int)-1∧t.ie=((nV t.zs t.yz (bX s)).length:Int)-1;rw[B6];exact hi
 ·rw[tq kd]
  have hy:=(xM er).2;rw[aI] at hy;refine⟨h1,h2,h3,h4,?_,?_,h7,h8,h9,h10⟩
  ·show(aX t.rs [NW (tl1 (bX s))]).length≤4096;unfold aX;rw[List.length_append,List.length_singleton];omega
  ·show(aX t.wr [.int .i64 ln]).length=(aX t.rs [NW (tl1 (bX s))]).length;unfold aX;rw[List.length_append,List.length_append,List.length_singleton,List.length_singleton];omega
 ·rw[tq kd]
  have hy:=(znEr_0 er).2.2.2;rw[aI] at hy;refine⟨?_,?_,?_,rfl,h5,h6,h7,h8,?_,?_⟩
  ·show(rO t.zs (tl1 (bX s))).length≤1024;rw[Ca];omega
  ·show(vP t.we ln).length=(rO t.zs (tl1 (bX s))).length;rw[Ca,acf];omega
  ·show([yg (tl1 (tl1 (bX s)))]:List V).length≤256;simp
  ·intro _;show 0<(rO t.zs (tl1 (bX s))).length;rw[Ca];omega
  ·intro _;show ax t.zs=((rO t.zs (tl1 (bX s))).length:Int)-1∧ax t.we=((rO t.zs (tl1 (bX s))).length:Int)-1;rw[Ca,aI,aI];omega
 ·rw[tq kd]
  have hy:=(xM er).2;rw[aI] at hy;refine⟨h1,h2,h3,h4,h5,h6,?_,?_,h9,h10⟩
  ·show(aX t.ks [Vw (tl1 (bX s))]).length≤1024;unfold aX;rw[List.length_append,List.length_singleton];omega
  ·show(aX t.wl [.int .i64 ln]).length=(aX t.ks [Vw (tl1 (bX s))]).length;unfold aX;rw[List.length_append,List.length_append,List.length_singleton,List.length_singleton];omega
theorem Lh: ∀(xs:List V) (ln:Int) (t:Cx),Good t→Good (wI xs ln t).1
 |[],ln,t,h=>h
 |x::xs,ln,t,h=>by
  unfold wI;split
  ·exact Lh xs (ln+1) _ (h.step ‹_›)
  ·exact h
noncomputable def FW (s:List UInt8):Cx×Int×Int:=wI (fw s) 0 r0
noncomputable def F8 (q:Cx×Int×Int):Int:=if q.2.2≠0 then q.2.2 else if 0<q.1.op then 16 else 0
noncomputable def F9 (q:Cx×Int×Int):Int:=if q.2.2≠0 then q.2.1 else if 0<q.1.op then q.1.op else q.2.1
noncomputable def Jg (s:List UInt8):List V:=(FW s).1.rs
noncomputable def Jh (s:List UInt8):List V:=(FW s).1.zs
noncomputable def Ji (s:List UInt8):List V:=(FW s).1.ks
noncomputable def Jj (s:List UInt8):List V:=(FW s).1.wr
noncomputable def Jk (s:List UInt8):List V:=(FW s).1.we
noncomputable def Jl (s:List UInt8):List V:=(FW s).1.wl
noncomputable def alIz (s:List UInt8):Int:=(FW s).1.iz
noncomputable def alYz (s:List UInt8):List V:=(FW s).1.yz
noncomputable def alIe (s:List UInt8):Int:=(FW s).1.ie
noncomputable def alYe (s:List UInt8):List V:=(FW s).1.ye
noncomputable def alOp (s:List UInt8):Int:=(FW s).1.op
noncomputable def Lu (s:List UInt8):Int:=F8 (FW s)
noncomputable def YC (s:List UInt8):Int:=F9 (FW s)
noncomputable def rAllS:aL:=fun a=>match a with|[.bxa 0 [c0,c1,c2,c3,c4,c5,.int .i64 ln,.int .i64 op],.str s]=>some (bif okN c0 c1 c2 c3 c4 c5 then av (ieq ln 0) (ieq op 0) else false,.mK (aK 1048576 (ah s)) (.out true (gU 0 9) [[.nilsl,.nilsl,.nilsl,.nilsl,.nilsl,.nilsl,.int .i64 0,.int .i64 0]]) (.mK (ieq (ax (fw s)) 0) (.out false (.tup []) [[.nilsl,.nilsl,.nilsl,.nilsl,.nilsl,.nilsl,.int .i64 0,.int .i64 0]]) (.mK (ieq (Lu s) 0) (.out false (.tup []) [bxn (Jg s) (Jh s) (Ji s) (Jj s) (Jk s) (Jl s) (alIz s) (alYz s) (alIe s) (alYe s) (YC s) (alOp s)]) (.out true (gU (YC s) (Lu s)) [bxn (Jg s) (Jh s) (Ji s) (Jj s) (Jk s) (Jl s) (alIz s) (alYz s) (alIe s) (alYe s) (YC s) (alOp s)]))))|_=>none
noncomputable def rS4:List (Nat×aL):=(GX+11,rAllS)::YB
noncomputable def PI (F:Nat) (ns:List Nat) (n:Nat) (x1:List UInt8) (tT:List V) (FX vU dQ aO:Int) (K:V→Option V):Option V:=
 Fz eE YB F 3 11 [V.bxa 0 [],V.nilsl] [1,0,1,0] ns K n (iY 43 [(0,V.box 1000000000 0),(1,V.str x1),(12,V.sl 9 [Kd.str] none tT),(13,V.int .i64 FX),(14,V.int .i64 vU)] [(1000000000,[V.nilsl,V.nilsl,V.nilsl,V.nilsl,V.nilsl,V.nilsl,V.int .i64 dQ,V.int .i64 aO])])
noncomputable def Cb (F:Nat) (ns:List Nat) (n:Nat) (x1:List UInt8) (tT:List V) (FX vU:Int) (bn fT:List V) (gK:Int) (eP ji jk ic:List V) (gL:Int) (fM jl:List V) (dQ aO:Int) (K:V→Option V):Option V:=
 Fz eE YB F 3 11 [V.bxa 0 [],V.nilsl] [1,0,1,0] ns K n (iY 43 [(0,V.box 1000000000 0),(1,V.str x1),(12,V.sl 9 [Kd.str] none tT),(13,V.int .i64 FX),(14,V.int .i64 vU)] [(1000000000,[V.sl 61 kR (some 10000) bn,V.slz 10001 42 kZ fT (some 15001) gK 1 50 kE eP,V.sl 63 kL (some 10002) ji,V.sl 3 [Kd.int .i64] (some 10003) jk,V.slz 10004 29 kW ic (some 15004) gL 0 3 [Kd.int .i64] fM,V.sl 3 [Kd.int .i64] (some 10005) jl,V.int .i64 dQ,V.int .i64 aO])])
theorem DF (F:Nat) (s:List UInt8) (K:V→Option V):
 bD eE (bB eE YB F 3) F 11 [V.bxa 0 [V.nilsl,V.nilsl,V.nilsl,V.nilsl,V.nilsl,V.nilsl,V.int .i64 0,V.int .i64 0],V.str s] K=
 let A:=V.int .i64 0;sel (aK 1048576 (ah s)) (K (V.out true (V.iface 51 (V.agg [A,V.int .i64 9])) [[V.nilsl,V.nilsl,V.nilsl,V.nilsl,V.nilsl,V.nilsl,A,A]])) (sel (ak (ah s) 4000000) (PI F [] F s (fw s) (ax (fw s)) 0 0 0 K) none):=by kernel_rfl
theorem zM (F n:Nat) (x1:List UInt8) (tT:List V) (FX vU dQ aO:Int) (K:V→Option V):
 PI F [] (n+1) x1 tT FX vU dQ aO K=
 let A:=aT (aD (aY tT vU) 0);let B:=bP .i64 dQ 1;let C:=V.int .i64 aO;let E:=[Kd.int .i64];let D:=fG [] [] [] [] aO A;sel (aK vU FX) (sel (av (ak 0 vU) (aK vU (ax tT))) (sel (vQ [] [] 0 [] [] [] 0 [] [] aO A) (sel (ieq D 0) (Cb F [] n x1 tT FX (bP .i64 vU 1) (pE [] aO A) (pF [] [] aO A) (pM 0 [] aO A) (pN [] aO A) (pG [] aO A) (pI [] B aO A) (pJ [] [] B aO A) (pO 0 [] aO A) (pP [] B aO A) (pK [] B aO A) B (pQ aO B A) K) (K (V.out true (V.iface 51 (V.agg [V.int .i64 B,V.int .i64 D])) [[V.sl 61 kR (some 1001) [],V.slz 1002 42 kZ [] (some 1502) 0 1 50 kE [],V.sl 63 kL (some 1003) [],V.sl 3 E (some 1004) [],V.slz 1005 29 kW [] (some 1505) 0 0 3 E [],V.sl 3 E (some 1006) [],V.int .i64 B,C]]))) none) none) (sel (aK 0 aO) (K (V.out true (V.iface 51 (V.agg [C,V.int .i64 16])) [[V.nilsl,V.nilsl,V.nilsl,V.nilsl,V.nilsl,V.nilsl,C,C]])) (K (V.out false (V.tup []) [[V.nilsl,V.nilsl,V.nilsl,V.nilsl,V.nilsl,V.nilsl,V.int .i64 dQ,C]]))):=by kernel_rfl
theorem zN (F n:Nat) (x1:List UInt8) (tT:List V) (FX vU:Int) (bn fT:List V) (gK:Int) (eP ji jk ic:List V) (gL:Int) (fM jl:List V) (dQ aO:Int) (K:V→Option V):
 Cb F [] (n+1) x1 tT FX vU bn fT gK eP ji jk ic gL fM jl dQ aO K=
 let A:=aT (aD (aY tT vU) 0);let C:=bP .i64 dQ 1;let D:=V.slz 1002 42 kZ fT (some 1502) gK 1 50 kE eP;let E:=V.int .i64 aO;let J:=V.sl 61 kR (some 1001) bn;let L:=V.sl 63 kL (some 1003) ji;let M:=[Kd.int .i64];let B:=V.slz 1005 29 kW ic (some 1505) gL 0 3 M fM;let G:=V.sl 3 M (some 1004) jk;let H:=V.sl 3 M (some 1006) jl;let I:=fG bn fT ji eP aO A;sel (aK vU FX) (sel (av (ak 0 vU) (aK vU (ax tT))) (sel (vQ bn fT gK eP jk ic gL fM jl aO A) (sel (ieq I 0) (Cb F [] n x1 tT FX (bP .i64 vU 1) (pE bn aO A) (pF fT eP aO A) (pM gK fT aO A) (pN eP aO A) (pG ji aO A) (pI jk C aO A) (pJ ic fM C aO A) (pO gL ic aO A) (pP fM C aO A) (pK jl C aO A) C (pQ aO C A) K) (K (V.out true (V.iface 51 (V.agg [V.int .i64 C,V.int .i64 I])) [[J,D,L,G,B,H,V.int .i64 C,E]]))) none) none) (sel (aK 0 aO) (K (V.out true (V.iface 51 (V.agg [E,V.int .i64 16])) [[J,D,L,G,B,H,E,E]])) (K (V.out false (V.tup []) [[J,D,L,G,B,H,V.int .i64 dQ,E]]))):=by kernel_rfl
theorem yZ (F:Nat) (s:List UInt8) (K:V→Option V):
 bD eE (bB eE rS4 F 3) F 6 [V.str s] K=
 let A:=K (tbV (Jg s) (Jh s) (Ji s) (Jj s) (Jk s) (Jl s) 0 0);let B:=K (Vv (YC s) (Lu s));let C:=K (Vv 0 9);let D:=K (Vv 0 0);let E:=both C C;let G:=both D D;let H:=both A A;let I:=both B B;sel (aK 1048576 (ah s)) (both (both (both C E) (both E (both E C))) (both (both (both C E) C) (both E C))) (sel (ieq (ax (fw s)) 0) (both (both (both D G) (both G (both G D))) (both (both (both D G) D) (both G D))) (sel (ieq (Lu s) 0) (both (both (both A H) (both H (both H A))) (both (both (both A H) A) (both H A))) (both (both (both B I) (both I (both I B))) (both (both (both B I) B) (both I B))))):=by kernel_rfl
noncomputable def PK (F:Nat) (ns:List Nat) (n:Nat) (x0:List UInt8) (uR:List V) (rQ x18 iT lW tZ:Int) (K:V→Option V):Option V:=
 dN eE YB F 3 7 [1,1,1,0,1,0] ns K n (iY 49 [(0,V.str x0),(2,V.box 2 0),(3,V.box 3 0),(4,V.box 4 0),(5,V.box 5 0),(16,V.sl 9 [Kd.str] none uR),(17,V.int .i64 rQ),(18,V.int .i64 x18)] [(5,[V.nilsl,V.nilsl,V.nilsl,V.nilsl,V.nilsl,V.nilsl,V.int .i64 iT]),(4,[V.int .i64 lW,V.int .i64 tZ]),(3,[V.nilsl,V.nilsl,V.nilsl]),(2,[V.nilsl,V.nilsl,V.nilsl])])
noncomputable def uD (F:Nat) (ns:List Nat) (n:Nat) (x0:List UInt8) (uR:List V) (rQ x18:Int) (Oe LC:List V) (CY:Int) (xh Rz RA Og:List V) (CZ:Int) (Al RB:List V) (iT lW tZ:Int) (K:V→Option V):Option V:=
 dN eE YB F 3 7 [1,1,1,0,1,0] ns K n (iY 49 [(0,V.str x0),(2,V.box 2 0),(3,V.box 3 0),(4,V.box 4 0),(5,V.box 5 0),(16,V.sl 9 [Kd.str] none uR),(17,V.int .i64 rQ),(18,V.int .i64 x18)] [(5,[V.sl 61 kR (some 60000) Oe,V.slz 60001 42 kZ LC (some 65001) CY 1 50 kE xh,V.sl 63 kL (some 60002) Rz,V.sl 3 [Kd.int .i64] (some 60003) RA,V.slz 60004 29 kW Og (some 65004) CZ 0 3 [Kd.int .i64] Al,V.sl 3 [Kd.int .i64] (some 60005) RB,V.int .i64 iT]),(4,[V.int .i64 lW,V.int .i64 tZ]),(3,[V.nilsl,V.nilsl,V.nilsl]),(2,[V.nilsl,V.nilsl,V.nilsl])])
theorem Li (F:Nat) (s:List UInt8) (K:V→Option V):
 bD eE (bB eE YB F 3) F 7 [V.str s] K=
 sel (aK 1048576 (ah s)) (K (Vv 0 9)) (sel (ak (ah s) 4000000) (PK F [] F s (fw s) (ax (fw s)) 0 0 0 0 K) none):=by kernel_rfl
theorem JI (F n:Nat) (x0:List UInt8) (uR:List V) (rQ x18 iT lW tZ:Int) (K:V→Option V):
 PK F [] (n+1) x0 uR rQ x18 iT lW tZ K=
 let A:=K (Vv iT 16);let B:=aT (aD (aY uR x18) 0);let C:=K (Vv 0 0);let E:=bP .i64 x18 1;let D:=both A A;let H:=fG [] [] [] [] iT B;let J:=both C C;let G:=both D A;let I:=both A D;let L:=both I (both D G);sel (aK x18 rQ) (sel (av (ak 0 x18) (aK x18 (ax uR))) (sel (vQ [] [] 0 [] [] [] 0 [] [] iT B) (sel (ieq H 0) (uD F [] n x0 uR rQ E (pE [] iT B) (pF [] [] iT B) (pM 0 [] iT B) (pN [] iT B) (pG [] iT B) (pI [] E iT B) (pJ [] [] E iT B) (pO 0 [] iT B) (pP [] E iT B) (pK [] E iT B) (pQ iT E B) lW tZ K) (sel (aB (ieq H 0)) (K (Vv E H)) (uD F [] n x0 uR rQ E [] [] 0 [] [] [] [] 0 [] [] iT lW tZ K))) none) none) (sel (aK 0 iT) (both (both (both I G) (both L (both G G))) (both (both (both I G) (both I A)) (both L (both (both I A) G)))) (both (both (both C J) (both J (both J C))) (both (both (both C J) C) (both J C)))):=by kernel_rfl
theorem zO (F n:Nat) (x0:List UInt8) (uR:List V) (rQ x18:Int) (Oe LC:List V) (CY:Int) (xh Rz RA Og:List V) (CZ:Int) (Al RB:List V) (iT lW tZ:Int) (K:V→Option V):
 uD F [] (n+1) x0 uR rQ x18 Oe LC CY xh Rz RA Og CZ Al RB iT lW tZ K=
 let A:=K (Vv iT 16);let B:=K (tbV Oe LC Rz RA Og RB 0 0);let C:=aT (aD (aY uR x18) 0);let E:=bP .i64 x18 1;let D:=both A A;let G:=fG Oe LC Rz xh iT C;let J:=both B B;let H:=both D A;let I:=both A D;let L:=both I (both D H);sel (aK x18 rQ) (sel (av (ak 0 x18) (aK x18 (ax uR))) (sel (vQ Oe LC CY xh RA Og CZ Al RB iT C) (sel (ieq G 0) (uD F [] n x0 uR rQ E (pE Oe iT C) (pF LC xh iT C) (pM CY LC iT C) (pN xh iT C) (pG Rz iT C) (pI RA E iT C) (pJ Og Al E iT C) (pO CZ Og iT C) (pP Al E iT C) (pK RB E iT C) (pQ iT E C) lW tZ K) (sel (aB (ieq G 0)) (K (Vv E G)) (uD F [] n x0 uR rQ E Oe LC CY xh Rz RA Og CZ Al RB iT lW tZ K))) none) none) (sel (aK 0 iT) (both (both (both I H) (both L (both H H))) (both (both (both I H) (both I A)) (both L (both (both I A) H)))) (both (both (both B J) (both J (both J B))) (both (both (both B J) B) (both J B)))):=by kernel_rfl
end Nt.Ev.YtpbgegnlkdfjgaaGreatDoor.Rr
namespace Nt.Lin
open Go Nt.Ev
theorem H6: ∀(s cur:List UInt8),∀l∈uf s cur,l.length≤cur.length+s.length
 |[],cur,l,h=>by
  unfold uf at h
  cases cur with
  |nil=>cases h
  |cons c t=>simp only[List.mem_singleton] at h;subst h;simp
 |c::t,cur,l,h=>by
  unfold uf at h
  cases hc:c==10 with
  |true=>
   rw[hc,cond_true,List.mem_cons] at h;rcases h with rfl|h
   ·rw[List.length_cons];omega
   ·have:=H6 t [] l h
    rw[List.length_nil] at this;rw[List.length_cons];omega
  |false=>
   rw[hc,cond_false] at h;have:=H6 t (cur++[c]) l h;rw[List.length_append,List.length_singleton] at this;rw[List.length_cons];omega
end Nt.Lin
namespace Nt.Ev.YtpbgegnlkdfjgaaGreatDoor.Rr
set_option maxRecDepth 100000
open Go Go.RowKit Nt Nt.Num Nt.Civil Nt.Fld Go.Proofs.YtpbgegnlkdfjgaaGreatDoor Nt.Ev.YtpbgegnlkdfjgaaGreatDoor Nt.Ev.YtpbgegnlkdfjgaaGreatDoor.Lk
variable [uT]
theorem Lj (s:List UInt8) (hs:s.length≤4000000): ∀x∈fw s,(JP x).length≤4000000:=by
 intro x hx;unfold fw Nt.Ev.bQ at hx;obtain⟨l,hl,rfl⟩:=List.mem_map.1 hx;have:=Nt.Lin.H6 s [] l hl;rw[List.length_nil] at this;show l.length≤4000000;omega
theorem PL (s:List UInt8):(fw s).length≤s.length:=by
 unfold fw;rw[lS,Nt.Lin.Sg (s.length+1) s (by omega),List.length_map];exact Nt.Lin.Si (s.length+1) s (by omega)
theorem oD {xs:List V} {i:Nat} (h:i<xs.length):xs.drop i=aY xs (i:Int)::xs.drop (i+1):=by
 rw[List.drop_eq_getElem_cons h,uz];congr 1
 simp[h]
theorem get_mem {xs:List V} {i:Nat} (h:i<xs.length):aY xs (i:Int)∈xs:=by
 rw[uz];simp[h]
noncomputable def Gl (q:Cx×Int×Int):V:=sel (ieq (F8 q) 0) (.out false (.tup []) [bxn q.1.rs q.1.zs q.1.ks q.1.wr q.1.we q.1.wl q.1.iz q.1.yz q.1.ie q.1.ye (F9 q) q.1.op]) (.out true (gU (F9 q) (F8 q)) [bxn q.1.rs q.1.zs q.1.ks q.1.wr q.1.we q.1.wl q.1.iz q.1.yz q.1.ie q.1.ye (F9 q) q.1.op])
theorem pY {x:V} {xs:List V} {ln:Int} {t:Cx} (h:t.err (JP x)=0):wI (x::xs) ln t=wI xs (ln+1) (t.step (ln+1) (JP x)):=by
 show(if t.err (JP x)=0 then _ else _)=_;rw[if_pos h]
theorem pZ {x:V} {xs:List V} {ln:Int} {t:Cx} (h:t.err (JP x)≠0):wI (x::xs) ln t=(t,ln+1,t.err (JP x)):=by
 show(if t.err (JP x)=0 then _ else _)=_;rw[if_neg h]
theorem al_loop (F:Nat) (s:List UInt8) (xs:List V) (hx:xs.length≤4000000) (hs: ∀x∈xs,(JP x).length≤4000000): ∀(j i n:Nat) (t:Cx),i+j=xs.length→j<n→Good t→
  Cb F [] n s xs (ax xs) (i:Int) t.rs t.zs t.iz t.yz t.ks t.wr t.we t.ie t.ye t.wl (i:Int) t.op some=some (Gl (wI (xs.drop i) i t)):=by
 intro j;induction j with
 |zero=>
  intro i n t hi hn hg;obtain⟨n,rfl⟩: ∃k,n=k+1:=⟨n-1,by omega⟩
  (rw[zN];(conv=>zeta);rw[aG (bu (by rw[aI];omega)),List.drop_of_length_le (by omega)])
  unfold wI Gl F8 F9;by_cases ho:0<t.op
  ·rw[aj (bq ho)]
   simp only[ne_eq,not_true_eq_false,if_false,if_pos ho];rfl
  ·rw[aG (bu (by omega))]
   simp only[ne_eq,not_true_eq_false,if_false,if_neg ho];rfl
 |succ j ih=>
  intro i n t hi hn hg;obtain⟨n,rfl⟩: ∃k,n=k+1:=⟨n-1,by omega⟩
  have hl:i<xs.length:=by omega
  have i1:bP .i64 (i:Int) 1=((i+1:Nat):Int):=by rw[dh (by omega)];omega
  (rw[zN];(conv=>zeta);rw[aj (bq (by rw[aI];omega)),aj (by rw[aC,aA,aU,aI];omega),aj (hg.ck (hs _ (get_mem hl))),oD hl,i1])
  by_cases he:t.err (JP (aY xs (i:Int)))=0
  ·rw[pY he,show((i:Int)+1)=((i+1:Nat):Int) by omega,←ih (i+1) n (t.step ((i+1:Nat):Int) (JP (aY xs (i:Int)))) (by omega) (by omega) (hg.step he)]
   exact aj (aR he)
  ·rw[pZ he]
   refine(aG (bf he)).trans ?_;unfold Gl F8 F9;simp only[ne_eq,he,not_false_eq_true,if_true];rw[aG (bf he),show((i:Int)+1)=((i+1:Nat):Int) by omega];rfl
theorem al_body (s:List UInt8) (hs:s.length≤1048576) (h0: ¬ax (fw s)=0):bD eE (bB eE YB ((fw s).length+1) 3) ((fw s).length+1) 11 [V.bxa 0 [V.nilsl,V.nilsl,V.nilsl,V.nilsl,V.nilsl,V.nilsl,V.int .i64 0,V.int .i64 0],V.str s] some=some (Gl (FW s)):=by
 have hf:=PL s;have hln:=Lj s (by omega);rw[aI] at h0;have hl:0<(fw s).length:=by omega
 (rw[DF];(conv=>zeta);rw[aG (bu (by rw[au];omega)),aj (bA (by rw[au];omega))])
 (rw[zM];(conv=>zeta);rw[aj (bq (by rw[aI];omega)),aj (by rw[aC,aA,aU,aI];omega),aj (show vQ [] [] 0 [] [] [] 0 [] [] 0 (aT (aD (aY (fw s) 0) 0))=true from yK.ck (hln _ (get_mem (i:=0) hl))),show bP .i64 0 1=((0+1:Nat):Int) from rfl])
 unfold FW;have hd:=oD (xs:=fw s) (i:=0) hl;rw[List.drop_zero] at hd;refine Eq.symm (Eq.trans (show some (Gl (wI (fw s) 0 r0))=some (Gl (wI (aY (fw s) ((0:Nat):Int)::(fw s).drop 1) 0 r0)) by rw[←hd]) ?_);by_cases he:r0.err (JP (aY (fw s) ((0:Nat):Int)))=0
 ·rw[pY he]
  have:=al_loop ((fw s).length+1) s (fw s) (by omega) hln ((fw s).length-1) 1 (fw s).length (r0.step 1 (JP (aY (fw s) ((0:Nat):Int)))) (by omega) (by omega) (yK.step he);refine Eq.trans ?_ (aj (aR he)).symm;exact this.symm
 ·rw[pZ he]
  refine Eq.trans ?_ (aG (bf he)).symm;unfold Gl F8 F9;simp only[ne_eq,he,not_false_eq_true,if_true];rw[aG (bf he)];rfl
theorem acg (c0 c1 c2 c3 c4 c5:V) (ln op:Int) (s:List UInt8) (hc:(bif okN c0 c1 c2 c3 c4 c5 then av (ieq ln 0) (ieq op 0) else false)=true):uP eE 11 [.bxa 0 [c0,c1,c2,c3,c4,c5,.int .i64 ln,.int .i64 op],.str s] (.mK (aK 1048576 (ah s)) (.out true (gU 0 9) [[.nilsl,.nilsl,.nilsl,.nilsl,.nilsl,.nilsl,.int .i64 0,.int .i64 0]]) (.mK (ieq (ax (fw s)) 0) (.out false (.tup []) [[.nilsl,.nilsl,.nilsl,.nilsl,.nilsl,.nilsl,.int .i64 0,.int .i64 0]]) (.mK (ieq (Lu s) 0) (.out false (.tup []) [bxn (Jg s) (Jh s) (Ji s) (Jj s) (Jk s) (Jl s) (alIz s) (alYz s) (alIe s) (alYe s) (YC s) (alOp s)]) (.out true (gU (YC s) (Lu s)) [bxn (Jg s) (Jh s) (Ji s) (Jj s) (Jk s) (Jl s) (alIz s) (alYz s) (alIe s) (alYe s) (YC s) (alOp s)])))):=by
 obtain⟨h,hc⟩:=gP hc;obtain⟨h1,h2⟩:=aV hc;rw[aH] at h1 h2;subst h1;subst h2;obtain⟨rfl,rfl,rfl,rfl,rfl,rfl⟩:=Sm h;refine uP.mK (fun h=>uP.out (nI d9 xg 1 3 ?_)) (fun h=>uP.mK (fun h0=>uP.out (nI d9 xg 1 3 ?_)) (fun h0=>?_))
 ·(rw[DF];(conv=>zeta);rw[aj h])
 ·have hl:s.length≤1048576:=by
   have: ¬(1048576<ah s):=fun hh=>by rw[bq hh] at h;cases h
   rw[au] at this;omega
  rw[aH] at h0
  (rw[DF];(conv=>zeta);rw[aG h,aj (bA (by rw[au];omega)),zM];(conv=>zeta);rw[aG (bu (by omega)),aG (bu (by omega))])
 ·have hl:s.length≤1048576:=by
   have: ¬(1048576<ah s):=fun hh=>by rw[bq hh] at h;cases h
   rw[au] at this;omega
  have h0': ¬ax (fw s)=0:=fun hh=>by rw[aR hh] at h0;cases h0
  exact wR xg _ 3 (al_body s hl h0')
theorem Mh:bF eE rS4:=by
 unfold rS4;refine bF.rX (fun args r h=>?_) xg;all_goals (revert h;intro h;first|unfold rAllS at h)
 all_goals (split at h;rotate_left; · cases h)
 all_goals (simp only[Option.some.injEq,Prod.mk.injEq] at h;obtain⟨hc,rfl⟩:=h)
 ·exact acg _ _ _ _ _ _ _ _ _ hc
noncomputable def NN (s:List UInt8):Int:=if 1048576<s.length then 9 else Lu s
noncomputable def YD (s:List UInt8):Int:=if 1048576<s.length then 0 else if Lu s=0 then 0 else YC s
noncomputable def E7 (s:List UInt8):List V:=if NN s=0 then Jg s else[]
noncomputable def E8 (s:List UInt8):List V:=if NN s=0 then Jh s else[]
noncomputable def E9 (s:List UInt8):List V:=if NN s=0 then Ji s else[]
noncomputable def Fa (s:List UInt8):List V:=if NN s=0 then Jj s else[]
noncomputable def Fb (s:List UInt8):List V:=if NN s=0 then Jk s else[]
noncomputable def Fe (s:List UInt8):List V:=if NN s=0 then Jl s else[]
theorem H7 {G:aQ} {v:Value} {e:Nat} {sh:List Kd} (h:aP G .nilsl v):aP G (.sl e sh none []) v:=by
 unfold aP at h;subst h;unfold aP;exact⟨none,0,rfl,Nat.le_refl _,.inl rfl⟩
theorem PN {G:aQ} {v:Value} {e1 e2 e3:Nat} {s1 s2 s3:List Kd} (h:aP G (.agg [.nilsl,.nilsl,.nilsl]) v):aP G (.agg [.sl e1 s1 none [],.sl e2 s2 none [],.sl e3 s3 none []]) v:=by
 unfold aP at h;obtain⟨a,rfl,h⟩:=h;unfold jB at h;obtain⟨v1,t1,rfl,h1,h⟩:=h;unfold jB at h;obtain⟨v2,t2,rfl,h2,h⟩:=h;unfold jB at h;obtain⟨v3,t3,rfl,h3,h⟩:=h;unfold aP;refine⟨_,rfl,?_⟩;unfold jB;refine⟨_,_,rfl,H7 h1,?_⟩;unfold jB;refine⟨_,_,rfl,H7 h2,?_⟩;unfold jB;exact⟨_,_,rfl,H7 h3,h⟩
theorem C4 {E:Env} {f:Nat} {args:List V} {l w:Int} (h:af E f args (Vv l w)):af E f args (tbV [] [] [] [] [] [] l w):=by
 intro G w vs hG hg hp;refine(h G w vs hG hg hp).mono ?_;rintro e' w' ⟨v,G',rfl,hn,a,rfl,hpw,hc⟩;refine⟨_,G',rfl,hn,a,rfl,?_,hc⟩;obtain⟨v1,t1,rfl,h1,hpw⟩:=hpw.cons_inv;obtain⟨v2,t2,rfl,h2,hpw⟩:=hpw.cons_inv;exact .cons (PN h1) (.cons (PN h2) hpw)
theorem Vp {s:List UInt8} (h:ax (fw s)=0):FW s=(r0,0,0):=by
 rw[aI] at h;have:fw s=[]:=List.eq_nil_of_length_eq_zero (by omega);unfold FW;rw[this];rfl
theorem tbP_ev (s:List UInt8):af eE 6 [.str s] (tbV (E7 s) (E8 s) (E9 s) (Fa s) (Fb s) (Fe s) (YD s) (NN s)):=by
 unfold E7 E8 E9 Fa Fb Fe;by_cases hl:1048576<s.length
 ·have e:NN s=9:=if_pos hl
  have e2:YD s=0:=if_pos hl;rw[e,e2];refine C4 (ai d9 Mh 1 3 ?_)
  (rw[yZ];(conv=>zeta);rw[aj (bq (by rw[au];omega))])
  simp only[ql]
 ·have e:NN s=Lu s:=if_neg hl
  have e2:YD s=if Lu s=0 then 0 else YC s:=if_neg hl
  rw[e,e2];by_cases h0:ax (fw s)=0
  ·have hq:=Vp h0
   have ha:Lu s=0:=by unfold Lu;rw[hq];rfl
   rw[if_pos ha,if_pos ha,if_pos ha,if_pos ha,if_pos ha,if_pos ha,if_pos ha,ha];unfold Jg Jh Ji Jj Jk Jl;rw[hq];refine C4 (ai d9 Mh 1 3 ?_)
   (rw[yZ];(conv=>zeta);rw[aG (bu (by rw[au];omega)),aj (aR h0)])
   simp only[ql]
  ·by_cases ha:Lu s=0
   ·rw[if_pos ha,if_pos ha,if_pos ha,if_pos ha,if_pos ha,if_pos ha,if_pos ha,ha]
    refine ai d9 Mh 1 3 ?_
    (rw[yZ];(conv=>zeta);rw[aG (bu (by rw[au];omega)),aG (bf h0),aj (aR ha)])
    simp only[ql]
   ·rw[if_neg ha,if_neg ha,if_neg ha,if_neg ha,if_neg ha,if_neg ha,if_neg ha]
    refine C4 (ai d9 Mh 1 3 ?_)
    (rw[yZ];(conv=>zeta);rw[aG (bu (by rw[au];omega)),aG (bf h0),aG (bf ha)])
    simp only[ql]
noncomputable def tbO (q:Cx×Int×Int):V:=if F8 q=0 then tbV q.1.rs q.1.zs q.1.ks q.1.wr q.1.we q.1.wl 0 0 else Vv (F9 q) (F8 q)
theorem tb_loop (F:Nat) (s:List UInt8) (xs:List V) (hx:xs.length≤4000000) (hs: ∀x∈xs,(JP x).length≤4000000): ∀(j i n:Nat) (t:Cx),i+j=xs.length→j<n→Good t→
  uD F [] n s xs (ax xs) (i:Int) t.rs t.zs t.iz t.yz t.ks t.wr t.we t.ie t.ye t.wl t.op 0 0 some=some (tbO (wI (xs.drop i) i t)):=by
 intro j;induction j with
 |zero=>
  intro i n t hi hn hg;obtain⟨n,rfl⟩: ∃k,n=k+1:=⟨n-1,by omega⟩
  (rw[zO];(conv=>zeta);rw[aG (bu (by rw[aI];omega)),List.drop_of_length_le (by omega)])
  simp only[ql];unfold wI tbO F8 F9;by_cases ho:0<t.op
  ·rw[aj (bq ho)]
   simp only[ne_eq,not_true_eq_false,if_false,if_pos ho];rfl
  ·rw[aG (bu (by omega))]
   simp only[ne_eq,not_true_eq_false,if_false,if_neg ho];rfl
 |succ j ih=>
  intro i n t hi hn hg;obtain⟨n,rfl⟩: ∃k,n=k+1:=⟨n-1,by omega⟩
  have hl:i<xs.length:=by omega
  have i1:bP .i64 (i:Int) 1=((i+1:Nat):Int):=by rw[dh (by omega)];omega
  (rw[zO];(conv=>zeta);rw[aj (bq (by rw[aI];omega)),aj (by rw[aC,aA,aU,aI];omega),aj (hg.ck (hs _ (get_mem hl))),oD hl,i1])
  by_cases he:t.err (JP (aY xs (i:Int)))=0
  ·rw[pY he,show((i:Int)+1)=((i+1:Nat):Int) by omega,←ih (i+1) n (t.step ((i+1:Nat):Int) (JP (aY xs (i:Int)))) (by omega) (by omega) (hg.step he)]
   exact aj (aR he)
  ·rw[pZ he]
   refine(aG (bf he)).trans ((aj (by rw[bE];exact fun hh=>he (by rwa [aH] at hh))).trans ?_);unfold tbO F8 F9;simp only[ne_eq,he,not_false_eq_true,if_true,if_false];rw[show((i:Int)+1)=((i+1:Nat):Int) by omega];rfl
theorem tb_body (s:List UInt8) (hs: ¬1048576<s.length):bD eE (bB eE YB ((fw s).length+1) 3) ((fw s).length+1) 7 [V.str s] some=some (if ax (fw s)=0 then Vv 0 0 else tbO (FW s)):=by
 have hf:=PL s;have hln:=Lj s (by omega)
 (rw[Li,aG (bu (by rw[au];omega)),aj (bA (by rw[au];omega)),JI];(conv=>zeta))
 by_cases h0:ax (fw s)=0
 ·rw[if_pos h0,aG (bu (by omega)),aG (bu (by omega))]
  simp only[ql]
 rw[if_neg h0];rw[aI] at h0;have hl:0<(fw s).length:=by omega
 rw[aj (bq (by rw[aI];omega)),aj (by rw[aC,aA,aU,aI];omega),aj (show vQ [] [] 0 [] [] [] 0 [] [] 0 (aT (aD (aY (fw s) 0) 0))=true from yK.ck (hln _ (get_mem (i:=0) hl))),show bP .i64 0 1=((0+1:Nat):Int) from rfl];unfold FW;have hd:=oD (xs:=fw s) (i:=0) hl;rw[List.drop_zero] at hd;refine Eq.symm (Eq.trans (show some (tbO (wI (fw s) 0 r0))=some (tbO (wI (aY (fw s) ((0:Nat):Int)::(fw s).drop 1) 0 r0)) by rw[←hd]) ?_);by_cases he:r0.err (JP (aY (fw s) ((0:Nat):Int)))=0
 ·rw[pY he]
  have:=tb_loop ((fw s).length+1) s (fw s) (by omega) hln ((fw s).length-1) 1 (fw s).length (r0.step 1 (JP (aY (fw s) ((0:Nat):Int)))) (by omega) (by omega) (yK.step he);refine Eq.trans ?_ (aj (aR he)).symm;exact this.symm
 ·rw[pZ he]
  refine Eq.trans ?_ ((aG (bf he)).trans (aj (by rw[bE];exact fun hh=>he (by rwa [aH] at hh)))).symm;unfold tbO F8 F9;simp only[ne_eq,he,not_false_eq_true,if_true,if_false];rfl
theorem tbR_ev (s:List UInt8):af eE 7 [.str s] (tbV (E7 s) (E8 s) (E9 s) (Fa s) (Fb s) (Fe s) (YD s) (NN s)):=by
 unfold E7 E8 E9 Fa Fb Fe;by_cases hl:1048576<s.length
 ·have e:NN s=9:=if_pos hl
  have e2:YD s=0:=if_pos hl;rw[e,e2];refine C4 (ai d9 xg 1 3 ?_);rw[Li,aj (bq (by rw[au];omega))]
 ·have e:NN s=Lu s:=if_neg hl
  have e2:YD s=if Lu s=0 then 0 else YC s:=if_neg hl
  rw[e,e2];have hb:=tb_body s hl;by_cases h0:ax (fw s)=0
  ·have hq:=Vp h0
   have ha:Lu s=0:=by unfold Lu;rw[hq];rfl
   rw[if_pos ha,if_pos ha,if_pos ha,if_pos ha,if_pos ha,if_pos ha,if_pos ha,ha];unfold Jg Jh Ji Jj Jk Jl;rw[hq];rw[if_pos h0] at hb;exact C4 (ai d9 xg _ 3 hb)
  ·rw[if_neg h0] at hb
   by_cases ha:Lu s=0
   ·rw[if_pos ha,if_pos ha,if_pos ha,if_pos ha,if_pos ha,if_pos ha,if_pos ha,ha]
    have ho:tbO (FW s)=tbV (Jg s) (Jh s) (Ji s) (Jj s) (Jk s) (Jl s) 0 0:=if_pos ha;rw[ho] at hb;exact ai d9 xg _ 3 hb
   ·rw[if_neg ha,if_neg ha,if_neg ha,if_neg ha,if_neg ha,if_neg ha,if_neg ha]
    have ho:tbO (FW s)=Vv (YC s) (Lu s):=if_neg ha;rw[ho] at hb;exact C4 (ai d9 xg _ 3 hb)
end Nt.Ev.YtpbgegnlkdfjgaaGreatDoor.Rr
