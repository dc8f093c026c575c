/-
  The reader of sources: lines; both sides as contracts. The reader's run over lines: the plain law.
-/
import Derived.Test.YtknhlobahpgkeaaGreatDoorMXL
set_option linter.all false
set_option maxRecDepth 100000
namespace Nt.Fld
open Go Nt.Ev
theorem ug (N:Nat): ∀(s:af) (out:List (af)) (f:af) (op e:Bool),(∀x∈out,x.length≤N)→f.length+s.length≤N→ ∀x∈(nk s out f op e).1,x.length≤N
 |[],out,f,op,e,b,g=>by
  have g:f.length≤N:=by simpa using g
  have d: ∀x∈kQ op out f,x.length≤N:=by
   intro x a
   cases op with
   |false=>exact b x a
   |true=>
    have a:x∈out++[f]:=a;rw[aby,S7] at a;rcases a with a|rfl
    ·exact b x a
    exact g
  cases e with
  |true=>intro x a;cases a
  |false=>
   show∀x∈(uQ (kQ op out f)).1,_;unfold uQ;split
   ·intro x a;cases a
   exact d
 |c::t,out,f,op,e,b,g=>by
  rw[fI] at g;have d: ∀x∈kQ op out f,x.length≤N:=by
   intro x a
   cases op with
   |false=>exact b x a
   |true=>
    have a:x∈out++[f]:=a;rw[aby,S7] at a;rcases a with a|rfl
    ·exact b x a
    omega
  have i: ∀x∈(uQ (kQ op out f)).1,x.length≤N:=by
   unfold uQ;split
   ·intro x a;cases a
   exact d
  have k:(f++[c]).length+t.length≤N:=by rw[iH,vg];omega
  have j:f.length+t.length≤N:=by omega
  have h:([]:af).length+t.length≤N:=by rw[qz];omega
  unfold nk
  cases e with
  |true=>
   cases l:c==34 with
   |true=>exact ug N t out f op false b j
   |false=>exact ug N t out (f++[c]) op true b k
  |false=>
   cases o:c==35 with
   |true=>exact i
   |false=>
    cases m:c==9 with
    |true=>exact ug N t _ [] false false d h
    |false=>
     cases n:c==32 with
     |true=>exact ug N t _ [] false false d h
     |false=>
      cases l:c==34 with
      |true=>exact ug N t out f true true b j
      |false=>exact ug N t out (f++[c]) true false b k
end Nt.Fld
namespace Nt.Ev.YtknhlobahpgkeaaGreatDoor.Rr
open Go Go.RowKit Nt Nt.Num Nt.Civil Nt.Fld Go.Proofs.YtknhlobahpgkeaaGreatDoor Nt.Ev.YtknhlobahpgkeaaGreatDoor Nt.Ev.YtknhlobahpgkeaaGreatDoor.Lk
variable [kM]
theorem ck_len {s:af} (h:Ai s=0):s.length≤511:=by
 unfold Ai at h;rcases acU 511 s.length with a|a
 ·rw[ax (bH (by rw[aI];omega))] at h;cases h
 exact a
theorem XV {s:af} (h:s.length≤511):gN (bY s)=true:=by unfold gN;rw[l8];intro v a;unfold bY bE at a;obtain⟨l,b,rfl⟩:=List.mem_map.1 a;have:=ug 511 s [] [] false false (fun x c=>nomatch c) (by simpa using h) l b;show av (aA l) 900=true;exact bg (by rw[aI];omega)
theorem f0_len {xs:ah} (h:gN xs=true) (b:0<xs.length):av (aA (aH (ai (aG xs 0) 0))) 1000=true:=by
 unfold gN at h;rw[l8] at h;match xs,b,h with
 |x::t,_,h=>
  have a:=h x uY;have e:aG (x::t) 0=x:=rfl;rw[e]
  cases x with
  |str l=>have a:av (aA l) 900=true:=a;rw[aB] at a;exact bg (show aA l≤1000 by omega)
  |_=>cases a
theorem ws3_ok:wsR [V.str [82,117,108,101],V.str [90,111,110,101],V.str [76,105,110,107]]=true:=by unfold wsR;decide+kernel
theorem vI (rs zs ks wr we wl yz ye:ah) (iz ie ln:Int) {op:Int} {s:af} (a:gz op s=0):qV rs op s=aX rs [MG (fo (bY s) 1 (ay (bY s)))]∧qW zs yz op s=zs∧qX ks op s=ks∧uR wr ln op s=aX wr [.int .i64 ln]∧uT we ye ln op s=we∧uU wl ln op s=wl∧uV iz zs op s=iz∧qY yz op s=yz∧uW ie we op s=ie∧uX ye ln op s=ye∧oD op ln s=op:=by unfold qV qW qX uR uT uU uV qY uW uX oD;rw[a];exact⟨rfl,rfl,rfl,rfl,rfl,rfl,rfl,rfl,rfl,rfl,rfl⟩
theorem vJ (rs zs ks wr we wl yz ye:ah) (iz ie ln:Int) {op:Int} {s:af} (a:gz op s=1):qV rs op s=rs∧qW zs yz op s=tN zs (fo (bY s) 1 (ay (bY s)))∧qX ks op s=ks∧uR wr ln op s=wr∧uT we ye ln op s=AF we ln∧uU wl ln op s=wl∧uV iz zs op s=ay zs∧qY yz op s=[qh (fo (fo (bY s) 1 (ay (bY s))) 1 (ay (fo (bY s) 1 (ay (bY s)))))]∧uW ie we op s=ay we∧uX ye ln op s=[.int .i64 ln]∧oD op ln s=jB (fo (fo (bY s) 1 (ay (bY s))) 1 (ay (fo (bY s) 1 (ay (bY s))))) ln:=by unfold qV qW qX uR uT uU uV qY uW uX oD;rw[a];exact⟨rfl,rfl,rfl,rfl,rfl,rfl,rfl,rfl,rfl,rfl,rfl⟩
theorem vK (rs zs ks wr we wl yz ye:ah) (iz ie ln:Int) {op:Int} {s:af} (a:gz op s=2):qV rs op s=rs∧qW zs yz op s=zs∧qX ks op s=aX ks [Te (fo (bY s) 1 (ay (bY s)))]∧uR wr ln op s=wr∧uT we ye ln op s=we∧uU wl ln op s=aX wl [.int .i64 ln]∧uV iz zs op s=iz∧qY yz op s=yz∧uW ie we op s=ie∧uX ye ln op s=ye∧oD op ln s=op:=by unfold qV qW qX uR uT uU uV qY uW uX oD;rw[a];exact⟨rfl,rfl,rfl,rfl,rfl,rfl,rfl,rfl,rfl,rfl,rfl⟩
theorem vL (rs zs ks wr we wl yz ye:ah) (iz ie ln:Int) {op:Int} {s:af} (a:gz op s=3):qV rs op s=rs∧qW zs yz op s=mG zs yz (bY s)∧qX ks op s=ks∧uR wr ln op s=wr∧uT we ye ln op s=rM we ye ln∧uU wl ln op s=wl∧uV iz zs op s=iz∧qY yz op s=aX yz [qh (bY s)]∧uW ie we op s=ie∧uX ye ln op s=aX ye [.int .i64 ln]∧oD op ln s=jB (bY s) ln:=by unfold qV qW qX uR uT uU uV qY uW uX oD;rw[a];exact⟨rfl,rfl,rfl,rfl,rfl,rfl,rfl,rfl,rfl,rfl,rfl⟩
theorem vM (rs zs ks wr we wl yz ye:ah) (iz ie ln:Int) {op:Int} {s:af} (a:gz op s=4):qV rs op s=rs∧qW zs yz op s=zs∧qX ks op s=ks∧uR wr ln op s=wr∧uT we ye ln op s=we∧uU wl ln op s=wl∧uV iz zs op s=iz∧qY yz op s=yz∧uW ie we op s=ie∧uX ye ln op s=ye∧oD op ln s=op:=by unfold qV qW qX uR uT uU uV qY uW uX oD;rw[a];exact⟨rfl,rfl,rfl,rfl,rfl,rfl,rfl,rfl,rfl,rfl,rfl⟩
theorem read_p (rs zs ks wr we wl:ah) (ln op iz ie:Int) (yz ye:ah) (s:af) (w:J2 rs zs iz yz wr we ie ye wl op s=true):bA eE (bu eE rS2 5 3) 5 25 [.bxa 0 (oU rs zs ks wr we wl iz yz ie ye ln op),.str s] some=
  some (sel (ieq (kN rs zs ks yz op s) 0) (.out false (.tup []) [oU (qV rs op s) (qW zs yz op s) (qX ks op s) (uR wr ln op s) (uT we ye ln op s) (uU wl ln op s) (uV iz zs op s) (qY yz op s) (uW ie we op s) (uX ye ln op s) ln (oD op ln s)]) (.out true (gU ln (kN rs zs ks yz op s)) [oU rs zs ks wr we wl iz yz ie ye ln op])):=by
 (rw[aee];(conv=>zeta))
 unfold J2 at w;rw[lG] at w;obtain⟨K,G,A,E,I,C,J,t⟩:=w;have i:av (aA s) 4000000=true:=bg (by rw[aI];omega);by_cases c:Ai s=0
 case neg=>
  have b:kN rs zs ks yz op s=Ai s:=by unfold kN;rw[if_pos c]
  simp only[i,bD c,b,jM,jh,iO,jE];try rfl
 have v:=XV (ck_len c);by_cases e:MF s=0
 case neg=>
  have b:kN rs zs ks yz op s=MF s:=by unfold kN;rw[if_neg (fun h=>h c),if_pos e]
  simp only[i,bn c,bD e,b,jM,jh,iO,jE];try rfl
 by_cases d:ay (bY s)=0
 case pos=>
  have b:kN rs zs ks yz op s=0:=by unfold kN;rw[if_neg (fun h=>h c),if_neg (fun h=>h e),if_pos d]
  have a:gz op s=4:=by unfold gz;rw[if_pos d]
  simp only[i,bn c,bn e,bn d,b,jM,jh,iO,jE,(vM rs zs ks wr we wl yz ye iz ie ln a).1,(vM rs zs ks wr we wl yz ye iz ie ln a).2.1,(vM rs zs ks wr we wl yz ye iz ie ln a).2.2.1,(vM rs zs ks wr we wl yz ye iz ie ln a).2.2.2.1,(vM rs zs ks wr we wl yz ye iz ie ln a).2.2.2.2.1,(vM rs zs ks wr we wl yz ye iz ie ln a).2.2.2.2.2.1,(vM rs zs ks wr we wl yz ye iz ie ln a).2.2.2.2.2.2.1,(vM rs zs ks wr we wl yz ye iz ie ln a).2.2.2.2.2.2.2.1,(vM rs zs ks wr we wl yz ye iz ie ln a).2.2.2.2.2.2.2.2.1,(vM rs zs ks wr we wl yz ye iz ie ln a).2.2.2.2.2.2.2.2.2.1,(vM rs zs ks wr we wl yz ye iz ie ln a).2.2.2.2.2.2.2.2.2.2];first|rfl|(rw[e];rfl)
 have u:0<(bY s).length:=by rw[aD] at d;omega
 have n1:ak (av 0 0) (aW 0 (ay (bY s)))=true:=by rw[aM,aB,bq,aD];omega
 have q:ak (av 0 1) (av 1 (ay (bY s)))=true:=by rw[aM,aB,aB,aD];omega
 have F:=f0_len v u;have p:ak (av (aA (aH (ai (aG (bY s) 0) 0))) 1000) (wsR [V.str [82,117,108,101],V.str [90,111,110,101],V.str [76,105,110,107]])=true:=by rw[aM];exact⟨F,ws3_ok⟩
 have y:gN (fo (bY s) 1 (ay (bY s)))=true:=IC v _ _;by_cases g:0<op
 case pos=>
  have hE:erC zs iz yz we ie ye (bY s)=true:=by unfold erC;rw[lG];obtain⟨H,D,z,B⟩:=t g;exact⟨v,⟨H,by omega⟩,D,E,⟨z,by omega⟩,B,I⟩
  have b:kN rs zs ks yz op s=zi yz (bY s):=by unfold kN;rw[if_neg (fun h=>h c),if_neg (fun h=>h e),if_neg d,if_pos g]
  have a:gz op s=3:=by unfold gz;rw[if_neg d,if_pos g]
  rcases abI (ieq (zi yz (bY s)) 0) with f|f
  ·simp only[i,bn c,bn e,bD d,bH g,hE,f,b,jM,jh,iO,jE,(vL rs zs ks wr we wl yz ye iz ie ln a).1,(vL rs zs ks wr we wl yz ye iz ie ln a).2.1,(vL rs zs ks wr we wl yz ye iz ie ln a).2.2.1,(vL rs zs ks wr we wl yz ye iz ie ln a).2.2.2.1,(vL rs zs ks wr we wl yz ye iz ie ln a).2.2.2.2.1,(vL rs zs ks wr we wl yz ye iz ie ln a).2.2.2.2.2.1,(vL rs zs ks wr we wl yz ye iz ie ln a).2.2.2.2.2.2.1,(vL rs zs ks wr we wl yz ye iz ie ln a).2.2.2.2.2.2.2.1,(vL rs zs ks wr we wl yz ye iz ie ln a).2.2.2.2.2.2.2.2.1,(vL rs zs ks wr we wl yz ye iz ie ln a).2.2.2.2.2.2.2.2.2.1,(vL rs zs ks wr we wl yz ye iz ie ln a).2.2.2.2.2.2.2.2.2.2]
  simp only[i,bn c,bn e,bD d,bH g,hE,f,b,jM,jh,iO,jE]
 by_cases j:oP (aH (ai (aG (bY s) 0) 0)) [V.str [82,117,108,101],V.str [90,111,110,101],V.str [76,105,110,107]]=0
 case neg=>
  have b:kN rs zs ks yz op s=oP (aH (ai (aG (bY s) 0) 0)) [V.str [82,117,108,101],V.str [90,111,110,101],V.str [76,105,110,107]]:=by unfold kN;rw[if_neg (fun h=>h c),if_neg (fun h=>h e),if_neg d,if_neg g,if_pos j]
  simp only[i,bn c,bn e,bD d,bF (Int.not_lt.1 g),n1,p,bD j,b,jM,jh,iO,jE];try rfl
 obtain⟨L,x⟩:=BA _ _ (by decide) j;have x:mo (aH (ai (aG (bY s) 0) 0)) [V.str [82,117,108,101],V.str [90,111,110,101],V.str [76,105,110,107]]<3:=x;have n:kN rs zs ks yz op s=if mo (aH (ai (aG (bY s) 0) 0)) E7=0 then AA rs (tl1 (bY s)) else if mo (aH (ai (aG (bY s) 0) 0)) E7=1 then vz zs (tl1 (bY s)) else AB ks (tl1 (bY s)):=by unfold kN;rw[if_neg (fun h=>h c),if_neg (fun h=>h e),if_neg d,if_neg g,if_neg (fun h=>h j)]
 have o:gz op s=(mo (aH (ai (aG (bY s) 0) 0)) E7).toNat:=by unfold gz;rw[if_neg d,if_neg g]
 by_cases k:mo (aH (ai (aG (bY s) 0) 0)) [V.str [82,117,108,101],V.str [90,111,110,101],V.str [76,105,110,107]]=0
 case pos=>
  have b:kN rs zs ks yz op s=AA rs (tl1 (bY s)):=by rw[n,if_pos k]
  have a:gz op s=0:=by rw[o];unfold E7;rw[k];rfl
  have l:ak (gN (fo (bY s) 1 (ay (bY s)))) (V3 wr)=true:=by rw[aM];exact⟨y,by unfold V3;simpa using C⟩
  rcases abI (ieq (AA rs (fo (bY s) 1 (ay (bY s)))) 0) with f|f
  ·simp only[i,bn c,bn e,bD d,bF (Int.not_lt.1 g),n1,q,p,bn j,bn k,l,f,b,jM,jh,iO,jE,(vI rs zs ks wr we wl yz ye iz ie ln a).1,(vI rs zs ks wr we wl yz ye iz ie ln a).2.1,(vI rs zs ks wr we wl yz ye iz ie ln a).2.2.1,(vI rs zs ks wr we wl yz ye iz ie ln a).2.2.2.1,(vI rs zs ks wr we wl yz ye iz ie ln a).2.2.2.2.1,(vI rs zs ks wr we wl yz ye iz ie ln a).2.2.2.2.2.1,(vI rs zs ks wr we wl yz ye iz ie ln a).2.2.2.2.2.2.1,(vI rs zs ks wr we wl yz ye iz ie ln a).2.2.2.2.2.2.2.1,(vI rs zs ks wr we wl yz ye iz ie ln a).2.2.2.2.2.2.2.2.1,(vI rs zs ks wr we wl yz ye iz ie ln a).2.2.2.2.2.2.2.2.2.1,(vI rs zs ks wr we wl yz ye iz ie ln a).2.2.2.2.2.2.2.2.2.2]
  simp only[i,bn c,bn e,bD d,bF (Int.not_lt.1 g),n1,q,p,bn j,bn k,l,f,b,jM,jh,iO,jE]
 by_cases m:mo (aH (ai (aG (bY s) 0) 0)) [V.str [82,117,108,101],V.str [90,111,110,101],V.str [76,105,110,107]]=1
 case pos=>
  have b:kN rs zs ks yz op s=vz zs (tl1 (bY s)):=by rw[n,if_neg k,if_pos m]
  have a:gz op s=1:=by rw[o];unfold E7;rw[m];rfl
  have l:znC zs we (fo (bY s) 1 (ay (bY s)))=true:=by unfold znC;rw[lG];exact⟨y,G,A⟩
  rcases abI (ieq (vz zs (fo (bY s) 1 (ay (bY s)))) 0) with f|f
  ·simp only[i,bn c,bn e,bD d,bF (Int.not_lt.1 g),n1,q,p,bn j,bD k,bn m,l,f,b,jM,jh,iO,jE,(vJ rs zs ks wr we wl yz ye iz ie ln a).1,(vJ rs zs ks wr we wl yz ye iz ie ln a).2.1,(vJ rs zs ks wr we wl yz ye iz ie ln a).2.2.1,(vJ rs zs ks wr we wl yz ye iz ie ln a).2.2.2.1,(vJ rs zs ks wr we wl yz ye iz ie ln a).2.2.2.2.1,(vJ rs zs ks wr we wl yz ye iz ie ln a).2.2.2.2.2.1,(vJ rs zs ks wr we wl yz ye iz ie ln a).2.2.2.2.2.2.1,(vJ rs zs ks wr we wl yz ye iz ie ln a).2.2.2.2.2.2.2.1,(vJ rs zs ks wr we wl yz ye iz ie ln a).2.2.2.2.2.2.2.2.1,(vJ rs zs ks wr we wl yz ye iz ie ln a).2.2.2.2.2.2.2.2.2.1,(vJ rs zs ks wr we wl yz ye iz ie ln a).2.2.2.2.2.2.2.2.2.2]
  simp only[i,bn c,bn e,bD d,bF (Int.not_lt.1 g),n1,q,p,bn j,bD k,bn m,l,f,b,jM,jh,iO,jE]
 have r:mo (aH (ai (aG (bY s) 0) 0)) [V.str [82,117,108,101],V.str [90,111,110,101],V.str [76,105,110,107]]=2:=by omega
 have b:kN rs zs ks yz op s=AB ks (tl1 (bY s)):=by rw[n,if_neg k,if_neg m]
 have a:gz op s=2:=by rw[o];unfold E7;rw[r];rfl
 have l:V3 wl=true:=by unfold V3;simpa using J
 rcases abI (ieq (AB ks (fo (bY s) 1 (ay (bY s)))) 0) with f|f
 ·simp only[i,bn c,bn e,bD d,bF (Int.not_lt.1 g),n1,q,p,bn j,bD k,bD m,bn r,l,f,b,jM,jh,iO,jE,(vK rs zs ks wr we wl yz ye iz ie ln a).1,(vK rs zs ks wr we wl yz ye iz ie ln a).2.1,(vK rs zs ks wr we wl yz ye iz ie ln a).2.2.1,(vK rs zs ks wr we wl yz ye iz ie ln a).2.2.2.1,(vK rs zs ks wr we wl yz ye iz ie ln a).2.2.2.2.1,(vK rs zs ks wr we wl yz ye iz ie ln a).2.2.2.2.2.1,(vK rs zs ks wr we wl yz ye iz ie ln a).2.2.2.2.2.2.1,(vK rs zs ks wr we wl yz ye iz ie ln a).2.2.2.2.2.2.2.1,(vK rs zs ks wr we wl yz ye iz ie ln a).2.2.2.2.2.2.2.2.1,(vK rs zs ks wr we wl yz ye iz ie ln a).2.2.2.2.2.2.2.2.2.1,(vK rs zs ks wr we wl yz ye iz ie ln a).2.2.2.2.2.2.2.2.2.2]
 simp only[i,bn c,bn e,bD d,bF (Int.not_lt.1 g),n1,q,p,bn j,bD k,bD m,bn r,l,f,b,jM,jh,iO,jE]
theorem Jv (c0 a c d b e:V) (ln op:Int) (s:af) (f:(bif okL c0 a c d b e then J2 (xL c0) (xL a) (xI a) (xY a) (xL d) (xL b) (xI b) (xY b) (xL e) op s else false)=true):nR eE 25 [.bxa 0 [c0,a,c,d,b,e,.int .i64 ln,.int .i64 op],.str s] (.ni (ieq (kN (xL c0) (xL a) (xL c) (xY a) op s) 0) (.out false (.tup []) [oU (qV (xL c0) op s) (qW (xL a) (xY a) op s) (qX (xL c) op s) (uR (xL d) ln op s) (uT (xL b) (xY b) ln op s) (uU (xL e) ln op s) (uV (xI a) (xL a) op s) (qY (xY a) op s) (uW (xI b) (xL b) op s) (uX (xY b) ln op s) ln (oD op ln s)]) (.out true (gU ln (kN (xL c0) (xL a) (xL c) (xY a) op s)) [oU (xL c0) (xL a) (xL c) (xL d) (xL b) (xL e) (xI a) (xY a) (xI b) (xY b) ln op])):=by obtain⟨h,f⟩:=uf f;rw[Hg h];exact KR rS2_ok 5 3 (read_p _ _ _ _ _ _ _ _ _ _ _ _ _ f)
abbrev nil6:ah:=[.nilsl,.nilsl,.nilsl,.nilsl,.nilsl,.nilsl]
abbrev lab6:ah:=[.sl 50 kR (some 1000001001) [],.slz 1000001002 54 kZ [] (some 1000001502) 0 1 48 kE [],.sl 56 kL (some 1000001003) [],.sl 3 kI (some 1000001004) [],.slz 1000001005 29 kW [] (some 1000001505) 0 0 3 kI [],.sl 3 kI (some 1000001006) []]
theorem okN_eq {c0 e a b d c:V} (h:okN c0 e a b d c=true):c0=.nilsl∧e=.nilsl∧a=.nilsl∧b=.nilsl∧d=.nilsl∧c=.nilsl:=by
 have one: ∀{v:V},isN v=true→v=.nilsl:=fun {v} h=>by
  unfold isN at h;split at h
  ·rfl
  cases h
 unfold okN at h;simp only[bC] at h;obtain⟨⟨k,i⟩,⟨f,l⟩,g,j⟩:=h;exact⟨one k,one i,one f,one l,one g,one j⟩
def nT (L:Nat):Option (Value×Nat×Nat):=
 if L=1000001001 then some (.slice none 0 0,50,11) else if L=1000001002 then some (.slice none 0 0,54,2) else if L=1000001502 then some (.slice none 0 0,48,13) else if L=1000001003 then some (.slice none 0 0,56,2) else
 if L=1000001004 then some (.slice none 0 0,3,1) else if L=1000001005 then some (.slice none 0 0,29,1) else if L=1000001505 then some (.slice none 0 0,3,1) else if L=1000001006 then some (.slice none 0 0,3,1) else none
def nC (L:Nat):Option (List Value):=if L=1000001002 then some [] else if L=1000001005 then some [] else none
theorem Uv {L:Nat} {v:Value} {e a:Nat} (h:nT L=some (v,e,a)):v=.slice none 0 0∧0<a:=by
 unfold nT at h;repeat' split at h
 all_goals first|(simp only[aR,bM] at h;obtain⟨rfl,_,rfl⟩:=h;exact⟨rfl,by decide⟩)|cases h
def bare:V→Bool
 | .box _ _=>true
 | .str _=>true
 | .int _ _=>true
 |_=>false
theorem Mk {g g':Gh} (a:g'.G=g.G) (hβ:g'.β=g.β) {x:V} (b:bare x=true) {v:Value} (h:aT g x v):aT g' x v:=by
 cases x with
 |box k off=>rw[dV] at h⊢;rw[hβ];exact h
 |str l=>simp only[aT,bP] at h⊢;rw[a];exact h
 |int k n=>simp only[aT,bP] at h⊢;rw[a];exact h
 |_=>cases b
theorem nil_inv {B:Own} {g:Gh} {w:World} {a:Act} {fr r:ah} (E: ∀x∈fr,bare x=true) (hr: ∀x∈r,bare x=true) (h:Inv eE B g.G w ⟨fr,[(HL,nil6++r)]⟩ g a w): ∃g',g'.G=g.G∧Inv eE B g'.G w ⟨fr,[(HL,lab6++r)]⟩ g' a w:=by
 refine⟨{g with O:=nT,C:=nC},rfl,⟨h.fr.mono fun x D v o=>Mk (g:=g) (by rfl) (by rfl) (E x D) o,h.df,h.gok,⟨fun L v e K hL=>?_,fun L L' v v' e e' K U b p J n _=>?_⟩,⟨fun k s m=>?_,fun k k' s T m A _=>?_⟩,h.lS,h.hB,h.ext,h.glob,h.g1,fun k s L v e K b m hL n=>?_⟩⟩
 ·obtain⟨p,J⟩:=Uv hL
  exact⟨J,.inl p⟩
 ·obtain⟨p,_⟩:=Uv p
  rw[p] at n;cases n
 ·have l:aJ [(HL,lab6++r)] k=some s:=m
  unfold aJ at l
  cases d:HL==k with
  |false=>rw[d] at l;cases l
  |true=>
   rw[d,lm] at l;obtain rfl:=Option.some.inj l;obtain rfl:HL=k:=by simpa using d
   obtain⟨b,c,e,n,F,H,j,S,X,hq⟩:=h.bxs.1 HL (nil6++r) (by unfold aJ;rw[Pb,lm]);refine⟨b,c,e,n,F,H,?_,S,X,fun H=>by cases H⟩;obtain⟨v0,t0,N,q0,j⟩:=PW.cons_inv j;obtain⟨v1,t1,Y,q1,j⟩:=PW.cons_inv j;obtain⟨v2,t2,y,q2,j⟩:=PW.cons_inv j;obtain⟨v3,t3,e3,Q,j⟩:=PW.cons_inv j;obtain⟨v4,t4,Z,q4,j⟩:=PW.cons_inv j;obtain⟨v5,t5,P,R,j⟩:=PW.cons_inv j;have t: ∀{v:Value},aT g .nilsl v→v=.slice none 0 0:=fun {v} o=>by simp only[aT,bP] at o;unfold aV at o;exact o
   rw[N,Y,y,e3,Z,P,t q0,t q1,t q2,t Q,t q4,t R];have z: ∀(L e:Nat) (sh:List Kd),nT L=some (.slice none 0 0,e,sh.length)→aT {g with O:=nT,C:=nC} (.sl e sh (some L) []) (.slice none 0 0):=fun L e sh hL=>⟨hL,.inl ⟨rfl,rfl⟩⟩
   have M: ∀(L e:Nat) (sh:List Kd) (L2:Nat) (i:Int) (c y:Nat) (q:List Kd),nT L=some (.slice none 0 0,e,sh.length)→nC L=some []→nT L2=some (.slice none 0 0,y,q.length)→aT {g with O:=nT,C:=nC} (.slz L e sh [] (some L2) i c y q []) (.slice none 0 0):=
    fun L e sh L2 i c y q hL hC I=>⟨[],hL,hC,⟨.inl ⟨rfl,rfl⟩,by simp,by unfold cO;trivial⟩,⟨_,I,.inl ⟨rfl,rfl⟩,fun u _ W=>by simp at W⟩⟩
   exact .cons (z _ _ _ rfl) (.cons (M _ _ _ _ _ _ _ _ rfl rfl rfl) (.cons (z _ _ _ rfl) (.cons (z _ _ _ rfl) (.cons (M _ _ _ _ _ _ _ _ rfl rfl rfl) (.cons (z _ _ _ rfl) (j.mono fun x D v o=>Mk (g:=g) (by rfl) (by rfl) (hr x D) o))))))
 ·have f: ∀{k:Nat} {s:ah},aJ [(HL,lab6++r)] k=some s→k=HL:=fun {k s} m=>by
   unfold aJ at m
   cases d:HL==k with
   |false=>rw[d] at m;cases m
   |true=>exact(by simpa using d:HL=k).symm
  rw[f m,f A]
 obtain⟨p,_⟩:=Uv hL;rw[p] at n;cases n
theorem XW: ∀(ys:ah) (j:Nat),(∀y∈ys,bare y=true∧ ∀k off,y≠.box k off)→bR j ys=ys∧dI j ys=[]
 |[],_,_=>⟨rfl,rfl⟩
 |y::ys,j,h=>by
  obtain⟨d,c⟩:=h y uY;obtain⟨a,b⟩:=XW ys (j+1) fun z e=>h z (wN _ e)
  cases y with
  |str l=>unfold bR dI;rw[a,b];exact⟨rfl,rfl⟩
  |int k n=>unfold bR dI;rw[a,b];exact⟨rfl,rfl⟩
  |box k off=>exact absurd rfl (c k off)
  |_=>cases d
theorem nil_x {f:Nat} {r ys:ah} {v:V} (m: ∀x∈r,bare x=true) (e: ∀y∈ys,bare y=true∧ ∀k off,y≠.box k off) (h:nR eE f (.bxa 0 (lab6++r)::ys) v):nR eE f (.bxa 0 (nil6++r)::ys) v:=by
 intro p x bs q B g w vs c i;obtain⟨o,s⟩:=XW ys 1 e;have l: ∀a:ah,bR 0 (.bxa 0 a::ys)=.box HL 0::ys:=fun a=>by show V.box HL 0::bR 1 ys=_;rw[o]
 have j: ∀a:ah,dI 0 (.bxa 0 a::ys)=[(HL,a)]:=fun a=>by show(HL+0,a)::dI 1 ys=_;rw[s];rfl
 rw[l,j] at i;obtain⟨g',n,d⟩:=nil_inv (by
  intro x b;rcases List.mem_cons.1 b with rfl|b
  ·rfl
  exact(e x b).1) m i
 have:=h p x bs q B g' w vs c (by rw[l,j];exact d);rw[n,show fJ 0 (V.bxa 0 (lab6++r)::ys) bs=fJ 0 (V.bxa 0 (nil6++r)::ys) bs by cases bs<;>rfl] at this;exact this
theorem aei (c0 a c d b e:V) (ln op:Int) (s:af) (f:(bif okB c0 a c d b e then J2 (xL c0) (xL a) (xI a) (xY a) (xL d) (xL b) (xI b) (xY b) (xL e) op s else false)=true):nR eE 25 [.bxa 0 [c0,a,c,d,b,e,.int .i64 ln,.int .i64 op],.str s] (.ni (ieq (kN (xL c0) (xL a) (xL c) (xY a) op s) 0) (.out false (.tup []) [oU (qV (xL c0) op s) (qW (xL a) (xY a) op s) (qX (xL c) op s) (uR (xL d) ln op s) (uT (xL b) (xY b) ln op s) (uU (xL e) ln op s) (uV (xI a) (xL a) op s) (qY (xY a) op s) (uW (xI b) (xL b) op s) (uX (xY b) ln op s) ln (oD op ln s)]) (.out true (gU ln (kN (xL c0) (xL a) (xL c) (xY a) op s)) [oU (xL c0) (xL a) (xL c) (xL d) (xL b) (xL e) (xI a) (xY a) (xI b) (xY b) ln op])):=by
 obtain⟨h,f⟩:=uf f;unfold okB at h;rw[JR] at h;rcases h with h|h
 ·exact Jv _ _ _ _ _ _ _ _ _ (by rw[h];exact f)
 obtain⟨rfl,rfl,rfl,rfl,rfl,rfl⟩:=okN_eq h;exact nil_x (r:=[.int .i64 ln,.int .i64 op]) (ys:=[.str s]) (by simp[bare]) (by simp[bare]) (Jv (.sl 50 kR (some 1000001001) []) (.slz 1000001002 54 kZ [] (some 1000001502) 0 1 48 kE []) (.sl 56 kL (some 1000001003) []) (.sl 3 kI (some 1000001004) []) (.slz 1000001005 29 kW [] (some 1000001505) 0 0 3 kI []) (.sl 3 kI (some 1000001006) []) ln op s f)
theorem Nl:bf eE rS3:=by
 unfold rS3;refine bf.nH (fun args r h=>?_) Hf;all_goals (revert h;intro h;first|unfold rReadS at h)
 all_goals (split at h;rotate_left; · cases h)
 all_goals (simp only[aR,bM] at h;obtain⟨a,rfl⟩:=h)
 ·exact aei _ _ _ _ _ _ _ _ _ a
structure mD where
 rs:ah
 zs:ah
 ks:ah
 wr:ah
 we:ah
 wl:ah
 iz:Int
 yz:ah
 ie:Int
 ye:ah
 op:Int
def r0:mD:=⟨[],[],[],[],[],[],0,[],0,[],0⟩
noncomputable def mD.err (t:mD) (s:af):Int:=kN t.rs t.zs t.ks t.yz t.op s
noncomputable def mD.step (t:mD) (ln:Int) (s:af):mD:=
 ⟨qV t.rs t.op s,qW t.zs t.yz t.op s,qX t.ks t.op s,uR t.wr ln t.op s,uT t.we t.ye ln t.op s,uU t.wl ln t.op s,uV t.iz t.zs t.op s,qY t.yz t.op s,uW t.ie t.we t.op s,uX t.ye ln t.op s,oD t.op ln s⟩
noncomputable abbrev Gl (x:V):af:=aH (ai x 0)
noncomputable def iI:ah→Int→mD→mD×Int×Int
 |[],ln,t=>(t,ln,0)
 |x::xs,ln,t=>if t.err (Gl x)=0 then iI xs (ln+1) (t.step (ln+1) (Gl x)) else(t,ln+1,t.err (Gl x))
structure Good (t:mD):Prop where
 z:t.zs.length≤1024
 we:t.we.length=t.zs.length
 y:t.yz.length≤256
 ye:t.ye.length=t.yz.length
 r:t.rs.length≤4096
 wr:t.wr.length=t.rs.length
 k:t.ks.length≤1024
 wl:t.wl.length=t.ks.length
 op:0<t.op→0<t.zs.length
 i:0<t.zs.length→t.iz=(t.zs.length:Int)-1∧t.ie=(t.zs.length:Int)-1
theorem xk:Good r0:=⟨by decide,rfl,by decide,rfl,by decide,rfl,by decide,rfl,by decide,by decide⟩
theorem Good.ck {t:mD} (h:Good t) {s:af} (f:s.length≤4000000):J2 t.rs t.zs t.iz t.yz t.wr t.we t.ie t.ye t.wl t.op s=true:=by obtain⟨m,e,j,l,o,k,n,i,g,a⟩:=h;unfold J2;rw[lG];refine⟨f,by omega,by omega,by omega,by omega,by omega,by omega,fun d=>?_⟩;have c:=g d;have b:=a c;exact⟨c,b.1,by omega,by rw[b.2,e]⟩
theorem jO {e n m:Int} (h:lX e n m=0):e=0∧n<m:=by
 unfold lX at h;split at h
 ·exact absurd h ‹_›
 rename_i a;split at h
 ·exact⟨by omega, ‹_›⟩
 cases h
theorem BI (zs yz xs:ah):(mG zs yz xs).length=zs.length:=by unfold mG oz;simp
theorem erWe_len (we ye:ah) (ln:Int):(rM we ye ln).length=we.length:=by unfold rM oz;simp
theorem BJ (zs xs:ah):(tN zs xs).length=zs.length+1:=by unfold tN aX;simp
theorem znWe_len (we:ah) (ln:Int):(AF we ln).length=we.length+1:=by unfold AF aX;simp
theorem WC {t:mD} {s:af} (h:t.err s=0):(gz t.op s=4∨(gz t.op s=3∧0<t.op∧zi t.yz (bY s)=0)∨(¬0<t.op∧gz t.op s=0∧AA t.rs (tl1 (bY s))=0)∨(¬0<t.op∧gz t.op s=1∧vz t.zs (tl1 (bY s))=0)∨(¬0<t.op∧gz t.op s=2∧AB t.ks (tl1 (bY s))=0))∧Ai s=0∧MF s=0:=by
 unfold mD.err kN at h;by_cases d:Ai s=0
 case neg=>rw[if_pos d] at h;exact absurd h d
 rw[if_neg (fun e=>e d)] at h;by_cases b:MF s=0
 case neg=>rw[if_pos b] at h;exact absurd h b
 rw[if_neg (fun e=>e b)] at h;refine⟨?_,d,b⟩;unfold gz;by_cases j:ay (bY s)=0
 ·rw[if_pos j];exact .inl rfl
 rw[if_neg j] at h⊢;by_cases a:0<t.op
 ·rw[if_pos a] at h⊢
  exact .inr (.inl ⟨rfl,a,h⟩)
 rw[if_neg a] at h⊢;by_cases c:oP (aH (ai (aG (bY s) 0) 0)) E7=0
 case neg=>rw[if_pos c] at h;exact absurd h c
 rw[if_neg (fun e=>e c)] at h;obtain⟨l,i⟩:=BA _ _ (by decide) c;have i:mo (aH (ai (aG (bY s) 0) 0)) E7<3:=i;by_cases g:mo (aH (ai (aG (bY s) 0) 0)) E7=0
 ·rw[if_pos g] at h
  rw[g];exact .inr (.inr (.inl ⟨a,rfl,h⟩))
 rw[if_neg g] at h;by_cases f:mo (aH (ai (aG (bY s) 0) 0)) E7=1
 ·rw[if_pos f] at h
  rw[f];exact .inr (.inr (.inr (.inl ⟨a,rfl,h⟩)))
 rw[if_neg f] at h;have k:mo (aH (ai (aG (bY s) 0) 0)) E7=2:=by omega
 rw[k];exact .inr (.inr (.inr (.inr ⟨a,rfl,h⟩)))
theorem Uw {zs xs:ah} (h:vz zs xs=0): ¬ay xs=0∧dG (aH (ai (aG xs 0) 0))=0∧kK (tl1 xs)=0∧ay zs<1024:=by
 unfold vz at h;by_cases a:ay xs=0
 ·rw[if_pos a] at h;cases h
 rw[if_neg a] at h;by_cases b:dG (aH (ai (aG xs 0) 0))=0
 case neg=>rw[if_pos b] at h;exact absurd h b
 rw[if_neg (fun e=>e b)] at h;exact⟨a,b,jO h⟩
theorem gq {t:mD} {ln:Int} {s:af} {k:Nat} (a:gz t.op s=k):t.step ln s=
  ⟨if k=0 then aX t.rs [MG (tl1 (bY s))] else t.rs,if k=3 then mG t.zs t.yz (bY s) else if k=1 then tN t.zs (tl1 (bY s)) else t.zs,if k=2 then aX t.ks [Te (tl1 (bY s))] else t.ks,if k=0 then aX t.wr [.int .i64 ln] else t.wr,if k=3 then rM t.we t.ye ln else if k=1 then AF t.we ln else t.we,if k=2 then aX t.wl [.int .i64 ln] else t.wl,if k=1 then ay t.zs else t.iz,if k=3 then aX t.yz [qh (bY s)] else if k=1 then[qh (tl1 (tl1 (bY s)))] else t.yz,if k=1 then ay t.we else t.ie,if k=3 then aX t.ye [.int .i64 ln] else if k=1 then[.int .i64 ln] else t.ye,if k=3 then jB (bY s) ln else if k=1 then jB (tl1 (tl1 (bY s))) ln else t.op⟩:=by
 unfold mD.step qV qW qX uR uT uU uV qY uW uX oD;rw[a]
theorem Good.step {t:mD} (h:Good t) {ln:Int} {s:af} (u:t.err s=0):Good (t.step ln s):=by
 obtain⟨k,g,n,o,m,i,l,f,j,b⟩:=h;obtain⟨r,_,_⟩:=WC u;rcases r with a|⟨a,e,d⟩|⟨e,a,d⟩|⟨e,a,d⟩|⟨e,a,d⟩
 ·rw[gq a]
  exact⟨k,g,n,o,m,i,l,f,j,b⟩
 ·rw[gq a]
  have c:=(jO d).2;rw[aD] at c;have p:=j e;have q:=b p;refine⟨?_,?_,?_,?_,m,i,l,f,?_,?_⟩
  ·show(mG t.zs t.yz (bY s)).length≤1024;rw[BI];exact k
  ·show(rM t.we t.ye ln).length=(mG t.zs t.yz (bY s)).length;rw[BI,erWe_len];exact g
  ·show(aX t.yz [qh (bY s)]).length≤256;unfold aX;rw[iH,vg];omega
  ·show(aX t.ye [.int .i64 ln]).length=(aX t.yz [qh (bY s)]).length;unfold aX;rw[iH,iH,vg,vg];omega
  ·intro _;show 0<(mG t.zs t.yz (bY s)).length;rw[BI];exact p
  intro _;show t.iz=((mG t.zs t.yz (bY s)).length:Int)-1∧t.ie=((mG t.zs t.yz (bY s)).length:Int)-1;rw[BI];exact q
 ·rw[gq a]
  have c:=(jO d).2;rw[aD] at c;refine⟨k,g,n,o,?_,?_,l,f,j,b⟩
  ·show(aX t.rs [MG (tl1 (bY s))]).length≤4096;unfold aX;rw[iH,vg];omega
  show(aX t.wr [.int .i64 ln]).length=(aX t.rs [MG (tl1 (bY s))]).length;unfold aX;rw[iH,iH,vg,vg];omega
 ·rw[gq a]
  have c:=(Uw d).2.2.2;rw[aD] at c;refine⟨?_,?_,?_,rfl,m,i,l,f,?_,?_⟩
  ·show(tN t.zs (tl1 (bY s))).length≤1024;rw[BJ];omega
  ·show(AF t.we ln).length=(tN t.zs (tl1 (bY s))).length;rw[BJ,znWe_len];omega
  ·show([qh (tl1 (tl1 (bY s)))]:ah).length≤256;simp
  ·intro _;show 0<(tN t.zs (tl1 (bY s))).length;rw[BJ];omega
  intro _;show ay t.zs=((tN t.zs (tl1 (bY s))).length:Int)-1∧ay t.we=((tN t.zs (tl1 (bY s))).length:Int)-1;rw[BJ,aD,aD];omega
 rw[gq a];have c:=(jO d).2;rw[aD] at c;refine⟨k,g,n,o,m,i,?_,?_,j,b⟩
 ·show(aX t.ks [Te (tl1 (bY s))]).length≤1024;unfold aX;rw[iH,vg];omega
 show(aX t.wl [.int .i64 ln]).length=(aX t.ks [Te (tl1 (bY s))]).length;unfold aX;rw[iH,iH,vg,vg];omega
theorem Ml: ∀(xs:ah) (ln:Int) (t:mD),Good t→Good (iI xs ln t).1
 |[],ln,t,h=>h
 |x::xs,ln,t,h=>by
  unfold iI;split
  ·exact Ml xs (ln+1) _ (h.step ‹_›)
  exact h
noncomputable def oV (s:af):mD×Int×Int:=iI (iN s) 0 r0
noncomputable def MO (q:mD×Int×Int):Int:=if q.2.2≠0 then q.2.2 else if 0<q.1.op then 16 else 0
noncomputable def TT (q:mD×Int×Int):Int:=if q.2.2≠0 then q.2.1 else if 0<q.1.op then q.1.op else q.2.1
noncomputable def MP (s:af):ah:=(oV s).1.rs
noncomputable def MQ (s:af):ah:=(oV s).1.zs
noncomputable def MR (s:af):ah:=(oV s).1.ks
noncomputable def PR (s:af):ah:=(oV s).1.wr
noncomputable def PS (s:af):ah:=(oV s).1.we
noncomputable def PT (s:af):ah:=(oV s).1.wl
noncomputable def alIz (s:af):Int:=(oV s).1.iz
noncomputable def alYz (s:af):ah:=(oV s).1.yz
noncomputable def alIe (s:af):Int:=(oV s).1.ie
noncomputable def alYe (s:af):ah:=(oV s).1.ye
noncomputable def alOp (s:af):Int:=(oV s).1.op
noncomputable def YD (s:af):Int:=MO (oV s)
noncomputable def alL (s:af):Int:=TT (oV s)
noncomputable def rAllS:aC:=fun a=>match a with|[.bxa 0 [c0,c1,c2,c3,c4,c5,.int .i64 ln,.int .i64 op],.str s]=>some (bif okN c0 c1 c2 c3 c4 c5 then ak (ieq ln 0) (ieq op 0) else false,.ni (aW 1048576 (aA s)) (.out true (gU 0 9) [[.nilsl,.nilsl,.nilsl,.nilsl,.nilsl,.nilsl,.int .i64 0,.int .i64 0]]) (.ni (ieq (ay (iN s)) 0) (.out false (.tup []) [[.nilsl,.nilsl,.nilsl,.nilsl,.nilsl,.nilsl,.int .i64 0,.int .i64 0]]) (.ni (ieq (YD s) 0) (.out false (.tup []) [bxn (MP s) (MQ s) (MR s) (PR s) (PS s) (PT s) (alIz s) (alYz s) (alIe s) (alYe s) (alL s) (alOp s)]) (.out true (gU (alL s) (YD s)) [bxn (MP s) (MQ s) (MR s) (PR s) (PS s) (PT s) (alIz s) (alYz s) (alIe s) (alYe s) (alL s) (alOp s)]))))|_=>none
noncomputable def rS4:List (Nat×aC):=(GX+12,rAllS)::rS3
noncomputable def Ri:=fun F f n g c e d a b K=>(qK eE rS3 F 3 12 [V.bxa 0 [],V.nilsl] [1,0,1,0] f K n (kD 43 [(0,V.box 1000000000 0),(1,V.str g),(12,V.sl 9 [Kd.str] none c),(13,V.int .i64 e),(14,V.int .i64 d)] [(1000000000,[V.nilsl,V.nilsl,V.nilsl,V.nilsl,V.nilsl,V.nilsl,V.int .i64 a,V.int .i64 b])]):Option V)
noncomputable def BK:=fun F q n r m o p i l d c e h k a b j f g K=>(qK eE rS3 F 3 12 [V.bxa 0 [],V.nilsl] [1,0,1,0] q K n (kD 43 [(0,V.box 1000000000 0),(1,V.str r),(12,V.sl 9 [Kd.str] none m),(13,V.int .i64 o),(14,V.int .i64 p)] [(1000000000,[V.sl 50 kR (some 10000) i,V.slz 10001 54 kZ l (some 15001) d 1 48 kE c,V.sl 56 kL (some 10002) e,V.sl 3 [Kd.int .i64] (some 10003) h,V.slz 10004 29 kW k (some 15004) a 0 3 [Kd.int .i64] b,V.sl 3 [Kd.int .i64] (some 10005) j,V.int .i64 f,V.int .i64 g])]):Option V)
theorem DN (F s) (K:V→Option V):
 bA eE (bu eE rS3 F 3) F 12 [V.bxa 0 [V.nilsl,V.nilsl,V.nilsl,V.nilsl,V.nilsl,V.nilsl,V.int .i64 0,V.int .i64 0],V.str s] K=
 let A:=V.int .i64 0;sel (aW 1048576 (aA s)) (K (V.out true (V.iface 58 (V.agg [A,V.int .i64 9])) [[V.nilsl,V.nilsl,V.nilsl,V.nilsl,V.nilsl,V.nilsl,A,A]])) (sel (av (aA s) 4000000) (Ri F [] F s (iN s) (ay (iN s)) 0 0 0 K) none):=by kernel_rfl
theorem yP (F n f d e c b a K):
 Ri F [] (n+1) f d e c b a K=
 let A:=aH (ai (aG d c) 0);let B:=bJ .i64 b 1;let C:=V.int .i64 a;let E:=[Kd.int .i64];let D:=kN [] [] [] [] a A;sel (aW c e) (sel (ak (av 0 c) (aW c (ay d))) (sel (J2 [] [] 0 [] [] [] 0 [] [] a A) (sel (ieq D 0) (BK F [] n f d e (bJ .i64 c 1) (qV [] a A) (qW [] [] a A) (uV 0 [] a A) (qY [] a A) (qX [] a A) (uR [] B a A) (uT [] [] B a A) (uW 0 [] a A) (uX [] B a A) (uU [] B a A) B (oD a B A) K) (K (V.out true (V.iface 58 (V.agg [V.int .i64 B,V.int .i64 D])) [[V.sl 50 kR (some 1001) [],V.slz 1002 54 kZ [] (some 1502) 0 1 48 kE [],V.sl 56 kL (some 1003) [],V.sl 3 E (some 1004) [],V.slz 1005 29 kW [] (some 1505) 0 0 3 E [],V.sl 3 E (some 1006) [],V.int .i64 B,C]]))) none) none) (sel (aW 0 a) (K (V.out true (V.iface 58 (V.agg [C,V.int .i64 16])) [[V.nilsl,V.nilsl,V.nilsl,V.nilsl,V.nilsl,V.nilsl,C,C]])) (K (V.out false (V.tup []) [[V.nilsl,V.nilsl,V.nilsl,V.nilsl,V.nilsl,V.nilsl,V.int .i64 b,C]]))):=by kernel_rfl
theorem yQ (F n q o p m e d h b i j f g c k l a K):
 BK F [] (n+1) q o p m e d h b i j f g c k l a K=
 let A:=aH (ai (aG o m) 0);let C:=bJ .i64 l 1;let D:=V.slz 1002 54 kZ d (some 1502) h 1 48 kE b;let E:=V.int .i64 a;let J:=V.sl 50 kR (some 1001) e;let L:=V.sl 56 kL (some 1003) i;let M:=[Kd.int .i64];let B:=V.slz 1005 29 kW f (some 1505) g 0 3 M c;let G:=V.sl 3 M (some 1004) j;let H:=V.sl 3 M (some 1006) k;let I:=kN e d i b a A;sel (aW m p) (sel (ak (av 0 m) (aW m (ay o))) (sel (J2 e d h b j f g c k a A) (sel (ieq I 0) (BK F [] n q o p (bJ .i64 m 1) (qV e a A) (qW d b a A) (uV h d a A) (qY b a A) (qX i a A) (uR j C a A) (uT f c C a A) (uW g f a A) (uX c C a A) (uU k C a A) C (oD a C A) K) (K (V.out true (V.iface 58 (V.agg [V.int .i64 C,V.int .i64 I])) [[J,D,L,G,B,H,V.int .i64 C,E]]))) none) none) (sel (aW 0 a) (K (V.out true (V.iface 58 (V.agg [E,V.int .i64 16])) [[J,D,L,G,B,H,E,E]])) (K (V.out false (V.tup []) [[J,D,L,G,B,H,V.int .i64 l,E]]))):=by kernel_rfl
theorem xH (F s) (K:V→Option V):
 bA eE (bu eE rS4 F 3) F 6 [V.str s] K=
 let A:=K (tbV (MP s) (MQ s) (MR s) (PR s) (PS s) (PT s) 0 0);let B:=K (nlV (alL s) (YD s));let C:=K (nlV 0 9);let D:=K (nlV 0 0);let E:=both C C;let G:=both D D;let H:=both A A;let I:=both B B;sel (aW 1048576 (aA s)) (both (both (both C E) (both E (both E C))) (both (both (both C E) C) (both E C))) (sel (ieq (ay (iN s)) 0) (both (both (both D G) (both G (both G D))) (both (both (both D G) D) (both G D))) (sel (ieq (YD s) 0) (both (both (both A H) (both H (both H A))) (both (both (both A H) A) (both H A))) (both (both (both B I) (both I (both I B))) (both (both (both B I) B) (both I B))))):=by kernel_rfl
end Nt.Ev.YtknhlobahpgkeaaGreatDoor.Rr
namespace Nt.Lin
open Go Nt.Ev
theorem ID: ∀(s a:af),∀l∈tK s a,l.length≤a.length+s.length
 |[],a,l,h=>by
  unfold tK at h
  cases a with
  |nil=>cases h
  |cons c t=>simp only[S7] at h;subst h;simp
 |c::t,a,l,h=>by
  unfold tK at h
  cases b:c==10 with
  |true=>
   rw[b,lm,Yy] at h;rcases h with rfl|h
   ·rw[fI];omega
   have:=ID t [] l h;rw[qz] at this;rw[fI];omega
  |false=>rw[b,jW] at h;have:=ID t (a++[c]) l h;rw[iH,vg] at this;rw[fI];omega
end Nt.Lin
namespace Nt.Ev.YtknhlobahpgkeaaGreatDoor.Rr
open Go Go.RowKit Nt Nt.Num Nt.Civil Nt.Fld Go.Proofs.YtknhlobahpgkeaaGreatDoor Nt.Ev.YtknhlobahpgkeaaGreatDoor Nt.Ev.YtknhlobahpgkeaaGreatDoor.Lk
variable [kM]
theorem aej (s:af) (c:s.length≤4000000): ∀x∈iN s,(Gl x).length≤4000000:=by intro x a;unfold iN Nt.Ev.bE at a;obtain⟨l,b,rfl⟩:=List.mem_map.1 a;have:=Nt.Lin.ID s [] l b;rw[qz] at this;show l.length≤4000000;omega
theorem linL_few (s:af):(iN s).length≤s.length:=by unfold iN;rw[sO,Nt.Lin.Ur (s.length+1) s (by omega),kJ];exact Nt.Lin.Us (s.length+1) s (by omega)
theorem Ii {xs:ah} {i:Nat} (h:i<xs.length):xs.drop i=aG xs (i:Int)::xs.drop (i+1):=by
 rw[abf h,eX];congr 1;simp[h]
theorem get_mem {xs:ah} {i:Nat} (h:i<xs.length):aG xs (i:Int)∈xs:=by rw[eX];simp[h]
noncomputable def GG (q:mD×Int×Int):V:=sel (ieq (MO q) 0) (.out false (.tup []) [bxn q.1.rs q.1.zs q.1.ks q.1.wr q.1.we q.1.wl q.1.iz q.1.yz q.1.ie q.1.ye (TT q) q.1.op]) (.out true (gU (TT q) (MO q)) [bxn q.1.rs q.1.zs q.1.ks q.1.wr q.1.we q.1.wl q.1.iz q.1.yz q.1.ie q.1.ye (TT q) q.1.op])
theorem iF {x:V} {xs:ah} {ln:Int} {t:mD} (h:t.err (Gl x)=0):iI (x::xs) ln t=iI xs (ln+1) (t.step (ln+1) (Gl x)):=by show(if t.err (Gl x)=0 then _ else _)=_;rw[if_pos h]
theorem kg {x:V} {xs:ah} {ln:Int} {t:mD} (h:t.err (Gl x)≠0):iI (x::xs) ln t=(t,ln+1,t.err (Gl x)):=by show(if t.err (Gl x)=0 then _ else _)=_;rw[if_neg h]
theorem al_loop (F:Nat) (s:af) (xs:ah) (m:xs.length≤4000000) (e: ∀x∈xs,(Gl x).length≤4000000): ∀(j i n:Nat) (t:mD),i+j=xs.length→j<n→Good t→
  BK F [] n s xs (ay xs) (i:Int) t.rs t.zs t.iz t.yz t.ks t.wr t.we t.ie t.ye t.wl (i:Int) t.op some=some (GG (iI (xs.drop i) i t)):=by
 intro j;induction j with
 |zero=>
  intro i n t f g c;obtain⟨n,rfl⟩: ∃k,n=k+1:=⟨n-1,by omega⟩
  (rw[yQ];(conv=>zeta);rw[aK (bF (by rw[aD];omega)),abh (by omega)])
  unfold iI GG MO TT;by_cases b:0<t.op
  ·rw[ax (bH b)]
   simp only[ne_eq,abv,Cu,if_pos b];rfl
  rw[aK (bF (by omega))];simp only[ne_eq,abv,Cu,if_neg b];rfl
 |succ j l=>
  intro i n t f g c;obtain⟨n,rfl⟩: ∃k,n=k+1:=⟨n-1,by omega⟩
  have d:i<xs.length:=by omega
  have h:bJ .i64 (i:Int) 1=((i+1:Nat):Int):=by rw[cZ (by omega)];omega
  (rw[yQ];(conv=>zeta);rw[ax (bH (by rw[aD];omega)),ax (by rw[aM,aB,bq,aD];omega),ax (c.ck (e _ (get_mem d))),Ii d,h])
  by_cases a:t.err (Gl (aG xs (i:Int)))=0
  ·rw[iF a,show((i:Int)+1)=((i+1:Nat):Int) by omega,←l (i+1) n (t.step ((i+1:Nat):Int) (Gl (aG xs (i:Int)))) (by omega) (by omega) (c.step a)]
   exact ax (bn a)
  rw[kg a];refine(aK (bD a)).trans ?_;unfold GG MO TT;simp only[ne_eq,a,abX,if_true];rw[aK (bD a),show((i:Int)+1)=((i+1:Nat):Int) by omega];rfl
theorem al_body (s:af) (g:s.length≤1048576) (e: ¬ay (iN s)=0):bA eE (bu eE rS3 ((iN s).length+1) 3) ((iN s).length+1) 12 [V.bxa 0 [V.nilsl,V.nilsl,V.nilsl,V.nilsl,V.nilsl,V.nilsl,V.int .i64 0,V.int .i64 0],V.str s] some=some (GG (oV s)):=by
 have f:=linL_few s;have b:=aej s (by omega);rw[aD] at e;have d:0<(iN s).length:=by omega
 (rw[DN];(conv=>zeta);rw[aK (bF (by rw[aI];omega)),ax (bg (by rw[aI];omega))])
 (rw[yP];(conv=>zeta);rw[ax (bH (by rw[aD];omega)),ax (by rw[aM,aB,bq,aD];omega),ax (show J2 [] [] 0 [] [] [] 0 [] [] 0 (aH (ai (aG (iN s) 0) 0))=true from xk.ck (b _ (get_mem (i:=0) d))),show bJ .i64 0 1=((0+1:Nat):Int) from rfl])
 unfold oV;have c:=Ii (xs:=iN s) (i:=0) d;rw[Yx] at c;refine Eq.symm (Eq.trans (show some (GG (iI (iN s) 0 r0))=some (GG (iI (aG (iN s) ((0:Nat):Int)::(iN s).drop 1) 0 r0)) by rw[←c]) ?_);by_cases a:r0.err (Gl (aG (iN s) ((0:Nat):Int)))=0
 ·rw[iF a]
  have:=al_loop ((iN s).length+1) s (iN s) (by omega) b ((iN s).length-1) 1 (iN s).length (r0.step 1 (Gl (aG (iN s) ((0:Nat):Int)))) (by omega) (by omega) (xk.step a);refine Eq.trans ?_ (ax (bn a)).symm;exact this.symm
 rw[kg a];refine Eq.trans ?_ (aK (bD a)).symm;unfold GG MO TT;simp only[ne_eq,a,abX,if_true];rw[aK (bD a)];rfl
theorem rAllS_ok (c0 m e i l j:V) (ln op:Int) (s:af) (c:(bif okN c0 m e i l j then ak (ieq ln 0) (ieq op 0) else false)=true):nR eE 12 [.bxa 0 [c0,m,e,i,l,j,.int .i64 ln,.int .i64 op],.str s] (.ni (aW 1048576 (aA s)) (.out true (gU 0 9) [[.nilsl,.nilsl,.nilsl,.nilsl,.nilsl,.nilsl,.int .i64 0,.int .i64 0]]) (.ni (ieq (ay (iN s)) 0) (.out false (.tup []) [[.nilsl,.nilsl,.nilsl,.nilsl,.nilsl,.nilsl,.int .i64 0,.int .i64 0]]) (.ni (ieq (YD s) 0) (.out false (.tup []) [bxn (MP s) (MQ s) (MR s) (PR s) (PS s) (PT s) (alIz s) (alYz s) (alIe s) (alYe s) (alL s) (alOp s)]) (.out true (gU (alL s) (YD s)) [bxn (MP s) (MQ s) (MR s) (PR s) (PS s) (PT s) (alIz s) (alYz s) (alIe s) (alYe s) (alL s) (alOp s)])))):=by
 obtain⟨h,c⟩:=uf c;obtain⟨k,g⟩:=aO c;rw[aN] at k g;subst k;subst g;obtain⟨rfl,rfl,rfl,rfl,rfl,rfl⟩:=okN_eq h;refine nR.ni (fun h=>nR.out (fQ jL Nl 1 3 ?_)) (fun h=>nR.ni (fun b=>nR.out (fQ jL Nl 1 3 ?_)) (fun b=>?_))
 ·(rw[DN];(conv=>zeta);rw[ax h])
 ·have f:s.length≤1048576:=by
   have: ¬(1048576<aA s):=fun a=>by rw[bH a] at h;cases h
   rw[aI] at this;omega
  rw[aN] at b
  (rw[DN];(conv=>zeta);rw[aK h,ax (bg (by rw[aI];omega)),yP];(conv=>zeta);rw[aK (bF (by omega)),aK (bF (by omega))])
 have f:s.length≤1048576:=by
  have: ¬(1048576<aA s):=fun a=>by rw[bH a] at h;cases h
  rw[aI] at this;omega
 have d: ¬ay (iN s)=0:=fun a=>by rw[bn a] at b;cases b
 exact KR Nl _ 3 (al_body s f d)
theorem Nn:bf eE rS4:=by
 unfold rS4;refine bf.nH (fun args r h=>?_) Nl;all_goals (revert h;intro h;first|unfold rAllS at h)
 all_goals (split at h;rotate_left; · cases h)
 all_goals (simp only[aR,bM] at h;obtain⟨a,rfl⟩:=h)
 ·exact rAllS_ok _ _ _ _ _ _ _ _ _ a
noncomputable def Gm (s:af):Int:=if 1048576<s.length then 9 else YD s
noncomputable def JN (s:af):Int:=if 1048576<s.length then 0 else if YD s=0 then 0 else alL s
noncomputable def qZ (s:af):ah:=if Gm s=0 then MP s else[]
noncomputable def qy (s:af):ah:=if Gm s=0 then MQ s else[]
noncomputable def q8 (s:af):ah:=if Gm s=0 then MR s else[]
noncomputable def YW (s:af):ah:=if Gm s=0 then PR s else[]
noncomputable def YX (s:af):ah:=if Gm s=0 then PS s else[]
noncomputable def YY (s:af):ah:=if Gm s=0 then PT s else[]
theorem IE {G:aU} {v:Value} {e:Nat} {sh:List Kd} (h:aV G .nilsl v):aV G (.sl e sh none []) v:=by unfold aV at h;subst h;unfold aV;exact⟨none,0,rfl,lg _,.inl rfl⟩
theorem Rj {G:aU} {v:Value} {f k g:Nat} {c i e:List Kd} (h:aV G (.agg [.nilsl,.nilsl,.nilsl]) v):aV G (.agg [.sl f c none [],.sl k i none [],.sl g e none []]) v:=by unfold aV at h;obtain⟨a,rfl,h⟩:=h;unfold nu at h;obtain⟨o,t1,rfl,j,h⟩:=h;unfold nu at h;obtain⟨n,t2,rfl,b,h⟩:=h;unfold nu at h;obtain⟨m,l,rfl,d,h⟩:=h;unfold aV;refine⟨_,rfl,?_⟩;unfold nu;refine⟨_,_,rfl,IE j,?_⟩;unfold nu;refine⟨_,_,rfl,IE b,?_⟩;unfold nu;exact⟨_,_,rfl,IE d,h⟩
theorem Ux {E:Env} {f:Nat} {args:ah} {l w:Int} (h:aj E f args (nlV l w)):aj E f args (tbV [] [] [] [] [] [] l w):=by intro G w vs g e c;refine(h G w vs g e c).mono ?_;rintro o w' ⟨v,G',rfl,i,a,rfl,b,k⟩;refine⟨_,G',rfl,i,a,rfl,?_,k⟩;obtain⟨n,t1,rfl,j,b⟩:=b.cons_inv;obtain⟨m,t2,rfl,d,b⟩:=b.cons_inv;exact .cons (Rj j) (.cons (Rj d) b)
theorem alE_nil {s:af} (h:ay (iN s)=0):oV s=(r0,0,0):=by rw[aD] at h;have:iN s=[]:=Yv (by omega);unfold oV;rw[this];rfl
theorem tbP_ev (s:af):aj eE 6 [.str s] (tbV (qZ s) (qy s) (q8 s) (YW s) (YX s) (YY s) (JN s) (Gm s)):=by
 unfold qZ qy q8 YW YX YY;by_cases c:1048576<s.length
 ·have e:Gm s=9:=if_pos c
  have d:JN s=0:=if_pos c;rw[e,d];refine Ux (au jL Nn 1 3 ?_)
  (rw[xH];(conv=>zeta);rw[ax (bH (by rw[aI];omega))])
  simp only[j6]
 have e:Gm s=YD s:=if_neg c;have d:JN s=if YD s=0 then 0 else alL s:=if_neg c
 rw[e,d];by_cases b:ay (iN s)=0
 ·have f:=alE_nil b
  have a:YD s=0:=by unfold YD;rw[f];rfl
  rw[if_pos a,if_pos a,if_pos a,if_pos a,if_pos a,if_pos a,if_pos a,a];unfold MP MQ MR PR PS PT;rw[f];refine Ux (au jL Nn 1 3 ?_)
  (rw[xH];(conv=>zeta);rw[aK (bF (by rw[aI];omega)),ax (bn b)])
  simp only[j6]
 by_cases a:YD s=0
 ·rw[if_pos a,if_pos a,if_pos a,if_pos a,if_pos a,if_pos a,if_pos a,a]
  refine au jL Nn 1 3 ?_
  (rw[xH];(conv=>zeta);rw[aK (bF (by rw[aI];omega)),aK (bD b),ax (bn a)])
  simp only[j6]
 rw[if_neg a,if_neg a,if_neg a,if_neg a,if_neg a,if_neg a,if_neg a];refine Ux (au jL Nn 1 3 ?_)
 (rw[xH];(conv=>zeta);rw[aK (bF (by rw[aI];omega)),aK (bD b),aK (bD a)])
 simp only[j6]
end Nt.Ev.YtknhlobahpgkeaaGreatDoor.Rr
