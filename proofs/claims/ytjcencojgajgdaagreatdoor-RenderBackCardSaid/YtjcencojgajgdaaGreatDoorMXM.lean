/-
  The reader of sources: lines; both sides as contracts. The reader's run over lines: the plain law.
-/
import Derived.Test.YtjcencojgajgdaaGreatDoorMXL
set_option linter.all false
set_option maxRecDepth 100000
namespace Nt.Fld
open Go Nt.Ev
theorem uf (N:Nat): ∀(s:af) (out:List (af)) (f:af) (op e:Bool),(∀x∈out,x.length≤N)→f.length+s.length≤N→ ∀x∈(oh s out f op e).1,x.length≤N
 |[],out,f,op,e,b,g=>by
  have g:f.length≤N:=by simpa using g
  have d: ∀x∈o6 op out f,x.length≤N:=by
   intro x a
   cases op with
   |false=>exact b x a
   |true=>
    have a:x∈out++[f]:=a;rw[abq,Ni] at a;rcases a with a|rfl
    ·exact b x a
    exact g
  cases e with
  |true=>intro x a;cases a
  |false=>
   show∀x∈(AB (o6 op out f)).1,_;unfold AB;split
   ·intro x a;cases a
   exact d
 |c::t,out,f,op,e,b,g=>by
  rw[dN] at g;have d: ∀x∈o6 op out f,x.length≤N:=by
   intro x a
   cases op with
   |false=>exact b x a
   |true=>
    have a:x∈out++[f]:=a;rw[abq,Ni] at a;rcases a with a|rfl
    ·exact b x a
    omega
  have i: ∀x∈(AB (o6 op out f)).1,x.length≤N:=by
   unfold AB;split
   ·intro x a;cases a
   exact d
  have k:(f++[c]).length+t.length≤N:=by rw[iW,Ec];omega
  have j:f.length+t.length≤N:=by omega
  have h:([]:af).length+t.length≤N:=by rw[mr];omega
  unfold oh
  cases e with
  |true=>
   cases l:c==34 with
   |true=>exact uf N t out f op false b j
   |false=>exact uf N t out (f++[c]) op true b k
  |false=>
   cases o:c==35 with
   |true=>exact i
   |false=>
    cases m:c==9 with
    |true=>exact uf N t _ [] false false d h
    |false=>
     cases n:c==32 with
     |true=>exact uf N t _ [] false false d h
     |false=>
      cases l:c==34 with
      |true=>exact uf N t out f true true b j
      |false=>exact uf N t out (f++[c]) true false b k
end Nt.Fld
namespace Nt.Ev.YtjcencojgajgdaaGreatDoor.Rr
open Go Go.RowKit Nt Nt.Num Nt.Civil Nt.Fld Go.Proofs.YtjcencojgajgdaaGreatDoor Nt.Ev.YtjcencojgajgdaaGreatDoor Nt.Ev.YtjcencojgajgdaaGreatDoor.Lk
variable [kH]
theorem ck_len {s:af} (h:Al s=0):s.length≤511:=by
 unfold Al at h;rcases acV 511 s.length with a|a
 ·rw[av (bu (by rw[aJ];omega))] at h;cases h
 exact a
theorem YV {s:af} (h:s.length≤511):gL (dm s)=true:=by unfold gL;rw[lM];intro v a;unfold dm bI at a;obtain⟨l,b,rfl⟩:=List.mem_map.1 a;have:=uf 511 s [] [] false false (fun x c=>nomatch c) (by simpa using h) l b;show ax (aB l) 900=true;exact bn (by rw[aJ];omega)
theorem f0_len {xs:ah} (h:gL xs=true) (b:0<xs.length):ax (aB (aF (ai (aG xs 0) 0))) 1000=true:=by
 unfold gL at h;rw[lM] at h;match xs,b,h with
 |x::t,_,h=>
  have a:=h x rf;have e:aG (x::t) 0=x:=rfl;rw[e]
  cases x with
  |str l=>have a:ax (aB l) 900=true:=a;rw[aA] at a;exact bn (show aB l≤1000 by omega)
  |_=>cases a
theorem ws3_ok:wsR [V.str [82,117,108,101],V.str [90,111,110,101],V.str [76,105,110,107]]=true:=by unfold wsR;decide+kernel
theorem vG (rs zs ks wr we wl yz ye:ah) (iz ie a:Int) {op:Int} {s:af} (b:gz op s=0):qT rs op s=aX rs [Qn (fA (dm s) 1 (ay (dm s)))]∧qU zs yz op s=zs∧qV ks op s=ks∧uW wr a op s=aX wr [.int .i64 a]∧uX we ye a op s=we∧uY wl a op s=wl∧uZ iz zs op s=iz∧qW yz op s=yz∧u6 ie we op s=ie∧u7 ye a op s=ye∧qX op a s=op:=by unfold qT qU qV uW uX uY uZ qW u6 u7 qX;rw[b];exact⟨rfl,rfl,rfl,rfl,rfl,rfl,rfl,rfl,rfl,rfl,rfl⟩
theorem vH (rs zs ks wr we wl yz ye:ah) (iz ie a:Int) {op:Int} {s:af} (b:gz op s=1):qT rs op s=rs∧qU zs yz op s=tJ zs (fA (dm s) 1 (ay (dm s)))∧qV ks op s=ks∧uW wr a op s=wr∧uX we ye a op s=AL we a∧uY wl a op s=wl∧uZ iz zs op s=ay zs∧qW yz op s=[qz (fA (fA (dm s) 1 (ay (dm s))) 1 (ay (fA (dm s) 1 (ay (dm s)))))]∧u6 ie we op s=ay we∧u7 ye a op s=[.int .i64 a]∧qX op a s=jN (fA (fA (dm s) 1 (ay (dm s))) 1 (ay (fA (dm s) 1 (ay (dm s))))) a:=by unfold qT qU qV uW uX uY uZ qW u6 u7 qX;rw[b];exact⟨rfl,rfl,rfl,rfl,rfl,rfl,rfl,rfl,rfl,rfl,rfl⟩
theorem vI (rs zs ks wr we wl yz ye:ah) (iz ie a:Int) {op:Int} {s:af} (b:gz op s=2):qT rs op s=rs∧qU zs yz op s=zs∧qV ks op s=aX ks [UD (fA (dm s) 1 (ay (dm s)))]∧uW wr a op s=wr∧uX we ye a op s=we∧uY wl a op s=aX wl [.int .i64 a]∧uZ iz zs op s=iz∧qW yz op s=yz∧u6 ie we op s=ie∧u7 ye a op s=ye∧qX op a s=op:=by unfold qT qU qV uW uX uY uZ qW u6 u7 qX;rw[b];exact⟨rfl,rfl,rfl,rfl,rfl,rfl,rfl,rfl,rfl,rfl,rfl⟩
theorem vJ (rs zs ks wr we wl yz ye:ah) (iz ie a:Int) {op:Int} {s:af} (b:gz op s=3):qT rs op s=rs∧qU zs yz op s=oF zs yz (dm s)∧qV ks op s=ks∧uW wr a op s=wr∧uX we ye a op s=rD we ye a∧uY wl a op s=wl∧uZ iz zs op s=iz∧qW yz op s=aX yz [qz (dm s)]∧u6 ie we op s=ie∧u7 ye a op s=aX ye [.int .i64 a]∧qX op a s=jN (dm s) a:=by unfold qT qU qV uW uX uY uZ qW u6 u7 qX;rw[b];exact⟨rfl,rfl,rfl,rfl,rfl,rfl,rfl,rfl,rfl,rfl,rfl⟩
theorem vK (rs zs ks wr we wl yz ye:ah) (iz ie a:Int) {op:Int} {s:af} (b:gz op s=4):qT rs op s=rs∧qU zs yz op s=zs∧qV ks op s=ks∧uW wr a op s=wr∧uX we ye a op s=we∧uY wl a op s=wl∧uZ iz zs op s=iz∧qW yz op s=yz∧u6 ie we op s=ie∧u7 ye a op s=ye∧qX op a s=op:=by unfold qT qU qV uW uX uY uZ qW u6 u7 qX;rw[b];exact⟨rfl,rfl,rfl,rfl,rfl,rfl,rfl,rfl,rfl,rfl,rfl⟩
theorem read_p (rs zs ks wr we wl:ah) (a op iz ie:Int) (yz ye:ah) (s:af) (x:KA rs zs iz yz wr we ie ye wl op s=true):bE eE (bC eE rS2 5 3) 5 47 [.bxa 0 (oV rs zs ks wr we wl iz yz ie ye a op),.str s] some=
  some (sel (ieq (kJ rs zs ks yz op s) 0) (.out false (.tup []) [oV (qT rs op s) (qU zs yz op s) (qV ks op s) (uW wr a op s) (uX we ye a op s) (uY wl a op s) (uZ iz zs op s) (qW yz op s) (u6 ie we op s) (u7 ye a op s) a (qX op a s)]) (.out true (gU a (kJ rs zs ks yz op s)) [oV rs zs ks wr we wl iz yz ie ye a op])):=by
 (rw[afh];(conv=>zeta))
 unfold KA at x;rw[lK] at x;obtain⟨L,H,B,F,J,D,K,u⟩:=x;have j:ax (aB s) 4000000=true:=bn (by rw[aJ];omega);by_cases d:Al s=0
 case neg=>
  have c:kJ rs zs ks yz op s=Al s:=by unfold kJ;rw[if_pos d]
  simp only[j,bH d,c,jF,je,iM,jq];try rfl
 have w:=YV (ck_len d);by_cases f:Ns s=0
 case neg=>
  have c:kJ rs zs ks yz op s=Ns s:=by unfold kJ;rw[if_neg (fun h=>h d),if_pos f]
  simp only[j,bA d,bH f,c,jF,je,iM,jq];try rfl
 by_cases e:ay (dm s)=0
 case pos=>
  have c:kJ rs zs ks yz op s=0:=by unfold kJ;rw[if_neg (fun h=>h d),if_neg (fun h=>h f),if_pos e]
  have b:gz op s=4:=by unfold gz;rw[if_pos e]
  simp only[j,bA d,bA f,bA e,c,jF,je,iM,jq,(vK rs zs ks wr we wl yz ye iz ie a b).1,(vK rs zs ks wr we wl yz ye iz ie a b).2.1,(vK rs zs ks wr we wl yz ye iz ie a b).2.2.1,(vK rs zs ks wr we wl yz ye iz ie a b).2.2.2.1,(vK rs zs ks wr we wl yz ye iz ie a b).2.2.2.2.1,(vK rs zs ks wr we wl yz ye iz ie a b).2.2.2.2.2.1,(vK rs zs ks wr we wl yz ye iz ie a b).2.2.2.2.2.2.1,(vK rs zs ks wr we wl yz ye iz ie a b).2.2.2.2.2.2.2.1,(vK rs zs ks wr we wl yz ye iz ie a b).2.2.2.2.2.2.2.2.1,(vK rs zs ks wr we wl yz ye iz ie a b).2.2.2.2.2.2.2.2.2.1,(vK rs zs ks wr we wl yz ye iz ie a b).2.2.2.2.2.2.2.2.2.2];first|rfl|(rw[f];rfl)
 have v:0<(dm s).length:=by rw[aC] at e;omega
 have n1:ak (ax 0 0) (aR 0 (ay (dm s)))=true:=by rw[aM,aA,bq,aC];omega
 have r:ak (ax 0 1) (ax 1 (ay (dm s)))=true:=by rw[aM,aA,aA,aC];omega
 have G:=f0_len w v;have q:ak (ax (aB (aF (ai (aG (dm s) 0) 0))) 1000) (wsR [V.str [82,117,108,101],V.str [90,111,110,101],V.str [76,105,110,107]])=true:=by rw[aM];exact⟨G,ws3_ok⟩
 have z:gL (fA (dm s) 1 (ay (dm s)))=true:=Jj w _ _;by_cases i:0<op
 case pos=>
  have hE:erC zs iz yz we ie ye (dm s)=true:=by unfold erC;rw[lK];obtain⟨I,E,A,C⟩:=u i;exact⟨w,⟨I,by omega⟩,E,F,⟨A,by omega⟩,C,J⟩
  have c:kJ rs zs ks yz op s=zl yz (dm s):=by unfold kJ;rw[if_neg (fun h=>h d),if_neg (fun h=>h f),if_neg e,if_pos i]
  have b:gz op s=3:=by unfold gz;rw[if_neg e,if_pos i]
  rcases abJ (ieq (zl yz (dm s)) 0) with g|g
  ·simp only[j,bA d,bA f,bH e,bu i,hE,g,c,jF,je,iM,jq,(vJ rs zs ks wr we wl yz ye iz ie a b).1,(vJ rs zs ks wr we wl yz ye iz ie a b).2.1,(vJ rs zs ks wr we wl yz ye iz ie a b).2.2.1,(vJ rs zs ks wr we wl yz ye iz ie a b).2.2.2.1,(vJ rs zs ks wr we wl yz ye iz ie a b).2.2.2.2.1,(vJ rs zs ks wr we wl yz ye iz ie a b).2.2.2.2.2.1,(vJ rs zs ks wr we wl yz ye iz ie a b).2.2.2.2.2.2.1,(vJ rs zs ks wr we wl yz ye iz ie a b).2.2.2.2.2.2.2.1,(vJ rs zs ks wr we wl yz ye iz ie a b).2.2.2.2.2.2.2.2.1,(vJ rs zs ks wr we wl yz ye iz ie a b).2.2.2.2.2.2.2.2.2.1,(vJ rs zs ks wr we wl yz ye iz ie a b).2.2.2.2.2.2.2.2.2.2]
  simp only[j,bA d,bA f,bH e,bu i,hE,g,c,jF,je,iM,jq]
 by_cases k:oU (aF (ai (aG (dm s) 0) 0)) [V.str [82,117,108,101],V.str [90,111,110,101],V.str [76,105,110,107]]=0
 case neg=>
  have c:kJ rs zs ks yz op s=oU (aF (ai (aG (dm s) 0) 0)) [V.str [82,117,108,101],V.str [90,111,110,101],V.str [76,105,110,107]]:=by unfold kJ;rw[if_neg (fun h=>h d),if_neg (fun h=>h f),if_neg e,if_neg i,if_pos k]
  simp only[j,bA d,bA f,bH e,bB (Int.not_lt.1 i),n1,q,bH k,c,jF,je,iM,jq];try rfl
 obtain⟨M,y⟩:=BD _ _ (by decide) k;have y:mo (aF (ai (aG (dm s) 0) 0)) [V.str [82,117,108,101],V.str [90,111,110,101],V.str [76,105,110,107]]<3:=y;have o:kJ rs zs ks yz op s=if mo (aF (ai (aG (dm s) 0) 0)) FH=0 then AF rs (tl1 (dm s)) else if mo (aF (ai (aG (dm s) 0) 0)) FH=1 then vw zs (tl1 (dm s)) else AJ ks (tl1 (dm s)):=by unfold kJ;rw[if_neg (fun h=>h d),if_neg (fun h=>h f),if_neg e,if_neg i,if_neg (fun h=>h k)]
 have p:gz op s=(mo (aF (ai (aG (dm s) 0) 0)) FH).toNat:=by unfold gz;rw[if_neg e,if_neg i]
 by_cases l:mo (aF (ai (aG (dm s) 0) 0)) [V.str [82,117,108,101],V.str [90,111,110,101],V.str [76,105,110,107]]=0
 case pos=>
  have c:kJ rs zs ks yz op s=AF rs (tl1 (dm s)):=by rw[o,if_pos l]
  have b:gz op s=0:=by rw[p];unfold FH;rw[l];rfl
  have m:ak (gL (fA (dm s) 1 (ay (dm s)))) (Xe wr)=true:=by rw[aM];exact⟨z,by unfold Xe;simpa using D⟩
  rcases abJ (ieq (AF rs (fA (dm s) 1 (ay (dm s)))) 0) with g|g
  ·simp only[j,bA d,bA f,bH e,bB (Int.not_lt.1 i),n1,r,q,bA k,bA l,m,g,c,jF,je,iM,jq,(vG rs zs ks wr we wl yz ye iz ie a b).1,(vG rs zs ks wr we wl yz ye iz ie a b).2.1,(vG rs zs ks wr we wl yz ye iz ie a b).2.2.1,(vG rs zs ks wr we wl yz ye iz ie a b).2.2.2.1,(vG rs zs ks wr we wl yz ye iz ie a b).2.2.2.2.1,(vG rs zs ks wr we wl yz ye iz ie a b).2.2.2.2.2.1,(vG rs zs ks wr we wl yz ye iz ie a b).2.2.2.2.2.2.1,(vG rs zs ks wr we wl yz ye iz ie a b).2.2.2.2.2.2.2.1,(vG rs zs ks wr we wl yz ye iz ie a b).2.2.2.2.2.2.2.2.1,(vG rs zs ks wr we wl yz ye iz ie a b).2.2.2.2.2.2.2.2.2.1,(vG rs zs ks wr we wl yz ye iz ie a b).2.2.2.2.2.2.2.2.2.2]
  simp only[j,bA d,bA f,bH e,bB (Int.not_lt.1 i),n1,r,q,bA k,bA l,m,g,c,jF,je,iM,jq]
 by_cases n:mo (aF (ai (aG (dm s) 0) 0)) [V.str [82,117,108,101],V.str [90,111,110,101],V.str [76,105,110,107]]=1
 case pos=>
  have c:kJ rs zs ks yz op s=vw zs (tl1 (dm s)):=by rw[o,if_neg l,if_pos n]
  have b:gz op s=1:=by rw[p];unfold FH;rw[n];rfl
  have m:znC zs we (fA (dm s) 1 (ay (dm s)))=true:=by unfold znC;rw[lK];exact⟨z,H,B⟩
  rcases abJ (ieq (vw zs (fA (dm s) 1 (ay (dm s)))) 0) with g|g
  ·simp only[j,bA d,bA f,bH e,bB (Int.not_lt.1 i),n1,r,q,bA k,bH l,bA n,m,g,c,jF,je,iM,jq,(vH rs zs ks wr we wl yz ye iz ie a b).1,(vH rs zs ks wr we wl yz ye iz ie a b).2.1,(vH rs zs ks wr we wl yz ye iz ie a b).2.2.1,(vH rs zs ks wr we wl yz ye iz ie a b).2.2.2.1,(vH rs zs ks wr we wl yz ye iz ie a b).2.2.2.2.1,(vH rs zs ks wr we wl yz ye iz ie a b).2.2.2.2.2.1,(vH rs zs ks wr we wl yz ye iz ie a b).2.2.2.2.2.2.1,(vH rs zs ks wr we wl yz ye iz ie a b).2.2.2.2.2.2.2.1,(vH rs zs ks wr we wl yz ye iz ie a b).2.2.2.2.2.2.2.2.1,(vH rs zs ks wr we wl yz ye iz ie a b).2.2.2.2.2.2.2.2.2.1,(vH rs zs ks wr we wl yz ye iz ie a b).2.2.2.2.2.2.2.2.2.2]
  simp only[j,bA d,bA f,bH e,bB (Int.not_lt.1 i),n1,r,q,bA k,bH l,bA n,m,g,c,jF,je,iM,jq]
 have t:mo (aF (ai (aG (dm s) 0) 0)) [V.str [82,117,108,101],V.str [90,111,110,101],V.str [76,105,110,107]]=2:=by omega
 have c:kJ rs zs ks yz op s=AJ ks (tl1 (dm s)):=by rw[o,if_neg l,if_neg n]
 have b:gz op s=2:=by rw[p];unfold FH;rw[t];rfl
 have m:Xe wl=true:=by unfold Xe;simpa using K
 rcases abJ (ieq (AJ ks (fA (dm s) 1 (ay (dm s)))) 0) with g|g
 ·simp only[j,bA d,bA f,bH e,bB (Int.not_lt.1 i),n1,r,q,bA k,bH l,bH n,bA t,m,g,c,jF,je,iM,jq,(vI rs zs ks wr we wl yz ye iz ie a b).1,(vI rs zs ks wr we wl yz ye iz ie a b).2.1,(vI rs zs ks wr we wl yz ye iz ie a b).2.2.1,(vI rs zs ks wr we wl yz ye iz ie a b).2.2.2.1,(vI rs zs ks wr we wl yz ye iz ie a b).2.2.2.2.1,(vI rs zs ks wr we wl yz ye iz ie a b).2.2.2.2.2.1,(vI rs zs ks wr we wl yz ye iz ie a b).2.2.2.2.2.2.1,(vI rs zs ks wr we wl yz ye iz ie a b).2.2.2.2.2.2.2.1,(vI rs zs ks wr we wl yz ye iz ie a b).2.2.2.2.2.2.2.2.1,(vI rs zs ks wr we wl yz ye iz ie a b).2.2.2.2.2.2.2.2.2.1,(vI rs zs ks wr we wl yz ye iz ie a b).2.2.2.2.2.2.2.2.2.2]
 simp only[j,bA d,bA f,bH e,bB (Int.not_lt.1 i),n1,r,q,bA k,bH l,bH n,bA t,m,g,c,jF,je,iM,jq]
theorem J3 (c0 a d e b f:V) (c op:Int) (s:af) (g:(bif okL c0 a d e b f then KA (xL c0) (xL a) (xI a) (xY a) (xL e) (xL b) (xI b) (xY b) (xL f) op s else false)=true):nQ eE 47 [.bxa 0 [c0,a,d,e,b,f,.int .i64 c,.int .i64 op],.str s] (.oq (ieq (kJ (xL c0) (xL a) (xL d) (xY a) op s) 0) (.out false (.tup []) [oV (qT (xL c0) op s) (qU (xL a) (xY a) op s) (qV (xL d) op s) (uW (xL e) c op s) (uX (xL b) (xY b) c op s) (uY (xL f) c op s) (uZ (xI a) (xL a) op s) (qW (xY a) op s) (u6 (xI b) (xL b) op s) (u7 (xY b) c op s) c (qX op c s)]) (.out true (gU c (kJ (xL c0) (xL a) (xL d) (xY a) op s)) [oV (xL c0) (xL a) (xL d) (xL e) (xL b) (xL f) (xI a) (xY a) (xI b) (xY b) c op])):=by obtain⟨h,g⟩:=oI g;rw[Iy h];exact LA rS2_ok 5 3 (read_p _ _ _ _ _ _ _ _ _ _ _ _ _ g)
abbrev nil6:ah:=[.nilsl,.nilsl,.nilsl,.nilsl,.nilsl,.nilsl]
abbrev lab6:ah:=[.sl 53 kR (some 1000001001) [],.slz 1000001002 57 kZ [] (some 1000001502) 0 1 51 kE [],.sl 59 kL (some 1000001003) [],.sl 3 kI (some 1000001004) [],.slz 1000001005 32 kW [] (some 1000001505) 0 0 3 kI [],.sl 3 kI (some 1000001006) []]
theorem okN_eq {c0 e a b d c:V} (h:okN c0 e a b d c=true):c0=.nilsl∧e=.nilsl∧a=.nilsl∧b=.nilsl∧d=.nilsl∧c=.nilsl:=by
 have one: ∀{v:V},isN v=true→v=.nilsl:=fun {v} h=>by
  unfold isN at h;split at h
  ·rfl
  cases h
 unfold okN at h;simp only[bF] at h;obtain⟨⟨k,i⟩,⟨f,l⟩,g,j⟩:=h;exact⟨one k,one i,one f,one l,one g,one j⟩
def nT (L:Nat):Option (Value×Nat×Nat):=
 if L=1000001001 then some (.slice none 0 0,53,11) else if L=1000001002 then some (.slice none 0 0,57,2) else if L=1000001502 then some (.slice none 0 0,51,13) else if L=1000001003 then some (.slice none 0 0,59,2) else
 if L=1000001004 then some (.slice none 0 0,3,1) else if L=1000001005 then some (.slice none 0 0,32,1) else if L=1000001505 then some (.slice none 0 0,3,1) else if L=1000001006 then some (.slice none 0 0,3,1) else none
def nC (L:Nat):Option (List Value):=if L=1000001002 then some [] else if L=1000001005 then some [] else none
theorem Vn {L:Nat} {v:Value} {e a:Nat} (h:nT L=some (v,e,a)):v=.slice none 0 0∧0<a:=by
 unfold nT at h;repeat' split at h
 all_goals first|(simp only[aT,bP] at h;obtain⟨rfl,_,rfl⟩:=h;exact⟨rfl,by decide⟩)|cases h
def bare:V→Bool
 | .box _ _=>true
 | .str _=>true
 | .int _ _=>true
 |_=>false
theorem M6 {g g':Gh} (a:g'.G=g.G) (hβ:g'.β=g.β) {x:V} (b:bare x=true) {v:Value} (h:aU g x v):aU g' x v:=by
 cases x with
 |box k off=>rw[d9] at h⊢;rw[hβ];exact h
 |str l=>simp only[aU,bQ] at h⊢;rw[a];exact h
 |int k n=>simp only[aU,bQ] at h⊢;rw[a];exact h
 |_=>cases b
theorem nil_inv {B:Own} {g:Gh} {w:World} {a:Act} {fr r:ah} (E: ∀x∈fr,bare x=true) (hr: ∀x∈r,bare x=true) (h:Inv eE B g.G w ⟨fr,[(HL,nil6++r)]⟩ g a w): ∃g',g'.G=g.G∧Inv eE B g'.G w ⟨fr,[(HL,lab6++r)]⟩ g' a w:=by
 refine⟨{g with O:=nT,C:=nC},rfl,⟨h.fr.mono fun x D v o=>M6 (g:=g) (by rfl) (by rfl) (E x D) o,h.df,h.gok,⟨fun L v e K hL=>?_,fun L L' v v' e e' K U b p J n _=>?_⟩,⟨fun k s m=>?_,fun k k' s T m A _=>?_⟩,h.mh,h.hB,h.ext,h.glob,h.g1,fun k s L v e K b m hL n=>?_⟩⟩
 ·obtain⟨p,J⟩:=Vn hL
  exact⟨J,.inl p⟩
 ·obtain⟨p,_⟩:=Vn p
  rw[p] at n;cases n
 ·have l:aK [(HL,lab6++r)] k=some s:=m
  unfold aK at l
  cases d:HL==k with
  |false=>rw[d] at l;cases l
  |true=>
   rw[d,lC] at l;obtain rfl:=Option.some.inj l;obtain rfl:HL=k:=by simpa using d
   obtain⟨b,c,e,n,F,H,j,S,X,hq⟩:=h.bxs.1 HL (nil6++r) (by unfold aK;rw[Qf,lC]);refine⟨b,c,e,n,F,H,?_,S,X,fun H=>by cases H⟩;obtain⟨v0,t0,N,q0,j⟩:=PW.cons_inv j;obtain⟨v1,t1,Y,q1,j⟩:=PW.cons_inv j;obtain⟨v2,t2,y,q2,j⟩:=PW.cons_inv j;obtain⟨v3,t3,e3,Q,j⟩:=PW.cons_inv j;obtain⟨v4,t4,Z,q4,j⟩:=PW.cons_inv j;obtain⟨v5,t5,P,R,j⟩:=PW.cons_inv j;have t: ∀{v:Value},aU g .nilsl v→v=.slice none 0 0:=fun {v} o=>by simp only[aU,bQ] at o;unfold aV at o;exact o
   rw[N,Y,y,e3,Z,P,t q0,t q1,t q2,t Q,t q4,t R];have z: ∀(L e:Nat) (sh:List Kd),nT L=some (.slice none 0 0,e,sh.length)→aU {g with O:=nT,C:=nC} (.sl e sh (some L) []) (.slice none 0 0):=fun L e sh hL=>⟨hL,.inl ⟨rfl,rfl⟩⟩
   have M: ∀(L e:Nat) (sh:List Kd) (L2:Nat) (i:Int) (c y:Nat) (q:List Kd),nT L=some (.slice none 0 0,e,sh.length)→nC L=some []→nT L2=some (.slice none 0 0,y,q.length)→aU {g with O:=nT,C:=nC} (.slz L e sh [] (some L2) i c y q []) (.slice none 0 0):=
    fun L e sh L2 i c y q hL hC I=>⟨[],hL,hC,⟨.inl ⟨rfl,rfl⟩,by simp,by unfold cZ;trivial⟩,⟨_,I,.inl ⟨rfl,rfl⟩,fun u _ W=>by simp at W⟩⟩
   exact .cons (z _ _ _ rfl) (.cons (M _ _ _ _ _ _ _ _ rfl rfl rfl) (.cons (z _ _ _ rfl) (.cons (z _ _ _ rfl) (.cons (M _ _ _ _ _ _ _ _ rfl rfl rfl) (.cons (z _ _ _ rfl) (j.mono fun x D v o=>M6 (g:=g) (by rfl) (by rfl) (hr x D) o))))))
 ·have f: ∀{k:Nat} {s:ah},aK [(HL,lab6++r)] k=some s→k=HL:=fun {k s} m=>by
   unfold aK at m
   cases d:HL==k with
   |false=>rw[d] at m;cases m
   |true=>exact(by simpa using d:HL=k).symm
  rw[f m,f A]
 obtain⟨p,_⟩:=Vn hL;rw[p] at n;cases n
theorem YW: ∀(ys:ah) (j:Nat),(∀y∈ys,bare y=true∧ ∀k off,y≠.box k off)→bU j ys=ys∧dU j ys=[]
 |[],_,_=>⟨rfl,rfl⟩
 |y::ys,j,h=>by
  obtain⟨d,c⟩:=h y rf;obtain⟨a,b⟩:=YW ys (j+1) fun z e=>h z (uO _ e)
  cases y with
  |str l=>unfold bU dU;rw[a,b];exact⟨rfl,rfl⟩
  |int k n=>unfold bU dU;rw[a,b];exact⟨rfl,rfl⟩
  |box k off=>exact absurd rfl (c k off)
  |_=>cases d
theorem nil_x {f:Nat} {r ys:ah} {v:V} (m: ∀x∈r,bare x=true) (e: ∀y∈ys,bare y=true∧ ∀k off,y≠.box k off) (h:nQ eE f (.bxa 0 (lab6++r)::ys) v):nQ eE f (.bxa 0 (nil6++r)::ys) v:=by
 intro p x bs q B g w vs c i;obtain⟨o,s⟩:=YW ys 1 e;have l: ∀a:ah,bU 0 (.bxa 0 a::ys)=.box HL 0::ys:=fun a=>by show V.box HL 0::bU 1 ys=_;rw[o]
 have j: ∀a:ah,dU 0 (.bxa 0 a::ys)=[(HL,a)]:=fun a=>by show(HL+0,a)::dU 1 ys=_;rw[s];rfl
 rw[l,j] at i;obtain⟨g',n,d⟩:=nil_inv (by
  intro x b;rcases List.mem_cons.1 b with rfl|b
  ·rfl
  exact(e x b).1) m i
 have:=h p x bs q B g' w vs c (by rw[l,j];exact d);rw[n,show fK 0 (V.bxa 0 (lab6++r)::ys) bs=fK 0 (V.bxa 0 (nil6++r)::ys) bs by cases bs<;>rfl] at this;exact this
theorem afl (c0 a d e b f:V) (c op:Int) (s:af) (g:(bif okB c0 a d e b f then KA (xL c0) (xL a) (xI a) (xY a) (xL e) (xL b) (xI b) (xY b) (xL f) op s else false)=true):nQ eE 47 [.bxa 0 [c0,a,d,e,b,f,.int .i64 c,.int .i64 op],.str s] (.oq (ieq (kJ (xL c0) (xL a) (xL d) (xY a) op s) 0) (.out false (.tup []) [oV (qT (xL c0) op s) (qU (xL a) (xY a) op s) (qV (xL d) op s) (uW (xL e) c op s) (uX (xL b) (xY b) c op s) (uY (xL f) c op s) (uZ (xI a) (xL a) op s) (qW (xY a) op s) (u6 (xI b) (xL b) op s) (u7 (xY b) c op s) c (qX op c s)]) (.out true (gU c (kJ (xL c0) (xL a) (xL d) (xY a) op s)) [oV (xL c0) (xL a) (xL d) (xL e) (xL b) (xL f) (xI a) (xY a) (xI b) (xY b) c op])):=by
 obtain⟨h,g⟩:=oI g;unfold okB at h;rw[Kn] at h;rcases h with h|h
 ·exact J3 _ _ _ _ _ _ _ _ _ (by rw[h];exact g)
 obtain⟨rfl,rfl,rfl,rfl,rfl,rfl⟩:=okN_eq h;exact nil_x (r:=[.int .i64 c,.int .i64 op]) (ys:=[.str s]) (by simp[bare]) (by simp[bare]) (J3 (.sl 53 kR (some 1000001001) []) (.slz 1000001002 57 kZ [] (some 1000001502) 0 1 51 kE []) (.sl 59 kL (some 1000001003) []) (.sl 3 kI (some 1000001004) []) (.slz 1000001005 32 kW [] (some 1000001505) 0 0 3 kI []) (.sl 3 kI (some 1000001006) []) c op s g)
theorem N6:aZ eE rS3:=by
 unfold rS3;refine aZ.ny (fun args r h=>?_) Iw;all_goals (revert h;intro h;first|unfold rReadS at h)
 all_goals (split at h;rotate_left; · cases h)
 all_goals (simp only[aT,bP] at h;obtain⟨a,rfl⟩:=h)
 ·exact afl _ _ _ _ _ _ _ _ _ a
structure qh where
 rs:ah
 zs:ah
 ks:ah
 wr:ah
 we:ah
 wl:ah
 iz:Int
 yz:ah
 ie:Int
 ye:ah
 op:Int
def r0:qh:=⟨[],[],[],[],[],[],0,[],0,[],0⟩
noncomputable def qh.err (t:qh) (s:af):Int:=kJ t.rs t.zs t.ks t.yz t.op s
noncomputable def qh.step (t:qh) (a:Int) (s:af):qh:=
 ⟨qT t.rs t.op s,qU t.zs t.yz t.op s,qV t.ks t.op s,uW t.wr a t.op s,uX t.we t.ye a t.op s,uY t.wl a t.op s,uZ t.iz t.zs t.op s,qW t.yz t.op s,u6 t.ie t.we t.op s,u7 t.ye a t.op s,qX t.op a s⟩
noncomputable abbrev Uc (x:V):af:=aF (ai x 0)
noncomputable def ni:ah→Int→qh→qh×Int×Int
 |[],a,t=>(t,a,0)
 |x::xs,a,t=>if t.err (Uc x)=0 then ni xs (a+1) (t.step (a+1) (Uc x)) else(t,a+1,t.err (Uc x))
structure Good (t:qh):Prop where
 z:t.zs.length≤1024
 we:t.we.length=t.zs.length
 y:t.yz.length≤256
 ye:t.ye.length=t.yz.length
 r:t.rs.length≤4096
 wr:t.wr.length=t.rs.length
 k:t.ks.length≤1024
 wl:t.wl.length=t.ks.length
 op:0<t.op→0<t.zs.length
 i:0<t.zs.length→t.iz=(t.zs.length:Int)-1∧t.ie=(t.zs.length:Int)-1
theorem YX:Good r0:=⟨by decide,rfl,by decide,rfl,by decide,rfl,by decide,rfl,by decide,by decide⟩
theorem Good.ck {t:qh} (h:Good t) {s:af} (f:s.length≤4000000):KA t.rs t.zs t.iz t.yz t.wr t.we t.ie t.ye t.wl t.op s=true:=by obtain⟨m,e,j,l,o,k,n,i,g,a⟩:=h;unfold KA;rw[lK];refine⟨f,by omega,by omega,by omega,by omega,by omega,by omega,fun d=>?_⟩;have c:=g d;have b:=a c;exact⟨c,b.1,by omega,by rw[b.2,e]⟩
theorem nN {e n m:Int} (h:lT e n m=0):e=0∧n<m:=by
 unfold lT at h;split at h
 ·exact absurd h ‹_›
 rename_i a;split at h
 ·exact⟨by omega, ‹_›⟩
 cases h
theorem BK (zs yz xs:ah):(oF zs yz xs).length=zs.length:=by unfold oF oC;simp
theorem erWe_len (we ye:ah) (a:Int):(rD we ye a).length=we.length:=by unfold rD oC;simp
theorem BL (zs xs:ah):(tJ zs xs).length=zs.length+1:=by unfold tJ aX;simp
theorem znWe_len (we:ah) (a:Int):(AL we a).length=we.length+1:=by unfold AL aX;simp
theorem err_0 {t:qh} {s:af} (h:t.err s=0):(gz t.op s=4∨(gz t.op s=3∧0<t.op∧zl t.yz (dm s)=0)∨(¬0<t.op∧gz t.op s=0∧AF t.rs (tl1 (dm s))=0)∨(¬0<t.op∧gz t.op s=1∧vw t.zs (tl1 (dm s))=0)∨(¬0<t.op∧gz t.op s=2∧AJ t.ks (tl1 (dm s))=0))∧Al s=0∧Ns s=0:=by
 unfold qh.err kJ at h;by_cases d:Al s=0
 case neg=>rw[if_pos d] at h;exact absurd h d
 rw[if_neg (fun e=>e d)] at h;by_cases b:Ns s=0
 case neg=>rw[if_pos b] at h;exact absurd h b
 rw[if_neg (fun e=>e b)] at h;refine⟨?_,d,b⟩;unfold gz;by_cases j:ay (dm s)=0
 ·rw[if_pos j];exact .inl rfl
 rw[if_neg j] at h⊢;by_cases a:0<t.op
 ·rw[if_pos a] at h⊢
  exact .inr (.inl ⟨rfl,a,h⟩)
 rw[if_neg a] at h⊢;by_cases c:oU (aF (ai (aG (dm s) 0) 0)) FH=0
 case neg=>rw[if_pos c] at h;exact absurd h c
 rw[if_neg (fun e=>e c)] at h;obtain⟨l,i⟩:=BD _ _ (by decide) c;have i:mo (aF (ai (aG (dm s) 0) 0)) FH<3:=i;by_cases g:mo (aF (ai (aG (dm s) 0) 0)) FH=0
 ·rw[if_pos g] at h
  rw[g];exact .inr (.inr (.inl ⟨a,rfl,h⟩))
 rw[if_neg g] at h;by_cases f:mo (aF (ai (aG (dm s) 0) 0)) FH=1
 ·rw[if_pos f] at h
  rw[f];exact .inr (.inr (.inr (.inl ⟨a,rfl,h⟩)))
 rw[if_neg f] at h;have k:mo (aF (ai (aG (dm s) 0) 0)) FH=2:=by omega
 rw[k];exact .inr (.inr (.inr (.inr ⟨a,rfl,h⟩)))
theorem znEr_0 {zs xs:ah} (h:vw zs xs=0): ¬ay xs=0∧dK (aF (ai (aG xs 0) 0))=0∧kT (tl1 xs)=0∧ay zs<1024:=by
 unfold vw at h;by_cases a:ay xs=0
 ·rw[if_pos a] at h;cases h
 rw[if_neg a] at h;by_cases b:dK (aF (ai (aG xs 0) 0))=0
 case neg=>rw[if_pos b] at h;exact absurd h b
 rw[if_neg (fun e=>e b)] at h;exact⟨a,b,nN h⟩
theorem jf {t:qh} {a:Int} {s:af} {k:Nat} (b:gz t.op s=k):t.step a s=
  ⟨if k=0 then aX t.rs [Qn (tl1 (dm s))] else t.rs,if k=3 then oF t.zs t.yz (dm s) else if k=1 then tJ t.zs (tl1 (dm s)) else t.zs,if k=2 then aX t.ks [UD (tl1 (dm s))] else t.ks,if k=0 then aX t.wr [.int .i64 a] else t.wr,if k=3 then rD t.we t.ye a else if k=1 then AL t.we a else t.we,if k=2 then aX t.wl [.int .i64 a] else t.wl,if k=1 then ay t.zs else t.iz,if k=3 then aX t.yz [qz (dm s)] else if k=1 then[qz (tl1 (tl1 (dm s)))] else t.yz,if k=1 then ay t.we else t.ie,if k=3 then aX t.ye [.int .i64 a] else if k=1 then[.int .i64 a] else t.ye,if k=3 then jN (dm s) a else if k=1 then jN (tl1 (tl1 (dm s))) a else t.op⟩:=by
 unfold qh.step qT qU qV uW uX uY uZ qW u6 u7 qX;rw[b]
theorem Good.step {t:qh} (h:Good t) {e:Int} {s:af} (v:t.err s=0):Good (t.step e s):=by
 obtain⟨l,i,o,p,n,j,m,g,k,b⟩:=h;obtain⟨u,_,_⟩:=err_0 v;rcases u with a|⟨a,f,d⟩|⟨f,a,d⟩|⟨f,a,d⟩|⟨f,a,d⟩
 ·rw[jf a]
  exact⟨l,i,o,p,n,j,m,g,k,b⟩
 ·rw[jf a]
  have c:=(nN d).2;rw[aC] at c;have q:=k f;have r:=b q;refine⟨?_,?_,?_,?_,n,j,m,g,?_,?_⟩
  ·show(oF t.zs t.yz (dm s)).length≤1024;rw[BK];exact l
  ·show(rD t.we t.ye e).length=(oF t.zs t.yz (dm s)).length;rw[BK,erWe_len];exact i
  ·show(aX t.yz [qz (dm s)]).length≤256;unfold aX;rw[iW,Ec];omega
  ·show(aX t.ye [.int .i64 e]).length=(aX t.yz [qz (dm s)]).length;unfold aX;rw[iW,iW,Ec,Ec];omega
  ·intro _;show 0<(oF t.zs t.yz (dm s)).length;rw[BK];exact q
  intro _;show t.iz=((oF t.zs t.yz (dm s)).length:Int)-1∧t.ie=((oF t.zs t.yz (dm s)).length:Int)-1;rw[BK];exact r
 ·rw[jf a]
  have c:=(nN d).2;rw[aC] at c;refine⟨l,i,o,p,?_,?_,m,g,k,b⟩
  ·show(aX t.rs [Qn (tl1 (dm s))]).length≤4096;unfold aX;rw[iW,Ec];omega
  show(aX t.wr [.int .i64 e]).length=(aX t.rs [Qn (tl1 (dm s))]).length;unfold aX;rw[iW,iW,Ec,Ec];omega
 ·rw[jf a]
  have c:=(znEr_0 d).2.2.2;rw[aC] at c;refine⟨?_,?_,?_,rfl,n,j,m,g,?_,?_⟩
  ·show(tJ t.zs (tl1 (dm s))).length≤1024;rw[BL];omega
  ·show(AL t.we e).length=(tJ t.zs (tl1 (dm s))).length;rw[BL,znWe_len];omega
  ·show([qz (tl1 (tl1 (dm s)))]:ah).length≤256;simp
  ·intro _;show 0<(tJ t.zs (tl1 (dm s))).length;rw[BL];omega
  intro _;show ay t.zs=((tJ t.zs (tl1 (dm s))).length:Int)-1∧ay t.we=((tJ t.zs (tl1 (dm s))).length:Int)-1;rw[BL,aC,aC];omega
 rw[jf a];have c:=(nN d).2;rw[aC] at c;refine⟨l,i,o,p,n,j,?_,?_,k,b⟩
 ·show(aX t.ks [UD (tl1 (dm s))]).length≤1024;unfold aX;rw[iW,Ec];omega
 show(aX t.wl [.int .i64 e]).length=(aX t.ks [UD (tl1 (dm s))]).length;unfold aX;rw[iW,iW,Ec,Ec];omega
noncomputable def Nu (s:af):qh×Int×Int:=ni (kC s) 0 r0
noncomputable def UM (q:qh×Int×Int):Int:=if q.2.2≠0 then q.2.2 else if 0<q.1.op then 16 else 0
noncomputable def UN (q:qh×Int×Int):Int:=if q.2.2≠0 then q.2.1 else if 0<q.1.op then q.1.op else q.2.1
noncomputable def QH (s:af):ah:=(Nu s).1.rs
noncomputable def QI (s:af):ah:=(Nu s).1.zs
noncomputable def QJ (s:af):ah:=(Nu s).1.ks
noncomputable def QK (s:af):ah:=(Nu s).1.wr
noncomputable def QL (s:af):ah:=(Nu s).1.we
noncomputable def QM (s:af):ah:=(Nu s).1.wl
noncomputable def alIz (s:af):Int:=(Nu s).1.iz
noncomputable def alYz (s:af):ah:=(Nu s).1.yz
noncomputable def alIe (s:af):Int:=(Nu s).1.ie
noncomputable def alYe (s:af):ah:=(Nu s).1.ye
noncomputable def alOp (s:af):Int:=(Nu s).1.op
noncomputable def ZE (s:af):Int:=UM (Nu s)
noncomputable def alL (s:af):Int:=UN (Nu s)
noncomputable def rAllS:aD:=fun a=>match a with|[.bxa 0 [c0,c1,c2,c3,c4,c5,.int .i64 ln,.int .i64 op],.str s]=>some (bif okN c0 c1 c2 c3 c4 c5 then ak (ieq ln 0) (ieq op 0) else false,.oq (aR 1048576 (aB s)) (.out true (gU 0 9) [[.nilsl,.nilsl,.nilsl,.nilsl,.nilsl,.nilsl,.int .i64 0,.int .i64 0]]) (.oq (ieq (ay (kC s)) 0) (.out false (.tup []) [[.nilsl,.nilsl,.nilsl,.nilsl,.nilsl,.nilsl,.int .i64 0,.int .i64 0]]) (.oq (ieq (ZE s) 0) (.out false (.tup []) [bxn (QH s) (QI s) (QJ s) (QK s) (QL s) (QM s) (alIz s) (alYz s) (alIe s) (alYe s) (alL s) (alOp s)]) (.out true (gU (alL s) (ZE s)) [bxn (QH s) (QI s) (QJ s) (QK s) (QL s) (QM s) (alIz s) (alYz s) (alIe s) (alYe s) (alL s) (alOp s)]))))|_=>none
noncomputable def rS4:List (Nat×aD):=(GX+23,rAllS)::rS3
noncomputable def Sl:=fun F f n g c e d a b K=>(qI eE rS3 F 3 23 [V.bxa 0 [],V.nilsl] [1,0,1,0] f K n (fB 43 [(0,V.box 1000000000 0),(1,V.str g),(12,V.sl 9 [Kd.str] none c),(13,V.int .i64 e),(14,V.int .i64 d)] [(1000000000,[V.nilsl,V.nilsl,V.nilsl,V.nilsl,V.nilsl,V.nilsl,V.int .i64 a,V.int .i64 b])]):Option V)
noncomputable def BN:=fun F q n r m o p i l d c e h k a b j f g K=>(qI eE rS3 F 3 23 [V.bxa 0 [],V.nilsl] [1,0,1,0] q K n (fB 43 [(0,V.box 1000000000 0),(1,V.str r),(12,V.sl 9 [Kd.str] none m),(13,V.int .i64 o),(14,V.int .i64 p)] [(1000000000,[V.sl 53 kR (some 10000) i,V.slz 10001 57 kZ l (some 15001) d 1 51 kE c,V.sl 59 kL (some 10002) e,V.sl 3 [Kd.int .i64] (some 10003) h,V.slz 10004 32 kW k (some 15004) a 0 3 [Kd.int .i64] b,V.sl 3 [Kd.int .i64] (some 10005) j,V.int .i64 f,V.int .i64 g])]):Option V)
theorem D8 (F s) (K:V→Option V):
 bE eE (bC eE rS3 F 3) F 23 [V.bxa 0 [V.nilsl,V.nilsl,V.nilsl,V.nilsl,V.nilsl,V.nilsl,V.int .i64 0,V.int .i64 0],V.str s] K=
 let A:=V.int .i64 0;sel (aR 1048576 (aB s)) (K (V.out true (V.iface 75 (V.agg [A,V.int .i64 9])) [[V.nilsl,V.nilsl,V.nilsl,V.nilsl,V.nilsl,V.nilsl,A,A]])) (sel (ax (aB s) 4000000) (Sl F [] F s (kC s) (ay (kC s)) 0 0 0 K) none):=by kernel_rfl
theorem yQ (F n f d e c b a K):
 Sl F [] (n+1) f d e c b a K=
 let A:=aF (ai (aG d c) 0);let B:=bg .i64 b 1;let C:=V.int .i64 a;let E:=[Kd.int .i64];let D:=kJ [] [] [] [] a A;sel (aR c e) (sel (ak (ax 0 c) (aR c (ay d))) (sel (KA [] [] 0 [] [] [] 0 [] [] a A) (sel (ieq D 0) (BN F [] n f d e (bg .i64 c 1) (qT [] a A) (qU [] [] a A) (uZ 0 [] a A) (qW [] a A) (qV [] a A) (uW [] B a A) (uX [] [] B a A) (u6 0 [] a A) (u7 [] B a A) (uY [] B a A) B (qX a B A) K) (K (V.out true (V.iface 75 (V.agg [V.int .i64 B,V.int .i64 D])) [[V.sl 53 kR (some 1001) [],V.slz 1002 57 kZ [] (some 1502) 0 1 51 kE [],V.sl 59 kL (some 1003) [],V.sl 3 E (some 1004) [],V.slz 1005 32 kW [] (some 1505) 0 0 3 E [],V.sl 3 E (some 1006) [],V.int .i64 B,C]]))) none) none) (sel (aR 0 a) (K (V.out true (V.iface 75 (V.agg [C,V.int .i64 16])) [[V.nilsl,V.nilsl,V.nilsl,V.nilsl,V.nilsl,V.nilsl,C,C]])) (K (V.out false (V.tup []) [[V.nilsl,V.nilsl,V.nilsl,V.nilsl,V.nilsl,V.nilsl,V.int .i64 b,C]]))):=by kernel_rfl
theorem yR (F n q o p m e d h b i j f g c k l a K):
 BN F [] (n+1) q o p m e d h b i j f g c k l a K=
 let A:=aF (ai (aG o m) 0);let C:=bg .i64 l 1;let D:=V.slz 1002 57 kZ d (some 1502) h 1 51 kE b;let E:=V.int .i64 a;let J:=V.sl 53 kR (some 1001) e;let L:=V.sl 59 kL (some 1003) i;let M:=[Kd.int .i64];let B:=V.slz 1005 32 kW f (some 1505) g 0 3 M c;let G:=V.sl 3 M (some 1004) j;let H:=V.sl 3 M (some 1006) k;let I:=kJ e d i b a A;sel (aR m p) (sel (ak (ax 0 m) (aR m (ay o))) (sel (KA e d h b j f g c k a A) (sel (ieq I 0) (BN F [] n q o p (bg .i64 m 1) (qT e a A) (qU d b a A) (uZ h d a A) (qW b a A) (qV i a A) (uW j C a A) (uX f c C a A) (u6 g f a A) (u7 c C a A) (uY k C a A) C (qX a C A) K) (K (V.out true (V.iface 75 (V.agg [V.int .i64 C,V.int .i64 I])) [[J,D,L,G,B,H,V.int .i64 C,E]]))) none) none) (sel (aR 0 a) (K (V.out true (V.iface 75 (V.agg [E,V.int .i64 16])) [[J,D,L,G,B,H,E,E]])) (K (V.out false (V.tup []) [[J,D,L,G,B,H,V.int .i64 l,E]]))):=by kernel_rfl
theorem xK (F s) (K:V→Option V):
 bE eE (bC eE rS4 F 3) F 9 [V.str s] K=
 let A:=K (tbV (QH s) (QI s) (QJ s) (QK s) (QL s) (QM s) 0 0);let B:=K (nlV (alL s) (ZE s));let C:=K (nlV 0 9);let D:=K (nlV 0 0);let E:=both C C;let G:=both D D;let H:=both A A;let I:=both B B;sel (aR 1048576 (aB s)) (both (both (both C E) (both E (both E C))) (both (both (both C E) C) (both E C))) (sel (ieq (ay (kC s)) 0) (both (both (both D G) (both G (both G D))) (both (both (both D G) D) (both G D))) (sel (ieq (ZE s) 0) (both (both (both A H) (both H (both H A))) (both (both (both A H) A) (both H A))) (both (both (both B I) (both I (both I B))) (both (both (both B I) B) (both I B))))):=by kernel_rfl
end Nt.Ev.YtjcencojgajgdaaGreatDoor.Rr
namespace Nt.Lin
open Go Nt.Ev
theorem Jk: ∀(s a:af),∀l∈zk s a,l.length≤a.length+s.length
 |[],a,l,h=>by
  unfold zk at h
  cases a with
  |nil=>cases h
  |cons c t=>simp only[Ni] at h;subst h;simp
 |c::t,a,l,h=>by
  unfold zk at h
  cases b:c==10 with
  |true=>
   rw[b,lC,ZA] at h;rcases h with rfl|h
   ·rw[dN];omega
   have:=Jk t [] l h;rw[mr] at this;rw[dN];omega
  |false=>rw[b,jW] at h;have:=Jk t (a++[c]) l h;rw[iW,Ec] at this;rw[dN];omega
end Nt.Lin
namespace Nt.Ev.YtjcencojgajgdaaGreatDoor.Rr
open Go Go.RowKit Nt Nt.Num Nt.Civil Nt.Fld Go.Proofs.YtjcencojgajgdaaGreatDoor Nt.Ev.YtjcencojgajgdaaGreatDoor Nt.Ev.YtjcencojgajgdaaGreatDoor.Lk
variable [kH]
theorem afm (s:af) (c:s.length≤4000000): ∀x∈kC s,(Uc x).length≤4000000:=by intro x a;unfold kC Nt.Ev.bI at a;obtain⟨l,b,rfl⟩:=List.mem_map.1 a;have:=Nt.Lin.Jk s [] l b;rw[mr] at this;show l.length≤4000000;omega
theorem linL_few (s:af):(kC s).length≤s.length:=by unfold kC;rw[sM,Nt.Lin.Vj (s.length+1) s (by omega),kS];exact Nt.Lin.Vk (s.length+1) s (by omega)
theorem I1 {xs:ah} {i:Nat} (h:i<xs.length):xs.drop i=aG xs (i:Int)::xs.drop (i+1):=by
 rw[abg h,fo];congr 1;simp[h]
theorem get_mem {xs:ah} {i:Nat} (h:i<xs.length):aG xs (i:Int)∈xs:=by rw[fo];simp[h]
noncomputable def H6 (q:qh×Int×Int):V:=sel (ieq (UM q) 0) (.out false (.tup []) [bxn q.1.rs q.1.zs q.1.ks q.1.wr q.1.we q.1.wl q.1.iz q.1.yz q.1.ie q.1.ye (UN q) q.1.op]) (.out true (gU (UN q) (UM q)) [bxn q.1.rs q.1.zs q.1.ks q.1.wr q.1.we q.1.wl q.1.iz q.1.yz q.1.ie q.1.ye (UN q) q.1.op])
theorem l6 {x:V} {xs:ah} {a:Int} {t:qh} (h:t.err (Uc x)=0):ni (x::xs) a t=ni xs (a+1) (t.step (a+1) (Uc x)):=by show(if t.err (Uc x)=0 then _ else _)=_;rw[if_pos h]
theorem uz {x:V} {xs:ah} {a:Int} {t:qh} (h:t.err (Uc x)≠0):ni (x::xs) a t=(t,a+1,t.err (Uc x)):=by show(if t.err (Uc x)=0 then _ else _)=_;rw[if_neg h]
theorem al_loop (F:Nat) (s:af) (xs:ah) (m:xs.length≤4000000) (e: ∀x∈xs,(Uc x).length≤4000000): ∀(j i n:Nat) (t:qh),i+j=xs.length→j<n→Good t→
  BN F [] n s xs (ay xs) (i:Int) t.rs t.zs t.iz t.yz t.ks t.wr t.we t.ie t.ye t.wl (i:Int) t.op some=some (H6 (ni (xs.drop i) i t)):=by
 intro j;induction j with
 |zero=>
  intro i n t f g c;obtain⟨n,rfl⟩: ∃k,n=k+1:=⟨n-1,by omega⟩
  (rw[yR];(conv=>zeta);rw[aI (bB (by rw[aC];omega)),abj (by omega)])
  unfold ni H6 UM UN;by_cases b:0<t.op
  ·rw[av (bu b)]
   simp only[ne_eq,abx,CK,if_pos b];rfl
  rw[aI (bB (by omega))];simp only[ne_eq,abx,CK,if_neg b];rfl
 |succ j l=>
  intro i n t f g c;obtain⟨n,rfl⟩: ∃k,n=k+1:=⟨n-1,by omega⟩
  have d:i<xs.length:=by omega
  have h:bg .i64 (i:Int) 1=((i+1:Nat):Int):=by rw[cr (by omega)];omega
  (rw[yR];(conv=>zeta);rw[av (bu (by rw[aC];omega)),av (by rw[aM,aA,bq,aC];omega),av (c.ck (e _ (get_mem d))),I1 d,h])
  by_cases a:t.err (Uc (aG xs (i:Int)))=0
  ·rw[l6 a,show((i:Int)+1)=((i+1:Nat):Int) by omega,←l (i+1) n (t.step ((i+1:Nat):Int) (Uc (aG xs (i:Int)))) (by omega) (by omega) (c.step a)]
   exact av (bA a)
  rw[uz a];refine(aI (bH a)).trans ?_;unfold H6 UM UN;simp only[ne_eq,a,abY,if_true];rw[aI (bH a),show((i:Int)+1)=((i+1:Nat):Int) by omega];rfl
theorem al_body (s:af) (g:s.length≤1048576) (e: ¬ay (kC s)=0):bE eE (bC eE rS3 ((kC s).length+1) 3) ((kC s).length+1) 23 [V.bxa 0 [V.nilsl,V.nilsl,V.nilsl,V.nilsl,V.nilsl,V.nilsl,V.int .i64 0,V.int .i64 0],V.str s] some=some (H6 (Nu s)):=by
 have f:=linL_few s;have b:=afm s (by omega);rw[aC] at e;have d:0<(kC s).length:=by omega
 (rw[D8];(conv=>zeta);rw[aI (bB (by rw[aJ];omega)),av (bn (by rw[aJ];omega))])
 (rw[yQ];(conv=>zeta);rw[av (bu (by rw[aC];omega)),av (by rw[aM,aA,bq,aC];omega),av (show KA [] [] 0 [] [] [] 0 [] [] 0 (aF (ai (aG (kC s) 0) 0))=true from YX.ck (b _ (get_mem (i:=0) d))),show bg .i64 0 1=((0+1:Nat):Int) from rfl])
 unfold Nu;have c:=I1 (xs:=kC s) (i:=0) d;rw[WX] at c;refine Eq.symm (Eq.trans (show some (H6 (ni (kC s) 0 r0))=some (H6 (ni (aG (kC s) ((0:Nat):Int)::(kC s).drop 1) 0 r0)) by rw[←c]) ?_);by_cases a:r0.err (Uc (aG (kC s) ((0:Nat):Int)))=0
 ·rw[l6 a]
  have:=al_loop ((kC s).length+1) s (kC s) (by omega) b ((kC s).length-1) 1 (kC s).length (r0.step 1 (Uc (aG (kC s) ((0:Nat):Int)))) (by omega) (by omega) (YX.step a);refine Eq.trans ?_ (av (bA a)).symm;exact this.symm
 rw[uz a];refine Eq.trans ?_ (aI (bH a)).symm;unfold H6 UM UN;simp only[ne_eq,a,abY,if_true];rw[aI (bH a)];rfl
theorem rAllS_ok (c0 n e i m j:V) (k op:Int) (s:af) (c:(bif okN c0 n e i m j then ak (ieq k 0) (ieq op 0) else false)=true):nQ eE 23 [.bxa 0 [c0,n,e,i,m,j,.int .i64 k,.int .i64 op],.str s] (.oq (aR 1048576 (aB s)) (.out true (gU 0 9) [[.nilsl,.nilsl,.nilsl,.nilsl,.nilsl,.nilsl,.int .i64 0,.int .i64 0]]) (.oq (ieq (ay (kC s)) 0) (.out false (.tup []) [[.nilsl,.nilsl,.nilsl,.nilsl,.nilsl,.nilsl,.int .i64 0,.int .i64 0]]) (.oq (ieq (ZE s) 0) (.out false (.tup []) [bxn (QH s) (QI s) (QJ s) (QK s) (QL s) (QM s) (alIz s) (alYz s) (alIe s) (alYe s) (alL s) (alOp s)]) (.out true (gU (alL s) (ZE s)) [bxn (QH s) (QI s) (QJ s) (QK s) (QL s) (QM s) (alIz s) (alYz s) (alIe s) (alYe s) (alL s) (alOp s)])))):=by
 obtain⟨h,c⟩:=oI c;obtain⟨l,g⟩:=aN c;rw[aO] at l g;subst l;subst g;obtain⟨rfl,rfl,rfl,rfl,rfl,rfl⟩:=okN_eq h;refine nQ.oq (fun h=>nQ.out (fT iZ N6 1 3 ?_)) (fun h=>nQ.oq (fun b=>nQ.out (fT iZ N6 1 3 ?_)) (fun b=>?_))
 ·(rw[D8];(conv=>zeta);rw[av h])
 ·have f:s.length≤1048576:=by
   have: ¬(1048576<aB s):=fun a=>by rw[bu a] at h;cases h
   rw[aJ] at this;omega
  rw[aO] at b
  (rw[D8];(conv=>zeta);rw[aI h,av (bn (by rw[aJ];omega)),yQ];(conv=>zeta);rw[aI (bB (by omega)),aI (bB (by omega))])
 have f:s.length≤1048576:=by
  have: ¬(1048576<aB s):=fun a=>by rw[bu a] at h;cases h
  rw[aJ] at this;omega
 have d: ¬ay (kC s)=0:=fun a=>by rw[bA a] at b;cases b
 exact LA N6 _ 3 (al_body s f d)
theorem N7:aZ eE rS4:=by
 unfold rS4;refine aZ.ny (fun args r h=>?_) N6;all_goals (revert h;intro h;first|unfold rAllS at h)
 all_goals (split at h;rotate_left; · cases h)
 all_goals (simp only[aT,bP] at h;obtain⟨a,rfl⟩:=h)
 ·exact rAllS_ok _ _ _ _ _ _ _ _ _ a
noncomputable def Ud (s:af):Int:=if 1048576<s.length then 9 else ZE s
noncomputable def Ee (s:af):Int:=if 1048576<s.length then 0 else if ZE s=0 then 0 else alL s
noncomputable def KB (s:af):ah:=if Ud s=0 then QH s else[]
noncomputable def KD (s:af):ah:=if Ud s=0 then QI s else[]
noncomputable def KF (s:af):ah:=if Ud s=0 then QJ s else[]
noncomputable def UO (s:af):ah:=if Ud s=0 then QK s else[]
noncomputable def UQ (s:af):ah:=if Ud s=0 then QL s else[]
noncomputable def UR (s:af):ah:=if Ud s=0 then QM s else[]
theorem wo {G:aW} {v:Value} {e:Nat} {sh:List Kd} (h:aV G .nilsl v):aV G (.sl e sh none []) v:=by unfold aV at h;subst h;unfold aV;exact⟨none,0,rfl,kG _,.inl rfl⟩
theorem Sm {G:aW} {v:Value} {f k g:Nat} {c i e:List Kd} (h:aV G (.agg [.nilsl,.nilsl,.nilsl]) v):aV G (.agg [.sl f c none [],.sl k i none [],.sl g e none []]) v:=by unfold aV at h;obtain⟨a,rfl,h⟩:=h;unfold jm at h;obtain⟨o,t1,rfl,j,h⟩:=h;unfold jm at h;obtain⟨n,t2,rfl,b,h⟩:=h;unfold jm at h;obtain⟨m,l,rfl,d,h⟩:=h;unfold aV;refine⟨_,rfl,?_⟩;unfold jm;refine⟨_,_,rfl,wo j,?_⟩;unfold jm;refine⟨_,_,rfl,wo b,?_⟩;unfold jm;exact⟨_,_,rfl,wo d,h⟩
theorem Vo {E:Env} {f:Nat} {args:ah} {l w:Int} (h:aj E f args (nlV l w)):aj E f args (tbV [] [] [] [] [] [] l w):=by intro G w vs g e c;refine(h G w vs g e c).mono ?_;rintro o w' ⟨v,G',rfl,i,a,rfl,b,k⟩;refine⟨_,G',rfl,i,a,rfl,?_,k⟩;obtain⟨n,t1,rfl,j,b⟩:=b.cons_inv;obtain⟨m,t2,rfl,d,b⟩:=b.cons_inv;exact .cons (Sm j) (.cons (Sm d) b)
theorem alE_nil {s:af} (h:ay (kC s)=0):Nu s=(r0,0,0):=by rw[aC] at h;have:kC s=[]:=Zw (by omega);unfold Nu;rw[this];rfl
theorem tbP_ev (s:af):aj eE 9 [.str s] (tbV (KB s) (KD s) (KF s) (UO s) (UQ s) (UR s) (Ee s) (Ud s)):=by
 unfold KB KD KF UO UQ UR;by_cases c:1048576<s.length
 ·have e:Ud s=9:=if_pos c
  have d:Ee s=0:=if_pos c;rw[e,d];refine Vo (au iZ N7 1 3 ?_)
  (rw[xK];(conv=>zeta);rw[av (bu (by rw[aJ];omega))])
  simp only[j5]
 have e:Ud s=ZE s:=if_neg c;have d:Ee s=if ZE s=0 then 0 else alL s:=if_neg c
 rw[e,d];by_cases b:ay (kC s)=0
 ·have f:=alE_nil b
  have a:ZE s=0:=by unfold ZE;rw[f];rfl
  rw[if_pos a,if_pos a,if_pos a,if_pos a,if_pos a,if_pos a,if_pos a,a];unfold QH QI QJ QK QL QM;rw[f];refine Vo (au iZ N7 1 3 ?_)
  (rw[xK];(conv=>zeta);rw[aI (bB (by rw[aJ];omega)),av (bA b)])
  simp only[j5]
 by_cases a:ZE s=0
 ·rw[if_pos a,if_pos a,if_pos a,if_pos a,if_pos a,if_pos a,if_pos a,a]
  refine au iZ N7 1 3 ?_
  (rw[xK];(conv=>zeta);rw[aI (bB (by rw[aJ];omega)),aI (bH b),av (bA a)])
  simp only[j5]
 rw[if_neg a,if_neg a,if_neg a,if_neg a,if_neg a,if_neg a,if_neg a];refine Vo (au iZ N7 1 3 ?_)
 (rw[xK];(conv=>zeta);rw[aI (bB (by rw[aJ];omega)),aI (bH b),aI (bH a)])
 simp only[j5]
end Nt.Ev.YtjcencojgajgdaaGreatDoor.Rr
