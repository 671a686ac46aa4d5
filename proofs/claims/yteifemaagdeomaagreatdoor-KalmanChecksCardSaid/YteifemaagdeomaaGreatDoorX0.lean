/-
  PURE: one law of package anatomy, from another seat of mine.
  Conditions: none.
-/
import Derived.Test.YteifemaagdeomaaGreatDoorC1
import Derived.Test.YteifemaagdeomaaGreatDoorGp
import Derived.Test.YteifemaagdeomaaGreatDoorC8
set_option linter.unusedVariables false
section
namespace Go.Proofs.YteifemaagdeomaaGreatDoor
open Go Go.Mach
theorem ads (N:Nat) (a b:Nat) (k:Ky9):Ll N a b k=k (decide (cn (some a)=cn (some b))):=by unfold Ll ZQ;simp only[Jn,Ay,Gt,KZ];rw[<- aay a b (.inr aHT)];rfl
end Go.Proofs.YteifemaagdeomaaGreatDoor
end
section
namespace Go.Proofs.YteifemaagdeomaaGreatDoor
open Go Go.Mach
set_option maxRecDepth 100000
theorem WX {N:Nat} (hN:1000<=N) (k:Ky9):sQ0 N k=k true:=by
 obtain⟨M,rfl⟩:∃ M,N=M+1000:=⟨N - 1000,by omega⟩
 kernel_rfl
end Go.Proofs.YteifemaagdeomaaGreatDoor
end
section
namespace Go.Proofs.YteifemaagdeomaaGreatDoor
open Go Go.Mach Ieee
theorem alj {N:Nat} (hN:1000<=N) (k:Ky1):Pm N 1 k=k false (ak 1):=IZ (N:=N) 1 (by decide) (uT hN (by decide)) (by omega) k
theorem arU (a b:Nat):flt (some a) (some b)=((Ieee.double.read a).order (Ieee.double.read b)==some .lt):=rfl
theorem aoU (d:Datum):W64 (Ieee.double.write d):=by
 cases d with
 | number s m i=>exact O2 s m i
 | infinity s=>
  have:Ieee.double.write (.infinity s)=Ieee.double.word s 9218868437227405312:=by rw[<- sV]; rfl
  rw[this]; exact JQ s (by decide)
 | nan s f=>
  have:Ieee.double.write (.nan s f)=Ieee.double.word s (9218868437227405312+f%4503599627370496):=by rw[<- sV,<- C0]; rfl
  rw[this]; exact JQ s (by omega)
def aqQ (xs:List Fl):Nat->Fl
 | 0=>some 0
 | n+1=>fmm true (aqQ xs n) (Nu (xs.getD n none))
def GE1 (x:Fl):Prop:=∃ b,x=some b/\W64 b/\(Ieee.double.read b=.infinity false \/ ∃ m i,Ieee.double.read b=.number false m i/\4503599627370496<=m/\m<9007199254740992 /\ -52<=i)
def Dv (x:Fl):Prop:=∃ b,x=some b/\(Ieee.double.read b=.infinity false \/ ∃ m i,Ieee.double.read b=.number false m i/\m ≠ 0)
def arV (a b c:Fl):Int:=cond (!gu [a,b,c]) 4 (cond (feq a (some 0)&&(feq b (some 0)&&feq c (some 0))) 251 0)
def arR (f g:K4->Bool):Prop:=∃ a b c d n,(a.isSome=true/\b.isSome=true/\c.isSome=true/\d.isSome=true)/\(∀ κ,f κ=κ a b c d n)/\(∀ κ,g κ=κ a b c d n)
set_option maxRecDepth 4000
theorem aqR {a0 a1 a2 a3 a4 a5 a6 a7 a8:Fl} (h:gu [a0,a1,a2,a3,a4,a5,a6,a7,a8]=true):chk 3 3 [a0,a1,a2,a3,a4,a5,a6,a7,a8]=0:=yG.2 ⟨by decide,rfl,h⟩
set_option maxRecDepth 4000
theorem aoT {b:Nat} (hb:W64 b) {s:Bool} (h:Ieee.double.read b=.infinity s):Nu (some b)=some 9218868437227405312:=by
 unfold Format.read at h;simp only[o4,C0,sV]at h;unfold W64 at hb;split at h
 ·cases h
 ·split at h
  ·cases h
  ·split at h
   ·rename_i h1 h2 h3;show qx (b%9223372036854775808)=_;have:b%9223372036854775808=9218868437227405312:=by omega
    rw[this]; decide
   ·cases h
theorem ard {x y:Fl} (hx:kA x=true) (hy:Dv y):Nn (fdiv x y):=by
 obtain⟨a,s,m,i,rfl,ha⟩:=C7 hx;obtain⟨b,rfl,hb⟩:=hy;show Nn (((Ieee.double.read a).quotient (Ieee.double.fractionBits+2) (Ieee.double.read b)).map Ieee.double.write);rw[ha];rcases hb with hb | ⟨n,j,hb,hn⟩
 ·rw[hb]; exact GI _ _ _
 ·rw[hb]; simp only[Datum.quotient,if_neg hn]; exact GI _ _ _
end Go.Proofs.YteifemaagdeomaaGreatDoor
end
section
namespace Go.Proofs.YteifemaagdeomaaGreatDoor
open Go Go.Mach Ieee
theorem L0 {N n i j:Nat} (hn:n<=12) (hi:i<n) (hj:j<n) {l:List Fl} (h:l.length=n*n) (k:Kz2):Pb N n n l i j k=k (elt l n i j):=by obtain⟨h1,h2⟩:=zj (by omega:n<=1000) hi hj;have h3:=LV hi hj;unfold Pb Y1 elt;rw[zi,ac h1,ac h2,h,aFC,ac aFx]
theorem I3 {N n i j:Nat} (hn:n<=12) (hi:i<n) (hj:j<n) {l:List Fl} (h:l.length=n*n) (k:Kz2):aep N n n l i j k=k (elt l n i j):=by obtain⟨h1,h2⟩:=zj (by omega:n<=1000) hi hj;have h3:=LV hi hj;unfold aep amB elt;rw[zi,ac h1,ac h2,h,aFC,ac aFx]
def E8 (n:Nat) (l:List Fl):Bool:=JX (λi=>JX (λj=>decide (cn (elt l n i j)=cn (elt l n j i))) i) n
theorem ai3 {N n:Nat} (hN:1000<=N) (hn:n<=12) {l:List Fl} (h:l.length=n*n) (hf:gu l=true) (k:Ky9):aju N n n l k=k (E8 n l):=by
 unfold aju ahm;rw[w9 hN,LA hn h hf,show(((0:Int) != 0)==false)=true from rfl,aFB];have:((n:Int) != (n:Int))=false:=by simp
 rw[this,aFA];have hk:k (E8 n l)=cond (E8 n l) (k true) (k false):=by cases E8 n l <;> rfl
 rw[hk];refine sW (λt:Nat=>(t:Int)) (λi=>JX (λj=>decide (cn (elt l n i j)=cn (elt l n j i))) i) n (by omega) ?_ ?_
 ·intro i hi K;unfold MF;dsimp only;rw[aFy (by omega:(i:Int)<(n:Int)),aFB];refine(sW (λt:Nat=>(t:Int)) (λj=>decide (cn (elt l n i j)=cn (elt l n j i))) i (N:=N) (by omega) (ex:=k false) (out:=K (((i+1:Nat):Int))) ?_ ?_:_)
  ·intro j hj K';have hj2:j<n:=by omega
   unfold MG;dsimp only;rw[aFy (by omega:(j:Int)<(i:Int)),aFB,L0 hn hi hj2 h,L0 hn hj2 hi h];unfold Po;dsimp only;by_cases he:cn (elt l n i j)=cn (elt l n j i)
   ·rw[aFy he,show(!true)=false from rfl,aFA,aFB,ac aFw];rfl
   ·rw[aFz he,show(!false)=true from rfl,aFB,aFA]
  ·intro K';unfold MG;dsimp only;rw[aFz (by omega:¬(i:Int)<(i:Int)),aFA,ac aFw];rfl
 ·intro K;unfold MF;dsimp only;rw[aFz (by omega:¬(n:Int)<(n:Int)),aFA]
theorem W_ {N:Nat} (r c:Int) (n:Int) (k:Kz0):Vm N r c n k=k (if (0<=r/\r<=12)/\(0<=c/\c<=12)then(if n=r*c then 0 else 3)else 1):=by
 unfold Vm ZM;by_cases h1:r<0
 ·rw[aFy h1,if_neg (by omega)]; rfl
 ·rw[aFz h1];by_cases h2:r>12
  ·rw[aFy h2,if_neg (by omega)]; rfl
  ·rw[aFz h2];by_cases h3:c<0
   ·rw[aFy h3,if_neg (by omega)]; rfl
   ·rw[aFz h3];by_cases h4:c>12
    ·rw[aFy h4,if_neg (by omega)]; rfl
    ·have hr:0<=r/\r<=12:=by omega
     have hc:0<=c/\c<=12:=by omega
     rw[aFz h4,if_pos ⟨hr,hc⟩,ajj hr hc];by_cases h5:n=r*c
     ·have:(n != r*c)=false:=by simp[h5]
      rw[this,if_pos h5]; rfl
     ·have:(n != r*c)=true:=by simp[h5]
      rw[this,if_neg h5]; rfl
theorem OH {N:Nat} (hN:1000<=N) (r c:Int) (l:List Fl) (k:Kz0):Pj N r c l k=k (chk r c l):=by
 unfold Pj Zo chk;rw[W_];by_cases h1:(0<=r/\r<=12)/\(0<=c/\c<=12)
 ·rw[if_pos h1,if_pos h1];by_cases h2:(l.length:Int)=r*c
  ·have h3:=UL h1.1 h1.2;have h6:l.length<=144:=by rw[<- h2]at h3; omega
   rw[if_pos h2,if_pos h2,show((0:Int) != 0)=false from rfl,aFA,A_ l ⟨by omega,by omega⟩];cases gu l <;> rfl
  ·rw[if_neg h2,if_neg h2]; rfl
 ·rw[if_neg h1,if_neg h1]; rfl
theorem adv {N n:Nat} (hN:1000<=N) (hn:n<=12) {l:List Fl} (h:l.length=n*n) (hf:gu l=true) (k:Kz0):ajr N n n l k=k (if E8 n l=true then 0 else 91):=by
 unfold ajr ahk;rw[OH hN,LA hn h hf,show((0:Int) != 0)=false from rfl,aFA];have:((n:Int) != (n:Int))=false:=by simp
 rw[this,aFA];have hk:k (if E8 n l=true then 0 else 91)=cond (E8 n l) (k 0) (k 91):=by cases E8 n l <;> rfl
 rw[hk];refine sW (λt:Nat=>(t:Int)) (λi=>JX (λj=>decide (cn (elt l n i j)=cn (elt l n j i))) i) n (by omega) ?_ ?_
 ·intro i hi K;unfold MI;dsimp only;rw[aFy (by omega:(i:Int)<(n:Int)),aFB];refine(sW (λt:Nat=>(t:Int)) (λj=>decide (cn (elt l n i j)=cn (elt l n j i))) i (N:=N) (by omega) (ex:=k 91) (out:=K (((i+1:Nat):Int))) ?_ ?_:_)
  ·intro j hj K';have hj2:j<n:=by omega
   unfold MJ;dsimp only;rw[aFy (by omega:(j:Int)<(i:Int)),aFB,I3 hn hi hj2 h,I3 hn hj2 hi h,L6];by_cases he:cn (elt l n i j)=cn (elt l n j i)
   ·rw[aFy he,show(!true)=false from rfl,aFA,aFB,ac aFw];rfl
   ·rw[aFz he,show(!false)=true from rfl,aFB,aFA]
  ·intro K';unfold MJ;dsimp only;rw[aFz (by omega:¬(i:Int)<(i:Int)),aFA,ac aFw];rfl
 ·intro K;unfold MI;dsimp only;rw[aFz (by omega:¬(n:Int)<(n:Int)),aFA]
theorem aax {x:Fl} (h:kA x=true):cn x=x:=by obtain⟨b,rfl,hb⟩:=Z1 h;simp only[cn,hb]; rfl
theorem agE {n:Nat} {l:List Fl} (h:l.length=n*n) (hf:gu l=true) (hs:E8 n l=true):ahv n l:=by
 have key:∀ i j,j<i->i<n->elt l n i j=elt l n j i:=by
  intro i j hj hi;have h1:=yC.1 (yC.1 hs i hi) j hj;have h2:=aFE h1;have hj2:j<n:=by omega
  have e1:=LV hi hj2;have e2:=LV hj2 hi;rw[aax (x:=elt l n i j) (tz hf (by omega)),aax (x:=elt l n j i) (tz hf (by omega))]at h2;exact h2
 intro a b ha hb;show zL (ofE (elt l n a b))=zL (ofE (elt l n b a));rcases aHK a b with h1 | h1 | h1
 ·rw[key b a h1 hb]
 ·rw[h1]
 ·rw[key a b h1 ha]
def EG (x:List Fl) (r c:Int) (l:List Fl):Int:=
 if chk r c l ≠ 0 then chk r c l else if r ≠ c then 3 else if (x.length:Int) ≠ r then 3 else if gu x=false then 4 else if E8 r.toNat l=false then 150 else if Xm r.toNat l=false then 151 else 0
theorem KQ {x:List Fl} {r c:Int} {l:List Fl} (h:EG x r c l=0):∃ n:Nat,n<=12/\r=n/\c=n/\x.length=n/\l.length=n*n/\gu x=true/\gu l=true/\E8 n l=true/\Xm n l=true:=by
 unfold EG at h;split at h
 ·exact absurd h (by assumption)
 ·rename_i h0;have h0:chk r c l=0:=by simpa using h0
  have q:=yG.1 h0;split at h
  ·cases h
  ·rename_i h1;split at h
   ·cases h
   ·rename_i h2;split at h
    ·cases h
    ·rename_i h3;split at h
     ·cases h
     ·rename_i h4;split at h
      ·cases h
      ·rename_i h5;obtain⟨n,hn⟩:∃ n:Nat,r=n:=⟨r.toNat,by omega⟩
       have h1:r=c:=by simpa using h1
       subst hn;subst h1;rw[aFC]at h4 h5;refine⟨n,by omega,rfl,rfl,by omega,by exact_mod_cast q.2.1,by simpa using h3,q.2.2,by simpa using h4,by simpa using h5⟩
theorem IX {N:Nat} (hF:Fuel N) (x:List Fl) (r c:Int) (l:List Fl) (hw:AllW l) (k:Kz0):gR N x r c l k=k (EG x r c l):=by
 have hN:=hF.lt;unfold gR tg EG;rw[w9 (by omega)];by_cases h0:chk r c l=0
 ·have q:=yG.1 h0;rw[h0,if_neg (λh=>h rfl),show((0:Int) != 0)=false from rfl,aFA];by_cases h1:r=c
  ·subst h1;have e1:((r != r)==false)=true:=by simp
   rw[if_neg (λh=>h rfl),e1,aFB];obtain⟨n,hn⟩:∃ n:Nat,r=n:=⟨r.toNat,by omega⟩
   subst hn;by_cases h2:(x.length:Int)=n
   ·have e2:(((x.length:Nat):Int) != (n:Int))=false:=by simp[h2]
    have hl:l.length=n*n:=by exact_mod_cast q.2.1
    have hn12:n<=12:=by omega
    rw[e2,aFA,if_neg (λh=>h h2),IW x ⟨by omega,by omega⟩];cases h3:gu x
    ·rfl
    ·rw[show(!true)=false from rfl,aFA,if_neg (by decide),ai3 (by omega) hn12 hl q.2.2,aFC];cases h4:E8 n l
     ·rfl
     ·rw[show(!true)=false from rfl,aFA,if_neg (by decide),L4 hF hn12 hl q.2.2 hw (agE hl q.2.2 h4)];cases Xm n l <;> rfl
   ·have e2:(((x.length:Nat):Int) != (n:Int))=true:=by simp[h2]
    rw[e2,aFB,if_pos h2]
  ·have e1:((r != c)==false)=false:=by simp[h1]
   rw[e1,aFA,if_pos h1]
 ·have e0:(chk r c l != 0)=true:=by simp[h0]
  rw[e0,aFB,if_pos h0]
theorem Fy {N:Nat} (hF:Fuel N) (x:List Fl) (r c:Int) (l:List Fl) (hw:AllW l) (k:Kz0):Xr N x r c l k=k (EG x r c l):=by
 have hN:=hF.lt;unfold Xr amj aem ZO aek ZK EG;rw[OH (by omega)];dsimp only;by_cases h0:chk r c l=0
 ·have q:=yG.1 h0;rw[h0,if_neg (λh=>h rfl),show((0:Int) != 0)=false from rfl,aFA];by_cases h1:r=c
  ·subst h1;have e1:((r != r)==false)=true:=by simp
   rw[if_neg (λh=>h rfl),e1,aFB];obtain⟨n,hn⟩:∃ n:Nat,r=n:=⟨r.toNat,by omega⟩
   subst hn;by_cases h2:(x.length:Int)=n
   ·have e2:(((x.length:Nat):Int) != (n:Int))=false:=by simp[h2]
    have hl:l.length=n*n:=by exact_mod_cast q.2.1
    have hn12:n<=12:=by omega
    rw[e2,aFA,if_neg (λh=>h h2),A_ x ⟨by omega,by omega⟩];cases h3:gu x
    ·rfl
    ·rw[show(!true)=false from rfl,aFA,if_neg (by decide),adv (by omega) hn12 hl q.2.2,aFC];cases h4:E8 n l
     ·rfl
     ·rw[if_pos rfl,show((0:Int) != 0)=false from rfl,aFA,aFA,if_neg (by decide),LY hF hn12 hl q.2.2 hw (agE hl q.2.2 h4)];cases Xm n l <;> rfl
   ·have e2:(((x.length:Nat):Int) != (n:Int))=true:=by simp[h2]
    rw[e2,aFB,if_pos h2]; rfl
  ·have e1:((r != c)==false)=false:=by simp[h1]
   rw[e1,aFA,if_pos h1]; rfl
 ·have e0:(chk r c l != 0)=true:=by simp[h0]
  rw[e0,aFB,if_pos h0];rfl
theorem QL {x y:Fl} (hx:kA x=false):kA (nZ x y)=false:=by
 cases x with
 | none=>rfl
 | some b=>
  cases y with
  | none=>rfl
  | some c=>
   cases hr:Ieee.double.read b with
   | number s m i=>rw[ahC hr]at hx; cases hx
   | nan s f=>
    have:nZ (some b) (some c)=none:=by show((Ieee.double.read b).sum (Ieee.double.read c)).map Ieee.double.write=none;rw[hr]; rfl
    rw[this]; rfl
   | infinity s=>
    have h:nZ (some b) (some c)=none\/nZ (some b) (some c)=some (Ieee.double.write (.infinity s)):=by
     show((Ieee.double.read b).sum (Ieee.double.read c)).map Ieee.double.write=none\/((Ieee.double.read b).sum (Ieee.double.read c)).map Ieee.double.write=_;rw[hr];cases Ieee.double.read c with
     | nan _ _=>exact .inl rfl
     | number _ _ _=>exact .inr rfl
     | infinity t=>
      by_cases hst:s=t
      ·right; simp[Datum.sum,hst]
      ·left; simp[Datum.sum,hst]
    rcases h with h | h
    ·rw[h]; rfl
    ·rw[h]; cases s <;> decide
def trV (l:List Fl) (n:Nat):Nat->Fl
 | 0=>some 0
 | i+1=>nZ (trV l n i) (elt l n i i)
theorem XI (l:List Fl) (n:Nat) (i:Nat) (h:kA (trV l n i)=false):kA (trV l n (i+1))=false:=QL h
theorem aqP {N:Nat} (x:Fl) (o:Bool) (k:Ky9):ajp N x o k=k (o || !kA x):=by
 unfold ajp amm;cases o
 ·rw[show(false==false)=true from rfl,aFB,zz]; rfl
 ·rfl
def trK (x:List Fl) (r c:Int) (l:List Fl) (k:Ky7):Bool:=
 if EG x r c l ≠ 0 then k (some 0) (EG x r c l)else cond (kA (trV l x.length x.length)) (k (trV l x.length x.length) 0) (k (some 0) 5)
theorem Q4 {N:Nat} (hF:Fuel N) (x:List Fl) (r c:Int) (l:List Fl) (hw:AllW l) (k:Ky7):oY N x r c l k=trK x r c l k:=by
 have hN:=hF.lt;unfold oY th trK;rw[IX hF _ _ _ _ hw];by_cases h0:EG x r c l=0
 ·obtain⟨n,hn,rfl,rfl,hx,hl,fx,fl,-,-⟩:=KQ h0;rw[if_neg (λh=>h h0),h0,show((0:Int) != 0)=false from rfl,aFA];unfold aeb T0 ad4 Za;rw[w9 (by omega),LA hn hl fl];unfold aeh ZE;have e1:((n:Int) != (n:Int))=false:=by simp
  dsimp only;rw[e1,aFA];have e2:∀ κ:Int->Bool,aec N [0,0] κ=κ 0:=by
   intro κ;obtain⟨M,rfl⟩:∃ M,N=M+10:=⟨N - 10,by omega⟩
   rfl
  rw[e2,show((0:Int) != 0)=false from rfl,aFA,hx];refine ke (λt:Nat=>(trV l n t,(t:Int))) n (by omega) ?_ ?_
  ·intro t ht K;unfold MM;dsimp only;rw[aFy (by omega:(t:Int)<(n:Int)),aFB,L0 hn ht ht hl,ac aFw];rfl
  ·intro K;unfold MM;dsimp only;rw[aFz (by omega:¬(n:Int)<(n:Int)),aFA];unfold ad3 Y_;rw[am6];cases kA (trV l n n) <;> rfl
 ·have e0:(EG x r c l != 0)=true:=by simp[h0]
  rw[e0,aFB,if_pos h0]
theorem zw {N:Nat} (hF:Fuel N) (x:List Fl) (r c:Int) (l:List Fl) (hw:AllW l) (k:Ky7):Vh N x r c l k=trK x r c l k:=by
 have hN:=hF.lt;unfold Vh T5 trK;rw[Fy hF _ _ _ _ hw];by_cases h0:EG x r c l=0
 ·obtain⟨n,hn,rfl,rfl,hx,hl,fx,fl,-,-⟩:=KQ h0;rw[if_neg (λh=>h h0),h0,show((0:Int) != 0)=false from rfl,aFA,hx];refine ke (λt:Nat=>(trV l n t,(t:Int),!kA (trV l n t))) n (by omega) ?_ ?_
  ·intro t ht K;unfold pe;dsimp only;rw[aFy (by omega:(t:Int)<(n:Int)),aFB,I3 hn ht ht hl,aqP,ac aFw];have:(!kA (trV l n t) || !kA (nZ (trV l n t) (elt l n t t))) = !kA (trV l n (t+1)):=by
    cases hh:kA (trV l n t)with
    | true=>rfl
    | false=>rw[XI l n t hh]; rfl
   rw[this];rfl
  ·intro K;unfold pe;dsimp only;rw[aFz (by omega:¬(n:Int)<(n:Int)),aFA];cases kA (trV l n n) <;> rfl
 ·have e0:(EG x r c l != 0)=true:=by simp[h0]
  rw[e0,aFB,if_pos h0]
theorem W2 {N:Nat} {a:Fl} (h:Nn a) (k:Ky9):sQ3 N a a k=k true:=by obtain⟨b,rfl,hb⟩:=h;unfold sQ3 GQ3;show k (((b:Nat):Int)==((b:Nat):Int))=_;rw[aG5]
theorem an4 {l:List Int} (h:∀ z,z ∈ l->z.toNat<18446744073709551616):AllW (Gi l):=by intro x hx;unfold Gi at hx;obtain⟨z,hz,rfl⟩:=List.mem_map.1 hx;exact aat (h z hz)
theorem EH {N:Nat} (hF:Fuel N) (x:List Int) (r c:Int) (p:List Int) (hx:CH N x.length) (hp:CH N p.length) (hw:∀ z,z ∈ p->z.toNat<18446744073709551616) :
  adX N x r c p (λb=>b)=true:=by
 have hN:=hF.lt;have hW:=an4 hw;unfold adX TP sQ4 GQ4;rw[OJ x hx];dsimp only;rw[OJ p hp];have fin:∀(v:Fl) (n:Int),Nn v->gR N (Gi x) r c (Gi p) (λ(asl:Int)=>(Xr N (Gi x) r c (Gi p) (λ(atd:Int)=>(cond ((asl==atd)==true) (sQ3 N v v (λ(cr:Bool)=>(cond (cr==true) (cond ((n==n)==true) (sQ0 N (λ(asD:Bool)=>asD)) false) false))) false))))=true:=by
  intro v n hv;rw[IX hF _ _ _ _ hW,Fy hF _ _ _ _ hW,W2 hv,WX (by omega),aG5];have:(n==n)=true:=by simp
  rw[this]; rfl
 rw[Q4 hF _ _ _ _ hW];unfold trK;by_cases h0:EG (Gi x) r c (Gi p)=0
 ·rw[if_neg (λh=>h h0)];cases hf:kA (trV (Gi p) (Gi x).length (Gi x).length)
  ·rw[aFA];dsimp only;rw[zw hF _ _ _ _ hW];unfold trK;rw[if_neg (λh=>h h0),hf,aFA];exact fin _ _ Uf
  ·rw[aFB];dsimp only;rw[zw hF _ _ _ _ hW];unfold trK;rw[if_neg (λh=>h h0),hf,aFB];exact fin _ _ (Z1 hf)
 ·rw[if_pos h0];dsimp only;rw[zw hF _ _ _ _ hW];unfold trK;rw[if_pos h0];exact fin _ _ Uf
end Go.Proofs.YteifemaagdeomaaGreatDoor
end
