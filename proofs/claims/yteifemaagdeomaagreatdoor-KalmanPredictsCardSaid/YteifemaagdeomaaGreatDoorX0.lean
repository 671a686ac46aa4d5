/- Laws in plain Lean. Conditions: none. -/
import Derived.Test.YteifemaagdeomaaGreatDoorC1
import Derived.Test.YteifemaagdeomaaGreatDoorGp
import Derived.Test.YteifemaagdeomaaGreatDoorC8
set_option linter.defProp false
set_option linter.unusedVariables false
section
namespace Go.Proofs.YteifemaagdeomaaGreatDoor
open Go Go.Mach
def adW (N:Nat) (a b:Nat) (k:Kz0):L8 N a b k=k (decide (cn (some a)=cn (some b))):=by unfold L8 aav;simp only[JW,AW,GR,LH];rw[<- abd a b (.inr trivial)];rfl
def LG {N:Nat} (hN:1000<=N) (k:Kz0):sQ0 N k=k true:=rfl
end Go.Proofs.YteifemaagdeomaaGreatDoor
end
section
namespace Go.Proofs.YteifemaagdeomaaGreatDoor
open Go Go.Mach Ieee
def alY {N:Nat} (hN:1000<=N) (k:Ky2):Qb N 1 k=k false (am 1):=Jt (N:=N) 1 (by decide) (vz hN (by decide)) (by omega) k
def at3 (a b:Nat):flt (some a) (some b)=((Ieee.double.read a).order (Ieee.double.read b)==some .lt):=rfl
def alD (a b:Nat):feq (some a) (some b)=((Ieee.double.read a).order (Ieee.double.read b)==some .eq):=rfl
def aq1 (a b:Nat):fgt (some a) (some b)=((Ieee.double.read a).order (Ieee.double.read b)==some .gt):=rfl
def aaJ {b:Nat} (hb:W64 b) {s:Bool} {m:Nat} {i:Int} (h:Ieee.double.read b=.number s m i):∃ c,Kt (some b)=some c/\W64 c/\Ieee.double.read c=.number false m i:=by
 have e:Ieee.double.read (b%9223372036854775808)=.number false m i:=by
  obtain⟨hs,hlt,h⟩:=re h;unfold Format.read;simp only[mJ,zl,qh,DV];have e1:b%9223372036854775808%9223372036854775808=b%9223372036854775808:=by omega
  have e2:(b%9223372036854775808 / 9223372036854775808%2==1)=false:=by rw[beq_eq_false_iff_ne]; omega
  rw[e1,e2];rcases h with⟨h1,rfl,rfl⟩ | ⟨h1,rfl,rfl⟩
  ·rw[if_pos h1]
  ·rw[if_neg (by omega),if_pos hlt]
 have hn:isNaN (b%9223372036854775808)=false:=by unfold isNaN; rw[e]; rfl
 refine⟨b%9223372036854775808,?_,by unfold W64 at *; omega,e⟩;show ow _=_;unfold ow; rw[hn]; rfl
def KG (N:Nat) {x:Fl} (hx:iY x=true) (hw:FW x) (k:Kz0):JV N x 0 k=k false:=by
 obtain⟨b,s,m,i,rfl,h⟩:=wB hx;obtain⟨c,hc,hcw,hcr⟩:=aaJ (hw b rfl) h;have hp:=w5 hcr;have hg:=PV hcr;unfold JV Uz;show k (fgt (Kt (some b)) (some 9218868437227405311))=_;rw[hc];congr 1;have hr:Ieee.double.read 9218868437227405311=.number false 9007199254740991 971:=by decide
 rw[aq1,hcr,hr];simp only[Datum.order];have hmin:min i 971=i:=by omega
 have e0:(i - i).toNat=0:=by omega
 rw[hmin,e0];have s1:signed false m 0=((m:Nat):Int):=rfl;have s2:signed false 9007199254740991 (971 - i).toNat=((9007199254740991 <<< (971 - i).toNat:Nat):Int):=rfl;rw[s1,s2,Nat.shiftLeft_eq];have hpw:0<2 ^ (971 - i).toNat:=aG5 _;have hle:9007199254740991<=9007199254740991*2 ^ (971 - i).toNat:=aHE _ hpw;generalize 9007199254740991*2 ^ (971 - i).toNat=q at hle;have:compare (m:Int) (q:Int) ≠ .gt:=λe=>by have:=Int.compare_eq_gt.1 e; omega
 cases e:compare (m:Int) (q:Int)with
 | gt=>exact absurd e this
 | eq=>rfl
 | lt=>rfl
def Yf (d:Datum):W64 (Ieee.double.write d):=by
 cases d with
 | number s m i=>exact PQ s m i
 | infinity s=>
  have:Ieee.double.write (.infinity s)=Ieee.double.word s 9218868437227405312:=by rw[<- qh]; rfl
  rw[this]; exact Kn s (by decide)
 | nan s f=>
  have:Ieee.double.write (.nan s f)=Ieee.double.word s (9218868437227405312+f%4503599627370496):=by rw[<- qh,<- zl]; rfl
  rw[this]; exact Kn s (by omega)
def Ve {o:Option Datum}:FW (o.map Ieee.double.write):=by
 intro b hb;cases o with
 | none=>cases hb
 | some d=>cases hb; exact Yf d
def Ze {f:Nat->Nat->Option Nat} (hf:∀ a b c,f a b=some c->W64 c) (x y:Fl):FW (Pa f x y):=by
 intro c hc;cases x with
 | none=>cases hc
 | some a=>cases y with
  | none=>cases hc
  | some b=>exact hf a b c hc
def Uq (x y:Fl):FW (qP x y):=Ze (λa b c h=>Ve c h) x y
def aho (x y:Fl):FW (vD x y):=Ze (λa b c h=>Ve c h) x y
def asP (xs:List Fl):Nat->Fl
 | 0=>some 0
 | n+1=>fmm true (asP xs n) (Kt (xs.getD n none))
def GE1 (x:Fl):Prop:=∃ b,x=some b/\W64 b/\(Ieee.double.read b=.infinity false \/ ∃ m i,Ieee.double.read b=.number false m i/\4503599627370496<=m/\m<9007199254740992 /\ -52<=i)
def Dv (x:Fl):Prop:=∃ b,x=some b/\(Ieee.double.read b=.infinity false \/ ∃ m i,Ieee.double.read b=.number false m i/\m ≠ 0)
def at4 (a b c:Fl):Int:=cond (!fP [a,b,c]) 4 (cond (feq a (some 0)&&(feq b (some 0)&&feq c (some 0))) 251 0)
def at0 (f g:K4->Bool):Prop:=∃ a b c d n,(a.isSome=true/\b.isSome=true/\c.isSome=true/\d.isSome=true)/\(∀ κ,f κ=κ a b c d n)/\(∀ κ,g κ=κ a b c d n)
set_option maxRecDepth 4000
def asQ {a0 a1 a2 a3 a4 a5 a6 a7 a8:Fl} (h:fP [a0,a1,a2,a3,a4,a5,a6,a7,a8]=true):chk 3 3 [a0,a1,a2,a3,a4,a5,a6,a7,a8]=0:=wo.2 ⟨by decide,rfl,h⟩
set_option maxRecDepth 4000
def W9 {b:Nat} (hb:W64 b) {s:Bool} (h:Ieee.double.read b=.infinity s):Kt (some b)=some 9218868437227405312:=by
 unfold Format.read at h;simp only[mJ,zl,qh]at h;unfold W64 at hb;split at h
 ·cases h
 ·split at h
  ·cases h
  ·split at h
   ·rename_i h1 h2 h3;show ow (b%9223372036854775808)=_;have:b%9223372036854775808=9218868437227405312:=by omega
    rw[this]; decide
   ·cases h
def Px {N:Nat} {x:Fl} (hw:FW x) (o:Bool) (k:Kz0):M_ N x o k=k (o || !iY x):=by
 unfold M_ aod;cases hf:iY x with
 | true=>rw[abG hf,KG N hf hw]; cases o <;> rfl
 | false=>
  rw[aHt,Bool.or_true];cases x with
  | none=>rfl
  | some b=>
   cases hr:Ieee.double.read b with
   | number s m i=>rw[ahD hr]at hf; cases hf
   | nan s f=>
    have:feq (some b) (some b)=false:=by rw[alD,hr]; rfl
    rw[this]; rfl
   | infinity s=>
    have h1:feq (some b) (some b)=true:=by rw[alD,hr]; cases s <;> rfl
    rw[h1];show JV N (some b) 0 _=_;unfold JV Uz;rw[show((0:Int)==0)=true from rfl,aGT];simp only[Eb];rw[W9 (hw b rfl) hr];have h2:fgt (some 9218868437227405312) (some 9218868437227405311)=true:=by decide
    rw[h2,aGT]
def GW (N:Nat) (x y:Fl) (o:Bool) (k:Kz0):M_ N (qP x y) o k=k (o || !iY (qP x y)):=Px (Uq x y) o k
def MG (N:Nat) (x y:Fl) (o:Bool) (k:Ky5):L0 N x y o k=k (vD x y) (o || !iY (vD x y)):=by unfold L0 Zh;rw[Px (aho x y)]
def ata {x y:Fl} (hx:iY x=true) (hy:Dv y):Nn (fdiv x y):=by
 obtain⟨a,s,m,i,rfl,ha⟩:=wB hx;obtain⟨b,rfl,hb⟩:=hy;show Nn (((Ieee.double.read a).quotient (Ieee.double.fractionBits+2) (Ieee.double.read b)).map Ieee.double.write);rw[ha];rcases hb with hb | ⟨n,j,hb,hn⟩
 ·rw[hb]; exact Hb _ _ _
 ·rw[hb]; simp only[Datum.quotient,if_neg hn]; exact Hb _ _ _
end Go.Proofs.YteifemaagdeomaaGreatDoor
end
section
namespace Go.Proofs.YteifemaagdeomaaGreatDoor
open Go Go.Mach Ieee
def U_ {N n i j:Nat} (hn:n<=12) (hi:i<n) (hj:j<n) {l:List Fl} (h:l.length=n*n) (k:Kz3):VC N n n l i j k=k (elt l n i j):=by obtain⟨h1,h2⟩:=oM (by omega:n<=1000) hi hj;have h3:=xP hi hj;unfold VC Zu elt;rw[oL,ac h1,ac h2,h,aGU,ac aGP]
def wW {N n i j:Nat} (hn:n<=12) (hi:i<n) (hj:j<n) {l:List Fl} (h:l.length=n*n) (k:Kz3):Te N n n l i j k=k (elt l n i j):=by obtain⟨h1,h2⟩:=oM (by omega:n<=1000) hi hj;have h3:=xP hi hj;unfold Te anU elt;rw[oL,ac h1,ac h2,h,aGU,ac aGP]
def An (n:Nat) (l:List Fl):Bool:=Ku (λi=>Ku (λj=>decide (cn (elt l n i j)=cn (elt l n j i))) i) n
def U6 {N n:Nat} (hN:1000<=N) (hn:n<=12) {l:List Fl} (h:l.length=n*n) (hf:fP l=true) (k:Kz0):aeU N n n l k=k (An n l):=by
 unfold aeU anW;rw[xS hN,Rx hn h hf,show(((0:Int) != 0)==false)=true from rfl,aGT];have:((n:Int) != (n:Int))=false:=by simp
 rw[this,aGS];have hk:k (An n l)=cond (An n l) (k true) (k false):=by cases An n l <;> rfl
 rw[hk];refine tw (λt:Nat=>(t:Int)) (λi=>Ku (λj=>decide (cn (elt l n i j)=cn (elt l n j i))) i) n (by omega) ?_ ?_
 ·intro i hi K;unfold Ny;dsimp only;rw[aGQ (by omega:(i:Int)<(n:Int)),aGT];refine(tw (λt:Nat=>(t:Int)) (λj=>decide (cn (elt l n i j)=cn (elt l n j i))) i (N:=N) (by omega) (ex:=k false) (out:=K (((i+1:Nat):Int))) ?_ ?_:_)
  ·intro j hj K';have hj2:j<n:=by omega
   unfold Nz;dsimp only;rw[aGQ (by omega:(j:Int)<(i:Int)),aGT,U_ hn hi hj2 h,U_ hn hj2 hi h];unfold Qe;dsimp only;by_cases he:cn (elt l n i j)=cn (elt l n j i)
   ·rw[aGQ he,show(!true)=false from rfl,aGS,aGT,ac aGO];rfl
   ·rw[aGR he,show(!false)=true from rfl,aGT,aGS]
  ·intro K';unfold Nz;dsimp only;rw[aGR (by omega:¬(i:Int)<(i:Int)),aGS,ac aGO];rfl
 ·intro K;unfold Ny;dsimp only;rw[aGR (by omega:¬(n:Int)<(n:Int)),aGS]
def XD {N:Nat} (r c:Int) (n:Int) (k:Kz1):V5 N r c n k=k (if (0<=r/\r<=12)/\(0<=c/\c<=12)then(if n=r*c then 0 else 3)else 1):=by
 unfold V5 aan;by_cases h1:r<0
 ·rw[aGQ h1,if_neg (by omega)]; rfl
 ·rw[aGR h1];by_cases h2:r>12
  ·rw[aGQ h2,if_neg (by omega)]; rfl
  ·rw[aGR h2];by_cases h3:c<0
   ·rw[aGQ h3,if_neg (by omega)]; rfl
   ·rw[aGR h3];by_cases h4:c>12
    ·rw[aGQ h4,if_neg (by omega)]; rfl
    ·have hr:0<=r/\r<=12:=by omega
     have hc:0<=c/\c<=12:=by omega
     rw[aGR h4,if_pos ⟨hr,hc⟩,ajv hr hc];by_cases h5:n=r*c
     ·have:(n != r*c)=false:=by simp[h5]
      rw[this,if_pos h5]; rfl
     ·have:(n != r*c)=true:=by simp[h5]
      rw[this,if_neg h5]; rfl
def Jr {N:Nat} (hN:1000<=N) (r c:Int) (l:List Fl) (k:Kz1):P9 N r c l k=k (chk r c l):=by
 unfold P9 ZW chk;rw[XD];by_cases h1:(0<=r/\r<=12)/\(0<=c/\c<=12)
 ·rw[if_pos h1,if_pos h1];by_cases h2:(l.length:Int)=r*c
  ·have h3:=Vk h1.1 h1.2;have h6:l.length<=144:=by rw[<- h2]at h3; omega
   rw[if_pos h2,if_pos h2,show((0:Int) != 0)=false from rfl,aGS,Bz l ⟨by omega,by omega⟩];cases fP l <;> rfl
  ·rw[if_neg h2,if_neg h2]; rfl
 ·rw[if_neg h1,if_neg h1]; rfl
def Py {N n:Nat} (hN:1000<=N) (hn:n<=12) {l:List Fl} (h:l.length=n*n) (hf:fP l=true) (k:Kz1):aeT N n n l k=k (if An n l=true then 0 else 91):=by
 unfold aeT anN;rw[Jr hN,Rx hn h hf,show((0:Int) != 0)=false from rfl,aGS];have:((n:Int) != (n:Int))=false:=by simp
 rw[this,aGS];have hk:k (if An n l=true then 0 else 91)=cond (An n l) (k 0) (k 91):=by cases An n l <;> rfl
 rw[hk];refine tw (λt:Nat=>(t:Int)) (λi=>Ku (λj=>decide (cn (elt l n i j)=cn (elt l n j i))) i) n (by omega) ?_ ?_
 ·intro i hi K;unfold NB;dsimp only;rw[aGQ (by omega:(i:Int)<(n:Int)),aGT];refine(tw (λt:Nat=>(t:Int)) (λj=>decide (cn (elt l n i j)=cn (elt l n j i))) i (N:=N) (by omega) (ex:=k 91) (out:=K (((i+1:Nat):Int))) ?_ ?_:_)
  ·intro j hj K';have hj2:j<n:=by omega
   unfold NC;dsimp only;rw[aGQ (by omega:(j:Int)<(i:Int)),aGT,wW hn hi hj2 h,wW hn hj2 hi h,ML];by_cases he:cn (elt l n i j)=cn (elt l n j i)
   ·rw[aGQ he,show(!true)=false from rfl,aGS,aGT,ac aGO];rfl
   ·rw[aGR he,show(!false)=true from rfl,aGT,aGS]
  ·intro K';unfold NC;dsimp only;rw[aGR (by omega:¬(i:Int)<(i:Int)),aGS,ac aGO];rfl
 ·intro K;unfold NB;dsimp only;rw[aGR (by omega:¬(n:Int)<(n:Int)),aGS]
def abc {x:Fl} (h:iY x=true):cn x=x:=by obtain⟨b,rfl,hb⟩:=QS h;simp only[cn,hb]; rfl
def agO {n:Nat} {l:List Fl} (h:l.length=n*n) (hf:fP l=true) (hs:An n l=true):aaI n l:=by
 have key:∀ i j,j<i->i<n->elt l n i j=elt l n j i:=by
  intro i j hj hi;have h1:=wl.1 (wl.1 hs i hi) j hj;have h2:=aGW h1;have hj2:j<n:=by omega
  have e1:=xP hi hj2;have e2:=xP hj2 hi;rw[abc (x:=elt l n i j) (tR hf (by omega)),abc (x:=elt l n j i) (tR hf (by omega))]at h2;exact h2
 intro a b ha hb;show yd (ofE (elt l n a b))=yd (ofE (elt l n b a));rcases aIM a b with h1 | h1 | h1
 ·rw[key b a h1 hb]
 ·rw[h1]
 ·rw[key a b h1 ha]
def Jl (x:List Fl) (r c:Int) (l:List Fl):Int:=
 if chk r c l ≠ 0 then chk r c l else if r ≠ c then 3 else if (x.length:Int) ≠ r then 3 else if fP x=false then 4 else if An r.toNat l=false then 150 else if M3 r.toNat l=false then 151 else 0
def Fc {x:List Fl} {r c:Int} {l:List Fl} (h:Jl x r c l=0):∃ n:Nat,n<=12/\r=n/\c=n/\x.length=n/\l.length=n*n/\fP x=true/\fP l=true/\An n l=true/\M3 n l=true:=by
 unfold Jl at h;split at h
 ·exact absurd h (by assumption)
 ·rename_i h0;have h0:chk r c l=0:=by simpa using h0
  have q:=wo.1 h0;split at h
  ·cases h
  ·rename_i h1;split at h
   ·cases h
   ·rename_i h2;split at h
    ·cases h
    ·rename_i h3;split at h
     ·cases h
     ·rename_i h4;split at h
      ·cases h
      ·rename_i h5;obtain⟨n,hn⟩:∃ n:Nat,r=n:=⟨r.toNat,by omega⟩
       have h1:r=c:=by simpa using h1
       subst hn;subst h1;rw[aGU]at h4 h5;refine⟨n,by omega,rfl,rfl,by omega,by exact_mod_cast q.2.1,by simpa using h3,q.2.2,by simpa using h4,by simpa using h5⟩
def R3 {N:Nat} (hF:Fuel N) (x:List Fl) (r c:Int) (l:List Fl) (hw:AllW l) (k:Kz1):kf N x r c l k=k (Jl x r c l):=by
 have hN:=hF.lt;unfold kf tG Jl;rw[xS (by omega)];by_cases h0:chk r c l=0
 ·have q:=wo.1 h0;rw[h0,if_neg (λh=>h rfl),show((0:Int) != 0)=false from rfl,aGS];by_cases h1:r=c
  ·subst h1;have e1:((r != r)==false)=true:=by simp
   rw[if_neg (λh=>h rfl),e1,aGT];obtain⟨n,hn⟩:∃ n:Nat,r=n:=⟨r.toNat,by omega⟩
   subst hn;by_cases h2:(x.length:Int)=n
   ·have e2:(((x.length:Nat):Int) != (n:Int))=false:=by simp[h2]
    have hl:l.length=n*n:=by exact_mod_cast q.2.1
    have hn12:n<=12:=by omega
    rw[e2,aGS,if_neg (λh=>h h2),Jq x ⟨by omega,by omega⟩];cases h3:fP x
    ·rfl
    ·rw[show(!true)=false from rfl,aGS,if_neg (by decide),U6 (by omega) hn12 hl q.2.2,aGU];cases h4:An n l
     ·rfl
     ·rw[show(!true)=false from rfl,aGS,if_neg (by decide),DT hF hn12 hl q.2.2 hw (agO hl q.2.2 h4)];cases M3 n l <;> rfl
   ·have e2:(((x.length:Nat):Int) != (n:Int))=true:=by simp[h2]
    rw[e2,aGT,if_pos h2]
  ·have e1:((r != c)==false)=false:=by simp[h1]
   rw[e1,aGS,if_pos h1]
 ·have e0:(chk r c l != 0)=true:=by simp[h0]
  rw[e0,aGT,if_pos h0]
def Ps {N:Nat} (hF:Fuel N) (x:List Fl) (r c:Int) (l:List Fl) (hw:AllW l) (k:Kz1):ajB N x r c l k=k (Jl x r c l):=by
 have hN:=hF.lt;unfold ajB anp aeP aaq Qd UA Jl;rw[Jr (by omega)];dsimp only;by_cases h0:chk r c l=0
 ·have q:=wo.1 h0;rw[h0,if_neg (λh=>h rfl),show((0:Int) != 0)=false from rfl,aGS];by_cases h1:r=c
  ·subst h1;have e1:((r != r)==false)=true:=by simp
   rw[if_neg (λh=>h rfl),e1,aGT];obtain⟨n,hn⟩:∃ n:Nat,r=n:=⟨r.toNat,by omega⟩
   subst hn;by_cases h2:(x.length:Int)=n
   ·have e2:(((x.length:Nat):Int) != (n:Int))=false:=by simp[h2]
    have hl:l.length=n*n:=by exact_mod_cast q.2.1
    have hn12:n<=12:=by omega
    rw[e2,aGS,if_neg (λh=>h h2),Bz x ⟨by omega,by omega⟩];cases h3:fP x
    ·rfl
    ·rw[show(!true)=false from rfl,aGS,if_neg (by decide),Py (by omega) hn12 hl q.2.2,aGU];cases h4:An n l
     ·rfl
     ·rw[if_pos rfl,show((0:Int) != 0)=false from rfl,aGS,aGS,if_neg (by decide),DR hF hn12 hl q.2.2 hw (agO hl q.2.2 h4)];cases M3 n l <;> rfl
   ·have e2:(((x.length:Nat):Int) != (n:Int))=true:=by simp[h2]
    rw[e2,aGT,if_pos h2]; rfl
  ·have e1:((r != c)==false)=false:=by simp[h1]
   rw[e1,aGS,if_pos h1]; rfl
 ·have e0:(chk r c l != 0)=true:=by simp[h0]
  rw[e0,aGT,if_pos h0];rfl
def Jv {N:Nat} (x:Fl) (o:Bool) (k:Kz0):SV N x o k=k (o || !iY x):=by
 unfold SV ant;cases o
 ·rw[show(false==false)=true from rfl,aGT,zS]; rfl
 ·rfl
def Xs {N:Nat} {a:Fl} (h:Nn a) (k:Kz0):sQ3 N a a k=k true:=by obtain⟨b,rfl,hb⟩:=h;unfold sQ3 GQ3;show k (((b:Nat):Int)==((b:Nat):Int))=_;rw[aIw]
def apu {l:List Int} (h:∀ z,z ∈ l->z.toNat<18446744073709551616):AllW (jj l):=by intro x hx;unfold jj at hx;obtain⟨z,hz,rfl⟩:=List.mem_map.1 hx;exact aa9 (h z hz)
end Go.Proofs.YteifemaagdeomaaGreatDoor
end
section
namespace Go.Proofs.YteifemaagdeomaaGreatDoor
open Go Go.Mach Ieee
def mf (n:Nat) (f:Nat->Nat->Fl):List Fl:=(List.range (n*n)).map (λt=>f (t / n) (t%n))
def lm (n:Nat) (f:Nat->Nat->Fl):(mf n f).length=n*n:=by unfold mf; rw[aIn,List.length_range]
def DW (n:Nat) (f:Nat->Nat->Fl) {i j:Nat} (hi:i<n) (hj:j<n) (z:Fl):(mf n f).getD (i*n+j) z=f i j:=by have h:=qA hi hj;unfold mf;rw[List.getD_eq_getElem?_getD,List.getElem?_map,List.getElem?_range h];simp only[aId,aHz,GT hj,GU hj]
def SD (n:Nat) (f:Nat->Nat->Fl) {i j:Nat} (hi:i<n) (hj:j<n):elt (mf n f) n i j=f i j:=DW n f hi hj none
def oR (n:Nat) {f f':Nat->Nat->Fl} (h:∀ a b,a<n->b<n->f a b=f' a b):mf n f=mf n f':=by
 unfold mf;apply aJc;intro t ht;have ht:=List.mem_range.1 ht;have hn:0<n:=by
  rcases aHY n with h0 | h0
  ·rw[h0]at ht; omega
  ·exact h0
 rw[h _ _ (aIm ht) (aG6 _ hn)]
def SE (n:Nat) (f:Nat->Nat->Fl) {i j:Nat} (hi:i<n) (hj:j<n) (v:Fl):(mf n f).set (i*n+j) v=mf n (λa b=>if a=i/\b=j then v else f a b):=by
 have h:=qA hi hj;apply List.ext_getElem?;intro t;by_cases ht:t<n*n
 ·have hn:0<n:=by omega
  rw[List.getElem?_set];unfold mf;rw[List.getElem?_map,List.getElem?_map,List.getElem?_range ht];simp only[aIn,List.length_range,aId];by_cases he:i*n+j=t
  ·rw[if_pos he,if_pos h,<- he,GT hj,GU hj,if_pos ⟨rfl,rfl⟩]
  ·rw[if_neg he];have:¬(t / n=i/\t%n=j):=by rintro ⟨h1,h2⟩;apply he;rw[<- h1,<- h2,aGV];exact aHF t n
   rw[if_neg this]
 ·rw[List.getElem?_eq_none (by rw[aIX,lm]; omega),List.getElem?_eq_none (by rw[lm]; omega)]
def Vi (n:Nat):List.replicate (n*n) (some 0)=mf n (λ_ _=>some 0):=by
 apply List.ext_getElem?;intro t;unfold mf;rw[List.getElem?_map,List.getElem?_replicate];by_cases ht:t<n*n
 ·rw[if_pos ht,List.getElem?_range ht]; rfl
 ·rw[if_neg ht,List.getElem?_eq_none (by rw[List.length_range]; omega)]; rfl
def ajn (n:Nat) (f:Nat->Nat->Fl) {i j:Nat} (hi:i<n) (hj:j<n):(mf n f).take (i*n+j)++[f i j]=(mf n f).take (i*n+j+1):=by
 have h:=qA hi hj;have hl:i*n+j<(mf n f).length:=by rw[lm]; exact h
 rw[aHJ hl];have:=DW n f hi hj none;rw[List.getD_eq_getElem?_getD,List.getElem?_eq_getElem hl]at this;rw[<- this]; rfl
def vf (n:Nat) (g:Nat->Fl):List Fl:=(List.range n).map g
def lA (n:Nat) (g:Nat->Fl):(vf n g).length=n:=by unfold vf; rw[aIn,List.length_range]
def Ev (n:Nat) (g:Nat->Fl) {i:Nat} (hi:i<n) (z:Fl):(vf n g).getD i z=g i:=by unfold vf;rw[List.getD_eq_getElem?_getD,List.getElem?_map,List.getElem?_range hi]; rfl
def Ws (n:Nat) (g:Nat->Fl) {i:Nat} (hi:i<n):(vf n g).take i++[g i]=(vf n g).take (i+1):=by
 have hl:i<(vf n g).length:=by rw[lA]; exact hi
 rw[aHJ hl];have:=Ev n g hi none;rw[List.getD_eq_getElem?_getD,List.getElem?_eq_getElem hl]at this;rw[<- this]; rfl
def Wr (n:Nat) (g:Nat->Fl) {i:Nat} (hi:i<n):((vf n g).take i++List.replicate (n - i) (some 0)).set i (g i)=(vf n g).take (i+1)++List.replicate (n - (i+1)) (some 0):=by have:=Pc (vf n g) (some 0) (t:=i) (by rw[lA]; exact hi);rw[lA,Ev n g hi]at this;exact this
def Gm (n:Nat) (g:Nat->Fl) {i:Nat} (hi:i<=n):((vf n g).take i++List.replicate (n - i) (some 0)).length=n:=by have:=Pb (vf n g) (some 0) (t:=i) (by rw[lA]; exact hi);rw[lA]at this;exact this
def dV (f g:Nat->Fl):Nat->Fl
 | 0=>some 0
 | t+1=>qP (dV f g t) (vD (f t) (g t))
def dO (f g:Nat->Fl):Nat->Bool
 | 0=>false
 | t+1=>(dO f g t || !iY (vD (f t) (g t))) || !iY (dV f g (t+1))
def orB (p:Nat->Bool):Nat->Bool
 | 0=>false
 | t+1=>orB p t||p t
def AQ {p:Nat->Bool}:∀{n:Nat},orB p n=false -> ∀ i,i<n->p i=false
 | 0,_,i,hi=>by omega
 | n+1,h,i,hi=>by
  unfold orB at h;rw[Bool.or_eq_false_iff]at h;rcases aHN i n with h1 | h1
  ·exact AQ h.1 i h1
  ·rw[show i=n by omega]; exact h.2
def aon {f g:Nat->Fl}:∀{n:Nat},dO f g n=false->iY (dV f g n)=true
 | 0,_=>rfl
 | n+1,h=>by unfold dO at h;rw[Bool.or_eq_false_iff]at h;simpa using h.2
def Ay (o:Bool) (f g:Nat->Fl) (t:Nat):((o||dO f g t) || !iY (vD (f t) (g t)) || !iY (qP (dV f g t) (vD (f t) (g t))))=(o||dO f g (t+1)):=by show _=(o||((dO f g t || !iY (vD (f t) (g t))) || !iY (qP (dV f g t) (vD (f t) (g t)))));simp only[Bool.or_assoc]
def D2 (o:Bool):(o||false)=o:=by cases o <;> rfl
def adU {N n:Nat} (hN:1000<=N) (hn:n<=100) {a b:List Fl} {f g:Nat->Fl} (ha:a.length=n) (hb:n<=b.length) (hbs:b.length<=1000) (hf:∀ i,i<n->a.getD i none=f i) (hg:∀ i,i<n->b.getD i none=g i) (o:Bool) (k:Ky5) :
  VT N a b o k=k (dV f g n) (o||dO f g n):=by
 unfold VT Uw;have h0:((some 0,0,o):Fl × Int × Bool)=(λt:Nat=>(dV f g t,(t:Int),o||dO f g t)) 0:=by show _=(some 0,((0:Nat):Int),o||false); rw[D2]; rfl
 rw[h0];refine bc (λt:Nat=>(dV f g t,(t:Int),o||dO f g t)) n (by omega) ?_ ?_
 ·intro t ht K;unfold o_;dsimp only;rw[aGQ (by omega:(t:Int)<(a.length:Int)),aGT,ac aGP,ac aGP,aGU,hf t ht,hg t ht,MG,GW,ac aGO,Ay];rfl
 ·intro K;unfold o_;dsimp only;rw[aGR (by omega:¬(n:Int)<(a.length:Int)),aGS]
def Xf {N n:Nat} (hN:1000<=N) (hn:n<=100) {a b:List Fl} {f g:Nat->Fl} (ha:a.length=n) (hb:n<=b.length) (hbs:b.length<=1000) (hf:∀ i,i<n->a.getD i none=f i) (hg:∀ i,i<n->b.getD i none=g i) (o:Bool) (k:Ky5) :
  VB N a o b k=k (dV f g n) (o||dO f g n):=by
 unfold VB Us;have h0:((some 0,0,o):Fl × Int × Bool)=(λt:Nat=>(dV f g t,(t:Int),o||dO f g t)) 0:=by show _=(some 0,((0:Nat):Int),o||false); rw[D2]; rfl
 rw[h0];refine bc (λt:Nat=>(dV f g t,(t:Int),o||dO f g t)) n (by omega) ?_ ?_
 ·intro t ht K;unfold mM;dsimp only;rw[aGQ (by omega:(t:Int)<(a.length:Int)),aGT,ac aGP,ac aGP,aGU,ac (aGQ (by omega)),hf t ht,hg t ht,MG,GW,ac aGO,Ay];rfl
 ·intro K;unfold mM;dsimp only;rw[aGR (by omega:¬(n:Int)<(a.length:Int)),aGS]
def Xe {N n s:Nat} (hN:1000<=N) (hn:n<=100) {a b:List Fl} {f g:Nat->Fl} (ha:s+n<=a.length) (hb:n<=b.length) (hbs:b.length<=1000) (hf:∀ i,i<n->a.getD (s+i) none=f i) (hg:∀ i,i<n->b.getD i none=g i) (o:Bool) (k:Ky5) :
  VU N s n b o a k=k (dV f g n) (o||dO f g n):=by
 unfold VU Uy;have h0:((some 0,0,o):Fl × Int × Bool)=(λt:Nat=>(dV f g t,(t:Int),o||dO f g t)) 0:=by show _=(some 0,((0:Nat):Int),o||false); rw[D2]; rfl
 rw[h0];refine bc (λt:Nat=>(dV f g t,(t:Int),o||dO f g t)) n (by omega) ?_ ?_
 ·intro t ht K;unfold mL;dsimp only;rw[aGQ (by omega:(t:Int)<(n:Int)),aGT,ac aGP,aGU,ac (aGQ (by omega)),ac aGP,hf t ht,hg t ht,MG,GW,ac aGO,Ay];rfl
 ·intro K;unfold mL;dsimp only;rw[aGR (by omega:¬(n:Int)<(n:Int)),aGS]
def Xy {N n:Nat} (hN:1000<=N) (hn:n<=100) {a b:List Fl} {f g:Nat->Fl} (ha:a.length=n) (hb:n<=b.length) (hbs:b.length<=1000) (hf:∀ i,i<n->a.getD i none=f i) (hg:∀ i,i<n->b.getD i none=g i) (o:Bool) (k:Ky5) :
  ajL N a b o k=k (dV f g n) (o||dO f g n):=by
 unfold ajL aoa;have h0:((some 0,0,o):Fl × Int × Bool)=(λt:Nat=>(dV f g t,(t:Int),o||dO f g t)) 0:=by show _=(some 0,((0:Nat):Int),o||false); rw[D2]; rfl
 rw[h0];refine bc (λt:Nat=>(dV f g t,(t:Int),o||dO f g t)) n (by omega) ?_ ?_
 ·intro t ht K;unfold pg;dsimp only;rw[aGQ (by omega:(t:Int)<(a.length:Int)),aGT,ac aGP,ac aGP,aGU,hf t ht,hg t ht,Jv,Jv,ac aGO,Ay];rfl
 ·intro K;unfold pg;dsimp only;rw[aGR (by omega:¬(n:Int)<(a.length:Int)),aGS]
def Si {N n:Nat} (hN:1000<=N) (hn:n<=100) {a b:List Fl} {f g:Nat->Fl} (ha:a.length=n) (hb:n<=b.length) (hbs:b.length<=1000) (hf:∀ i,i<n->a.getD i none=f i) (hg:∀ i,i<n->b.getD i none=g i) (o:Bool) (k:Ky5) :
  ajK N a o b k=k (dV f g n) (o||dO f g n):=by
 unfold ajK an7;have h0:((some 0,0,o):Fl × Int × Bool)=(λt:Nat=>(dV f g t,(t:Int),o||dO f g t)) 0:=by show _=(some 0,((0:Nat):Int),o||false); rw[D2]; rfl
 rw[h0];refine bc (λt:Nat=>(dV f g t,(t:Int),o||dO f g t)) n (by omega) ?_ ?_
 ·intro t ht K;unfold mT;dsimp only;rw[aGQ (by omega:(t:Int)<(a.length:Int)),aGT,ac aGP,ac aGP,aGU,ac (aGQ (by omega)),hf t ht,hg t ht,Jv,Jv,ac aGO,Ay];rfl
 ·intro K;unfold mT;dsimp only;rw[aGR (by omega:¬(n:Int)<(a.length:Int)),aGS]
def Se {N n s:Nat} (hN:1000<=N) (hn:n<=100) {a b:List Fl} {f g:Nat->Fl} (ha:s+n<=a.length) (hb:n<=b.length) (hbs:b.length<=1000) (hf:∀ i,i<n->a.getD (s+i) none=f i) (hg:∀ i,i<n->b.getD i none=g i) (o:Bool) (k:Ky5) :
  Vx N s n b o a k=k (dV f g n) (o||dO f g n):=by
 unfold Vx Zi;have h0:((some 0,0,o):Fl × Int × Bool)=(λt:Nat=>(dV f g t,(t:Int),o||dO f g t)) 0:=by show _=(some 0,((0:Nat):Int),o||false); rw[D2]; rfl
 rw[h0];refine bc (λt:Nat=>(dV f g t,(t:Int),o||dO f g t)) n (by omega) ?_ ?_
 ·intro t ht K;unfold mR;dsimp only;rw[aGQ (by omega:(t:Int)<(n:Int)),aGT,ac aGP,aGU,ac (aGQ (by omega)),ac aGP,hf t ht,hg t ht,Jv,Jv,ac aGO,Ay];rfl
 ·intro K;unfold mR;dsimp only;rw[aGR (by omega:¬(n:Int)<(n:Int)),aGS]
def XR (l:List Fl) (n i:Nat):List Fl:=List.drop (i*n) (List.take ((i+1)*n) l)
def M7 {n i:Nat} (hi:i<n):(i+1)*n<=n*n:=aGX _ hi
def rg {l:List Fl} {n i:Nat} (h:l.length=n*n) (hi:i<n):(XR l n i).length=n:=by have:=M7 hi;unfold XR;rw[aIo,aHl,h,aIc this,aHf]; omega
def tD {l:List Fl} {n i j:Nat} (h:l.length=n*n) (hi:i<n) (hj:j<n):(XR l n i).getD j none=elt l n i j:=by
 unfold XR elt;have h1:(i+1)*n=i*n+n:=by rw[aHf]; omega
 rw[List.getD_eq_getElem?_getD,List.getElem?_drop,List.getElem?_take,if_pos (by omega),List.getD_eq_getElem?_getD]
def AV {n i:Nat} (hn:n<=100) (hi:i<n) {L:Nat} (hL:L=n*n):aj .i64 ((i:Int)*(n:Int))=true/\aj .i64 ((i:Int)+1)=true/\aj .i64 (((i:Int)+1)*(n:Int))=true/\decide (0<=(i:Int)*(n:Int)/\(i:Int)*(n:Int)<=((i:Int)+1)*(n:Int)/\((i:Int)+1)*(n:Int)<=(L:Int))=true/\Int.toNat ((i:Int)*(n:Int))=i*n/\Int.toNat (((i:Int)+1)*(n:Int))=(i+1)*n:=by
 have h1:=M7 hi;have h2:n*n<=100*100:=aHC hn hn;have e1:(i:Int)*(n:Int)=((i*n:Nat):Int):=by rw[aHa]
 have e2:((i:Int)+1)*(n:Int)=(((i+1)*n:Nat):Int):=by rw[aHa]; rfl
 have h3:(i+1)*n=i*n+n:=by rw[aHf]; omega
 rw[e1,e2];exact⟨af (by omega) (by omega),af (by omega) (by omega),af (by omega) (by omega),aGQ ⟨by omega,by omega,by omega⟩,aGU _,aGU _⟩
def MN {N n i:Nat} (hn:n<=100) (hi:i<n) {l:List Fl} (h:l.length=n*n) (k:Kz4):mE N n n l i k=k (XR l n i):=by obtain⟨a,b,c,d,e,f⟩:=AV hn hi h;unfold mE xh;rw[ac a,ac b,ac c,ac d,e,f];rfl
def JA {N n i:Nat} (hn:n<=100) (hi:i<n) {l:List Fl} (h:l.length=n*n) (k:Kz4):P1 N n n l i k=k (XR l n i):=by obtain⟨a,b,c,d,e,f⟩:=AV hn hi h;unfold P1 Zo;rw[ac a,ac b,ac c,ac d,e,f];rfl
def Vt (n i:Nat):(i+1)*n - i*n=n:=by rw[aHf]; omega
def ad_ {N n i:Nat} (hn:n<=100) (hi:i<n) {l:List Fl} (h:l.length=n*n) (k:Ky4):oZ N n n i l k=k (i*n) n:=by obtain⟨a,b,c,d,e,f⟩:=AV hn hi h;unfold oZ tH;rw[ac a,ac b,ac c,ac d,e,f,Vt]
def XA {N n i:Nat} (hn:n<=100) (hi:i<n) {l:List Fl} (h:l.length=n*n) (k:Ky4):ajH N n n i l k=k (i*n) n:=by obtain⟨a,b,c,d,e,f⟩:=AV hn hi h;unfold ajH anS;rw[ac a,ac b,ac c,ac d,e,f,Vt]
def aje {N n j:Nat} (hN:1000<=N) (hn:n<=100) (hj:j<n) {l:List Fl} (h:l.length=n*n) (k:Kz4):sZ N n n l j k=k (vf n (λt=>elt l n t j)):=by
 unfold sZ xg;have hn2:n*n<=100*100:=aHC hn hn;rw[aGU,aHW,ac (fZ (by omega) (by omega) (by omega) (by omega))];have h0:List.replicate n (some 0)=(vf n (λt=>elt l n t j)).take 0++List.replicate (n - 0) (some 0):=rfl;rw[h0];refine bc (λt:Nat=>((t:Int),(vf n (λt=>elt l n t j)).take t++List.replicate (n - t) (some 0))) n (by omega) ?_ ?_
 ·intro t ht K;unfold nP;dsimp only;obtain⟨h1,h2⟩:=oM (by omega:n<=1000) ht hj;have h3:=xP ht hj;have hl:=Gm n (λt=>elt l n t j) (i:=t) (by omega);have hs:=Wr n (λt=>elt l n t j) ht;generalize List.take t (vf n λt=>elt l n t j)++List.replicate (n - t) (some 0)=L at *;rw[aGQ (by omega:(t:Int)<(n:Int)),aGT,oL,ac h1,ac h2,ac aGP,ac aGP,aGU,ac (aGQ (by omega)),ac aGO,aGU];exact aJS (λl=>K ((t:Int)+1,l)) hs
 ·intro K;unfold nP;dsimp only;rw[aGR (by omega:¬(n:Int)<(n:Int)),aGS,aHq,aHp,aHn,aHb (by rw[lA]; omega)]
def ad8 {N n j:Nat} (hN:1000<=N) (hn:n<=12) (hj:j<n) {l:List Fl} (h:l.length=n*n) (k:Kz4):VK N n n l j k=k (vf n (λt=>elt l n t j)):=by
 unfold VK ZH;have h0:([]:List Fl)=(vf n (λt=>elt l n t j)).take 0:=rfl;rw[h0];refine bc (λt:Nat=>((t:Int),(vf n (λt=>elt l n t j)).take t)) n (by omega) ?_ ?_
 ·intro t ht K;unfold nQ;dsimp only;rw[aGQ (by omega:(t:Int)<(n:Int)),aGT,wW hn ht hj h,Ws n (λt=>elt l n t j) ht,ac (aGQ (by rw[aHl,lA]; omega)),ac aGO];rfl
 ·intro K;unfold nQ;dsimp only;rw[aGR (by omega:¬(n:Int)<(n:Int)),aGS,aHb (by rw[lA]; omega)]
def GX {N n i j:Nat} (hn:n<=12) (hi:i<n) (hj:j<n) (f:Nat->Nat->Fl) (x:Fl) (k:Kz4):XV N n n i j x (mf n f) k=k (mf n (λa b=>if a=i/\b=j then x else f a b)):=by obtain⟨h1,h2⟩:=oM (by omega:n<=1000) hi hj;have h3:=xP hi hj;unfold XV ann;rw[oL,ac h1,ac h2,lm,aGU,ac aGP,ac (aGQ h3),SE n f hi hj]
def Fh {N n:Nat} (hn:n<=12) (k:Kz4):XU N n n k=k (mf n (λ_ _=>some 0)):=by have h2:n*n<=144:=Vn hn;unfold XU anm;rw[<- aHa,ac aGO,ac (fZ (by omega) (by omega) (by omega) (by omega)),aGU,Vi]
end Go.Proofs.YteifemaagdeomaaGreatDoor
end
section
namespace Go.Proofs.YteifemaagdeomaaGreatDoor
open Go Go.Mach Ieee
def prV (n:Nat) (f p:List Fl):Nat->Nat->Fl:=λi j=>dV (λt=>elt f n i t) (λt=>elt p n t j) n
def prO (n:Nat) (f p:List Fl):Nat->Nat->Bool:=λi j=>dO (λt=>elt f n i t) (λt=>elt p n t j) n
def orM (n:Nat) (p:Nat->Nat->Bool):Bool:=orB (λi=>orB (λj=>p i j) n) n
def qC (o:Bool) (p:Nat->Bool) (t:Nat):((o||orB p t)||p t)=(o||orB p (t+1)):=by show _=(o||(orB p t||p t)); rw[Bool.or_assoc]
def agQ (n:Nat) (f:Nat->Nat->Fl):(mf n f).take (n*n)=mf n f:=aHb (by rw[lm]; omega)
def JP (n i:Nat):i*n+n=(i+1)*n:=by rw[aHf]; omega
def PH {N n:Nat} (hN:1000<=N) (hn:n<=12) {f p:List Fl} (hf:f.length=n*n) (hp:p.length=n*n) (o:Bool) (k:Ky6) :
  jV N n n f n n p o k=k (o||orM n (prO n f p)) (mf n (prV n f p)):=by
 unfold jV jM;have hn2:n*n<=144:=Vn hn;have h0:((0,o,[]):Int × Bool × List Fl)=(λi:Nat=>((i:Int),o||orB (λi=>orB (λj=>prO n f p i j) n) i,(mf n (prV n f p)).take (i*n))) 0:=by show _=(((0:Nat):Int),o||false,List.take (0*n) _); rw[D2,aIh]; rfl
 rw[h0];refine bc (λi:Nat=>((i:Int),o||orB (λi=>orB (λj=>prO n f p i j) n) i,(mf n (prV n f p)).take (i*n))) n (by omega) ?_ ?_
 ·intro i hi K;unfold iK;dsimp only;rw[aGQ (by omega:(i:Int)<(n:Int)),aGT];generalize ho1:(o||orB (λi=>orB (λj=>prO n f p i j) n) i)=o1;have h1:((0,o1,(mf n (prV n f p)).take (i*n)):Int × Bool × List Fl)=(λj:Nat=>((j:Int),o1||orB (λj=>prO n f p i j) j,(mf n (prV n f p)).take (i*n+j))) 0:=by show _=(((0:Nat):Int),o1||false,List.take (i*n+0) _); rw[D2]; rfl
  rw[h1];refine(bc (λj:Nat=>((j:Int),o1||orB (λj=>prO n f p i j) j,(mf n (prV n f p)).take (i*n+j))) n (N:=N) (by omega) (out:=K ((((i+1:Nat)):Int),o||orB (λi=>orB (λj=>prO n f p i j) n) (i+1),(mf n (prV n f p)).take ((i+1)*n))) ?_ ?_:_)
  ·intro j hj K';have hij:=xP hi hj;unfold iL;dsimp only;rw[aGQ (by omega:(j:Int)<(n:Int)),aGT,MN (by omega) hi hf,aje hN (by omega) hj hp,
    Xf (n:=n) (f:=λt=>elt f n i t) (g:=λt=>elt p n t j) hN (by omega) (rg hf hi) (by rw[lA]; omega) (by rw[lA]; omega) (λt ht=>tD hf hi ht) (λt ht=>Ev n _ ht none)]
   have e:dV (λt=>elt f n i t) (λt=>elt p n t j) n=prV n f p i j:=rfl;have e2:dO (λt=>elt f n i t) (λt=>elt p n t j) n=prO n f p i j:=rfl;rw[e,e2,ajn n (prV n f p) hi hj,ac (aGQ (by rw[aHl,lm]; omega)),ac aGO,qC o1 (λj=>prO n f p i j) j];rfl
  ·intro K';unfold iL;dsimp only;rw[aGR (by omega:¬(n:Int)<(n:Int)),aGS,ac aGO,<- ho1,JP,qC o (λi=>orB (λj=>prO n f p i j) n) i];rfl
 ·intro K;unfold iK;dsimp only;rw[aGR (by omega:¬(n:Int)<(n:Int)),aGS,agQ];rfl
def rS (g:Nat->Nat->Fl) (i j:Nat):Nat->Nat->Fl:=λa b=>if a<i\/(a=i/\b<j)then g a b else some 0
def Vq (n:Nat) (g:Nat->Nat->Fl):mf n (λ_ _=>some 0)=mf n (rS g 0 0):=oR n (λa b _ _=>by unfold rS; rw[if_neg (by omega)])
def apv (n:Nat) (g:Nat->Nat->Fl) (i:Nat):mf n (rS g i n)=mf n (rS g (i+1) 0):=oR n (λa b _ hb=>by
 unfold rS;by_cases h2:a<i\/(a=i/\b<n)
 ·rw[if_pos h2,if_pos (by omega)]
 ·rw[if_neg h2,if_neg (by omega)])
def aep (n:Nat) (g:Nat->Nat->Fl):mf n (rS g n 0)=mf n g:=oR n (λa b ha _=>by unfold rS; rw[if_pos (.inl ha)])
def Vp (n:Nat) (g:Nat->Nat->Fl) (i j:Nat):mf n (λa b=>if a=i/\b=j then g i j else rS g i j a b)=mf n (rS g i (j+1)):=oR n (λa b _ _=>by
 unfold rS;by_cases h:a=i/\b=j
 ·rw[if_pos h,if_pos (by omega),h.1,h.2]
 ·rw[if_neg h];by_cases h2:a<i\/(a=i/\b<j)
  ·rw[if_pos h2,if_pos (by omega)]
  ·rw[if_neg h2,if_neg (by omega)])
def mir (v:Nat->Nat->Fl):Nat->Nat->Fl:=λa b=>if b<=a then v a b else v b a
def mS (v:Nat->Nat->Fl) (i j:Nat):Nat->Nat->Fl:=λa b=>if max a b<i\/(max a b=i/\min a b<j)then mir v a b else some 0
def Vd (n:Nat) (v:Nat->Nat->Fl):mf n (λ_ _=>some 0)=mf n (mS v 0 0):=oR n (λa b _ _=>by unfold mS; rw[if_neg (by omega)])
def aee (n:Nat) (v:Nat->Nat->Fl) (i:Nat):mf n (mS v i (i+1))=mf n (mS v (i+1) 0):=oR n (λa b _ hb=>by
 unfold mS;by_cases h2:max a b<i\/(max a b=i/\min a b<i+1)
 ·rw[if_pos h2,if_pos (by omega)]
 ·rw[if_neg h2,if_neg (by omega)])
def aed (n:Nat) (v:Nat->Nat->Fl):mf n (mS v n 0)=mf n (mir v):=oR n (λa b ha hb=>by unfold mS; rw[if_pos (by omega)])
def Vc (n:Nat) (v:Nat->Nat->Fl) {i j:Nat} (hj:j<i+1):mf n (λa b=>if a=j/\b=i then v i j else if a=i/\b=j then v i j else mS v i j a b)=mf n (mS v i (j+1)):=oR n (λa b _ _=>by
 unfold mS mir;by_cases h:a=j/\b=i
 ·rw[if_pos h,h.1,h.2,if_pos (by omega:max j i<i\/(max j i=i/\min j i<j+1))];by_cases hij:i<=j
  ·rw[if_pos hij,show j=i by omega]
  ·rw[if_neg hij]
 ·rw[if_neg h];by_cases h1:a=i/\b=j
  ·rw[if_pos h1,h1.1,h1.2,if_pos (by omega:max i j<i\/(max i j=i/\min i j<j+1)),if_pos (by omega:j<=i)]
  ·rw[if_neg h1];by_cases h2:max a b<i\/(max a b=i/\min a b<j)
   ·rw[if_pos h2,if_pos (by omega:max a b<i\/(max a b=i/\min a b<j+1))]
   ·rw[if_neg h2,if_neg (by omega:¬(max a b<i\/(max a b=i/\min a b<j+1)))])
def Sj {N n:Nat} (hN:1000<=N) (hn:n<=12) {f p:List Fl} (hf:f.length=n*n) (hp:p.length=n*n) (o:Bool) (k:Ky6) :
  ajD N n n f n n p o k=k (o||orM n (prO n f p)) (mf n (prV n f p)):=by
 unfold ajD anx;rw[Fh hn,Vq n (prV n f p)];have h0:((0,o,mf n (rS (prV n f p) 0 0)):Int × Bool × List Fl)=(λi:Nat=>((i:Int),o||orB (λi=>orB (λj=>prO n f p i j) n) i,mf n (rS (prV n f p) i 0))) 0:=by show _=(((0:Nat):Int),o||false,_); rw[D2]; rfl
 rw[h0];refine bc (λi:Nat=>((i:Int),o||orB (λi=>orB (λj=>prO n f p i j) n) i,mf n (rS (prV n f p) i 0))) n (by omega) ?_ ?_
 ·intro i hi K;unfold NH;dsimp only;rw[aGQ (by omega:(i:Int)<(n:Int)),aGT];generalize ho1:(o||orB (λi=>orB (λj=>prO n f p i j) n) i)=o1;have h1:((0,o1,mf n (rS (prV n f p) i 0)):Int × Bool × List Fl)=(λj:Nat=>((j:Int),o1||orB (λj=>prO n f p i j) j,mf n (rS (prV n f p) i j))) 0:=by show _=(((0:Nat):Int),o1||false,_); rw[D2]; rfl
  rw[h1];refine(bc (λj:Nat=>((j:Int),o1||orB (λj=>prO n f p i j) j,mf n (rS (prV n f p) i j))) n (N:=N) (by omega) (out:=K ((((i+1:Nat)):Int),o||orB (λi=>orB (λj=>prO n f p i j) n) (i+1),mf n (rS (prV n f p) (i+1) 0))) ?_ ?_:_)
  ·intro j hj K';unfold NI;dsimp only;rw[aGQ (by omega:(j:Int)<(n:Int)),aGT,JA (by omega) hi hf,ad8 hN hn hj hp,
    Si (n:=n) (f:=λt=>elt f n i t) (g:=λt=>elt p n t j) hN (by omega) (rg hf hi) (by rw[lA]; omega) (by rw[lA]; omega) (λt ht=>tD hf hi ht) (λt ht=>Ev n _ ht none),
    GX hn hi hj,ac aGO]
   have e:dV (λt=>elt f n i t) (λt=>elt p n t j) n=prV n f p i j:=rfl;have e2:dO (λt=>elt f n i t) (λt=>elt p n t j) n=prO n f p i j:=rfl;rw[e,e2,qC o1 (λj=>prO n f p i j) j,Vp];rfl
  ·intro K';unfold NI;dsimp only;rw[aGR (by omega:¬(n:Int)<(n:Int)),aGS,ac aGO,<- ho1,apv,qC o (λi=>orB (λj=>prO n f p i j) n) i];rfl
 ·intro K;unfold NH;dsimp only;rw[aGR (by omega:¬(n:Int)<(n:Int)),aGS,aep];rfl
def nwV (n:Nat) (M:Nat->Nat->Fl) (f q:List Fl):Nat->Nat->Fl:=λi j=>qP (dV (λt=>M i t) (λt=>elt f n j t) n) (elt q n i j)
def nwO (n:Nat) (M:Nat->Nat->Fl) (f q:List Fl):Nat->Nat->Bool:=λi j=>dO (λt=>M i t) (λt=>elt f n j t) n || !iY (nwV n M f q i j)
def orL (n:Nat) (p:Nat->Nat->Bool):Bool:=orB (λi=>orB (λj=>p i j) (i+1)) n
def MI {N n:Nat} (hN:1000<=N) (hn:n<=12) {f q:List Fl} (M:Nat->Nat->Fl) (hf:f.length=n*n) (hq:q.length=n*n) (o:Bool) (k:Ky6) :
  gz N n n n n n f n n q n o (mf n M) k=k (o||orL n (nwO n M f q)) (mf n (mir (nwV n M f q))):=by
 have hn2:n*n<=144:=Vn hn;unfold gz jh;rw[<- aHa,ac aGO,ac (fZ (by omega) (by omega) (by omega) (by omega)),aGU,Vi];generalize hv:nwV n M f q=v;generalize hw:nwO n M f q=w;rw[Vd n v];have h0:((0,o,mf n (mS v 0 0)):Int × Bool × List Fl)=(λi:Nat=>((i:Int),o||orB (λi=>orB (λj=>w i j) (i+1)) i,mf n (mS v i 0))) 0:=by show _=(((0:Nat):Int),o||false,_); rw[D2]; rfl
 rw[h0];refine bc (λi:Nat=>((i:Int),o||orB (λi=>orB (λj=>w i j) (i+1)) i,mf n (mS v i 0))) n (by omega) ?_ ?_
 ·intro i hi K;unfold fi;dsimp only;rw[aGQ (by omega:(i:Int)<(n:Int)),aGT,ac aGO];generalize ho1:(o||orB (λi=>orB (λj=>w i j) (i+1)) i)=o1;have h1:((0,o1,mf n (mS v i 0)):Int × Bool × List Fl)=(λj:Nat=>((j:Int),o1||orB (λj=>w i j) j,mf n (mS v i j))) 0:=by show _=(((0:Nat):Int),o1||false,_); rw[D2]; rfl
  rw[h1];refine(bc (λj:Nat=>((j:Int),o1||orB (λj=>w i j) j,mf n (mS v i j))) (i+1) (N:=N) (by omega) (out:=K ((((i+1:Nat)):Int),o||orB (λi=>orB (λj=>w i j) (i+1)) (i+1),mf n (mS v (i+1) 0))) ?_ ?_:_)
  ·intro j hj K';have hj2:j<n:=by omega
   obtain⟨g1,g2⟩:=oM (by omega:n<=1000) hi hj2;obtain⟨g3,g4⟩:=oM (by omega:n<=1000) hj2 hi;have g5:=xP hi hj2;have g6:=xP hj2 hi;have g7:i*n+n<=n*n:=by rw[JP]; exact M7 hi
   unfold fj eK eB;dsimp only;rw[aGQ (by omega:(j:Int)<(i:Int)+1),aGT,ad_ (by omega) hi (lm n M),MN (by omega) hj2 hf,
    Xe (n:=n) (f:=λt=>M i t) (g:=λt=>elt f n j t) hN (by omega) (by rw[lm]; omega) (by rw[rg hf hj2]; omega) (by rw[rg hf hj2]; omega) (λt ht=>DW n M hi ht none) (λt ht=>tD hf hj2 ht),
    ac g1,oL,ac g2,hq,ac aGP,aGU,GW,ac g3,oL,ac g4,lm,ac aGP,ac (aGQ g5)]
   have e:qP (dV (λt=>M i t) (λt=>elt f n j t) n) (q.getD (i*n+j) none)=v i j:=by rw[<- hv]; rfl
   rw[e,aGU,SE n _ hi hj2,lm,ac aGP,ac (aGQ g6),SE n _ hj2 hi,ac aGO];have e2:((o1||orB (λj=>w i j) j)||dO (λt=>M i t) (λt=>elt f n j t) n || !iY (v i j))=(o1||orB (λj=>w i j) (j+1)):=by rw[<- qC o1 (λj=>w i j) j,<- hw,<- hv,Bool.or_assoc]; rfl
   rw[e2];rw[Vc n v hj,ac g2,ac aGO];rfl
  ·intro K';unfold fj;dsimp only;rw[aGR (by omega:¬((i+1:Nat):Int)<(i:Int)+1),aGS,ac aGO,<- ho1,aee,qC o (λi=>orB (λj=>w i j) (i+1)) i];rfl
 ·intro K;unfold fi;dsimp only;rw[aGR (by omega:¬(n:Int)<(n:Int)),aGS,aed];rfl
end Go.Proofs.YteifemaagdeomaaGreatDoor
end
section
namespace Go.Proofs.YteifemaagdeomaaGreatDoor
open Go Go.Mach Ieee
def sqc (a b:Int) (l:List Fl) (n:Int):Int:=if chk a b l ≠ 0 then chk a b l else if a ≠ b then 3 else if a ≠ n then 3 else 0
def Ep {a b:Int} {l:List Fl} {n:Nat} (h:sqc a b l n=0):a=n/\b=n/\l.length=n*n/\fP l=true:=by
 unfold sqc at h;split at h
 ·exact absurd h (by assumption)
 ·rename_i h0;have h0:chk a b l=0:=by simpa using h0
  have q:=wo.1 h0;split at h
  ·cases h
  ·rename_i h1;split at h
   ·cases h
   ·rename_i h2;have h1:a=b:=by simpa using h1
    have h2:a=n:=by simpa using h2
    subst h1;subst h2;exact⟨rfl,rfl,by exact_mod_cast q.2.1,q.2.2⟩
def nM (a b:Int) (h:¬ a=b):(a != b)=true:=by simp[h]
def JC {N:Nat} (hN:1000<=N) (a b:Int) (l:List Fl) (n:Int) (k:Kz1):nN N a b l n k=k (sqc a b l n):=by
 unfold nN ru sqc;rw[xS hN];by_cases h0:chk a b l=0
 ·rw[h0,show((0:Int) != 0)=false from rfl,aGS,if_neg (λh=>h rfl)];by_cases h1:a=b
  ·subst h1;rw[if_neg (λh=>h rfl),show((a != a)==false)=true by simp,aGT];by_cases h2:a=n
   ·subst h2;rw[if_neg (λh=>h rfl),show(a != a)=false by simp,aGS]
   ·rw[if_pos h2,nM _ _ h2,aGT]
  ·rw[if_pos h1,nM _ _ h1]; rfl
 ·rw[if_pos h0,nM _ _ h0,aGT]
def F4 {N:Nat} (hN:1000<=N) (a b:Int) (l:List Fl) (n:Int) (k:Kz1):VD N a b l n k=k (sqc a b l n):=by
 unfold VD Zv Qd UA sqc;rw[Jr hN];dsimp only;by_cases h0:chk a b l=0
 ·rw[h0,show((0:Int) != 0)=false from rfl,aGS,if_neg (λh=>h rfl)];by_cases h1:a=b
  ·subst h1;rw[if_neg (λh=>h rfl),show((a != a)==false)=true by simp,aGT];by_cases h2:a=n
   ·subst h2;rw[if_neg (λh=>h rfl),show(a != a)=false by simp,aGS]
   ·rw[if_pos h2,nM _ _ h2,aGT]
  ·rw[if_pos h1,nM _ _ h1]; rfl
 ·rw[if_pos h0,nM _ _ h0,aGT]
def low (v:Nat->Nat->Fl):Nat->Nat->Fl:=λa b=>if b<=a then v a b else some 0
def PI {N n:Nat} (hN:1000<=N) (hn:n<=12) (v:Nat->Nat->Fl) (k:Kz4):VZ N n n (mf n (low v)) k=k (mf n (mir v)):=by
 unfold VZ aad;rw[Fh hn,Vd n v];refine bc (λi:Nat=>((i:Int),mf n (mS v i 0))) n (by omega) ?_ ?_
 ·intro i hi K;unfold nR;dsimp only;rw[aGQ (by omega:(i:Int)<(n:Int)),aGT];refine(bc (λj:Nat=>((j:Int),mf n (mS v i j))) (i+1) (N:=N) (by omega) (out:=K ((((i+1:Nat)):Int),mf n (mS v (i+1) 0))) ?_ ?_:_)
  ·intro j hj K';have hj2:j<n:=by omega
   unfold nS;dsimp only;have hL:(mf n (low v)).length=n*n:=lm n _;have e:elt (mf n (low v)) n i j=v i j:=by rw[SD n _ hi hj2]; unfold low; rw[if_pos (by omega)]
   rw[aGQ (by omega:(j:Int)<=(i:Int)),aGT,wW hn hi hj2 hL,e,GX hn hi hj2,wW hn hi hj2 hL,e,GX hn hj2 hi,ac aGO,Vc n v hj];rfl
  ·intro K';unfold nS;dsimp only;rw[aGR (by omega:¬((i+1:Nat):Int)<=(i:Int)),aGS,ac aGO,aee];rfl
 ·intro K;unfold nR;dsimp only;rw[aGR (by omega:¬(n:Int)<(n:Int)),aGS,aed]
def aeh {n:Nat} {f:Nat->Nat->Fl} {P:Fl->Prop} (h:∀ a b,a<n->b<n->P (f a b)):∀ t,t<n*n->P ((mf n f).getD t none):=by
 intro t ht;have hn:0<n:=by
  rcases aHY n with h0 | h0
  ·rw[h0]at ht; omega
  ·exact h0
 have:=DW n f (aIm ht) (aG6 t hn) none;rw[show t / n*n+t%n=t from by rw[aGV]; exact aHF t n]at this;rw[this];exact h _ _ (aIm ht) (aG6 t hn)
def aeg {n:Nat} {f:Nat->Nat->Fl} (h:∀ a b,a<n->b<n->iY (f a b)=true):fP (mf n f)=true:=by unfold fP;refine wl.2 (λt ht=>aeh (P:=λx=>iY x=true) h t ?_);rw[lm]at ht; exact ht
def asO {n:Nat} {f:Nat->Nat->Fl} (h:∀ a b,FW (f a b)):AllW (mf n f):=by intro x hx;unfold mf at hx;obtain⟨t,-,rfl⟩:=List.mem_map.1 hx;exact h _ _
def Vj {n:Nat} (v:Nat->Nat->Fl):aaI n (mf n (mir v)):=by
 intro a b ha hb;show yd (ofE (elt (mf n (mir v)) n a b))=yd (ofE (elt (mf n (mir v)) n b a));rw[SD n _ ha hb,SD n _ hb ha];unfold mir;rcases aIM a b with h | h | h
 ·rw[if_neg (by omega),if_pos (by omega)]
 ·rw[h]
 ·rw[if_pos (by omega),if_neg (by omega)]
def alZ {v:Nat->Nat->Fl} (h:∀ a b,FW (v a b)) (a b:Nat):FW (mir v a b):=by
 unfold mir; split
 ·exact h _ _
 ·exact h _ _
def MX {n:Nat} {v:Nat->Nat->Fl} (h:∀ a b,a<n->b<=a->iY (v a b)=true):∀ a b,a<n->b<n->iY (mir v a b)=true:=by
 intro a b ha hb;unfold mir; split
 ·exact h _ _ ha (by assumption)
 ·exact h _ _ hb (by omega)
def SJ {n:Nat} {M:Nat->Nat->Fl} {f q:List Fl} (h:orL n (nwO n M f q)=false):∀ a b,a<n->b<=a->iY (nwV n M f q a b)=true:=by intro a b ha hb;have h1:=AQ h a ha;have h2:=AQ h1 b (by omega);unfold nwO at h2;rw[Bool.or_eq_false_iff]at h2;simpa using h2.2
def asR {n:Nat} {M:Nat->Nat->Fl} {f q:List Fl} (a b:Nat):FW (nwV n M f q a b):=Uq _ _
def prX (n:Nat) (f s:List Fl):Nat->Fl:=λi=>dV (λt=>elt f n i t) (λt=>s.getD t none) n
def KK (n:Nat) (f s:List Fl):Nat->Bool:=λi=>dO (λt=>elt f n i t) (λt=>s.getD t none) n
def prF (n:Nat) (s p f q:List Fl):Bool:=((false||orB (KK n f s) n)||orM n (prO n f p))||orL n (nwO n (prV n f p) f q)
def prM (n:Nat) (p f q:List Fl):List Fl:=mf n (mir (nwV n (prV n f p) f q))
def prK (x:List Fl) (r c:Int) (p:List Fl) (fr fc:Int) (f:List Fl) (qr qc:Int) (q:List Fl) (k0:Int->Int->Int->Bool) (k1:Int->Int->Int->List Fl->List Fl->Bool):Bool:=
 if Jl x r c p ≠ 0 then k0 0 0 (Jl x r c p)else
 if sqc fr fc f x.length ≠ 0 then k0 0 0 (sqc fr fc f x.length)else
 if sqc qr qc q x.length ≠ 0 then k0 0 0 (sqc qr qc q x.length)else
 if An x.length q=false then k0 0 0 150 else
 cond (prF x.length x p f q) (k0 0 0 5) (cond (!M3 x.length (prM x.length p f q)) (k0 0 0 151) (k1 x.length x.length 0 (vf x.length (prX x.length f x)) (prM x.length p f q)))
def l8 {N:Nat} (hF:Fuel N) (x:List Fl) (r c:Int) (p:List Fl) (fr fc:Int) (f:List Fl) (qr qc:Int) (q:List Fl) (hwp:AllW p) (k0:Int->Int->Int->Bool) (k1:Int->Int->Int->List Fl->List Fl->Bool) :
  mD N x r c p fr fc f qr qc q k0 k1=prK x r c p fr fc f qr qc q k0 k1:=by
 have hN:=hF.lt;unfold mD mn prK;rw[R3 hF _ _ _ _ hwp];by_cases h0:Jl x r c p=0
 ·obtain⟨n,hn,rfl,rfl,hx,hl,fx,fl,-,-⟩:=Fc h0;rw[if_neg (λh=>h h0),h0,show((0:Int) != 0)=false from rfl,aGS,JC (by omega),hx];by_cases h1:sqc fr fc f n=0
  ·obtain⟨rfl,rfl,hfl,ff⟩:=Ep h1;rw[if_neg (λh=>h h1),h1,show((0:Int) != 0)=false from rfl,aGS,JC (by omega)];by_cases h2:sqc qr qc q n=0
   ·obtain⟨rfl,rfl,hql,fq⟩:=Ep h2;rw[if_neg (λh=>h h2),h2,show((0:Int) != 0)=false from rfl,aGS,U6 (by omega) hn hql fq];cases h3:An n q
    ·rw[if_pos rfl]; rfl
    ·rw[if_neg (by decide),show(!true)=false from rfl,aGS,aGU,aHW,ac (fZ (by omega) (by omega) (by omega) (by omega))];have z0:((0,List.replicate n (some 0),false):Int × List Fl × Bool)=(λt:Nat=>((t:Int),(vf n (prX n f x)).take t++List.replicate (n - t) (some 0),false||orB (KK n f x) t)) 0:=by show _=(((0:Nat):Int),_,false||false); rfl
     rw[z0];refine bc (λt:Nat=>((t:Int),(vf n (prX n f x)).take t++List.replicate (n - t) (some 0),false||orB (KK n f x) t)) n (by omega) ?_ ?_
     ·intro t ht K;unfold j7;dsimp only;have hfl2:=Gm n (prX n f x) (i:=t) (by omega);have hs:=Wr n (prX n f x) ht;rw[aGQ (by omega:(t:Int)<(n:Int)),aGT,MN (by omega) ht hfl,
       adU (n:=n) (f:=λi=>elt f n t i) (g:=λi=>x.getD i none) (by omega) (by omega) (rg hfl ht) (by omega) (by omega) (λi hi=>tD hfl ht hi) (λi hi=>rfl)]
      rw[hfl2,ac aGP,aGU,ac (aGQ ht),ac aGO];have e:dV (λi=>elt f n t i) (λi=>x.getD i none) n=prX n f x t:=rfl;have e2:dO (λi=>elt f n t i) (λi=>x.getD i none) n=KK n f x t:=rfl;rw[e,e2,hs,qC false (KK n f x) t];rfl
     ·intro K;unfold j7;dsimp only;rw[aGR (by omega:¬(n:Int)<(n:Int)),aGS,aHq,aHp,aHn,aHb (by rw[lA]; omega),PH (by omega) hn hfl hl,MI (by omega) hn (prV n f p) hfl hql];unfold kI kv aeM aaf;show cond (prF n x p f q) _ _=cond (prF n x p f q) _ _;cases h4:prF n x p f q
      ·rw[aGS,aGS];have h5:orL n (nwO n (prV n f p) f q)=false:=by unfold prF at h4;rw[Bool.or_eq_false_iff]at h4;exact h4.2
       have hfin:=aeg (MX (SJ h5));unfold prM;show f7 N n n (mf n (mir (nwV n (prV n f p) f q))) _=_;rw[DT hF hn (lm n _) hfin (asO (alZ asR)) (Vj _)]
      ·rfl
   ·rw[if_pos h2,nM _ _ h2,aGT]
  ·rw[if_pos h1,nM _ _ h1,aGT]
 ·rw[if_pos h0,nM _ _ h0,aGT]
end Go.Proofs.YteifemaagdeomaaGreatDoor
end
section
namespace Go.Proofs.YteifemaagdeomaaGreatDoor
open Go Go.Mach Ieee
def Xz {N n:Nat} (hF:Fuel N) (hn:n<=12) (x:List Fl) {v:Nat->Nat->Fl} (b:Bool) (hb:b=false -> ∀ i j,i<n->j<=i->iY (v i j)=true) (hw:∀ i j,FW (v i j)) (k0:Int->Int->Int->Bool) (k1:Int->List Fl->Bool) :
  ajC N n n x (mf n (low v)) b k0 k1=cond b (k0 0 0 5) (cond (!M3 n (mf n (mir v))) (k0 0 0 151) (k1 0 (mf n (mir v)))):=by
 have hN:=hF.lt;unfold ajC anr;cases b
 ·rw[aGS,aGS,PI (by omega) hn,DR hF hn (lm n _) (aeg (MX (hb rfl))) (asO (alZ hw)) (Vj _)]
 ·rfl
def MJ {N:Nat} (hF:Fuel N) (x:List Fl) (r c:Int) (p:List Fl) (fr fc:Int) (f:List Fl) (qr qc:Int) (q:List Fl) (hwp:AllW p) (k0:Int->Int->Int->Bool) (k1:Int->Int->Int->List Fl->List Fl->Bool) :
  VP N x r c p fr fc f qr qc q k0 k1=prK x r c p fr fc f qr qc q k0 k1:=by
 have hN:=hF.lt;unfold VP Uv prK;rw[Ps hF _ _ _ _ hwp];by_cases h0:Jl x r c p=0
 ·obtain⟨n,hn,rfl,rfl,hx,hl,fx,fl,-,-⟩:=Fc h0;rw[if_neg (λh=>h h0),h0,show((0:Int) != 0)=false from rfl,aGS,F4 (by omega),hx];by_cases h1:sqc fr fc f n=0
  ·obtain⟨rfl,rfl,hfl,ff⟩:=Ep h1;rw[if_neg (λh=>h h1),h1,show((0:Int) != 0)=false from rfl,aGS,F4 (by omega)];by_cases h2:sqc qr qc q n=0
   ·obtain⟨rfl,rfl,hql,fq⟩:=Ep h2;rw[if_neg (λh=>h h2),h2,show((0:Int) != 0)=false from rfl,aGS,Py (by omega) hn hql fq];cases h3:An n q
    ·rfl
    ·rw[if_pos rfl,if_neg (by decide),show((0:Int) != 0)=false from rfl,aGS];have z0:((0,false,[]):Int × Bool × List Fl)=(λt:Nat=>((t:Int),false||orB (KK n f x) t,(vf n (prX n f x)).take t)) 0:=by show _=(((0:Nat):Int),false||false,_); rfl
     rw[z0];refine bc (λt:Nat=>((t:Int),false||orB (KK n f x) t,(vf n (prX n f x)).take t)) n (by omega) ?_ ?_
     ·intro t ht K;unfold mO;dsimp only;rw[aGQ (by omega:(t:Int)<(n:Int)),aGT,JA (by omega) ht hfl,
       Xy (n:=n) (f:=λi=>elt f n t i) (g:=λi=>x.getD i none) (by omega) (by omega) (rg hfl ht) (by omega) (by omega) (λi hi=>tD hfl ht hi) (λi hi=>rfl)]
      have e:dV (λi=>elt f n t i) (λi=>x.getD i none) n=prX n f x t:=rfl;have e2:dO (λi=>elt f n t i) (λi=>x.getD i none) n=KK n f x t:=rfl;rw[e,e2,Ws n (prX n f x) ht,ac (aGQ (by rw[aHl,lA]; omega)),ac aGO,qC false (KK n f x) t];rfl
     ·intro K;unfold mO;dsimp only;rw[aGR (by omega:¬(n:Int)<(n:Int)),aGS,aHb (by rw[lA]; omega),Sj (by omega) hn hfl hl,lA,Fh hn];generalize hV:nwV n (prV n f p) f q=v;generalize hW:nwO n (prV n f p) f q=w;generalize hO:((false||orB (KK n f x) n)||orM n (prO n f p))=o;rw[Vq n (low v)];have z1:((0,o,mf n (rS (low v) 0 0)):Int × Bool × List Fl)=(λi:Nat=>((i:Int),o||orB (λi=>orB (λj=>w i j) (i+1)) i,mf n (rS (low v) i 0))) 0:=by show _=(((0:Nat):Int),o||false,_); rw[D2]; rfl
      rw[z1];refine bc (λi:Nat=>((i:Int),o||orB (λi=>orB (λj=>w i j) (i+1)) i,mf n (rS (low v) i 0))) n (by omega) ?_ ?_
      ·intro i hi K;unfold mP;dsimp only;rw[aGQ (by omega:(i:Int)<(n:Int)),aGT];generalize ho1:(o||orB (λi=>orB (λj=>w i j) (i+1)) i)=o1;have z3:((0,o1,mf n (rS (low v) i 0)):Int × Bool × List Fl)=(λj:Nat=>((j:Int),o1||orB (λj=>w i j) j,mf n (rS (low v) i j))) 0:=by show _=(((0:Nat):Int),o1||false,_); rw[D2]; rfl
       rw[z3];refine(bc (λj:Nat=>((j:Int),o1||orB (λj=>w i j) j,mf n (rS (low v) i j))) (i+1) (N:=N) (by omega) (out:=K ((((i+1:Nat)):Int),o||orB (λi=>orB (λj=>w i j) (i+1)) (i+1),mf n (rS (low v) (i+1) 0))) ?_ ?_:_)
       ·intro j hj K';have hj2:j<n:=by omega
        have g7:i*n+n<=n*n:=by rw[JP]; exact M7 hi
        unfold mQ;dsimp only;rw[aGQ (by omega:(j:Int)<=(i:Int)),aGT,XA (by omega) hi (lm n (prV n f p)),JA (by omega) hj2 hfl,
         Se (n:=n) (f:=λt=>prV n f p i t) (g:=λt=>elt f n j t) (by omega) (by omega) (by rw[lm]; omega) (by rw[rg hfl hj2]; omega) (by rw[rg hfl hj2]; omega) (λt ht=>DW n (prV n f p) hi ht none) (λt ht=>tD hfl hj2 ht),
         wW hn hi hj2 hql,Jv]
        have e:qP (dV (λt=>prV n f p i t) (λt=>elt f n j t) n) (elt q n i j)=v i j:=by rw[<- hV]; rfl
        rw[e,GX hn hi hj2,ac aGO];have e2:((o1||orB (λj=>w i j) j)||dO (λt=>prV n f p i t) (λt=>elt f n j t) n || !iY (v i j))=(o1||orB (λj=>w i j) (j+1)):=by rw[<- qC o1 (λj=>w i j) j,<- hW,<- hV,Bool.or_assoc]; rfl
        rw[e2];have e3:low v i j=v i j:=by unfold low; rw[if_pos (by omega)]
        rw[<- e3,Vp];rfl
       ·intro K';unfold mQ;dsimp only;have e3:mf n (rS (low v) i (i+1))=mf n (rS (low v) (i+1) 0):=oR n (λa b _ hb=>by
         unfold rS;by_cases h2:a<i\/(a=i/\b<i+1)
         ·rw[if_pos h2,if_pos (by omega)]
         ·rw[if_neg h2];by_cases h3:a<i+1\/(a=i+1/\b<0)
          ·rw[if_pos h3]; unfold low; rw[if_neg (by omega)]
          ·rw[if_neg h3])
        rw[aGR (by omega:¬((i+1:Nat):Int)<=(i:Int)),aGS,ac aGO,<- ho1,e3,qC o (λi=>orB (λj=>w i j) (i+1)) i];rfl
      ·intro K;unfold mP;dsimp only;rw[aGR (by omega:¬(n:Int)<(n:Int)),aGS,aep];have hfin:(o||orB (λi=>orB (λj=>w i j) (i+1)) n)=false -> ∀ i j,i<n->j<=i->iY (v i j)=true:=by intro h;rw[Bool.or_eq_false_iff]at h;rw[<- hV];exact SJ (by rw[hW]; exact h.2)
       rw[Xz hF hn _ _ hfin (by rw[<- hV]; exact asR)];have eF:prF n x p f q=(o||orB (λi=>orB (λj=>w i j) (i+1)) n):=by unfold prF; rw[hW,hO]; rfl
       have eM:prM n p f q=mf n (mir v):=by unfold prM; rw[hV]
       rw[eF,eM]
   ·rw[if_pos h2,nM _ _ h2,aGT]
  ·rw[if_pos h1,nM _ _ h1,aGT]
 ·rw[if_pos h0,nM _ _ h0,aGT]
def spl (l:List Fl):Nat->List Fl
 | 0=>l
 | t+1=>(spl l t).set t (some 4635118810238550016)
def Eo (l:List Fl):∀ t,(spl l t).length=l.length
 | 0=>rfl
 | t+1=>by unfold spl; rw[aIX,Eo l t]
def LD {N:Nat} {a b c d:List Fl} (ha:kl N a.length) (hb:kl N b.length) (hc:kl N c.length) (hd:kl N d.length) (K:Bool):aeS N a b c d (λ_ _ _ _=>K)=K:=by
 have ha1:=ha.1; have ha2:=ha.2;have hb1:=hb.1; have hb2:=hb.2;have hc1:=hc.1; have hc2:=hc.2;have hd1:=hd.1; have hd2:=hd.2;unfold aeS ahr;refine bc (λt:Nat=>((t:Int),spl a t)) a.length (by omega) ?_ ?_
 ·intro t ht K;unfold Nv;dsimp only;rw[aGQ (by omega:(t:Int)<(a.length:Int)),aGT,Eo,ac aGP,aGU,ac (aGQ (by omega)),ac aGO];rfl
 intro _;unfold Nv;dsimp only;rw[aGR (by omega:¬(a.length:Int)<(a.length:Int)),aGS];refine bc (λt:Nat=>((t:Int),spl b t)) b.length (by omega) ?_ ?_
 ·intro t ht K;unfold Ns;dsimp only;rw[aGQ (by omega:(t:Int)<(b.length:Int)),aGT,Eo,ac aGP,aGU,ac (aGQ (by omega)),ac aGO];rfl
 intro _;unfold Ns;dsimp only;rw[aGR (by omega:¬(b.length:Int)<(b.length:Int)),aGS];refine bc (λt:Nat=>((t:Int),spl c t)) c.length (by omega) ?_ ?_
 ·intro t ht K;unfold Nt;dsimp only;rw[aGQ (by omega:(t:Int)<(c.length:Int)),aGT,Eo,ac aGP,aGU,ac (aGQ (by omega)),ac aGO];rfl
 intro _;unfold Nt;dsimp only;rw[aGR (by omega:¬(c.length:Int)<(c.length:Int)),aGS];refine bc (λt:Nat=>((t:Int),spl d t)) d.length (by omega) ?_ ?_
 ·intro t ht K;unfold Nu;dsimp only;rw[aGQ (by omega:(t:Int)<(d.length:Int)),aGT,Eo,ac aGP,aGU,ac (aGQ (by omega)),ac aGO];rfl
 intro _;unfold Nu;dsimp only;rw[aGR (by omega:¬(d.length:Int)<(d.length:Int)),aGS]
def Pz {N:Nat} {a:List Fl} (hs:kl N a.length) (h:∀ i,i<a.length->Nn (a.getD i none)) (k:Kz0):aeY N a a k=k true:=by
 have h1:=hs.1;have h2:=hs.2;unfold aeY an5;rw[show(((a.length:Nat):Int) != ((a.length:Nat):Int))=false by simp,aGS];refine bc (λt:Nat=>(t:Int)) a.length (by omega) ?_ ?_
 ·intro t ht K;unfold Nx;dsimp only;rw[aGQ (by omega:(t:Int)<(a.length:Int)),aGT,ac aGP,ac aGP,aGU,Xs (h t ht),show(!true)=false from rfl,aGS,ac aGO];rfl
 ·intro K;unfold Nx;dsimp only;rw[aGR (by omega:¬(a.length:Int)<(a.length:Int)),aGS]
def LM {N:Nat} {a b:List Fl} (ha:kl N a.length) (hb:kl N b.length) (h:∀ i,i<a.length->Nn (a.getD i none)) (g:∀ i,i<b.length->Nn (b.getD i none)) (i j:Int) (k:Kz0):sQ7 N a i j b a i j b k=k true:=by unfold sQ7 GQ7;rw[Pz ha h,show(i==i)=true by simp,show(j==j)=true by simp];show aeY N b b _=_;rw[Pz hb g]
def Sa {N:Nat} (hN:1000<=N) (i j:Int) (k:Kz0):sQ7 N [] i j [] [] i j [] k=k true:=
 LM (a:=[]) (b:=[]) ⟨by show 0<N; omega,by decide⟩ ⟨by show 0<N; omega,by decide⟩ (λi hi=>by exact absurd hi (Nat.not_lt_zero _)) (λi hi=>by exact absurd hi (Nat.not_lt_zero _)) i j k
end Go.Proofs.YteifemaagdeomaaGreatDoor
end
section
namespace Go.Proofs.YteifemaagdeomaaGreatDoor
open Go Go.Mach Ieee
def ael (l:List Int):(jj l).length=l.length:=by unfold jj; rw[aIn]
def yh {N:Nat} {l:List Int} (h:kl N l.length):kl N (jj l).length:=by rw[ael]; exact h
def LE {N:Nat} {x p:List Int} (hx:kl N x.length) (hp:kl N p.length) (r c:Int) (k:List Fl->List Fl->Bool):sQ4 N x r c p k=k (jj x) (jj p):=by unfold sQ4 GQ4;rw[wV x hx,wV p hp]
def aqI {n:Nat} {g:Nat->Fl} {P:Fl->Prop} (h:∀ i,i<n->P (g i)):∀ i,i<(vf n g).length->P ((vf n g).getD i none):=by intro i hi;rw[lA]at hi;rw[Ev n g hi];exact h i hi
def aps {n:Nat} {f:Nat->Nat->Fl} {P:Fl->Prop} (h:∀ a b,a<n->b<n->P (f a b)):∀ i,i<(mf n f).length->P ((mf n f).getD i none):=by intro i hi;rw[lm]at hi;exact aeh h i hi
def CI {N:Nat} (hF:Fuel N) (x:List Int) (r:Int) (p m q:List Int) (o:Int) (hx:kl N x.length) (hp:kl N p.length) (hm:kl N m.length) (hq:kl N q.length) (hw:∀ z,z ∈ p->z.toNat<18446744073709551616) :
  apy N x r p m q o (λb=>b)=true:=by
 have hN:=hF.lt;have hW:=apu hw;unfold apy ahu;rw[LE hx hp];dsimp only;rw[wV m hm,wV q hq,LE hx hp]
 try dsimp only
 try rw[wV m hm]
 try rw[wV q hq]
 try dsimp only
 have sx:=yh hx;have sp:=yh hp;have sm:=yh hm;have sq:=yh hq;have fin0:∀ e:Int,aeS N (jj x) (jj p) (jj m) (jj q) (λ(y14 y15 y16 y17:List Fl)=>(sQ7 N [] 0 0 [] [] 0 0 [] (λ(cr:Bool)=>(cond (cr==true) (cond ((e==e)==true) (sQ0 N (λ(auN:Bool)=>auN)) false) false))))=true:=by
  intro e;rw[LD sx sp sm sq,Sa (by omega),LG (by omega)];have:(e==e)=true:=by simp
  rw[this]; rfl
 rw[MJ hF _ _ _ _ _ _ _ _ _ _ hW];unfold prK;by_cases h0:Jl (jj x) r r (jj p) ≠ 0
 ·rw[if_pos h0];dsimp only;rw[l8 hF _ _ _ _ _ _ _ _ _ _ hW];unfold prK;rw[if_pos h0];exact fin0 _
 rw[if_neg h0];by_cases h1:sqc r r (jj m) (jj x).length ≠ 0
 ·rw[if_pos h1];dsimp only;rw[l8 hF _ _ _ _ _ _ _ _ _ _ hW];unfold prK;rw[if_neg h0,if_pos h1];exact fin0 _
 rw[if_neg h1];by_cases h2:sqc o o (jj q) (jj x).length ≠ 0
 ·rw[if_pos h2];dsimp only;rw[l8 hF _ _ _ _ _ _ _ _ _ _ hW];unfold prK;rw[if_neg h0,if_neg h1,if_pos h2];exact fin0 _
 rw[if_neg h2];by_cases h3:An (jj x).length (jj q)=false
 ·rw[if_pos h3];dsimp only;rw[l8 hF _ _ _ _ _ _ _ _ _ _ hW];unfold prK;rw[if_neg h0,if_neg h1,if_neg h2,if_pos h3];exact fin0 _
 rw[if_neg h3];cases h4:prF (jj x).length (jj x) (jj p) (jj m) (jj q)
 ·rw[aGS];cases h5:M3 (jj x).length (prM (jj x).length (jj p) (jj m) (jj q))
  ·rw[show(!false)=true from rfl,aGT];dsimp only;rw[l8 hF _ _ _ _ _ _ _ _ _ _ hW];unfold prK;rw[if_neg h0,if_neg h1,if_neg h2,if_neg h3,h4,aGS,h5,show(!false)=true from rfl,aGT];exact fin0 _
  ·rw[show(!true)=false from rfl,aGS];dsimp only;rw[l8 hF _ _ _ _ _ _ _ _ _ _ hW];unfold prK;rw[if_neg h0,if_neg h1,if_neg h2,if_neg h3,h4,aGS,h5,show(!true)=false from rfl,aGS];dsimp only;obtain⟨n,hn,-,-,hxl,-,-,-,-,-⟩:=Fc (by simpa using h0);rw[hxl]at h4;rw[hxl];unfold prF at h4;rw[Bool.or_eq_false_iff,Bool.or_eq_false_iff,Bool.or_eq_false_iff]at h4;have g1:∀ i,i<(vf n (prX n (jj m) (jj x))).length->Nn ((vf n (prX n (jj m) (jj x))).getD i none):=
    aqI (λi hi=>QS (aon (AQ h4.1.1.2 i hi)))
   have g2:∀ i,i<(prM n (jj p) (jj m) (jj q)).length->Nn ((prM n (jj p) (jj m) (jj q)).getD i none):=
    aps (λa b ha hb=>QS (MX (SJ h4.2) a b ha hb))
   have n2:n*n<=144:=Vn hn;have s1:kl N (vf n (prX n (jj m) (jj x))).length:=by rw[lA]; exact⟨by omega,by omega⟩
   have s2:kl N (prM n (jj p) (jj m) (jj q)).length:=by unfold prM; rw[lm]; exact⟨by omega,by omega⟩
   rw[LD sx sp sm sq,LM s1 s2 g1 g2,LG (by omega)];rfl
 ·rw[aGT];dsimp only;rw[l8 hF _ _ _ _ _ _ _ _ _ _ hW];unfold prK;rw[if_neg h0,if_neg h1,if_neg h2,if_neg h3,h4,aGT];exact fin0 _
end Go.Proofs.YteifemaagdeomaaGreatDoor
end
