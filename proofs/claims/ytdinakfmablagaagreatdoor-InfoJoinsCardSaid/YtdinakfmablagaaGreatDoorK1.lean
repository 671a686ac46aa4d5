/- Laws in plain Lean. Conditions: none. -/
import Derived.Test.YtdinakfmablagaaGreatDoorC13
import Derived.Test.YtdinakfmablagaaGreatDoorX0
set_option linter.unusedVariables false
section
namespace Go.Proofs.YtdinakfmablagaaGreatDoor
open Go Go.Mach Ieee
theorem Oq {N:Nat} (hN:1000<=N) (k:Bool->List Int->Bool):yK N 1 k=k false (ah 1):=sU (N:=N) 1 (by decide) (kO hN (by decide)) (by omega) k
theorem T_ (a b:Nat):flt (some a) (some b)=((Ieee.double.read a).order (Ieee.double.read b)==some .lt):=rfl
theorem Oj (a b:Nat):feq (some a) (some b)=((Ieee.double.read a).order (Ieee.double.read b)==some .eq):=rfl
theorem Se (a b:Nat):fgt (some a) (some b)=((Ieee.double.read a).order (Ieee.double.read b)==some .gt):=rfl
theorem JJ {b:Nat} (hb:W64 b) {s:Bool} {m:Nat} {i:Int} (h:Ieee.double.read b=.number s m i):∃ c,zp (some b)=some c/\W64 c/\Ieee.double.read c=.number false m i:=by
 have e:Ieee.double.read (b%9223372036854775808)=.number false m i:=by
  obtain⟨hs,hlt,h⟩:=kI h;unfold Format.read;simp only[dj,kt,fF,jr];have e1:b%9223372036854775808%9223372036854775808=b%9223372036854775808:=by omega
  have e2:(b%9223372036854775808 / 9223372036854775808%2==1)=false:=by rw[beq_eq_false_iff_ne]; omega
  rw[e1,e2];rcases h with⟨h1,rfl,rfl⟩ | ⟨h1,rfl,rfl⟩
  ·rw[if_pos h1]
  ·rw[if_neg (by omega),if_pos hlt]
 have hn:isNaN (b%9223372036854775808)=false:=by unfold isNaN; rw[e]; rfl
 refine⟨b%9223372036854775808,?_,by unfold W64 at *; omega,e⟩;show dD _=_;unfold dD; rw[hn]; rfl
theorem zx (N:Nat) {x:Fl} (hx:aL x=true) (hw:FW x) (k:Bool->Bool):lK N x 0 k=k false:=by
 obtain⟨b,s,m,i,rfl,h⟩:=gz hx;obtain⟨c,hc,hcw,hcr⟩:=JJ (hw b rfl) h;have hp:=kH hcr;have hg:=qA hcr
 (unfold lK; rw[af]; unfold q8)
 show k (fgt (zp (some b)) (some 9218868437227405311))=_;rw[hc];congr 1;have hr:Ieee.double.read 9218868437227405311=.number false 9007199254740991 971:=by decide
 rw[Se,hcr,hr];simp only[Datum.order];have hmin:min i 971=i:=by omega
 have e0:(i - i).toNat=0:=by omega
 rw[hmin,e0];have s1:signed false m 0=((m:Nat):Int):=rfl;have s2:signed false 9007199254740991 (971 - i).toNat=((9007199254740991 <<< (971 - i).toNat:Nat):Int):=rfl;rw[s1,s2,Nat.shiftLeft_eq];have hpw:0<2 ^ (971 - i).toNat:=Nat.two_pow_pos _;have hle:9007199254740991<=9007199254740991*2 ^ (971 - i).toNat:=Nat.le_mul_of_pos_right _ hpw;generalize 9007199254740991*2 ^ (971 - i).toNat=q at hle;have:compare (m:Int) (q:Int) ≠ .gt:=λe=>by have:=Int.compare_eq_gt.1 e; omega
 cases e:compare (m:Int) (q:Int)with
 | gt=>exact absurd e this
 | eq=>rfl
 | lt=>rfl
theorem IL (d:Datum):W64 (Ieee.double.write d):=by
 cases d with
 | number s m i=>exact Dw s m i
 | infinity s=>
  have:Ieee.double.write (.infinity s)=Ieee.double.word s 9218868437227405312:=by rw[<- fF]; rfl
  rw[this]; exact zj s (by decide)
 | nan s f=>
  have:Ieee.double.write (.nan s f)=Ieee.double.word s (9218868437227405312+f%4503599627370496):=by rw[<- fF,<- kt]; rfl
  rw[this]; exact zj s (by omega)
theorem Bu {o:Option Datum}:FW (o.map Ieee.double.write):=by
 intro b hb;cases o with
 | none=>cases hb
 | some d=>cases hb; exact IL d
theorem Ef {f:Nat->Nat->Option Nat} (hf:∀ a b c,f a b=some c->W64 c) (x y:Fl):FW (CM f x y):=by
 intro c hc;cases x with
 | none=>cases hc
 | some a=>cases y with
  | none=>cases hc
  | some b=>exact hf a b c hc
theorem iM (x y:Fl):FW (bL x y):=Ef (λa b c h=>Bu c h) x y
theorem Mm (x y:Fl):FW (kT x y):=Ef (λa b c h=>Bu c h) x y
theorem q7 (x y:Fl):FW (fdiv x y):=Ef (λa b c h=>Bu c h) x y
theorem Mb (d e:Datum):d.sum e=e.sum d:=by
 cases d <;> cases e <;> simp only[Datum.sum]
 ·rename_i s m i t n j;rw[Int.min_comm i j,Int.add_comm,Bool.and_comm s t]
 ·rename_i s t;by_cases h:s=t
  ·subst h; rfl
  ·rw[if_neg h,if_neg (λe=>h e.symm)]
theorem Aa (x y:Fl):bL x y=bL y x:=by
 cases x with
 | none=>cases y <;> rfl
 | some a=>cases y with
  | none=>rfl
  | some b=>
   show((Ieee.double.read a).sum (Ieee.double.read b)).map _=((Ieee.double.read b).sum (Ieee.double.read a)).map _;rw[Mb]
def vl (x:Fl):Int:=match x with
 | some b=>match Ieee.double.read b with
  | .number s m i=>signed s m (i+1074).toNat
  | _=>0
 | none=>0
theorem Mi {b:Nat} {s:Bool} {m:Nat} {i:Int} (h:Ieee.double.read b=.number s m i):vl (some b)=signed s m (i+1074).toNat:=by unfold vl; simp only[h]
def Sq (xs:List Fl):Nat->Fl
 | 0=>some 0
 | n+1=>fmm true (Sq xs n) (zp (xs.getD n none))
def GE1 (x:Fl):Prop:=∃ b,x=some b/\W64 b/\(Ieee.double.read b=.infinity false \/ ∃ m i,Ieee.double.read b=.number false m i/\4503599627370496<=m/\m<9007199254740992 /\ -52<=i)
def Dv (x:Fl):Prop:=∃ b,x=some b/\(Ieee.double.read b=.infinity false \/ ∃ m i,Ieee.double.read b=.number false m i/\m ≠ 0)
def Ua (a b c:Fl):Int:=cond (!bF [a,b,c]) 4 (cond (feq a (some 0)&&(feq b (some 0)&&feq c (some 0))) 251 0)
def T7 (f g:K4->Bool):Prop:=∃ a b c d n,(a.isSome=true/\b.isSome=true/\c.isSome=true/\d.isSome=true)/\(∀ κ,f κ=κ a b c d n)/\(∀ κ,g κ=κ a b c d n)
set_option maxRecDepth 4000
theorem Sr {a0 a1 a2 a3 a4 a5 a6 a7 a8:Fl} (h:bF [a0,a1,a2,a3,a4,a5,a6,a7,a8]=true):chk 3 3 [a0,a1,a2,a3,a4,a5,a6,a7,a8]=0:=p6.2 ⟨by decide,rfl,h⟩
set_option maxRecDepth 4000
theorem Hz {b:Nat} (hb:W64 b) {s:Bool} (h:Ieee.double.read b=.infinity s):zp (some b)=some 9218868437227405312:=by
 unfold Format.read at h;simp only[dj,kt,fF]at h;unfold W64 at hb;split at h
 ·cases h
 ·split at h
  ·cases h
  ·split at h
   ·rename_i h1 h2 h3;show dD (b%9223372036854775808)=_;have:b%9223372036854775808=9218868437227405312:=by omega
    rw[this]; decide
   ·cases h
theorem MA {N:Nat} {x:Fl} (hw:FW x) (o:Bool) (k:Bool->Bool):cond ((!feq x x)==false) (lK N x 0 (λcr=>cond cr (k true) (k o))) (k true)=k (o || !aL x):=by
 cases hf:aL x with
 | true=>rw[Kl hf,zx N hf hw]; cases o <;> rfl
 | false=>
  rw[Bool.not_false,Bool.or_true];cases x with
  | none=>rfl
  | some b=>
   cases hr:Ieee.double.read b with
   | number s m i=>rw[A7 hr]at hf; cases hf
   | nan s f=>
    have:feq (some b) (some b)=false:=by rw[Oj,hr]; rfl
    rw[this]; rfl
   | infinity s=>
    have h1:feq (some b) (some b)=true:=by rw[Oj,hr]; cases s <;> rfl
    rw[h1];show lK N (some b) 0 _=_
    (unfold lK; rw[af]; unfold q8)
    rw[show((0:Int)==0)=true from rfl,cond_true];simp only[uk];rw[Hz (hw b rfl) hr];have h2:fgt (some 9218868437227405312) (some 9218868437227405311)=true:=by decide
    rw[h2,cond_true]
theorem qm {N:Nat} {x:Fl} (hw:FW x) (o:Bool) (k:Bool->Bool):kV N x o k=k (o || !aL x):=by
 (unfold kV; rw[af]; unfold O2)
 exact MA hw o k
theorem w_ (N:Nat) (x y:Fl) (o:Bool) (k:Fl->Bool->Bool):mZ N x y o k=k (kT x y) (o || !aL (kT x y)):=by
 (unfold mZ; rw[af]; unfold pJ)
 rw[qm (Mm x y)]
theorem SN {x y:Fl} (hx:aL x=true) (hy:Dv y):Nn (fdiv x y):=by
 obtain⟨a,s,m,i,rfl,ha⟩:=gz hx;obtain⟨b,rfl,hb⟩:=hy;show Nn (((Ieee.double.read a).quotient (Ieee.double.fractionBits+2) (Ieee.double.read b)).map Ieee.double.write);rw[ha];rcases hb with hb | ⟨n,j,hb,hn⟩
 ·rw[hb]; exact xp _ _ _
 ·rw[hb]; simp only[Datum.quotient,if_neg hn]; exact xp _ _ _
theorem Gm {N n i j:Nat} (hn:n<=12) (hi:i<n) (hj:j<n) {l:List Fl} (h:l.length=n*n) (k:Fl->Bool):m8 N n n l i j k=k (elt l n i j):=by obtain⟨h1,h2⟩:=de (by omega:n<=1000) hi hj;have h3:=iU hi hj;unfold m8 vt elt;rw[bg,aa h1,aa h2,h,Int.toNat_natCast,aa (aj (by omega) (by omega))]
theorem Dj {N n i j:Nat} (hn:n<=12) (hi:i<n) (hj:j<n) {l:List Fl} (h:l.length=n*n) (k:Fl->Bool):um N n n l i j k=k (elt l n i j):=by obtain⟨h1,h2⟩:=de (by omega:n<=1000) hi hj;have h3:=iU hi hj;unfold um B4 elt;rw[bg,aa h1,aa h2,h,Int.toNat_natCast,aa (aj (by omega) (by omega))]
def pb (n:Nat) (l:List Fl):Bool:=zq (λi=>zq (λj=>decide (cn (elt l n i j)=cn (elt l n j i))) i) n
theorem M4 {N n:Nat} (hN:1000<=N) (hn:n<=12) {l:List Fl} (h:l.length=n*n) (hf:bF l=true) (k:Bool->Bool):Rm N n n l k=k (pb n l):=by
 (unfold Rm; rw[af]; unfold Py)
 rw[sT hN,Ev hn h hf,show(((0:Int) != 0)==false)=true from rfl,cond_true];have:((n:Int) != (n:Int))=false:=by simp
 rw[this,cond_false];have hk:k (pb n l)=cond (pb n l) (k true) (k false):=by cases pb n l <;> rfl
 rw[hk];refine lE (λt:Nat=>(t:Int)) (λi=>zq (λj=>decide (cn (elt l n i j)=cn (elt l n j i))) i) n (by omega) ?_ ?_
 ·intro i hi K;unfold BT;dsimp only;rw[decide_eq_true (by omega:(i:Int)<(n:Int)),cond_true];refine(lE (λt:Nat=>(t:Int)) (λj=>decide (cn (elt l n i j)=cn (elt l n j i))) i (N:=N) (by omega) (ex:=k false) (out:=K (((i+1:Nat):Int))) ?_ ?_:_)
  ·intro j hj K';have hj2:j<n:=by omega
   unfold BU;dsimp only;rw[decide_eq_true (by omega:(j:Int)<(i:Int)),cond_true,Gm hn hi hj2 h,Gm hn hj2 hi h];unfold LB;dsimp only;by_cases he:cn (elt l n i j)=cn (elt l n j i)
   ·rw[decide_eq_true he,show(!true)=false from rfl,cond_false,cond_true,aa (ac (by omega) (by omega))];rfl
   ·rw[decide_eq_false he,show(!false)=true from rfl,cond_true,cond_false]
  ·intro K';unfold BU;dsimp only;rw[decide_eq_false (by omega:¬(i:Int)<(i:Int)),cond_false,aa (ac (by omega) (by omega))];rfl
 ·intro K;unfold BT;dsimp only;rw[decide_eq_false (by omega:¬(n:Int)<(n:Int)),cond_false]
theorem H5 {N:Nat} (r c:Int) (n:Int) (k:Int->Bool):qM N r c n k=k (if (0<=r/\r<=12)/\(0<=c/\c<=12)then(if n=r*c then 0 else 3)else 1):=by
 (unfold qM; rw[af]; unfold pS)
 by_cases h1:r<0
 ·rw[decide_eq_true h1,if_neg (by omega)]; rfl
 ·rw[decide_eq_false h1];by_cases h2:r>12
  ·rw[decide_eq_true h2,if_neg (by omega)]; rfl
  ·rw[decide_eq_false h2];by_cases h3:c<0
   ·rw[decide_eq_true h3,if_neg (by omega)]; rfl
   ·rw[decide_eq_false h3];by_cases h4:c>12
    ·rw[decide_eq_true h4,if_neg (by omega)]; rfl
    ·have hr:0<=r/\r<=12:=by omega
     have hc:0<=c/\c<=12:=by omega
     rw[decide_eq_false h4,if_pos ⟨hr,hc⟩,Nt hr hc];by_cases h5:n=r*c
     ·have:(n != r*c)=false:=by simp[h5]
      rw[this,if_pos h5]; rfl
     ·have:(n != r*c)=true:=by simp[h5]
      rw[this,if_neg h5]; rfl
theorem C5 {N:Nat} (hN:1000<=N) (r c:Int) (l:List Fl) (k:Int->Bool):oY N r c l k=k (chk r c l):=by
 (unfold oY; rw[af]; unfold sC chk)
 rw[H5];by_cases h1:(0<=r/\r<=12)/\(0<=c/\c<=12)
 ·rw[if_pos h1,if_pos h1];by_cases h2:(l.length:Int)=r*c
  ·have h3:=Gv h1.1 h1.2;have h6:l.length<=144:=by rw[<- h2]at h3; omega
   rw[if_pos h2,if_pos h2,show((0:Int) != 0)=false from rfl,cond_false,se l ⟨by omega,by omega⟩];cases bF l <;> rfl
  ·rw[if_neg h2,if_neg h2]; rfl
 ·rw[if_neg h1,if_neg h1]; rfl
theorem KK {N n:Nat} (hN:1000<=N) (hn:n<=12) {l:List Fl} (h:l.length=n*n) (hf:bF l=true) (k:Int->Bool):Lp N n n l k=k (if pb n l=true then 0 else 91):=by
 (unfold Lp; rw[af]; unfold Jc)
 rw[C5 hN,Ev hn h hf,show((0:Int) != 0)=false from rfl,cond_false];have:((n:Int) != (n:Int))=false:=by simp
 rw[this,cond_false];have hk:k (if pb n l=true then 0 else 91)=cond (pb n l) (k 0) (k 91):=by cases pb n l <;> rfl
 rw[hk];refine lE (λt:Nat=>(t:Int)) (λi=>zq (λj=>decide (cn (elt l n i j)=cn (elt l n j i))) i) n (by omega) ?_ ?_
 ·intro i hi K;unfold fp;dsimp only;rw[decide_eq_true (by omega:(i:Int)<(n:Int)),cond_true];refine(lE (λt:Nat=>(t:Int)) (λj=>decide (cn (elt l n i j)=cn (elt l n j i))) i (N:=N) (by omega) (ex:=k 91) (out:=K (((i+1:Nat):Int))) ?_ ?_:_)
  ·intro j hj K';have hj2:j<n:=by omega
   unfold fq;dsimp only;rw[decide_eq_true (by omega:(j:Int)<(i:Int)),cond_true,Dj hn hi hj2 h,Dj hn hj2 hi h,Bn];by_cases he:cn (elt l n i j)=cn (elt l n j i)
   ·rw[decide_eq_true he,show(!true)=false from rfl,cond_false,cond_true,aa (ac (by omega) (by omega))];rfl
   ·rw[decide_eq_false he,show(!false)=true from rfl,cond_true,cond_false]
  ·intro K';unfold fq;dsimp only;rw[decide_eq_false (by omega:¬(i:Int)<(i:Int)),cond_false,aa (ac (by omega) (by omega))];rfl
 ·intro K;unfold fp;dsimp only;rw[decide_eq_false (by omega:¬(n:Int)<(n:Int)),cond_false]
theorem A2 {x:Fl} (h:aL x=true):cn x=x:=by obtain⟨b,rfl,hb⟩:=Qv h;simp only[cn,hb]; rfl
theorem Mc {n:Nat} {l:List Fl} (h:l.length=n*n) (hf:bF l=true) (hs:pb n l=true):JE n l:=by
 have key:∀ i j,j<i->i<n->elt l n i j=elt l n j i:=by
  intro i j hj hi;have h1:=gu.1 (gu.1 hs i hi) j hj;have h2:=of_decide_eq_true h1;have hj2:j<n:=by omega
  have e1:=iU hi hj2;have e2:=iU hj2 hi;rw[A2 (x:=elt l n i j) (bG hf (by omega)),A2 (x:=elt l n j i) (bG hf (by omega))]at h2;exact h2
 intro a b ha hb;show oR (ofE (elt l n a b))=oR (ofE (elt l n b a));rcases Nat.lt_trichotomy a b with h1 | h1 | h1
 ·rw[key b a h1 hb]
 ·rw[h1]
 ·rw[key a b h1 ha]
def tR (x:List Fl) (r c:Int) (l:List Fl):Int:=
 if chk r c l ≠ 0 then chk r c l else if r ≠ c then 3 else if (x.length:Int) ≠ r then 3 else if bF x=false then 4 else if pb r.toNat l=false then 150 else if zD r.toNat l=false then 151 else 0
theorem eB {x:List Fl} {r c:Int} {l:List Fl} (h:tR x r c l=0):∃ n:Nat,n<=12/\r=n/\c=n/\x.length=n/\l.length=n*n/\bF x=true/\bF l=true/\pb n l=true/\zD n l=true:=by
 unfold tR at h;split at h
 ·exact absurd h (by assumption)
 ·rename_i h0;have h0:chk r c l=0:=by simpa using h0
  have q:=p6.1 h0;split at h
  ·cases h
  ·rename_i h1;split at h
   ·cases h
   ·rename_i h2;split at h
    ·cases h
    ·rename_i h3;split at h
     ·cases h
     ·rename_i h4;split at h
      ·cases h
      ·rename_i h5;obtain⟨n,hn⟩:∃ n:Nat,r=n:=⟨r.toNat,by omega⟩
       have h1:r=c:=by simpa using h1
       subst hn;subst h1;rw[Int.toNat_natCast]at h4 h5;refine⟨n,by omega,rfl,rfl,by omega,by exact_mod_cast q.2.1,by simpa using h3,q.2.2,by simpa using h4,by simpa using h5⟩
theorem C8 {N:Nat} (hF:Fuel N) (x:List Fl) (r c:Int) (l:List Fl) (hw:AllW l) (k:Int->Bool):qN N x r c l k=k (tR x r c l):=by
 have hN:=hF.lt
 (unfold qN; rw[af]; unfold pT; unfold wr; rw[af]; unfold pU yO xn tR)
 rw[C5 (by omega)];dsimp only;by_cases h0:chk r c l=0
 ·have q:=p6.1 h0;rw[h0,if_neg (λh=>h rfl),show((0:Int) != 0)=false from rfl,cond_false];by_cases h1:r=c
  ·subst h1;have e1:((r != r)==false)=true:=by simp
   rw[if_neg (λh=>h rfl),e1,cond_true];obtain⟨n,hn⟩:∃ n:Nat,r=n:=⟨r.toNat,by omega⟩
   subst hn;by_cases h2:(x.length:Int)=n
   ·have e2:(((x.length:Nat):Int) != (n:Int))=false:=by simp[h2]
    have hl:l.length=n*n:=by exact_mod_cast q.2.1
    have hn12:n<=12:=by omega
    rw[e2,cond_false,if_neg (λh=>h h2),se x ⟨by omega,by omega⟩];cases h3:bF x
    ·rfl
    ·rw[show(!true)=false from rfl,cond_false,if_neg (by decide),KK (by omega) hn12 hl q.2.2,Int.toNat_natCast];cases h4:pb n l
     ·rfl
     ·rw[if_pos rfl,show((0:Int) != 0)=false from rfl,cond_false,cond_false,if_neg (by decide),Bj hF hn12 hl q.2.2 hw (Mc hl q.2.2 h4)];cases zD n l <;> rfl
   ·have e2:(((x.length:Nat):Int) != (n:Int))=true:=by simp[h2]
    rw[e2,cond_true,if_pos h2]; rfl
  ·have e1:((r != c)==false)=false:=by simp[h1]
   rw[e1,cond_false,if_pos h1]; rfl
 ·have e0:(chk r c l != 0)=true:=by simp[h0]
  rw[e0,cond_true,if_pos h0];rfl
theorem u7 {l:List Int} (h:∀ z,z ∈ l->z.toNat<18446744073709551616):AllW (oO l):=by intro x hx;unfold oO at hx;obtain⟨z,hz,rfl⟩:=List.mem_map.1 hx;exact JT (h z hz)
def mf (n:Nat) (f:Nat->Nat->Fl):List Fl:=(List.range (n*n)).map (λt=>f (t / n) (t%n))
theorem j8 (n:Nat) (f:Nat->Nat->Fl):(mf n f).length=n*n:=by unfold mf; rw[List.length_map,List.length_range]
theorem Gt (n:Nat) (f:Nat->Nat->Fl) {i j:Nat} (hi:i<n) (hj:j<n) (z:Fl):(mf n f).getD (i*n+j) z=f i j:=by have h:=gd hi hj;unfold mf;rw[List.getD_eq_getElem?_getD,List.getElem?_map,List.getElem?_range h];simp only[Option.map_some,Option.getD_some,wX hj,w8 hj]
theorem uY (n:Nat) (f:Nat->Nat->Fl) {i j:Nat} (hi:i<n) (hj:j<n):elt (mf n f) n i j=f i j:=Gt n f hi hj none
theorem tX (n:Nat) {f f':Nat->Nat->Fl} (h:∀ a b,a<n->b<n->f a b=f' a b):mf n f=mf n f':=by
 unfold mf;apply List.map_congr_left;intro t ht;have ht:=List.mem_range.1 ht;have hn:0<n:=by
  rcases Nat.eq_zero_or_pos n with h0 | h0
  ·rw[h0]at ht; omega
  ·exact h0
 rw[h _ _ (Nat.div_lt_of_lt_mul ht) (Nat.mod_lt _ hn)]
theorem qp (n:Nat) (f:Nat->Nat->Fl) {i j:Nat} (hi:i<n) (hj:j<n) (v:Fl):(mf n f).set (i*n+j) v=mf n (λa b=>if a=i/\b=j then v else f a b):=by
 have h:=gd hi hj;apply List.ext_getElem?;intro t;by_cases ht:t<n*n
 ·have hn:0<n:=by omega
  rw[List.getElem?_set];unfold mf;rw[List.getElem?_map,List.getElem?_map,List.getElem?_range ht];simp only[List.length_map,List.length_range,Option.map_some];by_cases he:i*n+j=t
  ·rw[if_pos he,if_pos h,<- he,wX hj,w8 hj,if_pos ⟨rfl,rfl⟩]
  ·rw[if_neg he];have:¬(t / n=i/\t%n=j):=by rintro ⟨h1,h2⟩;apply he;rw[<- h1,<- h2,Nat.mul_comm];exact Nat.div_add_mod t n
   rw[if_neg this]
 ·rw[List.getElem?_eq_none (by rw[List.length_set,j8]; omega),List.getElem?_eq_none (by rw[j8]; omega)]
theorem xc (n:Nat):List.replicate (n*n) (some 0)=mf n (λ_ _=>some 0):=by
 apply List.ext_getElem?;intro t;unfold mf;rw[List.getElem?_map,List.getElem?_replicate];by_cases ht:t<n*n
 ·rw[if_pos ht,List.getElem?_range ht]; rfl
 ·rw[if_neg ht,List.getElem?_eq_none (by rw[List.length_range]; omega)]; rfl
def vf (n:Nat) (g:Nat->Fl):List Fl:=(List.range n).map g
theorem jP (n:Nat) (g:Nat->Fl):(vf n g).length=n:=by unfold vf; rw[List.length_map,List.length_range]
theorem nh (n:Nat) (g:Nat->Fl) {i:Nat} (hi:i<n) (z:Fl):(vf n g).getD i z=g i:=by unfold vf;rw[List.getD_eq_getElem?_getD,List.getElem?_map,List.getElem?_range hi]; rfl
theorem xj (n:Nat) (g:Nat->Fl) {i:Nat} (hi:i<n):((vf n g).take i++List.replicate (n - i) (some 0)).set i (g i)=(vf n g).take (i+1)++List.replicate (n - (i+1)) (some 0):=by have:=CO (vf n g) (some 0) (t:=i) (by rw[jP]; exact hi);rw[jP,nh n g hi]at this;exact this
theorem ng (n:Nat) (g:Nat->Fl) {i:Nat} (hi:i<=n):((vf n g).take i++List.replicate (n - i) (some 0)).length=n:=by have:=CN (vf n g) (some 0) (t:=i) (by rw[jP]; exact hi);rw[jP]at this;exact this
def dV (f g:Nat->Fl):Nat->Fl
 | 0=>some 0
 | t+1=>bL (dV f g t) (kT (f t) (g t))
def orB (p:Nat->Bool):Nat->Bool
 | 0=>false
 | t+1=>orB p t||p t
theorem rN {p:Nat->Bool}:∀{n:Nat},orB p n=false -> ∀ i,i<n->p i=false
 | 0,_,i,hi=>by omega
 | n+1,h,i,hi=>by
  unfold orB at h;rw[Bool.or_eq_false_iff]at h;rcases Nat.lt_or_ge i n with h1 | h1
  ·exact rN h.1 i h1
  ·rw[show i=n by omega]; exact h.2
theorem Np (o:Bool):(o||false)=o:=by cases o <;> rfl
def prV (n:Nat) (f p:List Fl):Nat->Nat->Fl:=λi j=>dV (λt=>elt f n i t) (λt=>elt p n t j) n
theorem xf (o:Bool) (p:Nat->Bool) (t:Nat):((o||orB p t)||p t)=(o||orB p (t+1)):=by show _=(o||(orB p t||p t)); rw[Bool.or_assoc]
def mir (v:Nat->Nat->Fl):Nat->Nat->Fl:=λa b=>if b<=a then v a b else v b a
def mS (v:Nat->Nat->Fl) (i j:Nat):Nat->Nat->Fl:=λa b=>if max a b<i\/(max a b=i/\min a b<j)then mir v a b else some 0
theorem xb (n:Nat) (v:Nat->Nat->Fl):mf n (λ_ _=>some 0)=mf n (mS v 0 0):=tX n (λa b _ _=>by unfold mS; rw[if_neg (by omega)])
theorem Bt (n:Nat) (v:Nat->Nat->Fl) (i:Nat):mf n (mS v i (i+1))=mf n (mS v (i+1) 0):=tX n (λa b _ hb=>by
 unfold mS;by_cases h2:max a b<i\/(max a b=i/\min a b<i+1)
 ·rw[if_pos h2,if_pos (by omega)]
 ·rw[if_neg h2,if_neg (by omega)])
theorem Bs (n:Nat) (v:Nat->Nat->Fl):mf n (mS v n 0)=mf n (mir v):=tX n (λa b ha hb=>by unfold mS; rw[if_pos (by omega)])
theorem xa (n:Nat) (v:Nat->Nat->Fl) {i j:Nat} (hj:j<i+1):mf n (λa b=>if a=j/\b=i then v i j else if a=i/\b=j then v i j else mS v i j a b)=mf n (mS v i (j+1)):=tX n (λa b _ _=>by
 unfold mS mir;by_cases h:a=j/\b=i
 ·rw[if_pos h,h.1,h.2,if_pos (by omega:max j i<i\/(max j i=i/\min j i<j+1))];by_cases hij:i<=j
  ·rw[if_pos hij,show j=i by omega]
  ·rw[if_neg hij]
 ·rw[if_neg h];by_cases h1:a=i/\b=j
  ·rw[if_pos h1,h1.1,h1.2,if_pos (by omega:max i j<i\/(max i j=i/\min i j<j+1)),if_pos (by omega:j<=i)]
  ·rw[if_neg h1];by_cases h2:max a b<i\/(max a b=i/\min a b<j)
   ·rw[if_pos h2,if_pos (by omega:max a b<i\/(max a b=i/\min a b<j+1))]
   ·rw[if_neg h2,if_neg (by omega:¬(max a b<i\/(max a b=i/\min a b<j+1)))])
def sqc (a b:Int) (l:List Fl) (n:Int):Int:=if chk a b l ≠ 0 then chk a b l else if a ≠ b then 3 else if a ≠ n then 3 else 0
theorem fh (a b:Int) (h:¬ a=b):(a != b)=true:=by simp[h]
def low (v:Nat->Nat->Fl):Nat->Nat->Fl:=λa b=>if b<=a then v a b else some 0
theorem QZ {n:Nat} {f:Nat->Nat->Fl} {P:Fl->Prop} (h:∀ a b,a<n->b<n->P (f a b)):∀ t,t<n*n->P ((mf n f).getD t none):=by
 intro t ht;have hn:0<n:=by
  rcases Nat.eq_zero_or_pos n with h0 | h0
  ·rw[h0]at ht; omega
  ·exact h0
 have:=Gt n f (Nat.div_lt_of_lt_mul ht) (Nat.mod_lt t hn) none;rw[show t / n*n+t%n=t from by rw[Nat.mul_comm]; exact Nat.div_add_mod t n]at this;rw[this];exact h _ _ (Nat.div_lt_of_lt_mul ht) (Nat.mod_lt t hn)
theorem K2 {n:Nat} {f:Nat->Nat->Fl} (h:∀ a b,a<n->b<n->aL (f a b)=true):bF (mf n f)=true:=by unfold bF;refine gu.2 (λt ht=>QZ (P:=λx=>aL x=true) h t ?_);rw[j8]at ht; exact ht
theorem So {n:Nat} {f:Nat->Nat->Fl} (h:∀ a b,FW (f a b)):AllW (mf n f):=by intro x hx;unfold mf at hx;obtain⟨t,-,rfl⟩:=List.mem_map.1 hx;exact h _ _
theorem Nd {n:Nat} (v:Nat->Nat->Fl):JE n (mf n (mir v)):=by
 intro a b ha hb;show oR (ofE (elt (mf n (mir v)) n a b))=oR (ofE (elt (mf n (mir v)) n b a));rw[uY n _ ha hb,uY n _ hb ha];unfold mir;rcases Nat.lt_trichotomy a b with h | h | h
 ·rw[if_neg (by omega),if_pos (by omega)]
 ·rw[h]
 ·rw[if_pos (by omega),if_neg (by omega)]
theorem Ot {v:Nat->Nat->Fl} (h:∀ a b,FW (v a b)) (a b:Nat):FW (mir v a b):=by
 unfold mir; split
 ·exact h _ _
 ·exact h _ _
theorem Gu {n:Nat} {v:Nat->Nat->Fl} (h:∀ a b,a<n->b<=a->aL (v a b)=true):∀ a b,a<n->b<n->aL (mir v a b)=true:=by
 intro a b ha hb;unfold mir; split
 ·exact h _ _ ha (by assumption)
 ·exact h _ _ hb (by omega)
def spl (l:List Fl):Nat->List Fl
 | 0=>l
 | t+1=>(spl l t).set t (some 4635118810238550016)
theorem K8 (l:List Int):(oO l).length=l.length:=by unfold oO; rw[List.length_map]
theorem FE {N:Nat} {l:List Int} (h:ek N l.length):ek N (oO l).length:=by rw[K8]; exact h
theorem Rz {n:Nat} {g:Nat->Fl} {P:Fl->Prop} (h:∀ i,i<n->P (g i)):∀ i,i<(vf n g).length->P ((vf n g).getD i none):=by intro i hi;rw[jP]at hi;rw[nh n g hi];exact h i hi
theorem sV (N:Nat) (g:Bool) (n:Nat) (k:Int->Bool):yN N g (ah n) k=k (if n=0 then 0 else if g=true then -1 else 1):=by
 (unfold yN; rw[af]; unfold Pb)
 rw[J_];by_cases h:n=0
 ·rw[decide_eq_true h,if_pos h]; rfl
 ·rw[decide_eq_false h,if_neg h]; cases g <;> rfl
set_option maxRecDepth 4000
set_option maxRecDepth 4000
def S2 (xs v:List Fl) (n j:Nat) (c t:Fl) (i:Nat) (s:Bool × List Fl × List Fl):Bool × List Fl × List Fl:=
 (((((s.1 || !aL (kT c (elt xs n i j))) || !aL (kT t (s.2.1.getD i none))) || !aL (QK (kT c (elt xs n i j)) (kT t (s.2.1.getD i none)))) || !aL (kT (v.getD j none) (elt xs n i j)))
   || !aL (bL (s.2.1.getD i none) (kT (v.getD j none) (elt xs n i j))),
  s.2.1.set i (bL (s.2.1.getD i none) (kT (v.getD j none) (elt xs n i j))),
  s.2.2.set (i*n+j) (QK (kT c (elt xs n i j)) (kT t (s.2.1.getD i none))))
theorem EU {N:Nat} (b g h:Bool) (m n:Nat) (hN:(ah m).length+(ah n).length+4<N) (hs:(ah m).length+(ah n).length<=17592186044416) (k:Bool->List Int->Bool) :
  Rp N b g (ah m) h (ah n) k=mB (aT g m*aT h n) k:=by
 (unfold Rp; rw[af]; unfold PC)
 have hl:(ah (m*n)).length<=(ah m).length+(ah n).length:=by
  refine ci _ _ (oM ?_ ?_)
  ·have:=di (aR m); rwa [aD]at this
  ·have:=di (aR n); rwa [aD]at this
 rw[rI _ _ (aR m) (aR n) (by omega) hs,aD,aD,j6 _ _ _ (aR _) ⟨by omega,by omega⟩,aD,oQ _ _ k,tQ]
theorem Am {N:Nat} (b g:Bool) (n:Nat) (hN:dq N (ah n)) (k:Bool->List Int->Bool):Lr N b g (ah n) k=mB (-(aT g n)) k:=by
 (unfold Lr; rw[af]; unfold Je GJ Jb)
 obtain⟨h1,h2⟩:=hN;rw[List.nil_append,decide_eq_true (by omega),Bool.true_and,gZ _ (by omega) (by omega),tJ];simp only[List.drop_zero,List.take_length];rw[decide_eq_true (by omega:0+(ah n).length<=(ah n).length),Bool.true_and];exact Gx g n k
theorem ET {N:Nat} (b g1:Bool) (n1:Nat) (g2:Bool) (n2:Nat) (h1:dq N (ah n1)) (h2:dq N (ah n2)) (h3:dq N (ah (n1+n2))) (k:Bool->List Int->Bool) :
  BH N b g1 (ah n1) g2 (ah n2) k=mB (aT g1 n1+aT g2 n2) k:=by
 unfold BH RI;rw[As false b g1 n1 g2 n2 h1 h2 h3]; rfl
theorem Aj {N:Nat} (hN:1000<=N) {E B:Nat} {x y:Int × Int} (hx:Ex E B x) (hy:Ex E B y) (hE:E<=100000) (hB:B<=15000) (k:Int->Bool->List Int->Bool) :
  sQ0 N x.1 y.1 (decide (x.2<0)) (ah x.2.natAbs) (decide (y.2<0)) (ah y.2.natAbs) k=exK (mN x y) k:=by
 have h1:=pX hx.2.2;have h2:=pX hy.2.2;unfold sQ0 GQ0;rw[EU _ _ _ _ _ (by omega) (by omega),l7,l7,rC,aa (ac (by have:=hx.1; have:=hy.1; omega) (by have:=hx.2.1; have:=hy.2.1; omega))];rfl
theorem rD {N:Nat} (hN:1000<=N) {E B:Nat} {x y:Int × Int} (hx:Ex E B x) (hy:Ex E B y) (hB:B+2*E<=29000) (k0 k1:Bool) (k2:Int->Bool->List Int->Bool) (h0:k0=exK y k2) (h1:k1=exK x k2) :
  sQ3 N x.1 y.1 (decide (x.2<0)) (ah x.2.natAbs) (decide (y.2<0)) (ah y.2.natAbs) k0 k1 k2=exK (jQ x y) k2:=by
 (unfold sQ3; rw[af]; unfold GQ3 jQ)
 have z0:∀(z:Int) (g:Bool),((if z.natAbs=0 then(0:Int)else if g=true then -1 else 1)==0)=decide (z=0):=by
  intro z g;by_cases h:z=0
  ·rw[if_pos (by omega),decide_eq_true h]; rfl
  ·rw[if_neg (by omega),decide_eq_false h]; cases g <;> rfl
 rw[sV,z0,sV,z0];by_cases c0:x.2=0
 ·rw[decide_eq_true c0,cond_true,if_pos c0,h0]
 ·rw[decide_eq_false c0,cond_false,if_neg c0];by_cases c1:y.2=0
  ·rw[decide_eq_true c1,cond_true,if_pos c1,h1]
  ·rw[decide_eq_false c1,cond_false,if_neg c1,MV];have hxe:=hx.1;have hye:=hy.1;have lx:=qo hx (e:=min x.1 y.1) (by omega);have ly:=qo hy (e:=min x.1 y.1) (by omega);have hadd:∀(a b:Int),aK (B+2*E) a.natAbs->aK (B+2*E) b.natAbs->BH N false (decide (a<0)) (ah a.natAbs) (decide (b<0)) (ah b.natAbs) (λcr nsr=>k2 (min x.1 y.1) cr nsr)=exK (min x.1 y.1,a+b) k2:=by intro a b ha hb;rw[ET _ _ _ _ _ (iT hN (by omega) ha) (iT hN (by omega) hb) (iT hN (by omega) (pW ha hb)),l7,l7];rfl
   have hyl:∀(a:Int),aK (B+2*E) a.natAbs->FB N y.1 (min x.1 y.1) (decide (y.2<0)) (ah y.2.natAbs) (BH N false (decide (a<0)) (ah a.natAbs) (decide (y.2<0)) (ah y.2.natAbs) (λcr nsr=>k2 (min x.1 y.1) cr nsr)) (λg d=>BH N false (decide (a<0)) (ah a.natAbs) g d (λcr nsr=>k2 (min x.1 y.1) cr nsr))=exK (min x.1 y.1,a+pp y (min x.1 y.1)) k2:=by intro a ha;rw[Bi hN hy (by omega) (by omega) _ _ (λ_=>by rw[rC]) (by omega),rC,hadd _ _ ha ly]
   rw[Bi hN hx (by omega) (by omega) _ _ (λh=>by rw[rC]) (by omega),rC,hyl _ lx]
theorem HG {N:Nat} (hN:1000<=N) {E B:Nat} {x y:Int × Int} (hx:Ex E B x) (hy:Ex E B y) (hB:B+2*E<=28000) (k:Int->Bool) :
  sQ1 N x.1 y.1 (decide (x.2<0)) (ah x.2.natAbs) (decide (y.2<0)) (ah y.2.natAbs) k=k (nS (jQ x (vS y)).2):=by
 (unfold sQ1; rw[af]; unfold GQ1 It OX)
 rw[Am _ _ _ (iT hN (by omega) hy.2.2),l7,rC];have sg:∀(z:Int),yN N (decide (z<0)) (ah z.natAbs) (λnr=>k nr)=k (nS z):=by
  intro z;rw[sV];unfold nS;congr 1;by_cases h:z=0
  ·rw[if_pos (by omega),if_pos h]
  ·rw[if_neg (by omega),if_neg h];by_cases hl:z<0
   ·rw[if_pos (decide_eq_true hl),if_pos hl]
   ·rw[if_neg (by rw[decide_eq_false hl]; decide),if_neg hl]
 have:=rD (N:=N) hN hx (Ex.neg hy) (by omega) (yN N (decide (-y.2<0)) (ah (-y.2).natAbs) (λnr=>k nr)) (yN N (decide (x.2<0)) (ah x.2.natAbs) (λnr=>k nr)) (λ_ g d=>yN N g d (λnr=>k nr)) rfl rfl;refine Eq.trans this ?_;unfold exK;exact sg _
@[irreducible] def Sc:Nat:=1074
theorem JC:1074<=Sc:=by unfold Sc; exact Nat.le_refl _
theorem Oa:Sc<=1074:=by unfold Sc; exact Nat.le_refl _
@[irreducible] def e2:Nat:=4196
theorem T9:e2=2098+2098:=by unfold e2; rfl
def mD (x:Fl):Int:=(ofE x).2*2 ^ ((ofE x).1+Sc).toNat
theorem ut {x:Fl} (hx:aL x=true):EV (ofE x) (mD x) Sc:=by obtain⟨b,s,m,i,rfl,h⟩:=gz hx;exact⟨(K9 h JC).1,rfl⟩
theorem D6 {b:Nat} {s:Bool} {m:Nat} {i:Int} (h:Ieee.double.read b=.number s m i):mD (some b)=signed s m (i+Sc).toNat:=(K9 h JC).2
theorem NW {x:Fl} (hx:aL x=true):aK 2098 (mD x).natAbs:=by
 obtain⟨b,s,m,i,rfl,h⟩:=gz hx;rw[D6 h,FD];have hpl:=kH h;have hm:aK 53 m:=by
  show _<2 ^ 53;have:(2:Nat) ^ 53=9007199254740992:=by decide
  omega
 refine bJ (oi hm _) ?_;have:=Oa; omega
theorem EV.bits {x:Int × Int} {v:Int} {E B:Nat} (h:EV x v E) (g:aK B v.natAbs):aK B x.2.natAbs:=by refine jh g ?_;rw[<- h.2,vB];exact Nat.le_mul_of_pos_right _ (Nat.two_pow_pos _)
def FinL (a:List Fl) (n:Nat):Prop:=∀ i,i<n->aL (a.getD i none)=true/\FW (a.getD i none)
theorem Hm {x y:Int × Int} {E:Nat} (h1 : -(E:Int)<=x.1) (h2:x.1<=E) (g1 : -(E:Int)<=y.1) (g2:y.1<=E) : -(E:Int)<=(jQ x y).1/\(jQ x y).1<=E:=by
 unfold jQ;split
 ·exact⟨g1,g2⟩
 ·split
  ·exact⟨h1,h2⟩
  ·show -(E:Int)<=min x.1 y.1/\min x.1 y.1<=E;omega
theorem FinL.mono {a:List Fl} {n m:Nat} (h:FinL a n) (hm:m<=n):FinL a m:=λi hi=>h i (by omega)
theorem SO (n:Nat):n<4294967296 ^ (ah n).length:=by
 have:=di (aR n)
 rwa [aD]at this
theorem xQ {x y:Int × Int} {v w:Int} {E B S:Nat} (hx:Ex E B x) (hy:Ex E B y) (hv:EV x v S) (hw:EV y w S) {C:Nat} (hb:aK C (v+w).natAbs):Ex E C (jQ x y)/\EV (jQ x y) (v+w) S:=by have h:=EV.add hv hw;have e:=Hm hx.1 hx.2.1 hy.1 hy.2.1;exact⟨⟨e.1,e.2,h.bits hb⟩,h⟩
def pE (e:Int):Int:=1*2 ^ (e+((Sc+Sc:Nat):Int)).toNat
theorem EV.abs {x:Int × Int} {v:Int} {E:Nat} (h:EV x v E):EV (x.1,((x.2.natAbs:Nat):Int)) ((v.natAbs:Nat):Int) E:=by refine⟨h.1,?_⟩;show((x.2.natAbs:Nat):Int)*2 ^ (x.1+E).toNat=_;rw[<- h.2,vB,Int.natCast_mul,Int.natCast_pow]; rfl
end Go.Proofs.YtdinakfmablagaaGreatDoor
end
section
end
