/-
  PURE: laws of the seat's functions, taken over from another seat of mine.
  Conditions: none.
-/
import Derived.Test.YteifemaagdeomaaGreatDoorC8
set_option linter.unusedVariables false
section
namespace Go.Proofs.YteifemaagdeomaaGreatDoor
open Go Go.Mach Ieee
theorem NZ {N:Nat} (hN:1000<=N) (k:Bool->List Int->Bool):l8 N 1 k=k false (ai 1):=yh (N:=N) 1 (by decide) (nw hN (by decide)) (by omega) k
theorem Uq (a b:Nat):flt (some a) (some b)=((Ieee.double.read a).order (Ieee.double.read b)==some .lt):=rfl
theorem NV (a b:Nat):feq (some a) (some b)=((Ieee.double.read a).order (Ieee.double.read b)==some .eq):=rfl
theorem NW (a b:Nat):fgt (some a) (some b)=((Ieee.double.read a).order (Ieee.double.read b)==some .gt):=rfl
theorem JS {b:Nat} (hb:W64 b) {s:Bool} {m:Nat} {i:Int} (h:Ieee.double.read b=.number s m i):∃ c,zo (some b)=some c/\W64 c/\Ieee.double.read c=.number false m i:=by
 have e:Ieee.double.read (b%9223372036854775808)=.number false m i:=by
  obtain⟨hs,hlt,h⟩:=ly h;unfold Format.read;simp only[ix,qq,kA,uu];have e1:b%9223372036854775808%9223372036854775808=b%9223372036854775808:=by omega
  have e2:(b%9223372036854775808 / 9223372036854775808%2==1)=false:=by rw[beq_eq_false_iff_ne]; omega
  rw[e1,e2];rcases h with⟨h1,rfl,rfl⟩ | ⟨h1,rfl,rfl⟩
  ·rw[if_pos h1]
  ·rw[if_neg (by omega),if_pos hlt]
 have hn:isNaN (b%9223372036854775808)=false:=by unfold isNaN; rw[e]; rfl
 refine⟨b%9223372036854775808,?_,by unfold W64 at *; omega,e⟩;show fJ _=_;unfold fJ; rw[hn]; rfl
theorem zu (N:Nat) {x:Fl} (hx:aY x=true) (hw:FW x) (k:Bool->Bool):jB N x 0 k=k false:=by
 obtain⟨b,s,m,i,rfl,h⟩:=ms hx;obtain⟨c,hc,hcw,hcr⟩:=JS (hw b rfl) h;have hp:=oc hcr;have hg:=Ds hcr
 (unfold jB; rw[ac]; unfold rz)
 show k (fgt (zo (some b)) (some 9218868437227405311))=_;rw[hc];congr 1;have hr:Ieee.double.read 9218868437227405311=.number false 9007199254740991 971:=by decide
 rw[NW,hcr,hr];simp only[Datum.order];have hmin:min i 971=i:=by omega
 have e0:(i - i).toNat=0:=by omega
 rw[hmin,e0];have s1:signed false m 0=((m:Nat):Int):=rfl;have s2:signed false 9007199254740991 (971 - i).toNat=((9007199254740991 <<< (971 - i).toNat:Nat):Int):=rfl;rw[s1,s2,Nat.shiftLeft_eq];have hpw:0<2 ^ (971 - i).toNat:=Nat.two_pow_pos _;have hle:9007199254740991<=9007199254740991*2 ^ (971 - i).toNat:=Nat.le_mul_of_pos_right _ hpw;generalize 9007199254740991*2 ^ (971 - i).toNat=q at hle;have:compare (m:Int) (q:Int) ≠ .gt:=λe=>by have:=Int.compare_eq_gt.1 e; omega
 cases e:compare (m:Int) (q:Int)with
 | gt=>exact absurd e this
 | eq=>rfl
 | lt=>rfl
theorem IQ (d:Datum):W64 (Ieee.double.write d):=by
 cases d with
 | number s m i=>exact Dm s m i
 | infinity s=>
  have:Ieee.double.write (.infinity s)=Ieee.double.word s 9218868437227405312:=by rw[<- kA]; rfl
  rw[this]; exact zi s (by decide)
 | nan s f=>
  have:Ieee.double.write (.nan s f)=Ieee.double.word s (9218868437227405312+f%4503599627370496):=by rw[<- kA,<- qq]; rfl
  rw[this]; exact zi s (by omega)
theorem xe {o:Option Datum}:FW (o.map Ieee.double.write):=by
 intro b hb;cases o with
 | none=>cases hb
 | some d=>cases hb; exact IQ d
theorem AO {f:Nat->Nat->Option Nat} (hf:∀ a b c,f a b=some c->W64 c) (x y:Fl):FW (CI f x y):=by
 intro c hc;cases x with
 | none=>cases hc
 | some a=>cases y with
  | none=>cases hc
  | some b=>exact hf a b c hc
theorem lV (x y:Fl):FW (dR x y):=AO (λa b c h=>xe c h) x y
theorem rv (x y:Fl):FW (co x y):=AO (λa b c h=>xe c h) x y
theorem FY (x y:Fl):FW (bc x y):=AO (λa b c h=>xe c h) x y
theorem AP (x y:Fl):FW (fdiv x y):=AO (λa b c h=>xe c h) x y
def Sp (xs:List Fl):Nat->Fl
 | 0=>some 0
 | n+1=>fmm true (Sp xs n) (zo (xs.getD n none))
def GE1 (x:Fl):Prop:=∃ b,x=some b/\W64 b/\(Ieee.double.read b=.infinity false \/ ∃ m i,Ieee.double.read b=.number false m i/\4503599627370496<=m/\m<9007199254740992 /\ -52<=i)
def Dv (x:Fl):Prop:=∃ b,x=some b/\(Ieee.double.read b=.infinity false \/ ∃ m i,Ieee.double.read b=.number false m i/\m ≠ 0)
def Ur (a b c:Fl):Int:=cond (!bC [a,b,c]) 4 (cond (feq a (some 0)&&(feq b (some 0)&&feq c (some 0))) 251 0)
def Uo (f g:K4->Bool):Prop:=∃ a b c d n,(a.isSome=true/\b.isSome=true/\c.isSome=true/\d.isSome=true)/\(∀ κ,f κ=κ a b c d n)/\(∀ κ,g κ=κ a b c d n)
set_option maxRecDepth 4000
theorem Sq {a0 a1 a2 a3 a4 a5 a6 a7 a8:Fl} (h:bC [a0,a1,a2,a3,a4,a5,a6,a7,a8]=true):chk 3 3 [a0,a1,a2,a3,a4,a5,a6,a7,a8]=0:=qw.2 ⟨by decide,rfl,h⟩
set_option maxRecDepth 4000
theorem HG {b:Nat} (hb:W64 b) {s:Bool} (h:Ieee.double.read b=.infinity s):zo (some b)=some 9218868437227405312:=by
 unfold Format.read at h;simp only[ix,qq,kA]at h;unfold W64 at hb;split at h
 ·cases h
 ·split at h
  ·cases h
  ·split at h
   ·rename_i h1 h2 h3;show fJ (b%9223372036854775808)=_;have:b%9223372036854775808=9218868437227405312:=by omega
    rw[this]; decide
   ·cases h
theorem Ge {N:Nat} {x:Fl} (hw:FW x) (o:Bool) (k:Bool->Bool):cond ((!feq x x)==false) (jB N x 0 (λcr=>cond cr (k true) (k o))) (k true)=k (o || !aY x):=by
 cases hf:aY x with
 | true=>rw[Km hf,zu N hf hw]; cases o <;> rfl
 | false=>
  rw[Bool.not_false,Bool.or_true];cases x with
  | none=>rfl
  | some b=>
   cases hr:Ieee.double.read b with
   | number s m i=>rw[Gk hr]at hf; cases hf
   | nan s f=>
    have:feq (some b) (some b)=false:=by rw[NV,hr]; rfl
    rw[this]; rfl
   | infinity s=>
    have h1:feq (some b) (some b)=true:=by rw[NV,hr]; cases s <;> rfl
    rw[h1];show jB N (some b) 0 _=_
    (unfold jB; rw[ac]; unfold rz)
    rw[show((0:Int)==0)=true from rfl,cond_true];simp only[uG];rw[HG (hw b rfl) hr];have h2:fgt (some 9218868437227405312) (some 9218868437227405311)=true:=by decide
    rw[h2,cond_true]
theorem SO {x y:Fl} (hx:aY x=true) (hy:Dv y):Nn (fdiv x y):=by
 obtain⟨a,s,m,i,rfl,ha⟩:=ms hx;obtain⟨b,rfl,hb⟩:=hy;show Nn (((Ieee.double.read a).quotient (Ieee.double.fractionBits+2) (Ieee.double.read b)).map Ieee.double.write);rw[ha];rcases hb with hb | ⟨n,j,hb,hn⟩
 ·rw[hb]; exact xt _ _ _
 ·rw[hb]; simp only[Datum.quotient,if_neg hn]; exact xt _ _ _
theorem Gv {N n i j:Nat} (hn:n<=12) (hi:i<n) (hj:j<n) {l:List Fl} (h:l.length=n*n) (k:Fl->Bool):nn N n n l i j k=k (elt l n i j):=by obtain⟨h1,h2⟩:=fW (by omega:n<=1000) hi hj;have h3:=kz hi hj;unfold nn vP elt;rw[fV,aa h1,aa h2,h,Int.toNat_natCast,aa (af (by omega) (by omega))]
theorem nX {N n i j:Nat} (hn:n<=12) (hi:i<n) (hj:j<n) {l:List Fl} (h:l.length=n*n) (k:Fl->Bool):lE N n n l i j k=k (elt l n i j):=by obtain⟨h1,h2⟩:=fW (by omega:n<=1000) hi hj;have h3:=kz hi hj;unfold lE B4 elt;rw[fV,aa h1,aa h2,h,Int.toNat_natCast,aa (af (by omega) (by omega))]
def vL (n:Nat) (l:List Fl):Bool:=u9 (λi=>u9 (λj=>decide (cn (elt l n i j)=cn (elt l n j i))) i) n
theorem MI {N n:Nat} (hN:1000<=N) (hn:n<=12) {l:List Fl} (h:l.length=n*n) (hf:bC l=true) (k:Bool->Bool):Rm N n n l k=k (vL n l):=by
 (unfold Rm; rw[ac]; unfold Pj)
 rw[tA hN,Eo hn h hf,show(((0:Int) != 0)==false)=true from rfl,cond_true];have:((n:Int) != (n:Int))=false:=by simp
 rw[this,cond_false];have hk:k (vL n l)=cond (vL n l) (k true) (k false):=by cases vL n l <;> rfl
 rw[hk];refine ma (λt:Nat=>(t:Int)) (λi=>u9 (λj=>decide (cn (elt l n i j)=cn (elt l n j i))) i) n (by omega) ?_ ?_
 ·intro i hi K;unfold BS;dsimp only;rw[decide_eq_true (by omega:(i:Int)<(n:Int)),cond_true];refine(ma (λt:Nat=>(t:Int)) (λj=>decide (cn (elt l n i j)=cn (elt l n j i))) i (N:=N) (by omega) (ex:=k false) (out:=K (((i+1:Nat):Int))) ?_ ?_:_)
  ·intro j hj K';have hj2:j<n:=by omega
   unfold BT;dsimp only;rw[decide_eq_true (by omega:(j:Int)<(i:Int)),cond_true,Gv hn hi hj2 h,Gv hn hj2 hi h];unfold Dx;dsimp only;by_cases he:cn (elt l n i j)=cn (elt l n j i)
   ·rw[decide_eq_true he,show(!true)=false from rfl,cond_false,cond_true,aa (ab (by omega) (by omega))];rfl
   ·rw[decide_eq_false he,show(!false)=true from rfl,cond_true,cond_false]
  ·intro K';unfold BT;dsimp only;rw[decide_eq_false (by omega:¬(i:Int)<(i:Int)),cond_false,aa (ab (by omega) (by omega))];rfl
 ·intro K;unfold BS;dsimp only;rw[decide_eq_false (by omega:¬(n:Int)<(n:Int)),cond_false]
theorem Ia {N:Nat} (r c:Int) (n:Int) (k:Int->Bool):rf N r c n k=k (if (0<=r/\r<=12)/\(0<=c/\c<=12)then(if n=r*c then 0 else 3)else 1):=by
 (unfold rf; rw[ac]; unfold qi)
 by_cases h1:r<0
 ·rw[decide_eq_true h1,if_neg (by omega)]; rfl
 ·rw[decide_eq_false h1];by_cases h2:r>12
  ·rw[decide_eq_true h2,if_neg (by omega)]; rfl
  ·rw[decide_eq_false h2];by_cases h3:c<0
   ·rw[decide_eq_true h3,if_neg (by omega)]; rfl
   ·rw[decide_eq_false h3];by_cases h4:c>12
    ·rw[decide_eq_true h4,if_neg (by omega)]; rfl
    ·have hr:0<=r/\r<=12:=by omega
     have hc:0<=c/\c<=12:=by omega
     rw[decide_eq_false h4,if_pos ⟨hr,hc⟩,M4 hr hc];by_cases h5:n=r*c
     ·have:(n != r*c)=false:=by simp[h5]
      rw[this,if_pos h5]; rfl
     ·have:(n != r*c)=true:=by simp[h5]
      rw[this,if_neg h5]; rfl
theorem CY {N:Nat} (hN:1000<=N) (r c:Int) (l:List Fl) (k:Int->Bool):pp N r c l k=k (chk r c l):=by
 (unfold pp; rw[ac]; unfold sW chk)
 rw[Ia];by_cases h1:(0<=r/\r<=12)/\(0<=c/\c<=12)
 ·rw[if_pos h1,if_pos h1];by_cases h2:(l.length:Int)=r*c
  ·have h3:=GD h1.1 h1.2;have h6:l.length<=144:=by rw[<- h2]at h3; omega
   rw[if_pos h2,if_pos h2,show((0:Int) != 0)=false from rfl,cond_false,nB l ⟨by omega,by omega⟩];cases bC l <;> rfl
  ·rw[if_neg h2,if_neg h2]; rfl
 ·rw[if_neg h1,if_neg h1]; rfl
theorem KK {N n:Nat} (hN:1000<=N) (hn:n<=12) {l:List Fl} (h:l.length=n*n) (hf:bC l=true) (k:Int->Bool):Lp N n n l k=k (if vL n l=true then 0 else 91):=by
 (unfold Lp; rw[ac]; unfold Jl)
 rw[CY hN,Eo hn h hf,show((0:Int) != 0)=false from rfl,cond_false];have:((n:Int) != (n:Int))=false:=by simp
 rw[this,cond_false];have hk:k (if vL n l=true then 0 else 91)=cond (vL n l) (k 0) (k 91):=by cases vL n l <;> rfl
 rw[hk];refine ma (λt:Nat=>(t:Int)) (λi=>u9 (λj=>decide (cn (elt l n i j)=cn (elt l n j i))) i) n (by omega) ?_ ?_
 ·intro i hi K;unfold fB;dsimp only;rw[decide_eq_true (by omega:(i:Int)<(n:Int)),cond_true];refine(ma (λt:Nat=>(t:Int)) (λj=>decide (cn (elt l n i j)=cn (elt l n j i))) i (N:=N) (by omega) (ex:=k 91) (out:=K (((i+1:Nat):Int))) ?_ ?_:_)
  ·intro j hj K';have hj2:j<n:=by omega
   unfold fC;dsimp only;rw[decide_eq_true (by omega:(j:Int)<(i:Int)),cond_true,nX hn hi hj2 h,nX hn hj2 hi h,Bh];by_cases he:cn (elt l n i j)=cn (elt l n j i)
   ·rw[decide_eq_true he,show(!true)=false from rfl,cond_false,cond_true,aa (ab (by omega) (by omega))];rfl
   ·rw[decide_eq_false he,show(!false)=true from rfl,cond_true,cond_false]
  ·intro K';unfold fC;dsimp only;rw[decide_eq_false (by omega:¬(i:Int)<(i:Int)),cond_false,aa (ab (by omega) (by omega))];rfl
 ·intro K;unfold fB;dsimp only;rw[decide_eq_false (by omega:¬(n:Int)<(n:Int)),cond_false]
theorem J3 {x:Fl} (h:aY x=true):cn x=x:=by obtain⟨b,rfl,hb⟩:=mp h;simp only[cn,hb]; rfl
theorem LS {n:Nat} {l:List Fl} (h:l.length=n*n) (hf:bC l=true) (hs:vL n l=true):JP n l:=by
 have key:∀ i j,j<i->i<n->elt l n i j=elt l n j i:=by
  intro i j hj hi;have h1:=nJ.1 (nJ.1 hs i hi) j hj;have h2:=of_decide_eq_true h1;have hj2:j<n:=by omega
  have e1:=kz hi hj2;have e2:=kz hj2 hi;rw[J3 (x:=elt l n i j) (kw hf (by omega)),J3 (x:=elt l n j i) (kw hf (by omega))]at h2;exact h2
 intro a b ha hb;show pe (ofE (elt l n a b))=pe (ofE (elt l n b a));rcases Nat.lt_trichotomy a b with h1 | h1 | h1
 ·rw[key b a h1 hb]
 ·rw[h1]
 ·rw[key a b h1 ha]
def mR (x:List Fl) (r c:Int) (l:List Fl):Int:=
 if chk r c l ≠ 0 then chk r c l else if r ≠ c then 3 else if (x.length:Int) ≠ r then 3 else if bC x=false then 4 else if vL r.toNat l=false then 150 else if tG r.toNat l=false then 151 else 0
theorem kB {x:List Fl} {r c:Int} {l:List Fl} (h:mR x r c l=0):∃ n:Nat,n<=12/\r=n/\c=n/\x.length=n/\l.length=n*n/\bC x=true/\bC l=true/\vL n l=true/\tG n l=true:=by
 unfold mR at h;split at h
 ·exact absurd h (by assumption)
 ·rename_i h0;have h0:chk r c l=0:=by simpa using h0
  have q:=qw.1 h0;split at h
  ·cases h
  ·rename_i h1;split at h
   ·cases h
   ·rename_i h2;split at h
    ·cases h
    ·rename_i h3;split at h
     ·cases h
     ·rename_i h4;split at h
      ·cases h
      ·rename_i h5;obtain⟨n,hn⟩:∃ n:Nat,r=n:=⟨r.toNat,by omega⟩
       have h1:r=c:=by simpa using h1
       subst hn;subst h1;rw[Int.toNat_natCast]at h4 h5;refine⟨n,by omega,rfl,rfl,by omega,by exact_mod_cast q.2.1,by simpa using h3,q.2.2,by simpa using h4,by simpa using h5⟩
theorem EP {N:Nat} (hF:Fuel N) (x:List Fl) (r c:Int) (l:List Fl) (hw:AllW l) (k:Int->Bool):j4 N x r c l k=k (mR x r c l):=by
 have hN:=hF.lt
 (unfold j4; rw[ac]; unfold mm mR)
 rw[tA (by omega)];by_cases h0:chk r c l=0
 ·have q:=qw.1 h0;rw[h0,if_neg (λh=>h rfl),show((0:Int) != 0)=false from rfl,cond_false];by_cases h1:r=c
  ·subst h1;have e1:((r != r)==false)=true:=by simp
   rw[if_neg (λh=>h rfl),e1,cond_true];obtain⟨n,hn⟩:∃ n:Nat,r=n:=⟨r.toNat,by omega⟩
   subst hn;by_cases h2:(x.length:Int)=n
   ·have e2:(((x.length:Nat):Int) != (n:Int))=false:=by simp[h2]
    have hl:l.length=n*n:=by exact_mod_cast q.2.1
    have hn12:n<=12:=by omega
    rw[e2,cond_false,if_neg (λh=>h h2),kC x ⟨by omega,by omega⟩];cases h3:bC x
    ·rfl
    ·rw[show(!true)=false from rfl,cond_false,if_neg (by decide),MI (by omega) hn12 hl q.2.2,Int.toNat_natCast];cases h4:vL n l
     ·rfl
     ·rw[show(!true)=false from rfl,cond_false,if_neg (by decide),oU hF hn12 hl q.2.2 hw (LS hl q.2.2 h4)];cases tG n l <;> rfl
   ·have e2:(((x.length:Nat):Int) != (n:Int))=true:=by simp[h2]
    rw[e2,cond_true,if_pos h2]
  ·have e1:((r != c)==false)=false:=by simp[h1]
   rw[e1,cond_false,if_pos h1]
 ·have e0:(chk r c l != 0)=true:=by simp[h0]
  rw[e0,cond_true,if_pos h0]
theorem wk {N:Nat} (hF:Fuel N) (x:List Fl) (r c:Int) (l:List Fl) (hw:AllW l) (k:Int->Bool):nt N x r c l k=k (mR x r c l):=by
 have hN:=hF.lt
 (unfold nt; rw[ac]; unfold qk; unfold wM; rw[ac]; unfold qm yP xo mR)
 rw[CY (by omega)];dsimp only;by_cases h0:chk r c l=0
 ·have q:=qw.1 h0;rw[h0,if_neg (λh=>h rfl),show((0:Int) != 0)=false from rfl,cond_false];by_cases h1:r=c
  ·subst h1;have e1:((r != r)==false)=true:=by simp
   rw[if_neg (λh=>h rfl),e1,cond_true];obtain⟨n,hn⟩:∃ n:Nat,r=n:=⟨r.toNat,by omega⟩
   subst hn;by_cases h2:(x.length:Int)=n
   ·have e2:(((x.length:Nat):Int) != (n:Int))=false:=by simp[h2]
    have hl:l.length=n*n:=by exact_mod_cast q.2.1
    have hn12:n<=12:=by omega
    rw[e2,cond_false,if_neg (λh=>h h2),nB x ⟨by omega,by omega⟩];cases h3:bC x
    ·rfl
    ·rw[show(!true)=false from rfl,cond_false,if_neg (by decide),KK (by omega) hn12 hl q.2.2,Int.toNat_natCast];cases h4:vL n l
     ·rfl
     ·rw[if_pos rfl,show((0:Int) != 0)=false from rfl,cond_false,cond_false,if_neg (by decide),uo hF hn12 hl q.2.2 hw (LS hl q.2.2 h4)];cases tG n l <;> rfl
   ·have e2:(((x.length:Nat):Int) != (n:Int))=true:=by simp[h2]
    rw[e2,cond_true,if_pos h2]; rfl
  ·have e1:((r != c)==false)=false:=by simp[h1]
   rw[e1,cond_false,if_pos h1]; rfl
 ·have e0:(chk r c l != 0)=true:=by simp[h0]
  rw[e0,cond_true,if_pos h0];rfl
theorem jy {N:Nat} (x:Fl) (o:Bool) (k:Bool->Bool):jD N x o k=k (o || !aY x):=by
 (unfold jD; rw[ac]; unfold OP)
 cases o
 ·rw[show(false==false)=true from rfl,cond_true,jP]; rfl
 ·rfl
theorem mg {N:Nat} {a:Fl} (h:Nn a) (k:Bool->Bool):zC N a a k=k true:=by obtain⟨b,rfl,hb⟩:=h;unfold zC Rz;show k (((b:Nat):Int)==((b:Nat):Int))=_;rw[beq_self_eq_true]
theorem Q0 {l:List Int} (h:∀ z,z ∈ l->z.toNat<18446744073709551616):AllW (zA l):=by intro x hx;unfold zA at hx;obtain⟨z,hz,rfl⟩:=List.mem_map.1 hx;exact JZ (h z hz)
def mf (n:Nat) (f:Nat->Nat->Fl):List Fl:=(List.range (n*n)).map (λt=>f (t / n) (t%n))
theorem du (n:Nat) (f:Nat->Nat->Fl):(mf n f).length=n*n:=by unfold mf; rw[List.length_map,List.length_range]
theorem Bo (n:Nat) (f:Nat->Nat->Fl) {i j:Nat} (hi:i<n) (hj:j<n) (z:Fl):(mf n f).getD (i*n+j) z=f i j:=by have h:=kR hi hj;unfold mf;rw[List.getD_eq_getElem?_getD,List.getElem?_map,List.getElem?_range h];simp only[Option.map_some,Option.getD_some,xb hj,xc hj]
theorem Fj (n:Nat) (f:Nat->Nat->Fl) {i j:Nat} (hi:i<n) (hj:j<n):elt (mf n f) n i j=f i j:=Bo n f hi hj none
theorem jQ (n:Nat) {f f':Nat->Nat->Fl} (h:∀ a b,a<n->b<n->f a b=f' a b):mf n f=mf n f':=by
 unfold mf;apply List.map_congr_left;intro t ht;have ht:=List.mem_range.1 ht;have hn:0<n:=by
  rcases Nat.eq_zero_or_pos n with h0 | h0
  ·rw[h0]at ht; omega
  ·exact h0
 rw[h _ _ (Nat.div_lt_of_lt_mul ht) (Nat.mod_lt _ hn)]
theorem yy (n:Nat) (f:Nat->Nat->Fl) {i j:Nat} (hi:i<n) (hj:j<n) (v:Fl):(mf n f).set (i*n+j) v=mf n (λa b=>if a=i/\b=j then v else f a b):=by
 have h:=kR hi hj;apply List.ext_getElem?;intro t;by_cases ht:t<n*n
 ·have hn:0<n:=by omega
  rw[List.getElem?_set];unfold mf;rw[List.getElem?_map,List.getElem?_map,List.getElem?_range ht];simp only[List.length_map,List.length_range,Option.map_some];by_cases he:i*n+j=t
  ·rw[if_pos he,if_pos h,<- he,xb hj,xc hj,if_pos ⟨rfl,rfl⟩]
  ·rw[if_neg he];have:¬(t / n=i/\t%n=j):=by rintro ⟨h1,h2⟩;apply he;rw[<- h1,<- h2,Nat.mul_comm];exact Nat.div_add_mod t n
   rw[if_neg this]
 ·rw[List.getElem?_eq_none (by rw[List.length_set,du]; omega),List.getElem?_eq_none (by rw[du]; omega)]
theorem Bp (n:Nat):List.replicate (n*n) (some 0)=mf n (λ_ _=>some 0):=by
 apply List.ext_getElem?;intro t;unfold mf;rw[List.getElem?_map,List.getElem?_replicate];by_cases ht:t<n*n
 ·rw[if_pos ht,List.getElem?_range ht]; rfl
 ·rw[if_neg ht,List.getElem?_eq_none (by rw[List.length_range]; omega)]; rfl
theorem GC (n:Nat) (f:Nat->Nat->Fl) {i j:Nat} (hi:i<n) (hj:j<n):(mf n f).take (i*n+j)++[f i j]=(mf n f).take (i*n+j+1):=by
 have h:=kR hi hj;have hl:i*n+j<(mf n f).length:=by rw[du]; exact h
 rw[List.take_succ_eq_append_getElem hl];have:=Bo n f hi hj none;rw[List.getD_eq_getElem?_getD,List.getElem?_eq_getElem hl]at this;rw[<- this]; rfl
def vf (n:Nat) (g:Nat->Fl):List Fl:=(List.range n).map g
theorem bv (n:Nat) (g:Nat->Fl):(vf n g).length=n:=by unfold vf; rw[List.length_map,List.length_range]
theorem ki (n:Nat) (g:Nat->Fl) {i:Nat} (hi:i<n) (z:Fl):(vf n g).getD i z=g i:=by unfold vf;rw[List.getD_eq_getElem?_getD,List.getElem?_map,List.getElem?_range hi]; rfl
theorem so (n:Nat) (g:Nat->Fl) {i:Nat} (hi:i<n):(vf n g).take i++[g i]=(vf n g).take (i+1):=by
 have hl:i<(vf n g).length:=by rw[bv]; exact hi
 rw[List.take_succ_eq_append_getElem hl];have:=ki n g hi none;rw[List.getD_eq_getElem?_getD,List.getElem?_eq_getElem hl]at this;rw[<- this]; rfl
theorem G6 (n:Nat) (g:Nat->Fl) {i:Nat} (hi:i<n):((vf n g).take i++List.replicate (n - i) (some 0)).set i (g i)=(vf n g).take (i+1)++List.replicate (n - (i+1)) (some 0):=by have:=CK (vf n g) (some 0) (t:=i) (by rw[bv]; exact hi);rw[bv,ki n g hi]at this;exact this
theorem wR (n:Nat) (g:Nat->Fl) {i:Nat} (hi:i<=n):((vf n g).take i++List.replicate (n - i) (some 0)).length=n:=by have:=CJ (vf n g) (some 0) (t:=i) (by rw[bv]; exact hi);rw[bv]at this;exact this
def dV (f g:Nat->Fl):Nat->Fl
 | 0=>some 0
 | t+1=>dR (dV f g t) (bc (f t) (g t))
def dO (f g:Nat->Fl):Nat->Bool
 | 0=>false
 | t+1=>(dO f g t || !aY (bc (f t) (g t))) || !aY (dV f g (t+1))
def orB (p:Nat->Bool):Nat->Bool
 | 0=>false
 | t+1=>orB p t||p t
theorem ge {p:Nat->Bool}:∀{n:Nat},orB p n=false -> ∀ i,i<n->p i=false
 | 0,_,i,hi=>by omega
 | n+1,h,i,hi=>by
  unfold orB at h;rw[Bool.or_eq_false_iff]at h;rcases Nat.lt_or_ge i n with h1 | h1
  ·exact ge h.1 i h1
  ·rw[show i=n by omega]; exact h.2
theorem QK {f g:Nat->Fl}:∀{n:Nat},dO f g n=false->aY (dV f g n)=true
 | 0,_=>rfl
 | n+1,h=>by unfold dO at h;rw[Bool.or_eq_false_iff]at h;simpa using h.2
theorem oH (o:Bool) (f g:Nat->Fl) (t:Nat):((o||dO f g t) || !aY (bc (f t) (g t)) || !aY (dR (dV f g t) (bc (f t) (g t))))=(o||dO f g (t+1)):=by show _=(o||((dO f g t || !aY (bc (f t) (g t))) || !aY (dR (dV f g t) (bc (f t) (g t)))));simp only[Bool.or_assoc]
theorem lK (o:Bool):(o||false)=o:=by cases o <;> rfl
theorem Al {N n:Nat} (hN:1000<=N) (hn:n<=100) {a b:List Fl} {f g:Nat->Fl} (ha:a.length=n) (hb:n<=b.length) (hbs:b.length<=1000) (hf:∀ i,i<n->a.getD i none=f i) (hg:∀ i,i<n->b.getD i none=g i) (o:Bool) (k:Fl->Bool->Bool) :
  nu N a b o k=k (dV f g n) (o||dO f g n):=by
 (unfold nu; rw[ac]; unfold qo)
 have h0:((some 0,0,o):Fl × Int × Bool)=(λt:Nat=>(dV f g t,(t:Int),o||dO f g t)) 0:=by show _=(some 0,((0:Nat):Int),o||false); rw[lK]; rfl
 rw[h0];refine aD (λt:Nat=>(dV f g t,(t:Int),o||dO f g t)) n (by omega) ?_ ?_
 ·intro t ht K;unfold kh;dsimp only;rw[decide_eq_true (by omega:(t:Int)<(a.length:Int)),cond_true,aa (af (by omega) (by omega)),aa (af (by omega) (by omega)),Int.toNat_natCast,hf t ht,hg t ht,jy,jy,aa (ab (by omega) (by omega)),oH];rfl
 ·intro K;unfold kh;dsimp only;rw[decide_eq_false (by omega:¬(n:Int)<(a.length:Int)),cond_false]
theorem yq {N n:Nat} (hN:1000<=N) (hn:n<=100) {a b:List Fl} {f g:Nat->Fl} (ha:a.length=n) (hb:n<=b.length) (hbs:b.length<=1000) (hf:∀ i,i<n->a.getD i none=f i) (hg:∀ i,i<n->b.getD i none=g i) (o:Bool) (k:Fl->Bool->Bool) :
  GU N a o b k=k (dV f g n) (o||dO f g n):=by
 (unfold GU; rw[ac]; unfold Jx)
 have h0:((some 0,0,o):Fl × Int × Bool)=(λt:Nat=>(dV f g t,(t:Int),o||dO f g t)) 0:=by show _=(some 0,((0:Nat):Int),o||false); rw[lK]; rfl
 rw[h0];refine aD (λt:Nat=>(dV f g t,(t:Int),o||dO f g t)) n (by omega) ?_ ?_
 ·intro t ht K;unfold iA;dsimp only;rw[decide_eq_true (by omega:(t:Int)<(a.length:Int)),cond_true,aa (af (by omega) (by omega)),aa (af (by omega) (by omega)),Int.toNat_natCast,aa (decide_eq_true (by omega)),hf t ht,hg t ht,jy,jy,aa (ab (by omega) (by omega)),oH];rfl
 ·intro K;unfold iA;dsimp only;rw[decide_eq_false (by omega:¬(n:Int)<(a.length:Int)),cond_false]
def It (l:List Fl) (n i:Nat):List Fl:=List.drop (i*n) (List.take ((i+1)*n) l)
theorem tI {n i:Nat} (hi:i<n):(i+1)*n<=n*n:=Nat.mul_le_mul_right _ hi
theorem yL {l:List Fl} {n i:Nat} (h:l.length=n*n) (hi:i<n):(It l n i).length=n:=by have:=tI hi;unfold It;rw[List.length_drop,List.length_take,h,Nat.min_eq_left this,Nat.add_mul]; omega
theorem vz {l:List Fl} {n i j:Nat} (h:l.length=n*n) (hi:i<n) (hj:j<n):(It l n i).getD j none=elt l n i j:=by
 unfold It elt;have h1:(i+1)*n=i*n+n:=by rw[Nat.add_mul]; omega
 rw[List.getD_eq_getElem?_getD,List.getElem?_drop,List.getElem?_take,if_pos (by omega),List.getD_eq_getElem?_getD]
theorem sb {n i:Nat} (hn:n<=100) (hi:i<n) {L:Nat} (hL:L=n*n):ah .i64 ((i:Int)*(n:Int))=true/\ah .i64 ((i:Int)+1)=true/\ah .i64 (((i:Int)+1)*(n:Int))=true/\decide (0<=(i:Int)*(n:Int)/\(i:Int)*(n:Int)<=((i:Int)+1)*(n:Int)/\((i:Int)+1)*(n:Int)<=(L:Int))=true/\Int.toNat ((i:Int)*(n:Int))=i*n/\Int.toNat (((i:Int)+1)*(n:Int))=(i+1)*n:=by
 have h1:=tI hi;have h2:n*n<=100*100:=Nat.mul_le_mul hn hn;have e1:(i:Int)*(n:Int)=((i*n:Nat):Int):=by rw[Int.natCast_mul]
 have e2:((i:Int)+1)*(n:Int)=(((i+1)*n:Nat):Int):=by rw[Int.natCast_mul]; rfl
 have h3:(i+1)*n=i*n+n:=by rw[Nat.add_mul]; omega
 rw[e1,e2];exact⟨ab (by omega) (by omega),ab (by omega) (by omega),ab (by omega) (by omega),decide_eq_true ⟨by omega,by omega,by omega⟩,Int.toNat_natCast _,Int.toNat_natCast _⟩
theorem MQ {N n i:Nat} (hn:n<=100) (hi:i<n) {l:List Fl} (h:l.length=n*n) (k:List Fl->Bool):pn N n n l i k=k (It l n i):=by
 obtain⟨a,b,c,d,e,f⟩:=sb hn hi h
 (unfold pn; rw[ac]; unfold ow)
 rw[aa a,aa b,aa c,aa d,e,f];rfl
theorem Da {N n i:Nat} (hn:n<=100) (hi:i<n) {l:List Fl} (h:l.length=n*n) (k:List Fl->Bool):sj N n n l i k=k (It l n i):=by
 obtain⟨a,b,c,d,e,f⟩:=sb hn hi h
 (unfold sj; rw[ac]; unfold uT)
 rw[aa a,aa b,aa c,aa d,e,f];rfl
theorem GJ (n i:Nat):(i+1)*n - i*n=n:=by rw[Nat.add_mul]; omega
theorem yu {N n i:Nat} (hn:n<=100) (hi:i<n) {l:List Fl} (h:l.length=n*n) (k:Nat->Nat->Bool):ij N n n i l k=k (i*n) n:=by
 obtain⟨a,b,c,d,e,f⟩:=sb hn hi h
 (unfold ij; rw[ac]; unfold mo)
 rw[aa a,aa b,aa c,aa d,e,f,GJ]
theorem An {N n i:Nat} (hn:n<=100) (hi:i<n) {l:List Fl} (h:l.length=n*n) (k:Nat->Nat->Bool):nq N n n i l k=k (i*n) n:=by
 obtain⟨a,b,c,d,e,f⟩:=sb hn hi h
 (unfold nq; rw[ac]; unfold qj)
 rw[aa a,aa b,aa c,aa d,e,f,GJ]
theorem MK {N n j:Nat} (hN:1000<=N) (hn:n<=100) (hj:j<n) {l:List Fl} (h:l.length=n*n) (k:List Fl->Bool):pm N n n l j k=k (vf n (λt=>elt l n t j)):=by
 (unfold pm; rw[ac]; unfold ov)
 have hn2:n*n<=100*100:=Nat.mul_le_mul hn hn;rw[Int.toNat_natCast,List.length_replicate,aa (bY (by omega) (by omega) (by omega) (by omega))];have h0:List.replicate n (some 0)=(vf n (λt=>elt l n t j)).take 0++List.replicate (n - 0) (some 0):=rfl;rw[h0];refine aD (λt:Nat=>((t:Int),(vf n (λt=>elt l n t j)).take t++List.replicate (n - t) (some 0))) n (by omega) ?_ ?_
 ·intro t ht K;unfold jc;dsimp only;obtain⟨h1,h2⟩:=fW (by omega:n<=1000) ht hj;have h3:=kz ht hj;have hl:=wR n (λt=>elt l n t j) (i:=t) (by omega);have hs:=G6 n (λt=>elt l n t j) ht;generalize List.take t (vf n λt=>elt l n t j)++List.replicate (n - t) (some 0)=L at *;rw[decide_eq_true (by omega:(t:Int)<(n:Int)),cond_true,fV,aa h1,aa h2,aa (af (by omega) (by omega)),aa (af (by omega) (by omega)),Int.toNat_natCast,aa (decide_eq_true (by omega)),aa (ab (by omega) (by omega)),Int.toNat_natCast];exact congrArg (λl=>K ((t:Int)+1,l)) hs
 ·intro K;unfold jc;dsimp only;rw[decide_eq_false (by omega:¬(n:Int)<(n:Int)),cond_false,Nat.sub_self,List.replicate_zero,List.append_nil,List.take_of_length_le (by rw[bv]; omega)]
theorem KW {N n j:Nat} (hN:1000<=N) (hn:n<=12) (hj:j<n) {l:List Fl} (h:l.length=n*n) (k:List Fl->Bool):pr N n n l j k=k (vf n (λt=>elt l n t j)):=by
 (unfold pr; rw[ac]; unfold oy)
 have h0:([]:List Fl)=(vf n (λt=>elt l n t j)).take 0:=rfl;rw[h0];refine aD (λt:Nat=>((t:Int),(vf n (λt=>elt l n t j)).take t)) n (by omega) ?_ ?_
 ·intro t ht K;unfold jf;dsimp only;rw[decide_eq_true (by omega:(t:Int)<(n:Int)),cond_true,nX hn ht hj h,so n (λt=>elt l n t j) ht,aa (decide_eq_true (by rw[List.length_take,bv]; omega)),aa (ab (by omega) (by omega))];rfl
 ·intro K;unfold jf;dsimp only;rw[decide_eq_false (by omega:¬(n:Int)<(n:Int)),cond_false,List.take_of_length_le (by rw[bv]; omega)]
theorem rU {N n i j:Nat} (hn:n<=12) (hi:i<n) (hj:j<n) (f:Nat->Nat->Fl) (x:Fl) (k:List Fl->Bool):sL N n n i j x (mf n f) k=k (mf n (λa b=>if a=i/\b=j then x else f a b)):=by obtain⟨h1,h2⟩:=fW (by omega:n<=1000) hi hj;have h3:=kz hi hj;unfold sL NG;rw[fV,aa h1,aa h2,du,Int.toNat_natCast,aa (af (by omega) (by omega)),aa (decide_eq_true h3),yy n f hi hj]
theorem nY {N n:Nat} (hn:n<=12) (k:List Fl->Bool):jq N n n k=k (mf n (λ_ _=>some 0)):=by have h2:n*n<=144:=yD hn;unfold jq xn;rw[<- Int.natCast_mul,aa (ab (by omega) (by omega)),aa (bY (by omega) (by omega) (by omega) (by omega)),Int.toNat_natCast,Bp]
def prV (n:Nat) (f p:List Fl):Nat->Nat->Fl:=λi j=>dV (λt=>elt f n i t) (λt=>elt p n t j) n
def prO (n:Nat) (f p:List Fl):Nat->Nat->Bool:=λi j=>dO (λt=>elt f n i t) (λt=>elt p n t j) n
def orM (n:Nat) (p:Nat->Nat->Bool):Bool:=orB (λi=>orB (λj=>p i j) n) n
theorem dQ (o:Bool) (p:Nat->Bool) (t:Nat):((o||orB p t)||p t)=(o||orB p (t+1)):=by show _=(o||(orB p t||p t)); rw[Bool.or_assoc]
theorem DZ (n:Nat) (f:Nat->Nat->Fl):(mf n f).take (n*n)=mf n f:=List.take_of_length_le (by rw[du]; omega)
theorem mJ (n i:Nat):i*n+n=(i+1)*n:=by rw[Nat.add_mul]; omega
def rS (g:Nat->Nat->Fl) (i j:Nat):Nat->Nat->Fl:=λa b=>if a<i\/(a=i/\b<j)then g a b else some 0
theorem xg (n:Nat) (g:Nat->Nat->Fl):mf n (λ_ _=>some 0)=mf n (rS g 0 0):=jQ n (λa b _ _=>by unfold rS; rw[if_neg (by omega)])
theorem Le (n:Nat) (g:Nat->Nat->Fl) (i:Nat):mf n (rS g i n)=mf n (rS g (i+1) 0):=jQ n (λa b _ hb=>by
 unfold rS;by_cases h2:a<i\/(a=i/\b<n)
 ·rw[if_pos h2,if_pos (by omega)]
 ·rw[if_neg h2,if_neg (by omega)])
theorem BC (n:Nat) (g:Nat->Nat->Fl):mf n (rS g n 0)=mf n g:=jQ n (λa b ha _=>by unfold rS; rw[if_pos (.inl ha)])
theorem xf (n:Nat) (g:Nat->Nat->Fl) (i j:Nat):mf n (λa b=>if a=i/\b=j then g i j else rS g i j a b)=mf n (rS g i (j+1)):=jQ n (λa b _ _=>by
 unfold rS;by_cases h:a=i/\b=j
 ·rw[if_pos h,if_pos (by omega),h.1,h.2]
 ·rw[if_neg h];by_cases h2:a<i\/(a=i/\b<j)
  ·rw[if_pos h2,if_pos (by omega)]
  ·rw[if_neg h2,if_neg (by omega)])
def mir (v:Nat->Nat->Fl):Nat->Nat->Fl:=λa b=>if b<=a then v a b else v b a
def mS (v:Nat->Nat->Fl) (i j:Nat):Nat->Nat->Fl:=λa b=>if max a b<i\/(max a b=i/\min a b<j)then mir v a b else some 0
theorem Bn (n:Nat) (v:Nat->Nat->Fl):mf n (λ_ _=>some 0)=mf n (mS v 0 0):=jQ n (λa b _ _=>by unfold mS; rw[if_neg (by omega)])
theorem Fi (n:Nat) (v:Nat->Nat->Fl) (i:Nat):mf n (mS v i (i+1))=mf n (mS v (i+1) 0):=jQ n (λa b _ hb=>by
 unfold mS;by_cases h2:max a b<i\/(max a b=i/\min a b<i+1)
 ·rw[if_pos h2,if_pos (by omega)]
 ·rw[if_neg h2,if_neg (by omega)])
theorem Fh (n:Nat) (v:Nat->Nat->Fl):mf n (mS v n 0)=mf n (mir v):=jQ n (λa b ha hb=>by unfold mS; rw[if_pos (by omega)])
theorem Bm (n:Nat) (v:Nat->Nat->Fl) {i j:Nat} (hj:j<i+1):mf n (λa b=>if a=j/\b=i then v i j else if a=i/\b=j then v i j else mS v i j a b)=mf n (mS v i (j+1)):=jQ n (λa b _ _=>by
 unfold mS mir;by_cases h:a=j/\b=i
 ·rw[if_pos h,h.1,h.2,if_pos (by omega:max j i<i\/(max j i=i/\min j i<j+1))];by_cases hij:i<=j
  ·rw[if_pos hij,show j=i by omega]
  ·rw[if_neg hij]
 ·rw[if_neg h];by_cases h1:a=i/\b=j
  ·rw[if_pos h1,h1.1,h1.2,if_pos (by omega:max i j<i\/(max i j=i/\min i j<j+1)),if_pos (by omega:j<=i)]
  ·rw[if_neg h1];by_cases h2:max a b<i\/(max a b=i/\min a b<j)
   ·rw[if_pos h2,if_pos (by omega:max a b<i\/(max a b=i/\min a b<j+1))]
   ·rw[if_neg h2,if_neg (by omega:¬(max a b<i\/(max a b=i/\min a b<j+1)))])
theorem E6 {N n:Nat} (hN:1000<=N) (hn:n<=12) {f p:List Fl} (hf:f.length=n*n) (hp:p.length=n*n) (o:Bool) (k:Bool->List Fl->Bool) :
  Lv N n n f n n p o k=k (o||orM n (prO n f p)) (mf n (prV n f p)):=by
 (unfold Lv; rw[ac]; unfold Jv)
 rw[nY hn,xg n (prV n f p)];have h0:((0,o,mf n (rS (prV n f p) 0 0)):Int × Bool × List Fl)=(λi:Nat=>((i:Int),o||orB (λi=>orB (λj=>prO n f p i j) n) i,mf n (rS (prV n f p) i 0))) 0:=by show _=(((0:Nat):Int),o||false,_); rw[lK]; rfl
 rw[h0];refine aD (λi:Nat=>((i:Int),o||orB (λi=>orB (λj=>prO n f p i j) n) i,mf n (rS (prV n f p) i 0))) n (by omega) ?_ ?_
 ·intro i hi K;unfold gM;dsimp only;rw[decide_eq_true (by omega:(i:Int)<(n:Int)),cond_true];generalize ho1:(o||orB (λi=>orB (λj=>prO n f p i j) n) i)=o1;have h1:((0,o1,mf n (rS (prV n f p) i 0)):Int × Bool × List Fl)=(λj:Nat=>((j:Int),o1||orB (λj=>prO n f p i j) j,mf n (rS (prV n f p) i j))) 0:=by show _=(((0:Nat):Int),o1||false,_); rw[lK]; rfl
  rw[h1];refine(aD (λj:Nat=>((j:Int),o1||orB (λj=>prO n f p i j) j,mf n (rS (prV n f p) i j))) n (N:=N) (by omega) (out:=K ((((i+1:Nat)):Int),o||orB (λi=>orB (λj=>prO n f p i j) n) (i+1),mf n (rS (prV n f p) (i+1) 0))) ?_ ?_:_)
  ·intro j hj K';unfold gN;dsimp only;rw[decide_eq_true (by omega:(j:Int)<(n:Int)),cond_true,Da (by omega) hi hf,KW hN hn hj hp,
    yq (n:=n) (f:=λt=>elt f n i t) (g:=λt=>elt p n t j) hN (by omega) (yL hf hi) (by rw[bv]; omega) (by rw[bv]; omega) (λt ht=>vz hf hi ht) (λt ht=>ki n _ ht none),
    rU hn hi hj,aa (ab (by omega) (by omega))]
   have e:dV (λt=>elt f n i t) (λt=>elt p n t j) n=prV n f p i j:=rfl;have e2:dO (λt=>elt f n i t) (λt=>elt p n t j) n=prO n f p i j:=rfl;rw[e,e2,dQ o1 (λj=>prO n f p i j) j,xf];rfl
  ·intro K';unfold gN;dsimp only;rw[decide_eq_false (by omega:¬(n:Int)<(n:Int)),cond_false,aa (ab (by omega) (by omega)),<- ho1,Le,dQ o (λi=>orB (λj=>prO n f p i j) n) i];rfl
 ·intro K;unfold gM;dsimp only;rw[decide_eq_false (by omega:¬(n:Int)<(n:Int)),cond_false,BC];rfl
def orL (n:Nat) (p:Nat->Nat->Bool):Bool:=orB (λi=>orB (λj=>p i j) (i+1)) n
def sqc (a b:Int) (l:List Fl) (n:Int):Int:=if chk a b l ≠ 0 then chk a b l else if a ≠ b then 3 else if a ≠ n then 3 else 0
theorem fv (a b:Int) (h:¬ a=b):(a != b)=true:=by simp[h]
def low (v:Nat->Nat->Fl):Nat->Nat->Fl:=λa b=>if b<=a then v a b else some 0
theorem C_ {N n:Nat} (hN:1000<=N) (hn:n<=12) (v:Nat->Nat->Fl) (k:List Fl->Bool):pu N n n (mf n (low v)) k=k (mf n (mir v)):=by
 (unfold pu; rw[ac]; unfold oz)
 rw[nY hn,Bn n v];refine aD (λi:Nat=>((i:Int),mf n (mS v i 0))) n (by omega) ?_ ?_
 ·intro i hi K;unfold jg;dsimp only;rw[decide_eq_true (by omega:(i:Int)<(n:Int)),cond_true];refine(aD (λj:Nat=>((j:Int),mf n (mS v i j))) (i+1) (N:=N) (by omega) (out:=K ((((i+1:Nat)):Int),mf n (mS v (i+1) 0))) ?_ ?_:_)
  ·intro j hj K';have hj2:j<n:=by omega
   unfold jh;dsimp only;have hL:(mf n (low v)).length=n*n:=du n _;have e:elt (mf n (low v)) n i j=v i j:=by rw[Fj n _ hi hj2]; unfold low; rw[if_pos (by omega)]
   rw[decide_eq_true (by omega:(j:Int)<=(i:Int)),cond_true,nX hn hi hj2 hL,e,rU hn hi hj2,nX hn hi hj2 hL,e,rU hn hj2 hi,aa (ab (by omega) (by omega)),Bm n v hj];rfl
  ·intro K';unfold jh;dsimp only;rw[decide_eq_false (by omega:¬((i+1:Nat):Int)<=(i:Int)),cond_false,aa (ab (by omega) (by omega)),Fi];rfl
 ·intro K;unfold jg;dsimp only;rw[decide_eq_false (by omega:¬(n:Int)<(n:Int)),cond_false,Fh]
theorem QY {n:Nat} {f:Nat->Nat->Fl} {P:Fl->Prop} (h:∀ a b,a<n->b<n->P (f a b)):∀ t,t<n*n->P ((mf n f).getD t none):=by
 intro t ht;have hn:0<n:=by
  rcases Nat.eq_zero_or_pos n with h0 | h0
  ·rw[h0]at ht; omega
  ·exact h0
 have:=Bo n f (Nat.div_lt_of_lt_mul ht) (Nat.mod_lt t hn) none;rw[show t / n*n+t%n=t from by rw[Nat.mul_comm]; exact Nat.div_add_mod t n]at this;rw[this];exact h _ _ (Nat.div_lt_of_lt_mul ht) (Nat.mod_lt t hn)
theorem Fk {n:Nat} {f:Nat->Nat->Fl} (h:∀ a b,a<n->b<n->aY (f a b)=true):bC (mf n f)=true:=by unfold bC;refine nJ.2 (λt ht=>QY (P:=λx=>aY x=true) h t ?_);rw[du]at ht; exact ht
theorem QX {n:Nat} {f:Nat->Nat->Fl} (h:∀ a b,FW (f a b)):AllW (mf n f):=by intro x hx;unfold mf at hx;obtain⟨t,-,rfl⟩:=List.mem_map.1 hx;exact h _ _
theorem Bs {n:Nat} (v:Nat->Nat->Fl):JP n (mf n (mir v)):=by
 intro a b ha hb;show pe (ofE (elt (mf n (mir v)) n a b))=pe (ofE (elt (mf n (mir v)) n b a));rw[Fj n _ ha hb,Fj n _ hb ha];unfold mir;rcases Nat.lt_trichotomy a b with h | h | h
 ·rw[if_neg (by omega),if_pos (by omega)]
 ·rw[h]
 ·rw[if_pos (by omega),if_neg (by omega)]
theorem K6 {v:Nat->Nat->Fl} (h:∀ a b,FW (v a b)) (a b:Nat):FW (mir v a b):=by
 unfold mir; split
 ·exact h _ _
 ·exact h _ _
theorem Br {n:Nat} {v:Nat->Nat->Fl} (h:∀ a b,a<n->b<=a->aY (v a b)=true):∀ a b,a<n->b<n->aY (mir v a b)=true:=by
 intro a b ha hb;unfold mir; split
 ·exact h _ _ ha (by assumption)
 ·exact h _ _ hb (by omega)
theorem H8 {N n:Nat} (hF:Fuel N) (hn:n<=12) (x:List Fl) {v:Nat->Nat->Fl} (b:Bool) (hb:b=false -> ∀ i j,i<n->j<=i->aY (v i j)=true) (hw:∀ i j,FW (v i j)) (k0:Int->Int->Int->Bool) (k1:Int->List Fl->Bool) :
  IA N n n x (mf n (low v)) b k0 k1=cond b (k0 0 0 5) (cond (!tG n (mf n (mir v))) (k0 0 0 151) (k1 0 (mf n (mir v)))):=by
 have hN:=hF.lt
 (unfold IA; rw[ac]; unfold OZ)
 cases b
 ·rw[cond_false,cond_false,C_ (by omega) hn,uo hF hn (du n _) (Fk (Br (hb rfl))) (QX (K6 hw)) (Bs _)]
 ·rfl
theorem yl {N:Nat} {a:List Fl} (hs:js N a.length) (h:∀ i,i<a.length->Nn (a.getD i none)) (k:Bool->Bool):Ix N a a k=k true:=by
 have h1:=hs.1;have h2:=hs.2
 (unfold Ix; rw[ac]; unfold OH)
 rw[show(((a.length:Nat):Int) != ((a.length:Nat):Int))=false by simp,cond_false];refine aD (λt:Nat=>(t:Int)) a.length (by omega) ?_ ?_
 ·intro t ht K;unfold BQ;dsimp only;rw[decide_eq_true (by omega:(t:Int)<(a.length:Int)),cond_true,aa (af (by omega) (by omega)),aa (af (by omega) (by omega)),Int.toNat_natCast,mg (h t ht),show(!true)=false from rfl,cond_false,aa (ab (by omega) (by omega))];rfl
 ·intro K;unfold BQ;dsimp only;rw[decide_eq_false (by omega:¬(a.length:Int)<(a.length:Int)),cond_false]
theorem vt {N:Nat} {a b:List Fl} (ha:js N a.length) (hb:js N b.length) (h:∀ i,i<a.length->Nn (a.getD i none)) (g:∀ i,i<b.length->Nn (b.getD i none)) (i j:Int) (k:Bool->Bool):sQ0 N a i j b a i j b k=k true:=by
 (unfold sQ0; rw[ac]; unfold GQ0)
 rw[yl ha h,show(i==i)=true by simp,show(j==j)=true by simp];show Ix N b b _=_;rw[yl hb g]
theorem yn {N:Nat} (hN:1000<=N) (i j:Int) (k:Bool->Bool):sQ0 N [] i j [] [] i j [] k=k true:=
 vt (a:=[]) (b:=[]) ⟨by show 0<N; omega,by decide⟩ ⟨by show 0<N; omega,by decide⟩ (λi hi=>by exact absurd hi (Nat.not_lt_zero _)) (λi hi=>by exact absurd hi (Nat.not_lt_zero _)) i j k
theorem Sr (l:List Int):(zA l).length=l.length:=by unfold zA; rw[List.length_map]
theorem HS {N:Nat} {x p:List Int} (hx:js N x.length) (hp:js N p.length) (r c:Int) (k:List Fl->List Fl->Bool):Ni N x r c p k=k (zA x) (zA p):=by unfold Ni RH;rw[yi x hx,yi p hp]
theorem Ma {n:Nat} {g:Nat->Fl} {P:Fl->Prop} (h:∀ i,i<n->P (g i)):∀ i,i<(vf n g).length->P ((vf n g).getD i none):=by intro i hi;rw[bv]at hi;rw[ki n g hi];exact h i hi
theorem ir (N:Nat) {x:Fl} (hw:FW x) (o:Bool) (a1:List Fl) (a2 a3:Int) (a4 a5:List Fl) (a6 a7 a8:Fl) (a9:List Fl) (k:Bool->Bool):DJ N x o a1 a2 a3 a4 a5 a6 a7 a8 a9 k=k (o || !aY x):=by
 (unfold DJ; rw[ac]; unfold OO)
 exact Ge hw o k
theorem sH (N:Nat) (x y:Fl) (o:Bool) (a1:List Fl) (a2 a3:Int) (a4 a5:List Fl) (a6 a7 a8:Fl) (a9:List Fl) (k:Fl->Bool->Bool):Nr N x y o a1 a2 a3 a4 a5 a6 a7 a8 a9 k=k (bc x y) (o || !aY (bc x y)):=by
 (unfold Nr; rw[ac]; unfold Pa)
 rw[ir N (FY x y)]
theorem cb (N:Nat) {x:Fl} (hw:FW x) (o:Bool) (a1:List Fl) (a2 a3:Int) (a4 a5:List Fl) (a6 a7 a8:Fl) (a9 a10:List Fl) (k:Bool->Bool):sQ7 N x o a1 a2 a3 a4 a5 a6 a7 a8 a9 a10 k=k (o || !aY x):=by
 (unfold sQ7; rw[ac]; unfold GQ7)
 exact Ge hw o k
theorem ci (N:Nat) (x y:Fl) (o:Bool) (a1:List Fl) (a2 a3:Int) (a4 a5:List Fl) (a6 a7 a8:Fl) (a9 a10:List Fl) (k:Fl->Bool->Bool):sQ8 N x y o a1 a2 a3 a4 a5 a6 a7 a8 a9 a10 k=k (bc x y) (o || !aY (bc x y)):=by
 (unfold sQ8; rw[ac]; unfold GQ8)
 rw[cb N (FY x y)]
theorem CX {N n:Nat} (hN:1000<=N) (hn:n<=100) {a b:List Fl} (a1:List Fl) (a2 a3:Int) (a4 a5:List Fl) (a6 a7 a8:Fl) (a9:List Fl) {f g:Nat->Fl} (ha:a.length=n) (hb:n<=b.length) (hbs:b.length<=1000) (hf:∀ i,i<n->a.getD i none=f i) (hg:∀ i,i<n->b.getD i none=g i) (o:Bool) (k:Fl->Bool->Bool) :
  Nq N a b o a1 a2 a3 a4 a5 a6 a7 a8 a9 k=k (dV f g n) (o||dO f g n):=by
 (unfold Nq; rw[ac]; unfold O_)
 have h0:((some 0,0,o):Fl × Int × Bool)=(λt:Nat=>(dV f g t,(t:Int),o||dO f g t)) 0:=by show _=(some 0,((0:Nat):Int),o||false); rw[lK]; rfl
 rw[h0];refine aD (λt:Nat=>(dV f g t,(t:Int),o||dO f g t)) n (by omega) ?_ ?_
 ·intro t ht K;unfold BV;dsimp only;rw[decide_eq_true (by omega:(t:Int)<(a.length:Int)),cond_true,aa (af (by omega) (by omega)),aa (af (by omega) (by omega)),Int.toNat_natCast,hf t ht,hg t ht,sH,ir N (lV _ _),aa (ab (by omega) (by omega)),oH];rfl
 ·intro K;unfold BV;dsimp only;rw[decide_eq_false (by omega:¬(n:Int)<(a.length:Int)),cond_false]
theorem KD {N n:Nat} (hN:1000<=N) (hn:n<=100) {a b:List Fl} (a1:List Fl) (a2 a3:Int) (a4 a5:List Fl) (a6 a7 a8:Fl) {f g:Nat->Fl} (ha:a.length=n) (hb:n<=b.length) (hbs:b.length<=1000) (hf:∀ i,i<n->a.getD i none=f i) (hg:∀ i,i<n->b.getD i none=g i) (o:Bool) (k:Fl->Bool->Bool) :
  Rf N a o a1 a2 a3 a4 a5 a6 a7 a8 b k=k (dV f g n) (o||dO f g n):=by
 (unfold Rf; rw[ac]; unfold O7)
 have h0:((some 0,0,o):Fl × Int × Bool)=(λt:Nat=>(dV f g t,(t:Int),o||dO f g t)) 0:=by show _=(some 0,((0:Nat):Int),o||false); rw[lK]; rfl
 rw[h0];refine aD (λt:Nat=>(dV f g t,(t:Int),o||dO f g t)) n (by omega) ?_ ?_
 ·intro t ht K;unfold BR;dsimp only;rw[decide_eq_true (by omega:(t:Int)<(a.length:Int)),cond_true,aa (af (by omega) (by omega)),aa (af (by omega) (by omega)),Int.toNat_natCast,aa (decide_eq_true (by omega)),hf t ht,hg t ht,sH,ir N (lV _ _),aa (ab (by omega) (by omega)),oH];rfl
 ·intro K;unfold BR;dsimp only;rw[decide_eq_false (by omega:¬(n:Int)<(a.length:Int)),cond_false]
theorem KE {N n:Nat} (hN:1000<=N) (hn:n<=100) {s:Nat} {a b:List Fl} (a1:List Fl) (a2 a3:Int) (a4 a5:List Fl) (a6 a7 a8:Fl) (a9 a10:List Fl) {f g:Nat->Fl} (ha:s+n<=a.length) (hb:n<=b.length) (hbs:b.length<=1000) (hf:∀ i,i<n->a.getD (s+i) none=f i) (hg:∀ i,i<n->b.getD i none=g i) (o:Bool) (k:Fl->Bool->Bool) :
  Q9 N s n o a1 a2 a3 a4 a5 a6 a7 a8 a b a9 a10 k=k (dV f g n) (o||dO f g n):=by
 (unfold Q9; rw[ac]; unfold OT)
 have h0:((some 0,0,o):Fl × Int × Bool)=(λt:Nat=>(dV f g t,(t:Int),o||dO f g t)) 0:=by show _=(some 0,((0:Nat):Int),o||false); rw[lK]; rfl
 rw[h0];refine aD (λt:Nat=>(dV f g t,(t:Int),o||dO f g t)) n (by omega) ?_ ?_
 ·intro t ht K;unfold BO;dsimp only;rw[decide_eq_true (by omega:(t:Int)<(n:Int)),cond_true,aa (af (by omega) (by omega)),Int.toNat_natCast,aa (decide_eq_true (by omega)),aa (af (by omega) (by omega)),aa (decide_eq_true (by omega)),hf t ht,hg t ht,ci,cb N (lV _ _),aa (ab (by omega) (by omega)),oH];rfl
 ·intro K;unfold BO;dsimp only;rw[decide_eq_false (by omega:¬(n:Int)<(n:Int)),cond_false]
theorem KF {N n:Nat} (hN:1000<=N) (hn:n<=100) {s s':Nat} {a b:List Fl} (a1:List Fl) (a2 a3:Int) (a4 a5:List Fl) (a6 a7 a8:Fl) (a9 a10:List Fl) {f g:Nat->Fl} (ha:s+n<=a.length) (hb:s'+n<=b.length) (hf:∀ i,i<n->a.getD (s+i) none=f i) (hg:∀ i,i<n->b.getD (s'+i) none=g i) (o:Bool) (k:Fl->Bool->Bool) :
  Q8 N s n s' n o a1 a2 a3 a4 a5 a6 a7 a8 a b a9 a10 k=k (dV f g n) (o||dO f g n):=by
 (unfold Q8; rw[ac]; unfold OR)
 have h0:((some 0,0,o):Fl × Int × Bool)=(λt:Nat=>(dV f g t,(t:Int),o||dO f g t)) 0:=by show _=(some 0,((0:Nat):Int),o||false); rw[lK]; rfl
 rw[h0];refine aD (λt:Nat=>(dV f g t,(t:Int),o||dO f g t)) n (by omega) ?_ ?_
 ·intro t ht K;unfold BN;dsimp only;rw[decide_eq_true (by omega:(t:Int)<(n:Int)),cond_true,aa (af (by omega) (by omega)),Int.toNat_natCast,aa (decide_eq_true (by omega)),aa (af (by omega) (by omega)),aa (decide_eq_true (by omega)),hf t ht,hg t ht,ci,cb N (lV _ _),aa (ab (by omega) (by omega)),oH];rfl
 ·intro K;unfold BN;dsimp only;rw[decide_eq_false (by omega:¬(n:Int)<(n:Int)),cond_false]
theorem Be {N n:Nat} (hN:1000<=N) (hn:n<=12) {f p:List Fl} (hf:f.length=n*n) (hp:p.length=n*n) (o:Bool) (a1:List Fl) (a2 a3:Int) (a4 a5:List Fl) (a6 a7 a8:Fl) (a9 a10:List Fl) (k:Bool->List Fl->Bool) :
  dj N n n n n p o a1 a2 a3 a4 a5 a6 a7 a8 f a9 a10 k=k (o||orM n (prO n f p)) (mf n (prV n f p)):=by
 (unfold dj; rw[ac]; unfold db)
 have hn2:n*n<=144:=yD hn;have h0:((0,o,[]):Int × Bool × List Fl)=(λi:Nat=>((i:Int),o||orB (λi=>orB (λj=>prO n f p i j) n) i,(mf n (prV n f p)).take (i*n))) 0:=by show _=(((0:Nat):Int),o||false,List.take (0*n) _); rw[lK,Nat.zero_mul]; rfl
 rw[h0];refine aD (λi:Nat=>((i:Int),o||orB (λi=>orB (λj=>prO n f p i j) n) i,(mf n (prV n f p)).take (i*n))) n (by omega) ?_ ?_
 ·intro i hi K;unfold bH;dsimp only;rw[decide_eq_true (by omega:(i:Int)<(n:Int)),cond_true];generalize ho1:(o||orB (λi=>orB (λj=>prO n f p i j) n) i)=o1;have h1:((0,o1,(mf n (prV n f p)).take (i*n)):Int × Bool × List Fl)=(λj:Nat=>((j:Int),o1||orB (λj=>prO n f p i j) j,(mf n (prV n f p)).take (i*n+j))) 0:=by show _=(((0:Nat):Int),o1||false,List.take (i*n+0) _); rw[lK]; rfl
  rw[h1];refine(aD (λj:Nat=>((j:Int),o1||orB (λj=>prO n f p i j) j,(mf n (prV n f p)).take (i*n+j))) n (N:=N) (by omega) (out:=K ((((i+1:Nat)):Int),o||orB (λi=>orB (λj=>prO n f p i j) n) (i+1),(mf n (prV n f p)).take ((i+1)*n))) ?_ ?_:_)
  ·intro j hj K';have hij:=kz hi hj;have hrow:=tI hi;have hrn:=mJ n i;unfold bI;dsimp only;rw[decide_eq_true (by omega:(j:Int)<(n:Int)),cond_true,yu (by omega) hi hf,MK hN (by omega) hj hp,
    KE (n:=n) (s:=i*n) (f:=λt=>elt f n i t) (g:=λt=>elt p n t j) hN (by omega) _ _ _ _ _ _ _ _ _ _ (by omega) (by rw[bv]; omega) (by rw[bv]; omega) (λt ht=>rfl) (λt ht=>ki n _ ht none)]
   have e:dV (λt=>elt f n i t) (λt=>elt p n t j) n=prV n f p i j:=rfl;have e2:dO (λt=>elt f n i t) (λt=>elt p n t j) n=prO n f p i j:=rfl;rw[e,e2,GC n (prV n f p) hi hj,aa (decide_eq_true (by rw[List.length_take,du]; omega)),aa (ab (by omega) (by omega)),dQ o1 (λj=>prO n f p i j) j];rfl
  ·intro K';unfold bI;dsimp only;rw[decide_eq_false (by omega:¬(n:Int)<(n:Int)),cond_false,aa (ab (by omega) (by omega)),<- ho1,mJ,dQ o (λi=>orB (λj=>prO n f p i j) n) i];rfl
 ·intro K;unfold bH;dsimp only;rw[decide_eq_false (by omega:¬(n:Int)<(n:Int)),cond_false,DZ];rfl
def jV (n:Nat) (B A kk:List Fl) (r:Fl):Nat->Nat->Fl:=λi j=>dR (dV (λt=>elt B n i t) (λt=>elt A n j t) n) (bc (bc (kk.getD i none) r) (kk.getD j none))
def jO (n:Nat) (B A kk:List Fl) (r:Fl):Nat->Nat->Bool:=λi j=>((dO (λt=>elt B n i t) (λt=>elt A n j t) n || !aY (bc (kk.getD i none) r)) || !aY (bc (bc (kk.getD i none) r) (kk.getD j none))) || !aY (jV n B A kk r i j)
theorem KO {N n i j:Nat} (hN:1000<=N) (hn:n<=12) (hi:i<n) (hj:j<n) {B A kk:List Fl} (hB:B.length=n*n) (hA:A.length=n*n) (hk:kk.length=n) (o:Bool) (a1:List Fl) (a2 a3:Int) (a4 a5:List Fl) (a6 a7 a8:Fl) (a9:List Fl) (k:Fl->Bool->Bool) :
  bu N i j n n n n o a1 a2 a3 a4 a5 a6 a7 a8 B A a9 kk k=k (jV n B A kk a6 i j) (o||jO n B A kk a6 i j):=by
 (unfold bu; rw[ac]; unfold bt)
 have h1:=tI hi;have h2:=mJ n i;have h3:=tI hj;have h4:=mJ n j;rw[yu (by omega) hi hB,yu (by omega) hj hA,
  KF (n:=n) (s:=i*n) (s':=j*n) (f:=λt=>elt B n i t) (g:=λt=>elt A n j t) hN (by omega) _ _ _ _ _ _ _ _ _ _ (by omega) (by omega) (λt ht=>rfl) (λt ht=>rfl),
  aa (af (by omega) (by omega)),Int.toNat_natCast,aa (decide_eq_true (by omega)),ci,aa (af (by omega) (by omega)),Int.toNat_natCast,aa (decide_eq_true (by omega)),ci,cb N (lV _ _)]
 unfold jO;simp only[Bool.or_assoc];rfl
theorem zx {N n:Nat} (hN:1000<=N) (hn:n<=12) {B A kk:List Fl} (hB:B.length=n*n) (hA:A.length=n*n) (hk:kk.length=n) (o:Bool) (a1:List Fl) (a2 a3:Int) (a4 a5:List Fl) (a6 a7 a8:Fl) (a9:List Fl) (k:Bool->List Fl->Bool) :
  cj N n n n n n o a1 a2 a3 a4 a5 a6 a7 a8 B A a9 kk k=k (o||orL n (jO n B A kk a6)) (mf n (mir (jV n B A kk a6))):=by
 have hn2:n*n<=144:=yD hn
 (unfold cj; rw[ac]; unfold cd)
 rw[<- Int.natCast_mul,aa (ab (by omega) (by omega)),aa (bY (by omega) (by omega) (by omega) (by omega)),Int.toNat_natCast,Bp];generalize hv:jV n B A kk a6=v;generalize hw:jO n B A kk a6=w;rw[Bn n v];have h0:((0,o,mf n (mS v 0 0)):Int × Bool × List Fl)=(λi:Nat=>((i:Int),o||orB (λi=>orB (λj=>w i j) (i+1)) i,mf n (mS v i 0))) 0:=by show _=(((0:Nat):Int),o||false,_); rw[lK]; rfl
 rw[h0];refine aD (λi:Nat=>((i:Int),o||orB (λi=>orB (λj=>w i j) (i+1)) i,mf n (mS v i 0))) n (by omega) ?_ ?_
 ·intro i hi K;unfold bh;dsimp only;rw[decide_eq_true (by omega:(i:Int)<(n:Int)),cond_true,aa (ab (by omega) (by omega))];generalize ho1:(o||orB (λi=>orB (λj=>w i j) (i+1)) i)=o1;have h1:((0,o1,mf n (mS v i 0)):Int × Bool × List Fl)=(λj:Nat=>((j:Int),o1||orB (λj=>w i j) j,mf n (mS v i j))) 0:=by show _=(((0:Nat):Int),o1||false,_); rw[lK]; rfl
  rw[h1];refine(aD (λj:Nat=>((j:Int),o1||orB (λj=>w i j) j,mf n (mS v i j))) (i+1) (N:=N) (by omega) (out:=K ((((i+1:Nat)):Int),o||orB (λi=>orB (λj=>w i j) (i+1)) (i+1),mf n (mS v (i+1) 0))) ?_ ?_:_)
  ·intro j hj K';have hj2:j<n:=by omega
   obtain⟨g1,g2⟩:=fW (by omega:n<=1000) hi hj2;obtain⟨g3,g4⟩:=fW (by omega:n<=1000) hj2 hi;have g5:=kz hi hj2;have g6:=kz hj2 hi;unfold br;dsimp only;rw[decide_eq_true (by omega:(j:Int)<(i:Int)+1),cond_true,KO hN hn hi hj2 hB hA hk,aa g1,fV,aa g2,aa g3,fV,aa g4,du,aa (af (by omega) (by omega)),Int.toNat_natCast,aa (decide_eq_true g5),hv,hw,
    yy n _ hi hj2,du,aa (af (by omega) (by omega)),Int.toNat_natCast,aa (decide_eq_true g6),yy n _ hj2 hi,aa (ab (by omega) (by omega)),dQ o1 (λj=>w i j) j,Bm n v hj]
   rfl
  ·intro K';unfold br;dsimp only;rw[decide_eq_false (by omega:¬((i+1:Nat):Int)<(i:Int)+1),cond_false,aa (ab (by omega) (by omega)),<- ho1,Fi,dQ o (λi=>orB (λj=>w i j) (i+1)) i];rfl
 ·intro K;unfold bh;dsimp only;rw[decide_eq_false (by omega:¬(n:Int)<(n:Int)),cond_false,Fh];rfl
def Fw (i j:Nat):Fl:=if i=j then some 4607182418800017408 else some 0
def asV (kk h:List Fl):Nat->Nat->Fl:=λi j=>co (Fw i j) (bc (kk.getD i none) (h.getD j none))
def asO (kk h:List Fl):Nat->Nat->Bool:=λi j=>!aY (bc (kk.getD i none) (h.getD j none)) || !aY (asV kk h i j)
def CU (n:Nat) (p kk h:List Fl) (r:Fl):List Fl:=mf n (mir (jV n (mf n (prV n (mf n (asV kk h)) p)) (mf n (asV kk h)) kk r))
def Ba (n:Nat) (p kk h:List Fl) (r:Fl):Bool:=(orM n (asO kk h)||orM n (prO n (mf n (asV kk h)) p))||orL n (jO n (mf n (prV n (mf n (asV kk h)) p)) (mf n (asV kk h)) kk r)
theorem E0 {N n:Nat} (hN:1000<=N) (hn:n<=12) {p h kk:List Fl} (hp:p.length=n*n) (hh:h.length=n) (hk:kk.length=n) (o:Bool) (a1:List Fl) (r a7 a8:Fl) (a9:List Fl) (k:Int->Int->Bool->List Fl->Bool) :
  cC N o a1 n n p h r a7 a8 a9 kk k=k n n (o||Ba n p kk h r) (CU n p kk h r):=by
 (unfold cC; rw[ac]; unfold cA)
 rw[hh];have hn2:n*n<=144:=yD hn;have h0:((0,o,[]):Int × Bool × List Fl)=(λi:Nat=>((i:Int),o||orB (λi=>orB (λj=>asO kk h i j) n) i,(mf n (asV kk h)).take (i*n))) 0:=by show _=(((0:Nat):Int),o||false,List.take (0*n) _); rw[lK,Nat.zero_mul]; rfl
 rw[h0];refine aD (λi:Nat=>((i:Int),o||orB (λi=>orB (λj=>asO kk h i j) n) i,(mf n (asV kk h)).take (i*n))) n (by omega) ?_ ?_
 ·intro i hi K;unfold bA;dsimp only;rw[decide_eq_true (by omega:(i:Int)<(n:Int)),cond_true];generalize ho1:(o||orB (λi=>orB (λj=>asO kk h i j) n) i)=o1;have h1:((0,o1,(mf n (asV kk h)).take (i*n)):Int × Bool × List Fl)=(λj:Nat=>((j:Int),o1||orB (λj=>asO kk h i j) j,(mf n (asV kk h)).take (i*n+j))) 0:=by show _=(((0:Nat):Int),o1||false,List.take (i*n+0) _); rw[lK]; rfl
  rw[h1];refine(aD (λj:Nat=>((j:Int),o1||orB (λj=>asO kk h i j) j,(mf n (asV kk h)).take (i*n+j))) n (N:=N) (by omega) (out:=K ((((i+1:Nat)):Int),o||orB (λi=>orB (λj=>asO kk h i j) n) (i+1),(mf n (asV kk h)).take ((i+1)*n))) ?_ ?_:_)
  ·intro j hj K';have hij:=kz hi hj;unfold bB;dsimp only;have key:∀ z:Fl,Fw i j=z->(inR (i:Int) (List.length kk)&&(decide ((Int.toNat (i:Int))<kk.length)&&(inR (j:Int) (List.length h)&&sQ8 N (kk.getD (Int.toNat (i:Int)) none) (h.getD (Int.toNat (j:Int)) none) (o1||orB (λj=>asO kk h i j) j) a1 n n p h r a7 a8 a9 kk (λxr cr=>sQ7 N (co z xr) cr a1 n n p h r a7 a8 a9 kk (λU9=>(decide ((((mf n (asV kk h)).take (i*n+j)++[co z xr]).length)*8<=140737488355328))&&(ah .i64 ((j:Int)+1)&&K' ((j:Int)+1,U9,(mf n (asV kk h)).take (i*n+j)++[co z xr])))))))=K' (((j+1:Nat):Int),o1||orB (λj=>asO kk h i j) (j+1),(mf n (asV kk h)).take (i*n+(j+1))):=by
    intro z hz;rw[aa (af (by omega) (by omega)),Int.toNat_natCast,aa (decide_eq_true (by omega)),aa (af (by omega) (by omega)),Int.toNat_natCast,ci,cb N (rv _ _)];have e:co z (bc (kk.getD i none) (h.getD j none))=asV kk h i j:=by rw[<- hz]; rfl
    have e2:(((o1||orB (λj=>asO kk h i j) j) || !aY (bc (kk.getD i none) (h.getD j none))) || !aY (asV kk h i j))=(o1||orB (λj=>asO kk h i j) (j+1)):=by rw[<- dQ o1 (λj=>asO kk h i j) j];unfold asO;simp only[Bool.or_assoc]
    rw[e,e2,GC n (asV kk h) hi hj,aa (decide_eq_true (by rw[List.length_take,du]; omega)),aa (ab (by omega) (by omega))];rfl
   rw[decide_eq_true (by omega:(j:Int)<(n:Int)),cond_true];by_cases hij2:i=j
   ·have e:((i:Int)==(j:Int))=true:=by rw[hij2]; exact beq_self_eq_true _
    rw[e,cond_true];exact key _ (by unfold Fw; rw[if_pos hij2])
   ·have e:((i:Int)==(j:Int))=false:=by rw[beq_eq_false_iff_ne]; omega
    rw[e,cond_false];exact key _ (by unfold Fw; rw[if_neg hij2])
  ·intro K';unfold bB;dsimp only;rw[decide_eq_false (by omega:¬(n:Int)<(n:Int)),cond_false,aa (ab (by omega) (by omega)),<- ho1,mJ,dQ o (λi=>orB (λj=>asO kk h i j) n) i];rfl
 ·intro K;unfold bA;dsimp only;rw[decide_eq_false (by omega:¬(n:Int)<(n:Int)),cond_false,DZ,Be hN hn (du _ _) hp,zx hN hn (du _ _) (du _ _) hk];unfold CU Ba;rw[show orB (λi=>orB (λj=>asO kk h i j) n) n=orM n (asO kk h) from rfl];simp only[Bool.or_assoc]
def shV (n:Nat) (p kk v:List Fl):Nat->Nat->Fl:=λi j=>co (elt p n i j) (bc (kk.getD i none) (v.getD j none))
def shO (n:Nat) (p kk v:List Fl):Nat->Nat->Bool:=λi j=>!aY (bc (kk.getD i none) (v.getD j none)) || !aY (shV n p kk v i j)
theorem KZ {N n i j:Nat} (hN:1000<=N) (hn:n<=12) (hi:i<n) (hj:j<n) {p v kk:List Fl} (hp:p.length=n*n) (hv0:v.length=n) (hk:kk.length=n) (o:Bool) (a1:List Fl) (a2 a3:Int) (a5:List Fl) (a6 a7 a8:Fl) (k:Fl->Bool->Bool) :
  bX N i j n o a1 a2 a3 p a5 a6 a7 a8 v kk k=k (shV n p kk v i j) (o||shO n p kk v i j):=by
 (unfold bX; rw[ac]; unfold bR)
 obtain⟨h1,h2⟩:=fW (by omega:n<=1000) hi hj;have h3:=kz hi hj;rw[aa h1,fV,aa h2,hp,aa (af (by omega) (by omega)),aa (af (by omega) (by omega)),Int.toNat_natCast,aa (decide_eq_true (by omega)),aa (af (by omega) (by omega)),Int.toNat_natCast,aa (decide_eq_true (by omega)),ci,Int.toNat_natCast,cb N (rv _ _)];unfold shO;simp only[Bool.or_assoc];rfl
theorem zw {N n:Nat} (hN:1000<=N) (hn:n<=12) {p v kk:List Fl} (hp:p.length=n*n) (hv0:v.length=n) (hk:kk.length=n) (o:Bool) (a1:List Fl) (a2 a3:Int) (a5:List Fl) (a6 a7 a8:Fl) (k:Bool->List Fl->Bool) :
  di N n n o a1 a2 a3 p a5 a6 a7 a8 v kk k=k (o||orL n (shO n p kk v)) (mf n (mir (shV n p kk v))):=by
 have hn2:n*n<=144:=yD hn
 (unfold di; rw[ac]; unfold da)
 rw[<- Int.natCast_mul,aa (ab (by omega) (by omega)),aa (bY (by omega) (by omega) (by omega) (by omega)),Int.toNat_natCast,Bp];generalize hv:shV n p kk v=w1;generalize hw:shO n p kk v=w;rw[Bn n w1];have h0:((0,o,mf n (mS w1 0 0)):Int × Bool × List Fl)=(λi:Nat=>((i:Int),o||orB (λi=>orB (λj=>w i j) (i+1)) i,mf n (mS w1 i 0))) 0:=by show _=(((0:Nat):Int),o||false,_); rw[lK]; rfl
 rw[h0];refine aD (λi:Nat=>((i:Int),o||orB (λi=>orB (λj=>w i j) (i+1)) i,mf n (mS w1 i 0))) n (by omega) ?_ ?_
 ·intro i hi K;unfold bF;dsimp only;rw[decide_eq_true (by omega:(i:Int)<(n:Int)),cond_true,aa (ab (by omega) (by omega))];generalize ho1:(o||orB (λi=>orB (λj=>w i j) (i+1)) i)=o1;have h1:((0,o1,mf n (mS w1 i 0)):Int × Bool × List Fl)=(λj:Nat=>((j:Int),o1||orB (λj=>w i j) j,mf n (mS w1 i j))) 0:=by show _=(((0:Nat):Int),o1||false,_); rw[lK]; rfl
  rw[h1];refine(aD (λj:Nat=>((j:Int),o1||orB (λj=>w i j) j,mf n (mS w1 i j))) (i+1) (N:=N) (by omega) (out:=K ((((i+1:Nat)):Int),o||orB (λi=>orB (λj=>w i j) (i+1)) (i+1),mf n (mS w1 (i+1) 0))) ?_ ?_:_)
  ·intro j hj K';have hj2:j<n:=by omega
   obtain⟨g1,g2⟩:=fW (by omega:n<=1000) hi hj2;obtain⟨g3,g4⟩:=fW (by omega:n<=1000) hj2 hi;have g5:=kz hi hj2;have g6:=kz hj2 hi;unfold bG;dsimp only;rw[decide_eq_true (by omega:(j:Int)<(i:Int)+1),cond_true,KZ hN hn hi hj2 hp hv0 hk,aa g1,fV,aa g2,aa g3,fV,aa g4,du,aa (af (by omega) (by omega)),Int.toNat_natCast,aa (decide_eq_true g5),hv,hw,
    yy n _ hi hj2,du,aa (af (by omega) (by omega)),Int.toNat_natCast,aa (decide_eq_true g6),yy n _ hj2 hi,aa (ab (by omega) (by omega)),dQ o1 (λj=>w i j) j,Bm n w1 hj]
   rfl
  ·intro K';unfold bG;dsimp only;rw[decide_eq_false (by omega:¬((i+1:Nat):Int)<(i:Int)+1),cond_false,aa (ab (by omega) (by omega)),<- ho1,Fi,dQ o (λi=>orB (λj=>w i j) (i+1)) i];rfl
 ·intro K;unfold bF;dsimp only;rw[decide_eq_false (by omega:¬(n:Int)<(n:Int)),cond_false,Fh];rfl
def FJ (n:Nat) (p kk v:List Fl):List Fl:=mf n (mir (shV n p kk v))
def DM (n:Nat) (p kk v:List Fl):Bool:=orL n (shO n p kk v)
theorem Fa {N n:Nat} (hN:1000<=N) (hn:n<=12) {p h v kk:List Fl} (hp:p.length=n*n) (hh:h.length=n) (hv:v.length=n) (hk:kk.length=n) (o:Bool) (a1:List Fl) (a2 a3:Int) (r a7 a8:Fl) (k:Int->Int->Bool->List Fl->Bool) :
  cR N o a1 a2 a3 p h r a7 a8 v kk k=k n n (o||DM n p kk v) (FJ n p kk v):=by
 (unfold cR; rw[ac]; unfold cH)
 rw[hh,zw hN hn hp hv hk];rfl
theorem GZ {n:Nat} {p kk v:List Fl} (q:DM n p kk v=false):bC (FJ n p kk v)=true:=by unfold DM at q;refine Fk (Br λa b ha hb=>?_);have h2:=ge (ge q a ha) b (by omega);unfold shO at h2;rw[Bool.or_eq_false_iff]at h2;simpa using h2.2
def iH (n:Nat) (h:List Fl) (r:Fl):Int:=if h.length ≠ n then 3 else if bC h=false then 4 else if aY r=false then 4 else if fle r (some 0)=true then 152 else 0
theorem s_ (r:Fl):bC [r]=aY r:=by show(u9 (λi=>aY ([r].getD i none)) 1)=aY r;unfold u9 u9;rw[Bool.true_and]; rfl
theorem ifz {α:Sort _} {a:Int} {A B:α} (h:a=0):(if a ≠ 0 then A else B)=B:=if_neg λq=>q h
theorem lj {α:Sort _} {a:Int} {A B:α} (h:¬ a=0):(if a ≠ 0 then A else B)=A:=if_pos h
theorem KY {N:Nat} (hN:1000<=N) {n:Nat} (hn:n<=12) (h:List Fl) (r:Fl) (k:Int->Bool):nD N n h r k=k (iH n h r):=by
 (unfold nD; rw[ac]; unfold nz iH)
 by_cases h0:h.length=n
 ·have e:(((h.length:Nat):Int) != (n:Int))=false:=by simp[h0]
  rw[e,cond_false,if_neg (λq=>q h0),kC h ⟨by omega,by omega⟩];cases bC h
  ·rfl
  ·rw[show(!true)=false from rfl,cond_false,kC [r] ⟨by simp; omega,by simp⟩,s_];cases aY r
   ·rfl
   ·cases fle r (some 0) <;> rfl
 ·have e:(((h.length:Nat):Int) != (n:Int))=true:=by simp; omega
  rw[e,cond_true,if_pos h0]
theorem mM {n:Nat} {h:List Fl} {r:Fl} (q:iH n h r=0):h.length=n/\bC h=true/\aY r=true/\fle r (some 0)=false:=by
 unfold iH at q;split at q
 ·cases q
 ·split at q
  ·cases q
  ·split at q
   ·cases q
   ·split at q
    ·cases q
    ·rename_i h0 h1 h2 h3;exact⟨by simpa using h0,by simpa using h1,by simpa using h2,by simpa using h3⟩
def lst (l:List Fl):Nat->Fl:=λt=>l.getD t none
def uV (n:Nat) (p h:List Fl):Nat->Fl:=λi=>dV (λt=>elt p n i t) (lst h) n
def uVo (n:Nat) (p h:List Fl):Nat->Bool:=λi=>dO (λt=>elt p n i t) (lst h) n
def uW (n:Nat) (x h:List Fl):Fl:=dV (lst h) (lst x) n
def uS (n:Nat) (p h:List Fl) (r:Fl):Fl:=dR (dV (lst h) (uV n p h) n) r
def uF (n:Nat) (x p h:List Fl) (r:Fl):Bool:=((orB (uVo n p h) n||dO (lst h) (lst x) n)||dO (lst h) (uV n p h) n) || !aY (uS n p h r)
def uE (n:Nat) (x p h:List Fl) (r:Fl):Int:=if uF n x p h r=true then 5 else if fgt (uS n p h r) (some 0)=false then 153 else 0
theorem qL {N:Nat} (hF:Fuel N) (x:List Fl) (rr cc:Int) (p h:List Fl) (r:Fl) (hwp:AllW p) (k0:Int->Bool) (k1:Int->Bool->Fl->Fl->List Fl->Bool) :
  e_ N x rr cc p h r k0 k1=if mR x rr cc p ≠ 0 then k0 (mR x rr cc p)else if iH x.length h r ≠ 0 then k0 (iH x.length h r)else
   k1 (uE x.length x p h r) (uF x.length x p h r) (uW x.length x h) (uS x.length p h r) (vf x.length (uV x.length p h)):=by
 have hN:=hF.lt
 (unfold e_; rw[ac]; unfold kp)
 rw[EP hF _ _ _ _ hwp];by_cases h0:mR x rr cc p=0
 ·obtain⟨n,hn,rfl,rfl,hx,hl,fx,fl,-,-⟩:=kB h0;rw[if_neg (λh=>h h0),h0,show((0:Int) != 0)=false from rfl,cond_false,hx,KY (by omega) hn];by_cases h1:iH n h r=0
  ·obtain⟨hh,-,-,-⟩:=mM h1;rw[if_neg (λq=>q h1),h1,show((0:Int) != 0)=false from rfl,cond_false];have z0:((0,false,[]):Int × Bool × List Fl)=(λt:Nat=>((t:Int),orB (uVo n p h) t,(vf n (uV n p h)).take t)) 0:=rfl;rw[z0];refine aD (λt:Nat=>((t:Int),orB (uVo n p h) t,(vf n (uV n p h)).take t)) n (by omega) ?_ ?_
   ·intro t ht K;unfold eO;dsimp only;rw[decide_eq_true (by omega:(t:Int)<(n:Int)),cond_true,MQ (by omega) ht hl,
     CX (n:=n) (f:=λi=>elt p n t i) (g:=lst h) (by omega) (by omega) _ _ _ _ _ _ _ _ _ (yL hl ht) (by omega) (by omega) (λi hi=>vz hl ht hi) (λi hi=>rfl)]
    have e:dV (λi=>elt p n t i) (lst h) n=uV n p h t:=rfl;rw[e,so n (uV n p h) ht,aa (decide_eq_true (by rw[List.length_take,bv]; omega)),aa (ab (by omega) (by omega))];rfl
   ·intro K;unfold eO;dsimp only;rw[decide_eq_false (by omega:¬(n:Int)<(n:Int)),cond_false,List.take_of_length_le (by rw[bv]; omega),
     CX (n:=n) (f:=lst h) (g:=lst x) (by omega) (by omega) _ _ _ _ _ _ _ _ _ hh (by omega) (by omega) (λi hi=>rfl) (λi hi=>rfl),
     KD (n:=n) (f:=lst h) (g:=uV n p h) (by omega) (by omega) _ _ _ _ _ _ _ _ hh (by rw[bv]; omega) (by rw[bv]; omega) (λi hi=>rfl) (λi hi=>ki n _ hi none),ir N (lV _ _)]
    (unfold Oi; rw[ac]; unfold Jb)
    show cond (uF n x p h r) (k1 5 (uF n x p h r) (uW n x h) (uS n p h r) _) (cond (!(fgt (uS n p h r) (some 0))) (k1 153 (uF n x p h r) (uW n x h) (uS n p h r) _) (k1 0 (uF n x p h r) (uW n x h) (uS n p h r) _))=_;unfold uE;cases uF n x p h r
    ·cases fgt (uS n p h r) (some 0) <;> rfl
    ·rfl
  ·rw[if_pos h1,fv _ _ h1,cond_true]
 ·rw[if_pos h0,fv _ _ h0,cond_true]
def gK (v:Nat->Fl) (s:Fl):Nat->Fl:=λi=>fdiv (v i) s
def gX (v:Nat->Fl) (s y:Fl) (x:List Fl):Nat->Fl:=λi=>dR (x.getD i none) (bc (gK v s i) y)
def gO (v:Nat->Fl) (s y:Fl) (x:List Fl):Nat->Bool:=λi=>(!aY (gK v s i) || !aY (bc (gK v s i) y)) || !aY (gX v s y x i)
theorem Ak {N n:Nat} (hN:1000<=N) (hn:n<=12) {v:Nat->Fl} {s y:Fl} {x:List Fl} (hx:x.length=n) (o:Bool) (b1 b2:Int) (b3:List Fl) (t1 t2:Int) (t3 t4 t5:Fl) (a1:List Fl) (a2 a3:Int) (a4 a5:List Fl) (a6 a7:Fl) (e0:Bool->List Fl->List Fl->Bool) :
  ak N (cT N y n x b1 b2 b3 t1 t2 t3 t4 t5 a1 a2 a3 a4 a5 a6 a7 s (vf n v) e0) (0,o,List.replicate n (some 0),[])=e0 (o||orB (gO v s y x) n) (vf n (gX v s y x)) (vf n (gK v s)):=by
 have z0:((0,o,List.replicate n (some 0),[]):Int × Bool × List Fl × List Fl)=(λt:Nat=>((t:Int),o||orB (gO v s y x) t,(vf n (gX v s y x)).take t++List.replicate (n - t) (some 0),(vf n (gK v s)).take t)) 0:=by show _=(((0:Nat):Int),o||false,_,_); rw[lK]; rfl
 rw[z0];refine aD (λt:Nat=>((t:Int),o||orB (gO v s y x) t,(vf n (gX v s y x)).take t++List.replicate (n - t) (some 0),(vf n (gK v s)).take t)) n (by omega) ?_ ?_
 ·intro t ht K;unfold cT;dsimp only;have hfl2:=wR n (gX v s y x) (i:=t) (by omega);have hs:=G6 n (gX v s y x) ht;have hk:fdiv (v t) s=gK v s t:=rfl;have hkl:((vf n (gK v s)).take (t+1)).length=t+1:=by rw[List.length_take,bv]; omega
  have hkt:((vf n (gK v s)).take (t+1)).getD t none=gK v s t:=by rw[List.getD_eq_getElem?_getD,List.getElem?_take,if_pos (by omega),<- List.getD_eq_getElem?_getD,ki n _ ht]
  rw[decide_eq_true (by omega:(t:Int)<(n:Int)),cond_true,bv,aa (af (by omega) (by omega)),Int.toNat_natCast,aa (decide_eq_true ht),ki n v ht,hk,cb N (by rw[<- hk]; exact AP _ _),
   so n (gK v s) ht,hkl,aa (decide_eq_true (by omega)),aa (af (by omega) (by omega)),aa (af (by omega) (by omega)),aa (decide_eq_true (by omega)),hkt,ci,cb N (lV _ _),hfl2,aa (af (by omega) (by omega)),aa (decide_eq_true ht),aa (ab (by omega) (by omega))]
  have e:dR (x.getD t none) (bc (gK v s t) y)=gX v s y x t:=rfl;have e2:((((o||orB (gO v s y x) t) || !aY (gK v s t)) || !aY (bc (gK v s t) y)) || !aY (gX v s y x t))=(o||orB (gO v s y x) (t+1)):=by rw[<- dQ o (gO v s y x) t];unfold gO;simp only[Bool.or_assoc]
  rw[e,e2,hs];rfl
 ·intro K;unfold cT;dsimp only;rw[decide_eq_false (by omega:¬(n:Int)<(n:Int)),cond_false,Nat.sub_self,List.replicate_zero,List.append_nil,List.take_of_length_le (by rw[bv]; omega),List.take_of_length_le (by rw[bv]; omega)]
def upY (n:Nat) (x h:List Fl) (z:Fl):Fl:=co z (uW n x h)
def upX (n:Nat) (x p h:List Fl) (r z:Fl):List Fl:=vf n (gX (uV n p h) (uS n p h r) (upY n x h z) x)
def upG (n:Nat) (p h:List Fl) (r:Fl):List Fl:=vf n (gK (uV n p h) (uS n p h r))
def upC (n:Nat) (x p h:List Fl) (r z:Fl):Fl:=fdiv (bc (upY n x h z) (upY n x h z)) (uS n p h r)
def upT (n:Nat) (x p h:List Fl) (r z:Fl):Bool:=((!aY (upY n x h z)||orB (gO (uV n p h) (uS n p h r) (upY n x h z) x) n) || !aY (bc (upY n x h z) (upY n x h z))) || !aY (upC n x p h r z)
def sy (x:List Fl) (rr cc:Int) (p h:List Fl) (r z:Fl) (o:Bool) (L:List Fl) (k0:Int->Bool) (k2:Nat->Fl->Fl->Fl->List Fl->List Fl->List Fl->Bool):Bool:=
 if mR x rr cc p ≠ 0 then k0 (mR x rr cc p)else if iH x.length h r ≠ 0 then k0 (iH x.length h r)else if aY z=false then k0 4 else
 if uE x.length x p h r ≠ 0 then k0 (uE x.length x p h r)else
 cond (upT x.length x p h r z||o) (k0 5) (cond (!tG x.length L) (k0 151)
  (k2 x.length (upY x.length x h z) (uS x.length p h r) (upC x.length x p h r z) (upX x.length x p h r z) L (upG x.length p h r)))
def zK (n:Nat) (p h:List Fl) (r:Fl):Bool:=Ba n p (upG n p h r) h r
def upJ (n:Nat) (p h:List Fl) (r:Fl):List Fl:=CU n p (upG n p h r) h r
def vN (n:Nat) (p h:List Fl) (r:Fl):Bool:=DM n p (upG n p h r) (vf n (uV n p h))
def upS (n:Nat) (p h:List Fl) (r:Fl):List Fl:=FJ n p (upG n p h r) (vf n (uV n p h))
theorem Gq {n:Nat} {p kk h:List Fl} {r:Fl} (q:Ba n p kk h r=false):bC (CU n p kk h r)=true:=by unfold Ba at q;rw[Bool.or_eq_false_iff]at q;refine Fk (Br λa b ha hb=>?_);have h2:=ge (ge q.2 a ha) b (by omega);unfold jO at h2;rw[Bool.or_eq_false_iff]at h2;simpa using h2.2
theorem Fc {N:Nat} (hF:Fuel N) (x:List Fl) (rr cc:Int) (p h:List Fl) (r z:Fl) (hwp:AllW p) (k0:Int->Int->Fl->Fl->Fl->Int->Bool) (k1:Int->Int->Fl->Fl->Fl->Int->List Fl->Bool) (k2:Int->Int->Fl->Fl->Fl->Int->List Fl->List Fl->List Fl->Bool) :
  j5 N x rr cc p h r z k0 k1 k2=sy x rr cc p h r z (zK x.length p h r) (upJ x.length p h r) (λe=>k0 0 0 (some 0) (some 0) (some 0) e) (λn y s c x' p' g=>k2 n n y s c 0 x' p' g):=by
 have hN:=hF.lt
 (unfold j5; rw[ac]; unfold jE sy)
 rw[qL hF _ _ _ _ _ _ hwp];by_cases h0:mR x rr cc p=0
 ·obtain⟨n,hn,rfl,rfl,hx,hl,fx,fl,-,-⟩:=kB h0;rw[ifz h0,ifz h0,hx];by_cases h1:iH n h r=0
  ·obtain⟨hh,-,-,-⟩:=mM h1;rw[ifz h1,ifz h1];have hz1:js N [z].length:=⟨by simp; omega,by simp⟩
   simp only[kC [z] hz1,s_];have same:∀(c:Bool) (a b:Bool),cond c a a=a:=by intro c a b; cases c <;> rfl
   rw[same _ _ true];cases hz:aY z
   ·rw[if_pos rfl]; rfl
   ·rw[if_neg (by decide),show(!true)=false from rfl,cond_false];unfold iL;by_cases h2:uE n x p h r=0
    ·rw[ifz h2,h2,show((0:Int) != 0)=false from rfl,cond_false];have hf:uF n x p h r=false:=by
      unfold uE at h2;split at h2
      ·cases h2
      ·rename_i q; simpa using q
     rw[hf,ir N (rv _ _),hh,Int.toNat_natCast,List.length_replicate,aa (bY (by omega) (by omega) (by omega) (by omega)),Ak (by omega) hn hx,ci,cb N (AP _ _)]
     (unfold gG; unfold gp)
     rw[E0 (by omega) hn hl hh (bv _ _)]
     (unfold bO; rw[ac]; unfold bN; unfold Rb; rw[ac]; unfold Mh)
     show cond (upT n x p h r z||zK n p h r) _ _=cond (upT n x p h r z||zK n p h r) _ _;cases h4:(upT n x p h r z||zK n p h r)
     ·rw[cond_false,cond_false];have h5:Ba n p (upG n p h r) h r=false:=by rw[Bool.or_eq_false_iff]at h4;exact h4.2
      have hfin:=Gq h5;show cX N n n (CU n p (upG n p h r) h r) _=_;have hpos:=λk=>oU hF hn (l:=CU n p (upG n p h r) h r) (du n _) hfin (QX (K6 λa b=>lV _ _)) (Bs _) k
      rw[hpos];show _=cond (!tG n (CU n p (upG n p h r) h r)) _ _;cases tG n (CU n p (upG n p h r) h r)
      ·rfl
      ·rfl
     ·rfl
    ·rw[lj h2,fv _ _ h2,cond_true]
  ·rw[lj h1,lj h1];have e:((iH n h r==0)==false)=true:=by simp[h1]
   rw[e,cond_true];unfold iK;rw[fv _ _ h1,cond_true]
 ·rw[lj h0,lj h0];have e:((mR x rr cc p==0)==false)=true:=by simp[h0]
  rw[e,cond_true];unfold iK;rw[fv _ _ h0,cond_true]
theorem EZ {N n:Nat} (hN:1000<=N) (hn:n<=12) {v:Nat->Fl} {s y:Fl} {x:List Fl} (hx:x.length=n) (o:Bool) (b1 b2:Int) (b3:List Fl) (t1 t2:Int) (t3 t4 t5:Fl) (a1:List Fl) (a2 a3:Int) (a4 a5:List Fl) (a6 a7:Fl) (e0:Bool->List Fl->List Fl->Bool) :
  ak N (fw N y n x b1 b2 b3 t1 t2 t3 t4 t5 a1 a2 a3 a4 a5 a6 a7 s (vf n v) e0) (0,o,List.replicate n (some 0),[])=e0 (o||orB (gO v s y x) n) (vf n (gX v s y x)) (vf n (gK v s)):=
 Ak hN hn hx o b1 b2 b3 t1 t2 t3 t4 t5 a1 a2 a3 a4 a5 a6 a7 e0
theorem Df {N:Nat} (hF:Fuel N) (x:List Fl) (rr cc:Int) (p h:List Fl) (r z:Fl) (hwp:AllW p) (k0:Int->Int->Fl->Fl->Fl->Int->Bool) (k1:Int->Int->Fl->Fl->Fl->Int->List Fl->Bool) (k2:Int->Int->Fl->Fl->Fl->Int->List Fl->List Fl->List Fl->Bool) :
  iO N x rr cc p h r z k0 k1 k2=sy x rr cc p h r z (vN x.length p h r) (upS x.length p h r) (λe=>k0 0 0 (some 0) (some 0) (some 0) e) (λn y s c x' p' g=>k2 n n y s c 0 x' p' g):=by
 have hN:=hF.lt
 (unfold iO; rw[ac]; unfold iI sy)
 rw[qL hF _ _ _ _ _ _ hwp];by_cases h0:mR x rr cc p=0
 ·obtain⟨n,hn,rfl,rfl,hx,hl,fx,fl,-,-⟩:=kB h0;rw[ifz h0,ifz h0,hx];by_cases h1:iH n h r=0
  ·obtain⟨hh,-,-,-⟩:=mM h1;rw[ifz h1,ifz h1];have hz1:js N [z].length:=⟨by simp; omega,by simp⟩
   simp only[kC [z] hz1,s_];have same:∀(c:Bool) (a b:Bool),cond c a a=a:=by intro c a b; cases c <;> rfl
   rw[same _ _ true];cases hz:aY z
   ·rw[if_pos rfl]; rfl
   ·rw[if_neg (by decide),show(!true)=false from rfl,cond_false];unfold gk;by_cases h2:uE n x p h r=0
    ·rw[ifz h2,h2,show((0:Int) != 0)=false from rfl,cond_false];have hf:uF n x p h r=false:=by
      unfold uE at h2;split at h2
      ·cases h2
      ·rename_i q; simpa using q
     rw[hf,ir N (rv _ _),hh,Int.toNat_natCast,List.length_replicate,aa (bY (by omega) (by omega) (by omega) (by omega)),EZ (by omega) hn hx,ci,cb N (AP _ _)]
     (unfold ii; unfold gR)
     rw[Fa (by omega) hn hl hh (bv _ _) (bv _ _)]
     (unfold bO; rw[ac]; unfold bN; unfold Rb; rw[ac]; unfold Mh)
     show cond (upT n x p h r z||vN n p h r) _ _=cond (upT n x p h r z||vN n p h r) _ _;cases h4:(upT n x p h r z||vN n p h r)
     ·rw[cond_false,cond_false];have h5:DM n p (upG n p h r) (vf n (uV n p h))=false:=by rw[Bool.or_eq_false_iff]at h4;exact h4.2
      have hfin:=GZ h5;show cX N n n (FJ n p (upG n p h r) (vf n (uV n p h))) _=_;have hpos:=λk=>oU hF hn (l:=FJ n p (upG n p h r) (vf n (uV n p h))) (du n _) hfin (QX (K6 λa b=>rv _ _)) (Bs _) k
      rw[hpos];show _=cond (!tG n (FJ n p (upG n p h r) (vf n (uV n p h)))) _ _;cases tG n (FJ n p (upG n p h r) (vf n (uV n p h)))
      ·rfl
      ·rfl
     ·rfl
    ·rw[lj h2,fv _ _ h2,cond_true]
  ·rw[lj h1,lj h1];have e:((iH n h r==0)==false)=true:=by simp[h1]
   rw[e,cond_true];unfold gj;rw[fv _ _ h1,cond_true]
 ·rw[lj h0,lj h0];have e:((mR x rr cc p==0)==false)=true:=by simp[h0]
  rw[e,cond_true];unfold gj;rw[fv _ _ h0,cond_true]
theorem Mq {r:Fl} (h:aY r=true):fgt r (some 0) = !fle r (some 0):=by
 obtain⟨b,s,m,i,rfl,hb⟩:=ms h;rw[NW];show _ = !((Ieee.double.read b).order (Ieee.double.read 0)==some .lt||(Ieee.double.read b).order (Ieee.double.read 0)==some .eq);rw[hb,Ir];obtain⟨o,ho⟩:∃ o,(Datum.number s m i).order (.number false 0 (-1074))=some o:=⟨_,rfl⟩
 rw[ho];cases o <;> rfl
theorem Am {N:Nat} (hN:1000<=N) {n:Nat} (hn:n<=12) (h:List Fl) (r:Fl) (k:Int->Bool):sk N n h r k=k (iH n h r):=by
 (unfold sk; rw[ac]; unfold uU iH)
 by_cases h0:h.length=n
 ·have e:(((h.length:Nat):Int) != (n:Int))=false:=by simp[h0]
  rw[e,cond_false,if_neg (λq=>q h0),nB h ⟨by omega,by omega⟩];cases bC h
  ·rfl
  ·rw[show((!true)==false)=true from rfl,cond_true,jP,if_neg (by decide)];cases fr:aY r
   ·rfl
   ·rw[Mq fr];cases fle r (some 0) <;> rfl
 ·have e:(((h.length:Nat):Int) != (n:Int))=true:=by simp; omega
  rw[e,cond_true,if_pos h0]
theorem ut {N n:Nat} (hN:1000<=N) (hn:n<=12) {x p h:List Fl} (hx:x.length=n) (hl:p.length=n*n) (hh:h.length=n) (r:Fl) (k:Fl->Fl->Bool->List Fl->Bool) :
  GN N x n n p h r false k=k (uW n x h) (uS n p h r) (uF n x p h r) (vf n (uV n p h)):=by
 (unfold GN; rw[ac]; unfold I8)
 have z0:((0,false,[]):Int × Bool × List Fl)=(λt:Nat=>((t:Int),orB (uVo n p h) t,(vf n (uV n p h)).take t)) 0:=rfl;rw[z0,hx];refine aD (λt:Nat=>((t:Int),orB (uVo n p h) t,(vf n (uV n p h)).take t)) n (by omega) ?_ ?_
 ·intro t ht K;unfold BW;dsimp only;rw[decide_eq_true (by omega:(t:Int)<(n:Int)),cond_true,Da (by omega) ht hl,
   Al (n:=n) (f:=λi=>elt p n t i) (g:=lst h) (by omega) (by omega) (yL hl ht) (by omega) (by omega) (λi hi=>vz hl ht hi) (λi hi=>rfl)]
  have e:dV (λi=>elt p n t i) (lst h) n=uV n p h t:=rfl;rw[e,so n (uV n p h) ht,aa (decide_eq_true (by rw[List.length_take,bv]; omega)),aa (ab (by omega) (by omega))];rfl
 ·intro K;unfold BW;dsimp only;rw[decide_eq_false (by omega:¬(n:Int)<(n:Int)),cond_false,List.take_of_length_le (by rw[bv]; omega),
   Al (n:=n) (f:=lst h) (g:=lst x) (by omega) (by omega) hh (by omega) (by omega) (λi hi=>rfl) (λi hi=>rfl),
   yq (n:=n) (f:=lst h) (g:=uV n p h) (by omega) (by omega) hh (by rw[bv]; omega) (by rw[bv]; omega) (λi hi=>rfl) (λi hi=>ki n _ hi none),jy]
  rfl
def foK (x:List Fl) (rr cc:Int) (p h:List Fl) (r:Fl) (k:Fl->Fl->Int->Bool):Bool:=
 if mR x rr cc p ≠ 0 then k (some 0) (some 0) (mR x rr cc p)else if iH x.length h r ≠ 0 then k (some 0) (some 0) (iH x.length h r)else
 if uE x.length x p h r ≠ 0 then k (some 0) (some 0) (uE x.length x p h r)else k (uW x.length x h) (uS x.length p h r) 0
theorem Bd {N:Nat} (hF:Fuel N) (x:List Fl) (rr cc:Int) (p h:List Fl) (r:Fl) (hwp:AllW p) (k:Fl->Fl->Int->Bool):iw N x rr cc p h r k=foK x rr cc p h r k:=by
 (unfold iw; rw[ac]; unfold ko foK)
 rw[qL hF _ _ _ _ _ _ hwp];by_cases h0:mR x rr cc p=0
 ·rw[ifz h0,ifz h0];by_cases h1:iH x.length h r=0
  ·rw[ifz h1,ifz h1];by_cases h2:uE x.length x p h r=0
   ·rw[ifz h2,h2]; rfl
   ·rw[lj h2,fv _ _ h2]; rfl
  ·rw[lj h1,lj h1,fv _ _ h1]; rfl
 ·rw[lj h0,lj h0,fv _ _ h0]; rfl
theorem Bf {N:Nat} (hF:Fuel N) (x:List Fl) (rr cc:Int) (p h:List Fl) (r:Fl) (hwp:AllW p) (k:Fl->Fl->Int->Bool):GS N x rr cc p h r k=foK x rr cc p h r k:=by
 have hN:=hF.lt
 (unfold GS; rw[ac]; unfold Ju foK)
 rw[wk hF _ _ _ _ hwp];by_cases h0:mR x rr cc p=0
 ·obtain⟨n,hn,rfl,rfl,hx,hl,fx,fl,-,-⟩:=kB h0;rw[ifz h0,h0,show((0:Int) != 0)=false from rfl,cond_false,hx,Am (by omega) hn];by_cases h1:iH n h r=0
  ·obtain⟨hh,-,-,-⟩:=mM h1;rw[ifz h1,h1,show((0:Int) != 0)=false from rfl,cond_false,ut (by omega) hn hx hl hh];unfold uE;cases uF n x p h r
   ·cases fgt (uS n p h r) (some 0) <;> rfl
   ·rfl
  ·rw[lj h1,fv _ _ h1,cond_true]
 ·rw[lj h0,fv _ _ h0,cond_true]
theorem Gy (n:Nat) (v:Nat->Nat->Fl) (i:Nat):mf n (rS (low v) i (i+1))=mf n (rS (low v) (i+1) 0):=jQ n (λa b _ hb=>by
 unfold rS;by_cases h2:a<i\/(a=i/\b<i+1)
 ·rw[if_pos h2,if_pos (by omega)]
 ·rw[if_neg h2];by_cases h3:a<i+1\/(a=i+1/\b<0)
  ·rw[if_pos h3]; unfold low; rw[if_neg (by omega)]
  ·rw[if_neg h3])
theorem H7 {N n:Nat} (hN:1000<=N) (hn:n<=100) {s s':Nat} {a b:List Fl} {f g:Nat->Fl} (ha:s+n<=a.length) (hb:s'+n<=b.length) (hf:∀ i,i<n->a.getD (s+i) none=f i) (hg:∀ i,i<n->b.getD (s'+i) none=g i) (o:Bool) (k:Fl->Bool->Bool) :
  Lr N s n s' n o a b k=k (dV f g n) (o||dO f g n):=by
 (unfold Lr; rw[ac]; unfold Jo)
 have h0:((some 0,0,o):Fl × Int × Bool)=(λt:Nat=>(dV f g t,(t:Int),o||dO f g t)) 0:=by show _=(some 0,((0:Nat):Int),o||false); rw[lK]; rfl
 rw[h0];refine aD (λt:Nat=>(dV f g t,(t:Int),o||dO f g t)) n (by omega) ?_ ?_
 ·intro t ht K;unfold fI;dsimp only;rw[decide_eq_true (by omega:(t:Int)<(n:Int)),cond_true,aa (af (by omega) (by omega)),Int.toNat_natCast,aa (decide_eq_true (by omega)),aa (af (by omega) (by omega)),aa (decide_eq_true (by omega)),hf t ht,hg t ht,jy,jy,aa (ab (by omega) (by omega)),oH];rfl
 ·intro K;unfold fI;dsimp only;rw[decide_eq_false (by omega:¬(n:Int)<(n:Int)),cond_false]
theorem ME (o a b c d:Bool):((((o||b)||c)||a)||d)=(o||(((a||b)||c)||d)):=by cases o <;> cases a <;> cases b <;> cases c <;> rfl
theorem Dd {N n:Nat} (hN:1000<=N) (hn:n<=12) {p h kk:List Fl} (hp:p.length=n*n) (hh:h.length=n) (hk:kk.length=n) (r:Fl) (o:Bool) (k:Int->Int->Bool->List Fl->Bool) :
  Lq N n n p h r kk o k=k n n (o||Ba n p kk h r) (mf n (low (jV n (mf n (prV n (mf n (asV kk h)) p)) (mf n (asV kk h)) kk r))):=by
 (unfold Lq; rw[ac]; unfold Jm)
 rw[hh,nY hn,xg n (asV kk h)];have h0:((0,o,mf n (rS (asV kk h) 0 0)):Int × Bool × List Fl)=(λi:Nat=>((i:Int),o||orB (λi=>orB (λj=>asO kk h i j) n) i,mf n (rS (asV kk h) i 0))) 0:=by show _=(((0:Nat):Int),o||false,_); rw[lK]; rfl
 rw[h0];refine aD (λi:Nat=>((i:Int),o||orB (λi=>orB (λj=>asO kk h i j) n) i,mf n (rS (asV kk h) i 0))) n (by omega) ?_ ?_
 ·intro i hi K;unfold fD;dsimp only;rw[decide_eq_true (by omega:(i:Int)<(n:Int)),cond_true];generalize ho1:(o||orB (λi=>orB (λj=>asO kk h i j) n) i)=o1;have h1:((0,o1,mf n (rS (asV kk h) i 0)):Int × Bool × List Fl)=(λj:Nat=>((j:Int),o1||orB (λj=>asO kk h i j) j,mf n (rS (asV kk h) i j))) 0:=by show _=(((0:Nat):Int),o1||false,_); rw[lK]; rfl
  rw[h1];refine(aD (λj:Nat=>((j:Int),o1||orB (λj=>asO kk h i j) j,mf n (rS (asV kk h) i j))) n (N:=N) (by omega) (out:=K ((((i+1:Nat)):Int),o||orB (λi=>orB (λj=>asO kk h i j) n) (i+1),mf n (rS (asV kk h) (i+1) 0))) ?_ ?_:_)
  ·intro j hj K';unfold fE;dsimp only;have key:∀ z:Fl,Fw i j=z->(inR (i:Int) (List.length kk)&&(inR (j:Int) (List.length h)&&jD N (bc (kk.getD (Int.toNat (i:Int)) none) (h.getD (Int.toNat (j:Int)) none)) (o1||orB (λj=>asO kk h i j) j) (λcr=>jD N (co z (bc (kk.getD (Int.toNat (i:Int)) none) (h.getD (Int.toNat (j:Int)) none))) cr (λUu=>sL N n n i j (co z (bc (kk.getD (Int.toNat (i:Int)) none) (h.getD (Int.toNat (j:Int)) none))) (mf n (rS (asV kk h) i j)) (λUB=>(ah .i64 ((j:Int)+1)&&K' ((j:Int)+1,Uu,UB)))))))=K' (((j+1:Nat):Int),o1||orB (λj=>asO kk h i j) (j+1),mf n (rS (asV kk h) i (j+1))):=by
    intro z hz;rw[aa (af (by omega) (by omega)),Int.toNat_natCast,aa (af (by omega) (by omega)),Int.toNat_natCast,jy,jy];have e:co z (bc (kk.getD i none) (h.getD j none))=asV kk h i j:=by rw[<- hz]; rfl
    have e2:(((o1||orB (λj=>asO kk h i j) j) || !aY (bc (kk.getD i none) (h.getD j none))) || !aY (asV kk h i j))=(o1||orB (λj=>asO kk h i j) (j+1)):=by rw[<- dQ o1 (λj=>asO kk h i j) j];unfold asO;simp only[Bool.or_assoc]
    rw[e,e2,rU hn hi hj,aa (ab (by omega) (by omega)),xf];rfl
   rw[decide_eq_true (by omega:(j:Int)<(n:Int)),cond_true];by_cases hij2:i=j
   ·have e:((i:Int)==(j:Int))=true:=by rw[hij2]; exact beq_self_eq_true _
    rw[e,cond_true];exact key _ (by unfold Fw; rw[if_pos hij2])
   ·have e:((i:Int)==(j:Int))=false:=by rw[beq_eq_false_iff_ne]; omega
    rw[e,cond_false];exact key _ (by unfold Fw; rw[if_neg hij2])
  ·intro K';unfold fE;dsimp only;rw[decide_eq_false (by omega:¬(n:Int)<(n:Int)),cond_false,aa (ab (by omega) (by omega)),<- ho1,Le,dQ o (λi=>orB (λj=>asO kk h i j) n) i];rfl
 ·intro K;unfold fD;dsimp only;rw[decide_eq_false (by omega:¬(n:Int)<(n:Int)),cond_false,BC,E6 hN hn (du _ _) hp,nY hn];unfold Ba;rw[show orB (λi=>orB (λj=>asO kk h i j) n) n=orM n (asO kk h) from rfl,<- Bool.or_assoc o,<- Bool.or_assoc o];generalize ((o||orM n (asO kk h))||orM n (prO n (mf n (asV kk h)) p))=o2;have lA:(mf n (asV kk h)).length=n*n:=du _ _;have lB:(mf n (prV n (mf n (asV kk h)) p)).length=n*n:=du _ _;generalize mf n (prV n (mf n (asV kk h)) p)=B at lB ⊢;generalize mf n (asV kk h)=A at lA ⊢;generalize hv:jV n B A kk r=v;generalize hw:jO n B A kk r=w;rw[xg n (low v)];have z1:((0,o2,mf n (rS (low v) 0 0)):Int × Bool × List Fl)=(λi:Nat=>((i:Int),o2||orB (λi=>orB (λj=>w i j) (i+1)) i,mf n (rS (low v) i 0))) 0:=by show _=(((0:Nat):Int),o2||false,_); rw[lK]; rfl
  rw[z1];refine aD (λi:Nat=>((i:Int),o2||orB (λi=>orB (λj=>w i j) (i+1)) i,mf n (rS (low v) i 0))) n (by omega) ?_ ?_
  ·intro i hi K;unfold fF;dsimp only;rw[decide_eq_true (by omega:(i:Int)<(n:Int)),cond_true];generalize ho1:(o2||orB (λi=>orB (λj=>w i j) (i+1)) i)=o1;have z3:((0,o1,mf n (rS (low v) i 0)):Int × Bool × List Fl)=(λj:Nat=>((j:Int),o1||orB (λj=>w i j) j,mf n (rS (low v) i j))) 0:=by show _=(((0:Nat):Int),o1||false,_); rw[lK]; rfl
   rw[z3];refine(aD (λj:Nat=>((j:Int),o1||orB (λj=>w i j) j,mf n (rS (low v) i j))) (i+1) (N:=N) (by omega) (out:=K ((((i+1:Nat)):Int),o2||orB (λi=>orB (λj=>w i j) (i+1)) (i+1),mf n (rS (low v) (i+1) 0))) ?_ ?_:_)
   ·intro j hj K';have hj2:j<n:=by omega
    have g7:i*n+n<=n*n:=by rw[mJ]; exact tI hi
    have g8:j*n+n<=n*n:=by rw[mJ]; exact tI hj2
    unfold fH;dsimp only;rw[decide_eq_true (by omega:(j:Int)<=(i:Int)),cond_true,aa (af (by omega) (by omega)),Int.toNat_natCast,jy,aa (af (by omega) (by omega)),Int.toNat_natCast,jy,An (by omega) hi lB,An (by omega) hj2 lA,
     H7 (n:=n) (s:=i*n) (s':=j*n) (f:=λt=>elt B n i t) (g:=λt=>elt A n j t) (by omega) (by omega) (by omega) (by omega) (λt ht=>rfl) (λt ht=>rfl),jy]
    have e:dR (dV (λt=>elt B n i t) (λt=>elt A n j t) n) (bc (bc (kk.getD i none) r) (kk.getD j none))=v i j:=by rw[<- hv]; rfl
    have e2:(((((o1||orB (λj=>w i j) j) || !aY (bc (kk.getD i none) r)) || !aY (bc (bc (kk.getD i none) r) (kk.getD j none)))||dO (λt=>elt B n i t) (λt=>elt A n j t) n) || !aY (v i j))=(o1||orB (λj=>w i j) (j+1)):=by rw[<- dQ o1 (λj=>w i j) j,ME,<- hw,<- hv]; rfl
    rw[e,e2,rU hn hi hj2,aa (ab (by omega) (by omega))];have e3:low v i j=v i j:=by unfold low; rw[if_pos (by omega)]
    rw[<- e3,xf];rfl
   ·intro K';unfold fH;dsimp only;rw[decide_eq_false (by omega:¬((i+1:Nat):Int)<=(i:Int)),cond_false,aa (ab (by omega) (by omega)),<- ho1,Gy,dQ o2 (λi=>orB (λj=>w i j) (i+1)) i];rfl
  ·intro K;unfold fF;dsimp only;rw[decide_eq_false (by omega:¬(n:Int)<(n:Int)),cond_false,BC];rfl
theorem E7 {N n:Nat} (hN:1000<=N) (hn:n<=12) {v:Nat->Fl} {s y:Fl} {x:List Fl} (hx:x.length=n) (o:Bool) (h:List Fl) (r:Fl) (sh:Bool) (b1 b2:Int) (b3:List Fl) (t1 t2:Int) (t3 t4 t5:Fl) (e0:Bool->List Fl->List Fl->Bool) :
  ak N (yY N h r sh s y n x b1 b2 b3 t1 t2 t3 t4 t5 (vf n v) e0) (0,o,[],[])=e0 (o||orB (gO v s y x) n) (vf n (gK v s)) (vf n (gX v s y x)):=by
 have z0:((0,o,[],[]):Int × Bool × List Fl × List Fl)=(λt:Nat=>((t:Int),o||orB (gO v s y x) t,(vf n (gK v s)).take t,(vf n (gX v s y x)).take t)) 0:=by show _=(((0:Nat):Int),o||false,_,_); rw[lK]; rfl
 rw[z0];refine aD (λt:Nat=>((t:Int),o||orB (gO v s y x) t,(vf n (gK v s)).take t,(vf n (gX v s y x)).take t)) n (by omega) ?_ ?_
 ·intro t ht K;unfold yY;dsimp only;have hk:fdiv (v t) s=gK v s t:=rfl;have hkl:((vf n (gK v s)).take (t+1)).length=t+1:=by rw[List.length_take,bv]; omega
  have hxl:((vf n (gX v s y x)).take (t+1)).length=t+1:=by rw[List.length_take,bv]; omega
  have hkt:((vf n (gK v s)).take (t+1)).getD t none=gK v s t:=by rw[List.getD_eq_getElem?_getD,List.getElem?_take,if_pos (by omega),<- List.getD_eq_getElem?_getD,ki n _ ht]
  have e:dR (x.getD t none) (bc (gK v s t) y)=gX v s y x t:=rfl;have e2:((((o||orB (gO v s y x) t) || !aY (gK v s t)) || !aY (bc (gK v s t) y)) || !aY (gX v s y x t))=(o||orB (gO v s y x) (t+1)):=by rw[<- dQ o (gO v s y x) t];unfold gO;simp only[Bool.or_assoc]
  rw[decide_eq_true (by omega:(t:Int)<(n:Int)),cond_true,bv,aa (af (by omega) (by omega)),Int.toNat_natCast,aa (decide_eq_true ht),ki n v ht,hk,jy,
   so n (gK v s) ht,hkl,aa (decide_eq_true (by omega)),aa (af (by omega) (by omega)),aa (af (by omega) (by omega)),aa (decide_eq_true (by omega)),hkt,jy,jy,e,e2,so n (gX v s y x) ht,hxl,aa (decide_eq_true (by omega)),aa (ab (by omega) (by omega))]
  rfl
 ·intro K;unfold yY;dsimp only;rw[decide_eq_false (by omega:¬(n:Int)<(n:Int)),cond_false,List.take_of_length_le (by rw[bv]; omega),List.take_of_length_le (by rw[bv]; omega)]
theorem E9 {N n:Nat} (hN:1000<=N) (hn:n<=12) {p v kk:List Fl} (hp:p.length=n*n) (hv0:v.length=n) (hk:kk.length=n) (o:Bool) (s y:Fl) (x:List Fl) (t1 t2:Int) (t3 t4 t5:Fl) (x':List Fl) (e0:Bool->List Fl->Bool) :
  ak N (gb N s y n x n n p t1 t2 t3 t4 t5 v kk x' n n e0) (0,o,mf n λ_ _=>some 0)=e0 (o||DM n p kk v) (mf n (low (shV n p kk v))):=by
 unfold DM;generalize hv:shV n p kk v=w1;generalize hw:shO n p kk v=w;rw[xg n (low w1)];have z1:((0,o,mf n (rS (low w1) 0 0)):Int × Bool × List Fl)=(λi:Nat=>((i:Int),o||orB (λi=>orB (λj=>w i j) (i+1)) i,mf n (rS (low w1) i 0))) 0:=by show _=(((0:Nat):Int),o||false,_); rw[lK]; rfl
 rw[z1];refine aD (λi:Nat=>((i:Int),o||orB (λi=>orB (λj=>w i j) (i+1)) i,mf n (rS (low w1) i 0))) n (by omega) ?_ ?_
 ·intro i hi K;unfold gb;dsimp only;rw[decide_eq_true (by omega:(i:Int)<(n:Int)),cond_true];generalize ho1:(o||orB (λi=>orB (λj=>w i j) (i+1)) i)=o1;have z3:((0,o1,mf n (rS (low w1) i 0)):Int × Bool × List Fl)=(λj:Nat=>((j:Int),o1||orB (λj=>w i j) j,mf n (rS (low w1) i j))) 0:=by show _=(((0:Nat):Int),o1||false,_); rw[lK]; rfl
  rw[z3];refine(aD (λj:Nat=>((j:Int),o1||orB (λj=>w i j) j,mf n (rS (low w1) i j))) (i+1) (N:=N) (by omega) (out:=K ((((i+1:Nat)):Int),o||orB (λi=>orB (λj=>w i j) (i+1)) (i+1),mf n (rS (low w1) (i+1) 0))) ?_ ?_:_)
  ·intro j hj K';have hj2:j<n:=by omega
   unfold ji;dsimp only;rw[decide_eq_true (by omega:(j:Int)<=(i:Int)),cond_true,nX hn hi hj2 hp,aa (af (by omega) (by omega)),Int.toNat_natCast,aa (decide_eq_true (by omega)),aa (af (by omega) (by omega)),Int.toNat_natCast,aa (decide_eq_true (by omega)),jy,jy];have e:co (elt p n i j) (bc (kk.getD i none) (v.getD j none))=w1 i j:=by rw[<- hv]; rfl
   have e2:(((o1||orB (λj=>w i j) j) || !aY (bc (kk.getD i none) (v.getD j none))) || !aY (w1 i j))=(o1||orB (λj=>w i j) (j+1)):=by rw[<- dQ o1 (λj=>w i j) j,<- hw,<- hv];unfold shO;simp only[Bool.or_assoc]
   have e3:low w1 i j=w1 i j:=by unfold low; rw[if_pos (by omega)]
   rw[e,e2,rU hn hi hj2,aa (ab (by omega) (by omega)),<- e3,xf];rfl
  ·intro K';unfold ji;dsimp only;rw[decide_eq_false (by omega:¬((i+1:Nat):Int)<=(i:Int)),cond_false,aa (ab (by omega) (by omega)),<- ho1,Gy,dQ o (λi=>orB (λj=>w i j) (i+1)) i];rfl
 ·intro K;unfold gb;dsimp only;rw[decide_eq_false (by omega:¬(n:Int)<(n:Int)),cond_false,BC];rfl
theorem LZ (a b c d e:Bool):((((false||a)||b)||e)||c||d)=((((a||b)||c)||d)||e):=by cases a <;> cases b <;> cases c <;> cases d <;> cases e <;> rfl
theorem wr {N:Nat} (hF:Fuel N) (sh:Bool) (x:List Fl) (rr cc:Int) (p h:List Fl) (r z:Fl) (hwp:AllW p) (k0:Int->Int->Fl->Fl->Fl->Int->Bool) (k1:Int->Int->Fl->Fl->Fl->Int->List Fl->Bool) (k2:Int->Int->Fl->Fl->Fl->Int->List Fl->List Fl->List Fl->Bool) :
  GX N x rr cc p h r z sh k0 k1 k2=sy x rr cc p h r z (if sh=true then vN x.length p h r else zK x.length p h r) (if sh=true then upS x.length p h r else upJ x.length p h r) (λe=>k0 0 0 (some 0) (some 0) (some 0) e) (λn y s c x' p' g=>k2 n n y s c 0 x' p' g):=by
 have hN:=hF.lt
 (unfold GX; rw[ac]; unfold JF sy)
 rw[wk hF _ _ _ _ hwp];by_cases h0:mR x rr cc p=0
 ·obtain⟨n,hn,rfl,rfl,hx,hl,fx,fl,-,-⟩:=kB h0;rw[ifz h0,h0,show((0:Int) != 0)=false from rfl,cond_false,hx,Am (by omega) hn];by_cases h1:iH n h r=0
  ·obtain⟨hh,-,-,-⟩:=mM h1;rw[ifz h1,h1,show((0:Int) != 0)=false from rfl,cond_false,jP];cases hz:aY z
   ·rw[if_pos rfl]; rfl
   ·rw[if_neg (by decide),show(!true)=false from rfl,cond_false,ut (by omega) hn hx hl hh];by_cases h2:uE n x p h r=0
    ·rw[ifz h2];have hf:uF n x p h r=false:=by
      unfold uE at h2;split at h2
      ·cases h2
      ·rename_i q; simpa using q
     have hg:fgt (uS n p h r) (some 0)=true:=by
      unfold uE at h2;rw[hf]at h2;cases q:fgt (uS n p h r) (some 0)
      ·rw[q]at h2; cases h2
      ·rfl
     rw[hf,cond_false,hg,show(!true)=false from rfl,cond_false,jy,E7 (by omega) hn hx];have tail:∀(o:Bool) (v:Nat->Nat->Fl),(∀ i j,FW (v i j))->(o=false -> ∀ i j,i<n->j<=i->aY (v i j)=true) ->
       jD N (bc (co z (uW n x h)) (co z (uW n x h))) (((false || !aY (co z (uW n x h)))||orB (gO (uV n p h) (uS n p h r) (co z (uW n x h)) x) n)||o) (λcr=>jD N (fdiv (bc (co z (uW n x h)) (co z (uW n x h))) (uS n p h r)) cr (λcr2=>IA N n n (vf n (gX (uV n p h) (uS n p h r) (co z (uW n x h)) x)) (mf n (low v)) cr2
        (λa b e=>cond (e != 0) (k0 0 0 (some 0) (some 0) (some 0) e) (k1 a b (co z (uW n x h)) (uS n p h r) (fdiv (bc (co z (uW n x h)) (co z (uW n x h))) (uS n p h r)) 0 (vf n (gK (uV n p h) (uS n p h r)))))
        (λe q=>cond (e != 0) (k0 0 0 (some 0) (some 0) (some 0) e) (k2 n n (co z (uW n x h)) (uS n p h r) (fdiv (bc (co z (uW n x h)) (co z (uW n x h))) (uS n p h r)) 0 (vf n (gX (uV n p h) (uS n p h r) (co z (uW n x h)) x)) q (vf n (gK (uV n p h) (uS n p h r))))))) =
       cond (upT n x p h r z||o) (k0 0 0 (some 0) (some 0) (some 0) 5) (cond (!tG n (mf n (mir v))) (k0 0 0 (some 0) (some 0) (some 0) 151) (k2 n n (upY n x h z) (uS n p h r) (upC n x p h r z) 0 (upX n x p h r z) (mf n (mir v)) (upG n p h r))):=by
      intro o v hw ho;rw[jy,jy,LZ];show IA N n n (upX n x p h r z) (mf n (low v)) (upT n x p h r z||o) _ _=_;rw[H8 hF hn _ _ (λq=>ho (by rw[Bool.or_eq_false_iff]at q; exact q.2)) hw];cases (upT n x p h r z||o)
      ·rw[cond_false,cond_false];cases tG n (mf n (mir v)) <;> rfl
      ·rfl
     cases sh
     ·rw[cond_false,Dd (by omega) hn hl hh (bv _ _)];rw[if_neg (by decide),if_neg (by decide)];refine tail (zK n p h r) _ (λi j=>lV _ _) λq i j hi hj=>?_
      unfold zK Ba at q;rw[Bool.or_eq_false_iff]at q;have h2:=ge (ge q.2 i hi) j (by omega);unfold jO at h2;rw[Bool.or_eq_false_iff]at h2;have h3:=h2.2;rw[Bool.not_eq_false']at h3;exact h3
     ·rw[cond_true,bv,nY hn,E9 (by omega) hn hl (bv _ _) (bv _ _)];rw[if_pos rfl,if_pos rfl];refine tail (vN n p h r) _ (λi j=>rv _ _) λq i j hi hj=>?_
      unfold vN DM at q;have h2:=ge (ge q i hi) j (by omega);unfold shO at h2;rw[Bool.or_eq_false_iff]at h2;have h3:=h2.2;rw[Bool.not_eq_false']at h3;exact h3
    ·rw[lj h2];unfold uE at h2 ⊢;cases q:uF n x p h r
     ·rw[q]at h2;cases q2:fgt (uS n p h r) (some 0)
      ·rfl
      ·rw[q2]at h2; exact absurd rfl h2
     ·rfl
  ·rw[lj h1,fv _ _ h1,cond_true]
 ·rw[lj h0,fv _ _ h0,cond_true]
theorem ET {N:Nat} (hF:Fuel N) (x:List Fl) (rr cc:Int) (p h:List Fl) (r z:Fl) (hwp:AllW p) (k0:Int->Int->Fl->Fl->Fl->Int->Bool) (k1:Int->Int->Fl->Fl->Fl->Int->List Fl->Bool) (k2:Int->Int->Fl->Fl->Fl->Int->List Fl->List Fl->List Fl->Bool) :
  f_ N x rr cc p h r z k0 k1 k2=sy x rr cc p h r z (zK x.length p h r) (upJ x.length p h r) (λe=>k0 0 0 (some 0) (some 0) (some 0) e) (λn y s c x' p' g=>k2 n n y s c 0 x' p' g):=by
 (unfold f_; rw[ac]; unfold lH)
 rw[Fc hF _ _ _ _ _ _ _ hwp]
theorem Af {N:Nat} (hF:Fuel N) (x:List Fl) (rr cc:Int) (p h:List Fl) (r z:Fl) (hwp:AllW p) (k0:Int->Int->Fl->Fl->Fl->Int->Bool) (k1:Int->Int->Fl->Fl->Fl->Int->List Fl->Bool) (k2:Int->Int->Fl->Fl->Fl->Int->List Fl->List Fl->List Fl->Bool) :
  bJ N x rr cc p h r z k0 k1 k2=sy x rr cc p h r z (vN x.length p h r) (upS x.length p h r) (λe=>k0 0 0 (some 0) (some 0) (some 0) e) (λn y s c x' p' g=>k2 n n y s c 0 x' p' g):=by
 (unfold bJ; rw[ac]; unfold mn)
 rw[Df hF _ _ _ _ _ _ _ hwp]
theorem Db {N:Nat} (hF:Fuel N) (x:List Fl) (rr cc:Int) (p h:List Fl) (r z:Fl) (hwp:AllW p) (k0:Int->Int->Fl->Fl->Fl->Int->Bool) (k1:Int->Int->Fl->Fl->Fl->Int->List Fl->Bool) (k2:Int->Int->Fl->Fl->Fl->Int->List Fl->List Fl->List Fl->Bool) :
  wG N x rr cc p h r z k0 k1 k2=sy x rr cc p h r z (zK x.length p h r) (upJ x.length p h r) (λe=>k0 0 0 (some 0) (some 0) (some 0) e) (λn y s c x' p' g=>k2 n n y s c 0 x' p' g):=by
 (unfold wG; rw[ac]; unfold Jc)
 rw[wr hF false _ _ _ _ _ _ _ hwp,if_neg (by decide),if_neg (by decide)]
theorem yr {N:Nat} (hF:Fuel N) (x:List Fl) (rr cc:Int) (p h:List Fl) (r z:Fl) (hwp:AllW p) (k0:Int->Int->Fl->Fl->Fl->Int->Bool) (k1:Int->Int->Fl->Fl->Fl->Int->List Fl->Bool) (k2:Int->Int->Fl->Fl->Fl->Int->List Fl->List Fl->List Fl->Bool) :
  jZ N x rr cc p h r z k0 k1 k2=sy x rr cc p h r z (vN x.length p h r) (upS x.length p h r) (λe=>k0 0 0 (some 0) (some 0) (some 0) e) (λn y s c x' p' g=>k2 n n y s c 0 x' p' g):=by
 (unfold jZ; rw[ac]; unfold OD)
 rw[wr hF true _ _ _ _ _ _ _ hwp,if_pos rfl,if_pos rfl]
theorem zd (x:List Fl) (rr cc:Int) (p h:List Fl) (r z:Fl) (o:Bool) (L:List Fl) (hl:L.length=x.length*x.length) (hL:o=false->bC L=true) :
  (∃ e:Int,∀ k0 k2,sy x rr cc p h r z o L k0 k2=k0 e) \/
  (∃ n:Nat,∃ y s c X G,n<=12/\Nn y/\Nn s/\Nn c/\X.length=n/\G.length=n/\L.length=n*n/\(∀ i,i<X.length->Nn (X.getD i none))/\(∀ i,i<G.length->Nn (G.getD i none))/\(∀ i,i<L.length->Nn (L.getD i none)) /\ ∀ k0 k2,sy x rr cc p h r z o L k0 k2=k2 n y s c X L G):=by
 unfold sy;by_cases h0:mR x rr cc p=0
 ·by_cases h1:iH x.length h r=0
  ·cases hz:aY z
   ·exact .inl ⟨4,λk0 k2=>by rw[ifz h0,ifz h1,if_pos rfl]⟩
   ·by_cases h2:uE x.length x p h r=0
    ·cases h3:(upT x.length x p h r z||o)
     ·cases h4:tG x.length L
      ·exact .inl ⟨151,λk0 k2=>by rw[ifz h0,ifz h1,if_neg (by decide),ifz h2]; rfl⟩
      ·refine .inr ⟨x.length,upY x.length x h z,uS x.length p h r,upC x.length x p h r z,upX x.length x p h r z,upG x.length p h r,?_⟩;obtain⟨n,hn,-,-,hx,-⟩:=kB h0;rw[Bool.or_eq_false_iff]at h3;obtain⟨h5,h6⟩:=h3;unfold upT at h5;simp only[Bool.or_eq_false_iff,Bool.not_eq_false']at h5;obtain⟨⟨⟨q1,q2⟩,q3⟩,q4⟩:=h5;have q5:∀ i,i<x.length->aY (gK (uV x.length p h) (uS x.length p h r) i)=true/\aY (gX (uV x.length p h) (uS x.length p h r) (upY x.length x h z) x i)=true:=λi hi=>by have:=ge q2 i hi;unfold gO at this;simp only[Bool.or_eq_false_iff,Bool.not_eq_false']at this;exact⟨this.1.1,this.2⟩
       have q6:aY (uS x.length p h r)=true:=by
        have hf:uF x.length x p h r=false:=by
         unfold uE at h2;split at h2
         ·cases h2
         ·rename_i q; simpa using q
        unfold uF at hf;rw[Bool.or_eq_false_iff]at hf;simpa using hf.2
       refine⟨by omega,mp q1,mp q6,mp q4,bv _ _,bv _ _,hl,Ma λi hi=>mp (q5 i hi).2,Ma λi hi=>mp (q5 i hi).1,λi hi=>mp (kw (hL h6) hi),λk0 k2=>?_⟩;rw[ifz h0,ifz h1,if_neg (by decide),ifz h2]; rfl
     ·exact .inl ⟨5,λk0 k2=>by rw[ifz h0,ifz h1,if_neg (by decide),ifz h2]; rfl⟩
    ·exact .inl ⟨_,λk0 k2=>by rw[ifz h0,ifz h1,if_neg (by decide),lj h2]⟩
  ·exact .inl ⟨_,λk0 k2=>by rw[ifz h0,lj h1]⟩
 ·exact .inl ⟨_,λk0 k2=>by rw[lj h0]⟩
theorem Hx (x:List Fl) (rr cc:Int) (p h:List Fl) (r:Fl):∃ m v e,Nn m/\Nn v /\ ∀ k,foK x rr cc p h r k=k m v e:=by
 have nn0:Nn (some 0):=mp (Gp CT);unfold foK;by_cases h0:mR x rr cc p=0
 ·by_cases h1:iH x.length h r=0
  ·by_cases h2:uE x.length x p h r=0
   ·have hf:uF x.length x p h r=false:=by
     unfold uE at h2;split at h2
     ·cases h2
     ·rename_i q; simpa using q
    unfold uF at hf;simp only[Bool.or_eq_false_iff,Bool.not_eq_false']at hf;obtain⟨n,hn,-,-,hx,-⟩:=kB h0;exact⟨uW x.length x h,uS x.length p h r,0,mp (QK hf.1.1.2),mp hf.2,λk=>by rw[ifz h0,ifz h1,ifz h2]⟩
   ·exact⟨_,_,_,nn0,nn0,λk=>by rw[ifz h0,ifz h1,lj h2]⟩
  ·exact⟨_,_,_,nn0,nn0,λk=>by rw[ifz h0,lj h1]⟩
 ·exact⟨_,_,_,nn0,nn0,λk=>by rw[lj h0]⟩
theorem rV {N:Nat} {a b c:Fl} {l:List Fl} (ha:Nn a) (hb:Nn b) (hc:Nn c) (hs:js N l.length) (h:∀ i,i<l.length->Nn (l.getD i none)) (k:Bool->Bool):sQ1 N a b c l a b c l k=k true:=by
 (unfold sQ1; rw[ac]; unfold GQ1)
 rw[mg ha,show(true==true)=true from rfl,cond_true,mg hb,show(true==true)=true from rfl,cond_true,mg hc,show(true==true)=true from rfl,cond_true,yl hs h]
theorem un {N:Nat} (hF:Fuel N) (x:List Int) (rr:Int) (p w:List Int) (r z:Int) (hx:js N x.length) (hp:js N p.length) (hw0:js N w.length) (hw:∀ z,z ∈ p->z.toNat<18446744073709551616) :
  sQ4 N x rr p w r z (λb=>b)=true:=by
 have hN:=hF.lt;have hW:=Q0 hw;have nn0:Nn (some 0):=mp (Gp CT);have em:js N ([]:List Fl).length:=⟨by show 0<N; omega,by decide⟩
 have en:∀ i,i<([]:List Fl).length->Nn (([]:List Fl).getD i none):=λi hi=>absurd hi (Nat.not_lt_zero _)
 have sf:∀(r:Int) (k:Fl->Bool),sQ3 N r k=k (fJ r.toNat):=λ_ _=>rfl
 have bb:∀ e:Int,(e==e)=true:=λe=>beq_self_eq_true e
 have nb:∀ e:Int,(e != e)=false:=λe=>by simp
 unfold sQ4 GQ4;rw[HS hx hp,yi w hw0];generalize zA x=X at *;generalize zA w=H at *;generalize zA p=P at hW ⊢;have short:∀(R Z:Fl) (k:Bool->Bool),sy X rr rr P H R Z (vN X.length P H R) (upS X.length P H R)
   (λe=>sy X rr rr P H R Z (vN X.length P H R) (upS X.length P H R) (λe'=>sQ0 N [] 0 0 [] [] 0 0 [] (λc=>cond (c==true) (sQ1 N (some 0) (some 0) (some 0) [] (some 0) (some 0) (some 0) [] (λc2=>cond (c2==true) (cond ((e==e')==true) (k true) (k false)) (k false))) (k false)))
    (λn y s c x' p' g=>sQ0 N [] 0 0 [] x' n n p' (λc1=>cond (c1==true) (sQ1 N (some 0) (some 0) (some 0) [] y s c g (λc2=>cond (c2==true) (cond ((e==0)==true) (k true) (k false)) (k false))) (k false))))
   (λn y s c x' p' g=>sy X rr rr P H R Z (vN X.length P H R) (upS X.length P H R) (λe'=>sQ0 N x' n n p' [] 0 0 [] (λc1=>cond (c1==true) (sQ1 N y s c g (some 0) (some 0) (some 0) [] (λc2=>cond (c2==true) (cond (((0:Int)==e')==true) (k true) (k false)) (k false))) (k false)))
    (λn' y' s' c' x'' p'' g'=>sQ0 N x' n n p' x'' n' n' p'' (λc1=>cond (c1==true) (sQ1 N y s c g y' s' c' g' (λc2=>cond (c2==true) (cond (((0:Int)==0)==true) (k true) (k false)) (k false))) (k false))))=k true:=by
  intro R Z k;rcases zd X rr rr P H R Z (vN X.length P H R) (upS X.length P H R) (du _ _) (λq=>GZ q)with⟨e,he⟩ | ⟨n,y,s,c,X',G,hn,ny,ns,nc,lX,lG,lL,fX,fG,fL,he⟩
  ·simp only[he];rw[yn (by omega),show(true==true)=true from rfl,cond_true,rV nn0 nn0 nn0 em en,bb];rfl
  ·have n2:n*n<=144:=yD hn;simp only[he];rw[vt ⟨by omega,by omega⟩ ⟨by omega,by omega⟩ fX fL,show(true==true)=true from rfl,cond_true,rV ny ns nc ⟨by omega,by omega⟩ fG];rfl
 obtain⟨m,v,e0,nm,nv,hfo⟩:=Hx X rr rr P H (fJ r.toNat);simp only[sf,Bd hF _ _ _ _ _ _ hW,Bf hF _ _ _ _ _ _ hW,hfo];rw[mg nm,show((!true)==false)=true from rfl,cond_true,mg nv,show((!true)==false)=true from rfl,cond_true,nb,cond_false];simp only[ET hF _ _ _ _ _ _ _ hW,Db hF _ _ _ _ _ _ _ hW];rcases zd X rr rr P H (fJ r.toNat) (fJ z.toNat) (zK X.length P H (fJ r.toNat)) (upJ X.length P H (fJ r.toNat)) (du _ _) (λq=>Gq q)with⟨e,he⟩ | ⟨n,y,s,c,X',G,hn,ny,ns,nc,lX,lG,lL,fX,fG,fL,he⟩
 ·simp only[he];rw[yn (by omega),show((!true)==false)=true from rfl,cond_true,rV nn0 nn0 nn0 em en,show((!true)==false)=true from rfl,cond_true,nb,cond_false];unfold Pk;simp only[sf,Af hF _ _ _ _ _ _ _ hW,yr hF _ _ _ _ _ _ _ hW,Ah (N:=N) (by omega)];exact short _ _ (λb=>b)
 ·have n2:n*n<=144:=yD hn;simp only[he];rw[vt ⟨by omega,by omega⟩ ⟨by omega,by omega⟩ fX fL,show((!true)==false)=true from rfl,cond_true,rV ny ns nc ⟨by omega,by omega⟩ fG,show((!true)==false)=true from rfl,cond_true,nb,cond_false];unfold Pl;simp only[sf,Af hF _ _ _ _ _ _ _ hW,yr hF _ _ _ _ _ _ _ hW,Ah (N:=N) (by omega)];exact short _ _ (λb=>b)
end Go.Proofs.YteifemaagdeomaaGreatDoor
end
