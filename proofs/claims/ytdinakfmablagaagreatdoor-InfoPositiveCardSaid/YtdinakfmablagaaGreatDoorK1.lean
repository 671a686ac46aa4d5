/- Laws in plain Lean. Conditions: none. -/
import Derived.Test.YtdinakfmablagaaGreatDoorX0
import Derived.Test.YtdinakfmablagaaGreatDoorC10
set_option linter.unusedVariables false
section
namespace Go.Proofs.YtdinakfmablagaaGreatDoor
open Go Go.Mach Ieee
theorem SM {N:Nat} (hN:1000<=N) (k:Bool->List Int->Bool):nt N 1 k=k false (aj 1):=AY (N:=N) 1 (by decide) (pb hN (by decide)) (by omega) k
theorem Zy (a b:Nat):flt (some a) (some b)=((Ieee.double.read a).order (Ieee.double.read b)==some .lt):=rfl
theorem SH (a b:Nat):feq (some a) (some b)=((Ieee.double.read a).order (Ieee.double.read b)==some .eq):=rfl
theorem Xg (a b:Nat):fgt (some a) (some b)=((Ieee.double.read a).order (Ieee.double.read b)==some .gt):=rfl
theorem VD (a b:Nat):dq (some a) (some b)=((Ieee.double.read a).product (Ieee.double.read b)).map Ieee.double.write:=rfl
theorem NG {b:Nat} (hb:W64 b) {s:Bool} {m:Nat} {i:Int} (h:Ieee.double.read b=.number s m i):∃ c,B5 (some b)=some c/\W64 c/\Ieee.double.read c=.number false m i:=by
 have e:Ieee.double.read (b%9223372036854775808)=.number false m i:=by
  obtain⟨hs,hlt,h⟩:=mC h;unfold Format.read;simp only[cw,kf,eI,kD];have e1:b%9223372036854775808%9223372036854775808=b%9223372036854775808:=by omega
  have e2:(b%9223372036854775808 / 9223372036854775808%2==1)=false:=by rw[beq_eq_false_iff_ne]; omega
  rw[e1,e2];rcases h with⟨h1,rfl,rfl⟩ | ⟨h1,rfl,rfl⟩
  ·rw[if_pos h1]
  ·rw[if_neg (by omega),if_pos hlt]
 have hn:isNaN (b%9223372036854775808)=false:=by unfold isNaN; rw[e]; rfl
 refine⟨b%9223372036854775808,?_,by unfold W64 at *; omega,e⟩;show fp _=_;unfold fp; rw[hn]; rfl
theorem B_ (N:Nat) {x:Fl} (hx:aE x=true) (hw:FW x) (k:Bool->Bool):nD N x 0 k=k false:=by
 obtain⟨b,s,m,i,rfl,h⟩:=mj hx;obtain⟨c,hc,hcw,hcr⟩:=NG (hw b rfl) h;have hp:=ob hcr;have hg:=Bm hcr
 (unfold nD; rw[ac]; unfold tP)
 show k (fgt (B5 (some b)) (some 9218868437227405311))=_;rw[hc];congr 1;have hr:Ieee.double.read 9218868437227405311=.number false 9007199254740991 971:=by decide
 rw[Xg,hcr,hr];simp only[Datum.order];have hmin:min i 971=i:=by omega
 have e0:(i - i).toNat=0:=by omega
 rw[hmin,e0];have s1:signed false m 0=((m:Nat):Int):=rfl;have s2:signed false 9007199254740991 (971 - i).toNat=((9007199254740991 <<< (971 - i).toNat:Nat):Int):=rfl;rw[s1,s2,Nat.shiftLeft_eq];have hpw:0<2 ^ (971 - i).toNat:=Nat.two_pow_pos _;have hle:9007199254740991<=9007199254740991*2 ^ (971 - i).toNat:=Nat.le_mul_of_pos_right _ hpw;generalize 9007199254740991*2 ^ (971 - i).toNat=q at hle;have:compare (m:Int) (q:Int) ≠ .gt:=λe=>by have:=Int.compare_eq_gt.1 e; omega
 cases e:compare (m:Int) (q:Int)with
 | gt=>exact absurd e this
 | eq=>rfl
 | lt=>rfl
theorem MF (d:Datum):W64 (Ieee.double.write d):=by
 cases d with
 | number s m i=>exact Gp s m i
 | infinity s=>
  have:Ieee.double.write (.infinity s)=Ieee.double.word s 9218868437227405312:=by rw[<- eI]; rfl
  rw[this]; exact xt s (by decide)
 | nan s f=>
  have:Ieee.double.write (.nan s f)=Ieee.double.word s (9218868437227405312+f%4503599627370496):=by rw[<- eI,<- kf]; rfl
  rw[this]; exact xt s (by omega)
theorem w5 {o:Option Datum}:FW (o.map Ieee.double.write):=by
 intro b hb;cases o with
 | none=>cases hb
 | some d=>cases hb; exact MF d
theorem Do {f:Nat->Nat->Option Nat} (hf:∀ a b c,f a b=some c->W64 c) (x y:Fl):FW (Fz f x y):=by
 intro c hc;cases x with
 | none=>cases hc
 | some a=>cases y with
  | none=>cases hc
  | some b=>exact hf a b c hc
theorem ox (x y:Fl):FW (kl x y):=Do (λa b c h=>w5 c h) x y
theorem I2 (x y:Fl):FW (wN x y):=Do (λa b c h=>w5 c h) x y
theorem Qq (x y:Fl):FW (dq x y):=Do (λa b c h=>w5 c h) x y
theorem tN (x y:Fl):FW (fdiv x y):=Do (λa b c h=>w5 c h) x y
theorem I3:FW (some 0):=λb h=>by cases h; decide
def NN (x:Fl):Prop:=∃ b,x=some b/\W64 b/\((∃ m i,Ieee.double.read b=.number false m i)\/Ieee.double.read b=.infinity false)
theorem Jb {r:Nat} (h:r<=9218868437227405312):NN (some (Ieee.double.word false r)):=by
 refine⟨_,rfl,xt false (by omega),?_⟩;rcases D_ false h with e | ⟨m,i,e⟩
 ·exact .inr e
 ·exact .inl ⟨m,i,e⟩
theorem qp (m:Nat) (i:Int):NN (some (Ieee.double.write (.number false m i))):=by rw[xv];obtain⟨r,h,hr⟩:=vU false m i;rw[h]; exact Jb hr
theorem nh:NN (some (Ieee.double.write (.infinity false))):=by
 have:Ieee.double.write (.infinity false)=Ieee.double.word false 9218868437227405312:=by rw[<- eI]; rfl
 rw[this]; exact Jb (by decide)
theorem Kw {x:Fl} {b:Nat} (hx:x=some b) (h:(∃ s m i,Ieee.double.read b=.number s m i) \/ ∃ s,Ieee.double.read b=.infinity s):NN (dq x x):=by
 subst hx;rw[VD];rcases h with⟨s,m,i,e⟩ | ⟨s,e⟩
 ·rw[e];have:(Datum.number s m i).product (.number s m i)=some (.number (s ^^ s) (m*m) (i+i)):=rfl;rw[this,Bool.xor_self,Option.map_some]; exact qp _ _
 ·rw[e];have:(Datum.infinity s).product (.infinity s)=some (.infinity (s ^^ s)):=rfl;rw[this,Bool.xor_self,Option.map_some]; exact nh
theorem Qz {x y:Fl} (hx:NN x) (hy:NN y):NN (kl x y):=by
 obtain⟨a,rfl,-,ha⟩:=hx;obtain⟨b,rfl,-,hb⟩:=hy;show NN (((Ieee.double.read a).sum (Ieee.double.read b)).map Ieee.double.write);rcases ha with⟨m,i,ha⟩ | ha <;> rcases hb with⟨n,j,hb⟩ | hb <;> rw[ha,hb]
 ·simp only[Datum.sum,Option.map_some];have h1:signed false m (i - min i j).toNat=((m <<< (i - min i j).toNat:Nat):Int):=rfl;have h2:signed false n (j - min i j).toNat=((n <<< (j - min i j).toNat:Nat):Int):=rfl;rw[h1,h2];generalize m <<< (i - min i j).toNat=p;generalize n <<< (j - min i j).toNat=q;by_cases h0:(p:Int)+q=0
  ·rw[if_pos h0]; exact qp _ _
  ·rw[if_neg h0,decide_eq_false (by omega)]; exact qp _ _
 ·exact nh
 ·exact nh
 ·exact nh
def vl (x:Fl):Int:=match x with
 | some b=>match Ieee.double.read b with
  | .number s m i=>signed s m (i+1074).toNat
  | _=>0
 | none=>0
theorem Qo {b:Nat} {s:Bool} {m:Nat} {i:Int} (h:Ieee.double.read b=.number s m i):vl (some b)=signed s m (i+1074).toNat:=by unfold vl; simp only[h]
def Xt (xs:List Fl):Nat->Fl
 | 0=>some 0
 | n+1=>fmm true (Xt xs n) (B5 (xs.getD n none))
def GE1 (x:Fl):Prop:=∃ b,x=some b/\W64 b/\(Ieee.double.read b=.infinity false \/ ∃ m i,Ieee.double.read b=.number false m i/\4503599627370496<=m/\m<9007199254740992 /\ -52<=i)
def Dv (x:Fl):Prop:=∃ b,x=some b/\(Ieee.double.read b=.infinity false \/ ∃ m i,Ieee.double.read b=.number false m i/\m ≠ 0)
def ZA (a b c:Fl):Int:=cond (!aB [a,b,c]) 4 (cond (feq a (some 0)&&(feq b (some 0)&&feq c (some 0))) 251 0)
def Zv (f g:K4->Bool):Prop:=∃ a b c d n,(a.isSome=true/\b.isSome=true/\c.isSome=true/\d.isSome=true)/\(∀ κ,f κ=κ a b c d n)/\(∀ κ,g κ=κ a b c d n)
set_option maxRecDepth 4000
theorem Xu {a0 a1 a2 a3 a4 a5 a6 a7 a8:Fl} (h:aB [a0,a1,a2,a3,a4,a5,a6,a7,a8]=true):chk 3 3 [a0,a1,a2,a3,a4,a5,a6,a7,a8]=0:=mg.2 ⟨by decide,rfl,h⟩
set_option maxRecDepth 4000
theorem K5 {b:Nat} (hb:W64 b) {s:Bool} (h:Ieee.double.read b=.infinity s):B5 (some b)=some 9218868437227405312:=by
 unfold Format.read at h;simp only[cw,kf,eI]at h;unfold W64 at hb;split at h
 ·cases h
 ·split at h
  ·cases h
  ·split at h
   ·rename_i h1 h2 h3;show fp (b%9223372036854775808)=_;have:b%9223372036854775808=9218868437227405312:=by omega
    rw[this]; decide
   ·cases h
theorem QG {N:Nat} {x:Fl} (hw:FW x) (o:Bool) (k:Bool->Bool):cond ((!feq x x)==false) (nD N x 0 (λcr=>cond cr (k true) (k o))) (k true)=k (o || !aE x):=by
 cases hf:aE x with
 | true=>rw[Ol hf,B_ N hf hw]; cases o <;> rfl
 | false=>
  rw[Bool.not_false,Bool.or_true];cases x with
  | none=>rfl
  | some b=>
   cases hr:Ieee.double.read b with
   | number s m i=>rw[Js hr]at hf; cases hf
   | nan s f=>
    have:feq (some b) (some b)=false:=by rw[SH,hr]; rfl
    rw[this]; rfl
   | infinity s=>
    have h1:feq (some b) (some b)=true:=by rw[SH,hr]; cases s <;> rfl
    rw[h1];show nD N (some b) 0 _=_
    (unfold nD; rw[ac]; unfold tP)
    rw[show((0:Int)==0)=true from rfl,cond_true];simp only[xi];rw[K5 (hw b rfl) hr];have h2:fgt (some 9218868437227405312) (some 9218868437227405311)=true:=by decide
    rw[h2,cond_true]
theorem ky {N:Nat} {x:Fl} (hw:FW x) (o:Bool) (k:Bool->Bool):mR N x o k=k (o || !aE x):=by
 (unfold mR; rw[ac]; unfold Tm)
 exact QG hw o k
theorem oQ (N:Nat) (x y:Fl) (o:Bool) (k:Fl->Bool->Bool):te N x y o k=k (dq x y) (o || !aE (dq x y)):=by
 (unfold te; rw[ac]; unfold MN)
 rw[ky (Qq x y)]
theorem XQ {x y:Fl} (hx:aE x=true) (hy:Dv y):Nn (fdiv x y):=by
 obtain⟨a,s,m,i,rfl,ha⟩:=mj hx;obtain⟨b,rfl,hb⟩:=hy;show Nn (((Ieee.double.read a).quotient (Ieee.double.fractionBits+2) (Ieee.double.read b)).map Ieee.double.write);rw[ha];rcases hb with hb | ⟨n,j,hb,hn⟩
 ·rw[hb]; exact zZ _ _ _
 ·rw[hb]; simp only[Datum.quotient,if_neg hn]; exact zZ _ _ _
theorem uq {N n i j:Nat} (hn:n<=12) (hi:i<n) (hj:j<n) {l:List Fl} (h:l.length=n*n) (k:Fl->Bool):zh N n n l i j k=k (elt l n i j):=by obtain⟨h1,h2⟩:=ct (by omega:n<=1000) hi hj;have h3:=dF hi hj;unfold zh Ss elt;rw[bE,aa h1,aa h2,h,Int.toNat_natCast,aa (ai (by omega) (by omega))]
theorem sI {N n i j:Nat} (hn:n<=12) (hi:i<n) (hj:j<n) {l:List Fl} (h:l.length=n*n) (k:Fl->Bool):oi N n n l i j k=k (elt l n i j):=by obtain⟨h1,h2⟩:=ct (by omega:n<=1000) hi hj;have h3:=dF hi hj;unfold oi EK elt;rw[bE,aa h1,aa h2,h,Int.toNat_natCast,aa (ai (by omega) (by omega))]
def pF (n:Nat) (l:List Fl):Bool:=ou (λi=>ou (λj=>decide (cn (elt l n i j)=cn (elt l n j i))) i) n
theorem JA {N n:Nat} (hN:1000<=N) (hn:n<=12) {l:List Fl} (h:l.length=n*n) (hf:aB l=true) (k:Bool->Bool):R6 N n n l k=k (pF n l):=by
 (unfold R6; rw[ac]; unfold TI)
 rw[fa hN,lG hn h hf,show(((0:Int) != 0)==false)=true from rfl,cond_true];have:((n:Int) != (n:Int))=false:=by simp
 rw[this,cond_false];have hk:k (pF n l)=cond (pF n l) (k true) (k false):=by cases pF n l <;> rfl
 rw[hk];refine lH (λt:Nat=>(t:Int)) (λi=>ou (λj=>decide (cn (elt l n i j)=cn (elt l n j i))) i) n (by omega) ?_ ?_
 ·intro i hi K;unfold Ev;dsimp only;rw[decide_eq_true (by omega:(i:Int)<(n:Int)),cond_true];refine(lH (λt:Nat=>(t:Int)) (λj=>decide (cn (elt l n i j)=cn (elt l n j i))) i (N:=N) (by omega) (ex:=k false) (out:=K (((i+1:Nat):Int))) ?_ ?_:_)
  ·intro j hj K';have hj2:j<n:=by omega
   unfold Ew;dsimp only;rw[decide_eq_true (by omega:(j:Int)<(i:Int)),cond_true,uq hn hi hj2 h,uq hn hj2 hi h];unfold IL;dsimp only;by_cases he:cn (elt l n i j)=cn (elt l n j i)
   ·rw[decide_eq_true he,show(!true)=false from rfl,cond_false,cond_true,aa (ab (by omega) (by omega))];rfl
   ·rw[decide_eq_false he,show(!false)=true from rfl,cond_true,cond_false]
  ·intro K';unfold Ew;dsimp only;rw[decide_eq_false (by omega:¬(i:Int)<(i:Int)),cond_false,aa (ab (by omega) (by omega))];rfl
 ·intro K;unfold Ev;dsimp only;rw[decide_eq_false (by omega:¬(n:Int)<(n:Int)),cond_false]
theorem Lz {N:Nat} (r c:Int) (n:Int) (k:Int->Bool):tv N r c n k=k (if (0<=r/\r<=12)/\(0<=c/\c<=12)then(if n=r*c then 0 else 3)else 1):=by
 (unfold tv; rw[ac]; unfold sb)
 by_cases h1:r<0
 ·rw[decide_eq_true h1,if_neg (by omega)]; rfl
 ·rw[decide_eq_false h1];by_cases h2:r>12
  ·rw[decide_eq_true h2,if_neg (by omega)]; rfl
  ·rw[decide_eq_false h2];by_cases h3:c<0
   ·rw[decide_eq_true h3,if_neg (by omega)]; rfl
   ·rw[decide_eq_false h3];by_cases h4:c>12
    ·rw[decide_eq_true h4,if_neg (by omega)]; rfl
    ·have hr:0<=r/\r<=12:=by omega
     have hc:0<=c/\c<=12:=by omega
     rw[decide_eq_false h4,if_pos ⟨hr,hc⟩,JS hr hc];by_cases h5:n=r*c
     ·have:(n != r*c)=false:=by simp[h5]
      rw[this,if_pos h5]; rfl
     ·have:(n != r*c)=true:=by simp[h5]
      rw[this,if_neg h5]; rfl
theorem sF {N:Nat} (hN:1000<=N) (r c:Int) (l:List Fl) (k:Int->Bool):lP N r c l k=k (chk r c l):=by
 (unfold lP; rw[ac]; unfold vt chk)
 rw[Lz];by_cases h1:(0<=r/\r<=12)/\(0<=c/\c<=12)
 ·rw[if_pos h1,if_pos h1];by_cases h2:(l.length:Int)=r*c
  ·have h3:=JM h1.1 h1.2;have h6:l.length<=144:=by rw[<- h2]at h3; omega
   rw[if_pos h2,if_pos h2,show((0:Int) != 0)=false from rfl,cond_false,uY l ⟨by omega,by omega⟩];cases aB l <;> rfl
  ·rw[if_neg h2,if_neg h2]; rfl
 ·rw[if_neg h1,if_neg h1]; rfl
theorem OT {N n:Nat} (hN:1000<=N) (hn:n<=12) {l:List Fl} (h:l.length=n*n) (hf:aB l=true) (k:Int->Bool):R3 N n n l k=k (if pF n l=true then 0 else 91):=by
 (unfold R3; rw[ac]; unfold TD)
 rw[sF hN,lG hn h hf,show((0:Int) != 0)=false from rfl,cond_false];have:((n:Int) != (n:Int))=false:=by simp
 rw[this,cond_false];have hk:k (if pF n l=true then 0 else 91)=cond (pF n l) (k 0) (k 91):=by cases pF n l <;> rfl
 rw[hk];refine lH (λt:Nat=>(t:Int)) (λi=>ou (λj=>decide (cn (elt l n i j)=cn (elt l n j i))) i) n (by omega) ?_ ?_
 ·intro i hi K;unfold gu;dsimp only;rw[decide_eq_true (by omega:(i:Int)<(n:Int)),cond_true];refine(lH (λt:Nat=>(t:Int)) (λj=>decide (cn (elt l n i j)=cn (elt l n j i))) i (N:=N) (by omega) (ex:=k 91) (out:=K (((i+1:Nat):Int))) ?_ ?_:_)
  ·intro j hj K';have hj2:j<n:=by omega
   unfold gv;dsimp only;rw[decide_eq_true (by omega:(j:Int)<(i:Int)),cond_true,sI hn hi hj2 h,sI hn hj2 hi h,wZ];by_cases he:cn (elt l n i j)=cn (elt l n j i)
   ·rw[decide_eq_true he,show(!true)=false from rfl,cond_false,cond_true,aa (ab (by omega) (by omega))];rfl
   ·rw[decide_eq_false he,show(!false)=true from rfl,cond_true,cond_false]
  ·intro K';unfold gv;dsimp only;rw[decide_eq_false (by omega:¬(i:Int)<(i:Int)),cond_false,aa (ab (by omega) (by omega))];rfl
 ·intro K;unfold gu;dsimp only;rw[decide_eq_false (by omega:¬(n:Int)<(n:Int)),cond_false]
theorem Dx {x:Fl} (h:aE x=true):cn x=x:=by obtain⟨b,rfl,hb⟩:=Vo h;simp only[cn,hb]; rfl
theorem Qd {n:Nat} {l:List Fl} (h:l.length=n*n) (hf:aB l=true) (hs:pF n l=true):EN n l:=by
 have key:∀ i j,j<i->i<n->elt l n i j=elt l n j i:=by
  intro i j hj hi;have h1:=bU.1 (bU.1 hs i hi) j hj;have h2:=of_decide_eq_true h1;have hj2:j<n:=by omega
  have e1:=dF hi hj2;have e2:=dF hj2 hi;rw[Dx (x:=elt l n i j) (io hf (by omega)),Dx (x:=elt l n j i) (io hf (by omega))]at h2;exact h2
 intro a b ha hb;show qV (ofE (elt l n a b))=qV (ofE (elt l n b a));rcases Nat.lt_trichotomy a b with h1 | h1 | h1
 ·rw[key b a h1 hb]
 ·rw[h1]
 ·rw[key a b h1 ha]
def FM (x:List Fl) (r c:Int) (l:List Fl):Int:=
 if chk r c l ≠ 0 then chk r c l else if r ≠ c then 3 else if (x.length:Int) ≠ r then 3 else if aB x=false then 4 else if pF r.toNat l=false then 150 else if xb r.toNat l=false then 151 else 0
theorem CK {x:List Fl} {r c:Int} {l:List Fl} (h:FM x r c l=0):∃ n:Nat,n<=12/\r=n/\c=n/\x.length=n/\l.length=n*n/\aB x=true/\aB l=true/\pF n l=true/\xb n l=true:=by
 unfold FM at h;split at h
 ·exact absurd h (by assumption)
 ·rename_i h0;have h0:chk r c l=0:=by simpa using h0
  have q:=mg.1 h0;split at h
  ·cases h
  ·rename_i h1;split at h
   ·cases h
   ·rename_i h2;split at h
    ·cases h
    ·rename_i h3;split at h
     ·cases h
     ·rename_i h4;split at h
      ·cases h
      ·rename_i h5;obtain⟨n,hn⟩:∃ n:Nat,r=n:=⟨r.toNat,by omega⟩
       have h1:r=c:=by simpa using h1
       subst hn;subst h1;rw[Int.toNat_natCast]at h4 h5;refine⟨n,by omega,rfl,rfl,by omega,by exact_mod_cast q.2.1,by simpa using h3,q.2.2,by simpa using h4,by simpa using h5⟩
theorem VW {l:List Int} (h:∀ z,z ∈ l->z.toNat<18446744073709551616):AllW (uI l):=by intro x hx;unfold uI at hx;obtain⟨z,hz,rfl⟩:=List.mem_map.1 hx;exact NR (h z hz)
def mf (n:Nat) (f:Nat->Nat->Fl):List Fl:=(List.range (n*n)).map (λt=>f (t / n) (t%n))
theorem cW (n:Nat) (f:Nat->Nat->Fl):(mf n f).length=n*n:=by unfold mf; rw[List.length_map,List.length_range]
theorem DW (n:Nat) (f:Nat->Nat->Fl) {i j:Nat} (hi:i<n) (hj:j<n) (z:Fl):(mf n f).getD (i*n+j) z=f i j:=by have h:=iU hi hj;unfold mf;rw[List.getD_eq_getElem?_getD,List.getElem?_map,List.getElem?_range h];simp only[Option.map_some,Option.getD_some,ug hj,uh hj]
theorem mQ (n:Nat) (f:Nat->Nat->Fl) {i j:Nat} (hi:i<n) (hj:j<n):elt (mf n f) n i j=f i j:=DW n f hi hj none
theorem cE (n:Nat) {f f':Nat->Nat->Fl} (h:∀ a b,a<n->b<n->f a b=f' a b):mf n f=mf n f':=by
 unfold mf;apply List.map_congr_left;intro t ht;have ht:=List.mem_range.1 ht;have hn:0<n:=by
  rcases Nat.eq_zero_or_pos n with h0 | h0
  ·rw[h0]at ht; omega
  ·exact h0
 rw[h _ _ (Nat.div_lt_of_lt_mul ht) (Nat.mod_lt _ hn)]
theorem pq (n:Nat) (f:Nat->Nat->Fl) {i j:Nat} (hi:i<n) (hj:j<n) (v:Fl):(mf n f).set (i*n+j) v=mf n (λa b=>if a=i/\b=j then v else f a b):=by
 have h:=iU hi hj;apply List.ext_getElem?;intro t;by_cases ht:t<n*n
 ·have hn:0<n:=by omega
  rw[List.getElem?_set];unfold mf;rw[List.getElem?_map,List.getElem?_map,List.getElem?_range ht];simp only[List.length_map,List.length_range,Option.map_some];by_cases he:i*n+j=t
  ·rw[if_pos he,if_pos h,<- he,ug hj,uh hj,if_pos ⟨rfl,rfl⟩]
  ·rw[if_neg he];have:¬(t / n=i/\t%n=j):=by rintro ⟨h1,h2⟩;apply he;rw[<- h1,<- h2,Nat.mul_comm];exact Nat.div_add_mod t n
   rw[if_neg this]
 ·rw[List.getElem?_eq_none (by rw[List.length_set,cW]; omega),List.getElem?_eq_none (by rw[cW]; omega)]
theorem w6 (n:Nat):List.replicate (n*n) (some 0)=mf n (λ_ _=>some 0):=by
 apply List.ext_getElem?;intro t;unfold mf;rw[List.getElem?_map,List.getElem?_replicate];by_cases ht:t<n*n
 ·rw[if_pos ht,List.getElem?_range ht]; rfl
 ·rw[if_neg ht,List.getElem?_eq_none (by rw[List.length_range]; omega)]; rfl
theorem DX (n:Nat) (f:Nat->Nat->Fl) {i j:Nat} (hi:i<n) (hj:j<n):(mf n f).take (i*n+j)++[f i j]=(mf n f).take (i*n+j+1):=by
 have h:=iU hi hj;have hl:i*n+j<(mf n f).length:=by rw[cW]; exact h
 rw[List.take_succ_eq_append_getElem hl];have:=DW n f hi hj none;rw[List.getD_eq_getElem?_getD,List.getElem?_eq_getElem hl]at this;rw[<- this]; rfl
def vf (n:Nat) (g:Nat->Fl):List Fl:=(List.range n).map g
theorem cN (n:Nat) (g:Nat->Fl):(vf n g).length=n:=by unfold vf; rw[List.length_map,List.length_range]
theorem nv (n:Nat) (g:Nat->Fl) {i:Nat} (hi:i<n) (z:Fl):(vf n g).getD i z=g i:=by unfold vf;rw[List.getD_eq_getElem?_getD,List.getElem?_map,List.getElem?_range hi]; rfl
theorem Ki (n:Nat) (g:Nat->Fl) {i:Nat} (hi:i<n):(vf n g).take i++[g i]=(vf n g).take (i+1):=by
 have hl:i<(vf n g).length:=by rw[cN]; exact hi
 rw[List.take_succ_eq_append_getElem hl];have:=nv n g hi none;rw[List.getD_eq_getElem?_getD,List.getElem?_eq_getElem hl]at this;rw[<- this]; rfl
theorem Kh (n:Nat) (g:Nat->Fl) {i:Nat} (hi:i<n):((vf n g).take i++List.replicate (n - i) (some 0)).set i (g i)=(vf n g).take (i+1)++List.replicate (n - (i+1)) (some 0):=by have:=FB (vf n g) (some 0) (t:=i) (by rw[cN]; exact hi);rw[cN,nv n g hi]at this;exact this
theorem zq (n:Nat) (g:Nat->Fl) {i:Nat} (hi:i<=n):((vf n g).take i++List.replicate (n - i) (some 0)).length=n:=by have:=FA (vf n g) (some 0) (t:=i) (by rw[cN]; exact hi);rw[cN]at this;exact this
def dV (f g:Nat->Fl):Nat->Fl
 | 0=>some 0
 | t+1=>kl (dV f g t) (dq (f t) (g t))
def dO (f g:Nat->Fl):Nat->Bool
 | 0=>false
 | t+1=>(dO f g t || !aE (dq (f t) (g t))) || !aE (dV f g (t+1))
def orB (p:Nat->Bool):Nat->Bool
 | 0=>false
 | t+1=>orB p t||p t
theorem iY {p:Nat->Bool}:∀{n:Nat},orB p n=false -> ∀ i,i<n->p i=false
 | 0,_,i,hi=>by omega
 | n+1,h,i,hi=>by
  unfold orB at h;rw[Bool.or_eq_false_iff]at h;rcases Nat.lt_or_ge i n with h1 | h1
  ·exact iY h.1 i h1
  ·rw[show i=n by omega]; exact h.2
theorem VB {f g:Nat->Fl}:∀{n:Nat},dO f g n=false->aE (dV f g n)=true
 | 0,_=>rfl
 | n+1,h=>by unfold dO at h;rw[Bool.or_eq_false_iff]at h;simpa using h.2
theorem Jm (o:Bool) (f g:Nat->Fl) (t:Nat):((o||dO f g t) || !aE (dq (f t) (g t)) || !aE (kl (dV f g t) (dq (f t) (g t))))=(o||dO f g (t+1)):=by show _=(o||((dO f g t || !aE (dq (f t) (g t))) || !aE (kl (dV f g t) (dq (f t) (g t)))));simp only[Bool.or_assoc]
theorem Bl (o:Bool):(o||false)=o:=by cases o <;> rfl
def IG (l:List Fl) (n i:Nat):List Fl:=List.drop (i*n) (List.take ((i+1)*n) l)
theorem PC {n i:Nat} (hi:i<n):(i+1)*n<=n*n:=Nat.mul_le_mul_right _ hi
theorem GA {l:List Fl} {n i:Nat} (h:l.length=n*n) (hi:i<n):(IG l n i).length=n:=by have:=PC hi;unfold IG;rw[List.length_drop,List.length_take,h,Nat.min_eq_left this,Nat.add_mul]; omega
theorem Md {l:List Fl} {n i j:Nat} (h:l.length=n*n) (hi:i<n) (hj:j<n):(IG l n i).getD j none=elt l n i j:=by
 unfold IG elt;have h1:(i+1)*n=i*n+n:=by rw[Nat.add_mul]; omega
 rw[List.getD_eq_getElem?_getD,List.getElem?_drop,List.getElem?_take,if_pos (by omega),List.getD_eq_getElem?_getD]
theorem Me {n i:Nat} (hn:n<=100) (hi:i<n) {L:Nat} (hL:L=n*n):af .i64 ((i:Int)*(n:Int))=true/\af .i64 ((i:Int)+1)=true/\af .i64 (((i:Int)+1)*(n:Int))=true/\decide (0<=(i:Int)*(n:Int)/\(i:Int)*(n:Int)<=((i:Int)+1)*(n:Int)/\((i:Int)+1)*(n:Int)<=(L:Int))=true/\Int.toNat ((i:Int)*(n:Int))=i*n/\Int.toNat (((i:Int)+1)*(n:Int))=(i+1)*n:=by
 have h1:=PC hi;have h2:n*n<=100*100:=Nat.mul_le_mul hn hn;have e1:(i:Int)*(n:Int)=((i*n:Nat):Int):=by rw[Int.natCast_mul]
 have e2:((i:Int)+1)*(n:Int)=(((i+1)*n:Nat):Int):=by rw[Int.natCast_mul]; rfl
 have h3:(i+1)*n=i*n+n:=by rw[Nat.add_mul]; omega
 rw[e1,e2];exact⟨ab (by omega) (by omega),ab (by omega) (by omega),ab (by omega) (by omega),decide_eq_true ⟨by omega,by omega,by omega⟩,Int.toNat_natCast _,Int.toNat_natCast _⟩
theorem Rl {N n i j:Nat} (hn:n<=12) (hi:i<n) (hj:j<n) (f:Nat->Nat->Fl) (x:Fl) (k:List Fl->Bool):tw N n n i j x (mf n f) k=k (mf n (λa b=>if a=i/\b=j then x else f a b)):=by obtain⟨h1,h2⟩:=ct (by omega:n<=1000) hi hj;have h3:=dF hi hj;unfold tw yy;rw[bE,aa h1,aa h2,cW,Int.toNat_natCast,aa (ai (by omega) (by omega)),aa (decide_eq_true h3),pq n f hi hj]
theorem Lw {N n:Nat} (hn:n<=12) (k:List Fl->Bool):wh N n n k=k (mf n (λ_ _=>some 0)):=by have h2:n*n<=144:=n_ hn;unfold wh zX;rw[<- Int.natCast_mul,aa (ab (by omega) (by omega)),aa (bI (by omega) (by omega) (by omega) (by omega)),Int.toNat_natCast,w6]
def prV (n:Nat) (f p:List Fl):Nat->Nat->Fl:=λi j=>dV (λt=>elt f n i t) (λt=>elt p n t j) n
theorem zQ (o:Bool) (p:Nat->Bool) (t:Nat):((o||orB p t)||p t)=(o||orB p (t+1)):=by show _=(o||(orB p t||p t)); rw[Bool.or_assoc]
theorem BT (n:Nat) (f:Nat->Nat->Fl):(mf n f).take (n*n)=mf n f:=List.take_of_length_le (by rw[cW]; omega)
theorem Br (n i:Nat):i*n+n=(i+1)*n:=by rw[Nat.add_mul]; omega
def mir (v:Nat->Nat->Fl):Nat->Nat->Fl:=λa b=>if b<=a then v a b else v b a
def mS (v:Nat->Nat->Fl) (i j:Nat):Nat->Nat->Fl:=λa b=>if max a b<i\/(max a b=i/\min a b<j)then mir v a b else some 0
theorem DV (n:Nat) (v:Nat->Nat->Fl):mf n (λ_ _=>some 0)=mf n (mS v 0 0):=cE n (λa b _ _=>by unfold mS; rw[if_neg (by omega)])
theorem Is (n:Nat) (v:Nat->Nat->Fl) (i:Nat):mf n (mS v i (i+1))=mf n (mS v (i+1) 0):=cE n (λa b _ hb=>by
 unfold mS;by_cases h2:max a b<i\/(max a b=i/\min a b<i+1)
 ·rw[if_pos h2,if_pos (by omega)]
 ·rw[if_neg h2,if_neg (by omega)])
theorem Ir (n:Nat) (v:Nat->Nat->Fl):mf n (mS v n 0)=mf n (mir v):=cE n (λa b ha hb=>by unfold mS; rw[if_pos (by omega)])
theorem DU (n:Nat) (v:Nat->Nat->Fl) {i j:Nat} (hj:j<i+1):mf n (λa b=>if a=j/\b=i then v i j else if a=i/\b=j then v i j else mS v i j a b)=mf n (mS v i (j+1)):=cE n (λa b _ _=>by
 unfold mS mir;by_cases h:a=j/\b=i
 ·rw[if_pos h,h.1,h.2,if_pos (by omega:max j i<i\/(max j i=i/\min j i<j+1))];by_cases hij:i<=j
  ·rw[if_pos hij,show j=i by omega]
  ·rw[if_neg hij]
 ·rw[if_neg h];by_cases h1:a=i/\b=j
  ·rw[if_pos h1,h1.1,h1.2,if_pos (by omega:max i j<i\/(max i j=i/\min i j<j+1)),if_pos (by omega:j<=i)]
  ·rw[if_neg h1];by_cases h2:max a b<i\/(max a b=i/\min a b<j)
   ·rw[if_pos h2,if_pos (by omega:max a b<i\/(max a b=i/\min a b<j+1))]
   ·rw[if_neg h2,if_neg (by omega:¬(max a b<i\/(max a b=i/\min a b<j+1)))])
def orL (n:Nat) (p:Nat->Nat->Bool):Bool:=orB (λi=>orB (λj=>p i j) (i+1)) n
def sqc (a b:Int) (l:List Fl) (n:Int):Int:=if chk a b l ≠ 0 then chk a b l else if a ≠ b then 3 else if a ≠ n then 3 else 0
theorem bH (a b:Int) (h:¬ a=b):(a != b)=true:=by simp[h]
def low (v:Nat->Nat->Fl):Nat->Nat->Fl:=λa b=>if b<=a then v a b else some 0
theorem VU {n:Nat} {f:Nat->Nat->Fl} {P:Fl->Prop} (h:∀ a b,a<n->b<n->P (f a b)):∀ t,t<n*n->P ((mf n f).getD t none):=by
 intro t ht;have hn:0<n:=by
  rcases Nat.eq_zero_or_pos n with h0 | h0
  ·rw[h0]at ht; omega
  ·exact h0
 have:=DW n f (Nat.div_lt_of_lt_mul ht) (Nat.mod_lt t hn) none;rw[show t / n*n+t%n=t from by rw[Nat.mul_comm]; exact Nat.div_add_mod t n]at this;rw[this];exact h _ _ (Nat.div_lt_of_lt_mul ht) (Nat.mod_lt t hn)
theorem vR {n:Nat} {f:Nat->Nat->Fl} (h:∀ a b,a<n->b<n->aE (f a b)=true):aB (mf n f)=true:=by unfold aB;refine bU.2 (λt ht=>VU (P:=λx=>aE x=true) h t ?_);rw[cW]at ht; exact ht
theorem Rq {n:Nat} {f:Nat->Nat->Fl} (h:∀ a b,FW (f a b)):AllW (mf n f):=by intro x hx;unfold mf at hx;obtain⟨t,-,rfl⟩:=List.mem_map.1 hx;exact h _ _
theorem DY {n:Nat} (v:Nat->Nat->Fl):EN n (mf n (mir v)):=by
 intro a b ha hb;show qV (ofE (elt (mf n (mir v)) n a b))=qV (ofE (elt (mf n (mir v)) n b a));rw[mQ n _ ha hb,mQ n _ hb ha];unfold mir;rcases Nat.lt_trichotomy a b with h | h | h
 ·rw[if_neg (by omega),if_pos (by omega)]
 ·rw[h]
 ·rw[if_pos (by omega),if_neg (by omega)]
theorem JL {v:Nat->Nat->Fl} (h:∀ a b,FW (v a b)) (a b:Nat):FW (mir v a b):=by
 unfold mir; split
 ·exact h _ _
 ·exact h _ _
theorem zO {n:Nat} {v:Nat->Nat->Fl} (h:∀ a b,a<n->b<=a->aE (v a b)=true):∀ a b,a<n->b<n->aE (mir v a b)=true:=by
 intro a b ha hb;unfold mir; split
 ·exact h _ _ ha (by assumption)
 ·exact h _ _ hb (by omega)
theorem ifz {α:Sort _} {a:Int} {A B:α} (h:a=0):(if a ≠ 0 then A else B)=B:=if_neg λq=>q h
theorem fJ {α:Sort _} {a:Int} {A B:α} (h:¬ a=0):(if a ≠ 0 then A else B)=A:=if_pos h
def sV (t:Fl) (f g:Nat->Fl):Nat->Fl
 | 0=>t
 | k+1=>wN (sV t f g k) (dq (f k) (g k))
def sO (t:Fl) (f g:Nat->Fl):Nat->Bool
 | 0=>false
 | k+1=>(sO t f g k || !aE (dq (f k) (g k))) || !aE (sV t f g (k+1))
theorem kQ {t:Fl} {f f' g g':Nat->Fl}:∀{k:Nat},(∀ a,a<k->f a=f' a)->(∀ a,a<k->g a=g' a)->sV t f g k=sV t f' g' k
 | 0,_,_=>rfl
 | k+1,h1,h2=>by show wN (sV t f g k) (dq (f k) (g k))=wN (sV t f' g' k) (dq (f' k) (g' k));rw[kQ (λa ha=>h1 a (by omega)) (λa ha=>h2 a (by omega)),h1 k (by omega),h2 k (by omega)]
theorem Bu {t:Fl} {f f' g g':Nat->Fl}:∀{k:Nat},(∀ a,a<k->f a=f' a)->(∀ a,a<k->g a=g' a)->sO t f g k=sO t f' g' k
 | 0,_,_=>rfl
 | k+1,h1,h2=>by show((sO t f g k || !aE (dq (f k) (g k))) || !aE (sV t f g (k+1)))=((sO t f' g' k || !aE (dq (f' k) (g' k))) || !aE (sV t f' g' (k+1)));rw[Bu (λa ha=>h1 a (by omega)) (λa ha=>h2 a (by omega)),h1 k (by omega),h2 k (by omega),kQ h1 h2]
theorem Ed (o:Bool) (t:Fl) (f g:Nat->Fl) (k:Nat):(((o||sO t f g k) || !aE (dq (f k) (g k))) || !aE (wN (sV t f g k) (dq (f k) (g k))))=(o||sO t f g (k+1)):=by show _=(o||((sO t f g k || !aE (dq (f k) (g k))) || !aE (wN (sV t f g k) (dq (f k) (g k)))));simp only[Bool.or_assoc]
def cT (A:Nat->Nat->Fl):Nat->Nat->Nat->Fl
 | 0=>λ_ _=>some 0
 | j+1=>λi k=>if k=j then(if i<j then some 0 else if i=j then ba (sV (A j j) (cT A j j) (cT A j j) j)else fdiv (sV (A i j) (cT A j i) (cT A j j) j) (ba (sV (A j j) (cT A j j) (cT A j j) j)))else cT A j i k
def cL (A:Nat->Nat->Fl) (i k:Nat):Fl:=cT A (k+1) i k
theorem Ae (A:Nat->Nat->Fl) (i k:Nat):∀ m,k<m->cT A m i k=cL A i k
 | 0,h=>by omega
 | m+1,h=>by
  by_cases e:k=m
  ·rw[e]; rfl
  ·show(if k=m then _ else cT A m i k)=_;rw[if_neg e,Ae A i k m (by omega)]
def cV (A:Nat->Nat->Fl) (i j:Nat):Fl:=sV (A i j) (cL A i) (cL A j) j
def cO (A:Nat->Nat->Fl) (i j:Nat):Bool:=sO (A i j) (cL A i) (cL A j) j
theorem W_ (A:Nat->Nat->Fl) {i j:Nat} (h:i<j):cL A i j=some 0:=by show(if j=j then(if i<j then some 0 else _)else _)=_;rw[if_pos rfl,if_pos h]
theorem NM (A:Nat->Nat->Fl) (j:Nat):cL A j j=ba (cV A j j):=by show(if j=j then(if j<j then some 0 else if j=j then ba (sV (A j j) (cT A j j) (cT A j j) j)else _)else _)=_;rw[if_pos rfl,if_neg (by omega),if_pos rfl];unfold cV;rw[kQ (λa ha=>Ae A j a j ha) (λa ha=>Ae A j a j ha)]
theorem Vy (A:Nat->Nat->Fl) {i j:Nat} (h:j<i):cL A i j=fdiv (cV A i j) (cL A j j):=by rw[NM];show(if j=j then(if i<j then some 0 else if i=j then _ else fdiv (sV (A i j) (cT A j i) (cT A j j) j) (ba (sV (A j j) (cT A j j) (cT A j j) j)))else _)=_;rw[if_pos rfl,if_neg (by omega),if_neg (by omega)];unfold cV;rw[kQ (λa ha=>Ae A j a j ha) (λa ha=>Ae A j a j ha),kQ (t:=A i j) (λa ha=>Ae A i a j ha) (λa ha=>Ae A j a j ha)]
def cQ (A:Nat->Nat->Fl) (i j:Nat):Bool:=cO A i j || !aE (cL A i j)
def cC (A:Nat->Nat->Fl) (j i:Nat):Bool:=orB (λa=>decide (j<a)&&cQ A a j) i
def cR (A:Nat->Nat->Fl) (n:Nat):Nat->Nat->Bool->Int × Int
 | 0,_,o=>if o=true then(0,5)else(0,0)
 | d+1,j,o=>if (o||cO A j j)=true then(0,5)else if fgt (cV A j j) (some 0)=false then(j,90)else cR A n d (j+1) ((o||cO A j j)||cC A j n)
def dT (l:Nat->Nat->Fl) (b:Nat->Fl):Nat->Nat->Fl
 | 0=>λ_=>some 0
 | i+1=>λa=>if a=i then fdiv (sV (b i) (l i) (dT l b i) i) (l i i)else dT l b i a
def dX (l:Nat->Nat->Fl) (b:Nat->Fl) (i:Nat):Fl:=dT l b (i+1) i
theorem SD (l:Nat->Nat->Fl) (b:Nat->Fl) (i:Nat):∀ m,i<m->dT l b m i=dX l b i
 | 0,h=>by omega
 | m+1,h=>by
  by_cases e:i=m
  ·rw[e]; rfl
  ·show(if i=m then _ else dT l b m i)=_;rw[if_neg e,SD l b i m (by omega)]
def dW (l:Nat->Nat->Fl) (b:Nat->Fl) (i:Nat):Fl:=sV (b i) (l i) (dX l b) i
theorem N4 (l:Nat->Nat->Fl) (b:Nat->Fl) (i:Nat):dX l b i=fdiv (dW l b i) (l i i):=by show(if i=i then fdiv (sV (b i) (l i) (dT l b i) i) (l i i)else _)=_;rw[if_pos rfl];unfold dW;rw[kQ (g:=dT l b i) (g':=dX l b) (λa _=>rfl) (λa ha=>SD l b a i ha)]
def dP (l:Nat->Nat->Fl) (b:Nat->Fl) (i:Nat):Bool:=sO (b i) (l i) (dX l b) i || !aE (dX l b i)
def uT (l:Nat->Nat->Fl) (b:Nat->Fl) (n:Nat):Nat->Nat->Fl
 | 0=>λ_=>some 0
 | m+1=>λa=>if a=n - 1 - m then fdiv (sV (b a) (λt=>l (a+1+t) a) (λt=>uT l b n m (a+1+t)) m) (l a a)else uT l b n m a
def uX (l:Nat->Nat->Fl) (b:Nat->Fl) (n:Nat) (i:Nat):Fl:=uT l b n (n - i) i
theorem S8 (l:Nat->Nat->Fl) (b:Nat->Fl) (n:Nat) {i:Nat} (hi:i<n):∀ m,n - i<=m->m<=n->uT l b n m i=uX l b n i
 | 0,h,_=>by omega
 | m+1,h,h2=>by
  by_cases e:n - i=m+1
  ·show _=uT l b n (n - i) i; rw[e]
  ·show(if i=n - 1 - m then _ else uT l b n m i)=_;rw[if_neg (by omega),S8 l b n hi m (by omega) (by omega)]
def uW (l:Nat->Nat->Fl) (b:Nat->Fl) (n:Nat) (i:Nat):Fl:=sV (b i) (λt=>l (i+1+t) i) (λt=>uX l b n (i+1+t)) (n - 1 - i)
theorem Ql (l:Nat->Nat->Fl) (b:Nat->Fl) {n i:Nat} (hi:i<n):uX l b n i=fdiv (uW l b n i) (l i i):=by
 unfold uX;obtain⟨m,hm⟩:∃ m,n - i=m+1:=⟨n - i - 1,by omega⟩
 rw[hm];show(if i=n - 1 - m then fdiv (sV (b i) (λt=>l (i+1+t) i) (λt=>uT l b n m (i+1+t)) m) (l i i)else _)=_;rw[if_pos (by omega)];unfold uW;rw[show n - 1 - i=m by omega,kQ (f':=λt=>l (i+1+t) i) (g':=λt=>uX l b n (i+1+t)) (λa _=>rfl) (λa ha=>S8 l b n (by omega) m (by omega) (by omega))]
def uP (l:Nat->Nat->Fl) (b:Nat->Fl) (n:Nat) (i:Nat):Bool:=sO (b i) (λt=>l (i+1+t) i) (λt=>uX l b n (i+1+t)) (n - 1 - i) || !aE (uX l b n i)
def orD (p:Nat->Bool) (n:Nat):Nat->Bool
 | 0=>false
 | m+1=>orD p n m||p (n - 1 - m)
theorem C8 {p:Nat->Bool} {n:Nat}:∀{m:Nat},m<=n->orD p n m=false -> ∀ i,n - m<=i->i<n->p i=false
 | 0,_,_,i,h1,h2=>by omega
 | m+1,hm,h,i,h1,h2=>by
  unfold orD at h;rw[Bool.or_eq_false_iff]at h;rcases Nat.lt_or_ge i (n - m)with h3 | h3
  ·rw[show i=n - 1 - m by omega]; exact h.2
  ·exact C8 (by omega) h.1 i h3 h2
theorem Pw (o:Bool) (p:Nat->Bool) (n m:Nat):((o||orD p n m)||p (n - 1 - m))=(o||orD p n (m+1)):=by show _=(o||(orD p n m||p (n - 1 - m))); rw[Bool.or_assoc]
theorem QC (x:Fl):aB [x]=aE x:=by
 rw[Bool.eq_iff_iff,aB,bU];constructor
 ·intro h; exact h 0 (by show 0<1; omega)
 ·intro h i hi;obtain rfl:i=0:=by have:i<1:=hi; omega
  exact h
theorem un {N:Nat} (hN:1000<=N) (x:Fl) (o:Bool) (k:Bool->Bool):bV N x o k=k (o || !aE x):=by unfold bV nH;rw[ge [x] ⟨by show 1<N; omega,by show 1<=_; omega⟩,QC];cases aE x <;> cases o <;> rfl
theorem qI {N:Nat} (hN:1000<=N) (a b:Fl) (o:Bool) (k:Fl->Bool->Bool):ca N a b o k=k (dq a b) (o || !aE (dq a b)):=by unfold ca lh;rw[un hN]
theorem xX {N:Nat} (hN:1000<=N) (a b:Fl) (o:Bool) (k:Fl->Bool->Bool):dk N a b o k=k (wN a b) (o || !aE (wN a b)):=by unfold dk mb;rw[un hN]
theorem oR {N n i j:Nat} (hn:n<=12) (hi:i<n) (hj:j<n) {l:List Fl} (h:l.length=n*n) (r:Int) (k:Fl->Bool):gJ N r n l i j k=k (elt l n i j):=by obtain⟨h1,h2⟩:=ct (by omega:n<=1000) hi hj;have h3:=dF hi hj;unfold gJ Cl elt;rw[bE,aa h1,aa h2,h,Int.toNat_natCast,aa (ai (by omega) (by omega))]
theorem CR {N n i j:Nat} (hN:1000<=N) (hn:n<=12) (hi:i<n) (hj:j<n) {a low:List Fl} (ha:a.length=n*n) (hl:low.length=n*n)
  (h1:∀ c,c<j->elt low n i c=cL (elt a n) i c) (h2:∀ c,c<j->elt low n j c=cL (elt a n) j c) (r:Int) (o:Bool) (k:Fl->Bool->Bool) :
  bh N i j n r n a low o k=k (cV (elt a n) i j) (o||cO (elt a n) i j):=by
 unfold bh; rw[ac]; unfold bR oW oy;rw[oR hn hi hj ha];dsimp only;have h0:((elt a n i j,(0:Int),o):Fl × Int × Bool)=(λt:Nat=>(sV (elt a n i j) (cL (elt a n) i) (cL (elt a n) j) t,(t:Int),o||sO (elt a n i j) (cL (elt a n) i) (cL (elt a n) j) t)) 0:=by show _=(elt a n i j,((0:Nat):Int),o||false); rw[Bl]; rfl
 rw[h0];refine aP (λt:Nat=>(sV (elt a n i j) (cL (elt a n) i) (cL (elt a n) j) t,(t:Int),o||sO (elt a n i j) (cL (elt a n) i) (cL (elt a n) j) t)) j (by omega) ?_ ?_
 ·intro t ht K;have ht2:t<n:=by omega
  obtain⟨f1,f2⟩:=ct (by omega:n<=1000) hi ht2;obtain⟨g1,g2⟩:=ct (by omega:n<=1000) hj ht2;have b1:=dF hi ht2;have b2:=dF hj ht2;unfold aZ;dsimp only;rw[decide_eq_true (by omega:(t:Int)<(j:Int)),cond_true,bE,bE,aa f1,aa f2,Int.toNat_natCast,Int.toNat_natCast,hl,aa (ai (by omega) (by omega)),aa (decide_eq_true b1),aa g1,aa g2,aa (ai (by omega) (by omega)),aa (decide_eq_true b2)];unfold jB; rw[ac]; unfold eZ;rw[qI hN,xX hN];dsimp only;rw[aa (ab (by omega) (by omega))];rw[show low.getD (i*n+t) none=elt low n i t from rfl,show low.getD (j*n+t) none=elt low n j t from rfl,h1 t ht,h2 t ht,Ed];rfl
 ·intro K;unfold aZ;dsimp only;rw[decide_eq_false (by omega:¬(j:Int)<(j:Int)),cond_false];rfl
def pL (A:Nat->Nat->Fl) (j i:Nat):Nat->Nat->Fl:=λa b=>if b<a/\(b<j\/(b=j/\a<i))then cL A a b else some 0
theorem RG (n:Nat) (A:Nat->Nat->Fl):mf n (λ_ _=>some 0)=mf n (pL A 0 0):=cE n (λa b _ _=>by unfold pL; rw[if_neg (by omega)])
theorem VY (n:Nat) (A:Nat->Nat->Fl) (j:Nat):mf n (pL A j n)=mf n (pL A (j+1) 0):=cE n (λa b ha _=>by
 unfold pL;by_cases h:b<a/\(b<j\/(b=j/\a<n))
 ·rw[if_pos h,if_pos ⟨h.1,by omega⟩]
 ·rw[if_neg h,if_neg (by omega)])
theorem RF (n:Nat) (A:Nat->Nat->Fl) {j i:Nat} (h:i<=j):mf n (pL A j i)=mf n (pL A j (i+1)):=cE n (λa b ha _=>by
 unfold pL;by_cases h:b<a/\(b<j\/(b=j/\a<i))
 ·rw[if_pos h,if_pos (by omega)]
 ·rw[if_neg h,if_neg (by omega)])
theorem RE (n:Nat) (A:Nat->Nat->Fl) {j i:Nat} (h:j<i):mf n (λa b=>if a=i/\b=j then cL A i j else pL A j i a b)=mf n (pL A j (i+1)):=cE n (λa b _ _=>by
 unfold pL;by_cases h1:a=i/\b=j
 ·rw[if_pos h1,if_pos (by omega),h1.1,h1.2]
 ·rw[if_neg h1];by_cases h2:b<a/\(b<j\/(b=j/\a<i))
  ·rw[if_pos h2,if_pos (by omega)]
  ·rw[if_neg h2,if_neg (by omega)])
theorem Jh (A:Nat->Nat->Fl) (o:Bool) (j i:Nat):((o||cC A j i)||(decide (j<i)&&cQ A i j))=(o||cC A j (i+1)):=zQ o _ i
theorem OY {N n j:Nat} (hN:1000<=N) (hn:n<=12) (hj:j<n) {a:List Fl} (ha:a.length=n*n) (r t1 t2:Int) (hd:List Fl) (o:Bool) (e0:Bool->List Fl->Bool) :
  ah N (bF N j (cL (elt a n) j j) t1 t2 n r n a n hd e0) (0,o,mf n (pL (elt a n) j 0))=e0 (o||cC (elt a n) j n) (mf n (pL (elt a n) j n)):=by
 have h0:((0,o,mf n (pL (elt a n) j 0)):Int × Bool × List Fl)=(λt:Nat=>((t:Int),o||cC (elt a n) j t,mf n (pL (elt a n) j t))) 0:=by show _=(((0:Nat):Int),o||false,_); rw[Bl]; rfl
 rw[h0];refine aP (λt:Nat=>((t:Int),o||cC (elt a n) j t,mf n (pL (elt a n) j t))) n (by omega) ?_ ?_
 ·intro i hi K;unfold bF;dsimp only;rw[decide_eq_true (by omega:(i:Int)<(n:Int)),cond_true];by_cases hij:i<=j
  ·rw[decide_eq_true (by omega:(i:Int)<=(j:Int)),cond_true,aa (ab (by omega) (by omega)),RF n _ hij];have e:(o||cC (elt a n) j (i+1))=(o||cC (elt a n) j i):=by rw[<- Jh,decide_eq_false (by omega:¬ j<i),Bool.false_and,Bl]
   rw[<- e];rfl
  ·obtain⟨f1,f2⟩:=ct (by omega:n<=1000) hi hj;have b1:=dF hi hj;have lo:∀(x:Nat),x<n->j<=x -> ∀ c,c<j->elt (mf n (pL (elt a n) j i)) n x c=cL (elt a n) x c:=λx hx hx2 c hc=>by rw[mQ n _ hx (by omega)]; unfold pL; rw[if_pos (by omega)]
   rw[decide_eq_false (by omega:¬(i:Int)<=(j:Int)),cond_false,bE,aa f1,aa f2,CR hN hn hi hj ha (cW n _) (lo i hi (by omega)) (lo j hj (by omega))]
   (unfold jD; rw[ac]; unfold e_)
   rw[un hN];dsimp only;rw[cW,Int.toNat_natCast,aa (ai (by omega) (by omega)),aa (decide_eq_true b1),aa (ab (by omega) (by omega)),<- Vy _ (by omega:j<i),pq n _ hi hj,RE n _ (by omega)];have e:(((o||cC (elt a n) j i)||cO (elt a n) i j) || !aE (cL (elt a n) i j))=(o||cC (elt a n) j (i+1)):=by rw[<- Jh,decide_eq_true (by omega:j<i),Bool.true_and];unfold cQ;simp only[Bool.or_assoc]
   rw[e];rfl
 ·intro K;unfold bF;dsimp only;rw[decide_eq_false (by omega:¬(n:Int)<(n:Int)),cond_false]
def EZ (A:Nat->Nat->Fl) (t:Nat):Fl:=cL A t t
theorem CT {N n:Nat} (hN:1000<=N) (hn:n<=12) {a:List Fl} (ha:a.length=n*n) (r:Int) (e0:Int->Int->Bool->List Fl->Bool) (e1:Bool->List Fl->List Fl->Bool) (R:Int × Int->Bool)
  (h0:∀(j:Nat) o h,e0 j 5 o h=R (0,5)) (h0':∀(j:Nat) o h,e0 j 90 o h=R (j,90))
  (h1:∀ o,e1 o ((vf n (EZ (elt a n))).take n) (mf n (pL (elt a n) n 0))=R (if o=true then(0,5)else(0,0))) :
  ∀(d j M:Nat) (o:Bool),j+d=n->d<M ->
  ah M (aH N n r n a n e0 e1) ((j:Int),o,(vf n (EZ (elt a n))).take j,mf n (pL (elt a n) j 0))=R (cR (elt a n) n d j o)
 | 0,j,M+1,o,hj,hM=>by
  obtain rfl:j=n:=by omega
  show aH N j r j a j e0 e1 _ _=_;unfold aH;dsimp only;rw[decide_eq_false (by omega:¬(j:Int)<(j:Int)),cond_false];exact h1 o
 | d+1,j,M+1,o,hj,hM=>by
  have hj2:j<n:=by omega
  have ih:=CT hN hn ha r e0 e1 R h0 h0' h1 d (j+1) M;show aH N n r n a n e0 e1 _ (ah M (aH N n r n a n e0 e1))=_;generalize ah M (aH N n r n a n e0 e1)=K at ih ⊢;have lo:∀ c,c<j->elt (mf n (pL (elt a n) j 0)) n j c=cL (elt a n) j c:=λc hc=>by rw[mQ n _ hj2 (by omega)]; unfold pL; rw[if_pos (by omega)]
  unfold aH cR;dsimp only;rw[decide_eq_true (by omega:(j:Int)<(n:Int)),cond_true,CR hN hn hj2 hj2 ha (cW n _) lo lo];unfold jC; rw[ac]; unfold e9;cases h2:(o||cO (elt a n) j j)
  case true=>rw[cond_true,if_pos rfl]; exact h0 j _ _
  rw[cond_false,if_neg (by decide)];cases h3:fgt (cV (elt a n) j j) (some 0)
  case false=>rw[if_pos rfl]; exact h0' j _ _
  rw[Bool.not_true,cond_false,if_neg (by decide)];unfold pZ EI J2;dsimp only;rw[show((0:Int) != 0)=false from rfl,cond_false,<- NM];have e:=Ki n (EZ (elt a n)) hj2;rw[show cL (elt a n) j j=EZ (elt a n) j from rfl,e,aa (decide_eq_true (by rw[List.length_take,cN]; omega)),show EZ (elt a n) j=cL (elt a n) j j from rfl];refine(OY hN hn hj2 ha r n j _ false _).trans ?_;rw[aa (ab (by omega) (by omega)),VY];exact ih _ (by omega) (by omega)
def pD (A:Nat->Nat->Fl) (i:Nat):Nat->Nat->Fl:=λa b=>if b<a then cL A a b else if a=b/\a<i then cL A a b else some 0
theorem RD (n:Nat) (A:Nat->Nat->Fl):mf n (pL A n 0)=mf n (pD A 0):=cE n (λa b ha hb=>by
 unfold pL pD;by_cases h:b<a
 ·rw[if_pos (by omega),if_pos h]
 ·rw[if_neg (by omega),if_neg h,if_neg (by omega)])
theorem RC (n:Nat) (A:Nat->Nat->Fl) (i:Nat):mf n (λa b=>if a=i/\b=i then cL A i i else pD A i a b)=mf n (pD A (i+1)):=cE n (λa b ha hb=>by
 unfold pD;by_cases h:a=i/\b=i
 ·rw[if_pos h,if_neg (by omega),if_pos (by omega),h.1,h.2]
 ·rw[if_neg h];by_cases h2:b<a
  ·rw[if_pos h2,if_pos h2]
  ·rw[if_neg h2,if_neg h2];by_cases h3:a=b/\a<i
   ·rw[if_pos h3,if_pos (by omega)]
   ·rw[if_neg h3,if_neg (by omega)])
theorem VX (n:Nat) (A:Nat->Nat->Fl):mf n (pD A n)=mf n (cL A):=cE n (λa b ha hb=>by
 unfold pD;by_cases h:b<a
 ·rw[if_pos h]
 ·rw[if_neg h];by_cases h2:a=b/\a<n
  ·rw[if_pos h2]
  ·rw[if_neg h2,W_ A (by omega)])
theorem OZ {N n:Nat} (hN:1000<=N) (hn:n<=12) (A:Nat->Nat->Fl) (r c:Int) (a:List Fl) (t2 t3:Int) (e0:List Fl->Bool) (hr:r=n) :
  ah N (fU N n r c a t2 t3 (vf n (EZ A)) e0) (0,mf n (pL A n 0))=e0 (mf n (cL A)):=by
 subst hr;rw[RD];refine aP (λt:Nat=>((t:Int),mf n (pD A t))) n (by omega) ?_ ?_
 ·intro i hi K;obtain⟨f1,f2⟩:=ct (by omega:n<=1000) hi hi;have b1:=dF hi hi;unfold fU;dsimp only;rw[decide_eq_true (by omega:(i:Int)<(n:Int)),cond_true,cN,Int.toNat_natCast,aa (ai (by omega) (by omega)),aa (decide_eq_true hi),bE,aa f1,aa f2,cW,Int.toNat_natCast,aa (ai (by omega) (by omega)),aa (decide_eq_true b1),aa (ab (by omega) (by omega)),nv n _ hi,pq n _ hi hi];rw[show EZ A i=cL A i i from rfl,RC];rfl
 ·intro K;unfold fU;dsimp only;rw[decide_eq_false (by omega:¬(n:Int)<(n:Int)),cond_false,VX]
def evE (r c:Int) (l:List Fl):Int:=if chk r c l ≠ 0 then chk r c l else if r ≠ c then 3 else 0
def sqE (r c:Int) (l:List Fl):Int:=if evE r c l ≠ 0 then evE r c l else if pF r.toNat l=false then 91 else 0
theorem nM {r c:Int} {l:List Fl} (h:evE r c l=0):∃ n:Nat,n<=12/\r=n/\c=n/\l.length=n*n/\aB l=true:=by
 unfold evE at h;split at h
 ·exact absurd h (by assumption)
 ·rename_i h0;have q:=mg.1 (show chk r c l=0 by simpa using h0);split at h
  ·cases h
  ·rename_i h1;have h1:r=c:=by simpa using h1
   subst h1;obtain⟨n,hn⟩:∃ n:Nat,r=n:=⟨r.toNat,by omega⟩
   subst hn;exact⟨n,by omega,rfl,rfl,by exact_mod_cast q.2.1,q.2.2⟩
theorem tB {r c:Int} {l:List Fl} (h:sqE r c l=0):∃ n:Nat,n<=12/\r=n/\c=n/\l.length=n*n/\aB l=true/\pF n l=true:=by
 unfold sqE at h;split at h
 ·exact absurd h (by assumption)
 ·rename_i h0;obtain⟨n,h1,h2,h3,h4,h5⟩:=nM (show evE r c l=0 by simpa using h0);subst h2;split at h
  ·cases h
  ·rename_i h6;exact⟨n,h1,rfl,h3,h4,h5,by simpa using h6⟩
theorem xW {N:Nat} (hN:1000<=N) (r c:Int) (l:List Fl) (k:Int->Bool):mF N r c l k=k (evE r c l):=by
 unfold mF; rw[ac]; unfold rR evE;rw[fa hN];by_cases h0:chk r c l=0
 ·rw[h0,if_neg (λh=>h rfl),show((0:Int) != 0)=false from rfl,cond_false];by_cases h1:r=c
  ·rw[if_neg (λh=>h h1),show(r != c)=false by simp[h1],cond_false]
  ·rw[if_pos h1,bH _ _ h1,cond_true]
 ·rw[if_pos h0,bH _ _ h0,cond_true]
theorem yT {N:Nat} (hN:1000<=N) (r c:Int) (l:List Fl) (k:Int->Bool):l4 N r c l k=k (sqE r c l):=by
 unfold l4; rw[ac]; unfold pj sqE;rw[xW hN];by_cases h0:evE r c l=0
 ·obtain⟨n,h1,h2,h3,h4,h5⟩:=nM h0;subst h2 h3;rw[h0,if_neg (λh=>h rfl),show((0:Int) != 0)=false from rfl,cond_false,JA hN h1 h4 h5,Int.toNat_natCast];cases pF n l <;> rfl
 ·rw[if_pos h0,bH _ _ h0,cond_true]
abbrev KC:=Int->Int->List Fl->Int->Int->Bool
def chK (r c:Int) (a:List Fl) (k:KC):Bool:=
 if sqE r c a ≠ 0 then k 0 0 [] 0 (sqE r c a)
 else if (cR (elt a r.toNat) r.toNat r.toNat 0 false).2 ≠ 0 then k 0 0 [] (cR (elt a r.toNat) r.toNat r.toNat 0 false).1 (cR (elt a r.toNat) r.toNat r.toNat 0 false).2
 else k r r (mf r.toNat (cL (elt a r.toNat))) 0 0
theorem AW {N:Nat} (hN:1000<=N) (r c:Int) (a:List Fl) (k:KC):mE N r c a k=chK r c a k:=by
 unfold mE; rw[ac]; unfold rP chK;rw[yT hN];by_cases h0:sqE r c a=0
 ·obtain⟨n,hn,rfl,rfl,hl,hf,hs⟩:=tB h0;have n2:=n_ hn;rw[h0,if_neg (λh=>h rfl),show((0:Int) != 0)=false from rfl,cond_false,Int.toNat_natCast];unfold mG mc;unfold gG; rw[ac]; unfold dA;rw[<- Int.natCast_mul,aa (ab (by omega) (by omega)),aa (bI (by omega) (by omega) (by omega) (by omega)),Int.toNat_natCast,w6,RG n (elt a n)];refine(CT (N:=N) hN hn hl n _ _ (λq=>if q.2 ≠ 0 then k 0 0 [] q.1 q.2 else k n n (mf n (cL (elt a n))) 0 0) (λj o h=>?_) (λj o h=>?_) (λo=>?_) n 0 N false (by omega) (by omega) :)
  ·rfl
  ·rfl
  ·rw[List.take_of_length_le (by rw[cN]; omega)];cases o
   ·show jt N n n a 0 0 (mf n (pL (elt a n) n 0)) (vf n (EZ (elt a n))) k=_;unfold jt;rw[show((0:Int) != 0)=false from rfl,cond_false,cN,OZ hN hn (elt a n) n n a 0 0 _ rfl];rfl
   ·rfl
 ·rw[if_pos h0,bH _ _ h0,cond_true]
def fl_ (g:Nat->Fl) (t:Nat):Nat->Fl:=λa=>if a<t then g a else some 0
theorem mJ {n:Nat} {g g':Nat->Fl} (h:∀ a,a<n->g a=g' a):vf n g=vf n g':=by unfold vf;apply List.map_congr_left;intro t ht;exact h t (List.mem_range.1 ht)
theorem Kj (n:Nat):List.replicate n (some 0)=vf n (λ_=>some 0):=by
 apply List.ext_getElem?;intro t;unfold vf;rw[List.getElem?_map,List.getElem?_replicate];by_cases ht:t<n
 ·rw[if_pos ht,List.getElem?_range ht]; rfl
 ·rw[if_neg ht,List.getElem?_eq_none (by rw[List.length_range]; omega)]; rfl
theorem I0 (n:Nat) (g:Nat->Fl) {i:Nat} (hi:i<n) (v:Fl):(vf n g).set i v=vf n (λa=>if a=i then v else g a):=by
 apply List.ext_getElem?;intro t;by_cases ht:t<n
 ·rw[List.getElem?_set];unfold vf;rw[List.getElem?_map,List.getElem?_map,List.getElem?_range ht];simp only[List.length_map,List.length_range,Option.map_some];by_cases he:i=t
  ·rw[if_pos he,if_pos hi,if_pos he.symm]
  ·rw[if_neg he,if_neg (λh=>he h.symm)]
 ·rw[List.getElem?_eq_none (by rw[List.length_set,cN]; omega),List.getElem?_eq_none (by rw[cN]; omega)]
theorem Jt (n:Nat) (g:Nat->Fl) (t:Nat):vf n (λa=>if a=t then g t else fl_ g t a)=vf n (fl_ g (t+1)):=mJ λa _=>by
 unfold fl_;by_cases h:a=t
 ·rw[if_pos h,if_pos (by omega),h]
 ·rw[if_neg h];by_cases h2:a<t
  ·rw[if_pos h2,if_pos (by omega)]
  ·rw[if_neg h2,if_neg (by omega)]
theorem Oq (n:Nat) (g:Nat->Fl):vf n (fl_ g n)=vf n g:=mJ λa ha=>by unfold fl_; rw[if_pos ha]
theorem Ju (n:Nat) (g:Nat->Fl):List.replicate n (some 0)=vf n (fl_ g 0):=by rw[Kj]; exact mJ λa _=>by unfold fl_; rw[if_neg (by omega)]
def bt (b:List Fl):Nat->Fl:=λi=>b.getD i none
theorem O1 {N n i:Nat} (hN:1000<=N) (hn:n<=12) (hi:i<n) {l x:List Fl} (hl:l.length=n*n) (g:Nat->Fl) (hx:∀ t,t<i->x.getD t none=g t) (hxl:x.length=n) (b0:Fl) (b:List Fl) (t15 t16 r:Int) (o:Bool) (e0:Fl->Bool->Bool) :
  ah N (cG N b i t15 t16 i r n l x e0) (b0,0,o)=e0 (sV b0 (elt l n i) g i) (o||sO b0 (elt l n i) g i):=by
 have h1:((b0,(0:Int),o):Fl × Int × Bool)=(λt:Nat=>(sV b0 (elt l n i) g t,(t:Int),(o||sO b0 (elt l n i) g t))) 0:=by show _=(b0,((0:Nat):Int),(o||false)); rw[Bl]; rfl
 rw[h1];refine aP (λt:Nat=>(sV b0 (elt l n i) g t,(t:Int),(o||sO b0 (elt l n i) g t))) i (by omega) ?_ ?_
 ·intro t ht K;unfold cG;dsimp only;rw[decide_eq_true (by omega:(t:Int)<(i:Int)),cond_true,oR hn hi (by omega) hl,hxl];rw[aa (ai (by omega) (by omega)),Int.toNat_natCast,aa (decide_eq_true (by omega)),hx t ht,qI hN,xX hN];rw[aa (ab (by omega) (by omega)),Ed];rfl
 ·intro K;unfold cG;dsimp only;rw[decide_eq_false (by omega:¬(i:Int)<(i:Int)),cond_false]
theorem JC {N n:Nat} (hN:1000<=N) (hn:n<=12) {l b:List Fl} (hl:l.length=n*n) (hb:b.length=n) (r:Int) (o:Bool) (k:List Fl->Bool->Bool) :
  cF N r n l b o k=k (vf n (dX (elt l n) (bt b))) (o||orB (dP (elt l n) (bt b)) n):=by
 unfold cF; rw[ac]; unfold il;rw[hb,aa (bI (by omega) (by omega) (by omega) (by omega)),Int.toNat_natCast,Ju n (dX (elt l n) (bt b))];have h0:((0,o,vf n (fl_ (dX (elt l n) (bt b)) 0)):Int × Bool × List Fl)=(λt:Nat=>((t:Int),(o||orB (dP (elt l n) (bt b)) t),vf n (fl_ (dX (elt l n) (bt b)) t))) 0:=by show _=(((0:Nat):Int),(o||false),_); rw[Bl]; rfl
 rw[h0];refine aP (λt:Nat=>((t:Int),(o||orB (dP (elt l n) (bt b)) t),vf n (fl_ (dX (elt l n) (bt b)) t))) n (by omega) ?_ ?_
 ·intro i hi K;unfold dz;dsimp only;rw[decide_eq_true (by omega:(i:Int)<(n:Int)),cond_true,hb,aa (ai (by omega) (by omega)),Int.toNat_natCast];refine(O1 hN hn hi hl (dX (elt l n) (bt b)) (λt ht=>?_) (cN _ _) _ _ _ _ _ _ _).trans ?_
  ·rw[nv _ _ (by omega)]; unfold fl_; rw[if_pos ht]
  rw[oR hn hi hi hl];rw[un hN];rw[cN,aa (ai (by omega) (by omega)),aa (decide_eq_true hi),aa (ab (by omega) (by omega)),I0 _ _ hi];have e:=N4 (elt l n) (bt b) i;unfold dW at e;rw[show b.getD i none=bt b i from rfl,<- e,Jt];have e2:(((o||orB (dP (elt l n) (bt b)) i)||sO (bt b i) (elt l n i) (dX (elt l n) (bt b)) i) || !aE (dX (elt l n) (bt b) i))=(o||orB (dP (elt l n) (bt b)) (i+1)):=by rw[<- zQ o (dP (elt l n) (bt b)) i];unfold dP;simp only[Bool.or_assoc]
  rw[e2];rfl
 ·intro K;unfold dz;dsimp only;rw[decide_eq_false (by omega:¬(n:Int)<(n:Int)),cond_false,Oq]
theorem O2 {N n i:Nat} (hN:1000<=N) (hn:n<=12) (hi:i<n) {l x b:List Fl} (hl:l.length=n*n) (g:Nat->Fl) (hx:∀ t,i<t->t<n->x.getD t none=g t) (hxl:x.length=n) (hb:b.length=n) (b0:Fl) (r:Int) (o:Bool) (e0:Fl->Bool->Bool) :
  ah N (cZ N b i r n l x e0) (b0,(i:Int)+1,o)=e0 (sV b0 (λt=>elt l n (i+1+t) i) (λt=>g (i+1+t)) (n - 1 - i)) (o||sO b0 (λt=>elt l n (i+1+t) i) (λt=>g (i+1+t)) (n - 1 - i)):=by
 have h1:((b0,(i:Int)+1,o):Fl × Int × Bool)=(λt:Nat=>(sV b0 (λt=>elt l n (i+1+t) i) (λt=>g (i+1+t)) t,((i+1+t:Nat):Int),(o||sO b0 (λt=>elt l n (i+1+t) i) (λt=>g (i+1+t)) t))) 0:=by show _=(b0,((i+1:Nat):Int),(o||false)); rw[Bl]; rfl
 rw[h1];refine aP (λt:Nat=>(sV b0 (λt=>elt l n (i+1+t) i) (λt=>g (i+1+t)) t,((i+1+t:Nat):Int),(o||sO b0 (λt=>elt l n (i+1+t) i) (λt=>g (i+1+t)) t))) (n - 1 - i) (by omega) ?_ ?_
 ·intro t ht K;unfold cZ;dsimp only;rw[hb,decide_eq_true (by omega:((i+1+t:Nat):Int)<(n:Int)),cond_true,oR hn (by omega) hi hl,hxl];rw[aa (ai (by omega) (by omega)),Int.toNat_natCast,aa (decide_eq_true (by omega)),hx _ (by omega) (by omega),qI hN,xX hN];rw[aa (ab (by omega) (by omega)),Ed o b0 (λt=>elt l n (i+1+t) i) (λt=>g (i+1+t)) t];rfl
 ·intro K;unfold cZ;dsimp only;rw[hb,decide_eq_false (by omega:¬((i+1+(n - 1 - i):Nat):Int)<(n:Int)),cond_false]
def fu_ (n:Nat) (g:Nat->Fl) (m:Nat):Nat->Fl:=λa=>if n - m<=a then g a else some 0
theorem QT (n:Nat) (g:Nat->Fl):List.replicate n (some 0)=vf n (fu_ n g 0):=by rw[Kj]; exact mJ λa _=>by unfold fu_; rw[if_neg (by omega)]
theorem VI (n:Nat) (g:Nat->Fl):vf n (fu_ n g n)=vf n g:=mJ λa ha=>by unfold fu_; rw[if_pos (by omega)]
theorem QS (n:Nat) (g:Nat->Fl) {m:Nat} (hm:m<n):vf n (λa=>if a=n - 1 - m then g (n - 1 - m)else fu_ n g m a)=vf n (fu_ n g (m+1)):=mJ λa _=>by
 unfold fu_;by_cases h:a=n - 1 - m
 ·rw[if_pos h,if_pos (by omega),h]
 ·rw[if_neg h];by_cases h2:n - m<=a
  ·rw[if_pos h2,if_pos (by omega)]
  ·rw[if_neg h2,if_neg (by omega)]
theorem Rg {N n:Nat} (hN:1000<=N) (hn:n<=12) {l b:List Fl} (hl:l.length=n*n) (hb:b.length=n) (r:Int) (o:Bool) (k:List Fl->Bool->Bool) :
  eh N r n l b o k=k (vf n (uX (elt l n) (bt b) n)) (o||orD (uP (elt l n) (bt b) n) n n):=by
 unfold eh; rw[ac]; unfold jM;rw[hb,aa (bI (by omega) (by omega) (by omega) (by omega)),aa (ab (by omega) (by omega)),Int.toNat_natCast,QT n (uX (elt l n) (bt b) n)];have h0:(((n:Int) - 1,o,vf n (fu_ n (uX (elt l n) (bt b) n) 0)):Int × Bool × List Fl)=(λm:Nat=>((n:Int) - 1 - (m:Int),(o||orD (uP (elt l n) (bt b) n) n m),vf n (fu_ n (uX (elt l n) (bt b) n) m))) 0:=by show _=((n:Int) - 1 - ((0:Nat):Int),(o||false),_); rw[Bl,show(n:Int) - 1 - ((0:Nat):Int)=(n:Int) - 1 by omega]
 rw[h0];refine aP (λm:Nat=>((n:Int) - 1 - (m:Int),(o||orD (uP (elt l n) (bt b) n) n m),vf n (fu_ n (uX (elt l n) (bt b) n) m))) n (by omega) ?_ ?_
 ·intro m hm K;obtain⟨i,hi⟩:∃ i,n - 1 - m=i:=⟨_,rfl⟩
  have hi2:i<n:=by omega
  have ei:(n:Int) - 1 - (m:Int)=(i:Int):=by omega
  unfold eA;dsimp only;rw[ei,decide_eq_true (by omega:(i:Int)>=0),cond_true,hb,aa (ai (by omega) (by omega)),aa (ab (by omega) (by omega)),Int.toNat_natCast];refine(O2 hN hn hi2 hl (uX (elt l n) (bt b) n) (λt ht ht2=>?_) (cN _ _) hb _ _ _ _).trans ?_
  ·rw[nv _ _ ht2]; unfold fu_; rw[if_pos (by omega)]
  rw[oR hn hi2 hi2 hl];rw[un hN];rw[cN,aa (ai (by omega) (by omega)),aa (decide_eq_true hi2),aa (ab (by omega) (by omega)),I0 _ _ hi2];have e:=Ql (elt l n) (bt b) hi2;unfold uW at e;rw[show b.getD i none=bt b i from rfl,<- e];have e3:=QS n (uX (elt l n) (bt b) n) hm;rw[hi]at e3;rw[e3];have e2:(((o||orD (uP (elt l n) (bt b) n) n m)||sO (bt b i) (λt=>elt l n (i+1+t) i) (λt=>uX (elt l n) (bt b) n (i+1+t)) (n - 1 - i)) || !aE (uX (elt l n) (bt b) n i))=(o||orD (uP (elt l n) (bt b) n) n (m+1)):=by rw[<- Pw o (uP (elt l n) (bt b) n) n m,hi];unfold uP;simp only[Bool.or_assoc]
  rw[e2];show K ((i:Int) - 1,_)=K ((n:Int) - 1 - ((m+1:Nat):Int),_);rw[show(i:Int) - 1=(n:Int) - 1 - ((m+1:Nat):Int) by omega]
 ·intro K;unfold eA;dsimp only;rw[decide_eq_false (by omega:¬(n:Int) - 1 - (n:Int)>=0),cond_false,VI]
theorem su {n:Nat} {l l':Nat->Nat->Fl} {b b':Nat->Fl} (hl:∀ i j,i<n->j<=i->l i j=l' i j) (hb:∀ i,i<n->b i=b' i):∀ i,i<n->dX l b i=dX l' b' i:=by
 intro i;induction i using Nat.strongRecOn with
 | _ i ih=>
  intro hi;rw[N4,N4];unfold dW;rw[hb i hi,hl i i hi (Nat.le_refl _),kQ (λa ha=>hl i a hi (by omega)) (λa ha=>ih a ha (by omega))]
theorem Fk {n:Nat} {l l':Nat->Nat->Fl} {b b':Nat->Fl} (hl:∀ i j,i<n->j<=i->l i j=l' i j) (hb:∀ i,i<n->b i=b' i):∀ i,i<n->dP l b i=dP l' b' i:=by intro i hi;unfold dP;rw[su hl hb i hi,hb i hi,Bu (λa ha=>hl i a hi (by omega)) (λa ha=>su hl hb a (by omega))]
theorem xp {n:Nat} {l l':Nat->Nat->Fl} {b b':Nat->Fl} (hl:∀ i j,i<n->j<=i->l i j=l' i j) (hb:∀ i,i<n->b i=b' i):∀ d i,n - i=d->i<n->uX l b n i=uX l' b' n i:=by
 intro d;induction d using Nat.strongRecOn with
 | _ d ih=>
  intro i hd hi;rw[Ql _ _ hi,Ql _ _ hi];unfold uW;rw[hb i hi,hl i i hi (Nat.le_refl _),kQ (f':=λt=>l' (i+1+t) i) (g':=λt=>uX l' b' n (i+1+t)) (λa ha=>hl _ _ (by omega) (by omega)) (λa ha=>ih (n - (i+1+a)) (by omega) _ rfl (by omega))]
theorem G7 {n:Nat} {l l':Nat->Nat->Fl} {b b':Nat->Fl} (hl:∀ i j,i<n->j<=i->l i j=l' i j) (hb:∀ i,i<n->b i=b' i):∀ i,i<n->uP l b n i=uP l' b' n i:=by intro i hi;unfold uP;rw[xp hl hb _ i rfl hi,hb i hi,Bu (f':=λt=>l' (i+1+t) i) (g':=λt=>uX l' b' n (i+1+t)) (λa ha=>hl _ _ (by omega) (by omega)) (λa ha=>xp hl hb _ _ rfl (by omega))]
theorem uy {p q:Nat->Bool}:∀{n:Nat},(∀ i,i<n->p i=q i)->orB p n=orB q n
 | 0,_=>rfl
 | n+1,h=>by show(orB p n||p n)=(orB q n||q n);rw[uy (λi hi=>h i (by omega)),h n (by omega)]
theorem yf {p q:Nat->Bool} {n:Nat} (h:∀ i,i<n->p i=q i):∀{m:Nat},m<=n->orD p n m=orD q n m
 | 0,_=>rfl
 | m+1,hm=>by show(orD p n m||p (n - 1 - m))=(orD q n m||q (n - 1 - m));rw[yf h (by omega),h _ (by omega)]
def np (i j:Nat):Fl:=if i=j then some 4607182418800017408 else some 0
theorem A2 {N n i:Nat} (hN:1000<=N) (hn:n<=12) (hi:i<n) (t17 t18 t6 t7 m1 m2:Int) (e0:List Fl->Bool) :
  ah N (G0 N n i t17 t18 n t6 t7 m1 m2 e0) (0,(mf n np).take (i*n))=e0 ((mf n np).take ((i+1)*n)):=by
 have hn2:=n_ hn;have z0:(((0:Int),(mf n np).take (i*n)):Int × List Fl)=(λt:Nat=>((t:Int),(mf n np).take (i*n+t))) 0:=rfl;rw[z0];refine aP (λt:Nat=>((t:Int),(mf n np).take (i*n+t))) n (by omega) ?_ ?_
 ·intro t ht K;unfold G0;dsimp only;have h1:=dF hi ht;rw[decide_eq_true (by omega:(t:Int)<(n:Int)),cond_true];rw[show ∀ k:Fl->Bool,PT N (i:Int) (t:Int) k=k (np i t) from λk=>by
   unfold PT Sy np;by_cases h:i=t
   ·rw[if_pos h,h,show((t:Int)==(t:Int))=true by simp]; rfl
   ·rw[if_neg h,show((i:Int)==(t:Int))=false by simp; omega]; rfl]
  have e:=DX n np hi ht
  try dsimp only at e
  rw[e,aa (decide_eq_true (by rw[List.length_take,cW]; omega)),aa (ab (by omega) (by omega))];rfl
 ·intro K;unfold G0;dsimp only;rw[decide_eq_false (by omega:¬(n:Int)<(n:Int)),cond_false,Br]
theorem Ib {N n:Nat} (hN:1000<=N) (hn:n<=12) (k:List Fl->Bool):PK N n n k=k (mf n np):=by
 (unfold PK; rw[ac]; unfold M7)
 have hn2:=n_ hn;rw[<- Int.natCast_mul,aa (ab (by omega) (by omega)),aa (bI (by omega) (by omega) (by omega) (by omega))];have z0:(((0:Int),[]):Int × List Fl)=(λt:Nat=>((t:Int),(mf n np).take (t*n))) 0:=by show _=(((0:Nat):Int),(mf n np).take (0*n));rw[Nat.zero_mul]; rfl
 rw[z0];refine aP (λt:Nat=>((t:Int),(mf n np).take (t*n))) n (by omega) ?_ ?_
 ·intro t ht K;unfold gp;dsimp only;rw[decide_eq_true (by omega:(t:Int)<(n:Int)),cond_true,A2 hN hn ht,aa (ab (by omega) (by omega))];rfl
 ·intro K;unfold gp;dsimp only;rw[decide_eq_false (by omega:¬(n:Int)<(n:Int)),cond_false,BT]
theorem xZ {N n i:Nat} (hN:1000<=N) (hn:n<=12) (hi:i<n) (t17 t18 t6 t7 m1 m2:Int) (e0:List Fl->Bool) :
  ah N (BH N n i t17 t18 n t6 t7 m1 m2 e0) (0,(mf n (λ_ _=>some 0)).take (i*n))=e0 ((mf n (λ_ _=>some 0)).take ((i+1)*n)):=by
 have hn2:=n_ hn;have z0:(((0:Int),(mf n (λ_ _=>some 0)).take (i*n)):Int × List Fl)=(λt:Nat=>((t:Int),(mf n (λ_ _=>some 0)).take (i*n+t))) 0:=rfl;rw[z0];refine aP (λt:Nat=>((t:Int),(mf n (λ_ _=>some 0)).take (i*n+t))) n (by omega) ?_ ?_
 ·intro t ht K;unfold BH;dsimp only;have h1:=dF hi ht;rw[decide_eq_true (by omega:(t:Int)<(n:Int)),cond_true];rw[show ∀ k:Fl->Bool,SY N (i:Int) (t:Int) k=k (some 0) from λ_=>rfl];have e:=DX n (λ_ _=>some 0) hi ht
  try dsimp only at e
  rw[e,aa (decide_eq_true (by rw[List.length_take,cW]; omega)),aa (ab (by omega) (by omega))];rfl
 ·intro K;unfold BH;dsimp only;rw[decide_eq_false (by omega:¬(n:Int)<(n:Int)),cond_false,Br]
theorem DM {N n:Nat} (hN:1000<=N) (hn:n<=12) (k:List Fl->Bool):V6 N n n k=k (mf n (λ_ _=>some 0)):=by
 (unfold V6; rw[ac]; unfold Th)
 have hn2:=n_ hn;rw[<- Int.natCast_mul,aa (ab (by omega) (by omega)),aa (bI (by omega) (by omega) (by omega) (by omega))];have z0:(((0:Int),[]):Int × List Fl)=(λt:Nat=>((t:Int),(mf n (λ_ _=>some 0)).take (t*n))) 0:=by show _=(((0:Nat):Int),(mf n (λ_ _=>some 0)).take (0*n));rw[Nat.zero_mul]; rfl
 rw[z0];refine aP (λt:Nat=>((t:Int),(mf n (λ_ _=>some 0)).take (t*n))) n (by omega) ?_ ?_
 ·intro t ht K;unfold Ez;dsimp only;rw[decide_eq_true (by omega:(t:Int)<(n:Int)),cond_true,xZ hN hn ht,aa (ab (by omega) (by omega))];rfl
 ·intro K;unfold Ez;dsimp only;rw[decide_eq_false (by omega:¬(n:Int)<(n:Int)),cond_false,BT]
theorem zz {N n i:Nat} (hN:1000<=N) (hn:n<=12) (hi:i<n) {xs:List Fl} (hl:xs.length=n*n) (t17 t18 t6 t7 m1 m2:Int) (e0:List Fl->Bool) :
  ah N (BJ N n i t17 t18 n n n xs t6 t7 m1 m2 e0) (0,(mf n (λa b=>elt xs n b a)).take (i*n))=e0 ((mf n (λa b=>elt xs n b a)).take ((i+1)*n)):=by
 have hn2:=n_ hn;have z0:(((0:Int),(mf n (λa b=>elt xs n b a)).take (i*n)):Int × List Fl)=(λt:Nat=>((t:Int),(mf n (λa b=>elt xs n b a)).take (i*n+t))) 0:=rfl;rw[z0];refine aP (λt:Nat=>((t:Int),(mf n (λa b=>elt xs n b a)).take (i*n+t))) n (by omega) ?_ ?_
 ·intro t ht K;unfold BJ;dsimp only;have h1:=dF hi ht;rw[decide_eq_true (by omega:(t:Int)<(n:Int)),cond_true];rw[show ∀ k:Fl->Bool,Wc N (i:Int) (t:Int) n n xs k=k (elt xs n t i) from λk=>by unfold Wc WQ;exact uq hn ht hi hl k]
  have e:=DX n (λa b=>elt xs n b a) hi ht
  try dsimp only at e
  rw[e,aa (decide_eq_true (by rw[List.length_take,cW]; omega)),aa (ab (by omega) (by omega))];rfl
 ·intro K;unfold BJ;dsimp only;rw[decide_eq_false (by omega:¬(n:Int)<(n:Int)),cond_false,Br]
theorem F6 {N n:Nat} (hN:1000<=N) (hn:n<=12) {xs:List Fl} (hl:xs.length=n*n) (k:List Fl->Bool):PH N n n n n xs k=k (mf n (λa b=>elt xs n b a)):=by
 (unfold PH; rw[ac]; unfold M0)
 have hn2:=n_ hn;rw[<- Int.natCast_mul,aa (ab (by omega) (by omega)),aa (bI (by omega) (by omega) (by omega) (by omega))];have z0:(((0:Int),[]):Int × List Fl)=(λt:Nat=>((t:Int),(mf n (λa b=>elt xs n b a)).take (t*n))) 0:=by show _=(((0:Nat):Int),(mf n (λa b=>elt xs n b a)).take (0*n));rw[Nat.zero_mul]; rfl
 rw[z0];refine aP (λt:Nat=>((t:Int),(mf n (λa b=>elt xs n b a)).take (t*n))) n (by omega) ?_ ?_
 ·intro t ht K;unfold EA;dsimp only;rw[decide_eq_true (by omega:(t:Int)<(n:Int)),cond_true,zz hN hn ht hl,aa (ab (by omega) (by omega))];rfl
 ·intro K;unfold EA;dsimp only;rw[decide_eq_false (by omega:¬(n:Int)<(n:Int)),cond_false,BT]
theorem O8 {N n:Nat} (hN:1000<=N) (hn:n<=12) {xs:List Fl} (hl:xs.length=n*n) (k:List Fl->Bool):Wf N n n n xs k=k (mf n (mir (elt xs n))):=by
 (unfold Wf; rw[ac]; unfold TC)
 rw[DM hN hn,DV n (elt xs n)];refine aP (λi:Nat=>((i:Int),mf n (mS (elt xs n) i 0))) n (by omega) ?_ ?_
 ·intro i hi K;unfold Et;dsimp only;rw[decide_eq_true (by omega:(i:Int)<(n:Int)),cond_true,aa (ab (by omega) (by omega))];refine(aP (λj:Nat=>((j:Int),mf n (mS (elt xs n) i j))) (i+1) (N:=N) (by omega) (out:=K ((((i+1:Nat)):Int),mf n (mS (elt xs n) (i+1) 0))) ?_ ?_:_)
  ·intro j hj K';have hj2:j<n:=by omega
   obtain⟨f1,f2⟩:=ct (by omega:n<=1000) hi hj2;obtain⟨g1,g2⟩:=ct (by omega:n<=1000) hj2 hi;have b1:=dF hi hj2;have b2:=dF hj2 hi;unfold Eu;dsimp only;rw[decide_eq_true (by omega:(j:Int)<(i:Int)+1),cond_true];unfold SS Sm;rw[uq hn hi hj2 hl];dsimp only;rw[bE,bE,aa f1,aa f2,aa g1,aa g2,Int.toNat_natCast,Int.toNat_natCast,List.length_set,cW,aa (ai (by omega) (by omega)),aa (decide_eq_true b1),aa (ai (by omega) (by omega)),aa (decide_eq_true b2),aa (ab (by omega) (by omega)),pq n _ hi hj2,pq n _ hj2 hi,DU n (elt xs n) hj];rfl
  ·intro K';unfold Eu;dsimp only;rw[decide_eq_false (by omega:¬((i+1:Nat):Int)<(i:Int)+1),cond_false,aa (ab (by omega) (by omega)),Is];rfl
 ·intro K;unfold Et;dsimp only;rw[decide_eq_false (by omega:¬(n:Int)<(n:Int)),cond_false,Ir]
theorem A3 {N:Nat} (hN:1000<=N) (a b:Int) (k:Int->Bool):GF N [a,b] k=k (if a ≠ 0 then a else b):=by
 (unfold GF; rw[ac]; unfold MU)
 obtain⟨M,rfl⟩:∃ M,N=M+3:=⟨N - 3,by omega⟩
 by_cases h:a=0
 ·subst h;by_cases h2:b=0
  ·subst h2; rfl
  ·rw[if_neg (λq=>q rfl)];have e:(b != 0)=true:=by simp[h2]
   show cond (b != 0) (k b) _=k b;rw[e,cond_true]
 ·rw[if_pos h];have e:(a != 0)=true:=by simp[h]
  show cond (a != 0) (k a) _=k a;rw[e,cond_true]
theorem Ga {N n:Nat} (hN:1000<=N) (hn:n<=12) {xs:List Fl} (hl:xs.length=n*n) (hf:aB xs=true) (k:Int->Bool):PQ N n n xs k=k 0:=by unfold PQ Su GH M8;rw[fa hN,lG hn hl hf,show((n:Int) != (n:Int))=false by simp,cond_false];dsimp only;rw[A3 hN];rfl
theorem H4 {N n:Nat} (hN:1000<=N) (hn:n<=12) {xs:List Fl} (hl:xs.length=n*n) (hf:aB xs=true) (k:Int->Int->List Fl->Int->Bool):PJ N n n xs k=k n n (mf n (mir (elt xs n))) 0:=by
 (unfold PJ; rw[ac]; unfold M6)
 rw[Ga hN hn hl hf,show((0:Int) != 0)=false from rfl,cond_false,O8 hN hn hl]
theorem Ra {N n:Nat} (hN:1000<=N) (hn:n<=12) (k:Int->Int->List Fl->Int->Bool):q_ N n k=k n n (mf n np) 0:=by unfold q_ ww GN Qw xk wz;dsimp only;rw[decide_eq_true (by omega:(n:Int)>=0),decide_eq_true (by omega:(n:Int)<=12),Ib hN hn];rfl
theorem O7 {N n j:Nat} (hN:1000<=N) (hn:n<=12) (hj:j<n) {xs:List Fl} (hl:xs.length=n*n) (hf:aB xs=true) (k:List Fl->Int->Bool):q9 N n n xs j k=k (vf n (λt=>elt xs n t j)) 0:=by
 (unfold q9; rw[ac]; unfold qj nI GH M8)
 rw[fa hN,lG hn hl hf,decide_eq_false (by omega:¬(j:Int)<0),show(false==false)=true from rfl,cond_true,decide_eq_false (by omega:¬(j:Int)>=(n:Int)),cond_false];dsimp only;rw[A3 hN,if_neg (λq=>q rfl),show((0:Int) != 0)=false from rfl,cond_false]
 (unfold xj; rw[ac]; unfold qk)
 refine aP (λt:Nat=>((t:Int),(vf n (λt=>elt xs n t j)).take t)) n (by omega) ?_ ?_
 ·intro t ht K;unfold jK;dsimp only;rw[decide_eq_true (by omega:(t:Int)<(n:Int)),cond_true,uq hn ht hj hl];have e:=Ki n (λt=>elt xs n t j) ht;rw[e,aa (decide_eq_true (by rw[List.length_take,cN]; omega)),aa (ab (by omega) (by omega))];rfl
 ·intro K;unfold jK;dsimp only;rw[decide_eq_false (by omega:¬(n:Int)<(n:Int)),cond_false,List.take_of_length_le (by rw[cN]; omega)]
def slX (n:Nat) (L:Nat->Nat->Fl) (b:Nat->Fl):Nat->Fl:=uX L (dX L b) n
def slO (n:Nat) (L:Nat->Nat->Fl) (b:Nat->Fl):Bool:=orB (dP L b) n||orD (uP L (dX L b) n) n n
theorem JB {N n:Nat} (hN:1000<=N) (hn:n<=12) (L:Nat->Nat->Fl) {b:List Fl} (hb:b.length=n) (r:Int) (o:Bool) (k:List Fl->Bool->Bool) :
  (cF N r n (mf n L) b o λx o1=>eh N r n (mf n L) x o1 k)=k (vf n (slX n L (bt b))) (o||slO n L (bt b)):=by
 have hL:∀ i j,i<n->j<=i->elt (mf n L) n i j=L i j:=λi j hi hj=>mQ n L hi (by omega)
 have hB:∀ i,i<n->bt (vf n (dX (elt (mf n L) n) (bt b))) i=dX L (bt b) i:=λi hi=>(nv n _ hi none).trans (su hL (λ_ _=>rfl) i hi)
 rw[JC hN hn (cW n L) hb,Rg hN hn (cW n L) (cN _ _)];rw[mJ (g':=slX n L (bt b)) (λi hi=>xp hL hB _ i rfl hi),uy (q:=dP L (bt b)) (Fk hL (λ_ _=>rfl)),yf (q:=uP L (dX L (bt b)) n) (G7 hL hB) (Nat.le_refl _),Bool.or_assoc];rfl
def smX (n:Nat) (L B:Nat->Nat->Fl) (i j:Nat):Fl:=slX n L (λt=>B t j) i
def smO (n:Nat) (L B:Nat->Nat->Fl):Bool:=orB (λj=>slO n L (λt=>B t j)) n
def smS (g:Nat->Nat->Fl) (j i:Nat):Nat->Nat->Fl:=λa b=>if b<j\/(b=j/\a<i)then g a b else some 0
theorem P6 (n:Nat) (g:Nat->Nat->Fl):mf n (λ_ _=>some 0)=mf n (smS g 0 0):=cE n (λa b _ _=>by unfold smS; rw[if_neg (by omega)])
theorem Sc (n:Nat) (g:Nat->Nat->Fl) (j:Nat):mf n (smS g j n)=mf n (smS g (j+1) 0):=cE n (λa b ha _=>by
 unfold smS;by_cases h:b<j\/(b=j/\a<n)
 ·rw[if_pos h,if_pos (by omega)]
 ·rw[if_neg h,if_neg (by omega)])
theorem Sd (n:Nat) (g:Nat->Nat->Fl):mf n (smS g n 0)=mf n g:=cE n (λa b _ hb=>by unfold smS; rw[if_pos (.inl hb)])
theorem P5 (n:Nat) (g:Nat->Nat->Fl) (j i:Nat):mf n (λa b=>if a=i/\b=j then g i j else smS g j i a b)=mf n (smS g j (i+1)):=cE n (λa b _ _=>by
 unfold smS;by_cases h1:a=i/\b=j
 ·rw[if_pos h1,if_pos (by omega),h1.1,h1.2]
 ·rw[if_neg h1];by_cases h2:b<j\/(b=j/\a<i)
  ·rw[if_pos h2,if_pos (by omega)]
  ·rw[if_neg h2,if_neg (by omega)])
theorem Dh {n:Nat} {L:Nat->Nat->Fl} {b b':Nat->Fl} (hb:∀ i,i<n->b i=b' i):∀ i,i<n->slX n L b i=slX n L b' i:=
 λi hi=>xp (λ_ _ _ _=>rfl) (λt ht=>su (λ_ _ _ _=>rfl) hb t ht) _ i rfl hi
theorem Dg {n:Nat} {L:Nat->Nat->Fl} {b b':Nat->Fl} (hb:∀ i,i<n->b i=b' i):slO n L b=slO n L b':=by unfold slO;rw[uy (q:=dP L b') (Fk (λ_ _ _ _=>rfl) hb),yf (q:=uP L (dX L b') n) (G7 (λ_ _ _ _=>rfl) (λt ht=>su (λ_ _ _ _=>rfl) hb t ht)) (Nat.le_refl _)]
theorem Re {N n:Nat} (hN:1000<=N) (hn:n<=12) (L:Nat->Nat->Fl) {B:List Fl} (hB:B.length=n*n) (fB:aB B=true) (t4 t5 o4 o5:Int) (e0:Bool->List Fl->Bool) :
  ah N (ep N n n n B t4 t5 n n (mf n L) o4 o5 e0) (0,false,mf n (λ_ _=>some 0))=e0 (smO n L (elt B n)) (mf n (smX n L (elt B n))):=by
 rw[P6 n (smX n L (elt B n))];refine aP (λj:Nat=>((j:Int),orB (λj=>slO n L (λt=>elt B n t j)) j,mf n (smS (smX n L (elt B n)) j 0))) n (by omega) ?_ ?_
 ·intro j hj K;unfold ep;dsimp only;rw[decide_eq_true (by omega:(j:Int)<(n:Int)),cond_true,O7 hN hn hj hB fB,JB hN hn L (cN _ _)];have hb:∀ i,i<n->bt (vf n (λt=>elt B n t j)) i=elt B n i j:=λi hi=>nv n _ hi none
  rw[Dg hb,mJ (g':=λi=>smX n L (elt B n) i j) (λi hi=>Dh hb i hi)];refine(aP (λi:Nat=>((i:Int),mf n (smS (smX n L (elt B n)) j i))) n (N:=N) (by omega) (out:=K ((((j+1:Nat)):Int),orB (λj=>slO n L (λt=>elt B n t j)) (j+1),mf n (smS (smX n L (elt B n)) (j+1) 0))) ?_ ?_:_)
  ·intro i hi K';obtain⟨f1,f2⟩:=ct (by omega:n<=1000) hi hj;have b1:=dF hi hj;unfold gk;dsimp only;rw[cN,decide_eq_true (by omega:(i:Int)<(n:Int)),cond_true,aa (ai (by omega) (by omega)),bE,aa f1,aa f2,cW,Int.toNat_natCast,Int.toNat_natCast,aa (ai (by omega) (by omega)),aa (decide_eq_true b1),aa (ab (by omega) (by omega)),nv n _ hi,pq n _ hi hj,P5];rfl
  ·intro K';unfold gk;dsimp only;rw[cN,decide_eq_false (by omega:¬(n:Int)<(n:Int)),cond_false,aa (ab (by omega) (by omega)),Sc];rfl
 ·intro K;unfold ep;dsimp only;rw[decide_eq_false (by omega:¬(n:Int)<(n:Int)),cond_false,Sd];rfl
def smK (r c:Int) (a B:List Fl) (k:KC):Bool:=
 if sqE r c a ≠ 0 then k 0 0 [] 0 (sqE r c a)
 else if (cR (elt a r.toNat) r.toNat r.toNat 0 false).2 ≠ 0 then k 0 0 [] (cR (elt a r.toNat) r.toNat r.toNat 0 false).1 (cR (elt a r.toNat) r.toNat r.toNat 0 false).2
 else if smO r.toNat (cL (elt a r.toNat)) (elt B r.toNat)=true then k 0 0 [] 0 5
 else k r r (mf r.toNat (smX r.toNat (cL (elt a r.toNat)) (elt B r.toNat))) 0 0
theorem DK {N n:Nat} (hN:1000<=N) (hn:n<=12) (c:Int) (a:List Fl) {B:List Fl} (hB:B.length=n*n) (fB:aB B=true) (k:KC):mT N n c a n n B k=smK n c a B k:=by
 (unfold mT; rw[ac]; unfold mK smK)
 rw[xW hN];by_cases h0:evE n c a=0
 ·obtain⟨m,hm,e1,rfl,hl,hf⟩:=nM h0;obtain rfl:n=m:=by omega
  have n2:=n_ hn;rw[h0,show((0:Int) != 0)=false from rfl,cond_false,fa hN,lG hn hB fB,show((0:Int) != 0)=false from rfl,cond_false,show((n:Int) != (n:Int))=false by simp,cond_false,AW hN];unfold chK;by_cases h1:sqE n n a=0
  ·rw[ifz h1,ifz h1];by_cases h2:(cR (elt a (n:Int).toNat) (n:Int).toNat (n:Int).toNat 0 false).2=0
   ·rw[ifz h2,ifz h2];dsimp only;rw[show((0:Int) != 0)=false from rfl,cond_false,hB,aa (bI (by omega) (by omega) (by omega) (by omega)),Int.toNat_natCast,Int.toNat_natCast,w6,Re hN hn _ hB fB];cases smO n (cL (elt a n)) (elt B n) <;> rfl
   ·rw[fJ h2,fJ h2];dsimp only;rw[bH _ _ h2,cond_true]
  ·rw[fJ h1,fJ h1];dsimp only;rw[bH _ _ h1,cond_true]
 ·have e:sqE n c a=evE n c a:=by unfold sqE; rw[if_pos h0]
  rw[e,fJ h0,bH _ _ h0,cond_true]
def ivK (r c:Int) (a:List Fl) (k:KC):Bool:=
 if sqE r c a ≠ 0 then k 0 0 [] 0 (sqE r c a)
 else if (cR (elt a r.toNat) r.toNat r.toNat 0 false).2 ≠ 0 then k 0 0 [] (cR (elt a r.toNat) r.toNat r.toNat 0 false).1 (cR (elt a r.toNat) r.toNat r.toNat 0 false).2
 else if smO r.toNat (cL (elt a r.toNat)) np=true then k 0 0 [] 0 5
 else k r r (mf r.toNat (mir (smX r.toNat (cL (elt a r.toNat)) np))) 0 0
def isz (x:Fl):Bool:=match x with | some b=>b==0 | none=>false
def Gg (xs:List Fl) (n i:Nat):Bool:=ou (λj=>isz (elt xs n i j)) i
def vg (xs:List Fl) (n:Nat):Bool:=ou (λi=>ow xs n i&&Gg xs n i) n
def qE (x:List Fl) (r c:Int) (xs:List Fl):Int:=
 if chk r c xs ≠ 0 then chk r c xs else if r=c/\(x.length:Int)=r then(if aB x=true then(if vg xs x.length=true then 0 else 171)else 4)else 3
theorem Oo {x:Fl} (h:aE x=true):∃ b:Nat,x=some b:=by
 cases x with
 | none=>cases h
 | some b=>exact⟨b,rfl⟩
theorem LD {N n:Nat} {xs x:List Fl} (hn:n<=12) (hN:12<N) (hl:xs.length=n*n) (hf:aB xs=true) (k:Int->Bool) :
  ah N (dK N n n n n xs x (λt=>k t) (k 0)) 0=k (if vg xs n=true then 0 else 171):=by
 have e:k (if vg xs n=true then 0 else 171)=cond (vg xs n) (k 0) (k 171):=by cases vg xs n <;> rfl
 rw[e];refine jQ (λi=>(i:Int)) (λi=>ow xs n i&&Gg xs n i) n rfl (by omega) (λi hi K=>?_) (λK=>?_)
 ·simp only[dK];have a1:=dF hi hi;have a2:=n_ hn;have a3:=Xm hn hi;rw[bJ (by omega),cond_true,Dj,aV (ab (by omega) (by omega)),aV (ab (by omega) (by omega)),aV (ai (by omega) (by omega))];show cond (!ow xs n i) (k 171) _=_;cases ow xs n i
  ·rfl
  ·have:=jQ (N:=N) (step:=dL N n i n i i n n xs x k ((af .i64 (i+1))&&K (i+1))) (s:=0) (ex:=k 171) (out:=K (i+1)) (λd=>(d:Int)) (λj=>isz (elt xs n i j)) i rfl (by omega) (λj hj K=>?_) (λK=>?_)
   ·exact this
   ·simp only[dL];have b1:=dF hi (show j<n by omega);rw[bJ (by omega),cond_true,Dj,aV (ab (by omega) (by omega)),aV (ab (by omega) (by omega)),aV (ai (by omega) (by omega))];have hx:=io hf (show i*n+j<xs.length by omega);unfold elt;obtain⟨b,hb⟩:=Oo hx;rw[hb];show cond ((b:Int) != 0) _ _=cond (b==0) _ _;rw[aV (ab (by omega) (by omega))];have:((b:Int) != 0) = !(b==0):=by rw[Bool.eq_iff_iff]; simp
    rw[this];cases b==0 <;> rfl
   ·simp only[dL];rw[bK (by omega),cond_false,aV (ab (by omega) (by omega))]
 ·simp only[dK];rw[bK (by omega),cond_false]
theorem jR {N:Nat} (x:List Fl) (r c:Int) (xs:List Fl) (hN:1000<=N) (hx:bW N x.length) (hs:bW N xs.length) (k:Int->Bool):iZ N r c xs x k=k (qE x r c xs):=by
 (unfold iZ; rw[ac]; unfold lB qE)
 simp only[K_ _ _ xs hs,ge x hx,pr];by_cases h0:chk r c xs=0
 ·rw[bJ h0,if_neg (by simpa using h0)];by_cases h1:r=c
  ·subst h1;rw[bJ (p:=r=r) rfl];by_cases h2:(x.length:Int)=r
   ·subst h2;rw[bJ (p:=(x.length:Int)=x.length) rfl];have q:=mg.1 h0;have hn:x.length<=12:=by have:=q.1; omega
    have hl:xs.length=x.length*x.length:=by have:=q.2.1; exact_mod_cast this
    have:=LD (N:=N) (x:=x) hn (by omega) hl q.2.2 k;simp only[this];cases aB x <;> rfl
   ·rw[bK h2,if_neg (λh=>h2 h.2)]; rfl
  ·rw[bK h1,if_neg (λh=>h1 h.1)]; rfl
 ·rw[bK h0,if_pos h0]; rfl
def tJ (xs:List Fl) (n i t:Nat):Nat->Nat->Fl:=λa b=>if b<i\/(b=i/\a<t)then elt xs n b a else some 0
theorem OV {N n:Nat} (hn:n<=12) (hN:1000<=N) {xs:List Fl} (hl:xs.length=n*n) (k:List Fl->Bool):rg N n n xs k=k (mf n (λa b=>elt xs n b a)):=by
 (unfold rg; rw[ac]; unfold vu)
 rw[Lw hn];refine CI (λi=>((i:Int),mf n (tJ xs n i 0))) n ?_ (by omega) (λi hi K=>?_) (λK=>?_)
 ·refine Prod.ext rfl ?_;show mf n (λ_ _=>some 0)=mf n (tJ xs n 0 0);exact cE n λa b ha hb=>by unfold tJ; rw[if_neg (by omega)]
 ·simp only[l_];rw[bJ (by omega),cond_true];refine CI (λt=>((t:Int),mf n (tJ xs n i t))) n rfl (by omega) (λt ht K'=>?_) (λK'=>?_)
  ·simp only[ma];rw[bJ (by omega),cond_true,sI hn hi ht hl,Rl hn ht hi,aV (ab (by omega) (by omega))];have:mf n (λa b=>if a=t/\b=i then elt xs n i t else tJ xs n i t a b)=mf n (tJ xs n i (t+1)):=cE n λa b ha hb=>by
    unfold tJ;by_cases h:a=t/\b=i
    ·rw[if_pos h,if_pos (by omega),h.1,h.2]
    ·rw[if_neg h];by_cases h2:b<i\/(b=i/\a<t)
     ·rw[if_pos h2,if_pos (by omega)]
     ·rw[if_neg h2,if_neg (by omega)]
   rw[this]; rfl
  ·simp only[ma];rw[bK (by omega),cond_false,aV (ab (by omega) (by omega))];have:mf n (tJ xs n i n)=mf n (tJ xs n (i+1) 0):=cE n λa b ha hb=>by
    unfold tJ;by_cases h2:b<i\/(b=i/\a<n)
    ·rw[if_pos h2,if_pos (by omega)]
    ·rw[if_neg h2,if_neg (by omega)]
   rw[this]; rfl
 ·simp only[l_];rw[bK (by omega),cond_false];congr 1;exact cE n λa b ha hb=>by unfold tJ; rw[if_pos (by omega)]
theorem Jy {x:Fl}:isz x=true↔x=some 0:=by
 cases x with
 | none=>exact⟨λh=>(by cases h),λh=>(by cases h)⟩
 | some b=>
  show(b==0)=true↔_;rw[beq_iff_eq];exact⟨λh=>by rw[h],λh=>by cases h; rfl⟩
theorem Jk:cn (some 0)=some 0:=Dx (by rfl)
theorem MA {n:Nat} {xs:List Fl} (hl:xs.length=n*n) (hf:aB xs=true) :
  ou (λi=>ow (mf n (λa b=>elt xs n b a)) n i&&nY (mf n (λa b=>elt xs n b a)) n i) n=vg xs n:=by
 have hd:∀ i,i<n->ow (mf n (λa b=>elt xs n b a)) n i=ow xs n i:=λi hi=>by unfold ow; rw[mQ n _ hi hi]
 have hu:∀ i j,i<n->j<n->(upP (mf n (λa b=>elt xs n b a)) n j i=true↔elt xs n i j=some 0):=λi j hi hj=>by unfold upP;have f1:aE (elt xs n i j)=true:=io hf (by have:=iU hi hj; omega);rw[mQ n _ hj hi,decide_eq_true_iff,Jk,Dx f1]
 rw[Bool.eq_iff_iff];unfold vg;rw[bU,bU];constructor
 ·intro h i hi;rw[Bool.and_eq_true];have h1:=h i hi;rw[Bool.and_eq_true]at h1;refine⟨(hd i hi).symm.trans h1.1,?_⟩;unfold Gg;rw[bU];intro j hj;have h2:=h j (by omega);rw[Bool.and_eq_true]at h2;have h3:=h2.2;unfold nY at h3;rw[bU]at h3;have h4:=h3 (i - (j+1)) (by omega);rw[show j+1+(i - (j+1))=i by omega]at h4;exact Jy.2 ((hu i j hi (by omega)).1 h4)
 ·intro h i hi;rw[Bool.and_eq_true];have h1:=h i hi;rw[Bool.and_eq_true]at h1;refine⟨(hd i hi).trans h1.1,?_⟩;unfold nY;rw[bU];intro d hdd;have h2:=h (i+1+d) (by omega);rw[Bool.and_eq_true]at h2;have h3:=h2.2;unfold Gg at h3;rw[bU]at h3;exact(hu (i+1+d) i (by omega) hi).2 (Jy.1 (h3 i (by omega)))
theorem FY {N n:Nat} {xs:List Fl} (hn:n<=12) (hN:1000<=N) (hl:xs.length=n*n) (hf:aB xs=true) (k:Int->Bool) :
  GC N n n xs k=k (if ou (λi=>ow xs n i&&nY xs n i) n=true then 0 else 93):=by
 have h0:chk n n xs=0:=lG hn hl hf
 (unfold GC; rw[ac]; unfold I5)
 rw[sF hN,pr,bJ h0,Bool.not_true,cond_false,pr,bJ (p:=(n:Int)=n) rfl,Bool.not_true,cond_false];have e:k (if ou (λi=>ow xs n i&&nY xs n i) n=true then 0 else 93)=cond (ou (λi=>ow xs n i&&nY xs n i) n) (k 0) (k 93):=by cases ou (λi=>ow xs n i&&nY xs n i) n <;> rfl
 rw[e];refine jQ (λi=>(i:Int)) (λi=>ow xs n i&&nY xs n i) n rfl (by omega) (λi hi K=>?_) (λK=>?_)
 ·simp only[ii];rw[bJ (by omega),cond_true,sI hn hi hi hl,aV (ab (by omega) (by omega))];show cond (!ow xs n i) (k 93) _=_;cases ow xs n i
  ·rfl
  ·have:=jQ (N:=N) (step:=BM N i n n xs k ((af .i64 (i+1))&&K (i+1))) (s:=(i:Int)+1) (ex:=k 93) (out:=K (i+1)) (λd=>((i+1+d:Nat):Int)) (λd=>upP xs n i (i+1+d)) (n - (i+1)) (by simp) (by omega) (λd hd K=>?_) (λK=>?_)
   ·exact this
   ·simp only[BM];rw[bJ (by omega),cond_true,sI hn hi (by omega) hl,wZ,aV (ab (by omega) (by omega))];show cond (!upP xs n i (i+1+d)) (k 93) _=_;cases upP xs n i (i+1+d) <;> rfl
   ·simp only[BM];rw[bK (by omega),cond_false,aV (ab (by omega) (by omega))]
 ·simp only[ii];rw[bK (by omega),cond_false]
theorem AV {N:Nat} (hN:1000<=N) (r c:Int) (xs x:List Fl) (hx:bW N x.length) (k:Int->Bool):IK N r c xs x k=k (qE x r c xs):=by
 have hg:∀ k,Bx N r c xs k=k (chk r c xs):=λk=>sF hN r c xs k
 (unfold IK; rw[ac]; unfold TE qE)
 rw[hg];by_cases h0:chk r c xs=0
 ·rw[pr,bJ h0,Bool.not_true,cond_false,if_neg (by simpa using h0)];have q:=mg.1 h0;by_cases h1:r=c
  ·subst h1;rw[pr,bJ (p:=r=r) rfl,Bool.not_true];by_cases h2:(x.length:Int)=r
   ·rw[if_pos ⟨rfl,h2⟩];simp only[pr];rw[bJ h2,uY x hx];cases h3:aB x
    ·rfl
    ·subst h2;have hn:x.length<=12:=by have:=q.1; omega
     have hl:xs.length=x.length*x.length:=by have:=q.2.1; exact_mod_cast this
     show rg N _ _ xs _=_;have f1:aB (mf x.length λa b=>elt xs x.length b a)=true:=vR λa b ha hb=>io q.2.2 (by have:=iU hb ha; omega)
     rw[OV hn hN hl,FY hn hN (cW _ _) f1,MA hl q.2.2];cases vg xs x.length <;> rfl
   ·rw[if_neg (λh=>h2 h.2)];simp only[pr];rw[bK h2]; rfl
  ·rw[pr,bK h1,if_neg (λh=>h1 h.1)]; rfl
 ·rw[pr,bK h0,Bool.not_false,cond_true,if_pos h0]
theorem ym {n:Nat} {L B B':Nat->Nat->Fl} (h:∀ i j,i<n->j<n->B i j=B' i j):∀ i j,i<n->j<n->smX n L B i j=smX n L B' i j:=
 λi j hi hj=>Dh (λt ht=>h t j ht hj) i hi
theorem Mr {n:Nat} {L B B':Nat->Nat->Fl} (h:∀ i j,i<n->j<n->B i j=B' i j):smO n L B=smO n L B':=
 uy λj hj=>Dg λt ht=>h t j ht hj
theorem J9 {n:Nat} {L:Nat->Nat->Fl} {b:Nat->Fl} (h:slO n L b=false):∀ i,i<n->aE (slX n L b i)=true:=by intro i hi;unfold slO at h;rw[Bool.or_eq_false_iff]at h;have:=C8 (Nat.le_refl n) h.2 i (by omega) hi;unfold uP at this;rw[Bool.or_eq_false_iff]at this;show aE (uX L (dX L b) n i)=true;simpa using this.2
theorem J_ {n:Nat} {L B:Nat->Nat->Fl} (h:smO n L B=false):∀ i j,i<n->j<n->aE (smX n L B i j)=true:=
 λi j hi hj=>J9 (iY h j hj) i hi
theorem Pv (n:Nat):aB (mf n np)=true:=vR λa b _ _=>by unfold np; by_cases h:a=b <;> simp only[h,if_true,if_false] <;> rfl
theorem FR {N:Nat} (hN:1000<=N) (r c:Int) (a:List Fl) (k:KC):oe N r c a k=ivK r c a k:=by
 (unfold oe; rw[ac]; unfold nG ivK)
 rw[yT hN];by_cases h0:sqE r c a=0
 ·obtain⟨n,hn,rfl,rfl,hl,hf,hs⟩:=tB h0;rw[ifz h0,h0,show((0:Int) != 0)=false from rfl,cond_false,Ra hN hn];rw[DK hN hn _ _ (cW n _) (Pv n)];unfold smK;rw[ifz h0,Int.toNat_natCast];have hB:∀ i j,i<n->j<n->elt (mf n np) n i j=np i j:=λi j hi hj=>mQ n _ hi hj
  by_cases h1:(cR (elt a n) n n 0 false).2=0
  ·rw[ifz h1,ifz h1,Mr hB];cases h2:smO n (cL (elt a n)) np
   ·rw[if_neg (by decide),if_neg (by decide)];have hf2:aB (mf n (smX n (cL (elt a n)) (elt (mf n np) n)))=true:=vR λi j hi hj=>by rw[ym hB i j hi hj]; exact J_ h2 i j hi hj
    dsimp only;rw[show((0:Int) != 0)=false from rfl,cond_false,H4 hN hn (cW n _) hf2];have e:mf n (mir (elt (mf n (smX n (cL (elt a n)) (elt (mf n np) n))) n))=mf n (mir (smX n (cL (elt a n)) np)):=cE n λi j hi hj=>by unfold mir;rw[mQ n _ hi hj,mQ n _ hj hi,ym hB i j hi hj,ym hB j i hj hi]
    rw[e]
   ·rfl
  ·rw[fJ h1,fJ h1];dsimp only;rw[bH _ _ h1,cond_true]
 ·rw[fJ h0,bH _ _ h0,cond_true]
def zx (r:Int) (b:List Fl):Int:=if (b.length:Int) ≠ r then 3 else if aB b=false then 4 else 0
theorem CD {r:Int} {b:List Fl} (h:zx r b=0):(b.length:Int)=r/\aB b=true:=by
 unfold zx at h;split at h
 ·cases h
 ·rename_i h1;split at h
  ·cases h
  ·rename_i h2;exact⟨by simpa using h1,by simpa using h2⟩
theorem CS {N:Nat} (hN:1000<=N) (n:Nat) (hn:n<=12) (b:List Fl) (k:Int->Bool):oX N n b k=k (zx n b):=by
 (unfold oX; rw[ac]; unfold rS zx)
 by_cases h:(b.length:Int)=n
 ·rw[if_neg (λq=>q h),show(((b.length:Nat):Int) != (n:Int))=false by simp[h],cond_false,ge b ⟨by omega,by omega⟩];cases aB b <;> rfl
 ·rw[if_pos h,bH _ _ h,cond_true]
abbrev KVx:=List Fl->Int->Int->Bool
def svK (r c:Int) (a b:List Fl) (k:KVx):Bool:=
 if evE r c a ≠ 0 then k [] 0 (evE r c a)else if zx r b ≠ 0 then k [] 0 (zx r b)
 else if sqE r c a ≠ 0 then k [] 0 (sqE r c a)
 else if (cR (elt a r.toNat) r.toNat r.toNat 0 false).2 ≠ 0 then k [] (cR (elt a r.toNat) r.toNat r.toNat 0 false).1 (cR (elt a r.toNat) r.toNat r.toNat 0 false).2
 else if slO r.toNat (cL (elt a r.toNat)) (bt b)=true then k [] 0 5
 else k (vf r.toNat (slX r.toNat (cL (elt a r.toNat)) (bt b))) 0 0
theorem Lj {N:Nat} (hN:1000<=N) (r c:Int) (a b:List Fl) (k:KVx):q8 N r c a b k=svK r c a b k:=by
 (unfold q8; rw[ac]; unfold qg svK)
 rw[xW hN];by_cases h0:evE r c a=0
 ·obtain⟨n,hn,rfl,rfl,hl,hf⟩:=nM h0;rw[ifz h0,h0,show((0:Int) != 0)=false from rfl,cond_false,CS hN n hn];by_cases h1:zx n b=0
  ·have hb:b.length=n:=by have:=(CD h1).1; omega
   rw[ifz h1,h1,show((0:Int) != 0)=false from rfl,cond_false,AW hN];unfold chK;by_cases h2:sqE n n a=0
   ·rw[ifz h2,ifz h2,Int.toNat_natCast];by_cases h3:(cR (elt a n) n n 0 false).2=0
    ·rw[ifz h3,ifz h3];dsimp only;rw[show((0:Int) != 0)=false from rfl,cond_false,JB hN hn _ hb];cases slO n (cL (elt a n)) (bt b) <;> rfl
    ·rw[fJ h3,fJ h3];dsimp only;rw[bH _ _ h3,cond_true]
   ·rw[fJ h2,fJ h2];dsimp only;rw[bH _ _ h2,cond_true]
  ·rw[fJ h1,bH _ _ h1,cond_true]
 ·rw[fJ h0,bH _ _ h0,cond_true]
theorem Ie {N n:Nat} {xs:List Fl} (hN:1000<=N) (hn:n<=12) (hl:xs.length=n*n) (hf:aB xs=true) (k:Bool->Bool):PM N n n xs k=k (LJ xs n):=by
 (unfold PM; rw[ac]; unfold Nb)
 rw[fa hN,lG hn hl hf,show(((0:Int) != 0)==false)=true from rfl,cond_true,show((n:Int) != (n:Int))=false by simp,cond_false];have hk:k (LJ xs n)=cond (LJ xs n) (k true) (k false):=by cases LJ xs n <;> rfl
 rw[hk];refine jQ (λi=>(i:Int)) (nY xs n) n rfl (by omega) (λi hi K=>?_) (λK=>?_)
 ·simp only[ic];rw[bJ (by omega),cond_true,aV (ab (by omega) (by omega))];have:=jQ (N:=N) (step:=BL N i n i n n xs k ((af .i64 (i+1))&&K (i+1))) (s:=(i:Int)+1) (ex:=k false) (out:=K (i+1)) (λd=>((i+1+d:Nat):Int)) (λd=>upP xs n i (i+1+d)) (n - (i+1)) (by simp) (by omega) (λd hd K=>?_) (λK=>?_)
  ·exact this
  ·simp only[BL];rw[bJ (by omega),cond_true,uq hn hi (by omega) hl];simp only[IL];rw[aV (ab (by omega) (by omega))];show cond (!upP xs n i (i+1+d)) (k false) _=_;cases upP xs n i (i+1+d) <;> rfl
  ·simp only[BL];rw[bK (by omega),cond_false,aV (ab (by omega) (by omega))]
 ·simp only[ic];rw[bK (by omega),cond_false]
def Qj (n:Nat) (l:List Fl):Bool:=ou (λi=>ow l n i&&nY l n i) n
theorem Sf (n:Nat) (l:List Fl):Qj n l=(ou (ow l n) n&&LJ l n):=by
 rw[Bool.eq_iff_iff];unfold Qj LJ;rw[Bool.and_eq_true,bU,bU,bU];constructor
 ·intro h;exact⟨λi hi=>(Bool.and_eq_true _ _ ▸ h i hi:_/\_).1,λi hi=>(Bool.and_eq_true _ _ ▸ h i hi:_/\_).2⟩
 ·rintro ⟨h1,h2⟩ i hi;rw[h1 i hi,h2 i hi]; rfl
def trE (r c:Int) (l:List Fl):Int:=if evE r c l ≠ 0 then evE r c l else if Qj r.toNat l=true then 0 else 93
theorem F0 {N:Nat} (hN:1000<=N) (r c:Int) (l:List Fl) (k:Int->Bool):jJ N r c l k=k (trE r c l):=by
 (unfold jJ; rw[ac]; unfold mL trE)
 rw[fa hN];by_cases h0:evE r c l=0
 ·obtain⟨n,hn,rfl,rfl,hl,hf⟩:=nM h0;rw[ifz h0,lG hn hl hf,show((0:Int) != 0)=false from rfl,cond_false,show((n:Int) != (n:Int))=false by simp,cond_false,Ie hN hn hl hf,Int.toNat_natCast,Sf];have hk:∀ A B:Bool,k (if (A&&B)=true then 0 else 93)=cond A (cond (!B) (k 93) (k 0)) (k 93):=λA B=>by cases A <;> cases B <;> rfl
  rw[hk];refine jQ (λi=>(i:Int)) (ow l n) n rfl (by omega) (λi hi K=>?_) (λK=>?_)
  ·simp only[gl];rw[bJ (by omega),cond_true,oR hn hi hi hl];show cond (!ow l n i) (k 93) _=_;rw[aV (ab (by omega) (by omega))];cases ow l n i <;> rfl
  ·simp only[gl];rw[bK (by omega),cond_false]
 ·rw[fJ h0];unfold evE at h0 ⊢;by_cases h1:chk r c l=0
  ·rw[ifz h1]at h0 ⊢;have h2:¬ r=c:=by intro h2;rw[if_neg (λq=>q h2)]at h0;exact h0 rfl
   rw[if_pos h2,h1,show((0:Int) != 0)=false from rfl,cond_false,bH _ _ h2,cond_true]
  ·rw[fJ h1,bH _ _ h1,cond_true]
theorem xo {r c:Int} {l:List Fl} (h:trE r c l=0):∃ n:Nat,n<=12/\r=n/\c=n/\l.length=n*n/\aB l=true/\Qj n l=true:=by
 unfold trE at h;split at h
 ·exact absurd h (by assumption)
 ·rename_i h0;obtain⟨n,h1,h2,h3,h4,h5⟩:=nM (show evE r c l=0 by simpa using h0);subst h2;split at h
  ·rename_i h6;exact⟨n,h1,rfl,h3,h4,h5,by simpa using h6⟩
  ·cases h
abbrev KW:=List Fl->Int->Bool
def lwK (r c:Int) (l b:List Fl) (k:KW):Bool:=
 if trE r c l ≠ 0 then k [] (trE r c l)else if zx r b ≠ 0 then k [] (zx r b)
 else if orB (dP (elt l r.toNat) (bt b)) r.toNat=true then k [] 5 else k (vf r.toNat (dX (elt l r.toNat) (bt b))) 0
theorem H9 {N:Nat} (hN:1000<=N) (r c:Int) (l b:List Fl) (k:KW):q7 N r c l b k=lwK r c l b k:=by
 unfold q7 wt lwK
 (unfold zj; rw[ac]; unfold rQ)
 rw[F0 hN];by_cases h0:trE r c l=0
 ·obtain⟨n,hn,rfl,rfl,hl,hf,ht⟩:=xo h0;rw[ifz h0,h0,show((0:Int) != 0)=false from rfl,cond_false,CS hN n hn];by_cases h1:zx n b=0
  ·have hb:b.length=n:=by have:=(CD h1).1; omega
   rw[ifz h1,h1,show((0:Int) != 0)=false from rfl,cond_false,JC hN hn hl hb,Bool.false_or,Int.toNat_natCast];cases orB (dP (elt l n) (bt b)) n <;> rfl
  ·rw[fJ h1,bH _ _ h1,cond_true]
 ·rw[fJ h0,bH _ _ h0,cond_true]
theorem A5 {N n:Nat} (hN:1000<=N) (hn:n<=12) {xs:List Fl} (hl:xs.length=n*n) (hf:aB xs=true) (k:Int->Int->List Fl->Int->Bool):PW N n n xs k=k n n (mf n (λa b=>elt xs n b a)) 0:=by unfold PW WU;rw[fa hN,lG hn hl hf,show((0:Int) != 0)=false from rfl,cond_false,F6 hN hn hl]
def qdV (l:List Fl) (n:Nat) (i j:Nat):Fl:=dV (λt=>elt l n i t) (λt=>elt l n j t) (j+1)
def qdO (l:List Fl) (n:Nat) (i j:Nat):Bool:=dO (λt=>elt l n i t) (λt=>elt l n j t) (j+1)
def qdK (r c:Int) (l:List Fl) (k:Int->Int->List Fl->Int->Bool):Bool:=
 if trE r c l ≠ 0 then k 0 0 [] (trE r c l)
 else if orL r.toNat (qdO l r.toNat)=true then k 0 0 [] 5 else k r r (mf r.toNat (mir (qdV l r.toNat))) 0
theorem O0 {N n i j:Nat} (hN:1000<=N) (hn:n<=12) (hi:i<n) (hj:j<n) {l:List Fl} (hl:l.length=n*n) (u v w x r t2 t3 t4 t5:Int) (M:List Fl) (o:Bool) (e0:Fl->Bool->Bool) :
  ah N (fV N n i j u v w x ((j:Int)+1) r n l t2 t3 t4 t5 M e0) (some 0,0,o)=e0 (qdV l n i j) (o||qdO l n i j):=by
 have h1:((some 0,(0:Int),o):Fl × Int × Bool)=(λt:Nat=>(dV (λt=>elt l n i t) (λt=>elt l n j t) t,(t:Int),(o||dO (λt=>elt l n i t) (λt=>elt l n j t) t))) 0:=by show _=(some 0,((0:Nat):Int),(o||false)); rw[Bl]; rfl
 rw[h1];refine aP (λt:Nat=>(dV (λt=>elt l n i t) (λt=>elt l n j t) t,(t:Int),(o||dO (λt=>elt l n i t) (λt=>elt l n j t) t))) (j+1) (by omega) ?_ ?_
 ·intro t ht K;unfold fV;dsimp only;rw[decide_eq_true (by omega:(t:Int)<(j:Int)+1),cond_true,oR hn hi (by omega) hl,oR hn hj (by omega) hl,qI hN,un hN,aa (ab (by omega) (by omega)),Jm o (λt=>elt l n i t) (λt=>elt l n j t) t];rfl
 ·intro K;unfold fV;dsimp only;rw[decide_eq_false (by omega:¬((j+1:Nat):Int)<(j:Int)+1),cond_false];rfl
theorem Rf {N:Nat} (hN:1000<=N) (r c:Int) (l:List Fl) (k:Int->Int->List Fl->Int->Bool):pw N r c l k=qdK r c l k:=by
 (unfold pw; rw[ac]; unfold ph qdK)
 rw[F0 hN];by_cases h0:trE r c l=0
 ·obtain⟨n,hn,rfl,rfl,hl,hf,ht⟩:=xo h0;have n2:=n_ hn;rw[ifz h0,h0,show((0:Int) != 0)=false from rfl,cond_false,<- Int.natCast_mul,aa (ab (by omega) (by omega)),aa (bI (by omega) (by omega) (by omega) (by omega)),Int.toNat_natCast,Int.toNat_natCast,w6,DV n (qdV l n)];have e:∀ A:Bool,(if A=true then k 0 0 [] 5 else k n n (mf n (mir (qdV l n))) 0)=cond A (k 0 0 [] 5) (k n n (mf n (mir (qdV l n))) 0):=λA=>by cases A <;> rfl
  rw[e];refine aP (λi:Nat=>((i:Int),orB (λi=>orB (λj=>qdO l n i j) (i+1)) i,mf n (mS (qdV l n) i 0))) n (by omega) ?_ ?_
  ·intro i hi K;unfold i7;dsimp only;rw[decide_eq_true (by omega:(i:Int)<(n:Int)),cond_true,aa (ab (by omega) (by omega))];generalize ho1:orB (λi=>orB (λj=>qdO l n i j) (i+1)) i=o1;have h1:((0,o1,mf n (mS (qdV l n) i 0)):Int × Bool × List Fl)=(λj:Nat=>((j:Int),(o1||orB (λj=>qdO l n i j) j),mf n (mS (qdV l n) i j))) 0:=by show _=(((0:Nat):Int),(o1||false),_); rw[Bl]; rfl
   rw[h1];refine(aP (λj:Nat=>((j:Int),(o1||orB (λj=>qdO l n i j) j),mf n (mS (qdV l n) i j))) (i+1) (N:=N) (by omega) (out:=K ((((i+1:Nat)):Int),orB (λi=>orB (λj=>qdO l n i j) (i+1)) (i+1),mf n (mS (qdV l n) (i+1) 0))) ?_ ?_:_)
   ·intro j hj K';have hj2:j<n:=by omega
    obtain⟨f1,f2⟩:=ct (by omega:n<=1000) hi hj2;obtain⟨g1,g2⟩:=ct (by omega:n<=1000) hj2 hi;have b1:=dF hi hj2;have b2:=dF hj2 hi;unfold i8;dsimp only;rw[decide_eq_true (by omega:(j:Int)<(i:Int)+1),cond_true,aa (ab (by omega) (by omega)),O0 hN hn hi hj2 hl,bE,bE,aa f1,aa f2,aa g1,aa g2,Int.toNat_natCast,Int.toNat_natCast,List.length_set,cW,aa (ai (by omega) (by omega)),aa (decide_eq_true b1),aa (ai (by omega) (by omega)),aa (decide_eq_true b2),aa (ab (by omega) (by omega)),pq n _ hi hj2,pq n _ hj2 hi,DU n (qdV l n) hj,zQ o1 (λj=>qdO l n i j) j];rfl
   ·intro K';unfold i8;dsimp only;rw[decide_eq_false (by omega:¬((i+1:Nat):Int)<(i:Int)+1),cond_false,aa (ab (by omega) (by omega)),Is,<- ho1];rfl
  ·intro K;unfold i7;dsimp only;rw[decide_eq_false (by omega:¬(n:Int)<(n:Int)),cond_false,Ir];rfl
 ·rw[fJ h0,bH _ _ h0,cond_true]
def rL (A:Nat->Nat->Fl) (j i:Nat):Nat->Nat->Fl:=λa b=>if b<=a/\(b<j\/(b=j/\a<i))then cL A a b else some 0
theorem wV {N n:Nat} (hF:Fuel N) {l:List Fl} (hn:n<=12) (h:l.length=n*n) (hf:aB l=true) (hw:AllW l) (hs:EN n l) (k:Bool->Bool) :
  bM N n n l k=k (xb n l):=by
 (unfold bM; try rw[ac]); unfold rm
 rw[FX hF hn h hf hw hs];rfl
def kw (x:List Fl) (r c:Int) (l:List Fl):Int:=if FM x r c l=151 then 170 else FM x r c l
theorem Vz {r c:Int} {l:List Fl}:chk r c l ≠ 151:=by
 unfold chk;split
 ·split
  ·split <;> decide
  ·decide
 ·decide
theorem nU {N:Nat} (hF:Fuel N) (x:List Fl) (r c:Int) (l:List Fl) (hw:AllW l) (k:Int->Bool):gf N r c l x k=k (kw x r c l):=by
 have hN:=hF.lt
 (unfold gf; rw[ac]; unfold qh kw FM)
 rw[fa (by omega)];by_cases h0:chk r c l=0
 ·have q:=mg.1 h0;rw[h0,if_neg (c:=(0:Int) ≠ 0) (λh=>h rfl),show((0:Int) != 0)=false from rfl,cond_false];by_cases h1:r=c
  ·subst h1;have e1:((r != r)==false)=true:=by simp
   rw[if_neg (c:=r ≠ r) (λh=>h rfl),e1,cond_true];obtain⟨n,hn⟩:∃ n:Nat,r=n:=⟨r.toNat,by omega⟩
   subst hn;by_cases h2:(x.length:Int)=n
   ·have e2:(((x.length:Nat):Int) != (n:Int))=false:=by simp[h2]
    have hl:l.length=n*n:=by exact_mod_cast q.2.1
    have hn12:n<=12:=by omega
    rw[e2,cond_false,if_neg (c:=((x.length:Nat):Int) ≠ (n:Int)) (λh=>h h2),ge x ⟨by omega,by omega⟩];cases h3:aB x
    ·rfl
    ·rw[show(!true)=false from rfl,cond_false,JA (by omega) hn12 hl q.2.2,Int.toNat_natCast];cases h4:pF n l
     ·rfl
     ·rw[show(!true)=false from rfl,cond_false,wV hF hn12 hl q.2.2 hw (Qd hl q.2.2 h4)];cases xb n l <;> rfl
   ·have e2:(((x.length:Nat):Int) != (n:Int))=true:=by simp[h2]
    rw[e2,cond_true,if_pos (c:=((x.length:Nat):Int) ≠ (n:Int)) h2]; rfl
  ·have e1:((r != c)==false)=false:=by simp[h1]
   rw[e1,cond_false,if_pos (c:=r ≠ c) h1]; rfl
 ·have e0:(chk r c l != 0)=true:=by simp[h0]
  rw[e0,cond_true,if_pos (c:=chk r c l ≠ 0) h0,if_neg Vz]
theorem qF {x:List Fl} {r c:Int} {l:List Fl}:kw x r c l=0↔FM x r c l=0:=by
 unfold kw;split
 ·rename_i h; rw[h]; decide
 ·exact Iff.rfl
theorem NI {x:Fl}:aB [x]=aE x:=by show(true&&aE x)=aE x;rfl
def vN (n:Int) (h:List Fl) (r z:Fl):Int:=
 if (h.length:Int)=n then(if aB h=true/\aE r=true then(if fle r (some 0)=true then 152 else if aE z=true then 0 else 4)else 4)else 3
theorem CY {n:Int} {h:List Fl} {r z:Fl} (hc:vN n h r z=0):(h.length:Int)=n/\aB h=true/\aE r=true/\aE z=true/\fle r (some 0)=false:=by
 unfold vN at hc;split at hc
 ·rename_i h1;split at hc
  ·rename_i h2;split at hc
   ·cases hc
   ·rename_i h3;split at hc
    ·rename_i h4; exact⟨h1,h2.1,h2.2,h4,by simpa using h3⟩
    ·cases hc
  ·cases hc
 ·cases hc
def giV (n:Nat) (Y:List Fl) (B:Nat->Nat->Fl):Nat->Nat->Fl:=λi j=>kl (elt Y n i j) (B i j)
def giO (n:Nat) (Y:List Fl) (B:Nat->Nat->Fl) (bo:Nat->Nat->Bool):Nat->Nat->Bool:=λi j=>bo i j || !aE (giV n Y B i j)
def gvV (V:List Fl) (C:Nat->Fl):Nat->Fl:=λi=>kl (V.getD i none) (C i)
def gvO (V:List Fl) (C:Nat->Fl) (co:Nat->Bool):Nat->Bool:=λi=>co i || !aE (gvV V C i)
def B7 (n:Nat) (Y V:List Fl) (B:Nat->Nat->Fl) (C:Nat->Fl) (bo:Nat->Nat->Bool) (co:Nat->Bool):Bool:=orB (λi=>orB (λj=>giO n Y B bo i j) (i+1)||gvO V C co i) n
def gM (n:Nat) (Y:List Fl) (B:Nat->Nat->Fl):List Fl:=mf n (mir (giV n Y B))
def gV (n:Nat) (V:List Fl) (C:Nat->Fl):List Fl:=vf n (gvV V C)
def gK (n:Nat) (Y V:List Fl) (B:Nat->Nat->Fl) (C:Nat->Fl) (bo:Nat->Nat->Bool) (co:Nat->Bool) (k0:Int->Int->Int->Bool) (k1:Int->Int->Int->List Fl->List Fl->Bool):Bool:=
 cond (B7 n Y V B C bo co) (k0 0 0 5) (cond (!xb n (gM n Y B)) (k0 0 0 170) (k1 n n 0 (gM n Y B) (gV n V C)))
theorem AA {n:Nat} {Y V:List Fl} {B:Nat->Nat->Fl} {C:Nat->Fl} {bo:Nat->Nat->Bool} {co:Nat->Bool} (h:B7 n Y V B C bo co=false) :
  (∀ i j,i<n->j<=i->bo i j=false/\aE (giV n Y B i j)=true) /\ ∀ i,i<n->co i=false/\aE (gvV V C i)=true:=by
 unfold B7 at h;refine⟨λi j hi hj=>?_,λi hi=>?_⟩
 ·have h1:=iY h i hi;rw[Bool.or_eq_false_iff]at h1;have h2:=iY h1.1 j (by omega);unfold giO at h2;simpa using h2
 ·have h1:=iY h i hi;rw[Bool.or_eq_false_iff]at h1;have h2:=h1.2;unfold gvO at h2;simpa using h2
def wB (h:List Fl) (r:Fl):Nat->Nat->Fl:=λi j=>fdiv (dq (h.getD i none) (h.getD j none)) r
def wBo (h:List Fl) (r:Fl):Nat->Nat->Bool:=λi j=>!aE (dq (h.getD i none) (h.getD j none)) || !aE (wB h r i j)
def wC (h:List Fl) (r z:Fl):Nat->Fl:=λi=>fdiv (dq (h.getD i none) z) r
def wCo (h:List Fl) (r z:Fl):Nat->Bool:=λi=>!aE (dq (h.getD i none) z) || !aE (wC h r z i)
theorem Xj {n:Nat} {Y V:List Fl} {B:Nat->Nat->Fl} {C:Nat->Fl} {bo:Nat->Nat->Bool} {co:Nat->Bool} (h:B7 n Y V B C bo co=false):∀ i j,i<n->j<=i->aE (giV n Y B i j)=true:=
 λi j hi hj=>((AA h).1 i j hi hj).2
theorem RA {p:Nat->Bool}:∀{n:Nat},orB p n=false ↔ ∀ i,i<n->p i=false
 | 0=>⟨λ_ i hi=>absurd hi (Nat.not_lt_zero _),λ_=>rfl⟩
 | n+1=>by show(orB p n||p n)=false↔_;rw[Bool.or_eq_false_iff,RA];exact⟨λ⟨h1,h2⟩ i hi=>(Nat.lt_or_ge i n).elim (h1 i) (λh=>by rw[show i=n by omega]; exact h2),λh=>⟨λi hi=>h i (by omega),h n (by omega)⟩⟩
theorem WD {x:Fl} (h:aE x=true):∃ b,x=some b:=by
 cases x with
 | none=>cases h
 | some b=>exact⟨b,rfl⟩
theorem ON {N:Nat} {v y:List Int} (hv:bW N v.length) (hy:bW N y.length) (r c:Int) (k:List Fl->List Fl->Bool):Wl N v r c y k=k (uI y) (uI v):=by
 (unfold Wl; try rw[ac]); unfold WY
 rw[AZ v hv,AZ y hy]
abbrev KI:=Int->Int->List Fl->List Fl->Int->Bool
def upI (Y V h:List Fl) (r z:Fl) (rr cc:Int) (k:KI):Bool:=
 if kw V rr cc Y ≠ 0 then k 0 0 [] [] (kw V rr cc Y)else if vN V.length h r z ≠ 0 then k 0 0 [] [] (vN V.length h r z)else
 gK V.length Y V (wB h r) (wC h r z) (wBo h r) (wCo h r z) (λa b e=>k a b [] [] e) (λa b e M v=>k a b M v e)
theorem Pl {n:Int} {h:List Fl} {r z:Fl} (q:vN n h r z=0):(h.length:Int)=n:=(CY q).1
def Vu (n:Nat) (x p:List Fl):Prop:=n<=12/\x.length=n/\p.length=n*n/\aB x=true/\aB p=true/\pF n p=true/\xb n p=true/\AllW p
theorem Bc {n:Nat} (v:Nat->Nat->Fl):pF n (mf n (mir v))=true:=by
 unfold pF;refine bU.2 λi hi=>bU.2 λj hj=>?_
 have hj2:j<n:=by omega
 rw[mQ n _ hi hj2,mQ n _ hj2 hi];have:mir v i j=mir v j i:=by unfold mir;rw[if_pos (by omega),if_neg (by omega)]
 rw[this];exact decide_eq_true rfl
theorem Xs {N:Nat} (hN:1000<=N) (r c:Int) (l:List Fl) (k:Int->Bool):GC N r c l k=k (trE r c l):=by
 by_cases h0:evE r c l=0
 ·obtain⟨n,hn,rfl,rfl,hl,hf⟩:=nM h0;rw[FY hn hN hl hf];unfold trE;rw[ifz h0,Int.toNat_natCast];rfl
 ·have e:trE r c l=evE r c l:=by unfold trE; rw[if_pos h0]
  rw[e];unfold GC; rw[ac]; unfold I5;rw[sF hN];unfold evE at h0 ⊢;by_cases h1:chk r c l=0
  ·rw[ifz h1]at h0 ⊢;have h2:¬ r=c:=by intro h2;rw[if_neg (λq=>q h2)]at h0;exact h0 rfl
   rw[if_pos h2,h1,show((0:Int) != 0)=false from rfl,cond_false,bH _ _ h2,cond_true]
  ·rw[fJ h1,bH _ _ h1,cond_true]
theorem Xl {n i m:Nat} {l:List Fl} (h:l.length=n*n) (hi:i<n) (hm:m<=n):(List.drop 0 (List.take m (IG l n i))).length=m /\ ∀ t,t<m->(List.drop 0 (List.take m (IG l n i))).getD t none=elt l n i t:=by rw[List.drop_zero];refine⟨by rw[List.length_take,GA h hi]; omega,λt ht=>?_⟩;rw[List.getD_eq_getElem?_getD,List.getElem?_take,if_pos ht,<- List.getD_eq_getElem?_getD,Md h hi (by omega)]
theorem Zw {t:Fl} (ht:FW t) (f g:Nat->Fl):∀ k,FW (sV t f g k)
 | 0=>ht
 | k+1=>I2 _ _
theorem WI (f g:Nat->Fl):∀ k,FW (dV f g k)
 | 0=>I3
 | k+1=>ox _ _
theorem Sj (l:Nat->Nat->Fl) (b:Nat->Fl) (n:Nat):∀ m a,FW (uT l b n m a)
 | 0,a=>I3
 | m+1,a=>by
  show FW (if a=n - 1 - m then _ else uT l b n m a);by_cases h:a=n - 1 - m
  ·rw[if_pos h]; exact tN _ _
  ·rw[if_neg h]; exact Sj l b n m a
theorem Te (n:Nat) (L B:Nat->Nat->Fl) (i j:Nat):FW (smX n L B i j):=Sj _ _ _ _ _
theorem IZ {n:Nat} {g:Nat->Fl} {P:Fl->Prop} (h:∀ i,i<n->P (g i)):∀ i,i<(vf n g).length->P ((vf n g).getD i none):=by intro i hi;rw[cN]at hi;rw[nv n g hi];exact h i hi
theorem Pu (l:List Int):(uI l).length=l.length:=by unfold uI; rw[List.length_map]
theorem BA {N:Nat} {l:List Int} (h:bW N l.length):bW N (uI l).length:=by rw[Pu]; exact h
theorem Qn {n:Nat} {g:Nat->Fl} (h:∀ i,i<n->aE (g i)=true):aB (vf n g)=true:=by unfold aB;rw[bU];exact IZ (P:=λx=>aE x=true) h
theorem VC {n:Nat} {l:Nat->Nat->Fl} {b:Nat->Fl} (h:orB (dP l b) n=false):∀ i,i<n->aE (dX l b i)=true:=λi hi=>by have:=iY h i hi;unfold dP at this;rw[Bool.or_eq_false_iff]at this;simpa using this.2
theorem KH (r c:Int) (a:List Fl):(∃ p e:Int,e ≠ 0 /\ ∀ k:KC,chK r c a k=k 0 0 [] p e) \/
  (∃ n:Nat,n<=12/\r=n/\c=n/\a.length=n*n/\(cR (elt a n) n n 0 false).2=0 /\ ∀ k:KC,chK r c a k=k n n (mf n (cL (elt a n))) 0 0):=by
 unfold chK;by_cases h0:sqE r c a=0
 ·obtain⟨n,hn,rfl,rfl,hl,hf,hs⟩:=tB h0;by_cases h1:(cR (elt a (n:Int).toNat) (n:Int).toNat (n:Int).toNat 0 false).2=0
  ·exact .inr ⟨n,hn,rfl,rfl,hl,h1,λk=>by rw[ifz h0,ifz h1]; rfl⟩
  ·exact .inl ⟨_,_,h1,λk=>by rw[ifz h0,fJ h1]⟩
 ·exact .inl ⟨0,_,h0,λk=>by rw[fJ h0]⟩
theorem K7 (r c:Int) (a:List Fl):(∃ p e:Int,e ≠ 0 /\ ∀ k:KC,ivK r c a k=k 0 0 [] p e) \/
  (∃(n:Nat) (P:List Fl),n<=12/\r=n/\c=n/\P.length=n*n/\aB P=true/\AllW P/\EN n P/\pF n P=true /\ ∀ k:KC,ivK r c a k=k n n P 0 0):=by
 unfold ivK;by_cases h0:sqE r c a=0
 ·obtain⟨n,hn,rfl,rfl,hl,hf,hs⟩:=tB h0;by_cases h1:(cR (elt a (n:Int).toNat) (n:Int).toNat (n:Int).toNat 0 false).2=0
  ·cases h2:smO (n:Int).toNat (cL (elt a (n:Int).toNat)) np
   ·refine .inr ⟨n,_,hn,rfl,rfl,cW n _,vR (zO λi j hi hj=>?_),Rq (JL λa b=>Te _ _ _ _ _),DY _,Bc _,λk=>by rw[ifz h0,ifz h1,if_neg (by decide)]; rfl⟩;exact J_ h2 i j hi (by omega)
   ·exact .inl ⟨0,5,by decide,λk=>by rw[ifz h0,ifz h1,if_pos rfl]⟩
  ·exact .inl ⟨_,_,h1,λk=>by rw[ifz h0,fJ h1]⟩
 ·exact .inl ⟨0,_,h0,λk=>by rw[fJ h0]⟩
theorem Mw (r c:Int) (a b:List Fl):(∃ p e:Int,e ≠ 0 /\ ∀ k:KVx,svK r c a b k=k [] p e) \/
  (∃(n:Nat) (x:List Fl),n<=12/\r=n/\c=n/\x.length=n/\aB x=true /\ ∀ k:KVx,svK r c a b k=k x 0 0):=by
 unfold svK;by_cases h0:evE r c a=0
 ·by_cases h1:zx r b=0
  ·by_cases h2:sqE r c a=0
   ·obtain⟨n,hn,rfl,rfl,hl,hf,hs⟩:=tB h2;by_cases h3:(cR (elt a (n:Int).toNat) (n:Int).toNat (n:Int).toNat 0 false).2=0
    ·cases h4:slO (n:Int).toNat (cL (elt a (n:Int).toNat)) (bt b)
     ·exact .inr ⟨n,_,hn,rfl,rfl,cN _ _,Qn λi hi=>J9 h4 i hi,λk=>by rw[ifz h0,ifz h1,ifz h2,ifz h3,if_neg (by decide)]; rfl⟩
     ·exact .inl ⟨0,5,by decide,λk=>by rw[ifz h0,ifz h1,ifz h2,ifz h3,if_pos rfl]⟩
    ·exact .inl ⟨_,_,h3,λk=>by rw[ifz h0,ifz h1,ifz h2,fJ h3]⟩
   ·exact .inl ⟨0,_,h2,λk=>by rw[ifz h0,ifz h1,fJ h2]⟩
  ·exact .inl ⟨0,_,h1,λk=>by rw[ifz h0,fJ h1]⟩
 ·exact .inl ⟨0,_,h0,λk=>by rw[fJ h0]⟩
theorem LM (r c:Int) (l b:List Fl):(∃ e:Int,e ≠ 0 /\ ∀ k:KW,lwK r c l b k=k [] e) \/
  (∃(n:Nat) (x:List Fl),n<=12/\r=n/\c=n/\l.length=n*n/\aB l=true/\Qj n l=true/\x.length=n/\aB x=true /\ ∀ k:KW,lwK r c l b k=k x 0):=by
 unfold lwK;by_cases h0:trE r c l=0
 ·by_cases h1:zx r b=0
  ·obtain⟨n,hn,rfl,rfl,hl,hf,ht⟩:=xo h0;cases h4:orB (dP (elt l (n:Int).toNat) (bt b)) (n:Int).toNat
   ·exact .inr ⟨n,_,hn,rfl,rfl,hl,hf,ht,cN _ _,Qn λi hi=>VC h4 i hi,λk=>by rw[ifz h0,ifz h1,if_neg (by decide)]; rfl⟩
   ·exact .inl ⟨5,by decide,λk=>by rw[ifz h0,ifz h1,if_pos rfl]⟩
  ·exact .inl ⟨_,h1,λk=>by rw[ifz h0,fJ h1]⟩
 ·exact .inl ⟨_,h0,λk=>by rw[fJ h0]⟩
theorem LY (r c:Int) (l:List Fl):(∃ e:Int,e ≠ 0 /\ ∀ k:Int->Int->List Fl->Int->Bool,qdK r c l k=k 0 0 [] e) \/
  (∃(n:Nat) (Q:List Fl),n<=12/\r=n/\c=n/\l.length=n*n/\Q.length=n*n/\aB Q=true/\AllW Q/\EN n Q/\pF n Q=true /\ ∀ k:Int->Int->List Fl->Int->Bool,qdK r c l k=k n n Q 0):=by
 unfold qdK;by_cases h0:trE r c l=0
 ·obtain⟨n,hn,rfl,rfl,hl,hf,ht⟩:=xo h0;cases h4:orL (n:Int).toNat (qdO l (n:Int).toNat)
  ·refine .inr ⟨n,_,hn,rfl,rfl,hl,cW n _,vR (zO λi j hi hj=>?_),Rq (JL λa b=>WI _ _ _),DY _,Bc _,λk=>by rw[ifz h0,if_neg (by decide)]; rfl⟩;exact VB (iY (iY h4 i hi) j (by omega))
  ·exact .inl ⟨5,by decide,λk=>by rw[ifz h0,if_pos rfl]⟩
 ·exact .inl ⟨_,h0,λk=>by rw[fJ h0]⟩
theorem xQ {x:List Fl} {r c:Int} {xs:List Fl} (h:qE x r c xs=0):r=x.length/\c=x.length/\x.length<=12/\xs.length=x.length*x.length/\aB x=true/\aB xs=true:=by
 unfold qE at h;split at h
 ·exact absurd h (by assumption)
 ·rename_i h0;have h0:chk r c xs=0:=by simpa using h0
  split at h
  ·rename_i h1;obtain⟨rfl,h1⟩:=h1;subst h1;have q:=mg.1 h0;split at h
   ·rename_i h2;exact⟨rfl,rfl,by omega,by exact_mod_cast q.2.1,h2,q.2.2⟩
   ·cases h
  ·cases h
abbrev KM:=Int->Int->List Fl->List Fl->Int->Bool
theorem OM {N n:Nat} (hN:1000<=N) {a b:List Fl} (f g:Nat->Fl) (ha:a.length=n) (hn:n<=12) (hb:n<=b.length) (hf:∀ t,t<n->a.getD t none=f t) (hg:∀ t,t<n->b.getD t none=g t) (o:Bool) (k:Fl->Bool->Bool) :
  PR N a b o k=k (dV f g n) (o||dO f g n):=by
 (unfold PR; rw[ac]; unfold Ni)
 have h1:((some 0,(0:Int),o):Fl × Int × Bool)=(λt:Nat=>(dV f g t,(t:Int),(o||dO f g t))) 0:=by show _=(some 0,((0:Nat):Int),(o||false)); rw[Bl]; rfl
 rw[h1];refine aP (λt:Nat=>(dV f g t,(t:Int),(o||dO f g t))) n (by omega) ?_ ?_
 ·intro t ht K;unfold kX;dsimp only;rw[ha,decide_eq_true (by omega:(t:Int)<(n:Int)),cond_true,aa (ai (by omega) (by omega)),aa (ai (by omega) (by omega)),Int.toNat_natCast,hf t ht,hg t ht,oQ,ky (ox _ _),aa (ab (by omega) (by omega)),Jm o f g t];rfl
 ·intro K;unfold kX;dsimp only;rw[ha,decide_eq_false (by omega:¬(n:Int)<(n:Int)),cond_false]
theorem O4 {N n i:Nat} (hn:n<=12) (hi:i<n) {l:List Fl} (h:l.length=n*n) (k:List Fl->Bool):wb N n n l i k=k (IG l n i):=by
 obtain⟨h1,h2,h3,h4,h5,h6⟩:=Me (by omega:n<=100) hi h
 (unfold wb; rw[ac]; unfold vk)
 rw[aa h1,aa h2,aa h3,aa h4,h5,h6];rfl
def urV (L Z:List Fl) (n:Nat) (i:Nat):Fl:=dV (λt=>elt L n i t) (bt Z) (i+1)
def urO (L Z:List Fl) (n:Nat) (i:Nat):Bool:=dO (λt=>elt L n i t) (bt Z) (i+1)
theorem DS {N n:Nat} (hN:1000<=N) (hn:n<=12) {L Z:List Fl} (hL:L.length=n*n) (hZ:Z.length=n) (a b:Int) (c:List Fl) (t2 t3 y0 y1:Int) (y2:List Fl) (e0:Bool->List Fl->Bool) :
  ah N (dU N n a b c Z t2 t3 n n L y0 y1 y2 e0) (0,false,List.replicate n (some 0))=e0 (orB (urO L Z n) n) (vf n (urV L Z n)):=by
 rw[Ju n (urV L Z n)];refine aP (λt:Nat=>((t:Int),orB (urO L Z n) t,vf n (fl_ (urV L Z n) t))) n (by omega) ?_ ?_
 ·intro i hi K;obtain⟨l1,g1⟩:=Xl (m:=i+1) hL hi (by omega);unfold dU;dsimp only;rw[decide_eq_true (by omega:(i:Int)<(n:Int)),cond_true,O4 hn hi hL,aa (ab (by omega) (by omega)),GA hL hi,aa (decide_eq_true ⟨by omega,by omega⟩),show Int.toNat ((i:Int)+1)=i+1 by omega];refine(OM hN (λt=>elt L n i t) (bt Z) l1 (by omega) (by omega) g1 (λ_ _=>rfl) _ _).trans ?_;rw[cN,aa (ai (by omega) (by omega)),Int.toNat_natCast,aa (decide_eq_true hi),aa (ab (by omega) (by omega)),I0 _ _ hi];rw[show dV (λt=>elt L n i t) (bt Z) (i+1)=urV L Z n i from rfl,Jt];rfl
 ·intro K;unfold dU;dsimp only;rw[decide_eq_false (by omega:¬(n:Int)<(n:Int)),cond_false,Oq]
theorem x_ {N n:Nat} (hF:Fuel N) (hn:n<=12) {Q:List Fl} (hQ:Q.length=n*n) (fQ:aB Q=true) (wQ:AllW Q) (sQ:EN n Q) (o:Bool) (v:List Fl) (k0:Int->Int->Int->Bool) (k1:Int->Bool) :
  gj N n n Q o v k0 k1=cond o (k0 0 0 5) (cond (!xb n Q) (k0 0 0 170) (k1 0)):=by
 (unfold gj; rw[ac]; unfold jN; unfold Cd; rw[ac]; unfold Kr)
 rw[wV hF hn hQ fQ wQ sQ]
theorem F_ {N:Nat} (n:Int) (h:List Fl) (r z:Fl) (hs:bW N h.length) (h1:1<N) (k:Int->Bool):oY N n h r z k=k (vN n h r z):=by
 ((unfold oY; rw[ac]); try rw[ac]); unfold rT vN
 have o1:∀ x:Fl,bW N [x].length:=λx=>⟨h1,by show 1<=17592186044416; omega⟩
 simp only[ge h hs,ge [r] (o1 r),ge [z] (o1 z),NI];by_cases e:(h.length:Int)=n
 ·rw[show(((h.length:Nat):Int) != n)=false by simp[e],if_pos e];cases aB h <;> cases aE r <;> cases fle r (some 0) <;> cases aE z <;> rfl
 ·rw[show(((h.length:Nat):Int) != n)=true by simp[e],if_neg e]; rfl
theorem Ic {N n:Nat} (hF:Fuel N) (hn:n<=12) (Y V:List Fl) (B:Nat->Nat->Fl) (C:Nat->Fl) (bo:Nat->Nat->Bool) (co:Nat->Bool) (k0:Int->Int->Int->Bool) (k1:Int->Bool) :
  iN N n n (B7 n Y V B C bo co) (gV n V C) (gM n Y B) k0 k1=cond (B7 n Y V B C bo co) (k0 0 0 5) (cond (!xb n (gM n Y B)) (k0 0 0 170) (k1 0)):=by
 (unfold iN; rw[ac]; unfold im)
 ((unfold Cd; rw[ac]); try rw[ac]); unfold Kr
 cases h:B7 n Y V B C bo co
 ·rw[cond_false,cond_false];obtain⟨h1,h2⟩:=AA h;exact wV hF hn (cW _ _) (vR (zO λa b ha hb=>(h1 a b ha hb).2)) (Rq (JL λa b=>ox _ _)) (DY _) _
 ·rfl
end Go.Proofs.YtdinakfmablagaaGreatDoor
end
section
end
