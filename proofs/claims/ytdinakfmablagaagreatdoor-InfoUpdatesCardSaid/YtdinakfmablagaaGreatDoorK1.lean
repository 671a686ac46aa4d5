/- Laws in plain Lean. Conditions: none. -/
import Derived.Test.YtdinakfmablagaaGreatDoorC13
import Derived.Test.YtdinakfmablagaaGreatDoorX0
set_option linter.unusedVariables false
section
namespace Go.Proofs.YtdinakfmablagaaGreatDoor
open Go Go.Mach Ieee
theorem O2 {N:Nat} (hN:1000<=N) (k:Bool->List Int->Bool):lV N 1 k=k false (ai 1):=yI (N:=N) 1 (by decide) (nj hN (by decide)) (by omega) k
theorem US (a b:Nat):flt (some a) (some b)=((Ieee.double.read a).order (Ieee.double.read b)==some .lt):=rfl
theorem OX (a b:Nat):feq (some a) (some b)=((Ieee.double.read a).order (Ieee.double.read b)==some .eq):=rfl
theorem OY (a b:Nat):fgt (some a) (some b)=((Ieee.double.read a).order (Ieee.double.read b)==some .gt):=rfl
theorem Rl (a b:Nat):bD (some a) (some b)=((Ieee.double.read a).product (Ieee.double.read b)).map Ieee.double.write:=rfl
theorem Kc {b:Nat} (hb:W64 b) {s:Bool} {m:Nat} {i:Int} (h:Ieee.double.read b=.number s m i):∃ c,zM (some b)=some c/\W64 c/\Ieee.double.read c=.number false m i:=by
 have e:Ieee.double.read (b%9223372036854775808)=.number false m i:=by
  obtain⟨hs,hlt,h⟩:=ll h;unfold Format.read;simp only[b_,jv,dQ,jN];have e1:b%9223372036854775808%9223372036854775808=b%9223372036854775808:=by omega
  have e2:(b%9223372036854775808 / 9223372036854775808%2==1)=false:=by rw[beq_eq_false_iff_ne]; omega
  rw[e1,e2];rcases h with⟨h1,rfl,rfl⟩ | ⟨h1,rfl,rfl⟩
  ·rw[if_pos h1]
  ·rw[if_neg (by omega),if_pos hlt]
 have hn:isNaN (b%9223372036854775808)=false:=by unfold isNaN; rw[e]; rfl
 refine⟨b%9223372036854775808,?_,by unfold W64 at *; omega,e⟩;show gk _=_;unfold gk; rw[hn]; rfl
theorem zQ (N:Nat) {x:Fl} (hx:aG x=true) (hw:FW x) (k:Bool->Bool):l_ N x 0 k=k false:=by
 obtain⟨b,s,m,i,rfl,h⟩:=jD hx;obtain⟨c,hc,hcw,hcr⟩:=Kc (hw b rfl) h;have hp:=mB hcr;have hg:=zb hcr
 (unfold l_; rw[ac]; unfold ra)
 show k (fgt (zM (some b)) (some 9218868437227405311))=_;rw[hc];congr 1;have hr:Ieee.double.read 9218868437227405311=.number false 9007199254740991 971:=by decide
 rw[OY,hcr,hr];simp only[Datum.order];have hmin:min i 971=i:=by omega
 have e0:(i - i).toNat=0:=by omega
 rw[hmin,e0];have s1:signed false m 0=((m:Nat):Int):=rfl;have s2:signed false 9007199254740991 (971 - i).toNat=((9007199254740991 <<< (971 - i).toNat:Nat):Int):=rfl;rw[s1,s2,Nat.shiftLeft_eq];have hpw:0<2 ^ (971 - i).toNat:=Nat.two_pow_pos _;have hle:9007199254740991<=9007199254740991*2 ^ (971 - i).toNat:=Nat.le_mul_of_pos_right _ hpw;generalize 9007199254740991*2 ^ (971 - i).toNat=q at hle;have:compare (m:Int) (q:Int) ≠ .gt:=λe=>by have:=Int.compare_eq_gt.1 e; omega
 cases e:compare (m:Int) (q:Int)with
 | gt=>exact absurd e this
 | eq=>rfl
 | lt=>rfl
theorem Jg (d:Datum):W64 (Ieee.double.write d):=by
 cases d with
 | number s m i=>exact DJ s m i
 | infinity s=>
  have:Ieee.double.write (.infinity s)=Ieee.double.word s 9218868437227405312:=by rw[<- dQ]; rfl
  rw[this]; exact uI s (by decide)
 | nan s f=>
  have:Ieee.double.write (.nan s f)=Ieee.double.word s (9218868437227405312+f%4503599627370496):=by rw[<- dQ,<- jv]; rfl
  rw[this]; exact uI s (by omega)
theorem ur {o:Option Datum}:FW (o.map Ieee.double.write):=by
 intro b hb;cases o with
 | none=>cases hb
 | some d=>cases hb; exact Jg d
theorem A6 {f:Nat->Nat->Option Nat} (hf:∀ a b c,f a b=some c->W64 c) (x y:Fl):FW (C1 f x y):=by
 intro c hc;cases x with
 | none=>cases hc
 | some a=>cases y with
  | none=>cases hc
  | some b=>exact hf a b c hc
theorem kF (x y:Fl):FW (cD x y):=A6 (λa b c h=>ur c h) x y
theorem MK (x y:Fl):FW (Br x y):=A6 (λa b c h=>ur c h) x y
theorem MJ (x y:Fl):FW (bD x y):=A6 (λa b c h=>ur c h) x y
theorem tP (x y:Fl):FW (fdiv x y):=A6 (λa b c h=>ur c h) x y
def NN (x:Fl):Prop:=∃ b,x=some b/\W64 b/\((∃ m i,Ieee.double.read b=.number false m i)\/Ieee.double.read b=.infinity false)
theorem Gk {r:Nat} (h:r<=9218868437227405312):NN (some (Ieee.double.word false r)):=by
 refine⟨_,rfl,uI false (by omega),?_⟩;rcases BR false h with e | ⟨m,i,e⟩
 ·exact .inr e
 ·exact .inl ⟨m,i,e⟩
theorem oe (m:Nat) (i:Int):NN (some (Ieee.double.write (.number false m i))):=by rw[uK];obtain⟨r,h,hr⟩:=tu false m i;rw[h]; exact Gk hr
theorem lN:NN (some (Ieee.double.write (.infinity false))):=by
 have:Ieee.double.write (.infinity false)=Ieee.double.word false 9218868437227405312:=by rw[<- dQ]; rfl
 rw[this]; exact Gk (by decide)
theorem HA {x:Fl} {b:Nat} (hx:x=some b) (h:(∃ s m i,Ieee.double.read b=.number s m i) \/ ∃ s,Ieee.double.read b=.infinity s):NN (bD x x):=by
 subst hx;rw[Rl];rcases h with⟨s,m,i,e⟩ | ⟨s,e⟩
 ·rw[e];have:(Datum.number s m i).product (.number s m i)=some (.number (s ^^ s) (m*m) (i+i)):=rfl;rw[this,Bool.xor_self,Option.map_some]; exact oe _ _
 ·rw[e];have:(Datum.infinity s).product (.infinity s)=some (.infinity (s ^^ s)):=rfl;rw[this,Bool.xor_self,Option.map_some]; exact lN
theorem MS {x y:Fl} (hx:NN x) (hy:NN y):NN (cD x y):=by
 obtain⟨a,rfl,-,ha⟩:=hx;obtain⟨b,rfl,-,hb⟩:=hy;show NN (((Ieee.double.read a).sum (Ieee.double.read b)).map Ieee.double.write);rcases ha with⟨m,i,ha⟩ | ha <;> rcases hb with⟨n,j,hb⟩ | hb <;> rw[ha,hb]
 ·simp only[Datum.sum,Option.map_some];have h1:signed false m (i - min i j).toNat=((m <<< (i - min i j).toNat:Nat):Int):=rfl;have h2:signed false n (j - min i j).toNat=((n <<< (j - min i j).toNat:Nat):Int):=rfl;rw[h1,h2];generalize m <<< (i - min i j).toNat=p;generalize n <<< (j - min i j).toNat=q;by_cases h0:(p:Int)+q=0
  ·rw[if_pos h0]; exact oe _ _
  ·rw[if_neg h0,decide_eq_false (by omega)]; exact oe _ _
 ·exact lN
 ·exact lN
 ·exact lN
def vl (x:Fl):Int:=match x with
 | some b=>match Ieee.double.read b with
  | .number s m i=>signed s m (i+1074).toNat
  | _=>0
 | none=>0
theorem MH {b:Nat} {s:Bool} {m:Nat} {i:Int} (h:Ieee.double.read b=.number s m i):vl (some b)=signed s m (i+1074).toNat:=by unfold vl; simp only[h]
def S6 (xs:List Fl):Nat->Fl
 | 0=>some 0
 | n+1=>fmm true (S6 xs n) (zM (xs.getD n none))
def GE1 (x:Fl):Prop:=∃ b,x=some b/\W64 b/\(Ieee.double.read b=.infinity false \/ ∃ m i,Ieee.double.read b=.number false m i/\4503599627370496<=m/\m<9007199254740992 /\ -52<=i)
def Dv (x:Fl):Prop:=∃ b,x=some b/\(Ieee.double.read b=.infinity false \/ ∃ m i,Ieee.double.read b=.number false m i/\m ≠ 0)
def UU (a b c:Fl):Int:=cond (!aF [a,b,c]) 4 (cond (feq a (some 0)&&(feq b (some 0)&&feq c (some 0))) 251 0)
def UQ (f g:K4->Bool):Prop:=∃ a b c d n,(a.isSome=true/\b.isSome=true/\c.isSome=true/\d.isSome=true)/\(∀ κ,f κ=κ a b c d n)/\(∀ κ,g κ=κ a b c d n)
set_option maxRecDepth 4000
theorem S7 {a0 a1 a2 a3 a4 a5 a6 a7 a8:Fl} (h:aF [a0,a1,a2,a3,a4,a5,a6,a7,a8]=true):chk 3 3 [a0,a1,a2,a3,a4,a5,a6,a7,a8]=0:=kV.2 ⟨by decide,rfl,h⟩
set_option maxRecDepth 4000
theorem H3 {b:Nat} (hb:W64 b) {s:Bool} (h:Ieee.double.read b=.infinity s):zM (some b)=some 9218868437227405312:=by
 unfold Format.read at h;simp only[b_,jv,dQ]at h;unfold W64 at hb;split at h
 ·cases h
 ·split at h
  ·cases h
  ·split at h
   ·rename_i h1 h2 h3;show gk (b%9223372036854775808)=_;have:b%9223372036854775808=9218868437227405312:=by omega
    rw[this]; decide
   ·cases h
theorem MY {N:Nat} {x:Fl} (hw:FW x) (o:Bool) (k:Bool->Bool):cond ((!feq x x)==false) (l_ N x 0 (λcr=>cond cr (k true) (k o))) (k true)=k (o || !aG x):=by
 cases hf:aG x with
 | true=>rw[KO hf,zQ N hf hw]; cases o <;> rfl
 | false=>
  rw[Bool.not_false,Bool.or_true];cases x with
  | none=>rfl
  | some b=>
   cases hr:Ieee.double.read b with
   | number s m i=>rw[GC hr]at hf; cases hf
   | nan s f=>
    have:feq (some b) (some b)=false:=by rw[OX,hr]; rfl
    rw[this]; rfl
   | infinity s=>
    have h1:feq (some b) (some b)=true:=by rw[OX,hr]; cases s <;> rfl
    rw[h1];show l_ N (some b) 0 _=_
    (unfold l_; rw[ac]; unfold ra)
    rw[show((0:Int)==0)=true from rfl,cond_true];simp only[uC];rw[H3 (hw b rfl) hr];have h2:fgt (some 9218868437227405312) (some 9218868437227405311)=true:=by decide
    rw[h2,cond_true]
theorem jJ {N:Nat} {x:Fl} (hw:FW x) (o:Bool) (k:Bool->Bool):jW N x o k=k (o || !aG x):=by
 (unfold jW; rw[ac]; unfold Pw)
 exact MY hw o k
theorem oE (N:Nat) (x y:Fl) (o:Bool) (k:Fl->Bool->Bool):so N x y o k=k (bD x y) (o || !aG (bD x y)):=by
 (unfold so; rw[ac]; unfold Jw)
 rw[jJ (MJ x y)]
theorem Tv {x y:Fl} (hx:aG x=true) (hy:Dv y):Nn (fdiv x y):=by
 obtain⟨a,s,m,i,rfl,ha⟩:=jD hx;obtain⟨b,rfl,hb⟩:=hy;show Nn (((Ieee.double.read a).quotient (Ieee.double.fractionBits+2) (Ieee.double.read b)).map Ieee.double.write);rw[ha];rcases hb with hb | ⟨n,j,hb,hn⟩
 ·rw[hb]; exact xJ _ _ _
 ·rw[hb]; simp only[Datum.quotient,if_neg hn]; exact xJ _ _ _
theorem GM {N n i j:Nat} (hn:n<=12) (hi:i<n) (hj:j<n) {l:List Fl} (h:l.length=n*n) (k:Fl->Bool):ne N n n l i j k=k (elt l n i j):=by obtain⟨h1,h2⟩:=dZ (by omega:n<=1000) hi hj;have h3:=ja hi hj;unfold ne vN elt;rw[bG,aa h1,aa h2,h,Int.toNat_natCast,aa (ah (by omega) (by omega))]
theorem fW {N n i j:Nat} (hn:n<=12) (hi:i<n) (hj:j<n) {l:List Fl} (h:l.length=n*n) (k:Fl->Bool):fh N n n l i j k=k (elt l n i j):=by obtain⟨h1,h2⟩:=dZ (by omega:n<=1000) hi hj;have h3:=ja hi hj;unfold fh Ck elt;rw[bG,aa h1,aa h2,h,Int.toNat_natCast,aa (ah (by omega) (by omega))]
def nX (n:Nat) (l:List Fl):Bool:=oi (λi=>oi (λj=>decide (cn (elt l n i j)=cn (elt l n j i))) i) n
theorem Nv {N n:Nat} (hN:1000<=N) (hn:n<=12) {l:List Fl} (h:l.length=n*n) (hf:aF l=true) (k:Bool->Bool):RZ N n n l k=k (nX n l):=by
 (unfold RZ; rw[ac]; unfold P5)
 rw[tg hN,Be hn h hf,show(((0:Int) != 0)==false)=true from rfl,cond_true];have:((n:Int) != (n:Int))=false:=by simp
 rw[this,cond_false];have hk:k (nX n l)=cond (nX n l) (k true) (k false):=by cases nX n l <;> rfl
 rw[hk];refine kn (λt:Nat=>(t:Int)) (λi=>oi (λj=>decide (cn (elt l n i j)=cn (elt l n j i))) i) n (by omega) ?_ ?_
 ·intro i hi K;unfold B9;dsimp only;rw[decide_eq_true (by omega:(i:Int)<(n:Int)),cond_true];refine(kn (λt:Nat=>(t:Int)) (λj=>decide (cn (elt l n i j)=cn (elt l n j i))) i (N:=N) (by omega) (ex:=k false) (out:=K (((i+1:Nat):Int))) ?_ ?_:_)
  ·intro j hj K';have hj2:j<n:=by omega
   unfold B_;dsimp only;rw[decide_eq_true (by omega:(j:Int)<(i:Int)),cond_true,GM hn hi hj2 h,GM hn hj2 hi h];unfold DT;dsimp only;by_cases he:cn (elt l n i j)=cn (elt l n j i)
   ·rw[decide_eq_true he,show(!true)=false from rfl,cond_false,cond_true,aa (ab (by omega) (by omega))];rfl
   ·rw[decide_eq_false he,show(!false)=true from rfl,cond_true,cond_false]
  ·intro K';unfold B_;dsimp only;rw[decide_eq_false (by omega:¬(i:Int)<(i:Int)),cond_false,aa (ab (by omega) (by omega))];rfl
 ·intro K;unfold B9;dsimp only;rw[decide_eq_false (by omega:¬(n:Int)<(n:Int)),cond_false]
theorem Iv {N:Nat} (r c:Int) (n:Int) (k:Int->Bool):qR N r c n k=k (if (0<=r/\r<=12)/\(0<=c/\c<=12)then(if n=r*c then 0 else 3)else 1):=by
 (unfold qR; rw[ac]; unfold pW)
 by_cases h1:r<0
 ·rw[decide_eq_true h1,if_neg (by omega)]; rfl
 ·rw[decide_eq_false h1];by_cases h2:r>12
  ·rw[decide_eq_true h2,if_neg (by omega)]; rfl
  ·rw[decide_eq_false h2];by_cases h3:c<0
   ·rw[decide_eq_true h3,if_neg (by omega)]; rfl
   ·rw[decide_eq_false h3];by_cases h4:c>12
    ·rw[decide_eq_true h4,if_neg (by omega)]; rfl
    ·have hr:0<=r/\r<=12:=by omega
     have hc:0<=c/\c<=12:=by omega
     rw[decide_eq_false h4,if_pos ⟨hr,hc⟩,G2 hr hc];by_cases h5:n=r*c
     ·have:(n != r*c)=false:=by simp[h5]
      rw[this,if_pos h5]; rfl
     ·have:(n != r*c)=true:=by simp[h5]
      rw[this,if_neg h5]; rfl
theorem uj {N:Nat} (hN:1000<=N) (r c:Int) (l:List Fl) (k:Int->Bool):mG N r c l k=k (chk r c l):=by
 (unfold mG; rw[ac]; unfold sF chk)
 rw[Iv];by_cases h1:(0<=r/\r<=12)/\(0<=c/\c<=12)
 ·rw[if_pos h1,if_pos h1];by_cases h2:(l.length:Int)=r*c
  ·have h3:=GV h1.1 h1.2;have h6:l.length<=144:=by rw[<- h2]at h3; omega
   rw[if_pos h2,if_pos h2,show((0:Int) != 0)=false from rfl,cond_false,kI l ⟨by omega,by omega⟩];cases aF l <;> rfl
  ·rw[if_neg h2,if_neg h2]; rfl
 ·rw[if_neg h1,if_neg h1]; rfl
theorem Lg {N n:Nat} (hN:1000<=N) (hn:n<=12) {l:List Fl} (h:l.length=n*n) (hf:aF l=true) (k:Int->Bool):Mc N n n l k=k (if nX n l=true then 0 else 91):=by
 (unfold Mc; rw[ac]; unfold JG)
 rw[uj hN,Be hn h hf,show((0:Int) != 0)=false from rfl,cond_false];have:((n:Int) != (n:Int))=false:=by simp
 rw[this,cond_false];have hk:k (if nX n l=true then 0 else 91)=cond (nX n l) (k 0) (k 91):=by cases nX n l <;> rfl
 rw[hk];refine kn (λt:Nat=>(t:Int)) (λi=>oi (λj=>decide (cn (elt l n i j)=cn (elt l n j i))) i) n (by omega) ?_ ?_
 ·intro i hi K;unfold fK;dsimp only;rw[decide_eq_true (by omega:(i:Int)<(n:Int)),cond_true];refine(kn (λt:Nat=>(t:Int)) (λj=>decide (cn (elt l n i j)=cn (elt l n j i))) i (N:=N) (by omega) (ex:=k 91) (out:=K (((i+1:Nat):Int))) ?_ ?_:_)
  ·intro j hj K';have hj2:j<n:=by omega
   unfold fL;dsimp only;rw[decide_eq_true (by omega:(j:Int)<(i:Int)),cond_true,fW hn hi hj2 h,fW hn hj2 hi h,uo];by_cases he:cn (elt l n i j)=cn (elt l n j i)
   ·rw[decide_eq_true he,show(!true)=false from rfl,cond_false,cond_true,aa (ab (by omega) (by omega))];rfl
   ·rw[decide_eq_false he,show(!false)=true from rfl,cond_true,cond_false]
  ·intro K';unfold fL;dsimp only;rw[decide_eq_false (by omega:¬(i:Int)<(i:Int)),cond_false,aa (ab (by omega) (by omega))];rfl
 ·intro K;unfold fK;dsimp only;rw[decide_eq_false (by omega:¬(n:Int)<(n:Int)),cond_false]
theorem uW {x:Fl} (h:aG x=true):cn x=x:=by obtain⟨b,rfl,hb⟩:=Q9 h;simp only[cn,hb]; rfl
theorem Mz {n:Nat} {l:List Fl} (h:l.length=n*n) (hf:aF l=true) (hs:nX n l=true):J9 n l:=by
 have key:∀ i j,j<i->i<n->elt l n i j=elt l n j i:=by
  intro i j hj hi;have h1:=cL.1 (cL.1 hs i hi) j hj;have h2:=of_decide_eq_true h1;have hj2:j<n:=by omega
  have e1:=ja hi hj2;have e2:=ja hj2 hi;rw[uW (x:=elt l n i j) (du hf (by omega)),uW (x:=elt l n j i) (du hf (by omega))]at h2;exact h2
 intro a b ha hb;show oV (ofE (elt l n a b))=oV (ofE (elt l n b a));rcases Nat.lt_trichotomy a b with h1 | h1 | h1
 ·rw[key b a h1 hb]
 ·rw[h1]
 ·rw[key a b h1 ha]
def vk (x:List Fl) (r c:Int) (l:List Fl):Int:=
 if chk r c l ≠ 0 then chk r c l else if r ≠ c then 3 else if (x.length:Int) ≠ r then 3 else if aF x=false then 4 else if nX r.toNat l=false then 150 else if vx r.toNat l=false then 151 else 0
theorem jq {x:List Fl} {r c:Int} {l:List Fl} (h:vk x r c l=0):∃ n:Nat,n<=12/\r=n/\c=n/\x.length=n/\l.length=n*n/\aF x=true/\aF l=true/\nX n l=true/\vx n l=true:=by
 unfold vk at h;split at h
 ·exact absurd h (by assumption)
 ·rename_i h0;have h0:chk r c l=0:=by simpa using h0
  have q:=kV.1 h0;split at h
  ·cases h
  ·rename_i h1;split at h
   ·cases h
   ·rename_i h2;split at h
    ·cases h
    ·rename_i h3;split at h
     ·cases h
     ·rename_i h4;split at h
      ·cases h
      ·rename_i h5;obtain⟨n,hn⟩:∃ n:Nat,r=n:=⟨r.toNat,by omega⟩
       have h1:r=c:=by simpa using h1
       subst hn;subst h1;rw[Int.toNat_natCast]at h4 h5;refine⟨n,by omega,rfl,rfl,by omega,by exact_mod_cast q.2.1,by simpa using h3,q.2.2,by simpa using h4,by simpa using h5⟩
theorem Di {N:Nat} (hF:Fuel N) (x:List Fl) (r c:Int) (l:List Fl) (hw:AllW l) (k:Int->Bool):qS N x r c l k=k (vk x r c l):=by
 have hN:=hF.lt
 (unfold qS; rw[ac]; unfold pX; unfold wO; rw[ac]; unfold pY pc xH vk)
 rw[uj (by omega)];dsimp only;by_cases h0:chk r c l=0
 ·have q:=kV.1 h0;rw[h0,if_neg (λh=>h rfl),show((0:Int) != 0)=false from rfl,cond_false];by_cases h1:r=c
  ·subst h1;have e1:((r != r)==false)=true:=by simp
   rw[if_neg (λh=>h rfl),e1,cond_true];obtain⟨n,hn⟩:∃ n:Nat,r=n:=⟨r.toNat,by omega⟩
   subst hn;by_cases h2:(x.length:Int)=n
   ·have e2:(((x.length:Nat):Int) != (n:Int))=false:=by simp[h2]
    have hl:l.length=n*n:=by exact_mod_cast q.2.1
    have hn12:n<=12:=by omega
    rw[e2,cond_false,if_neg (λh=>h h2),kI x ⟨by omega,by omega⟩];cases h3:aF x
    ·rfl
    ·rw[show(!true)=false from rfl,cond_false,if_neg (by decide),Lg (by omega) hn12 hl q.2.2,Int.toNat_natCast];cases h4:nX n l
     ·rfl
     ·rw[if_pos rfl,show((0:Int) != 0)=false from rfl,cond_false,cond_false,if_neg (by decide),oF hF hn12 hl q.2.2 hw (Mz hl q.2.2 h4)];cases vx n l <;> rfl
   ·have e2:(((x.length:Nat):Int) != (n:Int))=true:=by simp[h2]
    rw[e2,cond_true,if_pos h2]; rfl
  ·have e1:((r != c)==false)=false:=by simp[h1]
   rw[e1,cond_false,if_pos h1]; rfl
 ·have e0:(chk r c l != 0)=true:=by simp[h0]
  rw[e0,cond_true,if_pos h0];rfl
theorem wn {N:Nat} (x:Fl) (o:Bool) (k:Bool->Bool):iV N x o k=k (o || !aG x):=by
 (unfold iV; rw[ac]; unfold PG)
 cases o
 ·rw[show(false==false)=true from rfl,cond_true,mp]; rfl
 ·rfl
theorem LP {l:List Int} (h:∀ z,z ∈ l->z.toNat<18446744073709551616):AllW (ip l):=by intro x hx;unfold ip at hx;obtain⟨z,hz,rfl⟩:=List.mem_map.1 hx;exact Kl (h z hz)
def mf (n:Nat) (f:Nat->Nat->Fl):List Fl:=(List.range (n*n)).map (λt=>f (t / n) (t%n))
theorem kt (n:Nat) (f:Nat->Nat->Fl):(mf n f).length=n*n:=by unfold mf; rw[List.length_map,List.length_range]
theorem GT (n:Nat) (f:Nat->Nat->Fl) {i j:Nat} (hi:i<n) (hj:j<n) (z:Fl):(mf n f).getD (i*n+j) z=f i j:=by have h:=fG hi hj;unfold mf;rw[List.getD_eq_getElem?_getD,List.getElem?_map,List.getElem?_range h];simp only[Option.map_some,Option.getD_some,xm hj,xn hj]
theorem qv (n:Nat) (f:Nat->Nat->Fl) {i j:Nat} (hi:i<n) (hj:j<n):elt (mf n f) n i j=f i j:=GT n f hi hj none
theorem f7 (n:Nat) {f f':Nat->Nat->Fl} (h:∀ a b,a<n->b<n->f a b=f' a b):mf n f=mf n f':=by
 unfold mf;apply List.map_congr_left;intro t ht;have ht:=List.mem_range.1 ht;have hn:0<n:=by
  rcases Nat.eq_zero_or_pos n with h0 | h0
  ·rw[h0]at ht; omega
  ·exact h0
 rw[h _ _ (Nat.div_lt_of_lt_mul ht) (Nat.mod_lt _ hn)]
theorem yW (n:Nat) (f:Nat->Nat->Fl) {i j:Nat} (hi:i<n) (hj:j<n) (v:Fl):(mf n f).set (i*n+j) v=mf n (λa b=>if a=i/\b=j then v else f a b):=by
 have h:=fG hi hj;apply List.ext_getElem?;intro t;by_cases ht:t<n*n
 ·have hn:0<n:=by omega
  rw[List.getElem?_set];unfold mf;rw[List.getElem?_map,List.getElem?_map,List.getElem?_range ht];simp only[List.length_map,List.length_range,Option.map_some];by_cases he:i*n+j=t
  ·rw[if_pos he,if_pos h,<- he,xm hj,xn hj,if_pos ⟨rfl,rfl⟩]
  ·rw[if_neg he];have:¬(t / n=i/\t%n=j):=by rintro ⟨h1,h2⟩;apply he;rw[<- h1,<- h2,Nat.mul_comm];exact Nat.div_add_mod t n
   rw[if_neg this]
 ·rw[List.getElem?_eq_none (by rw[List.length_set,kt]; omega),List.getElem?_eq_none (by rw[kt]; omega)]
theorem xt (n:Nat):List.replicate (n*n) (some 0)=mf n (λ_ _=>some 0):=by
 apply List.ext_getElem?;intro t;unfold mf;rw[List.getElem?_map,List.getElem?_replicate];by_cases ht:t<n*n
 ·rw[if_pos ht,List.getElem?_range ht]; rfl
 ·rw[if_neg ht,List.getElem?_eq_none (by rw[List.length_range]; omega)]; rfl
def vf (n:Nat) (g:Nat->Fl):List Fl:=(List.range n).map g
theorem fk (n:Nat) (g:Nat->Fl):(vf n g).length=n:=by unfold vf; rw[List.length_map,List.length_range]
theorem xB (n:Nat) (g:Nat->Fl) {i:Nat} (hi:i<n) (z:Fl):(vf n g).getD i z=g i:=by unfold vf;rw[List.getD_eq_getElem?_getD,List.getElem?_map,List.getElem?_range hi]; rfl
theorem Cf (n:Nat) (g:Nat->Fl) {i:Nat} (hi:i<n):(vf n g).take i++[g i]=(vf n g).take (i+1):=by
 have hl:i<(vf n g).length:=by rw[fk]; exact hi
 rw[List.take_succ_eq_append_getElem hl];have:=xB n g hi none;rw[List.getD_eq_getElem?_getD,List.getElem?_eq_getElem hl]at this;rw[<- this]; rfl
theorem xA (n:Nat) (g:Nat->Fl) {i:Nat} (hi:i<n):((vf n g).take i++List.replicate (n - i) (some 0)).set i (g i)=(vf n g).take (i+1)++List.replicate (n - (i+1)) (some 0):=by have:=C3 (vf n g) (some 0) (t:=i) (by rw[fk]; exact hi);rw[fk,xB n g hi]at this;exact this
theorem nn (n:Nat) (g:Nat->Fl) {i:Nat} (hi:i<=n):((vf n g).take i++List.replicate (n - i) (some 0)).length=n:=by have:=C2 (vf n g) (some 0) (t:=i) (by rw[fk]; exact hi);rw[fk]at this;exact this
def dV (f g:Nat->Fl):Nat->Fl
 | 0=>some 0
 | t+1=>cD (dV f g t) (bD (f t) (g t))
def orB (p:Nat->Bool):Nat->Bool
 | 0=>false
 | t+1=>orB p t||p t
theorem nO {p:Nat->Bool}:∀{n:Nat},orB p n=false -> ∀ i,i<n->p i=false
 | 0,_,i,hi=>by omega
 | n+1,h,i,hi=>by
  unfold orB at h;rw[Bool.or_eq_false_iff]at h;rcases Nat.lt_or_ge i n with h1 | h1
  ·exact nO h.1 i h1
  ·rw[show i=n by omega]; exact h.2
theorem NU (o:Bool):(o||false)=o:=by cases o <;> rfl
theorem rG {N n i j:Nat} (hn:n<=12) (hi:i<n) (hj:j<n) (f:Nat->Nat->Fl) (x:Fl) (k:List Fl->Bool):qI N n n i j x (mf n f) k=k (mf n (λa b=>if a=i/\b=j then x else f a b)):=by obtain⟨h1,h2⟩:=dZ (by omega:n<=1000) hi hj;have h3:=ja hi hj;unfold qI Js;rw[bG,aa h1,aa h2,kt,Int.toNat_natCast,aa (ah (by omega) (by omega)),aa (decide_eq_true h3),yW n f hi hj]
theorem nJ {N n:Nat} (hn:n<=12) (k:List Fl->Bool):kA N n n k=k (mf n (λ_ _=>some 0)):=by have h2:n*n<=144:=sk hn;unfold kA xG;rw[<- Int.natCast_mul,aa (ab (by omega) (by omega)),aa (bZ (by omega) (by omega) (by omega) (by omega)),Int.toNat_natCast,xt]
def prV (n:Nat) (f p:List Fl):Nat->Nat->Fl:=λi j=>dV (λt=>elt f n i t) (λt=>elt p n t j) n
theorem xw (o:Bool) (p:Nat->Bool) (t:Nat):((o||orB p t)||p t)=(o||orB p (t+1)):=by show _=(o||(orB p t||p t)); rw[Bool.or_assoc]
def rS (g:Nat->Nat->Fl) (i j:Nat):Nat->Nat->Fl:=λa b=>if a<i\/(a=i/\b<j)then g a b else some 0
theorem NY (n:Nat) (g:Nat->Nat->Fl):mf n (λ_ _=>some 0)=mf n (rS g 0 0):=f7 n (λa b _ _=>by unfold rS; rw[if_neg (by omega)])
theorem RE (n:Nat) (g:Nat->Nat->Fl):mf n (rS g n 0)=mf n g:=f7 n (λa b ha _=>by unfold rS; rw[if_pos (.inl ha)])
theorem NX (n:Nat) (g:Nat->Nat->Fl) (i j:Nat):mf n (λa b=>if a=i/\b=j then g i j else rS g i j a b)=mf n (rS g i (j+1)):=f7 n (λa b _ _=>by
 unfold rS;by_cases h:a=i/\b=j
 ·rw[if_pos h,if_pos (by omega),h.1,h.2]
 ·rw[if_neg h];by_cases h2:a<i\/(a=i/\b<j)
  ·rw[if_pos h2,if_pos (by omega)]
  ·rw[if_neg h2,if_neg (by omega)])
def mir (v:Nat->Nat->Fl):Nat->Nat->Fl:=λa b=>if b<=a then v a b else v b a
def mS (v:Nat->Nat->Fl) (i j:Nat):Nat->Nat->Fl:=λa b=>if max a b<i\/(max a b=i/\min a b<j)then mir v a b else some 0
theorem xq (n:Nat) (v:Nat->Nat->Fl):mf n (λ_ _=>some 0)=mf n (mS v 0 0):=f7 n (λa b _ _=>by unfold mS; rw[if_neg (by omega)])
theorem BG (n:Nat) (v:Nat->Nat->Fl) (i:Nat):mf n (mS v i (i+1))=mf n (mS v (i+1) 0):=f7 n (λa b _ hb=>by
 unfold mS;by_cases h2:max a b<i\/(max a b=i/\min a b<i+1)
 ·rw[if_pos h2,if_pos (by omega)]
 ·rw[if_neg h2,if_neg (by omega)])
theorem BF (n:Nat) (v:Nat->Nat->Fl):mf n (mS v n 0)=mf n (mir v):=f7 n (λa b ha hb=>by unfold mS; rw[if_pos (by omega)])
theorem xp (n:Nat) (v:Nat->Nat->Fl) {i j:Nat} (hj:j<i+1):mf n (λa b=>if a=j/\b=i then v i j else if a=i/\b=j then v i j else mS v i j a b)=mf n (mS v i (j+1)):=f7 n (λa b _ _=>by
 unfold mS mir;by_cases h:a=j/\b=i
 ·rw[if_pos h,h.1,h.2,if_pos (by omega:max j i<i\/(max j i=i/\min j i<j+1))];by_cases hij:i<=j
  ·rw[if_pos hij,show j=i by omega]
  ·rw[if_neg hij]
 ·rw[if_neg h];by_cases h1:a=i/\b=j
  ·rw[if_pos h1,h1.1,h1.2,if_pos (by omega:max i j<i\/(max i j=i/\min i j<j+1)),if_pos (by omega:j<=i)]
  ·rw[if_neg h1];by_cases h2:max a b<i\/(max a b=i/\min a b<j)
   ·rw[if_pos h2,if_pos (by omega:max a b<i\/(max a b=i/\min a b<j+1))]
   ·rw[if_neg h2,if_neg (by omega:¬(max a b<i\/(max a b=i/\min a b<j+1)))])
def sqc (a b:Int) (l:List Fl) (n:Int):Int:=if chk a b l ≠ 0 then chk a b l else if a ≠ b then 3 else if a ≠ n then 3 else 0
theorem jQ (a b:Int) (h:¬ a=b):(a != b)=true:=by simp[h]
def low (v:Nat->Nat->Fl):Nat->Nat->Fl:=λa b=>if b<=a then v a b else some 0
theorem Dx {N n:Nat} (hN:1000<=N) (hn:n<=12) (v:Nat->Nat->Fl) (k:List Fl->Bool):D2 N n n (mf n (low v)) k=k (mf n (mir v)):=by
 (unfold D2; rw[ac]; unfold Gd)
 rw[nJ hn,xq n v];refine bw (λi:Nat=>((i:Int),mf n (mS v i 0))) n (by omega) ?_ ?_
 ·intro i hi K;unfold vH;dsimp only;rw[decide_eq_true (by omega:(i:Int)<(n:Int)),cond_true];refine(bw (λj:Nat=>((j:Int),mf n (mS v i j))) (i+1) (N:=N) (by omega) (out:=K ((((i+1:Nat)):Int),mf n (mS v (i+1) 0))) ?_ ?_:_)
  ·intro j hj K';have hj2:j<n:=by omega
   unfold vI;dsimp only;have hL:(mf n (low v)).length=n*n:=kt n _;have e:elt (mf n (low v)) n i j=v i j:=by rw[qv n _ hi hj2]; unfold low; rw[if_pos (by omega)]
   rw[decide_eq_true (by omega:(j:Int)<=(i:Int)),cond_true,fW hn hi hj2 hL,e,rG hn hi hj2,fW hn hi hj2 hL,e,rG hn hj2 hi,aa (ab (by omega) (by omega)),xp n v hj];rfl
  ·intro K';unfold vI;dsimp only;rw[decide_eq_false (by omega:¬((i+1:Nat):Int)<=(i:Int)),cond_false,aa (ab (by omega) (by omega)),BG];rfl
 ·intro K;unfold vH;dsimp only;rw[decide_eq_false (by omega:¬(n:Int)<(n:Int)),cond_false,BF]
theorem RC {n:Nat} {f:Nat->Nat->Fl} {P:Fl->Prop} (h:∀ a b,a<n->b<n->P (f a b)):∀ t,t<n*n->P ((mf n f).getD t none):=by
 intro t ht;have hn:0<n:=by
  rcases Nat.eq_zero_or_pos n with h0 | h0
  ·rw[h0]at ht; omega
  ·exact h0
 have:=GT n f (Nat.div_lt_of_lt_mul ht) (Nat.mod_lt t hn) none;rw[show t / n*n+t%n=t from by rw[Nat.mul_comm]; exact Nat.div_add_mod t n]at this;rw[this];exact h _ _ (Nat.div_lt_of_lt_mul ht) (Nat.mod_lt t hn)
theorem yV {n:Nat} {f:Nat->Nat->Fl} (h:∀ a b,a<n->b<n->aG (f a b)=true):aF (mf n f)=true:=by unfold aF;refine cL.2 (λt ht=>RC (P:=λx=>aG x=true) h t ?_);rw[kt]at ht; exact ht
theorem NI {n:Nat} {f:Nat->Nat->Fl} (h:∀ a b,FW (f a b)):AllW (mf n f):=by intro x hx;unfold mf at hx;obtain⟨t,-,rfl⟩:=List.mem_map.1 hx;exact h _ _
theorem BH {n:Nat} (v:Nat->Nat->Fl):J9 n (mf n (mir v)):=by
 intro a b ha hb;show oV (ofE (elt (mf n (mir v)) n a b))=oV (ofE (elt (mf n (mir v)) n b a));rw[qv n _ ha hb,qv n _ hb ha];unfold mir;rcases Nat.lt_trichotomy a b with h | h | h
 ·rw[if_neg (by omega),if_pos (by omega)]
 ·rw[h]
 ·rw[if_pos (by omega),if_neg (by omega)]
theorem GU {v:Nat->Nat->Fl} (h:∀ a b,FW (v a b)) (a b:Nat):FW (mir v a b):=by
 unfold mir; split
 ·exact h _ _
 ·exact h _ _
theorem xu {n:Nat} {v:Nat->Nat->Fl} (h:∀ a b,a<n->b<=a->aG (v a b)=true):∀ a b,a<n->b<n->aG (mir v a b)=true:=by
 intro a b ha hb;unfold mir; split
 ·exact h _ _ ha (by assumption)
 ·exact h _ _ hb (by omega)
theorem Si {N n:Nat} (hF:Fuel N) (hn:n<=12) (x:List Fl) {v:Nat->Nat->Fl} (b:Bool) (hb:b=false -> ∀ i j,i<n->j<=i->aG (v i j)=true) (hw:∀ i j,FW (v i j)) (k0:Int->Int->Int->Bool) (k1:Int->List Fl->Bool) :
  Ot N n n x (mf n (low v)) b k0 k1=cond b (k0 0 0 5) (cond (!vx n (mf n (mir v))) (k0 0 0 151) (k1 0 (mf n (mir v)))):=by
 have hN:=hF.lt
 (unfold Ot; rw[ac]; unfold MQ)
 cases b
 ·rw[cond_false,cond_false,Dx (by omega) hn,oF hF hn (kt n _) (yV (xu (hb rfl))) (NI (GU hw)) (BH _)]
 ·rfl
def spl (l:List Fl):Nat->List Fl
 | 0=>l
 | t+1=>(spl l t).set t (some 4635118810238550016)
theorem B4 (l:List Fl):∀ t,(spl l t).length=l.length
 | 0=>rfl
 | t+1=>by unfold spl; rw[List.length_set,B4 l t]
theorem LQ (l:List Int):(ip l).length=l.length:=by unfold ip; rw[List.length_map]
theorem tF {N:Nat} {l:List Int} (h:bO N l.length):bO N (ip l).length:=by rw[LQ]; exact h
theorem MG {n:Nat} {g:Nat->Fl} {P:Fl->Prop} (h:∀ i,i<n->P (g i)):∀ i,i<(vf n g).length->P ((vf n g).getD i none):=by intro i hi;rw[fk]at hi;rw[xB n g hi];exact h i hi
theorem Dh {N n:Nat} (hF:Fuel N) {l:List Fl} (hn:n<=12) (h:l.length=n*n) (hf:aF l=true) (hw:AllW l) (hs:J9 n l) (k:Bool->Bool) :
  i6 N n n l k=k (vx n l):=by
 (unfold i6; try rw[ac]); unfold pm
 rw[Dm hF hn h hf hw hs];rfl
def iS (x:List Fl) (r c:Int) (l:List Fl):Int:=if vk x r c l=151 then 170 else vk x r c l
theorem Rj {r c:Int} {l:List Fl}:chk r c l ≠ 151:=by
 unfold chk;split
 ·split
  ·split <;> decide
  ·decide
 ·decide
theorem tf {N:Nat} (hF:Fuel N) (x:List Fl) (r c:Int) (l:List Fl) (hw:AllW l) (k:Int->Bool):jX N r c l x k=k (iS x r c l):=by
 have hN:=hF.lt
 (unfold jX; rw[ac]; unfold ob iS vk)
 rw[tg (by omega)];by_cases h0:chk r c l=0
 ·have q:=kV.1 h0;rw[h0,if_neg (c:=(0:Int) ≠ 0) (λh=>h rfl),show((0:Int) != 0)=false from rfl,cond_false];by_cases h1:r=c
  ·subst h1;have e1:((r != r)==false)=true:=by simp
   rw[if_neg (c:=r ≠ r) (λh=>h rfl),e1,cond_true];obtain⟨n,hn⟩:∃ n:Nat,r=n:=⟨r.toNat,by omega⟩
   subst hn;by_cases h2:(x.length:Int)=n
   ·have e2:(((x.length:Nat):Int) != (n:Int))=false:=by simp[h2]
    have hl:l.length=n*n:=by exact_mod_cast q.2.1
    have hn12:n<=12:=by omega
    rw[e2,cond_false,if_neg (c:=((x.length:Nat):Int) ≠ (n:Int)) (λh=>h h2),jb x ⟨by omega,by omega⟩];cases h3:aF x
    ·rfl
    ·rw[show(!true)=false from rfl,cond_false,Nv (by omega) hn12 hl q.2.2,Int.toNat_natCast];cases h4:nX n l
     ·rfl
     ·rw[show(!true)=false from rfl,cond_false,Dh hF hn12 hl q.2.2 hw (Mz hl q.2.2 h4)];cases vx n l <;> rfl
   ·have e2:(((x.length:Nat):Int) != (n:Int))=true:=by simp[h2]
    rw[e2,cond_true,if_pos (c:=((x.length:Nat):Int) ≠ (n:Int)) h2]; rfl
  ·have e1:((r != c)==false)=false:=by simp[h1]
   rw[e1,cond_false,if_pos (c:=r ≠ c) h1]; rfl
 ·have e0:(chk r c l != 0)=true:=by simp[h0]
  rw[e0,cond_true,if_pos (c:=chk r c l ≠ 0) h0,if_neg Rj]
theorem qq {N:Nat} (hF:Fuel N) (x:List Fl) (r c:Int) (l:List Fl) (hw:AllW l) (k:Int->Bool):lz N r c l x k=k (iS x r c l):=by
 (unfold lz; try rw[ac]); unfold vR
 rw[Di hF _ _ _ _ hw];unfold iS;by_cases h:vk x r c l=151
 ·rw[if_pos h,h]; rfl
 ·rw[if_neg h,show(vk x r c l==151)=false by simp[h],cond_false]
theorem dG {x:List Fl} {r c:Int} {l:List Fl}:iS x r c l=0↔vk x r c l=0:=by
 unfold iS;split
 ·rename_i h; rw[h]; decide
 ·exact Iff.rfl
theorem Ke {x:Fl}:aF [x]=aG x:=by show(true&&aG x)=aG x;rfl
def nK (n:Int) (h:List Fl) (r z:Fl):Int:=
 if (h.length:Int)=n then(if aF h=true/\aG r=true then(if fle r (some 0)=true then 152 else if aG z=true then 0 else 4)else 4)else 3
theorem Ds {N:Nat} (n:Int) (h:List Fl) (r z:Fl) (hs:bO N h.length) (h1:1<N) (k:Int->Bool):nd N n h r z k=k (nK n h r z):=by
 (unfold nd; try rw[ac]); unfold pO nK
 have o1:∀ x:Fl,bO N [x].length:=λx=>⟨h1,by show 1<=17592186044416; omega⟩
 simp only[jb h hs,jb [r] (o1 r),jb [z] (o1 z),Ke];by_cases e:(h.length:Int)=n
 ·rw[show(((h.length:Nat):Int) != n)=false by simp[e],if_pos e];cases aF h <;> cases aG r <;> cases fle r (some 0) <;> cases aG z <;> rfl
 ·rw[show(((h.length:Nat):Int) != n)=true by simp[e],if_neg e]; rfl
theorem vu {n:Int} {h:List Fl} {r z:Fl} (hc:nK n h r z=0):(h.length:Int)=n/\aF h=true/\aG r=true/\aG z=true/\fle r (some 0)=false:=by
 unfold nK at hc;split at hc
 ·rename_i h1;split at hc
  ·rename_i h2;split at hc
   ·cases hc
   ·rename_i h3;split at hc
    ·rename_i h4; exact⟨h1,h2.1,h2.2,h4,by simpa using h3⟩
    ·cases hc
  ·cases hc
 ·cases hc
def giV (n:Nat) (Y:List Fl) (B:Nat->Nat->Fl):Nat->Nat->Fl:=λi j=>cD (elt Y n i j) (B i j)
def giO (n:Nat) (Y:List Fl) (B:Nat->Nat->Fl) (bo:Nat->Nat->Bool):Nat->Nat->Bool:=λi j=>bo i j || !aG (giV n Y B i j)
def gvV (V:List Fl) (C:Nat->Fl):Nat->Fl:=λi=>cD (V.getD i none) (C i)
def gvO (V:List Fl) (C:Nat->Fl) (co:Nat->Bool):Nat->Bool:=λi=>co i || !aG (gvV V C i)
def uc (n:Nat) (Y V:List Fl) (B:Nat->Nat->Fl) (C:Nat->Fl) (bo:Nat->Nat->Bool) (co:Nat->Bool):Bool:=orB (λi=>orB (λj=>giO n Y B bo i j) (i+1)||gvO V C co i) n
def gM (n:Nat) (Y:List Fl) (B:Nat->Nat->Fl):List Fl:=mf n (mir (giV n Y B))
def gV (n:Nat) (V:List Fl) (C:Nat->Fl):List Fl:=vf n (gvV V C)
def gK (n:Nat) (Y V:List Fl) (B:Nat->Nat->Fl) (C:Nat->Fl) (bo:Nat->Nat->Bool) (co:Nat->Bool) (k0:Int->Int->Int->Bool) (k1:Int->Int->Int->List Fl->List Fl->Bool):Bool:=
 cond (uc n Y V B C bo co) (k0 0 0 5) (cond (!vx n (gM n Y B)) (k0 0 0 170) (k1 n n 0 (gM n Y B) (gV n V C)))
theorem ym {n:Nat} {Y V:List Fl} {B:Nat->Nat->Fl} {C:Nat->Fl} {bo:Nat->Nat->Bool} {co:Nat->Bool} (h:uc n Y V B C bo co=false) :
  (∀ i j,i<n->j<=i->bo i j=false/\aG (giV n Y B i j)=true) /\ ∀ i,i<n->co i=false/\aG (gvV V C i)=true:=by
 unfold uc at h;refine⟨λi j hi hj=>?_,λi hi=>?_⟩
 ·have h1:=nO h i hi;rw[Bool.or_eq_false_iff]at h1;have h2:=nO h1.1 j (by omega);unfold giO at h2;simpa using h2
 ·have h1:=nO h i hi;rw[Bool.or_eq_false_iff]at h1;have h2:=h1.2;unfold gvO at h2;simpa using h2
theorem yO {N n:Nat} (hF:Fuel N) (hn:n<=12) (Y V:List Fl) (B:Nat->Nat->Fl) (C:Nat->Fl) (bo:Nat->Nat->Bool) (co:Nat->Bool) (k0:Int->Int->Int->Bool) (k1:Int->Bool) :
  d8 N n n (uc n Y V B C bo co) (gV n V C) (gM n Y B) k0 k1=cond (uc n Y V B C bo co) (k0 0 0 5) (cond (!vx n (gM n Y B)) (k0 0 0 170) (k1 0)):=by
 (unfold d8; rw[ac]; unfold gO)
 (unfold D9; try rw[ac]); unfold J0
 cases h:uc n Y V B C bo co
 ·rw[cond_false,cond_false];obtain⟨h1,h2⟩:=ym h;exact Dh hF hn (kt _ _) (yV (xu λa b ha hb=>(h1 a b ha hb).2)) (NI (GU λa b=>kF _ _)) (BH _) _
 ·rfl
def nob:Nat->Nat->Bool:=λ_ _=>false
def noc:Nat->Bool:=λ_=>false
def jB (n:Nat) (b:List Fl):Nat->Nat->Fl:=λi j=>elt b n i j
def jC (b:List Fl):Nat->Fl:=λi=>b.getD i none
def wB (h:List Fl) (r:Fl):Nat->Nat->Fl:=λi j=>fdiv (bD (h.getD i none) (h.getD j none)) r
def wBo (h:List Fl) (r:Fl):Nat->Nat->Bool:=λi j=>!aG (bD (h.getD i none) (h.getD j none)) || !aG (wB h r i j)
def wC (h:List Fl) (r z:Fl):Nat->Fl:=λi=>fdiv (bD (h.getD i none) z) r
def wCo (h:List Fl) (r z:Fl):Nat->Bool:=λi=>!aG (bD (h.getD i none) z) || !aG (wC h r z i)
theorem w_ {N n:Nat} (hF:Fuel N) (hn:n<=12) {Y V:List Fl} (hY:Y.length=n*n) (hV:V.length=n) {bY bV:List Fl} (hbY:bY.length=n*n) (hbV:bV.length=n) (b0 b1:Int) (a0 a1:Int) (k0:Int->Int->Int->Bool) (k1:Int->Int->Int->List Fl->List Fl->Bool) :
  e_ N a0 a1 Y V b0 b1 n bY bV k0 k1=gK n Y V (jB n bY) (jC bV) (nob) (noc) k0 k1:=by
 have hN:=hF.lt;have hn2:n*n<=144:=sk hn;have FW1:∀(x:Fl) (o:Bool) (k:Bool->Bool),FW x->jW N x o k=k (o || !aG x):=λx o k h=>jJ h o k
 have c1:∀(i j:Nat) (o:Bool) (k:Fl->Bool),i<n->j<n->eh N i j o b0 b1 n bY bV k=k (jB n bY i j):=by
  intro i j o k hi hj;obtain⟨g1,g2⟩:=dZ (by omega:n<=1000) hi hj;have g5:=ja hi hj
  (unfold eh; try rw[ac]); unfold iI
  rw[aa g1,bG,aa g2,hbY,aa (ah (by omega) (by omega)),Int.toNat_natCast,aa (decide_eq_true g5)];rfl
 have c2:∀(i:Nat) (o:Bool) (k:Fl->Bool),i<n->fH N i 0 o b0 b1 bY bV k=k (jC bV i):=by
  intro i o k hi
  (unfold fH; try rw[ac]); unfold ju
  rw[hbV,aa (ah (by omega) (by omega)),Int.toNat_natCast,aa (decide_eq_true hi)]
  try rfl
 (unfold e_; rw[ac]; unfold eO)
 rw[hV,<- Int.natCast_mul,aa (ab (by omega) (by omega)),aa (bZ (by omega) (by omega) (by omega) (by omega)),aa (bZ (by omega) (by omega) (by omega) (by omega)),Int.toNat_natCast,Int.toNat_natCast,xt];generalize hB:(jB n bY)=B at *;generalize hbo:(nob)=bo at *;generalize hC:(jC bV)=C at *;generalize hco:(noc)=co at *;generalize hv:giV n Y B=v;rw[xq n v];have h0:((0,false,List.replicate n (some 0),mf n (mS v 0 0)):Int × Bool × List Fl × List Fl)=(λi:Nat=>((i:Int),orB (λi=>orB (λj=>giO n Y B bo i j) (i+1)||gvO V C co i) i,(vf n (gvV V C)).take i++List.replicate (n - i) (some 0),mf n (mS v i 0))) 0:=rfl;rw[h0];refine bw (λi:Nat=>((i:Int),orB (λi=>orB (λj=>giO n Y B bo i j) (i+1)||gvO V C co i) i,(vf n (gvV V C)).take i++List.replicate (n - i) (some 0),mf n (mS v i 0))) n (by omega) ?_ ?_
 ·intro i hi K;unfold cj;dsimp only;rw[decide_eq_true (by omega:(i:Int)<(n:Int)),cond_true,aa (ab (by omega) (by omega))];generalize ho1:orB (λi=>orB (λj=>giO n Y B bo i j) (i+1)||gvO V C co i) i=o1;have h1:((0,o1,mf n (mS v i 0)):Int × Bool × List Fl)=(λj:Nat=>((j:Int),o1||orB (λj=>giO n Y B bo i j) j,mf n (mS v i j))) 0:=by show _=(((0:Nat):Int),o1||false,_); rw[NU]; rfl
  rw[h1];refine(bw (λj:Nat=>((j:Int),o1||orB (λj=>giO n Y B bo i j) j,mf n (mS v i j))) (i+1) (N:=N) (by omega) (out:=K ((((i+1:Nat)):Int),orB (λi=>orB (λj=>giO n Y B bo i j) (i+1)||gvO V C co i) (i+1),(vf n (gvV V C)).take (i+1)++List.replicate (n - (i+1)) (some 0),mf n (mS v (i+1) 0))) ?_ ?_:_)
  ·intro j hj K';have hj2:j<n:=by omega
   obtain⟨g1,g2⟩:=dZ (by omega:n<=1000) hi hj2;obtain⟨g3,g4⟩:=dZ (by omega:n<=1000) hj2 hi;have g5:=ja hi hj2;have g6:=ja hj2 hi;rw[<- bG]at g2 g4;have t1:Int.toNat ((i:Int)*(n:Int)+(j:Int))=i*n+j:=by rw[bG,Int.toNat_natCast]
   have t2:Int.toNat ((j:Int)*(n:Int)+(i:Int))=j*n+i:=by rw[bG,Int.toNat_natCast]
   have r1:inR ((i:Int)*(n:Int)+(j:Int)) (n*n)=true:=by rw[bG]; exact ah (by omega) (by omega)
   have r2:inR ((j:Int)*(n:Int)+(i:Int)) (n*n)=true:=by rw[bG]; exact ah (by omega) (by omega)
   have d1:decide (i*n+j<n*n)=true:=decide_eq_true g5;have d2:decide (j*n+i<n*n)=true:=decide_eq_true g6;have f1:af .i64 ((j:Int)+1)=true:=ab (by omega) (by omega);unfold ck;dsimp only;have e:cD (Y.getD (i*n+j) none) (B i j)=v i j:=by rw[<- hv]; rfl
   have hst:∀(o:Bool) (k:Bool->Bool),jW N (v i j) o k=k (o || !aG (v i j)):=λo k=>FW1 _ o k (by rw[<- e]; exact kF _ _)
   rw[decide_eq_true (by omega:(j:Int)<(i:Int)+1),cond_true];simp only[g1,g2,g3,g4,t1,t2,r1,r2,d1,d2,f1,hY,kt,List.length_set,Bool.true_and,c1 i j _ _ hi hj2,e,hst];rw[yW n _ hi hj2,yW n _ hj2 hi,xp n v hj];have e2:((o1||orB (λj=>giO n Y B bo i j) j) || !aG (v i j))=(o1||orB (λj=>giO n Y B bo i j) (j+1)):=by
    rw[<- xw o1 (λj=>giO n Y B bo i j) j];unfold giO;rw[hv];have q:∀ i j,bo i j=false:=by rw[<- hbo]; intros; rfl
    simp only[q,Bool.false_or]
   rw[e2];rfl
  ·intro K';unfold ck;dsimp only;have hst:∀(o:Bool) (k:Bool->Bool),jW N (gvV V C i) o k=k (o || !aG (gvV V C i)):=λo k=>FW1 _ o k (kF _ _)
   have e:cD (V.getD i none) (C i)=gvV V C i:=rfl;have f1:af .i64 ((i:Int)+1)=true:=ab (by omega) (by omega);have r1:inR (i:Int) n=true:=ah (by omega) (by omega);have d1:decide (i<n)=true:=decide_eq_true hi;rw[decide_eq_false (by omega:¬((i+1:Nat):Int)<(i:Int)+1),cond_false];simp only[hV,r1,d1,f1,Int.toNat_natCast,Bool.true_and,c2 i _ _ hi,e,hst,nn n (gvV V C) (i:=i) (by omega),BG];rw[xA n (gvV V C) hi];have e2:((o1||orB (λj=>giO n Y B bo i j) (i+1)) || !aG (gvV V C i))=orB (λi=>orB (λj=>giO n Y B bo i j) (i+1)||gvO V C co i) (i+1):=by
    show _=(orB (λi=>orB (λj=>giO n Y B bo i j) (i+1)||gvO V C co i) i||_);rw[ho1];unfold gvO;have q:∀ i,co i=false:=by rw[<- hco]; intros; rfl
    simp only[q,Bool.false_or,Bool.or_assoc]
   rw[e2];rfl
 ·intro K;unfold cj;dsimp only;rw[decide_eq_false (by omega:¬(n:Int)<(n:Int)),cond_false,BF,Nat.sub_self,List.replicate_zero,List.append_nil,List.take_of_length_le (by rw[fk]; omega),<- hv];exact yO hF hn Y V B C bo co _ _
theorem zR {N n:Nat} (hF:Fuel N) (hn:n<=12) {Y V:List Fl} (hY:Y.length=n*n) (hV:V.length=n) {h:List Fl} (hh:h.length=n) (r z:Fl) (a0 a1:Int) (k0:Int->Int->Int->Bool) (k1:Int->Int->Int->List Fl->List Fl->Bool) :
  gf N a0 a1 Y V r z h k0 k1=gK n Y V (wB h r) (wC h r z) (wBo h r) (wCo h r z) k0 k1:=by
 have hN:=hF.lt;have hn2:n*n<=144:=sk hn;have FW1:∀(x:Fl) (o:Bool) (k:Bool->Bool),FW x->jW N x o k=k (o || !aG x):=λx o k h=>jJ h o k
 have c1:∀(i j:Nat) (o:Bool) (k:Fl->Bool->Bool),i<n->j<n->ek N i j o r h k=k (wB h r i j) (o||wBo h r i j):=by
  intro i j o k hi hj
  (unfold ek; try rw[ac]); unfold d_
  rw[hh,aa (ah (by omega) (by omega)),Int.toNat_natCast,aa (decide_eq_true hi),aa (ah (by omega) (by omega)),Int.toNat_natCast,aa (decide_eq_true hj),oE,FW1 _ _ _ (tP _ _),Bool.or_assoc];rfl
 have c2:∀(i:Nat) (o:Bool) (k:Fl->Bool->Bool),i<n->dH N i 0 o z r h k=k (wC h r z i) (o||wCo h r z i):=by
  intro i o k hi
  (unfold dH; try rw[ac]); unfold dr
  rw[hh,aa (ah (by omega) (by omega)),Int.toNat_natCast,aa (decide_eq_true hi),oE,FW1 _ _ _ (tP _ _),Bool.or_assoc];rfl
 (unfold gf; rw[ac]; unfold gd)
 rw[hV,<- Int.natCast_mul,aa (ab (by omega) (by omega)),aa (bZ (by omega) (by omega) (by omega) (by omega)),aa (bZ (by omega) (by omega) (by omega) (by omega)),Int.toNat_natCast,Int.toNat_natCast,xt];generalize hB:(wB h r)=B at *;generalize hbo:(wBo h r)=bo at *;generalize hC:(wC h r z)=C at *;generalize hco:(wCo h r z)=co at *;generalize hv:giV n Y B=v;rw[xq n v];have h0:((0,false,List.replicate n (some 0),mf n (mS v 0 0)):Int × Bool × List Fl × List Fl)=(λi:Nat=>((i:Int),orB (λi=>orB (λj=>giO n Y B bo i j) (i+1)||gvO V C co i) i,(vf n (gvV V C)).take i++List.replicate (n - i) (some 0),mf n (mS v i 0))) 0:=rfl;rw[h0];refine bw (λi:Nat=>((i:Int),orB (λi=>orB (λj=>giO n Y B bo i j) (i+1)||gvO V C co i) i,(vf n (gvV V C)).take i++List.replicate (n - i) (some 0),mf n (mS v i 0))) n (by omega) ?_ ?_
 ·intro i hi K;unfold cI;dsimp only;rw[decide_eq_true (by omega:(i:Int)<(n:Int)),cond_true,aa (ab (by omega) (by omega))];generalize ho1:orB (λi=>orB (λj=>giO n Y B bo i j) (i+1)||gvO V C co i) i=o1;have h1:((0,o1,mf n (mS v i 0)):Int × Bool × List Fl)=(λj:Nat=>((j:Int),o1||orB (λj=>giO n Y B bo i j) j,mf n (mS v i j))) 0:=by show _=(((0:Nat):Int),o1||false,_); rw[NU]; rfl
  rw[h1];refine(bw (λj:Nat=>((j:Int),o1||orB (λj=>giO n Y B bo i j) j,mf n (mS v i j))) (i+1) (N:=N) (by omega) (out:=K ((((i+1:Nat)):Int),orB (λi=>orB (λj=>giO n Y B bo i j) (i+1)||gvO V C co i) (i+1),(vf n (gvV V C)).take (i+1)++List.replicate (n - (i+1)) (some 0),mf n (mS v (i+1) 0))) ?_ ?_:_)
  ·intro j hj K';have hj2:j<n:=by omega
   obtain⟨g1,g2⟩:=dZ (by omega:n<=1000) hi hj2;obtain⟨g3,g4⟩:=dZ (by omega:n<=1000) hj2 hi;have g5:=ja hi hj2;have g6:=ja hj2 hi;rw[<- bG]at g2 g4;have t1:Int.toNat ((i:Int)*(n:Int)+(j:Int))=i*n+j:=by rw[bG,Int.toNat_natCast]
   have t2:Int.toNat ((j:Int)*(n:Int)+(i:Int))=j*n+i:=by rw[bG,Int.toNat_natCast]
   have r1:inR ((i:Int)*(n:Int)+(j:Int)) (n*n)=true:=by rw[bG]; exact ah (by omega) (by omega)
   have r2:inR ((j:Int)*(n:Int)+(i:Int)) (n*n)=true:=by rw[bG]; exact ah (by omega) (by omega)
   have d1:decide (i*n+j<n*n)=true:=decide_eq_true g5;have d2:decide (j*n+i<n*n)=true:=decide_eq_true g6;have f1:af .i64 ((j:Int)+1)=true:=ab (by omega) (by omega);unfold cJ;dsimp only;have e:cD (Y.getD (i*n+j) none) (B i j)=v i j:=by rw[<- hv]; rfl
   have hst:∀(o:Bool) (k:Bool->Bool),jW N (v i j) o k=k (o || !aG (v i j)):=λo k=>FW1 _ o k (by rw[<- e]; exact kF _ _)
   rw[decide_eq_true (by omega:(j:Int)<(i:Int)+1),cond_true];simp only[g1,g2,g3,g4,t1,t2,r1,r2,d1,d2,f1,hY,kt,List.length_set,Bool.true_and,c1 i j _ _ hi hj2,e,hst];rw[yW n _ hi hj2,yW n _ hj2 hi,xp n v hj];have e2:((o1||orB (λj=>giO n Y B bo i j) j||bo i j) || !aG (v i j))=(o1||orB (λj=>giO n Y B bo i j) (j+1)):=by rw[<- xw o1 (λj=>giO n Y B bo i j) j];unfold giO;rw[hv];simp only[Bool.or_assoc]
   rw[e2];rfl
  ·intro K';unfold cJ;dsimp only;have hst:∀(o:Bool) (k:Bool->Bool),jW N (gvV V C i) o k=k (o || !aG (gvV V C i)):=λo k=>FW1 _ o k (kF _ _)
   have e:cD (V.getD i none) (C i)=gvV V C i:=rfl;have f1:af .i64 ((i:Int)+1)=true:=ab (by omega) (by omega);have r1:inR (i:Int) n=true:=ah (by omega) (by omega);have d1:decide (i<n)=true:=decide_eq_true hi;rw[decide_eq_false (by omega:¬((i+1:Nat):Int)<(i:Int)+1),cond_false];simp only[hV,r1,d1,f1,Int.toNat_natCast,Bool.true_and,c2 i _ _ hi,e,hst,nn n (gvV V C) (i:=i) (by omega),BG];rw[xA n (gvV V C) hi];have e2:((o1||orB (λj=>giO n Y B bo i j) (i+1)||co i) || !aG (gvV V C i))=orB (λi=>orB (λj=>giO n Y B bo i j) (i+1)||gvO V C co i) (i+1):=by show _=(orB (λi=>orB (λj=>giO n Y B bo i j) (i+1)||gvO V C co i) i||_);rw[ho1];unfold gvO;simp only[Bool.or_assoc]
   rw[e2];rfl
 ·intro K;unfold cI;dsimp only;rw[decide_eq_false (by omega:¬(n:Int)<(n:Int)),cond_false,BF,Nat.sub_self,List.replicate_zero,List.append_nil,List.take_of_length_le (by rw[fk]; omega),<- hv];exact yO hF hn Y V B C bo co _ _
end Go.Proofs.YtdinakfmablagaaGreatDoor
end
section
end
