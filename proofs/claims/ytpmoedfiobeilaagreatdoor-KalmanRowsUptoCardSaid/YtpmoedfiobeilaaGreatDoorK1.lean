/- Laws in plain Lean. Conditions: none. -/
import Derived.Test.YtpmoedfiobeilaaGreatDoorC8
set_option linter.unusedVariables false
section
namespace Go.Proofs.YtpmoedfiobeilaaGreatDoor
open Go Go.Mach Ieee
theorem O8 {N:Nat} (hN:1000<=N) (k:Bool->List Int->Bool):ma N 1 k=k false (aj 1):=yS (N:=N) 1 (by decide) (nH hN (by decide)) (by omega) k
theorem Vm (a b:Nat):flt (some a) (some b)=((Ieee.double.read a).order (Ieee.double.read b)==some .lt):=rfl
theorem O4 (a b:Nat):feq (some a) (some b)=((Ieee.double.read a).order (Ieee.double.read b)==some .eq):=rfl
theorem O5 (a b:Nat):fgt (some a) (some b)=((Ieee.double.read a).order (Ieee.double.read b)==some .gt):=rfl
theorem Kw {b:Nat} (hb:W64 b) {s:Bool} {m:Nat} {i:Int} (h:Ieee.double.read b=.number s m i):∃ c,z7 (some b)=some c/\W64 c/\Ieee.double.read c=.number false m i:=by
 have e:Ieee.double.read (b%9223372036854775808)=.number false m i:=by
  obtain⟨hs,hlt,h⟩:=lE h;unfold Format.read;simp only[iz,qD,kE,uR];have e1:b%9223372036854775808%9223372036854775808=b%9223372036854775808:=by omega
  have e2:(b%9223372036854775808 / 9223372036854775808%2==1)=false:=by rw[beq_eq_false_iff_ne]; omega
  rw[e1,e2];rcases h with⟨h1,rfl,rfl⟩ | ⟨h1,rfl,rfl⟩
  ·rw[if_pos h1]
  ·rw[if_neg (by omega),if_pos hlt]
 have hn:isNaN (b%9223372036854775808)=false:=by unfold isNaN; rw[e]; rfl
 refine⟨b%9223372036854775808,?_,by unfold W64 at *; omega,e⟩;show fD _=_;unfold fD; rw[hn]; rfl
theorem Aa (N:Nat) {x:Fl} (hx:bb x=true) (hw:FW x) (k:Bool->Bool):jB N x 0 k=k false:=by
 obtain⟨b,s,m,i,rfl,h⟩:=mz hx;obtain⟨c,hc,hcw,hcr⟩:=Kw (hw b rfl) h;have hp:=ou hcr;have hg:=DW hcr
 (unfold jB; rw[ac]; unfold rL)
 show k (fgt (z7 (some b)) (some 9218868437227405311))=_;rw[hc];congr 1;have hr:Ieee.double.read 9218868437227405311=.number false 9007199254740991 971:=by decide
 rw[O5,hcr,hr];simp only[Datum.order];have hmin:min i 971=i:=by omega
 have e0:(i - i).toNat=0:=by omega
 rw[hmin,e0];have s1:signed false m 0=((m:Nat):Int):=rfl;have s2:signed false 9007199254740991 (971 - i).toNat=((9007199254740991 <<< (971 - i).toNat:Nat):Int):=rfl;rw[s1,s2,Nat.shiftLeft_eq];have hpw:0<2 ^ (971 - i).toNat:=Nat.two_pow_pos _;have hle:9007199254740991<=9007199254740991*2 ^ (971 - i).toNat:=Nat.le_mul_of_pos_right _ hpw;generalize 9007199254740991*2 ^ (971 - i).toNat=q at hle;have:compare (m:Int) (q:Int) ≠ .gt:=λe=>by have:=Int.compare_eq_gt.1 e; omega
 cases e:compare (m:Int) (q:Int)with
 | gt=>exact absurd e this
 | eq=>rfl
 | lt=>rfl
theorem Js (d:Datum):W64 (Ieee.double.write d):=by
 cases d with
 | number s m i=>exact DQ s m i
 | infinity s=>
  have:Ieee.double.write (.infinity s)=Ieee.double.word s 9218868437227405312:=by rw[<- kE]; rfl
  rw[this]; exact zT s (by decide)
 | nan s f=>
  have:Ieee.double.write (.nan s f)=Ieee.double.word s (9218868437227405312+f%4503599627370496):=by rw[<- kE,<- qD]; rfl
  rw[this]; exact zT s (by omega)
theorem xI {o:Option Datum}:FW (o.map Ieee.double.write):=by
 intro b hb;cases o with
 | none=>cases hb
 | some d=>cases hb; exact Js d
theorem Bh {f:Nat->Nat->Option Nat} (hf:∀ a b c,f a b=some c->W64 c) (x y:Fl):FW (C_ f x y):=by
 intro c hc;cases x with
 | none=>cases hc
 | some a=>cases y with
  | none=>cases hc
  | some b=>exact hf a b c hc
theorem kR (x y:Fl):FW (dZ x y):=Bh (λa b c h=>xI c h) x y
theorem Bi (x y:Fl):FW (dn x y):=Bh (λa b c h=>xI c h) x y
theorem Gm (x y:Fl):FW (bd x y):=Bh (λa b c h=>xI c h) x y
theorem Gl (x y:Fl):FW (fdiv x y):=Bh (λa b c h=>xI c h) x y
def Tm (xs:List Fl):Nat->Fl
 | 0=>some 0
 | n+1=>fmm true (Tm xs n) (z7 (xs.getD n none))
def GE1 (x:Fl):Prop:=∃ b,x=some b/\W64 b/\(Ieee.double.read b=.infinity false \/ ∃ m i,Ieee.double.read b=.number false m i/\4503599627370496<=m/\m<9007199254740992 /\ -52<=i)
def Dv (x:Fl):Prop:=∃ b,x=some b/\(Ieee.double.read b=.infinity false \/ ∃ m i,Ieee.double.read b=.number false m i/\m ≠ 0)
def Vn (a b c:Fl):Int:=cond (!bw [a,b,c]) 4 (cond (feq a (some 0)&&(feq b (some 0)&&feq c (some 0))) 251 0)
def Vk (f g:K4->Bool):Prop:=∃ a b c d n,(a.isSome=true/\b.isSome=true/\c.isSome=true/\d.isSome=true)/\(∀ κ,f κ=κ a b c d n)/\(∀ κ,g κ=κ a b c d n)
set_option maxRecDepth 4000
theorem Tn {a0 a1 a2 a3 a4 a5 a6 a7 a8:Fl} (h:bw [a0,a1,a2,a3,a4,a5,a6,a7,a8]=true):chk 3 3 [a0,a1,a2,a3,a4,a5,a6,a7,a8]=0:=mv.2 ⟨by decide,rfl,h⟩
set_option maxRecDepth 4000
theorem Ic {b:Nat} (hb:W64 b) {s:Bool} (h:Ieee.double.read b=.infinity s):z7 (some b)=some 9218868437227405312:=by
 unfold Format.read at h;simp only[iz,qD,kE]at h;unfold W64 at hb;split at h
 ·cases h
 ·split at h
  ·cases h
  ·split at h
   ·rename_i h1 h2 h3;show fD (b%9223372036854775808)=_;have:b%9223372036854775808=9218868437227405312:=by omega
    rw[this]; decide
   ·cases h
theorem GF {N:Nat} {x:Fl} (hw:FW x) (o:Bool) (k:Bool->Bool):cond ((!feq x x)==false) (jB N x 0 (λcr=>cond cr (k true) (k o))) (k true)=k (o || !bb x):=by
 cases hf:bb x with
 | true=>rw[K3 hf,Aa N hf hw]; cases o <;> rfl
 | false=>
  rw[Bool.not_false,Bool.or_true];cases x with
  | none=>rfl
  | some b=>
   cases hr:Ieee.double.read b with
   | number s m i=>rw[Nt hr]at hf; cases hf
   | nan s f=>
    have:feq (some b) (some b)=false:=by rw[O4,hr]; rfl
    rw[this]; rfl
   | infinity s=>
    have h1:feq (some b) (some b)=true:=by rw[O4,hr]; cases s <;> rfl
    rw[h1];show jB N (some b) 0 _=_
    (unfold jB; rw[ac]; unfold rL)
    rw[show((0:Int)==0)=true from rfl,cond_true];simp only[vc];rw[Ic (hw b rfl) hr];have h2:fgt (some 9218868437227405312) (some 9218868437227405311)=true:=by decide
    rw[h2,cond_true]
theorem TK {x y:Fl} (hx:bb x=true) (hy:Dv y):Nn (fdiv x y):=by
 obtain⟨a,s,m,i,rfl,ha⟩:=mz hx;obtain⟨b,rfl,hb⟩:=hy;show Nn (((Ieee.double.read a).quotient (Ieee.double.fractionBits+2) (Ieee.double.read b)).map Ieee.double.write);rw[ha];rcases hb with hb | ⟨n,j,hb,hn⟩
 ·rw[hb]; exact xW _ _ _
 ·rw[hb]; simp only[Datum.quotient,if_neg hn]; exact xW _ _ _
theorem GT {N n i j:Nat} (hn:n<=12) (hi:i<n) (hj:j<n) {l:List Fl} (h:l.length=n*n) (k:Fl->Bool):nD N n n l i j k=k (elt l n i j):=by obtain⟨h1,h2⟩:=jT (by omega:n<=1000) hi hj;have h3:=nK hi hj;unfold nD wo elt;rw[jS,aa h1,aa h2,h,Int.toNat_natCast,aa (af (by omega) (by omega))]
theorem oi {N n i j:Nat} (hn:n<=12) (hi:i<n) (hj:j<n) {l:List Fl} (h:l.length=n*n) (k:Fl->Bool):lI N n n l i j k=k (elt l n i j):=by obtain⟨h1,h2⟩:=jT (by omega:n<=1000) hi hj;have h3:=nK hi hj;unfold lI Cs elt;rw[jS,aa h1,aa h2,h,Int.toNat_natCast,aa (af (by omega) (by omega))]
def sS (n:Nat) (l:List Fl):Bool:=vz (λi=>vz (λj=>decide (cn (elt l n i j)=cn (elt l n j i))) i) n
theorem NN {N n:Nat} (hN:1000<=N) (hn:n<=12) {l:List Fl} (h:l.length=n*n) (hf:bw l=true) (k:Bool->Bool):SC N n n l k=k (sS n l):=by
 (unfold SC; rw[ac]; unfold Qk)
 rw[mI hN,Br hn h hf,show(((0:Int) != 0)==false)=true from rfl,cond_true];have:((n:Int) != (n:Int))=false:=by simp
 rw[this,cond_false];have hk:k (sS n l)=cond (sS n l) (k true) (k false):=by cases sS n l <;> rfl
 rw[hk];refine me (λt:Nat=>(t:Int)) (λi=>vz (λj=>decide (cn (elt l n i j)=cn (elt l n j i))) i) n (by omega) ?_ ?_
 ·intro i hi K;unfold Ch;dsimp only;rw[decide_eq_true (by omega:(i:Int)<(n:Int)),cond_true];refine(me (λt:Nat=>(t:Int)) (λj=>decide (cn (elt l n i j)=cn (elt l n j i))) i (N:=N) (by omega) (ex:=k false) (out:=K (((i+1:Nat):Int))) ?_ ?_:_)
  ·intro j hj K';have hj2:j<n:=by omega
   unfold Ci;dsimp only;rw[decide_eq_true (by omega:(j:Int)<(i:Int)),cond_true,GT hn hi hj2 h,GT hn hj2 hi h];unfold D0;dsimp only;by_cases he:cn (elt l n i j)=cn (elt l n j i)
   ·rw[decide_eq_true he,show(!true)=false from rfl,cond_false,cond_true,aa (ab (by omega) (by omega))];rfl
   ·rw[decide_eq_false he,show(!false)=true from rfl,cond_true,cond_false]
  ·intro K';unfold Ci;dsimp only;rw[decide_eq_false (by omega:¬(i:Int)<(i:Int)),cond_false,aa (ab (by omega) (by omega))];rfl
 ·intro K;unfold Ch;dsimp only;rw[decide_eq_false (by omega:¬(n:Int)<(n:Int)),cond_false]
theorem II {N:Nat} (r c:Int) (n:Int) (k:Int->Bool):rz N r c n k=k (if (0<=r/\r<=12)/\(0<=c/\c<=12)then(if n=r*c then 0 else 3)else 1):=by
 (unfold rz; rw[ac]; unfold qx)
 by_cases h1:r<0
 ·rw[decide_eq_true h1,if_neg (by omega)]; rfl
 ·rw[decide_eq_false h1];by_cases h2:r>12
  ·rw[decide_eq_true h2,if_neg (by omega)]; rfl
  ·rw[decide_eq_false h2];by_cases h3:c<0
   ·rw[decide_eq_true h3,if_neg (by omega)]; rfl
   ·rw[decide_eq_false h3];by_cases h4:c>12
    ·rw[decide_eq_true h4,if_neg (by omega)]; rfl
    ·have hr:0<=r/\r<=12:=by omega
     have hc:0<=c/\c<=12:=by omega
     rw[decide_eq_false h4,if_pos ⟨hr,hc⟩,Ob hr hc];by_cases h5:n=r*c
     ·have:(n != r*c)=false:=by simp[h5]
      rw[this,if_pos h5]; rfl
     ·have:(n != r*c)=true:=by simp[h5]
      rw[this,if_neg h5]; rfl
theorem uL {N:Nat} (hN:1000<=N) (r c:Int) (l:List Fl) (k:Int->Bool):pF N r c l k=k (chk r c l):=by
 (unfold pF; rw[ac]; unfold tD chk)
 rw[II];by_cases h1:(0<=r/\r<=12)/\(0<=c/\c<=12)
 ·rw[if_pos h1,if_pos h1];by_cases h2:(l.length:Int)=r*c
  ·have h3:=G7 h1.1 h1.2;have h6:l.length<=144:=by rw[<- h2]at h3; omega
   rw[if_pos h2,if_pos h2,show((0:Int) != 0)=false from rfl,cond_false,nN l ⟨by omega,by omega⟩];cases bw l <;> rfl
  ·rw[if_neg h2,if_neg h2]; rfl
 ·rw[if_neg h1,if_neg h1]; rfl
theorem Lt {N n:Nat} (hN:1000<=N) (hn:n<=12) {l:List Fl} (h:l.length=n*n) (hf:bw l=true) (k:Int->Bool):Ms N n n l k=k (if sS n l=true then 0 else 91):=by
 (unfold Ms; rw[ac]; unfold JZ)
 rw[uL hN,Br hn h hf,show((0:Int) != 0)=false from rfl,cond_false];have:((n:Int) != (n:Int))=false:=by simp
 rw[this,cond_false];have hk:k (if sS n l=true then 0 else 91)=cond (sS n l) (k 0) (k 91):=by cases sS n l <;> rfl
 rw[hk];refine me (λt:Nat=>(t:Int)) (λi=>vz (λj=>decide (cn (elt l n i j)=cn (elt l n j i))) i) n (by omega) ?_ ?_
 ·intro i hi K;unfold fP;dsimp only;rw[decide_eq_true (by omega:(i:Int)<(n:Int)),cond_true];refine(me (λt:Nat=>(t:Int)) (λj=>decide (cn (elt l n i j)=cn (elt l n j i))) i (N:=N) (by omega) (ex:=k 91) (out:=K (((i+1:Nat):Int))) ?_ ?_:_)
  ·intro j hj K';have hj2:j<n:=by omega
   unfold fQ;dsimp only;rw[decide_eq_true (by omega:(j:Int)<(i:Int)),cond_true,oi hn hi hj2 h,oi hn hj2 hi h,BM];by_cases he:cn (elt l n i j)=cn (elt l n j i)
   ·rw[decide_eq_true he,show(!true)=false from rfl,cond_false,cond_true,aa (ab (by omega) (by omega))];rfl
   ·rw[decide_eq_false he,show(!false)=true from rfl,cond_true,cond_false]
  ·intro K';unfold fQ;dsimp only;rw[decide_eq_false (by omega:¬(i:Int)<(i:Int)),cond_false,aa (ab (by omega) (by omega))];rfl
 ·intro K;unfold fP;dsimp only;rw[decide_eq_false (by omega:¬(n:Int)<(n:Int)),cond_false]
theorem KJ {x:Fl} (h:bb x=true):cn x=x:=by obtain⟨b,rfl,hb⟩:=oP h;simp only[cn,hb]; rfl
theorem MY {n:Nat} {l:List Fl} (h:l.length=n*n) (hf:bw l=true) (hs:sS n l=true):Kt n l:=by
 have key:∀ i j,j<i->i<n->elt l n i j=elt l n j i:=by
  intro i j hj hi;have h1:=jI.1 (jI.1 hs i hi) j hj;have h2:=of_decide_eq_true h1;have hj2:j<n:=by omega
  have e1:=nK hi hj2;have e2:=nK hj2 hi;rw[KJ (x:=elt l n i j) (mq hf (by omega)),KJ (x:=elt l n j i) (mq hf (by omega))]at h2;exact h2
 intro a b ha hb;show pu (ofE (elt l n a b))=pu (ofE (elt l n b a));rcases Nat.lt_trichotomy a b with h1 | h1 | h1
 ·rw[key b a h1 hb]
 ·rw[h1]
 ·rw[key a b h1 ha]
def nM (x:List Fl) (r c:Int) (l:List Fl):Int:=
 if chk r c l ≠ 0 then chk r c l else if r ≠ c then 3 else if (x.length:Int) ≠ r then 3 else if bw x=false then 4 else if sS r.toNat l=false then 150 else if uZ r.toNat l=false then 151 else 0
theorem se {x:List Fl} {r c:Int} {l:List Fl} (h:nM x r c l=0):∃ n:Nat,n<=12/\r=n/\c=n/\x.length=n/\l.length=n*n/\bw x=true/\bw l=true/\sS n l=true/\uZ n l=true:=by
 unfold nM at h;split at h
 ·exact absurd h (by assumption)
 ·rename_i h0;have h0:chk r c l=0:=by simpa using h0
  have q:=mv.1 h0;split at h
  ·cases h
  ·rename_i h1;split at h
   ·cases h
   ·rename_i h2;split at h
    ·cases h
    ·rename_i h3;split at h
     ·cases h
     ·rename_i h4;split at h
      ·cases h
      ·rename_i h5;obtain⟨n,hn⟩:∃ n:Nat,r=n:=⟨r.toNat,by omega⟩
       have h1:r=c:=by simpa using h1
       subst hn;subst h1;rw[Int.toNat_natCast]at h4 h5;refine⟨n,by omega,rfl,rfl,by omega,by exact_mod_cast q.2.1,by simpa using h3,q.2.2,by simpa using h4,by simpa using h5⟩
theorem tS {N:Nat} (hF:Fuel N) (x:List Fl) (r c:Int) (l:List Fl) (hw:AllW l) (k:Int->Bool):fq N x r c l k=k (nM x r c l):=by
 have hN:=hF.lt
 (unfold fq; rw[ac]; unfold mo nM)
 rw[mI (by omega)];by_cases h0:chk r c l=0
 ·have q:=mv.1 h0;rw[h0,if_neg (λh=>h rfl),show((0:Int) != 0)=false from rfl,cond_false];by_cases h1:r=c
  ·subst h1;have e1:((r != r)==false)=true:=by simp
   rw[if_neg (λh=>h rfl),e1,cond_true];obtain⟨n,hn⟩:∃ n:Nat,r=n:=⟨r.toNat,by omega⟩
   subst hn;by_cases h2:(x.length:Int)=n
   ·have e2:(((x.length:Nat):Int) != (n:Int))=false:=by simp[h2]
    have hl:l.length=n*n:=by exact_mod_cast q.2.1
    have hn12:n<=12:=by omega
    rw[e2,cond_false,if_neg (λh=>h h2),mH x ⟨by omega,by omega⟩];cases h3:bw x
    ·rfl
    ·rw[show(!true)=false from rfl,cond_false,if_neg (by decide),NN (by omega) hn12 hl q.2.2,Int.toNat_natCast];cases h4:sS n l
     ·rfl
     ·rw[show(!true)=false from rfl,cond_false,if_neg (by decide),uO hF hn12 hl q.2.2 hw (MY hl q.2.2 h4)];cases uZ n l <;> rfl
   ·have e2:(((x.length:Nat):Int) != (n:Int))=true:=by simp[h2]
    rw[e2,cond_true,if_pos h2]
  ·have e1:((r != c)==false)=false:=by simp[h1]
   rw[e1,cond_false,if_pos h1]
 ·have e0:(chk r c l != 0)=true:=by simp[h0]
  rw[e0,cond_true,if_pos h0]
theorem qV {N:Nat} (hF:Fuel N) (x:List Fl) (r c:Int) (l:List Fl) (hw:AllW l) (k:Int->Bool):lJ N x r c l k=k (nM x r c l):=by
 have hN:=hF.lt
 (unfold lJ; rw[ac]; unfold qy; unfold xg; rw[ac]; unfold qz kN oM nM)
 rw[uL (by omega)];dsimp only;by_cases h0:chk r c l=0
 ·have q:=mv.1 h0;rw[h0,if_neg (λh=>h rfl),show((0:Int) != 0)=false from rfl,cond_false];by_cases h1:r=c
  ·subst h1;have e1:((r != r)==false)=true:=by simp
   rw[if_neg (λh=>h rfl),e1,cond_true];obtain⟨n,hn⟩:∃ n:Nat,r=n:=⟨r.toNat,by omega⟩
   subst hn;by_cases h2:(x.length:Int)=n
   ·have e2:(((x.length:Nat):Int) != (n:Int))=false:=by simp[h2]
    have hl:l.length=n*n:=by exact_mod_cast q.2.1
    have hn12:n<=12:=by omega
    rw[e2,cond_false,if_neg (λh=>h h2),nN x ⟨by omega,by omega⟩];cases h3:bw x
    ·rfl
    ·rw[show(!true)=false from rfl,cond_false,if_neg (by decide),Lt (by omega) hn12 hl q.2.2,Int.toNat_natCast];cases h4:sS n l
     ·rfl
     ·rw[if_pos rfl,show((0:Int) != 0)=false from rfl,cond_false,cond_false,if_neg (by decide),uM hF hn12 hl q.2.2 hw (MY hl q.2.2 h4)];cases uZ n l <;> rfl
   ·have e2:(((x.length:Nat):Int) != (n:Int))=true:=by simp[h2]
    rw[e2,cond_true,if_pos h2]; rfl
  ·have e1:((r != c)==false)=false:=by simp[h1]
   rw[e1,cond_false,if_pos h1]; rfl
 ·have e0:(chk r c l != 0)=true:=by simp[h0]
  rw[e0,cond_true,if_pos h0];rfl
theorem jx {N:Nat} (x:Fl) (o:Bool) (k:Bool->Bool):jE N x o k=k (o || !bb x):=by
 (unfold jE; rw[ac]; unfold PP)
 cases o
 ·rw[show(false==false)=true from rfl,cond_true,j4]; rfl
 ·rfl
theorem so {N:Nat} {a:Fl} (h:Nn a) (k:Bool->Bool):I_ N a a k=k true:=by obtain⟨b,rfl,hb⟩:=h;unfold I_ SU;show k (((b:Nat):Int)==((b:Nat):Int))=_;rw[beq_self_eq_true]
theorem Ma {l:List Int} (h:∀ z,z ∈ l->z.toNat<18446744073709551616):AllW (ot l):=by intro x hx;unfold ot at hx;obtain⟨z,hz,rfl⟩:=List.mem_map.1 hx;exact KE (h z hz)
def mf (n:Nat) (f:Nat->Nat->Fl):List Fl:=(List.range (n*n)).map (λt=>f (t / n) (t%n))
theorem fo (n:Nat) (f:Nat->Nat->Fl):(mf n f).length=n*n:=by unfold mf; rw[List.length_map,List.length_range]
theorem BR (n:Nat) (f:Nat->Nat->Fl) {i j:Nat} (hi:i<n) (hj:j<n) (z:Fl):(mf n f).getD (i*n+j) z=f i j:=by have h:=kU hi hj;unfold mf;rw[List.getD_eq_getElem?_getD,List.getElem?_map,List.getElem?_range h];simp only[Option.map_some,Option.getD_some,xF hj,xG hj]
theorem zf (n:Nat) (f:Nat->Nat->Fl) {i j:Nat} (hi:i<n) (hj:j<n):elt (mf n f) n i j=f i j:=BR n f hi hj none
theorem j5 (n:Nat) {f f':Nat->Nat->Fl} (h:∀ a b,a<n->b<n->f a b=f' a b):mf n f=mf n f':=by
 unfold mf;apply List.map_congr_left;intro t ht;have ht:=List.mem_range.1 ht;have hn:0<n:=by
  rcases Nat.eq_zero_or_pos n with h0 | h0
  ·rw[h0]at ht; omega
  ·exact h0
 rw[h _ _ (Nat.div_lt_of_lt_mul ht) (Nat.mod_lt _ hn)]
theorem FP (n:Nat) (f:Nat->Nat->Fl) {i j:Nat} (hi:i<n) (hj:j<n) (v:Fl):(mf n f).set (i*n+j) v=mf n (λa b=>if a=i/\b=j then v else f a b):=by
 have h:=kU hi hj;apply List.ext_getElem?;intro t;by_cases ht:t<n*n
 ·have hn:0<n:=by omega
  rw[List.getElem?_set];unfold mf;rw[List.getElem?_map,List.getElem?_map,List.getElem?_range ht];simp only[List.length_map,List.length_range,Option.map_some];by_cases he:i*n+j=t
  ·rw[if_pos he,if_pos h,<- he,xF hj,xG hj,if_pos ⟨rfl,rfl⟩]
  ·rw[if_neg he];have:¬(t / n=i/\t%n=j):=by rintro ⟨h1,h2⟩;apply he;rw[<- h1,<- h2,Nat.mul_comm];exact Nat.div_add_mod t n
   rw[if_neg this]
 ·rw[List.getElem?_eq_none (by rw[List.length_set,fo]; omega),List.getElem?_eq_none (by rw[fo]; omega)]
theorem G4 (n:Nat):List.replicate (n*n) (some 0)=mf n (λ_ _=>some 0):=by
 apply List.ext_getElem?;intro t;unfold mf;rw[List.getElem?_map,List.getElem?_replicate];by_cases ht:t<n*n
 ·rw[if_pos ht,List.getElem?_range ht]; rfl
 ·rw[if_neg ht,List.getElem?_eq_none (by rw[List.length_range]; omega)]; rfl
theorem G3 (n:Nat) (f:Nat->Nat->Fl) {i j:Nat} (hi:i<n) (hj:j<n):(mf n f).take (i*n+j)++[f i j]=(mf n f).take (i*n+j+1):=by
 have h:=kU hi hj;have hl:i*n+j<(mf n f).length:=by rw[fo]; exact h
 rw[List.take_succ_eq_append_getElem hl];have:=BR n f hi hj none;rw[List.getD_eq_getElem?_getD,List.getElem?_eq_getElem hl]at this;rw[<- this]; rfl
def vf (n:Nat) (g:Nat->Fl):List Fl:=(List.range n).map g
theorem bE (n:Nat) (g:Nat->Fl):(vf n g).length=n:=by unfold vf; rw[List.length_map,List.length_range]
theorem kt (n:Nat) (g:Nat->Fl) {i:Nat} (hi:i<n) (z:Fl):(vf n g).getD i z=g i:=by unfold vf;rw[List.getD_eq_getElem?_getD,List.getElem?_map,List.getElem?_range hi]; rfl
theorem sM (n:Nat) (g:Nat->Fl) {i:Nat} (hi:i<n):(vf n g).take i++[g i]=(vf n g).take (i+1):=by
 have hl:i<(vf n g).length:=by rw[bE]; exact hi
 rw[List.take_succ_eq_append_getElem hl];have:=kt n g hi none;rw[List.getD_eq_getElem?_getD,List.getElem?_eq_getElem hl]at this;rw[<- this]; rfl
theorem HB (n:Nat) (g:Nat->Fl) {i:Nat} (hi:i<n):((vf n g).take i++List.replicate (n - i) (some 0)).set i (g i)=(vf n g).take (i+1)++List.replicate (n - (i+1)) (some 0):=by have:=Db (vf n g) (some 0) (t:=i) (by rw[bE]; exact hi);rw[bE,kt n g hi]at this;exact this
theorem xl (n:Nat) (g:Nat->Fl) {i:Nat} (hi:i<=n):((vf n g).take i++List.replicate (n - i) (some 0)).length=n:=by have:=Da (vf n g) (some 0) (t:=i) (by rw[bE]; exact hi);rw[bE]at this;exact this
def dV (f g:Nat->Fl):Nat->Fl
 | 0=>some 0
 | t+1=>dZ (dV f g t) (bd (f t) (g t))
def dO (f g:Nat->Fl):Nat->Bool
 | 0=>false
 | t+1=>(dO f g t || !bb (bd (f t) (g t))) || !bb (dV f g (t+1))
def orB (p:Nat->Bool):Nat->Bool
 | 0=>false
 | t+1=>orB p t||p t
theorem jA {p:Nat->Bool}:∀{n:Nat},orB p n=false -> ∀ i,i<n->p i=false
 | 0,_,i,hi=>by omega
 | n+1,h,i,hi=>by
  unfold orB at h;rw[Bool.or_eq_false_iff]at h;rcases Nat.lt_or_ge i n with h1 | h1
  ·exact jA h.1 i h1
  ·rw[show i=n by omega]; exact h.2
theorem oV (o:Bool) (f g:Nat->Fl) (t:Nat):((o||dO f g t) || !bb (bd (f t) (g t)) || !bb (dZ (dV f g t) (bd (f t) (g t))))=(o||dO f g (t+1)):=by show _=(o||((dO f g t || !bb (bd (f t) (g t))) || !bb (dZ (dV f g t) (bd (f t) (g t)))));simp only[Bool.or_assoc]
theorem mQ (o:Bool):(o||false)=o:=by cases o <;> rfl
theorem AQ {N n:Nat} (hN:1000<=N) (hn:n<=100) {a b:List Fl} {f g:Nat->Fl} (ha:a.length=n) (hb:n<=b.length) (hbs:b.length<=1000) (hf:∀ i,i<n->a.getD i none=f i) (hg:∀ i,i<n->b.getD i none=g i) (o:Bool) (k:Fl->Bool->Bool) :
  nG N a b o k=k (dV f g n) (o||dO f g n):=by
 (unfold nG; rw[ac]; unfold qB)
 have h0:((some 0,0,o):Fl × Int × Bool)=(λt:Nat=>(dV f g t,(t:Int),o||dO f g t)) 0:=by show _=(some 0,((0:Nat):Int),o||false); rw[mQ]; rfl
 rw[h0];refine aD (λt:Nat=>(dV f g t,(t:Int),o||dO f g t)) n (by omega) ?_ ?_
 ·intro t ht K;unfold kp;dsimp only;rw[decide_eq_true (by omega:(t:Int)<(a.length:Int)),cond_true,aa (af (by omega) (by omega)),aa (af (by omega) (by omega)),Int.toNat_natCast,hf t ht,hg t ht,jx,jx,aa (ab (by omega) (by omega)),oV];rfl
 ·intro K;unfold kp;dsimp only;rw[decide_eq_false (by omega:¬(n:Int)<(a.length:Int)),cond_false]
theorem za {N n:Nat} (hN:1000<=N) (hn:n<=100) {a b:List Fl} {f g:Nat->Fl} (ha:a.length=n) (hb:n<=b.length) (hbs:b.length<=1000) (hf:∀ i,i<n->a.getD i none=f i) (hg:∀ i,i<n->b.getD i none=g i) (o:Bool) (k:Fl->Bool->Bool) :
  Hp N a o b k=k (dV f g n) (o||dO f g n):=by
 (unfold Hp; rw[ac]; unfold Kb)
 have h0:((some 0,0,o):Fl × Int × Bool)=(λt:Nat=>(dV f g t,(t:Int),o||dO f g t)) 0:=by show _=(some 0,((0:Nat):Int),o||false); rw[mQ]; rfl
 rw[h0];refine aD (λt:Nat=>(dV f g t,(t:Int),o||dO f g t)) n (by omega) ?_ ?_
 ·intro t ht K;unfold iC;dsimp only;rw[decide_eq_true (by omega:(t:Int)<(a.length:Int)),cond_true,aa (af (by omega) (by omega)),aa (af (by omega) (by omega)),Int.toNat_natCast,aa (decide_eq_true (by omega)),hf t ht,hg t ht,jx,jx,aa (ab (by omega) (by omega)),oV];rfl
 ·intro K;unfold iC;dsimp only;rw[decide_eq_false (by omega:¬(n:Int)<(a.length:Int)),cond_false]
def I4 (l:List Fl) (n i:Nat):List Fl:=List.drop (i*n) (List.take ((i+1)*n) l)
theorem t_ {n i:Nat} (hi:i<n):(i+1)*n<=n*n:=Nat.mul_le_mul_right _ hi
theorem zu {l:List Fl} {n i:Nat} (h:l.length=n*n) (hi:i<n):(I4 l n i).length=n:=by have:=t_ hi;unfold I4;rw[List.length_drop,List.length_take,h,Nat.min_eq_left this,Nat.add_mul]; omega
theorem vW {l:List Fl} {n i j:Nat} (h:l.length=n*n) (hi:i<n) (hj:j<n):(I4 l n i).getD j none=elt l n i j:=by
 unfold I4 elt;have h1:(i+1)*n=i*n+n:=by rw[Nat.add_mul]; omega
 rw[List.getD_eq_getElem?_getD,List.getElem?_drop,List.getElem?_take,if_pos (by omega),List.getD_eq_getElem?_getD]
theorem sG {n i:Nat} (hn:n<=100) (hi:i<n) {L:Nat} (hL:L=n*n):ah .i64 ((i:Int)*(n:Int))=true/\ah .i64 ((i:Int)+1)=true/\ah .i64 (((i:Int)+1)*(n:Int))=true/\decide (0<=(i:Int)*(n:Int)/\(i:Int)*(n:Int)<=((i:Int)+1)*(n:Int)/\((i:Int)+1)*(n:Int)<=(L:Int))=true/\Int.toNat ((i:Int)*(n:Int))=i*n/\Int.toNat (((i:Int)+1)*(n:Int))=(i+1)*n:=by
 have h1:=t_ hi;have h2:n*n<=100*100:=Nat.mul_le_mul hn hn;have e1:(i:Int)*(n:Int)=((i*n:Nat):Int):=by rw[Int.natCast_mul]
 have e2:((i:Int)+1)*(n:Int)=(((i+1)*n:Nat):Int):=by rw[Int.natCast_mul]; rfl
 have h3:(i+1)*n=i*n+n:=by rw[Nat.add_mul]; omega
 rw[e1,e2];exact⟨ab (by omega) (by omega),ab (by omega) (by omega),ab (by omega) (by omega),decide_eq_true ⟨by omega,by omega,by omega⟩,Int.toNat_natCast _,Int.toNat_natCast _⟩
theorem NV {N n i:Nat} (hn:n<=100) (hi:i<n) {l:List Fl} (h:l.length=n*n) (k:List Fl->Bool):pC N n n l i k=k (I4 l n i):=by
 obtain⟨a,b,c,d,e,f⟩:=sG hn hi h
 (unfold pC; rw[ac]; unfold oI)
 rw[aa a,aa b,aa c,aa d,e,f];rfl
theorem DD {N n i:Nat} (hn:n<=100) (hi:i<n) {l:List Fl} (h:l.length=n*n) (k:List Fl->Bool):sK N n n l i k=k (I4 l n i):=by
 obtain⟨a,b,c,d,e,f⟩:=sG hn hi h
 (unfold sK; rw[ac]; unfold vt)
 rw[aa a,aa b,aa c,aa d,e,f];rfl
theorem Hf (n i:Nat):(i+1)*n - i*n=n:=by rw[Nat.add_mul]; omega
theorem zb {N n i:Nat} (hn:n<=100) (hi:i<n) {l:List Fl} (h:l.length=n*n) (k:Nat->Nat->Bool):ci N n n i l k=k (i*n) n:=by
 obtain⟨a,b,c,d,e,f⟩:=sG hn hi h
 (unfold ci; rw[ac]; unfold jG)
 rw[aa a,aa b,aa c,aa d,e,f,Hf]
theorem AR {N n i:Nat} (hn:n<=100) (hi:i<n) {l:List Fl} (h:l.length=n*n) (k:Nat->Nat->Bool):xb N n n i l k=k (i*n) n:=by
 obtain⟨a,b,c,d,e,f⟩:=sG hn hi h
 (unfold xb; rw[ac]; unfold Gq)
 rw[aa a,aa b,aa c,aa d,e,f,Hf]
theorem NP {N n j:Nat} (hN:1000<=N) (hn:n<=100) (hj:j<n) {l:List Fl} (h:l.length=n*n) (k:List Fl->Bool):pB N n n l j k=k (vf n (λt=>elt l n t j)):=by
 (unfold pB; rw[ac]; unfold oH)
 have hn2:n*n<=100*100:=Nat.mul_le_mul hn hn;rw[Int.toNat_natCast,List.length_replicate,aa (cb (by omega) (by omega) (by omega) (by omega))];have h0:List.replicate n (some 0)=(vf n (λt=>elt l n t j)).take 0++List.replicate (n - 0) (some 0):=rfl;rw[h0];refine aD (λt:Nat=>((t:Int),(vf n (λt=>elt l n t j)).take t++List.replicate (n - t) (some 0))) n (by omega) ?_ ?_
 ·intro t ht K;unfold jc;dsimp only;obtain⟨h1,h2⟩:=jT (by omega:n<=1000) ht hj;have h3:=nK ht hj;have hl:=xl n (λt=>elt l n t j) (i:=t) (by omega);have hs:=HB n (λt=>elt l n t j) ht;generalize List.take t (vf n λt=>elt l n t j)++List.replicate (n - t) (some 0)=L at *;rw[decide_eq_true (by omega:(t:Int)<(n:Int)),cond_true,jS,aa h1,aa h2,aa (af (by omega) (by omega)),aa (af (by omega) (by omega)),Int.toNat_natCast,aa (decide_eq_true (by omega)),aa (ab (by omega) (by omega)),Int.toNat_natCast];exact congrArg (λl=>K ((t:Int)+1,l)) hs
 ·intro K;unfold jc;dsimp only;rw[decide_eq_false (by omega:¬(n:Int)<(n:Int)),cond_false,Nat.sub_self,List.replicate_zero,List.append_nil,List.take_of_length_le (by rw[bE]; omega)]
theorem LG {N n j:Nat} (hN:1000<=N) (hn:n<=12) (hj:j<n) {l:List Fl} (h:l.length=n*n) (k:List Fl->Bool):pH N n n l j k=k (vf n (λt=>elt l n t j)):=by
 (unfold pH; rw[ac]; unfold oK)
 have h0:([]:List Fl)=(vf n (λt=>elt l n t j)).take 0:=rfl;rw[h0];refine aD (λt:Nat=>((t:Int),(vf n (λt=>elt l n t j)).take t)) n (by omega) ?_ ?_
 ·intro t ht K;unfold jf;dsimp only;rw[decide_eq_true (by omega:(t:Int)<(n:Int)),cond_true,oi hn ht hj h,sM n (λt=>elt l n t j) ht,aa (decide_eq_true (by rw[List.length_take,bE]; omega)),aa (ab (by omega) (by omega))];rfl
 ·intro K;unfold jf;dsimp only;rw[decide_eq_false (by omega:¬(n:Int)<(n:Int)),cond_false,List.take_of_length_le (by rw[bE]; omega)]
theorem sv {N n i j:Nat} (hn:n<=12) (hi:i<n) (hj:j<n) (f:Nat->Nat->Fl) (x:Fl) (k:List Fl->Bool):tk N n n i j x (mf n f) k=k (mf n (λa b=>if a=i/\b=j then x else f a b)):=by obtain⟨h1,h2⟩:=jT (by omega:n<=1000) hi hj;have h3:=nK hi hj;unfold tk OQ;rw[jS,aa h1,aa h2,fo,Int.toNat_natCast,aa (af (by omega) (by omega)),aa (decide_eq_true h3),FP n f hi hj]
theorem oj {N n:Nat} (hn:n<=12) (k:List Fl->Bool):jq N n n k=k (mf n (λ_ _=>some 0)):=by have h2:n*n<=144:=w6 hn;unfold jq xS;rw[<- Int.natCast_mul,aa (ab (by omega) (by omega)),aa (cb (by omega) (by omega) (by omega) (by omega)),Int.toNat_natCast,G4]
def prV (n:Nat) (f p:List Fl):Nat->Nat->Fl:=λi j=>dV (λt=>elt f n i t) (λt=>elt p n t j) n
def prO (n:Nat) (f p:List Fl):Nat->Nat->Bool:=λi j=>dO (λt=>elt f n i t) (λt=>elt p n t j) n
def orM (n:Nat) (p:Nat->Nat->Bool):Bool:=orB (λi=>orB (λj=>p i j) n) n
theorem eV (o:Bool) (p:Nat->Bool) (t:Nat):((o||orB p t)||p t)=(o||orB p (t+1)):=by show _=(o||(orB p t||p t)); rw[Bool.or_assoc]
theorem Ey (n:Nat) (f:Nat->Nat->Fl):(mf n f).take (n*n)=mf n f:=List.take_of_length_le (by rw[fo]; omega)
theorem mV (n i:Nat):i*n+n=(i+1)*n:=by rw[Nat.add_mul]; omega
def rS (g:Nat->Nat->Fl) (i j:Nat):Nat->Nat->Fl:=λa b=>if a<i\/(a=i/\b<j)then g a b else some 0
theorem xL (n:Nat) (g:Nat->Nat->Fl):mf n (λ_ _=>some 0)=mf n (rS g 0 0):=j5 n (λa b _ _=>by unfold rS; rw[if_neg (by omega)])
theorem Md (n:Nat) (g:Nat->Nat->Fl) (i:Nat):mf n (rS g i n)=mf n (rS g (i+1) 0):=j5 n (λa b _ hb=>by
 unfold rS;by_cases h2:a<i\/(a=i/\b<n)
 ·rw[if_pos h2,if_pos (by omega)]
 ·rw[if_neg h2,if_neg (by omega)])
theorem B1 (n:Nat) (g:Nat->Nat->Fl):mf n (rS g n 0)=mf n g:=j5 n (λa b ha _=>by unfold rS; rw[if_pos (.inl ha)])
theorem xK (n:Nat) (g:Nat->Nat->Fl) (i j:Nat):mf n (λa b=>if a=i/\b=j then g i j else rS g i j a b)=mf n (rS g i (j+1)):=j5 n (λa b _ _=>by
 unfold rS;by_cases h:a=i/\b=j
 ·rw[if_pos h,if_pos (by omega),h.1,h.2]
 ·rw[if_neg h];by_cases h2:a<i\/(a=i/\b<j)
  ·rw[if_pos h2,if_pos (by omega)]
  ·rw[if_neg h2,if_neg (by omega)])
def mir (v:Nat->Nat->Fl):Nat->Nat->Fl:=λa b=>if b<=a then v a b else v b a
def mS (v:Nat->Nat->Fl) (i j:Nat):Nat->Nat->Fl:=λa b=>if max a b<i\/(max a b=i/\min a b<j)then mir v a b else some 0
theorem GY (n:Nat) (v:Nat->Nat->Fl):mf n (λ_ _=>some 0)=mf n (mS v 0 0):=j5 n (λa b _ _=>by unfold mS; rw[if_neg (by omega)])
theorem LQ (n:Nat) (v:Nat->Nat->Fl) (i:Nat):mf n (mS v i (i+1))=mf n (mS v (i+1) 0):=j5 n (λa b _ hb=>by
 unfold mS;by_cases h2:max a b<i\/(max a b=i/\min a b<i+1)
 ·rw[if_pos h2,if_pos (by omega)]
 ·rw[if_neg h2,if_neg (by omega)])
theorem LP (n:Nat) (v:Nat->Nat->Fl):mf n (mS v n 0)=mf n (mir v):=j5 n (λa b ha hb=>by unfold mS; rw[if_pos (by omega)])
theorem GX (n:Nat) (v:Nat->Nat->Fl) {i j:Nat} (hj:j<i+1):mf n (λa b=>if a=j/\b=i then v i j else if a=i/\b=j then v i j else mS v i j a b)=mf n (mS v i (j+1)):=j5 n (λa b _ _=>by
 unfold mS mir;by_cases h:a=j/\b=i
 ·rw[if_pos h,h.1,h.2,if_pos (by omega:max j i<i\/(max j i=i/\min j i<j+1))];by_cases hij:i<=j
  ·rw[if_pos hij,show j=i by omega]
  ·rw[if_neg hij]
 ·rw[if_neg h];by_cases h1:a=i/\b=j
  ·rw[if_pos h1,h1.1,h1.2,if_pos (by omega:max i j<i\/(max i j=i/\min i j<j+1)),if_pos (by omega:j<=i)]
  ·rw[if_neg h1];by_cases h2:max a b<i\/(max a b=i/\min a b<j)
   ·rw[if_pos h2,if_pos (by omega:max a b<i\/(max a b=i/\min a b<j+1))]
   ·rw[if_neg h2,if_neg (by omega:¬(max a b<i\/(max a b=i/\min a b<j+1)))])
theorem FD {N n:Nat} (hN:1000<=N) (hn:n<=12) {f p:List Fl} (hf:f.length=n*n) (hp:p.length=n*n) (o:Bool) (k:Bool->List Fl->Bool) :
  Mz N n n f n n p o k=k (o||orM n (prO n f p)) (mf n (prV n f p)):=by
 (unfold Mz; rw[ac]; unfold J_)
 rw[oj hn,xL n (prV n f p)];have h0:((0,o,mf n (rS (prV n f p) 0 0)):Int × Bool × List Fl)=(λi:Nat=>((i:Int),o||orB (λi=>orB (λj=>prO n f p i j) n) i,mf n (rS (prV n f p) i 0))) 0:=by show _=(((0:Nat):Int),o||false,_); rw[mQ]; rfl
 rw[h0];refine aD (λi:Nat=>((i:Int),o||orB (λi=>orB (λj=>prO n f p i j) n) i,mf n (rS (prV n f p) i 0))) n (by omega) ?_ ?_
 ·intro i hi K;unfold gS;dsimp only;rw[decide_eq_true (by omega:(i:Int)<(n:Int)),cond_true];generalize ho1:(o||orB (λi=>orB (λj=>prO n f p i j) n) i)=o1;have h1:((0,o1,mf n (rS (prV n f p) i 0)):Int × Bool × List Fl)=(λj:Nat=>((j:Int),o1||orB (λj=>prO n f p i j) j,mf n (rS (prV n f p) i j))) 0:=by show _=(((0:Nat):Int),o1||false,_); rw[mQ]; rfl
  rw[h1];refine(aD (λj:Nat=>((j:Int),o1||orB (λj=>prO n f p i j) j,mf n (rS (prV n f p) i j))) n (N:=N) (by omega) (out:=K ((((i+1:Nat)):Int),o||orB (λi=>orB (λj=>prO n f p i j) n) (i+1),mf n (rS (prV n f p) (i+1) 0))) ?_ ?_:_)
  ·intro j hj K';unfold gT;dsimp only;rw[decide_eq_true (by omega:(j:Int)<(n:Int)),cond_true,DD (by omega) hi hf,LG hN hn hj hp,
    za (n:=n) (f:=λt=>elt f n i t) (g:=λt=>elt p n t j) hN (by omega) (zu hf hi) (by rw[bE]; omega) (by rw[bE]; omega) (λt ht=>vW hf hi ht) (λt ht=>kt n _ ht none),
    sv hn hi hj,aa (ab (by omega) (by omega))]
   have e:dV (λt=>elt f n i t) (λt=>elt p n t j) n=prV n f p i j:=rfl;have e2:dO (λt=>elt f n i t) (λt=>elt p n t j) n=prO n f p i j:=rfl;rw[e,e2,eV o1 (λj=>prO n f p i j) j,xK];rfl
  ·intro K';unfold gT;dsimp only;rw[decide_eq_false (by omega:¬(n:Int)<(n:Int)),cond_false,aa (ab (by omega) (by omega)),<- ho1,Md,eV o (λi=>orB (λj=>prO n f p i j) n) i];rfl
 ·intro K;unfold gS;dsimp only;rw[decide_eq_false (by omega:¬(n:Int)<(n:Int)),cond_false,B1];rfl
def orL (n:Nat) (p:Nat->Nat->Bool):Bool:=orB (λi=>orB (λj=>p i j) (i+1)) n
def sqc (a b:Int) (l:List Fl) (n:Int):Int:=if chk a b l ≠ 0 then chk a b l else if a ≠ b then 3 else if a ≠ n then 3 else 0
theorem cd (a b:Int) (h:¬ a=b):(a != b)=true:=by simp[h]
def low (v:Nat->Nat->Fl):Nat->Nat->Fl:=λa b=>if b<=a then v a b else some 0
theorem DC {N n:Nat} (hN:1000<=N) (hn:n<=12) (v:Nat->Nat->Fl) (k:List Fl->Bool):pI N n n (mf n (low v)) k=k (mf n (mir v)):=by
 (unfold pI; rw[ac]; unfold oL)
 rw[oj hn,GY n v];refine aD (λi:Nat=>((i:Int),mf n (mS v i 0))) n (by omega) ?_ ?_
 ·intro i hi K;unfold jg;dsimp only;rw[decide_eq_true (by omega:(i:Int)<(n:Int)),cond_true];refine(aD (λj:Nat=>((j:Int),mf n (mS v i j))) (i+1) (N:=N) (by omega) (out:=K ((((i+1:Nat)):Int),mf n (mS v (i+1) 0))) ?_ ?_:_)
  ·intro j hj K';have hj2:j<n:=by omega
   unfold jh;dsimp only;have hL:(mf n (low v)).length=n*n:=fo n _;have e:elt (mf n (low v)) n i j=v i j:=by rw[zf n _ hi hj2]; unfold low; rw[if_pos (by omega)]
   rw[decide_eq_true (by omega:(j:Int)<=(i:Int)),cond_true,oi hn hi hj2 hL,e,sv hn hi hj2,oi hn hi hj2 hL,e,sv hn hj2 hi,aa (ab (by omega) (by omega)),GX n v hj];rfl
  ·intro K';unfold jh;dsimp only;rw[decide_eq_false (by omega:¬((i+1:Nat):Int)<=(i:Int)),cond_false,aa (ab (by omega) (by omega)),LQ];rfl
 ·intro K;unfold jg;dsimp only;rw[decide_eq_false (by omega:¬(n:Int)<(n:Int)),cond_false,LP]
theorem R7 {n:Nat} {f:Nat->Nat->Fl} {P:Fl->Prop} (h:∀ a b,a<n->b<n->P (f a b)):∀ t,t<n*n->P ((mf n f).getD t none):=by
 intro t ht;have hn:0<n:=by
  rcases Nat.eq_zero_or_pos n with h0 | h0
  ·rw[h0]at ht; omega
  ·exact h0
 have:=BR n f (Nat.div_lt_of_lt_mul ht) (Nat.mod_lt t hn) none;rw[show t / n*n+t%n=t from by rw[Nat.mul_comm]; exact Nat.div_add_mod t n]at this;rw[this];exact h _ _ (Nat.div_lt_of_lt_mul ht) (Nat.mod_lt t hn)
theorem LU {n:Nat} {f:Nat->Nat->Fl} (h:∀ a b,a<n->b<n->bb (f a b)=true):bw (mf n f)=true:=by unfold bw;refine jI.2 (λt ht=>R7 (P:=λx=>bb x=true) h t ?_);rw[fo]at ht; exact ht
theorem R6 {n:Nat} {f:Nat->Nat->Fl} (h:∀ a b,FW (f a b)):AllW (mf n f):=by intro x hx;unfold mf at hx;obtain⟨t,-,rfl⟩:=List.mem_map.1 hx;exact h _ _
theorem G6 {n:Nat} (v:Nat->Nat->Fl):Kt n (mf n (mir v)):=by
 intro a b ha hb;show pu (ofE (elt (mf n (mir v)) n a b))=pu (ofE (elt (mf n (mir v)) n b a));rw[zf n _ ha hb,zf n _ hb ha];unfold mir;rcases Nat.lt_trichotomy a b with h | h | h
 ·rw[if_neg (by omega),if_pos (by omega)]
 ·rw[h]
 ·rw[if_pos (by omega),if_neg (by omega)]
theorem LV {v:Nat->Nat->Fl} (h:∀ a b,FW (v a b)) (a b:Nat):FW (mir v a b):=by
 unfold mir; split
 ·exact h _ _
 ·exact h _ _
theorem G5 {n:Nat} {v:Nat->Nat->Fl} (h:∀ a b,a<n->b<=a->bb (v a b)=true):∀ a b,a<n->b<n->bb (mir v a b)=true:=by
 intro a b ha hb;unfold mir; split
 ·exact h _ _ ha (by assumption)
 ·exact h _ _ hb (by omega)
theorem IE {N n:Nat} (hF:Fuel N) (hn:n<=12) (x:List Fl) {v:Nat->Nat->Fl} (b:Bool) (hb:b=false -> ∀ i j,i<n->j<=i->bb (v i j)=true) (hw:∀ i j,FW (v i j)) (k0:Int->Int->Int->Bool) (k1:Int->List Fl->Bool) :
  Jb N n n x (mf n (low v)) b k0 k1=cond b (k0 0 0 5) (cond (!uZ n (mf n (mir v))) (k0 0 0 151) (k1 0 (mf n (mir v)))):=by
 have hN:=hF.lt
 (unfold Jb; rw[ac]; unfold P0)
 cases b
 ·rw[cond_false,cond_false,DC (by omega) hn,uM hF hn (fo n _) (LU (G5 (hb rfl))) (R6 (LV hw)) (G6 _)]
 ·rfl
def spl (l:List Fl):Nat->List Fl
 | 0=>l
 | t+1=>(spl l t).set t (some 4635118810238550016)
theorem Hv (l:List Fl):∀ t,(spl l t).length=l.length
 | 0=>rfl
 | t+1=>by unfold spl; rw[List.length_set,Hv l t]
theorem yW {N:Nat} {a:List Fl} (hs:bJ N a.length) (h:∀ i,i<a.length->Nn (a.getD i none)) (k:Bool->Bool):I8 N a a k=k true:=by
 have h1:=hs.1;have h2:=hs.2
 (unfold I8; rw[ac]; unfold PH)
 rw[show(((a.length:Nat):Int) != ((a.length:Nat):Int))=false by simp,cond_false];refine aD (λt:Nat=>(t:Int)) a.length (by omega) ?_ ?_
 ·intro t ht K;unfold Ce;dsimp only;rw[decide_eq_true (by omega:(t:Int)<(a.length:Int)),cond_true,aa (af (by omega) (by omega)),aa (af (by omega) (by omega)),Int.toNat_natCast,so (h t ht),show(!true)=false from rfl,cond_false,aa (ab (by omega) (by omega))];rfl
 ·intro K;unfold Ce;dsimp only;rw[decide_eq_false (by omega:¬(a.length:Int)<(a.length:Int)),cond_false]
theorem vP {N:Nat} {a b:List Fl} (ha:bJ N a.length) (hb:bJ N b.length) (h:∀ i,i<a.length->Nn (a.getD i none)) (g:∀ i,i<b.length->Nn (b.getD i none)) (i j:Int) (k:Bool->Bool):MC N a i j b a i j b k=k true:=by
 (unfold MC; rw[ac]; unfold PM)
 rw[yW ha h,show(i==i)=true by simp,show(j==j)=true by simp];show I8 N b b _=_;rw[yW hb g]
theorem yY {N:Nat} (hN:1000<=N) (i j:Int) (k:Bool->Bool):MC N [] i j [] [] i j [] k=k true:=
 vP (a:=[]) (b:=[]) ⟨by show 0<N; omega,by decide⟩ ⟨by show 0<N; omega,by decide⟩ (λi hi=>by exact absurd hi (Nat.not_lt_zero _)) (λi hi=>by exact absurd hi (Nat.not_lt_zero _)) i j k
theorem zl (l:List Int):(ot l).length=l.length:=by unfold ot; rw[List.length_map]
theorem pL {N:Nat} {l:List Int} (h:bJ N l.length):bJ N (ot l).length:=by rw[zl]; exact h
theorem vM {N:Nat} {x p:List Int} (hx:bJ N x.length) (hp:bJ N p.length) (r c:Int) (k:List Fl->List Fl->Bool):MD N x r c p k=k (ot x) (ot p):=by unfold MD SV;rw[yT x hx,yT p hp]
theorem M9 {n:Nat} {g:Nat->Fl} {P:Fl->Prop} (h:∀ i,i<n->P (g i)):∀ i,i<(vf n g).length->P ((vf n g).getD i none):=by intro i hi;rw[bE]at hi;rw[kt n g hi];exact h i hi
theorem jW (N:Nat) {x:Fl} (hw:FW x) (o:Bool) (a1:List Fl) (a2 a3:Int) (a4 a5:List Fl) (a6 a7 a8:Fl) (a9:List Fl) (k:Bool->Bool):F8 N x o a1 a2 a3 a4 a5 a6 a7 a8 a9 k=k (o || !bb x):=by
 (unfold F8; rw[ac]; unfold PX)
 exact GF hw o k
theorem tf (N:Nat) (x y:Fl) (o:Bool) (a1:List Fl) (a2 a3:Int) (a4 a5:List Fl) (a6 a7 a8:Fl) (a9:List Fl) (k:Fl->Bool->Bool):Oz N x y o a1 a2 a3 a4 a5 a6 a7 a8 a9 k=k (bd x y) (o || !bb (bd x y)):=by
 (unfold Oz; rw[ac]; unfold Qc)
 rw[jW N (Gm x y)]
theorem dA (N:Nat) {x:Fl} (hw:FW x) (o:Bool) (a1:List Fl) (a2 a3:Int) (a4 a5:List Fl) (a6 a7 a8:Fl) (a9 a10:List Fl) (k:Bool->Bool):xx N x o a1 a2 a3 a4 a5 a6 a7 a8 a9 a10 k=k (o || !bb x):=by
 (unfold xx; rw[ac]; unfold PE)
 exact GF hw o k
theorem dM (N:Nat) (x y:Fl) (o:Bool) (a1:List Fl) (a2 a3:Int) (a4 a5:List Fl) (a6 a7 a8:Fl) (a9 a10:List Fl) (k:Fl->Bool->Bool):zy N x y o a1 a2 a3 a4 a5 a6 a7 a8 a9 a10 k=k (bd x y) (o || !bb (bd x y)):=by
 (unfold zy; rw[ac]; unfold PC)
 rw[dA N (Gm x y)]
theorem Do {N n:Nat} (hN:1000<=N) (hn:n<=100) {a b:List Fl} (a1:List Fl) (a2 a3:Int) (a4 a5:List Fl) (a6 a7 a8:Fl) (a9:List Fl) {f g:Nat->Fl} (ha:a.length=n) (hb:n<=b.length) (hbs:b.length<=1000) (hf:∀ i,i<n->a.getD i none=f i) (hg:∀ i,i<n->b.getD i none=g i) (o:Bool) (k:Fl->Bool->Bool) :
  Oy N a b o a1 a2 a3 a4 a5 a6 a7 a8 a9 k=k (dV f g n) (o||dO f g n):=by
 (unfold Oy; rw[ac]; unfold Qb)
 have h0:((some 0,0,o):Fl × Int × Bool)=(λt:Nat=>(dV f g t,(t:Int),o||dO f g t)) 0:=by show _=(some 0,((0:Nat):Int),o||false); rw[mQ]; rfl
 rw[h0];refine aD (λt:Nat=>(dV f g t,(t:Int),o||dO f g t)) n (by omega) ?_ ?_
 ·intro t ht K;unfold Ck;dsimp only;rw[decide_eq_true (by omega:(t:Int)<(a.length:Int)),cond_true,aa (af (by omega) (by omega)),aa (af (by omega) (by omega)),Int.toNat_natCast,hf t ht,hg t ht,tf,jW N (kR _ _),aa (ab (by omega) (by omega)),oV];rfl
 ·intro K;unfold Ck;dsimp only;rw[decide_eq_false (by omega:¬(n:Int)<(a.length:Int)),cond_false]
theorem Ll {N n:Nat} (hN:1000<=N) (hn:n<=100) {a b:List Fl} (a1:List Fl) (a2 a3:Int) (a4 a5:List Fl) (a6 a7 a8:Fl) {f g:Nat->Fl} (ha:a.length=n) (hb:n<=b.length) (hbs:b.length<=1000) (hf:∀ i,i<n->a.getD i none=f i) (hg:∀ i,i<n->b.getD i none=g i) (o:Bool) (k:Fl->Bool->Bool) :
  Sv N a o a1 a2 a3 a4 a5 a6 a7 a8 b k=k (dV f g n) (o||dO f g n):=by
 (unfold Sv; rw[ac]; unfold P9)
 have h0:((some 0,0,o):Fl × Int × Bool)=(λt:Nat=>(dV f g t,(t:Int),o||dO f g t)) 0:=by show _=(some 0,((0:Nat):Int),o||false); rw[mQ]; rfl
 rw[h0];refine aD (λt:Nat=>(dV f g t,(t:Int),o||dO f g t)) n (by omega) ?_ ?_
 ·intro t ht K;unfold Cg;dsimp only;rw[decide_eq_true (by omega:(t:Int)<(a.length:Int)),cond_true,aa (af (by omega) (by omega)),aa (af (by omega) (by omega)),Int.toNat_natCast,aa (decide_eq_true (by omega)),hf t ht,hg t ht,tf,jW N (kR _ _),aa (ab (by omega) (by omega)),oV];rfl
 ·intro K;unfold Cg;dsimp only;rw[decide_eq_false (by omega:¬(n:Int)<(a.length:Int)),cond_false]
theorem Lm {N n:Nat} (hN:1000<=N) (hn:n<=100) {s:Nat} {a b:List Fl} (a1:List Fl) (a2 a3:Int) (a4 a5:List Fl) (a6 a7 a8:Fl) (a9 a10:List Fl) {f g:Nat->Fl} (ha:s+n<=a.length) (hb:n<=b.length) (hbs:b.length<=1000) (hf:∀ i,i<n->a.getD (s+i) none=f i) (hg:∀ i,i<n->b.getD i none=g i) (o:Bool) (k:Fl->Bool->Bool) :
  Sm N s n o a1 a2 a3 a4 a5 a6 a7 a8 a b a9 a10 k=k (dV f g n) (o||dO f g n):=by
 (unfold Sm; rw[ac]; unfold PS)
 have h0:((some 0,0,o):Fl × Int × Bool)=(λt:Nat=>(dV f g t,(t:Int),o||dO f g t)) 0:=by show _=(some 0,((0:Nat):Int),o||false); rw[mQ]; rfl
 rw[h0];refine aD (λt:Nat=>(dV f g t,(t:Int),o||dO f g t)) n (by omega) ?_ ?_
 ·intro t ht K;unfold Cc;dsimp only;rw[decide_eq_true (by omega:(t:Int)<(n:Int)),cond_true,aa (af (by omega) (by omega)),Int.toNat_natCast,aa (decide_eq_true (by omega)),aa (af (by omega) (by omega)),aa (decide_eq_true (by omega)),hf t ht,hg t ht,dM,dA N (kR _ _),aa (ab (by omega) (by omega)),oV];rfl
 ·intro K;unfold Cc;dsimp only;rw[decide_eq_false (by omega:¬(n:Int)<(n:Int)),cond_false]
theorem Ln {N n:Nat} (hN:1000<=N) (hn:n<=100) {s s':Nat} {a b:List Fl} (a1:List Fl) (a2 a3:Int) (a4 a5:List Fl) (a6 a7 a8:Fl) (a9 a10:List Fl) {f g:Nat->Fl} (ha:s+n<=a.length) (hb:s'+n<=b.length) (hf:∀ i,i<n->a.getD (s+i) none=f i) (hg:∀ i,i<n->b.getD (s'+i) none=g i) (o:Bool) (k:Fl->Bool->Bool) :
  Sl N s n s' n o a1 a2 a3 a4 a5 a6 a7 a8 a b a9 a10 k=k (dV f g n) (o||dO f g n):=by
 (unfold Sl; rw[ac]; unfold PR)
 have h0:((some 0,0,o):Fl × Int × Bool)=(λt:Nat=>(dV f g t,(t:Int),o||dO f g t)) 0:=by show _=(some 0,((0:Nat):Int),o||false); rw[mQ]; rfl
 rw[h0];refine aD (λt:Nat=>(dV f g t,(t:Int),o||dO f g t)) n (by omega) ?_ ?_
 ·intro t ht K;unfold Cb;dsimp only;rw[decide_eq_true (by omega:(t:Int)<(n:Int)),cond_true,aa (af (by omega) (by omega)),Int.toNat_natCast,aa (decide_eq_true (by omega)),aa (af (by omega) (by omega)),aa (decide_eq_true (by omega)),hf t ht,hg t ht,dM,dA N (kR _ _),aa (ab (by omega) (by omega)),oV];rfl
 ·intro K;unfold Cb;dsimp only;rw[decide_eq_false (by omega:¬(n:Int)<(n:Int)),cond_false]
theorem BK {N n:Nat} (hN:1000<=N) (hn:n<=12) {f p:List Fl} (hf:f.length=n*n) (hp:p.length=n*n) (o:Bool) (a1:List Fl) (a2 a3:Int) (a4 a5:List Fl) (a6 a7 a8:Fl) (a9 a10:List Fl) (k:Bool->List Fl->Bool) :
  dk N n n n n p o a1 a2 a3 a4 a5 a6 a7 a8 f a9 a10 k=k (o||orM n (prO n f p)) (mf n (prV n f p)):=by
 (unfold dk; rw[ac]; unfold de)
 have hn2:n*n<=144:=w6 hn;have h0:((0,o,[]):Int × Bool × List Fl)=(λi:Nat=>((i:Int),o||orB (λi=>orB (λj=>prO n f p i j) n) i,(mf n (prV n f p)).take (i*n))) 0:=by show _=(((0:Nat):Int),o||false,List.take (0*n) _); rw[mQ,Nat.zero_mul]; rfl
 rw[h0];refine aD (λi:Nat=>((i:Int),o||orB (λi=>orB (λj=>prO n f p i j) n) i,(mf n (prV n f p)).take (i*n))) n (by omega) ?_ ?_
 ·intro i hi K;unfold bH;dsimp only;rw[decide_eq_true (by omega:(i:Int)<(n:Int)),cond_true];generalize ho1:(o||orB (λi=>orB (λj=>prO n f p i j) n) i)=o1;have h1:((0,o1,(mf n (prV n f p)).take (i*n)):Int × Bool × List Fl)=(λj:Nat=>((j:Int),o1||orB (λj=>prO n f p i j) j,(mf n (prV n f p)).take (i*n+j))) 0:=by show _=(((0:Nat):Int),o1||false,List.take (i*n+0) _); rw[mQ]; rfl
  rw[h1];refine(aD (λj:Nat=>((j:Int),o1||orB (λj=>prO n f p i j) j,(mf n (prV n f p)).take (i*n+j))) n (N:=N) (by omega) (out:=K ((((i+1:Nat)):Int),o||orB (λi=>orB (λj=>prO n f p i j) n) (i+1),(mf n (prV n f p)).take ((i+1)*n))) ?_ ?_:_)
  ·intro j hj K';have hij:=nK hi hj;have hrow:=t_ hi;have hrn:=mV n i;unfold bI;dsimp only;rw[decide_eq_true (by omega:(j:Int)<(n:Int)),cond_true,zb (by omega) hi hf,NP hN (by omega) hj hp,
    Lm (n:=n) (s:=i*n) (f:=λt=>elt f n i t) (g:=λt=>elt p n t j) hN (by omega) _ _ _ _ _ _ _ _ _ _ (by omega) (by rw[bE]; omega) (by rw[bE]; omega) (λt ht=>rfl) (λt ht=>kt n _ ht none)]
   have e:dV (λt=>elt f n i t) (λt=>elt p n t j) n=prV n f p i j:=rfl;have e2:dO (λt=>elt f n i t) (λt=>elt p n t j) n=prO n f p i j:=rfl;rw[e,e2,G3 n (prV n f p) hi hj,aa (decide_eq_true (by rw[List.length_take,fo]; omega)),aa (ab (by omega) (by omega)),eV o1 (λj=>prO n f p i j) j];rfl
  ·intro K';unfold bI;dsimp only;rw[decide_eq_false (by omega:¬(n:Int)<(n:Int)),cond_false,aa (ab (by omega) (by omega)),<- ho1,mV,eV o (λi=>orB (λj=>prO n f p i j) n) i];rfl
 ·intro K;unfold bH;dsimp only;rw[decide_eq_false (by omega:¬(n:Int)<(n:Int)),cond_false,Ey];rfl
def jV (n:Nat) (B A kk:List Fl) (r:Fl):Nat->Nat->Fl:=λi j=>dZ (dV (λt=>elt B n i t) (λt=>elt A n j t) n) (bd (bd (kk.getD i none) r) (kk.getD j none))
def jO (n:Nat) (B A kk:List Fl) (r:Fl):Nat->Nat->Bool:=λi j=>((dO (λt=>elt B n i t) (λt=>elt A n j t) n || !bb (bd (kk.getD i none) r)) || !bb (bd (bd (kk.getD i none) r) (kk.getD j none))) || !bb (jV n B A kk r i j)
theorem Lx {N n i j:Nat} (hN:1000<=N) (hn:n<=12) (hi:i<n) (hj:j<n) {B A kk:List Fl} (hB:B.length=n*n) (hA:A.length=n*n) (hk:kk.length=n) (o:Bool) (a1:List Fl) (a2 a3:Int) (a4 a5:List Fl) (a6 a7 a8:Fl) (a9:List Fl) (k:Fl->Bool->Bool) :
  bA N i j n n n n o a1 a2 a3 a4 a5 a6 a7 a8 B A a9 kk k=k (jV n B A kk a6 i j) (o||jO n B A kk a6 i j):=by
 (unfold bA; rw[ac]; unfold bv)
 have h1:=t_ hi;have h2:=mV n i;have h3:=t_ hj;have h4:=mV n j;rw[zb (by omega) hi hB,zb (by omega) hj hA,
  Ln (n:=n) (s:=i*n) (s':=j*n) (f:=λt=>elt B n i t) (g:=λt=>elt A n j t) hN (by omega) _ _ _ _ _ _ _ _ _ _ (by omega) (by omega) (λt ht=>rfl) (λt ht=>rfl),
  aa (af (by omega) (by omega)),Int.toNat_natCast,aa (decide_eq_true (by omega)),dM,aa (af (by omega) (by omega)),Int.toNat_natCast,aa (decide_eq_true (by omega)),dM,dA N (kR _ _)]
 unfold jO;simp only[Bool.or_assoc];rfl
theorem Ab {N n:Nat} (hN:1000<=N) (hn:n<=12) {B A kk:List Fl} (hB:B.length=n*n) (hA:A.length=n*n) (hk:kk.length=n) (o:Bool) (a1:List Fl) (a2 a3:Int) (a4 a5:List Fl) (a6 a7 a8:Fl) (a9:List Fl) (k:Bool->List Fl->Bool) :
  ce N n n n n n o a1 a2 a3 a4 a5 a6 a7 a8 B A a9 kk k=k (o||orL n (jO n B A kk a6)) (mf n (mir (jV n B A kk a6))):=by
 have hn2:n*n<=144:=w6 hn
 (unfold ce; rw[ac]; unfold b9)
 rw[<- Int.natCast_mul,aa (ab (by omega) (by omega)),aa (cb (by omega) (by omega) (by omega) (by omega)),Int.toNat_natCast,G4];generalize hv:jV n B A kk a6=v;generalize hw:jO n B A kk a6=w;rw[GY n v];have h0:((0,o,mf n (mS v 0 0)):Int × Bool × List Fl)=(λi:Nat=>((i:Int),o||orB (λi=>orB (λj=>w i j) (i+1)) i,mf n (mS v i 0))) 0:=by show _=(((0:Nat):Int),o||false,_); rw[mQ]; rfl
 rw[h0];refine aD (λi:Nat=>((i:Int),o||orB (λi=>orB (λj=>w i j) (i+1)) i,mf n (mS v i 0))) n (by omega) ?_ ?_
 ·intro i hi K;unfold bt;dsimp only;rw[decide_eq_true (by omega:(i:Int)<(n:Int)),cond_true,aa (ab (by omega) (by omega))];generalize ho1:(o||orB (λi=>orB (λj=>w i j) (i+1)) i)=o1;have h1:((0,o1,mf n (mS v i 0)):Int × Bool × List Fl)=(λj:Nat=>((j:Int),o1||orB (λj=>w i j) j,mf n (mS v i j))) 0:=by show _=(((0:Nat):Int),o1||false,_); rw[mQ]; rfl
  rw[h1];refine(aD (λj:Nat=>((j:Int),o1||orB (λj=>w i j) j,mf n (mS v i j))) (i+1) (N:=N) (by omega) (out:=K ((((i+1:Nat)):Int),o||orB (λi=>orB (λj=>w i j) (i+1)) (i+1),mf n (mS v (i+1) 0))) ?_ ?_:_)
  ·intro j hj K';have hj2:j<n:=by omega
   obtain⟨g1,g2⟩:=jT (by omega:n<=1000) hi hj2;obtain⟨g3,g4⟩:=jT (by omega:n<=1000) hj2 hi;have g5:=nK hi hj2;have g6:=nK hj2 hi;unfold bu;dsimp only;rw[decide_eq_true (by omega:(j:Int)<(i:Int)+1),cond_true,Lx hN hn hi hj2 hB hA hk,aa g1,jS,aa g2,aa g3,jS,aa g4,fo,aa (af (by omega) (by omega)),Int.toNat_natCast,aa (decide_eq_true g5),hv,hw,
    FP n _ hi hj2,fo,aa (af (by omega) (by omega)),Int.toNat_natCast,aa (decide_eq_true g6),FP n _ hj2 hi,aa (ab (by omega) (by omega)),eV o1 (λj=>w i j) j,GX n v hj]
   rfl
  ·intro K';unfold bu;dsimp only;rw[decide_eq_false (by omega:¬((i+1:Nat):Int)<(i:Int)+1),cond_false,aa (ab (by omega) (by omega)),<- ho1,LQ,eV o (λi=>orB (λj=>w i j) (i+1)) i];rfl
 ·intro K;unfold bt;dsimp only;rw[decide_eq_false (by omega:¬(n:Int)<(n:Int)),cond_false,LP];rfl
def F0 (i j:Nat):Fl:=if i=j then some 4607182418800017408 else some 0
def asV (kk h:List Fl):Nat->Nat->Fl:=λi j=>dn (F0 i j) (bd (kk.getD i none) (h.getD j none))
def asO (kk h:List Fl):Nat->Nat->Bool:=λi j=>!bb (bd (kk.getD i none) (h.getD j none)) || !bb (asV kk h i j)
def Dl (n:Nat) (p kk h:List Fl) (r:Fl):List Fl:=mf n (mir (jV n (mf n (prV n (mf n (asV kk h)) p)) (mf n (asV kk h)) kk r))
def BG (n:Nat) (p kk h:List Fl) (r:Fl):Bool:=(orM n (asO kk h)||orM n (prO n (mf n (asV kk h)) p))||orL n (jO n (mf n (prV n (mf n (asV kk h)) p)) (mf n (asV kk h)) kk r)
theorem Fz {N n:Nat} (hN:1000<=N) (hn:n<=12) {p h kk:List Fl} (hp:p.length=n*n) (hh:h.length=n) (hk:kk.length=n) (o:Bool) (a1:List Fl) (r a7 a8:Fl) (a9:List Fl) (k:Int->Int->Bool->List Fl->Bool) :
  cI N o a1 n n p h r a7 a8 a9 kk k=k n n (o||BG n p kk h r) (Dl n p kk h r):=by
 (unfold cI; rw[ac]; unfold cG)
 rw[hh];have hn2:n*n<=144:=w6 hn;have h0:((0,o,[]):Int × Bool × List Fl)=(λi:Nat=>((i:Int),o||orB (λi=>orB (λj=>asO kk h i j) n) i,(mf n (asV kk h)).take (i*n))) 0:=by show _=(((0:Nat):Int),o||false,List.take (0*n) _); rw[mQ,Nat.zero_mul]; rfl
 rw[h0];refine aD (λi:Nat=>((i:Int),o||orB (λi=>orB (λj=>asO kk h i j) n) i,(mf n (asV kk h)).take (i*n))) n (by omega) ?_ ?_
 ·intro i hi K;unfold bC;dsimp only;rw[decide_eq_true (by omega:(i:Int)<(n:Int)),cond_true];generalize ho1:(o||orB (λi=>orB (λj=>asO kk h i j) n) i)=o1;have h1:((0,o1,(mf n (asV kk h)).take (i*n)):Int × Bool × List Fl)=(λj:Nat=>((j:Int),o1||orB (λj=>asO kk h i j) j,(mf n (asV kk h)).take (i*n+j))) 0:=by show _=(((0:Nat):Int),o1||false,List.take (i*n+0) _); rw[mQ]; rfl
  rw[h1];refine(aD (λj:Nat=>((j:Int),o1||orB (λj=>asO kk h i j) j,(mf n (asV kk h)).take (i*n+j))) n (N:=N) (by omega) (out:=K ((((i+1:Nat)):Int),o||orB (λi=>orB (λj=>asO kk h i j) n) (i+1),(mf n (asV kk h)).take ((i+1)*n))) ?_ ?_:_)
  ·intro j hj K';have hij:=nK hi hj;unfold bD;dsimp only;have key:∀ z:Fl,F0 i j=z->(inR (i:Int) (List.length kk)&&(decide ((Int.toNat (i:Int))<kk.length)&&(inR (j:Int) (List.length h)&&zy N (kk.getD (Int.toNat (i:Int)) none) (h.getD (Int.toNat (j:Int)) none) (o1||orB (λj=>asO kk h i j) j) a1 n n p h r a7 a8 a9 kk (λxr cr=>xx N (dn z xr) cr a1 n n p h r a7 a8 a9 kk (λVU=>(decide ((((mf n (asV kk h)).take (i*n+j)++[dn z xr]).length)*8<=140737488355328))&&(ah .i64 ((j:Int)+1)&&K' ((j:Int)+1,VU,(mf n (asV kk h)).take (i*n+j)++[dn z xr])))))))=K' (((j+1:Nat):Int),o1||orB (λj=>asO kk h i j) (j+1),(mf n (asV kk h)).take (i*n+(j+1))):=by
    intro z hz;rw[aa (af (by omega) (by omega)),Int.toNat_natCast,aa (decide_eq_true (by omega)),aa (af (by omega) (by omega)),Int.toNat_natCast,dM,dA N (Bi _ _)];have e:dn z (bd (kk.getD i none) (h.getD j none))=asV kk h i j:=by rw[<- hz]; rfl
    have e2:(((o1||orB (λj=>asO kk h i j) j) || !bb (bd (kk.getD i none) (h.getD j none))) || !bb (asV kk h i j))=(o1||orB (λj=>asO kk h i j) (j+1)):=by rw[<- eV o1 (λj=>asO kk h i j) j];unfold asO;simp only[Bool.or_assoc]
    rw[e,e2,G3 n (asV kk h) hi hj,aa (decide_eq_true (by rw[List.length_take,fo]; omega)),aa (ab (by omega) (by omega))];rfl
   rw[decide_eq_true (by omega:(j:Int)<(n:Int)),cond_true];by_cases hij2:i=j
   ·have e:((i:Int)==(j:Int))=true:=by rw[hij2]; exact beq_self_eq_true _
    rw[e,cond_true];exact key _ (by unfold F0; rw[if_pos hij2])
   ·have e:((i:Int)==(j:Int))=false:=by rw[beq_eq_false_iff_ne]; omega
    rw[e,cond_false];exact key _ (by unfold F0; rw[if_neg hij2])
  ·intro K';unfold bD;dsimp only;rw[decide_eq_false (by omega:¬(n:Int)<(n:Int)),cond_false,aa (ab (by omega) (by omega)),<- ho1,mV,eV o (λi=>orB (λj=>asO kk h i j) n) i];rfl
 ·intro K;unfold bC;dsimp only;rw[decide_eq_false (by omega:¬(n:Int)<(n:Int)),cond_false,Ey,BK hN hn (fo _ _) hp,Ab hN hn (fo _ _) (fo _ _) hk];unfold Dl BG;rw[show orB (λi=>orB (λj=>asO kk h i j) n) n=orM n (asO kk h) from rfl];simp only[Bool.or_assoc]
def shV (n:Nat) (p kk v:List Fl):Nat->Nat->Fl:=λi j=>dn (elt p n i j) (bd (kk.getD i none) (v.getD j none))
def shO (n:Nat) (p kk v:List Fl):Nat->Nat->Bool:=λi j=>!bb (bd (kk.getD i none) (v.getD j none)) || !bb (shV n p kk v i j)
def Vg (n:Nat) (p kk v:List Fl):List Fl:=mf n (mir (shV n p kk v))
def OE (n:Nat) (p kk v:List Fl):Bool:=orL n (shO n p kk v)
def lV (n:Nat) (h:List Fl) (r:Fl):Int:=if h.length ≠ n then 3 else if bw h=false then 4 else if bb r=false then 4 else if fle r (some 0)=true then 152 else 0
theorem x_ (r:Fl):bw [r]=bb r:=by show(vz (λi=>bb ([r].getD i none)) 1)=bb r;unfold vz vz;rw[Bool.true_and]; rfl
theorem ifz {α:Sort _} {a:Int} {A B:α} (h:a=0):(if a ≠ 0 then A else B)=B:=if_neg λq=>q h
theorem z_ {α:Sort _} {a:Int} {A B:α} (h:¬ a=0):(if a ≠ 0 then A else B)=A:=if_pos h
theorem LJ {N:Nat} (hN:1000<=N) {n:Nat} (hn:n<=12) (h:List Fl) (r:Fl) (k:Int->Bool):nO N n h r k=k (lV n h r):=by
 (unfold nO; rw[ac]; unfold nJ lV)
 by_cases h0:h.length=n
 ·have e:(((h.length:Nat):Int) != (n:Int))=false:=by simp[h0]
  rw[e,cond_false,if_neg (λq=>q h0),mH h ⟨by omega,by omega⟩];cases bw h
  ·rfl
  ·rw[show(!true)=false from rfl,cond_false,mH [r] ⟨by simp; omega,by simp⟩,x_];cases bb r
   ·rfl
   ·cases fle r (some 0) <;> rfl
 ·have e:(((h.length:Nat):Int) != (n:Int))=true:=by simp; omega
  rw[e,cond_true,if_pos h0]
theorem ug {n:Nat} {h:List Fl} {r:Fl} (q:lV n h r=0):h.length=n/\bw h=true/\bb r=true/\fle r (some 0)=false:=by
 unfold lV at q;split at q
 ·cases q
 ·split at q
  ·cases q
  ·split at q
   ·cases q
   ·split at q
    ·cases q
    ·rename_i h0 h1 h2 h3;exact⟨by simpa using h0,by simpa using h1,by simpa using h2,by simpa using h3⟩
def lst (l:List Fl):Nat->Fl:=λt=>l.getD t none
def uV (n:Nat) (p h:List Fl):Nat->Fl:=λi=>dV (λt=>elt p n i t) (lst h) n
def uVo (n:Nat) (p h:List Fl):Nat->Bool:=λi=>dO (λt=>elt p n i t) (lst h) n
def uW (n:Nat) (x h:List Fl):Fl:=dV (lst h) (lst x) n
def uS (n:Nat) (p h:List Fl) (r:Fl):Fl:=dZ (dV (lst h) (uV n p h) n) r
def uF (n:Nat) (x p h:List Fl) (r:Fl):Bool:=((orB (uVo n p h) n||dO (lst h) (lst x) n)||dO (lst h) (uV n p h) n) || !bb (uS n p h r)
def uE (n:Nat) (x p h:List Fl) (r:Fl):Int:=if uF n x p h r=true then 5 else if fgt (uS n p h r) (some 0)=false then 153 else 0
theorem Dx {N:Nat} (hF:Fuel N) (x:List Fl) (rr cc:Int) (p h:List Fl) (r:Fl) (hwp:AllW p) (k0:Int->Bool) (k1:Int->Bool->Fl->Fl->List Fl->Bool) :
  kJ N x rr cc p h r k0 k1=if nM x rr cc p ≠ 0 then k0 (nM x rr cc p)else if lV x.length h r ≠ 0 then k0 (lV x.length h r)else
   k1 (uE x.length x p h r) (uF x.length x p h r) (uW x.length x h) (uS x.length p h r) (vf x.length (uV x.length p h)):=by
 have hN:=hF.lt
 (unfold kJ; rw[ac]; unfold kz)
 rw[tS hF _ _ _ _ hwp];by_cases h0:nM x rr cc p=0
 ·obtain⟨n,hn,rfl,rfl,hx,hl,fx,fl,-,-⟩:=se h0;rw[if_neg (λh=>h h0),h0,show((0:Int) != 0)=false from rfl,cond_false,hx,LJ (by omega) hn];by_cases h1:lV n h r=0
  ·obtain⟨hh,-,-,-⟩:=ug h1;rw[if_neg (λq=>q h1),h1,show((0:Int) != 0)=false from rfl,cond_false];have z0:((0,false,[]):Int × Bool × List Fl)=(λt:Nat=>((t:Int),orB (uVo n p h) t,(vf n (uV n p h)).take t)) 0:=rfl;rw[z0];refine aD (λt:Nat=>((t:Int),orB (uVo n p h) t,(vf n (uV n p h)).take t)) n (by omega) ?_ ?_
   ·intro t ht K;unfold eW;dsimp only;rw[decide_eq_true (by omega:(t:Int)<(n:Int)),cond_true,NV (by omega) ht hl,
     Do (n:=n) (f:=λi=>elt p n t i) (g:=lst h) (by omega) (by omega) _ _ _ _ _ _ _ _ _ (zu hl ht) (by omega) (by omega) (λi hi=>vW hl ht hi) (λi hi=>rfl)]
    have e:dV (λi=>elt p n t i) (lst h) n=uV n p h t:=rfl;rw[e,sM n (uV n p h) ht,aa (decide_eq_true (by rw[List.length_take,bE]; omega)),aa (ab (by omega) (by omega))];rfl
   ·intro K;unfold eW;dsimp only;rw[decide_eq_false (by omega:¬(n:Int)<(n:Int)),cond_false,List.take_of_length_le (by rw[bE]; omega),
     Do (n:=n) (f:=lst h) (g:=lst x) (by omega) (by omega) _ _ _ _ _ _ _ _ _ hh (by omega) (by omega) (λi hi=>rfl) (λi hi=>rfl),
     Ll (n:=n) (f:=lst h) (g:=uV n p h) (by omega) (by omega) _ _ _ _ _ _ _ _ hh (by rw[bE]; omega) (by rw[bE]; omega) (λi hi=>rfl) (λi hi=>kt n _ hi none),jW N (kR _ _)]
    (unfold Pk; rw[ac]; unfold JL)
    show cond (uF n x p h r) (k1 5 (uF n x p h r) (uW n x h) (uS n p h r) _) (cond (!(fgt (uS n p h r) (some 0))) (k1 153 (uF n x p h r) (uW n x h) (uS n p h r) _) (k1 0 (uF n x p h r) (uW n x h) (uS n p h r) _))=_;unfold uE;cases uF n x p h r
    ·cases fgt (uS n p h r) (some 0) <;> rfl
    ·rfl
  ·rw[if_pos h1,cd _ _ h1,cond_true]
 ·rw[if_pos h0,cd _ _ h0,cond_true]
def gK (v:Nat->Fl) (s:Fl):Nat->Fl:=λi=>fdiv (v i) s
def gX (v:Nat->Fl) (s y:Fl) (x:List Fl):Nat->Fl:=λi=>dZ (x.getD i none) (bd (gK v s i) y)
def gO (v:Nat->Fl) (s y:Fl) (x:List Fl):Nat->Bool:=λi=>(!bb (gK v s i) || !bb (bd (gK v s i) y)) || !bb (gX v s y x i)
theorem Iv {N n:Nat} (hN:1000<=N) (hn:n<=12) {v:Nat->Fl} {s y:Fl} {x:List Fl} (hx:x.length=n) (o:Bool) (b1 b2:Int) (b3:List Fl) (t1 t2:Int) (t3 t4 t5:Fl) (a1:List Fl) (a2 a3:Int) (a4 a5:List Fl) (a6 a7:Fl) (e0:Bool->List Fl->List Fl->Bool) :
  ai N (cZ N y n x b1 b2 b3 t1 t2 t3 t4 t5 a1 a2 a3 a4 a5 a6 a7 s (vf n v) e0) (0,o,List.replicate n (some 0),[])=e0 (o||orB (gO v s y x) n) (vf n (gX v s y x)) (vf n (gK v s)):=by
 have z0:((0,o,List.replicate n (some 0),[]):Int × Bool × List Fl × List Fl)=(λt:Nat=>((t:Int),o||orB (gO v s y x) t,(vf n (gX v s y x)).take t++List.replicate (n - t) (some 0),(vf n (gK v s)).take t)) 0:=by show _=(((0:Nat):Int),o||false,_,_); rw[mQ]; rfl
 rw[z0];refine aD (λt:Nat=>((t:Int),o||orB (gO v s y x) t,(vf n (gX v s y x)).take t++List.replicate (n - t) (some 0),(vf n (gK v s)).take t)) n (by omega) ?_ ?_
 ·intro t ht K;unfold cZ;dsimp only;have hfl2:=xl n (gX v s y x) (i:=t) (by omega);have hs:=HB n (gX v s y x) ht;have hk:fdiv (v t) s=gK v s t:=rfl;have hkl:((vf n (gK v s)).take (t+1)).length=t+1:=by rw[List.length_take,bE]; omega
  have hkt:((vf n (gK v s)).take (t+1)).getD t none=gK v s t:=by rw[List.getD_eq_getElem?_getD,List.getElem?_take,if_pos (by omega),<- List.getD_eq_getElem?_getD,kt n _ ht]
  rw[decide_eq_true (by omega:(t:Int)<(n:Int)),cond_true,bE,aa (af (by omega) (by omega)),Int.toNat_natCast,aa (decide_eq_true ht),kt n v ht,hk,dA N (by rw[<- hk]; exact Gl _ _),
   sM n (gK v s) ht,hkl,aa (decide_eq_true (by omega)),aa (af (by omega) (by omega)),aa (af (by omega) (by omega)),aa (decide_eq_true (by omega)),hkt,dM,dA N (kR _ _),hfl2,aa (af (by omega) (by omega)),aa (decide_eq_true ht),aa (ab (by omega) (by omega))]
  have e:dZ (x.getD t none) (bd (gK v s t) y)=gX v s y x t:=rfl;have e2:((((o||orB (gO v s y x) t) || !bb (gK v s t)) || !bb (bd (gK v s t) y)) || !bb (gX v s y x t))=(o||orB (gO v s y x) (t+1)):=by rw[<- eV o (gO v s y x) t];unfold gO;simp only[Bool.or_assoc]
  rw[e,e2,hs];rfl
 ·intro K;unfold cZ;dsimp only;rw[decide_eq_false (by omega:¬(n:Int)<(n:Int)),cond_false,Nat.sub_self,List.replicate_zero,List.append_nil,List.take_of_length_le (by rw[bE]; omega),List.take_of_length_le (by rw[bE]; omega)]
def upY (n:Nat) (x h:List Fl) (z:Fl):Fl:=dn z (uW n x h)
def upX (n:Nat) (x p h:List Fl) (r z:Fl):List Fl:=vf n (gX (uV n p h) (uS n p h r) (upY n x h z) x)
def upG (n:Nat) (p h:List Fl) (r:Fl):List Fl:=vf n (gK (uV n p h) (uS n p h r))
def upC (n:Nat) (x p h:List Fl) (r z:Fl):Fl:=fdiv (bd (upY n x h z) (upY n x h z)) (uS n p h r)
def upT (n:Nat) (x p h:List Fl) (r z:Fl):Bool:=((!bb (upY n x h z)||orB (gO (uV n p h) (uS n p h r) (upY n x h z) x) n) || !bb (bd (upY n x h z) (upY n x h z))) || !bb (upC n x p h r z)
def wl (x:List Fl) (rr cc:Int) (p h:List Fl) (r z:Fl) (o:Bool) (L:List Fl) (k0:Int->Bool) (k2:Nat->Fl->Fl->Fl->List Fl->List Fl->List Fl->Bool):Bool:=
 if nM x rr cc p ≠ 0 then k0 (nM x rr cc p)else if lV x.length h r ≠ 0 then k0 (lV x.length h r)else if bb z=false then k0 4 else
 if uE x.length x p h r ≠ 0 then k0 (uE x.length x p h r)else
 cond (upT x.length x p h r z||o) (k0 5) (cond (!uZ x.length L) (k0 151)
  (k2 x.length (upY x.length x h z) (uS x.length p h r) (upC x.length x p h r z) (upX x.length x p h r z) L (upG x.length p h r)))
def sT (n:Nat) (p h:List Fl) (r:Fl):Bool:=BG n p (upG n p h r) h r
def upJ (n:Nat) (p h:List Fl) (r:Fl):List Fl:=Dl n p (upG n p h r) h r
def SM (n:Nat) (p h:List Fl) (r:Fl):Bool:=OE n p (upG n p h r) (vf n (uV n p h))
def upS (n:Nat) (p h:List Fl) (r:Fl):List Fl:=Vg n p (upG n p h r) (vf n (uV n p h))
theorem GO {n:Nat} {p kk h:List Fl} {r:Fl} (q:BG n p kk h r=false):bw (Dl n p kk h r)=true:=by unfold BG at q;rw[Bool.or_eq_false_iff]at q;refine LU (G5 λa b ha hb=>?_);have h2:=jA (jA q.2 a ha) b (by omega);unfold jO at h2;rw[Bool.or_eq_false_iff]at h2;simpa using h2.2
theorem FK {N:Nat} (hF:Fuel N) (x:List Fl) (rr cc:Int) (p h:List Fl) (r z:Fl) (hwp:AllW p) (k0:Int->Int->Fl->Fl->Fl->Int->Bool) (k1:Int->Int->Fl->Fl->Fl->Int->List Fl->Bool) (k2:Int->Int->Fl->Fl->Fl->Int->List Fl->List Fl->List Fl->Bool) :
  gM N x rr cc p h r z k0 k1 k2=wl x rr cc p h r z (sT x.length p h r) (upJ x.length p h r) (λe=>k0 0 0 (some 0) (some 0) (some 0) e) (λn y s c x' p' g=>k2 n n y s c 0 x' p' g):=by
 have hN:=hF.lt
 (unfold gM; rw[ac]; unfold jH wl)
 rw[Dx hF _ _ _ _ _ _ hwp];by_cases h0:nM x rr cc p=0
 ·obtain⟨n,hn,rfl,rfl,hx,hl,fx,fl,-,-⟩:=se h0;rw[ifz h0,ifz h0,hx];by_cases h1:lV n h r=0
  ·obtain⟨hh,-,-,-⟩:=ug h1;rw[ifz h1,ifz h1];have hz1:bJ N [z].length:=⟨by simp; omega,by simp⟩
   simp only[mH [z] hz1,x_];have same:∀(c:Bool) (a b:Bool),cond c a a=a:=by intro c a b; cases c <;> rfl
   rw[same _ _ true];cases hz:bb z
   ·rw[if_pos rfl]; rfl
   ·rw[if_neg (by decide),show(!true)=false from rfl,cond_false];unfold iL;by_cases h2:uE n x p h r=0
    ·rw[ifz h2,h2,show((0:Int) != 0)=false from rfl,cond_false];have hf:uF n x p h r=false:=by
      unfold uE at h2;split at h2
      ·cases h2
      ·rename_i q; simpa using q
     rw[hf,jW N (Bi _ _),hh,Int.toNat_natCast,List.length_replicate,aa (cb (by omega) (by omega) (by omega) (by omega)),Iv (by omega) hn hx,dM,dA N (Gl _ _)]
     (unfold gJ; unfold gu)
     rw[Fz (by omega) hn hl hh (bE _ _)]
     (unfold fL; rw[ac]; unfold cO; unfold Pe; rw[ac]; unfold JH)
     show cond (upT n x p h r z||sT n p h r) _ _=cond (upT n x p h r z||sT n p h r) _ _;cases h4:(upT n x p h r z||sT n p h r)
     ·rw[cond_false,cond_false];have h5:BG n p (upG n p h r) h r=false:=by rw[Bool.or_eq_false_iff]at h4;exact h4.2
      have hfin:=GO h5;show eu N n n (Dl n p (upG n p h r) h r) _=_;have hpos:=λk=>uO hF hn (l:=Dl n p (upG n p h r) h r) (fo n _) hfin (R6 (LV λa b=>kR _ _)) (G6 _) k
      rw[hpos];show _=cond (!uZ n (Dl n p (upG n p h r) h r)) _ _;cases uZ n (Dl n p (upG n p h r) h r)
      ·rfl
      ·rfl
     ·rfl
    ·rw[z_ h2,cd _ _ h2,cond_true]
  ·rw[z_ h1,z_ h1];have e:((lV n h r==0)==false)=true:=by simp[h1]
   rw[e,cond_true];unfold iK;rw[cd _ _ h1,cond_true]
 ·rw[z_ h0,z_ h0];have e:((nM x rr cc p==0)==false)=true:=by simp[h0]
  rw[e,cond_true];unfold iK;rw[cd _ _ h0,cond_true]
theorem Nv {r:Fl} (h:bb r=true):fgt r (some 0) = !fle r (some 0):=by
 obtain⟨b,s,m,i,rfl,hb⟩:=mz h;rw[O5];show _ = !((Ieee.double.read b).order (Ieee.double.read 0)==some .lt||(Ieee.double.read b).order (Ieee.double.read 0)==some .eq);rw[hb,I2];obtain⟨o,ho⟩:∃ o,(Datum.number s m i).order (.number false 0 (-1074))=some o:=⟨_,rfl⟩
 rw[ho];cases o <;> rfl
theorem IF {N:Nat} (hN:1000<=N) {n:Nat} (hn:n<=12) (h:List Fl) (r:Fl) (k:Int->Bool):v8 N n h r k=k (lV n h r):=by
 (unfold v8; rw[ac]; unfold vu lV)
 by_cases h0:h.length=n
 ·have e:(((h.length:Nat):Int) != (n:Int))=false:=by simp[h0]
  rw[e,cond_false,if_neg (λq=>q h0),nN h ⟨by omega,by omega⟩];cases bw h
  ·rfl
  ·rw[show((!true)==false)=true from rfl,cond_true,j4,if_neg (by decide)];cases fr:bb r
   ·rfl
   ·rw[Nv fr];cases fle r (some 0) <;> rfl
 ·have e:(((h.length:Nat):Int) != (n:Int))=true:=by simp; omega
  rw[e,cond_true,if_pos h0]
theorem BN {N n:Nat} (hN:1000<=N) (hn:n<=12) {x p h:List Fl} (hx:x.length=n) (hl:p.length=n*n) (hh:h.length=n) (r:Fl) (k:Fl->Fl->Bool->List Fl->Bool) :
  Mr N x n n p h r false k=k (uW n x h) (uS n p h r) (uF n x p h r) (vf n (uV n p h)):=by
 (unfold Mr; rw[ac]; unfold JU)
 have z0:((0,false,[]):Int × Bool × List Fl)=(λt:Nat=>((t:Int),orB (uVo n p h) t,(vf n (uV n p h)).take t)) 0:=rfl;rw[z0,hx];refine aD (λt:Nat=>((t:Int),orB (uVo n p h) t,(vf n (uV n p h)).take t)) n (by omega) ?_ ?_
 ·intro t ht K;unfold Cl;dsimp only;rw[decide_eq_true (by omega:(t:Int)<(n:Int)),cond_true,DD (by omega) ht hl,
   AQ (n:=n) (f:=λi=>elt p n t i) (g:=lst h) (by omega) (by omega) (zu hl ht) (by omega) (by omega) (λi hi=>vW hl ht hi) (λi hi=>rfl)]
  have e:dV (λi=>elt p n t i) (lst h) n=uV n p h t:=rfl;rw[e,sM n (uV n p h) ht,aa (decide_eq_true (by rw[List.length_take,bE]; omega)),aa (ab (by omega) (by omega))];rfl
 ·intro K;unfold Cl;dsimp only;rw[decide_eq_false (by omega:¬(n:Int)<(n:Int)),cond_false,List.take_of_length_le (by rw[bE]; omega),
   AQ (n:=n) (f:=lst h) (g:=lst x) (by omega) (by omega) hh (by omega) (by omega) (λi hi=>rfl) (λi hi=>rfl),
   za (n:=n) (f:=lst h) (g:=uV n p h) (by omega) (by omega) hh (by rw[bE]; omega) (by rw[bE]; omega) (λi hi=>rfl) (λi hi=>kt n _ hi none),jx]
  rfl
theorem GW (n:Nat) (v:Nat->Nat->Fl) (i:Nat):mf n (rS (low v) i (i+1))=mf n (rS (low v) (i+1) 0):=j5 n (λa b _ hb=>by
 unfold rS;by_cases h2:a<i\/(a=i/\b<i+1)
 ·rw[if_pos h2,if_pos (by omega)]
 ·rw[if_neg h2];by_cases h3:a<i+1\/(a=i+1/\b<0)
  ·rw[if_pos h3]; unfold low; rw[if_neg (by omega)]
  ·rw[if_neg h3])
theorem ID {N n:Nat} (hN:1000<=N) (hn:n<=100) {s s':Nat} {a b:List Fl} {f g:Nat->Fl} (ha:s+n<=a.length) (hb:s'+n<=b.length) (hf:∀ i,i<n->a.getD (s+i) none=f i) (hg:∀ i,i<n->b.getD (s'+i) none=g i) (o:Bool) (k:Fl->Bool->Bool) :
  Mu N s n s' n o a b k=k (dV f g n) (o||dO f g n):=by
 (unfold Mu; rw[ac]; unfold J2)
 have h0:((some 0,0,o):Fl × Int × Bool)=(λt:Nat=>(dV f g t,(t:Int),o||dO f g t)) 0:=by show _=(some 0,((0:Nat):Int),o||false); rw[mQ]; rfl
 rw[h0];refine aD (λt:Nat=>(dV f g t,(t:Int),o||dO f g t)) n (by omega) ?_ ?_
 ·intro t ht K;unfold fV;dsimp only;rw[decide_eq_true (by omega:(t:Int)<(n:Int)),cond_true,aa (af (by omega) (by omega)),Int.toNat_natCast,aa (decide_eq_true (by omega)),aa (af (by omega) (by omega)),aa (decide_eq_true (by omega)),hf t ht,hg t ht,jx,jx,aa (ab (by omega) (by omega)),oV];rfl
 ·intro K;unfold fV;dsimp only;rw[decide_eq_false (by omega:¬(n:Int)<(n:Int)),cond_false]
theorem NJ (o a b c d:Bool):((((o||b)||c)||a)||d)=(o||(((a||b)||c)||d)):=by cases o <;> cases a <;> cases b <;> cases c <;> rfl
theorem DF {N n:Nat} (hN:1000<=N) (hn:n<=12) {p h kk:List Fl} (hp:p.length=n*n) (hh:h.length=n) (hk:kk.length=n) (r:Fl) (o:Bool) (k:Int->Int->Bool->List Fl->Bool) :
  Mt N n n p h r kk o k=k n n (o||BG n p kk h r) (mf n (low (jV n (mf n (prV n (mf n (asV kk h)) p)) (mf n (asV kk h)) kk r))):=by
 (unfold Mt; rw[ac]; unfold J0)
 rw[hh,oj hn,xL n (asV kk h)];have h0:((0,o,mf n (rS (asV kk h) 0 0)):Int × Bool × List Fl)=(λi:Nat=>((i:Int),o||orB (λi=>orB (λj=>asO kk h i j) n) i,mf n (rS (asV kk h) i 0))) 0:=by show _=(((0:Nat):Int),o||false,_); rw[mQ]; rfl
 rw[h0];refine aD (λi:Nat=>((i:Int),o||orB (λi=>orB (λj=>asO kk h i j) n) i,mf n (rS (asV kk h) i 0))) n (by omega) ?_ ?_
 ·intro i hi K;unfold fR;dsimp only;rw[decide_eq_true (by omega:(i:Int)<(n:Int)),cond_true];generalize ho1:(o||orB (λi=>orB (λj=>asO kk h i j) n) i)=o1;have h1:((0,o1,mf n (rS (asV kk h) i 0)):Int × Bool × List Fl)=(λj:Nat=>((j:Int),o1||orB (λj=>asO kk h i j) j,mf n (rS (asV kk h) i j))) 0:=by show _=(((0:Nat):Int),o1||false,_); rw[mQ]; rfl
  rw[h1];refine(aD (λj:Nat=>((j:Int),o1||orB (λj=>asO kk h i j) j,mf n (rS (asV kk h) i j))) n (N:=N) (by omega) (out:=K ((((i+1:Nat)):Int),o||orB (λi=>orB (λj=>asO kk h i j) n) (i+1),mf n (rS (asV kk h) (i+1) 0))) ?_ ?_:_)
  ·intro j hj K';unfold fS;dsimp only;have key:∀ z:Fl,F0 i j=z->(inR (i:Int) (List.length kk)&&(inR (j:Int) (List.length h)&&jE N (bd (kk.getD (Int.toNat (i:Int)) none) (h.getD (Int.toNat (j:Int)) none)) (o1||orB (λj=>asO kk h i j) j) (λcr=>jE N (dn z (bd (kk.getD (Int.toNat (i:Int)) none) (h.getD (Int.toNat (j:Int)) none))) cr (λVr=>tk N n n i j (dn z (bd (kk.getD (Int.toNat (i:Int)) none) (h.getD (Int.toNat (j:Int)) none))) (mf n (rS (asV kk h) i j)) (λVO=>(ah .i64 ((j:Int)+1)&&K' ((j:Int)+1,Vr,VO)))))))=K' (((j+1:Nat):Int),o1||orB (λj=>asO kk h i j) (j+1),mf n (rS (asV kk h) i (j+1))):=by
    intro z hz;rw[aa (af (by omega) (by omega)),Int.toNat_natCast,aa (af (by omega) (by omega)),Int.toNat_natCast,jx,jx];have e:dn z (bd (kk.getD i none) (h.getD j none))=asV kk h i j:=by rw[<- hz]; rfl
    have e2:(((o1||orB (λj=>asO kk h i j) j) || !bb (bd (kk.getD i none) (h.getD j none))) || !bb (asV kk h i j))=(o1||orB (λj=>asO kk h i j) (j+1)):=by rw[<- eV o1 (λj=>asO kk h i j) j];unfold asO;simp only[Bool.or_assoc]
    rw[e,e2,sv hn hi hj,aa (ab (by omega) (by omega)),xK];rfl
   rw[decide_eq_true (by omega:(j:Int)<(n:Int)),cond_true];by_cases hij2:i=j
   ·have e:((i:Int)==(j:Int))=true:=by rw[hij2]; exact beq_self_eq_true _
    rw[e,cond_true];exact key _ (by unfold F0; rw[if_pos hij2])
   ·have e:((i:Int)==(j:Int))=false:=by rw[beq_eq_false_iff_ne]; omega
    rw[e,cond_false];exact key _ (by unfold F0; rw[if_neg hij2])
  ·intro K';unfold fS;dsimp only;rw[decide_eq_false (by omega:¬(n:Int)<(n:Int)),cond_false,aa (ab (by omega) (by omega)),<- ho1,Md,eV o (λi=>orB (λj=>asO kk h i j) n) i];rfl
 ·intro K;unfold fR;dsimp only;rw[decide_eq_false (by omega:¬(n:Int)<(n:Int)),cond_false,B1,FD hN hn (fo _ _) hp,oj hn];unfold BG;rw[show orB (λi=>orB (λj=>asO kk h i j) n) n=orM n (asO kk h) from rfl,<- Bool.or_assoc o,<- Bool.or_assoc o];generalize ((o||orM n (asO kk h))||orM n (prO n (mf n (asV kk h)) p))=o2;have lA:(mf n (asV kk h)).length=n*n:=fo _ _;have lB:(mf n (prV n (mf n (asV kk h)) p)).length=n*n:=fo _ _;generalize mf n (prV n (mf n (asV kk h)) p)=B at lB ⊢;generalize mf n (asV kk h)=A at lA ⊢;generalize hv:jV n B A kk r=v;generalize hw:jO n B A kk r=w;rw[xL n (low v)];have z1:((0,o2,mf n (rS (low v) 0 0)):Int × Bool × List Fl)=(λi:Nat=>((i:Int),o2||orB (λi=>orB (λj=>w i j) (i+1)) i,mf n (rS (low v) i 0))) 0:=by show _=(((0:Nat):Int),o2||false,_); rw[mQ]; rfl
  rw[z1];refine aD (λi:Nat=>((i:Int),o2||orB (λi=>orB (λj=>w i j) (i+1)) i,mf n (rS (low v) i 0))) n (by omega) ?_ ?_
  ·intro i hi K;unfold fT;dsimp only;rw[decide_eq_true (by omega:(i:Int)<(n:Int)),cond_true];generalize ho1:(o2||orB (λi=>orB (λj=>w i j) (i+1)) i)=o1;have z3:((0,o1,mf n (rS (low v) i 0)):Int × Bool × List Fl)=(λj:Nat=>((j:Int),o1||orB (λj=>w i j) j,mf n (rS (low v) i j))) 0:=by show _=(((0:Nat):Int),o1||false,_); rw[mQ]; rfl
   rw[z3];refine(aD (λj:Nat=>((j:Int),o1||orB (λj=>w i j) j,mf n (rS (low v) i j))) (i+1) (N:=N) (by omega) (out:=K ((((i+1:Nat)):Int),o2||orB (λi=>orB (λj=>w i j) (i+1)) (i+1),mf n (rS (low v) (i+1) 0))) ?_ ?_:_)
   ·intro j hj K';have hj2:j<n:=by omega
    have g7:i*n+n<=n*n:=by rw[mV]; exact t_ hi
    have g8:j*n+n<=n*n:=by rw[mV]; exact t_ hj2
    unfold fU;dsimp only;rw[decide_eq_true (by omega:(j:Int)<=(i:Int)),cond_true,aa (af (by omega) (by omega)),Int.toNat_natCast,jx,aa (af (by omega) (by omega)),Int.toNat_natCast,jx,AR (by omega) hi lB,AR (by omega) hj2 lA,
     ID (n:=n) (s:=i*n) (s':=j*n) (f:=λt=>elt B n i t) (g:=λt=>elt A n j t) (by omega) (by omega) (by omega) (by omega) (λt ht=>rfl) (λt ht=>rfl),jx]
    have e:dZ (dV (λt=>elt B n i t) (λt=>elt A n j t) n) (bd (bd (kk.getD i none) r) (kk.getD j none))=v i j:=by rw[<- hv]; rfl
    have e2:(((((o1||orB (λj=>w i j) j) || !bb (bd (kk.getD i none) r)) || !bb (bd (bd (kk.getD i none) r) (kk.getD j none)))||dO (λt=>elt B n i t) (λt=>elt A n j t) n) || !bb (v i j))=(o1||orB (λj=>w i j) (j+1)):=by rw[<- eV o1 (λj=>w i j) j,NJ,<- hw,<- hv]; rfl
    rw[e,e2,sv hn hi hj2,aa (ab (by omega) (by omega))];have e3:low v i j=v i j:=by unfold low; rw[if_pos (by omega)]
    rw[<- e3,xK];rfl
   ·intro K';unfold fU;dsimp only;rw[decide_eq_false (by omega:¬((i+1:Nat):Int)<=(i:Int)),cond_false,aa (ab (by omega) (by omega)),<- ho1,GW,eV o2 (λi=>orB (λj=>w i j) (i+1)) i];rfl
  ·intro K;unfold fT;dsimp only;rw[decide_eq_false (by omega:¬(n:Int)<(n:Int)),cond_false,B1];rfl
theorem FE {N n:Nat} (hN:1000<=N) (hn:n<=12) {v:Nat->Fl} {s y:Fl} {x:List Fl} (hx:x.length=n) (o:Bool) (h:List Fl) (r:Fl) (sh:Bool) (b1 b2:Int) (b3:List Fl) (t1 t2:Int) (t3 t4 t5:Fl) (e0:Bool->List Fl->List Fl->Bool) :
  ai N (zK N h r sh s y n x b1 b2 b3 t1 t2 t3 t4 t5 (vf n v) e0) (0,o,[],[])=e0 (o||orB (gO v s y x) n) (vf n (gK v s)) (vf n (gX v s y x)):=by
 have z0:((0,o,[],[]):Int × Bool × List Fl × List Fl)=(λt:Nat=>((t:Int),o||orB (gO v s y x) t,(vf n (gK v s)).take t,(vf n (gX v s y x)).take t)) 0:=by show _=(((0:Nat):Int),o||false,_,_); rw[mQ]; rfl
 rw[z0];refine aD (λt:Nat=>((t:Int),o||orB (gO v s y x) t,(vf n (gK v s)).take t,(vf n (gX v s y x)).take t)) n (by omega) ?_ ?_
 ·intro t ht K;unfold zK;dsimp only;have hk:fdiv (v t) s=gK v s t:=rfl;have hkl:((vf n (gK v s)).take (t+1)).length=t+1:=by rw[List.length_take,bE]; omega
  have hxl:((vf n (gX v s y x)).take (t+1)).length=t+1:=by rw[List.length_take,bE]; omega
  have hkt:((vf n (gK v s)).take (t+1)).getD t none=gK v s t:=by rw[List.getD_eq_getElem?_getD,List.getElem?_take,if_pos (by omega),<- List.getD_eq_getElem?_getD,kt n _ ht]
  have e:dZ (x.getD t none) (bd (gK v s t) y)=gX v s y x t:=rfl;have e2:((((o||orB (gO v s y x) t) || !bb (gK v s t)) || !bb (bd (gK v s t) y)) || !bb (gX v s y x t))=(o||orB (gO v s y x) (t+1)):=by rw[<- eV o (gO v s y x) t];unfold gO;simp only[Bool.or_assoc]
  rw[decide_eq_true (by omega:(t:Int)<(n:Int)),cond_true,bE,aa (af (by omega) (by omega)),Int.toNat_natCast,aa (decide_eq_true ht),kt n v ht,hk,jx,
   sM n (gK v s) ht,hkl,aa (decide_eq_true (by omega)),aa (af (by omega) (by omega)),aa (af (by omega) (by omega)),aa (decide_eq_true (by omega)),hkt,jx,jx,e,e2,sM n (gX v s y x) ht,hxl,aa (decide_eq_true (by omega)),aa (ab (by omega) (by omega))]
  rfl
 ·intro K;unfold zK;dsimp only;rw[decide_eq_false (by omega:¬(n:Int)<(n:Int)),cond_false,List.take_of_length_le (by rw[bE]; omega),List.take_of_length_le (by rw[bE]; omega)]
theorem FH {N n:Nat} (hN:1000<=N) (hn:n<=12) {p v kk:List Fl} (hp:p.length=n*n) (hv0:v.length=n) (hk:kk.length=n) (o:Bool) (s y:Fl) (x:List Fl) (t1 t2:Int) (t3 t4 t5:Fl) (x':List Fl) (e0:Bool->List Fl->Bool) :
  ai N (gk N s y n x n n p t1 t2 t3 t4 t5 v kk x' n n e0) (0,o,mf n λ_ _=>some 0)=e0 (o||OE n p kk v) (mf n (low (shV n p kk v))):=by
 unfold OE;generalize hv:shV n p kk v=w1;generalize hw:shO n p kk v=w;rw[xL n (low w1)];have z1:((0,o,mf n (rS (low w1) 0 0)):Int × Bool × List Fl)=(λi:Nat=>((i:Int),o||orB (λi=>orB (λj=>w i j) (i+1)) i,mf n (rS (low w1) i 0))) 0:=by show _=(((0:Nat):Int),o||false,_); rw[mQ]; rfl
 rw[z1];refine aD (λi:Nat=>((i:Int),o||orB (λi=>orB (λj=>w i j) (i+1)) i,mf n (rS (low w1) i 0))) n (by omega) ?_ ?_
 ·intro i hi K;unfold gk;dsimp only;rw[decide_eq_true (by omega:(i:Int)<(n:Int)),cond_true];generalize ho1:(o||orB (λi=>orB (λj=>w i j) (i+1)) i)=o1;have z3:((0,o1,mf n (rS (low w1) i 0)):Int × Bool × List Fl)=(λj:Nat=>((j:Int),o1||orB (λj=>w i j) j,mf n (rS (low w1) i j))) 0:=by show _=(((0:Nat):Int),o1||false,_); rw[mQ]; rfl
  rw[z3];refine(aD (λj:Nat=>((j:Int),o1||orB (λj=>w i j) j,mf n (rS (low w1) i j))) (i+1) (N:=N) (by omega) (out:=K ((((i+1:Nat)):Int),o||orB (λi=>orB (λj=>w i j) (i+1)) (i+1),mf n (rS (low w1) (i+1) 0))) ?_ ?_:_)
  ·intro j hj K';have hj2:j<n:=by omega
   unfold ji;dsimp only;rw[decide_eq_true (by omega:(j:Int)<=(i:Int)),cond_true,oi hn hi hj2 hp,aa (af (by omega) (by omega)),Int.toNat_natCast,aa (decide_eq_true (by omega)),aa (af (by omega) (by omega)),Int.toNat_natCast,aa (decide_eq_true (by omega)),jx,jx];have e:dn (elt p n i j) (bd (kk.getD i none) (v.getD j none))=w1 i j:=by rw[<- hv]; rfl
   have e2:(((o1||orB (λj=>w i j) j) || !bb (bd (kk.getD i none) (v.getD j none))) || !bb (w1 i j))=(o1||orB (λj=>w i j) (j+1)):=by rw[<- eV o1 (λj=>w i j) j,<- hw,<- hv];unfold shO;simp only[Bool.or_assoc]
   have e3:low w1 i j=w1 i j:=by unfold low; rw[if_pos (by omega)]
   rw[e,e2,sv hn hi hj2,aa (ab (by omega) (by omega)),<- e3,xK];rfl
  ·intro K';unfold ji;dsimp only;rw[decide_eq_false (by omega:¬((i+1:Nat):Int)<=(i:Int)),cond_false,aa (ab (by omega) (by omega)),<- ho1,GW,eV o (λi=>orB (λj=>w i j) (i+1)) i];rfl
 ·intro K;unfold gk;dsimp only;rw[decide_eq_false (by omega:¬(n:Int)<(n:Int)),cond_false,B1];rfl
theorem M7 (a b c d e:Bool):((((false||a)||b)||e)||c||d)=((((a||b)||c)||d)||e):=by cases a <;> cases b <;> cases c <;> cases d <;> cases e <;> rfl
theorem DG {N:Nat} (hF:Fuel N) (sh:Bool) (x:List Fl) (rr cc:Int) (p h:List Fl) (r z:Fl) (hwp:AllW p) (k0:Int->Int->Fl->Fl->Fl->Int->Bool) (k1:Int->Int->Fl->Fl->Fl->Int->List Fl->Bool) (k2:Int->Int->Fl->Fl->Fl->Int->List Fl->List Fl->List Fl->Bool) :
  pJ N x rr cc p h r z sh k0 k1 k2=wl x rr cc p h r z (if sh=true then SM x.length p h r else sT x.length p h r) (if sh=true then upS x.length p h r else upJ x.length p h r) (λe=>k0 0 0 (some 0) (some 0) (some 0) e) (λn y s c x' p' g=>k2 n n y s c 0 x' p' g):=by
 have hN:=hF.lt
 (unfold pJ; rw[ac]; unfold oN wl)
 rw[qV hF _ _ _ _ hwp];by_cases h0:nM x rr cc p=0
 ·obtain⟨n,hn,rfl,rfl,hx,hl,fx,fl,-,-⟩:=se h0;rw[ifz h0,h0,show((0:Int) != 0)=false from rfl,cond_false,hx,IF (by omega) hn];by_cases h1:lV n h r=0
  ·obtain⟨hh,-,-,-⟩:=ug h1;rw[ifz h1,h1,show((0:Int) != 0)=false from rfl,cond_false,j4];cases hz:bb z
   ·rw[if_pos rfl]; rfl
   ·rw[if_neg (by decide),show(!true)=false from rfl,cond_false,BN (by omega) hn hx hl hh];by_cases h2:uE n x p h r=0
    ·rw[ifz h2];have hf:uF n x p h r=false:=by
      unfold uE at h2;split at h2
      ·cases h2
      ·rename_i q; simpa using q
     have hg:fgt (uS n p h r) (some 0)=true:=by
      unfold uE at h2;rw[hf]at h2;cases q:fgt (uS n p h r) (some 0)
      ·rw[q]at h2; cases h2
      ·rfl
     rw[hf,cond_false,hg,show(!true)=false from rfl,cond_false,jx,FE (by omega) hn hx];have tail:∀(o:Bool) (v:Nat->Nat->Fl),(∀ i j,FW (v i j))->(o=false -> ∀ i j,i<n->j<=i->bb (v i j)=true) ->
       jE N (bd (dn z (uW n x h)) (dn z (uW n x h))) (((false || !bb (dn z (uW n x h)))||orB (gO (uV n p h) (uS n p h r) (dn z (uW n x h)) x) n)||o) (λcr=>jE N (fdiv (bd (dn z (uW n x h)) (dn z (uW n x h))) (uS n p h r)) cr (λcr2=>Jb N n n (vf n (gX (uV n p h) (uS n p h r) (dn z (uW n x h)) x)) (mf n (low v)) cr2
        (λa b e=>cond (e != 0) (k0 0 0 (some 0) (some 0) (some 0) e) (k1 a b (dn z (uW n x h)) (uS n p h r) (fdiv (bd (dn z (uW n x h)) (dn z (uW n x h))) (uS n p h r)) 0 (vf n (gK (uV n p h) (uS n p h r)))))
        (λe q=>cond (e != 0) (k0 0 0 (some 0) (some 0) (some 0) e) (k2 n n (dn z (uW n x h)) (uS n p h r) (fdiv (bd (dn z (uW n x h)) (dn z (uW n x h))) (uS n p h r)) 0 (vf n (gX (uV n p h) (uS n p h r) (dn z (uW n x h)) x)) q (vf n (gK (uV n p h) (uS n p h r))))))) =
       cond (upT n x p h r z||o) (k0 0 0 (some 0) (some 0) (some 0) 5) (cond (!uZ n (mf n (mir v))) (k0 0 0 (some 0) (some 0) (some 0) 151) (k2 n n (upY n x h z) (uS n p h r) (upC n x p h r z) 0 (upX n x p h r z) (mf n (mir v)) (upG n p h r))):=by
      intro o v hw ho;rw[jx,jx,M7];show Jb N n n (upX n x p h r z) (mf n (low v)) (upT n x p h r z||o) _ _=_;rw[IE hF hn _ _ (λq=>ho (by rw[Bool.or_eq_false_iff]at q; exact q.2)) hw];cases (upT n x p h r z||o)
      ·rw[cond_false,cond_false];cases uZ n (mf n (mir v)) <;> rfl
      ·rfl
     cases sh
     ·rw[cond_false,DF (by omega) hn hl hh (bE _ _)];rw[if_neg (by decide),if_neg (by decide)];refine tail (sT n p h r) _ (λi j=>kR _ _) λq i j hi hj=>?_
      unfold sT BG at q;rw[Bool.or_eq_false_iff]at q;have h2:=jA (jA q.2 i hi) j (by omega);unfold jO at h2;rw[Bool.or_eq_false_iff]at h2;have h3:=h2.2;rw[Bool.not_eq_false']at h3;exact h3
     ·rw[cond_true,bE,oj hn,FH (by omega) hn hl (bE _ _) (bE _ _)];rw[if_pos rfl,if_pos rfl];refine tail (SM n p h r) _ (λi j=>Bi _ _) λq i j hi hj=>?_
      unfold SM OE at q;have h2:=jA (jA q i hi) j (by omega);unfold shO at h2;rw[Bool.or_eq_false_iff]at h2;have h3:=h2.2;rw[Bool.not_eq_false']at h3;exact h3
    ·rw[z_ h2];unfold uE at h2 ⊢;cases q:uF n x p h r
     ·rw[q]at h2;cases q2:fgt (uS n p h r) (some 0)
      ·rfl
      ·rw[q2]at h2; exact absurd rfl h2
     ·rfl
  ·rw[z_ h1,cd _ _ h1,cond_true]
 ·rw[z_ h0,cd _ _ h0,cond_true]
def zZ (n:Nat) (x p:List Fl):Prop:=n<=12/\x.length=n/\p.length=n*n/\bw x=true/\bw p=true/\sS n p=true/\uZ n p=true/\AllW p
theorem mu {l:List Fl}:bw l=true ↔ ∀ i,i<l.length->bb (l.getD i none)=true:=by unfold bw;exact jI
theorem M4 {n:Nat} {x p:List Fl} (h:zZ n x p):nM x n n p=0:=by obtain⟨h1,h2,h3,h4,h5,h6,h7,-⟩:=h;unfold nM;rw[Br h1 h3 h5,if_neg (by decide),if_neg (by omega),if_neg (by omega),Int.toNat_natCast,if_neg (by simp[h4]),if_neg (by simp[h6]),if_neg (by simp[h7])]
theorem CM {x:List Fl} {r c:Int} {p:List Fl} (h:nM x r c p=0) (hw:AllW p):∃ n:Nat,r=n/\c=n/\zZ n x p:=by obtain⟨n,h1,h2,h3,h4,h5,h6,h7,h8,h9⟩:=se h;exact⟨n,h2,h3,h1,h4,h5,h6,h7,h8,h9,hw⟩
theorem LW {n:Nat} (v:Nat->Nat->Fl):sS n (mf n (mir v))=true:=by
 unfold sS;refine jI.2 λi hi=>jI.2 λj hj=>?_
 have hj2:j<n:=by omega
 rw[zf n _ hi hj2,zf n _ hj2 hi];have:mir v i j=mir v j i:=by unfold mir;rw[if_pos (by omega),if_neg (by omega)]
 rw[this];exact decide_eq_true rfl
theorem M8 {n:Nat} {x p:List Fl} (hT:zZ n x p) (h:List Fl) (r z:Fl) :
  (∃ e:Int,e ≠ 0 /\ ∀ k0 k2,wl x n n p h r z (sT x.length p h r) (upJ x.length p h r) k0 k2=k0 e) \/
  (∃ y s c X L G,zZ n X L/\Nn y/\Nn s/\Nn c/\G.length=n/\(∀ i,i<G.length->Nn (G.getD i none)) /\ ∀ k0 k2,wl x n n p h r z (sT x.length p h r) (upJ x.length p h r) k0 k2=k2 n y s c X L G):=by
 have h0:=M4 hT;have hx:=hT.2.1;subst hx;unfold wl;by_cases h1:lV x.length h r=0
 ·cases hz:bb z
  ·exact .inl ⟨4,by decide,λk0 k2=>by rw[ifz h0,ifz h1,if_pos rfl]⟩
  ·by_cases h2:uE x.length x p h r=0
   ·cases h3:(upT x.length x p h r z||sT x.length p h r)
    ·cases h4:uZ x.length (upJ x.length p h r)
     ·exact .inl ⟨151,by decide,λk0 k2=>by rw[ifz h0,ifz h1,if_neg (by decide),ifz h2]; rfl⟩
     ·refine .inr ⟨upY x.length x h z,uS x.length p h r,upC x.length x p h r z,upX x.length x p h r z,upJ x.length p h r,upG x.length p h r,?_⟩;rw[Bool.or_eq_false_iff]at h3;obtain⟨h5,h6⟩:=h3;unfold upT at h5;simp only[Bool.or_eq_false_iff,Bool.not_eq_false']at h5;obtain⟨⟨⟨q1,q2⟩,q3⟩,q4⟩:=h5;have q5:∀ i,i<x.length->bb (gK (uV x.length p h) (uS x.length p h r) i)=true/\bb (gX (uV x.length p h) (uS x.length p h r) (upY x.length x h z) x i)=true:=λi hi=>by have:=jA q2 i hi;unfold gO at this;simp only[Bool.or_eq_false_iff,Bool.not_eq_false']at this;exact⟨this.1.1,this.2⟩
      have q6:bb (uS x.length p h r)=true:=by
       have hf:uF x.length x p h r=false:=by
        unfold uE at h2;split at h2
        ·cases h2
        ·rename_i q; simpa using q
       unfold uF at hf;rw[Bool.or_eq_false_iff]at hf;simpa using hf.2
      refine⟨⟨hT.1,bE _ _,fo _ _,mu.2 (M9 (P:=λx=>bb x=true) λi hi=>(q5 i hi).2),GO h6,LW _,h4,R6 (LV λa b=>kR _ _)⟩,oP q1,oP q6,oP q4,bE _ _,M9 λi hi=>oP (q5 i hi).1,λk0 k2=>?_⟩;rw[ifz h0,ifz h1,if_neg (by decide),ifz h2]; rfl
    ·exact .inl ⟨5,by decide,λk0 k2=>by rw[ifz h0,ifz h1,if_neg (by decide),ifz h2]; rfl⟩
   ·exact .inl ⟨uE x.length x p h r,h2,λk0 k2=>by rw[ifz h0,ifz h1,if_neg (by decide),z_ h2]⟩
 ·exact .inl ⟨lV x.length h r,h1,λk0 k2=>by rw[ifz h0,z_ h1]⟩
def spF (n:Int) (e0:List Fl->Bool):(Int × List Fl)->((Int × List Fl)->Bool)->Bool:=λv_ K=>match v_ with
 | (t,l)=>(cond (decide (t<n)) ((inR t (List.length l))&&((decide ((Int.toNat t)<(List.length l)))&&((ah .i64 (t+1))&&(K ((t+1),(List.set l (Int.toNat t) (some 4635118810238550016))))))) (e0 l))
theorem pM {N:Nat} {l:List Fl} (h:bJ N l.length) {e0:List Fl->Bool} {b:Bool} (he:∀ l',e0 l'=b):ai (N+24) (spF ((l.length:Nat):Int) e0) (0,l)=b:=by
 obtain⟨h1,h2⟩:=h;refine aD (λt:Nat=>((t:Int),spl l t)) l.length (by omega) ?_ ?_
 ·intro t ht K;unfold spF;dsimp only;rw[decide_eq_true (by omega:(t:Int)<(l.length:Int)),cond_true,Hv,aa (af (by omega) (by omega)),Int.toNat_natCast,aa (decide_eq_true (by omega)),aa (ab (by omega) (by omega))];rfl
 ·intro K;unfold spF;dsimp only;rw[decide_eq_false (by omega:¬(l.length:Int)<(l.length:Int)),cond_false,he]
def spP (o:Nat) (l:List Fl):Nat->List Fl
 | 0=>l
 | t+1=>(spP o l t).set (o+t) (some 4635118810238550016)
theorem Hu (o:Nat) (l:List Fl):∀ t,(spP o l t).length=l.length
 | 0=>rfl
 | t+1=>by unfold spP; rw[List.length_set,Hu]
theorem Jj (N:Nat) (a b n:Int) (t5 t6:Nat) (c d e f:List Fl) (e0:List Fl->Bool):MV N a b n t5 t6 c d e f e0=spF n e0:=rfl
theorem Em (N:Nat) (a b n:Int) (t5 t6:Nat) (c d e f:List Fl) (e0:List Fl->Bool):MO N a b n t5 t6 c d e f e0=spF n e0:=rfl
theorem En (N:Nat) (a b n:Int) (t5 t6:Nat) (c d e f:List Fl) (e0:List Fl->Bool):MP N a b n t5 t6 c d e f e0=spF n e0:=rfl
theorem Eo (N:Nat) (a b n:Int) (t5 t6:Nat) (c d e f:List Fl) (e0:List Fl->Bool):MQ N a b n t5 t6 c d e f e0=spF n e0:=rfl
theorem Jk (N:Nat) (a b n:Int) (c d e f:List Fl) (e0:List Fl->Bool):MW N a b n c d e f e0=spF n e0:=rfl
theorem Ep (N:Nat) (a b n:Int) (c d e f:List Fl) (e0:List Fl->Bool):MR N a b n c d e f e0=spF n e0:=rfl
theorem Er (N:Nat) (a b n:Int) (c d e f:List Fl) (e0:List Fl->Bool):MS N a b n c d e f e0=spF n e0:=rfl
theorem Es (N:Nat) (a b n:Int) (c d e f:List Fl) (e0:List Fl->Bool):MT N a b n c d e f e0=spF n e0:=rfl
theorem Et (N:Nat) (a b n:Int) (c d e f:List Fl) (e0:List Fl->Bool):MU N a b n c d e f e0=spF n e0:=rfl
theorem wS {N:Nat} {a b c d e:List Fl} (ha:bJ N a.length) (hb:bJ N b.length) (hc:bJ N c.length) (hd:bJ N d.length) (he:bJ N e.length) {o m:Nat} (hm:o+m<=e.length) (K:Bool) :
  sQ6 N o m a b c d e (λ_ _ _ _ _=>K)=K:=by
 (unfold sQ6; rw[ac]; unfold GQ6)
 rw[Jj];refine pM ha λa'=>?_
 rw[Em];refine pM hb λb'=>?_
 rw[En];refine pM hc λc'=>?_
 rw[Eo];refine pM hd λd'=>?_
 obtain⟨h1,h2⟩:=he;refine aD (λt:Nat=>((t:Int),spP o e t)) m (by omega) ?_ ?_
 ·intro t ht K;unfold Hw;dsimp only;rw[decide_eq_true (by omega:(t:Int)<(m:Int)),cond_true,Hu,aa (af (by omega) (by omega)),Int.toNat_natCast,aa (decide_eq_true (by omega)),aa (ab (by omega) (by omega))];rfl
 ·intro K;unfold Hw;dsimp only;rw[decide_eq_false (by omega:¬(m:Int)<(m:Int)),cond_false]
theorem wT {N:Nat} {a b c d e:List Fl} (ha:bJ N a.length) (hb:bJ N b.length) (hc:bJ N c.length) (hd:bJ N d.length) (he:bJ N e.length) (K:Bool) :
  sQ7 N a b c d e (λ_ _ _ _ _=>K)=K:=by
 (unfold sQ7; rw[ac]; unfold GQ7)
 rw[Jk];refine pM ha λa'=>?_
 rw[Ep];refine pM hb λb'=>?_
 rw[Er];refine pM hc λc'=>?_
 rw[Es];refine pM hd λd'=>?_
 rw[Et];exact pM he λe'=>rfl
theorem He {m n i:Nat} (hm:m<=12) (hn:n<=12) (hi:i<m) {L:Nat} (hL:L=m*n):ah .i64 ((i:Int)*(n:Int))=true/\ah .i64 ((i:Int)+1)=true/\ah .i64 (((i:Int)+1)*(n:Int))=true/\(decide (0<=(i:Int)*(n:Int)/\(i:Int)*(n:Int)<=((i:Int)+1)*(n:Int)/\((i:Int)+1)*(n:Int)<=((L:Nat):Int)))=true/\Int.toNat ((i:Int)*(n:Int))=i*n/\Int.toNat (((i:Int)+1)*(n:Int)) - i*n=n:=by
 have h1:(i+1)*n<=m*n:=Nat.mul_le_mul_right n hi;have h2:m*n<=12*12:=Nat.mul_le_mul hm hn;have e1:(i:Int)*(n:Int)=((i*n:Nat):Int):=by rw[Int.natCast_mul]
 have e2:((i:Int)+1)*(n:Int)=(((i+1)*n:Nat):Int):=by rw[Int.natCast_mul]; rfl
 have e3:(i+1)*n=i*n+n:=by rw[Nat.add_mul]; omega
 rw[e1,e2];refine⟨ab (by omega) (by omega),ab (by omega) (by omega),ab (by omega) (by omega),decide_eq_true ⟨by omega,by omega,by omega⟩,Int.toNat_natCast _,?_⟩;rw[Int.toNat_natCast]; omega
theorem uQ {N m n i:Nat} (hm:m<=12) (hn:n<=12) (hi:i<m) {l:List Fl} (h:l.length=m*n) (k:Nat->Nat->Bool):ci N m n i l k=k (i*n) n:=by
 obtain⟨h1,h2,h3,h4,h5,h6⟩:=He hm hn hi h
 (unfold ci; rw[ac]; unfold jG)
 rw[aa h1,aa h2,aa h3,aa h4,h5,h6]
theorem sw {N m n i:Nat} (hm:m<=12) (hn:n<=12) (hi:i<m) {l:List Fl} (h:l.length=m*n) (k:Nat->Nat->Bool):xb N m n i l k=k (i*n) n:=by
 obtain⟨h1,h2,h3,h4,h5,h6⟩:=He hm hn hi h
 (unfold xb; rw[ac]; unfold Gq)
 rw[aa h1,aa h2,aa h3,aa h4,h5,h6]
theorem nx {N:Nat} (hF:Fuel N) (x:List Fl) (rr cc:Int) (p:List Fl) {o m:Nat} (r z:Fl) {b:List Fl} (hb:o+m<=b.length) (hwp:AllW p) (k:List Fl->Int->Int->List Fl->Fl->Fl->Fl->List Fl->Int->Bool) :
  gL N x rr cc p o m r z b k=wl x rr cc p (List.take m (List.drop o b)) r z (sT x.length p (List.take m (List.drop o b)) r) (upJ x.length p (List.take m (List.drop o b)) r) (λe=>k [] 0 0 [] (some 0) (some 0) (some 0) [] e) (λn y s c x' p' g=>k x' n n p' y s c g 0):=by
 (unfold gL; rw[ac]; unfold jF)
 rw[aa (decide_eq_true hb),FK hF _ _ _ _ _ _ _ hwp]
theorem l7 {N:Nat} (hF:Fuel N) (x:List Fl) (rr cc:Int) (p:List Fl) {o m:Nat} (r z:Fl) {b:List Fl} (hb:o+m<=b.length) (hwp:AllW p) (k:List Fl->Int->Int->List Fl->Fl->Fl->Fl->List Fl->Int->Bool) :
  Hm N x rr cc p o m r z b k=wl x rr cc p (List.take m (List.drop o b)) r z (sT x.length p (List.take m (List.drop o b)) r) (upJ x.length p (List.take m (List.drop o b)) r) (λe=>k [] 0 0 [] (some 0) (some 0) (some 0) [] e) (λn y s c x' p' g=>k x' n n p' y s c g 0):=by
 (unfold Hm; rw[ac]; unfold JY)
 rw[aa (decide_eq_true hb),DG hF false _ _ _ _ _ _ _ hwp,if_neg (by decide),if_neg (by decide)]
def Nj (s:RY4):Prop:=Nn s.1/\Nn s.2.1/\Nn s.2.2.1/\s.2.2.2.length<=12 /\ ∀ i,i<s.2.2.2.length->Nn (s.2.2.2.getD i none)
inductive RO
 | err (j e:Int)
 | ok (n:Nat) (X P:List Fl) (l:List RY4)
def RO.app:RO->(List Fl->Int->Int->List Fl->List RY4->Int->Int->Bool)->Bool
 | .err j e,k=>k [] 0 0 [] [] j e
 | .ok n X P l,k=>k X n n P l 0 0
def RO.good:RO->Prop
 | .err _ _=>True
 | .ok n X P l=>zZ n X P/\l.length<=12 /\ ∀ s,s ∈ l->Nj s
abbrev KR:=List Fl->Int->Int->List Fl->List RY4->Int->Int->Bool
abbrev SgP:=Int × Int × List Fl × Int × Int × List Fl × List RY4
abbrev SgR:=Int × List Fl × Int × Int × List Fl × List RY4
theorem A7 {m n0:Nat} (hm:m<=12) (A:List Fl) (H:Nat->List Fl) (R Z:Nat->Fl)
    (sp:KR->SgP->(SgP->Bool)->Bool) (sr:KR->SgR->(SgR->Bool)->Bool)
    (pE:∀ i x p l e k q K,i<m->zZ n0 x p->e ≠ 0->(∀ k0 k2,wl x n0 n0 p (H i) (R i) (Z i) (sT x.length p (H i) (R i)) (upJ x.length p (H i) (R i)) k0 k2=k0 e)->sp k (q,(i:Int),x,n0,n0,p,l) K=k [] 0 0 [] [] i e)
    (rE:∀ i x p l e k K,i<m->zZ n0 x p->e ≠ 0->(∀ k0 k2,wl x n0 n0 p (H i) (R i) (Z i) (sT x.length p (H i) (R i)) (upJ x.length p (H i) (R i)) k0 k2=k0 e)->sr k ((i:Int),x,n0,n0,p,l) K=k [] 0 0 [] [] i e)
    (pO:∀ i x p l y s c X L G k q K,i<m->zZ n0 x p->l.length<=12->(∀ k0 k2,wl x n0 n0 p (H i) (R i) (Z i) (sT x.length p (H i) (R i)) (upJ x.length p (H i) (R i)) k0 k2=k2 n0 y s c X L G)->sp k (q,(i:Int),x,n0,n0,p,l) K=K (0,((i+1:Nat):Int),X,n0,n0,L,l++[(y,(s,(c,G)))]))
    (rO:∀ i x p l y s c X L G k K,i<m->zZ n0 x p->l.length<=12->(∀ k0 k2,wl x n0 n0 p (H i) (R i) (Z i) (sT x.length p (H i) (R i)) (upJ x.length p (H i) (R i)) k0 k2=k2 n0 y s c X L G)->sr k ((i:Int),x,n0,n0,p,l) K=K (((i+1:Nat):Int),X,n0,n0,L,l++[(y,(s,(c,G)))]))
    (pX:∀ x p l k K,sp k (0,(m:Int),x,n0,n0,p,l) K=k x n0 n0 p l 0 0) (rX:∀ x p l k K,sr k ((m:Int),x,n0,n0,p,l) K=k x n0 n0 p l 0 0) :
    ∀(d i:Nat),i+d=m -> ∀ x p l,zZ n0 x p->l.length=i->(∀ s,s ∈ l->Nj s) ->
      ∃ o:RO,o.good/\(∀ M,d<M -> ∀ k,ai M (sp k) (0,(i:Int),x,n0,n0,p,l)=o.app k)/\(∀ M,d<M -> ∀ k,ai M (sr k) ((i:Int),x,n0,n0,p,l)=o.app k):=by
  intro d;induction d with
  | zero=>
    intro i hi x p l hT hl hs;have:i=m:=by omega
    subst this;refine⟨.ok n0 x p l,⟨hT,by omega,hs⟩,λM hM k=>?_,λM hM k=>?_⟩
    · obtain⟨M,rfl⟩:∃ M',M=M'+1:=⟨M - 1,by omega⟩
      exact pX x p l k _
    · obtain⟨M,rfl⟩:∃ M',M=M'+1:=⟨M - 1,by omega⟩
      exact rX x p l k _
  | succ d ih=>
    intro i hi x p l hT hl hs;rcases M8 hT (H i) (R i) (Z i)with⟨e,he,h⟩ | ⟨y,s,c,X,L,G,hT',hy,h2,hc,hG,hG2,h⟩
    · refine⟨.err i e,trivial,λM hM k=>?_,λM hM k=>?_⟩
      · obtain⟨M,rfl⟩:∃ M',M=M'+1:=⟨M - 1,by omega⟩
        exact pE i x p l e k 0 _ (by omega) hT he h
      · obtain⟨M,rfl⟩:∃ M',M=M'+1:=⟨M - 1,by omega⟩
        exact rE i x p l e k _ (by omega) hT he h
    · obtain⟨o,ho,h3,h4⟩:=ih (i+1) (by omega) X L (l++[(y,(s,(c,G)))]) hT' (by rw[List.length_append,hl]; rfl) (by
        intro s' hs';rcases List.mem_append.1 hs' with h' | h'
        · exact hs s' h'
        · cases List.mem_singleton.1 h'
          exact⟨hy,h2,hc,by have:=hT.1; show G.length<=12; omega,hG2⟩)
      refine⟨o,ho,λM hM k=>?_,λM hM k=>?_⟩
      · obtain⟨M,rfl⟩:∃ M',M=M'+1:=⟨M - 1,by omega⟩
        exact(pO i x p l y s c X L G k 0 _ (by omega) hT (by omega) h).trans (h3 M (by omega) k)
      · obtain⟨M,rfl⟩:∃ M',M=M'+1:=⟨M - 1,by omega⟩
        exact(rO i x p l y s c X L G k _ (by omega) hT (by omega) h).trans (h4 M (by omega) k)
theorem ge {a b:Int} (h:a=b):((a != b)==false)=true:=by simp[h]
theorem nB {a b:Int} (h:¬ a=b):((a != b)==false)=false:=by simp[h]
theorem sC {a b:Int} (h:a=b):(a != b)=false:=by simp[h]
theorem Sc {N:Nat} (hF:Fuel N) {x p A r z:List Fl} (hx:bJ N x.length) (hr:r.length<=17592186044416) (hz:z.length<=17592186044416) (hw:AllW p) (c a b:Int) :
  ∃ o:RO,o.good/\(∀ k,Mq N x c c p a b A r z k=o.app k)/\(∀ k,fu N c c a b x p A r z k=o.app k):=by
 have hN:=hF.lt
 (unfold Mq; rw[ac]; unfold JT)
 (unfold fu; rw[ac]; unfold eZ)
 simp only[qV hF _ _ _ _ hw,tS hF _ _ _ _ hw];by_cases h0:nM x c c p=0
 ·rw[h0];simp only[show((0:Int) != 0)=false from rfl,cond_false];obtain⟨n,rfl,-,hT⟩:=CM h0 hw;have hn:=hT.1; have hxl:=hT.2.1; have hpl:=hT.2.2.1
  (unfold Po; rw[ac]; unfold J5; unfold kN oM)
  simp only[uL (N:=N) (by omega) a b A,mI (N:=N) (by omega) a b A];by_cases h1:chk a b A=0
  ·rw[h1];simp only[show((0:Int) != 0)=false from rfl,cond_false];by_cases h2:b=((x.length:Nat):Int)
   ·simp only[ge h2,cond_true];by_cases h3:((r.length:Nat):Int)=a
    ·simp only[ge h3,cond_true];by_cases h4:(z.length:Int)=a
     ·simp only[sC h4,cond_false];obtain⟨⟨⟨ha0,ha1⟩,hb0,hb1⟩,hAl,hAf⟩:=mv.1 h1;obtain⟨m,rfl⟩:∃ m:Nat,a=m:=⟨a.toNat,by omega⟩
      have hbn:b=((n:Nat):Int):=by rw[h2,hxl]
      subst hbn;have hrm:r.length=m:=by omega
      have hzm:z.length=m:=by omega
      have hA:A.length=m*n:=by rw[<- Int.natCast_mul]at hAl; omega
      have hm:m<=12:=by omega
      have clone:∀(y:List Fl) (k:List Fl->Bool),y.length<=144->aw N y k=k y:=by intro y k hy;unfold aw;rw[aa (decide_eq_true (by omega))]
      have n2:n*n<=144:=w6 hn;have row:∀ t,t<m->t*n+n<=A.length:=λt ht=>by have:(t+1)*n<=m*n:=Nat.mul_le_mul_right n ht;rw[Nat.add_mul]at this; omega
      obtain⟨o,ho,q1,q2⟩:=A7 (n0:=n) hm A (λt=>List.take n (List.drop (t*n) A)) (λt=>r.getD t none) (λt=>z.getD t none)
       (λk=>br N 0 m x p A r z m n 0 0 (λ(Y7:Int) (e_2:Int) (t_8:List Fl) (t_9:Int) (X1:Int) (XI:List Fl) (Y6:List RY4)=>(cond (e_2 != 0) (k [] 0 0 [] [] Y7 e_2) (k t_8 t_9 X1 XI Y6 0 0))))
       (λk=>we N A r z m n 0 0 (λ(t10:Int) (t11:Int) (abZ:Int) (ab0:Int)=>(k [] abZ ab0 [] [] t10 t11)) (λ(XI:List Fl) (ZK:Int) (ZL:Int) (ZM:List Fl) (Y6:List RY4)=>(k XI ZK ZL ZM Y6 0 0)))
       (λi x p l e k q K hi hT he h=>by unfold br;dsimp only;rw[decide_eq_true (by omega:(i:Int)<(m:Int)),cond_true,uQ hm hn hi hA,aa (af (by omega) (by omega)),aa (decide_eq_true (by rw[Int.toNat_natCast]; omega)),aa (af (by omega) (by omega)),aa (decide_eq_true (by rw[Int.toNat_natCast]; omega)),nx hF _ _ _ _ _ _ (row i hi) hT.2.2.2.2.2.2.2,Int.toNat_natCast,h];rw[cd _ _ he,cond_true,cond_true])
       (λi x p l e k K hi hT he h=>by unfold we;dsimp only;rw[decide_eq_true (by omega:(i:Int)<(m:Int)),cond_true,sw hm hn hi hA,aa (af (by omega) (by omega)),aa (decide_eq_true (by rw[Int.toNat_natCast]; omega)),aa (af (by omega) (by omega)),aa (decide_eq_true (by rw[Int.toNat_natCast]; omega)),l7 hF _ _ _ _ _ _ (row i hi) hT.2.2.2.2.2.2.2,Int.toNat_natCast,h];rw[cd _ _ he,cond_true])
       (λi x p l y s c X L G k q K hi hT hl h=>by unfold br;dsimp only;rw[decide_eq_true (by omega:(i:Int)<(m:Int)),cond_true,uQ hm hn hi hA,aa (af (by omega) (by omega)),aa (decide_eq_true (by rw[Int.toNat_natCast]; omega)),aa (af (by omega) (by omega)),aa (decide_eq_true (by rw[Int.toNat_natCast]; omega)),nx hF _ _ _ _ _ _ (row i hi) hT.2.2.2.2.2.2.2,Int.toNat_natCast,h];rw[show((0:Int) != 0)=false from rfl,cond_false,aa (decide_eq_true (by rw[List.length_append]; simp only[List.length_cons,List.length_nil]; omega)),aa (ab (by omega) (by omega))];rfl)
       (λi x p l y s c X L G k K hi hT hl h=>by unfold we;dsimp only;rw[decide_eq_true (by omega:(i:Int)<(m:Int)),cond_true,sw hm hn hi hA,aa (af (by omega) (by omega)),aa (decide_eq_true (by rw[Int.toNat_natCast]; omega)),aa (af (by omega) (by omega)),aa (decide_eq_true (by rw[Int.toNat_natCast]; omega)),l7 hF _ _ _ _ _ _ (row i hi) hT.2.2.2.2.2.2.2,Int.toNat_natCast,h];rw[show((0:Int) != 0)=false from rfl,cond_false,aa (decide_eq_true (by rw[List.length_append]; simp only[List.length_cons,List.length_nil]; omega)),aa (ab (by omega) (by omega))];rfl)
       (λx p l k K=>by unfold br;dsimp only;rw[decide_eq_false (by omega:¬(m:Int)<(m:Int)),cond_false];rfl)
       (λx p l k K=>by unfold we;dsimp only;rw[decide_eq_false (by omega:¬(m:Int)<(m:Int)),cond_false])
       m 0 (by omega) x p [] hT rfl (λs hs=>by cases hs)
      refine⟨o,ho,λk=>q2 N (by omega) k,λk=>?_⟩;rw[clone x _ (by omega),clone p _ (by omega)];exact q1 N (by omega) k
     ·refine⟨.err 0 3,trivial,λk=>?_,λk=>?_⟩
      ·simp only[cd _ _ h4,cond_true,show((3:Int) != 0)=true from rfl]; rfl
      ·simp only[cd _ _ h4,cond_true]; rfl
    ·refine⟨.err 0 3,trivial,λk=>?_,λk=>?_⟩
     ·simp only[nB h3,cond_false,show((3:Int) != 0)=true from rfl,cond_true]; rfl
     ·simp only[nB h3,cond_false]; rfl
   ·refine⟨.err 0 3,trivial,λk=>?_,λk=>?_⟩
    ·simp only[nB h2,cond_false,show((3:Int) != 0)=true from rfl,cond_true]; rfl
    ·simp only[nB h2,cond_false]; rfl
  ·refine⟨.err 0 (chk a b A),trivial,λk=>?_,λk=>?_⟩
   ·simp only[cd _ _ h1,cond_true]; rfl
   ·simp only[cd _ _ h1,cond_true]; rfl
 ·refine⟨.err 0 (nM x c c p),trivial,λk=>?_,λk=>?_⟩
  ·simp only[cd _ _ h0,cond_true]; rfl
  ·simp only[cd _ _ h0,cond_true]; rfl
theorem Sb {N:Nat} (hF:Fuel N) {x p A r z:List Fl} (hx:bJ N x.length) (hr:r.length<=17592186044416) (hz:z.length<=17592186044416) (hw:AllW p) {z0 z1:Nat} (hz01:z0+z1<=z.length) (c a b:Int) :
  ∃ o:RO,o.good/\(∀ k,Mp N x c c p a b z0 z1 A r z k=o.app k)/\(∀ k,ft N c c a b z0 z1 x p A r z k=o.app k):=by
 have hN:=hF.lt
 (unfold Mp; rw[ac]; unfold JS)
 (unfold ft; rw[ac]; unfold eX)
 simp only[qV hF _ _ _ _ hw,tS hF _ _ _ _ hw];by_cases h0:nM x c c p=0
 ·rw[h0];simp only[show((0:Int) != 0)=false from rfl,cond_false];obtain⟨n,rfl,-,hT⟩:=CM h0 hw;have hn:=hT.1; have hxl:=hT.2.1; have hpl:=hT.2.2.1
  (unfold Pn; rw[ac]; unfold J4; unfold kN oM)
  simp only[uL (N:=N) (by omega) a b A,mI (N:=N) (by omega) a b A];by_cases h1:chk a b A=0
  ·rw[h1];simp only[show((0:Int) != 0)=false from rfl,cond_false];by_cases h2:b=((x.length:Nat):Int)
   ·simp only[ge h2,cond_true];by_cases h3:((r.length:Nat):Int)=a
    ·simp only[ge h3,cond_true];by_cases h4:((z1:Nat):Int)=a
     ·simp only[sC h4,cond_false];obtain⟨⟨⟨ha0,ha1⟩,hb0,hb1⟩,hAl,hAf⟩:=mv.1 h1;obtain⟨m,rfl⟩:∃ m:Nat,a=m:=⟨a.toNat,by omega⟩
      have hbn:b=((n:Nat):Int):=by rw[h2,hxl]
      subst hbn;have hrm:r.length=m:=by omega
      have hzm:z1=m:=by omega
      have hA:A.length=m*n:=by rw[<- Int.natCast_mul]at hAl; omega
      have hm:m<=12:=by omega
      have clone:∀(y:List Fl) (k:List Fl->Bool),y.length<=144->aw N y k=k y:=by intro y k hy;unfold aw;rw[aa (decide_eq_true (by omega))]
      have n2:n*n<=144:=w6 hn;have row:∀ t,t<m->t*n+n<=A.length:=λt ht=>by have:(t+1)*n<=m*n:=Nat.mul_le_mul_right n ht;rw[Nat.add_mul]at this; omega
      obtain⟨o,ho,q1,q2⟩:=A7 (n0:=n) hm A (λt=>List.take n (List.drop (t*n) A)) (λt=>r.getD t none) (λt=>z.getD (z0+t) none)
       (λk=>bh N z0 z1 0 m x p A r z m n 0 0 (λ(Y7:Int) (e_2:Int) (t_8:List Fl) (t_9:Int) (X1:Int) (XI:List Fl) (Y6:List RY4)=>(cond (e_2 != 0) (k [] 0 0 [] [] Y7 e_2) (k t_8 t_9 X1 XI Y6 0 0))))
       (λk=>wc N z0 z1 A r z m n 0 0 (λ(t10:Int) (t11:Int) (abZ:Int) (ab0:Int)=>(k [] abZ ab0 [] [] t10 t11)) (λ(XI:List Fl) (ZK:Int) (ZL:Int) (ZM:List Fl) (Y6:List RY4)=>(k XI ZK ZL ZM Y6 0 0)))
       (λi x p l e k q K hi hT he h=>by unfold bh;dsimp only;rw[decide_eq_true (by omega:(i:Int)<(m:Int)),cond_true,uQ hm hn hi hA,aa (af (by omega) (by omega)),aa (decide_eq_true (by rw[Int.toNat_natCast]; omega)),aa (af (by omega) (by omega)),aa (decide_eq_true (by rw[Int.toNat_natCast]; omega)),nx hF _ _ _ _ _ _ (row i hi) hT.2.2.2.2.2.2.2,Int.toNat_natCast,h];rw[cd _ _ he,cond_true,cond_true])
       (λi x p l e k K hi hT he h=>by unfold wc;dsimp only;rw[decide_eq_true (by omega:(i:Int)<(m:Int)),cond_true,sw hm hn hi hA,aa (af (by omega) (by omega)),aa (decide_eq_true (by rw[Int.toNat_natCast]; omega)),aa (af (by omega) (by omega)),aa (decide_eq_true (by rw[Int.toNat_natCast]; omega)),l7 hF _ _ _ _ _ _ (row i hi) hT.2.2.2.2.2.2.2,Int.toNat_natCast,h];rw[cd _ _ he,cond_true])
       (λi x p l y s c X L G k q K hi hT hl h=>by unfold bh;dsimp only;rw[decide_eq_true (by omega:(i:Int)<(m:Int)),cond_true,uQ hm hn hi hA,aa (af (by omega) (by omega)),aa (decide_eq_true (by rw[Int.toNat_natCast]; omega)),aa (af (by omega) (by omega)),aa (decide_eq_true (by rw[Int.toNat_natCast]; omega)),nx hF _ _ _ _ _ _ (row i hi) hT.2.2.2.2.2.2.2,Int.toNat_natCast,h];rw[show((0:Int) != 0)=false from rfl,cond_false,aa (decide_eq_true (by rw[List.length_append]; simp only[List.length_cons,List.length_nil]; omega)),aa (ab (by omega) (by omega))];rfl)
       (λi x p l y s c X L G k K hi hT hl h=>by unfold wc;dsimp only;rw[decide_eq_true (by omega:(i:Int)<(m:Int)),cond_true,sw hm hn hi hA,aa (af (by omega) (by omega)),aa (decide_eq_true (by rw[Int.toNat_natCast]; omega)),aa (af (by omega) (by omega)),aa (decide_eq_true (by rw[Int.toNat_natCast]; omega)),l7 hF _ _ _ _ _ _ (row i hi) hT.2.2.2.2.2.2.2,Int.toNat_natCast,h];rw[show((0:Int) != 0)=false from rfl,cond_false,aa (decide_eq_true (by rw[List.length_append]; simp only[List.length_cons,List.length_nil]; omega)),aa (ab (by omega) (by omega))];rfl)
       (λx p l k K=>by unfold bh;dsimp only;rw[decide_eq_false (by omega:¬(m:Int)<(m:Int)),cond_false];rfl)
       (λx p l k K=>by unfold wc;dsimp only;rw[decide_eq_false (by omega:¬(m:Int)<(m:Int)),cond_false])
       m 0 (by omega) x p [] hT rfl (λs hs=>by cases hs)
      refine⟨o,ho,λk=>q2 N (by omega) k,λk=>?_⟩;rw[clone x _ (by omega),clone p _ (by omega)];exact q1 N (by omega) k
     ·refine⟨.err 0 3,trivial,λk=>?_,λk=>?_⟩
      ·simp only[cd _ _ h4,cond_true,show((3:Int) != 0)=true from rfl]; rfl
      ·simp only[cd _ _ h4,cond_true]; rfl
    ·refine⟨.err 0 3,trivial,λk=>?_,λk=>?_⟩
     ·simp only[nB h3,cond_false,show((3:Int) != 0)=true from rfl,cond_true]; rfl
     ·simp only[nB h3,cond_false]; rfl
   ·refine⟨.err 0 3,trivial,λk=>?_,λk=>?_⟩
    ·simp only[nB h2,cond_false,show((3:Int) != 0)=true from rfl,cond_true]; rfl
    ·simp only[nB h2,cond_false]; rfl
  ·refine⟨.err 0 (chk a b A),trivial,λk=>?_,λk=>?_⟩
   ·simp only[cd _ _ h1,cond_true]; rfl
   ·simp only[cd _ _ h1,cond_true]; rfl
 ·refine⟨.err 0 (nM x c c p),trivial,λk=>?_,λk=>?_⟩
  ·simp only[cd _ _ h0,cond_true]; rfl
  ·simp only[cd _ _ h0,cond_true]; rfl
def rwH (w:List RY3):List Fl:=(w.map λq=>ot q.1).flatten
def rwR (w:List RY3):List Fl:=w.map λq=>fD q.2.1.toNat
def rwZ (w:List RY3):List Fl:=w.map λq=>fD q.2.2.toNat
theorem Gj {α:Type} {w:List α} {i:Nat} (hi:i<w.length) (d:α):w.take (i+1)=w.take i++[w.getD i d]:=by rw[List.take_succ_eq_append_getElem hi,List.getD_eq_getElem?_getD,List.getElem?_eq_getElem hi]; rfl
theorem Mi (w:List RY3) (i:Nat):(rwH (w.take i)).length<=(rwH w).length:=by
 conv=>rhs; rw[<- List.take_append_drop i w]
 unfold rwH;rw[List.map_append,List.flatten_append,List.length_append]; omega
theorem FF {N:Nat} (w:List RY3) (n:Int) (hw:bJ N w.length) (hq:∀ q ∈ w,bJ N q.1.length) (ht:(rwH w).length<=17592186044416) (k:Int->List Fl->List Fl->List Fl->Bool) :
  Sq N w n k=k w.length (rwH w) (rwR w) (rwZ w):=by
 have sf:∀(r:Int) (k:Fl->Bool),Mw N r k=k (fD r.toNat):=λ_ _=>rfl
 (unfold Sq; rw[ac]; unfold P2)
 refine Ig (λi=>((i:Int),rwR (w.take i),rwZ (w.take i),rwH (w.take i))) w.length (by simp[rwR,rwZ,rwH]) hw.1 (λi hi K=>?_) (λK=>?_)
 ·have h2:=hw.2;simp only[Cf,Int.toNat_natCast];have hm:bJ N (w.getD i ([],(0,0))).1.length:=by rw[List.getD_eq_getElem?_getD,List.getElem?_eq_getElem hi];exact hq _ (List.getElem_mem hi)
  have e:=Gj hi (([],(0,0)):RY3);have e1:rwH (w.take (i+1))=rwH (w.take i)++ot (w.getD i ([],(0,0))).1:=by rw[e]; simp[rwH]
  have e2:rwR (w.take (i+1))=rwR (w.take i)++[fD (w.getD i ([],(0,0))).2.1.toNat]:=by rw[e]; simp[rwR]
  have e3:rwZ (w.take (i+1))=rwZ (w.take i)++[fD (w.getD i ([],(0,0))).2.2.toNat]:=by rw[e]; simp[rwZ]
  have b1:=Mi w (i+1);rw[yT _ hm,sf,sf,<- e1,<- e2,<- e3];have b2:(rwR (w.take (i+1))).length<=w.length:=by simp[rwR]; omega
  have b3:(rwZ (w.take (i+1))).length<=w.length:=by simp[rwZ]; omega
  rw[decide_eq_true (by omega:(i:Int)<(w.length:Int)),cond_true,aa (af (by omega) (by omega)),aa (decide_eq_true (by omega)),aa (decide_eq_true (by omega)),aa (decide_eq_true (by omega)),aa (ab (by omega) (by omega))];rfl
 ·simp only[Cf];rw[decide_eq_false (by omega),cond_false,List.take_length]
theorem IK {N:Nat} {a b c:Fl} {l:List Fl} (ha:Nn a) (hb:Nn b) (hc:Nn c) (hs:bJ N l.length) (h:∀ i,i<l.length->Nn (l.getD i none)) (k:Bool->Bool):Sr N a b c l a b c l k=k true:=by
 (unfold Sr; rw[ac]; unfold P3)
 rw[so ha,show(true==true)=true from rfl,cond_true,so hb,show(true==true)=true from rfl,cond_true,so hc,show(true==true)=true from rfl,cond_true,yW hs h]
theorem pj {N:Nat} (hN:1000<=N) (l:List RY4) (hl:l.length<=12) (hs:∀ s,s ∈ l->Nj s) (e0:Bool->Bool) (e1:Bool) :
  ai N (Jl N l l ((l.length:Nat):Int) e0 e1) 0=e1:=by
 refine aD (λt:Nat=>(t:Int)) l.length (by omega) ?_ ?_
 ·intro t ht K;have hm:Nj (l.getD t (none,(none,(none,[])))):=by rw[List.getD_eq_getElem?_getD,List.getElem?_eq_getElem ht];exact hs _ (List.getElem_mem ht)
  obtain⟨m1,m2,m3,m4,m5⟩:=hm;unfold Jl;dsimp only;rw[decide_eq_true (by omega:(t:Int)<(l.length:Int)),cond_true,aa (af (by omega) (by omega)),aa (af (by omega) (by omega)),Int.toNat_natCast,IK m1 m2 m3 ⟨by omega,by omega⟩ m5,show(!true)=false from rfl,cond_false,aa (ab (by omega) (by omega))];rfl
 ·intro K;unfold Jl;dsimp only;rw[decide_eq_false (by omega:¬(l.length:Int)<(l.length:Int)),cond_false]
theorem Lo {N:Nat} (hF:Fuel N) {x p:List Int} (hx:bJ N x.length) (hp:bJ N p.length) (hw:∀ z,z ∈ p->z.toNat<18446744073709551616) (n:Int) (l:List RY3) (cut:Int) {A r z:List Fl} (hA:bJ N A.length) (hr:bJ N r.length) (hz:bJ N z.length) (h:Int) :
  Ng N x n p l cut (ot x) (ot p) A r z h (λb=>b)=true:=by
 have hN:=hF.lt;have hW:=Ma hw;have sx:=pL hx;have sp:=pL hp;unfold Ng;rw[vM hx hp];dsimp only;obtain⟨o,ho,q1,q2⟩:=Sc hF (x:=ot x) (p:=ot p) (A:=A) (r:=r) (z:=z) sx hr.2 hz.2 hW n h n;rw[q1];cases o with
 | err j e=>
  unfold RO.app;dsimp only;rw[q2];unfold RO.app;dsimp only;rw[wT sx sp hA hr hz,yY (by omega)];rw[show((!true)==false)=true from rfl,cond_true,ge rfl,cond_true,ge rfl,cond_true,sC rfl,cond_false,pj (by omega) [] (by decide) (λs hs=>by cases hs),sj (by omega)]
 | ok n' X P l'=>
  obtain⟨hT,hl,hs⟩:=ho;obtain⟨h1,h2,h3,h4,h5,-⟩:=hT;have n2:n'*n'<=144:=w6 h1;unfold RO.app;dsimp only;rw[q2];unfold RO.app;dsimp only;rw[wT sx sp hA hr hz,vP ⟨by omega,by omega⟩ ⟨by omega,by omega⟩ (λi hi=>oP (mu.1 h4 i hi)) (λi hi=>oP (mu.1 h5 i hi))];rw[show((!true)==false)=true from rfl,cond_true,ge rfl,cond_true,ge rfl,cond_true,sC rfl,cond_false,pj (by omega) l' hl hs,sj (by omega)]
theorem RW {N:Nat} (hF:Fuel N) {x p:List Int} (hx:bJ N x.length) (hp:bJ N p.length) (hw:∀ z,z ∈ p->z.toNat<18446744073709551616) (n:Int) (l:List RY3) (cut:Int) {A r z:List Fl} (hA:bJ N A.length) (hr:bJ N r.length) (hz:bJ N z.length) {z1:Nat} (h01:1+z1<=z.length) (h:Int) :
  JQ3 N x n p l cut z1 (ot x) (ot p) A r z h (λb=>b)=true:=by
 have hN:=hF.lt;have hW:=Ma hw;have sx:=pL hx;have sp:=pL hp;unfold JQ3;rw[vM hx hp];dsimp only;obtain⟨o,ho,q1,q2⟩:=Sb hF (x:=ot x) (p:=ot p) (A:=A) (r:=r) (z:=z) sx hr.2 hz.2 hW h01 n h n;rw[q1];cases o with
 | err j e=>
  unfold RO.app;dsimp only;rw[q2];unfold RO.app;dsimp only;rw[wS sx sp hA hr hz h01,yY (by omega)];rw[show((!true)==false)=true from rfl,cond_true,ge rfl,cond_true,ge rfl,cond_true,sC rfl,cond_false,pj (by omega) [] (by decide) (λs hs=>by cases hs),sj (by omega)]
 | ok n' X P l'=>
  obtain⟨hT,hl,hs⟩:=ho;obtain⟨h1,h2,h3,h4,h5,-⟩:=hT;have n2:n'*n'<=144:=w6 h1;unfold RO.app;dsimp only;rw[q2];unfold RO.app;dsimp only;rw[wS sx sp hA hr hz h01,vP ⟨by omega,by omega⟩ ⟨by omega,by omega⟩ (λi hi=>oP (mu.1 h4 i hi)) (λi hi=>oP (mu.1 h5 i hi))];rw[show((!true)==false)=true from rfl,cond_true,ge rfl,cond_true,ge rfl,cond_true,sC rfl,cond_false,pj (by omega) l' hl hs,sj (by omega)]
theorem yQ {N:Nat} (hF:Fuel N) (x:List Int) (n:Int) (p:List Int) (l:List RY3) (cut:Int) (hx:bJ N x.length) (hp:bJ N p.length) (hl:bJ N l.length) (hq:∀ q ∈ l,bJ N q.1.length) (ht:bJ N (rwH l).length) (hw:∀ z,z ∈ p->z.toNat<18446744073709551616) :
  sQ2 N x n p l cut (λb=>b)=true:=by
 have hr:(rwR l).length=l.length:=by simp[rwR]
 have hz:(rwZ l).length=l.length:=by simp[rwZ]
 have sr:bJ N (rwR l).length:=by rw[hr]; exact hl
 have sz:bJ N (rwZ l).length:=by rw[hz]; exact hl
 unfold sQ2 GQ2;rw[vM hx hp,FF l n hl hq ht.2];by_cases c1:cut=1
 ·subst c1;rw[show(((1:Int)==1)==true)=true from rfl,cond_true];by_cases c2:(((rwZ l).length:Nat):Int)>0
  ·rw[decide_eq_true c2,cond_true,aa (decide_eq_true (by omega))];exact RW hF hx hp hw n l 1 ht sr sz (by omega) _
  ·rw[decide_eq_false c2,cond_false];exact Lo hF hx hp hw n l 1 ht sr sz _
 ·rw[show((cut==1)==true)=false by simp[c1],cond_false];exact Lo hF hx hp hw n l cut ht sr sz _
end Go.Proofs.YtpmoedfiobeilaaGreatDoor
end
