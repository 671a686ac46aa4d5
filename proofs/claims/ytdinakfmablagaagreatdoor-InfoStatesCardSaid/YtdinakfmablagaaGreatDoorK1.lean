/- Laws in plain Lean. Conditions: none. -/
import Derived.Test.YtdinakfmablagaaGreatDoorX0
import Derived.Test.YtdinakfmablagaaGreatDoorC13
set_option linter.unusedVariables false
section
namespace Go.Proofs.YtdinakfmablagaaGreatDoor
open Go Go.Mach Ieee
theorem Sb {N:Nat} (hN:1000<=N) (k:Bool->List Int->Bool):nt N 1 k=k false (aj 1):=A0 (N:=N) 1 (by decide) (o_ hN (by decide)) (by omega) k
theorem Zj (a b:Nat):flt (some a) (some b)=((Ieee.double.read a).order (Ieee.double.read b)==some .lt):=rfl
theorem R7 (a b:Nat):feq (some a) (some b)=((Ieee.double.read a).order (Ieee.double.read b)==some .eq):=rfl
theorem WN (a b:Nat):fgt (some a) (some b)=((Ieee.double.read a).order (Ieee.double.read b)==some .gt):=rfl
theorem Nk {b:Nat} (hb:W64 b) {s:Bool} {m:Nat} {i:Int} (h:Ieee.double.read b=.number s m i):∃ c,B8 (some b)=some c/\W64 c/\Ieee.double.read c=.number false m i:=by
 have e:Ieee.double.read (b%9223372036854775808)=.number false m i:=by
  obtain⟨hs,hlt,h⟩:=mJ h;unfold Format.read;simp only[i5,sm,lQ,wK];have e1:b%9223372036854775808%9223372036854775808=b%9223372036854775808:=by omega
  have e2:(b%9223372036854775808 / 9223372036854775808%2==1)=false:=by rw[beq_eq_false_iff_ne]; omega
  rw[e1,e2];rcases h with⟨h1,rfl,rfl⟩ | ⟨h1,rfl,rfl⟩
  ·rw[if_pos h1]
  ·rw[if_neg (by omega),if_pos hlt]
 have hn:isNaN (b%9223372036854775808)=false:=by unfold isNaN; rw[e]; rfl
 refine⟨b%9223372036854775808,?_,by unfold W64 at *; omega,e⟩;show jF _=_;unfold jF; rw[hn]; rfl
theorem Cb (N:Nat) {x:Fl} (hx:bC x=true) (hw:FW x) (k:Bool->Bool):nG N x 0 k=k false:=by
 obtain⟨b,s,m,i,rfl,h⟩:=pA hx;obtain⟨c,hc,hcw,hcr⟩:=Nk (hw b rfl) h;have hp:=pQ hcr;have hg:=Gg hcr
 (unfold nG; rw[ac]; unfold tP)
 show k (fgt (B8 (some b)) (some 9218868437227405311))=_;rw[hc];congr 1;have hr:Ieee.double.read 9218868437227405311=.number false 9007199254740991 971:=by decide
 rw[WN,hcr,hr];simp only[Datum.order];have hmin:min i 971=i:=by omega
 have e0:(i - i).toNat=0:=by omega
 rw[hmin,e0];have s1:signed false m 0=((m:Nat):Int):=rfl;have s2:signed false 9007199254740991 (971 - i).toNat=((9007199254740991 <<< (971 - i).toNat:Nat):Int):=rfl;rw[s1,s2,Nat.shiftLeft_eq];have hpw:0<2 ^ (971 - i).toNat:=Nat.two_pow_pos _;have hle:9007199254740991<=9007199254740991*2 ^ (971 - i).toNat:=Nat.le_mul_of_pos_right _ hpw;generalize 9007199254740991*2 ^ (971 - i).toNat=q at hle;have:compare (m:Int) (q:Int) ≠ .gt:=λe=>by have:=Int.compare_eq_gt.1 e; omega
 cases e:compare (m:Int) (q:Int)with
 | gt=>exact absurd e this
 | eq=>rfl
 | lt=>rfl
theorem Mc (d:Datum):W64 (Ieee.double.write d):=by
 cases d with
 | number s m i=>exact F_ s m i
 | infinity s=>
  have:Ieee.double.write (.infinity s)=Ieee.double.word s 9218868437227405312:=by rw[<- lQ]; rfl
  rw[this]; exact B0 s (by decide)
 | nan s f=>
  have:Ieee.double.write (.nan s f)=Ieee.double.word s (9218868437227405312+f%4503599627370496):=by rw[<- lQ,<- sm]; rfl
  rw[this]; exact B0 s (by omega)
theorem zO {o:Option Datum}:FW (o.map Ieee.double.write):=by
 intro b hb;cases o with
 | none=>cases hb
 | some d=>cases hb; exact Mc d
theorem Dp {f:Nat->Nat->Option Nat} (hf:∀ a b c,f a b=some c->W64 c) (x y:Fl):FW (Fr f x y):=by
 intro c hc;cases x with
 | none=>cases hc
 | some a=>cases y with
  | none=>cases hc
  | some b=>exact hf a b c hc
theorem Dq (x y:Fl):FW (nl x y):=Dp (λa b c h=>zO c h) x y
theorem PR (x y:Fl):FW (qz x y):=Dp (λa b c h=>zO c h) x y
theorem PQ (x y:Fl):FW (dU x y):=Dp (λa b c h=>zO c h) x y
theorem PP (x y:Fl):FW (fdiv x y):=Dp (λa b c h=>zO c h) x y
theorem PS:FW (some 0):=λb h=>by cases h; decide
def WY (xs:List Fl):Nat->Fl
 | 0=>some 0
 | n+1=>fmm true (WY xs n) (B8 (xs.getD n none))
def GE1 (x:Fl):Prop:=∃ b,x=some b/\W64 b/\(Ieee.double.read b=.infinity false \/ ∃ m i,Ieee.double.read b=.number false m i/\4503599627370496<=m/\m<9007199254740992 /\ -52<=i)
def Dv (x:Fl):Prop:=∃ b,x=some b/\(Ieee.double.read b=.infinity false \/ ∃ m i,Ieee.double.read b=.number false m i/\m ≠ 0)
def Zk (a b c:Fl):Int:=cond (!aG [a,b,c]) 4 (cond (feq a (some 0)&&(feq b (some 0)&&feq c (some 0))) 251 0)
def Zg (f g:K4->Bool):Prop:=∃ a b c d n,(a.isSome=true/\b.isSome=true/\c.isSome=true/\d.isSome=true)/\(∀ κ,f κ=κ a b c d n)/\(∀ κ,g κ=κ a b c d n)
set_option maxRecDepth 4000
theorem WZ {a0 a1 a2 a3 a4 a5 a6 a7 a8:Fl} (h:aG [a0,a1,a2,a3,a4,a5,a6,a7,a8]=true):chk 3 3 [a0,a1,a2,a3,a4,a5,a6,a7,a8]=0:=kx.2 ⟨by decide,rfl,h⟩
set_option maxRecDepth 4000
theorem KG {b:Nat} (hb:W64 b) {s:Bool} (h:Ieee.double.read b=.infinity s):B8 (some b)=some 9218868437227405312:=by
 unfold Format.read at h;simp only[i5,sm,lQ]at h;unfold W64 at hb;split at h
 ·cases h
 ·split at h
  ·cases h
  ·split at h
   ·rename_i h1 h2 h3;show jF (b%9223372036854775808)=_;have:b%9223372036854775808=9218868437227405312:=by omega
    rw[this]; decide
   ·cases h
theorem P8 {N:Nat} {x:Fl} (hw:FW x) (o:Bool) (k:Bool->Bool):cond ((!feq x x)==false) (nG N x 0 (λcr=>cond cr (k true) (k o))) (k true)=k (o || !bC x):=by
 cases hf:bC x with
 | true=>rw[NW hf,Cb N hf hw]; cases o <;> rfl
 | false=>
  rw[Bool.not_false,Bool.or_true];cases x with
  | none=>rfl
  | some b=>
   cases hr:Ieee.double.read b with
   | number s m i=>rw[Qb hr]at hf; cases hf
   | nan s f=>
    have:feq (some b) (some b)=false:=by rw[R7,hr]; rfl
    rw[this]; rfl
   | infinity s=>
    have h1:feq (some b) (some b)=true:=by rw[R7,hr]; cases s <;> rfl
    rw[h1];show nG N (some b) 0 _=_
    (unfold nG; rw[ac]; unfold tP)
    rw[show((0:Int)==0)=true from rfl,cond_true];simp only[wZ];rw[KG (hw b rfl) hr];have h2:fgt (some 9218868437227405312) (some 9218868437227405311)=true:=by decide
    rw[h2,cond_true]
theorem A2 {N:Nat} {x:Fl} (hw:FW x) (o:Bool) (k:Bool->Bool):yZ N x o k=k (o || !bC x):=by
 (unfold yZ; rw[ac]; unfold MW)
 exact P8 hw o k
theorem zJ (N:Nat) (x y:Fl) (o:Bool) (k:Bool->Bool):yZ N (nl x y) o k=k (o || !bC (nl x y)):=A2 (Dq x y) o k
theorem zI (N:Nat) (x y:Fl) (o:Bool) (k:Fl->Bool->Bool):mN N x y o k=k (dU x y) (o || !bC (dU x y)):=by
 (unfold mN; rw[ac]; unfold rV)
 rw[A2 (PQ x y)]
theorem Xm {x y:Fl} (hx:bC x=true) (hy:Dv y):Nn (fdiv x y):=by
 obtain⟨a,s,m,i,rfl,ha⟩:=pA hx;obtain⟨b,rfl,hb⟩:=hy;show Nn (((Ieee.double.read a).quotient (Ieee.double.fractionBits+2) (Ieee.double.read b)).map Ieee.double.write);rw[ha];rcases hb with hb | ⟨n,j,hb,hn⟩
 ·rw[hb]; exact z7 _ _ _
 ·rw[hb]; simp only[Datum.quotient,if_neg hn]; exact z7 _ _ _
theorem zL {N n i j:Nat} (hn:n<=12) (hi:i<n) (hj:j<n) {l:List Fl} (h:l.length=n*n) (k:Fl->Bool):kt N n n l i j k=k (elt l n i j):=by obtain⟨h1,h2⟩:=cJ (by omega:n<=1000) hi hj;have h3:=f_ hi hj;unfold kt yg elt;rw[cI,aa h1,aa h2,h,Int.toNat_natCast,aa (ah (by omega) (by omega))]
theorem cd {N n i j:Nat} (hn:n<=12) (hi:i<n) (hj:j<n) {l:List Fl} (h:l.length=n*n) (k:Fl->Bool):jp N n n l i j k=k (elt l n i j):=by obtain⟨h1,h2⟩:=cJ (by omega:n<=1000) hi hj;have h3:=f_ hi hj;unfold jp RN elt;rw[cI,aa h1,aa h2,h,Int.toNat_natCast,aa (ah (by omega) (by omega))]
def lw (n:Nat) (l:List Fl):Bool:=zj (λi=>zj (λj=>decide (cn (elt l n i j)=cn (elt l n j i))) i) n
theorem zK {N n:Nat} (hN:1000<=N) (hn:n<=12) {l:List Fl} (h:l.length=n*n) (hf:aG l=true) (k:Bool->Bool):LJ N n n l k=k (lw n l):=by
 (unfold LJ; rw[ac]; unfold SP)
 rw[ga hN,vm hn h hf,show(((0:Int) != 0)==false)=true from rfl,cond_true];have:((n:Int) != (n:Int))=false:=by simp
 rw[this,cond_false];have hk:k (lw n l)=cond (lw n l) (k true) (k false):=by cases lw n l <;> rfl
 rw[hk];refine ny (λt:Nat=>(t:Int)) (λi=>zj (λj=>decide (cn (elt l n i j)=cn (elt l n j i))) i) n (by omega) ?_ ?_
 ·intro i hi K;unfold Et;dsimp only;rw[decide_eq_true (by omega:(i:Int)<(n:Int)),cond_true];refine(ny (λt:Nat=>(t:Int)) (λj=>decide (cn (elt l n i j)=cn (elt l n j i))) i (N:=N) (by omega) (ex:=k false) (out:=K (((i+1:Nat):Int))) ?_ ?_:_)
  ·intro j hj K';have hj2:j<n:=by omega
   unfold Eu;dsimp only;rw[decide_eq_true (by omega:(j:Int)<(i:Int)),cond_true,zL hn hi hj2 h,zL hn hj2 hi h];unfold Pq;dsimp only;by_cases he:cn (elt l n i j)=cn (elt l n j i)
   ·rw[decide_eq_true he,show(!true)=false from rfl,cond_false,cond_true,aa (ab (by omega) (by omega))];rfl
   ·rw[decide_eq_false he,show(!false)=true from rfl,cond_true,cond_false]
  ·intro K';unfold Eu;dsimp only;rw[decide_eq_false (by omega:¬(i:Int)<(i:Int)),cond_false,aa (ab (by omega) (by omega))];rfl
 ·intro K;unfold Et;dsimp only;rw[decide_eq_false (by omega:¬(n:Int)<(n:Int)),cond_false]
theorem Lk {N:Nat} (r c:Int) (n:Int) (k:Int->Bool):tz N r c n k=k (if (0<=r/\r<=12)/\(0<=c/\c<=12)then(if n=r*c then 0 else 3)else 1):=by
 (unfold tz; rw[ac]; unfold sc)
 by_cases h1:r<0
 ·rw[decide_eq_true h1,if_neg (by omega)]; rfl
 ·rw[decide_eq_false h1];by_cases h2:r>12
  ·rw[decide_eq_true h2,if_neg (by omega)]; rfl
  ·rw[decide_eq_false h2];by_cases h3:c<0
   ·rw[decide_eq_true h3,if_neg (by omega)]; rfl
   ·rw[decide_eq_false h3];by_cases h4:c>12
    ·rw[decide_eq_true h4,if_neg (by omega)]; rfl
    ·have hr:0<=r/\r<=12:=by omega
     have hc:0<=c/\c<=12:=by omega
     rw[decide_eq_false h4,if_pos ⟨hr,hc⟩,Re hr hc];by_cases h5:n=r*c
     ·have:(n != r*c)=false:=by simp[h5]
      rw[this,if_pos h5]; rfl
     ·have:(n != r*c)=true:=by simp[h5]
      rw[this,if_neg h5]; rfl
theorem pI {N:Nat} (hN:1000<=N) (r c:Int) (l:List Fl) (k:Int->Bool):l5 N r c l k=k (chk r c l):=by
 (unfold l5; rw[ac]; unfold va chk)
 rw[Lk];by_cases h1:(0<=r/\r<=12)/\(0<=c/\c<=12)
 ·rw[if_pos h1,if_pos h1];by_cases h2:(l.length:Int)=r*c
  ·have h3:=Jw h1.1 h1.2;have h6:l.length<=144:=by rw[<- h2]at h3; omega
   rw[if_pos h2,if_pos h2,show((0:Int) != 0)=false from rfl,cond_false,ph l ⟨by omega,by omega⟩];cases aG l <;> rfl
  ·rw[if_neg h2,if_neg h2]; rfl
 ·rw[if_neg h1,if_neg h1]; rfl
theorem A3 {N n:Nat} (hN:1000<=N) (hn:n<=12) {l:List Fl} (h:l.length=n*n) (hf:aG l=true) (k:Int->Bool):Iv N n n l k=k (if lw n l=true then 0 else 91):=by
 (unfold Iv; rw[ac]; unfold PW)
 rw[pI hN,vm hn h hf,show((0:Int) != 0)=false from rfl,cond_false];have:((n:Int) != (n:Int))=false:=by simp
 rw[this,cond_false];have hk:k (if lw n l=true then 0 else 91)=cond (lw n l) (k 0) (k 91):=by cases lw n l <;> rfl
 rw[hk];refine ny (λt:Nat=>(t:Int)) (λi=>zj (λj=>decide (cn (elt l n i j)=cn (elt l n j i))) i) n (by omega) ?_ ?_
 ·intro i hi K;unfold gk;dsimp only;rw[decide_eq_true (by omega:(i:Int)<(n:Int)),cond_true];refine(ny (λt:Nat=>(t:Int)) (λj=>decide (cn (elt l n i j)=cn (elt l n j i))) i (N:=N) (by omega) (ex:=k 91) (out:=K (((i+1:Nat):Int))) ?_ ?_:_)
  ·intro j hj K';have hj2:j<n:=by omega
   unfold gl;dsimp only;rw[decide_eq_true (by omega:(j:Int)<(i:Int)),cond_true,cd hn hi hj2 h,cd hn hj2 hi h,DW];by_cases he:cn (elt l n i j)=cn (elt l n j i)
   ·rw[decide_eq_true he,show(!true)=false from rfl,cond_false,cond_true,aa (ab (by omega) (by omega))];rfl
   ·rw[decide_eq_false he,show(!false)=true from rfl,cond_true,cond_false]
  ·intro K';unfold gl;dsimp only;rw[decide_eq_false (by omega:¬(i:Int)<(i:Int)),cond_false,aa (ab (by omega) (by omega))];rfl
 ·intro K;unfold gk;dsimp only;rw[decide_eq_false (by omega:¬(n:Int)<(n:Int)),cond_false]
theorem Ho {x:Fl} (h:bC x=true):cn x=x:=by obtain⟨b,rfl,hb⟩:=U4 h;simp only[cn,hb]; rfl
theorem IF {n:Nat} {l:List Fl} (h:l.length=n*n) (hf:aG l=true) (hs:lw n l=true):B7 n l:=by
 have key:∀ i j,j<i->i<n->elt l n i j=elt l n j i:=by
  intro i j hj hi;have h1:=ik.1 (ik.1 hs i hi) j hj;have h2:=of_decide_eq_true h1;have hj2:j<n:=by omega
  have e1:=f_ hi hj2;have e2:=f_ hj2 hi;rw[Ho (x:=elt l n i j) (lN hf (by omega)),Ho (x:=elt l n j i) (lN hf (by omega))]at h2;exact h2
 intro a b ha hb;show qP (ofE (elt l n a b))=qP (ofE (elt l n b a));rcases Nat.lt_trichotomy a b with h1 | h1 | h1
 ·rw[key b a h1 hb]
 ·rw[h1]
 ·rw[key a b h1 ha]
def rO (x:List Fl) (r c:Int) (l:List Fl):Int:=
 if chk r c l ≠ 0 then chk r c l else if r ≠ c then 3 else if (x.length:Int) ≠ r then 3 else if aG x=false then 4 else if lw r.toNat l=false then 150 else if pj r.toNat l=false then 151 else 0
theorem ug {x:List Fl} {r c:Int} {l:List Fl} (h:rO x r c l=0):∃ n:Nat,n<=12/\r=n/\c=n/\x.length=n/\l.length=n*n/\aG x=true/\aG l=true/\lw n l=true/\pj n l=true:=by
 unfold rO at h;split at h
 ·exact absurd h (by assumption)
 ·rename_i h0;have h0:chk r c l=0:=by simpa using h0
  have q:=kx.1 h0;split at h
  ·cases h
  ·rename_i h1;split at h
   ·cases h
   ·rename_i h2;split at h
    ·cases h
    ·rename_i h3;split at h
     ·cases h
     ·rename_i h4;split at h
      ·cases h
      ·rename_i h5;obtain⟨n,hn⟩:∃ n:Nat,r=n:=⟨r.toNat,by omega⟩
       have h1:r=c:=by simpa using h1
       subst hn;subst h1;rw[Int.toNat_natCast]at h4 h5;refine⟨n,by omega,rfl,rfl,by omega,by exact_mod_cast q.2.1,by simpa using h3,q.2.2,by simpa using h4,by simpa using h5⟩
theorem oS {N:Nat} (hF:Fuel N) (x:List Fl) (r c:Int) (l:List Fl) (hw:AllW l) (k:Int->Bool):mQ N x r c l k=k (rO x r c l):=by
 have hN:=hF.lt
 (unfold mQ; rw[ac]; unfold si; unfold zc; rw[ac]; unfold sj q_ vh rO)
 rw[pI (by omega)];dsimp only;by_cases h0:chk r c l=0
 ·have q:=kx.1 h0;rw[h0,if_neg (λh=>h rfl),show((0:Int) != 0)=false from rfl,cond_false];by_cases h1:r=c
  ·subst h1;have e1:((r != r)==false)=true:=by simp
   rw[if_neg (λh=>h rfl),e1,cond_true];obtain⟨n,hn⟩:∃ n:Nat,r=n:=⟨r.toNat,by omega⟩
   subst hn;by_cases h2:(x.length:Int)=n
   ·have e2:(((x.length:Nat):Int) != (n:Int))=false:=by simp[h2]
    have hl:l.length=n*n:=by exact_mod_cast q.2.1
    have hn12:n<=12:=by omega
    rw[e2,cond_false,if_neg (λh=>h h2),ph x ⟨by omega,by omega⟩];cases h3:aG x
    ·rfl
    ·rw[show(!true)=false from rfl,cond_false,if_neg (by decide),A3 (by omega) hn12 hl q.2.2,Int.toNat_natCast];cases h4:lw n l
     ·rfl
     ·rw[if_pos rfl,show((0:Int) != 0)=false from rfl,cond_false,cond_false,if_neg (by decide),no hF hn12 hl q.2.2 hw (IF hl q.2.2 h4)];cases pj n l <;> rfl
   ·have e2:(((x.length:Nat):Int) != (n:Int))=true:=by simp[h2]
    rw[e2,cond_true,if_pos h2]; rfl
  ·have e1:((r != c)==false)=false:=by simp[h1]
   rw[e1,cond_false,if_pos h1]; rfl
 ·have e0:(chk r c l != 0)=true:=by simp[h0]
  rw[e0,cond_true,if_pos h0];rfl
theorem lG {N:Nat} (x:Fl) (o:Bool) (k:Bool->Bool):lI N x o k=k (o || !bC x):=by
 (unfold lI; rw[ac]; unfold Mi)
 cases o
 ·rw[show(false==false)=true from rfl,cond_true,sK]; rfl
 ·rfl
theorem Vv {l:List Int} (h:∀ z,z ∈ l->z.toNat<18446744073709551616):AllW (xQ l):=by intro x hx;unfold xQ at hx;obtain⟨z,hz,rfl⟩:=List.mem_map.1 hx;exact Nw (h z hz)
def mf (n:Nat) (f:Nat->Nat->Fl):List Fl:=(List.range (n*n)).map (λt=>f (t / n) (t%n))
theorem bD (n:Nat) (f:Nat->Nat->Fl):(mf n f).length=n*n:=by unfold mf; rw[List.length_map,List.length_range]
theorem wL (n:Nat) (f:Nat->Nat->Fl) {i j:Nat} (hi:i<n) (hj:j<n) (z:Fl):(mf n f).getD (i*n+j) z=f i j:=by have h:=ma hi hj;unfold mf;rw[List.getD_eq_getElem?_getD,List.getElem?_map,List.getElem?_range h];simp only[Option.map_some,Option.getD_some,zF hj,zG hj]
theorem ju (n:Nat) (f:Nat->Nat->Fl) {i j:Nat} (hi:i<n) (hj:j<n):elt (mf n f) n i j=f i j:=wL n f hi hj none
theorem bu (n:Nat) {f f':Nat->Nat->Fl} (h:∀ a b,a<n->b<n->f a b=f' a b):mf n f=mf n f':=by
 unfold mf;apply List.map_congr_left;intro t ht;have ht:=List.mem_range.1 ht;have hn:0<n:=by
  rcases Nat.eq_zero_or_pos n with h0 | h0
  ·rw[h0]at ht; omega
  ·exact h0
 rw[h _ _ (Nat.div_lt_of_lt_mul ht) (Nat.mod_lt _ hn)]
theorem sL (n:Nat) (f:Nat->Nat->Fl) {i j:Nat} (hi:i<n) (hj:j<n) (v:Fl):(mf n f).set (i*n+j) v=mf n (λa b=>if a=i/\b=j then v else f a b):=by
 have h:=ma hi hj;apply List.ext_getElem?;intro t;by_cases ht:t<n*n
 ·have hn:0<n:=by omega
  rw[List.getElem?_set];unfold mf;rw[List.getElem?_map,List.getElem?_map,List.getElem?_range ht];simp only[List.length_map,List.length_range,Option.map_some];by_cases he:i*n+j=t
  ·rw[if_pos he,if_pos h,<- he,zF hj,zG hj,if_pos ⟨rfl,rfl⟩]
  ·rw[if_neg he];have:¬(t / n=i/\t%n=j):=by rintro ⟨h1,h2⟩;apply he;rw[<- h1,<- h2,Nat.mul_comm];exact Nat.div_add_mod t n
   rw[if_neg this]
 ·rw[List.getElem?_eq_none (by rw[List.length_set,bD]; omega),List.getElem?_eq_none (by rw[bD]; omega)]
theorem zP (n:Nat):List.replicate (n*n) (some 0)=mf n (λ_ _=>some 0):=by
 apply List.ext_getElem?;intro t;unfold mf;rw[List.getElem?_map,List.getElem?_replicate];by_cases ht:t<n*n
 ·rw[if_pos ht,List.getElem?_range ht]; rfl
 ·rw[if_neg ht,List.getElem?_eq_none (by rw[List.length_range]; omega)]; rfl
theorem D4 (n:Nat) (f:Nat->Nat->Fl) {i j:Nat} (hi:i<n) (hj:j<n):(mf n f).take (i*n+j)++[f i j]=(mf n f).take (i*n+j+1):=by
 have h:=ma hi hj;have hl:i*n+j<(mf n f).length:=by rw[bD]; exact h
 rw[List.take_succ_eq_append_getElem hl];have:=wL n f hi hj none;rw[List.getD_eq_getElem?_getD,List.getElem?_eq_getElem hl]at this;rw[<- this]; rfl
def vf (n:Nat) (g:Nat->Fl):List Fl:=(List.range n).map g
theorem aW (n:Nat) (g:Nat->Fl):(vf n g).length=n:=by unfold vf; rw[List.length_map,List.length_range]
theorem eS (n:Nat) (g:Nat->Fl) {i:Nat} (hi:i<n) (z:Fl):(vf n g).getD i z=g i:=by unfold vf;rw[List.getD_eq_getElem?_getD,List.getElem?_map,List.getElem?_range hi]; rfl
theorem rh (n:Nat) (g:Nat->Fl) {i:Nat} (hi:i<n):(vf n g).take i++[g i]=(vf n g).take (i+1):=by
 have hl:i<(vf n g).length:=by rw[aW]; exact hi
 rw[List.take_succ_eq_append_getElem hl];have:=eS n g hi none;rw[List.getD_eq_getElem?_getD,List.getElem?_eq_getElem hl]at this;rw[<- this]; rfl
theorem J5 (n:Nat) (g:Nat->Fl) {i:Nat} (hi:i<n):((vf n g).take i++List.replicate (n - i) (some 0)).set i (g i)=(vf n g).take (i+1)++List.replicate (n - (i+1)) (some 0):=by have:=Fu (vf n g) (some 0) (t:=i) (by rw[aW]; exact hi);rw[aW,eS n g hi]at this;exact this
theorem zi (n:Nat) (g:Nat->Fl) {i:Nat} (hi:i<=n):((vf n g).take i++List.replicate (n - i) (some 0)).length=n:=by have:=Ft (vf n g) (some 0) (t:=i) (by rw[aW]; exact hi);rw[aW]at this;exact this
def dV (f g:Nat->Fl):Nat->Fl
 | 0=>some 0
 | t+1=>nl (dV f g t) (dU (f t) (g t))
def dO (f g:Nat->Fl):Nat->Bool
 | 0=>false
 | t+1=>(dO f g t || !bC (dU (f t) (g t))) || !bC (dV f g (t+1))
def orB (p:Nat->Bool):Nat->Bool
 | 0=>false
 | t+1=>orB p t||p t
theorem nD {p:Nat->Bool}:∀{n:Nat},orB p n=false -> ∀ i,i<n->p i=false
 | 0,_,i,hi=>by omega
 | n+1,h,i,hi=>by
  unfold orB at h;rw[Bool.or_eq_false_iff]at h;rcases Nat.lt_or_ge i n with h1 | h1
  ·exact nD h.1 i h1
  ·rw[show i=n by omega]; exact h.2
theorem NG {f g:Nat->Fl}:∀{n:Nat},dO f g n=false->bC (dV f g n)=true
 | 0,_=>rfl
 | n+1,h=>by unfold dO at h;rw[Bool.or_eq_false_iff]at h;simpa using h.2
theorem qq (o:Bool) (f g:Nat->Fl) (t:Nat):((o||dO f g t) || !bC (dU (f t) (g t)) || !bC (nl (dV f g t) (dU (f t) (g t))))=(o||dO f g (t+1)):=by show _=(o||((dO f g t || !bC (dU (f t) (g t))) || !bC (nl (dV f g t) (dU (f t) (g t)))));simp only[Bool.or_assoc]
theorem kO (o:Bool):(o||false)=o:=by cases o <;> rfl
theorem Og {N n:Nat} (hN:1000<=N) (hn:n<=100) {a b:List Fl} {f g:Nat->Fl} (ha:a.length=n) (hb:n<=b.length) (hbs:b.length<=1000) (hf:∀ i,i<n->a.getD i none=f i) (hg:∀ i,i<n->b.getD i none=g i) (o:Bool) (k:Fl->Bool->Bool) :
  Df N a b o k=k (dV f g n) (o||dO f g n):=by
 (unfold Df; rw[ac]; unfold IM)
 have h0:((some 0,0,o):Fl × Int × Bool)=(λt:Nat=>(dV f g t,(t:Int),o||dO f g t)) 0:=by show _=(some 0,((0:Nat):Int),o||false); rw[kO]; rfl
 rw[h0];refine ax (λt:Nat=>(dV f g t,(t:Int),o||dO f g t)) n (by omega) ?_ ?_
 ·intro t ht K;unfold fF;dsimp only;rw[decide_eq_true (by omega:(t:Int)<(a.length:Int)),cond_true,aa (ah (by omega) (by omega)),aa (ah (by omega) (by omega)),Int.toNat_natCast,hf t ht,hg t ht,zI,zJ,aa (ab (by omega) (by omega)),qq];rfl
 ·intro K;unfold fF;dsimp only;rw[decide_eq_false (by omega:¬(n:Int)<(a.length:Int)),cond_false]
theorem KO {N n:Nat} (hN:1000<=N) (hn:n<=100) {a b:List Fl} {f g:Nat->Fl} (ha:a.length=n) (hb:n<=b.length) (hbs:b.length<=1000) (hf:∀ i,i<n->a.getD i none=f i) (hg:∀ i,i<n->b.getD i none=g i) (o:Bool) (k:Fl->Bool->Bool) :
  Pk N a o b k=k (dV f g n) (o||dO f g n):=by
 (unfold Pk; rw[ac]; unfold MZ)
 have h0:((some 0,0,o):Fl × Int × Bool)=(λt:Nat=>(dV f g t,(t:Int),o||dO f g t)) 0:=by show _=(some 0,((0:Nat):Int),o||false); rw[kO]; rfl
 rw[h0];refine ax (λt:Nat=>(dV f g t,(t:Int),o||dO f g t)) n (by omega) ?_ ?_
 ·intro t ht K;unfold i8;dsimp only;rw[decide_eq_true (by omega:(t:Int)<(a.length:Int)),cond_true,aa (ah (by omega) (by omega)),aa (ah (by omega) (by omega)),Int.toNat_natCast,aa (decide_eq_true (by omega)),hf t ht,hg t ht,zI,zJ,aa (ab (by omega) (by omega)),qq];rfl
 ·intro K;unfold i8;dsimp only;rw[decide_eq_false (by omega:¬(n:Int)<(a.length:Int)),cond_false]
theorem KN {N n s:Nat} (hN:1000<=N) (hn:n<=100) {a b:List Fl} {f g:Nat->Fl} (ha:s+n<=a.length) (hb:n<=b.length) (hbs:b.length<=1000) (hf:∀ i,i<n->a.getD (s+i) none=f i) (hg:∀ i,i<n->b.getD i none=g i) (o:Bool) (k:Fl->Bool->Bool) :
  Pj N s n b o a k=k (dV f g n) (o||dO f g n):=by
 (unfold Pj; rw[ac]; unfold MY)
 have h0:((some 0,0,o):Fl × Int × Bool)=(λt:Nat=>(dV f g t,(t:Int),o||dO f g t)) 0:=by show _=(some 0,((0:Nat):Int),o||false); rw[kO]; rfl
 rw[h0];refine ax (λt:Nat=>(dV f g t,(t:Int),o||dO f g t)) n (by omega) ?_ ?_
 ·intro t ht K;unfold i7;dsimp only;rw[decide_eq_true (by omega:(t:Int)<(n:Int)),cond_true,aa (ah (by omega) (by omega)),Int.toNat_natCast,aa (decide_eq_true (by omega)),aa (ah (by omega) (by omega)),hf t ht,hg t ht,zI,zJ,aa (ab (by omega) (by omega)),qq];rfl
 ·intro K;unfold i7;dsimp only;rw[decide_eq_false (by omega:¬(n:Int)<(n:Int)),cond_false]
theorem CY {N n:Nat} (hN:1000<=N) (hn:n<=100) {a b:List Fl} {f g:Nat->Fl} (ha:a.length=n) (hb:n<=b.length) (hbs:b.length<=1000) (hf:∀ i,i<n->a.getD i none=f i) (hg:∀ i,i<n->b.getD i none=g i) (o:Bool) (k:Fl->Bool->Bool) :
  Bx N a b o k=k (dV f g n) (o||dO f g n):=by
 (unfold Bx; rw[ac]; unfold IL)
 have h0:((some 0,0,o):Fl × Int × Bool)=(λt:Nat=>(dV f g t,(t:Int),o||dO f g t)) 0:=by show _=(some 0,((0:Nat):Int),o||false); rw[kO]; rfl
 rw[h0];refine ax (λt:Nat=>(dV f g t,(t:Int),o||dO f g t)) n (by omega) ?_ ?_
 ·intro t ht K;unfold fG;dsimp only;rw[decide_eq_true (by omega:(t:Int)<(a.length:Int)),cond_true,aa (ah (by omega) (by omega)),aa (ah (by omega) (by omega)),Int.toNat_natCast,hf t ht,hg t ht,lG,lG,aa (ab (by omega) (by omega)),qq];rfl
 ·intro K;unfold fG;dsimp only;rw[decide_eq_false (by omega:¬(n:Int)<(a.length:Int)),cond_false]
theorem H3 {N n s:Nat} (hN:1000<=N) (hn:n<=100) {a b:List Fl} {f g:Nat->Fl} (ha:s+n<=a.length) (hb:n<=b.length) (hbs:b.length<=1000) (hf:∀ i,i<n->a.getD (s+i) none=f i) (hg:∀ i,i<n->b.getD i none=g i) (o:Bool) (k:Fl->Bool->Bool) :
  Pm N s n b o a k=k (dV f g n) (o||dO f g n):=by
 (unfold Pm; rw[ac]; unfold M3)
 have h0:((some 0,0,o):Fl × Int × Bool)=(λt:Nat=>(dV f g t,(t:Int),o||dO f g t)) 0:=by show _=(some 0,((0:Nat):Int),o||false); rw[kO]; rfl
 rw[h0];refine ax (λt:Nat=>(dV f g t,(t:Int),o||dO f g t)) n (by omega) ?_ ?_
 ·intro t ht K;unfold jf;dsimp only;rw[decide_eq_true (by omega:(t:Int)<(n:Int)),cond_true,aa (ah (by omega) (by omega)),Int.toNat_natCast,aa (decide_eq_true (by omega)),aa (ah (by omega) (by omega)),hf t ht,hg t ht,lG,lG,aa (ab (by omega) (by omega)),qq];rfl
 ·intro K;unfold jf;dsimp only;rw[decide_eq_false (by omega:¬(n:Int)<(n:Int)),cond_false]
def Gl (l:List Fl) (n i:Nat):List Fl:=List.drop (i*n) (List.take ((i+1)*n) l)
theorem Ed {n i:Nat} (hi:i<n):(i+1)*n<=n*n:=Nat.mul_le_mul_right _ hi
theorem jN {l:List Fl} {n i:Nat} (h:l.length=n*n) (hi:i<n):(Gl l n i).length=n:=by have:=Ed hi;unfold Gl;rw[List.length_drop,List.length_take,h,Nat.min_eq_left this,Nat.add_mul]; omega
theorem kp {l:List Fl} {n i j:Nat} (h:l.length=n*n) (hi:i<n) (hj:j<n):(Gl l n i).getD j none=elt l n i j:=by
 unfold Gl elt;have h1:(i+1)*n=i*n+n:=by rw[Nat.add_mul]; omega
 rw[List.getD_eq_getElem?_getD,List.getElem?_drop,List.getElem?_take,if_pos (by omega),List.getD_eq_getElem?_getD]
theorem nF {n i:Nat} (hn:n<=100) (hi:i<n) {L:Nat} (hL:L=n*n):af .i64 ((i:Int)*(n:Int))=true/\af .i64 ((i:Int)+1)=true/\af .i64 (((i:Int)+1)*(n:Int))=true/\decide (0<=(i:Int)*(n:Int)/\(i:Int)*(n:Int)<=((i:Int)+1)*(n:Int)/\((i:Int)+1)*(n:Int)<=(L:Int))=true/\Int.toNat ((i:Int)*(n:Int))=i*n/\Int.toNat (((i:Int)+1)*(n:Int))=(i+1)*n:=by
 have h1:=Ed hi;have h2:n*n<=100*100:=Nat.mul_le_mul hn hn;have e1:(i:Int)*(n:Int)=((i*n:Nat):Int):=by rw[Int.natCast_mul]
 have e2:((i:Int)+1)*(n:Int)=(((i+1)*n:Nat):Int):=by rw[Int.natCast_mul]; rfl
 have h3:(i+1)*n=i*n+n:=by rw[Nat.add_mul]; omega
 rw[e1,e2];exact⟨ab (by omega) (by omega),ab (by omega) (by omega),ab (by omega) (by omega),decide_eq_true ⟨by omega,by omega,by omega⟩,Int.toNat_natCast _,Int.toNat_natCast _⟩
theorem DY {N n i:Nat} (hn:n<=100) (hi:i<n) {l:List Fl} (h:l.length=n*n) (k:List Fl->Bool):kY N n n l i k=k (Gl l n i):=by
 obtain⟨a,b,c,d,e,f⟩:=nF hn hi h
 (unfold kY; rw[ac]; unfold qe)
 rw[aa a,aa b,aa c,aa d,e,f];rfl
theorem Ba {N n i:Nat} (hn:n<=100) (hi:i<n) {l:List Fl} (h:l.length=n*n) (k:List Fl->Bool):ku N n n l i k=k (Gl l n i):=by
 obtain⟨a,b,c,d,e,f⟩:=nF hn hi h
 (unfold ku; rw[ac]; unfold tS)
 rw[aa a,aa b,aa c,aa d,e,f];rfl
theorem JF (n i:Nat):(i+1)*n - i*n=n:=by rw[Nat.add_mul]; omega
theorem OL {N n i:Nat} (hn:n<=100) (hi:i<n) {l:List Fl} (h:l.length=n*n) (k:Nat->Nat->Bool):om N n n i l k=k (i*n) n:=by
 obtain⟨a,b,c,d,e,f⟩:=nF hn hi h
 (unfold om; rw[ac]; unfold nN)
 rw[aa a,aa b,aa c,aa d,e,f,JF]
theorem Lf {N n i:Nat} (hn:n<=100) (hi:i<n) {l:List Fl} (h:l.length=n*n) (k:Nat->Nat->Bool):tA N n n i l k=k (i*n) n:=by
 obtain⟨a,b,c,d,e,f⟩:=nF hn hi h
 (unfold tA; rw[ac]; unfold se)
 rw[aa a,aa b,aa c,aa d,e,f,JF]
theorem QD {N n j:Nat} (hN:1000<=N) (hn:n<=100) (hj:j<n) {l:List Fl} (h:l.length=n*n) (k:List Fl->Bool):qX N n n l j k=k (vf n (λt=>elt l n t j)):=by
 (unfold qX; rw[ac]; unfold qb)
 have hn2:n*n<=100*100:=Nat.mul_le_mul hn hn;rw[Int.toNat_natCast,List.length_replicate,aa (bE (by omega) (by omega) (by omega) (by omega))];have h0:List.replicate n (some 0)=(vf n (λt=>elt l n t j)).take 0++List.replicate (n - 0) (some 0):=rfl;rw[h0];refine ax (λt:Nat=>((t:Int),(vf n (λt=>elt l n t j)).take t++List.replicate (n - t) (some 0))) n (by omega) ?_ ?_
 ·intro t ht K;unfold j4;dsimp only;obtain⟨h1,h2⟩:=cJ (by omega:n<=1000) ht hj;have h3:=f_ ht hj;have hl:=zi n (λt=>elt l n t j) (i:=t) (by omega);have hs:=J5 n (λt=>elt l n t j) ht;generalize List.take t (vf n λt=>elt l n t j)++List.replicate (n - t) (some 0)=L at *;rw[decide_eq_true (by omega:(t:Int)<(n:Int)),cond_true,cI,aa h1,aa h2,aa (ah (by omega) (by omega)),aa (ah (by omega) (by omega)),Int.toNat_natCast,aa (decide_eq_true (by omega)),aa (ab (by omega) (by omega)),Int.toNat_natCast];exact congrArg (λl=>K ((t:Int)+1,l)) hs
 ·intro K;unfold j4;dsimp only;rw[decide_eq_false (by omega:¬(n:Int)<(n:Int)),cond_false,Nat.sub_self,List.replicate_zero,List.append_nil,List.take_of_length_le (by rw[aW]; omega)]
theorem OI {N n j:Nat} (hN:1000<=N) (hn:n<=12) (hj:j<n) {l:List Fl} (h:l.length=n*n) (k:List Fl->Bool):De N n n l j k=k (vf n (λt=>elt l n t j)):=by
 (unfold De; rw[ac]; unfold IJ)
 have h0:([]:List Fl)=(vf n (λt=>elt l n t j)).take 0:=rfl;rw[h0];refine ax (λt:Nat=>((t:Int),(vf n (λt=>elt l n t j)).take t)) n (by omega) ?_ ?_
 ·intro t ht K;unfold yc;dsimp only;rw[decide_eq_true (by omega:(t:Int)<(n:Int)),cond_true,cd hn ht hj h,rh n (λt=>elt l n t j) ht,aa (decide_eq_true (by rw[List.length_take,aW]; omega)),aa (ab (by omega) (by omega))];rfl
 ·intro K;unfold yc;dsimp only;rw[decide_eq_false (by omega:¬(n:Int)<(n:Int)),cond_false,List.take_of_length_le (by rw[aW]; omega)]
theorem mb {N n i j:Nat} (hn:n<=12) (hi:i<n) (hj:j<n) (f:Nat->Nat->Fl) (x:Fl) (k:List Fl->Bool):rH N n n i j x (mf n f) k=k (mf n (λa b=>if a=i/\b=j then x else f a b)):=by obtain⟨h1,h2⟩:=cJ (by omega:n<=1000) hi hj;have h3:=f_ hi hj;unfold rH RJ;rw[cI,aa h1,aa h2,bD,Int.toNat_natCast,aa (ah (by omega) (by omega)),aa (decide_eq_true h3),sL n f hi hj]
theorem lS {N n:Nat} (hn:n<=12) (k:List Fl->Bool):wV N n n k=k (mf n (λ_ _=>some 0)):=by have h2:n*n<=144:=rE hn;unfold wV RS;rw[<- Int.natCast_mul,aa (ab (by omega) (by omega)),aa (bE (by omega) (by omega) (by omega) (by omega)),Int.toNat_natCast,zP]
def prV (n:Nat) (f p:List Fl):Nat->Nat->Fl:=λi j=>dV (λt=>elt f n i t) (λt=>elt p n t j) n
def prO (n:Nat) (f p:List Fl):Nat->Nat->Bool:=λi j=>dO (λt=>elt f n i t) (λt=>elt p n t j) n
def orM (n:Nat) (p:Nat->Nat->Bool):Bool:=orB (λi=>orB (λj=>p i j) n) n
theorem iX (o:Bool) (p:Nat->Bool) (t:Nat):((o||orB p t)||p t)=(o||orB p (t+1)):=by show _=(o||(orB p t||p t)); rw[Bool.or_assoc]
theorem BT (n:Nat) (f:Nat->Nat->Fl):(mf n f).take (n*n)=mf n f:=List.take_of_length_le (by rw[bD]; omega)
theorem tg (n i:Nat):i*n+n=(i+1)*n:=by rw[Nat.add_mul]; omega
theorem FZ {N n:Nat} (hN:1000<=N) (hn:n<=12) {f p:List Fl} (hf:f.length=n*n) (hp:p.length=n*n) (o:Bool) (k:Bool->List Fl->Bool) :
  jv N n n f n n p o k=k (o||orM n (prO n f p)) (mf n (prV n f p)):=by
 (unfold jv; rw[ac]; unfold jq)
 have hn2:n*n<=144:=rE hn;have h0:((0,o,[]):Int × Bool × List Fl)=(λi:Nat=>((i:Int),o||orB (λi=>orB (λj=>prO n f p i j) n) i,(mf n (prV n f p)).take (i*n))) 0:=by show _=(((0:Nat):Int),o||false,List.take (0*n) _); rw[kO,Nat.zero_mul]; rfl
 rw[h0];refine ax (λi:Nat=>((i:Int),o||orB (λi=>orB (λj=>prO n f p i j) n) i,(mf n (prV n f p)).take (i*n))) n (by omega) ?_ ?_
 ·intro i hi K;unfold dk;dsimp only;rw[decide_eq_true (by omega:(i:Int)<(n:Int)),cond_true];generalize ho1:(o||orB (λi=>orB (λj=>prO n f p i j) n) i)=o1;have h1:((0,o1,(mf n (prV n f p)).take (i*n)):Int × Bool × List Fl)=(λj:Nat=>((j:Int),o1||orB (λj=>prO n f p i j) j,(mf n (prV n f p)).take (i*n+j))) 0:=by show _=(((0:Nat):Int),o1||false,List.take (i*n+0) _); rw[kO]; rfl
  rw[h1];refine(ax (λj:Nat=>((j:Int),o1||orB (λj=>prO n f p i j) j,(mf n (prV n f p)).take (i*n+j))) n (N:=N) (by omega) (out:=K ((((i+1:Nat)):Int),o||orB (λi=>orB (λj=>prO n f p i j) n) (i+1),(mf n (prV n f p)).take ((i+1)*n))) ?_ ?_:_)
  ·intro j hj K';have hij:=f_ hi hj;unfold dm;dsimp only;rw[decide_eq_true (by omega:(j:Int)<(n:Int)),cond_true,DY (by omega) hi hf,QD hN (by omega) hj hp,
    KO (n:=n) (f:=λt=>elt f n i t) (g:=λt=>elt p n t j) hN (by omega) (jN hf hi) (by rw[aW]; omega) (by rw[aW]; omega) (λt ht=>kp hf hi ht) (λt ht=>eS n _ ht none)]
   have e:dV (λt=>elt f n i t) (λt=>elt p n t j) n=prV n f p i j:=rfl;have e2:dO (λt=>elt f n i t) (λt=>elt p n t j) n=prO n f p i j:=rfl;rw[e,e2,D4 n (prV n f p) hi hj,aa (decide_eq_true (by rw[List.length_take,bD]; omega)),aa (ab (by omega) (by omega)),iX o1 (λj=>prO n f p i j) j];rfl
  ·intro K';unfold dm;dsimp only;rw[decide_eq_false (by omega:¬(n:Int)<(n:Int)),cond_false,aa (ab (by omega) (by omega)),<- ho1,tg,iX o (λi=>orB (λj=>prO n f p i j) n) i];rfl
 ·intro K;unfold dk;dsimp only;rw[decide_eq_false (by omega:¬(n:Int)<(n:Int)),cond_false,BT];rfl
def rS (g:Nat->Nat->Fl) (i j:Nat):Nat->Nat->Fl:=λa b=>if a<i\/(a=i/\b<j)then g a b else some 0
theorem JC (n:Nat) (g:Nat->Nat->Fl):mf n (λ_ _=>some 0)=mf n (rS g 0 0):=bu n (λa b _ _=>by unfold rS; rw[if_neg (by omega)])
theorem VB (n:Nat) (g:Nat->Nat->Fl) (i:Nat):mf n (rS g i n)=mf n (rS g (i+1) 0):=bu n (λa b _ hb=>by
 unfold rS;by_cases h2:a<i\/(a=i/\b<n)
 ·rw[if_pos h2,if_pos (by omega)]
 ·rw[if_neg h2,if_neg (by omega)])
theorem OZ (n:Nat) (g:Nat->Nat->Fl):mf n (rS g n 0)=mf n g:=bu n (λa b ha _=>by unfold rS; rw[if_pos (.inl ha)])
theorem JB (n:Nat) (g:Nat->Nat->Fl) (i j:Nat):mf n (λa b=>if a=i/\b=j then g i j else rS g i j a b)=mf n (rS g i (j+1)):=bu n (λa b _ _=>by
 unfold rS;by_cases h:a=i/\b=j
 ·rw[if_pos h,if_pos (by omega),h.1,h.2]
 ·rw[if_neg h];by_cases h2:a<i\/(a=i/\b<j)
  ·rw[if_pos h2,if_pos (by omega)]
  ·rw[if_neg h2,if_neg (by omega)])
def mir (v:Nat->Nat->Fl):Nat->Nat->Fl:=λa b=>if b<=a then v a b else v b a
def mS (v:Nat->Nat->Fl) (i j:Nat):Nat->Nat->Fl:=λa b=>if max a b<i\/(max a b=i/\min a b<j)then mir v a b else some 0
theorem zN (n:Nat) (v:Nat->Nat->Fl):mf n (λ_ _=>some 0)=mf n (mS v 0 0):=bu n (λa b _ _=>by unfold mS; rw[if_neg (by omega)])
theorem D3 (n:Nat) (v:Nat->Nat->Fl) (i:Nat):mf n (mS v i (i+1))=mf n (mS v (i+1) 0):=bu n (λa b _ hb=>by
 unfold mS;by_cases h2:max a b<i\/(max a b=i/\min a b<i+1)
 ·rw[if_pos h2,if_pos (by omega)]
 ·rw[if_neg h2,if_neg (by omega)])
theorem D2 (n:Nat) (v:Nat->Nat->Fl):mf n (mS v n 0)=mf n (mir v):=bu n (λa b ha hb=>by unfold mS; rw[if_pos (by omega)])
theorem zM (n:Nat) (v:Nat->Nat->Fl) {i j:Nat} (hj:j<i+1):mf n (λa b=>if a=j/\b=i then v i j else if a=i/\b=j then v i j else mS v i j a b)=mf n (mS v i (j+1)):=bu n (λa b _ _=>by
 unfold mS mir;by_cases h:a=j/\b=i
 ·rw[if_pos h,h.1,h.2,if_pos (by omega:max j i<i\/(max j i=i/\min j i<j+1))];by_cases hij:i<=j
  ·rw[if_pos hij,show j=i by omega]
  ·rw[if_neg hij]
 ·rw[if_neg h];by_cases h1:a=i/\b=j
  ·rw[if_pos h1,h1.1,h1.2,if_pos (by omega:max i j<i\/(max i j=i/\min i j<j+1)),if_pos (by omega:j<=i)]
  ·rw[if_neg h1];by_cases h2:max a b<i\/(max a b=i/\min a b<j)
   ·rw[if_pos h2,if_pos (by omega:max a b<i\/(max a b=i/\min a b<j+1))]
   ·rw[if_neg h2,if_neg (by omega:¬(max a b<i\/(max a b=i/\min a b<j+1)))])
def nwV (n:Nat) (M:Nat->Nat->Fl) (f q:List Fl):Nat->Nat->Fl:=λi j=>nl (dV (λt=>M i t) (λt=>elt f n j t) n) (elt q n i j)
def nwO (n:Nat) (M:Nat->Nat->Fl) (f q:List Fl):Nat->Nat->Bool:=λi j=>dO (λt=>M i t) (λt=>elt f n j t) n || !bC (nwV n M f q i j)
def orL (n:Nat) (p:Nat->Nat->Bool):Bool:=orB (λi=>orB (λj=>p i j) (i+1)) n
theorem DS {N n:Nat} (hN:1000<=N) (hn:n<=12) {f q:List Fl} (M:Nat->Nat->Fl) (hf:f.length=n*n) (hq:q.length=n*n) (o:Bool) (k:Bool->List Fl->Bool) :
  dM N n n n n n f n n q n o (mf n M) k=k (o||orL n (nwO n M f q)) (mf n (mir (nwV n M f q))):=by
 have hn2:n*n<=144:=rE hn
 (unfold dM; rw[ac]; unfold dK)
 rw[<- Int.natCast_mul,aa (ab (by omega) (by omega)),aa (bE (by omega) (by omega) (by omega) (by omega)),Int.toNat_natCast,zP];generalize hv:nwV n M f q=v;generalize hw:nwO n M f q=w;rw[zN n v];have h0:((0,o,mf n (mS v 0 0)):Int × Bool × List Fl)=(λi:Nat=>((i:Int),o||orB (λi=>orB (λj=>w i j) (i+1)) i,mf n (mS v i 0))) 0:=by show _=(((0:Nat):Int),o||false,_); rw[kO]; rfl
 rw[h0];refine ax (λi:Nat=>((i:Int),o||orB (λi=>orB (λj=>w i j) (i+1)) i,mf n (mS v i 0))) n (by omega) ?_ ?_
 ·intro i hi K;unfold bX;dsimp only;rw[decide_eq_true (by omega:(i:Int)<(n:Int)),cond_true,aa (ab (by omega) (by omega))];generalize ho1:(o||orB (λi=>orB (λj=>w i j) (i+1)) i)=o1;have h1:((0,o1,mf n (mS v i 0)):Int × Bool × List Fl)=(λj:Nat=>((j:Int),o1||orB (λj=>w i j) j,mf n (mS v i j))) 0:=by show _=(((0:Nat):Int),o1||false,_); rw[kO]; rfl
  rw[h1];refine(ax (λj:Nat=>((j:Int),o1||orB (λj=>w i j) j,mf n (mS v i j))) (i+1) (N:=N) (by omega) (out:=K ((((i+1:Nat)):Int),o||orB (λi=>orB (λj=>w i j) (i+1)) (i+1),mf n (mS v (i+1) 0))) ?_ ?_:_)
  ·intro j hj K';have hj2:j<n:=by omega
   obtain⟨g1,g2⟩:=cJ (by omega:n<=1000) hi hj2;obtain⟨g3,g4⟩:=cJ (by omega:n<=1000) hj2 hi;have g5:=f_ hi hj2;have g6:=f_ hj2 hi;have g7:i*n+n<=n*n:=by rw[tg]; exact Ed hi
   (unfold bZ; unfold dr; rw[ac]; unfold bQ)
   dsimp only;rw[decide_eq_true (by omega:(j:Int)<(i:Int)+1),cond_true,OL (by omega) hi (bD n M),DY (by omega) hj2 hf,
    KN (n:=n) (f:=λt=>M i t) (g:=λt=>elt f n j t) hN (by omega) (by rw[bD]; omega) (by rw[jN hf hj2]; omega) (by rw[jN hf hj2]; omega) (λt ht=>wL n M hi ht none) (λt ht=>kp hf hj2 ht),
    aa g1,cI,aa g2,hq,aa (ah (by omega) (by omega)),Int.toNat_natCast,zJ,aa g3,cI,aa g4,bD,aa (ah (by omega) (by omega)),aa (decide_eq_true g5)]
   have e:nl (dV (λt=>M i t) (λt=>elt f n j t) n) (q.getD (i*n+j) none)=v i j:=by rw[<- hv]; rfl
   rw[e,Int.toNat_natCast,sL n _ hi hj2,bD,aa (ah (by omega) (by omega)),aa (decide_eq_true g6),sL n _ hj2 hi,aa (ab (by omega) (by omega))];have e2:((o1||orB (λj=>w i j) j)||dO (λt=>M i t) (λt=>elt f n j t) n || !bC (v i j))=(o1||orB (λj=>w i j) (j+1)):=by rw[<- iX o1 (λj=>w i j) j,<- hw,<- hv,Bool.or_assoc]; rfl
   rw[e2];rw[zM n v hj,aa g2,aa (ab (by omega) (by omega))];rfl
  ·intro K';unfold bZ;dsimp only;rw[decide_eq_false (by omega:¬((i+1:Nat):Int)<(i:Int)+1),cond_false,aa (ab (by omega) (by omega)),<- ho1,D3,iX o (λi=>orB (λj=>w i j) (i+1)) i];rfl
 ·intro K;unfold bX;dsimp only;rw[decide_eq_false (by omega:¬(n:Int)<(n:Int)),cond_false,D2];rfl
def sqc (a b:Int) (l:List Fl) (n:Int):Int:=if chk a b l ≠ 0 then chk a b l else if a ≠ b then 3 else if a ≠ n then 3 else 0
theorem xb {a b:Int} {l:List Fl} {n:Nat} (h:sqc a b l n=0):a=n/\b=n/\l.length=n*n/\aG l=true:=by
 unfold sqc at h;split at h
 ·exact absurd h (by assumption)
 ·rename_i h0;have h0:chk a b l=0:=by simpa using h0
  have q:=kx.1 h0;split at h
  ·cases h
  ·rename_i h1;split at h
   ·cases h
   ·rename_i h2;have h1:a=b:=by simpa using h1
    have h2:a=n:=by simpa using h2
    subst h1;subst h2;exact⟨rfl,rfl,by exact_mod_cast q.2.1,q.2.2⟩
theorem aF (a b:Int) (h:¬ a=b):(a != b)=true:=by simp[h]
theorem Bd {N:Nat} (hN:1000<=N) (a b:Int) (l:List Fl) (n:Int) (k:Int->Bool):jZ N a b l n k=k (sqc a b l n):=by
 (unfold jZ; rw[ac]; unfold mT sqc)
 rw[ga hN];by_cases h0:chk a b l=0
 ·rw[h0,show((0:Int) != 0)=false from rfl,cond_false,if_neg (λh=>h rfl)];by_cases h1:a=b
  ·subst h1;rw[if_neg (λh=>h rfl),show((a != a)==false)=true by simp,cond_true];by_cases h2:a=n
   ·subst h2;rw[if_neg (λh=>h rfl),show(a != a)=false by simp,cond_false]
   ·rw[if_pos h2,aF _ _ h2,cond_true]
  ·rw[if_pos h1,aF _ _ h1]; rfl
 ·rw[if_pos h0,aF _ _ h0,cond_true]
theorem yO {N:Nat} (hN:1000<=N) (a b:Int) (l:List Fl) (n:Int) (k:Int->Bool):JR N a b l n k=k (sqc a b l n):=by
 (unfold JR; rw[ac]; unfold M7 q_ vh sqc)
 rw[pI hN];dsimp only;by_cases h0:chk a b l=0
 ·rw[h0,show((0:Int) != 0)=false from rfl,cond_false,if_neg (λh=>h rfl)];by_cases h1:a=b
  ·subst h1;rw[if_neg (λh=>h rfl),show((a != a)==false)=true by simp,cond_true];by_cases h2:a=n
   ·subst h2;rw[if_neg (λh=>h rfl),show(a != a)=false by simp,cond_false]
   ·rw[if_pos h2,aF _ _ h2,cond_true]
  ·rw[if_pos h1,aF _ _ h1]; rfl
 ·rw[if_pos h0,aF _ _ h0,cond_true]
def low (v:Nat->Nat->Fl):Nat->Nat->Fl:=λa b=>if b<=a then v a b else some 0
theorem Vs {n:Nat} {f:Nat->Nat->Fl} {P:Fl->Prop} (h:∀ a b,a<n->b<n->P (f a b)):∀ t,t<n*n->P ((mf n f).getD t none):=by
 intro t ht;have hn:0<n:=by
  rcases Nat.eq_zero_or_pos n with h0 | h0
  ·rw[h0]at ht; omega
  ·exact h0
 have:=wL n f (Nat.div_lt_of_lt_mul ht) (Nat.mod_lt t hn) none;rw[show t / n*n+t%n=t from by rw[Nat.mul_comm]; exact Nat.div_add_mod t n]at this;rw[this];exact h _ _ (Nat.div_lt_of_lt_mul ht) (Nat.mod_lt t hn)
theorem xO {n:Nat} {f:Nat->Nat->Fl} (h:∀ a b,a<n->b<n->bC (f a b)=true):aG (mf n f)=true:=by unfold aG;refine ik.2 (λt ht=>Vs (P:=λx=>bC x=true) h t ?_);rw[bD]at ht; exact ht
theorem QT {n:Nat} {f:Nat->Nat->Fl} (h:∀ a b,FW (f a b)):AllW (mf n f):=by intro x hx;unfold mf at hx;obtain⟨t,-,rfl⟩:=List.mem_map.1 hx;exact h _ _
theorem D5 {n:Nat} (v:Nat->Nat->Fl):B7 n (mf n (mir v)):=by
 intro a b ha hb;show qP (ofE (elt (mf n (mir v)) n a b))=qP (ofE (elt (mf n (mir v)) n b a));rw[ju n _ ha hb,ju n _ hb ha];unfold mir;rcases Nat.lt_trichotomy a b with h | h | h
 ·rw[if_neg (by omega),if_pos (by omega)]
 ·rw[h]
 ·rw[if_pos (by omega),if_neg (by omega)]
theorem Jv {v:Nat->Nat->Fl} (h:∀ a b,FW (v a b)) (a b:Nat):FW (mir v a b):=by
 unfold mir; split
 ·exact h _ _
 ·exact h _ _
theorem zQ {n:Nat} {v:Nat->Nat->Fl} (h:∀ a b,a<n->b<=a->bC (v a b)=true):∀ a b,a<n->b<n->bC (mir v a b)=true:=by
 intro a b ha hb;unfold mir; split
 ·exact h _ _ ha (by assumption)
 ·exact h _ _ hb (by omega)
theorem Ij {n:Nat} {M:Nat->Nat->Fl} {f q:List Fl} (h:orL n (nwO n M f q)=false):∀ a b,a<n->b<=a->bC (nwV n M f q a b)=true:=by intro a b ha hb;have h1:=nD h a ha;have h2:=nD h1 b (by omega);unfold nwO at h2;rw[Bool.or_eq_false_iff]at h2;simpa using h2.2
theorem Vu {n:Nat} {M:Nat->Nat->Fl} {f q:List Fl} (a b:Nat):FW (nwV n M f q a b):=Dq _ _
def prX (n:Nat) (f s:List Fl):Nat->Fl:=λi=>dV (λt=>elt f n i t) (λt=>s.getD t none) n
def Cf (n:Nat) (f s:List Fl):Nat->Bool:=λi=>dO (λt=>elt f n i t) (λt=>s.getD t none) n
def prF (n:Nat) (s p f q:List Fl):Bool:=((false||orB (Cf n f s) n)||orM n (prO n f p))||orL n (nwO n (prV n f p) f q)
def prM (n:Nat) (p f q:List Fl):List Fl:=mf n (mir (nwV n (prV n f p) f q))
def prK (x:List Fl) (r c:Int) (p:List Fl) (fr fc:Int) (f:List Fl) (qr qc:Int) (q:List Fl) (k0:Int->Int->Int->Bool) (k1:Int->Int->Int->List Fl->List Fl->Bool):Bool:=
 if rO x r c p ≠ 0 then k0 0 0 (rO x r c p)else
 if sqc fr fc f x.length ≠ 0 then k0 0 0 (sqc fr fc f x.length)else
 if sqc qr qc q x.length ≠ 0 then k0 0 0 (sqc qr qc q x.length)else
 if lw x.length q=false then k0 0 0 150 else
 cond (prF x.length x p f q) (k0 0 0 5) (cond (!pj x.length (prM x.length p f q)) (k0 0 0 151) (k1 x.length x.length 0 (vf x.length (prX x.length f x)) (prM x.length p f q)))
theorem ifz {α:Sort _} {a:Int} {A B:α} (h:a=0):(if a ≠ 0 then A else B)=B:=if_neg λq=>q h
theorem eu {α:Sort _} {a:Int} {A B:α} (h:¬ a=0):(if a ≠ 0 then A else B)=A:=if_pos h
def sV (t:Fl) (f g:Nat->Fl):Nat->Fl
 | 0=>t
 | k+1=>qz (sV t f g k) (dU (f k) (g k))
def sO (t:Fl) (f g:Nat->Fl):Nat->Bool
 | 0=>false
 | k+1=>(sO t f g k || !bC (dU (f k) (g k))) || !bC (sV t f g (k+1))
theorem kT {t:Fl} {f f' g g':Nat->Fl}:∀{k:Nat},(∀ a,a<k->f a=f' a)->(∀ a,a<k->g a=g' a)->sV t f g k=sV t f' g' k
 | 0,_,_=>rfl
 | k+1,h1,h2=>by show qz (sV t f g k) (dU (f k) (g k))=qz (sV t f' g' k) (dU (f' k) (g' k));rw[kT (λa ha=>h1 a (by omega)) (λa ha=>h2 a (by omega)),h1 k (by omega),h2 k (by omega)]
theorem Bu {t:Fl} {f f' g g':Nat->Fl}:∀{k:Nat},(∀ a,a<k->f a=f' a)->(∀ a,a<k->g a=g' a)->sO t f g k=sO t f' g' k
 | 0,_,_=>rfl
 | k+1,h1,h2=>by show((sO t f g k || !bC (dU (f k) (g k))) || !bC (sV t f g (k+1)))=((sO t f' g' k || !bC (dU (f' k) (g' k))) || !bC (sV t f' g' (k+1)));rw[Bu (λa ha=>h1 a (by omega)) (λa ha=>h2 a (by omega)),h1 k (by omega),h2 k (by omega),kT h1 h2]
theorem qR (o:Bool) (t:Fl) (f g:Nat->Fl) (k:Nat):(((o||sO t f g k) || !bC (dU (f k) (g k))) || !bC (qz (sV t f g k) (dU (f k) (g k))))=(o||sO t f g (k+1)):=by show _=(o||((sO t f g k || !bC (dU (f k) (g k))) || !bC (qz (sV t f g k) (dU (f k) (g k)))));simp only[Bool.or_assoc]
def cT (A:Nat->Nat->Fl):Nat->Nat->Nat->Fl
 | 0=>λ_ _=>some 0
 | j+1=>λi k=>if k=j then(if i<j then some 0 else if i=j then uJ (sV (A j j) (cT A j j) (cT A j j) j)else fdiv (sV (A i j) (cT A j i) (cT A j j) j) (uJ (sV (A j j) (cT A j j) (cT A j j) j)))else cT A j i k
def cL (A:Nat->Nat->Fl) (i k:Nat):Fl:=cT A (k+1) i k
theorem Ag (A:Nat->Nat->Fl) (i k:Nat):∀ m,k<m->cT A m i k=cL A i k
 | 0,h=>by omega
 | m+1,h=>by
  by_cases e:k=m
  ·rw[e]; rfl
  ·show(if k=m then _ else cT A m i k)=_;rw[if_neg e,Ag A i k m (by omega)]
def cV (A:Nat->Nat->Fl) (i j:Nat):Fl:=sV (A i j) (cL A i) (cL A j) j
def cO (A:Nat->Nat->Fl) (i j:Nat):Bool:=sO (A i j) (cL A i) (cL A j) j
theorem RZ (A:Nat->Nat->Fl) {i j:Nat} (h:i<j):cL A i j=some 0:=by show(if j=j then(if i<j then some 0 else _)else _)=_;rw[if_pos rfl,if_pos h]
theorem Hk (A:Nat->Nat->Fl) (j:Nat):cL A j j=uJ (cV A j j):=by show(if j=j then(if j<j then some 0 else if j=j then uJ (sV (A j j) (cT A j j) (cT A j j) j)else _)else _)=_;rw[if_pos rfl,if_neg (by omega),if_pos rfl];unfold cV;rw[kT (λa ha=>Ag A j a j ha) (λa ha=>Ag A j a j ha)]
theorem Ns (A:Nat->Nat->Fl) {i j:Nat} (h:j<i):cL A i j=fdiv (cV A i j) (cL A j j):=by rw[Hk];show(if j=j then(if i<j then some 0 else if i=j then _ else fdiv (sV (A i j) (cT A j i) (cT A j j) j) (uJ (sV (A j j) (cT A j j) (cT A j j) j)))else _)=_;rw[if_pos rfl,if_neg (by omega),if_neg (by omega)];unfold cV;rw[kT (λa ha=>Ag A j a j ha) (λa ha=>Ag A j a j ha),kT (t:=A i j) (λa ha=>Ag A i a j ha) (λa ha=>Ag A j a j ha)]
def cQ (A:Nat->Nat->Fl) (i j:Nat):Bool:=cO A i j || !bC (cL A i j)
def cC (A:Nat->Nat->Fl) (j i:Nat):Bool:=orB (λa=>decide (j<a)&&cQ A a j) i
def cR (A:Nat->Nat->Fl) (n:Nat):Nat->Nat->Bool->Int × Int
 | 0,_,o=>if o=true then(0,5)else(0,0)
 | d+1,j,o=>if (o||cO A j j)=true then(0,5)else if fgt (cV A j j) (some 0)=false then(j,90)else cR A n d (j+1) ((o||cO A j j)||cC A j n)
theorem P4 (A:Nat->Nat->Fl) (n:Nat):∀ d j,cR A n d j true=(0,5)
 | 0,_=>rfl
 | d+1,j=>by unfold cR; rw[Bool.true_or,if_pos rfl]
def dT (l:Nat->Nat->Fl) (b:Nat->Fl):Nat->Nat->Fl
 | 0=>λ_=>some 0
 | i+1=>λa=>if a=i then fdiv (sV (b i) (l i) (dT l b i) i) (l i i)else dT l b i a
def dX (l:Nat->Nat->Fl) (b:Nat->Fl) (i:Nat):Fl:=dT l b (i+1) i
theorem R3 (l:Nat->Nat->Fl) (b:Nat->Fl) (i:Nat):∀ m,i<m->dT l b m i=dX l b i
 | 0,h=>by omega
 | m+1,h=>by
  by_cases e:i=m
  ·rw[e]; rfl
  ·show(if i=m then _ else dT l b m i)=_;rw[if_neg e,R3 l b i m (by omega)]
def dW (l:Nat->Nat->Fl) (b:Nat->Fl) (i:Nat):Fl:=sV (b i) (l i) (dX l b) i
theorem I5 (l:Nat->Nat->Fl) (b:Nat->Fl) (i:Nat):dX l b i=fdiv (dW l b i) (l i i):=by show(if i=i then fdiv (sV (b i) (l i) (dT l b i) i) (l i i)else _)=_;rw[if_pos rfl];unfold dW;rw[kT (g:=dT l b i) (g':=dX l b) (λa _=>rfl) (λa ha=>R3 l b a i ha)]
def dP (l:Nat->Nat->Fl) (b:Nat->Fl) (i:Nat):Bool:=sO (b i) (l i) (dX l b) i || !bC (dX l b i)
def uT (l:Nat->Nat->Fl) (b:Nat->Fl) (n:Nat):Nat->Nat->Fl
 | 0=>λ_=>some 0
 | m+1=>λa=>if a=n - 1 - m then fdiv (sV (b a) (λt=>l (a+1+t) a) (λt=>uT l b n m (a+1+t)) m) (l a a)else uT l b n m a
def uX (l:Nat->Nat->Fl) (b:Nat->Fl) (n:Nat) (i:Nat):Fl:=uT l b n (n - i) i
theorem Sw (l:Nat->Nat->Fl) (b:Nat->Fl) (n:Nat) {i:Nat} (hi:i<n):∀ m,n - i<=m->m<=n->uT l b n m i=uX l b n i
 | 0,h,_=>by omega
 | m+1,h,h2=>by
  by_cases e:n - i=m+1
  ·show _=uT l b n (n - i) i; rw[e]
  ·show(if i=n - 1 - m then _ else uT l b n m i)=_;rw[if_neg (by omega),Sw l b n hi m (by omega) (by omega)]
def uW (l:Nat->Nat->Fl) (b:Nat->Fl) (n:Nat) (i:Nat):Fl:=sV (b i) (λt=>l (i+1+t) i) (λt=>uX l b n (i+1+t)) (n - 1 - i)
theorem J3 (l:Nat->Nat->Fl) (b:Nat->Fl) {n i:Nat} (hi:i<n):uX l b n i=fdiv (uW l b n i) (l i i):=by
 unfold uX;obtain⟨m,hm⟩:∃ m,n - i=m+1:=⟨n - i - 1,by omega⟩
 rw[hm];show(if i=n - 1 - m then fdiv (sV (b i) (λt=>l (i+1+t) i) (λt=>uT l b n m (i+1+t)) m) (l i i)else _)=_;rw[if_pos (by omega)];unfold uW;rw[show n - 1 - i=m by omega,kT (f':=λt=>l (i+1+t) i) (g':=λt=>uX l b n (i+1+t)) (λa _=>rfl) (λa ha=>Sw l b n (by omega) m (by omega) (by omega))]
def uP (l:Nat->Nat->Fl) (b:Nat->Fl) (n:Nat) (i:Nat):Bool:=sO (b i) (λt=>l (i+1+t) i) (λt=>uX l b n (i+1+t)) (n - 1 - i) || !bC (uX l b n i)
def orD (p:Nat->Bool) (n:Nat):Nat->Bool
 | 0=>false
 | m+1=>orD p n m||p (n - 1 - m)
theorem C9 {p:Nat->Bool} {n:Nat}:∀{m:Nat},m<=n->orD p n m=false -> ∀ i,n - m<=i->i<n->p i=false
 | 0,_,_,i,h1,h2=>by omega
 | m+1,hm,h,i,h1,h2=>by
  unfold orD at h;rw[Bool.or_eq_false_iff]at h;rcases Nat.lt_or_ge i (n - m)with h3 | h3
  ·rw[show i=n - 1 - m by omega]; exact h.2
  ·exact C9 (by omega) h.1 i h3 h2
theorem Gd (o:Bool) (p:Nat->Bool) (n m:Nat):((o||orD p n m)||p (n - 1 - m))=(o||orD p n (m+1)):=by show _=(o||(orD p n m||p (n - 1 - m))); rw[Bool.or_assoc]
theorem P2 (x:Fl):aG [x]=bC x:=by
 rw[Bool.eq_iff_iff,aG,ik];constructor
 ·intro h; exact h 0 (by show 0<1; omega)
 ·intro h i hi;obtain rfl:i=0:=by have:i<1:=hi; omega
  exact h
theorem wE {N:Nat} (hN:1000<=N) (x:Fl) (o:Bool) (k:Bool->Bool):b_ N x o k=k (o || !bC x):=by unfold b_ nK;rw[oa [x] ⟨by show 1<N; omega,by show 1<=_; omega⟩,P2];cases bC x <;> cases o <;> rfl
theorem vB {N:Nat} (hN:1000<=N) (a b:Fl) (o:Bool) (k:Fl->Bool->Bool):cw N a b o k=k (dU a b) (o || !bC (dU a b)):=by unfold cw ly;rw[wE hN]
theorem xG {N:Nat} (hN:1000<=N) (a b:Fl) (o:Bool) (k:Fl->Bool->Bool):cP N a b o k=k (qz a b) (o || !bC (qz a b)):=by unfold cP mo;rw[wE hN]
theorem wD {N n i j:Nat} (hn:n<=12) (hi:i<n) (hj:j<n) {l:List Fl} (h:l.length=n*n) (r:Int) (k:Fl->Bool):lW N r n l i j k=k (elt l n i j):=by obtain⟨h1,h2⟩:=cJ (by omega:n<=1000) hi hj;have h3:=f_ hi hj;unfold lW Co elt;rw[cI,aa h1,aa h2,h,Int.toNat_natCast,aa (ah (by omega) (by omega))]
theorem CS {N n i j:Nat} (hN:1000<=N) (hn:n<=12) (hi:i<n) (hj:j<n) {a low:List Fl} (ha:a.length=n*n) (hl:low.length=n*n)
  (h1:∀ c,c<j->elt low n i c=cL (elt a n) i c) (h2:∀ c,c<j->elt low n j c=cL (elt a n) j c) (r:Int) (o:Bool) (k:Fl->Bool->Bool) :
  bc N i j n r n a low o k=k (cV (elt a n) i j) (o||cO (elt a n) i j):=by
 unfold bc; rw[ac]; unfold bG oX oA;rw[wD hn hi hj ha];dsimp only;have h0:((elt a n i j,(0:Int),o):Fl × Int × Bool)=(λt:Nat=>(sV (elt a n i j) (cL (elt a n) i) (cL (elt a n) j) t,(t:Int),o||sO (elt a n i j) (cL (elt a n) i) (cL (elt a n) j) t)) 0:=by show _=(elt a n i j,((0:Nat):Int),o||false); rw[kO]; rfl
 rw[h0];refine ax (λt:Nat=>(sV (elt a n i j) (cL (elt a n) i) (cL (elt a n) j) t,(t:Int),o||sO (elt a n i j) (cL (elt a n) i) (cL (elt a n) j) t)) j (by omega) ?_ ?_
 ·intro t ht K;have ht2:t<n:=by omega
  obtain⟨f1,f2⟩:=cJ (by omega:n<=1000) hi ht2;obtain⟨g1,g2⟩:=cJ (by omega:n<=1000) hj ht2;have b1:=f_ hi ht2;have b2:=f_ hj ht2;unfold aV;dsimp only;rw[decide_eq_true (by omega:(t:Int)<(j:Int)),cond_true,cI,cI,aa f1,aa f2,Int.toNat_natCast,Int.toNat_natCast,hl,aa (ah (by omega) (by omega)),aa (decide_eq_true b1),aa g1,aa g2,aa (ah (by omega) (by omega)),aa (decide_eq_true b2)];unfold jO; rw[ac]; unfold ek;rw[vB hN,xG hN];dsimp only;rw[aa (ab (by omega) (by omega))];rw[show low.getD (i*n+t) none=elt low n i t from rfl,show low.getD (j*n+t) none=elt low n j t from rfl,h1 t ht,h2 t ht,qR];rfl
 ·intro K;unfold aV;dsimp only;rw[decide_eq_false (by omega:¬(j:Int)<(j:Int)),cond_false];rfl
def pL (A:Nat->Nat->Fl) (j i:Nat):Nat->Nat->Fl:=λa b=>if b<a/\(b<j\/(b=j/\a<i))then cL A a b else some 0
theorem Q8 (n:Nat) (A:Nat->Nat->Fl):mf n (λ_ _=>some 0)=mf n (pL A 0 0):=bu n (λa b _ _=>by unfold pL; rw[if_neg (by omega)])
theorem Vx (n:Nat) (A:Nat->Nat->Fl) (j:Nat):mf n (pL A j n)=mf n (pL A (j+1) 0):=bu n (λa b ha _=>by
 unfold pL;by_cases h:b<a/\(b<j\/(b=j/\a<n))
 ·rw[if_pos h,if_pos ⟨h.1,by omega⟩]
 ·rw[if_neg h,if_neg (by omega)])
theorem Q7 (n:Nat) (A:Nat->Nat->Fl) {j i:Nat} (h:i<=j):mf n (pL A j i)=mf n (pL A j (i+1)):=bu n (λa b ha _=>by
 unfold pL;by_cases h:b<a/\(b<j\/(b=j/\a<i))
 ·rw[if_pos h,if_pos (by omega)]
 ·rw[if_neg h,if_neg (by omega)])
theorem Q6 (n:Nat) (A:Nat->Nat->Fl) {j i:Nat} (h:j<i):mf n (λa b=>if a=i/\b=j then cL A i j else pL A j i a b)=mf n (pL A j (i+1)):=bu n (λa b _ _=>by
 unfold pL;by_cases h1:a=i/\b=j
 ·rw[if_pos h1,if_pos (by omega),h1.1,h1.2]
 ·rw[if_neg h1];by_cases h2:b<a/\(b<j\/(b=j/\a<i))
  ·rw[if_pos h2,if_pos (by omega)]
  ·rw[if_neg h2,if_neg (by omega)])
theorem Dw (A:Nat->Nat->Fl) (o:Bool) (j i:Nat):((o||cC A j i)||(decide (j<i)&&cQ A i j))=(o||cC A j (i+1)):=iX o _ i
theorem Ou {N n j:Nat} (hN:1000<=N) (hn:n<=12) (hj:j<n) {a:List Fl} (ha:a.length=n*n) (r t1 t2:Int) (hd:List Fl) (o:Bool) (e0:Bool->List Fl->Bool) :
  ai N (bA N j (cL (elt a n) j j) t1 t2 n r n a n hd e0) (0,o,mf n (pL (elt a n) j 0))=e0 (o||cC (elt a n) j n) (mf n (pL (elt a n) j n)):=by
 have h0:((0,o,mf n (pL (elt a n) j 0)):Int × Bool × List Fl)=(λt:Nat=>((t:Int),o||cC (elt a n) j t,mf n (pL (elt a n) j t))) 0:=by show _=(((0:Nat):Int),o||false,_); rw[kO]; rfl
 rw[h0];refine ax (λt:Nat=>((t:Int),o||cC (elt a n) j t,mf n (pL (elt a n) j t))) n (by omega) ?_ ?_
 ·intro i hi K;unfold bA;dsimp only;rw[decide_eq_true (by omega:(i:Int)<(n:Int)),cond_true];by_cases hij:i<=j
  ·rw[decide_eq_true (by omega:(i:Int)<=(j:Int)),cond_true,aa (ab (by omega) (by omega)),Q7 n _ hij];have e:(o||cC (elt a n) j (i+1))=(o||cC (elt a n) j i):=by rw[<- Dw,decide_eq_false (by omega:¬ j<i),Bool.false_and,kO]
   rw[<- e];rfl
  ·obtain⟨f1,f2⟩:=cJ (by omega:n<=1000) hi hj;have b1:=f_ hi hj;have lo:∀(x:Nat),x<n->j<=x -> ∀ c,c<j->elt (mf n (pL (elt a n) j i)) n x c=cL (elt a n) x c:=λx hx hx2 c hc=>by rw[ju n _ hx (by omega)]; unfold pL; rw[if_pos (by omega)]
   rw[decide_eq_false (by omega:¬(i:Int)<=(j:Int)),cond_false,cI,aa f1,aa f2,CS hN hn hi hj ha (bD n _) (lo i hi (by omega)) (lo j hj (by omega))]
   (unfold jQ; rw[ac]; unfold ep)
   rw[wE hN];dsimp only;rw[bD,Int.toNat_natCast,aa (ah (by omega) (by omega)),aa (decide_eq_true b1),aa (ab (by omega) (by omega)),<- Ns _ (by omega:j<i),sL n _ hi hj,Q6 n _ (by omega)];have e:(((o||cC (elt a n) j i)||cO (elt a n) i j) || !bC (cL (elt a n) i j))=(o||cC (elt a n) j (i+1)):=by rw[<- Dw,decide_eq_true (by omega:j<i),Bool.true_and];unfold cQ;simp only[Bool.or_assoc]
   rw[e];rfl
 ·intro K;unfold bA;dsimp only;rw[decide_eq_false (by omega:¬(n:Int)<(n:Int)),cond_false]
def ES (A:Nat->Nat->Fl) (t:Nat):Fl:=cL A t t
theorem CT {N n:Nat} (hN:1000<=N) (hn:n<=12) {a:List Fl} (ha:a.length=n*n) (r:Int) (e0:Int->Int->Bool->List Fl->Bool) (e1:Bool->List Fl->List Fl->Bool) (R:Int × Int->Bool)
  (h0:∀(j:Nat) o h,e0 j 5 o h=R (0,5)) (h0':∀(j:Nat) o h,e0 j 90 o h=R (j,90))
  (h1:∀ o,e1 o ((vf n (ES (elt a n))).take n) (mf n (pL (elt a n) n 0))=R (if o=true then(0,5)else(0,0))) :
  ∀(d j M:Nat) (o:Bool),j+d=n->d<M ->
  ai M (aE N n r n a n e0 e1) ((j:Int),o,(vf n (ES (elt a n))).take j,mf n (pL (elt a n) j 0))=R (cR (elt a n) n d j o)
 | 0,j,M+1,o,hj,hM=>by
  obtain rfl:j=n:=by omega
  show aE N j r j a j e0 e1 _ _=_;unfold aE;dsimp only;rw[decide_eq_false (by omega:¬(j:Int)<(j:Int)),cond_false];exact h1 o
 | d+1,j,M+1,o,hj,hM=>by
  have hj2:j<n:=by omega
  have ih:=CT hN hn ha r e0 e1 R h0 h0' h1 d (j+1) M;show aE N n r n a n e0 e1 _ (ai M (aE N n r n a n e0 e1))=_;generalize ai M (aE N n r n a n e0 e1)=K at ih ⊢;have lo:∀ c,c<j->elt (mf n (pL (elt a n) j 0)) n j c=cL (elt a n) j c:=λc hc=>by rw[ju n _ hj2 (by omega)]; unfold pL; rw[if_pos (by omega)]
  unfold aE cR;dsimp only;rw[decide_eq_true (by omega:(j:Int)<(n:Int)),cond_true,CS hN hn hj2 hj2 ha (bD n _) lo lo];unfold jP; rw[ac]; unfold eo;cases h2:(o||cO (elt a n) j j)
  case true=>rw[cond_true,if_pos rfl]; exact h0 j _ _
  rw[cond_false,if_neg (by decide)];cases h3:fgt (cV (elt a n) j j) (some 0)
  case false=>rw[if_pos rfl]; exact h0' j _ _
  rw[Bool.not_true,cond_false,if_neg (by decide)];unfold w5 zW Gv;dsimp only;rw[show((0:Int) != 0)=false from rfl,cond_false,<- Hk];have e:=rh n (ES (elt a n)) hj2;rw[show cL (elt a n) j j=ES (elt a n) j from rfl,e,aa (decide_eq_true (by rw[List.length_take,aW]; omega)),show ES (elt a n) j=cL (elt a n) j j from rfl];refine(Ou hN hn hj2 ha r n j _ false _).trans ?_;rw[aa (ab (by omega) (by omega)),Vx];exact ih _ (by omega) (by omega)
def pD (A:Nat->Nat->Fl) (i:Nat):Nat->Nat->Fl:=λa b=>if b<a then cL A a b else if a=b/\a<i then cL A a b else some 0
theorem Q5 (n:Nat) (A:Nat->Nat->Fl):mf n (pL A n 0)=mf n (pD A 0):=bu n (λa b ha hb=>by
 unfold pL pD;by_cases h:b<a
 ·rw[if_pos (by omega),if_pos h]
 ·rw[if_neg (by omega),if_neg h,if_neg (by omega)])
theorem Q4 (n:Nat) (A:Nat->Nat->Fl) (i:Nat):mf n (λa b=>if a=i/\b=i then cL A i i else pD A i a b)=mf n (pD A (i+1)):=bu n (λa b ha hb=>by
 unfold pD;by_cases h:a=i/\b=i
 ·rw[if_pos h,if_neg (by omega),if_pos (by omega),h.1,h.2]
 ·rw[if_neg h];by_cases h2:b<a
  ·rw[if_pos h2,if_pos h2]
  ·rw[if_neg h2,if_neg h2];by_cases h3:a=b/\a<i
   ·rw[if_pos h3,if_pos (by omega)]
   ·rw[if_neg h3,if_neg (by omega)])
theorem Vw (n:Nat) (A:Nat->Nat->Fl):mf n (pD A n)=mf n (cL A):=bu n (λa b ha hb=>by
 unfold pD;by_cases h:b<a
 ·rw[if_pos h]
 ·rw[if_neg h];by_cases h2:a=b/\a<n
  ·rw[if_pos h2]
  ·rw[if_neg h2,RZ A (by omega)])
theorem Ov {N n:Nat} (hN:1000<=N) (hn:n<=12) (A:Nat->Nat->Fl) (r c:Int) (a:List Fl) (t2 t3:Int) (e0:List Fl->Bool) (hr:r=n) :
  ai N (fE N n r c a t2 t3 (vf n (ES A)) e0) (0,mf n (pL A n 0))=e0 (mf n (cL A)):=by
 subst hr;rw[Q5];refine ax (λt:Nat=>((t:Int),mf n (pD A t))) n (by omega) ?_ ?_
 ·intro i hi K;obtain⟨f1,f2⟩:=cJ (by omega:n<=1000) hi hi;have b1:=f_ hi hi;unfold fE;dsimp only;rw[decide_eq_true (by omega:(i:Int)<(n:Int)),cond_true,aW,Int.toNat_natCast,aa (ah (by omega) (by omega)),aa (decide_eq_true hi),cI,aa f1,aa f2,bD,Int.toNat_natCast,aa (ah (by omega) (by omega)),aa (decide_eq_true b1),aa (ab (by omega) (by omega)),eS n _ hi,sL n _ hi hi];rw[show ES A i=cL A i i from rfl,Q4];rfl
 ·intro K;unfold fE;dsimp only;rw[decide_eq_false (by omega:¬(n:Int)<(n:Int)),cond_false,Vw]
def evE (r c:Int) (l:List Fl):Int:=if chk r c l ≠ 0 then chk r c l else if r ≠ c then 3 else 0
def sqE (r c:Int) (l:List Fl):Int:=if evE r c l ≠ 0 then evE r c l else if lw r.toNat l=false then 91 else 0
theorem mw {r c:Int} {l:List Fl} (h:evE r c l=0):∃ n:Nat,n<=12/\r=n/\c=n/\l.length=n*n/\aG l=true:=by
 unfold evE at h;split at h
 ·exact absurd h (by assumption)
 ·rename_i h0;have q:=kx.1 (show chk r c l=0 by simpa using h0);split at h
  ·cases h
  ·rename_i h1;have h1:r=c:=by simpa using h1
   subst h1;obtain⟨n,hn⟩:∃ n:Nat,r=n:=⟨r.toNat,by omega⟩
   subst hn;exact⟨n,by omega,rfl,rfl,by exact_mod_cast q.2.1,q.2.2⟩
theorem tF {r c:Int} {l:List Fl} (h:sqE r c l=0):∃ n:Nat,n<=12/\r=n/\c=n/\l.length=n*n/\aG l=true/\lw n l=true:=by
 unfold sqE at h;split at h
 ·exact absurd h (by assumption)
 ·rename_i h0;obtain⟨n,h1,h2,h3,h4,h5⟩:=mw (show evE r c l=0 by simpa using h0);subst h2;split at h
  ·cases h
  ·rename_i h6;exact⟨n,h1,rfl,h3,h4,h5,by simpa using h6⟩
theorem xF {N:Nat} (hN:1000<=N) (r c:Int) (l:List Fl) (k:Int->Bool):mL N r c l k=k (evE r c l):=by
 unfold mL; rw[ac]; unfold rT evE;rw[ga hN];by_cases h0:chk r c l=0
 ·rw[h0,if_neg (λh=>h rfl),show((0:Int) != 0)=false from rfl,cond_false];by_cases h1:r=c
  ·rw[if_neg (λh=>h h1),show(r != c)=false by simp[h1],cond_false]
  ·rw[if_pos h1,aF _ _ h1,cond_true]
 ·rw[if_pos h0,aF _ _ h0,cond_true]
theorem yK {N:Nat} (hN:1000<=N) (r c:Int) (l:List Fl) (k:Int->Bool):mh N r c l k=k (sqE r c l):=by
 unfold mh; rw[ac]; unfold pd sqE;rw[xF hN];by_cases h0:evE r c l=0
 ·obtain⟨n,h1,h2,h3,h4,h5⟩:=mw h0;subst h2 h3;rw[h0,if_neg (λh=>h rfl),show((0:Int) != 0)=false from rfl,cond_false,zK hN h1 h4 h5,Int.toNat_natCast];cases lw n l <;> rfl
 ·rw[if_pos h0,aF _ _ h0,cond_true]
abbrev KC:=Int->Int->List Fl->Int->Int->Bool
def chK (r c:Int) (a:List Fl) (k:KC):Bool:=
 if sqE r c a ≠ 0 then k 0 0 [] 0 (sqE r c a)
 else if (cR (elt a r.toNat) r.toNat r.toNat 0 false).2 ≠ 0 then k 0 0 [] (cR (elt a r.toNat) r.toNat r.toNat 0 false).1 (cR (elt a r.toNat) r.toNat r.toNat 0 false).2
 else k r r (mf r.toNat (cL (elt a r.toNat))) 0 0
theorem FI {N:Nat} (hN:1000<=N) (r c:Int) (a:List Fl) (k:KC):oW N r c a k=chK r c a k:=by
 unfold oW; rw[ac]; unfold rR chK;rw[yK hN];by_cases h0:sqE r c a=0
 ·obtain⟨n,hn,rfl,rfl,hl,hf,hs⟩:=tF h0;have n2:=rE hn;rw[h0,if_neg (λh=>h rfl),show((0:Int) != 0)=false from rfl,cond_false,Int.toNat_natCast];unfold mM mp;unfold gF; rw[ac]; unfold da;rw[<- Int.natCast_mul,aa (ab (by omega) (by omega)),aa (bE (by omega) (by omega) (by omega) (by omega)),Int.toNat_natCast,zP,Q8 n (elt a n)];refine(CT (N:=N) hN hn hl n _ _ (λq=>if q.2 ≠ 0 then k 0 0 [] q.1 q.2 else k n n (mf n (cL (elt a n))) 0 0) (λj o h=>?_) (λj o h=>?_) (λo=>?_) n 0 N false (by omega) (by omega) :)
  ·rfl
  ·rfl
  ·rw[List.take_of_length_le (by rw[aW]; omega)];cases o
   ·show jD N n n a 0 0 (mf n (pL (elt a n) n 0)) (vf n (ES (elt a n))) k=_;unfold jD;rw[show((0:Int) != 0)=false from rfl,cond_false,aW,Ov hN hn (elt a n) n n a 0 0 _ rfl];rfl
   ·rfl
 ·rw[if_pos h0,aF _ _ h0,cond_true]
def fl_ (g:Nat->Fl) (t:Nat):Nat->Fl:=λa=>if a<t then g a else some 0
theorem jV {n:Nat} {g g':Nat->Fl} (h:∀ a,a<n->g a=g' a):vf n g=vf n g':=by unfold vf;apply List.map_congr_left;intro t ht;exact h t (List.mem_range.1 ht)
theorem J6 (n:Nat):List.replicate n (some 0)=vf n (λ_=>some 0):=by
 apply List.ext_getElem?;intro t;unfold vf;rw[List.getElem?_map,List.getElem?_replicate];by_cases ht:t<n
 ·rw[if_pos ht,List.getElem?_range ht]; rfl
 ·rw[if_neg ht,List.getElem?_eq_none (by rw[List.length_range]; omega)]; rfl
theorem EC (n:Nat) (g:Nat->Fl) {i:Nat} (hi:i<n) (v:Fl):(vf n g).set i v=vf n (λa=>if a=i then v else g a):=by
 apply List.ext_getElem?;intro t;by_cases ht:t<n
 ·rw[List.getElem?_set];unfold vf;rw[List.getElem?_map,List.getElem?_map,List.getElem?_range ht];simp only[List.length_map,List.length_range,Option.map_some];by_cases he:i=t
  ·rw[if_pos he,if_pos hi,if_pos he.symm]
  ·rw[if_neg he,if_neg (λh=>he h.symm)]
 ·rw[List.getElem?_eq_none (by rw[List.length_set,aW]; omega),List.getElem?_eq_none (by rw[aW]; omega)]
theorem Ja (n:Nat) (g:Nat->Fl) (t:Nat):vf n (λa=>if a=t then g t else fl_ g t a)=vf n (fl_ g (t+1)):=jV λa _=>by
 unfold fl_;by_cases h:a=t
 ·rw[if_pos h,if_pos (by omega),h]
 ·rw[if_neg h];by_cases h2:a<t
  ·rw[if_pos h2,if_pos (by omega)]
  ·rw[if_neg h2,if_neg (by omega)]
theorem NZ (n:Nat) (g:Nat->Fl):vf n (fl_ g n)=vf n g:=jV λa ha=>by unfold fl_; rw[if_pos ha]
theorem Jb (n:Nat) (g:Nat->Fl):List.replicate n (some 0)=vf n (fl_ g 0):=by rw[J6]; exact jV λa _=>by unfold fl_; rw[if_neg (by omega)]
def bt (b:List Fl):Nat->Fl:=λi=>b.getD i none
theorem Ow {N n i:Nat} (hN:1000<=N) (hn:n<=12) (hi:i<n) {l x:List Fl} (hl:l.length=n*n) (g:Nat->Fl) (hx:∀ t,t<i->x.getD t none=g t) (hxl:x.length=n) (b0:Fl) (b:List Fl) (t15 t16 r:Int) (o:Bool) (e0:Fl->Bool->Bool) :
  ai N (ce N b i t15 t16 i r n l x e0) (b0,0,o)=e0 (sV b0 (elt l n i) g i) (o||sO b0 (elt l n i) g i):=by
 have h1:((b0,(0:Int),o):Fl × Int × Bool)=(λt:Nat=>(sV b0 (elt l n i) g t,(t:Int),(o||sO b0 (elt l n i) g t))) 0:=by show _=(b0,((0:Nat):Int),(o||false)); rw[kO]; rfl
 rw[h1];refine ax (λt:Nat=>(sV b0 (elt l n i) g t,(t:Int),(o||sO b0 (elt l n i) g t))) i (by omega) ?_ ?_
 ·intro t ht K;unfold ce;dsimp only;rw[decide_eq_true (by omega:(t:Int)<(i:Int)),cond_true,wD hn hi (by omega) hl,hxl];rw[aa (ah (by omega) (by omega)),Int.toNat_natCast,aa (decide_eq_true (by omega)),hx t ht,vB hN,xG hN];rw[aa (ab (by omega) (by omega)),qR];rfl
 ·intro K;unfold ce;dsimp only;rw[decide_eq_false (by omega:¬(i:Int)<(i:Int)),cond_false]
theorem QC {N n:Nat} (hN:1000<=N) (hn:n<=12) {l b:List Fl} (hl:l.length=n*n) (hb:b.length=n) (r:Int) (o:Bool) (k:List Fl->Bool->Bool) :
  cN N r n l b o k=k (vf n (dX (elt l n) (bt b))) (o||orB (dP (elt l n) (bt b)) n):=by
 unfold cN; rw[ac]; unfold ij;rw[hb,aa (bE (by omega) (by omega) (by omega) (by omega)),Int.toNat_natCast,Jb n (dX (elt l n) (bt b))];have h0:((0,o,vf n (fl_ (dX (elt l n) (bt b)) 0)):Int × Bool × List Fl)=(λt:Nat=>((t:Int),(o||orB (dP (elt l n) (bt b)) t),vf n (fl_ (dX (elt l n) (bt b)) t))) 0:=by show _=(((0:Nat):Int),(o||false),_); rw[kO]; rfl
 rw[h0];refine ax (λt:Nat=>((t:Int),(o||orB (dP (elt l n) (bt b)) t),vf n (fl_ (dX (elt l n) (bt b)) t))) n (by omega) ?_ ?_
 ·intro i hi K;unfold cZ;dsimp only;rw[decide_eq_true (by omega:(i:Int)<(n:Int)),cond_true,hb,aa (ah (by omega) (by omega)),Int.toNat_natCast];refine(Ow hN hn hi hl (dX (elt l n) (bt b)) (λt ht=>?_) (aW _ _) _ _ _ _ _ _ _).trans ?_
  ·rw[eS _ _ (by omega)]; unfold fl_; rw[if_pos ht]
  rw[wD hn hi hi hl];rw[wE hN];rw[aW,aa (ah (by omega) (by omega)),aa (decide_eq_true hi),aa (ab (by omega) (by omega)),EC _ _ hi];have e:=I5 (elt l n) (bt b) i;unfold dW at e;rw[show b.getD i none=bt b i from rfl,<- e,Ja];have e2:(((o||orB (dP (elt l n) (bt b)) i)||sO (bt b i) (elt l n i) (dX (elt l n) (bt b)) i) || !bC (dX (elt l n) (bt b) i))=(o||orB (dP (elt l n) (bt b)) (i+1)):=by rw[<- iX o (dP (elt l n) (bt b)) i];unfold dP;simp only[Bool.or_assoc]
  rw[e2];rfl
 ·intro K;unfold cZ;dsimp only;rw[decide_eq_false (by omega:¬(n:Int)<(n:Int)),cond_false,NZ]
theorem Ox {N n i:Nat} (hN:1000<=N) (hn:n<=12) (hi:i<n) {l x b:List Fl} (hl:l.length=n*n) (g:Nat->Fl) (hx:∀ t,i<t->t<n->x.getD t none=g t) (hxl:x.length=n) (hb:b.length=n) (b0:Fl) (r:Int) (o:Bool) (e0:Fl->Bool->Bool) :
  ai N (cA N b i r n l x e0) (b0,(i:Int)+1,o)=e0 (sV b0 (λt=>elt l n (i+1+t) i) (λt=>g (i+1+t)) (n - 1 - i)) (o||sO b0 (λt=>elt l n (i+1+t) i) (λt=>g (i+1+t)) (n - 1 - i)):=by
 have h1:((b0,(i:Int)+1,o):Fl × Int × Bool)=(λt:Nat=>(sV b0 (λt=>elt l n (i+1+t) i) (λt=>g (i+1+t)) t,((i+1+t:Nat):Int),(o||sO b0 (λt=>elt l n (i+1+t) i) (λt=>g (i+1+t)) t))) 0:=by show _=(b0,((i+1:Nat):Int),(o||false)); rw[kO]; rfl
 rw[h1];refine ax (λt:Nat=>(sV b0 (λt=>elt l n (i+1+t) i) (λt=>g (i+1+t)) t,((i+1+t:Nat):Int),(o||sO b0 (λt=>elt l n (i+1+t) i) (λt=>g (i+1+t)) t))) (n - 1 - i) (by omega) ?_ ?_
 ·intro t ht K;unfold cA;dsimp only;rw[hb,decide_eq_true (by omega:((i+1+t:Nat):Int)<(n:Int)),cond_true,wD hn (by omega) hi hl,hxl];rw[aa (ah (by omega) (by omega)),Int.toNat_natCast,aa (decide_eq_true (by omega)),hx _ (by omega) (by omega),vB hN,xG hN];rw[aa (ab (by omega) (by omega)),qR o b0 (λt=>elt l n (i+1+t) i) (λt=>g (i+1+t)) t];rfl
 ·intro K;unfold cA;dsimp only;rw[hb,decide_eq_false (by omega:¬((i+1+(n - 1 - i):Nat):Int)<(n:Int)),cond_false]
def fu_ (n:Nat) (g:Nat->Fl) (m:Nat):Nat->Fl:=λa=>if n - m<=a then g a else some 0
theorem Je (n:Nat) (g:Nat->Fl):List.replicate n (some 0)=vf n (fu_ n g 0):=by rw[J6]; exact jV λa _=>by unfold fu_; rw[if_neg (by omega)]
theorem N5 (n:Nat) (g:Nat->Fl):vf n (fu_ n g n)=vf n g:=jV λa ha=>by unfold fu_; rw[if_pos (by omega)]
theorem Jd (n:Nat) (g:Nat->Fl) {m:Nat} (hm:m<n):vf n (λa=>if a=n - 1 - m then g (n - 1 - m)else fu_ n g m a)=vf n (fu_ n g (m+1)):=jV λa _=>by
 unfold fu_;by_cases h:a=n - 1 - m
 ·rw[if_pos h,if_pos (by omega),h]
 ·rw[if_neg h];by_cases h2:n - m<=a
  ·rw[if_pos h2,if_pos (by omega)]
  ·rw[if_neg h2,if_neg (by omega)]
theorem QE {N n:Nat} (hN:1000<=N) (hn:n<=12) {l b:List Fl} (hl:l.length=n*n) (hb:b.length=n) (r:Int) (o:Bool) (k:List Fl->Bool->Bool) :
  dF N r n l b o k=k (vf n (uX (elt l n) (bt b) n)) (o||orD (uP (elt l n) (bt b) n) n n):=by
 unfold dF; rw[ac]; unfold j7;rw[hb,aa (bE (by omega) (by omega) (by omega) (by omega)),aa (ab (by omega) (by omega)),Int.toNat_natCast,Je n (uX (elt l n) (bt b) n)];have h0:(((n:Int) - 1,o,vf n (fu_ n (uX (elt l n) (bt b) n) 0)):Int × Bool × List Fl)=(λm:Nat=>((n:Int) - 1 - (m:Int),(o||orD (uP (elt l n) (bt b) n) n m),vf n (fu_ n (uX (elt l n) (bt b) n) m))) 0:=by show _=((n:Int) - 1 - ((0:Nat):Int),(o||false),_); rw[kO,show(n:Int) - 1 - ((0:Nat):Int)=(n:Int) - 1 by omega]
 rw[h0];refine ax (λm:Nat=>((n:Int) - 1 - (m:Int),(o||orD (uP (elt l n) (bt b) n) n m),vf n (fu_ n (uX (elt l n) (bt b) n) m))) n (by omega) ?_ ?_
 ·intro m hm K;obtain⟨i,hi⟩:∃ i,n - 1 - m=i:=⟨_,rfl⟩
  have hi2:i<n:=by omega
  have ei:(n:Int) - 1 - (m:Int)=(i:Int):=by omega
  unfold dJ;dsimp only;rw[ei,decide_eq_true (by omega:(i:Int)>=0),cond_true,hb,aa (ah (by omega) (by omega)),aa (ab (by omega) (by omega)),Int.toNat_natCast];refine(Ox hN hn hi2 hl (uX (elt l n) (bt b) n) (λt ht ht2=>?_) (aW _ _) hb _ _ _ _).trans ?_
  ·rw[eS _ _ ht2]; unfold fu_; rw[if_pos (by omega)]
  rw[wD hn hi2 hi2 hl];rw[wE hN];rw[aW,aa (ah (by omega) (by omega)),aa (decide_eq_true hi2),aa (ab (by omega) (by omega)),EC _ _ hi2];have e:=J3 (elt l n) (bt b) hi2;unfold uW at e;rw[show b.getD i none=bt b i from rfl,<- e];have e3:=Jd n (uX (elt l n) (bt b) n) hm;rw[hi]at e3;rw[e3];have e2:(((o||orD (uP (elt l n) (bt b) n) n m)||sO (bt b i) (λt=>elt l n (i+1+t) i) (λt=>uX (elt l n) (bt b) n (i+1+t)) (n - 1 - i)) || !bC (uX (elt l n) (bt b) n i))=(o||orD (uP (elt l n) (bt b) n) n (m+1)):=by rw[<- Gd o (uP (elt l n) (bt b) n) n m,hi];unfold uP;simp only[Bool.or_assoc]
  rw[e2];show K ((i:Int) - 1,_)=K ((n:Int) - 1 - ((m+1:Nat):Int),_);rw[show(i:Int) - 1=(n:Int) - 1 - ((m+1:Nat):Int) by omega]
 ·intro K;unfold dJ;dsimp only;rw[decide_eq_false (by omega:¬(n:Int) - 1 - (n:Int)>=0),cond_false,N5]
theorem pu {n:Nat} {l l':Nat->Nat->Fl} {b b':Nat->Fl} (hl:∀ i j,i<n->j<=i->l i j=l' i j) (hb:∀ i,i<n->b i=b' i):∀ i,i<n->dX l b i=dX l' b' i:=by
 intro i;induction i using Nat.strongRecOn with
 | _ i ih=>
  intro hi;rw[I5,I5];unfold dW;rw[hb i hi,hl i i hi (Nat.le_refl _),kT (λa ha=>hl i a hi (by omega)) (λa ha=>ih a ha (by omega))]
theorem Am {n:Nat} {l l':Nat->Nat->Fl} {b b':Nat->Fl} (hl:∀ i j,i<n->j<=i->l i j=l' i j) (hb:∀ i,i<n->b i=b' i):∀ i,i<n->dP l b i=dP l' b' i:=by intro i hi;unfold dP;rw[pu hl hb i hi,hb i hi,Bu (λa ha=>hl i a hi (by omega)) (λa ha=>pu hl hb a (by omega))]
theorem tL {n:Nat} {l l':Nat->Nat->Fl} {b b':Nat->Fl} (hl:∀ i j,i<n->j<=i->l i j=l' i j) (hb:∀ i,i<n->b i=b' i):∀ d i,n - i=d->i<n->uX l b n i=uX l' b' n i:=by
 intro d;induction d using Nat.strongRecOn with
 | _ d ih=>
  intro i hd hi;rw[J3 _ _ hi,J3 _ _ hi];unfold uW;rw[hb i hi,hl i i hi (Nat.le_refl _),kT (f':=λt=>l' (i+1+t) i) (g':=λt=>uX l' b' n (i+1+t)) (λa ha=>hl _ _ (by omega) (by omega)) (λa ha=>ih (n - (i+1+a)) (by omega) _ rfl (by omega))]
theorem BU {n:Nat} {l l':Nat->Nat->Fl} {b b':Nat->Fl} (hl:∀ i j,i<n->j<=i->l i j=l' i j) (hb:∀ i,i<n->b i=b' i):∀ i,i<n->uP l b n i=uP l' b' n i:=by intro i hi;unfold uP;rw[tL hl hb _ i rfl hi,hb i hi,Bu (f':=λt=>l' (i+1+t) i) (g':=λt=>uX l' b' n (i+1+t)) (λa ha=>hl _ _ (by omega) (by omega)) (λa ha=>tL hl hb _ _ rfl (by omega))]
theorem pO {p q:Nat->Bool}:∀{n:Nat},(∀ i,i<n->p i=q i)->orB p n=orB q n
 | 0,_=>rfl
 | n+1,h=>by show(orB p n||p n)=(orB q n||q n);rw[pO (λi hi=>h i (by omega)),h n (by omega)]
theorem ur {p q:Nat->Bool} {n:Nat} (h:∀ i,i<n->p i=q i):∀{m:Nat},m<=n->orD p n m=orD q n m
 | 0,_=>rfl
 | m+1,hm=>by show(orD p n m||p (n - 1 - m))=(orD q n m||q (n - 1 - m));rw[ur h (by omega),h _ (by omega)]
def kb (i j:Nat):Fl:=if i=j then some 4607182418800017408 else some 0
theorem A6 {N n i:Nat} (hN:1000<=N) (hn:n<=12) (hi:i<n) (t17 t18 t6 t7 m1 m2:Int) (e0:List Fl->Bool) :
  ai N (GO N n i t17 t18 n t6 t7 m1 m2 e0) (0,(mf n kb).take (i*n))=e0 ((mf n kb).take ((i+1)*n)):=by
 have hn2:=rE hn;have z0:(((0:Int),(mf n kb).take (i*n)):Int × List Fl)=(λt:Nat=>((t:Int),(mf n kb).take (i*n+t))) 0:=rfl;rw[z0];refine ax (λt:Nat=>((t:Int),(mf n kb).take (i*n+t))) n (by omega) ?_ ?_
 ·intro t ht K;unfold GO;dsimp only;have h1:=f_ hi ht;rw[decide_eq_true (by omega:(t:Int)<(n:Int)),cond_true];rw[show ∀ k:Fl->Bool,Pn N (i:Int) (t:Int) k=k (kb i t) from λk=>by
   unfold Pn RW kb;by_cases h:i=t
   ·rw[if_pos h,h,show((t:Int)==(t:Int))=true by simp]; rfl
   ·rw[if_neg h,show((i:Int)==(t:Int))=false by simp; omega]; rfl]
  have e:=D4 n kb hi ht
  try dsimp only at e
  rw[e,aa (decide_eq_true (by rw[List.length_take,bD]; omega)),aa (ab (by omega) (by omega))];rfl
 ·intro K;unfold GO;dsimp only;rw[decide_eq_false (by omega:¬(n:Int)<(n:Int)),cond_false,tg]
theorem HW {N n:Nat} (hN:1000<=N) (hn:n<=12) (k:List Fl->Bool):O9 N n n k=k (mf n kb):=by
 (unfold O9; rw[ac]; unfold Mz)
 have hn2:=rE hn;rw[<- Int.natCast_mul,aa (ab (by omega) (by omega)),aa (bE (by omega) (by omega) (by omega) (by omega))];have z0:(((0:Int),[]):Int × List Fl)=(λt:Nat=>((t:Int),(mf n kb).take (t*n))) 0:=by show _=(((0:Nat):Int),(mf n kb).take (0*n));rw[Nat.zero_mul]; rfl
 rw[z0];refine ax (λt:Nat=>((t:Int),(mf n kb).take (t*n))) n (by omega) ?_ ?_
 ·intro t ht K;unfold gf;dsimp only;rw[decide_eq_true (by omega:(t:Int)<(n:Int)),cond_true,A6 hN hn ht,aa (ab (by omega) (by omega))];rfl
 ·intro K;unfold gf;dsimp only;rw[decide_eq_false (by omega:¬(n:Int)<(n:Int)),cond_false,BT]
theorem xI {N n i:Nat} (hN:1000<=N) (hn:n<=12) (hi:i<n) (t17 t18 t6 t7 m1 m2:Int) (e0:List Fl->Bool) :
  ai N (BH N n i t17 t18 n t6 t7 m1 m2 e0) (0,(mf n (λ_ _=>some 0)).take (i*n))=e0 ((mf n (λ_ _=>some 0)).take ((i+1)*n)):=by
 have hn2:=rE hn;have z0:(((0:Int),(mf n (λ_ _=>some 0)).take (i*n)):Int × List Fl)=(λt:Nat=>((t:Int),(mf n (λ_ _=>some 0)).take (i*n+t))) 0:=rfl;rw[z0];refine ax (λt:Nat=>((t:Int),(mf n (λ_ _=>some 0)).take (i*n+t))) n (by omega) ?_ ?_
 ·intro t ht K;unfold BH;dsimp only;have h1:=f_ hi ht;rw[decide_eq_true (by omega:(t:Int)<(n:Int)),cond_true];rw[show ∀ k:Fl->Bool,Sn N (i:Int) (t:Int) k=k (some 0) from λ_=>rfl];have e:=D4 n (λ_ _=>some 0) hi ht
  try dsimp only at e
  rw[e,aa (decide_eq_true (by rw[List.length_take,bD]; omega)),aa (ab (by omega) (by omega))];rfl
 ·intro K;unfold BH;dsimp only;rw[decide_eq_false (by omega:¬(n:Int)<(n:Int)),cond_false,tg]
theorem DR {N n:Nat} (hN:1000<=N) (hn:n<=12) (k:List Fl->Bool):VG N n n k=k (mf n (λ_ _=>some 0)):=by
 (unfold VG; rw[ac]; unfold SG)
 have hn2:=rE hn;rw[<- Int.natCast_mul,aa (ab (by omega) (by omega)),aa (bE (by omega) (by omega) (by omega) (by omega))];have z0:(((0:Int),[]):Int × List Fl)=(λt:Nat=>((t:Int),(mf n (λ_ _=>some 0)).take (t*n))) 0:=by show _=(((0:Nat):Int),(mf n (λ_ _=>some 0)).take (0*n));rw[Nat.zero_mul]; rfl
 rw[z0];refine ax (λt:Nat=>((t:Int),(mf n (λ_ _=>some 0)).take (t*n))) n (by omega) ?_ ?_
 ·intro t ht K;unfold Ew;dsimp only;rw[decide_eq_true (by omega:(t:Int)<(n:Int)),cond_true,xI hN hn ht,aa (ab (by omega) (by omega))];rfl
 ·intro K;unfold Ew;dsimp only;rw[decide_eq_false (by omega:¬(n:Int)<(n:Int)),cond_false,BT]
theorem OB {N n:Nat} (hN:1000<=N) (hn:n<=12) {xs:List Fl} (hl:xs.length=n*n) (k:List Fl->Bool):VO N n n n xs k=k (mf n (mir (elt xs n))):=by
 (unfold VO; rw[ac]; unfold SZ)
 rw[DR hN hn,zN n (elt xs n)];refine ax (λi:Nat=>((i:Int),mf n (mS (elt xs n) i 0))) n (by omega) ?_ ?_
 ·intro i hi K;unfold Er;dsimp only;rw[decide_eq_true (by omega:(i:Int)<(n:Int)),cond_true,aa (ab (by omega) (by omega))];refine(ax (λj:Nat=>((j:Int),mf n (mS (elt xs n) i j))) (i+1) (N:=N) (by omega) (out:=K ((((i+1:Nat)):Int),mf n (mS (elt xs n) (i+1) 0))) ?_ ?_:_)
  ·intro j hj K';have hj2:j<n:=by omega
   obtain⟨f1,f2⟩:=cJ (by omega:n<=1000) hi hj2;obtain⟨g1,g2⟩:=cJ (by omega:n<=1000) hj2 hi;have b1:=f_ hi hj2;have b2:=f_ hj2 hi;unfold Es;dsimp only;rw[decide_eq_true (by omega:(j:Int)<(i:Int)+1),cond_true];unfold Sg RI;rw[zL hn hi hj2 hl];dsimp only;rw[cI,cI,aa f1,aa f2,aa g1,aa g2,Int.toNat_natCast,Int.toNat_natCast,List.length_set,bD,aa (ah (by omega) (by omega)),aa (decide_eq_true b1),aa (ah (by omega) (by omega)),aa (decide_eq_true b2),aa (ab (by omega) (by omega)),sL n _ hi hj2,sL n _ hj2 hi,zM n (elt xs n) hj];rfl
  ·intro K';unfold Es;dsimp only;rw[decide_eq_false (by omega:¬((i+1:Nat):Int)<(i:Int)+1),cond_false,aa (ab (by omega) (by omega)),D3];rfl
 ·intro K;unfold Er;dsimp only;rw[decide_eq_false (by omega:¬(n:Int)<(n:Int)),cond_false,D2]
theorem A7 {N:Nat} (hN:1000<=N) (a b:Int) (k:Int->Bool):Gp N [a,b] k=k (if a ≠ 0 then a else b):=by
 (unfold Gp; rw[ac]; unfold Mo)
 obtain⟨M,rfl⟩:∃ M,N=M+3:=⟨N - 3,by omega⟩
 by_cases h:a=0
 ·subst h;by_cases h2:b=0
  ·subst h2; rfl
  ·rw[if_neg (λq=>q rfl)];have e:(b != 0)=true:=by simp[h2]
   show cond (b != 0) (k b) _=k b;rw[e,cond_true]
 ·rw[if_pos h];have e:(a != 0)=true:=by simp[h]
  show cond (a != 0) (k a) _=k a;rw[e,cond_true]
theorem FV {N n:Nat} (hN:1000<=N) (hn:n<=12) {xs:List Fl} (hl:xs.length=n*n) (hf:aG xs=true) (k:Int->Bool):Pi N n n xs k=k 0:=by unfold Pi RP Gt MA;rw[ga hN,vm hn hl hf,show((n:Int) != (n:Int))=false by simp,cond_false];dsimp only;rw[A7 hN];rfl
theorem HN {N n:Nat} (hN:1000<=N) (hn:n<=12) {xs:List Fl} (hl:xs.length=n*n) (hf:aG xs=true) (k:Int->Int->List Fl->Int->Bool):O8 N n n xs k=k n n (mf n (mir (elt xs n))) 0:=by
 (unfold O8; rw[ac]; unfold My)
 rw[FV hN hn hl hf,show((0:Int) != 0)=false from rfl,cond_false,OB hN hn hl]
theorem Qy {N n:Nat} (hN:1000<=N) (hn:n<=12) (k:Int->Int->List Fl->Int->Bool):qZ N n k=k n n (mf n kb) 0:=by unfold qZ v8 LN S5 w7 wa;dsimp only;rw[decide_eq_true (by omega:(n:Int)>=0),decide_eq_true (by omega:(n:Int)<=12),HW hN hn];rfl
theorem OA {N n j:Nat} (hN:1000<=N) (hn:n<=12) (hj:j<n) {xs:List Fl} (hl:xs.length=n*n) (hf:aG xs=true) (k:List Fl->Int->Bool):qY N n n xs j k=k (vf n (λt=>elt xs n t j)) 0:=by
 (unfold qY; rw[ac]; unfold qf nO Gt MA)
 rw[ga hN,vm hn hl hf,decide_eq_false (by omega:¬(j:Int)<0),show(false==false)=true from rfl,cond_true,decide_eq_false (by omega:¬(j:Int)>=(n:Int)),cond_false];dsimp only;rw[A7 hN,if_neg (λq=>q rfl),show((0:Int) != 0)=false from rfl,cond_false]
 (unfold w6; rw[ac]; unfold qg)
 refine ax (λt:Nat=>((t:Int),(vf n (λt=>elt xs n t j)).take t)) n (by omega) ?_ ?_
 ·intro t ht K;unfold j5;dsimp only;rw[decide_eq_true (by omega:(t:Int)<(n:Int)),cond_true,zL hn ht hj hl];have e:=rh n (λt=>elt xs n t j) ht;rw[e,aa (decide_eq_true (by rw[List.length_take,aW]; omega)),aa (ab (by omega) (by omega))];rfl
 ·intro K;unfold j5;dsimp only;rw[decide_eq_false (by omega:¬(n:Int)<(n:Int)),cond_false,List.take_of_length_le (by rw[aW]; omega)]
def slX (n:Nat) (L:Nat->Nat->Fl) (b:Nat->Fl):Nat->Fl:=uX L (dX L b) n
def slO (n:Nat) (L:Nat->Nat->Fl) (b:Nat->Fl):Bool:=orB (dP L b) n||orD (uP L (dX L b) n) n n
theorem Ji {N n:Nat} (hN:1000<=N) (hn:n<=12) (L:Nat->Nat->Fl) {b:List Fl} (hb:b.length=n) (r:Int) (o:Bool) (k:List Fl->Bool->Bool) :
  (cN N r n (mf n L) b o λx o1=>dF N r n (mf n L) x o1 k)=k (vf n (slX n L (bt b))) (o||slO n L (bt b)):=by
 have hL:∀ i j,i<n->j<=i->elt (mf n L) n i j=L i j:=λi j hi hj=>ju n L hi (by omega)
 have hB:∀ i,i<n->bt (vf n (dX (elt (mf n L) n) (bt b))) i=dX L (bt b) i:=λi hi=>(eS n _ hi none).trans (pu hL (λ_ _=>rfl) i hi)
 rw[QC hN hn (bD n L) hb,QE hN hn (bD n L) (aW _ _)];rw[jV (g':=slX n L (bt b)) (λi hi=>tL hL hB _ i rfl hi),pO (q:=dP L (bt b)) (Am hL (λ_ _=>rfl)),ur (q:=uP L (dX L (bt b)) n) (BU hL hB) (Nat.le_refl _),Bool.or_assoc];rfl
def smX (n:Nat) (L B:Nat->Nat->Fl) (i j:Nat):Fl:=slX n L (λt=>B t j) i
def smO (n:Nat) (L B:Nat->Nat->Fl):Bool:=orB (λj=>slO n L (λt=>B t j)) n
def smS (g:Nat->Nat->Fl) (j i:Nat):Nat->Nat->Fl:=λa b=>if b<j\/(b=j/\a<i)then g a b else some 0
theorem GE (n:Nat) (g:Nat->Nat->Fl):mf n (λ_ _=>some 0)=mf n (smS g 0 0):=bu n (λa b _ _=>by unfold smS; rw[if_neg (by omega)])
theorem JY (n:Nat) (g:Nat->Nat->Fl) (j:Nat):mf n (smS g j n)=mf n (smS g (j+1) 0):=bu n (λa b ha _=>by
 unfold smS;by_cases h:b<j\/(b=j/\a<n)
 ·rw[if_pos h,if_pos (by omega)]
 ·rw[if_neg h,if_neg (by omega)])
theorem JZ (n:Nat) (g:Nat->Nat->Fl):mf n (smS g n 0)=mf n g:=bu n (λa b _ hb=>by unfold smS; rw[if_pos (.inl hb)])
theorem GD (n:Nat) (g:Nat->Nat->Fl) (j i:Nat):mf n (λa b=>if a=i/\b=j then g i j else smS g j i a b)=mf n (smS g j (i+1)):=bu n (λa b _ _=>by
 unfold smS;by_cases h1:a=i/\b=j
 ·rw[if_pos h1,if_pos (by omega),h1.1,h1.2]
 ·rw[if_neg h1];by_cases h2:b<j\/(b=j/\a<i)
  ·rw[if_pos h2,if_pos (by omega)]
  ·rw[if_neg h2,if_neg (by omega)])
theorem xY {n:Nat} {L:Nat->Nat->Fl} {b b':Nat->Fl} (hb:∀ i,i<n->b i=b' i):∀ i,i<n->slX n L b i=slX n L b' i:=
 λi hi=>tL (λ_ _ _ _=>rfl) (λt ht=>pu (λ_ _ _ _=>rfl) hb t ht) _ i rfl hi
theorem xX {n:Nat} {L:Nat->Nat->Fl} {b b':Nat->Fl} (hb:∀ i,i<n->b i=b' i):slO n L b=slO n L b':=by unfold slO;rw[pO (q:=dP L b') (Am (λ_ _ _ _=>rfl) hb),ur (q:=uP L (dX L b') n) (BU (λ_ _ _ _=>rfl) (λt ht=>pu (λ_ _ _ _=>rfl) hb t ht)) (Nat.le_refl _)]
theorem QB {N n:Nat} (hN:1000<=N) (hn:n<=12) (L:Nat->Nat->Fl) {B:List Fl} (hB:B.length=n*n) (fB:aG B=true) (t4 t5 o4 o5:Int) (e0:Bool->List Fl->Bool) :
  ai N (dH N n n n B t4 t5 n n (mf n L) o4 o5 e0) (0,false,mf n (λ_ _=>some 0))=e0 (smO n L (elt B n)) (mf n (smX n L (elt B n))):=by
 rw[GE n (smX n L (elt B n))];refine ax (λj:Nat=>((j:Int),orB (λj=>slO n L (λt=>elt B n t j)) j,mf n (smS (smX n L (elt B n)) j 0))) n (by omega) ?_ ?_
 ·intro j hj K;unfold dH;dsimp only;rw[decide_eq_true (by omega:(j:Int)<(n:Int)),cond_true,OA hN hn hj hB fB,Ji hN hn L (aW _ _)];have hb:∀ i,i<n->bt (vf n (λt=>elt B n t j)) i=elt B n i j:=λi hi=>eS n _ hi none
  rw[xX hb,jV (g':=λi=>smX n L (elt B n) i j) (λi hi=>xY hb i hi)];refine(ax (λi:Nat=>((i:Int),mf n (smS (smX n L (elt B n)) j i))) n (N:=N) (by omega) (out:=K ((((j+1:Nat)):Int),orB (λj=>slO n L (λt=>elt B n t j)) (j+1),mf n (smS (smX n L (elt B n)) (j+1) 0))) ?_ ?_:_)
  ·intro i hi K';obtain⟨f1,f2⟩:=cJ (by omega:n<=1000) hi hj;have b1:=f_ hi hj;unfold ge;dsimp only;rw[aW,decide_eq_true (by omega:(i:Int)<(n:Int)),cond_true,aa (ah (by omega) (by omega)),cI,aa f1,aa f2,bD,Int.toNat_natCast,Int.toNat_natCast,aa (ah (by omega) (by omega)),aa (decide_eq_true b1),aa (ab (by omega) (by omega)),eS n _ hi,sL n _ hi hj,GD];rfl
  ·intro K';unfold ge;dsimp only;rw[aW,decide_eq_false (by omega:¬(n:Int)<(n:Int)),cond_false,aa (ab (by omega) (by omega)),JY];rfl
 ·intro K;unfold dH;dsimp only;rw[decide_eq_false (by omega:¬(n:Int)<(n:Int)),cond_false,JZ];rfl
def smK (r c:Int) (a B:List Fl) (k:KC):Bool:=
 if sqE r c a ≠ 0 then k 0 0 [] 0 (sqE r c a)
 else if (cR (elt a r.toNat) r.toNat r.toNat 0 false).2 ≠ 0 then k 0 0 [] (cR (elt a r.toNat) r.toNat r.toNat 0 false).1 (cR (elt a r.toNat) r.toNat r.toNat 0 false).2
 else if smO r.toNat (cL (elt a r.toNat)) (elt B r.toNat)=true then k 0 0 [] 0 5
 else k r r (mf r.toNat (smX r.toNat (cL (elt a r.toNat)) (elt B r.toNat))) 0 0
theorem DP {N n:Nat} (hN:1000<=N) (hn:n<=12) (c:Int) (a:List Fl) {B:List Fl} (hB:B.length=n*n) (fB:aG B=true) (k:KC):mX N n c a n n B k=smK n c a B k:=by
 (unfold mX; rw[ac]; unfold mR smK)
 rw[xF hN];by_cases h0:evE n c a=0
 ·obtain⟨m,hm,e1,rfl,hl,hf⟩:=mw h0;obtain rfl:n=m:=by omega
  have n2:=rE hn;rw[h0,show((0:Int) != 0)=false from rfl,cond_false,ga hN,vm hn hB fB,show((0:Int) != 0)=false from rfl,cond_false,show((n:Int) != (n:Int))=false by simp,cond_false,FI hN];unfold chK;by_cases h1:sqE n n a=0
  ·rw[ifz h1,ifz h1];by_cases h2:(cR (elt a (n:Int).toNat) (n:Int).toNat (n:Int).toNat 0 false).2=0
   ·rw[ifz h2,ifz h2];dsimp only;rw[show((0:Int) != 0)=false from rfl,cond_false,hB,aa (bE (by omega) (by omega) (by omega) (by omega)),Int.toNat_natCast,Int.toNat_natCast,zP,QB hN hn _ hB fB];cases smO n (cL (elt a n)) (elt B n) <;> rfl
   ·rw[eu h2,eu h2];dsimp only;rw[aF _ _ h2,cond_true]
  ·rw[eu h1,eu h1];dsimp only;rw[aF _ _ h1,cond_true]
 ·have e:sqE n c a=evE n c a:=by unfold sqE; rw[if_pos h0]
  rw[e,eu h0,aF _ _ h0,cond_true]
def ivK (r c:Int) (a:List Fl) (k:KC):Bool:=
 if sqE r c a ≠ 0 then k 0 0 [] 0 (sqE r c a)
 else if (cR (elt a r.toNat) r.toNat r.toNat 0 false).2 ≠ 0 then k 0 0 [] (cR (elt a r.toNat) r.toNat r.toNat 0 false).1 (cR (elt a r.toNat) r.toNat r.toNat 0 false).2
 else if smO r.toNat (cL (elt a r.toNat)) kb=true then k 0 0 [] 0 5
 else k r r (mf r.toNat (mir (smX r.toNat (cL (elt a r.toNat)) kb))) 0 0
def isz (x:Fl):Bool:=match x with | some b=>b==0 | none=>false
def WX (xs:List Fl) (n i:Nat):Bool:=zj (λj=>isz (elt xs n i j)) i
def Xj (xs:List Fl) (n:Nat):Bool:=zj (λi=>Xr xs n i&&WX xs n i) n
def WR (x:List Fl) (r c:Int) (xs:List Fl):Int:=
 if chk r c xs ≠ 0 then chk r c xs else if r=c/\(x.length:Int)=r then(if aG x=true then(if Xj xs x.length=true then 0 else 171)else 4)else 3
theorem P7:cn (some 0)=some 0:=Ho (by rfl)
theorem uy {n:Nat} {L B B':Nat->Nat->Fl} (h:∀ i j,i<n->j<n->B i j=B' i j):∀ i j,i<n->j<n->smX n L B i j=smX n L B' i j:=
 λi j hi hj=>xY (λt ht=>h t j ht hj) i hi
theorem Dk {n:Nat} {L B B':Nat->Nat->Fl} (h:∀ i j,i<n->j<n->B i j=B' i j):smO n L B=smO n L B':=
 pO λj hj=>xX λt ht=>h t j ht hj
theorem JW {n:Nat} {L:Nat->Nat->Fl} {b:Nat->Fl} (h:slO n L b=false):∀ i,i<n->bC (slX n L b i)=true:=by intro i hi;unfold slO at h;rw[Bool.or_eq_false_iff]at h;have:=C9 (Nat.le_refl n) h.2 i (by omega) hi;unfold uP at this;rw[Bool.or_eq_false_iff]at this;show bC (uX L (dX L b) n i)=true;simpa using this.2
theorem JX {n:Nat} {L B:Nat->Nat->Fl} (h:smO n L B=false):∀ i j,i<n->j<n->bC (smX n L B i j)=true:=
 λi j hi hj=>JW (nD h j hj) i hi
theorem Gb (n:Nat):aG (mf n kb)=true:=xO λa b _ _=>by unfold kb; by_cases h:a=b <;> simp only[h,if_true,if_false] <;> rfl
theorem yG {N:Nat} (hN:1000<=N) (r c:Int) (a:List Fl) (k:KC):kU N r c a k=ivK r c a k:=by
 (unfold kU; rw[ac]; unfold nJ ivK)
 rw[yK hN];by_cases h0:sqE r c a=0
 ·obtain⟨n,hn,rfl,rfl,hl,hf,hs⟩:=tF h0;rw[ifz h0,h0,show((0:Int) != 0)=false from rfl,cond_false,Qy hN hn];rw[DP hN hn _ _ (bD n _) (Gb n)];unfold smK;rw[ifz h0,Int.toNat_natCast];have hB:∀ i j,i<n->j<n->elt (mf n kb) n i j=kb i j:=λi j hi hj=>ju n _ hi hj
  by_cases h1:(cR (elt a n) n n 0 false).2=0
  ·rw[ifz h1,ifz h1,Dk hB];cases h2:smO n (cL (elt a n)) kb
   ·rw[if_neg (by decide),if_neg (by decide)];have hf2:aG (mf n (smX n (cL (elt a n)) (elt (mf n kb) n)))=true:=xO λi j hi hj=>by rw[uy hB i j hi hj]; exact JX h2 i j hi hj
    dsimp only;rw[show((0:Int) != 0)=false from rfl,cond_false,HN hN hn (bD n _) hf2];have e:mf n (mir (elt (mf n (smX n (cL (elt a n)) (elt (mf n kb) n))) n))=mf n (mir (smX n (cL (elt a n)) kb)):=bu n λi j hi hj=>by unfold mir;rw[ju n _ hi hj,ju n _ hj hi,uy hB i j hi hj,uy hB j i hj hi]
    rw[e]
   ·rfl
  ·rw[eu h1,eu h1];dsimp only;rw[aF _ _ h1,cond_true]
 ·rw[eu h0,aF _ _ h0,cond_true]
def AA (r:Int) (b:List Fl):Int:=if (b.length:Int) ≠ r then 3 else if aG b=false then 4 else 0
theorem CG {r:Int} {b:List Fl} (h:AA r b=0):(b.length:Int)=r/\aG b=true:=by
 unfold AA at h;split at h
 ·cases h
 ·rename_i h1;split at h
  ·cases h
  ·rename_i h2;exact⟨by simpa using h1,by simpa using h2⟩
theorem K0 {N:Nat} (hN:1000<=N) (n:Nat) (hn:n<=12) (b:List Fl) (k:Int->Bool):tk N n b k=k (AA n b):=by
 (unfold tk; rw[ac]; unfold rU AA)
 by_cases h:(b.length:Int)=n
 ·rw[if_neg (λq=>q h),show(((b.length:Nat):Int) != (n:Int))=false by simp[h],cond_false,oa b ⟨by omega,by omega⟩];cases aG b <;> rfl
 ·rw[if_pos h,aF _ _ h,cond_true]
abbrev KVx:=List Fl->Int->Int->Bool
def svK (r c:Int) (a b:List Fl) (k:KVx):Bool:=
 if evE r c a ≠ 0 then k [] 0 (evE r c a)else if AA r b ≠ 0 then k [] 0 (AA r b)
 else if sqE r c a ≠ 0 then k [] 0 (sqE r c a)
 else if (cR (elt a r.toNat) r.toNat r.toNat 0 false).2 ≠ 0 then k [] (cR (elt a r.toNat) r.toNat r.toNat 0 false).1 (cR (elt a r.toNat) r.toNat r.toNat 0 false).2
 else if slO r.toNat (cL (elt a r.toNat)) (bt b)=true then k [] 0 5
 else k (vf r.toNat (slX r.toNat (cL (elt a r.toNat)) (bt b))) 0 0
theorem KW {N:Nat} (hN:1000<=N) (r c:Int) (a b:List Fl) (k:KVx):qV N r c a b k=svK r c a b k:=by
 (unfold qV; rw[ac]; unfold p9 svK)
 rw[xF hN];by_cases h0:evE r c a=0
 ·obtain⟨n,hn,rfl,rfl,hl,hf⟩:=mw h0;rw[ifz h0,h0,show((0:Int) != 0)=false from rfl,cond_false,K0 hN n hn];by_cases h1:AA n b=0
  ·have hb:b.length=n:=by have:=(CG h1).1; omega
   rw[ifz h1,h1,show((0:Int) != 0)=false from rfl,cond_false,FI hN];unfold chK;by_cases h2:sqE n n a=0
   ·rw[ifz h2,ifz h2,Int.toNat_natCast];by_cases h3:(cR (elt a n) n n 0 false).2=0
    ·rw[ifz h3,ifz h3];dsimp only;rw[show((0:Int) != 0)=false from rfl,cond_false,Ji hN hn _ hb];cases slO n (cL (elt a n)) (bt b) <;> rfl
    ·rw[eu h3,eu h3];dsimp only;rw[aF _ _ h3,cond_true]
   ·rw[eu h2,eu h2];dsimp only;rw[aF _ _ h2,cond_true]
  ·rw[eu h1,aF _ _ h1,cond_true]
 ·rw[eu h0,aF _ _ h0,cond_true]
def rL (A:Nat->Nat->Fl) (j i:Nat):Nat->Nat->Fl:=λa b=>if b<=a/\(b<j\/(b=j/\a<i))then cL A a b else some 0
theorem Rb (n:Nat) (A:Nat->Nat->Fl):mf n (λ_ _=>some 0)=mf n (rL A 0 0):=bu n (λa b _ _=>by unfold rL; rw[if_neg (by omega)])
theorem Vy (n:Nat) (A:Nat->Nat->Fl) (j:Nat):mf n (rL A j n)=mf n (rL A (j+1) 0):=bu n (λa b ha _=>by
 unfold rL;by_cases h:b<=a/\(b<j\/(b=j/\a<n))
 ·rw[if_pos h,if_pos ⟨h.1,by omega⟩]
 ·rw[if_neg h,if_neg (by omega)])
theorem Vz (n:Nat) (A:Nat->Nat->Fl) (j:Nat):mf n (λa b=>if a=j/\b=j then cL A j j else rL A j 0 a b)=mf n (rL A j (j+1)):=bu n (λa b _ _=>by
 unfold rL;by_cases h1:a=j/\b=j
 ·rw[if_pos h1,if_pos (by omega),h1.1,h1.2]
 ·rw[if_neg h1];by_cases h2:b<=a/\(b<j\/(b=j/\a<0))
  ·rw[if_pos h2,if_pos (by omega)]
  ·rw[if_neg h2,if_neg (by omega)])
theorem Ra (n:Nat) (A:Nat->Nat->Fl) {j i:Nat} (h:j<i):mf n (λa b=>if a=i/\b=j then cL A i j else rL A j i a b)=mf n (rL A j (i+1)):=bu n (λa b _ _=>by
 unfold rL;by_cases h1:a=i/\b=j
 ·rw[if_pos h1,if_pos (by omega),h1.1,h1.2]
 ·rw[if_neg h1];by_cases h2:b<=a/\(b<j\/(b=j/\a<i))
  ·rw[if_pos h2,if_pos (by omega)]
  ·rw[if_neg h2,if_neg (by omega)])
theorem VA (n:Nat) (A:Nat->Nat->Fl):mf n (rL A n 0)=mf n (cL A):=bu n (λa b ha hb=>by
 unfold rL;by_cases h:b<=a
 ·rw[if_pos (by omega)]
 ·rw[if_neg (by omega),RZ A (by omega)])
theorem Is {n:Nat} (A:Nat->Nat->Fl) {j i x c:Nat} (hx:x<n) (hj:j<=x) (hn:c<n) (hc:c<j):elt (mf n (rL A j i)) n x c=cL A x c:=by rw[ju n _ hx hn]; unfold rL; rw[if_pos (by omega)]
theorem Q_ {n:Nat} (A:Nat->Nat->Fl) {j i:Nat} (hj:j<n) (hi:j<i):elt (mf n (rL A j i)) n j j=cL A j j:=by rw[ju n _ hj hj]; unfold rL; rw[if_pos (by omega)]
theorem QM {N n j:Nat} (hN:1000<=N) (hn:n<=12) (hj:j<n) (A:Nat->Nat->Fl) (u v t2 t3:Int) (a:List Fl) (o:Bool) (e0:Fl->Bool->Bool) :
  ai N (jS N n j u v a t2 t3 n n (mf n (rL A j 0)) e0) (A j j,0,o)=e0 (cV A j j) (o||cO A j j):=by
 have h0:((A j j,(0:Int),o):Fl × Int × Bool)=(λt:Nat=>(sV (A j j) (cL A j) (cL A j) t,(t:Int),(o||sO (A j j) (cL A j) (cL A j) t))) 0:=by show _=(A j j,((0:Nat):Int),(o||false)); rw[kO]; rfl
 rw[h0];refine ax (λt:Nat=>(sV (A j j) (cL A j) (cL A j) t,(t:Int),(o||sO (A j j) (cL A j) (cL A j) t))) j (by omega) ?_ ?_
 ·intro t ht K;have ht2:t<n:=by omega
  unfold jS;dsimp only;rw[decide_eq_true (by omega:(t:Int)<(j:Int)),cond_true,cd hn hj ht2 (bD n _),cd hn hj ht2 (bD n _),lG,lG,Is A hj (Nat.le_refl _) ht2 ht,aa (ab (by omega) (by omega)),qR];rfl
 ·intro K;unfold jS;dsimp only;rw[decide_eq_false (by omega:¬(j:Int)<(j:Int)),cond_false];rfl
theorem QN {N n j i:Nat} (hN:1000<=N) (hn:n<=12) (hj:j<i) (hi:i<n) (A:Nat->Nat->Fl) (u v t2 t3:Int) (a:List Fl) (o:Bool) (e0:Fl->Bool->Bool) :
  ai N (jU N n j i u v a t2 t3 n n (mf n (rL A j i)) e0) (A i j,0,o)=e0 (cV A i j) (o||cO A i j):=by
 have h0:((A i j,(0:Int),o):Fl × Int × Bool)=(λt:Nat=>(sV (A i j) (cL A i) (cL A j) t,(t:Int),(o||sO (A i j) (cL A i) (cL A j) t))) 0:=by show _=(A i j,((0:Nat):Int),(o||false)); rw[kO]; rfl
 rw[h0];refine ax (λt:Nat=>(sV (A i j) (cL A i) (cL A j) t,(t:Int),(o||sO (A i j) (cL A i) (cL A j) t))) j (by omega) ?_ ?_
 ·intro t ht K;have ht2:t<n:=by omega
  unfold jU;dsimp only;rw[decide_eq_true (by omega:(t:Int)<(j:Int)),cond_true,cd hn hi ht2 (bD n _),cd hn (by omega) ht2 (bD n _),lG,lG,Is A hi (by omega) ht2 ht,Is A (by omega) (Nat.le_refl _) ht2 ht,aa (ab (by omega) (by omega)),qR];rfl
 ·intro K;unfold jU;dsimp only;rw[decide_eq_false (by omega:¬(j:Int)<(j:Int)),cond_false];rfl
theorem Nr (A:Nat->Nat->Fl) (j:Nat):∀ i,i<=j+1->cC A j i=false
 | 0,_=>rfl
 | i+1,h=>by show(cC A j i||(decide (j<i)&&cQ A i j))=false;rw[Nr A j i (by omega),decide_eq_false (by omega:¬ j<i)]; rfl
theorem QL {N n j:Nat} (hN:1000<=N) (hn:n<=12) (hj:j<n) {a:List Fl} (ha:a.length=n*n) (t2 t3:Int) (o:Bool) (e0:Bool->List Fl->Bool) :
  ai N (jT N n j n n a t2 t3 n n e0) ((j:Int)+1,o,mf n (rL (elt a n) j (j+1)))=e0 (o||cC (elt a n) j n) (mf n (rL (elt a n) j n)):=by
 have h1:(((j:Int)+1,o,mf n (rL (elt a n) j (j+1))):Int × Bool × List Fl)=(λt:Nat=>(((j+1+t:Nat):Int),(o||cC (elt a n) j (j+1+t)),mf n (rL (elt a n) j (j+1+t)))) 0:=by show _=(((j+1:Nat):Int),(o||cC (elt a n) j (j+1)),_); rw[Nr _ _ _ (Nat.le_refl _),kO]; rfl
 rw[h1];refine ax (λt:Nat=>(((j+1+t:Nat):Int),(o||cC (elt a n) j (j+1+t)),mf n (rL (elt a n) j (j+1+t)))) (n - (j+1)) (by omega) ?_ ?_
 ·intro t ht K;obtain⟨i,hi⟩:∃ i,j+1+t=i:=⟨_,rfl⟩
  have hi2:i<n:=by omega
  have hji:j<i:=by omega
  unfold jT;dsimp only;rw[hi,decide_eq_true (by omega:(i:Int)<(n:Int)),cond_true,cd hn hi2 hj ha];refine(QN hN hn hji hi2 (elt a n) _ _ _ _ _ _ _).trans ?_;rw[cd hn hj hj (bD n _),Q_ _ hj hji,lG,mb hn hi2 hj,aa (ab (by omega) (by omega)),<- Ns _ hji,Ra n _ hji];have e:(((o||cC (elt a n) j i)||cO (elt a n) i j) || !bC (cL (elt a n) i j))=(o||cC (elt a n) j (i+1)):=by rw[<- Dw,decide_eq_true hji,Bool.true_and];unfold cQ;simp only[Bool.or_assoc]
  rw[e,<- hi];rfl
 ·intro K;unfold jT;dsimp only;rw[show j+1+(n - (j+1))=n by omega,decide_eq_false (by omega:¬(n:Int)<(n:Int)),cond_false]
theorem WJ {A:Nat->Nat->Fl} {n d j:Nat} (h:cO A j j=true):cR A n (d+1) j false=(0,5):=by unfold cR; rw[h]; rfl
theorem WK {A:Nat->Nat->Fl} {n d j:Nat} (h:cO A j j=false) (h2:fgt (cV A j j) (some 0)=false):cR A n (d+1) j false=((j:Int),90):=by unfold cR; rw[h,h2]; rfl
theorem WL {A:Nat->Nat->Fl} {n d j:Nat} (h:cO A j j=false) (h2:fgt (cV A j j) (some 0)=true):cR A n (d+1) j false=cR A n d (j+1) (cC A j n):=by
 conv=>lhs; unfold cR
 rw[h,h2]; rfl
theorem Jp {N n:Nat} (hN:1000<=N) (hn:n<=12) {a:List Fl} (ha:a.length=n*n) (t2 t3:Int) (k:KC) :
  ∀(d j M:Nat),j+d=n->d<M ->
  ai M (re N n n n a t2 t3 n n (λu v x y=>k x y [] u v) (λb=>k n n b 0 0)) ((j:Int),false,mf n (rL (elt a n) j 0)) =
   if (cR (elt a n) n d j false).2 ≠ 0 then k 0 0 [] (cR (elt a n) n d j false).1 (cR (elt a n) n d j false).2 else k n n (mf n (cL (elt a n))) 0 0
 | 0,j,M+1,hj,hM=>by
  obtain rfl:j=n:=by omega
  show re N j j j a t2 t3 j j _ _ _ _=_;unfold re;dsimp only;rw[decide_eq_false (by omega:¬(j:Int)<(j:Int)),cond_false,VA];rfl
 | d+1,j,M+1,hj,hM=>by
  have hj2:j<n:=by omega
  have ih:=Jp hN hn ha t2 t3 k d (j+1) M;show re N n n n a t2 t3 n n _ _ _ (ai M (re N n n n a t2 t3 n n _ _))=_;generalize ai M (re N n n n a t2 t3 n n _ _)=K at ih ⊢;unfold re;dsimp only;rw[decide_eq_true (by omega:(j:Int)<(n:Int)),cond_true,cd hn hj2 hj2 ha];refine(QM hN hn hj2 (elt a n) _ _ _ _ _ _ _).trans ?_;rw[Bool.false_or];cases h2:cO (elt a n) j j
  case true=>rw[WJ h2]; rfl
  rw[cond_false];cases h3:fgt (cV (elt a n) j j) (some 0)
  case false=>rw[WK h2 h3]; exact(eu (by show ¬(90:Int)=0; decide)).symm
  rw[WL h2 h3];unfold w5 zW Gv;dsimp only;rw[Bool.not_true,cond_false,<- Hk,mb hn hj2 hj2,Vz,aa (ab (by omega) (by omega))];refine(QL hN hn hj2 ha _ _ _ _).trans ?_;rw[Bool.false_or];cases h4:cC (elt a n) j n
  ·rw[cond_false,aa (ab (by omega) (by omega)),Vy];exact ih (by omega) (by omega)
  ·rw[cond_true,P4]; rfl
theorem xK {N:Nat} (hN:1000<=N) (r c:Int) (l:List Fl) (k:Int->Bool):Gx N r c l k=k (evE r c l):=by
 unfold Gx; rw[ac]; unfold MS evE;rw[pI hN];by_cases h0:chk r c l=0
 ·rw[h0,if_neg (λh=>h rfl),show((0:Int) != 0)=false from rfl,cond_false];by_cases h1:r=c
  ·rw[if_neg (λh=>h h1),show(r != c)=false by simp[h1],cond_false]
  ·rw[if_pos h1,aF _ _ h1,cond_true]
 ·rw[if_pos h0,aF _ _ h0,cond_true]
theorem Lg {N:Nat} (hN:1000<=N) (r c:Int) (l:List Fl) (k:Int->Bool):Iv N r c l k=k (sqE r c l):=by
 by_cases h0:evE r c l=0
 ·obtain⟨n,hn,rfl,rfl,hl,hf⟩:=mw h0;rw[A3 hN hn hl hf];unfold sqE;rw[ifz h0,Int.toNat_natCast];cases lw n l <;> rfl
 ·have e:sqE r c l=evE r c l:=by unfold sqE; rw[if_pos h0]
  rw[e];unfold Iv; rw[ac]; unfold PW;rw[pI hN];unfold evE at h0 ⊢;by_cases h1:chk r c l=0
  ·rw[ifz h1]at h0 ⊢;have h2:¬ r=c:=by intro h2;rw[if_neg (λq=>q h2)]at h0;exact h0 rfl
   rw[if_pos h2,h1,show((0:Int) != 0)=false from rfl,cond_false,aF _ _ h2,cond_true]
  ·rw[eu h1,aF _ _ h1,cond_true]
theorem CX {N:Nat} (hN:1000<=N) (r c:Int) (a:List Fl) (k:KC):q9 N r c a k=chK r c a k:=by
 unfold q9; rw[ac]; unfold vb chK;rw[Lg hN];by_cases h0:sqE r c a=0
 ·obtain⟨n,hn,rfl,rfl,hl,hf,hs⟩:=tF h0;rw[ifz h0,h0,show((0:Int) != 0)=false from rfl,cond_false,Int.toNat_natCast,lS hn,Rb n (elt a n)];exact Jp hN hn hl 0 0 k n 0 N (by omega) (by omega)
 ·rw[eu h0,aF _ _ h0,cond_true]
theorem OJ {N n i:Nat} (hN:1000<=N) (hn:n<=12) (hi:i<n) {l x:List Fl} (hl:l.length=n*n) (g:Nat->Fl) (hx:∀ t,t<i->x.getD t none=g t) (hxl:x.length=i) (b0:Fl) (b:List Fl) (o:Bool) (e0:Fl->Bool->Bool) :
  ai N (BK N b i n n l x e0) (b0,0,o)=e0 (sV b0 (elt l n i) g i) (o||sO b0 (elt l n i) g i):=by
 have h1:((b0,(0:Int),o):Fl × Int × Bool)=(λt:Nat=>(sV b0 (elt l n i) g t,(t:Int),(o||sO b0 (elt l n i) g t))) 0:=by show _=(b0,((0:Nat):Int),(o||false)); rw[kO]; rfl
 rw[h1];refine ax (λt:Nat=>(sV b0 (elt l n i) g t,(t:Int),(o||sO b0 (elt l n i) g t))) i (by omega) ?_ ?_
 ·intro t ht K;unfold BK;dsimp only;rw[decide_eq_true (by omega:(t:Int)<(i:Int)),cond_true,cd hn hi (by omega) hl,hxl,aa (ah (by omega) (by omega)),Int.toNat_natCast,aa (decide_eq_true ht),hx t ht,lG,lG,aa (ab (by omega) (by omega)),qR];rfl
 ·intro K;unfold BK;dsimp only;rw[decide_eq_false (by omega:¬(i:Int)<(i:Int)),cond_false]
theorem PN (n:Nat) (g:Nat->Fl) {i t:Nat} (ht:t<i) (hi:i<=n):((vf n g).take i).getD t none=g t:=by rw[List.getD_eq_getElem?_getD,List.getElem?_take,if_pos ht,<- List.getD_eq_getElem?_getD,eS n g (by omega)]
theorem QO {N n:Nat} (hN:1000<=N) (hn:n<=12) {l b:List Fl} (hl:l.length=n*n) (hb:b.length=n) (o:Bool) (k:List Fl->Bool->Bool) :
  Gq N n n l b o k=k (vf n (dX (elt l n) (bt b))) (o||orB (dP (elt l n) (bt b)) n):=by
 unfold Gq; rw[ac]; unfold Mp;have h0:((0,o,[]):Int × Bool × List Fl)=(λt:Nat=>((t:Int),(o||orB (dP (elt l n) (bt b)) t),(vf n (dX (elt l n) (bt b))).take t)) 0:=by show _=(((0:Nat):Int),(o||false),_); rw[kO]; rfl
 rw[h0];refine ax (λt:Nat=>((t:Int),(o||orB (dP (elt l n) (bt b)) t),(vf n (dX (elt l n) (bt b))).take t)) n (by omega) ?_ ?_
 ·intro i hi K;unfold ia;dsimp only;rw[decide_eq_true (by omega:(i:Int)<(n:Int)),cond_true,hb,aa (ah (by omega) (by omega)),Int.toNat_natCast];refine(OJ hN hn hi hl (dX (elt l n) (bt b)) (λt ht=>PN n _ ht (by omega)) (by rw[List.length_take,aW]; omega) _ _ _ _).trans ?_;rw[cd hn hi hi hl,lG];have e:=I5 (elt l n) (bt b) i;unfold dW at e;rw[show b.getD i none=bt b i from rfl,<- e,rh n _ hi,aa (decide_eq_true (by rw[List.length_take,aW]; omega)),aa (ab (by omega) (by omega))];have e2:(((o||orB (dP (elt l n) (bt b)) i)||sO (bt b i) (elt l n i) (dX (elt l n) (bt b)) i) || !bC (dX (elt l n) (bt b) i))=(o||orB (dP (elt l n) (bt b)) (i+1)):=by rw[<- iX o (dP (elt l n) (bt b)) i];unfold dP;simp only[Bool.or_assoc]
  rw[e2];rfl
 ·intro K;unfold ia;dsimp only;rw[decide_eq_false (by omega:¬(n:Int)<(n:Int)),cond_false,List.take_of_length_le (by rw[aW]; omega)]
theorem OM {N n i:Nat} (hN:1000<=N) (hn:n<=12) (hi:i<n) {l x b:List Fl} (hl:l.length=n*n) (g:Nat->Fl) (hx:∀ t,i<t->t<n->x.getD t none=g t) (hxl:x.length=n) (b0:Fl) (o:Bool) (e0:Fl->Bool->Bool) :
  ai N (BM N b i n n l x e0) (b0,(i:Int)+1,o)=e0 (sV b0 (λt=>elt l n (i+1+t) i) (λt=>g (i+1+t)) (n - 1 - i)) (o||sO b0 (λt=>elt l n (i+1+t) i) (λt=>g (i+1+t)) (n - 1 - i)):=by
 have h1:((b0,(i:Int)+1,o):Fl × Int × Bool)=(λt:Nat=>(sV b0 (λt=>elt l n (i+1+t) i) (λt=>g (i+1+t)) t,((i+1+t:Nat):Int),(o||sO b0 (λt=>elt l n (i+1+t) i) (λt=>g (i+1+t)) t))) 0:=by show _=(b0,((i+1:Nat):Int),(o||false)); rw[kO]; rfl
 rw[h1];refine ax (λt:Nat=>(sV b0 (λt=>elt l n (i+1+t) i) (λt=>g (i+1+t)) t,((i+1+t:Nat):Int),(o||sO b0 (λt=>elt l n (i+1+t) i) (λt=>g (i+1+t)) t))) (n - 1 - i) (by omega) ?_ ?_
 ·intro t ht K;unfold BM;dsimp only;rw[decide_eq_true (by omega:((i+1+t:Nat):Int)<(n:Int)),cond_true,cd hn (by omega) hi hl,hxl,aa (ah (by omega) (by omega)),Int.toNat_natCast,aa (decide_eq_true (by omega)),hx _ (by omega) (by omega),lG,lG,aa (ab (by omega) (by omega)),qR o b0 (λt=>elt l n (i+1+t) i) (λt=>g (i+1+t)) t];rfl
 ·intro K;unfold BM;dsimp only;rw[decide_eq_false (by omega:¬((i+1+(n - 1 - i):Nat):Int)<(n:Int)),cond_false]
theorem QP {N n:Nat} (hN:1000<=N) (hn:n<=12) {l b:List Fl} (hl:l.length=n*n) (hb:b.length=n) (o:Bool) (k:List Fl->Bool->Bool) :
  Gr N n n l b o k=k (vf n (uX (elt l n) (bt b) n)) (o||orD (uP (elt l n) (bt b) n) n n):=by
 unfold Gr; rw[ac]; unfold Mq;rw[aa (bE (by omega) (by omega) (by omega) (by omega)),aa (ab (by omega) (by omega)),Int.toNat_natCast,Je n (uX (elt l n) (bt b) n)];have h0:(((n:Int) - 1,o,vf n (fu_ n (uX (elt l n) (bt b) n) 0)):Int × Bool × List Fl)=(λm:Nat=>((n:Int) - 1 - (m:Int),(o||orD (uP (elt l n) (bt b) n) n m),vf n (fu_ n (uX (elt l n) (bt b) n) m))) 0:=by show _=((n:Int) - 1 - ((0:Nat):Int),(o||false),_); rw[kO,show(n:Int) - 1 - ((0:Nat):Int)=(n:Int) - 1 by omega]
 rw[h0];refine ax (λm:Nat=>((n:Int) - 1 - (m:Int),(o||orD (uP (elt l n) (bt b) n) n m),vf n (fu_ n (uX (elt l n) (bt b) n) m))) n (by omega) ?_ ?_
 ·intro m hm K;obtain⟨i,hi⟩:∃ i,n - 1 - m=i:=⟨_,rfl⟩
  have hi2:i<n:=by omega
  have ei:(n:Int) - 1 - (m:Int)=(i:Int):=by omega
  unfold ib;dsimp only;rw[ei,decide_eq_true (by omega:(i:Int)>=0),cond_true,hb,aa (ah (by omega) (by omega)),aa (ab (by omega) (by omega)),Int.toNat_natCast];refine(OM hN hn hi2 hl (uX (elt l n) (bt b) n) (λt ht ht2=>?_) (aW _ _) _ _ _).trans ?_
  ·rw[eS _ _ ht2]; unfold fu_; rw[if_pos (by omega)]
  rw[cd hn hi2 hi2 hl,lG,aW,aa (ah (by omega) (by omega)),aa (decide_eq_true hi2),aa (ab (by omega) (by omega)),EC _ _ hi2];have e:=J3 (elt l n) (bt b) hi2;unfold uW at e;rw[show b.getD i none=bt b i from rfl,<- e];have e3:=Jd n (uX (elt l n) (bt b) n) hm;rw[hi]at e3;rw[e3];have e2:(((o||orD (uP (elt l n) (bt b) n) n m)||sO (bt b i) (λt=>elt l n (i+1+t) i) (λt=>uX (elt l n) (bt b) n (i+1+t)) (n - 1 - i)) || !bC (uX (elt l n) (bt b) n i))=(o||orD (uP (elt l n) (bt b) n) n (m+1)):=by rw[<- Gd o (uP (elt l n) (bt b) n) n m,hi];unfold uP;simp only[Bool.or_assoc]
  rw[e2];show K ((i:Int) - 1,_)=K ((n:Int) - 1 - ((m+1:Nat):Int),_);rw[show(i:Int) - 1=(n:Int) - 1 - ((m+1:Nat):Int) by omega]
 ·intro K;unfold ib;dsimp only;rw[decide_eq_false (by omega:¬(n:Int) - 1 - (n:Int)>=0),cond_false,N5]
theorem Jo {N n:Nat} (hN:1000<=N) (hn:n<=12) (L:Nat->Nat->Fl) {b:List Fl} (hb:b.length=n) (o:Bool) (k:List Fl->Bool->Bool) :
  (Gq N n n (mf n L) b o λx o1=>Gr N n n (mf n L) x o1 k)=k (vf n (slX n L (bt b))) (o||slO n L (bt b)):=by
 have hL:∀ i j,i<n->j<=i->elt (mf n L) n i j=L i j:=λi j hi hj=>ju n L hi (by omega)
 have hB:∀ i,i<n->bt (vf n (dX (elt (mf n L) n) (bt b))) i=dX L (bt b) i:=λi hi=>(eS n _ hi none).trans (pu hL (λ_ _=>rfl) i hi)
 rw[QO hN hn (bD n L) hb,QP hN hn (bD n L) (aW _ _)];rw[jV (g':=slX n L (bt b)) (λi hi=>tL hL hB _ i rfl hi),pO (q:=dP L (bt b)) (Am hL (λ_ _=>rfl)),ur (q:=uP L (dX L (bt b)) n) (BU hL hB) (Nat.le_refl _),Bool.or_assoc];rfl
theorem wC {N n:Nat} (hF:Fuel N) {l:List Fl} (hn:n<=12) (h:l.length=n*n) (hf:aG l=true) (hw:AllW l) (hs:B7 n l) (k:Bool->Bool) :
  br N n n l k=k (pj n l):=by
 (unfold br; try rw[ac]); unfold rj
 rw[yJ hF hn h hf hw hs];rfl
def sE (x:List Fl) (r c:Int) (l:List Fl):Int:=if rO x r c l=151 then 170 else rO x r c l
theorem Vd {r c:Int} {l:List Fl}:chk r c l ≠ 151:=by
 unfold chk;split
 ·split
  ·split <;> decide
  ·decide
 ·decide
theorem HM {N:Nat} (hF:Fuel N) (x:List Fl) (r c:Int) (l:List Fl) (hw:AllW l) (k:Int->Bool):qW N r c l x k=k (sE x r c l):=by
 have hN:=hF.lt
 (unfold qW; rw[ac]; unfold p_ sE rO)
 rw[ga (by omega)];by_cases h0:chk r c l=0
 ·have q:=kx.1 h0;rw[h0,if_neg (c:=(0:Int) ≠ 0) (λh=>h rfl),show((0:Int) != 0)=false from rfl,cond_false];by_cases h1:r=c
  ·subst h1;have e1:((r != r)==false)=true:=by simp
   rw[if_neg (c:=r ≠ r) (λh=>h rfl),e1,cond_true];obtain⟨n,hn⟩:∃ n:Nat,r=n:=⟨r.toNat,by omega⟩
   subst hn;by_cases h2:(x.length:Int)=n
   ·have e2:(((x.length:Nat):Int) != (n:Int))=false:=by simp[h2]
    have hl:l.length=n*n:=by exact_mod_cast q.2.1
    have hn12:n<=12:=by omega
    rw[e2,cond_false,if_neg (c:=((x.length:Nat):Int) ≠ (n:Int)) (λh=>h h2),oa x ⟨by omega,by omega⟩];cases h3:aG x
    ·rfl
    ·rw[show(!true)=false from rfl,cond_false,zK (by omega) hn12 hl q.2.2,Int.toNat_natCast];cases h4:lw n l
     ·rfl
     ·rw[show(!true)=false from rfl,cond_false,wC hF hn12 hl q.2.2 hw (IF hl q.2.2 h4)];cases pj n l <;> rfl
   ·have e2:(((x.length:Nat):Int) != (n:Int))=true:=by simp[h2]
    rw[e2,cond_true,if_pos (c:=((x.length:Nat):Int) ≠ (n:Int)) h2]; rfl
  ·have e1:((r != c)==false)=false:=by simp[h1]
   rw[e1,cond_false,if_pos (c:=r ≠ c) h1]; rfl
 ·have e0:(chk r c l != 0)=true:=by simp[h0]
  rw[e0,cond_true,if_pos (c:=chk r c l ≠ 0) h0,if_neg Vd]
theorem FJ {N:Nat} (hF:Fuel N) (x:List Fl) (r c:Int) (l:List Fl) (hw:AllW l) (k:Int->Bool):tC N r c l x k=k (sE x r c l):=by
 (unfold tC; try rw[ac]); unfold yk
 rw[oS hF _ _ _ _ hw];unfold sE;by_cases h:rO x r c l=151
 ·rw[if_pos h,h]; rfl
 ·rw[if_neg h,show(rO x r c l==151)=false by simp[h],cond_false]
theorem DT {N n:Nat} (hN:1000<=N) (hn:n<=12) {M:List Fl} (v:Nat->Nat->Fl) (hL:M.length=n*n) (hM:∀ i j,i<n->j<=i->elt M n i j=v i j) (k:List Fl->Bool):O_ N n n M k=k (mf n (mir v)):=by
 (unfold O_; rw[ac]; unfold MD)
 rw[lS hn,zN n v];refine ax (λi:Nat=>((i:Int),mf n (mS v i 0))) n (by omega) ?_ ?_
 ·intro i hi K;unfold Ey;dsimp only;rw[decide_eq_true (by omega:(i:Int)<(n:Int)),cond_true];refine(ax (λj:Nat=>((j:Int),mf n (mS v i j))) (i+1) (N:=N) (by omega) (out:=K ((((i+1:Nat)):Int),mf n (mS v (i+1) 0))) ?_ ?_:_)
  ·intro j hj K';have hj2:j<n:=by omega
   unfold Ez;dsimp only;have e:=hM i j hi (by omega);rw[decide_eq_true (by omega:(j:Int)<=(i:Int)),cond_true,cd hn hi hj2 hL,e,mb hn hi hj2,cd hn hi hj2 hL,e,mb hn hj2 hi,aa (ab (by omega) (by omega)),zM n v hj];rfl
  ·intro K';unfold Ez;dsimp only;rw[decide_eq_false (by omega:¬((i+1:Nat):Int)<=(i:Int)),cond_false,aa (ab (by omega) (by omega)),D3];rfl
 ·intro K;unfold Ey;dsimp only;rw[decide_eq_false (by omega:¬(n:Int)<(n:Int)),cond_false,D2]
theorem Q3 {p:Nat->Bool}:∀{n:Nat},orB p n=false ↔ ∀ i,i<n->p i=false
 | 0=>⟨λ_ i hi=>absurd hi (Nat.not_lt_zero _),λ_=>rfl⟩
 | n+1=>by show(orB p n||p n)=false↔_;rw[Bool.or_eq_false_iff,Q3];exact⟨λ⟨h1,h2⟩ i hi=>(Nat.lt_or_ge i n).elim (h1 i) (λh=>by rw[show i=n by omega]; exact h2),λh=>⟨λi hi=>h i (by omega),h n (by omega)⟩⟩
theorem Kx {x:Fl} (h:bC x=true):∃ b,x=some b:=by
 cases x with
 | none=>cases h
 | some b=>exact⟨b,rfl⟩
theorem A5 {N:Nat} (hN:1000<=N) (a:List Fl) (ha:ji N a.length) (hf:aG a=true) (k:Bool->Bool):Rq N a a k=k true:=by
 ((unfold Rq; rw[ac]); try rw[ac]); unfold SU
 rw[show(((a.length:Nat):Int) != ((a.length:Nat):Int))=false by simp,cond_false];have h1:=ha.1;have h2:=ha.2;refine ax (λi:Nat=>(i:Int)) a.length (by omega) (λi hi K=>?_) (λK=>?_)
 ·have d1:inR (i:Int) a.length=true:=ah (by omega) (by omega);have d2:af .i64 ((i:Int)+1)=true:=ab (by omega) (by omega);obtain⟨b,hb⟩:=Kx (lN hf hi);simp only[Ep,Int.toNat_natCast,d1,d2,Bool.true_and,hb];rw[decide_eq_true (by omega:(i:Int)<(a.length:Int)),cond_true];show cond ((b:Int) != b) _ _=_;rw[show((b:Int) != b)=false by simp,cond_false]; rfl
 ·simp only[Ep];rw[decide_eq_false (by omega:¬(a.length:Int)<(a.length:Int)),cond_false]
theorem Bb {N:Nat} (hN:1000<=N) (n m:Int) {Y V:List Fl} (hY:ji N Y.length) (hV:ji N V.length) (fY:aG Y=true) (fV:aG V=true) (k:Bool->Bool):Ru N n m Y V n m Y V k=k true:=by
 (unfold Ru; try rw[ac]); unfold Wv
 rw[A5 hN V hV fV]
 ((unfold W_; rw[ac]); try rw[ac]); unfold Tq
 have e:((n:Int)==n)=true:=by simp
 have e2:((m:Int)==m)=true:=by simp
 rw[e,e2,show((true:Bool)==true)=true from rfl,cond_true,cond_true,cond_true,A5 hN Y hY fY]
theorem Oi {N:Nat} {v y:List Int} (hv:ji N v.length) (hy:ji N y.length) (r c:Int) (k:List Fl->List Fl->Bool):VV N v r c y k=k (xQ y) (xQ v):=by
 (unfold VV; try rw[ac]); unfold WB
 rw[pJ v hv,pJ y hy]
abbrev KI:=Int->Int->List Fl->List Fl->Int->Bool
def Xp (n:Nat) (x p:List Fl):Prop:=n<=12/\x.length=n/\p.length=n*n/\aG x=true/\aG p=true/\lw n p=true/\pj n p=true/\AllW p
theorem F5 {n:Nat} (v:Nat->Nat->Fl):lw n (mf n (mir v))=true:=by
 unfold lw;refine ik.2 λi hi=>ik.2 λj hj=>?_
 have hj2:j<n:=by omega
 rw[ju n _ hi hj2,ju n _ hj2 hi];have:mir v i j=mir v j i:=by unfold mir;rw[if_pos (by omega),if_neg (by omega)]
 rw[this];exact decide_eq_true rfl
end Go.Proofs.YtdinakfmablagaaGreatDoor
end
