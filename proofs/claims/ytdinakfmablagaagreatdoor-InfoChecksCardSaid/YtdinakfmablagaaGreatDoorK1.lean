/- Laws in plain Lean. Conditions: none. -/
import Derived.Test.YtdinakfmablagaaGreatDoorX0
import Derived.Test.YtdinakfmablagaaGreatDoorC13
set_option linter.unusedVariables false
section
namespace Go.Proofs.YtdinakfmablagaaGreatDoor
open Go Go.Mach Ieee
theorem SI {N:Nat} (hN:1000<=N) (k:Bool->List Int->Bool):nt N 1 k=k false (aj 1):=Be (N:=N) 1 (by decide) (pb hN (by decide)) (by omega) k
theorem ZV (a b:Nat):flt (some a) (some b)=((Ieee.double.read a).order (Ieee.double.read b)==some .lt):=rfl
theorem SE (a b:Nat):feq (some a) (some b)=((Ieee.double.read a).order (Ieee.double.read b)==some .eq):=rfl
theorem Xs (a b:Nat):fgt (some a) (some b)=((Ieee.double.read a).order (Ieee.double.read b)==some .gt):=rfl
theorem NR {b:Nat} (hb:W64 b) {s:Bool} {m:Nat} {i:Int} (h:Ieee.double.read b=.number s m i):∃ c,Co (some b)=some c/\W64 c/\Ieee.double.read c=.number false m i:=by
 have e:Ieee.double.read (b%9223372036854775808)=.number false m i:=by
  obtain⟨hs,hlt,h⟩:=mD h;unfold Format.read;simp only[iZ,sG,lC,w8];have e1:b%9223372036854775808%9223372036854775808=b%9223372036854775808:=by omega
  have e2:(b%9223372036854775808 / 9223372036854775808%2==1)=false:=by rw[beq_eq_false_iff_ne]; omega
  rw[e1,e2];rcases h with⟨h1,rfl,rfl⟩ | ⟨h1,rfl,rfl⟩
  ·rw[if_pos h1]
  ·rw[if_neg (by omega),if_pos hlt]
 have hn:isNaN (b%9223372036854775808)=false:=by unfold isNaN; rw[e]; rfl
 refine⟨b%9223372036854775808,?_,by unfold W64 at *; omega,e⟩;show jt _=_;unfold jt; rw[hn]; rfl
theorem Ct (N:Nat) {x:Fl} (hx:bD x=true) (hw:FW x) (k:Bool->Bool):nF N x 0 k=k false:=by
 obtain⟨b,s,m,i,rfl,h⟩:=pI hx;obtain⟨c,hc,hcw,hcr⟩:=NR (hw b rfl) h;have hp:=pV hcr;have hg:=GE hcr
 (unfold nF; rw[ac]; unfold ui)
 show k (fgt (Co (some b)) (some 9218868437227405311))=_;rw[hc];congr 1;have hr:Ieee.double.read 9218868437227405311=.number false 9007199254740991 971:=by decide
 rw[Xs,hcr,hr];simp only[Datum.order];have hmin:min i 971=i:=by omega
 have e0:(i - i).toNat=0:=by omega
 rw[hmin,e0];have s1:signed false m 0=((m:Nat):Int):=rfl;have s2:signed false 9007199254740991 (971 - i).toNat=((9007199254740991 <<< (971 - i).toNat:Nat):Int):=rfl;rw[s1,s2,Nat.shiftLeft_eq];have hpw:0<2 ^ (971 - i).toNat:=Nat.two_pow_pos _;have hle:9007199254740991<=9007199254740991*2 ^ (971 - i).toNat:=Nat.le_mul_of_pos_right _ hpw;generalize 9007199254740991*2 ^ (971 - i).toNat=q at hle;have:compare (m:Int) (q:Int) ≠ .gt:=λe=>by have:=Int.compare_eq_gt.1 e; omega
 cases e:compare (m:Int) (q:Int)with
 | gt=>exact absurd e this
 | eq=>rfl
 | lt=>rfl
theorem MI (d:Datum):W64 (Ieee.double.write d):=by
 cases d with
 | number s m i=>exact Gx s m i
 | infinity s=>
  have:Ieee.double.write (.infinity s)=Ieee.double.word s 9218868437227405312:=by rw[<- lC]; rfl
  rw[this]; exact Cg s (by decide)
 | nan s f=>
  have:Ieee.double.write (.nan s f)=Ieee.double.word s (9218868437227405312+f%4503599627370496):=by rw[<- lC,<- sG]; rfl
  rw[this]; exact Cg s (by omega)
theorem z8 {o:Option Datum}:FW (o.map Ieee.double.write):=by
 intro b hb;cases o with
 | none=>cases hb
 | some d=>cases hb; exact MI d
theorem DI {f:Nat->Nat->Option Nat} (hf:∀ a b c,f a b=some c->W64 c) (x y:Fl):FW (FN f x y):=by
 intro c hc;cases x with
 | none=>cases hc
 | some a=>cases y with
  | none=>cases hc
  | some b=>exact hf a b c hc
theorem Jc (x y:Fl):FW (AO x y):=DI (λa b c h=>z8 c h) x y
theorem Qh (x y:Fl):FW (qG x y):=DI (λa b c h=>z8 c h) x y
theorem Qg (x y:Fl):FW (eP x y):=DI (λa b c h=>z8 c h) x y
theorem Qf (x y:Fl):FW (fdiv x y):=DI (λa b c h=>z8 c h) x y
theorem Jd:FW (some 0):=λb h=>by cases h; decide
def XE (xs:List Fl):Nat->Fl
 | 0=>some 0
 | n+1=>fmm true (XE xs n) (Co (xs.getD n none))
def GE1 (x:Fl):Prop:=∃ b,x=some b/\W64 b/\(Ieee.double.read b=.infinity false \/ ∃ m i,Ieee.double.read b=.number false m i/\4503599627370496<=m/\m<9007199254740992 /\ -52<=i)
def Dv (x:Fl):Prop:=∃ b,x=some b/\(Ieee.double.read b=.infinity false \/ ∃ m i,Ieee.double.read b=.number false m i/\m ≠ 0)
def ZW (a b c:Fl):Int:=cond (!az [a,b,c]) 4 (cond (feq a (some 0)&&(feq b (some 0)&&feq c (some 0))) 251 0)
def ZS (f g:K4->Bool):Prop:=∃ a b c d n,(a.isSome=true/\b.isSome=true/\c.isSome=true/\d.isSome=true)/\(∀ κ,f κ=κ a b c d n)/\(∀ κ,g κ=κ a b c d n)
set_option maxRecDepth 4000
theorem XF {a0 a1 a2 a3 a4 a5 a6 a7 a8:Fl} (h:az [a0,a1,a2,a3,a4,a5,a6,a7,a8]=true):chk 3 3 [a0,a1,a2,a3,a4,a5,a6,a7,a8]=0:=mh.2 ⟨by decide,rfl,h⟩
set_option maxRecDepth 4000
theorem Le {b:Nat} (hb:W64 b) {s:Bool} (h:Ieee.double.read b=.infinity s):Co (some b)=some 9218868437227405312:=by
 unfold Format.read at h;simp only[iZ,sG,lC]at h;unfold W64 at hb;split at h
 ·cases h
 ·split at h
  ·cases h
  ·split at h
   ·rename_i h1 h2 h3;show jt (b%9223372036854775808)=_;have:b%9223372036854775808=9218868437227405312:=by omega
    rw[this]; decide
   ·cases h
theorem Qz {N:Nat} {x:Fl} (hw:FW x) (o:Bool) (k:Bool->Bool):cond ((!feq x x)==false) (nF N x 0 (λcr=>cond cr (k true) (k o))) (k true)=k (o || !bD x):=by
 cases hf:bD x with
 | true=>rw[Ov hf,Ct N hf hw]; cases o <;> rfl
 | false=>
  rw[Bool.not_false,Bool.or_true];cases x with
  | none=>rfl
  | some b=>
   cases hr:Ieee.double.read b with
   | number s m i=>rw[QE hr]at hf; cases hf
   | nan s f=>
    have:feq (some b) (some b)=false:=by rw[SE,hr]; rfl
    rw[this]; rfl
   | infinity s=>
    have h1:feq (some b) (some b)=true:=by rw[SE,hr]; cases s <;> rfl
    rw[h1];show nF N (some b) 0 _=_
    (unfold nF; rw[ac]; unfold ui)
    rw[show((0:Int)==0)=true from rfl,cond_true];simp only[xk];rw[Le (hw b rfl) hr];have h2:fgt (some 9218868437227405312) (some 9218868437227405311)=true:=by decide
    rw[h2,cond_true]
theorem F_ {N:Nat} {x:Fl} (hw:FW x) (o:Bool) (k:Bool->Bool):rg N x o k=k (o || !bD x):=by
 (unfold rg; rw[ac]; unfold vu)
 exact Qz hw o k
theorem Q3 (N:Nat) (x y:Fl) (o:Bool) (k:Fl->Bool->Bool):tJ N x y o k=k (eP x y) (o || !bD (eP x y)):=by
 (unfold tJ; rw[ac]; unfold sj)
 rw[F_ (Qg x y)]
theorem X0 {x y:Fl} (hx:bD x=true) (hy:Dv y):Nn (fdiv x y):=by
 obtain⟨a,s,m,i,rfl,ha⟩:=pI hx;obtain⟨b,rfl,hb⟩:=hy;show Nn (((Ieee.double.read a).quotient (Ieee.double.fractionBits+2) (Ieee.double.read b)).map Ieee.double.write);rw[ha];rcases hb with hb | ⟨n,j,hb,hn⟩
 ·rw[hb]; exact Ak _ _ _
 ·rw[hb]; simp only[Datum.quotient,if_neg hn]; exact Ak _ _ _
theorem uF {N n i j:Nat} (hn:n<=12) (hi:i<n) (hj:j<n) {l:List Fl} (h:l.length=n*n) (k:Fl->Bool):zo N n n l i j k=k (elt l n i j):=by obtain⟨h1,h2⟩:=dk (by omega:n<=1000) hi hj;have h3:=eo hi hj;unfold zo Sp elt;rw[dj,aa h1,aa h2,h,Int.toNat_natCast,aa (ai (by omega) (by omega))]
theorem ca {N n i j:Nat} (hn:n<=12) (hi:i<n) (hj:j<n) {l:List Fl} (h:l.length=n*n) (k:Fl->Bool):gW N n n l i j k=k (elt l n i j):=by obtain⟨h1,h2⟩:=dk (by omega:n<=1000) hi hj;have h3:=eo hi hj;unfold gW Sl elt;rw[dj,aa h1,aa h2,h,Int.toNat_natCast,aa (ai (by omega) (by omega))]
def mU (n:Nat) (l:List Fl):Bool:=oC (λi=>oC (λj=>decide (cn (elt l n i j)=cn (elt l n j i))) i) n
theorem JL {N n:Nat} (hN:1000<=N) (hn:n<=12) {l:List Fl} (h:l.length=n*n) (hf:az l=true) (k:Bool->Bool):RZ N n n l k=k (mU n l):=by
 (unfold RZ; rw[ac]; unfold TG)
 rw[ep hN,nM hn h hf,show(((0:Int) != 0)==false)=true from rfl,cond_true];have:((n:Int) != (n:Int))=false:=by simp
 rw[this,cond_false];have hk:k (mU n l)=cond (mU n l) (k true) (k false):=by cases mU n l <;> rfl
 rw[hk];refine lD (λt:Nat=>(t:Int)) (λi=>oC (λj=>decide (cn (elt l n i j)=cn (elt l n j i))) i) n (by omega) ?_ ?_
 ·intro i hi K;unfold EK;dsimp only;rw[decide_eq_true (by omega:(i:Int)<(n:Int)),cond_true];refine(lD (λt:Nat=>(t:Int)) (λj=>decide (cn (elt l n i j)=cn (elt l n j i))) i (N:=N) (by omega) (ex:=k false) (out:=K (((i+1:Nat):Int))) ?_ ?_:_)
  ·intro j hj K';have hj2:j<n:=by omega
   unfold EL;dsimp only;rw[decide_eq_true (by omega:(j:Int)<(i:Int)),cond_true,uF hn hi hj2 h,uF hn hj2 hi h];unfold I1;dsimp only;by_cases he:cn (elt l n i j)=cn (elt l n j i)
   ·rw[decide_eq_true he,show(!true)=false from rfl,cond_false,cond_true,aa (ab (by omega) (by omega))];rfl
   ·rw[decide_eq_false he,show(!false)=true from rfl,cond_true,cond_false]
  ·intro K';unfold EL;dsimp only;rw[decide_eq_false (by omega:¬(i:Int)<(i:Int)),cond_false,aa (ab (by omega) (by omega))];rfl
 ·intro K;unfold EK;dsimp only;rw[decide_eq_false (by omega:¬(n:Int)<(n:Int)),cond_false]
theorem LN {N:Nat} (r c:Int) (n:Int) (k:Int->Bool):tR N r c n k=k (if (0<=r/\r<=12)/\(0<=c/\c<=12)then(if n=r*c then 0 else 3)else 1):=by
 (unfold tR; rw[ac]; unfold sw)
 by_cases h1:r<0
 ·rw[decide_eq_true h1,if_neg (by omega)]; rfl
 ·rw[decide_eq_false h1];by_cases h2:r>12
  ·rw[decide_eq_true h2,if_neg (by omega)]; rfl
  ·rw[decide_eq_false h2];by_cases h3:c<0
   ·rw[decide_eq_true h3,if_neg (by omega)]; rfl
   ·rw[decide_eq_false h3];by_cases h4:c>12
    ·rw[decide_eq_true h4,if_neg (by omega)]; rfl
    ·have hr:0<=r/\r<=12:=by omega
     have hc:0<=c/\c<=12:=by omega
     rw[decide_eq_false h4,if_pos ⟨hr,hc⟩,J9 hr hc];by_cases h5:n=r*c
     ·have:(n != r*c)=false:=by simp[h5]
      rw[this,if_pos h5]; rfl
     ·have:(n != r*c)=true:=by simp[h5]
      rw[this,if_neg h5]; rfl
theorem mw {N:Nat} (hN:1000<=N) (r c:Int) (l:List Fl) (k:Int->Bool):j5 N r c l k=k (chk r c l):=by
 (unfold j5; rw[ac]; unfold vB chk)
 rw[LN];by_cases h1:(0<=r/\r<=12)/\(0<=c/\c<=12)
 ·rw[if_pos h1,if_pos h1];by_cases h2:(l.length:Int)=r*c
  ·have h3:=J4 h1.1 h1.2;have h6:l.length<=144:=by rw[<- h2]at h3; omega
   rw[if_pos h2,if_pos h2,show((0:Int) != 0)=false from rfl,cond_false,lU l ⟨by omega,by omega⟩];cases az l <;> rfl
  ·rw[if_neg h2,if_neg h2]; rfl
 ·rw[if_neg h1,if_neg h1]; rfl
theorem Ga {N n:Nat} (hN:1000<=N) (hn:n<=12) {l:List Fl} (h:l.length=n*n) (hf:az l=true) (k:Int->Bool):Mq N n n l k=k (if mU n l=true then 0 else 91):=by
 (unfold Mq; rw[ac]; unfold Qo)
 rw[mw hN,nM hn h hf,show((0:Int) != 0)=false from rfl,cond_false];have:((n:Int) != (n:Int))=false:=by simp
 rw[this,cond_false];have hk:k (if mU n l=true then 0 else 91)=cond (mU n l) (k 0) (k 91):=by cases mU n l <;> rfl
 rw[hk];refine lD (λt:Nat=>(t:Int)) (λi=>oC (λj=>decide (cn (elt l n i j)=cn (elt l n j i))) i) n (by omega) ?_ ?_
 ·intro i hi K;unfold f8;dsimp only;rw[decide_eq_true (by omega:(i:Int)<(n:Int)),cond_true];refine(lD (λt:Nat=>(t:Int)) (λj=>decide (cn (elt l n i j)=cn (elt l n j i))) i (N:=N) (by omega) (ex:=k 91) (out:=K (((i+1:Nat):Int))) ?_ ?_:_)
  ·intro j hj K';have hj2:j<n:=by omega
   unfold f9;dsimp only;rw[decide_eq_true (by omega:(j:Int)<(i:Int)),cond_true,ca hn hi hj2 h,ca hn hj2 hi h,w7];by_cases he:cn (elt l n i j)=cn (elt l n j i)
   ·rw[decide_eq_true he,show(!true)=false from rfl,cond_false,cond_true,aa (ab (by omega) (by omega))];rfl
   ·rw[decide_eq_false he,show(!false)=true from rfl,cond_true,cond_false]
  ·intro K';unfold f9;dsimp only;rw[decide_eq_false (by omega:¬(i:Int)<(i:Int)),cond_false,aa (ab (by omega) (by omega))];rfl
 ·intro K;unfold f8;dsimp only;rw[decide_eq_false (by omega:¬(n:Int)<(n:Int)),cond_false]
theorem xH {x:Fl} (h:bD x=true):cn x=x:=by obtain⟨b,rfl,hb⟩:=VA h;simp only[cn,hb]; rfl
theorem I_ {n:Nat} {l:List Fl} (h:l.length=n*n) (hf:az l=true) (hs:mU n l=true):Cn n l:=by
 have key:∀ i j,j<i->i<n->elt l n i j=elt l n j i:=by
  intro i j hj hi;have h1:=bX.1 (bX.1 hs i hi) j hj;have h2:=of_decide_eq_true h1;have hj2:j<n:=by omega
  have e1:=eo hi hj2;have e2:=eo hj2 hi;rw[xH (x:=elt l n i j) (cD hf (by omega)),xH (x:=elt l n j i) (cD hf (by omega))]at h2;exact h2
 intro a b ha hb;show qZ (ofE (elt l n a b))=qZ (ofE (elt l n b a));rcases Nat.lt_trichotomy a b with h1 | h1 | h1
 ·rw[key b a h1 hb]
 ·rw[h1]
 ·rw[key a b h1 ha]
def Ic (x:List Fl) (r c:Int) (l:List Fl):Int:=
 if chk r c l ≠ 0 then chk r c l else if r ≠ c then 3 else if (x.length:Int) ≠ r then 3 else if az x=false then 4 else if mU r.toNat l=false then 150 else if xd r.toNat l=false then 151 else 0
theorem F5 {N:Nat} (hF:Fuel N) (x:List Fl) (r c:Int) (l:List Fl) (hw:AllW l) (k:Int->Bool):tV N x r c l k=k (Ic x r c l):=by
 have hN:=hF.lt
 (unfold tV; rw[ac]; unfold sB; unfold zw; rw[ac]; unfold sC ru Ai Ic)
 rw[mw (by omega)];dsimp only;by_cases h0:chk r c l=0
 ·have q:=mh.1 h0;rw[h0,if_neg (λh=>h rfl),show((0:Int) != 0)=false from rfl,cond_false];by_cases h1:r=c
  ·subst h1;have e1:((r != r)==false)=true:=by simp
   rw[if_neg (λh=>h rfl),e1,cond_true];obtain⟨n,hn⟩:∃ n:Nat,r=n:=⟨r.toNat,by omega⟩
   subst hn;by_cases h2:(x.length:Int)=n
   ·have e2:(((x.length:Nat):Int) != (n:Int))=false:=by simp[h2]
    have hl:l.length=n*n:=by exact_mod_cast q.2.1
    have hn12:n<=12:=by omega
    rw[e2,cond_false,if_neg (λh=>h h2),lU x ⟨by omega,by omega⟩];cases h3:az x
    ·rfl
    ·rw[show(!true)=false from rfl,cond_false,if_neg (by decide),Ga (by omega) hn12 hl q.2.2,Int.toNat_natCast];cases h4:mU n l
     ·rfl
     ·rw[if_pos rfl,show((0:Int) != 0)=false from rfl,cond_false,cond_false,if_neg (by decide),qK hF hn12 hl q.2.2 hw (I_ hl q.2.2 h4)];cases xd n l <;> rfl
   ·have e2:(((x.length:Nat):Int) != (n:Int))=true:=by simp[h2]
    rw[e2,cond_true,if_pos h2]; rfl
  ·have e1:((r != c)==false)=false:=by simp[h1]
   rw[e1,cond_false,if_pos h1]; rfl
 ·have e0:(chk r c l != 0)=true:=by simp[h0]
  rw[e0,cond_true,if_pos h0];rfl
theorem pQ {N:Nat} (x:Fl) (o:Bool) (k:Bool->Bool):om N x o k=k (o || !bD x):=by
 (unfold om; rw[ac]; unfold Nd)
 cases o
 ·rw[show(false==false)=true from rfl,cond_true,th]; rfl
 ·rfl
theorem V3 {l:List Int} (h:∀ z,z ∈ l->z.toNat<18446744073709551616):AllW (rZ l):=by intro x hx;unfold rZ at hx;obtain⟨z,hz,rfl⟩:=List.mem_map.1 hx;exact N1 (h z hz)
def mf (n:Nat) (f:Nat->Nat->Fl):List Fl:=(List.range (n*n)).map (λt=>f (t / n) (t%n))
theorem bH (n:Nat) (f:Nat->Nat->Fl):(mf n f).length=n*n:=by unfold mf; rw[List.length_map,List.length_range]
theorem z9 (n:Nat) (f:Nat->Nat->Fl) {i j:Nat} (hi:i<n) (hj:j<n) (z:Fl):(mf n f).getD (i*n+j) z=f i j:=by have h:=gU hi hj;unfold mf;rw[List.getD_eq_getElem?_getD,List.getElem?_map,List.getElem?_range h];simp only[Option.map_some,Option.getD_some,zW hj,zX hj]
theorem gF (n:Nat) (f:Nat->Nat->Fl) {i j:Nat} (hi:i<n) (hj:j<n):elt (mf n f) n i j=f i j:=z9 n f hi hj none
theorem aZ (n:Nat) {f f':Nat->Nat->Fl} (h:∀ a b,a<n->b<n->f a b=f' a b):mf n f=mf n f':=by
 unfold mf;apply List.map_congr_left;intro t ht;have ht:=List.mem_range.1 ht;have hn:0<n:=by
  rcases Nat.eq_zero_or_pos n with h0 | h0
  ·rw[h0]at ht; omega
  ·exact h0
 rw[h _ _ (Nat.div_lt_of_lt_mul ht) (Nat.mod_lt _ hn)]
theorem ti (n:Nat) (f:Nat->Nat->Fl) {i j:Nat} (hi:i<n) (hj:j<n) (v:Fl):(mf n f).set (i*n+j) v=mf n (λa b=>if a=i/\b=j then v else f a b):=by
 have h:=gU hi hj;apply List.ext_getElem?;intro t;by_cases ht:t<n*n
 ·have hn:0<n:=by omega
  rw[List.getElem?_set];unfold mf;rw[List.getElem?_map,List.getElem?_map,List.getElem?_range ht];simp only[List.length_map,List.length_range,Option.map_some];by_cases he:i*n+j=t
  ·rw[if_pos he,if_pos h,<- he,zW hj,zX hj,if_pos ⟨rfl,rfl⟩]
  ·rw[if_neg he];have:¬(t / n=i/\t%n=j):=by rintro ⟨h1,h2⟩;apply he;rw[<- h1,<- h2,Nat.mul_comm];exact Nat.div_add_mod t n
   rw[if_neg this]
 ·rw[List.getElem?_eq_none (by rw[List.length_set,bH]; omega),List.getElem?_eq_none (by rw[bH]; omega)]
theorem z_ (n:Nat):List.replicate (n*n) (some 0)=mf n (λ_ _=>some 0):=by
 apply List.ext_getElem?;intro t;unfold mf;rw[List.getElem?_map,List.getElem?_replicate];by_cases ht:t<n*n
 ·rw[if_pos ht,List.getElem?_range ht]; rfl
 ·rw[if_neg ht,List.getElem?_eq_none (by rw[List.length_range]; omega)]; rfl
theorem Ek (n:Nat) (f:Nat->Nat->Fl) {i j:Nat} (hi:i<n) (hj:j<n):(mf n f).take (i*n+j)++[f i j]=(mf n f).take (i*n+j+1):=by
 have h:=gU hi hj;have hl:i*n+j<(mf n f).length:=by rw[bH]; exact h
 rw[List.take_succ_eq_append_getElem hl];have:=z9 n f hi hj none;rw[List.getD_eq_getElem?_getD,List.getElem?_eq_getElem hl]at this;rw[<- this]; rfl
def vf (n:Nat) (g:Nat->Fl):List Fl:=(List.range n).map g
theorem bK (n:Nat) (g:Nat->Fl):(vf n g).length=n:=by unfold vf; rw[List.length_map,List.length_range]
theorem i9 (n:Nat) (g:Nat->Fl) {i:Nat} (hi:i<n) (z:Fl):(vf n g).getD i z=g i:=by unfold vf;rw[List.getD_eq_getElem?_getD,List.getElem?_map,List.getElem?_range hi]; rfl
theorem xv (n:Nat) (g:Nat->Fl) {i:Nat} (hi:i<n):(vf n g).take i++[g i]=(vf n g).take (i+1):=by
 have hl:i<(vf n g).length:=by rw[bK]; exact hi
 rw[List.take_succ_eq_append_getElem hl];have:=i9 n g hi none;rw[List.getD_eq_getElem?_getD,List.getElem?_eq_getElem hl]at this;rw[<- this]; rfl
def dV (f g:Nat->Fl):Nat->Fl
 | 0=>some 0
 | t+1=>AO (dV f g t) (eP (f t) (g t))
def dO (f g:Nat->Fl):Nat->Bool
 | 0=>false
 | t+1=>(dO f g t || !bD (eP (f t) (g t))) || !bD (dV f g (t+1))
def orB (p:Nat->Bool):Nat->Bool
 | 0=>false
 | t+1=>orB p t||p t
theorem nD {p:Nat->Bool}:∀{n:Nat},orB p n=false -> ∀ i,i<n->p i=false
 | 0,_,i,hi=>by omega
 | n+1,h,i,hi=>by
  unfold orB at h;rw[Bool.or_eq_false_iff]at h;rcases Nat.lt_or_ge i n with h1 | h1
  ·exact nD h.1 i h1
  ·rw[show i=n by omega]; exact h.2
theorem Ob {f g:Nat->Fl}:∀{n:Nat},dO f g n=false->bD (dV f g n)=true
 | 0,_=>rfl
 | n+1,h=>by unfold dO at h;rw[Bool.or_eq_false_iff]at h;simpa using h.2
theorem DT (o:Bool) (f g:Nat->Fl) (t:Nat):((o||dO f g t) || !bD (eP (f t) (g t)) || !bD (AO (dV f g t) (eP (f t) (g t))))=(o||dO f g (t+1)):=by show _=(o||((dO f g t || !bD (eP (f t) (g t))) || !bD (AO (dV f g t) (eP (f t) (g t)))));simp only[Bool.or_assoc]
theorem qY (o:Bool):(o||false)=o:=by cases o <;> rfl
def GI (l:List Fl) (n i:Nat):List Fl:=List.drop (i*n) (List.take ((i+1)*n) l)
theorem PC {n i:Nat} (hi:i<n):(i+1)*n<=n*n:=Nat.mul_le_mul_right _ hi
theorem tF {l:List Fl} {n i:Nat} (h:l.length=n*n) (hi:i<n):(GI l n i).length=n:=by have:=PC hi;unfold GI;rw[List.length_drop,List.length_take,h,Nat.min_eq_left this,Nat.add_mul]; omega
theorem Mi {l:List Fl} {n i j:Nat} (h:l.length=n*n) (hi:i<n) (hj:j<n):(GI l n i).getD j none=elt l n i j:=by
 unfold GI elt;have h1:(i+1)*n=i*n+n:=by rw[Nat.add_mul]; omega
 rw[List.getD_eq_getElem?_getD,List.getElem?_drop,List.getElem?_take,if_pos (by omega),List.getD_eq_getElem?_getD]
theorem Ds {n i:Nat} (hn:n<=100) (hi:i<n) {L:Nat} (hL:L=n*n):af .i64 ((i:Int)*(n:Int))=true/\af .i64 ((i:Int)+1)=true/\af .i64 (((i:Int)+1)*(n:Int))=true/\decide (0<=(i:Int)*(n:Int)/\(i:Int)*(n:Int)<=((i:Int)+1)*(n:Int)/\((i:Int)+1)*(n:Int)<=(L:Int))=true/\Int.toNat ((i:Int)*(n:Int))=i*n/\Int.toNat (((i:Int)+1)*(n:Int))=(i+1)*n:=by
 have h1:=PC hi;have h2:n*n<=100*100:=Nat.mul_le_mul hn hn;have e1:(i:Int)*(n:Int)=((i*n:Nat):Int):=by rw[Int.natCast_mul]
 have e2:((i:Int)+1)*(n:Int)=(((i+1)*n:Nat):Int):=by rw[Int.natCast_mul]; rfl
 have h3:(i+1)*n=i*n+n:=by rw[Nat.add_mul]; omega
 rw[e1,e2];exact⟨ab (by omega) (by omega),ab (by omega) (by omega),ab (by omega) (by omega),decide_eq_true ⟨by omega,by omega,by omega⟩,Int.toNat_natCast _,Int.toNat_natCast _⟩
theorem lV {N n i j:Nat} (hn:n<=12) (hi:i<n) (hj:j<n) (f:Nat->Nat->Fl) (x:Fl) (k:List Fl->Bool):rT N n n i j x (mf n f) k=k (mf n (λa b=>if a=i/\b=j then x else f a b)):=by obtain⟨h1,h2⟩:=dk (by omega:n<=1000) hi hj;have h3:=eo hi hj;unfold rT Si;rw[dj,aa h1,aa h2,bH,Int.toNat_natCast,aa (ai (by omega) (by omega)),aa (decide_eq_true h3),ti n f hi hj]
theorem lG {N n:Nat} (hn:n<=12) (k:List Fl->Bool):xg N n n k=k (mf n (λ_ _=>some 0)):=by have h2:n*n<=144:=oe hn;unfold xg Ss;rw[<- Int.natCast_mul,aa (ab (by omega) (by omega)),aa (bF (by omega) (by omega) (by omega) (by omega)),Int.toNat_natCast,z_]
def prV (n:Nat) (f p:List Fl):Nat->Nat->Fl:=λi j=>dV (λt=>elt f n i t) (λt=>elt p n t j) n
theorem xb (o:Bool) (p:Nat->Bool) (t:Nat):((o||orB p t)||p t)=(o||orB p (t+1)):=by show _=(o||(orB p t||p t)); rw[Bool.or_assoc]
theorem Ca (n:Nat) (f:Nat->Nat->Fl):(mf n f).take (n*n)=mf n f:=List.take_of_length_le (by rw[bH]; omega)
theorem BG (n i:Nat):i*n+n=(i+1)*n:=by rw[Nat.add_mul]; omega
def rS (g:Nat->Nat->Fl) (i j:Nat):Nat->Nat->Fl:=λa b=>if a<i\/(a=i/\b<j)then g a b else some 0
theorem RD (n:Nat) (g:Nat->Nat->Fl):mf n (λ_ _=>some 0)=mf n (rS g 0 0):=aZ n (λa b _ _=>by unfold rS; rw[if_neg (by omega)])
theorem V9 (n:Nat) (g:Nat->Nat->Fl):mf n (rS g n 0)=mf n g:=aZ n (λa b ha _=>by unfold rS; rw[if_pos (.inl ha)])
theorem RC (n:Nat) (g:Nat->Nat->Fl) (i j:Nat):mf n (λa b=>if a=i/\b=j then g i j else rS g i j a b)=mf n (rS g i (j+1)):=aZ n (λa b _ _=>by
 unfold rS;by_cases h:a=i/\b=j
 ·rw[if_pos h,if_pos (by omega),h.1,h.2]
 ·rw[if_neg h];by_cases h2:a<i\/(a=i/\b<j)
  ·rw[if_pos h2,if_pos (by omega)]
  ·rw[if_neg h2,if_neg (by omega)])
def mir (v:Nat->Nat->Fl):Nat->Nat->Fl:=λa b=>if b<=a then v a b else v b a
def mS (v:Nat->Nat->Fl) (i j:Nat):Nat->Nat->Fl:=λa b=>if max a b<i\/(max a b=i/\min a b<j)then mir v a b else some 0
theorem z7 (n:Nat) (v:Nat->Nat->Fl):mf n (λ_ _=>some 0)=mf n (mS v 0 0):=aZ n (λa b _ _=>by unfold mS; rw[if_neg (by omega)])
theorem Ej (n:Nat) (v:Nat->Nat->Fl) (i:Nat):mf n (mS v i (i+1))=mf n (mS v (i+1) 0):=aZ n (λa b _ hb=>by
 unfold mS;by_cases h2:max a b<i\/(max a b=i/\min a b<i+1)
 ·rw[if_pos h2,if_pos (by omega)]
 ·rw[if_neg h2,if_neg (by omega)])
theorem Ei (n:Nat) (v:Nat->Nat->Fl):mf n (mS v n 0)=mf n (mir v):=aZ n (λa b ha hb=>by unfold mS; rw[if_pos (by omega)])
theorem zZ (n:Nat) (v:Nat->Nat->Fl) {i j:Nat} (hj:j<i+1):mf n (λa b=>if a=j/\b=i then v i j else if a=i/\b=j then v i j else mS v i j a b)=mf n (mS v i (j+1)):=aZ n (λa b _ _=>by
 unfold mS mir;by_cases h:a=j/\b=i
 ·rw[if_pos h,h.1,h.2,if_pos (by omega:max j i<i\/(max j i=i/\min j i<j+1))];by_cases hij:i<=j
  ·rw[if_pos hij,show j=i by omega]
  ·rw[if_neg hij]
 ·rw[if_neg h];by_cases h1:a=i/\b=j
  ·rw[if_pos h1,h1.1,h1.2,if_pos (by omega:max i j<i\/(max i j=i/\min i j<j+1)),if_pos (by omega:j<=i)]
  ·rw[if_neg h1];by_cases h2:max a b<i\/(max a b=i/\min a b<j)
   ·rw[if_pos h2,if_pos (by omega:max a b<i\/(max a b=i/\min a b<j+1))]
   ·rw[if_neg h2,if_neg (by omega:¬(max a b<i\/(max a b=i/\min a b<j+1)))])
def orL (n:Nat) (p:Nat->Nat->Bool):Bool:=orB (λi=>orB (λj=>p i j) (i+1)) n
def sqc (a b:Int) (l:List Fl) (n:Int):Int:=if chk a b l ≠ 0 then chk a b l else if a ≠ b then 3 else if a ≠ n then 3 else 0
theorem aC (a b:Int) (h:¬ a=b):(a != b)=true:=by simp[h]
def low (v:Nat->Nat->Fl):Nat->Nat->Fl:=λa b=>if b<=a then v a b else some 0
theorem V0 {n:Nat} {f:Nat->Nat->Fl} {P:Fl->Prop} (h:∀ a b,a<n->b<n->P (f a b)):∀ t,t<n*n->P ((mf n f).getD t none):=by
 intro t ht;have hn:0<n:=by
  rcases Nat.eq_zero_or_pos n with h0 | h0
  ·rw[h0]at ht; omega
  ·exact h0
 have:=z9 n f (Nat.div_lt_of_lt_mul ht) (Nat.mod_lt t hn) none;rw[show t / n*n+t%n=t from by rw[Nat.mul_comm]; exact Nat.div_add_mod t n]at this;rw[this];exact h _ _ (Nat.div_lt_of_lt_mul ht) (Nat.mod_lt t hn)
theorem yk {n:Nat} {f:Nat->Nat->Fl} (h:∀ a b,a<n->b<n->bD (f a b)=true):az (mf n f)=true:=by unfold az;refine bX.2 (λt ht=>V0 (P:=λx=>bD x=true) h t ?_);rw[bH]at ht; exact ht
theorem XD {n:Nat} {f:Nat->Nat->Fl} (h:∀ a b,FW (f a b)):AllW (mf n f):=by intro x hx;unfold mf at hx;obtain⟨t,-,rfl⟩:=List.mem_map.1 hx;exact h _ _
theorem J3 {n:Nat} (v:Nat->Nat->Fl):Cn n (mf n (mir v)):=by
 intro a b ha hb;show qZ (ofE (elt (mf n (mir v)) n a b))=qZ (ofE (elt (mf n (mir v)) n b a));rw[gF n _ ha hb,gF n _ hb ha];unfold mir;rcases Nat.lt_trichotomy a b with h | h | h
 ·rw[if_neg (by omega),if_pos (by omega)]
 ·rw[h]
 ·rw[if_pos (by omega),if_neg (by omega)]
theorem SJ {v:Nat->Nat->Fl} (h:∀ a b,FW (v a b)) (a b:Nat):FW (mir v a b):=by
 unfold mir; split
 ·exact h _ _
 ·exact h _ _
theorem J2 {n:Nat} {v:Nat->Nat->Fl} (h:∀ a b,a<n->b<=a->bD (v a b)=true):∀ a b,a<n->b<n->bD (mir v a b)=true:=by
 intro a b ha hb;unfold mir; split
 ·exact h _ _ ha (by assumption)
 ·exact h _ _ hb (by omega)
theorem ifz {α:Sort _} {a:Int} {A B:α} (h:a=0):(if a ≠ 0 then A else B)=B:=if_neg λq=>q h
theorem bT {α:Sort _} {a:Int} {A B:α} (h:¬ a=0):(if a ≠ 0 then A else B)=A:=if_pos h
def sV (t:Fl) (f g:Nat->Fl):Nat->Fl
 | 0=>t
 | k+1=>qG (sV t f g k) (eP (f k) (g k))
def sO (t:Fl) (f g:Nat->Fl):Nat->Bool
 | 0=>false
 | k+1=>(sO t f g k || !bD (eP (f k) (g k))) || !bD (sV t f g (k+1))
theorem kG {t:Fl} {f f' g g':Nat->Fl}:∀{k:Nat},(∀ a,a<k->f a=f' a)->(∀ a,a<k->g a=g' a)->sV t f g k=sV t f' g' k
 | 0,_,_=>rfl
 | k+1,h1,h2=>by show qG (sV t f g k) (eP (f k) (g k))=qG (sV t f' g' k) (eP (f' k) (g' k));rw[kG (λa ha=>h1 a (by omega)) (λa ha=>h2 a (by omega)),h1 k (by omega),h2 k (by omega)]
theorem BI {t:Fl} {f f' g g':Nat->Fl}:∀{k:Nat},(∀ a,a<k->f a=f' a)->(∀ a,a<k->g a=g' a)->sO t f g k=sO t f' g' k
 | 0,_,_=>rfl
 | k+1,h1,h2=>by show((sO t f g k || !bD (eP (f k) (g k))) || !bD (sV t f g (k+1)))=((sO t f' g' k || !bD (eP (f' k) (g' k))) || !bD (sV t f' g' (k+1)));rw[BI (λa ha=>h1 a (by omega)) (λa ha=>h2 a (by omega)),h1 k (by omega),h2 k (by omega),kG h1 h2]
theorem q8 (o:Bool) (t:Fl) (f g:Nat->Fl) (k:Nat):(((o||sO t f g k) || !bD (eP (f k) (g k))) || !bD (qG (sV t f g k) (eP (f k) (g k))))=(o||sO t f g (k+1)):=by show _=(o||((sO t f g k || !bD (eP (f k) (g k))) || !bD (qG (sV t f g k) (eP (f k) (g k)))));simp only[Bool.or_assoc]
def cT (A:Nat->Nat->Fl):Nat->Nat->Nat->Fl
 | 0=>λ_ _=>some 0
 | j+1=>λi k=>if k=j then(if i<j then some 0 else if i=j then vg (sV (A j j) (cT A j j) (cT A j j) j)else fdiv (sV (A i j) (cT A j i) (cT A j j) j) (vg (sV (A j j) (cT A j j) (cT A j j) j)))else cT A j i k
def cL (A:Nat->Nat->Fl) (i k:Nat):Fl:=cT A (k+1) i k
theorem At (A:Nat->Nat->Fl) (i k:Nat):∀ m,k<m->cT A m i k=cL A i k
 | 0,h=>by omega
 | m+1,h=>by
  by_cases e:k=m
  ·rw[e]; rfl
  ·show(if k=m then _ else cT A m i k)=_;rw[if_neg e,At A i k m (by omega)]
def cV (A:Nat->Nat->Fl) (i j:Nat):Fl:=sV (A i j) (cL A i) (cL A j) j
def cO (A:Nat->Nat->Fl) (i j:Nat):Bool:=sO (A i j) (cL A i) (cL A j) j
theorem Sz (A:Nat->Nat->Fl) {i j:Nat} (h:i<j):cL A i j=some 0:=by show(if j=j then(if i<j then some 0 else _)else _)=_;rw[if_pos rfl,if_pos h]
theorem HJ (A:Nat->Nat->Fl) (j:Nat):cL A j j=vg (cV A j j):=by show(if j=j then(if j<j then some 0 else if j=j then vg (sV (A j j) (cT A j j) (cT A j j) j)else _)else _)=_;rw[if_pos rfl,if_neg (by omega),if_pos rfl];unfold cV;rw[kG (λa ha=>At A j a j ha) (λa ha=>At A j a j ha)]
theorem NX (A:Nat->Nat->Fl) {i j:Nat} (h:j<i):cL A i j=fdiv (cV A i j) (cL A j j):=by rw[HJ];show(if j=j then(if i<j then some 0 else if i=j then _ else fdiv (sV (A i j) (cT A j i) (cT A j j) j) (vg (sV (A j j) (cT A j j) (cT A j j) j)))else _)=_;rw[if_pos rfl,if_neg (by omega),if_neg (by omega)];unfold cV;rw[kG (λa ha=>At A j a j ha) (λa ha=>At A j a j ha),kG (t:=A i j) (λa ha=>At A i a j ha) (λa ha=>At A j a j ha)]
def cQ (A:Nat->Nat->Fl) (i j:Nat):Bool:=cO A i j || !bD (cL A i j)
def cC (A:Nat->Nat->Fl) (j i:Nat):Bool:=orB (λa=>decide (j<a)&&cQ A a j) i
def cR (A:Nat->Nat->Fl) (n:Nat):Nat->Nat->Bool->Int × Int
 | 0,_,o=>if o=true then(0,5)else(0,0)
 | d+1,j,o=>if (o||cO A j j)=true then(0,5)else if fgt (cV A j j) (some 0)=false then(j,90)else cR A n d (j+1) ((o||cO A j j)||cC A j n)
theorem Qw (A:Nat->Nat->Fl) (n:Nat):∀ d j,cR A n d j true=(0,5)
 | 0,_=>rfl
 | d+1,j=>by unfold cR; rw[Bool.true_or,if_pos rfl]
def dT (l:Nat->Nat->Fl) (b:Nat->Fl):Nat->Nat->Fl
 | 0=>λ_=>some 0
 | i+1=>λa=>if a=i then fdiv (sV (b i) (l i) (dT l b i) i) (l i i)else dT l b i a
def dX (l:Nat->Nat->Fl) (b:Nat->Fl) (i:Nat):Fl:=dT l b (i+1) i
theorem SA (l:Nat->Nat->Fl) (b:Nat->Fl) (i:Nat):∀ m,i<m->dT l b m i=dX l b i
 | 0,h=>by omega
 | m+1,h=>by
  by_cases e:i=m
  ·rw[e]; rfl
  ·show(if i=m then _ else dT l b m i)=_;rw[if_neg e,SA l b i m (by omega)]
def dW (l:Nat->Nat->Fl) (b:Nat->Fl) (i:Nat):Fl:=sV (b i) (l i) (dX l b) i
theorem Jv (l:Nat->Nat->Fl) (b:Nat->Fl) (i:Nat):dX l b i=fdiv (dW l b i) (l i i):=by show(if i=i then fdiv (sV (b i) (l i) (dT l b i) i) (l i i)else _)=_;rw[if_pos rfl];unfold dW;rw[kG (g:=dT l b i) (g':=dX l b) (λa _=>rfl) (λa ha=>SA l b a i ha)]
def dP (l:Nat->Nat->Fl) (b:Nat->Fl) (i:Nat):Bool:=sO (b i) (l i) (dX l b) i || !bD (dX l b i)
def uT (l:Nat->Nat->Fl) (b:Nat->Fl) (n:Nat):Nat->Nat->Fl
 | 0=>λ_=>some 0
 | m+1=>λa=>if a=n - 1 - m then fdiv (sV (b a) (λt=>l (a+1+t) a) (λt=>uT l b n m (a+1+t)) m) (l a a)else uT l b n m a
def uX (l:Nat->Nat->Fl) (b:Nat->Fl) (n:Nat) (i:Nat):Fl:=uT l b n (n - i) i
theorem S7 (l:Nat->Nat->Fl) (b:Nat->Fl) (n:Nat) {i:Nat} (hi:i<n):∀ m,n - i<=m->m<=n->uT l b n m i=uX l b n i
 | 0,h,_=>by omega
 | m+1,h,h2=>by
  by_cases e:n - i=m+1
  ·show _=uT l b n (n - i) i; rw[e]
  ·show(if i=n - 1 - m then _ else uT l b n m i)=_;rw[if_neg (by omega),S7 l b n hi m (by omega) (by omega)]
def uW (l:Nat->Nat->Fl) (b:Nat->Fl) (n:Nat) (i:Nat):Fl:=sV (b i) (λt=>l (i+1+t) i) (λt=>uX l b n (i+1+t)) (n - 1 - i)
theorem Kv (l:Nat->Nat->Fl) (b:Nat->Fl) {n i:Nat} (hi:i<n):uX l b n i=fdiv (uW l b n i) (l i i):=by
 unfold uX;obtain⟨m,hm⟩:∃ m,n - i=m+1:=⟨n - i - 1,by omega⟩
 rw[hm];show(if i=n - 1 - m then fdiv (sV (b i) (λt=>l (i+1+t) i) (λt=>uT l b n m (i+1+t)) m) (l i i)else _)=_;rw[if_pos (by omega)];unfold uW;rw[show n - 1 - i=m by omega,kG (f':=λt=>l (i+1+t) i) (g':=λt=>uX l b n (i+1+t)) (λa _=>rfl) (λa ha=>S7 l b n (by omega) m (by omega) (by omega))]
def uP (l:Nat->Nat->Fl) (b:Nat->Fl) (n:Nat) (i:Nat):Bool:=sO (b i) (λt=>l (i+1+t) i) (λt=>uX l b n (i+1+t)) (n - 1 - i) || !bD (uX l b n i)
def orD (p:Nat->Bool) (n:Nat):Nat->Bool
 | 0=>false
 | m+1=>orD p n m||p (n - 1 - m)
theorem ym {p:Nat->Bool} {n:Nat}:∀{m:Nat},m<=n->orD p n m=false -> ∀ i,n - m<=i->i<n->p i=false
 | 0,_,_,i,h1,h2=>by omega
 | m+1,hm,h,i,h1,h2=>by
  unfold orD at h;rw[Bool.or_eq_false_iff]at h;rcases Nat.lt_or_ge i (n - m)with h3 | h3
  ·rw[show i=n - 1 - m by omega]; exact h.2
  ·exact ym (by omega) h.1 i h3 h2
theorem GB (o:Bool) (p:Nat->Bool) (n m:Nat):((o||orD p n m)||p (n - 1 - m))=(o||orD p n (m+1)):=by show _=(o||(orD p n m||p (n - 1 - m))); rw[Bool.or_assoc]
theorem Qu (x:Fl):az [x]=bD x:=by
 rw[Bool.eq_iff_iff,az,bX];constructor
 ·intro h; exact h 0 (by show 0<1; omega)
 ·intro h i hi;obtain rfl:i=0:=by have:i<1:=hi; omega
  exact h
theorem uD {N:Nat} (hN:1000<=N) (x:Fl) (o:Bool) (k:Bool->Bool):bM N x o k=k (o || !bD x):=by unfold bM nJ;rw[lE [x] ⟨by show 1<N; omega,by show 1<=_; omega⟩,Qu];cases bD x <;> cases o <;> rfl
theorem qL {N:Nat} (hN:1000<=N) (a b:Fl) (o:Bool) (k:Fl->Bool->Bool):bV N a b o k=k (eP a b) (o || !bD (eP a b)):=by unfold bV k6;rw[uD hN]
theorem xY {N:Nat} (hN:1000<=N) (a b:Fl) (o:Bool) (k:Fl->Bool->Bool):cP N a b o k=k (qG a b) (o || !bD (qG a b)):=by unfold cP mc;rw[uD hN]
theorem oU {N n i j:Nat} (hn:n<=12) (hi:i<n) (hj:j<n) {l:List Fl} (h:l.length=n*n) (r:Int) (k:Fl->Bool):gC N r n l i j k=k (elt l n i j):=by obtain⟨h1,h2⟩:=dk (by omega:n<=1000) hi hj;have h3:=eo hi hj;unfold gC CH elt;rw[dj,aa h1,aa h2,h,Int.toNat_natCast,aa (ai (by omega) (by omega))]
theorem Da {N n i j:Nat} (hN:1000<=N) (hn:n<=12) (hi:i<n) (hj:j<n) {a low:List Fl} (ha:a.length=n*n) (hl:low.length=n*n)
  (h1:∀ c,c<j->elt low n i c=cL (elt a n) i c) (h2:∀ c,c<j->elt low n j c=cL (elt a n) j c) (r:Int) (o:Bool) (k:Fl->Bool->Bool) :
  bd N i j n r n a low o k=k (cV (elt a n) i j) (o||cO (elt a n) i j):=by
 unfold bd; rw[ac]; unfold bG oY oD;rw[oU hn hi hj ha];dsimp only;have h0:((elt a n i j,(0:Int),o):Fl × Int × Bool)=(λt:Nat=>(sV (elt a n i j) (cL (elt a n) i) (cL (elt a n) j) t,(t:Int),o||sO (elt a n i j) (cL (elt a n) i) (cL (elt a n) j) t)) 0:=by show _=(elt a n i j,((0:Nat):Int),o||false); rw[qY]; rfl
 rw[h0];refine aA (λt:Nat=>(sV (elt a n i j) (cL (elt a n) i) (cL (elt a n) j) t,(t:Int),o||sO (elt a n i j) (cL (elt a n) i) (cL (elt a n) j) t)) j (by omega) ?_ ?_
 ·intro t ht K;have ht2:t<n:=by omega
  obtain⟨f1,f2⟩:=dk (by omega:n<=1000) hi ht2;obtain⟨g1,g2⟩:=dk (by omega:n<=1000) hj ht2;have b1:=eo hi ht2;have b2:=eo hj ht2;unfold aW;dsimp only;rw[decide_eq_true (by omega:(t:Int)<(j:Int)),cond_true,dj,dj,aa f1,aa f2,Int.toNat_natCast,Int.toNat_natCast,hl,aa (ai (by omega) (by omega)),aa (decide_eq_true b1),aa g1,aa g2,aa (ai (by omega) (by omega)),aa (decide_eq_true b2)];unfold jA; rw[ac]; unfold eg;rw[qL hN,xY hN];dsimp only;rw[aa (ab (by omega) (by omega))];rw[show low.getD (i*n+t) none=elt low n i t from rfl,show low.getD (j*n+t) none=elt low n j t from rfl,h1 t ht,h2 t ht,q8];rfl
 ·intro K;unfold aW;dsimp only;rw[decide_eq_false (by omega:¬(j:Int)<(j:Int)),cond_false];rfl
def pL (A:Nat->Nat->Fl) (j i:Nat):Nat->Nat->Fl:=λa b=>if b<a/\(b<j\/(b=j/\a<i))then cL A a b else some 0
theorem Rx (n:Nat) (A:Nat->Nat->Fl):mf n (λ_ _=>some 0)=mf n (pL A 0 0):=aZ n (λa b _ _=>by unfold pL; rw[if_neg (by omega)])
theorem V5 (n:Nat) (A:Nat->Nat->Fl) (j:Nat):mf n (pL A j n)=mf n (pL A (j+1) 0):=aZ n (λa b ha _=>by
 unfold pL;by_cases h:b<a/\(b<j\/(b=j/\a<n))
 ·rw[if_pos h,if_pos ⟨h.1,by omega⟩]
 ·rw[if_neg h,if_neg (by omega)])
theorem Rw (n:Nat) (A:Nat->Nat->Fl) {j i:Nat} (h:i<=j):mf n (pL A j i)=mf n (pL A j (i+1)):=aZ n (λa b ha _=>by
 unfold pL;by_cases h:b<a/\(b<j\/(b=j/\a<i))
 ·rw[if_pos h,if_pos (by omega)]
 ·rw[if_neg h,if_neg (by omega)])
theorem Rv (n:Nat) (A:Nat->Nat->Fl) {j i:Nat} (h:j<i):mf n (λa b=>if a=i/\b=j then cL A i j else pL A j i a b)=mf n (pL A j (i+1)):=aZ n (λa b _ _=>by
 unfold pL;by_cases h1:a=i/\b=j
 ·rw[if_pos h1,if_pos (by omega),h1.1,h1.2]
 ·rw[if_neg h1];by_cases h2:b<a/\(b<j\/(b=j/\a<i))
  ·rw[if_pos h2,if_pos (by omega)]
  ·rw[if_neg h2,if_neg (by omega)])
theorem DN (A:Nat->Nat->Fl) (o:Bool) (j i:Nat):((o||cC A j i)||(decide (j<i)&&cQ A i j))=(o||cC A j (i+1)):=xb o _ i
theorem O4 {N n j:Nat} (hN:1000<=N) (hn:n<=12) (hj:j<n) {a:List Fl} (ha:a.length=n*n) (r t1 t2:Int) (hd:List Fl) (o:Bool) (e0:Bool->List Fl->Bool) :
  ah N (bw N j (cL (elt a n) j j) t1 t2 n r n a n hd e0) (0,o,mf n (pL (elt a n) j 0))=e0 (o||cC (elt a n) j n) (mf n (pL (elt a n) j n)):=by
 have h0:((0,o,mf n (pL (elt a n) j 0)):Int × Bool × List Fl)=(λt:Nat=>((t:Int),o||cC (elt a n) j t,mf n (pL (elt a n) j t))) 0:=by show _=(((0:Nat):Int),o||false,_); rw[qY]; rfl
 rw[h0];refine aA (λt:Nat=>((t:Int),o||cC (elt a n) j t,mf n (pL (elt a n) j t))) n (by omega) ?_ ?_
 ·intro i hi K;unfold bw;dsimp only;rw[decide_eq_true (by omega:(i:Int)<(n:Int)),cond_true];by_cases hij:i<=j
  ·rw[decide_eq_true (by omega:(i:Int)<=(j:Int)),cond_true,aa (ab (by omega) (by omega)),Rw n _ hij];have e:(o||cC (elt a n) j (i+1))=(o||cC (elt a n) j i):=by rw[<- DN,decide_eq_false (by omega:¬ j<i),Bool.false_and,qY]
   rw[<- e];rfl
  ·obtain⟨f1,f2⟩:=dk (by omega:n<=1000) hi hj;have b1:=eo hi hj;have lo:∀(x:Nat),x<n->j<=x -> ∀ c,c<j->elt (mf n (pL (elt a n) j i)) n x c=cL (elt a n) x c:=λx hx hx2 c hc=>by rw[gF n _ hx (by omega)]; unfold pL; rw[if_pos (by omega)]
   rw[decide_eq_false (by omega:¬(i:Int)<=(j:Int)),cond_false,dj,aa f1,aa f2,Da hN hn hi hj ha (bH n _) (lo i hi (by omega)) (lo j hj (by omega))]
   (unfold jC; rw[ac]; unfold ek)
   rw[uD hN];dsimp only;rw[bH,Int.toNat_natCast,aa (ai (by omega) (by omega)),aa (decide_eq_true b1),aa (ab (by omega) (by omega)),<- NX _ (by omega:j<i),ti n _ hi hj,Rv n _ (by omega)];have e:(((o||cC (elt a n) j i)||cO (elt a n) i j) || !bD (cL (elt a n) i j))=(o||cC (elt a n) j (i+1)):=by rw[<- DN,decide_eq_true (by omega:j<i),Bool.true_and];unfold cQ;simp only[Bool.or_assoc]
   rw[e];rfl
 ·intro K;unfold bw;dsimp only;rw[decide_eq_false (by omega:¬(n:Int)<(n:Int)),cond_false]
def Fg (A:Nat->Nat->Fl) (t:Nat):Fl:=cL A t t
theorem Db {N n:Nat} (hN:1000<=N) (hn:n<=12) {a:List Fl} (ha:a.length=n*n) (r:Int) (e0:Int->Int->Bool->List Fl->Bool) (e1:Bool->List Fl->List Fl->Bool) (R:Int × Int->Bool)
  (h0:∀(j:Nat) o h,e0 j 5 o h=R (0,5)) (h0':∀(j:Nat) o h,e0 j 90 o h=R (j,90))
  (h1:∀ o,e1 o ((vf n (Fg (elt a n))).take n) (mf n (pL (elt a n) n 0))=R (if o=true then(0,5)else(0,0))) :
  ∀(d j M:Nat) (o:Bool),j+d=n->d<M ->
  ah M (aG N n r n a n e0 e1) ((j:Int),o,(vf n (Fg (elt a n))).take j,mf n (pL (elt a n) j 0))=R (cR (elt a n) n d j o)
 | 0,j,M+1,o,hj,hM=>by
  obtain rfl:j=n:=by omega
  show aG N j r j a j e0 e1 _ _=_;unfold aG;dsimp only;rw[decide_eq_false (by omega:¬(j:Int)<(j:Int)),cond_false];exact h1 o
 | d+1,j,M+1,o,hj,hM=>by
  have hj2:j<n:=by omega
  have ih:=Db hN hn ha r e0 e1 R h0 h0' h1 d (j+1) M;show aG N n r n a n e0 e1 _ (ah M (aG N n r n a n e0 e1))=_;generalize ah M (aG N n r n a n e0 e1)=K at ih ⊢;have lo:∀ c,c<j->elt (mf n (pL (elt a n) j 0)) n j c=cL (elt a n) j c:=λc hc=>by rw[gF n _ hj2 (by omega)]; unfold pL; rw[if_pos (by omega)]
  unfold aG cR;dsimp only;rw[decide_eq_true (by omega:(j:Int)<(n:Int)),cond_true,Da hN hn hj2 hj2 ha (bH n _) lo lo];unfold jB; rw[ac]; unfold eh;cases h2:(o||cO (elt a n) j j)
  case true=>rw[cond_true,if_pos rfl]; exact h0 j _ _
  rw[cond_false,if_neg (by decide)];cases h3:fgt (cV (elt a n) j j) (some 0)
  case false=>rw[if_pos rfl]; exact h0' j _ _
  rw[Bool.not_true,cond_false,if_neg (by decide)];unfold xl Af GT;dsimp only;rw[show((0:Int) != 0)=false from rfl,cond_false,<- HJ];have e:=xv n (Fg (elt a n)) hj2;rw[show cL (elt a n) j j=Fg (elt a n) j from rfl,e,aa (decide_eq_true (by rw[List.length_take,bK]; omega)),show Fg (elt a n) j=cL (elt a n) j j from rfl];refine(O4 hN hn hj2 ha r n j _ false _).trans ?_;rw[aa (ab (by omega) (by omega)),V5];exact ih _ (by omega) (by omega)
def pD (A:Nat->Nat->Fl) (i:Nat):Nat->Nat->Fl:=λa b=>if b<a then cL A a b else if a=b/\a<i then cL A a b else some 0
theorem Ru (n:Nat) (A:Nat->Nat->Fl):mf n (pL A n 0)=mf n (pD A 0):=aZ n (λa b ha hb=>by
 unfold pL pD;by_cases h:b<a
 ·rw[if_pos (by omega),if_pos h]
 ·rw[if_neg (by omega),if_neg h,if_neg (by omega)])
theorem Rt (n:Nat) (A:Nat->Nat->Fl) (i:Nat):mf n (λa b=>if a=i/\b=i then cL A i i else pD A i a b)=mf n (pD A (i+1)):=aZ n (λa b ha hb=>by
 unfold pD;by_cases h:a=i/\b=i
 ·rw[if_pos h,if_neg (by omega),if_pos (by omega),h.1,h.2]
 ·rw[if_neg h];by_cases h2:b<a
  ·rw[if_pos h2,if_pos h2]
  ·rw[if_neg h2,if_neg h2];by_cases h3:a=b/\a<i
   ·rw[if_pos h3,if_pos (by omega)]
   ·rw[if_neg h3,if_neg (by omega)])
theorem V4 (n:Nat) (A:Nat->Nat->Fl):mf n (pD A n)=mf n (cL A):=aZ n (λa b ha hb=>by
 unfold pD;by_cases h:b<a
 ·rw[if_pos h]
 ·rw[if_neg h];by_cases h2:a=b/\a<n
  ·rw[if_pos h2]
  ·rw[if_neg h2,Sz A (by omega)])
theorem O5 {N n:Nat} (hN:1000<=N) (hn:n<=12) (A:Nat->Nat->Fl) (r c:Int) (a:List Fl) (t2 t3:Int) (e0:List Fl->Bool) (hr:r=n) :
  ah N (fv N n r c a t2 t3 (vf n (Fg A)) e0) (0,mf n (pL A n 0))=e0 (mf n (cL A)):=by
 subst hr;rw[Ru];refine aA (λt:Nat=>((t:Int),mf n (pD A t))) n (by omega) ?_ ?_
 ·intro i hi K;obtain⟨f1,f2⟩:=dk (by omega:n<=1000) hi hi;have b1:=eo hi hi;unfold fv;dsimp only;rw[decide_eq_true (by omega:(i:Int)<(n:Int)),cond_true,bK,Int.toNat_natCast,aa (ai (by omega) (by omega)),aa (decide_eq_true hi),dj,aa f1,aa f2,bH,Int.toNat_natCast,aa (ai (by omega) (by omega)),aa (decide_eq_true b1),aa (ab (by omega) (by omega)),i9 n _ hi,ti n _ hi hi];rw[show Fg A i=cL A i i from rfl,Rt];rfl
 ·intro K;unfold fv;dsimp only;rw[decide_eq_false (by omega:¬(n:Int)<(n:Int)),cond_false,V4]
def evE (r c:Int) (l:List Fl):Int:=if chk r c l ≠ 0 then chk r c l else if r ≠ c then 3 else 0
def sqE (r c:Int) (l:List Fl):Int:=if evE r c l ≠ 0 then evE r c l else if mU r.toNat l=false then 91 else 0
theorem ij {r c:Int} {l:List Fl} (h:evE r c l=0):∃ n:Nat,n<=12/\r=n/\c=n/\l.length=n*n/\az l=true:=by
 unfold evE at h;split at h
 ·exact absurd h (by assumption)
 ·rename_i h0;have q:=mh.1 (show chk r c l=0 by simpa using h0);split at h
  ·cases h
  ·rename_i h1;have h1:r=c:=by simpa using h1
   subst h1;obtain⟨n,hn⟩:∃ n:Nat,r=n:=⟨r.toNat,by omega⟩
   subst hn;exact⟨n,by omega,rfl,rfl,by exact_mod_cast q.2.1,q.2.2⟩
theorem p9 {r c:Int} {l:List Fl} (h:sqE r c l=0):∃ n:Nat,n<=12/\r=n/\c=n/\l.length=n*n/\az l=true/\mU n l=true:=by
 unfold sqE at h;split at h
 ·exact absurd h (by assumption)
 ·rename_i h0;obtain⟨n,h1,h2,h3,h4,h5⟩:=ij (show evE r c l=0 by simpa using h0);subst h2;split at h
  ·cases h
  ·rename_i h6;exact⟨n,h1,rfl,h3,h4,h5,by simpa using h6⟩
theorem xW {N:Nat} (hN:1000<=N) (r c:Int) (l:List Fl) (k:Int->Bool):mG N r c l k=k (evE r c l):=by
 unfold mG; rw[ac]; unfold se evE;rw[ep hN];by_cases h0:chk r c l=0
 ·rw[h0,if_neg (λh=>h rfl),show((0:Int) != 0)=false from rfl,cond_false];by_cases h1:r=c
  ·rw[if_neg (λh=>h h1),show(r != c)=false by simp[h1],cond_false]
  ·rw[if_pos h1,aC _ _ h1,cond_true]
 ·rw[if_pos h0,aC _ _ h0,cond_true]
theorem zb {N:Nat} (hN:1000<=N) (r c:Int) (l:List Fl) (k:Int->Bool):l4 N r c l k=k (sqE r c l):=by
 unfold l4; rw[ac]; unfold pj sqE;rw[xW hN];by_cases h0:evE r c l=0
 ·obtain⟨n,h1,h2,h3,h4,h5⟩:=ij h0;subst h2 h3;rw[h0,if_neg (λh=>h rfl),show((0:Int) != 0)=false from rfl,cond_false,JL hN h1 h4 h5,Int.toNat_natCast];cases mU n l <;> rfl
 ·rw[if_pos h0,aC _ _ h0,cond_true]
abbrev KC:=Int->Int->List Fl->Int->Int->Bool
def chK (r c:Int) (a:List Fl) (k:KC):Bool:=
 if sqE r c a ≠ 0 then k 0 0 [] 0 (sqE r c a)
 else if (cR (elt a r.toNat) r.toNat r.toNat 0 false).2 ≠ 0 then k 0 0 [] (cR (elt a r.toNat) r.toNat r.toNat 0 false).1 (cR (elt a r.toNat) r.toNat r.toNat 0 false).2
 else k r r (mf r.toNat (cL (elt a r.toNat))) 0 0
theorem Ba {N:Nat} (hN:1000<=N) (r c:Int) (a:List Fl) (k:KC):mF N r c a k=chK r c a k:=by
 unfold mF; rw[ac]; unfold sb chK;rw[zb hN];by_cases h0:sqE r c a=0
 ·obtain⟨n,hn,rfl,rfl,hl,hf,hs⟩:=p9 h0;have n2:=oe hn;rw[h0,if_neg (λh=>h rfl),show((0:Int) != 0)=false from rfl,cond_false,Int.toNat_natCast];unfold mI me;unfold gz; rw[ac]; unfold da;rw[<- Int.natCast_mul,aa (ab (by omega) (by omega)),aa (bF (by omega) (by omega) (by omega) (by omega)),Int.toNat_natCast,z_,Rx n (elt a n)];refine(Db (N:=N) hN hn hl n _ _ (λq=>if q.2 ≠ 0 then k 0 0 [] q.1 q.2 else k n n (mf n (cL (elt a n))) 0 0) (λj o h=>?_) (λj o h=>?_) (λo=>?_) n 0 N false (by omega) (by omega) :)
  ·rfl
  ·rfl
  ·rw[List.take_of_length_le (by rw[bK]; omega)];cases o
   ·show jr N n n a 0 0 (mf n (pL (elt a n) n 0)) (vf n (Fg (elt a n))) k=_;unfold jr;rw[show((0:Int) != 0)=false from rfl,cond_false,bK,O5 hN hn (elt a n) n n a 0 0 _ rfl];rfl
   ·rfl
 ·rw[if_pos h0,aC _ _ h0,cond_true]
def fl_ (g:Nat->Fl) (t:Nat):Nat->Fl:=λa=>if a<t then g a else some 0
theorem jI {n:Nat} {g g':Nat->Fl} (h:∀ a,a<n->g a=g' a):vf n g=vf n g':=by unfold vf;apply List.map_congr_left;intro t ht;exact h t (List.mem_range.1 ht)
theorem Kx (n:Nat):List.replicate n (some 0)=vf n (λ_=>some 0):=by
 apply List.ext_getElem?;intro t;unfold vf;rw[List.getElem?_map,List.getElem?_replicate];by_cases ht:t<n
 ·rw[if_pos ht,List.getElem?_range ht]; rfl
 ·rw[if_neg ht,List.getElem?_eq_none (by rw[List.length_range]; omega)]; rfl
theorem EU (n:Nat) (g:Nat->Fl) {i:Nat} (hi:i<n) (v:Fl):(vf n g).set i v=vf n (λa=>if a=i then v else g a):=by
 apply List.ext_getElem?;intro t;by_cases ht:t<n
 ·rw[List.getElem?_set];unfold vf;rw[List.getElem?_map,List.getElem?_map,List.getElem?_range ht];simp only[List.length_map,List.length_range,Option.map_some];by_cases he:i=t
  ·rw[if_pos he,if_pos hi,if_pos he.symm]
  ·rw[if_neg he,if_neg (λh=>he h.symm)]
 ·rw[List.getElem?_eq_none (by rw[List.length_set,bK]; omega),List.getElem?_eq_none (by rw[bK]; omega)]
theorem JB (n:Nat) (g:Nat->Fl) (t:Nat):vf n (λa=>if a=t then g t else fl_ g t a)=vf n (fl_ g (t+1)):=jI λa _=>by
 unfold fl_;by_cases h:a=t
 ·rw[if_pos h,if_pos (by omega),h]
 ·rw[if_neg h];by_cases h2:a<t
  ·rw[if_pos h2,if_pos (by omega)]
  ·rw[if_neg h2,if_neg (by omega)]
theorem OB (n:Nat) (g:Nat->Fl):vf n (fl_ g n)=vf n g:=jI λa ha=>by unfold fl_; rw[if_pos ha]
theorem JC (n:Nat) (g:Nat->Fl):List.replicate n (some 0)=vf n (fl_ g 0):=by rw[Kx]; exact jI λa _=>by unfold fl_; rw[if_neg (by omega)]
def bt (b:List Fl):Nat->Fl:=λi=>b.getD i none
theorem O7 {N n i:Nat} (hN:1000<=N) (hn:n<=12) (hi:i<n) {l x:List Fl} (hl:l.length=n*n) (g:Nat->Fl) (hx:∀ t,t<i->x.getD t none=g t) (hxl:x.length=n) (b0:Fl) (b:List Fl) (t15 t16 r:Int) (o:Bool) (e0:Fl->Bool->Bool) :
  ah N (cj N b i t15 t16 i r n l x e0) (b0,0,o)=e0 (sV b0 (elt l n i) g i) (o||sO b0 (elt l n i) g i):=by
 have h1:((b0,(0:Int),o):Fl × Int × Bool)=(λt:Nat=>(sV b0 (elt l n i) g t,(t:Int),(o||sO b0 (elt l n i) g t))) 0:=by show _=(b0,((0:Nat):Int),(o||false)); rw[qY]; rfl
 rw[h1];refine aA (λt:Nat=>(sV b0 (elt l n i) g t,(t:Int),(o||sO b0 (elt l n i) g t))) i (by omega) ?_ ?_
 ·intro t ht K;unfold cj;dsimp only;rw[decide_eq_true (by omega:(t:Int)<(i:Int)),cond_true,oU hn hi (by omega) hl,hxl];rw[aa (ai (by omega) (by omega)),Int.toNat_natCast,aa (decide_eq_true (by omega)),hx t ht,qL hN,xY hN];rw[aa (ab (by omega) (by omega)),q8];rfl
 ·intro K;unfold cj;dsimp only;rw[decide_eq_false (by omega:¬(i:Int)<(i:Int)),cond_false]
theorem JN {N n:Nat} (hN:1000<=N) (hn:n<=12) {l b:List Fl} (hl:l.length=n*n) (hb:b.length=n) (r:Int) (o:Bool) (k:List Fl->Bool->Bool) :
  ci N r n l b o k=k (vf n (dX (elt l n) (bt b))) (o||orB (dP (elt l n) (bt b)) n):=by
 unfold ci; rw[ac]; unfold ig;rw[hb,aa (bF (by omega) (by omega) (by omega) (by omega)),Int.toNat_natCast,JC n (dX (elt l n) (bt b))];have h0:((0,o,vf n (fl_ (dX (elt l n) (bt b)) 0)):Int × Bool × List Fl)=(λt:Nat=>((t:Int),(o||orB (dP (elt l n) (bt b)) t),vf n (fl_ (dX (elt l n) (bt b)) t))) 0:=by show _=(((0:Nat):Int),(o||false),_); rw[qY]; rfl
 rw[h0];refine aA (λt:Nat=>((t:Int),(o||orB (dP (elt l n) (bt b)) t),vf n (fl_ (dX (elt l n) (bt b)) t))) n (by omega) ?_ ?_
 ·intro i hi K;unfold cZ;dsimp only;rw[decide_eq_true (by omega:(i:Int)<(n:Int)),cond_true,hb,aa (ai (by omega) (by omega)),Int.toNat_natCast];refine(O7 hN hn hi hl (dX (elt l n) (bt b)) (λt ht=>?_) (bK _ _) _ _ _ _ _ _ _).trans ?_
  ·rw[i9 _ _ (by omega)]; unfold fl_; rw[if_pos ht]
  rw[oU hn hi hi hl];rw[uD hN];rw[bK,aa (ai (by omega) (by omega)),aa (decide_eq_true hi),aa (ab (by omega) (by omega)),EU _ _ hi];have e:=Jv (elt l n) (bt b) i;unfold dW at e;rw[show b.getD i none=bt b i from rfl,<- e,JB];have e2:(((o||orB (dP (elt l n) (bt b)) i)||sO (bt b i) (elt l n i) (dX (elt l n) (bt b)) i) || !bD (dX (elt l n) (bt b) i))=(o||orB (dP (elt l n) (bt b)) (i+1)):=by rw[<- xb o (dP (elt l n) (bt b)) i];unfold dP;simp only[Bool.or_assoc]
  rw[e2];rfl
 ·intro K;unfold cZ;dsimp only;rw[decide_eq_false (by omega:¬(n:Int)<(n:Int)),cond_false,OB]
theorem O8 {N n i:Nat} (hN:1000<=N) (hn:n<=12) (hi:i<n) {l x b:List Fl} (hl:l.length=n*n) (g:Nat->Fl) (hx:∀ t,i<t->t<n->x.getD t none=g t) (hxl:x.length=n) (hb:b.length=n) (b0:Fl) (r:Int) (o:Bool) (e0:Fl->Bool->Bool) :
  ah N (cB N b i r n l x e0) (b0,(i:Int)+1,o)=e0 (sV b0 (λt=>elt l n (i+1+t) i) (λt=>g (i+1+t)) (n - 1 - i)) (o||sO b0 (λt=>elt l n (i+1+t) i) (λt=>g (i+1+t)) (n - 1 - i)):=by
 have h1:((b0,(i:Int)+1,o):Fl × Int × Bool)=(λt:Nat=>(sV b0 (λt=>elt l n (i+1+t) i) (λt=>g (i+1+t)) t,((i+1+t:Nat):Int),(o||sO b0 (λt=>elt l n (i+1+t) i) (λt=>g (i+1+t)) t))) 0:=by show _=(b0,((i+1:Nat):Int),(o||false)); rw[qY]; rfl
 rw[h1];refine aA (λt:Nat=>(sV b0 (λt=>elt l n (i+1+t) i) (λt=>g (i+1+t)) t,((i+1+t:Nat):Int),(o||sO b0 (λt=>elt l n (i+1+t) i) (λt=>g (i+1+t)) t))) (n - 1 - i) (by omega) ?_ ?_
 ·intro t ht K;unfold cB;dsimp only;rw[hb,decide_eq_true (by omega:((i+1+t:Nat):Int)<(n:Int)),cond_true,oU hn (by omega) hi hl,hxl];rw[aa (ai (by omega) (by omega)),Int.toNat_natCast,aa (decide_eq_true (by omega)),hx _ (by omega) (by omega),qL hN,xY hN];rw[aa (ab (by omega) (by omega)),q8 o b0 (λt=>elt l n (i+1+t) i) (λt=>g (i+1+t)) t];rfl
 ·intro K;unfold cB;dsimp only;rw[hb,decide_eq_false (by omega:¬((i+1+(n - 1 - i):Nat):Int)<(n:Int)),cond_false]
def fu_ (n:Nat) (g:Nat->Fl) (m:Nat):Nat->Fl:=λa=>if n - m<=a then g a else some 0
theorem JF (n:Nat) (g:Nat->Fl):List.replicate n (some 0)=vf n (fu_ n g 0):=by rw[Kx]; exact jI λa _=>by unfold fu_; rw[if_neg (by omega)]
theorem OI (n:Nat) (g:Nat->Fl):vf n (fu_ n g n)=vf n g:=jI λa ha=>by unfold fu_; rw[if_pos (by omega)]
theorem JE (n:Nat) (g:Nat->Fl) {m:Nat} (hm:m<n):vf n (λa=>if a=n - 1 - m then g (n - 1 - m)else fu_ n g m a)=vf n (fu_ n g (m+1)):=jI λa _=>by
 unfold fu_;by_cases h:a=n - 1 - m
 ·rw[if_pos h,if_pos (by omega),h]
 ·rw[if_neg h];by_cases h2:n - m<=a
  ·rw[if_pos h2,if_pos (by omega)]
  ·rw[if_neg h2,if_neg (by omega)]
theorem JO {N n:Nat} (hN:1000<=N) (hn:n<=12) {l b:List Fl} (hl:l.length=n*n) (hb:b.length=n) (r:Int) (o:Bool) (k:List Fl->Bool->Bool) :
  cF N r n l b o k=k (vf n (uX (elt l n) (bt b) n)) (o||orD (uP (elt l n) (bt b) n) n n):=by
 unfold cF; rw[ac]; unfold jR;rw[hb,aa (bF (by omega) (by omega) (by omega) (by omega)),aa (ab (by omega) (by omega)),Int.toNat_natCast,JF n (uX (elt l n) (bt b) n)];have h0:(((n:Int) - 1,o,vf n (fu_ n (uX (elt l n) (bt b) n) 0)):Int × Bool × List Fl)=(λm:Nat=>((n:Int) - 1 - (m:Int),(o||orD (uP (elt l n) (bt b) n) n m),vf n (fu_ n (uX (elt l n) (bt b) n) m))) 0:=by show _=((n:Int) - 1 - ((0:Nat):Int),(o||false),_); rw[qY,show(n:Int) - 1 - ((0:Nat):Int)=(n:Int) - 1 by omega]
 rw[h0];refine aA (λm:Nat=>((n:Int) - 1 - (m:Int),(o||orD (uP (elt l n) (bt b) n) n m),vf n (fu_ n (uX (elt l n) (bt b) n) m))) n (by omega) ?_ ?_
 ·intro m hm K;obtain⟨i,hi⟩:∃ i,n - 1 - m=i:=⟨_,rfl⟩
  have hi2:i<n:=by omega
  have ei:(n:Int) - 1 - (m:Int)=(i:Int):=by omega
  unfold dL;dsimp only;rw[ei,decide_eq_true (by omega:(i:Int)>=0),cond_true,hb,aa (ai (by omega) (by omega)),aa (ab (by omega) (by omega)),Int.toNat_natCast];refine(O8 hN hn hi2 hl (uX (elt l n) (bt b) n) (λt ht ht2=>?_) (bK _ _) hb _ _ _ _).trans ?_
  ·rw[i9 _ _ ht2]; unfold fu_; rw[if_pos (by omega)]
  rw[oU hn hi2 hi2 hl];rw[uD hN];rw[bK,aa (ai (by omega) (by omega)),aa (decide_eq_true hi2),aa (ab (by omega) (by omega)),EU _ _ hi2];have e:=Kv (elt l n) (bt b) hi2;unfold uW at e;rw[show b.getD i none=bt b i from rfl,<- e];have e3:=JE n (uX (elt l n) (bt b) n) hm;rw[hi]at e3;rw[e3];have e2:(((o||orD (uP (elt l n) (bt b) n) n m)||sO (bt b i) (λt=>elt l n (i+1+t) i) (λt=>uX (elt l n) (bt b) n (i+1+t)) (n - 1 - i)) || !bD (uX (elt l n) (bt b) n i))=(o||orD (uP (elt l n) (bt b) n) n (m+1)):=by rw[<- GB o (uP (elt l n) (bt b) n) n m,hi];unfold uP;simp only[Bool.or_assoc]
  rw[e2];show K ((i:Int) - 1,_)=K ((n:Int) - 1 - ((m+1:Nat):Int),_);rw[show(i:Int) - 1=(n:Int) - 1 - ((m+1:Nat):Int) by omega]
 ·intro K;unfold dL;dsimp only;rw[decide_eq_false (by omega:¬(n:Int) - 1 - (n:Int)>=0),cond_false,OI]
theorem pC {n:Nat} {l l':Nat->Nat->Fl} {b b':Nat->Fl} (hl:∀ i j,i<n->j<=i->l i j=l' i j) (hb:∀ i,i<n->b i=b' i):∀ i,i<n->dX l b i=dX l' b' i:=by
 intro i;induction i using Nat.strongRecOn with
 | _ i ih=>
  intro hi;rw[Jv,Jv];unfold dW;rw[hb i hi,hl i i hi (Nat.le_refl _),kG (λa ha=>hl i a hi (by omega)) (λa ha=>ih a ha (by omega))]
theorem Az {n:Nat} {l l':Nat->Nat->Fl} {b b':Nat->Fl} (hl:∀ i j,i<n->j<=i->l i j=l' i j) (hb:∀ i,i<n->b i=b' i):∀ i,i<n->dP l b i=dP l' b' i:=by intro i hi;unfold dP;rw[pC hl hb i hi,hb i hi,BI (λa ha=>hl i a hi (by omega)) (λa ha=>pC hl hb a (by omega))]
theorem uf {n:Nat} {l l':Nat->Nat->Fl} {b b':Nat->Fl} (hl:∀ i j,i<n->j<=i->l i j=l' i j) (hb:∀ i,i<n->b i=b' i):∀ d i,n - i=d->i<n->uX l b n i=uX l' b' n i:=by
 intro d;induction d using Nat.strongRecOn with
 | _ d ih=>
  intro i hd hi;rw[Kv _ _ hi,Kv _ _ hi];unfold uW;rw[hb i hi,hl i i hi (Nat.le_refl _),kG (f':=λt=>l' (i+1+t) i) (g':=λt=>uX l' b' n (i+1+t)) (λa ha=>hl _ _ (by omega) (by omega)) (λa ha=>ih (n - (i+1+a)) (by omega) _ rfl (by omega))]
theorem Cb {n:Nat} {l l':Nat->Nat->Fl} {b b':Nat->Fl} (hl:∀ i j,i<n->j<=i->l i j=l' i j) (hb:∀ i,i<n->b i=b' i):∀ i,i<n->uP l b n i=uP l' b' n i:=by intro i hi;unfold uP;rw[uf hl hb _ i rfl hi,hb i hi,BI (f':=λt=>l' (i+1+t) i) (g':=λt=>uX l' b' n (i+1+t)) (λa ha=>hl _ _ (by omega) (by omega)) (λa ha=>uf hl hb _ _ rfl (by omega))]
theorem pU {p q:Nat->Bool}:∀{n:Nat},(∀ i,i<n->p i=q i)->orB p n=orB q n
 | 0,_=>rfl
 | n+1,h=>by show(orB p n||p n)=(orB q n||q n);rw[pU (λi hi=>h i (by omega)),h n (by omega)]
theorem uL {p q:Nat->Bool} {n:Nat} (h:∀ i,i<n->p i=q i):∀{m:Nat},m<=n->orD p n m=orD q n m
 | 0,_=>rfl
 | m+1,hm=>by show(orD p n m||p (n - 1 - m))=(orD q n m||q (n - 1 - m));rw[uL h (by omega),h _ (by omega)]
def jX (i j:Nat):Fl:=if i=j then some 4607182418800017408 else some 0
theorem Bj {N n i:Nat} (hN:1000<=N) (hn:n<=12) (hi:i<n) (t17 t18 t6 t7 m1 m2:Int) (e0:List Fl->Bool) :
  ah N (Hf N n i t17 t18 n t6 t7 m1 m2 e0) (0,(mf n jX).take (i*n))=e0 ((mf n jX).take ((i+1)*n)):=by
 have hn2:=oe hn;have z0:(((0:Int),(mf n jX).take (i*n)):Int × List Fl)=(λt:Nat=>((t:Int),(mf n jX).take (i*n+t))) 0:=rfl;rw[z0];refine aA (λt:Nat=>((t:Int),(mf n jX).take (i*n+t))) n (by omega) ?_ ?_
 ·intro t ht K;unfold Hf;dsimp only;have h1:=eo hi ht;rw[decide_eq_true (by omega:(t:Int)<(n:Int)),cond_true];rw[show ∀ k:Fl->Bool,PU N (i:Int) (t:Int) k=k (jX i t) from λk=>by
   unfold PU Sw jX;by_cases h:i=t
   ·rw[if_pos h,h,show((t:Int)==(t:Int))=true by simp]; rfl
   ·rw[if_neg h,show((i:Int)==(t:Int))=false by simp; omega]; rfl]
  have e:=Ek n jX hi ht
  try dsimp only at e
  rw[e,aa (decide_eq_true (by rw[List.length_take,bH]; omega)),aa (ab (by omega) (by omega))];rfl
 ·intro K;unfold Hf;dsimp only;rw[decide_eq_false (by omega:¬(n:Int)<(n:Int)),cond_false,BG]
theorem Ir {N n:Nat} (hN:1000<=N) (hn:n<=12) (k:List Fl->Bool):PJ N n n k=k (mf n jX):=by
 (unfold PJ; rw[ac]; unfold Na)
 have hn2:=oe hn;rw[<- Int.natCast_mul,aa (ab (by omega) (by omega)),aa (bF (by omega) (by omega) (by omega) (by omega))];have z0:(((0:Int),[]):Int × List Fl)=(λt:Nat=>((t:Int),(mf n jX).take (t*n))) 0:=by show _=(((0:Nat):Int),(mf n jX).take (0*n));rw[Nat.zero_mul]; rfl
 rw[z0];refine aA (λt:Nat=>((t:Int),(mf n jX).take (t*n))) n (by omega) ?_ ?_
 ·intro t ht K;unfold fU;dsimp only;rw[decide_eq_true (by omega:(t:Int)<(n:Int)),cond_true,Bj hN hn ht,aa (ab (by omega) (by omega))];rfl
 ·intro K;unfold fU;dsimp only;rw[decide_eq_false (by omega:¬(n:Int)<(n:Int)),cond_false,Ca]
theorem x_ {N n i:Nat} (hN:1000<=N) (hn:n<=12) (hi:i<n) (t17 t18 t6 t7 m1 m2:Int) (e0:List Fl->Bool) :
  ah N (BV N n i t17 t18 n t6 t7 m1 m2 e0) (0,(mf n (λ_ _=>some 0)).take (i*n))=e0 ((mf n (λ_ _=>some 0)).take ((i+1)*n)):=by
 have hn2:=oe hn;have z0:(((0:Int),(mf n (λ_ _=>some 0)).take (i*n)):Int × List Fl)=(λt:Nat=>((t:Int),(mf n (λ_ _=>some 0)).take (i*n+t))) 0:=rfl;rw[z0];refine aA (λt:Nat=>((t:Int),(mf n (λ_ _=>some 0)).take (i*n+t))) n (by omega) ?_ ?_
 ·intro t ht K;unfold BV;dsimp only;have h1:=eo hi ht;rw[decide_eq_true (by omega:(t:Int)<(n:Int)),cond_true];rw[show ∀ k:Fl->Bool,SX N (i:Int) (t:Int) k=k (some 0) from λ_=>rfl];have e:=Ek n (λ_ _=>some 0) hi ht
  try dsimp only at e
  rw[e,aa (decide_eq_true (by rw[List.length_take,bH]; omega)),aa (ab (by omega) (by omega))];rfl
 ·intro K;unfold BV;dsimp only;rw[decide_eq_false (by omega:¬(n:Int)<(n:Int)),cond_false,BG]
theorem D_ {N n:Nat} (hN:1000<=N) (hn:n<=12) (k:List Fl->Bool):Wd N n n k=k (mf n (λ_ _=>some 0)):=by
 (unfold Wd; rw[ac]; unfold Th)
 have hn2:=oe hn;rw[<- Int.natCast_mul,aa (ab (by omega) (by omega)),aa (bF (by omega) (by omega) (by omega) (by omega))];have z0:(((0:Int),[]):Int × List Fl)=(λt:Nat=>((t:Int),(mf n (λ_ _=>some 0)).take (t*n))) 0:=by show _=(((0:Nat):Int),(mf n (λ_ _=>some 0)).take (0*n));rw[Nat.zero_mul]; rfl
 rw[z0];refine aA (λt:Nat=>((t:Int),(mf n (λ_ _=>some 0)).take (t*n))) n (by omega) ?_ ?_
 ·intro t ht K;unfold EN;dsimp only;rw[decide_eq_true (by omega:(t:Int)<(n:Int)),cond_true,x_ hN hn ht,aa (ab (by omega) (by omega))];rfl
 ·intro K;unfold EN;dsimp only;rw[decide_eq_false (by omega:¬(n:Int)<(n:Int)),cond_false,Ca]
theorem zH {N n i:Nat} (hN:1000<=N) (hn:n<=12) (hi:i<n) {xs:List Fl} (hl:xs.length=n*n) (t17 t18 t6 t7 m1 m2:Int) (e0:List Fl->Bool) :
  ah N (BX N n i t17 t18 n n n xs t6 t7 m1 m2 e0) (0,(mf n (λa b=>elt xs n b a)).take (i*n))=e0 ((mf n (λa b=>elt xs n b a)).take ((i+1)*n)):=by
 have hn2:=oe hn;have z0:(((0:Int),(mf n (λa b=>elt xs n b a)).take (i*n)):Int × List Fl)=(λt:Nat=>((t:Int),(mf n (λa b=>elt xs n b a)).take (i*n+t))) 0:=rfl;rw[z0];refine aA (λt:Nat=>((t:Int),(mf n (λa b=>elt xs n b a)).take (i*n+t))) n (by omega) ?_ ?_
 ·intro t ht K;unfold BX;dsimp only;have h1:=eo hi ht;rw[decide_eq_true (by omega:(t:Int)<(n:Int)),cond_true];rw[show ∀ k:Fl->Bool,Wk N (i:Int) (t:Int) n n xs k=k (elt xs n t i) from λk=>by unfold Wk W6;exact uF hn ht hi hl k]
  have e:=Ek n (λa b=>elt xs n b a) hi ht
  try dsimp only at e
  rw[e,aa (decide_eq_true (by rw[List.length_take,bH]; omega)),aa (ab (by omega) (by omega))];rfl
 ·intro K;unfold BX;dsimp only;rw[decide_eq_false (by omega:¬(n:Int)<(n:Int)),cond_false,BG]
theorem Gf {N n:Nat} (hN:1000<=N) (hn:n<=12) {xs:List Fl} (hl:xs.length=n*n) (k:List Fl->Bool):PG N n n n n xs k=k (mf n (λa b=>elt xs n b a)):=by
 (unfold PG; rw[ac]; unfold M4)
 have hn2:=oe hn;rw[<- Int.natCast_mul,aa (ab (by omega) (by omega)),aa (bF (by omega) (by omega) (by omega) (by omega))];have z0:(((0:Int),[]):Int × List Fl)=(λt:Nat=>((t:Int),(mf n (λa b=>elt xs n b a)).take (t*n))) 0:=by show _=(((0:Nat):Int),(mf n (λa b=>elt xs n b a)).take (0*n));rw[Nat.zero_mul]; rfl
 rw[z0];refine aA (λt:Nat=>((t:Int),(mf n (λa b=>elt xs n b a)).take (t*n))) n (by omega) ?_ ?_
 ·intro t ht K;unfold EO;dsimp only;rw[decide_eq_true (by omega:(t:Int)<(n:Int)),cond_true,zH hN hn ht hl,aa (ab (by omega) (by omega))];rfl
 ·intro K;unfold EO;dsimp only;rw[decide_eq_false (by omega:¬(n:Int)<(n:Int)),cond_false,Ca]
theorem Pb {N n:Nat} (hN:1000<=N) (hn:n<=12) {xs:List Fl} (hl:xs.length=n*n) (k:List Fl->Bool):Wn N n n n xs k=k (mf n (mir (elt xs n))):=by
 (unfold Wn; rw[ac]; unfold TC)
 rw[D_ hN hn,z7 n (elt xs n)];refine aA (λi:Nat=>((i:Int),mf n (mS (elt xs n) i 0))) n (by omega) ?_ ?_
 ·intro i hi K;unfold EI;dsimp only;rw[decide_eq_true (by omega:(i:Int)<(n:Int)),cond_true,aa (ab (by omega) (by omega))];refine(aA (λj:Nat=>((j:Int),mf n (mS (elt xs n) i j))) (i+1) (N:=N) (by omega) (out:=K ((((i+1:Nat)):Int),mf n (mS (elt xs n) (i+1) 0))) ?_ ?_:_)
  ·intro j hj K';have hj2:j<n:=by omega
   obtain⟨f1,f2⟩:=dk (by omega:n<=1000) hi hj2;obtain⟨g1,g2⟩:=dk (by omega:n<=1000) hj2 hi;have b1:=eo hi hj2;have b2:=eo hj2 hi;unfold EJ;dsimp only;rw[decide_eq_true (by omega:(j:Int)<(i:Int)+1),cond_true];unfold SP Sg;rw[uF hn hi hj2 hl];dsimp only;rw[dj,dj,aa f1,aa f2,aa g1,aa g2,Int.toNat_natCast,Int.toNat_natCast,List.length_set,bH,aa (ai (by omega) (by omega)),aa (decide_eq_true b1),aa (ai (by omega) (by omega)),aa (decide_eq_true b2),aa (ab (by omega) (by omega)),ti n _ hi hj2,ti n _ hj2 hi,zZ n (elt xs n) hj];rfl
  ·intro K';unfold EJ;dsimp only;rw[decide_eq_false (by omega:¬((i+1:Nat):Int)<(i:Int)+1),cond_false,aa (ab (by omega) (by omega)),Ej];rfl
 ·intro K;unfold EI;dsimp only;rw[decide_eq_false (by omega:¬(n:Int)<(n:Int)),cond_false,Ei]
theorem Bl {N:Nat} (hN:1000<=N) (a b:Int) (k:Int->Bool):GO N [a,b] k=k (if a ≠ 0 then a else b):=by
 (unfold GO; rw[ac]; unfold MY)
 obtain⟨M,rfl⟩:∃ M,N=M+3:=⟨N - 3,by omega⟩
 by_cases h:a=0
 ·subst h;by_cases h2:b=0
  ·subst h2; rfl
  ·rw[if_neg (λq=>q rfl)];have e:(b != 0)=true:=by simp[h2]
   show cond (b != 0) (k b) _=k b;rw[e,cond_true]
 ·rw[if_pos h];have e:(a != 0)=true:=by simp[h]
  show cond (a != 0) (k a) _=k a;rw[e,cond_true]
theorem Gj {N n:Nat} (hN:1000<=N) (hn:n<=12) {xs:List Fl} (hl:xs.length=n*n) (hf:az xs=true) (k:Int->Bool):PR N n n xs k=k 0:=by unfold PR Sq GQ Nb;rw[ep hN,nM hn hl hf,show((n:Int) != (n:Int))=false by simp,cond_false];dsimp only;rw[Bl hN];rfl
theorem Ie {N n:Nat} (hN:1000<=N) (hn:n<=12) {xs:List Fl} (hl:xs.length=n*n) (hf:az xs=true) (k:Int->Int->List Fl->Int->Bool):PI N n n xs k=k n n (mf n (mir (elt xs n))) 0:=by
 (unfold PI; rw[ac]; unfold M_)
 rw[Gj hN hn hl hf,show((0:Int) != 0)=false from rfl,cond_false,Pb hN hn hl]
theorem Q1 {N n:Nat} (hN:1000<=N) (hn:n<=12) (k:Int->Int->List Fl->Int->Bool):ri N n k=k n n (mf n jX) 0:=by unfold ri wD G0 Qp xn wE;dsimp only;rw[decide_eq_true (by omega:(n:Int)>=0),decide_eq_true (by omega:(n:Int)<=12),Ir hN hn];rfl
theorem Pa {N n j:Nat} (hN:1000<=N) (hn:n<=12) (hj:j<n) {xs:List Fl} (hl:xs.length=n*n) (hf:az xs=true) (k:List Fl->Int->Bool):rh N n n xs j k=k (vf n (λt=>elt xs n t j)) 0:=by
 (unfold rh; rw[ac]; unfold qn nK GQ Nb)
 rw[ep hN,nM hn hl hf,decide_eq_false (by omega:¬(j:Int)<0),show(false==false)=true from rfl,cond_true,decide_eq_false (by omega:¬(j:Int)>=(n:Int)),cond_false];dsimp only;rw[Bl hN,if_neg (λq=>q rfl),show((0:Int) != 0)=false from rfl,cond_false]
 (unfold xm; rw[ac]; unfold qo)
 refine aA (λt:Nat=>((t:Int),(vf n (λt=>elt xs n t j)).take t)) n (by omega) ?_ ?_
 ·intro t ht K;unfold jM;dsimp only;rw[decide_eq_true (by omega:(t:Int)<(n:Int)),cond_true,uF hn ht hj hl];have e:=xv n (λt=>elt xs n t j) ht;rw[e,aa (decide_eq_true (by rw[List.length_take,bK]; omega)),aa (ab (by omega) (by omega))];rfl
 ·intro K;unfold jM;dsimp only;rw[decide_eq_false (by omega:¬(n:Int)<(n:Int)),cond_false,List.take_of_length_le (by rw[bK]; omega)]
def slX (n:Nat) (L:Nat->Nat->Fl) (b:Nat->Fl):Nat->Fl:=uX L (dX L b) n
def slO (n:Nat) (L:Nat->Nat->Fl) (b:Nat->Fl):Bool:=orB (dP L b) n||orD (uP L (dX L b) n) n n
theorem JM {N n:Nat} (hN:1000<=N) (hn:n<=12) (L:Nat->Nat->Fl) {b:List Fl} (hb:b.length=n) (r:Int) (o:Bool) (k:List Fl->Bool->Bool) :
  (ci N r n (mf n L) b o λx o1=>cF N r n (mf n L) x o1 k)=k (vf n (slX n L (bt b))) (o||slO n L (bt b)):=by
 have hL:∀ i j,i<n->j<=i->elt (mf n L) n i j=L i j:=λi j hi hj=>gF n L hi (by omega)
 have hB:∀ i,i<n->bt (vf n (dX (elt (mf n L) n) (bt b))) i=dX L (bt b) i:=λi hi=>(i9 n _ hi none).trans (pC hL (λ_ _=>rfl) i hi)
 rw[JN hN hn (bH n L) hb,JO hN hn (bH n L) (bK _ _)];rw[jI (g':=slX n L (bt b)) (λi hi=>uf hL hB _ i rfl hi),pU (q:=dP L (bt b)) (Az hL (λ_ _=>rfl)),uL (q:=uP L (dX L (bt b)) n) (Cb hL hB) (Nat.le_refl _),Bool.or_assoc];rfl
def smX (n:Nat) (L B:Nat->Nat->Fl) (i j:Nat):Fl:=slX n L (λt=>B t j) i
def smO (n:Nat) (L B:Nat->Nat->Fl):Bool:=orB (λj=>slO n L (λt=>B t j)) n
def smS (g:Nat->Nat->Fl) (j i:Nat):Nat->Nat->Fl:=λa b=>if b<j\/(b=j/\a<i)then g a b else some 0
theorem G5 (n:Nat) (g:Nat->Nat->Fl):mf n (λ_ _=>some 0)=mf n (smS g 0 0):=aZ n (λa b _ _=>by unfold smS; rw[if_neg (by omega)])
theorem Kq (n:Nat) (g:Nat->Nat->Fl) (j:Nat):mf n (smS g j n)=mf n (smS g (j+1) 0):=aZ n (λa b ha _=>by
 unfold smS;by_cases h:b<j\/(b=j/\a<n)
 ·rw[if_pos h,if_pos (by omega)]
 ·rw[if_neg h,if_neg (by omega)])
theorem Kr (n:Nat) (g:Nat->Nat->Fl):mf n (smS g n 0)=mf n g:=aZ n (λa b _ hb=>by unfold smS; rw[if_pos (.inl hb)])
theorem G4 (n:Nat) (g:Nat->Nat->Fl) (j i:Nat):mf n (λa b=>if a=i/\b=j then g i j else smS g j i a b)=mf n (smS g j (i+1)):=aZ n (λa b _ _=>by
 unfold smS;by_cases h1:a=i/\b=j
 ·rw[if_pos h1,if_pos (by omega),h1.1,h1.2]
 ·rw[if_neg h1];by_cases h2:b<j\/(b=j/\a<i)
  ·rw[if_pos h2,if_pos (by omega)]
  ·rw[if_neg h2,if_neg (by omega)])
theorem yv {n:Nat} {L:Nat->Nat->Fl} {b b':Nat->Fl} (hb:∀ i,i<n->b i=b' i):∀ i,i<n->slX n L b i=slX n L b' i:=
 λi hi=>uf (λ_ _ _ _=>rfl) (λt ht=>pC (λ_ _ _ _=>rfl) hb t ht) _ i rfl hi
theorem yu {n:Nat} {L:Nat->Nat->Fl} {b b':Nat->Fl} (hb:∀ i,i<n->b i=b' i):slO n L b=slO n L b':=by unfold slO;rw[pU (q:=dP L b') (Az (λ_ _ _ _=>rfl) hb),uL (q:=uP L (dX L b') n) (Cb (λ_ _ _ _=>rfl) (λt ht=>pC (λ_ _ _ _=>rfl) hb t ht)) (Nat.le_refl _)]
theorem Q5 {N n:Nat} (hN:1000<=N) (hn:n<=12) (L:Nat->Nat->Fl) {B:List Fl} (hB:B.length=n*n) (fB:az B=true) (t4 t5 o4 o5:Int) (e0:Bool->List Fl->Bool) :
  ah N (dJ N n n n B t4 t5 n n (mf n L) o4 o5 e0) (0,false,mf n (λ_ _=>some 0))=e0 (smO n L (elt B n)) (mf n (smX n L (elt B n))):=by
 rw[G5 n (smX n L (elt B n))];refine aA (λj:Nat=>((j:Int),orB (λj=>slO n L (λt=>elt B n t j)) j,mf n (smS (smX n L (elt B n)) j 0))) n (by omega) ?_ ?_
 ·intro j hj K;unfold dJ;dsimp only;rw[decide_eq_true (by omega:(j:Int)<(n:Int)),cond_true,Pa hN hn hj hB fB,JM hN hn L (bK _ _)];have hb:∀ i,i<n->bt (vf n (λt=>elt B n t j)) i=elt B n i j:=λi hi=>i9 n _ hi none
  rw[yu hb,jI (g':=λi=>smX n L (elt B n) i j) (λi hi=>yv hb i hi)];refine(aA (λi:Nat=>((i:Int),mf n (smS (smX n L (elt B n)) j i))) n (N:=N) (by omega) (out:=K ((((j+1:Nat)):Int),orB (λj=>slO n L (λt=>elt B n t j)) (j+1),mf n (smS (smX n L (elt B n)) (j+1) 0))) ?_ ?_:_)
  ·intro i hi K';obtain⟨f1,f2⟩:=dk (by omega:n<=1000) hi hj;have b1:=eo hi hj;unfold fS;dsimp only;rw[bK,decide_eq_true (by omega:(i:Int)<(n:Int)),cond_true,aa (ai (by omega) (by omega)),dj,aa f1,aa f2,bH,Int.toNat_natCast,Int.toNat_natCast,aa (ai (by omega) (by omega)),aa (decide_eq_true b1),aa (ab (by omega) (by omega)),i9 n _ hi,ti n _ hi hj,G4];rfl
  ·intro K';unfold fS;dsimp only;rw[bK,decide_eq_false (by omega:¬(n:Int)<(n:Int)),cond_false,aa (ab (by omega) (by omega)),Kq];rfl
 ·intro K;unfold dJ;dsimp only;rw[decide_eq_false (by omega:¬(n:Int)<(n:Int)),cond_false,Kr];rfl
def smK (r c:Int) (a B:List Fl) (k:KC):Bool:=
 if sqE r c a ≠ 0 then k 0 0 [] 0 (sqE r c a)
 else if (cR (elt a r.toNat) r.toNat r.toNat 0 false).2 ≠ 0 then k 0 0 [] (cR (elt a r.toNat) r.toNat r.toNat 0 false).1 (cR (elt a r.toNat) r.toNat r.toNat 0 false).2
 else if smO r.toNat (cL (elt a r.toNat)) (elt B r.toNat)=true then k 0 0 [] 0 5
 else k r r (mf r.toNat (smX r.toNat (cL (elt a r.toNat)) (elt B r.toNat))) 0 0
theorem D8 {N n:Nat} (hN:1000<=N) (hn:n<=12) (c:Int) (a:List Fl) {B:List Fl} (hB:B.length=n*n) (fB:az B=true) (k:KC):mT N n c a n n B k=smK n c a B k:=by
 (unfold mT; rw[ac]; unfold mN smK)
 rw[xW hN];by_cases h0:evE n c a=0
 ·obtain⟨m,hm,e1,rfl,hl,hf⟩:=ij h0;obtain rfl:n=m:=by omega
  have n2:=oe hn;rw[h0,show((0:Int) != 0)=false from rfl,cond_false,ep hN,nM hn hB fB,show((0:Int) != 0)=false from rfl,cond_false,show((n:Int) != (n:Int))=false by simp,cond_false,Ba hN];unfold chK;by_cases h1:sqE n n a=0
  ·rw[ifz h1,ifz h1];by_cases h2:(cR (elt a (n:Int).toNat) (n:Int).toNat (n:Int).toNat 0 false).2=0
   ·rw[ifz h2,ifz h2];dsimp only;rw[show((0:Int) != 0)=false from rfl,cond_false,hB,aa (bF (by omega) (by omega) (by omega) (by omega)),Int.toNat_natCast,Int.toNat_natCast,z_,Q5 hN hn _ hB fB];cases smO n (cL (elt a n)) (elt B n) <;> rfl
   ·rw[bT h2,bT h2];dsimp only;rw[aC _ _ h2,cond_true]
  ·rw[bT h1,bT h1];dsimp only;rw[aC _ _ h1,cond_true]
 ·have e:sqE n c a=evE n c a:=by unfold sqE; rw[if_pos h0]
  rw[e,bT h0,aC _ _ h0,cond_true]
def ivK (r c:Int) (a:List Fl) (k:KC):Bool:=
 if sqE r c a ≠ 0 then k 0 0 [] 0 (sqE r c a)
 else if (cR (elt a r.toNat) r.toNat r.toNat 0 false).2 ≠ 0 then k 0 0 [] (cR (elt a r.toNat) r.toNat r.toNat 0 false).1 (cR (elt a r.toNat) r.toNat r.toNat 0 false).2
 else if smO r.toNat (cL (elt a r.toNat)) jX=true then k 0 0 [] 0 5
 else k r r (mf r.toNat (mir (smX r.toNat (cL (elt a r.toNat)) jX))) 0 0
def isz (x:Fl):Bool:=match x with | some b=>b==0 | none=>false
def JY (xs:List Fl) (n i:Nat):Bool:=oC (λj=>isz (elt xs n i j)) i
def zB (xs:List Fl) (n:Nat):Bool:=oC (λi=>pE xs n i&&JY xs n i) n
def Cr (x:List Fl) (r c:Int) (xs:List Fl):Int:=
 if chk r c xs ≠ 0 then chk r c xs else if r=c/\(x.length:Int)=r then(if az x=true then(if zB xs x.length=true then 0 else 171)else 4)else 3
theorem OA {x:Fl} (h:bD x=true):∃ b:Nat,x=some b:=by
 cases x with
 | none=>cases h
 | some b=>exact⟨b,rfl⟩
theorem LR {N n:Nat} {xs x:List Fl} (hn:n<=12) (hN:12<N) (hl:xs.length=n*n) (hf:az xs=true) (k:Int->Bool) :
  ah N (dm N n n n n xs x (λt=>k t) (k 0)) 0=k (if zB xs n=true then 0 else 171):=by
 have e:k (if zB xs n=true then 0 else 171)=cond (zB xs n) (k 0) (k 171):=by cases zB xs n <;> rfl
 rw[e];refine jV (λi=>(i:Int)) (λi=>pE xs n i&&JY xs n i) n rfl (by omega) (λi hi K=>?_) (λK=>?_)
 ·simp only[dm];have a1:=eo hi hi;have a2:=oe hn;have a3:=Xx hn hi;rw[bB (by omega),cond_true,DE,aS (ab (by omega) (by omega)),aS (ab (by omega) (by omega)),aS (ai (by omega) (by omega))];show cond (!pE xs n i) (k 171) _=_;cases pE xs n i
  ·rfl
  ·have:=jV (N:=N) (step:=dn N n i n i i n n xs x k ((af .i64 (i+1))&&K (i+1))) (s:=0) (ex:=k 171) (out:=K (i+1)) (λd=>(d:Int)) (λj=>isz (elt xs n i j)) i rfl (by omega) (λj hj K=>?_) (λK=>?_)
   ·exact this
   ·simp only[dn];have b1:=eo hi (show j<n by omega);rw[bB (by omega),cond_true,DE,aS (ab (by omega) (by omega)),aS (ab (by omega) (by omega)),aS (ai (by omega) (by omega))];have hx:=cD hf (show i*n+j<xs.length by omega);unfold elt;obtain⟨b,hb⟩:=OA hx;rw[hb];show cond ((b:Int) != 0) _ _=cond (b==0) _ _;rw[aS (ab (by omega) (by omega))];have:((b:Int) != 0) = !(b==0):=by rw[Bool.eq_iff_iff]; simp
    rw[this];cases b==0 <;> rfl
   ·simp only[dn];rw[bC (by omega),cond_false,aS (ab (by omega) (by omega))]
 ·simp only[dm];rw[bC (by omega),cond_false]
theorem dH {N:Nat} (x:List Fl) (r c:Int) (xs:List Fl) (hN:1000<=N) (hx:di N x.length) (hs:di N xs.length) (k:Int->Bool):fo N r c xs x k=k (Cr x r c xs):=by
 (unfold fo; rw[ac]; unfold lq Cr)
 simp only[Lj _ _ xs hs,lE x hx,pp];by_cases h0:chk r c xs=0
 ·rw[bB h0,if_neg (by simpa using h0)];by_cases h1:r=c
  ·subst h1;rw[bB (p:=r=r) rfl];by_cases h2:(x.length:Int)=r
   ·subst h2;rw[bB (p:=(x.length:Int)=x.length) rfl];have q:=mh.1 h0;have hn:x.length<=12:=by have:=q.1; omega
    have hl:xs.length=x.length*x.length:=by have:=q.2.1; exact_mod_cast this
    have:=LR (N:=N) (x:=x) hn (by omega) hl q.2.2 k;simp only[this];cases az x <;> rfl
   ·rw[bC h2,if_neg (λh=>h2 h.2)]; rfl
  ·rw[bC h1,if_neg (λh=>h1 h.1)]; rfl
 ·rw[bC h0,if_pos h0]; rfl
def ue (xs:List Fl) (n i t:Nat):Nat->Nat->Fl:=λa b=>if b<i\/(b=i/\a<t)then elt xs n b a else some 0
theorem wX {N n:Nat} (hn:n<=12) (hN:1000<=N) {xs:List Fl} (hl:xs.length=n*n) (k:List Fl->Bool):zq N n n xs k=k (mf n (λa b=>elt xs n b a)):=by
 (unfold zq; rw[ac]; unfold Nx)
 rw[lG hn];refine C4 (λi=>((i:Int),mf n (ue xs n i 0))) n ?_ (by omega) (λi hi K=>?_) (λK=>?_)
 ·refine Prod.ext rfl ?_;show mf n (λ_ _=>some 0)=mf n (ue xs n 0 0);exact aZ n λa b ha hb=>by unfold ue; rw[if_neg (by omega)]
 ·simp only[ma];rw[bB (by omega),cond_true];refine C4 (λt=>((t:Int),mf n (ue xs n i t))) n rfl (by omega) (λt ht K'=>?_) (λK'=>?_)
  ·simp only[mb];rw[bB (by omega),cond_true,ca hn hi ht hl,lV hn ht hi,aS (ab (by omega) (by omega))];have:mf n (λa b=>if a=t/\b=i then elt xs n i t else ue xs n i t a b)=mf n (ue xs n i (t+1)):=aZ n λa b ha hb=>by
    unfold ue;by_cases h:a=t/\b=i
    ·rw[if_pos h,if_pos (by omega),h.1,h.2]
    ·rw[if_neg h];by_cases h2:b<i\/(b=i/\a<t)
     ·rw[if_pos h2,if_pos (by omega)]
     ·rw[if_neg h2,if_neg (by omega)]
   rw[this]; rfl
  ·simp only[mb];rw[bC (by omega),cond_false,aS (ab (by omega) (by omega))];have:mf n (ue xs n i n)=mf n (ue xs n (i+1) 0):=aZ n λa b ha hb=>by
    unfold ue;by_cases h2:b<i\/(b=i/\a<n)
    ·rw[if_pos h2,if_pos (by omega)]
    ·rw[if_neg h2,if_neg (by omega)]
   rw[this]; rfl
 ·simp only[ma];rw[bC (by omega),cond_false];congr 1;exact aZ n λa b ha hb=>by unfold ue; rw[if_pos (by omega)]
theorem JJ {x:Fl}:isz x=true↔x=some 0:=by
 cases x with
 | none=>exact⟨λh=>(by cases h),λh=>(by cases h)⟩
 | some b=>
  show(b==0)=true↔_;rw[beq_iff_eq];exact⟨λh=>by rw[h],λh=>by cases h; rfl⟩
theorem Jt:cn (some 0)=some 0:=xH (by rfl)
theorem MD {n:Nat} {xs:List Fl} (hl:xs.length=n*n) (hf:az xs=true) :
  oC (λi=>pE (mf n (λa b=>elt xs n b a)) n i&&oc (mf n (λa b=>elt xs n b a)) n i) n=zB xs n:=by
 have hd:∀ i,i<n->pE (mf n (λa b=>elt xs n b a)) n i=pE xs n i:=λi hi=>by unfold pE; rw[gF n _ hi hi]
 have hu:∀ i j,i<n->j<n->(upP (mf n (λa b=>elt xs n b a)) n j i=true↔elt xs n i j=some 0):=λi j hi hj=>by unfold upP;have f1:bD (elt xs n i j)=true:=cD hf (by have:=gU hi hj; omega);rw[gF n _ hj hi,decide_eq_true_iff,Jt,xH f1]
 rw[Bool.eq_iff_iff];unfold zB;rw[bX,bX];constructor
 ·intro h i hi;rw[Bool.and_eq_true];have h1:=h i hi;rw[Bool.and_eq_true]at h1;refine⟨(hd i hi).symm.trans h1.1,?_⟩;unfold JY;rw[bX];intro j hj;have h2:=h j (by omega);rw[Bool.and_eq_true]at h2;have h3:=h2.2;unfold oc at h3;rw[bX]at h3;have h4:=h3 (i - (j+1)) (by omega);rw[show j+1+(i - (j+1))=i by omega]at h4;exact JJ.2 ((hu i j hi (by omega)).1 h4)
 ·intro h i hi;rw[Bool.and_eq_true];have h1:=h i hi;rw[Bool.and_eq_true]at h1;refine⟨(hd i hi).trans h1.1,?_⟩;unfold oc;rw[bX];intro d hdd;have h2:=h (i+1+d) (by omega);rw[Bool.and_eq_true]at h2;have h3:=h2.2;unfold JY at h3;rw[bX]at h3;exact(hu (i+1+d) i (by omega) hi).2 (JJ.1 (h3 i (by omega)))
theorem Gb {N n:Nat} {xs:List Fl} (hn:n<=12) (hN:1000<=N) (hl:xs.length=n*n) (hf:az xs=true) (k:Int->Bool) :
  GY N n n xs k=k (if oC (λi=>pE xs n i&&oc xs n i) n=true then 0 else 93):=by
 have h0:chk n n xs=0:=nM hn hl hf
 (unfold GY; rw[ac]; unfold Qn)
 rw[mw hN,pp,bB h0,Bool.not_true,cond_false,pp,bB (p:=(n:Int)=n) rfl,Bool.not_true,cond_false];have e:k (if oC (λi=>pE xs n i&&oc xs n i) n=true then 0 else 93)=cond (oC (λi=>pE xs n i&&oc xs n i) n) (k 0) (k 93):=by cases oC (λi=>pE xs n i&&oc xs n i) n <;> rfl
 rw[e];refine jV (λi=>(i:Int)) (λi=>pE xs n i&&oc xs n i) n rfl (by omega) (λi hi K=>?_) (λK=>?_)
 ·simp only[h_];rw[bB (by omega),cond_true,ca hn hi hi hl,aS (ab (by omega) (by omega))];show cond (!pE xs n i) (k 93) _=_;cases pE xs n i
  ·rfl
  ·have:=jV (N:=N) (step:=B3 N i n n xs k ((af .i64 (i+1))&&K (i+1))) (s:=(i:Int)+1) (ex:=k 93) (out:=K (i+1)) (λd=>((i+1+d:Nat):Int)) (λd=>upP xs n i (i+1+d)) (n - (i+1)) (by simp) (by omega) (λd hd K=>?_) (λK=>?_)
   ·exact this
   ·simp only[B3];rw[bB (by omega),cond_true,ca hn hi (by omega) hl,w7,aS (ab (by omega) (by omega))];show cond (!upP xs n i (i+1+d)) (k 93) _=_;cases upP xs n i (i+1+d) <;> rfl
   ·simp only[B3];rw[bC (by omega),cond_false,aS (ab (by omega) (by omega))]
 ·simp only[h_];rw[bC (by omega),cond_false]
theorem iL {N:Nat} (hN:1000<=N) (r c:Int) (xs x:List Fl) (hx:di N x.length) (k:Int->Bool):GK N r c xs x k=k (Cr x r c xs):=by
 have hg:∀ k,ru N r c xs k=k (chk r c xs):=λk=>mw hN r c xs k
 (unfold GK; rw[ac]; unfold MP Cr)
 rw[hg];by_cases h0:chk r c xs=0
 ·rw[pp,bB h0,Bool.not_true,cond_false,if_neg (by simpa using h0)];have q:=mh.1 h0;by_cases h1:r=c
  ·subst h1;rw[pp,bB (p:=r=r) rfl,Bool.not_true];by_cases h2:(x.length:Int)=r
   ·rw[if_pos ⟨rfl,h2⟩];simp only[pp];rw[bB h2,lU x hx];cases h3:az x
    ·rfl
    ·subst h2;have hn:x.length<=12:=by have:=q.1; omega
     have hl:xs.length=x.length*x.length:=by have:=q.2.1; exact_mod_cast this
     show zq N _ _ xs _=_;have f1:az (mf x.length λa b=>elt xs x.length b a)=true:=yk λa b ha hb=>cD q.2.2 (by have:=gU hb ha; omega)
     rw[wX hn hN hl,Gb hn hN (bH _ _) f1,MD hl q.2.2];cases zB xs x.length <;> rfl
   ·rw[if_neg (λh=>h2 h.2)];simp only[pp];rw[bC h2]; rfl
  ·rw[pp,bC h1,if_neg (λh=>h1 h.1)]; rfl
 ·rw[pp,bC h0,Bool.not_false,cond_true,if_pos h0]
theorem uS {n:Nat} {L B B':Nat->Nat->Fl} (h:∀ i j,i<n->j<n->B i j=B' i j):∀ i j,i<n->j<n->smX n L B i j=smX n L B' i j:=
 λi j hi hj=>yv (λt ht=>h t j ht hj) i hi
theorem DC {n:Nat} {L B B':Nat->Nat->Fl} (h:∀ i j,i<n->j<n->B i j=B' i j):smO n L B=smO n L B':=
 pU λj hj=>yu λt ht=>h t j ht hj
theorem Ko {n:Nat} {L:Nat->Nat->Fl} {b:Nat->Fl} (h:slO n L b=false):∀ i,i<n->bD (slX n L b i)=true:=by intro i hi;unfold slO at h;rw[Bool.or_eq_false_iff]at h;have:=ym (Nat.le_refl n) h.2 i (by omega) hi;unfold uP at this;rw[Bool.or_eq_false_iff]at this;show bD (uX L (dX L b) n i)=true;simpa using this.2
theorem Kp {n:Nat} {L B:Nat->Nat->Fl} (h:smO n L B=false):∀ i j,i<n->j<n->bD (smX n L B i j)=true:=
 λi j hi hj=>Ko (nD h j hj) i hi
theorem Gz (n:Nat):az (mf n jX)=true:=yk λa b _ _=>by unfold jX; by_cases h:a=b <;> simp only[h,if_true,if_false] <;> rfl
theorem F4 {N:Nat} (hN:1000<=N) (r c:Int) (a:List Fl) (k:KC):oq N r c a k=ivK r c a k:=by
 (unfold oq; rw[ac]; unfold nI ivK)
 rw[zb hN];by_cases h0:sqE r c a=0
 ·obtain⟨n,hn,rfl,rfl,hl,hf,hs⟩:=p9 h0;rw[ifz h0,h0,show((0:Int) != 0)=false from rfl,cond_false,Q1 hN hn];rw[D8 hN hn _ _ (bH n _) (Gz n)];unfold smK;rw[ifz h0,Int.toNat_natCast];have hB:∀ i j,i<n->j<n->elt (mf n jX) n i j=jX i j:=λi j hi hj=>gF n _ hi hj
  by_cases h1:(cR (elt a n) n n 0 false).2=0
  ·rw[ifz h1,ifz h1,DC hB];cases h2:smO n (cL (elt a n)) jX
   ·rw[if_neg (by decide),if_neg (by decide)];have hf2:az (mf n (smX n (cL (elt a n)) (elt (mf n jX) n)))=true:=yk λi j hi hj=>by rw[uS hB i j hi hj]; exact Kp h2 i j hi hj
    dsimp only;rw[show((0:Int) != 0)=false from rfl,cond_false,Ie hN hn (bH n _) hf2];have e:mf n (mir (elt (mf n (smX n (cL (elt a n)) (elt (mf n jX) n))) n))=mf n (mir (smX n (cL (elt a n)) jX)):=aZ n λi j hi hj=>by unfold mir;rw[gF n _ hi hj,gF n _ hj hi,uS hB i j hi hj,uS hB j i hj hi]
    rw[e]
   ·rfl
  ·rw[bT h1,bT h1];dsimp only;rw[aC _ _ h1,cond_true]
 ·rw[bT h0,aC _ _ h0,cond_true]
def pn (r:Int) (b:List Fl):Int:=if (b.length:Int) ≠ r then 3 else if az b=false then 4 else 0
theorem nx {r:Int} {b:List Fl} (h:pn r b=0):(b.length:Int)=r/\az b=true:=by
 unfold pn at h;split at h
 ·cases h
 ·rename_i h1;split at h
  ·cases h
  ·rename_i h2;exact⟨by simpa using h1,by simpa using h2⟩
theorem xX {N:Nat} (hN:1000<=N) (n:Nat) (hn:n<=12) (b:List Fl) (k:Int->Bool):mH N n b k=k (pn n b):=by
 (unfold mH; rw[ac]; unfold sf pn)
 by_cases h:(b.length:Int)=n
 ·rw[if_neg (λq=>q h),show(((b.length:Nat):Int) != (n:Int))=false by simp[h],cond_false,lE b ⟨by omega,by omega⟩];cases az b <;> rfl
 ·rw[if_pos h,aC _ _ h,cond_true]
abbrev KVx:=List Fl->Int->Int->Bool
def svK (r c:Int) (a b:List Fl) (k:KVx):Bool:=
 if evE r c a ≠ 0 then k [] 0 (evE r c a)else if pn r b ≠ 0 then k [] 0 (pn r b)
 else if sqE r c a ≠ 0 then k [] 0 (sqE r c a)
 else if (cR (elt a r.toNat) r.toNat r.toNat 0 false).2 ≠ 0 then k [] (cR (elt a r.toNat) r.toNat r.toNat 0 false).1 (cR (elt a r.toNat) r.toNat r.toNat 0 false).2
 else if slO r.toNat (cL (elt a r.toNat)) (bt b)=true then k [] 0 5
 else k (vf r.toNat (slX r.toNat (cL (elt a r.toNat)) (bt b))) 0 0
theorem Lr {N:Nat} (hN:1000<=N) (r c:Int) (a b:List Fl) (k:KVx):re N r c a b k=svK r c a b k:=by
 (unfold re; rw[ac]; unfold qi svK)
 rw[xW hN];by_cases h0:evE r c a=0
 ·obtain⟨n,hn,rfl,rfl,hl,hf⟩:=ij h0;rw[ifz h0,h0,show((0:Int) != 0)=false from rfl,cond_false,xX hN n hn];by_cases h1:pn n b=0
  ·have hb:b.length=n:=by have:=(nx h1).1; omega
   rw[ifz h1,h1,show((0:Int) != 0)=false from rfl,cond_false,Ba hN];unfold chK;by_cases h2:sqE n n a=0
   ·rw[ifz h2,ifz h2,Int.toNat_natCast];by_cases h3:(cR (elt a n) n n 0 false).2=0
    ·rw[ifz h3,ifz h3];dsimp only;rw[show((0:Int) != 0)=false from rfl,cond_false,JM hN hn _ hb];cases slO n (cL (elt a n)) (bt b) <;> rfl
    ·rw[bT h3,bT h3];dsimp only;rw[aC _ _ h3,cond_true]
   ·rw[bT h2,bT h2];dsimp only;rw[aC _ _ h2,cond_true]
  ·rw[bT h1,aC _ _ h1,cond_true]
 ·rw[bT h0,aC _ _ h0,cond_true]
theorem Is {N n:Nat} {xs:List Fl} (hN:1000<=N) (hn:n<=12) (hl:xs.length=n*n) (hf:az xs=true) (k:Bool->Bool):PL N n n xs k=k (LV xs n):=by
 (unfold PL; rw[ac]; unfold Nj)
 rw[ep hN,nM hn hl hf,show(((0:Int) != 0)==false)=true from rfl,cond_true,show((n:Int) != (n:Int))=false by simp,cond_false];have hk:k (LV xs n)=cond (LV xs n) (k true) (k false):=by cases LV xs n <;> rfl
 rw[hk];refine jV (λi=>(i:Int)) (oc xs n) n rfl (by omega) (λi hi K=>?_) (λK=>?_)
 ·simp only[gZ];rw[bB (by omega),cond_true,aS (ab (by omega) (by omega))];have:=jV (N:=N) (step:=B1 N i n i n n xs k ((af .i64 (i+1))&&K (i+1))) (s:=(i:Int)+1) (ex:=k false) (out:=K (i+1)) (λd=>((i+1+d:Nat):Int)) (λd=>upP xs n i (i+1+d)) (n - (i+1)) (by simp) (by omega) (λd hd K=>?_) (λK=>?_)
  ·exact this
  ·simp only[B1];rw[bB (by omega),cond_true,uF hn hi (by omega) hl];simp only[I1];rw[aS (ab (by omega) (by omega))];show cond (!upP xs n i (i+1+d)) (k false) _=_;cases upP xs n i (i+1+d) <;> rfl
  ·simp only[B1];rw[bC (by omega),cond_false,aS (ab (by omega) (by omega))]
 ·simp only[gZ];rw[bC (by omega),cond_false]
def Qb (n:Nat) (l:List Fl):Bool:=oC (λi=>pE l n i&&oc l n i) n
theorem R_ (n:Nat) (l:List Fl):Qb n l=(oC (pE l n) n&&LV l n):=by
 rw[Bool.eq_iff_iff];unfold Qb LV;rw[Bool.and_eq_true,bX,bX,bX];constructor
 ·intro h;exact⟨λi hi=>(Bool.and_eq_true _ _ ▸ h i hi:_/\_).1,λi hi=>(Bool.and_eq_true _ _ ▸ h i hi:_/\_).2⟩
 ·rintro ⟨h1,h2⟩ i hi;rw[h1 i hi,h2 i hi]; rfl
def trE (r c:Int) (l:List Fl):Int:=if evE r c l ≠ 0 then evE r c l else if Qb r.toNat l=true then 0 else 93
theorem Bi {N:Nat} (hN:1000<=N) (r c:Int) (l:List Fl) (k:Int->Bool):gy N r c l k=k (trE r c l):=by
 (unfold gy; rw[ac]; unfold mO trE)
 rw[ep hN];by_cases h0:evE r c l=0
 ·obtain⟨n,hn,rfl,rfl,hl,hf⟩:=ij h0;rw[ifz h0,nM hn hl hf,show((0:Int) != 0)=false from rfl,cond_false,show((n:Int) != (n:Int))=false by simp,cond_false,Is hN hn hl hf,Int.toNat_natCast,R_];have hk:∀ A B:Bool,k (if (A&&B)=true then 0 else 93)=cond A (cond (!B) (k 93) (k 0)) (k 93):=λA B=>by cases A <;> cases B <;> rfl
  rw[hk];refine jV (λi=>(i:Int)) (pE l n) n rfl (by omega) (λi hi K=>?_) (λK=>?_)
  ·simp only[fT];rw[bB (by omega),cond_true,oU hn hi hi hl];show cond (!pE l n i) (k 93) _=_;rw[aS (ab (by omega) (by omega))];cases pE l n i <;> rfl
  ·simp only[fT];rw[bC (by omega),cond_false]
 ·rw[bT h0];unfold evE at h0 ⊢;by_cases h1:chk r c l=0
  ·rw[ifz h1]at h0 ⊢;have h2:¬ r=c:=by intro h2;rw[if_neg (λq=>q h2)]at h0;exact h0 rfl
   rw[if_pos h2,h1,show((0:Int) != 0)=false from rfl,cond_false,aC _ _ h2,cond_true]
  ·rw[bT h1,aC _ _ h1,cond_true]
theorem kZ {r c:Int} {l:List Fl} (h:trE r c l=0):∃ n:Nat,n<=12/\r=n/\c=n/\l.length=n*n/\az l=true/\Qb n l=true:=by
 unfold trE at h;split at h
 ·exact absurd h (by assumption)
 ·rename_i h0;obtain⟨n,h1,h2,h3,h4,h5⟩:=ij (show evE r c l=0 by simpa using h0);subst h2;split at h
  ·rename_i h6;exact⟨n,h1,rfl,h3,h4,h5,by simpa using h6⟩
  ·cases h
abbrev KW:=List Fl->Int->Bool
def lwK (r c:Int) (l b:List Fl) (k:KW):Bool:=
 if trE r c l ≠ 0 then k [] (trE r c l)else if pn r b ≠ 0 then k [] (pn r b)
 else if orB (dP (elt l r.toNat) (bt b)) r.toNat=true then k [] 5 else k (vf r.toNat (dX (elt l r.toNat) (bt b))) 0
def upK (r c:Int) (l b:List Fl) (k:KW):Bool:=
 if trE r c l ≠ 0 then k [] (trE r c l)else if pn r b ≠ 0 then k [] (pn r b)
 else if orD (uP (elt l r.toNat) (bt b) r.toNat) r.toNat r.toNat=true then k [] 5 else k (vf r.toNat (uX (elt l r.toNat) (bt b) r.toNat)) 0
theorem Im {N:Nat} (hN:1000<=N) (r c:Int) (l b:List Fl) (k:KW):rb N r c l b k=lwK r c l b k:=by
 unfold rb wB lwK
 (unfold zr; rw[ac]; unfold sc)
 rw[Bi hN];by_cases h0:trE r c l=0
 ·obtain⟨n,hn,rfl,rfl,hl,hf,ht⟩:=kZ h0;rw[ifz h0,h0,show((0:Int) != 0)=false from rfl,cond_false,xX hN n hn];by_cases h1:pn n b=0
  ·have hb:b.length=n:=by have:=(nx h1).1; omega
   rw[ifz h1,h1,show((0:Int) != 0)=false from rfl,cond_false,JN hN hn hl hb,Bool.false_or,Int.toNat_natCast];cases orB (dP (elt l n) (bt b)) n <;> rfl
  ·rw[bT h1,aC _ _ h1,cond_true]
 ·rw[bT h0,aC _ _ h0,cond_true]
theorem Io {N:Nat} (hN:1000<=N) (r c:Int) (l b:List Fl) (k:KW):rf N r c l b k=upK r c l b k:=by
 unfold rf wC upK
 (unfold vn; rw[ac]; unfold ph)
 rw[Bi hN];by_cases h0:trE r c l=0
 ·obtain⟨n,hn,rfl,rfl,hl,hf,ht⟩:=kZ h0;rw[ifz h0,h0,show((0:Int) != 0)=false from rfl,cond_false,xX hN n hn];by_cases h1:pn n b=0
  ·have hb:b.length=n:=by have:=(nx h1).1; omega
   rw[ifz h1,h1,show((0:Int) != 0)=false from rfl,cond_false,JO hN hn hl hb,Bool.false_or,Int.toNat_natCast];cases orD (uP (elt l n) (bt b) n) n n <;> rfl
  ·rw[bT h1,aC _ _ h1,cond_true]
 ·rw[bT h0,aC _ _ h0,cond_true]
theorem vW {N n:Nat} (hN:1000<=N) (hn:n<=12) {xs:List Fl} (hl:xs.length=n*n) (hf:az xs=true) (k:Int->Int->List Fl->Int->Bool):Mp N n n xs k=k n n (mf n (λa b=>elt xs n b a)) 0:=by unfold Mp W7;rw[ep hN,nM hn hl hf,show((0:Int) != 0)=false from rfl,cond_false,Gf hN hn hl]
def qdV (l:List Fl) (n:Nat) (i j:Nat):Fl:=dV (λt=>elt l n i t) (λt=>elt l n j t) (j+1)
def qdO (l:List Fl) (n:Nat) (i j:Nat):Bool:=dO (λt=>elt l n i t) (λt=>elt l n j t) (j+1)
def qdK (r c:Int) (l:List Fl) (k:Int->Int->List Fl->Int->Bool):Bool:=
 if trE r c l ≠ 0 then k 0 0 [] (trE r c l)
 else if orL r.toNat (qdO l r.toNat)=true then k 0 0 [] 5 else k r r (mf r.toNat (mir (qdV l r.toNat))) 0
theorem O6 {N n i j:Nat} (hN:1000<=N) (hn:n<=12) (hi:i<n) (hj:j<n) {l:List Fl} (hl:l.length=n*n) (u v w x r t2 t3 t4 t5:Int) (M:List Fl) (o:Bool) (e0:Fl->Bool->Bool) :
  ah N (fz N n i j u v w x ((j:Int)+1) r n l t2 t3 t4 t5 M e0) (some 0,0,o)=e0 (qdV l n i j) (o||qdO l n i j):=by
 have h1:((some 0,(0:Int),o):Fl × Int × Bool)=(λt:Nat=>(dV (λt=>elt l n i t) (λt=>elt l n j t) t,(t:Int),(o||dO (λt=>elt l n i t) (λt=>elt l n j t) t))) 0:=by show _=(some 0,((0:Nat):Int),(o||false)); rw[qY]; rfl
 rw[h1];refine aA (λt:Nat=>(dV (λt=>elt l n i t) (λt=>elt l n j t) t,(t:Int),(o||dO (λt=>elt l n i t) (λt=>elt l n j t) t))) (j+1) (by omega) ?_ ?_
 ·intro t ht K;unfold fz;dsimp only;rw[decide_eq_true (by omega:(t:Int)<(j:Int)+1),cond_true,oU hn hi (by omega) hl,oU hn hj (by omega) hl,qL hN,uD hN,aa (ab (by omega) (by omega)),DT o (λt=>elt l n i t) (λt=>elt l n j t) t];rfl
 ·intro K;unfold fz;dsimp only;rw[decide_eq_false (by omega:¬((j+1:Nat):Int)<(j:Int)+1),cond_false];rfl
theorem Q6 {N:Nat} (hN:1000<=N) (r c:Int) (l:List Fl) (k:Int->Int->List Fl->Int->Bool):pq N r c l k=qdK r c l k:=by
 (unfold pq; rw[ac]; unfold pg qdK)
 rw[Bi hN];by_cases h0:trE r c l=0
 ·obtain⟨n,hn,rfl,rfl,hl,hf,ht⟩:=kZ h0;have n2:=oe hn;rw[ifz h0,h0,show((0:Int) != 0)=false from rfl,cond_false,<- Int.natCast_mul,aa (ab (by omega) (by omega)),aa (bF (by omega) (by omega) (by omega) (by omega)),Int.toNat_natCast,Int.toNat_natCast,z_,z7 n (qdV l n)];have e:∀ A:Bool,(if A=true then k 0 0 [] 5 else k n n (mf n (mir (qdV l n))) 0)=cond A (k 0 0 [] 5) (k n n (mf n (mir (qdV l n))) 0):=λA=>by cases A <;> rfl
  rw[e];refine aA (λi:Nat=>((i:Int),orB (λi=>orB (λj=>qdO l n i j) (i+1)) i,mf n (mS (qdV l n) i 0))) n (by omega) ?_ ?_
  ·intro i hi K;unfold i6;dsimp only;rw[decide_eq_true (by omega:(i:Int)<(n:Int)),cond_true,aa (ab (by omega) (by omega))];generalize ho1:orB (λi=>orB (λj=>qdO l n i j) (i+1)) i=o1;have h1:((0,o1,mf n (mS (qdV l n) i 0)):Int × Bool × List Fl)=(λj:Nat=>((j:Int),(o1||orB (λj=>qdO l n i j) j),mf n (mS (qdV l n) i j))) 0:=by show _=(((0:Nat):Int),(o1||false),_); rw[qY]; rfl
   rw[h1];refine(aA (λj:Nat=>((j:Int),(o1||orB (λj=>qdO l n i j) j),mf n (mS (qdV l n) i j))) (i+1) (N:=N) (by omega) (out:=K ((((i+1:Nat)):Int),orB (λi=>orB (λj=>qdO l n i j) (i+1)) (i+1),mf n (mS (qdV l n) (i+1) 0))) ?_ ?_:_)
   ·intro j hj K';have hj2:j<n:=by omega
    obtain⟨f1,f2⟩:=dk (by omega:n<=1000) hi hj2;obtain⟨g1,g2⟩:=dk (by omega:n<=1000) hj2 hi;have b1:=eo hi hj2;have b2:=eo hj2 hi;unfold i7;dsimp only;rw[decide_eq_true (by omega:(j:Int)<(i:Int)+1),cond_true,aa (ab (by omega) (by omega)),O6 hN hn hi hj2 hl,dj,dj,aa f1,aa f2,aa g1,aa g2,Int.toNat_natCast,Int.toNat_natCast,List.length_set,bH,aa (ai (by omega) (by omega)),aa (decide_eq_true b1),aa (ai (by omega) (by omega)),aa (decide_eq_true b2),aa (ab (by omega) (by omega)),ti n _ hi hj2,ti n _ hj2 hi,zZ n (qdV l n) hj,xb o1 (λj=>qdO l n i j) j];rfl
   ·intro K';unfold i7;dsimp only;rw[decide_eq_false (by omega:¬((i+1:Nat):Int)<(i:Int)+1),cond_false,aa (ab (by omega) (by omega)),Ej,<- ho1];rfl
  ·intro K;unfold i6;dsimp only;rw[decide_eq_false (by omega:¬(n:Int)<(n:Int)),cond_false,Ei];rfl
 ·rw[bT h0,aC _ _ h0,cond_true]
def rL (A:Nat->Nat->Fl) (j i:Nat):Nat->Nat->Fl:=λa b=>if b<=a/\(b<j\/(b=j/\a<i))then cL A a b else some 0
theorem RB (n:Nat) (A:Nat->Nat->Fl):mf n (λ_ _=>some 0)=mf n (rL A 0 0):=aZ n (λa b _ _=>by unfold rL; rw[if_neg (by omega)])
theorem V6 (n:Nat) (A:Nat->Nat->Fl) (j:Nat):mf n (rL A j n)=mf n (rL A (j+1) 0):=aZ n (λa b ha _=>by
 unfold rL;by_cases h:b<=a/\(b<j\/(b=j/\a<n))
 ·rw[if_pos h,if_pos ⟨h.1,by omega⟩]
 ·rw[if_neg h,if_neg (by omega)])
theorem V7 (n:Nat) (A:Nat->Nat->Fl) (j:Nat):mf n (λa b=>if a=j/\b=j then cL A j j else rL A j 0 a b)=mf n (rL A j (j+1)):=aZ n (λa b _ _=>by
 unfold rL;by_cases h1:a=j/\b=j
 ·rw[if_pos h1,if_pos (by omega),h1.1,h1.2]
 ·rw[if_neg h1];by_cases h2:b<=a/\(b<j\/(b=j/\a<0))
  ·rw[if_pos h2,if_pos (by omega)]
  ·rw[if_neg h2,if_neg (by omega)])
theorem RA (n:Nat) (A:Nat->Nat->Fl) {j i:Nat} (h:j<i):mf n (λa b=>if a=i/\b=j then cL A i j else rL A j i a b)=mf n (rL A j (i+1)):=aZ n (λa b _ _=>by
 unfold rL;by_cases h1:a=i/\b=j
 ·rw[if_pos h1,if_pos (by omega),h1.1,h1.2]
 ·rw[if_neg h1];by_cases h2:b<=a/\(b<j\/(b=j/\a<i))
  ·rw[if_pos h2,if_pos (by omega)]
  ·rw[if_neg h2,if_neg (by omega)])
theorem V8 (n:Nat) (A:Nat->Nat->Fl):mf n (rL A n 0)=mf n (cL A):=aZ n (λa b ha hb=>by
 unfold rL;by_cases h:b<=a
 ·rw[if_pos (by omega)]
 ·rw[if_neg (by omega),Sz A (by omega)])
theorem IX {n:Nat} (A:Nat->Nat->Fl) {j i x c:Nat} (hx:x<n) (hj:j<=x) (hn:c<n) (hc:c<j):elt (mf n (rL A j i)) n x c=cL A x c:=by rw[gF n _ hx hn]; unfold rL; rw[if_pos (by omega)]
theorem Rz {n:Nat} (A:Nat->Nat->Fl) {j i:Nat} (hj:j<n) (hi:j<i):elt (mf n (rL A j i)) n j j=cL A j j:=by rw[gF n _ hj hj]; unfold rL; rw[if_pos (by omega)]
theorem Rf {N n j:Nat} (hN:1000<=N) (hn:n<=12) (hj:j<n) (A:Nat->Nat->Fl) (u v t2 t3:Int) (a:List Fl) (o:Bool) (e0:Fl->Bool->Bool) :
  ah N (jF N n j u v a t2 t3 n n (mf n (rL A j 0)) e0) (A j j,0,o)=e0 (cV A j j) (o||cO A j j):=by
 have h0:((A j j,(0:Int),o):Fl × Int × Bool)=(λt:Nat=>(sV (A j j) (cL A j) (cL A j) t,(t:Int),(o||sO (A j j) (cL A j) (cL A j) t))) 0:=by show _=(A j j,((0:Nat):Int),(o||false)); rw[qY]; rfl
 rw[h0];refine aA (λt:Nat=>(sV (A j j) (cL A j) (cL A j) t,(t:Int),(o||sO (A j j) (cL A j) (cL A j) t))) j (by omega) ?_ ?_
 ·intro t ht K;have ht2:t<n:=by omega
  unfold jF;dsimp only;rw[decide_eq_true (by omega:(t:Int)<(j:Int)),cond_true,ca hn hj ht2 (bH n _),ca hn hj ht2 (bH n _),pQ,pQ,IX A hj (Nat.le_refl _) ht2 ht,aa (ab (by omega) (by omega)),q8];rfl
 ·intro K;unfold jF;dsimp only;rw[decide_eq_false (by omega:¬(j:Int)<(j:Int)),cond_false];rfl
theorem Rg {N n j i:Nat} (hN:1000<=N) (hn:n<=12) (hj:j<i) (hi:i<n) (A:Nat->Nat->Fl) (u v t2 t3:Int) (a:List Fl) (o:Bool) (e0:Fl->Bool->Bool) :
  ah N (jH N n j i u v a t2 t3 n n (mf n (rL A j i)) e0) (A i j,0,o)=e0 (cV A i j) (o||cO A i j):=by
 have h0:((A i j,(0:Int),o):Fl × Int × Bool)=(λt:Nat=>(sV (A i j) (cL A i) (cL A j) t,(t:Int),(o||sO (A i j) (cL A i) (cL A j) t))) 0:=by show _=(A i j,((0:Nat):Int),(o||false)); rw[qY]; rfl
 rw[h0];refine aA (λt:Nat=>(sV (A i j) (cL A i) (cL A j) t,(t:Int),(o||sO (A i j) (cL A i) (cL A j) t))) j (by omega) ?_ ?_
 ·intro t ht K;have ht2:t<n:=by omega
  unfold jH;dsimp only;rw[decide_eq_true (by omega:(t:Int)<(j:Int)),cond_true,ca hn hi ht2 (bH n _),ca hn (by omega) ht2 (bH n _),pQ,pQ,IX A hi (by omega) ht2 ht,IX A (by omega) (Nat.le_refl _) ht2 ht,aa (ab (by omega) (by omega)),q8];rfl
 ·intro K;unfold jH;dsimp only;rw[decide_eq_false (by omega:¬(j:Int)<(j:Int)),cond_false];rfl
theorem NW (A:Nat->Nat->Fl) (j:Nat):∀ i,i<=j+1->cC A j i=false
 | 0,_=>rfl
 | i+1,h=>by show(cC A j i||(decide (j<i)&&cQ A i j))=false;rw[NW A j i (by omega),decide_eq_false (by omega:¬ j<i)]; rfl
theorem Re {N n j:Nat} (hN:1000<=N) (hn:n<=12) (hj:j<n) {a:List Fl} (ha:a.length=n*n) (t2 t3:Int) (o:Bool) (e0:Bool->List Fl->Bool) :
  ah N (jG N n j n n a t2 t3 n n e0) ((j:Int)+1,o,mf n (rL (elt a n) j (j+1)))=e0 (o||cC (elt a n) j n) (mf n (rL (elt a n) j n)):=by
 have h1:(((j:Int)+1,o,mf n (rL (elt a n) j (j+1))):Int × Bool × List Fl)=(λt:Nat=>(((j+1+t:Nat):Int),(o||cC (elt a n) j (j+1+t)),mf n (rL (elt a n) j (j+1+t)))) 0:=by show _=(((j+1:Nat):Int),(o||cC (elt a n) j (j+1)),_); rw[NW _ _ _ (Nat.le_refl _),qY]; rfl
 rw[h1];refine aA (λt:Nat=>(((j+1+t:Nat):Int),(o||cC (elt a n) j (j+1+t)),mf n (rL (elt a n) j (j+1+t)))) (n - (j+1)) (by omega) ?_ ?_
 ·intro t ht K;obtain⟨i,hi⟩:∃ i,j+1+t=i:=⟨_,rfl⟩
  have hi2:i<n:=by omega
  have hji:j<i:=by omega
  unfold jG;dsimp only;rw[hi,decide_eq_true (by omega:(i:Int)<(n:Int)),cond_true,ca hn hi2 hj ha];refine(Rg hN hn hji hi2 (elt a n) _ _ _ _ _ _ _).trans ?_;rw[ca hn hj hj (bH n _),Rz _ hj hji,pQ,lV hn hi2 hj,aa (ab (by omega) (by omega)),<- NX _ hji,RA n _ hji];have e:(((o||cC (elt a n) j i)||cO (elt a n) i j) || !bD (cL (elt a n) i j))=(o||cC (elt a n) j (i+1)):=by rw[<- DN,decide_eq_true hji,Bool.true_and];unfold cQ;simp only[Bool.or_assoc]
  rw[e,<- hi];rfl
 ·intro K;unfold jG;dsimp only;rw[show j+1+(n - (j+1))=n by omega,decide_eq_false (by omega:¬(n:Int)<(n:Int)),cond_false]
theorem Xo {A:Nat->Nat->Fl} {n d j:Nat} (h:cO A j j=true):cR A n (d+1) j false=(0,5):=by unfold cR; rw[h]; rfl
theorem Xp {A:Nat->Nat->Fl} {n d j:Nat} (h:cO A j j=false) (h2:fgt (cV A j j) (some 0)=false):cR A n (d+1) j false=((j:Int),90):=by unfold cR; rw[h,h2]; rfl
theorem Xq {A:Nat->Nat->Fl} {n d j:Nat} (h:cO A j j=false) (h2:fgt (cV A j j) (some 0)=true):cR A n (d+1) j false=cR A n d (j+1) (cC A j n):=by
 conv=>lhs; unfold cR
 rw[h,h2]; rfl
theorem JT {N n:Nat} (hN:1000<=N) (hn:n<=12) {a:List Fl} (ha:a.length=n*n) (t2 t3:Int) (k:KC) :
  ∀(d j M:Nat),j+d=n->d<M ->
  ah M (rA N n n n a t2 t3 n n (λu v x y=>k x y [] u v) (λb=>k n n b 0 0)) ((j:Int),false,mf n (rL (elt a n) j 0)) =
   if (cR (elt a n) n d j false).2 ≠ 0 then k 0 0 [] (cR (elt a n) n d j false).1 (cR (elt a n) n d j false).2 else k n n (mf n (cL (elt a n))) 0 0
 | 0,j,M+1,hj,hM=>by
  obtain rfl:j=n:=by omega
  show rA N j j j a t2 t3 j j _ _ _ _=_;unfold rA;dsimp only;rw[decide_eq_false (by omega:¬(j:Int)<(j:Int)),cond_false,V8];rfl
 | d+1,j,M+1,hj,hM=>by
  have hj2:j<n:=by omega
  have ih:=JT hN hn ha t2 t3 k d (j+1) M;show rA N n n n a t2 t3 n n _ _ _ (ah M (rA N n n n a t2 t3 n n _ _))=_;generalize ah M (rA N n n n a t2 t3 n n _ _)=K at ih ⊢;unfold rA;dsimp only;rw[decide_eq_true (by omega:(j:Int)<(n:Int)),cond_true,ca hn hj2 hj2 ha];refine(Rf hN hn hj2 (elt a n) _ _ _ _ _ _ _).trans ?_;rw[Bool.false_or];cases h2:cO (elt a n) j j
  case true=>rw[Xo h2]; rfl
  rw[cond_false];cases h3:fgt (cV (elt a n) j j) (some 0)
  case false=>rw[Xp h2 h3]; exact(bT (by show ¬(90:Int)=0; decide)).symm
  rw[Xq h2 h3];unfold xl Af GT;dsimp only;rw[Bool.not_true,cond_false,<- HJ,lV hn hj2 hj2,V7,aa (ab (by omega) (by omega))];refine(Re hN hn hj2 ha _ _ _ _).trans ?_;rw[Bool.false_or];cases h4:cC (elt a n) j n
  ·rw[cond_false,aa (ab (by omega) (by omega)),V6];exact ih (by omega) (by omega)
  ·rw[cond_true,Qw]; rfl
theorem yd {N:Nat} (hN:1000<=N) (r c:Int) (l:List Fl) (k:Int->Bool):GV N r c l k=k (evE r c l):=by
 unfold GV; rw[ac]; unfold Ns evE;rw[mw hN];by_cases h0:chk r c l=0
 ·rw[h0,if_neg (λh=>h rfl),show((0:Int) != 0)=false from rfl,cond_false];by_cases h1:r=c
  ·rw[if_neg (λh=>h h1),show(r != c)=false by simp[h1],cond_false]
  ·rw[if_pos h1,aC _ _ h1,cond_true]
 ·rw[if_pos h0,aC _ _ h0,cond_true]
theorem LG {N:Nat} (hN:1000<=N) (r c:Int) (l:List Fl) (k:Int->Bool):Mq N r c l k=k (sqE r c l):=by
 by_cases h0:evE r c l=0
 ·obtain⟨n,hn,rfl,rfl,hl,hf⟩:=ij h0;rw[Ga hN hn hl hf];unfold sqE;rw[ifz h0,Int.toNat_natCast];cases mU n l <;> rfl
 ·have e:sqE r c l=evE r c l:=by unfold sqE; rw[if_pos h0]
  rw[e];unfold Mq; rw[ac]; unfold Qo;rw[mw hN];unfold evE at h0 ⊢;by_cases h1:chk r c l=0
  ·rw[ifz h1]at h0 ⊢;have h2:¬ r=c:=by intro h2;rw[if_neg (λq=>q h2)]at h0;exact h0 rfl
   rw[if_pos h2,h1,show((0:Int) != 0)=false from rfl,cond_false,aC _ _ h2,cond_true]
  ·rw[bT h1,aC _ _ h1,cond_true]
theorem yc {N:Nat} (hN:1000<=N) (r c:Int) (a:List Fl) (k:KC):ou N r c a k=chK r c a k:=by
 unfold ou; rw[ac]; unfold vC chK;rw[LG hN];by_cases h0:sqE r c a=0
 ·obtain⟨n,hn,rfl,rfl,hl,hf,hs⟩:=p9 h0;rw[ifz h0,h0,show((0:Int) != 0)=false from rfl,cond_false,Int.toNat_natCast,lG hn,RB n (elt a n)];exact JT hN hn hl 0 0 k n 0 N (by omega) (by omega)
 ·rw[bT h0,aC _ _ h0,cond_true]
theorem Pi {N n i:Nat} (hN:1000<=N) (hn:n<=12) (hi:i<n) {l x:List Fl} (hl:l.length=n*n) (g:Nat->Fl) (hx:∀ t,t<i->x.getD t none=g t) (hxl:x.length=i) (b0:Fl) (b:List Fl) (o:Bool) (e0:Fl->Bool->Bool) :
  ah N (B0 N b i n n l x e0) (b0,0,o)=e0 (sV b0 (elt l n i) g i) (o||sO b0 (elt l n i) g i):=by
 have h1:((b0,(0:Int),o):Fl × Int × Bool)=(λt:Nat=>(sV b0 (elt l n i) g t,(t:Int),(o||sO b0 (elt l n i) g t))) 0:=by show _=(b0,((0:Nat):Int),(o||false)); rw[qY]; rfl
 rw[h1];refine aA (λt:Nat=>(sV b0 (elt l n i) g t,(t:Int),(o||sO b0 (elt l n i) g t))) i (by omega) ?_ ?_
 ·intro t ht K;unfold B0;dsimp only;rw[decide_eq_true (by omega:(t:Int)<(i:Int)),cond_true,ca hn hi (by omega) hl,hxl,aa (ai (by omega) (by omega)),Int.toNat_natCast,aa (decide_eq_true ht),hx t ht,pQ,pQ,aa (ab (by omega) (by omega)),q8];rfl
 ·intro K;unfold B0;dsimp only;rw[decide_eq_false (by omega:¬(i:Int)<(i:Int)),cond_false]
theorem Qd (n:Nat) (g:Nat->Fl) {i t:Nat} (ht:t<i) (hi:i<=n):((vf n g).take i).getD t none=g t:=by rw[List.getD_eq_getElem?_getD,List.getElem?_take,if_pos ht,<- List.getD_eq_getElem?_getD,i9 n g (by omega)]
theorem JU {N n:Nat} (hN:1000<=N) (hn:n<=12) {l b:List Fl} (hl:l.length=n*n) (hb:b.length=n) (o:Bool) (k:List Fl->Bool->Bool) :
  Du N n n l b o k=k (vf n (dX (elt l n) (bt b))) (o||orB (dP (elt l n) (bt b)) n):=by
 unfold Du; rw[ac]; unfold MR;have h0:((0,o,[]):Int × Bool × List Fl)=(λt:Nat=>((t:Int),(o||orB (dP (elt l n) (bt b)) t),(vf n (dX (elt l n) (bt b))).take t)) 0:=by show _=(((0:Nat):Int),(o||false),_); rw[qY]; rfl
 rw[h0];refine aA (λt:Nat=>((t:Int),(o||orB (dP (elt l n) (bt b)) t),(vf n (dX (elt l n) (bt b))).take t)) n (by omega) ?_ ?_
 ·intro i hi K;unfold ia;dsimp only;rw[decide_eq_true (by omega:(i:Int)<(n:Int)),cond_true,hb,aa (ai (by omega) (by omega)),Int.toNat_natCast];refine(Pi hN hn hi hl (dX (elt l n) (bt b)) (λt ht=>Qd n _ ht (by omega)) (by rw[List.length_take,bK]; omega) _ _ _ _).trans ?_;rw[ca hn hi hi hl,pQ];have e:=Jv (elt l n) (bt b) i;unfold dW at e;rw[show b.getD i none=bt b i from rfl,<- e,xv n _ hi,aa (decide_eq_true (by rw[List.length_take,bK]; omega)),aa (ab (by omega) (by omega))];have e2:(((o||orB (dP (elt l n) (bt b)) i)||sO (bt b i) (elt l n i) (dX (elt l n) (bt b)) i) || !bD (dX (elt l n) (bt b) i))=(o||orB (dP (elt l n) (bt b)) (i+1)):=by rw[<- xb o (dP (elt l n) (bt b)) i];unfold dP;simp only[Bool.or_assoc]
  rw[e2];rfl
 ·intro K;unfold ia;dsimp only;rw[decide_eq_false (by omega:¬(n:Int)<(n:Int)),cond_false,List.take_of_length_le (by rw[bK]; omega)]
theorem Pk {N n i:Nat} (hN:1000<=N) (hn:n<=12) (hi:i<n) {l x b:List Fl} (hl:l.length=n*n) (g:Nat->Fl) (hx:∀ t,i<t->t<n->x.getD t none=g t) (hxl:x.length=n) (b0:Fl) (o:Bool) (e0:Fl->Bool->Bool) :
  ah N (B4 N b i n n l x e0) (b0,(i:Int)+1,o)=e0 (sV b0 (λt=>elt l n (i+1+t) i) (λt=>g (i+1+t)) (n - 1 - i)) (o||sO b0 (λt=>elt l n (i+1+t) i) (λt=>g (i+1+t)) (n - 1 - i)):=by
 have h1:((b0,(i:Int)+1,o):Fl × Int × Bool)=(λt:Nat=>(sV b0 (λt=>elt l n (i+1+t) i) (λt=>g (i+1+t)) t,((i+1+t:Nat):Int),(o||sO b0 (λt=>elt l n (i+1+t) i) (λt=>g (i+1+t)) t))) 0:=by show _=(b0,((i+1:Nat):Int),(o||false)); rw[qY]; rfl
 rw[h1];refine aA (λt:Nat=>(sV b0 (λt=>elt l n (i+1+t) i) (λt=>g (i+1+t)) t,((i+1+t:Nat):Int),(o||sO b0 (λt=>elt l n (i+1+t) i) (λt=>g (i+1+t)) t))) (n - 1 - i) (by omega) ?_ ?_
 ·intro t ht K;unfold B4;dsimp only;rw[decide_eq_true (by omega:((i+1+t:Nat):Int)<(n:Int)),cond_true,ca hn (by omega) hi hl,hxl,aa (ai (by omega) (by omega)),Int.toNat_natCast,aa (decide_eq_true (by omega)),hx _ (by omega) (by omega),pQ,pQ,aa (ab (by omega) (by omega)),q8 o b0 (λt=>elt l n (i+1+t) i) (λt=>g (i+1+t)) t];rfl
 ·intro K;unfold B4;dsimp only;rw[decide_eq_false (by omega:¬((i+1+(n - 1 - i):Nat):Int)<(n:Int)),cond_false]
theorem JV {N n:Nat} (hN:1000<=N) (hn:n<=12) {l b:List Fl} (hl:l.length=n*n) (hb:b.length=n) (o:Bool) (k:List Fl->Bool->Bool) :
  Dw N n n l b o k=k (vf n (uX (elt l n) (bt b) n)) (o||orD (uP (elt l n) (bt b) n) n n):=by
 unfold Dw; rw[ac]; unfold MS;rw[aa (bF (by omega) (by omega) (by omega) (by omega)),aa (ab (by omega) (by omega)),Int.toNat_natCast,JF n (uX (elt l n) (bt b) n)];have h0:(((n:Int) - 1,o,vf n (fu_ n (uX (elt l n) (bt b) n) 0)):Int × Bool × List Fl)=(λm:Nat=>((n:Int) - 1 - (m:Int),(o||orD (uP (elt l n) (bt b) n) n m),vf n (fu_ n (uX (elt l n) (bt b) n) m))) 0:=by show _=((n:Int) - 1 - ((0:Nat):Int),(o||false),_); rw[qY,show(n:Int) - 1 - ((0:Nat):Int)=(n:Int) - 1 by omega]
 rw[h0];refine aA (λm:Nat=>((n:Int) - 1 - (m:Int),(o||orD (uP (elt l n) (bt b) n) n m),vf n (fu_ n (uX (elt l n) (bt b) n) m))) n (by omega) ?_ ?_
 ·intro m hm K;obtain⟨i,hi⟩:∃ i,n - 1 - m=i:=⟨_,rfl⟩
  have hi2:i<n:=by omega
  have ei:(n:Int) - 1 - (m:Int)=(i:Int):=by omega
  unfold ib;dsimp only;rw[ei,decide_eq_true (by omega:(i:Int)>=0),cond_true,hb,aa (ai (by omega) (by omega)),aa (ab (by omega) (by omega)),Int.toNat_natCast];refine(Pk hN hn hi2 hl (uX (elt l n) (bt b) n) (λt ht ht2=>?_) (bK _ _) _ _ _).trans ?_
  ·rw[i9 _ _ ht2]; unfold fu_; rw[if_pos (by omega)]
  rw[ca hn hi2 hi2 hl,pQ,bK,aa (ai (by omega) (by omega)),aa (decide_eq_true hi2),aa (ab (by omega) (by omega)),EU _ _ hi2];have e:=Kv (elt l n) (bt b) hi2;unfold uW at e;rw[show b.getD i none=bt b i from rfl,<- e];have e3:=JE n (uX (elt l n) (bt b) n) hm;rw[hi]at e3;rw[e3];have e2:(((o||orD (uP (elt l n) (bt b) n) n m)||sO (bt b i) (λt=>elt l n (i+1+t) i) (λt=>uX (elt l n) (bt b) n (i+1+t)) (n - 1 - i)) || !bD (uX (elt l n) (bt b) n i))=(o||orD (uP (elt l n) (bt b) n) n (m+1)):=by rw[<- GB o (uP (elt l n) (bt b) n) n m,hi];unfold uP;simp only[Bool.or_assoc]
  rw[e2];show K ((i:Int) - 1,_)=K ((n:Int) - 1 - ((m+1:Nat):Int),_);rw[show(i:Int) - 1=(n:Int) - 1 - ((m+1:Nat):Int) by omega]
 ·intro K;unfold ib;dsimp only;rw[decide_eq_false (by omega:¬(n:Int) - 1 - (n:Int)>=0),cond_false,OI]
theorem JS {N n:Nat} (hN:1000<=N) (hn:n<=12) (L:Nat->Nat->Fl) {b:List Fl} (hb:b.length=n) (o:Bool) (k:List Fl->Bool->Bool) :
  (Du N n n (mf n L) b o λx o1=>Dw N n n (mf n L) x o1 k)=k (vf n (slX n L (bt b))) (o||slO n L (bt b)):=by
 have hL:∀ i j,i<n->j<=i->elt (mf n L) n i j=L i j:=λi j hi hj=>gF n L hi (by omega)
 have hB:∀ i,i<n->bt (vf n (dX (elt (mf n L) n) (bt b))) i=dX L (bt b) i:=λi hi=>(i9 n _ hi none).trans (pC hL (λ_ _=>rfl) i hi)
 rw[JU hN hn (bH n L) hb,JV hN hn (bH n L) (bK _ _)];rw[jI (g':=slX n L (bt b)) (λi hi=>uf hL hB _ i rfl hi),pU (q:=dP L (bt b)) (Az hL (λ_ _=>rfl)),uL (q:=uP L (dX L (bt b)) n) (Cb hL hB) (Nat.le_refl _),Bool.or_assoc];rfl
theorem Bc {N n:Nat} (hF:Fuel N) {l:List Fl} (hn:n<=12) (h:l.length=n*n) (hf:az l=true) (hw:AllW l) (hs:Cn n l) (k:Bool->Bool) :
  bN N n n l k=k (xd n l):=by
 (unfold bN; try rw[ac]); unfold rE
 rw[F9 hF hn h hf hw hs];rfl
def kp (x:List Fl) (r c:Int) (l:List Fl):Int:=if Ic x r c l=151 then 170 else Ic x r c l
theorem VK {r c:Int} {l:List Fl}:chk r c l ≠ 151:=by
 unfold chk;split
 ·split
  ·split <;> decide
  ·decide
 ·decide
theorem vV {N:Nat} (hF:Fuel N) (x:List Fl) (r c:Int) (l:List Fl) (hw:AllW l) (k:Int->Bool):kH N r c l x k=k (kp x r c l):=by
 have hN:=hF.lt
 (unfold kH; rw[ac]; unfold qk kp Ic)
 rw[ep (by omega)];by_cases h0:chk r c l=0
 ·have q:=mh.1 h0;rw[h0,if_neg (c:=(0:Int) ≠ 0) (λh=>h rfl),show((0:Int) != 0)=false from rfl,cond_false];by_cases h1:r=c
  ·subst h1;have e1:((r != r)==false)=true:=by simp
   rw[if_neg (c:=r ≠ r) (λh=>h rfl),e1,cond_true];obtain⟨n,hn⟩:∃ n:Nat,r=n:=⟨r.toNat,by omega⟩
   subst hn;by_cases h2:(x.length:Int)=n
   ·have e2:(((x.length:Nat):Int) != (n:Int))=false:=by simp[h2]
    have hl:l.length=n*n:=by exact_mod_cast q.2.1
    have hn12:n<=12:=by omega
    rw[e2,cond_false,if_neg (c:=((x.length:Nat):Int) ≠ (n:Int)) (λh=>h h2),lE x ⟨by omega,by omega⟩];cases h3:az x
    ·rfl
    ·rw[show(!true)=false from rfl,cond_false,JL (by omega) hn12 hl q.2.2,Int.toNat_natCast];cases h4:mU n l
     ·rfl
     ·rw[show(!true)=false from rfl,cond_false,Bc hF hn12 hl q.2.2 hw (I_ hl q.2.2 h4)];cases xd n l <;> rfl
   ·have e2:(((x.length:Nat):Int) != (n:Int))=true:=by simp[h2]
    rw[e2,cond_true,if_pos (c:=((x.length:Nat):Int) ≠ (n:Int)) h2]; rfl
  ·have e1:((r != c)==false)=false:=by simp[h1]
   rw[e1,cond_false,if_pos (c:=r ≠ c) h1]; rfl
 ·have e0:(chk r c l != 0)=true:=by simp[h0]
  rw[e0,cond_true,if_pos (c:=chk r c l ≠ 0) h0,if_neg VK]
theorem te {N:Nat} (hF:Fuel N) (x:List Fl) (r c:Int) (l:List Fl) (hw:AllW l) (k:Int->Bool):mL N r c l x k=k (kp x r c l):=by
 (unfold mL; try rw[ac]); unfold yH
 rw[F5 hF _ _ _ _ hw];unfold kp;by_cases h:Ic x r c l=151
 ·rw[if_pos h,h]; rfl
 ·rw[if_neg h,show(Ic x r c l==151)=false by simp[h],cond_false]
theorem w6 {N n:Nat} (hN:1000<=N) (hn:n<=12) {M:List Fl} (v:Nat->Nat->Fl) (hL:M.length=n*n) (hM:∀ i j,i<n->j<=i->elt M n i j=v i j) (k:List Fl->Bool):Ke N n n M k=k (mf n (mir v)):=by
 (unfold Ke; rw[ac]; unfold M6)
 rw[lG hn,z7 n v];refine aA (λi:Nat=>((i:Int),mf n (mS v i 0))) n (by omega) ?_ ?_
 ·intro i hi K;unfold EP;dsimp only;rw[decide_eq_true (by omega:(i:Int)<(n:Int)),cond_true];refine(aA (λj:Nat=>((j:Int),mf n (mS v i j))) (i+1) (N:=N) (by omega) (out:=K ((((i+1:Nat)):Int),mf n (mS v (i+1) 0))) ?_ ?_:_)
  ·intro j hj K';have hj2:j<n:=by omega
   unfold EQ;dsimp only;have e:=hM i j hi (by omega);rw[decide_eq_true (by omega:(j:Int)<=(i:Int)),cond_true,ca hn hi hj2 hL,e,lV hn hi hj2,ca hn hi hj2 hL,e,lV hn hj2 hi,aa (ab (by omega) (by omega)),zZ n v hj];rfl
  ·intro K';unfold EQ;dsimp only;rw[decide_eq_false (by omega:¬((i+1:Nat):Int)<=(i:Int)),cond_false,aa (ab (by omega) (by omega)),Ej];rfl
 ·intro K;unfold EP;dsimp only;rw[decide_eq_false (by omega:¬(n:Int)<(n:Int)),cond_false,Ei]
theorem Rs {p:Nat->Bool}:∀{n:Nat},orB p n=false ↔ ∀ i,i<n->p i=false
 | 0=>⟨λ_ i hi=>absurd hi (Nat.not_lt_zero _),λ_=>rfl⟩
 | n+1=>by show(orB p n||p n)=false↔_;rw[Bool.or_eq_false_iff,Rs];exact⟨λ⟨h1,h2⟩ i hi=>(Nat.lt_or_ge i n).elim (h1 i) (λh=>by rw[show i=n by omega]; exact h2),λh=>⟨λi hi=>h i (by omega),h n (by omega)⟩⟩
theorem QB {n:Nat} {l:List Fl} (h:l.length=n*n) (hf:az l=true) (hs:mU n l=true) {i j:Nat} (hi:i<n) (hj:j<n):elt l n i j=elt l n j i:=by
 have key:∀ a b,a<n->b<a->elt l n a b=elt l n b a:=by
  intro a b ha hb;unfold mU at hs;have h1:=bX.1 (bX.1 hs a ha) b hb;have h2:=of_decide_eq_true h1;have f1:bD (elt l n a b)=true:=cD hf (by have:=gU ha (by omega:b<n); omega);have f2:bD (elt l n b a)=true:=cD hf (by have:=gU (by omega:b<n) ha; omega)
  rwa [xH f1,xH f2]at h2
 rcases Nat.lt_trichotomy i j with h1 | h1 | h1
 ·exact(key j i hj h1).symm
 ·rw[h1]
 ·exact key i j hi h1
theorem CY {x:Fl} (h:bD x=true):∃ b,x=some b:=by
 cases x with
 | none=>cases h
 | some b=>exact⟨b,rfl⟩
theorem nX {N:Nat} (hN:1000<=N) (a:List Fl) (ha:di N a.length) (hf:az a=true) (k:Bool->Bool):Mm N a a k=k true:=by
 ((unfold Mm; rw[ac]); try rw[ac]); unfold Tk
 rw[show(((a.length:Nat):Int) != ((a.length:Nat):Int))=false by simp,cond_false];have h1:=ha.1;have h2:=ha.2;refine aA (λi:Nat=>(i:Int)) a.length (by omega) (λi hi K=>?_) (λK=>?_)
 ·have d1:inR (i:Int) a.length=true:=ai (by omega) (by omega);have d2:af .i64 ((i:Int)+1)=true:=ab (by omega) (by omega);obtain⟨b,hb⟩:=CY (cD hf hi);simp only[EH,Int.toNat_natCast,d1,d2,Bool.true_and,hb];rw[decide_eq_true (by omega:(i:Int)<(a.length:Int)),cond_true];show cond ((b:Int) != b) _ _=_;rw[show((b:Int) != b)=false by simp,cond_false]; rfl
 ·simp only[EH];rw[decide_eq_false (by omega:¬(a.length:Int)<(a.length:Int)),cond_false]
theorem IB {N:Nat} (hN:1000<=N) (n m:Int) {Y V:List Fl} (hY:di N Y.length) (hV:di N V.length) (fY:az Y=true) (fV:az V=true) (k:Bool->Bool):Ww N n m Y V n m Y V k=k true:=by
 (unfold Ww; try rw[ac]); unfold Xh
 rw[nX hN V hV fV]
 ((unfold RP; rw[ac]); try rw[ac]); unfold Ql
 have e:((n:Int)==n)=true:=by simp
 have e2:((m:Int)==m)=true:=by simp
 rw[e,e2,show((true:Bool)==true)=true from rfl,cond_true,cond_true,cond_true,nX hN Y hY fY]
theorem Iz {N:Nat} (hN:1000<=N) (n m:Int) {Y V:List Fl} (hY:di N Y.length) (hV:di N V.length) (fY:az Y=true) (fV:az V=true) (k:Bool->Bool):Wv N n m Y V n m Y V k=k true:=by
 (unfold Wv; try rw[ac]); unfold Xg
 rw[nX hN V hV fV]
 ((unfold RP; rw[ac]); try rw[ac]); unfold Ql
 have e:((n:Int)==n)=true:=by simp
 have e2:((m:Int)==m)=true:=by simp
 rw[e,e2,show((true:Bool)==true)=true from rfl,cond_true,cond_true,cond_true,nX hN Y hY fY]
theorem OV {N:Nat} {v y:List Int} (hv:di N v.length) (hy:di N y.length) (r c:Int) (k:List Fl->List Fl->Bool):Wt N v r c y k=k (rZ y) (rZ v):=by
 (unfold Wt; try rw[ac]); unfold Xe
 rw[wW v hv,wW y hy]
theorem OX {N:Nat} {v y:List Int} (hv:di N v.length) (hy:di N y.length) (r:Int) (k:List Fl->List Fl->Bool):Wu N v r y k=k (rZ y) (rZ v):=by
 (unfold Wu; try rw[ac]); unfold Xf
 rw[wW v hv,wW y hy]
abbrev KI:=Int->Int->List Fl->List Fl->Int->Bool
theorem Gs {n:Nat} (v:Nat->Nat->Fl):mU n (mf n (mir v))=true:=by
 unfold mU;refine bX.2 λi hi=>bX.2 λj hj=>?_
 have hj2:j<n:=by omega
 rw[gF n _ hi hj2,gF n _ hj2 hi];have:mir v i j=mir v j i:=by unfold mir;rw[if_pos (by omega),if_neg (by omega)]
 rw[this];exact decide_eq_true rfl
end Go.Proofs.YtdinakfmablagaaGreatDoor
end
