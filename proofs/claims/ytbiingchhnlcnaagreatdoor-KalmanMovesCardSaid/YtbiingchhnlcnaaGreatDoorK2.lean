/- Laws in plain Lean. Conditions: none. -/
import Derived.Test.YtbiingchhnlcnaaGreatDoorC8
import Derived.Test.YtbiingchhnlcnaaGreatDoorC1
import Derived.Test.YtbiingchhnlcnaaGreatDoorFlA
set_option linter.unusedVariables false
section
namespace Go.Proofs.YtbiingchhnlcnaaGreatDoor
open Go Go.Mach Ieee
theorem JR {N n i j:Nat} (hn:n<=12) (hi:i<n) (hj:j<n) {l:List Fl} (h:l.length=n*n) (k:Fl->Bool):pC N n n l i j k=k (elt l n i j):=by obtain⟨h1,h2⟩:=jO (by omega:n<=1000) hi hj;have h3:=mm hi hj;unfold pC yL elt;rw[jN,aa h1,aa h2,h,Int.toNat_natCast,aa (ai (by omega) (by omega))]
theorem qk {N n i j:Nat} (hn:n<=12) (hi:i<n) (hj:j<n) {l:List Fl} (h:l.length=n*n) (k:Fl->Bool):nj N n n l i j k=k (elt l n i j):=by obtain⟨h1,h2⟩:=jO (by omega:n<=1000) hi hj;have h3:=mm hi hj;unfold nj Fg elt;rw[jN,aa h1,aa h2,h,Int.toNat_natCast,aa (ai (by omega) (by omega))]
def qz (n:Nat) (l:List Fl):Bool:=w7 (λi=>w7 (λj=>decide (cn (elt l n i j)=cn (elt l n j i))) i) n
theorem JN {N n:Nat} (hN:1000<=N) (hn:n<=12) {l:List Fl} (h:l.length=n*n) (hf:bg l=true) (k:Bool->Bool):Re N n n l k=k (qz n l):=by
 (unfold Re; rw[ae]; unfold SJ)
 rw[q_ hN,HW hn h hf,show(((0:Int) != 0)==false)=true from rfl,cond_true];have:((n:Int) != (n:Int))=false:=by simp
 rw[this,cond_false];have hk:k (qz n l)=cond (qz n l) (k true) (k false):=by cases qz n l <;> rfl
 rw[hk];refine og (λt:Nat=>(t:Int)) (λi=>w7 (λj=>decide (cn (elt l n i j)=cn (elt l n j i))) i) n (by omega) ?_ ?_
 ·intro i hi K;unfold E7;dsimp only;rw[decide_eq_true (by omega:(i:Int)<(n:Int)),cond_true];refine(og (λt:Nat=>(t:Int)) (λj=>decide (cn (elt l n i j)=cn (elt l n j i))) i (N:=N) (by omega) (ex:=k false) (out:=K (((i+1:Nat):Int))) ?_ ?_:_)
  ·intro j hj K';have hj2:j<n:=by omega
   unfold E8;dsimp only;rw[decide_eq_true (by omega:(j:Int)<(i:Int)),cond_true,JR hn hi hj2 h,JR hn hj2 hi h];unfold PF;dsimp only;by_cases he:cn (elt l n i j)=cn (elt l n j i)
   ·rw[decide_eq_true he,show(!true)=false from rfl,cond_false,cond_true,aa (ab (by omega) (by omega))];rfl
   ·rw[decide_eq_false he,show(!false)=true from rfl,cond_true,cond_false]
  ·intro K';unfold E8;dsimp only;rw[decide_eq_false (by omega:¬(i:Int)<(i:Int)),cond_false,aa (ab (by omega) (by omega))];rfl
 ·intro K;unfold E7;dsimp only;rw[decide_eq_false (by omega:¬(n:Int)<(n:Int)),cond_false]
theorem LS {N:Nat} (r c:Int) (n:Int) (k:Int->Bool):ui N r c n k=k (if (0<=r/\r<=12)/\(0<=c/\c<=12)then(if n=r*c then 0 else 3)else 1):=by
 (unfold ui; rw[ae]; unfold sR)
 by_cases h1:r<0
 ·rw[decide_eq_true h1,if_neg (by omega)]; rfl
 ·rw[decide_eq_false h1];by_cases h2:r>12
  ·rw[decide_eq_true h2,if_neg (by omega)]; rfl
  ·rw[decide_eq_false h2];by_cases h3:c<0
   ·rw[decide_eq_true h3,if_neg (by omega)]; rfl
   ·rw[decide_eq_false h3];by_cases h4:c>12
    ·rw[decide_eq_true h4,if_neg (by omega)]; rfl
    ·have hr:0<=r/\r<=12:=by omega
     have hc:0<=c/\c<=12:=by omega
     rw[decide_eq_false h4,if_pos ⟨hr,hc⟩,QX hr hc];by_cases h5:n=r*c
     ·have:(n != r*c)=false:=by simp[h5]
      rw[this,if_pos h5]; rfl
     ·have:(n != r*c)=true:=by simp[h5]
      rw[this,if_neg h5]; rfl
theorem Bp {N:Nat} (hN:1000<=N) (r c:Int) (l:List Fl) (k:Int->Bool):rE N r c l k=k (chk r c l):=by
 (unfold rE; rw[ae]; unfold vU chk)
 rw[LS];by_cases h1:(0<=r/\r<=12)/\(0<=c/\c<=12)
 ·rw[if_pos h1,if_pos h1];by_cases h2:(l.length:Int)=r*c
  ·have h3:=J1 h1.1 h1.2;have h6:l.length<=144:=by rw[<- h2]at h3; omega
   rw[if_pos h2,if_pos h2,show((0:Int) != 0)=false from rfl,cond_false,mG l ⟨by omega,by omega⟩];cases bg l <;> rfl
  ·rw[if_neg h2,if_neg h2]; rfl
 ·rw[if_neg h1,if_neg h1]; rfl
theorem Gp {N n:Nat} (hN:1000<=N) (hn:n<=12) {l:List Fl} (h:l.length=n*n) (hf:bg l=true) (k:Int->Bool):Ke N n n l k=k (if qz n l=true then 0 else 91):=by
 (unfold Ke; rw[ae]; unfold MR)
 rw[Bp hN,HW hn h hf,show((0:Int) != 0)=false from rfl,cond_false];have:((n:Int) != (n:Int))=false:=by simp
 rw[this,cond_false];have hk:k (if qz n l=true then 0 else 91)=cond (qz n l) (k 0) (k 91):=by cases qz n l <;> rfl
 rw[hk];refine og (λt:Nat=>(t:Int)) (λi=>w7 (λj=>decide (cn (elt l n i j)=cn (elt l n j i))) i) n (by omega) ?_ ?_
 ·intro i hi K;unfold fJ;dsimp only;rw[decide_eq_true (by omega:(i:Int)<(n:Int)),cond_true];refine(og (λt:Nat=>(t:Int)) (λj=>decide (cn (elt l n i j)=cn (elt l n j i))) i (N:=N) (by omega) (ex:=k 91) (out:=K (((i+1:Nat):Int))) ?_ ?_:_)
  ·intro j hj K';have hj2:j<n:=by omega
   unfold fK;dsimp only;rw[decide_eq_true (by omega:(j:Int)<(i:Int)),cond_true,qk hn hi hj2 h,qk hn hj2 hi h,Ey];by_cases he:cn (elt l n i j)=cn (elt l n j i)
   ·rw[decide_eq_true he,show(!true)=false from rfl,cond_false,cond_true,aa (ab (by omega) (by omega))];rfl
   ·rw[decide_eq_false he,show(!false)=true from rfl,cond_true,cond_false]
  ·intro K';unfold fK;dsimp only;rw[decide_eq_false (by omega:¬(i:Int)<(i:Int)),cond_false,aa (ab (by omega) (by omega))];rfl
 ·intro K;unfold fJ;dsimp only;rw[decide_eq_false (by omega:¬(n:Int)<(n:Int)),cond_false]
theorem NV {x:Fl} (h:bA x=true):cn x=x:=by obtain⟨b,rfl,hb⟩:=Hz h;simp only[cn,hb]; rfl
theorem PW {n:Nat} {l:List Fl} (h:l.length=n*n) (hf:bg l=true) (hs:qz n l=true):NF n l:=by
 have key:∀ i j,j<i->i<n->elt l n i j=elt l n j i:=by
  intro i j hj hi;have h1:=kH.1 (kH.1 hs i hi) j hj;have h2:=of_decide_eq_true h1;have hj2:j<n:=by omega
  have e1:=mm hi hj2;have e2:=mm hj2 hi;rw[NV (x:=elt l n i j) (oz hf (by omega)),NV (x:=elt l n j i) (oz hf (by omega))]at h2;exact h2
 intro a b ha hb;show ru (ofE (elt l n a b))=ru (ofE (elt l n b a));rcases Nat.lt_trichotomy a b with h1 | h1 | h1
 ·rw[key b a h1 hb]
 ·rw[h1]
 ·rw[key a b h1 ha]
def vv (x:List Fl) (r c:Int) (l:List Fl):Int:=
 if chk r c l ≠ 0 then chk r c l else if r ≠ c then 3 else if (x.length:Int) ≠ r then 3 else if bg x=false then 4 else if qz r.toNat l=false then 150 else if CG r.toNat l=false then 151 else 0
theorem yi {x:List Fl} {r c:Int} {l:List Fl} (h:vv x r c l=0):∃ n:Nat,n<=12/\r=n/\c=n/\x.length=n/\l.length=n*n/\bg x=true/\bg l=true/\qz n l=true/\CG n l=true:=by
 unfold vv at h;split at h
 ·exact absurd h (by assumption)
 ·rename_i h0;have h0:chk r c l=0:=by simpa using h0
  have q:=pZ.1 h0;split at h
  ·cases h
  ·rename_i h1;split at h
   ·cases h
   ·rename_i h2;split at h
    ·cases h
    ·rename_i h3;split at h
     ·cases h
     ·rename_i h4;split at h
      ·cases h
      ·rename_i h5;obtain⟨n,hn⟩:∃ n:Nat,r=n:=⟨r.toNat,by omega⟩
       have h1:r=c:=by simpa using h1
       subst hn;subst h1;rw[Int.toNat_natCast]at h4 h5;refine⟨n,by omega,rfl,rfl,by omega,by exact_mod_cast q.2.1,by simpa using h3,q.2.2,by simpa using h4,by simpa using h5⟩
theorem Br {N:Nat} (hF:Fuel N) (x:List Fl) (r c:Int) (l:List Fl) (hw:AllW l) (k:Int->Bool):e9 N x r c l k=k (vv x r c l):=by
 have hN:=hF.lt
 (unfold e9; rw[ae]; unfold ov vv)
 rw[q_ (by omega)];by_cases h0:chk r c l=0
 ·have q:=pZ.1 h0;rw[h0,if_neg (λh=>h rfl),show((0:Int) != 0)=false from rfl,cond_false];by_cases h1:r=c
  ·subst h1;have e1:((r != r)==false)=true:=by simp
   rw[if_neg (λh=>h rfl),e1,cond_true];obtain⟨n,hn⟩:∃ n:Nat,r=n:=⟨r.toNat,by omega⟩
   subst hn;by_cases h2:(x.length:Int)=n
   ·have e2:(((x.length:Nat):Int) != (n:Int))=false:=by simp[h2]
    have hl:l.length=n*n:=by exact_mod_cast q.2.1
    have hn12:n<=12:=by omega
    rw[e2,cond_false,if_neg (λh=>h h2),q9 x ⟨by omega,by omega⟩];cases h3:bg x
    ·rfl
    ·rw[show(!true)=false from rfl,cond_false,if_neg (by decide),JN (by omega) hn12 hl q.2.2,Int.toNat_natCast];cases h4:qz n l
     ·rfl
     ·rw[show(!true)=false from rfl,cond_false,if_neg (by decide),xj hF hn12 hl q.2.2 hw (PW hl q.2.2 h4)];cases CG n l <;> rfl
   ·have e2:(((x.length:Nat):Int) != (n:Int))=true:=by simp[h2]
    rw[e2,cond_true,if_pos h2]
  ·have e1:((r != c)==false)=false:=by simp[h1]
   rw[e1,cond_false,if_pos h1]
 ·have e0:(chk r c l != 0)=true:=by simp[h0]
  rw[e0,cond_true,if_pos h0]
theorem zj {N:Nat} (hF:Fuel N) (x:List Fl) (r c:Int) (l:List Fl) (hw:AllW l) (k:Int->Bool):pI N x r c l k=k (vv x r c l):=by
 have hN:=hF.lt
 (unfold pI; rw[ae]; unfold sU; unfold zG; rw[ae]; unfold sV rI vV vv)
 rw[Bp (by omega)];dsimp only;by_cases h0:chk r c l=0
 ·have q:=pZ.1 h0;rw[h0,if_neg (λh=>h rfl),show((0:Int) != 0)=false from rfl,cond_false];by_cases h1:r=c
  ·subst h1;have e1:((r != r)==false)=true:=by simp
   rw[if_neg (λh=>h rfl),e1,cond_true];obtain⟨n,hn⟩:∃ n:Nat,r=n:=⟨r.toNat,by omega⟩
   subst hn;by_cases h2:(x.length:Int)=n
   ·have e2:(((x.length:Nat):Int) != (n:Int))=false:=by simp[h2]
    have hl:l.length=n*n:=by exact_mod_cast q.2.1
    have hn12:n<=12:=by omega
    rw[e2,cond_false,if_neg (λh=>h h2),mG x ⟨by omega,by omega⟩];cases h3:bg x
    ·rfl
    ·rw[show(!true)=false from rfl,cond_false,if_neg (by decide),Gp (by omega) hn12 hl q.2.2,Int.toNat_natCast];cases h4:qz n l
     ·rfl
     ·rw[if_pos rfl,show((0:Int) != 0)=false from rfl,cond_false,cond_false,if_neg (by decide),xh hF hn12 hl q.2.2 hw (PW hl q.2.2 h4)];cases CG n l <;> rfl
   ·have e2:(((x.length:Nat):Int) != (n:Int))=true:=by simp[h2]
    rw[e2,cond_true,if_pos h2]; rfl
  ·have e1:((r != c)==false)=false:=by simp[h1]
   rw[e1,cond_false,if_pos h1]; rfl
 ·have e0:(chk r c l != 0)=true:=by simp[h0]
  rw[e0,cond_true,if_pos h0];rfl
theorem Bv {N:Nat} (x:Fl) (o:Bool) (k:Bool->Bool):iI N x o k=k (o || !bA x):=by
 (unfold iI; rw[ae]; unfold xW)
 cases o
 ·rw[show(false==false)=true from rfl,cond_true,tI]; rfl
 ·rfl
theorem Lz {N:Nat} {a:Fl} (h:Nn a) (k:Bool->Bool):VC N a a k=k true:=by obtain⟨b,rfl,hb⟩:=h;unfold VC Wg;show k (((b:Nat):Int)==((b:Nat):Int))=_;rw[beq_self_eq_true]
theorem Vk {l:List Int} (h:∀ z,z ∈ l->z.toNat<18446744073709551616):AllW (CF l):=by intro x hx;unfold CF at hx;obtain⟨z,hz,rfl⟩:=List.mem_map.1 hx;exact NQ (h z hz)
def mf (n:Nat) (f:Nat->Nat->Fl):List Fl:=(List.range (n*n)).map (λt=>f (t / n) (t%n))
theorem eX (n:Nat) (f:Nat->Nat->Fl):(mf n f).length=n*n:=by unfold mf; rw[List.length_map,List.length_range]
theorem xn (n:Nat) (f:Nat->Nat->Fl) {i j:Nat} (hi:i<n) (hj:j<n) (z:Fl):(mf n f).getD (i*n+j) z=f i j:=by have h:=kT hi hj;unfold mf;rw[List.getD_eq_getElem?_getD,List.getElem?_map,List.getElem?_range h];simp only[Option.map_some,Option.getD_some,Aj hj,Ak hj]
theorem BH (n:Nat) (f:Nat->Nat->Fl) {i j:Nat} (hi:i<n) (hj:j<n):elt (mf n f) n i j=f i j:=xn n f hi hj none
theorem da (n:Nat) {f f':Nat->Nat->Fl} (h:∀ a b,a<n->b<n->f a b=f' a b):mf n f=mf n f':=by
 unfold mf;apply List.map_congr_left;intro t ht;have ht:=List.mem_range.1 ht;have hn:0<n:=by
  rcases Nat.eq_zero_or_pos n with h0 | h0
  ·rw[h0]at ht; omega
  ·exact h0
 rw[h _ _ (Nat.div_lt_of_lt_mul ht) (Nat.mod_lt _ hn)]
theorem BI (n:Nat) (f:Nat->Nat->Fl) {i j:Nat} (hi:i<n) (hj:j<n) (v:Fl):(mf n f).set (i*n+j) v=mf n (λa b=>if a=i/\b=j then v else f a b):=by
 have h:=kT hi hj;apply List.ext_getElem?;intro t;by_cases ht:t<n*n
 ·have hn:0<n:=by omega
  rw[List.getElem?_set];unfold mf;rw[List.getElem?_map,List.getElem?_map,List.getElem?_range ht];simp only[List.length_map,List.length_range,Option.map_some];by_cases he:i*n+j=t
  ·rw[if_pos he,if_pos h,<- he,Aj hj,Ak hj,if_pos ⟨rfl,rfl⟩]
  ·rw[if_neg he];have:¬(t / n=i/\t%n=j):=by rintro ⟨h1,h2⟩;apply he;rw[<- h1,<- h2,Nat.mul_comm];exact Nat.div_add_mod t n
   rw[if_neg this]
 ·rw[List.getElem?_eq_none (by rw[List.length_set,eX]; omega),List.getElem?_eq_none (by rw[eX]; omega)]
theorem Ao (n:Nat):List.replicate (n*n) (some 0)=mf n (λ_ _=>some 0):=by
 apply List.ext_getElem?;intro t;unfold mf;rw[List.getElem?_map,List.getElem?_replicate];by_cases ht:t<n*n
 ·rw[if_pos ht,List.getElem?_range ht]; rfl
 ·rw[if_neg ht,List.getElem?_eq_none (by rw[List.length_range]; omega)]; rfl
theorem QM (n:Nat) (f:Nat->Nat->Fl) {i j:Nat} (hi:i<n) (hj:j<n):(mf n f).take (i*n+j)++[f i j]=(mf n f).take (i*n+j+1):=by
 have h:=kT hi hj;have hl:i*n+j<(mf n f).length:=by rw[eX]; exact h
 rw[List.take_succ_eq_append_getElem hl];have:=xn n f hi hj none;rw[List.getD_eq_getElem?_getD,List.getElem?_eq_getElem hl]at this;rw[<- this]; rfl
def vf (n:Nat) (g:Nat->Fl):List Fl:=(List.range n).map g
theorem gl (n:Nat) (g:Nat->Fl):(vf n g).length=n:=by unfold vf; rw[List.length_map,List.length_range]
theorem xL (n:Nat) (g:Nat->Fl) {i:Nat} (hi:i<n) (z:Fl):(vf n g).getD i z=g i:=by unfold vf;rw[List.getD_eq_getElem?_getD,List.getElem?_map,List.getElem?_range hi]; rfl
theorem Ky (n:Nat) (g:Nat->Fl) {i:Nat} (hi:i<n):(vf n g).take i++[g i]=(vf n g).take (i+1):=by
 have hl:i<(vf n g).length:=by rw[gl]; exact hi
 rw[List.take_succ_eq_append_getElem hl];have:=xL n g hi none;rw[List.getD_eq_getElem?_getD,List.getElem?_eq_getElem hl]at this;rw[<- this]; rfl
theorem Kx (n:Nat) (g:Nat->Fl) {i:Nat} (hi:i<n):((vf n g).take i++List.replicate (n - i) (some 0)).set i (g i)=(vf n g).take (i+1)++List.replicate (n - (i+1)) (some 0):=by have:=F4 (vf n g) (some 0) (t:=i) (by rw[gl]; exact hi);rw[gl,xL n g hi]at this;exact this
theorem zM (n:Nat) (g:Nat->Fl) {i:Nat} (hi:i<=n):((vf n g).take i++List.replicate (n - i) (some 0)).length=n:=by have:=F3 (vf n g) (some 0) (t:=i) (by rw[gl]; exact hi);rw[gl]at this;exact this
def dV (f g:Nat->Fl):Nat->Fl
 | 0=>some 0
 | t+1=>cV (dV f g t) (ay (f t) (g t))
def dO (f g:Nat->Fl):Nat->Bool
 | 0=>false
 | t+1=>(dO f g t || !bA (ay (f t) (g t))) || !bA (dV f g (t+1))
def orB (p:Nat->Bool):Nat->Bool
 | 0=>false
 | t+1=>orB p t||p t
theorem uZ {p:Nat->Bool}:∀{n:Nat},orB p n=false -> ∀ i,i<n->p i=false
 | 0,_,i,hi=>by omega
 | n+1,h,i,hi=>by
  unfold orB at h;rw[Bool.or_eq_false_iff]at h;rcases Nat.lt_or_ge i n with h1 | h1
  ·exact uZ h.1 i h1
  ·rw[show i=n by omega]; exact h.2
theorem UX {f g:Nat->Fl}:∀{n:Nat},dO f g n=false->bA (dV f g n)=true
 | 0,_=>rfl
 | n+1,h=>by unfold dO at h;rw[Bool.or_eq_false_iff]at h;simpa using h.2
theorem uI (o:Bool) (f g:Nat->Fl) (t:Nat):((o||dO f g t) || !bA (ay (f t) (g t)) || !bA (cV (dV f g t) (ay (f t) (g t))))=(o||dO f g (t+1)):=by show _=(o||((dO f g t || !bA (ay (f t) (g t))) || !bA (cV (dV f g t) (ay (f t) (g t)))));simp only[Bool.or_assoc]
theorem xu (o:Bool):(o||false)=o:=by cases o <;> rfl
theorem Oy {N n:Nat} (hN:1000<=N) (hn:n<=100) {a b:List Fl} {f g:Nat->Fl} (ha:a.length=n) (hb:n<=b.length) (hbs:b.length<=1000) (hf:∀ i,i<n->a.getD i none=f i) (hg:∀ i,i<n->b.getD i none=g i) (o:Bool) (k:Fl->Bool->Bool) :
  ua N a b o k=k (dV f g n) (o||dO f g n):=by
 (unfold ua; rw[ae]; unfold sE)
 have h0:((some 0,0,o):Fl × Int × Bool)=(λt:Nat=>(dV f g t,(t:Int),o||dO f g t)) 0:=by show _=(some 0,((0:Nat):Int),o||false); rw[xu]; rfl
 rw[h0];refine aC (λt:Nat=>(dV f g t,(t:Int),o||dO f g t)) n (by omega) ?_ ?_
 ·intro t ht K;unfold lz;dsimp only;rw[decide_eq_true (by omega:(t:Int)<(a.length:Int)),cond_true,aa (ai (by omega) (by omega)),aa (ai (by omega) (by omega)),Int.toNat_natCast,hf t ht,hg t ht,Ep,Am,aa (ab (by omega) (by omega)),uI];rfl
 ·intro K;unfold lz;dsimp only;rw[decide_eq_false (by omega:¬(n:Int)<(a.length:Int)),cond_false]
theorem Lm {N n:Nat} (hN:1000<=N) (hn:n<=100) {a b:List Fl} {f g:Nat->Fl} (ha:a.length=n) (hb:n<=b.length) (hbs:b.length<=1000) (hf:∀ i,i<n->a.getD i none=f i) (hg:∀ i,i<n->b.getD i none=g i) (o:Bool) (k:Fl->Bool->Bool) :
  Pv N a o b k=k (dV f g n) (o||dO f g n):=by
 (unfold Pv; rw[ae]; unfold Ni)
 have h0:((some 0,0,o):Fl × Int × Bool)=(λt:Nat=>(dV f g t,(t:Int),o||dO f g t)) 0:=by show _=(some 0,((0:Nat):Int),o||false); rw[xu]; rfl
 rw[h0];refine aC (λt:Nat=>(dV f g t,(t:Int),o||dO f g t)) n (by omega) ?_ ?_
 ·intro t ht K;unfold iM;dsimp only;rw[decide_eq_true (by omega:(t:Int)<(a.length:Int)),cond_true,aa (ai (by omega) (by omega)),aa (ai (by omega) (by omega)),Int.toNat_natCast,aa (decide_eq_true (by omega)),hf t ht,hg t ht,Ep,Am,aa (ab (by omega) (by omega)),uI];rfl
 ·intro K;unfold iM;dsimp only;rw[decide_eq_false (by omega:¬(n:Int)<(a.length:Int)),cond_false]
theorem Ll {N n s:Nat} (hN:1000<=N) (hn:n<=100) {a b:List Fl} {f g:Nat->Fl} (ha:s+n<=a.length) (hb:n<=b.length) (hbs:b.length<=1000) (hf:∀ i,i<n->a.getD (s+i) none=f i) (hg:∀ i,i<n->b.getD i none=g i) (o:Bool) (k:Fl->Bool->Bool) :
  Pu N s n b o a k=k (dV f g n) (o||dO f g n):=by
 (unfold Pu; rw[ae]; unfold Nh)
 have h0:((some 0,0,o):Fl × Int × Bool)=(λt:Nat=>(dV f g t,(t:Int),o||dO f g t)) 0:=by show _=(some 0,((0:Nat):Int),o||false); rw[xu]; rfl
 rw[h0];refine aC (λt:Nat=>(dV f g t,(t:Int),o||dO f g t)) n (by omega) ?_ ?_
 ·intro t ht K;unfold iL;dsimp only;rw[decide_eq_true (by omega:(t:Int)<(n:Int)),cond_true,aa (ai (by omega) (by omega)),Int.toNat_natCast,aa (decide_eq_true (by omega)),aa (ai (by omega) (by omega)),hf t ht,hg t ht,Ep,Am,aa (ab (by omega) (by omega)),uI];rfl
 ·intro K;unfold iL;dsimp only;rw[decide_eq_false (by omega:¬(n:Int)<(n:Int)),cond_false]
theorem LH {N n:Nat} (hN:1000<=N) (hn:n<=100) {a b:List Fl} {f g:Nat->Fl} (ha:a.length=n) (hb:n<=b.length) (hbs:b.length<=1000) (hf:∀ i,i<n->a.getD i none=f i) (hg:∀ i,i<n->b.getD i none=g i) (o:Bool) (k:Fl->Bool->Bool) :
  uo N a b o k=k (dV f g n) (o||dO f g n):=by
 (unfold uo; rw[ae]; unfold sZ)
 have h0:((some 0,0,o):Fl × Int × Bool)=(λt:Nat=>(dV f g t,(t:Int),o||dO f g t)) 0:=by show _=(some 0,((0:Nat):Int),o||false); rw[xu]; rfl
 rw[h0];refine aC (λt:Nat=>(dV f g t,(t:Int),o||dO f g t)) n (by omega) ?_ ?_
 ·intro t ht K;unfold lM;dsimp only;rw[decide_eq_true (by omega:(t:Int)<(a.length:Int)),cond_true,aa (ai (by omega) (by omega)),aa (ai (by omega) (by omega)),Int.toNat_natCast,hf t ht,hg t ht,Bv,Bv,aa (ab (by omega) (by omega)),uI];rfl
 ·intro K;unfold lM;dsimp only;rw[decide_eq_false (by omega:¬(n:Int)<(a.length:Int)),cond_false]
theorem IB {N n:Nat} (hN:1000<=N) (hn:n<=100) {a b:List Fl} {f g:Nat->Fl} (ha:a.length=n) (hb:n<=b.length) (hbs:b.length<=1000) (hf:∀ i,i<n->a.getD i none=f i) (hg:∀ i,i<n->b.getD i none=g i) (o:Bool) (k:Fl->Bool->Bool) :
  Pz N a o b k=k (dV f g n) (o||dO f g n):=by
 (unfold Pz; rw[ae]; unfold Nm)
 have h0:((some 0,0,o):Fl × Int × Bool)=(λt:Nat=>(dV f g t,(t:Int),o||dO f g t)) 0:=by show _=(some 0,((0:Nat):Int),o||false); rw[xu]; rfl
 rw[h0];refine aC (λt:Nat=>(dV f g t,(t:Int),o||dO f g t)) n (by omega) ?_ ?_
 ·intro t ht K;unfold iS;dsimp only;rw[decide_eq_true (by omega:(t:Int)<(a.length:Int)),cond_true,aa (ai (by omega) (by omega)),aa (ai (by omega) (by omega)),Int.toNat_natCast,aa (decide_eq_true (by omega)),hf t ht,hg t ht,Bv,Bv,aa (ab (by omega) (by omega)),uI];rfl
 ·intro K;unfold iS;dsimp only;rw[decide_eq_false (by omega:¬(n:Int)<(a.length:Int)),cond_false]
theorem IA {N n s:Nat} (hN:1000<=N) (hn:n<=100) {a b:List Fl} {f g:Nat->Fl} (ha:s+n<=a.length) (hb:n<=b.length) (hbs:b.length<=1000) (hf:∀ i,i<n->a.getD (s+i) none=f i) (hg:∀ i,i<n->b.getD i none=g i) (o:Bool) (k:Fl->Bool->Bool) :
  Py N s n b o a k=k (dV f g n) (o||dO f g n):=by
 (unfold Py; rw[ae]; unfold Nl)
 have h0:((some 0,0,o):Fl × Int × Bool)=(λt:Nat=>(dV f g t,(t:Int),o||dO f g t)) 0:=by show _=(some 0,((0:Nat):Int),o||false); rw[xu]; rfl
 rw[h0];refine aC (λt:Nat=>(dV f g t,(t:Int),o||dO f g t)) n (by omega) ?_ ?_
 ·intro t ht K;unfold iR;dsimp only;rw[decide_eq_true (by omega:(t:Int)<(n:Int)),cond_true,aa (ai (by omega) (by omega)),Int.toNat_natCast,aa (decide_eq_true (by omega)),aa (ai (by omega) (by omega)),hf t ht,hg t ht,Bv,Bv,aa (ab (by omega) (by omega)),uI];rfl
 ·intro K;unfold iR;dsimp only;rw[decide_eq_false (by omega:¬(n:Int)<(n:Int)),cond_false]
def Ml (l:List Fl) (n i:Nat):List Fl:=List.drop (i*n) (List.take ((i+1)*n) l)
theorem EN {n i:Nat} (hi:i<n):(i+1)*n<=n*n:=Nat.mul_le_mul_right _ hi
theorem nc {l:List Fl} {n i:Nat} (h:l.length=n*n) (hi:i<n):(Ml l n i).length=n:=by have:=EN hi;unfold Ml;rw[List.length_drop,List.length_take,h,Nat.min_eq_left this,Nat.add_mul]; omega
theorem oq {l:List Fl} {n i j:Nat} (h:l.length=n*n) (hi:i<n) (hj:j<n):(Ml l n i).getD j none=elt l n i j:=by
 unfold Ml elt;have h1:(i+1)*n=i*n+n:=by rw[Nat.add_mul]; omega
 rw[List.getD_eq_getElem?_getD,List.getElem?_drop,List.getElem?_take,if_pos (by omega),List.getD_eq_getElem?_getD]
theorem va {n i:Nat} (hn:n<=100) (hi:i<n) {L:Nat} (hL:L=n*n):ac .i64 ((i:Int)*(n:Int))=true/\ac .i64 ((i:Int)+1)=true/\ac .i64 (((i:Int)+1)*(n:Int))=true/\decide (0<=(i:Int)*(n:Int)/\(i:Int)*(n:Int)<=((i:Int)+1)*(n:Int)/\((i:Int)+1)*(n:Int)<=(L:Int))=true/\Int.toNat ((i:Int)*(n:Int))=i*n/\Int.toNat (((i:Int)+1)*(n:Int))=(i+1)*n:=by
 have h1:=EN hi;have h2:n*n<=100*100:=Nat.mul_le_mul hn hn;have e1:(i:Int)*(n:Int)=((i*n:Nat):Int):=by rw[Int.natCast_mul]
 have e2:((i:Int)+1)*(n:Int)=(((i+1)*n:Nat):Int):=by rw[Int.natCast_mul]; rfl
 have h3:(i+1)*n=i*n+n:=by rw[Nat.add_mul]; omega
 rw[e1,e2];exact⟨ab (by omega) (by omega),ab (by omega) (by omega),ab (by omega) (by omega),decide_eq_true ⟨by omega,by omega,by omega⟩,Int.toNat_natCast _,Int.toNat_natCast _⟩
theorem EA {N n i:Nat} (hn:n<=100) (hi:i<n) {l:List Fl} (h:l.length=n*n) (k:List Fl->Bool):iH N n n l i k=k (Ml l n i):=by
 obtain⟨a,b,c,d,e,f⟩:=va hn hi h
 (unfold iH; rw[ae]; unfold qH)
 rw[aa a,aa b,aa c,aa d,e,f];rfl
theorem BC {N n i:Nat} (hn:n<=100) (hi:i<n) {l:List Fl} (h:l.length=n*n) (k:List Fl->Bool):qv N n n l i k=k (Ml l n i):=by
 obtain⟨a,b,c,d,e,f⟩:=va hn hi h
 (unfold qv; rw[ae]; unfold xT)
 rw[aa a,aa b,aa c,aa d,e,f];rfl
theorem Kb (n i:Nat):(i+1)*n - i*n=n:=by rw[Nat.add_mul]; omega
theorem OV {N n i:Nat} (hn:n<=100) (hi:i<n) {l:List Fl} (h:l.length=n*n) (k:Nat->Nat->Bool):e_ N n n i l k=k (i*n) n:=by
 obtain⟨a,b,c,d,e,f⟩:=va hn hi h
 (unfold e_; rw[ae]; unfold ow)
 rw[aa a,aa b,aa c,aa d,e,f,Kb]
theorem LN {N n i:Nat} (hn:n<=100) (hi:i<n) {l:List Fl} (h:l.length=n*n) (k:Nat->Nat->Bool):uk N n n i l k=k (i*n) n:=by
 obtain⟨a,b,c,d,e,f⟩:=va hn hi h
 (unfold uk; rw[ae]; unfold sS)
 rw[aa a,aa b,aa c,aa d,e,f,Kb]
theorem QC {N n j:Nat} (hN:1000<=N) (hn:n<=100) (hj:j<n) {l:List Fl} (h:l.length=n*n) (k:List Fl->Bool):nX N n n l j k=k (vf n (λt=>elt l n t j)):=by
 (unfold nX; rw[ae]; unfold qG)
 have hn2:n*n<=100*100:=Nat.mul_le_mul hn hn;rw[Int.toNat_natCast,List.length_replicate,aa (bT (by omega) (by omega) (by omega) (by omega))];have h0:List.replicate n (some 0)=(vf n (λt=>elt l n t j)).take 0++List.replicate (n - 0) (some 0):=rfl;rw[h0];refine aC (λt:Nat=>((t:Int),(vf n (λt=>elt l n t j)).take t++List.replicate (n - t) (some 0))) n (by omega) ?_ ?_
 ·intro t ht K;unfold jY;dsimp only;obtain⟨h1,h2⟩:=jO (by omega:n<=1000) ht hj;have h3:=mm ht hj;have hl:=zM n (λt=>elt l n t j) (i:=t) (by omega);have hs:=Kx n (λt=>elt l n t j) ht;generalize List.take t (vf n λt=>elt l n t j)++List.replicate (n - t) (some 0)=L at *;rw[decide_eq_true (by omega:(t:Int)<(n:Int)),cond_true,jN,aa h1,aa h2,aa (ai (by omega) (by omega)),aa (ai (by omega) (by omega)),Int.toNat_natCast,aa (decide_eq_true (by omega)),aa (ab (by omega) (by omega)),Int.toNat_natCast];exact congrArg (λl=>K ((t:Int)+1,l)) hs
 ·intro K;unfold jY;dsimp only;rw[decide_eq_false (by omega:¬(n:Int)<(n:Int)),cond_false,Nat.sub_self,List.replicate_zero,List.append_nil,List.take_of_length_le (by rw[gl]; omega)]
theorem OT {N n j:Nat} (hN:1000<=N) (hn:n<=12) (hj:j<n) {l:List Fl} (h:l.length=n*n) (k:List Fl->Bool):rG N n n l j k=k (vf n (λt=>elt l n t j)):=by
 (unfold rG; rw[ae]; unfold qJ)
 have h0:([]:List Fl)=(vf n (λt=>elt l n t j)).take 0:=rfl;rw[h0];refine aC (λt:Nat=>((t:Int),(vf n (λt=>elt l n t j)).take t)) n (by omega) ?_ ?_
 ·intro t ht K;unfold j4;dsimp only;rw[decide_eq_true (by omega:(t:Int)<(n:Int)),cond_true,qk hn ht hj h,Ky n (λt=>elt l n t j) ht,aa (decide_eq_true (by rw[List.length_take,gl]; omega)),aa (ab (by omega) (by omega))];rfl
 ·intro K;unfold j4;dsimp only;rw[decide_eq_false (by omega:¬(n:Int)<(n:Int)),cond_false,List.take_of_length_le (by rw[gl]; omega)]
theorem An {N n i j:Nat} (hn:n<=12) (hi:i<n) (hj:j<n) (f:Nat->Nat->Fl) (x:Fl) (k:List Fl->Bool):kp N n n i j x (mf n f) k=k (mf n (λa b=>if a=i/\b=j then x else f a b)):=by obtain⟨h1,h2⟩:=jO (by omega:n<=1000) hi hj;have h3:=mm hi hj;unfold kp yP;rw[jN,aa h1,aa h2,eX,Int.toNat_natCast,aa (ai (by omega) (by omega)),aa (decide_eq_true h3),BI n f hi hj]
theorem yo {N n:Nat} (hn:n<=12) (k:List Fl->Bool):oV N n n k=k (mf n (λ_ _=>some 0)):=by have h2:n*n<=144:=tO hn;unfold oV Ay;rw[<- Int.natCast_mul,aa (ab (by omega) (by omega)),aa (bT (by omega) (by omega) (by omega) (by omega)),Int.toNat_natCast,Ao]
def prV (n:Nat) (f p:List Fl):Nat->Nat->Fl:=λi j=>dV (λt=>elt f n i t) (λt=>elt p n t j) n
def prO (n:Nat) (f p:List Fl):Nat->Nat->Bool:=λi j=>dO (λt=>elt f n i t) (λt=>elt p n t j) n
def orM (n:Nat) (p:Nat->Nat->Bool):Bool:=orB (λi=>orB (λj=>p i j) n) n
theorem mI (o:Bool) (p:Nat->Bool) (t:Nat):((o||orB p t)||p t)=(o||orB p (t+1)):=by show _=(o||(orB p t||p t)); rw[Bool.or_assoc]
theorem PY (n:Nat) (f:Nat->Nat->Fl):(mf n f).take (n*n)=mf n f:=List.take_of_length_le (by rw[eX]; omega)
theorem xy (n i:Nat):i*n+n=(i+1)*n:=by rw[Nat.add_mul]; omega
theorem GC {N n:Nat} (hN:1000<=N) (hn:n<=12) {f p:List Fl} (hf:f.length=n*n) (hp:p.length=n*n) (o:Bool) (k:Bool->List Fl->Bool) :
  jh N n n f n n p o k=k (o||orM n (prO n f p)) (mf n (prV n f p)):=by
 (unfold jh; rw[ae]; unfold jb)
 have hn2:n*n<=144:=tO hn;have h0:((0,o,[]):Int × Bool × List Fl)=(λi:Nat=>((i:Int),o||orB (λi=>orB (λj=>prO n f p i j) n) i,(mf n (prV n f p)).take (i*n))) 0:=by show _=(((0:Nat):Int),o||false,List.take (0*n) _); rw[xu,Nat.zero_mul]; rfl
 rw[h0];refine aC (λi:Nat=>((i:Int),o||orB (λi=>orB (λj=>prO n f p i j) n) i,(mf n (prV n f p)).take (i*n))) n (by omega) ?_ ?_
 ·intro i hi K;unfold dc;dsimp only;rw[decide_eq_true (by omega:(i:Int)<(n:Int)),cond_true];generalize ho1:(o||orB (λi=>orB (λj=>prO n f p i j) n) i)=o1;have h1:((0,o1,(mf n (prV n f p)).take (i*n)):Int × Bool × List Fl)=(λj:Nat=>((j:Int),o1||orB (λj=>prO n f p i j) j,(mf n (prV n f p)).take (i*n+j))) 0:=by show _=(((0:Nat):Int),o1||false,List.take (i*n+0) _); rw[xu]; rfl
  rw[h1];refine(aC (λj:Nat=>((j:Int),o1||orB (λj=>prO n f p i j) j,(mf n (prV n f p)).take (i*n+j))) n (N:=N) (by omega) (out:=K ((((i+1:Nat)):Int),o||orB (λi=>orB (λj=>prO n f p i j) n) (i+1),(mf n (prV n f p)).take ((i+1)*n))) ?_ ?_:_)
  ·intro j hj K';have hij:=mm hi hj;unfold dd;dsimp only;rw[decide_eq_true (by omega:(j:Int)<(n:Int)),cond_true,EA (by omega) hi hf,QC hN (by omega) hj hp,
    Lm (n:=n) (f:=λt=>elt f n i t) (g:=λt=>elt p n t j) hN (by omega) (nc hf hi) (by rw[gl]; omega) (by rw[gl]; omega) (λt ht=>oq hf hi ht) (λt ht=>xL n _ ht none)]
   have e:dV (λt=>elt f n i t) (λt=>elt p n t j) n=prV n f p i j:=rfl;have e2:dO (λt=>elt f n i t) (λt=>elt p n t j) n=prO n f p i j:=rfl;rw[e,e2,QM n (prV n f p) hi hj,aa (decide_eq_true (by rw[List.length_take,eX]; omega)),aa (ab (by omega) (by omega)),mI o1 (λj=>prO n f p i j) j];rfl
  ·intro K';unfold dd;dsimp only;rw[decide_eq_false (by omega:¬(n:Int)<(n:Int)),cond_false,aa (ab (by omega) (by omega)),<- ho1,xy,mI o (λi=>orB (λj=>prO n f p i j) n) i];rfl
 ·intro K;unfold dc;dsimp only;rw[decide_eq_false (by omega:¬(n:Int)<(n:Int)),cond_false,PY];rfl
def rS (g:Nat->Nat->Fl) (i j:Nat):Nat->Nat->Fl:=λa b=>if a<i\/(a=i/\b<j)then g a b else some 0
theorem J9 (n:Nat) (g:Nat->Nat->Fl):mf n (λ_ _=>some 0)=mf n (rS g 0 0):=da n (λa b _ _=>by unfold rS; rw[if_neg (by omega)])
theorem Vl (n:Nat) (g:Nat->Nat->Fl) (i:Nat):mf n (rS g i n)=mf n (rS g (i+1) 0):=da n (λa b _ hb=>by
 unfold rS;by_cases h2:a<i\/(a=i/\b<n)
 ·rw[if_pos h2,if_pos (by omega)]
 ·rw[if_neg h2,if_neg (by omega)])
theorem Pc (n:Nat) (g:Nat->Nat->Fl):mf n (rS g n 0)=mf n g:=da n (λa b ha _=>by unfold rS; rw[if_pos (.inl ha)])
theorem J8 (n:Nat) (g:Nat->Nat->Fl) (i j:Nat):mf n (λa b=>if a=i/\b=j then g i j else rS g i j a b)=mf n (rS g i (j+1)):=da n (λa b _ _=>by
 unfold rS;by_cases h:a=i/\b=j
 ·rw[if_pos h,if_pos (by omega),h.1,h.2]
 ·rw[if_neg h];by_cases h2:a<i\/(a=i/\b<j)
  ·rw[if_pos h2,if_pos (by omega)]
  ·rw[if_neg h2,if_neg (by omega)])
def mir (v:Nat->Nat->Fl):Nat->Nat->Fl:=λa b=>if b<=a then v a b else v b a
def mS (v:Nat->Nat->Fl) (i j:Nat):Nat->Nat->Fl:=λa b=>if max a b<i\/(max a b=i/\min a b<j)then mir v a b else some 0
theorem JV (n:Nat) (v:Nat->Nat->Fl):mf n (λ_ _=>some 0)=mf n (mS v 0 0):=da n (λa b _ _=>by unfold mS; rw[if_neg (by omega)])
theorem O1 (n:Nat) (v:Nat->Nat->Fl) (i:Nat):mf n (mS v i (i+1))=mf n (mS v (i+1) 0):=da n (λa b _ hb=>by
 unfold mS;by_cases h2:max a b<i\/(max a b=i/\min a b<i+1)
 ·rw[if_pos h2,if_pos (by omega)]
 ·rw[if_neg h2,if_neg (by omega)])
theorem O0 (n:Nat) (v:Nat->Nat->Fl):mf n (mS v n 0)=mf n (mir v):=da n (λa b ha hb=>by unfold mS; rw[if_pos (by omega)])
theorem JU (n:Nat) (v:Nat->Nat->Fl) {i j:Nat} (hj:j<i+1):mf n (λa b=>if a=j/\b=i then v i j else if a=i/\b=j then v i j else mS v i j a b)=mf n (mS v i (j+1)):=da n (λa b _ _=>by
 unfold mS mir;by_cases h:a=j/\b=i
 ·rw[if_pos h,h.1,h.2,if_pos (by omega:max j i<i\/(max j i=i/\min j i<j+1))];by_cases hij:i<=j
  ·rw[if_pos hij,show j=i by omega]
  ·rw[if_neg hij]
 ·rw[if_neg h];by_cases h1:a=i/\b=j
  ·rw[if_pos h1,h1.1,h1.2,if_pos (by omega:max i j<i\/(max i j=i/\min i j<j+1)),if_pos (by omega:j<=i)]
  ·rw[if_neg h1];by_cases h2:max a b<i\/(max a b=i/\min a b<j)
   ·rw[if_pos h2,if_pos (by omega:max a b<i\/(max a b=i/\min a b<j+1))]
   ·rw[if_neg h2,if_neg (by omega:¬(max a b<i\/(max a b=i/\min a b<j+1)))])
theorem IC {N n:Nat} (hN:1000<=N) (hn:n<=12) {f p:List Fl} (hf:f.length=n*n) (hp:p.length=n*n) (o:Bool) (k:Bool->List Fl->Bool) :
  Pq N n n f n n p o k=k (o||orM n (prO n f p)) (mf n (prV n f p)):=by
 (unfold Pq; rw[ae]; unfold M_)
 rw[yo hn,J9 n (prV n f p)];have h0:((0,o,mf n (rS (prV n f p) 0 0)):Int × Bool × List Fl)=(λi:Nat=>((i:Int),o||orB (λi=>orB (λj=>prO n f p i j) n) i,mf n (rS (prV n f p) i 0))) 0:=by show _=(((0:Nat):Int),o||false,_); rw[xu]; rfl
 rw[h0];refine aC (λi:Nat=>((i:Int),o||orB (λi=>orB (λj=>prO n f p i j) n) i,mf n (rS (prV n f p) i 0))) n (by omega) ?_ ?_
 ·intro i hi K;unfold gN;dsimp only;rw[decide_eq_true (by omega:(i:Int)<(n:Int)),cond_true];generalize ho1:(o||orB (λi=>orB (λj=>prO n f p i j) n) i)=o1;have h1:((0,o1,mf n (rS (prV n f p) i 0)):Int × Bool × List Fl)=(λj:Nat=>((j:Int),o1||orB (λj=>prO n f p i j) j,mf n (rS (prV n f p) i j))) 0:=by show _=(((0:Nat):Int),o1||false,_); rw[xu]; rfl
  rw[h1];refine(aC (λj:Nat=>((j:Int),o1||orB (λj=>prO n f p i j) j,mf n (rS (prV n f p) i j))) n (N:=N) (by omega) (out:=K ((((i+1:Nat)):Int),o||orB (λi=>orB (λj=>prO n f p i j) n) (i+1),mf n (rS (prV n f p) (i+1) 0))) ?_ ?_:_)
  ·intro j hj K';unfold gO;dsimp only;rw[decide_eq_true (by omega:(j:Int)<(n:Int)),cond_true,BC (by omega) hi hf,OT hN hn hj hp,
    IB (n:=n) (f:=λt=>elt f n i t) (g:=λt=>elt p n t j) hN (by omega) (nc hf hi) (by rw[gl]; omega) (by rw[gl]; omega) (λt ht=>oq hf hi ht) (λt ht=>xL n _ ht none),
    An hn hi hj,aa (ab (by omega) (by omega))]
   have e:dV (λt=>elt f n i t) (λt=>elt p n t j) n=prV n f p i j:=rfl;have e2:dO (λt=>elt f n i t) (λt=>elt p n t j) n=prO n f p i j:=rfl;rw[e,e2,mI o1 (λj=>prO n f p i j) j,J8];rfl
  ·intro K';unfold gO;dsimp only;rw[decide_eq_false (by omega:¬(n:Int)<(n:Int)),cond_false,aa (ab (by omega) (by omega)),<- ho1,Vl,mI o (λi=>orB (λj=>prO n f p i j) n) i];rfl
 ·intro K;unfold gN;dsimp only;rw[decide_eq_false (by omega:¬(n:Int)<(n:Int)),cond_false,Pc];rfl
def nwV (n:Nat) (M:Nat->Nat->Fl) (f q:List Fl):Nat->Nat->Fl:=λi j=>cV (dV (λt=>M i t) (λt=>elt f n j t) n) (elt q n i j)
def nwO (n:Nat) (M:Nat->Nat->Fl) (f q:List Fl):Nat->Nat->Bool:=λi j=>dO (λt=>M i t) (λt=>elt f n j t) n || !bA (nwV n M f q i j)
def orL (n:Nat) (p:Nat->Nat->Bool):Bool:=orB (λi=>orB (λj=>p i j) (i+1)) n
theorem Et {N n:Nat} (hN:1000<=N) (hn:n<=12) {f q:List Fl} (M:Nat->Nat->Fl) (hf:f.length=n*n) (hq:q.length=n*n) (o:Bool) (k:Bool->List Fl->Bool) :
  dM N n n n n n f n n q n o (mf n M) k=k (o||orL n (nwO n M f q)) (mf n (mir (nwV n M f q))):=by
 have hn2:n*n<=144:=tO hn
 (unfold dM; rw[ae]; unfold dL)
 rw[<- Int.natCast_mul,aa (ab (by omega) (by omega)),aa (bT (by omega) (by omega) (by omega) (by omega)),Int.toNat_natCast,Ao];generalize hv:nwV n M f q=v;generalize hw:nwO n M f q=w;rw[JV n v];have h0:((0,o,mf n (mS v 0 0)):Int × Bool × List Fl)=(λi:Nat=>((i:Int),o||orB (λi=>orB (λj=>w i j) (i+1)) i,mf n (mS v i 0))) 0:=by show _=(((0:Nat):Int),o||false,_); rw[xu]; rfl
 rw[h0];refine aC (λi:Nat=>((i:Int),o||orB (λi=>orB (λj=>w i j) (i+1)) i,mf n (mS v i 0))) n (by omega) ?_ ?_
 ·intro i hi K;unfold bU;dsimp only;rw[decide_eq_true (by omega:(i:Int)<(n:Int)),cond_true,aa (ab (by omega) (by omega))];generalize ho1:(o||orB (λi=>orB (λj=>w i j) (i+1)) i)=o1;have h1:((0,o1,mf n (mS v i 0)):Int × Bool × List Fl)=(λj:Nat=>((j:Int),o1||orB (λj=>w i j) j,mf n (mS v i j))) 0:=by show _=(((0:Nat):Int),o1||false,_); rw[xu]; rfl
  rw[h1];refine(aC (λj:Nat=>((j:Int),o1||orB (λj=>w i j) j,mf n (mS v i j))) (i+1) (N:=N) (by omega) (out:=K ((((i+1:Nat)):Int),o||orB (λi=>orB (λj=>w i j) (i+1)) (i+1),mf n (mS v (i+1) 0))) ?_ ?_:_)
  ·intro j hj K';have hj2:j<n:=by omega
   obtain⟨g1,g2⟩:=jO (by omega:n<=1000) hi hj2;obtain⟨g3,g4⟩:=jO (by omega:n<=1000) hj2 hi;have g5:=mm hi hj2;have g6:=mm hj2 hi;have g7:i*n+n<=n*n:=by rw[xy]; exact EN hi
   (unfold bV; unfold dm; rw[ae]; unfold bM)
   dsimp only;rw[decide_eq_true (by omega:(j:Int)<(i:Int)+1),cond_true,OV (by omega) hi (eX n M),EA (by omega) hj2 hf,
    Ll (n:=n) (f:=λt=>M i t) (g:=λt=>elt f n j t) hN (by omega) (by rw[eX]; omega) (by rw[nc hf hj2]; omega) (by rw[nc hf hj2]; omega) (λt ht=>xn n M hi ht none) (λt ht=>oq hf hj2 ht),
    aa g1,jN,aa g2,hq,aa (ai (by omega) (by omega)),Int.toNat_natCast,Am,aa g3,jN,aa g4,eX,aa (ai (by omega) (by omega)),aa (decide_eq_true g5)]
   have e:cV (dV (λt=>M i t) (λt=>elt f n j t) n) (q.getD (i*n+j) none)=v i j:=by rw[<- hv]; rfl
   rw[e,Int.toNat_natCast,BI n _ hi hj2,eX,aa (ai (by omega) (by omega)),aa (decide_eq_true g6),BI n _ hj2 hi,aa (ab (by omega) (by omega))];have e2:((o1||orB (λj=>w i j) j)||dO (λt=>M i t) (λt=>elt f n j t) n || !bA (v i j))=(o1||orB (λj=>w i j) (j+1)):=by rw[<- mI o1 (λj=>w i j) j,<- hw,<- hv,Bool.or_assoc]; rfl
   rw[e2];rw[JU n v hj,aa g2,aa (ab (by omega) (by omega))];rfl
  ·intro K';unfold bV;dsimp only;rw[decide_eq_false (by omega:¬((i+1:Nat):Int)<(i:Int)+1),cond_false,aa (ab (by omega) (by omega)),<- ho1,O1,mI o (λi=>orB (λj=>w i j) (i+1)) i];rfl
 ·intro K;unfold bU;dsimp only;rw[decide_eq_false (by omega:¬(n:Int)<(n:Int)),cond_false,O0];rfl
def sqc (a b:Int) (l:List Fl) (n:Int):Int:=if chk a b l ≠ 0 then chk a b l else if a ≠ b then 3 else if a ≠ n then 3 else 0
theorem xJ {a b:Int} {l:List Fl} {n:Nat} (h:sqc a b l n=0):a=n/\b=n/\l.length=n*n/\bg l=true:=by
 unfold sqc at h;split at h
 ·exact absurd h (by assumption)
 ·rename_i h0;have h0:chk a b l=0:=by simpa using h0
  have q:=pZ.1 h0;split at h
  ·cases h
  ·rename_i h1;split at h
   ·cases h
   ·rename_i h2;have h1:a=b:=by simpa using h1
    have h2:a=n:=by simpa using h2
    subst h1;subst h2;exact⟨rfl,rfl,by exact_mod_cast q.2.1,q.2.2⟩
theorem bG (a b:Int) (h:¬ a=b):(a != b)=true:=by simp[h]
theorem BE {N:Nat} (hN:1000<=N) (a b:Int) (l:List Fl) (n:Int) (k:Int->Bool):jW N a b l n k=k (sqc a b l n):=by
 (unfold jW; rw[ae]; unfold nn sqc)
 rw[q_ hN];by_cases h0:chk a b l=0
 ·rw[h0,show((0:Int) != 0)=false from rfl,cond_false,if_neg (λh=>h rfl)];by_cases h1:a=b
  ·subst h1;rw[if_neg (λh=>h rfl),show((a != a)==false)=true by simp,cond_true];by_cases h2:a=n
   ·subst h2;rw[if_neg (λh=>h rfl),show(a != a)=false by simp,cond_false]
   ·rw[if_pos h2,bG _ _ h2,cond_true]
  ·rw[if_pos h1,bG _ _ h1]; rfl
 ·rw[if_pos h0,bG _ _ h0,cond_true]
theorem zp {N:Nat} (hN:1000<=N) (a b:Int) (l:List Fl) (n:Int) (k:Int->Bool):Kn N a b l n k=k (sqc a b l n):=by
 (unfold Kn; rw[ae]; unfold Nt rI vV sqc)
 rw[Bp hN];dsimp only;by_cases h0:chk a b l=0
 ·rw[h0,show((0:Int) != 0)=false from rfl,cond_false,if_neg (λh=>h rfl)];by_cases h1:a=b
  ·subst h1;rw[if_neg (λh=>h rfl),show((a != a)==false)=true by simp,cond_true];by_cases h2:a=n
   ·subst h2;rw[if_neg (λh=>h rfl),show(a != a)=false by simp,cond_false]
   ·rw[if_pos h2,bG _ _ h2,cond_true]
  ·rw[if_pos h1,bG _ _ h1]; rfl
 ·rw[if_pos h0,bG _ _ h0,cond_true]
def low (v:Nat->Nat->Fl):Nat->Nat->Fl:=λa b=>if b<=a then v a b else some 0
theorem GE {N n:Nat} (hN:1000<=N) (hn:n<=12) (v:Nat->Nat->Fl) (k:List Fl->Bool):rH N n n (mf n (low v)) k=k (mf n (mir v)):=by
 (unfold rH; rw[ae]; unfold qK)
 rw[yo hn,JV n v];refine aC (λi:Nat=>((i:Int),mf n (mS v i 0))) n (by omega) ?_ ?_
 ·intro i hi K;unfold j5;dsimp only;rw[decide_eq_true (by omega:(i:Int)<(n:Int)),cond_true];refine(aC (λj:Nat=>((j:Int),mf n (mS v i j))) (i+1) (N:=N) (by omega) (out:=K ((((i+1:Nat)):Int),mf n (mS v (i+1) 0))) ?_ ?_:_)
  ·intro j hj K';have hj2:j<n:=by omega
   unfold j6;dsimp only;have hL:(mf n (low v)).length=n*n:=eX n _;have e:elt (mf n (low v)) n i j=v i j:=by rw[BH n _ hi hj2]; unfold low; rw[if_pos (by omega)]
   rw[decide_eq_true (by omega:(j:Int)<=(i:Int)),cond_true,qk hn hi hj2 hL,e,An hn hi hj2,qk hn hi hj2 hL,e,An hn hj2 hi,aa (ab (by omega) (by omega)),JU n v hj];rfl
  ·intro K';unfold j6;dsimp only;rw[decide_eq_false (by omega:¬((i+1:Nat):Int)<=(i:Int)),cond_false,aa (ab (by omega) (by omega)),O1];rfl
 ·intro K;unfold j5;dsimp only;rw[decide_eq_false (by omega:¬(n:Int)<(n:Int)),cond_false,O0]
theorem Vh {n:Nat} {f:Nat->Nat->Fl} {P:Fl->Prop} (h:∀ a b,a<n->b<n->P (f a b)):∀ t,t<n*n->P ((mf n f).getD t none):=by
 intro t ht;have hn:0<n:=by
  rcases Nat.eq_zero_or_pos n with h0 | h0
  ·rw[h0]at ht; omega
  ·exact h0
 have:=xn n f (Nat.div_lt_of_lt_mul ht) (Nat.mod_lt t hn) none;rw[show t / n*n+t%n=t from by rw[Nat.mul_comm]; exact Nat.div_add_mod t n]at this;rw[this];exact h _ _ (Nat.div_lt_of_lt_mul ht) (Nat.mod_lt t hn)
theorem IK {n:Nat} {f:Nat->Nat->Fl} (h:∀ a b,a<n->b<n->bA (f a b)=true):bg (mf n f)=true:=by unfold bg;refine kH.2 (λt ht=>Vh (P:=λx=>bA x=true) h t ?_);rw[eX]at ht; exact ht
theorem Vg {n:Nat} {f:Nat->Nat->Fl} (h:∀ a b,FW (f a b)):AllW (mf n f):=by intro x hx;unfold mf at hx;obtain⟨t,-,rfl⟩:=List.mem_map.1 hx;exact h _ _
theorem J0 {n:Nat} (v:Nat->Nat->Fl):NF n (mf n (mir v)):=by
 intro a b ha hb;show ru (ofE (elt (mf n (mir v)) n a b))=ru (ofE (elt (mf n (mir v)) n b a));rw[BH n _ ha hb,BH n _ hb ha];unfold mir;rcases Nat.lt_trichotomy a b with h | h | h
 ·rw[if_neg (by omega),if_pos (by omega)]
 ·rw[h]
 ·rw[if_pos (by omega),if_neg (by omega)]
theorem O4 {v:Nat->Nat->Fl} (h:∀ a b,FW (v a b)) (a b:Nat):FW (mir v a b):=by
 unfold mir; split
 ·exact h _ _
 ·exact h _ _
theorem ED {n:Nat} {v:Nat->Nat->Fl} (h:∀ a b,a<n->b<=a->bA (v a b)=true):∀ a b,a<n->b<n->bA (mir v a b)=true:=by
 intro a b ha hb;unfold mir; split
 ·exact h _ _ ha (by assumption)
 ·exact h _ _ hb (by omega)
theorem IU {n:Nat} {M:Nat->Nat->Fl} {f q:List Fl} (h:orL n (nwO n M f q)=false):∀ a b,a<n->b<=a->bA (nwV n M f q a b)=true:=by intro a b ha hb;have h1:=uZ h a ha;have h2:=uZ h1 b (by omega);unfold nwO at h2;rw[Bool.or_eq_false_iff]at h2;simpa using h2.2
theorem Vj {n:Nat} {M:Nat->Nat->Fl} {f q:List Fl} (a b:Nat):FW (nwV n M f q a b):=Jj _ _
def prX (n:Nat) (f s:List Fl):Nat->Fl:=λi=>dV (λt=>elt f n i t) (λt=>s.getD t none) n
def CH (n:Nat) (f s:List Fl):Nat->Bool:=λi=>dO (λt=>elt f n i t) (λt=>s.getD t none) n
def prF (n:Nat) (s p f q:List Fl):Bool:=((false||orB (CH n f s) n)||orM n (prO n f p))||orL n (nwO n (prV n f p) f q)
def prM (n:Nat) (p f q:List Fl):List Fl:=mf n (mir (nwV n (prV n f p) f q))
def prK (x:List Fl) (r c:Int) (p:List Fl) (fr fc:Int) (f:List Fl) (qr qc:Int) (q:List Fl) (k0:Int->Int->Int->Bool) (k1:Int->Int->Int->List Fl->List Fl->Bool):Bool:=
 if vv x r c p ≠ 0 then k0 0 0 (vv x r c p)else
 if sqc fr fc f x.length ≠ 0 then k0 0 0 (sqc fr fc f x.length)else
 if sqc qr qc q x.length ≠ 0 then k0 0 0 (sqc qr qc q x.length)else
 if qz x.length q=false then k0 0 0 150 else
 cond (prF x.length x p f q) (k0 0 0 5) (cond (!CG x.length (prM x.length p f q)) (k0 0 0 151) (k1 x.length x.length 0 (vf x.length (prX x.length f x)) (prM x.length p f q)))
theorem Gj {N:Nat} (hF:Fuel N) (x:List Fl) (r c:Int) (p:List Fl) (fr fc:Int) (f:List Fl) (qr qc:Int) (q:List Fl) (hwp:AllW p) (k0:Int->Int->Int->Bool) (k1:Int->Int->Int->List Fl->List Fl->Bool) :
  dq N x r c p fr fc f qr qc q k0 k1=prK x r c p fr fc f qr qc q k0 k1:=by
 have hN:=hF.lt
 (unfold dq; rw[ae]; unfold mb prK)
 rw[Br hF _ _ _ _ hwp];by_cases h0:vv x r c p=0
 ·obtain⟨n,hn,rfl,rfl,hx,hl,fx,fl,-,-⟩:=yi h0;rw[if_neg (λh=>h h0),h0,show((0:Int) != 0)=false from rfl,cond_false,BE (by omega),hx];by_cases h1:sqc fr fc f n=0
  ·obtain⟨rfl,rfl,hfl,ff⟩:=xJ h1;rw[if_neg (λh=>h h1),h1,show((0:Int) != 0)=false from rfl,cond_false,BE (by omega)];by_cases h2:sqc qr qc q n=0
   ·obtain⟨rfl,rfl,hql,fq⟩:=xJ h2;rw[if_neg (λh=>h h2),h2,show((0:Int) != 0)=false from rfl,cond_false,JN (by omega) hn hql fq];cases h3:qz n q
    ·rw[if_pos rfl]; rfl
    ·rw[if_neg (by decide),show(!true)=false from rfl,cond_false,Int.toNat_natCast,List.length_replicate,aa (bT (by omega) (by omega) (by omega) (by omega))];have z0:((0,List.replicate n (some 0),false):Int × List Fl × Bool)=(λt:Nat=>((t:Int),(vf n (prX n f x)).take t++List.replicate (n - t) (some 0),false||orB (CH n f x) t)) 0:=by show _=(((0:Nat):Int),_,false||false); rfl
     rw[z0];refine aC (λt:Nat=>((t:Int),(vf n (prX n f x)).take t++List.replicate (n - t) (some 0),false||orB (CH n f x) t)) n (by omega) ?_ ?_
     ·intro t ht K;unfold eI;dsimp only;have hfl2:=zM n (prX n f x) (i:=t) (by omega);have hs:=Kx n (prX n f x) ht;rw[decide_eq_true (by omega:(t:Int)<(n:Int)),cond_true,EA (by omega) ht hfl,
       Oy (n:=n) (f:=λi=>elt f n t i) (g:=λi=>x.getD i none) (by omega) (by omega) (nc hfl ht) (by omega) (by omega) (λi hi=>oq hfl ht hi) (λi hi=>rfl)]
      rw[hfl2,aa (ai (by omega) (by omega)),Int.toNat_natCast,aa (decide_eq_true ht),aa (ab (by omega) (by omega))];have e:dV (λi=>elt f n t i) (λi=>x.getD i none) n=prX n f x t:=rfl;have e2:dO (λi=>elt f n t i) (λi=>x.getD i none) n=CH n f x t:=rfl;rw[e,e2,hs,mI false (CH n f x) t];rfl
     ·intro K;unfold eI;dsimp only;rw[decide_eq_false (by omega:¬(n:Int)<(n:Int)),cond_false,Nat.sub_self,List.replicate_zero,List.append_nil,List.take_of_length_le (by rw[gl]; omega),GC (by omega) hn hfl hl,Et (by omega) hn (prV n f p) hfl hql]
      (unfold lh; rw[ae]; unfold fD; unfold xC; rw[ae]; unfold qF)
      show cond (prF n x p f q) _ _=cond (prF n x p f q) _ _;cases h4:prF n x p f q
      ·rw[cond_false,cond_false];have h5:orL n (nwO n (prV n f p) f q)=false:=by unfold prF at h4;rw[Bool.or_eq_false_iff]at h4;exact h4.2
       have hfin:=IK (ED (IU h5));unfold prM;show cO N n n (mf n (mir (nwV n (prV n f p) f q))) _=_;rw[xj hF hn (eX n _) hfin (Vg (O4 Vj)) (J0 _)]
      ·rfl
   ·rw[if_pos h2,bG _ _ h2,cond_true]
  ·rw[if_pos h1,bG _ _ h1,cond_true]
 ·rw[if_pos h0,bG _ _ h0,cond_true]
theorem LJ {N n:Nat} (hF:Fuel N) (hn:n<=12) (x:List Fl) {v:Nat->Nat->Fl} (b:Bool) (hb:b=false -> ∀ i j,i<n->j<=i->bA (v i j)=true) (hw:∀ i j,FW (v i j)) (k0:Int->Int->Int->Bool) (k1:Int->List Fl->Bool) :
  Pl N n n x (mf n (low v)) b k0 k1=cond b (k0 0 0 5) (cond (!CG n (mf n (mir v))) (k0 0 0 151) (k1 0 (mf n (mir v)))):=by
 have hN:=hF.lt
 (unfold Pl; rw[ae]; unfold MW)
 cases b
 ·rw[cond_false,cond_false,GE (by omega) hn,xh hF hn (eX n _) (IK (ED (hb rfl))) (Vg (O4 hw)) (J0 _)]
 ·rfl
theorem Eu {N:Nat} (hF:Fuel N) (x:List Fl) (r c:Int) (p:List Fl) (fr fc:Int) (f:List Fl) (qr qc:Int) (q:List Fl) (hwp:AllW p) (k0:Int->Int->Int->Bool) (k1:Int->Int->Int->List Fl->List Fl->Bool) :
  DJ N x r c p fr fc f qr qc q k0 k1=prK x r c p fr fc f qr qc q k0 k1:=by
 have hN:=hF.lt
 (unfold DJ; rw[ae]; unfold MX prK)
 rw[zj hF _ _ _ _ hwp];by_cases h0:vv x r c p=0
 ·obtain⟨n,hn,rfl,rfl,hx,hl,fx,fl,-,-⟩:=yi h0;rw[if_neg (λh=>h h0),h0,show((0:Int) != 0)=false from rfl,cond_false,zp (by omega),hx];by_cases h1:sqc fr fc f n=0
  ·obtain⟨rfl,rfl,hfl,ff⟩:=xJ h1;rw[if_neg (λh=>h h1),h1,show((0:Int) != 0)=false from rfl,cond_false,zp (by omega)];by_cases h2:sqc qr qc q n=0
   ·obtain⟨rfl,rfl,hql,fq⟩:=xJ h2;rw[if_neg (λh=>h h2),h2,show((0:Int) != 0)=false from rfl,cond_false,Gp (by omega) hn hql fq];cases h3:qz n q
    ·rfl
    ·rw[if_pos rfl,if_neg (by decide),show((0:Int) != 0)=false from rfl,cond_false];have z0:((0,false,[]):Int × Bool × List Fl)=(λt:Nat=>((t:Int),false||orB (CH n f x) t,(vf n (prX n f x)).take t)) 0:=by show _=(((0:Nat):Int),false||false,_); rfl
     rw[z0];refine aC (λt:Nat=>((t:Int),false||orB (CH n f x) t,(vf n (prX n f x)).take t)) n (by omega) ?_ ?_
     ·intro t ht K;unfold iO;dsimp only;rw[decide_eq_true (by omega:(t:Int)<(n:Int)),cond_true,BC (by omega) ht hfl,
       LH (n:=n) (f:=λi=>elt f n t i) (g:=λi=>x.getD i none) (by omega) (by omega) (nc hfl ht) (by omega) (by omega) (λi hi=>oq hfl ht hi) (λi hi=>rfl)]
      have e:dV (λi=>elt f n t i) (λi=>x.getD i none) n=prX n f x t:=rfl;have e2:dO (λi=>elt f n t i) (λi=>x.getD i none) n=CH n f x t:=rfl;rw[e,e2,Ky n (prX n f x) ht,aa (decide_eq_true (by rw[List.length_take,gl]; omega)),aa (ab (by omega) (by omega)),mI false (CH n f x) t];rfl
     ·intro K;unfold iO;dsimp only;rw[decide_eq_false (by omega:¬(n:Int)<(n:Int)),cond_false,List.take_of_length_le (by rw[gl]; omega),IC (by omega) hn hfl hl,gl,yo hn];generalize hV:nwV n (prV n f p) f q=v;generalize hW:nwO n (prV n f p) f q=w;generalize hO:((false||orB (CH n f x) n)||orM n (prO n f p))=o;rw[J9 n (low v)];have z1:((0,o,mf n (rS (low v) 0 0)):Int × Bool × List Fl)=(λi:Nat=>((i:Int),o||orB (λi=>orB (λj=>w i j) (i+1)) i,mf n (rS (low v) i 0))) 0:=by show _=(((0:Nat):Int),o||false,_); rw[xu]; rfl
      rw[z1];refine aC (λi:Nat=>((i:Int),o||orB (λi=>orB (λj=>w i j) (i+1)) i,mf n (rS (low v) i 0))) n (by omega) ?_ ?_
      ·intro i hi K;unfold iP;dsimp only;rw[decide_eq_true (by omega:(i:Int)<(n:Int)),cond_true];generalize ho1:(o||orB (λi=>orB (λj=>w i j) (i+1)) i)=o1;have z3:((0,o1,mf n (rS (low v) i 0)):Int × Bool × List Fl)=(λj:Nat=>((j:Int),o1||orB (λj=>w i j) j,mf n (rS (low v) i j))) 0:=by show _=(((0:Nat):Int),o1||false,_); rw[xu]; rfl
       rw[z3];refine(aC (λj:Nat=>((j:Int),o1||orB (λj=>w i j) j,mf n (rS (low v) i j))) (i+1) (N:=N) (by omega) (out:=K ((((i+1:Nat)):Int),o||orB (λi=>orB (λj=>w i j) (i+1)) (i+1),mf n (rS (low v) (i+1) 0))) ?_ ?_:_)
       ·intro j hj K';have hj2:j<n:=by omega
        have g7:i*n+n<=n*n:=by rw[xy]; exact EN hi
        unfold iQ;dsimp only;rw[decide_eq_true (by omega:(j:Int)<=(i:Int)),cond_true,LN (by omega) hi (eX n (prV n f p)),BC (by omega) hj2 hfl,
         IA (n:=n) (f:=λt=>prV n f p i t) (g:=λt=>elt f n j t) (by omega) (by omega) (by rw[eX]; omega) (by rw[nc hfl hj2]; omega) (by rw[nc hfl hj2]; omega) (λt ht=>xn n (prV n f p) hi ht none) (λt ht=>oq hfl hj2 ht),
         qk hn hi hj2 hql,Bv]
        have e:cV (dV (λt=>prV n f p i t) (λt=>elt f n j t) n) (elt q n i j)=v i j:=by rw[<- hV]; rfl
        rw[e,An hn hi hj2,aa (ab (by omega) (by omega))];have e2:((o1||orB (λj=>w i j) j)||dO (λt=>prV n f p i t) (λt=>elt f n j t) n || !bA (v i j))=(o1||orB (λj=>w i j) (j+1)):=by rw[<- mI o1 (λj=>w i j) j,<- hW,<- hV,Bool.or_assoc]; rfl
        rw[e2];have e3:low v i j=v i j:=by unfold low; rw[if_pos (by omega)]
        rw[<- e3,J8];rfl
       ·intro K';unfold iQ;dsimp only;have e3:mf n (rS (low v) i (i+1))=mf n (rS (low v) (i+1) 0):=da n (λa b _ hb=>by
         unfold rS;by_cases h2:a<i\/(a=i/\b<i+1)
         ·rw[if_pos h2,if_pos (by omega)]
         ·rw[if_neg h2];by_cases h3:a<i+1\/(a=i+1/\b<0)
          ·rw[if_pos h3]; unfold low; rw[if_neg (by omega)]
          ·rw[if_neg h3])
        rw[decide_eq_false (by omega:¬((i+1:Nat):Int)<=(i:Int)),cond_false,aa (ab (by omega) (by omega)),<- ho1,e3,mI o (λi=>orB (λj=>w i j) (i+1)) i];rfl
      ·intro K;unfold iP;dsimp only;rw[decide_eq_false (by omega:¬(n:Int)<(n:Int)),cond_false,Pc];have hfin:(o||orB (λi=>orB (λj=>w i j) (i+1)) n)=false -> ∀ i j,i<n->j<=i->bA (v i j)=true:=by intro h;rw[Bool.or_eq_false_iff]at h;rw[<- hV];exact IU (by rw[hW]; exact h.2)
       rw[LJ hF hn _ _ hfin (by rw[<- hV]; exact Vj)];have eF:prF n x p f q=(o||orB (λi=>orB (λj=>w i j) (i+1)) n):=by unfold prF; rw[hW,hO]; rfl
       have eM:prM n p f q=mf n (mir v):=by unfold prM; rw[hV]
       rw[eF,eM]
   ·rw[if_pos h2,bG _ _ h2,cond_true]
  ·rw[if_pos h1,bG _ _ h1,cond_true]
 ·rw[if_pos h0,bG _ _ h0,cond_true]
def spl (l:List Fl):Nat->List Fl
 | 0=>l
 | t+1=>(spl l t).set t (some 4635118810238550016)
theorem E3 (l:List Fl):∀ t,(spl l t).length=l.length
 | 0=>rfl
 | t+1=>by unfold spl; rw[List.length_set,E3 l t]
theorem Gr {N:Nat} {a:List Fl} (hs:cM N a.length) (h:∀ i,i<a.length->Nn (a.getD i none)) (k:Bool->Bool):PA N a a k=k true:=by
 have h1:=hs.1;have h2:=hs.2
 (unfold PA; rw[ae]; unfold Su)
 rw[show(((a.length:Nat):Int) != ((a.length:Nat):Int))=false by simp,cond_false];refine aC (λt:Nat=>(t:Int)) a.length (by omega) ?_ ?_
 ·intro t ht K;unfold E6;dsimp only;rw[decide_eq_true (by omega:(t:Int)<(a.length:Int)),cond_true,aa (ai (by omega) (by omega)),aa (ai (by omega) (by omega)),Int.toNat_natCast,Lz (h t ht),show(!true)=false from rfl,cond_false,aa (ab (by omega) (by omega))];rfl
 ·intro K;unfold E6;dsimp only;rw[decide_eq_false (by omega:¬(a.length:Int)<(a.length:Int)),cond_false]
theorem Do {N:Nat} {a b:List Fl} (ha:cM N a.length) (hb:cM N b.length) (h:∀ i,i<a.length->Nn (a.getD i none)) (g:∀ i,i<b.length->Nn (b.getD i none)) (i j:Int) (k:Bool->Bool):I7 N a i j b a i j b k=k true:=by
 (unfold I7; rw[ae]; unfold Sm)
 rw[Gr ha h,show(i==i)=true by simp,show(j==j)=true by simp];show PA N b b _=_;rw[Gr hb g]
theorem Iv {N:Nat} (hN:1000<=N) (i j:Int) (k:Bool->Bool):I7 N [] i j [] [] i j [] k=k true:=
 Do (a:=[]) (b:=[]) ⟨by show 0<N; omega,by decide⟩ ⟨by show 0<N; omega,by decide⟩ (λi hi=>by exact absurd hi (Nat.not_lt_zero _)) (λi hi=>by exact absurd hi (Nat.not_lt_zero _)) i j k
theorem O9 (l:List Int):(CF l).length=l.length:=by unfold CF; rw[List.length_map]
theorem B4 {N:Nat} {l:List Int} (h:cM N l.length):cM N (CF l).length:=by rw[O9]; exact h
theorem yk {N:Nat} {x p:List Int} (hx:cM N x.length) (hp:cM N p.length) (r c:Int) (k:List Fl->List Fl->Bool):PB N x r c p k=k (CF x) (CF p):=by unfold PB V4;rw[Gi x hx,Gi p hp]
theorem VU {n:Nat} {g:Nat->Fl} {P:Fl->Prop} (h:∀ i,i<n->P (g i)):∀ i,i<(vf n g).length->P ((vf n g).getD i none):=by intro i hi;rw[gl]at hi;rw[xL n g hi];exact h i hi
def bD (k:Int):Int:=if k=0 then 1 else if k=1 then 1 else if k=4 then 1 else if k=2 then 2 else if k=3 then 3 else 0
theorem J7 (k:Int):0<=bD k/\bD k<=3:=by
 unfold bD
 repeat' split
 all_goals omega
theorem GS (k:Int) (kk:Int->Bool):cond (k==0) (kk 1) (cond (k==1) (kk 1) (cond (k==4) (kk 1) (cond (k==2) (kk 2) (cond (k==3) (kk 3) (kk 0)))))=kk (bD k):=by
 have d:∀(a b:Int),(a==b)=decide (a=b):=λa b=>rfl
 unfold bD;simp only[d];by_cases h0:k=0
 ·rw[if_pos h0,decide_eq_true h0,cond_true]
 rw[if_neg h0,decide_eq_false h0,cond_false];by_cases h1:k=1
 ·rw[if_pos h1,decide_eq_true h1,cond_true]
 rw[if_neg h1,decide_eq_false h1,cond_false];by_cases h4:k=4
 ·rw[if_pos h4,decide_eq_true h4,cond_true]
 rw[if_neg h4,decide_eq_false h4,cond_false];by_cases h2:k=2
 ·rw[if_pos h2,decide_eq_true h2,cond_true]
 rw[if_neg h2,decide_eq_false h2,cond_false];by_cases h3:k=3
 ·rw[if_pos h3,decide_eq_true h3,cond_true]
 rw[if_neg h3,decide_eq_false h3,cond_false]
theorem ww (N:Nat) (k:Int) (kk:Int->Bool):ix N k kk=kk (bD k):=by
 (unfold ix; rw[ae]; unfold ox)
 exact GS k kk
theorem rg (N:Nat) (k:Int) (kk:Int->Bool):kd N k kk=kk (bD k):=by
 (unfold kd; rw[ae]; unfold vX)
 exact GS k kk
theorem Qj (x:Fl):feq (sB x x) (some 0)=bA x:=by
 cases x with
 | none=>rfl
 | some b=>
  cases hr:Ieee.double.read b with
  | number s m i=>
   rw[Ec hr];have e:∃ t,sB (some b) (some b)=some (Ieee.double.word t 0):=by show ∃ t,Ieee.double.sub b b=some (Ieee.double.word t 0);unfold Format.sub;rw[hr];show ∃ t,((Datum.number s m i).sum (Datum.number (!s) m i)).map Ieee.double.write=some (Ieee.double.word t 0);obtain⟨sg,h,-⟩:=Rl s (!s) m m i i;refine⟨sg,?_⟩;rw[h,I_,show signed s m (i - min i i).toNat + -signed s m (i - min i i).toNat=0 by omega];rw[show(0:Int).natAbs=0 from rfl,EE]
   obtain⟨t,e⟩:=e;rw[e];cases t <;> decide
  | infinity s=>
   have e:sB (some b) (some b)=none:=by show Ieee.double.sub b b=none;unfold Format.sub;rw[hr]; cases s <;> rfl
   rw[e];show false=xf (Ieee.double.read b);rw[hr]; rfl
  | nan s t=>
   have e:sB (some b) (some b)=none:=by show Ieee.double.sub b b=none;unfold Format.sub;rw[hr]; rfl
   rw[e];show false=xf (Ieee.double.read b);rw[hr]; rfl
def mp:Fl:=some 5057542381537067008
def ml (p:RY0):Int:=if bD p.1=0 then 140 else if p.2.1<1 then 1 else if 12<p.2.1 then 1 else if bA p.2.2.1=false then 4 else if bA p.2.2.2=false then 4 else
 if flt p.2.2.1 (some 0)=true then 141 else if flt p.2.2.2 (some 0)=true then 141 else if fgt p.2.2.1 mp=true then 141 else if fgt p.2.2.2 mp=true then 141 else 0
theorem CC (N:Nat) (a b:Int) (c d:Fl) (k:Int->Bool):lj N a b c d k=k (ml (a,b,c,d)):=by
 (unfold lj; rw[ae]; unfold kG ml)
 rw[ww];dsimp only;by_cases h0:bD a=0
 ·rw[if_pos h0,h0]; rfl
 rw[if_neg h0,show(bD a==0)=false by simp[h0],cond_false];by_cases h1:b<1
 ·rw[if_pos h1,decide_eq_true h1]; rfl
 rw[if_neg h1,decide_eq_false h1,show(false==false)=true from rfl,cond_true];by_cases h2:b>12
 ·rw[if_pos h2,decide_eq_true h2]; rfl
 rw[if_neg h2,decide_eq_false h2,cond_false];unfold oT sJ;simp only[Qj];cases bA c
 ·rw[if_pos rfl,show((!false)==false)=false from rfl,cond_false]
 rw[if_neg (by decide),show((!true)==false)=true from rfl,cond_true];cases bA d
 ·rw[if_pos rfl]; rfl
 rw[if_neg (by decide),show(!true)=false from rfl,cond_false];show cond (flt c (some 0)==false) (cond (flt d (some 0)==false) (cond (fgt c mp==false) (cond (fgt d mp) (k 141) (k 0)) (k 141)) (k 141)) (k 141)=_;cases flt c (some 0)
 ·rw[if_neg (by decide)];cases flt d (some 0)
  ·rw[if_neg (by decide)];cases fgt c mp
   ·rw[if_neg (by decide)];cases fgt d mp
    ·rw[if_neg (by decide)]; rfl
    ·rw[if_pos rfl]; rfl
   ·rw[if_pos rfl]; rfl
  ·rw[if_pos rfl]; rfl
 ·rw[if_pos rfl]; rfl
theorem F9 {x y:Fl} (hx:bA x=true) (hy:bA y=true):∃ o,wn x y=some o:=by obtain⟨b,s,m,i,rfl,hb⟩:=mT hx;obtain⟨c,t,n,j,rfl,hc⟩:=mT hy;show ∃ o,(Ieee.double.read b).order (Ieee.double.read c)=some o;rw[hb,hc];exact⟨_,rfl⟩
theorem Qh {x y:Fl} (hx:bA x=true) (hy:bA y=true):fge x y = !flt x y:=by obtain⟨o,h⟩:=F9 hx hy;unfold fge flt;rw[h]; cases o <;> rfl
theorem Oh {x y:Fl} (hx:bA x=true) (hy:bA y=true):fle x y = !fgt x y:=by obtain⟨o,h⟩:=F9 hx hy;unfold fle fgt;rw[h]; cases o <;> rfl
theorem QK:bA mp=true:=by decide
theorem U8 {N:Nat} (hN:1000<=N) (k:Fl->Bool):DL N (some 4607182418800017408) 100 k=k mp:=by
 obtain⟨M,rfl⟩:∃ M,N=M+1000:=⟨N - 1000,by omega⟩
 kernel_rfl
theorem Dp {N:Nat} (hN:1000<=N) {x:Fl} (hx:bA x=true) (k:Bool->Bool):kt N x k=k (!flt x (some 0) && !fgt x mp):=by
 unfold kt yR;rw[Qh hx (Qv Ou)];cases flt x (some 0)
 ·rw[show((!false)==true)=true from rfl,cond_true,U8 hN,Oh hx QK]; rfl
 ·rfl
def prt (m:List RY0) (t:Nat):RY0:=m.getD t (0,(0,(none,none)))
def nA (m:List RY0):Nat->Int
 | 0=>0
 | t+1=>imm false (nA m t+(prt m t).2.1*bD (prt m t).1) 13
def th (m:List RY0):Nat->Nat->Int
 | _,0=>0
 | i,d+1=>if ml (prt m i) ≠ 0 then ml (prt m i)else th m (i+1) d
def kJ (m:List RY0):Int:=if m.length=0 then 1 else if th m 0 m.length ≠ 0 then th m 0 m.length else if 12<nA m m.length then 2 else 0
theorem pY {p:RY0} (h:ml p=0):bD p.1 ≠ 0/\1<=p.2.1/\p.2.1<=12/\bA p.2.2.1=true/\bA p.2.2.2=true:=by
 unfold ml at h;split at h
 ·cases h
 split at h
 ·cases h
 split at h
 ·cases h
 split at h
 ·cases h
 split at h
 ·cases h
 rename_i h0 h1 h2 h3 h4;exact⟨h0,by omega,by omega,by simpa using h3,by simpa using h4⟩
theorem u7 {p:RY0} (h:ml p=0):1<=p.2.1*bD p.1/\p.2.1*bD p.1<=36:=by
 obtain⟨h0,h1,h2,-,-⟩:=pY h;have hb:=J7 p.1;have:bD p.1=1\/bD p.1=2\/bD p.1=3:=by omega
 rcases this with h | h | h <;> rw[h] <;> omega
theorem J3 {n x:Int} (h:0<=n/\n<=13) (hx:1<=x/\x<=36):0<=imm false (n+x) 13/\imm false (n+x) 13<=13:=by
 unfold imm;rw[cond_false];by_cases q:(13:Int)<n+x
 ·rw[decide_eq_true q,cond_true]; omega
 ·rw[decide_eq_false q,cond_false]; omega
theorem sc {N:Nat} (m:List RY0) (hm:m.length<=17592186044416) (e0:Int->Bool) (e1:Int->Bool):∀(d i M:Nat),i+d=m.length->d<M->0<=nA m i/\nA m i<=13 ->
  af M (bY N m m.length e0 e1) (nA m i,(i:Int))=if th m i d ≠ 0 then e0 (th m i d)else e1 (nA m m.length)
 | 0,i,M,hi,hM,hn=>by
  obtain⟨M,rfl⟩:∃ M',M=M'+1:=⟨M - 1,by omega⟩
  show bY N m m.length e0 e1 _ _=_;unfold bY;dsimp only;rw[decide_eq_false (by omega:¬(i:Int)<(m.length:Int)),cond_false,show i=m.length by omega];rfl
 | d+1,i,M,hi,hM,hn=>by
  obtain⟨M,rfl⟩:∃ M',M=M'+1:=⟨M - 1,by omega⟩
  show bY N m m.length e0 e1 _ (af M _)=_;have ih:=λq=>sc (N:=N) m hm e0 e1 d (i+1) M (by omega) (by omega) q
  generalize af M (bY N m m.length e0 e1)=KK at ih ⊢;unfold bY;dsimp only;rw[decide_eq_true (by omega:(i:Int)<(m.length:Int)),cond_true,aa (ai (by omega) (by omega)),Int.toNat_natCast,CC];show cond (ml (prt m i) != 0) (e0 (ml (prt m i))) _=_;unfold th;by_cases h:ml (prt m i)=0
  ·have hb:=u7 h;have hs:=J3 hn hb;rw[h,show((0:Int) != 0)=false from rfl,cond_false,ww];show(ac .i64 ((prt m i).2.1*bD (prt m i).1)&&(ac .i64 (nA m i+(prt m i).2.1*bD (prt m i).1)&&(ac .i64 ((i:Int)+1)&&KK (nA m (i+1),(((i+1:Nat)):Int)))))=_;rw[aa (ab (by omega) (by omega)),aa (ab (by omega) (by omega)),aa (ab (by omega) (by omega)),ih hs];rfl
  ·rw[if_pos h,bG _ _ h,cond_true];rw[if_pos h]
theorem Iw {N:Nat} {m:List RY0} (hm:cM N m.length) (k:Int->Bool):pQ N m k=k (kJ m):=by
 (unfold pQ; rw[ae]; unfold pM kJ)
 by_cases h0:m.length=0
 ·rw[if_pos h0,h0]; rfl
 have e:(((m.length:Nat):Int)==0)=false:=by simp; intro h; rw[h]at h0; exact h0 rfl
 rw[if_neg h0,e,cond_false];have:=sc (N:=N) m hm.2 (λt=>k t) (λn=>cond (decide (n>12)) (k 2) (k 0)) m.length 0 N (by omega) hm.1 ⟨Int.le_refl _,by show(0:Int)<=13; decide⟩;refine this.trans ?_;by_cases h1:th m 0 m.length=0
 ·rw[h1,if_neg (λq=>q rfl),if_neg (λq=>q rfl)];by_cases h2:12<nA m m.length
  ·rw[if_pos h2,decide_eq_true h2]; rfl
  ·rw[if_neg h2,decide_eq_false h2]; rfl
 ·rw[if_pos h1,if_pos h1]
theorem HI (c d:Fl):bg [c,d]=(bA c&&bA d):=by show w7 (λi=>bA ([c,d].getD i none)) 2=_;unfold w7 w7 w7;rw[Bool.true_and]; rfl
theorem I6 {N:Nat} (hN:1000<=N) (p:RY0) (e0:Int->Bool) (KK:Bool) :
  kd N p.1 (λnr=>cond (nr==0) (e0 140) (cond ((decide (p.2.1<1))==false) (cond (decide (p.2.1>12)) (e0 1) (G8 N [p.2.2.1,p.2.2.2] (λcr=>cond (!cr) (e0 4) (kt N p.2.2.1 (λcr1=>cond ((!cr1)==false) (kt N p.2.2.2 (λcr2=>cond (!cr2) (e0 141) KK)) (e0 141)))))) (e0 1)))=if ml p ≠ 0 then e0 (ml p)else KK:=by
 obtain⟨a,b,c,d⟩:=p;have nz0:∀{v:Int},ml (a,b,c,d)=v->v ≠ 0->(if ml (a,b,c,d) ≠ 0 then e0 (ml (a,b,c,d))else KK)=e0 v:=λh hv=>by rw[h,if_pos hv]
 rw[rg];dsimp only;by_cases h0:bD a=0
 ·rw[nz0 (v:=140) (by unfold ml; exact if_pos h0) (by decide),h0]; rfl
 rw[show(bD a==0)=false by simp[h0],cond_false];by_cases h1:b<1
 ·rw[nz0 (v:=1) (by unfold ml; rw[if_neg h0]; exact if_pos h1) (by decide),decide_eq_true h1]; rfl
 rw[decide_eq_false h1,show(false==false)=true from rfl,cond_true];by_cases h2:12<b
 ·rw[nz0 (v:=1) (by unfold ml; rw[if_neg h0,if_neg h1]; exact if_pos h2) (by decide),decide_eq_true (show b>12 from h2)]; rfl
 rw[decide_eq_false (show ¬ b>12 from h2),cond_false,mG [c,d] ⟨by simp; omega,by simp⟩,HI];cases fc:bA c
 ·rw[nz0 (v:=4) (by unfold ml; rw[if_neg h0,if_neg h1,if_neg h2]; exact if_pos fc) (by decide)]; rfl
 cases fd:bA d
 ·rw[nz0 (v:=4) (by unfold ml; rw[if_neg h0,if_neg h1,if_neg h2,if_neg (by rw[fc]; decide)]; exact if_pos fd) (by decide)]; rfl
 rw[show(!(true&&true))=false from rfl,cond_false];simp only[Dp hN fc,Dp hN fd];have rest:∀{u1 u2 u3 u4:Bool},flt c (some 0)=u1->flt d (some 0)=u2->fgt c mp=u3->fgt d mp=u4->ml (a,b,c,d)=if u1=true then 141 else if u2=true then 141 else if u3=true then 141 else if u4=true then 141 else 0:=λg1 g2 g3 g4=>by unfold ml;dsimp only;rw[if_neg h0,if_neg h1,if_neg h2,if_neg (by rw[fc]; decide),if_neg (by rw[fd]; decide),g1,g2,g3,g4]
 cases g1:flt c (some 0) <;> cases g2:flt d (some 0) <;> cases g3:fgt c mp <;> cases g4:fgt d mp <;> rw[rest g1 g2 g3 g4] <;> rfl
theorem se {N:Nat} (hN:1000<=N) (m:List RY0) (hm:m.length<=17592186044416) (e0:Int->Bool) (e1:Int->Bool):∀(d i M:Nat),i+d=m.length->d<M->0<=nA m i/\nA m i<=13 ->
  af M (uu N m e0 e1) (nA m i,(i:Int))=if th m i d ≠ 0 then e0 (th m i d)else e1 (nA m m.length)
 | 0,i,M,hi,hM,hn=>by
  obtain⟨M,rfl⟩:∃ M',M=M'+1:=⟨M - 1,by omega⟩
  show uu N m e0 e1 _ _=_;unfold uu;dsimp only;rw[decide_eq_false (by omega:¬(i:Int)<(m.length:Int)),cond_false,show i=m.length by omega];rfl
 | d+1,i,M,hi,hM,hn=>by
  obtain⟨M,rfl⟩:∃ M',M=M'+1:=⟨M - 1,by omega⟩
  show uu N m e0 e1 _ (af M _)=_;have ih:=λq=>se hN m hm e0 e1 d (i+1) M (by omega) (by omega) q
  generalize af M (uu N m e0 e1)=KK at ih ⊢;unfold uu;dsimp only;rw[decide_eq_true (by omega:(i:Int)<(m.length:Int)),cond_true,aa (ai (by omega) (by omega)),Int.toNat_natCast];refine(I6 hN (prt m i) e0 _).trans ?_;by_cases h:ml (prt m i)=0
  ·have hb:=u7 h;have hs:=J3 hn hb;have eG:th m i (d+1)=th m (i+1) d:=by rw[th]; exact if_neg (λq=>q h)
   rw[if_neg (λq=>q h),eG,rg];show(ac .i64 ((prt m i).2.1*bD (prt m i).1)&&(ac .i64 (nA m i+(prt m i).2.1*bD (prt m i).1)&&(ac .i64 ((i:Int)+1)&&KK (nA m (i+1),(((i+1:Nat)):Int)))))=_;rw[aa (ab (by omega) (by omega)),aa (ab (by omega) (by omega)),aa (ab (by omega) (by omega)),ih hs]
  ·have eG:th m i (d+1)=ml (prt m i):=by rw[th]; exact if_pos h
   rw[if_pos h,eG,if_pos h]
theorem GD {N:Nat} (hN:1000<=N) {m:List RY0} (hm:cM N m.length) (k:Int->Bool):um N m k=k (kJ m):=by
 (unfold um; rw[ae]; unfold sT kJ)
 by_cases h0:m.length=0
 ·rw[if_pos h0,h0]; rfl
 have e:(((m.length:Nat):Int)==0)=false:=by simp; intro h; rw[h]at h0; exact h0 rfl
 rw[if_neg h0,e,cond_false];have:=se (N:=N) hN m hm.2 (λt=>k t) (λn=>BW N (decide (n>12)) 2 (λZe=>k Ze)) m.length 0 N (by omega) hm.1 ⟨Int.le_refl _,by show(0:Int)<=13; decide⟩;refine this.trans ?_;unfold BW Ff;by_cases h1:th m 0 m.length=0
 ·rw[h1,if_neg (λq=>q rfl),if_neg (λq=>q rfl)];by_cases h2:12<nA m m.length
  ·rw[if_pos h2,decide_eq_true h2]; rfl
  ·rw[if_neg h2,decide_eq_false h2]; rfl
 ·rw[if_pos h1,if_pos h1]
def d7 (m:List RY0):Nat->Int
 | 0=>0
 | t+1=>d7 m t+(prt m t).2.1*bD (prt m t).1
theorem FA {m:List RY0}:∀(d i:Nat),th m i d=0 -> ∀ j,i<=j->j<i+d->ml (prt m j)=0
 | 0,i,_,j,h1,h2=>by omega
 | d+1,i,h,j,h1,h2=>by
  unfold th at h;split at h
  ·rename_i q; exact absurd h q
  ·rename_i q;by_cases e:j=i
   ·subst e; simpa using q
   ·exact FA d (i+1) h j (by omega) (by omega)
theorem IP {m:List RY0} (hc:∀ j,j<m.length->ml (prt m j)=0):∀ t,t<=m.length->nA m t<=12->nA m t=d7 m t/\0<=d7 m t/\(∀ s,s<=t->nA m s<=12)
 | 0,_,_=>⟨rfl,Int.le_refl _,λs hs=>by rw[show s=0 by omega]; show(0:Int)<=12; decide⟩
 | t+1,ht,h=>by
  have hb:=u7 (hc t (by omega));have hn:nA m (t+1)=imm false (nA m t+(prt m t).2.1*bD (prt m t).1) 13:=rfl;rw[hn]at h;have hlt:nA m t+(prt m t).2.1*bD (prt m t).1<=12:=by
   unfold imm at h;rw[cond_false]at h;by_cases q:(13:Int)<nA m t+(prt m t).2.1*bD (prt m t).1
   ·rw[decide_eq_true q,cond_true]at h; omega
   ·rw[decide_eq_false q,cond_false]at h; omega
  have hmm:imm false (nA m t+(prt m t).2.1*bD (prt m t).1) 13=nA m t+(prt m t).2.1*bD (prt m t).1:=by unfold imm;rw[cond_false,decide_eq_false (by omega),cond_false]
  obtain⟨i1,i2,i3⟩:=IP hc t (by omega) (by omega);have e:nA m (t+1)=d7 m (t+1):=by rw[hn,hmm,i1]; rfl
  refine⟨e,by rw[<- e,hn,hmm]; omega,λs hs=>?_⟩;by_cases q:s=t+1
  ·rw[q,hn,hmm]; exact hlt
  ·exact i3 s (by omega)
theorem kf {m:List RY0} (h:kJ m=0):m.length ≠ 0/\(∀ j,j<m.length->ml (prt m j)=0)/\nA m m.length<=12:=by
 unfold kJ at h;split at h
 ·cases h
 rename_i h0;split at h
 ·rename_i q; exact absurd h q
 rename_i h1;split at h
 ·cases h
 rename_i h2;exact⟨h0,λj hj=>FA m.length 0 (by simpa using h1) j (by omega) (by omega),by omega⟩
theorem Ea {m:List RY0} (h:kJ m=0) {t:Nat} (ht:t<=m.length):0<=d7 m t/\d7 m t<=12:=by obtain⟨h0,hc,hn⟩:=kf h;obtain⟨-,-,q⟩:=IP hc m.length (Nat.le_refl _) hn;obtain⟨e1,e2,-⟩:=IP hc t ht (q t ht);have:=q t ht;omega
theorem Gx {N:Nat} {m:List RY0} (hm:cM N m.length) (k:Int->Int->Bool):pD N m k=if kJ m ≠ 0 then k 0 (kJ m)else k (d7 m m.length) 0:=by
 (unfold pD; rw[ae]; unfold sG)
 rw[Iw hm];by_cases h:kJ m=0
 ·rw[if_neg (λq=>q h),h,show((0:Int) != 0)=false from rfl,cond_false];have h2:=hm.2;refine aC (λt:Nat=>(d7 m t,(t:Int))) m.length hm.1 ?_ ?_
  ·intro t ht K;unfold lB;dsimp only;have hb:=u7 ((kf h).2.1 t ht);have hd:=Ea h (Nat.le_of_lt ht);rw[decide_eq_true (by omega:(t:Int)<(m.length:Int)),cond_true,aa (ai (by omega) (by omega)),Int.toNat_natCast,ww];show(ac .i64 ((prt m t).2.1*bD (prt m t).1)&&(ac .i64 (d7 m t+(prt m t).2.1*bD (prt m t).1)&&(ac .i64 ((t:Int)+1)&&K (d7 m (t+1),(((t+1:Nat)):Int)))))=_;rw[aa (ab (by omega) (by omega)),aa (ab (by omega) (by omega)),aa (ab (by omega) (by omega))]
  ·intro K;unfold lB;dsimp only;rw[decide_eq_false (by omega:¬(m.length:Int)<(m.length:Int)),cond_false]
 ·rw[if_pos h,bG _ _ h,cond_true]
theorem LM {N:Nat} (hN:1000<=N) {m:List RY0} (hm:cM N m.length) (k:Int->Int->Bool):yC N m k=if kJ m ≠ 0 then k 0 (kJ m)else k (d7 m m.length) 0:=by
 (unfold yC; rw[ae]; unfold xU)
 rw[GD hN hm];by_cases h:kJ m=0
 ·rw[if_neg (λq=>q h),h,show((0:Int) != 0)=false from rfl,cond_false];have h2:=hm.2;refine aC (λt:Nat=>(d7 m t,(t:Int))) m.length hm.1 ?_ ?_
  ·intro t ht K;unfold oa;dsimp only;have hb:=u7 ((kf h).2.1 t ht);have hd:=Ea h (Nat.le_of_lt ht);rw[decide_eq_true (by omega:(t:Int)<(m.length:Int)),cond_true,aa (ai (by omega) (by omega)),aa (ai (by omega) (by omega)),Int.toNat_natCast,rg];show(ac .i64 ((prt m t).2.1*bD (prt m t).1)&&(ac .i64 (d7 m t+(prt m t).2.1*bD (prt m t).1)&&(ac .i64 ((t:Int)+1)&&K (d7 m (t+1),(((t+1:Nat)):Int)))))=_;rw[aa (ab (by omega) (by omega)),aa (ab (by omega) (by omega)),aa (ab (by omega) (by omega))]
  ·intro K;unfold oa;dsimp only;rw[decide_eq_false (by omega:¬(m.length:Int)<(m.length:Int)),cond_false]
 ·rw[if_pos h,bG _ _ h,cond_true]
def nV (g:Nat->Nat->Fl) (p i c:Nat) (r:Nat->Fl):Nat->Nat->Fl:=λa b=>if a=p+i/\p<=b/\b<p+c then r (b - p)else g a b
theorem DG (n:Nat) (g:Nat->Nat->Fl) (p i:Nat) (r:Nat->Fl):mf n (nV g p i 0 r)=mf n g:=da n λa b _ _=>by unfold nV; rw[if_neg (by omega)]
theorem DF (n:Nat) (g:Nat->Nat->Fl) (p i c:Nat) (r:Nat->Fl):mf n (λa b=>if a=p+i/\b=p+c then r c else nV g p i c r a b)=mf n (nV g p i (c+1) r):=da n λa b _ _=>by
 unfold nV;by_cases h:a=p+i/\b=p+c
 ·rw[if_pos h,if_pos (by omega),show b - p=c by omega]
 ·rw[if_neg h];by_cases h2:a=p+i/\p<=b/\b<p+c
  ·rw[if_pos h2,if_pos (by omega)]
  ·rw[if_neg h2,if_neg (by omega)]
def cJ (n p i:Int) (row:List Fl) (len:Int) (e0:List Fl->Bool):(Int × List Fl)->((Int × List Fl)->Bool)->Bool:=λv_ K=>match v_ with
 | (c,b)=>(cond (decide (c<len)) ((ac .i64 (p+i))&&((ac .i64 ((p+i)*n))&&((ac .i64 (((p+i)*n)+p))&&((ac .i64 ((((p+i)*n)+p)+c))&&((inR c (List.length row))&&((inR ((((p+i)*n)+p)+c) (List.length b))&&((decide ((Int.toNat ((((p+i)*n)+p)+c))<(List.length b)))&&((ac .i64 (c+1))&&(K ((c+1),(List.set b (Int.toNat ((((p+i)*n)+p)+c)) (List.getD row (Int.toNat c) none)))))))))))) (e0 b))
theorem nt {M n p i s:Nat} (hM:s<M) (hn:n<=12) (hp:p+s<=n) (hi:i<s) {row:List Fl} (hr:row.length=s) (g:Nat->Nat->Fl) (e0:List Fl->Bool) :
  af M (cJ n p i row row.length e0) (0,mf n g)=e0 (mf n (nV g p i s λj=>row.getD j none)):=by
 have z0:((0,mf n g):Int × List Fl)=(λc:Nat=>((c:Int),mf n (nV g p i c λj=>row.getD j none))) 0:=by show _=(((0:Nat):Int),mf n (nV g p i 0 _));rw[DG]; rfl
 rw[z0];refine aC (λc:Nat=>((c:Int),mf n (nV g p i c λj=>row.getD j none))) s (by omega) ?_ ?_
 ·intro c hc K;unfold cJ;dsimp only;have h1:=mm (n:=n) (i:=p+i) (j:=p+c) (by omega) (by omega);have h2:(p+i)*n+(p+c)<n*n:=kT (by omega) (by omega);have hn2:=tO hn;have e1:((p:Int)+(i:Int))*(n:Int)=(((p+i)*n:Nat):Int):=by rw[Int.natCast_mul]; rfl
  have e2:(((p+i)*n:Nat):Int)+(p:Int)+(c:Int)=(((p+i)*n+(p+c):Nat):Int):=by omega
  rw[decide_eq_true (by omega:(c:Int)<(row.length:Int)),cond_true,aa (ab (by omega) (by omega)),e1,aa (ab (by omega) (by omega)),aa (ab (by omega) (by omega)),e2,aa (ab (by omega) (by omega)),aa (ai (by omega) (by omega)),eX,aa (ai (by omega) (by omega)),Int.toNat_natCast,aa (decide_eq_true h2),aa (ab (by omega) (by omega)),BI n _ (by omega) (by omega),Int.toNat_natCast,DF n g p i c λj=>row.getD j none];rfl
 ·intro K;unfold cJ;dsimp only;rw[decide_eq_false (by omega:¬(s:Int)<(row.length:Int)),cond_false]
def vt (g:Nat->Nat->Fl) (p r s:Nat) (B:Nat->Nat->Fl):Nat->Nat->Fl:=λa b=>if (p<=a/\a<p+r)/\p<=b/\b<p+s then B (a - p) (b - p)else g a b
theorem KU (n:Nat) (g:Nat->Nat->Fl) (p s:Nat) (B:Nat->Nat->Fl):mf n (vt g p 0 s B)=mf n g:=da n λa b _ _=>by unfold vt; rw[if_neg (by omega)]
theorem KT (n:Nat) (g:Nat->Nat->Fl) (p r s:Nat) (B:Nat->Nat->Fl):mf n (nV (vt g p r s B) p r s (B r))=mf n (vt g p (r+1) s B):=da n λa b _ _=>by
 unfold nV vt;by_cases h:a=p+r/\p<=b/\b<p+s
 ·rw[if_pos h,if_pos (by omega),show a - p=r by omega]
 ·rw[if_neg h];by_cases h2:(p<=a/\a<p+r)/\p<=b/\b<p+s
  ·rw[if_pos h2,if_pos (by omega)]
  ·rw[if_neg h2,if_neg (by omega)]
def axP (g:Nat->Nat->Fl) (p s:Nat) (B:Nat->Nat->Fl):Nat->Nat->Nat->Fl
 | 0=>g
 | k+1=>vt (axP g p s B k) (p+k*s) s s B
theorem Wp (n:Nat) (g:Nat->Nat->Fl) (p s:Nat) (B:Nat->Nat->Fl):mf n (nV g p 0 s (B 0))=mf n (vt g p 1 s B):=da n λa b _ _=>by
 unfold nV vt;by_cases hb:p<=b/\b<p+s
 ·by_cases h0:a=p+0
  ·rw[if_pos ⟨h0,hb⟩,if_pos (by omega),show a - p=0 by omega]
  ·rw[if_neg (λq=>h0 q.1),if_neg (by omega)]
 ·rw[if_neg (λq=>hb q.2),if_neg (λq=>hb q.2)]
theorem Wq (n:Nat) (g:Nat->Nat->Fl) (p s:Nat) (B:Nat->Nat->Fl):mf n (nV (nV g p 0 s (B 0)) p 1 s (B 1))=mf n (vt g p 2 s B):=da n λa b _ _=>by
 unfold nV vt;by_cases hb:p<=b/\b<p+s
 ·by_cases h1:a=p+1
  ·rw[if_pos ⟨h1,hb⟩,if_pos (by omega),show a - p=1 by omega]
  rw[if_neg (λq=>h1 q.1)];by_cases h0:a=p+0
  ·rw[if_pos ⟨h0,hb⟩,if_pos (by omega),show a - p=0 by omega]
  ·rw[if_neg (λq=>h0 q.1),if_neg (by omega)]
 ·rw[if_neg (λq=>hb q.2),if_neg (λq=>hb q.2),if_neg (λq=>hb q.2)]
theorem Wr (n:Nat) (g:Nat->Nat->Fl) (p s:Nat) (B:Nat->Nat->Fl):mf n (nV (nV (nV g p 0 s (B 0)) p 1 s (B 1)) p 2 s (B 2))=mf n (vt g p 3 s B):=da n λa b _ _=>by
 unfold nV vt;by_cases hb:p<=b/\b<p+s
 ·by_cases h2:a=p+2
  ·rw[if_pos ⟨h2,hb⟩,if_pos (by omega),show a - p=2 by omega]
  rw[if_neg (λq=>h2 q.1)];by_cases h1:a=p+1
  ·rw[if_pos ⟨h1,hb⟩,if_pos (by omega),show a - p=1 by omega]
  rw[if_neg (λq=>h1 q.1)];by_cases h0:a=p+0
  ·rw[if_pos ⟨h0,hb⟩,if_pos (by omega),show a - p=0 by omega]
  ·rw[if_neg (λq=>h0 q.1),if_neg (by omega)]
 ·rw[if_neg (λq=>hb q.2),if_neg (λq=>hb q.2),if_neg (λq=>hb q.2),if_neg (λq=>hb q.2)]
def B1 (r:List Fl):Nat->Nat->Fl:=λi j=>r.getD j none
def B2 (r q:List Fl):Nat->Nat->Fl:=λi j=>if i=0 then r.getD j none else q.getD j none
def B3 (r q w:List Fl):Nat->Nat->Fl:=λi j=>if i=0 then r.getD j none else if i=1 then q.getD j none else w.getD j none
theorem vp {N n:Nat} (hN:1000<=N) (hn:n<=12) {r q:List Fl} (hr:r.length=2) (hq:q.length=2) (d:Fl) (l:List RY0) (t1 t2:Int) (ax p0:Nat) (hp:p0+ax*2<=n) (t3 t4 a1 a2:Int) (g:Nat->Nat->Fl) (e0:Int->List Fl->Bool) :
  af (N+24) (bJ N n d l t1 t2 ax t3 t4 a1 a2 r q e0) (p0,0,mf n g)=e0 ((p0+ax*2:Nat):Int) (mf n (axP g p0 2 (B2 r q) ax)):=by
 have z0:(((p0:Nat):Int),0,mf n g)=(λt:Nat=>(((p0+t*2:Nat):Int),(t:Int),mf n (axP g p0 2 (B2 r q) t))) 0:=by show _=(((p0+0*2:Nat):Int),((0:Nat):Int),mf n g);rw[Nat.zero_mul,Nat.add_zero]; rfl
 rw[z0];refine aC (λt:Nat=>(((p0+t*2:Nat):Int),(t:Int),mf n (axP g p0 2 (B2 r q) t))) ax (by omega) ?_ ?_
 ·intro t ht K;have hs:(t+1)*2<=ax*2:=Nat.mul_le_mul_right _ ht;unfold bJ;dsimp only;rw[decide_eq_true (by omega:(t:Int)<(ax:Int)),cond_true];show af (N+24) (cJ n ((p0+t*2:Nat):Int) ((0:Nat):Int) r r.length (λb=>af (N+24) (cJ n ((p0+t*2:Nat):Int) 1 q q.length (λb=>(ac .i64 (((p0+t*2:Nat):Int)+2))&&((ac .i64 ((t:Int)+1))&&(K ((((p0+t*2:Nat):Int)+2),((t:Int)+1),b))))) (0,b))) (0,mf n (axP g p0 2 (B2 r q) t))=_;rw[nt (s:=2) (i:=0) (by omega) hn (by omega) (by omega) hr];show af (N+24) (cJ n ((p0+t*2:Nat):Int) ((1:Nat):Int) q q.length _) (0,_)=_;rw[nt (s:=2) (i:=1) (by omega) hn (by omega) (by omega) hq];show(ac .i64 (((p0+t*2:Nat):Int)+2)&&(ac .i64 ((t:Int)+1)&&K (((p0+t*2:Nat):Int)+2,(t:Int)+1,_)))=_;rw[aa (ab (by omega) (by omega)),aa (ab (by omega) (by omega))];have e1:((p0+t*2:Nat):Int)+2=((p0+(t+1)*2:Nat):Int):=by omega
  rw[e1];exact congrArg (λb=>K (((p0+(t+1)*2:Nat):Int),((t:Int)+1),b)) (Wq n (axP g p0 2 (B2 r q) t) (p0+t*2) 2 (B2 r q))
 ·intro K;unfold bJ;dsimp only;rw[decide_eq_false (by omega:¬(ax:Int)<(ax:Int)),cond_false]
theorem vq {N n:Nat} (hN:1000<=N) (hn:n<=12) {r q w:List Fl} (hr:r.length=3) (hq:q.length=3) (hw:w.length=3) (d:Fl) (l:List RY0) (t1 t2:Int) (ax p0:Nat) (hp:p0+ax*3<=n) (t3 t4 a1 a2:Int) (g:Nat->Nat->Fl) (e0:Int->List Fl->Bool) :
  af (N+24) (bK N n d l t1 t2 ax t3 t4 a1 a2 r q w e0) (p0,0,mf n g)=e0 ((p0+ax*3:Nat):Int) (mf n (axP g p0 3 (B3 r q w) ax)):=by
 have z0:(((p0:Nat):Int),0,mf n g)=(λt:Nat=>(((p0+t*3:Nat):Int),(t:Int),mf n (axP g p0 3 (B3 r q w) t))) 0:=by show _=(((p0+0*3:Nat):Int),((0:Nat):Int),mf n g);rw[Nat.zero_mul,Nat.add_zero]; rfl
 rw[z0];refine aC (λt:Nat=>(((p0+t*3:Nat):Int),(t:Int),mf n (axP g p0 3 (B3 r q w) t))) ax (by omega) ?_ ?_
 ·intro t ht K;have hs:(t+1)*3<=ax*3:=Nat.mul_le_mul_right _ ht;unfold bK;dsimp only;rw[decide_eq_true (by omega:(t:Int)<(ax:Int)),cond_true];show af (N+24) (cJ n ((p0+t*3:Nat):Int) ((0:Nat):Int) r r.length (λb=>af (N+24) (cJ n ((p0+t*3:Nat):Int) 1 q q.length (λb=>af (N+24) (cJ n ((p0+t*3:Nat):Int) 2 w w.length (λb=>(ac .i64 (((p0+t*3:Nat):Int)+3))&&((ac .i64 ((t:Int)+1))&&(K ((((p0+t*3:Nat):Int)+3),((t:Int)+1),b))))) (0,b))) (0,b))) (0,mf n (axP g p0 3 (B3 r q w) t))=_;rw[nt (s:=3) (i:=0) (by omega) hn (by omega) (by omega) hr];show af (N+24) (cJ n ((p0+t*3:Nat):Int) ((1:Nat):Int) q q.length _) (0,_)=_;rw[nt (s:=3) (i:=1) (by omega) hn (by omega) (by omega) hq];show af (N+24) (cJ n ((p0+t*3:Nat):Int) ((2:Nat):Int) w w.length _) (0,_)=_;rw[nt (s:=3) (i:=2) (by omega) hn (by omega) (by omega) hw];show(ac .i64 (((p0+t*3:Nat):Int)+3)&&(ac .i64 ((t:Int)+1)&&K (((p0+t*3:Nat):Int)+3,(t:Int)+1,_)))=_;rw[aa (ab (by omega) (by omega)),aa (ab (by omega) (by omega))];have e1:((p0+t*3:Nat):Int)+3=((p0+(t+1)*3:Nat):Int):=by omega
  rw[e1];exact congrArg (λb=>K (((p0+(t+1)*3:Nat):Int),((t:Int)+1),b)) (Wr n (axP g p0 3 (B3 r q w) t) (p0+t*3) 3 (B3 r q w))
 ·intro K;unfold bK;dsimp only;rw[decide_eq_false (by omega:¬(ax:Int)<(ax:Int)),cond_false]
theorem nw {N n:Nat} (hN:1000<=N) (hn:n<=12) {r:List Fl} (hr:r.length=1) (d:Fl) (l:List RY0) (t1 t2:Int) (ax p0:Nat) (hp:p0+ax*1<=n) (t3 t4 a1 a2:Int) (g:Nat->Nat->Fl) (e0:Int->List Fl->Bool) :
  af (N+24) (bL N n d l t1 t2 ax t3 t4 a1 a2 r e0) (p0,0,mf n g)=e0 ((p0+ax*1:Nat):Int) (mf n (axP g p0 1 (B1 r) ax)):=by
 have z0:(((p0:Nat):Int),0,mf n g)=(λt:Nat=>(((p0+t*1:Nat):Int),(t:Int),mf n (axP g p0 1 (B1 r) t))) 0:=by show _=(((p0+0*1:Nat):Int),((0:Nat):Int),mf n g);rw[Nat.zero_mul,Nat.add_zero]; rfl
 rw[z0];refine aC (λt:Nat=>(((p0+t*1:Nat):Int),(t:Int),mf n (axP g p0 1 (B1 r) t))) ax (by omega) ?_ ?_
 ·intro t ht K;have hs:(t+1)*1<=ax*1:=Nat.mul_le_mul_right _ ht;unfold bL;dsimp only;rw[decide_eq_true (by omega:(t:Int)<(ax:Int)),cond_true];show af (N+24) (cJ n ((p0+t*1:Nat):Int) ((0:Nat):Int) r r.length (λb=>(ac .i64 (((p0+t*1:Nat):Int)+1))&&((ac .i64 ((t:Int)+1))&&(K ((((p0+t*1:Nat):Int)+1),((t:Int)+1),b))))) (0,mf n (axP g p0 1 (B1 r) t))=_;rw[nt (s:=1) (i:=0) (by omega) hn (by omega) (by omega) hr];show(ac .i64 (((p0+t*1:Nat):Int)+1)&&(ac .i64 ((t:Int)+1)&&K (((p0+t*1:Nat):Int)+1,(t:Int)+1,_)))=_;rw[aa (ab (by omega) (by omega)),aa (ab (by omega) (by omega))];have e1:((p0+t*1:Nat):Int)+1=((p0+(t+1)*1:Nat):Int):=by omega
  rw[e1];exact congrArg (λb=>K (((p0+(t+1)*1:Nat):Int),((t:Int)+1),b)) (Wp n (axP g p0 1 (B1 r) t) (p0+t*1) 1 (B1 r))
 ·intro K;unfold bL;dsimp only;rw[decide_eq_false (by omega:¬(ax:Int)<(ax:Int)),cond_false]
theorem gj {N n:Nat} (hN:1000<=N) (hn:n<=12) {r:List Fl} (hr:r.length=1) (d:Fl) (l:List RY0) (t1 t2:Int) (ax p0:Nat) (hp:p0+ax*1<=n) (t3 t4 a1 a2:Int) (g:Nat->Nat->Fl) (e0:Int->List Fl->Bool) :
  af (N+24) (bu N n d l t1 t2 ax t3 t4 a1 a2 r e0) (p0,0,mf n g)=e0 ((p0+ax*1:Nat):Int) (mf n (axP g p0 1 (B1 r) ax)):=by
 have z0:(((p0:Nat):Int),0,mf n g)=(λt:Nat=>(((p0+t*1:Nat):Int),(t:Int),mf n (axP g p0 1 (B1 r) t))) 0:=by show _=(((p0+0*1:Nat):Int),((0:Nat):Int),mf n g);rw[Nat.zero_mul,Nat.add_zero]; rfl
 rw[z0];refine aC (λt:Nat=>(((p0+t*1:Nat):Int),(t:Int),mf n (axP g p0 1 (B1 r) t))) ax (by omega) ?_ ?_
 ·intro t ht K;have hs:(t+1)*1<=ax*1:=Nat.mul_le_mul_right _ ht;unfold bu;dsimp only;rw[decide_eq_true (by omega:(t:Int)<(ax:Int)),cond_true];show af (N+24) (cJ n ((p0+t*1:Nat):Int) ((0:Nat):Int) r r.length (λb=>(ac .i64 (((p0+t*1:Nat):Int)+1))&&((ac .i64 ((t:Int)+1))&&(K ((((p0+t*1:Nat):Int)+1),((t:Int)+1),b))))) (0,mf n (axP g p0 1 (B1 r) t))=_;rw[nt (s:=1) (i:=0) (by omega) hn (by omega) (by omega) hr];show(ac .i64 (((p0+t*1:Nat):Int)+1)&&(ac .i64 ((t:Int)+1)&&K (((p0+t*1:Nat):Int)+1,(t:Int)+1,_)))=_;rw[aa (ab (by omega) (by omega)),aa (ab (by omega) (by omega))];have e1:((p0+t*1:Nat):Int)+1=((p0+(t+1)*1:Nat):Int):=by omega
  rw[e1];exact congrArg (λb=>K (((p0+(t+1)*1:Nat):Int),((t:Int)+1),b)) (Wp n (axP g p0 1 (B1 r) t) (p0+t*1) 1 (B1 r))
 ·intro K;unfold bu;dsimp only;rw[decide_eq_false (by omega:¬(ax:Int)<(ax:Int)),cond_false]
theorem sw {N n:Nat} (hN:1000<=N) (hn:n<=12) {r q:List Fl} (hr:r.length=2) (hq:q.length=2) (d:Fl) (l:List RY0) (t1 t2:Int) (ax p0:Nat) (hp:p0+ax*2<=n) (t3 t4 a1 a2:Int) (g:Nat->Nat->Fl) (e0:Int->List Fl->Bool) :
  af (N+24) (bv N n d l t1 t2 ax t3 t4 a1 a2 r q e0) (p0,0,mf n g)=e0 ((p0+ax*2:Nat):Int) (mf n (axP g p0 2 (B2 r q) ax)):=by
 have z0:(((p0:Nat):Int),0,mf n g)=(λt:Nat=>(((p0+t*2:Nat):Int),(t:Int),mf n (axP g p0 2 (B2 r q) t))) 0:=by show _=(((p0+0*2:Nat):Int),((0:Nat):Int),mf n g);rw[Nat.zero_mul,Nat.add_zero]; rfl
 rw[z0];refine aC (λt:Nat=>(((p0+t*2:Nat):Int),(t:Int),mf n (axP g p0 2 (B2 r q) t))) ax (by omega) ?_ ?_
 ·intro t ht K;have hs:(t+1)*2<=ax*2:=Nat.mul_le_mul_right _ ht;unfold bv;dsimp only;rw[decide_eq_true (by omega:(t:Int)<(ax:Int)),cond_true];show af (N+24) (cJ n ((p0+t*2:Nat):Int) ((0:Nat):Int) r r.length (λb=>af (N+24) (cJ n ((p0+t*2:Nat):Int) 1 q q.length (λb=>(ac .i64 (((p0+t*2:Nat):Int)+2))&&((ac .i64 ((t:Int)+1))&&(K ((((p0+t*2:Nat):Int)+2),((t:Int)+1),b))))) (0,b))) (0,mf n (axP g p0 2 (B2 r q) t))=_;rw[nt (s:=2) (i:=0) (by omega) hn (by omega) (by omega) hr];show af (N+24) (cJ n ((p0+t*2:Nat):Int) ((1:Nat):Int) q q.length _) (0,_)=_;rw[nt (s:=2) (i:=1) (by omega) hn (by omega) (by omega) hq];show(ac .i64 (((p0+t*2:Nat):Int)+2)&&(ac .i64 ((t:Int)+1)&&K (((p0+t*2:Nat):Int)+2,(t:Int)+1,_)))=_;rw[aa (ab (by omega) (by omega)),aa (ab (by omega) (by omega))];have e1:((p0+t*2:Nat):Int)+2=((p0+(t+1)*2:Nat):Int):=by omega
  rw[e1];exact congrArg (λb=>K (((p0+(t+1)*2:Nat):Int),((t:Int)+1),b)) (Wq n (axP g p0 2 (B2 r q) t) (p0+t*2) 2 (B2 r q))
 ·intro K;unfold bv;dsimp only;rw[decide_eq_false (by omega:¬(ax:Int)<(ax:Int)),cond_false]
theorem sy {N n:Nat} (hN:1000<=N) (hn:n<=12) {r q w:List Fl} (hr:r.length=3) (hq:q.length=3) (hw:w.length=3) (d:Fl) (l:List RY0) (t1 t2:Int) (ax p0:Nat) (hp:p0+ax*3<=n) (t3 t4 a1 a2:Int) (g:Nat->Nat->Fl) (e0:Int->List Fl->Bool) :
  af (N+24) (bw N n d l t1 t2 ax t3 t4 a1 a2 r q w e0) (p0,0,mf n g)=e0 ((p0+ax*3:Nat):Int) (mf n (axP g p0 3 (B3 r q w) ax)):=by
 have z0:(((p0:Nat):Int),0,mf n g)=(λt:Nat=>(((p0+t*3:Nat):Int),(t:Int),mf n (axP g p0 3 (B3 r q w) t))) 0:=by show _=(((p0+0*3:Nat):Int),((0:Nat):Int),mf n g);rw[Nat.zero_mul,Nat.add_zero]; rfl
 rw[z0];refine aC (λt:Nat=>(((p0+t*3:Nat):Int),(t:Int),mf n (axP g p0 3 (B3 r q w) t))) ax (by omega) ?_ ?_
 ·intro t ht K;have hs:(t+1)*3<=ax*3:=Nat.mul_le_mul_right _ ht;unfold bw;dsimp only;rw[decide_eq_true (by omega:(t:Int)<(ax:Int)),cond_true];show af (N+24) (cJ n ((p0+t*3:Nat):Int) ((0:Nat):Int) r r.length (λb=>af (N+24) (cJ n ((p0+t*3:Nat):Int) 1 q q.length (λb=>af (N+24) (cJ n ((p0+t*3:Nat):Int) 2 w w.length (λb=>(ac .i64 (((p0+t*3:Nat):Int)+3))&&((ac .i64 ((t:Int)+1))&&(K ((((p0+t*3:Nat):Int)+3),((t:Int)+1),b))))) (0,b))) (0,b))) (0,mf n (axP g p0 3 (B3 r q w) t))=_;rw[nt (s:=3) (i:=0) (by omega) hn (by omega) (by omega) hr];show af (N+24) (cJ n ((p0+t*3:Nat):Int) ((1:Nat):Int) q q.length _) (0,_)=_;rw[nt (s:=3) (i:=1) (by omega) hn (by omega) (by omega) hq];show af (N+24) (cJ n ((p0+t*3:Nat):Int) ((2:Nat):Int) w w.length _) (0,_)=_;rw[nt (s:=3) (i:=2) (by omega) hn (by omega) (by omega) hw];show(ac .i64 (((p0+t*3:Nat):Int)+3)&&(ac .i64 ((t:Int)+1)&&K (((p0+t*3:Nat):Int)+3,(t:Int)+1,_)))=_;rw[aa (ab (by omega) (by omega)),aa (ab (by omega) (by omega))];have e1:((p0+t*3:Nat):Int)+3=((p0+(t+1)*3:Nat):Int):=by omega
  rw[e1];exact congrArg (λb=>K (((p0+(t+1)*3:Nat):Int),((t:Int)+1),b)) (Wr n (axP g p0 3 (B3 r q w) t) (p0+t*3) 3 (B3 r q w))
 ·intro K;unfold bw;dsimp only;rw[decide_eq_false (by omega:¬(ax:Int)<(ax:Int)),cond_false]
def vw:Fl:=some 4607182418800017408
def bF (p:RY0) (d:Fl):Nat->Nat->Fl:=
 if p.1=2 then B2 [vw,d] [some 0,vw]else if p.1=3 then B3 [vw,d,fdiv (ay d d) (some 4611686018427387904)] [some 0,vw,d] [some 0,some 0,vw]else
 if p.1=4 then B1 [fdiv vw (cV vw (ay p.2.2.2 d))]else B1 [vw]
def qa (p:RY0) (d:Fl):Fl:=ay p.2.2.1 d
def bQ (p:RY0) (d:Fl):Nat->Nat->Fl:=
 if p.1=1 then B1 [qa p d]else if p.1=4 then B1 [qa p d]else
 if p.1=2 then B2 [fdiv (ay (ay (qa p d) d) d) (some 4613937818241073152),fdiv (ay (qa p d) d) (some 4611686018427387904)] [fdiv (ay (qa p d) d) (some 4611686018427387904),qa p d]else
 if p.1=3 then B3 [fdiv (ay (ay (ay (ay (qa p d) d) d) d) d) (some 4626322717216342016),fdiv (ay (ay (ay (qa p d) d) d) d) (some 4620693217682128896),fdiv (ay (ay (qa p d) d) d) (some 4618441417868443648)]
  [fdiv (ay (ay (ay (qa p d) d) d) d) (some 4620693217682128896),fdiv (ay (ay (qa p d) d) d) (some 4613937818241073152),fdiv (ay (qa p d) d) (some 4611686018427387904)]
  [fdiv (ay (ay (qa p d) d) d) (some 4618441417868443648),fdiv (ay (qa p d) d) (some 4611686018427387904),qa p d]else B1 [some 0]
def ptP (m:List RY0) (bl:RY0->Nat->Nat->Fl):Nat->Nat->Nat->Fl
 | 0=>λ_ _=>some 0
 | t+1=>axP (ptP m bl t) (d7 m t).toNat (bD (prt m t).1).toNat (bl (prt m t)) (prt m t).2.1.toNat
theorem FP {m:List RY0} (h:kJ m=0):∀{t:Nat},t<=m.length -> ∀ s,s<=t->d7 m s<=d7 m t
 | 0,_,s,hs=>by rw[show s=0 by omega]; exact Int.le_refl _
 | t+1,ht,s,hs=>by
  by_cases q:s=t+1
  ·rw[q]; exact Int.le_refl _
  ·have i:=FP h (t:=t) (by omega) s (by omega);have hb:=u7 ((kf h).2.1 t (by omega));show d7 m s<=d7 m t+(prt m t).2.1*bD (prt m t).1;omega
theorem BP {m:List RY0} (h:kJ m=0) {n:Nat} (hn:d7 m m.length=n) {t:Nat} (ht:t<m.length):∃ p0 ax:Nat,d7 m t=p0/\(prt m t).2.1=ax/\(d7 m t).toNat=p0/\(prt m t).2.1.toNat=ax /\
  ∀ s:Nat,bD (prt m t).1=s->p0+ax*s<=n/\d7 m (t+1)=((p0+ax*s:Nat):Int):=by
 obtain⟨-,h1,h2,-,-⟩:=pY ((kf h).2.1 t ht);have hd:=Ea h (Nat.le_of_lt ht);obtain⟨p0,hp⟩:∃ p0:Nat,d7 m t=p0:=⟨(d7 m t).toNat,by omega⟩
 obtain⟨ax,ha⟩:∃ ax:Nat,(prt m t).2.1=ax:=⟨(prt m t).2.1.toNat,by omega⟩
 refine⟨p0,ax,hp,ha,by omega,by omega,λs hs=>?_⟩;have hm:=FP h (Nat.le_refl _) (t+1) ht;have e:d7 m (t+1)=((p0+ax*s:Nat):Int):=by show d7 m t+(prt m t).2.1*bD (prt m t).1=_;rw[hp,ha,hs,Int.natCast_add,Int.natCast_mul]
 exact⟨by rw[e,hn]at hm; omega,e⟩
theorem YW {N n:Nat} (hN:1000<=N) (hn:n<=12) {m:List RY0} (hm:cM N m.length) (h:kJ m=0) (hd:d7 m m.length=n) (d:Fl) (t1 t2 a1 a2:Int) (e0:List Fl->Bool) :
  af (N+24) (co N n d m m.length t1 t2 a1 a2 e0) (0,0,mf n λ_ _=>some 0)=e0 (mf n (ptP m (λp=>bF p d) m.length)):=by
 have hm1:=hm.1;have hm2:=hm.2;have z0:((0,0,mf n λ_ _=>some 0):Int × Int × List Fl)=(λt:Nat=>(d7 m t,(t:Int),mf n (ptP m (λp=>bF p d) t))) 0:=rfl;rw[z0];refine aC (λt:Nat=>(d7 m t,(t:Int),mf n (ptP m (λp=>bF p d) t))) m.length (by omega) ?_ ?_
 ·intro t ht K;obtain⟨p0,ax,hp,ha,hp',ha',hs⟩:=BP h hd ht;have ho:=(pY ((kf h).2.1 t ht)).1;unfold co;dsimp only;rw[decide_eq_true (by omega:(t:Int)<(m.length:Int)),cond_true,aa (ai (by omega) (by omega)),Int.toNat_natCast,hp];show pE N (prt m t).1 (prt m t).2.1 (prt m t).2.2.1 (prt m t).2.2.2 d (λr q=>af (N+24) (bJ N n d m m.length t (prt m t).2.1 t1 t2 a1 a2 r q (λf b=>(ac .i64 ((t:Int)+1))&&K (f,(t:Int)+1,b))) ((p0:Int),0,_)) (λr q w=>af (N+24) (bK N n d m m.length t (prt m t).2.1 t1 t2 a1 a2 r q w (λf b=>(ac .i64 ((t:Int)+1))&&K (f,(t:Int)+1,b))) ((p0:Int),0,_)) (λr=>af (N+24) (bL N n d m m.length t (prt m t).2.1 t1 t2 a1 a2 r (λf b=>(ac .i64 ((t:Int)+1))&&K (f,(t:Int)+1,b))) ((p0:Int),0,_))=_
  (unfold pE; rw[ae]; unfold sH)
  have fin:∀(s:Nat) (B:Nat->Nat->Fl),bD (prt m t).1=s->bF (prt m t) d=B->((ac .i64 ((t:Int)+1))&&K (((p0+ax*s:Nat):Int),(t:Int)+1,mf n (axP (ptP m (λp=>bF p d) t) p0 s B ax)))=K (d7 m (t+1),(((t+1:Nat)):Int),mf n (ptP m (λp=>bF p d) (t+1))):=by
   intro s B e1 e2;rw[aa (ab (by omega) (by omega)),(hs s e1).2];have e3:ptP m (λp=>bF p d) (t+1)=axP (ptP m (λp=>bF p d) t) p0 s B ax:=by show axP (ptP m (λp=>bF p d) t) (d7 m t).toNat (bD (prt m t).1).toNat (bF (prt m t) d) (prt m t).2.1.toNat=_;rw[hp',ha',e1,e2,Int.toNat_natCast]
   rw[e3]; rfl
  rw[ha];by_cases k2:(prt m t).1=2
  ·have e1:bD (prt m t).1=(2:Nat):=by rw[k2]; rfl
   rw[k2,show((2:Int)==2)=true from rfl,cond_true];exact Eq.trans (vp (r:=[vw,d]) (q:=[some 0,vw]) hN hn rfl rfl _ _ _ _ _ _ (hs 2 e1).1 _ _ _ _ _ _) (fin 2 _ e1 (by unfold bF; rw[if_pos k2]))
  rw[show((prt m t).1==2)=false by simp[k2],cond_false];by_cases k3:(prt m t).1=3
  ·have e1:bD (prt m t).1=(3:Nat):=by rw[k3]; rfl
   rw[k3,show((3:Int)==3)=true from rfl,cond_true];exact Eq.trans (vq (r:=[vw,d,fdiv (ay d d) (some 4611686018427387904)]) (q:=[some 0,vw,d]) (w:=[some 0,some 0,vw]) hN hn rfl rfl rfl _ _ _ _ _ _ (hs 3 e1).1 _ _ _ _ _ _) (fin 3 _ e1 (by unfold bF; rw[if_neg k2,if_pos k3]))
  rw[show((prt m t).1==3)=false by simp[k3],cond_false];have e1:bD (prt m t).1=(1:Nat):=by
   unfold bD at ho ⊢
   repeat' split at ho
   all_goals simp_all
  by_cases k4:(prt m t).1=4
  ·rw[k4,show((4:Int)==4)=true from rfl,cond_true];exact Eq.trans (nw (r:=[fdiv vw (cV vw (ay (prt m t).2.2.2 d))]) hN hn rfl _ _ _ _ _ _ (hs 1 e1).1 _ _ _ _ _ _) (fin 1 _ e1 (by unfold bF; rw[if_neg k2,if_neg k3,if_pos k4]))
  rw[show((prt m t).1==4)=false by simp[k4],cond_false];exact Eq.trans (nw (r:=[vw]) hN hn rfl _ _ _ _ _ _ (hs 1 e1).1 _ _ _ _ _ _) (fin 1 _ e1 (by unfold bF; rw[if_neg k2,if_neg k3,if_neg k4]))
 ·intro K;unfold co;dsimp only;rw[decide_eq_false (by omega:¬(m.length:Int)<(m.length:Int)),cond_false]
theorem YX {N n:Nat} (hN:1000<=N) (hn:n<=12) {m:List RY0} (hm:cM N m.length) (h:kJ m=0) (hd:d7 m m.length=n) (d:Fl) (t1 t2 a1 a2:Int) (e0:List Fl->Bool) :
  af (N+24) (bZ N n d m m.length t1 t2 a1 a2 e0) (0,0,mf n λ_ _=>some 0)=e0 (mf n (ptP m (λp=>bQ p d) m.length)):=by
 have hm1:=hm.1;have hm2:=hm.2;have z0:((0,0,mf n λ_ _=>some 0):Int × Int × List Fl)=(λt:Nat=>(d7 m t,(t:Int),mf n (ptP m (λp=>bQ p d) t))) 0:=rfl;rw[z0];refine aC (λt:Nat=>(d7 m t,(t:Int),mf n (ptP m (λp=>bQ p d) t))) m.length (by omega) ?_ ?_
 ·intro t ht K;obtain⟨p0,ax,hp,ha,hp',ha',hs⟩:=BP h hd ht;have ho:=(pY ((kf h).2.1 t ht)).1;unfold bZ;dsimp only;rw[decide_eq_true (by omega:(t:Int)<(m.length:Int)),cond_true,aa (ai (by omega) (by omega)),Int.toNat_natCast,hp];show pF N (prt m t).1 (prt m t).2.1 (prt m t).2.2.1 (prt m t).2.2.2 d (λr=>af (N+24) (bu N n d m m.length t (prt m t).2.1 t1 t2 a1 a2 r (λf b=>(ac .i64 ((t:Int)+1))&&K (f,(t:Int)+1,b))) ((p0:Int),0,_)) (λr q=>af (N+24) (bv N n d m m.length t (prt m t).2.1 t1 t2 a1 a2 r q (λf b=>(ac .i64 ((t:Int)+1))&&K (f,(t:Int)+1,b))) ((p0:Int),0,_)) (λr q w=>af (N+24) (bw N n d m m.length t (prt m t).2.1 t1 t2 a1 a2 r q w (λf b=>(ac .i64 ((t:Int)+1))&&K (f,(t:Int)+1,b))) ((p0:Int),0,_))=_
  (unfold pF; rw[ae]; unfold sI)
  have fin:∀(s:Nat) (B:Nat->Nat->Fl),bD (prt m t).1=s->bQ (prt m t) d=B->((ac .i64 ((t:Int)+1))&&K (((p0+ax*s:Nat):Int),(t:Int)+1,mf n (axP (ptP m (λp=>bQ p d) t) p0 s B ax)))=K (d7 m (t+1),(((t+1:Nat)):Int),mf n (ptP m (λp=>bQ p d) (t+1))):=by
   intro s B e1 e2;rw[aa (ab (by omega) (by omega)),(hs s e1).2];have e3:ptP m (λp=>bQ p d) (t+1)=axP (ptP m (λp=>bQ p d) t) p0 s B ax:=by show axP (ptP m (λp=>bQ p d) t) (d7 m t).toNat (bD (prt m t).1).toNat (bQ (prt m t) d) (prt m t).2.1.toNat=_;rw[hp',ha',e1,e2,Int.toNat_natCast]
   rw[e3]; rfl
  rw[ha];have eq1:∀(x:Int) ,(prt m t).1=x->((prt m t).1==x)=true:=λx h=>by rw[h]; simp
  have eq0:∀(x:Int) ,¬(prt m t).1=x->((prt m t).1==x)=false:=λx h=>by simp[h]
  by_cases k1:(prt m t).1=1
  ·have e1:bD (prt m t).1=(1:Nat):=by rw[k1]; rfl
   rw[eq1 1 k1,cond_true];exact Eq.trans (gj (r:=[ay (prt m t).2.2.1 d]) hN hn rfl _ _ _ _ _ _ (hs 1 e1).1 _ _ _ _ _ _) (fin 1 _ e1 (by unfold bQ; rw[if_pos k1]; rfl))
  rw[eq0 1 k1,cond_false];by_cases k4:(prt m t).1=4
  ·have e1:bD (prt m t).1=(1:Nat):=by rw[k4]; rfl
   rw[eq1 4 k4,cond_true];exact Eq.trans (gj (r:=[ay (prt m t).2.2.1 d]) hN hn rfl _ _ _ _ _ _ (hs 1 e1).1 _ _ _ _ _ _) (fin 1 _ e1 (by unfold bQ; rw[if_neg k1,if_pos k4]; rfl))
  rw[eq0 4 k4,cond_false];by_cases k2:(prt m t).1=2
  ·have e1:bD (prt m t).1=(2:Nat):=by rw[k2]; rfl
   rw[eq1 2 k2,cond_true];exact Eq.trans (sw (r:=[fdiv (ay (ay (ay (prt m t).2.2.1 d) d) d) (some 4613937818241073152),fdiv (ay (ay (prt m t).2.2.1 d) d) (some 4611686018427387904)]) (q:=[fdiv (ay (ay (prt m t).2.2.1 d) d) (some 4611686018427387904),ay (prt m t).2.2.1 d]) hN hn rfl rfl _ _ _ _ _ _ (hs 2 e1).1 _ _ _ _ _ _) (fin 2 _ e1 (by unfold bQ; rw[if_neg k1,if_neg k4,if_pos k2]; rfl))
  rw[eq0 2 k2,cond_false];by_cases k3:(prt m t).1=3
  ·have e1:bD (prt m t).1=(3:Nat):=by rw[k3]; rfl
   rw[eq1 3 k3,cond_true];exact Eq.trans (sy (r:=[fdiv (ay (ay (ay (ay (ay (prt m t).2.2.1 d) d) d) d) d) (some 4626322717216342016),fdiv (ay (ay (ay (ay (prt m t).2.2.1 d) d) d) d) (some 4620693217682128896),fdiv (ay (ay (ay (prt m t).2.2.1 d) d) d) (some 4618441417868443648)]) (q:=[fdiv (ay (ay (ay (ay (prt m t).2.2.1 d) d) d) d) (some 4620693217682128896),fdiv (ay (ay (ay (prt m t).2.2.1 d) d) d) (some 4613937818241073152),fdiv (ay (ay (prt m t).2.2.1 d) d) (some 4611686018427387904)]) (w:=[fdiv (ay (ay (ay (prt m t).2.2.1 d) d) d) (some 4618441417868443648),fdiv (ay (ay (prt m t).2.2.1 d) d) (some 4611686018427387904),ay (prt m t).2.2.1 d]) hN hn rfl rfl rfl _ _ _ _ _ _ (hs 3 e1).1 _ _ _ _ _ _) (fin 3 _ e1 (by unfold bQ; rw[if_neg k1,if_neg k4,if_neg k2,if_pos k3]; rfl))
  rw[eq0 3 k3,cond_false];have e1:bD (prt m t).1=(1:Nat):=by
   unfold bD at ho ⊢
   repeat' split at ho
   all_goals simp_all
  exact Eq.trans (gj (r:=[some 0]) hN hn rfl _ _ _ _ _ _ (hs 1 e1).1 _ _ _ _ _ _) (fin 1 _ e1 (by unfold bQ; rw[if_neg k1,if_neg k4,if_neg k2,if_neg k3]))
 ·intro K;unfold bZ;dsimp only;rw[decide_eq_false (by omega:¬(m.length:Int)<(m.length:Int)),cond_false]
theorem Es {N n i:Nat} (hN:1000<=N) (hn:n<=12) (hi:i<n) (t17 t18 t6 t7 m1 m2:Int) (e0:List Fl->Bool) :
  af N (Cc N n i t17 t18 n t6 t7 m1 m2 e0) (0,List.replicate (i*n) (some 0))=e0 (List.replicate ((i+1)*n) (some 0)):=by
 have hn2:=tO hn;have z0:(((0:Int),List.replicate (i*n) (some 0)):Int × List Fl)=(λt:Nat=>((t:Int),List.replicate (i*n+t) (some 0))) 0:=rfl;rw[z0];refine aC (λt:Nat=>((t:Int),List.replicate (i*n+t) (some 0))) n (by omega) ?_ ?_
 ·intro t ht K;unfold Cc;dsimp only;have h1:=mm hi ht;rw[decide_eq_true (by omega:(t:Int)<(n:Int)),cond_true];show(decide ((List.replicate (i*n+t) (some 0)++[some 0]).length*8<=140737488355328)&&_)=_;rw[<- List.replicate_succ',List.length_replicate,aa (decide_eq_true (by omega)),aa (ab (by omega) (by omega))];rfl
 ·intro K;unfold Cc;dsimp only;rw[decide_eq_false (by omega:¬(n:Int)<(n:Int)),cond_false,xy]
theorem OK {N n:Nat} (hN:1000<=N) (hn:n<=12) (k:List Fl->Bool):Pm N n n k=k (mf n λ_ _=>some 0):=by
 (unfold Pm; rw[ae]; unfold M0)
 have hn2:=tO hn;rw[<- Int.natCast_mul,aa (ab (by omega) (by omega)),aa (bT (by omega) (by omega) (by omega) (by omega)),<- Ao];have z0:(((0:Int),[]):Int × List Fl)=(λt:Nat=>((t:Int),List.replicate (t*n) (some 0))) 0:=by show _=(((0:Nat):Int),List.replicate (0*n) (some 0));rw[Nat.zero_mul]; rfl
 rw[z0];refine aC (λt:Nat=>((t:Int),List.replicate (t*n) (some 0))) n (by omega) ?_ ?_
 ·intro t ht K;unfold fG;dsimp only;rw[decide_eq_true (by omega:(t:Int)<(n:Int)),cond_true,Es hN hn ht,aa (ab (by omega) (by omega))];rfl
 ·intro K;unfold fG;dsimp only;rw[decide_eq_false (by omega:¬(n:Int)<(n:Int)),cond_false]
theorem Gq {N n:Nat} (hN:1000<=N) (hn:n<=12) (k0:Int->Int->Int->Bool) (k1:Int->List Fl->Bool):Ki N n n k0 k1=k1 0 (mf n λ_ _=>some 0):=by
 (unfold Ki; rw[ae]; unfold M7)
 simp only[OW];rw[decide_eq_true (by omega:0<=(n:Int)/\(n:Int)<=12),show((!true)==false)=true from rfl,cond_true,show(!true)=false from rfl,cond_false,OK hN hn]
def VI (t:Int):Fl:=fdiv (some (FloatKind.nearest .f64 t)) (some 4696837146684686336)
def dmN (m:List RY0):Nat:=(d7 m m.length).toNat
def sA (bl:RY0->Fl->Nat->Nat->Fl) (m:List RY0) (t:Int):List Fl:=mf (dmN m) (ptP m (λp=>bl p (VI t)) m.length)
def lN (bl:RY0->Fl->Nat->Nat->Fl) (m:List RY0) (t:Int):Int:=
 if kJ m ≠ 0 then kJ m else if t<0 then 1 else if 1125899906842624<t then 1 else if bg (sA bl m t)=false then 5 else 0
theorem HO {bl m t} (h:kJ m ≠ 0):lN bl m t=kJ m:=by unfold lN; rw[if_pos h]
theorem HQ {bl m t} (h:kJ m=0) (h0:t<0):lN bl m t=1:=by unfold lN; rw[if_neg (λq=>q h),if_pos h0]
theorem HR {bl m t} (h:kJ m=0) (h0:¬ t<0) (h1:1125899906842624<t):lN bl m t=1:=by unfold lN; rw[if_neg (λq=>q h),if_neg h0,if_pos h1]
theorem HS {bl m t} (h:kJ m=0) (h0:¬ t<0) (h1:¬ 1125899906842624<t):lN bl m t=if bg (sA bl m t)=false then 5 else 0:=by unfold lN; rw[if_neg (λq=>q h),if_neg h0,if_neg h1]
theorem zl {N:Nat} {t:Int} (h0:¬ t<0) (h1:¬ 1125899906842624<t) (k:Fl->Int->Bool):jX N t k=k (VI t) 0:=by
 (unfold jX; rw[ae]; unfold no)
 rw[decide_eq_false (by omega:¬ t < -1125899906842624),show(false==false)=true from rfl,cond_true,decide_eq_false (by omega:¬ t>1125899906842624),cond_false]; rfl
theorem D5 (bl:RY0->Fl->Nat->Nat->Fl) (m:List RY0) (t:Int):(sA bl m t).length=dmN m*dmN m:=eX _ _
theorem N6 {m:List RY0} (h:kJ m=0):d7 m m.length=(dmN m:Nat)/\dmN m<=12:=by have:=Ea h (Nat.le_refl _);unfold dmN; omega
theorem Gz {N:Nat} (hN:1000<=N) {m:List RY0} (hm:cM N m.length) (t:Int) (k0:Int->Int->Int->Bool) (k1:Int->Int->Int->List Fl->Bool) :
  yz N m t k0 k1=if lN bF m t ≠ 0 then k0 0 0 (lN bF m t)else k1 (dmN m:Nat) (dmN m:Nat) 0 (sA bF m t):=by
 unfold yz CU
 (unfold qt; rw[ae]; unfold mc)
 rw[Gx hm];by_cases h:kJ m=0
 ·rw[if_neg (λq=>q h),show((0:Int) != 0)=false from rfl,cond_false];by_cases h0:t<0
  ·rw[decide_eq_true h0,show(true==false)=false from rfl,cond_false,HQ h h0]; rfl
  rw[decide_eq_false h0,show(false==false)=true from rfl,cond_true];by_cases h1:1125899906842624<t
  ·rw[decide_eq_true h1,cond_true,HR h h0 h1]; rfl
  rw[decide_eq_false h1,cond_false,HS h h0 h1,zl h0 h1];obtain⟨e,hn⟩:=N6 h;rw[e,Gq hN hn,YW hN hn hm h e];show j_ N m t _ _ (sA bF m t) _ _=_;unfold j_;have hL:=D5 bF m t;have hn2:=tO hn;rw[q9 _ (by rw[hL]; exact⟨by omega,by omega⟩)];cases h2:bg (sA bF m t) <;> rfl
 ·rw[if_pos h,bG _ _ h,cond_true,HO h,if_pos h]
theorem GA {N:Nat} (hN:1000<=N) {m:List RY0} (hm:cM N m.length) (t:Int) (k0:Int->Int->Int->Bool) (k1:Int->Int->Int->List Fl->Bool) :
  vi N m t k0 k1=if lN bQ m t ≠ 0 then k0 0 0 (lN bQ m t)else k1 (dmN m:Nat) (dmN m:Nat) 0 (sA bQ m t):=by
 unfold vi CV
 (unfold oS; rw[ae]; unfold j7)
 rw[Gx hm];by_cases h:kJ m=0
 ·rw[if_neg (λq=>q h),show((0:Int) != 0)=false from rfl,cond_false];by_cases h0:t<0
  ·rw[decide_eq_true h0,show(true==false)=false from rfl,cond_false,HQ h h0]; rfl
  rw[decide_eq_false h0,show(false==false)=true from rfl,cond_true];by_cases h1:1125899906842624<t
  ·rw[decide_eq_true h1,cond_true,HR h h0 h1]; rfl
  rw[decide_eq_false h1,cond_false,HS h h0 h1,zl h0 h1];obtain⟨e,hn⟩:=N6 h;rw[e,Gq hN hn,YX hN hn hm h e];show gR N m t _ _ (sA bQ m t) _ _=_;unfold gR;have hL:=D5 bQ m t;have hn2:=tO hn;rw[q9 _ (by rw[hL]; exact⟨by omega,by omega⟩)];cases h2:bg (sA bQ m t) <;> rfl
 ·rw[if_pos h,bG _ _ h,cond_true,HO h,if_pos h]
theorem OQ {N n i j:Nat} (hn:n<=12) (hi:i<n) (hj:j<n) (f:Nat->Nat->Fl) (x:Fl) (k:List Fl->Bool):uj N n n i j x (mf n f) k=k (mf n (λa b=>if a=i/\b=j then x else f a b)):=by obtain⟨h1,h2⟩:=jO (by omega:n<=1000) hi hj;have h3:=mm hi hj;unfold uj yO;rw[jN,aa h1,aa h2,eX,Int.toNat_natCast,aa (ai (by omega) (by omega)),aa (decide_eq_true h3),BI n f hi hj]
def Cs (s:Nat) (b:List Fl) (B:Nat->Nat->Fl):Prop:=b.length=s*s /\ ∀ r c,r<s->c<s->b.getD (r*s+c) none=B r c
theorem Vb {N n p r s:Nat} (hN:1000<=N) (hn:n<=12) (hp:p+s<=n) (hr:r<s) {b:List Fl} {B:Nat->Nat->Fl} (hb:Cs s b B) (g:Nat->Nat->Fl) (what:Int) (d:Fl) (i a:Int) (m:List RY0) (t6 t7 p1 p2:Int) (p3 p4:Fl) (e0:List Fl->Bool) :
  af N (gc N what d p i s a r m t6 t7 n n p1 p2 p3 p4 b e0) (0,mf n g)=e0 (mf n (nV g p r s (B r))):=by
 have z0:((0,mf n g):Int × List Fl)=(λc:Nat=>((c:Int),mf n (nV g p r c (B r)))) 0:=by show _=(((0:Nat):Int),mf n (nV g p r 0 _));rw[DG]; rfl
 rw[z0];refine aC (λc:Nat=>((c:Int),mf n (nV g p r c (B r)))) s (by omega) ?_ ?_
 ·intro c hc K;unfold gc;dsimp only;have h1:=mm hr hc;have hs2:=tO (by omega:s<=12);have e1:(r:Int)*(s:Int)=((r*s:Nat):Int):=(Int.natCast_mul _ _).symm;have e2:((r*s:Nat):Int)+(c:Int)=((r*s+c:Nat):Int):=by omega
  have e3:(p:Int)+(r:Int)=((p+r:Nat):Int):=by omega
  have e4:(p:Int)+(c:Int)=((p+c:Nat):Int):=by omega
  rw[decide_eq_true (by omega:(c:Int)<(s:Int)),cond_true,aa (ab (by omega) (by omega)),aa (ab (by omega) (by omega)),e1,aa (ab (by omega) (by omega)),e2,aa (ab (by omega) (by omega)),hb.1,aa (ai (by omega) (by omega)),Int.toNat_natCast,aa (decide_eq_true h1),e3,e4,OQ hn (by omega) (by omega),hb.2 r c hr hc,DF,aa (ab (by omega) (by omega))];rfl
 ·intro K;unfold gc;dsimp only;rw[decide_eq_false (by omega:¬(s:Int)<(s:Int)),cond_false]
theorem Va {N n p s:Nat} (hN:1000<=N) (hn:n<=12) (hp:p+s<=n) {b:List Fl} {B:Nat->Nat->Fl} (hb:Cs s b B) (g:Nat->Nat->Fl) (what:Int) (d:Fl) (i a:Int) (m:List RY0) (t6 t7 p1 p2:Int) (p3 p4:Fl) (e0:List Fl->Bool) :
  af N (gb N what d p i s a m t6 t7 n n p1 p2 p3 p4 b e0) (0,mf n g)=e0 (mf n (vt g p s s B)):=by
 have z0:((0,mf n g):Int × List Fl)=(λr:Nat=>((r:Int),mf n (vt g p r s B))) 0:=by show _=(((0:Nat):Int),mf n (vt g p 0 s B));rw[KU]; rfl
 rw[z0];refine aC (λr:Nat=>((r:Int),mf n (vt g p r s B))) s (by omega) ?_ ?_
 ·intro r hr K;unfold gb;dsimp only;rw[decide_eq_true (by omega:(r:Int)<(s:Int)),cond_true,Vb hN hn hp hr hb,KT,aa (ab (by omega) (by omega))];rfl
 ·intro K;unfold gb;dsimp only;rw[decide_eq_false (by omega:¬(s:Int)<(s:Int)),cond_false]
theorem U_ {N n p s ax:Nat} (hN:1000<=N) (hn:n<=12) (h1:1<=s) (hp:p+ax*s<=n) {b:List Fl} {B:Nat->Nat->Fl} (hb:Cs s b B) (g:Nat->Nat->Fl) (what:Int) (d:Fl) (i:Int) (m:List RY0) (t6 t7 p1:Int) (p3 p4:Fl) (e0:Int->List Fl->Bool) :
  af N (wQ N what d i s m t6 t7 n n p1 ax p3 p4 b e0) (p,0,mf n g)=e0 ((p+ax*s:Nat):Int) (mf n (axP g p s B ax)):=by
 have z0:(((p:Nat):Int),0,mf n g)=(λt:Nat=>(((p+t*s:Nat):Int),(t:Int),mf n (axP g p s B t))) 0:=by show _=(((p+0*s:Nat):Int),((0:Nat):Int),mf n g);rw[Nat.zero_mul,Nat.add_zero]; rfl
 rw[z0];have hax:ax<=ax*s:=Nat.le_mul_of_pos_right _ (by omega);refine aC (λt:Nat=>(((p+t*s:Nat):Int),(t:Int),mf n (axP g p s B t))) ax (by omega) ?_ ?_
 ·intro t ht K;have hs:(t+1)*s<=ax*s:=Nat.mul_le_mul_right _ ht;rw[Nat.add_mul,Nat.one_mul]at hs;unfold wQ;dsimp only;rw[decide_eq_true (by omega:(t:Int)<(ax:Int)),cond_true,Va hN hn (by omega) hb,aa (ab (by omega) (by omega)),aa (ab (by omega) (by omega))];have e1:((p+t*s:Nat):Int)+s=((p+(t+1)*s:Nat):Int):=by rw[Nat.add_mul,Nat.one_mul]; omega
  rw[e1]; rfl
 ·intro K;unfold wQ;dsimp only;rw[decide_eq_false (by omega:¬(ax:Int)<(ax:Int)),cond_false]
theorem F5 (a:Fl):Cs 1 [a] (B1 [a]):=⟨rfl,λr c hr hc=>by
 obtain rfl:r=0:=by omega
 obtain rfl:c=0:=by omega
 rfl⟩
theorem RN (a b c d:Fl):Cs 2 [a,b,c,d] (B2 [a,b] [c,d]):=⟨rfl,λr q hr hc=>by rcases (by omega:r=0\/r=1)with rfl | rfl <;> rcases (by omega:q=0\/q=1)with rfl | rfl <;> rfl⟩
theorem RO (a b c d e f g h i:Fl):Cs 3 [a,b,c,d,e,f,g,h,i] (B3 [a,b,c] [d,e,f] [g,h,i]):=⟨rfl,λr q hr hc=>by rcases (by omega:r=0\/r=1\/r=2)with rfl | rfl | rfl <;> rcases (by omega:q=0\/q=1\/q=2)with rfl | rfl | rfl <;> rfl⟩
theorem O_ {k:Int} (h:bD k ≠ 0) (h2:¬ k=2) (h3:¬ k=3):bD k=1:=by
 unfold bD at h ⊢
 repeat' split at h
 all_goals simp_all
theorem OH {N:Nat} (p:RY0) (d:Fl) (h:bD p.1 ≠ 0) (k:List Fl->Bool):∃ b,Cs (bD p.1).toNat b (bF p d)/\zA N p.1 p.2.1 p.2.2.1 p.2.2.2 d 0 k=k b:=by
 (unfold zA; rw[ae]; unfold Jl)
 rw[show((0:Int)==0)=true from rfl,cond_true]
 (unfold BZ; rw[ae]; unfold vW)
 have eq1:∀(x:Int) ,p.1=x->(p.1==x)=true:=λx h=>by rw[h]; simp
 have eq0:∀(x:Int) ,¬ p.1=x->(p.1==x)=false:=λx h=>by simp[h]
 unfold bF;by_cases k2:p.1=2
 ·rw[eq1 2 k2,cond_true,if_pos k2,k2];exact⟨_,RN _ _ _ _,rfl⟩
 rw[eq0 2 k2,cond_false,if_neg k2];by_cases k3:p.1=3
 ·rw[eq1 3 k3,cond_true,if_pos k3,k3];exact⟨_,RO _ _ _ _ _ _ _ _ _,rfl⟩
 rw[eq0 3 k3,cond_false,if_neg k3,O_ h k2 k3];by_cases k4:p.1=4
 ·rw[eq1 4 k4,cond_true,if_pos k4];exact⟨_,F5 _,rfl⟩
 rw[eq0 4 k4,cond_false,if_neg k4];exact⟨_,F5 _,rfl⟩
theorem OI {N:Nat} (p:RY0) (d:Fl) (h:bD p.1 ≠ 0) (k:List Fl->Bool):∃ b,Cs (bD p.1).toNat b (bQ p d)/\zA N p.1 p.2.1 p.2.2.1 p.2.2.2 d 1 k=k b:=by
 (unfold zA; rw[ae]; unfold Jl)
 rw[show((1:Int)==0)=false from rfl,cond_false,show((1:Int)==1)=true from rfl,cond_true]
 (unfold xF; rw[ae]; unfold qL)
 have eq1:∀(x:Int) ,p.1=x->(p.1==x)=true:=λx h=>by rw[h]; simp
 have eq0:∀(x:Int) ,¬ p.1=x->(p.1==x)=false:=λx h=>by simp[h]
 unfold bQ;by_cases k0:p.1=0
 ·rw[eq1 0 k0,cond_true,if_neg (by omega),if_neg (by omega),if_neg (by omega),if_neg (by omega),k0];exact⟨_,F5 _,rfl⟩
 rw[eq0 0 k0,cond_false];by_cases k2:p.1=2
 ·rw[eq1 2 k2,cond_true,if_neg (by omega),if_neg (by omega),if_pos k2,k2];exact⟨_,RN _ _ _ _,rfl⟩
 rw[eq0 2 k2,cond_false];by_cases k3:p.1=3
 ·rw[eq1 3 k3,cond_true,if_neg (by omega),if_neg (by omega),if_neg k2,if_pos k3,k3];exact⟨_,RO _ _ _ _ _ _ _ _ _,rfl⟩
 rw[eq0 3 k3,cond_false,O_ h k2 k3];by_cases k1:p.1=1
 ·rw[if_pos k1];exact⟨_,F5 _,rfl⟩
 rw[if_neg k1];by_cases k4:p.1=4
 ·rw[if_pos k4];exact⟨_,F5 _,rfl⟩
 exact absurd (by unfold bD; rw[if_neg k0,if_neg k1,if_neg k4,if_neg k2,if_neg k3]) h
theorem U9 {N n:Nat} (hN:1000<=N) (hn:n<=12) {bl:RY0->Fl->Nat->Nat->Fl} {what:Int} (hw:∀(p:RY0) (d:Fl),bD p.1 ≠ 0 -> ∀ k:List Fl->Bool,∃ b,Cs (bD p.1).toNat b (bl p d)/\zA N p.1 p.2.1 p.2.2.1 p.2.2.2 d what k=k b)
  {m:List RY0} (hm:cM N m.length) (h:kJ m=0) (hd:d7 m m.length=n) (d:Fl) (t6 t7:Int) (e0:List Fl->Bool) :
  af N (ga N what d m t6 t7 n n e0) (0,0,mf n λ_ _=>some 0)=e0 (mf n (ptP m (λp=>bl p d) m.length)):=by
 have hm1:=hm.1;have hm2:=hm.2;have z0:((0,0,mf n λ_ _=>some 0):Int × Int × List Fl)=(λt:Nat=>(d7 m t,(t:Int),mf n (ptP m (λp=>bl p d) t))) 0:=rfl;rw[z0];refine aC (λt:Nat=>(d7 m t,(t:Int),mf n (ptP m (λp=>bl p d) t))) m.length (by omega) ?_ ?_
 ·intro t ht K;obtain⟨p0,ax,hp,ha,hp',ha',hs⟩:=BP h hd ht;have ho:=(pY ((kf h).2.1 t ht)).1;have hb:=J7 (prt m t).1;obtain⟨s,e1⟩:∃ s:Nat,bD (prt m t).1=s:=⟨(bD (prt m t).1).toNat,by omega⟩
  unfold ga;dsimp only;rw[decide_eq_true (by omega:(t:Int)<(m.length:Int)),cond_true,aa (ai (by omega) (by omega)),Int.toNat_natCast,hp,rg];show zA N (prt m t).1 (prt m t).2.1 (prt m t).2.2.1 (prt m t).2.2.2 d what (λb=>af N (wQ N what d t (bD (prt m t).1) m t6 t7 n n (prt m t).1 (prt m t).2.1 (prt m t).2.2.1 (prt m t).2.2.2 b (λf b=>(ac .i64 ((t:Int)+1))&&K (f,(t:Int)+1,b))) ((p0:Int),0,_))=_;obtain⟨b,hf,e⟩:=hw (prt m t) d ho (λb=>af N (wQ N what d t (bD (prt m t).1) m t6 t7 n n (prt m t).1 (prt m t).2.1 (prt m t).2.2.1 (prt m t).2.2.2 b (λf b=>(ac .i64 ((t:Int)+1))&&K (f,(t:Int)+1,b))) ((p0:Int),0,mf n (ptP m (λp=>bl p d) t)));rw[e1,Int.toNat_natCast]at hf;refine e.trans ?_;show af N _ _=_;rw[ha,e1];refine(U_ hN hn (by omega) (hs s e1).1 hf _ _ _ _ _ _ _ _ _ _ _).trans ?_;rw[aa (ab (by omega) (by omega)),(hs s e1).2];have e3:ptP m (λp=>bl p d) (t+1)=axP (ptP m (λp=>bl p d) t) p0 s (bl (prt m t) d) ax:=by show axP (ptP m (λp=>bl p d) t) (d7 m t).toNat (bD (prt m t).1).toNat (bl (prt m t) d) (prt m t).2.1.toNat=_;rw[hp',ha',e1,Int.toNat_natCast]
  rw[e3]; rfl
 ·intro K;unfold ga;dsimp only;rw[decide_eq_false (by omega:¬(m.length:Int)<(m.length:Int)),cond_false]
theorem Ev {N:Nat} {t:Int} (h0:¬ t<0) (h1:¬ 1125899906842624<t) (k:Fl->Int->Bool):Px N t k=k (VI t) 0:=by
 (unfold Px; rw[ae]; unfold Nk)
 rw[decide_eq_false (by omega:¬ t < -1125899906842624),show(false==false)=true from rfl,cond_true,decide_eq_false (by omega:¬ t>1125899906842624),cond_false]; rfl
theorem zq {N:Nat} (hN:1000<=N) {bl:RY0->Fl->Nat->Nat->Fl} {what:Int} (hw:∀(p:RY0) (d:Fl),bD p.1 ≠ 0 -> ∀ k:List Fl->Bool,∃ b,Cs (bD p.1).toNat b (bl p d)/\zA N p.1 p.2.1 p.2.2.1 p.2.2.2 d what k=k b)
  {m:List RY0} (hm:cM N m.length) (t:Int) (k0:Int->Int->Int->Bool) (k1:Int->Int->List Fl->Int->Bool) :
  Km N m t what k0 k1=if lN bl m t ≠ 0 then k0 0 0 (lN bl m t)else k1 (dmN m:Nat) (dmN m:Nat) (sA bl m t) 0:=by
 (unfold Km; rw[ae]; unfold Ns)
 rw[LM hN hm];by_cases h:kJ m=0
 ·rw[if_neg (λq=>q h),show((0:Int) != 0)=false from rfl,cond_false];by_cases h0:t<0
  ·rw[decide_eq_true h0,show(true==false)=false from rfl,cond_false,HQ h h0]; rfl
  rw[decide_eq_false h0,show(false==false)=true from rfl,cond_true];by_cases h1:1125899906842624<t
  ·rw[decide_eq_true h1,cond_true,HR h h0 h1]; rfl
  rw[decide_eq_false h1,cond_false,HS h h0 h1,Ev h0 h1];obtain⟨e,hn⟩:=N6 h;have hn2:=tO hn;rw[e];unfold DM CW;rw[<- Int.natCast_mul,aa (ab (by omega) (by omega)),aa (bT (by omega) (by omega) (by omega) (by omega)),Int.toNat_natCast,Ao];show af N _ _=_;rw[U9 hN hn hw hm h e];unfold BX Ax;have hL:=D5 bl m t;show G8 N (sA bl m t) _=_;rw[mG _ (by rw[hL]; exact⟨by omega,by omega⟩)];cases h2:bg (sA bl m t) <;> rfl
 ·rw[if_pos h,bG _ _ h,cond_true,HO h,if_pos h]
theorem LO {N:Nat} (hN:1000<=N) {m:List RY0} (hm:cM N m.length) (t:Int) (k0:Int->Int->Int->Bool) (k1:Int->Int->List Fl->Int->Bool) :
  ET N m t k0 k1=if lN bF m t ≠ 0 then k0 0 0 (lN bF m t)else k1 (dmN m:Nat) (dmN m:Nat) (sA bF m t) 0:=by
 unfold ET Jq;rw[zq hN (λp d h k=>OH p d h k) hm]
theorem LP {N:Nat} (hN:1000<=N) {m:List RY0} (hm:cM N m.length) (t:Int) (k0:Int->Int->Int->Bool) (k1:Int->Int->List Fl->Int->Bool) :
  As N m t k0 k1=if lN bQ m t ≠ 0 then k0 0 0 (lN bQ m t)else k1 (dmN m:Nat) (dmN m:Nat) (sA bQ m t) 0:=by
 unfold As Jr;rw[zq hN (λp d h k=>OI p d h k) hm]
def Wo (n:Nat) (x p:List Fl):Prop:=n<=12/\x.length=n/\p.length=n*n/\bg x=true/\bg p=true/\qz n p=true/\CG n p=true/\AllW p
theorem v8 {l:List Fl}:bg l=true ↔ ∀ i,i<l.length->bA (l.getD i none)=true:=by unfold bg;exact kH
theorem O5 {n:Nat} (v:Nat->Nat->Fl):qz n (mf n (mir v))=true:=by
 unfold qz;refine kH.2 λi hi=>kH.2 λj hj=>?_
 have hj2:j<n:=by omega
 rw[BH n _ hi hj2,BH n _ hj2 hi];have:mir v i j=mir v j i:=by unfold mir;rw[if_pos (by omega),if_neg (by omega)]
 rw[this];exact decide_eq_true rfl
theorem Mj (x:List Fl) (r c:Int) (p:List Fl) (fr fc:Int) (f:List Fl) (qr qc:Int) (q:List Fl) :
  (∃ e:Int,e ≠ 0 /\ ∀ k0 k1,prK x r c p fr fc f qr qc q k0 k1=k0 0 0 e)\/(∃(n:Nat) (X P:List Fl),Wo n X P /\ ∀ k0 k1,prK x r c p fr fc f qr qc q k0 k1=k1 n n 0 X P):=by
 unfold prK;by_cases h0:vv x r c p ≠ 0
 ·exact .inl ⟨_,h0,λk0 k1=>if_pos h0⟩
 by_cases h1:sqc fr fc f x.length ≠ 0
 ·exact .inl ⟨_,h1,λk0 k1=>by rw[if_neg h0,if_pos h1]⟩
 by_cases h2:sqc qr qc q x.length ≠ 0
 ·exact .inl ⟨_,h2,λk0 k1=>by rw[if_neg h0,if_neg h1,if_pos h2]⟩
 by_cases h3:qz x.length q=false
 ·exact .inl ⟨150,by decide,λk0 k1=>by rw[if_neg h0,if_neg h1,if_neg h2,if_pos h3]⟩
 cases h4:prF x.length x p f q
 ·cases h5:CG x.length (prM x.length p f q)
  ·exact .inl ⟨151,by decide,λk0 k1=>by rw[if_neg h0,if_neg h1,if_neg h2,if_neg h3]; rfl⟩
  ·refine .inr ⟨x.length,vf x.length (prX x.length f x),prM x.length p f q,?_,λk0 k1=>by rw[if_neg h0,if_neg h1,if_neg h2,if_neg h3]; rfl⟩;obtain⟨n,hn,-,-,hxl,-,-,-,-,-⟩:=yi (by simpa using h0);rw[hxl]at h4 h5 ⊢;unfold prF at h4;rw[Bool.or_eq_false_iff,Bool.or_eq_false_iff,Bool.or_eq_false_iff]at h4;refine⟨hn,gl _ _,eX _ _,v8.2 (VU (P:=λx=>bA x=true) (λi hi=>UX (uZ h4.1.1.2 i hi))),IK (ED (IU h4.2)),O5 _,h5,Vg (O4 Vj)⟩
 ·exact .inl ⟨5,by decide,λk0 k1=>by rw[if_neg h0,if_neg h1,if_neg h2,if_neg h3]; rfl⟩
def mvK (x:List Fl) (r c:Int) (p:List Fl) (m:List RY0) (t:Int) (k0:Int->Int->Int->Bool) (k1:Int->Int->Int->List Fl->List Fl->Bool):Bool:=
 if vv x r c p ≠ 0 then k0 0 0 (vv x r c p)else if lN bF m t ≠ 0 then k0 0 0 (lN bF m t)else
 if ((dmN m:Nat):Int) ≠ (x.length:Int)then k0 0 0 3 else if lN bQ m t ≠ 0 then k0 0 0 (lN bQ m t)else
 prK x r c p (dmN m:Nat) (dmN m:Nat) (sA bF m t) (dmN m:Nat) (dmN m:Nat) (sA bQ m t) k0 k1
theorem Mb (x:List Fl) (r c:Int) (p:List Fl) (m:List RY0) (t:Int) :
  (∃ e:Int,e ≠ 0 /\ ∀ k0 k1,mvK x r c p m t k0 k1=k0 0 0 e)\/(∃(n:Nat) (X P:List Fl),Wo n X P /\ ∀ k0 k1,mvK x r c p m t k0 k1=k1 n n 0 X P):=by
 unfold mvK;by_cases h0:vv x r c p ≠ 0
 ·exact .inl ⟨_,h0,λk0 k1=>if_pos h0⟩
 by_cases h1:lN bF m t ≠ 0
 ·exact .inl ⟨_,h1,λk0 k1=>by rw[if_neg h0,if_pos h1]⟩
 by_cases h2:((dmN m:Nat):Int) ≠ (x.length:Int)
 ·exact .inl ⟨3,by decide,λk0 k1=>by rw[if_neg h0,if_neg h1,if_pos h2]⟩
 by_cases h3:lN bQ m t ≠ 0
 ·exact .inl ⟨_,h3,λk0 k1=>by rw[if_neg h0,if_neg h1,if_neg h2,if_pos h3]⟩
 rcases Mj x r c p (dmN m:Nat) (dmN m:Nat) (sA bF m t) (dmN m:Nat) (dmN m:Nat) (sA bQ m t)with⟨e,he,h⟩ | ⟨n,X,P,hT,h⟩
 ·exact .inl ⟨e,he,λk0 k1=>by rw[if_neg h0,if_neg h1,if_neg h2,if_neg h3,h]⟩
 ·exact .inr ⟨n,X,P,hT,λk0 k1=>by rw[if_neg h0,if_neg h1,if_neg h2,if_neg h3,h]⟩
theorem xq (a b:Int) (h:¬ a ≠ b):(a != b)=false:=by have:a=b:=Classical.byContradiction h;simp[this]
theorem OA {N:Nat} (hF:Fuel N) (x:List Fl) (r c:Int) (p:List Fl) {m:List RY0} (hm:cM N m.length) (t:Int) (hwp:AllW p) (k0:Int->Int->Int->Bool) (k1:Int->Int->Int->List Fl->List Fl->Bool) :
  pP N x r c p m t k0 k1=mvK x r c p m t k0 k1:=by
 have hN:=hF.lt
 (unfold pP; rw[ae]; unfold pL mvK)
 rw[Br hF _ _ _ _ hwp];by_cases h0:vv x r c p ≠ 0
 ·rw[if_pos h0,bG _ _ (λq=>h0 q),cond_true]
 rw[if_neg h0,xq _ _ h0,cond_false,Gz (by omega) hm];by_cases h1:lN bF m t ≠ 0
 ·rw[if_pos h1,bG _ _ h1,cond_true,if_pos h1]
 rw[if_neg h1,if_neg h1,show((0:Int) != 0)=false from rfl,cond_false];unfold rU;by_cases h2:((dmN m:Nat):Int) ≠ (x.length:Int)
 ·rw[if_pos h2,bG _ _ h2,cond_true]
 rw[if_neg h2,xq _ _ h2,cond_false,GA (by omega) hm];by_cases h3:lN bQ m t ≠ 0
 ·rw[if_pos h3,bG _ _ h3,cond_true,if_pos h3]
 rw[if_neg h3,if_neg h3,show((0:Int) != 0)=false from rfl,cond_false];unfold rV;rw[Gj hF _ _ _ _ _ _ _ _ _ _ hwp]
theorem Dq {N:Nat} (hF:Fuel N) (x:List Fl) (r c:Int) (p:List Fl) {m:List RY0} (hm:cM N m.length) (t:Int) (hwp:AllW p) (k0:Int->Int->Int->Bool) (k1:Int->Int->Int->List Fl->List Fl->Bool) :
  rJ N x r c p m t k0 k1=mvK x r c p m t k0 k1:=by
 have hN:=hF.lt
 (unfold rJ; rw[ae]; unfold vY mvK)
 rw[zj hF _ _ _ _ hwp];by_cases h0:vv x r c p ≠ 0
 ·rw[if_pos h0,bG _ _ (λq=>h0 q),cond_true]
 rw[if_neg h0,xq _ _ h0,cond_false,LO (by omega) hm];by_cases h1:lN bF m t ≠ 0
 ·rw[if_pos h1,bG _ _ h1,cond_true,if_pos h1]
 rw[if_neg h1,if_neg h1,show((0:Int) != 0)=false from rfl,cond_false];unfold w5;by_cases h2:((dmN m:Nat):Int) ≠ (x.length:Int)
 ·rw[if_pos h2,bG _ _ h2,cond_true]
 rw[if_neg h2,xq _ _ h2,cond_false,LP (by omega) hm];by_cases h3:lN bQ m t ≠ 0
 ·rw[if_pos h3,bG _ _ h3,cond_true,if_pos h3]
 rw[if_neg h3,if_neg h3,show((0:Int) != 0)=false from rfl,cond_false];unfold w6;rw[Eu hF _ _ _ _ _ _ _ _ _ _ hwp]
theorem Bw {N:Nat} {a b:List Fl} (ha:cM N a.length) (hb:cM N b.length) (K:Bool):Q3 N a b (λ_ _=>K)=K:=by
 have ha1:=ha.1; have ha2:=ha.2;have hb1:=hb.1; have hb2:=hb.2
 (unfold Q3; rw[ae]; unfold Sl)
 refine aC (λt:Nat=>((t:Int),spl a t)) a.length (by omega) ?_ ?_
 ·intro t ht K;unfold Ks;dsimp only;rw[decide_eq_true (by omega:(t:Int)<(a.length:Int)),cond_true,E3,aa (ai (by omega) (by omega)),Int.toNat_natCast,aa (decide_eq_true (by omega)),aa (ab (by omega) (by omega))];rfl
 intro _;unfold Ks;dsimp only;rw[decide_eq_false (by omega:¬(a.length:Int)<(a.length:Int)),cond_false];refine aC (λt:Nat=>((t:Int),spl b t)) b.length (by omega) ?_ ?_
 ·intro t ht K;unfold Kr;dsimp only;rw[decide_eq_true (by omega:(t:Int)<(b.length:Int)),cond_true,E3,aa (ai (by omega) (by omega)),Int.toNat_natCast,aa (decide_eq_true (by omega)),aa (ab (by omega) (by omega))];rfl
 intro _;unfold Kr;dsimp only;rw[decide_eq_false (by omega:¬(b.length:Int)<(b.length:Int)),cond_false]
theorem zX {N:Nat} (hF:Fuel N) (x:List Int) (r:Int) (p:List Int) (m:List RY0) (t:Int) (hx:cM N x.length) (hp:cM N p.length) (hm:cM N m.length) (hw:∀ z,z ∈ p->z.toNat<18446744073709551616) :
  sQ1 N x r p m t (λb=>b)=true:=by
 have hN:=hF.lt;have hW:=Vk hw;have sx:=B4 hx;have sp:=B4 hp;unfold sQ1 GQ1;rw[yk hx hp];dsimp only;rw[OA hF _ _ _ _ hm _ hW];rcases Mb (CF x) r r (CF p) m t with⟨e,-,h⟩ | ⟨n,X,P,hT,h⟩
 ·rw[h,yk hx hp]
  try dsimp only
  rw[Dq hF _ _ _ _ hm _ hW,h,Bw sx sp,Iv (by omega),Dl (by omega)];have:(e==e)=true:=by simp
  rw[this]; rfl
 ·rw[h,yk hx hp]
  try dsimp only
  rw[Dq hF _ _ _ _ hm _ hW,h];obtain⟨h1,h2,h3,h4,h5,-⟩:=hT;have n2:n*n<=144:=tO h1;rw[Bw sx sp,Do ⟨by omega,by omega⟩ ⟨by omega,by omega⟩ (λi hi=>Hz (v8.1 h4 i hi)) (λi hi=>Hz (v8.1 h5 i hi)),Dl (by omega)];rfl
end Go.Proofs.YtbiingchhnlcnaaGreatDoor
end
