/- Laws in plain Lean. Conditions: none. -/
import Derived.Test.YtbiingchhnlcnaaGreatDoorX0
import Derived.Test.YtbiingchhnlcnaaGreatDoorC1
import Derived.Test.YtbiingchhnlcnaaGreatDoorFlA
set_option linter.unusedVariables false
section
namespace Go.Proofs.YtbiingchhnlcnaaGreatDoor
open Go Go.Mach Ieee
theorem I1 {N n i j:Nat} (hn:n<=12) (hi:i<n) (hj:j<n) {l:List Fl} (h:l.length=n*n) (k:Fl->Bool):pz N n n l i j k=k (elt l n i j):=by obtain⟨h1,h2⟩:=eR (by omega:n<=1000) hi hj;have h3:=iF hi hj;unfold pz yl elt;rw[eQ,aa h1,aa h2,h,Int.toNat_natCast,aa (ai (by omega) (by omega))]
theorem FL {N n i j:Nat} (hn:n<=12) (hi:i<n) (hj:j<n) {l:List Fl} (h:l.length=n*n) (k:Fl->Bool):xm N n n l i j k=k (elt l n i j):=by obtain⟨h1,h2⟩:=eR (by omega:n<=1000) hi hj;have h3:=iF hi hj;unfold xm Es elt;rw[eQ,aa h1,aa h2,h,Int.toNat_natCast,aa (ai (by omega) (by omega))]
def rF (n:Nat) (l:List Fl):Bool:=sN (λi=>sN (λj=>decide (cn (elt l n i j)=cn (elt l n j i))) i) n
theorem IW {N n:Nat} (hN:1000<=N) (hn:n<=12) {l:List Fl} (h:l.length=n*n) (hf:bb l=true) (k:Bool->Bool):PU N n n l k=k (rF n l):=by
 (unfold PU; rw[ae]; unfold Ra)
 rw[q9 hN,Ac hn h hf,show(((0:Int) != 0)==false)=true from rfl,cond_true];have:((n:Int) != (n:Int))=false:=by simp
 rw[this,cond_false];have hk:k (rF n l)=cond (rF n l) (k true) (k false):=by cases rF n l <;> rfl
 rw[hk];refine n_ (λt:Nat=>(t:Int)) (λi=>sN (λj=>decide (cn (elt l n i j)=cn (elt l n j i))) i) n (by omega) ?_ ?_
 ·intro i hi K;unfold Eg;dsimp only;rw[decide_eq_true (by omega:(i:Int)<(n:Int)),cond_true];refine(n_ (λt:Nat=>(t:Int)) (λj=>decide (cn (elt l n i j)=cn (elt l n j i))) i (N:=N) (by omega) (ex:=k false) (out:=K (((i+1:Nat):Int))) ?_ ?_:_)
  ·intro j hj K';have hj2:j<n:=by omega
   unfold Eh;dsimp only;rw[decide_eq_true (by omega:(j:Int)<(i:Int)),cond_true,I1 hn hi hj2 h,I1 hn hj2 hi h];unfold Oe;dsimp only;by_cases he:cn (elt l n i j)=cn (elt l n j i)
   ·rw[decide_eq_true he,show(!true)=false from rfl,cond_false,cond_true,aa (ab (by omega) (by omega))];rfl
   ·rw[decide_eq_false he,show(!false)=true from rfl,cond_true,cond_false]
  ·intro K';unfold Eh;dsimp only;rw[decide_eq_false (by omega:¬(i:Int)<(i:Int)),cond_false,aa (ab (by omega) (by omega))];rfl
 ·intro K;unfold Eg;dsimp only;rw[decide_eq_false (by omega:¬(n:Int)<(n:Int)),cond_false]
theorem Kw {N:Nat} (r c:Int) (n:Int) (k:Int->Bool):tV N r c n k=k (if (0<=r/\r<=12)/\(0<=c/\c<=12)then(if n=r*c then 0 else 3)else 1):=by
 (unfold tV; rw[ae]; unfold sK)
 by_cases h1:r<0
 ·rw[decide_eq_true h1,if_neg (by omega)]; rfl
 ·rw[decide_eq_false h1];by_cases h2:r>12
  ·rw[decide_eq_true h2,if_neg (by omega)]; rfl
  ·rw[decide_eq_false h2];by_cases h3:c<0
   ·rw[decide_eq_true h3,if_neg (by omega)]; rfl
   ·rw[decide_eq_false h3];by_cases h4:c>12
    ·rw[decide_eq_true h4,if_neg (by omega)]; rfl
    ·have hr:0<=r/\r<=12:=by omega
     have hc:0<=c/\c<=12:=by omega
     rw[decide_eq_false h4,if_pos ⟨hr,hc⟩,PB hr hc];by_cases h5:n=r*c
     ·have:(n != r*c)=false:=by simp[h5]
      rw[this,if_pos h5]; rfl
     ·have:(n != r*c)=true:=by simp[h5]
      rw[this,if_neg h5]; rfl
theorem Fw {N:Nat} (hN:1000<=N) (r c:Int) (l:List Fl) (k:Int->Bool):rC N r c l k=k (chk r c l):=by
 (unfold rC; rw[ae]; unfold vK chk)
 rw[Kw];by_cases h1:(0<=r/\r<=12)/\(0<=c/\c<=12)
 ·rw[if_pos h1,if_pos h1];by_cases h2:(l.length:Int)=r*c
  ·have h3:=I7 h1.1 h1.2;have h6:l.length<=144:=by rw[<- h2]at h3; omega
   rw[if_pos h2,if_pos h2,show((0:Int) != 0)=false from rfl,cond_false,BP l ⟨by omega,by omega⟩];cases bb l <;> rfl
  ·rw[if_neg h2,if_neg h2]; rfl
 ·rw[if_neg h1,if_neg h1]; rfl
theorem Nq {N n:Nat} (hN:1000<=N) (hn:n<=12) {l:List Fl} (h:l.length=n*n) (hf:bb l=true) (k:Int->Bool):Jg N n n l k=k (if rF n l=true then 0 else 91):=by
 (unfold Jg; rw[ae]; unfold Lt)
 rw[Fw hN,Ac hn h hf,show((0:Int) != 0)=false from rfl,cond_false];have:((n:Int) != (n:Int))=false:=by simp
 rw[this,cond_false];have hk:k (if rF n l=true then 0 else 91)=cond (rF n l) (k 0) (k 91):=by cases rF n l <;> rfl
 rw[hk];refine n_ (λt:Nat=>(t:Int)) (λi=>sN (λj=>decide (cn (elt l n i j)=cn (elt l n j i))) i) n (by omega) ?_ ?_
 ·intro i hi K;unfold fW;dsimp only;rw[decide_eq_true (by omega:(i:Int)<(n:Int)),cond_true];refine(n_ (λt:Nat=>(t:Int)) (λj=>decide (cn (elt l n i j)=cn (elt l n j i))) i (N:=N) (by omega) (ex:=k 91) (out:=K (((i+1:Nat):Int))) ?_ ?_:_)
  ·intro j hj K';have hj2:j<n:=by omega
   unfold fX;dsimp only;rw[decide_eq_true (by omega:(j:Int)<(i:Int)),cond_true,FL hn hi hj2 h,FL hn hj2 hi h,DE];by_cases he:cn (elt l n i j)=cn (elt l n j i)
   ·rw[decide_eq_true he,show(!true)=false from rfl,cond_false,cond_true,aa (ab (by omega) (by omega))];rfl
   ·rw[decide_eq_false he,show(!false)=true from rfl,cond_true,cond_false]
  ·intro K';unfold fX;dsimp only;rw[decide_eq_false (by omega:¬(i:Int)<(i:Int)),cond_false,aa (ab (by omega) (by omega))];rfl
 ·intro K;unfold fW;dsimp only;rw[decide_eq_false (by omega:¬(n:Int)<(n:Int)),cond_false]
theorem MG {x:Fl} (h:be x=true):cn x=x:=by obtain⟨b,rfl,hb⟩:=S5 h;simp only[cn,hb]; rfl
theorem Ov {n:Nat} {l:List Fl} (h:l.length=n*n) (hf:bb l=true) (hs:rF n l=true):Ml n l:=by
 have key:∀ i j,j<i->i<n->elt l n i j=elt l n j i:=by
  intro i j hj hi;have h1:=kT.1 (kT.1 hs i hi) j hj;have h2:=of_decide_eq_true h1;have hj2:j<n:=by omega
  have e1:=iF hi hj2;have e2:=iF hj2 hi;rw[MG (x:=elt l n i j) (ov hf (by omega)),MG (x:=elt l n j i) (ov hf (by omega))]at h2;exact h2
 intro a b ha hb;show rn (ofE (elt l n a b))=rn (ofE (elt l n b a));rcases Nat.lt_trichotomy a b with h1 | h1 | h1
 ·rw[key b a h1 hb]
 ·rw[h1]
 ·rw[key a b h1 ha]
def lY (x:List Fl) (r c:Int) (l:List Fl):Int:=
 if chk r c l ≠ 0 then chk r c l else if r ≠ c then 3 else if (x.length:Int) ≠ r then 3 else if bb x=false then 4 else if rF r.toNat l=false then 150 else if xe r.toNat l=false then 151 else 0
theorem mB {x:List Fl} {r c:Int} {l:List Fl} (h:lY x r c l=0):∃ n:Nat,n<=12/\r=n/\c=n/\x.length=n/\l.length=n*n/\bb x=true/\bb l=true/\rF n l=true/\xe n l=true:=by
 unfold lY at h;split at h
 ·exact absurd h (by assumption)
 ·rename_i h0;have h0:chk r c l=0:=by simpa using h0
  have q:=sT.1 h0;split at h
  ·cases h
  ·rename_i h1;split at h
   ·cases h
   ·rename_i h2;split at h
    ·cases h
    ·rename_i h3;split at h
     ·cases h
     ·rename_i h4;split at h
      ·cases h
      ·rename_i h5;obtain⟨n,hn⟩:∃ n:Nat,r=n:=⟨r.toNat,by omega⟩
       have h1:r=c:=by simpa using h1
       subst hn;subst h1;rw[Int.toNat_natCast]at h4 h5;refine⟨n,by omega,rfl,rfl,by omega,by exact_mod_cast q.2.1,by simpa using h3,q.2.2,by simpa using h4,by simpa using h5⟩
theorem oG {N:Nat} (hF:Fuel N) (x:List Fl) (r c:Int) (l:List Fl) (hw:AllW l) (k:Int->Bool):dj N x r c l k=k (lY x r c l):=by
 have hN:=hF.lt
 (unfold dj; rw[ae]; unfold ol lY)
 rw[q9 (by omega)];by_cases h0:chk r c l=0
 ·have q:=sT.1 h0;rw[h0,if_neg (λh=>h rfl),show((0:Int) != 0)=false from rfl,cond_false];by_cases h1:r=c
  ·subst h1;have e1:((r != r)==false)=true:=by simp
   rw[if_neg (λh=>h rfl),e1,cond_true];obtain⟨n,hn⟩:∃ n:Nat,r=n:=⟨r.toNat,by omega⟩
   subst hn;by_cases h2:(x.length:Int)=n
   ·have e2:(((x.length:Nat):Int) != (n:Int))=false:=by simp[h2]
    have hl:l.length=n*n:=by exact_mod_cast q.2.1
    have hn12:n<=12:=by omega
    rw[e2,cond_false,if_neg (λh=>h h2),iG x ⟨by omega,by omega⟩];cases h3:bb x
    ·rfl
    ·rw[show(!true)=false from rfl,cond_false,if_neg (by decide),IW (by omega) hn12 hl q.2.2,Int.toNat_natCast];cases h4:rF n l
     ·rfl
     ·rw[show(!true)=false from rfl,cond_false,if_neg (by decide),nR hF hn12 hl q.2.2 hw (Ov hl q.2.2 h4)];cases xe n l <;> rfl
   ·have e2:(((x.length:Nat):Int) != (n:Int))=true:=by simp[h2]
    rw[e2,cond_true,if_pos h2]
  ·have e1:((r != c)==false)=false:=by simp[h1]
   rw[e1,cond_false,if_pos h1]
 ·have e0:(chk r c l != 0)=true:=by simp[h0]
  rw[e0,cond_true,if_pos h0]
theorem Tu {l:List Int} (h:∀ z,z ∈ l->z.toNat<18446744073709551616):AllW (zr l):=by intro x hx;unfold zr at hx;obtain⟨z,hz,rfl⟩:=List.mem_map.1 hx;exact MA (h z hz)
def mf (n:Nat) (f:Nat->Nat->Fl):List Fl:=(List.range (n*n)).map (λt=>f (t / n) (t%n))
theorem cR (n:Nat) (f:Nat->Nat->Fl):(mf n f).length=n*n:=by unfold mf; rw[List.length_map,List.length_range]
theorem zJ (n:Nat) (f:Nat->Nat->Fl) {i j:Nat} (hi:i<n) (hj:j<n) (z:Fl):(mf n f).getD (i*n+j) z=f i j:=by have h:=ke hi hj;unfold mf;rw[List.getD_eq_getElem?_getD,List.getElem?_map,List.getElem?_range h];simp only[Option.map_some,Option.getD_some,zD hj,zE hj]
theorem DK (n:Nat) (f:Nat->Nat->Fl) {i j:Nat} (hi:i<n) (hj:j<n):elt (mf n f) n i j=f i j:=zJ n f hi hj none
theorem lm (n:Nat) {f f':Nat->Nat->Fl} (h:∀ a b,a<n->b<n->f a b=f' a b):mf n f=mf n f':=by
 unfold mf;apply List.map_congr_left;intro t ht;have ht:=List.mem_range.1 ht;have hn:0<n:=by
  rcases Nat.eq_zero_or_pos n with h0 | h0
  ·rw[h0]at ht; omega
  ·exact h0
 rw[h _ _ (Nat.div_lt_of_lt_mul ht) (Nat.mod_lt _ hn)]
theorem wh (n:Nat) (f:Nat->Nat->Fl) {i j:Nat} (hi:i<n) (hj:j<n) (v:Fl):(mf n f).set (i*n+j) v=mf n (λa b=>if a=i/\b=j then v else f a b):=by
 have h:=ke hi hj;apply List.ext_getElem?;intro t;by_cases ht:t<n*n
 ·have hn:0<n:=by omega
  rw[List.getElem?_set];unfold mf;rw[List.getElem?_map,List.getElem?_map,List.getElem?_range ht];simp only[List.length_map,List.length_range,Option.map_some];by_cases he:i*n+j=t
  ·rw[if_pos he,if_pos h,<- he,zD hj,zE hj,if_pos ⟨rfl,rfl⟩]
  ·rw[if_neg he];have:¬(t / n=i/\t%n=j):=by rintro ⟨h1,h2⟩;apply he;rw[<- h1,<- h2,Nat.mul_comm];exact Nat.div_add_mod t n
   rw[if_neg this]
 ·rw[List.getElem?_eq_none (by rw[List.length_set,cR]; omega),List.getElem?_eq_none (by rw[cR]; omega)]
theorem zK (n:Nat):List.replicate (n*n) (some 0)=mf n (λ_ _=>some 0):=by
 apply List.ext_getElem?;intro t;unfold mf;rw[List.getElem?_map,List.getElem?_replicate];by_cases ht:t<n*n
 ·rw[if_pos ht,List.getElem?_range ht]; rfl
 ·rw[if_neg ht,List.getElem?_eq_none (by rw[List.length_range]; omega)]; rfl
theorem DM (n:Nat) (f:Nat->Nat->Fl) {i j:Nat} (hi:i<n) (hj:j<n):(mf n f).take (i*n+j)++[f i j]=(mf n f).take (i*n+j+1):=by
 have h:=ke hi hj;have hl:i*n+j<(mf n f).length:=by rw[cR]; exact h
 rw[List.take_succ_eq_append_getElem hl];have:=zJ n f hi hj none;rw[List.getD_eq_getElem?_getD,List.getElem?_eq_getElem hl]at this;rw[<- this]; rfl
def vf (n:Nat) (g:Nat->Fl):List Fl:=(List.range n).map g
theorem dG (n:Nat) (g:Nat->Fl):(vf n g).length=n:=by unfold vf; rw[List.length_map,List.length_range]
theorem pI (n:Nat) (g:Nat->Fl) {i:Nat} (hi:i<n) (z:Fl):(vf n g).getD i z=g i:=by unfold vf;rw[List.getD_eq_getElem?_getD,List.getElem?_map,List.getElem?_range hi]; rfl
theorem Ju (n:Nat) (g:Nat->Fl) {i:Nat} (hi:i<n):(vf n g).take i++[g i]=(vf n g).take (i+1):=by
 have hl:i<(vf n g).length:=by rw[dG]; exact hi
 rw[List.take_succ_eq_append_getElem hl];have:=pI n g hi none;rw[List.getD_eq_getElem?_getD,List.getElem?_eq_getElem hl]at this;rw[<- this]; rfl
theorem Em (n:Nat) (g:Nat->Fl) {i:Nat} (hi:i<n):((vf n g).take i++List.replicate (n - i) (some 0)).set i (g i)=(vf n g).take (i+1)++List.replicate (n - (i+1)) (some 0):=by have:=Ff (vf n g) (some 0) (t:=i) (by rw[dG]; exact hi);rw[dG,pI n g hi]at this;exact this
theorem uf (n:Nat) (g:Nat->Fl) {i:Nat} (hi:i<=n):((vf n g).take i++List.replicate (n - i) (some 0)).length=n:=by have:=Fe (vf n g) (some 0) (t:=i) (by rw[dG]; exact hi);rw[dG]at this;exact this
def dV (f g:Nat->Fl):Nat->Fl
 | 0=>some 0
 | t+1=>ep (dV f g t) (aF (f t) (g t))
def dO (f g:Nat->Fl):Nat->Bool
 | 0=>false
 | t+1=>(dO f g t || !be (aF (f t) (g t))) || !be (dV f g (t+1))
def orB (p:Nat->Bool):Nat->Bool
 | 0=>false
 | t+1=>orB p t||p t
theorem iY {p:Nat->Bool}:∀{n:Nat},orB p n=false -> ∀ i,i<n->p i=false
 | 0,_,i,hi=>by omega
 | n+1,h,i,hi=>by
  unfold orB at h;rw[Bool.or_eq_false_iff]at h;rcases Nat.lt_or_ge i n with h1 | h1
  ·exact iY h.1 i h1
  ·rw[show i=n by omega]; exact h.2
theorem Te {f g:Nat->Fl}:∀{n:Nat},dO f g n=false->be (dV f g n)=true
 | 0,_=>rfl
 | n+1,h=>by unfold dO at h;rw[Bool.or_eq_false_iff]at h;simpa using h.2
theorem qR (o:Bool) (f g:Nat->Fl) (t:Nat):((o||dO f g t) || !be (aF (f t) (g t)) || !be (ep (dV f g t) (aF (f t) (g t))))=(o||dO f g (t+1)):=by show _=(o||((dO f g t || !be (aF (f t) (g t))) || !be (ep (dV f g t) (aF (f t) (g t)))));simp only[Bool.or_assoc]
theorem qt (o:Bool):(o||false)=o:=by cases o <;> rfl
theorem Nf {N n:Nat} (hN:1000<=N) (hn:n<=100) {a b:List Fl} {f g:Nat->Fl} (ha:a.length=n) (hb:n<=b.length) (hbs:b.length<=1000) (hf:∀ i,i<n->a.getD i none=f i) (hg:∀ i,i<n->b.getD i none=g i) (o:Bool) (k:Fl->Bool->Bool) :
  tO N a b o k=k (dV f g n) (o||dO f g n):=by
 (unfold tO; rw[ae]; unfold sv)
 have h0:((some 0,0,o):Fl × Int × Bool)=(λt:Nat=>(dV f g t,(t:Int),o||dO f g t)) 0:=by show _=(some 0,((0:Nat):Int),o||false); rw[qt]; rfl
 rw[h0];refine aD (λt:Nat=>(dV f g t,(t:Int),o||dO f g t)) n (by omega) ?_ ?_
 ·intro t ht K;unfold lL;dsimp only;rw[decide_eq_true (by omega:(t:Int)<(a.length:Int)),cond_true,aa (ai (by omega) (by omega)),aa (ai (by omega) (by omega)),Int.toNat_natCast,hf t ht,hg t ht,Dx,zG,aa (ab (by omega) (by omega)),qR];rfl
 ·intro K;unfold lL;dsimp only;rw[decide_eq_false (by omega:¬(n:Int)<(a.length:Int)),cond_false]
theorem Ka {N n:Nat} (hN:1000<=N) (hn:n<=100) {a b:List Fl} {f g:Nat->Fl} (ha:a.length=n) (hb:n<=b.length) (hbs:b.length<=1000) (hf:∀ i,i<n->a.getD i none=f i) (hg:∀ i,i<n->b.getD i none=g i) (o:Bool) (k:Fl->Bool->Bool) :
  N9 N a o b k=k (dV f g n) (o||dO f g n):=by
 (unfold N9; rw[ae]; unfold LV)
 have h0:((some 0,0,o):Fl × Int × Bool)=(λt:Nat=>(dV f g t,(t:Int),o||dO f g t)) 0:=by show _=(some 0,((0:Nat):Int),o||false); rw[qt]; rfl
 rw[h0];refine aD (λt:Nat=>(dV f g t,(t:Int),o||dO f g t)) n (by omega) ?_ ?_
 ·intro t ht K;unfold ja;dsimp only;rw[decide_eq_true (by omega:(t:Int)<(a.length:Int)),cond_true,aa (ai (by omega) (by omega)),aa (ai (by omega) (by omega)),Int.toNat_natCast,aa (decide_eq_true (by omega)),hf t ht,hg t ht,Dx,zG,aa (ab (by omega) (by omega)),qR];rfl
 ·intro K;unfold ja;dsimp only;rw[decide_eq_false (by omega:¬(n:Int)<(a.length:Int)),cond_false]
theorem J_ {N n s:Nat} (hN:1000<=N) (hn:n<=100) {a b:List Fl} {f g:Nat->Fl} (ha:s+n<=a.length) (hb:n<=b.length) (hbs:b.length<=1000) (hf:∀ i,i<n->a.getD (s+i) none=f i) (hg:∀ i,i<n->b.getD i none=g i) (o:Bool) (k:Fl->Bool->Bool) :
  N8 N s n b o a k=k (dV f g n) (o||dO f g n):=by
 (unfold N8; rw[ae]; unfold LU)
 have h0:((some 0,0,o):Fl × Int × Bool)=(λt:Nat=>(dV f g t,(t:Int),o||dO f g t)) 0:=by show _=(some 0,((0:Nat):Int),o||false); rw[qt]; rfl
 rw[h0];refine aD (λt:Nat=>(dV f g t,(t:Int),o||dO f g t)) n (by omega) ?_ ?_
 ·intro t ht K;unfold i9;dsimp only;rw[decide_eq_true (by omega:(t:Int)<(n:Int)),cond_true,aa (ai (by omega) (by omega)),Int.toNat_natCast,aa (decide_eq_true (by omega)),aa (ai (by omega) (by omega)),hf t ht,hg t ht,Dx,zG,aa (ab (by omega) (by omega)),qR];rfl
 ·intro K;unfold i9;dsimp only;rw[decide_eq_false (by omega:¬(n:Int)<(n:Int)),cond_false]
def NX (l:List Fl) (n i:Nat):List Fl:=List.drop (i*n) (List.take ((i+1)*n) l)
theorem xY {n i:Nat} (hi:i<n):(i+1)*n<=n*n:=Nat.mul_le_mul_right _ hi
theorem tL {l:List Fl} {n i:Nat} (h:l.length=n*n) (hi:i<n):(NX l n i).length=n:=by have:=xY hi;unfold NX;rw[List.length_drop,List.length_take,h,Nat.min_eq_left this,Nat.add_mul]; omega
theorem uQ {l:List Fl} {n i j:Nat} (h:l.length=n*n) (hi:i<n) (hj:j<n):(NX l n i).getD j none=elt l n i j:=by
 unfold NX elt;have h1:(i+1)*n=i*n+n:=by rw[Nat.add_mul]; omega
 rw[List.getD_eq_getElem?_getD,List.getElem?_drop,List.getElem?_take,if_pos (by omega),List.getD_eq_getElem?_getD]
theorem CT {n i:Nat} (hn:n<=100) (hi:i<n) {L:Nat} (hL:L=n*n):ac .i64 ((i:Int)*(n:Int))=true/\ac .i64 ((i:Int)+1)=true/\ac .i64 (((i:Int)+1)*(n:Int))=true/\decide (0<=(i:Int)*(n:Int)/\(i:Int)*(n:Int)<=((i:Int)+1)*(n:Int)/\((i:Int)+1)*(n:Int)<=(L:Int))=true/\Int.toNat ((i:Int)*(n:Int))=i*n/\Int.toNat (((i:Int)+1)*(n:Int))=(i+1)*n:=by
 have h1:=xY hi;have h2:n*n<=100*100:=Nat.mul_le_mul hn hn;have e1:(i:Int)*(n:Int)=((i*n:Nat):Int):=by rw[Int.natCast_mul]
 have e2:((i:Int)+1)*(n:Int)=(((i+1)*n:Nat):Int):=by rw[Int.natCast_mul]; rfl
 have h3:(i+1)*n=i*n+n:=by rw[Nat.add_mul]; omega
 rw[e1,e2];exact⟨ab (by omega) (by omega),ab (by omega) (by omega),ab (by omega) (by omega),decide_eq_true ⟨by omega,by omega,by omega⟩,Int.toNat_natCast _,Int.toNat_natCast _⟩
theorem zH {N n i:Nat} (hn:n<=100) (hi:i<n) {l:List Fl} (h:l.length=n*n) (k:List Fl->Bool):i5 N n n l i k=k (NX l n i):=by
 obtain⟨a,b,c,d,e,f⟩:=CT hn hi h
 (unfold i5; rw[ae]; unfold qJ)
 rw[aa a,aa b,aa c,aa d,e,f];rfl
theorem PD (n i:Nat):(i+1)*n - i*n=n:=by rw[Nat.add_mul]; omega
theorem w9 {N n i:Nat} (hn:n<=100) (hi:i<n) {l:List Fl} (h:l.length=n*n) (k:Nat->Nat->Bool):fD N n n i l k=k (i*n) n:=by
 obtain⟨a,b,c,d,e,f⟩:=CT hn hi h
 (unfold fD; rw[ae]; unfold oq)
 rw[aa a,aa b,aa c,aa d,e,f,PD]
theorem IX {N n j:Nat} (hN:1000<=N) (hn:n<=100) (hj:j<n) {l:List Fl} (h:l.length=n*n) (k:List Fl->Bool):nV N n n l j k=k (vf n (λt=>elt l n t j)):=by
 (unfold nV; rw[ae]; unfold qI)
 have hn2:n*n<=100*100:=Nat.mul_le_mul hn hn;rw[Int.toNat_natCast,List.length_replicate,aa (bP (by omega) (by omega) (by omega) (by omega))];have h0:List.replicate n (some 0)=(vf n (λt=>elt l n t j)).take 0++List.replicate (n - 0) (some 0):=rfl;rw[h0];refine aD (λt:Nat=>((t:Int),(vf n (λt=>elt l n t j)).take t++List.replicate (n - t) (some 0))) n (by omega) ?_ ?_
 ·intro t ht K;unfold ki;dsimp only;obtain⟨h1,h2⟩:=eR (by omega:n<=1000) ht hj;have h3:=iF ht hj;have hl:=uf n (λt=>elt l n t j) (i:=t) (by omega);have hs:=Em n (λt=>elt l n t j) ht;generalize List.take t (vf n λt=>elt l n t j)++List.replicate (n - t) (some 0)=L at *;rw[decide_eq_true (by omega:(t:Int)<(n:Int)),cond_true,eQ,aa h1,aa h2,aa (ai (by omega) (by omega)),aa (ai (by omega) (by omega)),Int.toNat_natCast,aa (decide_eq_true (by omega)),aa (ab (by omega) (by omega)),Int.toNat_natCast];exact congrArg (λl=>K ((t:Int)+1,l)) hs
 ·intro K;unfold ki;dsimp only;rw[decide_eq_false (by omega:¬(n:Int)<(n:Int)),cond_false,Nat.sub_self,List.replicate_zero,List.append_nil,List.take_of_length_le (by rw[dG]; omega)]
def prV (n:Nat) (f p:List Fl):Nat->Nat->Fl:=λi j=>dV (λt=>elt f n i t) (λt=>elt p n t j) n
def prO (n:Nat) (f p:List Fl):Nat->Nat->Bool:=λi j=>dO (λt=>elt f n i t) (λt=>elt p n t j) n
def orM (n:Nat) (p:Nat->Nat->Bool):Bool:=orB (λi=>orB (λj=>p i j) n) n
theorem gN (o:Bool) (p:Nat->Bool) (t:Nat):((o||orB p t)||p t)=(o||orB p (t+1)):=by show _=(o||(orB p t||p t)); rw[Bool.or_assoc]
theorem Bz (n:Nat) (f:Nat->Nat->Fl):(mf n f).take (n*n)=mf n f:=List.take_of_length_le (by rw[cR]; omega)
theorem nk (n i:Nat):i*n+n=(i+1)*n:=by rw[Nat.add_mul]; omega
theorem FP {N n:Nat} (hN:1000<=N) (hn:n<=12) {f p:List Fl} (hf:f.length=n*n) (hp:p.length=n*n) (o:Bool) (k:Bool->List Fl->Bool) :
  jx N n n f n n p o k=k (o||orM n (prO n f p)) (mf n (prV n f p)):=by
 (unfold jx; rw[ae]; unfold jq)
 have hn2:n*n<=144:=tD hn;have h0:((0,o,[]):Int × Bool × List Fl)=(λi:Nat=>((i:Int),o||orB (λi=>orB (λj=>prO n f p i j) n) i,(mf n (prV n f p)).take (i*n))) 0:=by show _=(((0:Nat):Int),o||false,List.take (0*n) _); rw[qt,Nat.zero_mul]; rfl
 rw[h0];refine aD (λi:Nat=>((i:Int),o||orB (λi=>orB (λj=>prO n f p i j) n) i,(mf n (prV n f p)).take (i*n))) n (by omega) ?_ ?_
 ·intro i hi K;unfold dN;dsimp only;rw[decide_eq_true (by omega:(i:Int)<(n:Int)),cond_true];generalize ho1:(o||orB (λi=>orB (λj=>prO n f p i j) n) i)=o1;have h1:((0,o1,(mf n (prV n f p)).take (i*n)):Int × Bool × List Fl)=(λj:Nat=>((j:Int),o1||orB (λj=>prO n f p i j) j,(mf n (prV n f p)).take (i*n+j))) 0:=by show _=(((0:Nat):Int),o1||false,List.take (i*n+0) _); rw[qt]; rfl
  rw[h1];refine(aD (λj:Nat=>((j:Int),o1||orB (λj=>prO n f p i j) j,(mf n (prV n f p)).take (i*n+j))) n (N:=N) (by omega) (out:=K ((((i+1:Nat)):Int),o||orB (λi=>orB (λj=>prO n f p i j) n) (i+1),(mf n (prV n f p)).take ((i+1)*n))) ?_ ?_:_)
  ·intro j hj K';have hij:=iF hi hj;unfold dP;dsimp only;rw[decide_eq_true (by omega:(j:Int)<(n:Int)),cond_true,zH (by omega) hi hf,IX hN (by omega) hj hp,
    Ka (n:=n) (f:=λt=>elt f n i t) (g:=λt=>elt p n t j) hN (by omega) (tL hf hi) (by rw[dG]; omega) (by rw[dG]; omega) (λt ht=>uQ hf hi ht) (λt ht=>pI n _ ht none)]
   have e:dV (λt=>elt f n i t) (λt=>elt p n t j) n=prV n f p i j:=rfl;have e2:dO (λt=>elt f n i t) (λt=>elt p n t j) n=prO n f p i j:=rfl;rw[e,e2,DM n (prV n f p) hi hj,aa (decide_eq_true (by rw[List.length_take,cR]; omega)),aa (ab (by omega) (by omega)),gN o1 (λj=>prO n f p i j) j];rfl
  ·intro K';unfold dP;dsimp only;rw[decide_eq_false (by omega:¬(n:Int)<(n:Int)),cond_false,aa (ab (by omega) (by omega)),<- ho1,nk,gN o (λi=>orB (λj=>prO n f p i j) n) i];rfl
 ·intro K;unfold dN;dsimp only;rw[decide_eq_false (by omega:¬(n:Int)<(n:Int)),cond_false,Bz];rfl
def mir (v:Nat->Nat->Fl):Nat->Nat->Fl:=λa b=>if b<=a then v a b else v b a
def mS (v:Nat->Nat->Fl) (i j:Nat):Nat->Nat->Fl:=λa b=>if max a b<i\/(max a b=i/\min a b<j)then mir v a b else some 0
theorem DJ (n:Nat) (v:Nat->Nat->Fl):mf n (λ_ _=>some 0)=mf n (mS v 0 0):=lm n (λa b _ _=>by unfold mS; rw[if_neg (by omega)])
theorem HU (n:Nat) (v:Nat->Nat->Fl) (i:Nat):mf n (mS v i (i+1))=mf n (mS v (i+1) 0):=lm n (λa b _ hb=>by
 unfold mS;by_cases h2:max a b<i\/(max a b=i/\min a b<i+1)
 ·rw[if_pos h2,if_pos (by omega)]
 ·rw[if_neg h2,if_neg (by omega)])
theorem HT (n:Nat) (v:Nat->Nat->Fl):mf n (mS v n 0)=mf n (mir v):=lm n (λa b ha hb=>by unfold mS; rw[if_pos (by omega)])
theorem DI (n:Nat) (v:Nat->Nat->Fl) {i j:Nat} (hj:j<i+1):mf n (λa b=>if a=j/\b=i then v i j else if a=i/\b=j then v i j else mS v i j a b)=mf n (mS v i (j+1)):=lm n (λa b _ _=>by
 unfold mS mir;by_cases h:a=j/\b=i
 ·rw[if_pos h,h.1,h.2,if_pos (by omega:max j i<i\/(max j i=i/\min j i<j+1))];by_cases hij:i<=j
  ·rw[if_pos hij,show j=i by omega]
  ·rw[if_neg hij]
 ·rw[if_neg h];by_cases h1:a=i/\b=j
  ·rw[if_pos h1,h1.1,h1.2,if_pos (by omega:max i j<i\/(max i j=i/\min i j<j+1)),if_pos (by omega:j<=i)]
  ·rw[if_neg h1];by_cases h2:max a b<i\/(max a b=i/\min a b<j)
   ·rw[if_pos h2,if_pos (by omega:max a b<i\/(max a b=i/\min a b<j+1))]
   ·rw[if_neg h2,if_neg (by omega:¬(max a b<i\/(max a b=i/\min a b<j+1)))])
def nwV (n:Nat) (M:Nat->Nat->Fl) (f q:List Fl):Nat->Nat->Fl:=λi j=>ep (dV (λt=>M i t) (λt=>elt f n j t) n) (elt q n i j)
def nwO (n:Nat) (M:Nat->Nat->Fl) (f q:List Fl):Nat->Nat->Bool:=λi j=>dO (λt=>M i t) (λt=>elt f n j t) n || !be (nwV n M f q i j)
def orL (n:Nat) (p:Nat->Nat->Bool):Bool:=orB (λi=>orB (λj=>p i j) (i+1)) n
theorem DA {N n:Nat} (hN:1000<=N) (hn:n<=12) {f q:List Fl} (M:Nat->Nat->Fl) (hf:f.length=n*n) (hq:q.length=n*n) (o:Bool) (k:Bool->List Fl->Bool) :
  eB N n n n n n f n n q n o (mf n M) k=k (o||orL n (nwO n M f q)) (mf n (mir (nwV n M f q))):=by
 have hn2:n*n<=144:=tD hn
 (unfold eB; rw[ae]; unfold eA)
 rw[<- Int.natCast_mul,aa (ab (by omega) (by omega)),aa (bP (by omega) (by omega) (by omega) (by omega)),Int.toNat_natCast,zK];generalize hv:nwV n M f q=v;generalize hw:nwO n M f q=w;rw[DJ n v];have h0:((0,o,mf n (mS v 0 0)):Int × Bool × List Fl)=(λi:Nat=>((i:Int),o||orB (λi=>orB (λj=>w i j) (i+1)) i,mf n (mS v i 0))) 0:=by show _=(((0:Nat):Int),o||false,_); rw[qt]; rfl
 rw[h0];refine aD (λi:Nat=>((i:Int),o||orB (λi=>orB (λj=>w i j) (i+1)) i,mf n (mS v i 0))) n (by omega) ?_ ?_
 ·intro i hi K;unfold co;dsimp only;rw[decide_eq_true (by omega:(i:Int)<(n:Int)),cond_true,aa (ab (by omega) (by omega))];generalize ho1:(o||orB (λi=>orB (λj=>w i j) (i+1)) i)=o1;have h1:((0,o1,mf n (mS v i 0)):Int × Bool × List Fl)=(λj:Nat=>((j:Int),o1||orB (λj=>w i j) j,mf n (mS v i j))) 0:=by show _=(((0:Nat):Int),o1||false,_); rw[qt]; rfl
  rw[h1];refine(aD (λj:Nat=>((j:Int),o1||orB (λj=>w i j) j,mf n (mS v i j))) (i+1) (N:=N) (by omega) (out:=K ((((i+1:Nat)):Int),o||orB (λi=>orB (λj=>w i j) (i+1)) (i+1),mf n (mS v (i+1) 0))) ?_ ?_:_)
  ·intro j hj K';have hj2:j<n:=by omega
   obtain⟨g1,g2⟩:=eR (by omega:n<=1000) hi hj2;obtain⟨g3,g4⟩:=eR (by omega:n<=1000) hj2 hi;have g5:=iF hi hj2;have g6:=iF hj2 hi;have g7:i*n+n<=n*n:=by rw[nk]; exact xY hi
   (unfold ct; unfold dU; rw[ae]; unfold ca)
   dsimp only;rw[decide_eq_true (by omega:(j:Int)<(i:Int)+1),cond_true,w9 (by omega) hi (cR n M),zH (by omega) hj2 hf,
    J_ (n:=n) (f:=λt=>M i t) (g:=λt=>elt f n j t) hN (by omega) (by rw[cR]; omega) (by rw[tL hf hj2]; omega) (by rw[tL hf hj2]; omega) (λt ht=>zJ n M hi ht none) (λt ht=>uQ hf hj2 ht),
    aa g1,eQ,aa g2,hq,aa (ai (by omega) (by omega)),Int.toNat_natCast,zG,aa g3,eQ,aa g4,cR,aa (ai (by omega) (by omega)),aa (decide_eq_true g5)]
   have e:ep (dV (λt=>M i t) (λt=>elt f n j t) n) (q.getD (i*n+j) none)=v i j:=by rw[<- hv]; rfl
   rw[e,Int.toNat_natCast,wh n _ hi hj2,cR,aa (ai (by omega) (by omega)),aa (decide_eq_true g6),wh n _ hj2 hi,aa (ab (by omega) (by omega))];have e2:((o1||orB (λj=>w i j) j)||dO (λt=>M i t) (λt=>elt f n j t) n || !be (v i j))=(o1||orB (λj=>w i j) (j+1)):=by rw[<- gN o1 (λj=>w i j) j,<- hw,<- hv,Bool.or_assoc]; rfl
   rw[e2];rw[DI n v hj,aa g2,aa (ab (by omega) (by omega))];rfl
  ·intro K';unfold ct;dsimp only;rw[decide_eq_false (by omega:¬((i+1:Nat):Int)<(i:Int)+1),cond_false,aa (ab (by omega) (by omega)),<- ho1,HU,gN o (λi=>orB (λj=>w i j) (i+1)) i];rfl
 ·intro K;unfold co;dsimp only;rw[decide_eq_false (by omega:¬(n:Int)<(n:Int)),cond_false,HT];rfl
def sqc (a b:Int) (l:List Fl) (n:Int):Int:=if chk a b l ≠ 0 then chk a b l else if a ≠ b then 3 else if a ≠ n then 3 else 0
theorem GB {a b:Int} {l:List Fl} {n:Nat} (h:sqc a b l n=0):a=n/\b=n/\l.length=n*n/\bb l=true:=by
 unfold sqc at h;split at h
 ·exact absurd h (by assumption)
 ·rename_i h0;have h0:chk a b l=0:=by simpa using h0
  have q:=sT.1 h0;split at h
  ·cases h
  ·rename_i h1;split at h
   ·cases h
   ·rename_i h2;have h1:a=b:=by simpa using h1
    have h2:a=n:=by simpa using h2
    subst h1;subst h2;exact⟨rfl,rfl,by exact_mod_cast q.2.1,q.2.2⟩
theorem cO (a b:Int) (h:¬ a=b):(a != b)=true:=by simp[h]
theorem A0 {N:Nat} (hN:1000<=N) (a b:Int) (l:List Fl) (n:Int) (k:Int->Bool):kg N a b l n k=k (sqc a b l n):=by
 (unfold kg; rw[ae]; unfold nq sqc)
 rw[q9 hN];by_cases h0:chk a b l=0
 ·rw[h0,show((0:Int) != 0)=false from rfl,cond_false,if_neg (λh=>h rfl)];by_cases h1:a=b
  ·subst h1;rw[if_neg (λh=>h rfl),show((a != a)==false)=true by simp,cond_true];by_cases h2:a=n
   ·subst h2;rw[if_neg (λh=>h rfl),show(a != a)=false by simp,cond_false]
   ·rw[if_pos h2,cO _ _ h2,cond_true]
  ·rw[if_pos h1,cO _ _ h1]; rfl
 ·rw[if_pos h0,cO _ _ h0,cond_true]
theorem Ts {n:Nat} {f:Nat->Nat->Fl} {P:Fl->Prop} (h:∀ a b,a<n->b<n->P (f a b)):∀ t,t<n*n->P ((mf n f).getD t none):=by
 intro t ht;have hn:0<n:=by
  rcases Nat.eq_zero_or_pos n with h0 | h0
  ·rw[h0]at ht; omega
  ·exact h0
 have:=zJ n f (Nat.div_lt_of_lt_mul ht) (Nat.mod_lt t hn) none;rw[show t / n*n+t%n=t from by rw[Nat.mul_comm]; exact Nat.div_add_mod t n]at this;rw[this];exact h _ _ (Nat.div_lt_of_lt_mul ht) (Nat.mod_lt t hn)
theorem DL {n:Nat} {f:Nat->Nat->Fl} (h:∀ a b,a<n->b<n->be (f a b)=true):bb (mf n f)=true:=by unfold bb;refine kT.2 (λt ht=>Ts (P:=λx=>be x=true) h t ?_);rw[cR]at ht; exact ht
theorem KC {n:Nat} {f:Nat->Nat->Fl} (h:∀ a b,FW (f a b)):AllW (mf n f):=by intro x hx;unfold mf at hx;obtain⟨t,-,rfl⟩:=List.mem_map.1 hx;exact h _ _
theorem DN {n:Nat} (v:Nat->Nat->Fl):Ml n (mf n (mir v)):=by
 intro a b ha hb;show rn (ofE (elt (mf n (mir v)) n a b))=rn (ofE (elt (mf n (mir v)) n b a));rw[DK n _ ha hb,DK n _ hb ha];unfold mir;rcases Nat.lt_trichotomy a b with h | h | h
 ·rw[if_neg (by omega),if_pos (by omega)]
 ·rw[h]
 ·rw[if_pos (by omega),if_neg (by omega)]
theorem CK {v:Nat->Nat->Fl} (h:∀ a b,FW (v a b)) (a b:Nat):FW (mir v a b):=by
 unfold mir; split
 ·exact h _ _
 ·exact h _ _
theorem zL {n:Nat} {v:Nat->Nat->Fl} (h:∀ a b,a<n->b<=a->be (v a b)=true):∀ a b,a<n->b<n->be (mir v a b)=true:=by
 intro a b ha hb;unfold mir; split
 ·exact h _ _ ha (by assumption)
 ·exact h _ _ hb (by omega)
theorem NP {n:Nat} {M:Nat->Nat->Fl} {f q:List Fl} (h:orL n (nwO n M f q)=false):∀ a b,a<n->b<=a->be (nwV n M f q a b)=true:=by intro a b ha hb;have h1:=iY h a ha;have h2:=iY h1 b (by omega);unfold nwO at h2;rw[Bool.or_eq_false_iff]at h2;simpa using h2.2
theorem UL {n:Nat} {M:Nat->Nat->Fl} {f q:List Fl} (a b:Nat):FW (nwV n M f q a b):=kQ _ _
def prX (n:Nat) (f s:List Fl):Nat->Fl:=λi=>dV (λt=>elt f n i t) (λt=>s.getD t none) n
def NT (n:Nat) (f s:List Fl):Nat->Bool:=λi=>dO (λt=>elt f n i t) (λt=>s.getD t none) n
def prF (n:Nat) (s p f q:List Fl):Bool:=((false||orB (NT n f s) n)||orM n (prO n f p))||orL n (nwO n (prV n f p) f q)
def prM (n:Nat) (p f q:List Fl):List Fl:=mf n (mir (nwV n (prV n f p) f q))
def prK (x:List Fl) (r c:Int) (p:List Fl) (fr fc:Int) (f:List Fl) (qr qc:Int) (q:List Fl) (k0:Int->Int->Int->Bool) (k1:Int->Int->Int->List Fl->List Fl->Bool):Bool:=
 if lY x r c p ≠ 0 then k0 0 0 (lY x r c p)else
 if sqc fr fc f x.length ≠ 0 then k0 0 0 (sqc fr fc f x.length)else
 if sqc qr qc q x.length ≠ 0 then k0 0 0 (sqc qr qc q x.length)else
 if rF x.length q=false then k0 0 0 150 else
 cond (prF x.length x p f q) (k0 0 0 5) (cond (!xe x.length (prM x.length p f q)) (k0 0 0 151) (k1 x.length x.length 0 (vf x.length (prX x.length f x)) (prM x.length p f q)))
theorem Fy {N:Nat} (hF:Fuel N) (x:List Fl) (r c:Int) (p:List Fl) (fr fc:Int) (f:List Fl) (qr qc:Int) (q:List Fl) (hwp:AllW p) (k0:Int->Int->Int->Bool) (k1:Int->Int->Int->List Fl->List Fl->Bool) :
  dW N x r c p fr fc f qr qc q k0 k1=prK x r c p fr fc f qr qc q k0 k1:=by
 have hN:=hF.lt
 (unfold dW; rw[ae]; unfold mo prK)
 rw[oG hF _ _ _ _ hwp];by_cases h0:lY x r c p=0
 ·obtain⟨n,hn,rfl,rfl,hx,hl,fx,fl,-,-⟩:=mB h0;rw[if_neg (λh=>h h0),h0,show((0:Int) != 0)=false from rfl,cond_false,A0 (by omega),hx];by_cases h1:sqc fr fc f n=0
  ·obtain⟨rfl,rfl,hfl,ff⟩:=GB h1;rw[if_neg (λh=>h h1),h1,show((0:Int) != 0)=false from rfl,cond_false,A0 (by omega)];by_cases h2:sqc qr qc q n=0
   ·obtain⟨rfl,rfl,hql,fq⟩:=GB h2;rw[if_neg (λh=>h h2),h2,show((0:Int) != 0)=false from rfl,cond_false,IW (by omega) hn hql fq];cases h3:rF n q
    ·rw[if_pos rfl]; rfl
    ·rw[if_neg (by decide),show(!true)=false from rfl,cond_false,Int.toNat_natCast,List.length_replicate,aa (bP (by omega) (by omega) (by omega) (by omega))];have z0:((0,List.replicate n (some 0),false):Int × List Fl × Bool)=(λt:Nat=>((t:Int),(vf n (prX n f x)).take t++List.replicate (n - t) (some 0),false||orB (NT n f x) t)) 0:=by show _=(((0:Nat):Int),_,false||false); rfl
     rw[z0];refine aD (λt:Nat=>((t:Int),(vf n (prX n f x)).take t++List.replicate (n - t) (some 0),false||orB (NT n f x) t)) n (by omega) ?_ ?_
     ·intro t ht K;unfold fp;dsimp only;have hfl2:=uf n (prX n f x) (i:=t) (by omega);have hs:=Em n (prX n f x) ht;rw[decide_eq_true (by omega:(t:Int)<(n:Int)),cond_true,zH (by omega) ht hfl,
       Nf (n:=n) (f:=λi=>elt f n t i) (g:=λi=>x.getD i none) (by omega) (by omega) (tL hfl ht) (by omega) (by omega) (λi hi=>uQ hfl ht hi) (λi hi=>rfl)]
      rw[hfl2,aa (ai (by omega) (by omega)),Int.toNat_natCast,aa (decide_eq_true ht),aa (ab (by omega) (by omega))];have e:dV (λi=>elt f n t i) (λi=>x.getD i none) n=prX n f x t:=rfl;have e2:dO (λi=>elt f n t i) (λi=>x.getD i none) n=NT n f x t:=rfl;rw[e,e2,hs,gN false (NT n f x) t];rfl
     ·intro K;unfold fp;dsimp only;rw[decide_eq_false (by omega:¬(n:Int)<(n:Int)),cond_false,Nat.sub_self,List.replicate_zero,List.append_nil,List.take_of_length_le (by rw[dG]; omega),FP (by omega) hn hfl hl,DA (by omega) hn (prV n f p) hfl hql]
      (unfold lD; rw[ae]; unfold fQ; unfold xk; rw[ae]; unfold qH)
      show cond (prF n x p f q) _ _=cond (prF n x p f q) _ _;cases h4:prF n x p f q
      ·rw[cond_false,cond_false];have h5:orL n (nwO n (prV n f p) f q)=false:=by unfold prF at h4;rw[Bool.or_eq_false_iff]at h4;exact h4.2
       have hfin:=DL (zL (NP h5));unfold prM;show bV N n n (mf n (mir (nwV n (prV n f p) f q))) _=_;rw[nR hF hn (cR n _) hfin (KC (CK UL)) (DN _)]
      ·rfl
   ·rw[if_pos h2,cO _ _ h2,cond_true]
  ·rw[if_pos h1,cO _ _ h1,cond_true]
 ·rw[if_pos h0,cO _ _ h0,cond_true]
def spl (l:List Fl):Nat->List Fl
 | 0=>l
 | t+1=>(spl l t).set t (some 4635118810238550016)
theorem UM (l:List Int):(zr l).length=l.length:=by unfold zr; rw[List.length_map]
theorem Kh {N:Nat} {x p:List Int} (hx:eE N x.length) (hp:eE N p.length) (r c:Int) (k:List Fl->List Fl->Bool):TO N x r c p k=k (zr x) (zr p):=by unfold TO Um;rw[AQ x hx,AQ p hp]
theorem OC {n:Nat} {g:Nat->Fl} {P:Fl->Prop} (h:∀ i,i<n->P (g i)):∀ i,i<(vf n g).length->P ((vf n g).getD i none):=by intro i hi;rw[dG]at hi;rw[pI n g hi];exact h i hi
def eS (k:Int):Int:=if k=0 then 1 else if k=1 then 1 else if k=4 then 1 else if k=2 then 2 else if k=3 then 3 else 0
theorem Py (k:Int):0<=eS k/\eS k<=3:=by
 unfold eS
 repeat' split
 all_goals omega
theorem NQ (k:Int) (kk:Int->Bool):cond (k==0) (kk 1) (cond (k==1) (kk 1) (cond (k==4) (kk 1) (cond (k==2) (kk 2) (cond (k==3) (kk 3) (kk 0)))))=kk (eS k):=by
 have d:∀(a b:Int),(a==b)=decide (a=b):=λa b=>rfl
 unfold eS;simp only[d];by_cases h0:k=0
 ·rw[if_pos h0,decide_eq_true h0,cond_true]
 rw[if_neg h0,decide_eq_false h0,cond_false];by_cases h1:k=1
 ·rw[if_pos h1,decide_eq_true h1,cond_true]
 rw[if_neg h1,decide_eq_false h1,cond_false];by_cases h4:k=4
 ·rw[if_pos h4,decide_eq_true h4,cond_true]
 rw[if_neg h4,decide_eq_false h4,cond_false];by_cases h2:k=2
 ·rw[if_pos h2,decide_eq_true h2,cond_true]
 rw[if_neg h2,decide_eq_false h2,cond_false];by_cases h3:k=3
 ·rw[if_pos h3,decide_eq_true h3,cond_true]
 rw[if_neg h3,decide_eq_false h3,cond_false]
theorem wb (N:Nat) (k:Int) (kk:Int->Bool):iM N k kk=kk (eS k):=by
 (unfold iM; rw[ae]; unfold ot)
 exact NQ k kk
theorem OX (x:Fl):feq (iS x x) (some 0)=be x:=by
 cases x with
 | none=>rfl
 | some b=>
  cases hr:Ieee.double.read b with
  | number s m i=>
   rw[IL hr];have e:∃ t,iS (some b) (some b)=some (Ieee.double.word t 0):=by show ∃ t,Ieee.double.sub b b=some (Ieee.double.word t 0);unfold Format.sub;rw[hr];show ∃ t,((Datum.number s m i).sum (Datum.number (!s) m i)).map Ieee.double.write=some (Ieee.double.word t 0);obtain⟨sg,h,-⟩:=P2 s (!s) m m i i;refine⟨sg,?_⟩;rw[h,Ig,show signed s m (i - min i i).toNat + -signed s m (i - min i i).toNat=0 by omega];rw[show(0:Int).natAbs=0 from rfl,DP]
   obtain⟨t,e⟩:=e;rw[e];cases t <;> decide
  | infinity s=>
   have e:iS (some b) (some b)=none:=by show Ieee.double.sub b b=none;unfold Format.sub;rw[hr]; cases s <;> rfl
   rw[e];show false=wY (Ieee.double.read b);rw[hr]; rfl
  | nan s t=>
   have e:iS (some b) (some b)=none:=by show Ieee.double.sub b b=none;unfold Format.sub;rw[hr]; rfl
   rw[e];show false=wY (Ieee.double.read b);rw[hr]; rfl
def xV:Fl:=some 5057542381537067008
def xF (p:RY0):Int:=if eS p.1=0 then 140 else if p.2.1<1 then 1 else if 12<p.2.1 then 1 else if be p.2.2.1=false then 4 else if be p.2.2.2=false then 4 else
 if flt p.2.2.1 (some 0)=true then 141 else if flt p.2.2.2 (some 0)=true then 141 else if fgt p.2.2.1 xV=true then 141 else if fgt p.2.2.2 xV=true then 141 else 0
theorem BR (N:Nat) (a b:Int) (c d:Fl) (k:Int->Bool):lF N a b c d k=k (xF (a,b,c,d)):=by
 (unfold lF; rw[ae]; unfold kS xF)
 rw[wb];dsimp only;by_cases h0:eS a=0
 ·rw[if_pos h0,h0]; rfl
 rw[if_neg h0,show(eS a==0)=false by simp[h0],cond_false];by_cases h1:b<1
 ·rw[if_pos h1,decide_eq_true h1]; rfl
 rw[if_neg h1,decide_eq_false h1,show(false==false)=true from rfl,cond_true];by_cases h2:b>12
 ·rw[if_pos h2,decide_eq_true h2]; rfl
 rw[if_neg h2,decide_eq_false h2,cond_false];unfold oO sB;simp only[OX];cases be c
 ·rw[if_pos rfl,show((!false)==false)=false from rfl,cond_false]
 rw[if_neg (by decide),show((!true)==false)=true from rfl,cond_true];cases be d
 ·rw[if_pos rfl]; rfl
 rw[if_neg (by decide),show(!true)=false from rfl,cond_false];show cond (flt c (some 0)==false) (cond (flt d (some 0)==false) (cond (fgt c xV==false) (cond (fgt d xV) (k 141) (k 0)) (k 141)) (k 141)) (k 141)=_;cases flt c (some 0)
 ·rw[if_neg (by decide)];cases flt d (some 0)
  ·rw[if_neg (by decide)];cases fgt c xV
   ·rw[if_neg (by decide)];cases fgt d xV
    ·rw[if_neg (by decide)]; rfl
    ·rw[if_pos rfl]; rfl
   ·rw[if_pos rfl]; rfl
  ·rw[if_pos rfl]; rfl
 ·rw[if_pos rfl]; rfl
def prt (m:List RY0) (t:Nat):RY0:=m.getD t (0,(0,(none,none)))
def nA (m:List RY0):Nat->Int
 | 0=>0
 | t+1=>imm false (nA m t+(prt m t).2.1*eS (prt m t).1) 13
def Df (m:List RY0):Nat->Nat->Int
 | _,0=>0
 | i,d+1=>if xF (prt m i) ≠ 0 then xF (prt m i)else Df m (i+1) d
def oX (m:List RY0):Int:=if m.length=0 then 1 else if Df m 0 m.length ≠ 0 then Df m 0 m.length else if 12<nA m m.length then 2 else 0
theorem uu {p:RY0} (h:xF p=0):eS p.1 ≠ 0/\1<=p.2.1/\p.2.1<=12/\be p.2.2.1=true/\be p.2.2.2=true:=by
 unfold xF at h;split at h
 ·cases h
 split at h
 ·cases h
 split at h
 ·cases h
 split at h
 ·cases h
 split at h
 ·cases h
 rename_i h0 h1 h2 h3 h4;exact⟨h0,by omega,by omega,by simpa using h3,by simpa using h4⟩
theorem zN {p:RY0} (h:xF p=0):1<=p.2.1*eS p.1/\p.2.1*eS p.1<=36:=by
 obtain⟨h0,h1,h2,-,-⟩:=uu h;have hb:=Py p.1;have:eS p.1=1\/eS p.1=2\/eS p.1=3:=by omega
 rcases this with h | h | h <;> rw[h] <;> omega
theorem Pp {n x:Int} (h:0<=n/\n<=13) (hx:1<=x/\x<=36):0<=imm false (n+x) 13/\imm false (n+x) 13<=13:=by
 unfold imm;rw[cond_false];by_cases q:(13:Int)<n+x
 ·rw[decide_eq_true q,cond_true]; omega
 ·rw[decide_eq_false q,cond_false]; omega
theorem rU {N:Nat} (m:List RY0) (hm:m.length<=17592186044416) (e0:Int->Bool) (e1:Int->Bool):∀(d i M:Nat),i+d=m.length->d<M->0<=nA m i/\nA m i<=13 ->
  ah M (cz N m m.length e0 e1) (nA m i,(i:Int))=if Df m i d ≠ 0 then e0 (Df m i d)else e1 (nA m m.length)
 | 0,i,M,hi,hM,hn=>by
  obtain⟨M,rfl⟩:∃ M',M=M'+1:=⟨M - 1,by omega⟩
  show cz N m m.length e0 e1 _ _=_;unfold cz;dsimp only;rw[decide_eq_false (by omega:¬(i:Int)<(m.length:Int)),cond_false,show i=m.length by omega];rfl
 | d+1,i,M,hi,hM,hn=>by
  obtain⟨M,rfl⟩:∃ M',M=M'+1:=⟨M - 1,by omega⟩
  show cz N m m.length e0 e1 _ (ah M _)=_;have ih:=λq=>rU (N:=N) m hm e0 e1 d (i+1) M (by omega) (by omega) q
  generalize ah M (cz N m m.length e0 e1)=KK at ih ⊢;unfold cz;dsimp only;rw[decide_eq_true (by omega:(i:Int)<(m.length:Int)),cond_true,aa (ai (by omega) (by omega)),Int.toNat_natCast,BR];show cond (xF (prt m i) != 0) (e0 (xF (prt m i))) _=_;unfold Df;by_cases h:xF (prt m i)=0
  ·have hb:=zN h;have hs:=Pp hn hb;rw[h,show((0:Int) != 0)=false from rfl,cond_false,wb];show(ac .i64 ((prt m i).2.1*eS (prt m i).1)&&(ac .i64 (nA m i+(prt m i).2.1*eS (prt m i).1)&&(ac .i64 ((i:Int)+1)&&KK (nA m (i+1),(((i+1:Nat)):Int)))))=_;rw[aa (ab (by omega) (by omega)),aa (ab (by omega) (by omega)),aa (ab (by omega) (by omega)),ih hs];rfl
  ·rw[if_pos h,cO _ _ h,cond_true];rw[if_pos h]
theorem HF {N:Nat} {m:List RY0} (hm:eE N m.length) (k:Int->Bool):pQ N m k=k (oX m):=by
 (unfold pQ; rw[ae]; unfold pL oX)
 by_cases h0:m.length=0
 ·rw[if_pos h0,h0]; rfl
 have e:(((m.length:Nat):Int)==0)=false:=by simp; intro h; rw[h]at h0; exact h0 rfl
 rw[if_neg h0,e,cond_false];have:=rU (N:=N) m hm.2 (λt=>k t) (λn=>cond (decide (n>12)) (k 2) (k 0)) m.length 0 N (by omega) hm.1 ⟨Int.le_refl _,by show(0:Int)<=13; decide⟩;refine this.trans ?_;by_cases h1:Df m 0 m.length=0
 ·rw[h1,if_neg (λq=>q rfl),if_neg (λq=>q rfl)];by_cases h2:12<nA m m.length
  ·rw[if_pos h2,decide_eq_true h2]; rfl
  ·rw[if_neg h2,decide_eq_false h2]; rfl
 ·rw[if_pos h1,if_pos h1]
theorem Tb (c d:Fl):bb [c,d]=(be c&&be d):=by show sN (λi=>be ([c,d].getD i none)) 2=_;unfold sN sN sN;rw[Bool.true_and]; rfl
def g_ (m:List RY0):Nat->Int
 | 0=>0
 | t+1=>g_ m t+(prt m t).2.1*eS (prt m t).1
theorem EL {m:List RY0}:∀(d i:Nat),Df m i d=0 -> ∀ j,i<=j->j<i+d->xF (prt m j)=0
 | 0,i,_,j,h1,h2=>by omega
 | d+1,i,h,j,h1,h2=>by
  unfold Df at h;split at h
  ·rename_i q; exact absurd h q
  ·rename_i q;by_cases e:j=i
   ·subst e; simpa using q
   ·exact EL d (i+1) h j (by omega) (by omega)
theorem HX {m:List RY0} (hc:∀ j,j<m.length->xF (prt m j)=0):∀ t,t<=m.length->nA m t<=12->nA m t=g_ m t/\0<=g_ m t/\(∀ s,s<=t->nA m s<=12)
 | 0,_,_=>⟨rfl,Int.le_refl _,λs hs=>by rw[show s=0 by omega]; show(0:Int)<=12; decide⟩
 | t+1,ht,h=>by
  have hb:=zN (hc t (by omega));have hn:nA m (t+1)=imm false (nA m t+(prt m t).2.1*eS (prt m t).1) 13:=rfl;rw[hn]at h;have hlt:nA m t+(prt m t).2.1*eS (prt m t).1<=12:=by
   unfold imm at h;rw[cond_false]at h;by_cases q:(13:Int)<nA m t+(prt m t).2.1*eS (prt m t).1
   ·rw[decide_eq_true q,cond_true]at h; omega
   ·rw[decide_eq_false q,cond_false]at h; omega
  have hmm:imm false (nA m t+(prt m t).2.1*eS (prt m t).1) 13=nA m t+(prt m t).2.1*eS (prt m t).1:=by unfold imm;rw[cond_false,decide_eq_false (by omega),cond_false]
  obtain⟨i1,i2,i3⟩:=HX hc t (by omega) (by omega);have e:nA m (t+1)=g_ m (t+1):=by rw[hn,hmm,i1]; rfl
  refine⟨e,by rw[<- e,hn,hmm]; omega,λs hs=>?_⟩;by_cases q:s=t+1
  ·rw[q,hn,hmm]; exact hlt
  ·exact i3 s (by omega)
theorem nY {m:List RY0} (h:oX m=0):m.length ≠ 0/\(∀ j,j<m.length->xF (prt m j)=0)/\nA m m.length<=12:=by
 unfold oX at h;split at h
 ·cases h
 rename_i h0;split at h
 ·rename_i q; exact absurd h q
 rename_i h1;split at h
 ·cases h
 rename_i h2;exact⟨h0,λj hj=>EL m.length 0 (by simpa using h1) j (by omega) (by omega),by omega⟩
theorem Hb {m:List RY0} (h:oX m=0) {t:Nat} (ht:t<=m.length):0<=g_ m t/\g_ m t<=12:=by obtain⟨h0,hc,hn⟩:=nY h;obtain⟨-,-,q⟩:=HX hc m.length (Nat.le_refl _) hn;obtain⟨e1,e2,-⟩:=HX hc t ht (q t ht);have:=q t ht;omega
theorem FJ {N:Nat} {m:List RY0} (hm:eE N m.length) (k:Int->Int->Bool):pA N m k=if oX m ≠ 0 then k 0 (oX m)else k (g_ m m.length) 0:=by
 (unfold pA; rw[ae]; unfold sx)
 rw[HF hm];by_cases h:oX m=0
 ·rw[if_neg (λq=>q h),h,show((0:Int) != 0)=false from rfl,cond_false];have h2:=hm.2;refine aD (λt:Nat=>(g_ m t,(t:Int))) m.length hm.1 ?_ ?_
  ·intro t ht K;unfold lM;dsimp only;have hb:=zN ((nY h).2.1 t ht);have hd:=Hb h (Nat.le_of_lt ht);rw[decide_eq_true (by omega:(t:Int)<(m.length:Int)),cond_true,aa (ai (by omega) (by omega)),Int.toNat_natCast,wb];show(ac .i64 ((prt m t).2.1*eS (prt m t).1)&&(ac .i64 (g_ m t+(prt m t).2.1*eS (prt m t).1)&&(ac .i64 ((t:Int)+1)&&K (g_ m (t+1),(((t+1:Nat)):Int)))))=_;rw[aa (ab (by omega) (by omega)),aa (ab (by omega) (by omega)),aa (ab (by omega) (by omega))]
  ·intro K;unfold lM;dsimp only;rw[decide_eq_false (by omega:¬(m.length:Int)<(m.length:Int)),cond_false]
 ·rw[if_pos h,cO _ _ h,cond_true]
def sq (g:Nat->Nat->Fl) (p i c:Nat) (r:Nat->Fl):Nat->Nat->Fl:=λa b=>if a=p+i/\p<=b/\b<p+c then r (b - p)else g a b
theorem KR (n:Nat) (g:Nat->Nat->Fl) (p i:Nat) (r:Nat->Fl):mf n (sq g p i 0 r)=mf n g:=lm n λa b _ _=>by unfold sq; rw[if_neg (by omega)]
theorem KQ (n:Nat) (g:Nat->Nat->Fl) (p i c:Nat) (r:Nat->Fl):mf n (λa b=>if a=p+i/\b=p+c then r c else sq g p i c r a b)=mf n (sq g p i (c+1) r):=lm n λa b _ _=>by
 unfold sq;by_cases h:a=p+i/\b=p+c
 ·rw[if_pos h,if_pos (by omega),show b - p=c by omega]
 ·rw[if_neg h];by_cases h2:a=p+i/\p<=b/\b<p+c
  ·rw[if_pos h2,if_pos (by omega)]
  ·rw[if_neg h2,if_neg (by omega)]
def cJ (n p i:Int) (row:List Fl) (len:Int) (e0:List Fl->Bool):(Int × List Fl)->((Int × List Fl)->Bool)->Bool:=λv_ K=>match v_ with
 | (c,b)=>(cond (decide (c<len)) ((ac .i64 (p+i))&&((ac .i64 ((p+i)*n))&&((ac .i64 (((p+i)*n)+p))&&((ac .i64 ((((p+i)*n)+p)+c))&&((inR c (List.length row))&&((inR ((((p+i)*n)+p)+c) (List.length b))&&((decide ((Int.toNat ((((p+i)*n)+p)+c))<(List.length b)))&&((ac .i64 (c+1))&&(K ((c+1),(List.set b (Int.toNat ((((p+i)*n)+p)+c)) (List.getD row (Int.toNat c) none)))))))))))) (e0 b))
theorem nw {M n p i s:Nat} (hM:s<M) (hn:n<=12) (hp:p+s<=n) (hi:i<s) {row:List Fl} (hr:row.length=s) (g:Nat->Nat->Fl) (e0:List Fl->Bool) :
  ah M (cJ n p i row row.length e0) (0,mf n g)=e0 (mf n (sq g p i s λj=>row.getD j none)):=by
 have z0:((0,mf n g):Int × List Fl)=(λc:Nat=>((c:Int),mf n (sq g p i c λj=>row.getD j none))) 0:=by show _=(((0:Nat):Int),mf n (sq g p i 0 _));rw[KR]; rfl
 rw[z0];refine aD (λc:Nat=>((c:Int),mf n (sq g p i c λj=>row.getD j none))) s (by omega) ?_ ?_
 ·intro c hc K;unfold cJ;dsimp only;have h1:=iF (n:=n) (i:=p+i) (j:=p+c) (by omega) (by omega);have h2:(p+i)*n+(p+c)<n*n:=ke (by omega) (by omega);have hn2:=tD hn;have e1:((p:Int)+(i:Int))*(n:Int)=(((p+i)*n:Nat):Int):=by rw[Int.natCast_mul]; rfl
  have e2:(((p+i)*n:Nat):Int)+(p:Int)+(c:Int)=(((p+i)*n+(p+c):Nat):Int):=by omega
  rw[decide_eq_true (by omega:(c:Int)<(row.length:Int)),cond_true,aa (ab (by omega) (by omega)),e1,aa (ab (by omega) (by omega)),aa (ab (by omega) (by omega)),e2,aa (ab (by omega) (by omega)),aa (ai (by omega) (by omega)),cR,aa (ai (by omega) (by omega)),Int.toNat_natCast,aa (decide_eq_true h2),aa (ab (by omega) (by omega)),wh n _ (by omega) (by omega),Int.toNat_natCast,KQ n g p i c λj=>row.getD j none];rfl
 ·intro K;unfold cJ;dsimp only;rw[decide_eq_false (by omega:¬(s:Int)<(row.length:Int)),cond_false]
def G4 (g:Nat->Nat->Fl) (p r s:Nat) (B:Nat->Nat->Fl):Nat->Nat->Fl:=λa b=>if (p<=a/\a<p+r)/\p<=b/\b<p+s then B (a - p) (b - p)else g a b
def axP (g:Nat->Nat->Fl) (p s:Nat) (B:Nat->Nat->Fl):Nat->Nat->Nat->Fl
 | 0=>g
 | k+1=>G4 (axP g p s B k) (p+k*s) s s B
theorem Uw (n:Nat) (g:Nat->Nat->Fl) (p s:Nat) (B:Nat->Nat->Fl):mf n (sq g p 0 s (B 0))=mf n (G4 g p 1 s B):=lm n λa b _ _=>by
 unfold sq G4;by_cases hb:p<=b/\b<p+s
 ·by_cases h0:a=p+0
  ·rw[if_pos ⟨h0,hb⟩,if_pos (by omega),show a - p=0 by omega]
  ·rw[if_neg (λq=>h0 q.1),if_neg (by omega)]
 ·rw[if_neg (λq=>hb q.2),if_neg (λq=>hb q.2)]
theorem Ux (n:Nat) (g:Nat->Nat->Fl) (p s:Nat) (B:Nat->Nat->Fl):mf n (sq (sq g p 0 s (B 0)) p 1 s (B 1))=mf n (G4 g p 2 s B):=lm n λa b _ _=>by
 unfold sq G4;by_cases hb:p<=b/\b<p+s
 ·by_cases h1:a=p+1
  ·rw[if_pos ⟨h1,hb⟩,if_pos (by omega),show a - p=1 by omega]
  rw[if_neg (λq=>h1 q.1)];by_cases h0:a=p+0
  ·rw[if_pos ⟨h0,hb⟩,if_pos (by omega),show a - p=0 by omega]
  ·rw[if_neg (λq=>h0 q.1),if_neg (by omega)]
 ·rw[if_neg (λq=>hb q.2),if_neg (λq=>hb q.2),if_neg (λq=>hb q.2)]
theorem Uy (n:Nat) (g:Nat->Nat->Fl) (p s:Nat) (B:Nat->Nat->Fl):mf n (sq (sq (sq g p 0 s (B 0)) p 1 s (B 1)) p 2 s (B 2))=mf n (G4 g p 3 s B):=lm n λa b _ _=>by
 unfold sq G4;by_cases hb:p<=b/\b<p+s
 ·by_cases h2:a=p+2
  ·rw[if_pos ⟨h2,hb⟩,if_pos (by omega),show a - p=2 by omega]
  rw[if_neg (λq=>h2 q.1)];by_cases h1:a=p+1
  ·rw[if_pos ⟨h1,hb⟩,if_pos (by omega),show a - p=1 by omega]
  rw[if_neg (λq=>h1 q.1)];by_cases h0:a=p+0
  ·rw[if_pos ⟨h0,hb⟩,if_pos (by omega),show a - p=0 by omega]
  ·rw[if_neg (λq=>h0 q.1),if_neg (by omega)]
 ·rw[if_neg (λq=>hb q.2),if_neg (λq=>hb q.2),if_neg (λq=>hb q.2),if_neg (λq=>hb q.2)]
def B1 (r:List Fl):Nat->Nat->Fl:=λi j=>r.getD j none
def B2 (r q:List Fl):Nat->Nat->Fl:=λi j=>if i=0 then r.getD j none else q.getD j none
def B3 (r q w:List Fl):Nat->Nat->Fl:=λi j=>if i=0 then r.getD j none else if i=1 then q.getD j none else w.getD j none
theorem va {N n:Nat} (hN:1000<=N) (hn:n<=12) {r q:List Fl} (hr:r.length=2) (hq:q.length=2) (d:Fl) (l:List RY0) (t1 t2:Int) (ax p0:Nat) (hp:p0+ax*2<=n) (t3 t4 a1 a2:Int) (g:Nat->Nat->Fl) (e0:Int->List Fl->Bool) :
  ah (N+24) (bY N n d l t1 t2 ax t3 t4 a1 a2 r q e0) (p0,0,mf n g)=e0 ((p0+ax*2:Nat):Int) (mf n (axP g p0 2 (B2 r q) ax)):=by
 have z0:(((p0:Nat):Int),0,mf n g)=(λt:Nat=>(((p0+t*2:Nat):Int),(t:Int),mf n (axP g p0 2 (B2 r q) t))) 0:=by show _=(((p0+0*2:Nat):Int),((0:Nat):Int),mf n g);rw[Nat.zero_mul,Nat.add_zero]; rfl
 rw[z0];refine aD (λt:Nat=>(((p0+t*2:Nat):Int),(t:Int),mf n (axP g p0 2 (B2 r q) t))) ax (by omega) ?_ ?_
 ·intro t ht K;have hs:(t+1)*2<=ax*2:=Nat.mul_le_mul_right _ ht;unfold bY;dsimp only;rw[decide_eq_true (by omega:(t:Int)<(ax:Int)),cond_true];show ah (N+24) (cJ n ((p0+t*2:Nat):Int) ((0:Nat):Int) r r.length (λb=>ah (N+24) (cJ n ((p0+t*2:Nat):Int) 1 q q.length (λb=>(ac .i64 (((p0+t*2:Nat):Int)+2))&&((ac .i64 ((t:Int)+1))&&(K ((((p0+t*2:Nat):Int)+2),((t:Int)+1),b))))) (0,b))) (0,mf n (axP g p0 2 (B2 r q) t))=_;rw[nw (s:=2) (i:=0) (by omega) hn (by omega) (by omega) hr];show ah (N+24) (cJ n ((p0+t*2:Nat):Int) ((1:Nat):Int) q q.length _) (0,_)=_;rw[nw (s:=2) (i:=1) (by omega) hn (by omega) (by omega) hq];show(ac .i64 (((p0+t*2:Nat):Int)+2)&&(ac .i64 ((t:Int)+1)&&K (((p0+t*2:Nat):Int)+2,(t:Int)+1,_)))=_;rw[aa (ab (by omega) (by omega)),aa (ab (by omega) (by omega))];have e1:((p0+t*2:Nat):Int)+2=((p0+(t+1)*2:Nat):Int):=by omega
  rw[e1];exact congrArg (λb=>K (((p0+(t+1)*2:Nat):Int),((t:Int)+1),b)) (Ux n (axP g p0 2 (B2 r q) t) (p0+t*2) 2 (B2 r q))
 ·intro K;unfold bY;dsimp only;rw[decide_eq_false (by omega:¬(ax:Int)<(ax:Int)),cond_false]
theorem vb {N n:Nat} (hN:1000<=N) (hn:n<=12) {r q w:List Fl} (hr:r.length=3) (hq:q.length=3) (hw:w.length=3) (d:Fl) (l:List RY0) (t1 t2:Int) (ax p0:Nat) (hp:p0+ax*3<=n) (t3 t4 a1 a2:Int) (g:Nat->Nat->Fl) (e0:Int->List Fl->Bool) :
  ah (N+24) (bZ N n d l t1 t2 ax t3 t4 a1 a2 r q w e0) (p0,0,mf n g)=e0 ((p0+ax*3:Nat):Int) (mf n (axP g p0 3 (B3 r q w) ax)):=by
 have z0:(((p0:Nat):Int),0,mf n g)=(λt:Nat=>(((p0+t*3:Nat):Int),(t:Int),mf n (axP g p0 3 (B3 r q w) t))) 0:=by show _=(((p0+0*3:Nat):Int),((0:Nat):Int),mf n g);rw[Nat.zero_mul,Nat.add_zero]; rfl
 rw[z0];refine aD (λt:Nat=>(((p0+t*3:Nat):Int),(t:Int),mf n (axP g p0 3 (B3 r q w) t))) ax (by omega) ?_ ?_
 ·intro t ht K;have hs:(t+1)*3<=ax*3:=Nat.mul_le_mul_right _ ht;unfold bZ;dsimp only;rw[decide_eq_true (by omega:(t:Int)<(ax:Int)),cond_true];show ah (N+24) (cJ n ((p0+t*3:Nat):Int) ((0:Nat):Int) r r.length (λb=>ah (N+24) (cJ n ((p0+t*3:Nat):Int) 1 q q.length (λb=>ah (N+24) (cJ n ((p0+t*3:Nat):Int) 2 w w.length (λb=>(ac .i64 (((p0+t*3:Nat):Int)+3))&&((ac .i64 ((t:Int)+1))&&(K ((((p0+t*3:Nat):Int)+3),((t:Int)+1),b))))) (0,b))) (0,b))) (0,mf n (axP g p0 3 (B3 r q w) t))=_;rw[nw (s:=3) (i:=0) (by omega) hn (by omega) (by omega) hr];show ah (N+24) (cJ n ((p0+t*3:Nat):Int) ((1:Nat):Int) q q.length _) (0,_)=_;rw[nw (s:=3) (i:=1) (by omega) hn (by omega) (by omega) hq];show ah (N+24) (cJ n ((p0+t*3:Nat):Int) ((2:Nat):Int) w w.length _) (0,_)=_;rw[nw (s:=3) (i:=2) (by omega) hn (by omega) (by omega) hw];show(ac .i64 (((p0+t*3:Nat):Int)+3)&&(ac .i64 ((t:Int)+1)&&K (((p0+t*3:Nat):Int)+3,(t:Int)+1,_)))=_;rw[aa (ab (by omega) (by omega)),aa (ab (by omega) (by omega))];have e1:((p0+t*3:Nat):Int)+3=((p0+(t+1)*3:Nat):Int):=by omega
  rw[e1];exact congrArg (λb=>K (((p0+(t+1)*3:Nat):Int),((t:Int)+1),b)) (Uy n (axP g p0 3 (B3 r q w) t) (p0+t*3) 3 (B3 r q w))
 ·intro K;unfold bZ;dsimp only;rw[decide_eq_false (by omega:¬(ax:Int)<(ax:Int)),cond_false]
theorem nx {N n:Nat} (hN:1000<=N) (hn:n<=12) {r:List Fl} (hr:r.length=1) (d:Fl) (l:List RY0) (t1 t2:Int) (ax p0:Nat) (hp:p0+ax*1<=n) (t3 t4 a1 a2:Int) (g:Nat->Nat->Fl) (e0:Int->List Fl->Bool) :
  ah (N+24) (b_ N n d l t1 t2 ax t3 t4 a1 a2 r e0) (p0,0,mf n g)=e0 ((p0+ax*1:Nat):Int) (mf n (axP g p0 1 (B1 r) ax)):=by
 have z0:(((p0:Nat):Int),0,mf n g)=(λt:Nat=>(((p0+t*1:Nat):Int),(t:Int),mf n (axP g p0 1 (B1 r) t))) 0:=by show _=(((p0+0*1:Nat):Int),((0:Nat):Int),mf n g);rw[Nat.zero_mul,Nat.add_zero]; rfl
 rw[z0];refine aD (λt:Nat=>(((p0+t*1:Nat):Int),(t:Int),mf n (axP g p0 1 (B1 r) t))) ax (by omega) ?_ ?_
 ·intro t ht K;have hs:(t+1)*1<=ax*1:=Nat.mul_le_mul_right _ ht;unfold b_;dsimp only;rw[decide_eq_true (by omega:(t:Int)<(ax:Int)),cond_true];show ah (N+24) (cJ n ((p0+t*1:Nat):Int) ((0:Nat):Int) r r.length (λb=>(ac .i64 (((p0+t*1:Nat):Int)+1))&&((ac .i64 ((t:Int)+1))&&(K ((((p0+t*1:Nat):Int)+1),((t:Int)+1),b))))) (0,mf n (axP g p0 1 (B1 r) t))=_;rw[nw (s:=1) (i:=0) (by omega) hn (by omega) (by omega) hr];show(ac .i64 (((p0+t*1:Nat):Int)+1)&&(ac .i64 ((t:Int)+1)&&K (((p0+t*1:Nat):Int)+1,(t:Int)+1,_)))=_;rw[aa (ab (by omega) (by omega)),aa (ab (by omega) (by omega))];have e1:((p0+t*1:Nat):Int)+1=((p0+(t+1)*1:Nat):Int):=by omega
  rw[e1];exact congrArg (λb=>K (((p0+(t+1)*1:Nat):Int),((t:Int)+1),b)) (Uw n (axP g p0 1 (B1 r) t) (p0+t*1) 1 (B1 r))
 ·intro K;unfold b_;dsimp only;rw[decide_eq_false (by omega:¬(ax:Int)<(ax:Int)),cond_false]
theorem gq {N n:Nat} (hN:1000<=N) (hn:n<=12) {r:List Fl} (hr:r.length=1) (d:Fl) (l:List RY0) (t1 t2:Int) (ax p0:Nat) (hp:p0+ax*1<=n) (t3 t4 a1 a2:Int) (g:Nat->Nat->Fl) (e0:Int->List Fl->Bool) :
  ah (N+24) (bG N n d l t1 t2 ax t3 t4 a1 a2 r e0) (p0,0,mf n g)=e0 ((p0+ax*1:Nat):Int) (mf n (axP g p0 1 (B1 r) ax)):=by
 have z0:(((p0:Nat):Int),0,mf n g)=(λt:Nat=>(((p0+t*1:Nat):Int),(t:Int),mf n (axP g p0 1 (B1 r) t))) 0:=by show _=(((p0+0*1:Nat):Int),((0:Nat):Int),mf n g);rw[Nat.zero_mul,Nat.add_zero]; rfl
 rw[z0];refine aD (λt:Nat=>(((p0+t*1:Nat):Int),(t:Int),mf n (axP g p0 1 (B1 r) t))) ax (by omega) ?_ ?_
 ·intro t ht K;have hs:(t+1)*1<=ax*1:=Nat.mul_le_mul_right _ ht;unfold bG;dsimp only;rw[decide_eq_true (by omega:(t:Int)<(ax:Int)),cond_true];show ah (N+24) (cJ n ((p0+t*1:Nat):Int) ((0:Nat):Int) r r.length (λb=>(ac .i64 (((p0+t*1:Nat):Int)+1))&&((ac .i64 ((t:Int)+1))&&(K ((((p0+t*1:Nat):Int)+1),((t:Int)+1),b))))) (0,mf n (axP g p0 1 (B1 r) t))=_;rw[nw (s:=1) (i:=0) (by omega) hn (by omega) (by omega) hr];show(ac .i64 (((p0+t*1:Nat):Int)+1)&&(ac .i64 ((t:Int)+1)&&K (((p0+t*1:Nat):Int)+1,(t:Int)+1,_)))=_;rw[aa (ab (by omega) (by omega)),aa (ab (by omega) (by omega))];have e1:((p0+t*1:Nat):Int)+1=((p0+(t+1)*1:Nat):Int):=by omega
  rw[e1];exact congrArg (λb=>K (((p0+(t+1)*1:Nat):Int),((t:Int)+1),b)) (Uw n (axP g p0 1 (B1 r) t) (p0+t*1) 1 (B1 r))
 ·intro K;unfold bG;dsimp only;rw[decide_eq_false (by omega:¬(ax:Int)<(ax:Int)),cond_false]
theorem sm {N n:Nat} (hN:1000<=N) (hn:n<=12) {r q:List Fl} (hr:r.length=2) (hq:q.length=2) (d:Fl) (l:List RY0) (t1 t2:Int) (ax p0:Nat) (hp:p0+ax*2<=n) (t3 t4 a1 a2:Int) (g:Nat->Nat->Fl) (e0:Int->List Fl->Bool) :
  ah (N+24) (bH N n d l t1 t2 ax t3 t4 a1 a2 r q e0) (p0,0,mf n g)=e0 ((p0+ax*2:Nat):Int) (mf n (axP g p0 2 (B2 r q) ax)):=by
 have z0:(((p0:Nat):Int),0,mf n g)=(λt:Nat=>(((p0+t*2:Nat):Int),(t:Int),mf n (axP g p0 2 (B2 r q) t))) 0:=by show _=(((p0+0*2:Nat):Int),((0:Nat):Int),mf n g);rw[Nat.zero_mul,Nat.add_zero]; rfl
 rw[z0];refine aD (λt:Nat=>(((p0+t*2:Nat):Int),(t:Int),mf n (axP g p0 2 (B2 r q) t))) ax (by omega) ?_ ?_
 ·intro t ht K;have hs:(t+1)*2<=ax*2:=Nat.mul_le_mul_right _ ht;unfold bH;dsimp only;rw[decide_eq_true (by omega:(t:Int)<(ax:Int)),cond_true];show ah (N+24) (cJ n ((p0+t*2:Nat):Int) ((0:Nat):Int) r r.length (λb=>ah (N+24) (cJ n ((p0+t*2:Nat):Int) 1 q q.length (λb=>(ac .i64 (((p0+t*2:Nat):Int)+2))&&((ac .i64 ((t:Int)+1))&&(K ((((p0+t*2:Nat):Int)+2),((t:Int)+1),b))))) (0,b))) (0,mf n (axP g p0 2 (B2 r q) t))=_;rw[nw (s:=2) (i:=0) (by omega) hn (by omega) (by omega) hr];show ah (N+24) (cJ n ((p0+t*2:Nat):Int) ((1:Nat):Int) q q.length _) (0,_)=_;rw[nw (s:=2) (i:=1) (by omega) hn (by omega) (by omega) hq];show(ac .i64 (((p0+t*2:Nat):Int)+2)&&(ac .i64 ((t:Int)+1)&&K (((p0+t*2:Nat):Int)+2,(t:Int)+1,_)))=_;rw[aa (ab (by omega) (by omega)),aa (ab (by omega) (by omega))];have e1:((p0+t*2:Nat):Int)+2=((p0+(t+1)*2:Nat):Int):=by omega
  rw[e1];exact congrArg (λb=>K (((p0+(t+1)*2:Nat):Int),((t:Int)+1),b)) (Ux n (axP g p0 2 (B2 r q) t) (p0+t*2) 2 (B2 r q))
 ·intro K;unfold bH;dsimp only;rw[decide_eq_false (by omega:¬(ax:Int)<(ax:Int)),cond_false]
theorem so {N n:Nat} (hN:1000<=N) (hn:n<=12) {r q w:List Fl} (hr:r.length=3) (hq:q.length=3) (hw:w.length=3) (d:Fl) (l:List RY0) (t1 t2:Int) (ax p0:Nat) (hp:p0+ax*3<=n) (t3 t4 a1 a2:Int) (g:Nat->Nat->Fl) (e0:Int->List Fl->Bool) :
  ah (N+24) (bI N n d l t1 t2 ax t3 t4 a1 a2 r q w e0) (p0,0,mf n g)=e0 ((p0+ax*3:Nat):Int) (mf n (axP g p0 3 (B3 r q w) ax)):=by
 have z0:(((p0:Nat):Int),0,mf n g)=(λt:Nat=>(((p0+t*3:Nat):Int),(t:Int),mf n (axP g p0 3 (B3 r q w) t))) 0:=by show _=(((p0+0*3:Nat):Int),((0:Nat):Int),mf n g);rw[Nat.zero_mul,Nat.add_zero]; rfl
 rw[z0];refine aD (λt:Nat=>(((p0+t*3:Nat):Int),(t:Int),mf n (axP g p0 3 (B3 r q w) t))) ax (by omega) ?_ ?_
 ·intro t ht K;have hs:(t+1)*3<=ax*3:=Nat.mul_le_mul_right _ ht;unfold bI;dsimp only;rw[decide_eq_true (by omega:(t:Int)<(ax:Int)),cond_true];show ah (N+24) (cJ n ((p0+t*3:Nat):Int) ((0:Nat):Int) r r.length (λb=>ah (N+24) (cJ n ((p0+t*3:Nat):Int) 1 q q.length (λb=>ah (N+24) (cJ n ((p0+t*3:Nat):Int) 2 w w.length (λb=>(ac .i64 (((p0+t*3:Nat):Int)+3))&&((ac .i64 ((t:Int)+1))&&(K ((((p0+t*3:Nat):Int)+3),((t:Int)+1),b))))) (0,b))) (0,b))) (0,mf n (axP g p0 3 (B3 r q w) t))=_;rw[nw (s:=3) (i:=0) (by omega) hn (by omega) (by omega) hr];show ah (N+24) (cJ n ((p0+t*3:Nat):Int) ((1:Nat):Int) q q.length _) (0,_)=_;rw[nw (s:=3) (i:=1) (by omega) hn (by omega) (by omega) hq];show ah (N+24) (cJ n ((p0+t*3:Nat):Int) ((2:Nat):Int) w w.length _) (0,_)=_;rw[nw (s:=3) (i:=2) (by omega) hn (by omega) (by omega) hw];show(ac .i64 (((p0+t*3:Nat):Int)+3)&&(ac .i64 ((t:Int)+1)&&K (((p0+t*3:Nat):Int)+3,(t:Int)+1,_)))=_;rw[aa (ab (by omega) (by omega)),aa (ab (by omega) (by omega))];have e1:((p0+t*3:Nat):Int)+3=((p0+(t+1)*3:Nat):Int):=by omega
  rw[e1];exact congrArg (λb=>K (((p0+(t+1)*3:Nat):Int),((t:Int)+1),b)) (Uy n (axP g p0 3 (B3 r q w) t) (p0+t*3) 3 (B3 r q w))
 ·intro K;unfold bI;dsimp only;rw[decide_eq_false (by omega:¬(ax:Int)<(ax:Int)),cond_false]
def vg:Fl:=some 4607182418800017408
def bF (p:RY0) (d:Fl):Nat->Nat->Fl:=
 if p.1=2 then B2 [vg,d] [some 0,vg]else if p.1=3 then B3 [vg,d,fdiv (aF d d) (some 4611686018427387904)] [some 0,vg,d] [some 0,some 0,vg]else
 if p.1=4 then B1 [fdiv vg (ep vg (aF p.2.2.2 d))]else B1 [vg]
def qa (p:RY0) (d:Fl):Fl:=aF p.2.2.1 d
def bQ (p:RY0) (d:Fl):Nat->Nat->Fl:=
 if p.1=1 then B1 [qa p d]else if p.1=4 then B1 [qa p d]else
 if p.1=2 then B2 [fdiv (aF (aF (qa p d) d) d) (some 4613937818241073152),fdiv (aF (qa p d) d) (some 4611686018427387904)] [fdiv (aF (qa p d) d) (some 4611686018427387904),qa p d]else
 if p.1=3 then B3 [fdiv (aF (aF (aF (aF (qa p d) d) d) d) d) (some 4626322717216342016),fdiv (aF (aF (aF (qa p d) d) d) d) (some 4620693217682128896),fdiv (aF (aF (qa p d) d) d) (some 4618441417868443648)]
  [fdiv (aF (aF (aF (qa p d) d) d) d) (some 4620693217682128896),fdiv (aF (aF (qa p d) d) d) (some 4613937818241073152),fdiv (aF (qa p d) d) (some 4611686018427387904)]
  [fdiv (aF (aF (qa p d) d) d) (some 4618441417868443648),fdiv (aF (qa p d) d) (some 4611686018427387904),qa p d]else B1 [some 0]
def ptP (m:List RY0) (bl:RY0->Nat->Nat->Fl):Nat->Nat->Nat->Fl
 | 0=>λ_ _=>some 0
 | t+1=>axP (ptP m bl t) (g_ m t).toNat (eS (prt m t).1).toNat (bl (prt m t)) (prt m t).2.1.toNat
theorem E3 {m:List RY0} (h:oX m=0):∀{t:Nat},t<=m.length -> ∀ s,s<=t->g_ m s<=g_ m t
 | 0,_,s,hs=>by rw[show s=0 by omega]; exact Int.le_refl _
 | t+1,ht,s,hs=>by
  by_cases q:s=t+1
  ·rw[q]; exact Int.le_refl _
  ·have i:=E3 h (t:=t) (by omega) s (by omega);have hb:=zN ((nY h).2.1 t (by omega));show g_ m s<=g_ m t+(prt m t).2.1*eS (prt m t).1;omega
theorem F9 {m:List RY0} (h:oX m=0) {n:Nat} (hn:g_ m m.length=n) {t:Nat} (ht:t<m.length):∃ p0 ax:Nat,g_ m t=p0/\(prt m t).2.1=ax/\(g_ m t).toNat=p0/\(prt m t).2.1.toNat=ax /\
  ∀ s:Nat,eS (prt m t).1=s->p0+ax*s<=n/\g_ m (t+1)=((p0+ax*s:Nat):Int):=by
 obtain⟨-,h1,h2,-,-⟩:=uu ((nY h).2.1 t ht);have hd:=Hb h (Nat.le_of_lt ht);obtain⟨p0,hp⟩:∃ p0:Nat,g_ m t=p0:=⟨(g_ m t).toNat,by omega⟩
 obtain⟨ax,ha⟩:∃ ax:Nat,(prt m t).2.1=ax:=⟨(prt m t).2.1.toNat,by omega⟩
 refine⟨p0,ax,hp,ha,by omega,by omega,λs hs=>?_⟩;have hm:=E3 h (Nat.le_refl _) (t+1) ht;have e:g_ m (t+1)=((p0+ax*s:Nat):Int):=by show g_ m t+(prt m t).2.1*eS (prt m t).1=_;rw[hp,ha,hs,Int.natCast_add,Int.natCast_mul]
 exact⟨by rw[e,hn]at hm; omega,e⟩
theorem WN {N n:Nat} (hN:1000<=N) (hn:n<=12) {m:List RY0} (hm:eE N m.length) (h:oX m=0) (hd:g_ m m.length=n) (d:Fl) (t1 t2 a1 a2:Int) (e0:List Fl->Bool) :
  ah (N+24) (cP N n d m m.length t1 t2 a1 a2 e0) (0,0,mf n λ_ _=>some 0)=e0 (mf n (ptP m (λp=>bF p d) m.length)):=by
 have hm1:=hm.1;have hm2:=hm.2;have z0:((0,0,mf n λ_ _=>some 0):Int × Int × List Fl)=(λt:Nat=>(g_ m t,(t:Int),mf n (ptP m (λp=>bF p d) t))) 0:=rfl;rw[z0];refine aD (λt:Nat=>(g_ m t,(t:Int),mf n (ptP m (λp=>bF p d) t))) m.length (by omega) ?_ ?_
 ·intro t ht K;obtain⟨p0,ax,hp,ha,hp',ha',hs⟩:=F9 h hd ht;have ho:=(uu ((nY h).2.1 t ht)).1;unfold cP;dsimp only;rw[decide_eq_true (by omega:(t:Int)<(m.length:Int)),cond_true,aa (ai (by omega) (by omega)),Int.toNat_natCast,hp];show pB N (prt m t).1 (prt m t).2.1 (prt m t).2.2.1 (prt m t).2.2.2 d (λr q=>ah (N+24) (bY N n d m m.length t (prt m t).2.1 t1 t2 a1 a2 r q (λf b=>(ac .i64 ((t:Int)+1))&&K (f,(t:Int)+1,b))) ((p0:Int),0,_)) (λr q w=>ah (N+24) (bZ N n d m m.length t (prt m t).2.1 t1 t2 a1 a2 r q w (λf b=>(ac .i64 ((t:Int)+1))&&K (f,(t:Int)+1,b))) ((p0:Int),0,_)) (λr=>ah (N+24) (b_ N n d m m.length t (prt m t).2.1 t1 t2 a1 a2 r (λf b=>(ac .i64 ((t:Int)+1))&&K (f,(t:Int)+1,b))) ((p0:Int),0,_))=_
  (unfold pB; rw[ae]; unfold sy)
  have fin:∀(s:Nat) (B:Nat->Nat->Fl),eS (prt m t).1=s->bF (prt m t) d=B->((ac .i64 ((t:Int)+1))&&K (((p0+ax*s:Nat):Int),(t:Int)+1,mf n (axP (ptP m (λp=>bF p d) t) p0 s B ax)))=K (g_ m (t+1),(((t+1:Nat)):Int),mf n (ptP m (λp=>bF p d) (t+1))):=by
   intro s B e1 e2;rw[aa (ab (by omega) (by omega)),(hs s e1).2];have e3:ptP m (λp=>bF p d) (t+1)=axP (ptP m (λp=>bF p d) t) p0 s B ax:=by show axP (ptP m (λp=>bF p d) t) (g_ m t).toNat (eS (prt m t).1).toNat (bF (prt m t) d) (prt m t).2.1.toNat=_;rw[hp',ha',e1,e2,Int.toNat_natCast]
   rw[e3]; rfl
  rw[ha];by_cases k2:(prt m t).1=2
  ·have e1:eS (prt m t).1=(2:Nat):=by rw[k2]; rfl
   rw[k2,show((2:Int)==2)=true from rfl,cond_true];exact Eq.trans (va (r:=[vg,d]) (q:=[some 0,vg]) hN hn rfl rfl _ _ _ _ _ _ (hs 2 e1).1 _ _ _ _ _ _) (fin 2 _ e1 (by unfold bF; rw[if_pos k2]))
  rw[show((prt m t).1==2)=false by simp[k2],cond_false];by_cases k3:(prt m t).1=3
  ·have e1:eS (prt m t).1=(3:Nat):=by rw[k3]; rfl
   rw[k3,show((3:Int)==3)=true from rfl,cond_true];exact Eq.trans (vb (r:=[vg,d,fdiv (aF d d) (some 4611686018427387904)]) (q:=[some 0,vg,d]) (w:=[some 0,some 0,vg]) hN hn rfl rfl rfl _ _ _ _ _ _ (hs 3 e1).1 _ _ _ _ _ _) (fin 3 _ e1 (by unfold bF; rw[if_neg k2,if_pos k3]))
  rw[show((prt m t).1==3)=false by simp[k3],cond_false];have e1:eS (prt m t).1=(1:Nat):=by
   unfold eS at ho ⊢
   repeat' split at ho
   all_goals simp_all
  by_cases k4:(prt m t).1=4
  ·rw[k4,show((4:Int)==4)=true from rfl,cond_true];exact Eq.trans (nx (r:=[fdiv vg (ep vg (aF (prt m t).2.2.2 d))]) hN hn rfl _ _ _ _ _ _ (hs 1 e1).1 _ _ _ _ _ _) (fin 1 _ e1 (by unfold bF; rw[if_neg k2,if_neg k3,if_pos k4]))
  rw[show((prt m t).1==4)=false by simp[k4],cond_false];exact Eq.trans (nx (r:=[vg]) hN hn rfl _ _ _ _ _ _ (hs 1 e1).1 _ _ _ _ _ _) (fin 1 _ e1 (by unfold bF; rw[if_neg k2,if_neg k3,if_neg k4]))
 ·intro K;unfold cP;dsimp only;rw[decide_eq_false (by omega:¬(m.length:Int)<(m.length:Int)),cond_false]
theorem WO {N n:Nat} (hN:1000<=N) (hn:n<=12) {m:List RY0} (hm:eE N m.length) (h:oX m=0) (hd:g_ m m.length=n) (d:Fl) (t1 t2 a1 a2:Int) (e0:List Fl->Bool) :
  ah (N+24) (cA N n d m m.length t1 t2 a1 a2 e0) (0,0,mf n λ_ _=>some 0)=e0 (mf n (ptP m (λp=>bQ p d) m.length)):=by
 have hm1:=hm.1;have hm2:=hm.2;have z0:((0,0,mf n λ_ _=>some 0):Int × Int × List Fl)=(λt:Nat=>(g_ m t,(t:Int),mf n (ptP m (λp=>bQ p d) t))) 0:=rfl;rw[z0];refine aD (λt:Nat=>(g_ m t,(t:Int),mf n (ptP m (λp=>bQ p d) t))) m.length (by omega) ?_ ?_
 ·intro t ht K;obtain⟨p0,ax,hp,ha,hp',ha',hs⟩:=F9 h hd ht;have ho:=(uu ((nY h).2.1 t ht)).1;unfold cA;dsimp only;rw[decide_eq_true (by omega:(t:Int)<(m.length:Int)),cond_true,aa (ai (by omega) (by omega)),Int.toNat_natCast,hp];show pC N (prt m t).1 (prt m t).2.1 (prt m t).2.2.1 (prt m t).2.2.2 d (λr=>ah (N+24) (bG N n d m m.length t (prt m t).2.1 t1 t2 a1 a2 r (λf b=>(ac .i64 ((t:Int)+1))&&K (f,(t:Int)+1,b))) ((p0:Int),0,_)) (λr q=>ah (N+24) (bH N n d m m.length t (prt m t).2.1 t1 t2 a1 a2 r q (λf b=>(ac .i64 ((t:Int)+1))&&K (f,(t:Int)+1,b))) ((p0:Int),0,_)) (λr q w=>ah (N+24) (bI N n d m m.length t (prt m t).2.1 t1 t2 a1 a2 r q w (λf b=>(ac .i64 ((t:Int)+1))&&K (f,(t:Int)+1,b))) ((p0:Int),0,_))=_
  (unfold pC; rw[ae]; unfold sA)
  have fin:∀(s:Nat) (B:Nat->Nat->Fl),eS (prt m t).1=s->bQ (prt m t) d=B->((ac .i64 ((t:Int)+1))&&K (((p0+ax*s:Nat):Int),(t:Int)+1,mf n (axP (ptP m (λp=>bQ p d) t) p0 s B ax)))=K (g_ m (t+1),(((t+1:Nat)):Int),mf n (ptP m (λp=>bQ p d) (t+1))):=by
   intro s B e1 e2;rw[aa (ab (by omega) (by omega)),(hs s e1).2];have e3:ptP m (λp=>bQ p d) (t+1)=axP (ptP m (λp=>bQ p d) t) p0 s B ax:=by show axP (ptP m (λp=>bQ p d) t) (g_ m t).toNat (eS (prt m t).1).toNat (bQ (prt m t) d) (prt m t).2.1.toNat=_;rw[hp',ha',e1,e2,Int.toNat_natCast]
   rw[e3]; rfl
  rw[ha];have eq1:∀(x:Int) ,(prt m t).1=x->((prt m t).1==x)=true:=λx h=>by rw[h]; simp
  have eq0:∀(x:Int) ,¬(prt m t).1=x->((prt m t).1==x)=false:=λx h=>by simp[h]
  by_cases k1:(prt m t).1=1
  ·have e1:eS (prt m t).1=(1:Nat):=by rw[k1]; rfl
   rw[eq1 1 k1,cond_true];exact Eq.trans (gq (r:=[aF (prt m t).2.2.1 d]) hN hn rfl _ _ _ _ _ _ (hs 1 e1).1 _ _ _ _ _ _) (fin 1 _ e1 (by unfold bQ; rw[if_pos k1]; rfl))
  rw[eq0 1 k1,cond_false];by_cases k4:(prt m t).1=4
  ·have e1:eS (prt m t).1=(1:Nat):=by rw[k4]; rfl
   rw[eq1 4 k4,cond_true];exact Eq.trans (gq (r:=[aF (prt m t).2.2.1 d]) hN hn rfl _ _ _ _ _ _ (hs 1 e1).1 _ _ _ _ _ _) (fin 1 _ e1 (by unfold bQ; rw[if_neg k1,if_pos k4]; rfl))
  rw[eq0 4 k4,cond_false];by_cases k2:(prt m t).1=2
  ·have e1:eS (prt m t).1=(2:Nat):=by rw[k2]; rfl
   rw[eq1 2 k2,cond_true];exact Eq.trans (sm (r:=[fdiv (aF (aF (aF (prt m t).2.2.1 d) d) d) (some 4613937818241073152),fdiv (aF (aF (prt m t).2.2.1 d) d) (some 4611686018427387904)]) (q:=[fdiv (aF (aF (prt m t).2.2.1 d) d) (some 4611686018427387904),aF (prt m t).2.2.1 d]) hN hn rfl rfl _ _ _ _ _ _ (hs 2 e1).1 _ _ _ _ _ _) (fin 2 _ e1 (by unfold bQ; rw[if_neg k1,if_neg k4,if_pos k2]; rfl))
  rw[eq0 2 k2,cond_false];by_cases k3:(prt m t).1=3
  ·have e1:eS (prt m t).1=(3:Nat):=by rw[k3]; rfl
   rw[eq1 3 k3,cond_true];exact Eq.trans (so (r:=[fdiv (aF (aF (aF (aF (aF (prt m t).2.2.1 d) d) d) d) d) (some 4626322717216342016),fdiv (aF (aF (aF (aF (prt m t).2.2.1 d) d) d) d) (some 4620693217682128896),fdiv (aF (aF (aF (prt m t).2.2.1 d) d) d) (some 4618441417868443648)]) (q:=[fdiv (aF (aF (aF (aF (prt m t).2.2.1 d) d) d) d) (some 4620693217682128896),fdiv (aF (aF (aF (prt m t).2.2.1 d) d) d) (some 4613937818241073152),fdiv (aF (aF (prt m t).2.2.1 d) d) (some 4611686018427387904)]) (w:=[fdiv (aF (aF (aF (prt m t).2.2.1 d) d) d) (some 4618441417868443648),fdiv (aF (aF (prt m t).2.2.1 d) d) (some 4611686018427387904),aF (prt m t).2.2.1 d]) hN hn rfl rfl rfl _ _ _ _ _ _ (hs 3 e1).1 _ _ _ _ _ _) (fin 3 _ e1 (by unfold bQ; rw[if_neg k1,if_neg k4,if_neg k2,if_pos k3]; rfl))
  rw[eq0 3 k3,cond_false];have e1:eS (prt m t).1=(1:Nat):=by
   unfold eS at ho ⊢
   repeat' split at ho
   all_goals simp_all
  exact Eq.trans (gq (r:=[some 0]) hN hn rfl _ _ _ _ _ _ (hs 1 e1).1 _ _ _ _ _ _) (fin 1 _ e1 (by unfold bQ; rw[if_neg k1,if_neg k4,if_neg k2,if_neg k3]))
 ·intro K;unfold cA;dsimp only;rw[decide_eq_false (by omega:¬(m.length:Int)<(m.length:Int)),cond_false]
theorem Dz {N n i:Nat} (hN:1000<=N) (hn:n<=12) (hi:i<n) (t17 t18 t6 t7 m1 m2:Int) (e0:List Fl->Bool) :
  ah N (Br N n i t17 t18 n t6 t7 m1 m2 e0) (0,List.replicate (i*n) (some 0))=e0 (List.replicate ((i+1)*n) (some 0)):=by
 have hn2:=tD hn;have z0:(((0:Int),List.replicate (i*n) (some 0)):Int × List Fl)=(λt:Nat=>((t:Int),List.replicate (i*n+t) (some 0))) 0:=rfl;rw[z0];refine aD (λt:Nat=>((t:Int),List.replicate (i*n+t) (some 0))) n (by omega) ?_ ?_
 ·intro t ht K;unfold Br;dsimp only;have h1:=iF hi ht;rw[decide_eq_true (by omega:(t:Int)<(n:Int)),cond_true];show(decide ((List.replicate (i*n+t) (some 0)++[some 0]).length*8<=140737488355328)&&_)=_;rw[<- List.replicate_succ',List.length_replicate,aa (decide_eq_true (by omega)),aa (ab (by omega) (by omega))];rfl
 ·intro K;unfold Br;dsimp only;rw[decide_eq_false (by omega:¬(n:Int)<(n:Int)),cond_false,nk]
theorem Nu {N n:Nat} (hN:1000<=N) (hn:n<=12) (k:List Fl->Bool):N2 N n n k=k (mf n λ_ _=>some 0):=by
 (unfold N2; rw[ae]; unfold LA)
 have hn2:=tD hn;rw[<- Int.natCast_mul,aa (ab (by omega) (by omega)),aa (bP (by omega) (by omega) (by omega) (by omega)),<- zK];have z0:(((0:Int),[]):Int × List Fl)=(λt:Nat=>((t:Int),List.replicate (t*n) (some 0))) 0:=by show _=(((0:Nat):Int),List.replicate (0*n) (some 0));rw[Nat.zero_mul]; rfl
 rw[z0];refine aD (λt:Nat=>((t:Int),List.replicate (t*n) (some 0))) n (by omega) ?_ ?_
 ·intro t ht K;unfold fT;dsimp only;rw[decide_eq_true (by omega:(t:Int)<(n:Int)),cond_true,Dz hN hn ht,aa (ab (by omega) (by omega))];rfl
 ·intro K;unfold fT;dsimp only;rw[decide_eq_false (by omega:¬(n:Int)<(n:Int)),cond_false]
theorem FD {N n:Nat} (hN:1000<=N) (hn:n<=12) (k0:Int->Int->Int->Bool) (k1:Int->List Fl->Bool):Jk N n n k0 k1=k1 0 (mf n λ_ _=>some 0):=by
 (unfold Jk; rw[ae]; unfold LH)
 simp only[NF];rw[decide_eq_true (by omega:0<=(n:Int)/\(n:Int)<=12),show((!true)==false)=true from rfl,cond_true,show(!true)=false from rfl,cond_false,Nu hN hn]
def UY (t:Int):Fl:=fdiv (some (FloatKind.nearest .f64 t)) (some 4696837146684686336)
def dmN (m:List RY0):Nat:=(g_ m m.length).toNat
def xE (bl:RY0->Fl->Nat->Nat->Fl) (m:List RY0) (t:Int):List Fl:=mf (dmN m) (ptP m (λp=>bl p (UY t)) m.length)
def p6 (bl:RY0->Fl->Nat->Nat->Fl) (m:List RY0) (t:Int):Int:=
 if oX m ≠ 0 then oX m else if t<0 then 1 else if 1125899906842624<t then 1 else if bb (xE bl m t)=false then 5 else 0
theorem Mu {bl m t} (h:oX m ≠ 0):p6 bl m t=oX m:=by unfold p6; rw[if_pos h]
theorem Mv {bl m t} (h:oX m=0) (h0:t<0):p6 bl m t=1:=by unfold p6; rw[if_neg (λq=>q h),if_pos h0]
theorem Mw {bl m t} (h:oX m=0) (h0:¬ t<0) (h1:1125899906842624<t):p6 bl m t=1:=by unfold p6; rw[if_neg (λq=>q h),if_neg h0,if_pos h1]
theorem Mx {bl m t} (h:oX m=0) (h0:¬ t<0) (h1:¬ 1125899906842624<t):p6 bl m t=if bb (xE bl m t)=false then 5 else 0:=by unfold p6; rw[if_neg (λq=>q h),if_neg h0,if_neg h1]
theorem yI {N:Nat} {t:Int} (h0:¬ t<0) (h1:¬ 1125899906842624<t) (k:Fl->Int->Bool):kh N t k=k (UY t) 0:=by
 (unfold kh; rw[ae]; unfold nt)
 rw[decide_eq_false (by omega:¬ t < -1125899906842624),show(false==false)=true from rfl,cond_true,decide_eq_false (by omega:¬ t>1125899906842624),cond_false]; rfl
theorem IC (bl:RY0->Fl->Nat->Nat->Fl) (m:List RY0) (t:Int):(xE bl m t).length=dmN m*dmN m:=cR _ _
theorem Qh {m:List RY0} (h:oX m=0):g_ m m.length=(dmN m:Nat)/\dmN m<=12:=by have:=Hb h (Nat.le_refl _);unfold dmN; omega
theorem FM {N:Nat} (hN:1000<=N) {m:List RY0} (hm:eE N m.length) (t:Int) (k0:Int->Int->Int->Bool) (k1:Int->Int->Int->List Fl->Bool) :
  ya N m t k0 k1=if p6 bF m t ≠ 0 then k0 0 0 (p6 bF m t)else k1 (dmN m:Nat) (dmN m:Nat) 0 (xE bF m t):=by
 unfold ya B9
 (unfold qy; rw[ae]; unfold mq)
 rw[FJ hm];by_cases h:oX m=0
 ·rw[if_neg (λq=>q h),show((0:Int) != 0)=false from rfl,cond_false];by_cases h0:t<0
  ·rw[decide_eq_true h0,show(true==false)=false from rfl,cond_false,Mv h h0]; rfl
  rw[decide_eq_false h0,show(false==false)=true from rfl,cond_true];by_cases h1:1125899906842624<t
  ·rw[decide_eq_true h1,cond_true,Mw h h0 h1]; rfl
  rw[decide_eq_false h1,cond_false,Mx h h0 h1,yI h0 h1];obtain⟨e,hn⟩:=Qh h;rw[e,FD hN hn,WN hN hn hm h e];show ko N m t _ _ (xE bF m t) _ _=_;unfold ko;have hL:=IC bF m t;have hn2:=tD hn;rw[iG _ (by rw[hL]; exact⟨by omega,by omega⟩)];cases h2:bb (xE bF m t) <;> rfl
 ·rw[if_pos h,cO _ _ h,cond_true,Mu h,if_pos h]
theorem FN {N:Nat} (hN:1000<=N) {m:List RY0} (hm:eE N m.length) (t:Int) (k0:Int->Int->Int->Bool) (k1:Int->Int->Int->List Fl->Bool) :
  uX N m t k0 k1=if p6 bQ m t ≠ 0 then k0 0 0 (p6 bQ m t)else k1 (dmN m:Nat) (dmN m:Nat) 0 (xE bQ m t):=by
 unfold uX B_
 (unfold oN; rw[ae]; unfold kl)
 rw[FJ hm];by_cases h:oX m=0
 ·rw[if_neg (λq=>q h),show((0:Int) != 0)=false from rfl,cond_false];by_cases h0:t<0
  ·rw[decide_eq_true h0,show(true==false)=false from rfl,cond_false,Mv h h0]; rfl
  rw[decide_eq_false h0,show(false==false)=true from rfl,cond_true];by_cases h1:1125899906842624<t
  ·rw[decide_eq_true h1,cond_true,Mw h h0 h1]; rfl
  rw[decide_eq_false h1,cond_false,Mx h h0 h1,yI h0 h1];obtain⟨e,hn⟩:=Qh h;rw[e,FD hN hn,WO hN hn hm h e];show gZ N m t _ _ (xE bQ m t) _ _=_;unfold gZ;have hL:=IC bQ m t;have hn2:=tD hn;rw[iG _ (by rw[hL]; exact⟨by omega,by omega⟩)];cases h2:bb (xE bQ m t) <;> rfl
 ·rw[if_pos h,cO _ _ h,cond_true,Mu h,if_pos h]
def zh (n:Nat) (x p:List Fl):Prop:=n<=12/\x.length=n/\p.length=n*n/\bb x=true/\bb p=true/\rF n p=true/\xe n p=true/\AllW p
theorem z7 {l:List Fl}:bb l=true ↔ ∀ i,i<l.length->be (l.getD i none)=true:=by unfold bb;exact kT
theorem Oz {n:Nat} {x p:List Fl} (h:zh n x p):lY x n n p=0:=by obtain⟨h1,h2,h3,h4,h5,h6,h7,-⟩:=h;unfold lY;rw[Ac h1 h3 h5,if_neg (by decide),if_neg (by omega),if_neg (by omega),Int.toNat_natCast,if_neg (by simp[h4]),if_neg (by simp[h6]),if_neg (by simp[h7])]
theorem MC {x:List Fl} {r c:Int} {p:List Fl} (h:lY x r c p=0) (hw:AllW p):∃ n:Nat,r=n/\c=n/\zh n x p:=by obtain⟨n,h1,h2,h3,h4,h5,h6,h7,h8,h9⟩:=mB h;exact⟨n,h2,h3,h1,h4,h5,h6,h7,h8,h9,hw⟩
theorem A3 {n:Nat} (v:Nat->Nat->Fl):rF n (mf n (mir v))=true:=by
 unfold rF;refine kT.2 λi hi=>kT.2 λj hj=>?_
 have hj2:j<n:=by omega
 rw[DK n _ hi hj2,DK n _ hj2 hi];have:mir v i j=mir v j i:=by unfold mir;rw[if_pos (by omega),if_neg (by omega)]
 rw[this];exact decide_eq_true rfl
theorem KO (x:List Fl) (r c:Int) (p:List Fl) (fr fc:Int) (f:List Fl) (qr qc:Int) (q:List Fl) :
  (∃ e:Int,e ≠ 0 /\ ∀ k0 k1,prK x r c p fr fc f qr qc q k0 k1=k0 0 0 e)\/(∃(n:Nat) (X P:List Fl),zh n X P /\ ∀ k0 k1,prK x r c p fr fc f qr qc q k0 k1=k1 n n 0 X P):=by
 unfold prK;by_cases h0:lY x r c p ≠ 0
 ·exact .inl ⟨_,h0,λk0 k1=>if_pos h0⟩
 by_cases h1:sqc fr fc f x.length ≠ 0
 ·exact .inl ⟨_,h1,λk0 k1=>by rw[if_neg h0,if_pos h1]⟩
 by_cases h2:sqc qr qc q x.length ≠ 0
 ·exact .inl ⟨_,h2,λk0 k1=>by rw[if_neg h0,if_neg h1,if_pos h2]⟩
 by_cases h3:rF x.length q=false
 ·exact .inl ⟨150,by decide,λk0 k1=>by rw[if_neg h0,if_neg h1,if_neg h2,if_pos h3]⟩
 cases h4:prF x.length x p f q
 ·cases h5:xe x.length (prM x.length p f q)
  ·exact .inl ⟨151,by decide,λk0 k1=>by rw[if_neg h0,if_neg h1,if_neg h2,if_neg h3]; rfl⟩
  ·refine .inr ⟨x.length,vf x.length (prX x.length f x),prM x.length p f q,?_,λk0 k1=>by rw[if_neg h0,if_neg h1,if_neg h2,if_neg h3]; rfl⟩;obtain⟨n,hn,-,-,hxl,-,-,-,-,-⟩:=mB (by simpa using h0);rw[hxl]at h4 h5 ⊢;unfold prF at h4;rw[Bool.or_eq_false_iff,Bool.or_eq_false_iff,Bool.or_eq_false_iff]at h4;refine⟨hn,dG _ _,cR _ _,z7.2 (OC (P:=λx=>be x=true) (λi hi=>Te (iY h4.1.1.2 i hi))),DL (zL (NP h4.2)),A3 _,h5,KC (CK UL)⟩
 ·exact .inl ⟨5,by decide,λk0 k1=>by rw[if_neg h0,if_neg h1,if_neg h2,if_neg h3]; rfl⟩
def mvK (x:List Fl) (r c:Int) (p:List Fl) (m:List RY0) (t:Int) (k0:Int->Int->Int->Bool) (k1:Int->Int->Int->List Fl->List Fl->Bool):Bool:=
 if lY x r c p ≠ 0 then k0 0 0 (lY x r c p)else if p6 bF m t ≠ 0 then k0 0 0 (p6 bF m t)else
 if ((dmN m:Nat):Int) ≠ (x.length:Int)then k0 0 0 3 else if p6 bQ m t ≠ 0 then k0 0 0 (p6 bQ m t)else
 prK x r c p (dmN m:Nat) (dmN m:Nat) (xE bF m t) (dmN m:Nat) (dmN m:Nat) (xE bQ m t) k0 k1
theorem KF (x:List Fl) (r c:Int) (p:List Fl) (m:List RY0) (t:Int) :
  (∃ e:Int,e ≠ 0 /\ ∀ k0 k1,mvK x r c p m t k0 k1=k0 0 0 e)\/(∃(n:Nat) (X P:List Fl),zh n X P /\ ∀ k0 k1,mvK x r c p m t k0 k1=k1 n n 0 X P):=by
 unfold mvK;by_cases h0:lY x r c p ≠ 0
 ·exact .inl ⟨_,h0,λk0 k1=>if_pos h0⟩
 by_cases h1:p6 bF m t ≠ 0
 ·exact .inl ⟨_,h1,λk0 k1=>by rw[if_neg h0,if_pos h1]⟩
 by_cases h2:((dmN m:Nat):Int) ≠ (x.length:Int)
 ·exact .inl ⟨3,by decide,λk0 k1=>by rw[if_neg h0,if_neg h1,if_pos h2]⟩
 by_cases h3:p6 bQ m t ≠ 0
 ·exact .inl ⟨_,h3,λk0 k1=>by rw[if_neg h0,if_neg h1,if_neg h2,if_pos h3]⟩
 rcases KO x r c p (dmN m:Nat) (dmN m:Nat) (xE bF m t) (dmN m:Nat) (dmN m:Nat) (xE bQ m t)with⟨e,he,h⟩ | ⟨n,X,P,hT,h⟩
 ·exact .inl ⟨e,he,λk0 k1=>by rw[if_neg h0,if_neg h1,if_neg h2,if_neg h3,h]⟩
 ·exact .inr ⟨n,X,P,hT,λk0 k1=>by rw[if_neg h0,if_neg h1,if_neg h2,if_neg h3,h]⟩
theorem F3 (a b:Int) (h:¬ a ≠ b):(a != b)=false:=by have:a=b:=Classical.byContradiction h;simp[this]
theorem Nk {N:Nat} (hF:Fuel N) (x:List Fl) (r c:Int) (p:List Fl) {m:List RY0} (hm:eE N m.length) (t:Int) (hwp:AllW p) (k0:Int->Int->Int->Bool) (k1:Int->Int->Int->List Fl->List Fl->Bool) :
  aB N x r c p m t k0 k1=mvK x r c p m t k0 k1:=by
 have hN:=hF.lt
 (unfold aB; rw[ae]; unfold pJ mvK)
 rw[oG hF _ _ _ _ hwp];by_cases h0:lY x r c p ≠ 0
 ·rw[if_pos h0,cO _ _ (λq=>h0 q),cond_true]
 rw[if_neg h0,F3 _ _ h0,cond_false,FM (by omega) hm];by_cases h1:p6 bF m t ≠ 0
 ·rw[if_pos h1,cO _ _ h1,cond_true,if_pos h1]
 rw[if_neg h1,if_neg h1,show((0:Int) != 0)=false from rfl,cond_false];unfold rL;by_cases h2:((dmN m:Nat):Int) ≠ (x.length:Int)
 ·rw[if_pos h2,cO _ _ h2,cond_true]
 rw[if_neg h2,F3 _ _ h2,cond_false,FN (by omega) hm];by_cases h3:p6 bQ m t ≠ 0
 ·rw[if_pos h3,cO _ _ h3,cond_true,if_pos h3]
 rw[if_neg h3,if_neg h3,show((0:Int) != 0)=false from rfl,cond_false];unfold rM;rw[Fy hF _ _ _ _ _ _ _ _ _ _ hwp]
theorem iU (N:Nat) {x:Fl} (hw:FW x) (o:Bool) (a1:List Fl) (a2 a3:Int) (a4 a5:List Fl) (a6 a7 a8:Fl) (a9:List Fl) (k:Bool->Bool):Gp N x o a1 a2 a3 a4 a5 a6 a7 a8 a9 k=k (o || !be x):=by
 (unfold Gp; rw[ae]; unfold QV)
 exact Di hw o k
theorem vu (N:Nat) (x y:Fl) (o:Bool) (a1:List Fl) (a2 a3:Int) (a4 a5:List Fl) (a6 a7 a8:Fl) (a9:List Fl) (k:Fl->Bool->Bool):PX N x y o a1 a2 a3 a4 a5 a6 a7 a8 a9 k=k (aF x y) (o || !be (aF x y)):=by
 (unfold PX; rw[ae]; unfold Rl)
 rw[iU N (C9 x y)]
theorem cC (N:Nat) {x:Fl} (hw:FW x) (o:Bool) (a1:List Fl) (a2 a3:Int) (a4 a5:List Fl) (a6 a7 a8:Fl) (a9 a10:List Fl) (k:Bool->Bool):sQ4 N x o a1 a2 a3 a4 a5 a6 a7 a8 a9 a10 k=k (o || !be x):=by
 (unfold sQ4; rw[ae]; unfold GQ4)
 exact Di hw o k
theorem cF (N:Nat) (x y:Fl) (o:Bool) (a1:List Fl) (a2 a3:Int) (a4 a5:List Fl) (a6 a7 a8:Fl) (a9 a10:List Fl) (k:Fl->Bool->Bool):sQ5 N x y o a1 a2 a3 a4 a5 a6 a7 a8 a9 a10 k=k (aF x y) (o || !be (aF x y)):=by
 (unfold sQ5; rw[ae]; unfold GQ5)
 rw[cC N (C9 x y)]
theorem Fu {N n:Nat} (hN:1000<=N) (hn:n<=100) {a b:List Fl} (a1:List Fl) (a2 a3:Int) (a4 a5:List Fl) (a6 a7 a8:Fl) (a9:List Fl) {f g:Nat->Fl} (ha:a.length=n) (hb:n<=b.length) (hbs:b.length<=1000) (hf:∀ i,i<n->a.getD i none=f i) (hg:∀ i,i<n->b.getD i none=g i) (o:Bool) (k:Fl->Bool->Bool) :
  PW N a b o a1 a2 a3 a4 a5 a6 a7 a8 a9 k=k (dV f g n) (o||dO f g n):=by
 (unfold PW; rw[ae]; unfold Rk)
 have h0:((some 0,0,o):Fl × Int × Bool)=(λt:Nat=>(dV f g t,(t:Int),o||dO f g t)) 0:=by show _=(some 0,((0:Nat):Int),o||false); rw[qt]; rfl
 rw[h0];refine aD (λt:Nat=>(dV f g t,(t:Int),o||dO f g t)) n (by omega) ?_ ?_
 ·intro t ht K;unfold Ej;dsimp only;rw[decide_eq_true (by omega:(t:Int)<(a.length:Int)),cond_true,aa (ai (by omega) (by omega)),aa (ai (by omega) (by omega)),Int.toNat_natCast,hf t ht,hg t ht,vu,iU N (kQ _ _),aa (ab (by omega) (by omega)),qR];rfl
 ·intro K;unfold Ej;dsimp only;rw[decide_eq_false (by omega:¬(n:Int)<(a.length:Int)),cond_false]
theorem Ng {N n:Nat} (hN:1000<=N) (hn:n<=100) {a b:List Fl} (a1:List Fl) (a2 a3:Int) (a4 a5:List Fl) (a6 a7 a8:Fl) {f g:Nat->Fl} (ha:a.length=n) (hb:n<=b.length) (hbs:b.length<=1000) (hf:∀ i,i<n->a.getD i none=f i) (hg:∀ i,i<n->b.getD i none=g i) (o:Bool) (k:Fl->Bool->Bool) :
  TP N a o a1 a2 a3 a4 a5 a6 a7 a8 b k=k (dV f g n) (o||dO f g n):=by
 (unfold TP; rw[ae]; unfold Rf)
 have h0:((some 0,0,o):Fl × Int × Bool)=(λt:Nat=>(dV f g t,(t:Int),o||dO f g t)) 0:=by show _=(some 0,((0:Nat):Int),o||false); rw[qt]; rfl
 rw[h0];refine aD (λt:Nat=>(dV f g t,(t:Int),o||dO f g t)) n (by omega) ?_ ?_
 ·intro t ht K;unfold Ef;dsimp only;rw[decide_eq_true (by omega:(t:Int)<(a.length:Int)),cond_true,aa (ai (by omega) (by omega)),aa (ai (by omega) (by omega)),Int.toNat_natCast,aa (decide_eq_true (by omega)),hf t ht,hg t ht,vu,iU N (kQ _ _),aa (ab (by omega) (by omega)),qR];rfl
 ·intro K;unfold Ef;dsimp only;rw[decide_eq_false (by omega:¬(n:Int)<(a.length:Int)),cond_false]
theorem Nh {N n:Nat} (hN:1000<=N) (hn:n<=100) {s:Nat} {a b:List Fl} (a1:List Fl) (a2 a3:Int) (a4 a5:List Fl) (a6 a7 a8:Fl) (a9 a10:List Fl) {f g:Nat->Fl} (ha:s+n<=a.length) (hb:n<=b.length) (hbs:b.length<=1000) (hf:∀ i,i<n->a.getD (s+i) none=f i) (hg:∀ i,i<n->b.getD i none=g i) (o:Bool) (k:Fl->Bool->Bool) :
  TH N s n o a1 a2 a3 a4 a5 a6 a7 a8 a b a9 a10 k=k (dV f g n) (o||dO f g n):=by
 (unfold TH; rw[ae]; unfold QY)
 have h0:((some 0,0,o):Fl × Int × Bool)=(λt:Nat=>(dV f g t,(t:Int),o||dO f g t)) 0:=by show _=(some 0,((0:Nat):Int),o||false); rw[qt]; rfl
 rw[h0];refine aD (λt:Nat=>(dV f g t,(t:Int),o||dO f g t)) n (by omega) ?_ ?_
 ·intro t ht K;unfold Eb;dsimp only;rw[decide_eq_true (by omega:(t:Int)<(n:Int)),cond_true,aa (ai (by omega) (by omega)),Int.toNat_natCast,aa (decide_eq_true (by omega)),aa (ai (by omega) (by omega)),aa (decide_eq_true (by omega)),hf t ht,hg t ht,cF,cC N (kQ _ _),aa (ab (by omega) (by omega)),qR];rfl
 ·intro K;unfold Eb;dsimp only;rw[decide_eq_false (by omega:¬(n:Int)<(n:Int)),cond_false]
theorem Ni {N n:Nat} (hN:1000<=N) (hn:n<=100) {s s':Nat} {a b:List Fl} (a1:List Fl) (a2 a3:Int) (a4 a5:List Fl) (a6 a7 a8:Fl) (a9 a10:List Fl) {f g:Nat->Fl} (ha:s+n<=a.length) (hb:s'+n<=b.length) (hf:∀ i,i<n->a.getD (s+i) none=f i) (hg:∀ i,i<n->b.getD (s'+i) none=g i) (o:Bool) (k:Fl->Bool->Bool) :
  TG N s n s' n o a1 a2 a3 a4 a5 a6 a7 a8 a b a9 a10 k=k (dV f g n) (o||dO f g n):=by
 (unfold TG; rw[ae]; unfold QX)
 have h0:((some 0,0,o):Fl × Int × Bool)=(λt:Nat=>(dV f g t,(t:Int),o||dO f g t)) 0:=by show _=(some 0,((0:Nat):Int),o||false); rw[qt]; rfl
 rw[h0];refine aD (λt:Nat=>(dV f g t,(t:Int),o||dO f g t)) n (by omega) ?_ ?_
 ·intro t ht K;unfold Ea;dsimp only;rw[decide_eq_true (by omega:(t:Int)<(n:Int)),cond_true,aa (ai (by omega) (by omega)),Int.toNat_natCast,aa (decide_eq_true (by omega)),aa (ai (by omega) (by omega)),aa (decide_eq_true (by omega)),hf t ht,hg t ht,cF,cC N (kQ _ _),aa (ab (by omega) (by omega)),qR];rfl
 ·intro K;unfold Ea;dsimp only;rw[decide_eq_false (by omega:¬(n:Int)<(n:Int)),cond_false]
theorem DB {N n:Nat} (hN:1000<=N) (hn:n<=12) {f p:List Fl} (hf:f.length=n*n) (hp:p.length=n*n) (o:Bool) (a1:List Fl) (a2 a3:Int) (a4 a5:List Fl) (a6 a7 a8:Fl) (a9 a10:List Fl) (k:Bool->List Fl->Bool) :
  dF N n n n n p o a1 a2 a3 a4 a5 a6 a7 a8 f a9 a10 k=k (o||orM n (prO n f p)) (mf n (prV n f p)):=by
 (unfold dF; rw[ae]; unfold dz)
 have hn2:n*n<=144:=tD hn;have h0:((0,o,[]):Int × Bool × List Fl)=(λi:Nat=>((i:Int),o||orB (λi=>orB (λj=>prO n f p i j) n) i,(mf n (prV n f p)).take (i*n))) 0:=by show _=(((0:Nat):Int),o||false,List.take (0*n) _); rw[qt,Nat.zero_mul]; rfl
 rw[h0];refine aD (λi:Nat=>((i:Int),o||orB (λi=>orB (λj=>prO n f p i j) n) i,(mf n (prV n f p)).take (i*n))) n (by omega) ?_ ?_
 ·intro i hi K;unfold bL;dsimp only;rw[decide_eq_true (by omega:(i:Int)<(n:Int)),cond_true];generalize ho1:(o||orB (λi=>orB (λj=>prO n f p i j) n) i)=o1;have h1:((0,o1,(mf n (prV n f p)).take (i*n)):Int × Bool × List Fl)=(λj:Nat=>((j:Int),o1||orB (λj=>prO n f p i j) j,(mf n (prV n f p)).take (i*n+j))) 0:=by show _=(((0:Nat):Int),o1||false,List.take (i*n+0) _); rw[qt]; rfl
  rw[h1];refine(aD (λj:Nat=>((j:Int),o1||orB (λj=>prO n f p i j) j,(mf n (prV n f p)).take (i*n+j))) n (N:=N) (by omega) (out:=K ((((i+1:Nat)):Int),o||orB (λi=>orB (λj=>prO n f p i j) n) (i+1),(mf n (prV n f p)).take ((i+1)*n))) ?_ ?_:_)
  ·intro j hj K';have hij:=iF hi hj;have hrow:=xY hi;have hrn:=nk n i;unfold bM;dsimp only;rw[decide_eq_true (by omega:(j:Int)<(n:Int)),cond_true,w9 (by omega) hi hf,IX hN (by omega) hj hp,
    Nh (n:=n) (s:=i*n) (f:=λt=>elt f n i t) (g:=λt=>elt p n t j) hN (by omega) _ _ _ _ _ _ _ _ _ _ (by omega) (by rw[dG]; omega) (by rw[dG]; omega) (λt ht=>rfl) (λt ht=>pI n _ ht none)]
   have e:dV (λt=>elt f n i t) (λt=>elt p n t j) n=prV n f p i j:=rfl;have e2:dO (λt=>elt f n i t) (λt=>elt p n t j) n=prO n f p i j:=rfl;rw[e,e2,DM n (prV n f p) hi hj,aa (decide_eq_true (by rw[List.length_take,cR]; omega)),aa (ab (by omega) (by omega)),gN o1 (λj=>prO n f p i j) j];rfl
  ·intro K';unfold bM;dsimp only;rw[decide_eq_false (by omega:¬(n:Int)<(n:Int)),cond_false,aa (ab (by omega) (by omega)),<- ho1,nk,gN o (λi=>orB (λj=>prO n f p i j) n) i];rfl
 ·intro K;unfold bL;dsimp only;rw[decide_eq_false (by omega:¬(n:Int)<(n:Int)),cond_false,Bz];rfl
def jV (n:Nat) (B A kk:List Fl) (r:Fl):Nat->Nat->Fl:=λi j=>ep (dV (λt=>elt B n i t) (λt=>elt A n j t) n) (aF (aF (kk.getD i none) r) (kk.getD j none))
def jO (n:Nat) (B A kk:List Fl) (r:Fl):Nat->Nat->Bool:=λi j=>((dO (λt=>elt B n i t) (λt=>elt A n j t) n || !be (aF (kk.getD i none) r)) || !be (aF (aF (kk.getD i none) r) (kk.getD j none))) || !be (jV n B A kk r i j)
theorem Nv {N n i j:Nat} (hN:1000<=N) (hn:n<=12) (hi:i<n) (hj:j<n) {B A kk:List Fl} (hB:B.length=n*n) (hA:A.length=n*n) (hk:kk.length=n) (o:Bool) (a1:List Fl) (a2 a3:Int) (a4 a5:List Fl) (a6 a7 a8:Fl) (a9:List Fl) (k:Fl->Bool->Bool) :
  bw N i j n n n n o a1 a2 a3 a4 a5 a6 a7 a8 B A a9 kk k=k (jV n B A kk a6 i j) (o||jO n B A kk a6 i j):=by
 (unfold bw; rw[ae]; unfold bv)
 have h1:=xY hi;have h2:=nk n i;have h3:=xY hj;have h4:=nk n j;rw[w9 (by omega) hi hB,w9 (by omega) hj hA,
  Ni (n:=n) (s:=i*n) (s':=j*n) (f:=λt=>elt B n i t) (g:=λt=>elt A n j t) hN (by omega) _ _ _ _ _ _ _ _ _ _ (by omega) (by omega) (λt ht=>rfl) (λt ht=>rfl),
  aa (ai (by omega) (by omega)),Int.toNat_natCast,aa (decide_eq_true (by omega)),cF,aa (ai (by omega) (by omega)),Int.toNat_natCast,aa (decide_eq_true (by omega)),cF,cC N (kQ _ _)]
 unfold jO;simp only[Bool.or_assoc];rfl
theorem BT {N n:Nat} (hN:1000<=N) (hn:n<=12) {B A kk:List Fl} (hB:B.length=n*n) (hA:A.length=n*n) (hk:kk.length=n) (o:Bool) (a1:List Fl) (a2 a3:Int) (a4 a5:List Fl) (a6 a7 a8:Fl) (a9:List Fl) (k:Bool->List Fl->Bool) :
  cG N n n n n n o a1 a2 a3 a4 a5 a6 a7 a8 B A a9 kk k=k (o||orL n (jO n B A kk a6)) (mf n (mir (jV n B A kk a6))):=by
 have hn2:n*n<=144:=tD hn
 (unfold cG; rw[ae]; unfold cD)
 rw[<- Int.natCast_mul,aa (ab (by omega) (by omega)),aa (bP (by omega) (by omega) (by omega) (by omega)),Int.toNat_natCast,zK];generalize hv:jV n B A kk a6=v;generalize hw:jO n B A kk a6=w;rw[DJ n v];have h0:((0,o,mf n (mS v 0 0)):Int × Bool × List Fl)=(λi:Nat=>((i:Int),o||orB (λi=>orB (λj=>w i j) (i+1)) i,mf n (mS v i 0))) 0:=by show _=(((0:Nat):Int),o||false,_); rw[qt]; rfl
 rw[h0];refine aD (λi:Nat=>((i:Int),o||orB (λi=>orB (λj=>w i j) (i+1)) i,mf n (mS v i 0))) n (by omega) ?_ ?_
 ·intro i hi K;unfold bt;dsimp only;rw[decide_eq_true (by omega:(i:Int)<(n:Int)),cond_true,aa (ab (by omega) (by omega))];generalize ho1:(o||orB (λi=>orB (λj=>w i j) (i+1)) i)=o1;have h1:((0,o1,mf n (mS v i 0)):Int × Bool × List Fl)=(λj:Nat=>((j:Int),o1||orB (λj=>w i j) j,mf n (mS v i j))) 0:=by show _=(((0:Nat):Int),o1||false,_); rw[qt]; rfl
  rw[h1];refine(aD (λj:Nat=>((j:Int),o1||orB (λj=>w i j) j,mf n (mS v i j))) (i+1) (N:=N) (by omega) (out:=K ((((i+1:Nat)):Int),o||orB (λi=>orB (λj=>w i j) (i+1)) (i+1),mf n (mS v (i+1) 0))) ?_ ?_:_)
  ·intro j hj K';have hj2:j<n:=by omega
   obtain⟨g1,g2⟩:=eR (by omega:n<=1000) hi hj2;obtain⟨g3,g4⟩:=eR (by omega:n<=1000) hj2 hi;have g5:=iF hi hj2;have g6:=iF hj2 hi;unfold bu;dsimp only;rw[decide_eq_true (by omega:(j:Int)<(i:Int)+1),cond_true,Nv hN hn hi hj2 hB hA hk,aa g1,eQ,aa g2,aa g3,eQ,aa g4,cR,aa (ai (by omega) (by omega)),Int.toNat_natCast,aa (decide_eq_true g5),hv,hw,
    wh n _ hi hj2,cR,aa (ai (by omega) (by omega)),Int.toNat_natCast,aa (decide_eq_true g6),wh n _ hj2 hi,aa (ab (by omega) (by omega)),gN o1 (λj=>w i j) j,DI n v hj]
   rfl
  ·intro K';unfold bu;dsimp only;rw[decide_eq_false (by omega:¬((i+1:Nat):Int)<(i:Int)+1),cond_false,aa (ab (by omega) (by omega)),<- ho1,HU,gN o (λi=>orB (λj=>w i j) (i+1)) i];rfl
 ·intro K;unfold bt;dsimp only;rw[decide_eq_false (by omega:¬(n:Int)<(n:Int)),cond_false,HT];rfl
def Pw (i j:Nat):Fl:=if i=j then some 4607182418800017408 else some 0
def asV (kk h:List Fl):Nat->Nat->Fl:=λi j=>iS (Pw i j) (aF (kk.getD i none) (h.getD j none))
def asO (kk h:List Fl):Nat->Nat->Bool:=λi j=>!be (aF (kk.getD i none) (h.getD j none)) || !be (asV kk h i j)
def Fq (n:Nat) (p kk h:List Fl) (r:Fl):List Fl:=mf n (mir (jV n (mf n (prV n (mf n (asV kk h)) p)) (mf n (asV kk h)) kk r))
def J6 (n:Nat) (p kk h:List Fl) (r:Fl):Bool:=(orM n (asO kk h)||orM n (prO n (mf n (asV kk h)) p))||orL n (jO n (mf n (prV n (mf n (asV kk h)) p)) (mf n (asV kk h)) kk r)
theorem HE {N n:Nat} (hN:1000<=N) (hn:n<=12) {p h kk:List Fl} (hp:p.length=n*n) (hh:h.length=n) (hk:kk.length=n) (o:Bool) (a1:List Fl) (r a7 a8:Fl) (a9:List Fl) (k:Int->Int->Bool->List Fl->Bool) :
  cT N o a1 n n p h r a7 a8 a9 kk k=k n n (o||J6 n p kk h r) (Fq n p kk h r):=by
 (unfold cT; rw[ae]; unfold cQ)
 rw[hh];have hn2:n*n<=144:=tD hn;have h0:((0,o,[]):Int × Bool × List Fl)=(λi:Nat=>((i:Int),o||orB (λi=>orB (λj=>asO kk h i j) n) i,(mf n (asV kk h)).take (i*n))) 0:=by show _=(((0:Nat):Int),o||false,List.take (0*n) _); rw[qt,Nat.zero_mul]; rfl
 rw[h0];refine aD (λi:Nat=>((i:Int),o||orB (λi=>orB (λj=>asO kk h i j) n) i,(mf n (asV kk h)).take (i*n))) n (by omega) ?_ ?_
 ·intro i hi K;unfold bB;dsimp only;rw[decide_eq_true (by omega:(i:Int)<(n:Int)),cond_true];generalize ho1:(o||orB (λi=>orB (λj=>asO kk h i j) n) i)=o1;have h1:((0,o1,(mf n (asV kk h)).take (i*n)):Int × Bool × List Fl)=(λj:Nat=>((j:Int),o1||orB (λj=>asO kk h i j) j,(mf n (asV kk h)).take (i*n+j))) 0:=by show _=(((0:Nat):Int),o1||false,List.take (i*n+0) _); rw[qt]; rfl
  rw[h1];refine(aD (λj:Nat=>((j:Int),o1||orB (λj=>asO kk h i j) j,(mf n (asV kk h)).take (i*n+j))) n (N:=N) (by omega) (out:=K ((((i+1:Nat)):Int),o||orB (λi=>orB (λj=>asO kk h i j) n) (i+1),(mf n (asV kk h)).take ((i+1)*n))) ?_ ?_:_)
  ·intro j hj K';have hij:=iF hi hj;unfold bC;dsimp only;have key:∀ z:Fl,Pw i j=z->(inR (i:Int) (List.length kk)&&(decide ((Int.toNat (i:Int))<kk.length)&&(inR (j:Int) (List.length h)&&sQ5 N (kk.getD (Int.toNat (i:Int)) none) (h.getD (Int.toNat (j:Int)) none) (o1||orB (λj=>asO kk h i j) j) a1 n n p h r a7 a8 a9 kk (λxr cr=>sQ4 N (iS z xr) cr a1 n n p h r a7 a8 a9 kk (λXS=>(decide ((((mf n (asV kk h)).take (i*n+j)++[iS z xr]).length)*8<=140737488355328))&&(ac .i64 ((j:Int)+1)&&K' ((j:Int)+1,XS,(mf n (asV kk h)).take (i*n+j)++[iS z xr])))))))=K' (((j+1:Nat):Int),o1||orB (λj=>asO kk h i j) (j+1),(mf n (asV kk h)).take (i*n+(j+1))):=by
    intro z hz;rw[aa (ai (by omega) (by omega)),Int.toNat_natCast,aa (decide_eq_true (by omega)),aa (ai (by omega) (by omega)),Int.toNat_natCast,cF,cC N (ui _ _)];have e:iS z (aF (kk.getD i none) (h.getD j none))=asV kk h i j:=by rw[<- hz]; rfl
    have e2:(((o1||orB (λj=>asO kk h i j) j) || !be (aF (kk.getD i none) (h.getD j none))) || !be (asV kk h i j))=(o1||orB (λj=>asO kk h i j) (j+1)):=by rw[<- gN o1 (λj=>asO kk h i j) j];unfold asO;simp only[Bool.or_assoc]
    rw[e,e2,DM n (asV kk h) hi hj,aa (decide_eq_true (by rw[List.length_take,cR]; omega)),aa (ab (by omega) (by omega))];rfl
   rw[decide_eq_true (by omega:(j:Int)<(n:Int)),cond_true];by_cases hij2:i=j
   ·have e:((i:Int)==(j:Int))=true:=by rw[hij2]; exact beq_self_eq_true _
    rw[e,cond_true];exact key _ (by unfold Pw; rw[if_pos hij2])
   ·have e:((i:Int)==(j:Int))=false:=by rw[beq_eq_false_iff_ne]; omega
    rw[e,cond_false];exact key _ (by unfold Pw; rw[if_neg hij2])
  ·intro K';unfold bC;dsimp only;rw[decide_eq_false (by omega:¬(n:Int)<(n:Int)),cond_false,aa (ab (by omega) (by omega)),<- ho1,nk,gN o (λi=>orB (λj=>asO kk h i j) n) i];rfl
 ·intro K;unfold bB;dsimp only;rw[decide_eq_false (by omega:¬(n:Int)<(n:Int)),cond_false,Bz,DB hN hn (cR _ _) hp,BT hN hn (cR _ _) (cR _ _) hk];unfold Fq J6;rw[show orB (λi=>orB (λj=>asO kk h i j) n) n=orM n (asO kk h) from rfl];simp only[Bool.or_assoc]
def shV (n:Nat) (p kk v:List Fl):Nat->Nat->Fl:=λi j=>iS (elt p n i j) (aF (kk.getD i none) (v.getD j none))
def shO (n:Nat) (p kk v:List Fl):Nat->Nat->Bool:=λi j=>!be (aF (kk.getD i none) (v.getD j none)) || !be (shV n p kk v i j)
theorem NE {N n i j:Nat} (hN:1000<=N) (hn:n<=12) (hi:i<n) (hj:j<n) {p v kk:List Fl} (hp:p.length=n*n) (hv0:v.length=n) (hk:kk.length=n) (o:Bool) (a1:List Fl) (a2 a3:Int) (a5:List Fl) (a6 a7 a8:Fl) (k:Fl->Bool->Bool) :
  cl N i j n o a1 a2 a3 p a5 a6 a7 a8 v kk k=k (shV n p kk v i j) (o||shO n p kk v i j):=by
 (unfold cl; rw[ae]; unfold cb)
 obtain⟨h1,h2⟩:=eR (by omega:n<=1000) hi hj;have h3:=iF hi hj;rw[aa h1,eQ,aa h2,hp,aa (ai (by omega) (by omega)),aa (ai (by omega) (by omega)),Int.toNat_natCast,aa (decide_eq_true (by omega)),aa (ai (by omega) (by omega)),Int.toNat_natCast,aa (decide_eq_true (by omega)),cF,Int.toNat_natCast,cC N (ui _ _)];unfold shO;simp only[Bool.or_assoc];rfl
theorem BS {N n:Nat} (hN:1000<=N) (hn:n<=12) {p v kk:List Fl} (hp:p.length=n*n) (hv0:v.length=n) (hk:kk.length=n) (o:Bool) (a1:List Fl) (a2 a3:Int) (a5:List Fl) (a6 a7 a8:Fl) (k:Bool->List Fl->Bool) :
  dE N n n o a1 a2 a3 p a5 a6 a7 a8 v kk k=k (o||orL n (shO n p kk v)) (mf n (mir (shV n p kk v))):=by
 have hn2:n*n<=144:=tD hn
 (unfold dE; rw[ae]; unfold dy)
 rw[<- Int.natCast_mul,aa (ab (by omega) (by omega)),aa (bP (by omega) (by omega) (by omega) (by omega)),Int.toNat_natCast,zK];generalize hv:shV n p kk v=w1;generalize hw:shO n p kk v=w;rw[DJ n w1];have h0:((0,o,mf n (mS w1 0 0)):Int × Bool × List Fl)=(λi:Nat=>((i:Int),o||orB (λi=>orB (λj=>w i j) (i+1)) i,mf n (mS w1 i 0))) 0:=by show _=(((0:Nat):Int),o||false,_); rw[qt]; rfl
 rw[h0];refine aD (λi:Nat=>((i:Int),o||orB (λi=>orB (λj=>w i j) (i+1)) i,mf n (mS w1 i 0))) n (by omega) ?_ ?_
 ·intro i hi K;unfold bJ;dsimp only;rw[decide_eq_true (by omega:(i:Int)<(n:Int)),cond_true,aa (ab (by omega) (by omega))];generalize ho1:(o||orB (λi=>orB (λj=>w i j) (i+1)) i)=o1;have h1:((0,o1,mf n (mS w1 i 0)):Int × Bool × List Fl)=(λj:Nat=>((j:Int),o1||orB (λj=>w i j) j,mf n (mS w1 i j))) 0:=by show _=(((0:Nat):Int),o1||false,_); rw[qt]; rfl
  rw[h1];refine(aD (λj:Nat=>((j:Int),o1||orB (λj=>w i j) j,mf n (mS w1 i j))) (i+1) (N:=N) (by omega) (out:=K ((((i+1:Nat)):Int),o||orB (λi=>orB (λj=>w i j) (i+1)) (i+1),mf n (mS w1 (i+1) 0))) ?_ ?_:_)
  ·intro j hj K';have hj2:j<n:=by omega
   obtain⟨g1,g2⟩:=eR (by omega:n<=1000) hi hj2;obtain⟨g3,g4⟩:=eR (by omega:n<=1000) hj2 hi;have g5:=iF hi hj2;have g6:=iF hj2 hi;unfold bK;dsimp only;rw[decide_eq_true (by omega:(j:Int)<(i:Int)+1),cond_true,NE hN hn hi hj2 hp hv0 hk,aa g1,eQ,aa g2,aa g3,eQ,aa g4,cR,aa (ai (by omega) (by omega)),Int.toNat_natCast,aa (decide_eq_true g5),hv,hw,
    wh n _ hi hj2,cR,aa (ai (by omega) (by omega)),Int.toNat_natCast,aa (decide_eq_true g6),wh n _ hj2 hi,aa (ab (by omega) (by omega)),gN o1 (λj=>w i j) j,DI n w1 hj]
   rfl
  ·intro K';unfold bK;dsimp only;rw[decide_eq_false (by omega:¬((i+1:Nat):Int)<(i:Int)+1),cond_false,aa (ab (by omega) (by omega)),<- ho1,HU,gN o (λi=>orB (λj=>w i j) (i+1)) i];rfl
 ·intro K;unfold bJ;dsimp only;rw[decide_eq_false (by omega:¬(n:Int)<(n:Int)),cond_false,HT];rfl
def Ie (n:Nat) (p kk v:List Fl):List Fl:=mf n (mir (shV n p kk v))
def Oi (n:Nat) (p kk v:List Fl):Bool:=orL n (shO n p kk v)
theorem HL {N n:Nat} (hN:1000<=N) (hn:n<=12) {p h v kk:List Fl} (hp:p.length=n*n) (hh:h.length=n) (hv:v.length=n) (hk:kk.length=n) (o:Bool) (a1:List Fl) (a2 a3:Int) (r a7 a8:Fl) (k:Int->Int->Bool->List Fl->Bool) :
  dk N o a1 a2 a3 p h r a7 a8 v kk k=k n n (o||Oi n p kk v) (Ie n p kk v):=by
 (unfold dk; rw[ae]; unfold cY)
 rw[hh,BS hN hn hp hv hk];rfl
theorem Jo {n:Nat} {p kk v:List Fl} (q:Oi n p kk v=false):bb (Ie n p kk v)=true:=by unfold Oi at q;refine DL (zL λa b ha hb=>?_);have h2:=iY (iY q a ha) b (by omega);unfold shO at h2;rw[Bool.or_eq_false_iff]at h2;simpa using h2.2
def oR (n:Nat) (h:List Fl) (r:Fl):Int:=if h.length ≠ n then 3 else if bb h=false then 4 else if be r=false then 4 else if fle r (some 0)=true then 152 else 0
theorem vN (r:Fl):bb [r]=be r:=by show(sN (λi=>be ([r].getD i none)) 1)=be r;unfold sN sN;rw[Bool.true_and]; rfl
theorem ifz {α:Sort _} {a:Int} {A B:α} (h:a=0):(if a ≠ 0 then A else B)=B:=if_neg λq=>q h
theorem xO {α:Sort _} {a:Int} {A B:α} (h:¬ a=0):(if a ≠ 0 then A else B)=A:=if_pos h
theorem ND {N:Nat} (hN:1000<=N) {n:Nat} (hn:n<=12) (h:List Fl) (r:Fl) (k:Int->Bool):pP N n h r k=k (oR n h r):=by
 (unfold pP; rw[ae]; unfold pK oR)
 by_cases h0:h.length=n
 ·have e:(((h.length:Nat):Int) != (n:Int))=false:=by simp[h0]
  rw[e,cond_false,if_neg (λq=>q h0),iG h ⟨by omega,by omega⟩];cases bb h
  ·rfl
  ·rw[show(!true)=false from rfl,cond_false,iG [r] ⟨by simp; omega,by simp⟩,vN];cases be r
   ·rfl
   ·cases fle r (some 0) <;> rfl
 ·have e:(((h.length:Nat):Int) != (n:Int))=true:=by simp; omega
  rw[e,cond_true,if_pos h0]
theorem wB {n:Nat} {h:List Fl} {r:Fl} (q:oR n h r=0):h.length=n/\bb h=true/\be r=true/\fle r (some 0)=false:=by
 unfold oR at q;split at q
 ·cases q
 ·split at q
  ·cases q
  ·split at q
   ·cases q
   ·split at q
    ·cases q
    ·rename_i h0 h1 h2 h3;exact⟨by simpa using h0,by simpa using h1,by simpa using h2,by simpa using h3⟩
def lst (l:List Fl):Nat->Fl:=λt=>l.getD t none
def uV (n:Nat) (p h:List Fl):Nat->Fl:=λi=>dV (λt=>elt p n i t) (lst h) n
def uVo (n:Nat) (p h:List Fl):Nat->Bool:=λi=>dO (λt=>elt p n i t) (lst h) n
def uW (n:Nat) (x h:List Fl):Fl:=dV (lst h) (lst x) n
def uS (n:Nat) (p h:List Fl) (r:Fl):Fl:=ep (dV (lst h) (uV n p h) n) r
def uF (n:Nat) (x p h:List Fl) (r:Fl):Bool:=((orB (uVo n p h) n||dO (lst h) (lst x) n)||dO (lst h) (uV n p h) n) || !be (uS n p h r)
def uE (n:Nat) (x p h:List Fl) (r:Fl):Int:=if uF n x p h r=true then 5 else if fgt (uS n p h r) (some 0)=false then 153 else 0
theorem yK {N:Nat} (hF:Fuel N) (x:List Fl) (rr cc:Int) (p h:List Fl) (r:Fl) (hwp:AllW p) (k0:Int->Bool) (k1:Int->Bool->Fl->Fl->List Fl->Bool) :
  iZ N x rr cc p h r k0 k1=if lY x rr cc p ≠ 0 then k0 (lY x rr cc p)else if oR x.length h r ≠ 0 then k0 (oR x.length h r)else
   k1 (uE x.length x p h r) (uF x.length x p h r) (uW x.length x h) (uS x.length p h r) (vf x.length (uV x.length p h)):=by
 have hN:=hF.lt
 (unfold iZ; rw[ae]; unfold mp)
 rw[oG hF _ _ _ _ hwp];by_cases h0:lY x rr cc p=0
 ·obtain⟨n,hn,rfl,rfl,hx,hl,fx,fl,-,-⟩:=mB h0;rw[if_neg (λh=>h h0),h0,show((0:Int) != 0)=false from rfl,cond_false,hx,ND (by omega) hn];by_cases h1:oR n h r=0
  ·obtain⟨hh,-,-,-⟩:=wB h1;rw[if_neg (λq=>q h1),h1,show((0:Int) != 0)=false from rfl,cond_false];have z0:((0,false,[]):Int × Bool × List Fl)=(λt:Nat=>((t:Int),orB (uVo n p h) t,(vf n (uV n p h)).take t)) 0:=rfl;rw[z0];refine aD (λt:Nat=>((t:Int),orB (uVo n p h) t,(vf n (uV n p h)).take t)) n (by omega) ?_ ?_
   ·intro t ht K;unfold ft;dsimp only;rw[decide_eq_true (by omega:(t:Int)<(n:Int)),cond_true,zH (by omega) ht hl,
     Fu (n:=n) (f:=λi=>elt p n t i) (g:=lst h) (by omega) (by omega) _ _ _ _ _ _ _ _ _ (tL hl ht) (by omega) (by omega) (λi hi=>uQ hl ht hi) (λi hi=>rfl)]
    have e:dV (λi=>elt p n t i) (lst h) n=uV n p h t:=rfl;rw[e,Ju n (uV n p h) ht,aa (decide_eq_true (by rw[List.length_take,dG]; omega)),aa (ab (by omega) (by omega))];rfl
   ·intro K;unfold ft;dsimp only;rw[decide_eq_false (by omega:¬(n:Int)<(n:Int)),cond_false,List.take_of_length_le (by rw[dG]; omega),
     Fu (n:=n) (f:=lst h) (g:=lst x) (by omega) (by omega) _ _ _ _ _ _ _ _ _ hh (by omega) (by omega) (λi hi=>rfl) (λi hi=>rfl),
     Ng (n:=n) (f:=lst h) (g:=uV n p h) (by omega) (by omega) _ _ _ _ _ _ _ _ hh (by rw[dG]; omega) (by rw[dG]; omega) (λi hi=>rfl) (λi hi=>pI n _ hi none),iU N (kQ _ _)]
    (unfold Qw; rw[ae]; unfold Lp)
    show cond (uF n x p h r) (k1 5 (uF n x p h r) (uW n x h) (uS n p h r) _) (cond (!(fgt (uS n p h r) (some 0))) (k1 153 (uF n x p h r) (uW n x h) (uS n p h r) _) (k1 0 (uF n x p h r) (uW n x h) (uS n p h r) _))=_;unfold uE;cases uF n x p h r
    ·cases fgt (uS n p h r) (some 0) <;> rfl
    ·rfl
  ·rw[if_pos h1,cO _ _ h1,cond_true]
 ·rw[if_pos h0,cO _ _ h0,cond_true]
def gK (v:Nat->Fl) (s:Fl):Nat->Fl:=λi=>fdiv (v i) s
def gX (v:Nat->Fl) (s y:Fl) (x:List Fl):Nat->Fl:=λi=>ep (x.getD i none) (aF (gK v s i) y)
def gO (v:Nat->Fl) (s y:Fl) (x:List Fl):Nat->Bool:=λi=>(!be (gK v s i) || !be (aF (gK v s i) y)) || !be (gX v s y x i)
theorem CE {N n:Nat} (hN:1000<=N) (hn:n<=12) {v:Nat->Fl} {s y:Fl} {x:List Fl} (hx:x.length=n) (o:Bool) (b1 b2:Int) (b3:List Fl) (t1 t2:Int) (t3 t4 t5:Fl) (a1:List Fl) (a2 a3:Int) (a4 a5:List Fl) (a6 a7:Fl) (e0:Bool->List Fl->List Fl->Bool) :
  ah N (dn N y n x b1 b2 b3 t1 t2 t3 t4 t5 a1 a2 a3 a4 a5 a6 a7 s (vf n v) e0) (0,o,List.replicate n (some 0),[])=e0 (o||orB (gO v s y x) n) (vf n (gX v s y x)) (vf n (gK v s)):=by
 have z0:((0,o,List.replicate n (some 0),[]):Int × Bool × List Fl × List Fl)=(λt:Nat=>((t:Int),o||orB (gO v s y x) t,(vf n (gX v s y x)).take t++List.replicate (n - t) (some 0),(vf n (gK v s)).take t)) 0:=by show _=(((0:Nat):Int),o||false,_,_); rw[qt]; rfl
 rw[z0];refine aD (λt:Nat=>((t:Int),o||orB (gO v s y x) t,(vf n (gX v s y x)).take t++List.replicate (n - t) (some 0),(vf n (gK v s)).take t)) n (by omega) ?_ ?_
 ·intro t ht K;unfold dn;dsimp only;have hfl2:=uf n (gX v s y x) (i:=t) (by omega);have hs:=Em n (gX v s y x) ht;have hk:fdiv (v t) s=gK v s t:=rfl;have hkl:((vf n (gK v s)).take (t+1)).length=t+1:=by rw[List.length_take,dG]; omega
  have hkt:((vf n (gK v s)).take (t+1)).getD t none=gK v s t:=by rw[List.getD_eq_getElem?_getD,List.getElem?_take,if_pos (by omega),<- List.getD_eq_getElem?_getD,pI n _ ht]
  rw[decide_eq_true (by omega:(t:Int)<(n:Int)),cond_true,dG,aa (ai (by omega) (by omega)),Int.toNat_natCast,aa (decide_eq_true ht),pI n v ht,hk,cC N (by rw[<- hk]; exact C8 _ _),
   Ju n (gK v s) ht,hkl,aa (decide_eq_true (by omega)),aa (ai (by omega) (by omega)),aa (ai (by omega) (by omega)),aa (decide_eq_true (by omega)),hkt,cF,cC N (kQ _ _),hfl2,aa (ai (by omega) (by omega)),aa (decide_eq_true ht),aa (ab (by omega) (by omega))]
  have e:ep (x.getD t none) (aF (gK v s t) y)=gX v s y x t:=rfl;have e2:((((o||orB (gO v s y x) t) || !be (gK v s t)) || !be (aF (gK v s t) y)) || !be (gX v s y x t))=(o||orB (gO v s y x) (t+1)):=by rw[<- gN o (gO v s y x) t];unfold gO;simp only[Bool.or_assoc]
  rw[e,e2,hs];rfl
 ·intro K;unfold dn;dsimp only;rw[decide_eq_false (by omega:¬(n:Int)<(n:Int)),cond_false,Nat.sub_self,List.replicate_zero,List.append_nil,List.take_of_length_le (by rw[dG]; omega),List.take_of_length_le (by rw[dG]; omega)]
def upY (n:Nat) (x h:List Fl) (z:Fl):Fl:=iS z (uW n x h)
def upX (n:Nat) (x p h:List Fl) (r z:Fl):List Fl:=vf n (gX (uV n p h) (uS n p h r) (upY n x h z) x)
def upG (n:Nat) (p h:List Fl) (r:Fl):List Fl:=vf n (gK (uV n p h) (uS n p h r))
def upC (n:Nat) (x p h:List Fl) (r z:Fl):Fl:=fdiv (aF (upY n x h z) (upY n x h z)) (uS n p h r)
def upT (n:Nat) (x p h:List Fl) (r z:Fl):Bool:=((!be (upY n x h z)||orB (gO (uV n p h) (uS n p h r) (upY n x h z) x) n) || !be (aF (upY n x h z) (upY n x h z))) || !be (upC n x p h r z)
def yj (x:List Fl) (rr cc:Int) (p h:List Fl) (r z:Fl) (o:Bool) (L:List Fl) (k0:Int->Bool) (k2:Nat->Fl->Fl->Fl->List Fl->List Fl->List Fl->Bool):Bool:=
 if lY x rr cc p ≠ 0 then k0 (lY x rr cc p)else if oR x.length h r ≠ 0 then k0 (oR x.length h r)else if be z=false then k0 4 else
 if uE x.length x p h r ≠ 0 then k0 (uE x.length x p h r)else
 cond (upT x.length x p h r z||o) (k0 5) (cond (!xe x.length L) (k0 151)
  (k2 x.length (upY x.length x h z) (uS x.length p h r) (upC x.length x p h r z) (upX x.length x p h r z) L (upG x.length p h r)))
def GH (n:Nat) (p h:List Fl) (r:Fl):Bool:=J6 n p (upG n p h r) h r
def upJ (n:Nat) (p h:List Fl) (r:Fl):List Fl:=Fq n p (upG n p h r) h r
def GI (n:Nat) (p h:List Fl) (r:Fl):Bool:=Oi n p (upG n p h r) (vf n (uV n p h))
def upS (n:Nat) (p h:List Fl) (r:Fl):List Fl:=Ie n p (upG n p h r) (vf n (uV n p h))
theorem IU {n:Nat} {p kk h:List Fl} {r:Fl} (q:J6 n p kk h r=false):bb (Fq n p kk h r)=true:=by unfold J6 at q;rw[Bool.or_eq_false_iff]at q;refine DL (zL λa b ha hb=>?_);have h2:=iY (iY q.2 a ha) b (by omega);unfold jO at h2;rw[Bool.or_eq_false_iff]at h2;simpa using h2.2
theorem HN {N:Nat} (hF:Fuel N) (x:List Fl) (rr cc:Int) (p h:List Fl) (r z:Fl) (hwp:AllW p) (k0:Int->Int->Fl->Fl->Fl->Int->Bool) (k1:Int->Int->Fl->Fl->Fl->Int->List Fl->Bool) (k2:Int->Int->Fl->Fl->Fl->Int->List Fl->List Fl->List Fl->Bool) :
  lE N x rr cc p h r z k0 k1 k2=yj x rr cc p h r z (GH x.length p h r) (upJ x.length p h r) (λe=>k0 0 0 (some 0) (some 0) (some 0) e) (λn y s c x' p' g=>k2 n n y s c 0 x' p' g):=by
 have hN:=hF.lt
 (unfold lE; rw[ae]; unfold kR yj)
 rw[yK hF _ _ _ _ _ _ hwp];by_cases h0:lY x rr cc p=0
 ·obtain⟨n,hn,rfl,rfl,hx,hl,fx,fl,-,-⟩:=mB h0;rw[ifz h0,ifz h0,hx];by_cases h1:oR n h r=0
  ·obtain⟨hh,-,-,-⟩:=wB h1;rw[ifz h1,ifz h1];have hz1:eE N [z].length:=⟨by simp; omega,by simp⟩
   simp only[iG [z] hz1,vN];have same:∀(c:Bool) (a b:Bool),cond c a a=a:=by intro c a b; cases c <;> rfl
   rw[same _ _ true];cases hz:be z
   ·rw[if_pos rfl]; rfl
   ·rw[if_neg (by decide),show(!true)=false from rfl,cond_false];unfold ju;by_cases h2:uE n x p h r=0
    ·rw[ifz h2,h2,show((0:Int) != 0)=false from rfl,cond_false];have hf:uF n x p h r=false:=by
      unfold uE at h2;split at h2
      ·cases h2
      ·rename_i q; simpa using q
     rw[hf,iU N (ui _ _),hh,Int.toNat_natCast,List.length_replicate,aa (bP (by omega) (by omega) (by omega) (by omega)),CE (by omega) hn hx,cF,cC N (C8 _ _)]
     (unfold gQ; unfold gu)
     rw[HE (by omega) hn hl hh (dG _ _)]
     (unfold bU; rw[ae]; unfold bT; unfold TL; rw[ae]; unfold OK)
     show cond (upT n x p h r z||GH n p h r) _ _=cond (upT n x p h r z||GH n p h r) _ _;cases h4:(upT n x p h r z||GH n p h r)
     ·rw[cond_false,cond_false];have h5:J6 n p (upG n p h r) h r=false:=by rw[Bool.or_eq_false_iff]at h4;exact h4.2
      have hfin:=IU h5;show bV N n n (Fq n p (upG n p h r) h r) _=_;have hpos:=λk=>nR hF hn (l:=Fq n p (upG n p h r) h r) (cR n _) hfin (KC (CK λa b=>kQ _ _)) (DN _) k
      rw[hpos];show _=cond (!xe n (Fq n p (upG n p h r) h r)) _ _;cases xe n (Fq n p (upG n p h r) h r)
      ·rfl
      ·rfl
     ·rfl
    ·rw[xO h2,cO _ _ h2,cond_true]
  ·rw[xO h1,xO h1];have e:((oR n h r==0)==false)=true:=by simp[h1]
   rw[e,cond_true];unfold jt;rw[cO _ _ h1,cond_true]
 ·rw[xO h0,xO h0];have e:((lY x rr cc p==0)==false)=true:=by simp[h0]
  rw[e,cond_true];unfold jt;rw[cO _ _ h0,cond_true]
theorem HC {N n:Nat} (hN:1000<=N) (hn:n<=12) {v:Nat->Fl} {s y:Fl} {x:List Fl} (hx:x.length=n) (o:Bool) (b1 b2:Int) (b3:List Fl) (t1 t2:Int) (t3 t4 t5:Fl) (a1:List Fl) (a2 a3:Int) (a4 a5:List Fl) (a6 a7:Fl) (e0:Bool->List Fl->List Fl->Bool) :
  ah N (fS N y n x b1 b2 b3 t1 t2 t3 t4 t5 a1 a2 a3 a4 a5 a6 a7 s (vf n v) e0) (0,o,List.replicate n (some 0),[])=e0 (o||orB (gO v s y x) n) (vf n (gX v s y x)) (vf n (gK v s)):=
 CE hN hn hx o b1 b2 b3 t1 t2 t3 t4 t5 a1 a2 a3 a4 a5 a6 a7 e0
theorem FU {N:Nat} (hF:Fuel N) (x:List Fl) (rr cc:Int) (p h:List Fl) (r z:Fl) (hwp:AllW p) (k0:Int->Int->Fl->Fl->Fl->Int->Bool) (k1:Int->Int->Fl->Fl->Fl->Int->List Fl->Bool) (k2:Int->Int->Fl->Fl->Fl->Int->List Fl->List Fl->List Fl->Bool) :
  jy N x rr cc p h r z k0 k1 k2=yj x rr cc p h r z (GI x.length p h r) (upS x.length p h r) (λe=>k0 0 0 (some 0) (some 0) (some 0) e) (λn y s c x' p' g=>k2 n n y s c 0 x' p' g):=by
 have hN:=hF.lt
 (unfold jy; rw[ae]; unfold jr yj)
 rw[yK hF _ _ _ _ _ _ hwp];by_cases h0:lY x rr cc p=0
 ·obtain⟨n,hn,rfl,rfl,hx,hl,fx,fl,-,-⟩:=mB h0;rw[ifz h0,ifz h0,hx];by_cases h1:oR n h r=0
  ·obtain⟨hh,-,-,-⟩:=wB h1;rw[ifz h1,ifz h1];have hz1:eE N [z].length:=⟨by simp; omega,by simp⟩
   simp only[iG [z] hz1,vN];have same:∀(c:Bool) (a b:Bool),cond c a a=a:=by intro c a b; cases c <;> rfl
   rw[same _ _ true];cases hz:be z
   ·rw[if_pos rfl]; rfl
   ·rw[if_neg (by decide),show(!true)=false from rfl,cond_false];unfold gp;by_cases h2:uE n x p h r=0
    ·rw[ifz h2,h2,show((0:Int) != 0)=false from rfl,cond_false];have hf:uF n x p h r=false:=by
      unfold uE at h2;split at h2
      ·cases h2
      ·rename_i q; simpa using q
     rw[hf,iU N (ui _ _),hh,Int.toNat_natCast,List.length_replicate,aa (bP (by omega) (by omega) (by omega) (by omega)),HC (by omega) hn hx,cF,cC N (C8 _ _)]
     (unfold iL; unfold gY)
     rw[HL (by omega) hn hl hh (dG _ _) (dG _ _)]
     (unfold bU; rw[ae]; unfold bT; unfold TL; rw[ae]; unfold OK)
     show cond (upT n x p h r z||GI n p h r) _ _=cond (upT n x p h r z||GI n p h r) _ _;cases h4:(upT n x p h r z||GI n p h r)
     ·rw[cond_false,cond_false];have h5:Oi n p (upG n p h r) (vf n (uV n p h))=false:=by rw[Bool.or_eq_false_iff]at h4;exact h4.2
      have hfin:=Jo h5;show bV N n n (Ie n p (upG n p h r) (vf n (uV n p h))) _=_;have hpos:=λk=>nR hF hn (l:=Ie n p (upG n p h r) (vf n (uV n p h))) (cR n _) hfin (KC (CK λa b=>ui _ _)) (DN _) k
      rw[hpos];show _=cond (!xe n (Ie n p (upG n p h r) (vf n (uV n p h)))) _ _;cases xe n (Ie n p (upG n p h r) (vf n (uV n p h)))
      ·rfl
      ·rfl
     ·rfl
    ·rw[xO h2,cO _ _ h2,cond_true]
  ·rw[xO h1,xO h1];have e:((oR n h r==0)==false)=true:=by simp[h1]
   rw[e,cond_true];unfold gl;rw[cO _ _ h1,cond_true]
 ·rw[xO h0,xO h0];have e:((lY x rr cc p==0)==false)=true:=by simp[h0]
  rw[e,cond_true];unfold gl;rw[cO _ _ h0,cond_true]
end Go.Proofs.YtbiingchhnlcnaaGreatDoor
end
