/-
  PURE: laws of the seat's functions, taken over from another seat of mine.
  Conditions: none.
-/
import Derived.Test.YteifemaagdeomaaGreatDoorC8
set_option linter.unusedVariables false
section
namespace Go.Proofs.YteifemaagdeomaaGreatDoor
open Go Go.Mach Ieee
theorem Nv {N n i j:Nat} (hn:n<=12) (hi:i<n) (hj:j<n) {l:List Fl} (h:l.length=n*n) (k:Fl->Bool):sP N n n l i j k=k (elt l n i j):=by obtain⟨h1,h2⟩:=js (by omega:n<=1000) hi hj;have h3:=lz hi hj;unfold sP B_ elt;rw[jr,aa h1,aa h2,h,Int.toNat_natCast,aa (ai (by omega) (by omega))]
theorem Jx {N n i j:Nat} (hn:n<=12) (hi:i<n) (hj:j<n) {l:List Fl} (h:l.length=n*n) (k:Fl->Bool):Bc N n n l i j k=k (elt l n i j):=by obtain⟨h1,h2⟩:=js (by omega:n<=1000) hi hj;have h3:=lz hi hj;unfold Bc Ih elt;rw[jr,aa h1,aa h2,h,Int.toNat_natCast,aa (ai (by omega) (by omega))]
def sv (n:Nat) (l:List Fl):Bool:=Bw (λi=>Bw (λj=>decide (cn (elt l n i j)=cn (elt l n j i))) i) n
theorem Nq {N n:Nat} (hN:1000<=N) (hn:n<=12) {l:List Fl} (h:l.length=n*n) (hf:aX l=true) (k:Bool->Bool):Vt N n n l k=k (sv n l):=by
 (unfold Vt; rw[af]; unfold Xe)
 rw[uU hN,G7 hn h hf,show(((0:Int) != 0)==false)=true from rfl,cond_true];have:((n:Int) != (n:Int))=false:=by simp
 rw[this,cond_false];have hk:k (sv n l)=cond (sv n l) (k true) (k false):=by cases sv n l <;> rfl
 rw[hk];refine qR (λt:Nat=>(t:Int)) (λi=>Bw (λj=>decide (cn (elt l n i j)=cn (elt l n j i))) i) n (by omega) ?_ ?_
 ·intro i hi K;unfold H4;dsimp only;rw[decide_eq_true (by omega:(i:Int)<(n:Int)),cond_true];refine(qR (λt:Nat=>(t:Int)) (λj=>decide (cn (elt l n i j)=cn (elt l n j i))) i (N:=N) (by omega) (ex:=k false) (out:=K (((i+1:Nat):Int))) ?_ ?_:_)
  ·intro j hj K';have hj2:j<n:=by omega
   unfold H5;dsimp only;rw[decide_eq_true (by omega:(j:Int)<(i:Int)),cond_true,Nv hn hi hj2 h,Nv hn hj2 hi h];unfold J4;dsimp only;by_cases he:cn (elt l n i j)=cn (elt l n j i)
   ·rw[decide_eq_true he,show(!true)=false from rfl,cond_false,cond_true,aa (ac (by omega) (by omega))];rfl
   ·rw[decide_eq_false he,show(!false)=true from rfl,cond_true,cond_false]
  ·intro K';unfold H5;dsimp only;rw[decide_eq_false (by omega:¬(i:Int)<(i:Int)),cond_false,aa (ac (by omega) (by omega))];rfl
 ·intro K;unfold H4;dsimp only;rw[decide_eq_false (by omega:¬(n:Int)<(n:Int)),cond_false]
theorem Pq {N:Nat} (r c:Int) (n:Int) (k:Int->Bool):xB N r c n k=k (if (0<=r/\r<=12)/\(0<=c/\c<=12)then(if n=r*c then 0 else 3)else 1):=by
 (unfold xB; rw[af]; unfold wo)
 by_cases h1:r<0
 ·rw[decide_eq_true h1,if_neg (by omega)]; rfl
 ·rw[decide_eq_false h1];by_cases h2:r>12
  ·rw[decide_eq_true h2,if_neg (by omega)]; rfl
  ·rw[decide_eq_false h2];by_cases h3:c<0
   ·rw[decide_eq_true h3,if_neg (by omega)]; rfl
   ·rw[decide_eq_false h3];by_cases h4:c>12
    ·rw[decide_eq_true h4,if_neg (by omega)]; rfl
    ·have hr:0<=r/\r<=12:=by omega
     have hc:0<=c/\c<=12:=by omega
     rw[decide_eq_false h4,if_pos ⟨hr,hc⟩,Vk hr hc];by_cases h5:n=r*c
     ·have:(n != r*c)=false:=by simp[h5]
      rw[this,if_pos h5]; rfl
     ·have:(n != r*c)=true:=by simp[h5]
      rw[this,if_neg h5]; rfl
theorem Jh {N:Nat} (hN:1000<=N) (r c:Int) (l:List Fl) (k:Int->Bool):vu N r c l k=k (chk r c l):=by
 (unfold vu; rw[af]; unfold zx chk)
 rw[Pq];by_cases h1:(0<=r/\r<=12)/\(0<=c/\c<=12)
 ·rw[if_pos h1,if_pos h1];by_cases h2:(l.length:Int)=r*c
  ·have h3:=NM h1.1 h1.2;have h6:l.length<=144:=by rw[<- h2]at h3; omega
   rw[if_pos h2,if_pos h2,show((0:Int) != 0)=false from rfl,cond_false,zg l ⟨by omega,by omega⟩];cases aX l <;> rfl
  ·rw[if_neg h2,if_neg h2]; rfl
 ·rw[if_neg h1,if_neg h1]; rfl
theorem SE {N n:Nat} (hN:1000<=N) (hn:n<=12) {l:List Fl} (h:l.length=n*n) (hf:aX l=true) (k:Int->Bool):Tl N n n l k=k (if sv n l=true then 0 else 91):=by
 (unfold Tl; rw[af]; unfold P_)
 rw[Jh hN,G7 hn h hf,show((0:Int) != 0)=false from rfl,cond_false];have:((n:Int) != (n:Int))=false:=by simp
 rw[this,cond_false];have hk:k (if sv n l=true then 0 else 91)=cond (sv n l) (k 0) (k 91):=by cases sv n l <;> rfl
 rw[hk];refine qR (λt:Nat=>(t:Int)) (λi=>Bw (λj=>decide (cn (elt l n i j)=cn (elt l n j i))) i) n (by omega) ?_ ?_
 ·intro i hi K;unfold gL;dsimp only;rw[decide_eq_true (by omega:(i:Int)<(n:Int)),cond_true];refine(qR (λt:Nat=>(t:Int)) (λj=>decide (cn (elt l n i j)=cn (elt l n j i))) i (N:=N) (by omega) (ex:=k 91) (out:=K (((i+1:Nat):Int))) ?_ ?_:_)
  ·intro j hj K';have hj2:j<n:=by omega
   unfold gM;dsimp only;rw[decide_eq_true (by omega:(j:Int)<(i:Int)),cond_true,Jx hn hi hj2 h,Jx hn hj2 hi h,Hu];by_cases he:cn (elt l n i j)=cn (elt l n j i)
   ·rw[decide_eq_true he,show(!true)=false from rfl,cond_false,cond_true,aa (ac (by omega) (by omega))];rfl
   ·rw[decide_eq_false he,show(!false)=true from rfl,cond_true,cond_false]
  ·intro K';unfold gM;dsimp only;rw[decide_eq_false (by omega:¬(i:Int)<(i:Int)),cond_false,aa (ac (by omega) (by omega))];rfl
 ·intro K;unfold gL;dsimp only;rw[decide_eq_false (by omega:¬(n:Int)<(n:Int)),cond_false]
theorem G9 {x:Fl} (h:aL x=true):cn x=x:=by obtain⟨b,rfl,hb⟩:=Re h;simp only[cn,hb]; rfl
theorem T4 {n:Nat} {l:List Fl} (h:l.length=n*n) (hf:aX l=true) (hs:sv n l=true):Rg n l:=by
 have key:∀ i j,j<i->i<n->elt l n i j=elt l n j i:=by
  intro i j hj hi;have h1:=eX.1 (eX.1 hs i hi) j hj;have h2:=of_decide_eq_true h1;have hj2:j<n:=by omega
  have e1:=lz hi hj2;have e2:=lz hj2 hi;rw[G9 (x:=elt l n i j) (dY hf (by omega)),G9 (x:=elt l n j i) (dY hf (by omega))]at h2;exact h2
 intro a b ha hb;show rJ (ofE (elt l n a b))=rJ (ofE (elt l n b a));rcases Nat.lt_trichotomy a b with h1 | h1 | h1
 ·rw[key b a h1 hb]
 ·rw[h1]
 ·rw[key a b h1 ha]
def uR (x:List Fl) (r c:Int) (l:List Fl):Int:=
 if chk r c l ≠ 0 then chk r c l else if r ≠ c then 3 else if (x.length:Int) ≠ r then 3 else if aX x=false then 4 else if sv r.toNat l=false then 150 else if yS r.toNat l=false then 151 else 0
theorem yn {x:List Fl} {r c:Int} {l:List Fl} (h:uR x r c l=0):∃ n:Nat,n<=12/\r=n/\c=n/\x.length=n/\l.length=n*n/\aX x=true/\aX l=true/\sv n l=true/\yS n l=true:=by
 unfold uR at h;split at h
 ·exact absurd h (by assumption)
 ·rename_i h0;have h0:chk r c l=0:=by simpa using h0
  have q:=tD.1 h0;split at h
  ·cases h
  ·rename_i h1;split at h
   ·cases h
   ·rename_i h2;split at h
    ·cases h
    ·rename_i h3;split at h
     ·cases h
     ·rename_i h4;split at h
      ·cases h
      ·rename_i h5;obtain⟨n,hn⟩:∃ n:Nat,r=n:=⟨r.toNat,by omega⟩
       have h1:r=c:=by simpa using h1
       subst hn;subst h1;rw[Int.toNat_natCast]at h4 h5;refine⟨n,by omega,rfl,rfl,by omega,by exact_mod_cast q.2.1,by simpa using h3,q.2.2,by simpa using h4,by simpa using h5⟩
theorem Eo {N:Nat} (hF:Fuel N) (x:List Fl) (r c:Int) (l:List Fl) (hw:AllW l) (k:Int->Bool):jx N x r c l k=k (uR x r c l):=by
 have hN:=hF.lt
 (unfold jx; rw[af]; unfold q7 uR)
 rw[uU (by omega)];by_cases h0:chk r c l=0
 ·have q:=tD.1 h0;rw[h0,if_neg (λh=>h rfl),show((0:Int) != 0)=false from rfl,cond_false];by_cases h1:r=c
  ·subst h1;have e1:((r != r)==false)=true:=by simp
   rw[if_neg (λh=>h rfl),e1,cond_true];obtain⟨n,hn⟩:∃ n:Nat,r=n:=⟨r.toNat,by omega⟩
   subst hn;by_cases h2:(x.length:Int)=n
   ·have e2:(((x.length:Nat):Int) != (n:Int))=false:=by simp[h2]
    have hl:l.length=n*n:=by exact_mod_cast q.2.1
    have hn12:n<=12:=by omega
    rw[e2,cond_false,if_neg (λh=>h h2),rB x ⟨by omega,by omega⟩];cases h3:aX x
    ·rfl
    ·rw[show(!true)=false from rfl,cond_false,if_neg (by decide),Nq (by omega) hn12 hl q.2.2,Int.toNat_natCast];cases h4:sv n l
     ·rfl
     ·rw[show(!true)=false from rfl,cond_false,if_neg (by decide),u7 hF hn12 hl q.2.2 hw (T4 hl q.2.2 h4)];cases yS n l <;> rfl
   ·have e2:(((x.length:Nat):Int) != (n:Int))=true:=by simp[h2]
    rw[e2,cond_true,if_pos h2]
  ·have e1:((r != c)==false)=false:=by simp[h1]
   rw[e1,cond_false,if_pos h1]
 ·have e0:(chk r c l != 0)=true:=by simp[h0]
  rw[e0,cond_true,if_pos h0]
theorem Ji {N:Nat} (hF:Fuel N) (x:List Fl) (r c:Int) (l:List Fl) (hw:AllW l) (k:Int->Bool):sQ N x r c l k=k (uR x r c l):=by
 have hN:=hF.lt
 (unfold sQ; rw[af]; unfold wt; unfold CR; rw[af]; unfold ww EZ Dy uR)
 rw[Jh (by omega)];dsimp only;by_cases h0:chk r c l=0
 ·have q:=tD.1 h0;rw[h0,if_neg (λh=>h rfl),show((0:Int) != 0)=false from rfl,cond_false];by_cases h1:r=c
  ·subst h1;have e1:((r != r)==false)=true:=by simp
   rw[if_neg (λh=>h rfl),e1,cond_true];obtain⟨n,hn⟩:∃ n:Nat,r=n:=⟨r.toNat,by omega⟩
   subst hn;by_cases h2:(x.length:Int)=n
   ·have e2:(((x.length:Nat):Int) != (n:Int))=false:=by simp[h2]
    have hl:l.length=n*n:=by exact_mod_cast q.2.1
    have hn12:n<=12:=by omega
    rw[e2,cond_false,if_neg (λh=>h h2),zg x ⟨by omega,by omega⟩];cases h3:aX x
    ·rfl
    ·rw[show(!true)=false from rfl,cond_false,if_neg (by decide),SE (by omega) hn12 hl q.2.2,Int.toNat_natCast];cases h4:sv n l
     ·rfl
     ·rw[if_pos rfl,show((0:Int) != 0)=false from rfl,cond_false,cond_false,if_neg (by decide),Hp hF hn12 hl q.2.2 hw (T4 hl q.2.2 h4)];cases yS n l <;> rfl
   ·have e2:(((x.length:Nat):Int) != (n:Int))=true:=by simp[h2]
    rw[e2,cond_true,if_pos h2]; rfl
  ·have e1:((r != c)==false)=false:=by simp[h1]
   rw[e1,cond_false,if_pos h1]; rfl
 ·have e0:(chk r c l != 0)=true:=by simp[h0]
  rw[e0,cond_true,if_pos h0];rfl
theorem Ph {N:Nat} {a:Fl} (h:Nn a) (k:Bool->Bool):Kc N a a k=k true:=by obtain⟨b,rfl,hb⟩:=h;unfold Kc Zi;show k (((b:Nat):Int)==((b:Nat):Int))=_;rw[beq_self_eq_true]
theorem Tb {l:List Int} (h:∀ z,z ∈ l->z.toNat<18446744073709551616):AllW (nM l):=by intro x hx;unfold nM at hx;obtain⟨z,hz,rfl⟩:=List.mem_map.1 hx;exact DN (h z hz)
def mf (n:Nat) (f:Nat->Nat->Fl):List Fl:=(List.range (n*n)).map (λt=>f (t / n) (t%n))
theorem eB (n:Nat) (f:Nat->Nat->Fl):(mf n f).length=n*n:=by unfold mf; rw[List.length_map,List.length_range]
theorem AY (n:Nat) (f:Nat->Nat->Fl) {i j:Nat} (hi:i<n) (hj:j<n) (z:Fl):(mf n f).getD (i*n+j) z=f i j:=by have h:=od hi hj;unfold mf;rw[List.getD_eq_getElem?_getD,List.getElem?_map,List.getElem?_range h];simp only[Option.map_some,Option.getD_some,Dk hj,Dl hj]
theorem vk (n:Nat) (f:Nat->Nat->Fl) {i j:Nat} (hi:i<n) (hj:j<n):elt (mf n f) n i j=f i j:=AY n f hi hj none
theorem oS (n:Nat) {f f':Nat->Nat->Fl} (h:∀ a b,a<n->b<n->f a b=f' a b):mf n f=mf n f':=by
 unfold mf;apply List.map_congr_left;intro t ht;have ht:=List.mem_range.1 ht;have hn:0<n:=by
  rcases Nat.eq_zero_or_pos n with h0 | h0
  ·rw[h0]at ht; omega
  ·exact h0
 rw[h _ _ (Nat.div_lt_of_lt_mul ht) (Nat.mod_lt _ hn)]
theorem ED (n:Nat) (f:Nat->Nat->Fl) {i j:Nat} (hi:i<n) (hj:j<n) (v:Fl):(mf n f).set (i*n+j) v=mf n (λa b=>if a=i/\b=j then v else f a b):=by
 have h:=od hi hj;apply List.ext_getElem?;intro t;by_cases ht:t<n*n
 ·have hn:0<n:=by omega
  rw[List.getElem?_set];unfold mf;rw[List.getElem?_map,List.getElem?_map,List.getElem?_range ht];simp only[List.length_map,List.length_range,Option.map_some];by_cases he:i*n+j=t
  ·rw[if_pos he,if_pos h,<- he,Dk hj,Dl hj,if_pos ⟨rfl,rfl⟩]
  ·rw[if_neg he];have:¬(t / n=i/\t%n=j):=by rintro ⟨h1,h2⟩;apply he;rw[<- h1,<- h2,Nat.mul_comm];exact Nat.div_add_mod t n
   rw[if_neg this]
 ·rw[List.getElem?_eq_none (by rw[List.length_set,eB]; omega),List.getElem?_eq_none (by rw[eB]; omega)]
theorem HA (n:Nat):List.replicate (n*n) (some 0)=mf n (λ_ _=>some 0):=by
 apply List.ext_getElem?;intro t;unfold mf;rw[List.getElem?_map,List.getElem?_replicate];by_cases ht:t<n*n
 ·rw[if_pos ht,List.getElem?_range ht]; rfl
 ·rw[if_neg ht,List.getElem?_eq_none (by rw[List.length_range]; omega)]; rfl
theorem Hz (n:Nat) (f:Nat->Nat->Fl) {i j:Nat} (hi:i<n) (hj:j<n):(mf n f).take (i*n+j)++[f i j]=(mf n f).take (i*n+j+1):=by
 have h:=od hi hj;have hl:i*n+j<(mf n f).length:=by rw[eB]; exact h
 rw[List.take_succ_eq_append_getElem hl];have:=AY n f hi hj none;rw[List.getD_eq_getElem?_getD,List.getElem?_eq_getElem hl]at this;rw[<- this]; rfl
def vf (n:Nat) (g:Nat->Fl):List Fl:=(List.range n).map g
theorem ce (n:Nat) (g:Nat->Fl):(vf n g).length=n:=by unfold vf; rw[List.length_map,List.length_range]
theorem na (n:Nat) (g:Nat->Fl) {i:Nat} (hi:i<n) (z:Fl):(vf n g).getD i z=g i:=by unfold vf;rw[List.getD_eq_getElem?_getD,List.getElem?_map,List.getElem?_range hi]; rfl
theorem Od (n:Nat) (g:Nat->Fl) {i:Nat} (hi:i<n):(vf n g).take i++[g i]=(vf n g).take (i+1):=by
 have hl:i<(vf n g).length:=by rw[ce]; exact hi
 rw[List.take_succ_eq_append_getElem hl];have:=na n g hi none;rw[List.getD_eq_getElem?_getD,List.getElem?_eq_getElem hl]at this;rw[<- this]; rfl
theorem H_ (n:Nat) (g:Nat->Fl) {i:Nat} (hi:i<n):((vf n g).take i++List.replicate (n - i) (some 0)).set i (g i)=(vf n g).take (i+1)++List.replicate (n - (i+1)) (some 0):=by have:=I5 (vf n g) (some 0) (t:=i) (by rw[ce]; exact hi);rw[ce,na n g hi]at this;exact this
theorem xT (n:Nat) (g:Nat->Fl) {i:Nat} (hi:i<=n):((vf n g).take i++List.replicate (n - i) (some 0)).length=n:=by have:=I4 (vf n g) (some 0) (t:=i) (by rw[ce]; exact hi);rw[ce]at this;exact this
def dV (f g:Nat->Fl):Nat->Fl
 | 0=>some 0
 | t+1=>cD (dV f g t) (bA (f t) (g t))
def dO (f g:Nat->Fl):Nat->Bool
 | 0=>false
 | t+1=>(dO f g t || !aL (bA (f t) (g t))) || !aL (dV f g (t+1))
def orB (p:Nat->Bool):Nat->Bool
 | 0=>false
 | t+1=>orB p t||p t
theorem tW {p:Nat->Bool}:∀{n:Nat},orB p n=false -> ∀ i,i<n->p i=false
 | 0,_,i,hi=>by omega
 | n+1,h,i,hi=>by
  unfold orB at h;rw[Bool.or_eq_false_iff]at h;rcases Nat.lt_or_ge i n with h1 | h1
  ·exact tW h.1 i h1
  ·rw[show i=n by omega]; exact h.2
theorem uA (o:Bool) (f g:Nat->Fl) (t:Nat):((o||dO f g t) || !aL (bA (f t) (g t)) || !aL (cD (dV f g t) (bA (f t) (g t))))=(o||dO f g (t+1)):=by show _=(o||((dO f g t || !aL (bA (f t) (g t))) || !aL (cD (dV f g t) (bA (f t) (g t)))));simp only[Bool.or_assoc]
theorem wh (o:Bool):(o||false)=o:=by cases o <;> rfl
theorem Sw {N n:Nat} (hN:1000<=N) (hn:n<=100) {a b:List Fl} {f g:Nat->Fl} (ha:a.length=n) (hb:n<=b.length) (hbs:b.length<=1000) (hf:∀ i,i<n->a.getD i none=f i) (hg:∀ i,i<n->b.getD i none=g i) (o:Bool) (k:Fl->Bool->Bool) :
  J9 N a b o k=k (dV f g n) (o||dO f g n):=by
 (unfold J9; rw[af]; unfold QD)
 have h0:((some 0,0,o):Fl × Int × Bool)=(λt:Nat=>(dV f g t,(t:Int),o||dO f g t)) 0:=by show _=(some 0,((0:Nat):Int),o||false); rw[wh]; rfl
 rw[h0];refine aV (λt:Nat=>(dV f g t,(t:Int),o||dO f g t)) n (by omega) ?_ ?_
 ·intro t ht K;unfold mL;dsimp only;rw[decide_eq_true (by omega:(t:Int)<(a.length:Int)),cond_true,aa (ai (by omega) (by omega)),aa (ai (by omega) (by omega)),Int.toNat_natCast,hf t ht,hg t ht,Ho,Dn,aa (ac (by omega) (by omega)),uA];rfl
 ·intro K;unfold mL;dsimp only;rw[decide_eq_false (by omega:¬(n:Int)<(a.length:Int)),cond_false]
theorem O2 {N n:Nat} (hN:1000<=N) (hn:n<=100) {a b:List Fl} {f g:Nat->Fl} (ha:a.length=n) (hb:n<=b.length) (hbs:b.length<=1000) (hf:∀ i,i<n->a.getD i none=f i) (hg:∀ i,i<n->b.getD i none=g i) (o:Bool) (k:Fl->Bool->Bool) :
  J3 N a o b k=k (dV f g n) (o||dO f g n):=by
 (unfold J3; rw[af]; unfold Qm)
 have h0:((some 0,0,o):Fl × Int × Bool)=(λt:Nat=>(dV f g t,(t:Int),o||dO f g t)) 0:=by show _=(some 0,((0:Nat):Int),o||false); rw[wh]; rfl
 rw[h0];refine aV (λt:Nat=>(dV f g t,(t:Int),o||dO f g t)) n (by omega) ?_ ?_
 ·intro t ht K;unfold jY;dsimp only;rw[decide_eq_true (by omega:(t:Int)<(a.length:Int)),cond_true,aa (ai (by omega) (by omega)),aa (ai (by omega) (by omega)),Int.toNat_natCast,aa (decide_eq_true (by omega)),hf t ht,hg t ht,Ho,Dn,aa (ac (by omega) (by omega)),uA];rfl
 ·intro K;unfold jY;dsimp only;rw[decide_eq_false (by omega:¬(n:Int)<(a.length:Int)),cond_false]
theorem O1 {N n s:Nat} (hN:1000<=N) (hn:n<=100) {a b:List Fl} {f g:Nat->Fl} (ha:s+n<=a.length) (hb:n<=b.length) (hbs:b.length<=1000) (hf:∀ i,i<n->a.getD (s+i) none=f i) (hg:∀ i,i<n->b.getD i none=g i) (o:Bool) (k:Fl->Bool->Bool) :
  J2 N s n b o a k=k (dV f g n) (o||dO f g n):=by
 (unfold J2; rw[af]; unfold Ql)
 have h0:((some 0,0,o):Fl × Int × Bool)=(λt:Nat=>(dV f g t,(t:Int),o||dO f g t)) 0:=by show _=(some 0,((0:Nat):Int),o||false); rw[wh]; rfl
 rw[h0];refine aV (λt:Nat=>(dV f g t,(t:Int),o||dO f g t)) n (by omega) ?_ ?_
 ·intro t ht K;unfold jX;dsimp only;rw[decide_eq_true (by omega:(t:Int)<(n:Int)),cond_true,aa (ai (by omega) (by omega)),Int.toNat_natCast,aa (decide_eq_true (by omega)),aa (ai (by omega) (by omega)),hf t ht,hg t ht,Ho,Dn,aa (ac (by omega) (by omega)),uA];rfl
 ·intro K;unfold jX;dsimp only;rw[decide_eq_false (by omega:¬(n:Int)<(n:Int)),cond_false]
def Tj (l:List Fl) (n i:Nat):List Fl:=List.drop (i*n) (List.take ((i+1)*n) l)
theorem BV {n i:Nat} (hi:i<n):(i+1)*n<=n*n:=Nat.mul_le_mul_right _ hi
theorem xu {l:List Fl} {n i:Nat} (h:l.length=n*n) (hi:i<n):(Tj l n i).length=n:=by have:=BV hi;unfold Tj;rw[List.length_drop,List.length_take,h,Nat.min_eq_left this,Nat.add_mul]; omega
theorem yC {l:List Fl} {n i j:Nat} (h:l.length=n*n) (hi:i<n) (hj:j<n):(Tj l n i).getD j none=elt l n i j:=by
 unfold Tj elt;have h1:(i+1)*n=i*n+n:=by rw[Nat.add_mul]; omega
 rw[List.getD_eq_getElem?_getD,List.getElem?_drop,List.getElem?_take,if_pos (by omega),List.getD_eq_getElem?_getD]
theorem GB {n i:Nat} (hn:n<=100) (hi:i<n) {L:Nat} (hL:L=n*n):ah .i64 ((i:Int)*(n:Int))=true/\ah .i64 ((i:Int)+1)=true/\ah .i64 (((i:Int)+1)*(n:Int))=true/\decide (0<=(i:Int)*(n:Int)/\(i:Int)*(n:Int)<=((i:Int)+1)*(n:Int)/\((i:Int)+1)*(n:Int)<=(L:Int))=true/\Int.toNat ((i:Int)*(n:Int))=i*n/\Int.toNat (((i:Int)+1)*(n:Int))=(i+1)*n:=by
 have h1:=BV hi;have h2:n*n<=100*100:=Nat.mul_le_mul hn hn;have e1:(i:Int)*(n:Int)=((i*n:Nat):Int):=by rw[Int.natCast_mul]
 have e2:((i:Int)+1)*(n:Int)=(((i+1)*n:Nat):Int):=by rw[Int.natCast_mul]; rfl
 have h3:(i+1)*n=i*n+n:=by rw[Nat.add_mul]; omega
 rw[e1,e2];exact⟨ac (by omega) (by omega),ac (by omega) (by omega),ac (by omega) (by omega),decide_eq_true ⟨by omega,by omega,by omega⟩,Int.toNat_natCast _,Int.toNat_natCast _⟩
theorem Do {N n i:Nat} (hn:n<=100) (hi:i<n) {l:List Fl} (h:l.length=n*n) (k:List Fl->Bool):jT N n n l i k=k (Tj l n i):=by
 obtain⟨a,b,c,d,e,f⟩:=GB hn hi h
 (unfold jT; rw[af]; unfold ut)
 rw[aa a,aa b,aa c,aa d,e,f];rfl
theorem Vm (n i:Nat):(i+1)*n - i*n=n:=by rw[Nat.add_mul]; omega
theorem AW {N n i:Nat} (hn:n<=100) (hi:i<n) {l:List Fl} (h:l.length=n*n) (k:Nat->Nat->Bool):ge N n n i l k=k (i*n) n:=by
 obtain⟨a,b,c,d,e,f⟩:=GB hn hi h
 (unfold ge; rw[af]; unfold q8)
 rw[aa a,aa b,aa c,aa d,e,f,Vm]
theorem Nr {N n j:Nat} (hN:1000<=N) (hn:n<=100) (hj:j<n) {l:List Fl} (h:l.length=n*n) (k:List Fl->Bool):qE N n n l j k=k (vf n (λt=>elt l n t j)):=by
 (unfold qE; rw[af]; unfold ur)
 have hn2:n*n<=100*100:=Nat.mul_le_mul hn hn;rw[Int.toNat_natCast,List.length_replicate,aa (bR (by omega) (by omega) (by omega) (by omega))];have h0:List.replicate n (some 0)=(vf n (λt=>elt l n t j)).take 0++List.replicate (n - 0) (some 0):=rfl;rw[h0];refine aV (λt:Nat=>((t:Int),(vf n (λt=>elt l n t j)).take t++List.replicate (n - t) (some 0))) n (by omega) ?_ ?_
 ·intro t ht K;unfold lf;dsimp only;obtain⟨h1,h2⟩:=js (by omega:n<=1000) ht hj;have h3:=lz ht hj;have hl:=xT n (λt=>elt l n t j) (i:=t) (by omega);have hs:=H_ n (λt=>elt l n t j) ht;generalize List.take t (vf n λt=>elt l n t j)++List.replicate (n - t) (some 0)=L at *;rw[decide_eq_true (by omega:(t:Int)<(n:Int)),cond_true,jr,aa h1,aa h2,aa (ai (by omega) (by omega)),aa (ai (by omega) (by omega)),Int.toNat_natCast,aa (decide_eq_true (by omega)),aa (ac (by omega) (by omega)),Int.toNat_natCast];exact congrArg (λl=>K ((t:Int)+1,l)) hs
 ·intro K;unfold lf;dsimp only;rw[decide_eq_false (by omega:¬(n:Int)<(n:Int)),cond_false,Nat.sub_self,List.replicate_zero,List.append_nil,List.take_of_length_le (by rw[ce]; omega)]
theorem U8 {N n i j:Nat} (hn:n<=12) (hi:i<n) (hj:j<n) (f:Nat->Nat->Fl) (x:Fl) (k:List Fl->Bool):xC N n n i j x (mf n f) k=k (mf n (λa b=>if a=i/\b=j then x else f a b)):=by obtain⟨h1,h2⟩:=js (by omega:n<=1000) hi hj;have h3:=lz hi hj;unfold xC Cc;rw[jr,aa h1,aa h2,eB,Int.toNat_natCast,aa (ai (by omega) (by omega)),aa (decide_eq_true h3),ED n f hi hj]
theorem Gl {N n:Nat} (hn:n<=12) (k:List Fl->Bool):rO N n n k=k (mf n (λ_ _=>some 0)):=by have h2:n*n<=144:=EK hn;unfold rO Dx;rw[<- Int.natCast_mul,aa (ac (by omega) (by omega)),aa (bR (by omega) (by omega) (by omega) (by omega)),Int.toNat_natCast,HA]
def prV (n:Nat) (f p:List Fl):Nat->Nat->Fl:=λi j=>dV (λt=>elt f n i t) (λt=>elt p n t j) n
def prO (n:Nat) (f p:List Fl):Nat->Nat->Bool:=λi j=>dO (λt=>elt f n i t) (λt=>elt p n t j) n
def orM (n:Nat) (p:Nat->Nat->Bool):Bool:=orB (λi=>orB (λj=>p i j) n) n
theorem k9 (o:Bool) (p:Nat->Bool) (t:Nat):((o||orB p t)||p t)=(o||orB p (t+1)):=by show _=(o||(orB p t||p t)); rw[Bool.or_assoc]
theorem Fc (n:Nat) (f:Nat->Nat->Fl):(mf n f).take (n*n)=mf n f:=List.take_of_length_le (by rw[eB]; omega)
theorem rL (n i:Nat):i*n+n=(i+1)*n:=by rw[Nat.add_mul]; omega
theorem Jz {N n:Nat} (hN:1000<=N) (hn:n<=12) {f p:List Fl} (hf:f.length=n*n) (hp:p.length=n*n) (o:Bool) (k:Bool->List Fl->Bool) :
  kp N n n f n n p o k=k (o||orM n (prO n f p)) (mf n (prV n f p)):=by
 (unfold kp; rw[af]; unfold kh)
 have hn2:n*n<=144:=EK hn;have h0:((0,o,[]):Int × Bool × List Fl)=(λi:Nat=>((i:Int),o||orB (λi=>orB (λj=>prO n f p i j) n) i,(mf n (prV n f p)).take (i*n))) 0:=by show _=(((0:Nat):Int),o||false,List.take (0*n) _); rw[wh,Nat.zero_mul]; rfl
 rw[h0];refine aV (λi:Nat=>((i:Int),o||orB (λi=>orB (λj=>prO n f p i j) n) i,(mf n (prV n f p)).take (i*n))) n (by omega) ?_ ?_
 ·intro i hi K;unfold dI;dsimp only;rw[decide_eq_true (by omega:(i:Int)<(n:Int)),cond_true];generalize ho1:(o||orB (λi=>orB (λj=>prO n f p i j) n) i)=o1;have h1:((0,o1,(mf n (prV n f p)).take (i*n)):Int × Bool × List Fl)=(λj:Nat=>((j:Int),o1||orB (λj=>prO n f p i j) j,(mf n (prV n f p)).take (i*n+j))) 0:=by show _=(((0:Nat):Int),o1||false,List.take (i*n+0) _); rw[wh]; rfl
  rw[h1];refine(aV (λj:Nat=>((j:Int),o1||orB (λj=>prO n f p i j) j,(mf n (prV n f p)).take (i*n+j))) n (N:=N) (by omega) (out:=K ((((i+1:Nat)):Int),o||orB (λi=>orB (λj=>prO n f p i j) n) (i+1),(mf n (prV n f p)).take ((i+1)*n))) ?_ ?_:_)
  ·intro j hj K';have hij:=lz hi hj;unfold dJ;dsimp only;rw[decide_eq_true (by omega:(j:Int)<(n:Int)),cond_true,Do (by omega) hi hf,Nr hN (by omega) hj hp,
    O2 (n:=n) (f:=λt=>elt f n i t) (g:=λt=>elt p n t j) hN (by omega) (xu hf hi) (by rw[ce]; omega) (by rw[ce]; omega) (λt ht=>yC hf hi ht) (λt ht=>na n _ ht none)]
   have e:dV (λt=>elt f n i t) (λt=>elt p n t j) n=prV n f p i j:=rfl;have e2:dO (λt=>elt f n i t) (λt=>elt p n t j) n=prO n f p i j:=rfl;rw[e,e2,Hz n (prV n f p) hi hj,aa (decide_eq_true (by rw[List.length_take,eB]; omega)),aa (ac (by omega) (by omega)),k9 o1 (λj=>prO n f p i j) j];rfl
  ·intro K';unfold dJ;dsimp only;rw[decide_eq_false (by omega:¬(n:Int)<(n:Int)),cond_false,aa (ac (by omega) (by omega)),<- ho1,rL,k9 o (λi=>orB (λj=>prO n f p i j) n) i];rfl
 ·intro K;unfold dI;dsimp only;rw[decide_eq_false (by omega:¬(n:Int)<(n:Int)),cond_false,Fc];rfl
def mir (v:Nat->Nat->Fl):Nat->Nat->Fl:=λa b=>if b<=a then v a b else v b a
def mS (v:Nat->Nat->Fl) (i j:Nat):Nat->Nat->Fl:=λa b=>if max a b<i\/(max a b=i/\min a b<j)then mir v a b else some 0
theorem NG (n:Nat) (v:Nat->Nat->Fl):mf n (λ_ _=>some 0)=mf n (mS v 0 0):=oS n (λa b _ _=>by unfold mS; rw[if_neg (by omega)])
theorem S2 (n:Nat) (v:Nat->Nat->Fl) (i:Nat):mf n (mS v i (i+1))=mf n (mS v (i+1) 0):=oS n (λa b _ hb=>by
 unfold mS;by_cases h2:max a b<i\/(max a b=i/\min a b<i+1)
 ·rw[if_pos h2,if_pos (by omega)]
 ·rw[if_neg h2,if_neg (by omega)])
theorem S1 (n:Nat) (v:Nat->Nat->Fl):mf n (mS v n 0)=mf n (mir v):=oS n (λa b ha hb=>by unfold mS; rw[if_pos (by omega)])
theorem NF (n:Nat) (v:Nat->Nat->Fl) {i j:Nat} (hj:j<i+1):mf n (λa b=>if a=j/\b=i then v i j else if a=i/\b=j then v i j else mS v i j a b)=mf n (mS v i (j+1)):=oS n (λa b _ _=>by
 unfold mS mir;by_cases h:a=j/\b=i
 ·rw[if_pos h,h.1,h.2,if_pos (by omega:max j i<i\/(max j i=i/\min j i<j+1))];by_cases hij:i<=j
  ·rw[if_pos hij,show j=i by omega]
  ·rw[if_neg hij]
 ·rw[if_neg h];by_cases h1:a=i/\b=j
  ·rw[if_pos h1,h1.1,h1.2,if_pos (by omega:max i j<i\/(max i j=i/\min i j<j+1)),if_pos (by omega:j<=i)]
  ·rw[if_neg h1];by_cases h2:max a b<i\/(max a b=i/\min a b<j)
   ·rw[if_pos h2,if_pos (by omega:max a b<i\/(max a b=i/\min a b<j+1))]
   ·rw[if_neg h2,if_neg (by omega:¬(max a b<i\/(max a b=i/\min a b<j+1)))])
def nwV (n:Nat) (M:Nat->Nat->Fl) (f q:List Fl):Nat->Nat->Fl:=λi j=>cD (dV (λt=>M i t) (λt=>elt f n j t) n) (elt q n i j)
def nwO (n:Nat) (M:Nat->Nat->Fl) (f q:List Fl):Nat->Nat->Bool:=λi j=>dO (λt=>M i t) (λt=>elt f n j t) n || !aL (nwV n M f q i j)
def orL (n:Nat) (p:Nat->Nat->Bool):Bool:=orB (λi=>orB (λj=>p i j) (i+1)) n
theorem Hr {N n:Nat} (hN:1000<=N) (hn:n<=12) {f q:List Fl} (M:Nat->Nat->Fl) (hf:f.length=n*n) (hq:q.length=n*n) (o:Bool) (k:Bool->List Fl->Bool) :
  eQ N n n n n n f n n q n o (mf n M) k=k (o||orL n (nwO n M f q)) (mf n (mir (nwV n M f q))):=by
 have hn2:n*n<=144:=EK hn
 (unfold eQ; rw[af]; unfold eP)
 rw[<- Int.natCast_mul,aa (ac (by omega) (by omega)),aa (bR (by omega) (by omega) (by omega) (by omega)),Int.toNat_natCast,HA];generalize hv:nwV n M f q=v;generalize hw:nwO n M f q=w;rw[NG n v];have h0:((0,o,mf n (mS v 0 0)):Int × Bool × List Fl)=(λi:Nat=>((i:Int),o||orB (λi=>orB (λj=>w i j) (i+1)) i,mf n (mS v i 0))) 0:=by show _=(((0:Nat):Int),o||false,_); rw[wh]; rfl
 rw[h0];refine aV (λi:Nat=>((i:Int),o||orB (λi=>orB (λj=>w i j) (i+1)) i,mf n (mS v i 0))) n (by omega) ?_ ?_
 ·intro i hi K;unfold cb;dsimp only;rw[decide_eq_true (by omega:(i:Int)<(n:Int)),cond_true,aa (ac (by omega) (by omega))];generalize ho1:(o||orB (λi=>orB (λj=>w i j) (i+1)) i)=o1;have h1:((0,o1,mf n (mS v i 0)):Int × Bool × List Fl)=(λj:Nat=>((j:Int),o1||orB (λj=>w i j) j,mf n (mS v i j))) 0:=by show _=(((0:Nat):Int),o1||false,_); rw[wh]; rfl
  rw[h1];refine(aV (λj:Nat=>((j:Int),o1||orB (λj=>w i j) j,mf n (mS v i j))) (i+1) (N:=N) (by omega) (out:=K ((((i+1:Nat)):Int),o||orB (λi=>orB (λj=>w i j) (i+1)) (i+1),mf n (mS v (i+1) 0))) ?_ ?_:_)
  ·intro j hj K';have hj2:j<n:=by omega
   obtain⟨g1,g2⟩:=js (by omega:n<=1000) hi hj2;obtain⟨g3,g4⟩:=js (by omega:n<=1000) hj2 hi;have g5:=lz hi hj2;have g6:=lz hj2 hi;have g7:i*n+n<=n*n:=by rw[rL]; exact BV hi
   (unfold cd; unfold dR; rw[af]; unfold bU)
   dsimp only;rw[decide_eq_true (by omega:(j:Int)<(i:Int)+1),cond_true,AW (by omega) hi (eB n M),Do (by omega) hj2 hf,
    O1 (n:=n) (f:=λt=>M i t) (g:=λt=>elt f n j t) hN (by omega) (by rw[eB]; omega) (by rw[xu hf hj2]; omega) (by rw[xu hf hj2]; omega) (λt ht=>AY n M hi ht none) (λt ht=>yC hf hj2 ht),
    aa g1,jr,aa g2,hq,aa (ai (by omega) (by omega)),Int.toNat_natCast,Dn,aa g3,jr,aa g4,eB,aa (ai (by omega) (by omega)),aa (decide_eq_true g5)]
   have e:cD (dV (λt=>M i t) (λt=>elt f n j t) n) (q.getD (i*n+j) none)=v i j:=by rw[<- hv]; rfl
   rw[e,Int.toNat_natCast,ED n _ hi hj2,eB,aa (ai (by omega) (by omega)),aa (decide_eq_true g6),ED n _ hj2 hi,aa (ac (by omega) (by omega))];have e2:((o1||orB (λj=>w i j) j)||dO (λt=>M i t) (λt=>elt f n j t) n || !aL (v i j))=(o1||orB (λj=>w i j) (j+1)):=by rw[<- k9 o1 (λj=>w i j) j,<- hw,<- hv,Bool.or_assoc]; rfl
   rw[e2];rw[NF n v hj,aa g2,aa (ac (by omega) (by omega))];rfl
  ·intro K';unfold cd;dsimp only;rw[decide_eq_false (by omega:¬((i+1:Nat):Int)<(i:Int)+1),cond_false,aa (ac (by omega) (by omega)),<- ho1,S2,k9 o (λi=>orB (λj=>w i j) (i+1)) i];rfl
 ·intro K;unfold cb;dsimp only;rw[decide_eq_false (by omega:¬(n:Int)<(n:Int)),cond_false,S1];rfl
def sqc (a b:Int) (l:List Fl) (n:Int):Int:=if chk a b l ≠ 0 then chk a b l else if a ≠ b then 3 else if a ≠ n then 3 else 0
theorem Kr {a b:Int} {l:List Fl} {n:Nat} (h:sqc a b l n=0):a=n/\b=n/\l.length=n*n/\aX l=true:=by
 unfold sqc at h;split at h
 ·exact absurd h (by assumption)
 ·rename_i h0;have h0:chk a b l=0:=by simpa using h0
  have q:=tD.1 h0;split at h
  ·cases h
  ·rename_i h1;split at h
   ·cases h
   ·rename_i h2;have h1:a=b:=by simpa using h1
    have h2:a=n:=by simpa using h2
    subst h1;subst h2;exact⟨rfl,rfl,by exact_mod_cast q.2.1,q.2.2⟩
theorem jP (a b:Int) (h:¬ a=b):(a != b)=true:=by simp[h]
theorem EA {N:Nat} (hN:1000<=N) (a b:Int) (l:List Fl) (n:Int) (k:Int->Bool):lc N a b l n k=k (sqc a b l n):=by
 (unfold lc; rw[af]; unfold pk sqc)
 rw[uU hN];by_cases h0:chk a b l=0
 ·rw[h0,show((0:Int) != 0)=false from rfl,cond_false,if_neg (λh=>h rfl)];by_cases h1:a=b
  ·subst h1;rw[if_neg (λh=>h rfl),show((a != a)==false)=true by simp,cond_true];by_cases h2:a=n
   ·subst h2;rw[if_neg (λh=>h rfl),show(a != a)=false by simp,cond_false]
   ·rw[if_pos h2,jP _ _ h2,cond_true]
  ·rw[if_pos h1,jP _ _ h1]; rfl
 ·rw[if_pos h0,jP _ _ h0,cond_true]
theorem YN {n:Nat} {f:Nat->Nat->Fl} {P:Fl->Prop} (h:∀ a b,a<n->b<n->P (f a b)):∀ t,t<n*n->P ((mf n f).getD t none):=by
 intro t ht;have hn:0<n:=by
  rcases Nat.eq_zero_or_pos n with h0 | h0
  ·rw[h0]at ht; omega
  ·exact h0
 have:=AY n f (Nat.div_lt_of_lt_mul ht) (Nat.mod_lt t hn) none;rw[show t / n*n+t%n=t from by rw[Nat.mul_comm]; exact Nat.div_add_mod t n]at this;rw[this];exact h _ _ (Nat.div_lt_of_lt_mul ht) (Nat.mod_lt t hn)
theorem Hy {n:Nat} {f:Nat->Nat->Fl} (h:∀ a b,a<n->b<n->aL (f a b)=true):aX (mf n f)=true:=by unfold aX;refine eX.2 (λt ht=>YN (P:=λx=>aL x=true) h t ?_);rw[eB]at ht; exact ht
theorem aal {n:Nat} {f:Nat->Nat->Fl} (h:∀ a b,FW (f a b)):AllW (mf n f):=by intro x hx;unfold mf at hx;obtain⟨t,-,rfl⟩:=List.mem_map.1 hx;exact h _ _
theorem NL {n:Nat} (v:Nat->Nat->Fl):Rg n (mf n (mir v)):=by
 intro a b ha hb;show rJ (ofE (elt (mf n (mir v)) n a b))=rJ (ofE (elt (mf n (mir v)) n b a));rw[vk n _ ha hb,vk n _ hb ha];unfold mir;rcases Nat.lt_trichotomy a b with h | h | h
 ·rw[if_neg (by omega),if_pos (by omega)]
 ·rw[h]
 ·rw[if_pos (by omega),if_neg (by omega)]
theorem WB {v:Nat->Nat->Fl} (h:∀ a b,FW (v a b)) (a b:Nat):FW (mir v a b):=by
 unfold mir; split
 ·exact h _ _
 ·exact h _ _
theorem NK {n:Nat} {v:Nat->Nat->Fl} (h:∀ a b,a<n->b<=a->aL (v a b)=true):∀ a b,a<n->b<n->aL (mir v a b)=true:=by
 intro a b ha hb;unfold mir; split
 ·exact h _ _ ha (by assumption)
 ·exact h _ _ hb (by omega)
theorem YP {n:Nat} {M:Nat->Nat->Fl} {f q:List Fl} (h:orL n (nwO n M f q)=false):∀ a b,a<n->b<=a->aL (nwV n M f q a b)=true:=by intro a b ha hb;have h1:=tW h a ha;have h2:=tW h1 b (by omega);unfold nwO at h2;rw[Bool.or_eq_false_iff]at h2;simpa using h2.2
theorem aaY {n:Nat} {M:Nat->Nat->Fl} {f q:List Fl} (a b:Nat):FW (nwV n M f q a b):=l6 _ _
def prX (n:Nat) (f s:List Fl):Nat->Fl:=λi=>dV (λt=>elt f n i t) (λt=>s.getD t none) n
def PF (n:Nat) (f s:List Fl):Nat->Bool:=λi=>dO (λt=>elt f n i t) (λt=>s.getD t none) n
def prF (n:Nat) (s p f q:List Fl):Bool:=((false||orB (PF n f s) n)||orM n (prO n f p))||orL n (nwO n (prV n f p) f q)
def prM (n:Nat) (p f q:List Fl):List Fl:=mf n (mir (nwV n (prV n f p) f q))
def prK (x:List Fl) (r c:Int) (p:List Fl) (fr fc:Int) (f:List Fl) (qr qc:Int) (q:List Fl) (k0:Int->Int->Int->Bool) (k1:Int->Int->Int->List Fl->List Fl->Bool):Bool:=
 if uR x r c p ≠ 0 then k0 0 0 (uR x r c p)else
 if sqc fr fc f x.length ≠ 0 then k0 0 0 (sqc fr fc f x.length)else
 if sqc qr qc q x.length ≠ 0 then k0 0 0 (sqc qr qc q x.length)else
 if sv x.length q=false then k0 0 0 150 else
 cond (prF x.length x p f q) (k0 0 0 5) (cond (!yS x.length (prM x.length p f q)) (k0 0 0 151) (k1 x.length x.length 0 (vf x.length (prX x.length f x)) (prM x.length p f q)))
theorem Jl {N:Nat} (hF:Fuel N) (x:List Fl) (r c:Int) (p:List Fl) (fr fc:Int) (f:List Fl) (qr qc:Int) (q:List Fl) (hwp:AllW p) (k0:Int->Int->Int->Bool) (k1:Int->Int->Int->List Fl->List Fl->Bool) :
  jR N x r c p fr fc f qr qc q k0 k1=prK x r c p fr fc f qr qc q k0 k1:=by
 have hN:=hF.lt
 (unfold jR; rw[af]; unfold nw prK)
 rw[Eo hF _ _ _ _ hwp];by_cases h0:uR x r c p=0
 ·obtain⟨n,hn,rfl,rfl,hx,hl,fx,fl,-,-⟩:=yn h0;rw[if_neg (λh=>h h0),h0,show((0:Int) != 0)=false from rfl,cond_false,EA (by omega),hx];by_cases h1:sqc fr fc f n=0
  ·obtain⟨rfl,rfl,hfl,ff⟩:=Kr h1;rw[if_neg (λh=>h h1),h1,show((0:Int) != 0)=false from rfl,cond_false,EA (by omega)];by_cases h2:sqc qr qc q n=0
   ·obtain⟨rfl,rfl,hql,fq⟩:=Kr h2;rw[if_neg (λh=>h h2),h2,show((0:Int) != 0)=false from rfl,cond_false,Nq (by omega) hn hql fq];cases h3:sv n q
    ·rw[if_pos rfl]; rfl
    ·rw[if_neg (by decide),show(!true)=false from rfl,cond_false,Int.toNat_natCast,List.length_replicate,aa (bR (by omega) (by omega) (by omega) (by omega))];have z0:((0,List.replicate n (some 0),false):Int × List Fl × Bool)=(λt:Nat=>((t:Int),(vf n (prX n f x)).take t++List.replicate (n - t) (some 0),false||orB (PF n f x) t)) 0:=by show _=(((0:Nat):Int),_,false||false); rfl
     rw[z0];refine aV (λt:Nat=>((t:Int),(vf n (prX n f x)).take t++List.replicate (n - t) (some 0),false||orB (PF n f x) t)) n (by omega) ?_ ?_
     ·intro t ht K;unfold fY;dsimp only;have hfl2:=xT n (prX n f x) (i:=t) (by omega);have hs:=H_ n (prX n f x) ht;rw[decide_eq_true (by omega:(t:Int)<(n:Int)),cond_true,Do (by omega) ht hfl,
       Sw (n:=n) (f:=λi=>elt f n t i) (g:=λi=>x.getD i none) (by omega) (by omega) (xu hfl ht) (by omega) (by omega) (λi hi=>yC hfl ht hi) (λi hi=>rfl)]
      rw[hfl2,aa (ai (by omega) (by omega)),Int.toNat_natCast,aa (decide_eq_true ht),aa (ac (by omega) (by omega))];have e:dV (λi=>elt f n t i) (λi=>x.getD i none) n=prX n f x t:=rfl;have e2:dO (λi=>elt f n t i) (λi=>x.getD i none) n=PF n f x t:=rfl;rw[e,e2,hs,k9 false (PF n f x) t];rfl
     ·intro K;unfold fY;dsimp only;rw[decide_eq_false (by omega:¬(n:Int)<(n:Int)),cond_false,Nat.sub_self,List.replicate_zero,List.append_nil,List.take_of_length_le (by rw[ce]; omega),Jz (by omega) hn hfl hl,Hr (by omega) hn (prV n f p) hfl hql]
      (unfold mz; rw[af]; unfold gE; unfold N6; rw[af]; unfold QP)
      show cond (prF n x p f q) _ _=cond (prF n x p f q) _ _;cases h4:prF n x p f q
      ·rw[cond_false,cond_false];have h5:orL n (nwO n (prV n f p) f q)=false:=by unfold prF at h4;rw[Bool.or_eq_false_iff]at h4;exact h4.2
       have hfin:=Hy (NK (YP h5));unfold prM;show cz N n n (mf n (mir (nwV n (prV n f p) f q))) _=_;rw[u7 hF hn (eB n _) hfin (aal (WB aaY)) (NL _)]
      ·rfl
   ·rw[if_pos h2,jP _ _ h2,cond_true]
  ·rw[if_pos h1,jP _ _ h1,cond_true]
 ·rw[if_pos h0,jP _ _ h0,cond_true]
def spl (l:List Fl):Nat->List Fl
 | 0=>l
 | t+1=>(spl l t).set t (some 4635118810238550016)
theorem aap (l:List Int):(nM l).length=l.length:=by unfold nM; rw[List.length_map]
theorem O9 {N:Nat} {x p:List Int} (hx:vH N x.length) (hp:vH N p.length) (r c:Int) (k:List Fl->List Fl->Bool):VA N x r c p k=k (nM x) (nM p):=by unfold VA Zr;rw[Jk x hx,Jk p hp]
theorem Nc {N:Nat} {x:Fl} (hw:FW x) (o:Bool) (k:Bool->Bool):cond ((!feq x x)==false) (jU N x 0 (λcr=>cond cr (k true) (k o))) (k true)=k (o || !aL x):=by
 have:=Et (N:=N) hw o k
 (unfold xv at this; rw[af]at this; unfold M4 at this)
 exact this
theorem ml (N:Nat) {x:Fl} (hw:FW x) (o:Bool) (a1:List Fl) (a2 a3:Int) (a4 a5:List Fl) (a6 a7 a8:Fl) (a9:List Fl) (k:Bool->Bool):FI N x o a1 a2 a3 a4 a5 a6 a7 a8 a9 k=k (o || !aL x):=by
 (unfold FI; rw[af]; unfold Xi)
 exact Nc hw o k
theorem zh (N:Nat) (x y:Fl) (o:Bool) (a1:List Fl) (a2 a3:Int) (a4 a5:List Fl) (a6 a7 a8:Fl) (a9:List Fl) (k:Fl->Bool->Bool):PO N x y o a1 a2 a3 a4 a5 a6 a7 a8 a9 k=k (bA x y) (o || !aL (bA x y)):=by
 (unfold PO; rw[af]; unfold Xw)
 rw[ml N (Di x y)]
theorem dQ (N:Nat) {x:Fl} (hw:FW x) (o:Bool) (a1:List Fl) (a2 a3:Int) (a4 a5:List Fl) (a6 a7 a8:Fl) (a9 a10:List Fl) (k:Bool->Bool):z9 N x o a1 a2 a3 a4 a5 a6 a7 a8 a9 a10 k=k (o || !aL x):=by
 (unfold z9; rw[af]; unfold W7)
 exact Nc hw o k
theorem eA (N:Nat) (x y:Fl) (o:Bool) (a1:List Fl) (a2 a3:Int) (a4 a5:List Fl) (a6 a7 a8:Fl) (a9 a10:List Fl) (k:Fl->Bool->Bool):A7 N x y o a1 a2 a3 a4 a5 a6 a7 a8 a9 a10 k=k (bA x y) (o || !aL (bA x y)):=by
 (unfold A7; rw[af]; unfold W6)
 rw[dQ N (Di x y)]
theorem Jg {N n:Nat} (hN:1000<=N) (hn:n<=100) {a b:List Fl} (a1:List Fl) (a2 a3:Int) (a4 a5:List Fl) (a6 a7 a8:Fl) (a9:List Fl) {f g:Nat->Fl} (ha:a.length=n) (hb:n<=b.length) (hbs:b.length<=1000) (hf:∀ i,i<n->a.getD i none=f i) (hg:∀ i,i<n->b.getD i none=g i) (o:Bool) (k:Fl->Bool->Bool) :
  PM N a b o a1 a2 a3 a4 a5 a6 a7 a8 a9 k=k (dV f g n) (o||dO f g n):=by
 (unfold PM; rw[af]; unfold Xf)
 have h0:((some 0,0,o):Fl × Int × Bool)=(λt:Nat=>(dV f g t,(t:Int),o||dO f g t)) 0:=by show _=(some 0,((0:Nat):Int),o||false); rw[wh]; rfl
 rw[h0];refine aV (λt:Nat=>(dV f g t,(t:Int),o||dO f g t)) n (by omega) ?_ ?_
 ·intro t ht K;unfold H7;dsimp only;rw[decide_eq_true (by omega:(t:Int)<(a.length:Int)),cond_true,aa (ai (by omega) (by omega)),aa (ai (by omega) (by omega)),Int.toNat_natCast,hf t ht,hg t ht,zh,ml N (l6 _ _),aa (ac (by omega) (by omega)),uA];rfl
 ·intro K;unfold H7;dsimp only;rw[decide_eq_false (by omega:¬(n:Int)<(a.length:Int)),cond_false]
theorem Sx {N n:Nat} (hN:1000<=N) (hn:n<=100) {a b:List Fl} (a1:List Fl) (a2 a3:Int) (a4 a5:List Fl) (a6 a7 a8:Fl) {f g:Nat->Fl} (ha:a.length=n) (hb:n<=b.length) (hbs:b.length<=1000) (hf:∀ i,i<n->a.getD i none=f i) (hg:∀ i,i<n->b.getD i none=g i) (o:Bool) (k:Fl->Bool->Bool) :
  TL N a o a1 a2 a3 a4 a5 a6 a7 a8 b k=k (dV f g n) (o||dO f g n):=by
 (unfold TL; rw[af]; unfold Xb)
 have h0:((some 0,0,o):Fl × Int × Bool)=(λt:Nat=>(dV f g t,(t:Int),o||dO f g t)) 0:=by show _=(some 0,((0:Nat):Int),o||false); rw[wh]; rfl
 rw[h0];refine aV (λt:Nat=>(dV f g t,(t:Int),o||dO f g t)) n (by omega) ?_ ?_
 ·intro t ht K;unfold H3;dsimp only;rw[decide_eq_true (by omega:(t:Int)<(a.length:Int)),cond_true,aa (ai (by omega) (by omega)),aa (ai (by omega) (by omega)),Int.toNat_natCast,aa (decide_eq_true (by omega)),hf t ht,hg t ht,zh,ml N (l6 _ _),aa (ac (by omega) (by omega)),uA];rfl
 ·intro K;unfold H3;dsimp only;rw[decide_eq_false (by omega:¬(n:Int)<(a.length:Int)),cond_false]
theorem Sy {N n:Nat} (hN:1000<=N) (hn:n<=100) {s:Nat} {a b:List Fl} (a1:List Fl) (a2 a3:Int) (a4 a5:List Fl) (a6 a7 a8:Fl) (a9 a10:List Fl) {f g:Nat->Fl} (ha:s+n<=a.length) (hb:n<=b.length) (hbs:b.length<=1000) (hf:∀ i,i<n->a.getD (s+i) none=f i) (hg:∀ i,i<n->b.getD i none=g i) (o:Bool) (k:Fl->Bool->Bool) :
  TK N s n o a1 a2 a3 a4 a5 a6 a7 a8 a b a9 a10 k=k (dV f g n) (o||dO f g n):=by
 (unfold TK; rw[af]; unfold W9)
 have h0:((some 0,0,o):Fl × Int × Bool)=(λt:Nat=>(dV f g t,(t:Int),o||dO f g t)) 0:=by show _=(some 0,((0:Nat):Int),o||false); rw[wh]; rfl
 rw[h0];refine aV (λt:Nat=>(dV f g t,(t:Int),o||dO f g t)) n (by omega) ?_ ?_
 ·intro t ht K;unfold HX;dsimp only;rw[decide_eq_true (by omega:(t:Int)<(n:Int)),cond_true,aa (ai (by omega) (by omega)),Int.toNat_natCast,aa (decide_eq_true (by omega)),aa (ai (by omega) (by omega)),aa (decide_eq_true (by omega)),hf t ht,hg t ht,eA,dQ N (l6 _ _),aa (ac (by omega) (by omega)),uA];rfl
 ·intro K;unfold HX;dsimp only;rw[decide_eq_false (by omega:¬(n:Int)<(n:Int)),cond_false]
theorem Sz {N n:Nat} (hN:1000<=N) (hn:n<=100) {s s':Nat} {a b:List Fl} (a1:List Fl) (a2 a3:Int) (a4 a5:List Fl) (a6 a7 a8:Fl) (a9 a10:List Fl) {f g:Nat->Fl} (ha:s+n<=a.length) (hb:s'+n<=b.length) (hf:∀ i,i<n->a.getD (s+i) none=f i) (hg:∀ i,i<n->b.getD (s'+i) none=g i) (o:Bool) (k:Fl->Bool->Bool) :
  TJ N s n s' n o a1 a2 a3 a4 a5 a6 a7 a8 a b a9 a10 k=k (dV f g n) (o||dO f g n):=by
 (unfold TJ; rw[af]; unfold W8)
 have h0:((some 0,0,o):Fl × Int × Bool)=(λt:Nat=>(dV f g t,(t:Int),o||dO f g t)) 0:=by show _=(some 0,((0:Nat):Int),o||false); rw[wh]; rfl
 rw[h0];refine aV (λt:Nat=>(dV f g t,(t:Int),o||dO f g t)) n (by omega) ?_ ?_
 ·intro t ht K;unfold HW;dsimp only;rw[decide_eq_true (by omega:(t:Int)<(n:Int)),cond_true,aa (ai (by omega) (by omega)),Int.toNat_natCast,aa (decide_eq_true (by omega)),aa (ai (by omega) (by omega)),aa (decide_eq_true (by omega)),hf t ht,hg t ht,eA,dQ N (l6 _ _),aa (ac (by omega) (by omega)),uA];rfl
 ·intro K;unfold HW;dsimp only;rw[decide_eq_false (by omega:¬(n:Int)<(n:Int)),cond_false]
theorem Hs {N n:Nat} (hN:1000<=N) (hn:n<=12) {f p:List Fl} (hf:f.length=n*n) (hp:p.length=n*n) (o:Bool) (a1:List Fl) (a2 a3:Int) (a4 a5:List Fl) (a6 a7 a8:Fl) (a9 a10:List Fl) (k:Bool->List Fl->Bool) :
  dA N n n n n p o a1 a2 a3 a4 a5 a6 a7 a8 f a9 a10 k=k (o||orM n (prO n f p)) (mf n (prV n f p)):=by
 (unfold dA; rw[af]; unfold du)
 have hn2:n*n<=144:=EK hn;have h0:((0,o,[]):Int × Bool × List Fl)=(λi:Nat=>((i:Int),o||orB (λi=>orB (λj=>prO n f p i j) n) i,(mf n (prV n f p)).take (i*n))) 0:=by show _=(((0:Nat):Int),o||false,List.take (0*n) _); rw[wh,Nat.zero_mul]; rfl
 rw[h0];refine aV (λi:Nat=>((i:Int),o||orB (λi=>orB (λj=>prO n f p i j) n) i,(mf n (prV n f p)).take (i*n))) n (by omega) ?_ ?_
 ·intro i hi K;unfold bK;dsimp only;rw[decide_eq_true (by omega:(i:Int)<(n:Int)),cond_true];generalize ho1:(o||orB (λi=>orB (λj=>prO n f p i j) n) i)=o1;have h1:((0,o1,(mf n (prV n f p)).take (i*n)):Int × Bool × List Fl)=(λj:Nat=>((j:Int),o1||orB (λj=>prO n f p i j) j,(mf n (prV n f p)).take (i*n+j))) 0:=by show _=(((0:Nat):Int),o1||false,List.take (i*n+0) _); rw[wh]; rfl
  rw[h1];refine(aV (λj:Nat=>((j:Int),o1||orB (λj=>prO n f p i j) j,(mf n (prV n f p)).take (i*n+j))) n (N:=N) (by omega) (out:=K ((((i+1:Nat)):Int),o||orB (λi=>orB (λj=>prO n f p i j) n) (i+1),(mf n (prV n f p)).take ((i+1)*n))) ?_ ?_:_)
  ·intro j hj K';have hij:=lz hi hj;have hrow:=BV hi;have hrn:=rL n i;unfold bL;dsimp only;rw[decide_eq_true (by omega:(j:Int)<(n:Int)),cond_true,AW (by omega) hi hf,Nr hN (by omega) hj hp,
    Sy (n:=n) (s:=i*n) (f:=λt=>elt f n i t) (g:=λt=>elt p n t j) hN (by omega) _ _ _ _ _ _ _ _ _ _ (by omega) (by rw[ce]; omega) (by rw[ce]; omega) (λt ht=>rfl) (λt ht=>na n _ ht none)]
   have e:dV (λt=>elt f n i t) (λt=>elt p n t j) n=prV n f p i j:=rfl;have e2:dO (λt=>elt f n i t) (λt=>elt p n t j) n=prO n f p i j:=rfl;rw[e,e2,Hz n (prV n f p) hi hj,aa (decide_eq_true (by rw[List.length_take,eB]; omega)),aa (ac (by omega) (by omega)),k9 o1 (λj=>prO n f p i j) j];rfl
  ·intro K';unfold bL;dsimp only;rw[decide_eq_false (by omega:¬(n:Int)<(n:Int)),cond_false,aa (ac (by omega) (by omega)),<- ho1,rL,k9 o (λi=>orB (λj=>prO n f p i j) n) i];rfl
 ·intro K;unfold bK;dsimp only;rw[decide_eq_false (by omega:¬(n:Int)<(n:Int)),cond_false,Fc];rfl
def jV (n:Nat) (B A kk:List Fl) (r:Fl):Nat->Nat->Fl:=λi j=>cD (dV (λt=>elt B n i t) (λt=>elt A n j t) n) (bA (bA (kk.getD i none) r) (kk.getD j none))
def jO (n:Nat) (B A kk:List Fl) (r:Fl):Nat->Nat->Bool:=λi j=>((dO (λt=>elt B n i t) (λt=>elt A n j t) n || !aL (bA (kk.getD i none) r)) || !aL (bA (bA (kk.getD i none) r) (kk.getD j none))) || !aL (jV n B A kk r i j)
theorem SI {N n i j:Nat} (hN:1000<=N) (hn:n<=12) (hi:i<n) (hj:j<n) {B A kk:List Fl} (hB:B.length=n*n) (hA:A.length=n*n) (hk:kk.length=n) (o:Bool) (a1:List Fl) (a2 a3:Int) (a4 a5:List Fl) (a6 a7 a8:Fl) (a9:List Fl) (k:Fl->Bool->Bool) :
  bE N i j n n n n o a1 a2 a3 a4 a5 a6 a7 a8 B A a9 kk k=k (jV n B A kk a6 i j) (o||jO n B A kk a6 i j):=by
 (unfold bE; rw[af]; unfold bD)
 have h1:=BV hi;have h2:=rL n i;have h3:=BV hj;have h4:=rL n j;rw[AW (by omega) hi hB,AW (by omega) hj hA,
  Sz (n:=n) (s:=i*n) (s':=j*n) (f:=λt=>elt B n i t) (g:=λt=>elt A n j t) hN (by omega) _ _ _ _ _ _ _ _ _ _ (by omega) (by omega) (λt ht=>rfl) (λt ht=>rfl),
  aa (ai (by omega) (by omega)),Int.toNat_natCast,aa (decide_eq_true (by omega)),eA,aa (ai (by omega) (by omega)),Int.toNat_natCast,aa (decide_eq_true (by omega)),eA,dQ N (l6 _ _)]
 unfold jO;simp only[Bool.or_assoc];rfl
theorem FF {N n:Nat} (hN:1000<=N) (hn:n<=12) {B A kk:List Fl} (hB:B.length=n*n) (hA:A.length=n*n) (hk:kk.length=n) (o:Bool) (a1:List Fl) (a2 a3:Int) (a4 a5:List Fl) (a6 a7 a8:Fl) (a9:List Fl) (k:Bool->List Fl->Bool) :
  cw N n n n n n o a1 a2 a3 a4 a5 a6 a7 a8 B A a9 kk k=k (o||orL n (jO n B A kk a6)) (mf n (mir (jV n B A kk a6))):=by
 have hn2:n*n<=144:=EK hn
 (unfold cw; rw[af]; unfold co)
 rw[<- Int.natCast_mul,aa (ac (by omega) (by omega)),aa (bR (by omega) (by omega) (by omega) (by omega)),Int.toNat_natCast,HA];generalize hv:jV n B A kk a6=v;generalize hw:jO n B A kk a6=w;rw[NG n v];have h0:((0,o,mf n (mS v 0 0)):Int × Bool × List Fl)=(λi:Nat=>((i:Int),o||orB (λi=>orB (λj=>w i j) (i+1)) i,mf n (mS v i 0))) 0:=by show _=(((0:Nat):Int),o||false,_); rw[wh]; rfl
 rw[h0];refine aV (λi:Nat=>((i:Int),o||orB (λi=>orB (λj=>w i j) (i+1)) i,mf n (mS v i 0))) n (by omega) ?_ ?_
 ·intro i hi K;unfold bB;dsimp only;rw[decide_eq_true (by omega:(i:Int)<(n:Int)),cond_true,aa (ac (by omega) (by omega))];generalize ho1:(o||orB (λi=>orB (λj=>w i j) (i+1)) i)=o1;have h1:((0,o1,mf n (mS v i 0)):Int × Bool × List Fl)=(λj:Nat=>((j:Int),o1||orB (λj=>w i j) j,mf n (mS v i j))) 0:=by show _=(((0:Nat):Int),o1||false,_); rw[wh]; rfl
  rw[h1];refine(aV (λj:Nat=>((j:Int),o1||orB (λj=>w i j) j,mf n (mS v i j))) (i+1) (N:=N) (by omega) (out:=K ((((i+1:Nat)):Int),o||orB (λi=>orB (λj=>w i j) (i+1)) (i+1),mf n (mS v (i+1) 0))) ?_ ?_:_)
  ·intro j hj K';have hj2:j<n:=by omega
   obtain⟨g1,g2⟩:=js (by omega:n<=1000) hi hj2;obtain⟨g3,g4⟩:=js (by omega:n<=1000) hj2 hi;have g5:=lz hi hj2;have g6:=lz hj2 hi;unfold bC;dsimp only;rw[decide_eq_true (by omega:(j:Int)<(i:Int)+1),cond_true,SI hN hn hi hj2 hB hA hk,aa g1,jr,aa g2,aa g3,jr,aa g4,eB,aa (ai (by omega) (by omega)),Int.toNat_natCast,aa (decide_eq_true g5),hv,hw,
    ED n _ hi hj2,eB,aa (ai (by omega) (by omega)),Int.toNat_natCast,aa (decide_eq_true g6),ED n _ hj2 hi,aa (ac (by omega) (by omega)),k9 o1 (λj=>w i j) j,NF n v hj]
   rfl
  ·intro K';unfold bC;dsimp only;rw[decide_eq_false (by omega:¬((i+1:Nat):Int)<(i:Int)+1),cond_false,aa (ac (by omega) (by omega)),<- ho1,S2,k9 o (λi=>orB (λj=>w i j) (i+1)) i];rfl
 ·intro K;unfold bB;dsimp only;rw[decide_eq_false (by omega:¬(n:Int)<(n:Int)),cond_false,S1];rfl
def fk (i j:Nat):Fl:=if i=j then some 4607182418800017408 else some 0
def asV (kk h:List Fl):Nat->Nat->Fl:=λi j=>lj (fk i j) (bA (kk.getD i none) (h.getD j none))
def asO (kk h:List Fl):Nat->Nat->Bool:=λi j=>!aL (bA (kk.getD i none) (h.getD j none)) || !aL (asV kk h i j)
def FB (n:Nat) (p kk h:List Fl) (r:Fl):List Fl:=mf n (mir (jV n (mf n (prV n (mf n (asV kk h)) p)) (mf n (asV kk h)) kk r))
def Jd (n:Nat) (p kk h:List Fl) (r:Fl):Bool:=(orM n (asO kk h)||orM n (prO n (mf n (asV kk h)) p))||orL n (jO n (mf n (prV n (mf n (asV kk h)) p)) (mf n (asV kk h)) kk r)
theorem LO {N n:Nat} (hN:1000<=N) (hn:n<=12) {p h kk:List Fl} (hp:p.length=n*n) (hh:h.length=n) (hk:kk.length=n) (o:Bool) (a1:List Fl) (r a7 a8:Fl) (a9:List Fl) (k:Int->Int->Bool->List Fl->Bool) :
  bP N o a1 n n p h r a7 a8 a9 kk k=k n n (o||Jd n p kk h r) (FB n p kk h r):=by
 (unfold bP; rw[af]; unfold cJ)
 rw[hh];have hn2:n*n<=144:=EK hn;have h0:((0,o,[]):Int × Bool × List Fl)=(λi:Nat=>((i:Int),o||orB (λi=>orB (λj=>asO kk h i j) n) i,(mf n (asV kk h)).take (i*n))) 0:=by show _=(((0:Nat):Int),o||false,List.take (0*n) _); rw[wh,Nat.zero_mul]; rfl
 rw[h0];refine aV (λi:Nat=>((i:Int),o||orB (λi=>orB (λj=>asO kk h i j) n) i,(mf n (asV kk h)).take (i*n))) n (by omega) ?_ ?_
 ·intro i hi K;unfold bG;dsimp only;rw[decide_eq_true (by omega:(i:Int)<(n:Int)),cond_true];generalize ho1:(o||orB (λi=>orB (λj=>asO kk h i j) n) i)=o1;have h1:((0,o1,(mf n (asV kk h)).take (i*n)):Int × Bool × List Fl)=(λj:Nat=>((j:Int),o1||orB (λj=>asO kk h i j) j,(mf n (asV kk h)).take (i*n+j))) 0:=by show _=(((0:Nat):Int),o1||false,List.take (i*n+0) _); rw[wh]; rfl
  rw[h1];refine(aV (λj:Nat=>((j:Int),o1||orB (λj=>asO kk h i j) j,(mf n (asV kk h)).take (i*n+j))) n (N:=N) (by omega) (out:=K ((((i+1:Nat)):Int),o||orB (λi=>orB (λj=>asO kk h i j) n) (i+1),(mf n (asV kk h)).take ((i+1)*n))) ?_ ?_:_)
  ·intro j hj K';have hij:=lz hi hj;unfold bH;dsimp only;have key:∀ z:Fl,fk i j=z->(inR (i:Int) (List.length kk)&&(decide ((Int.toNat (i:Int))<kk.length)&&(inR (j:Int) (List.length h)&&A7 N (kk.getD (Int.toNat (i:Int)) none) (h.getD (Int.toNat (j:Int)) none) (o1||orB (λj=>asO kk h i j) j) a1 n n p h r a7 a8 a9 kk (λxr cr=>z9 N (lj z xr) cr a1 n n p h r a7 a8 a9 kk (λacT=>(decide ((((mf n (asV kk h)).take (i*n+j)++[lj z xr]).length)*8<=140737488355328))&&(ah .i64 ((j:Int)+1)&&K' ((j:Int)+1,acT,(mf n (asV kk h)).take (i*n+j)++[lj z xr])))))))=K' (((j+1:Nat):Int),o1||orB (λj=>asO kk h i j) (j+1),(mf n (asV kk h)).take (i*n+(j+1))):=by
    intro z hz;rw[aa (ai (by omega) (by omega)),Int.toNat_natCast,aa (decide_eq_true (by omega)),aa (ai (by omega) (by omega)),Int.toNat_natCast,eA,dQ N (MY _ _)];have e:lj z (bA (kk.getD i none) (h.getD j none))=asV kk h i j:=by rw[<- hz]; rfl
    have e2:(((o1||orB (λj=>asO kk h i j) j) || !aL (bA (kk.getD i none) (h.getD j none))) || !aL (asV kk h i j))=(o1||orB (λj=>asO kk h i j) (j+1)):=by rw[<- k9 o1 (λj=>asO kk h i j) j];unfold asO;simp only[Bool.or_assoc]
    rw[e,e2,Hz n (asV kk h) hi hj,aa (decide_eq_true (by rw[List.length_take,eB]; omega)),aa (ac (by omega) (by omega))];rfl
   rw[decide_eq_true (by omega:(j:Int)<(n:Int)),cond_true];by_cases hij2:i=j
   ·have e:((i:Int)==(j:Int))=true:=by rw[hij2]; exact beq_self_eq_true _
    rw[e,cond_true];exact key _ (by unfold fk; rw[if_pos hij2])
   ·have e:((i:Int)==(j:Int))=false:=by rw[beq_eq_false_iff_ne]; omega
    rw[e,cond_false];exact key _ (by unfold fk; rw[if_neg hij2])
  ·intro K';unfold bH;dsimp only;rw[decide_eq_false (by omega:¬(n:Int)<(n:Int)),cond_false,aa (ac (by omega) (by omega)),<- ho1,rL,k9 o (λi=>orB (λj=>asO kk h i j) n) i];rfl
 ·intro K;unfold bG;dsimp only;rw[decide_eq_false (by omega:¬(n:Int)<(n:Int)),cond_false,Fc,Hs hN hn (eB _ _) hp,FF hN hn (eB _ _) (eB _ _) hk];unfold FB Jd;rw[show orB (λi=>orB (λj=>asO kk h i j) n) n=orM n (asO kk h) from rfl];simp only[Bool.or_assoc]
def mB (n:Nat) (h:List Fl) (r:Fl):Int:=if h.length ≠ n then 3 else if aX h=false then 4 else if aL r=false then 4 else if fle r (some 0)=true then 152 else 0
theorem DF (r:Fl):aX [r]=aL r:=by show(Bw (λi=>aL ([r].getD i none)) 1)=aL r;unfold Bw Bw;rw[Bool.true_and]; rfl
theorem ifz {α:Sort _} {a:Int} {A B:α} (h:a=0):(if a ≠ 0 then A else B)=B:=if_neg λq=>q h
theorem Lz {α:Sort _} {a:Int} {A B:α} (h:¬ a=0):(if a ≠ 0 then A else B)=A:=if_pos h
theorem SQ {N:Nat} (hN:1000<=N) {n:Nat} (hn:n<=12) (h:List Fl) (r:Fl) (k:Int->Bool):tm N n h r k=k (mB n h r):=by
 (unfold tm; rw[af]; unfold s_ mB)
 by_cases h0:h.length=n
 ·have e:(((h.length:Nat):Int) != (n:Int))=false:=by simp[h0]
  rw[e,cond_false,if_neg (λq=>q h0),rB h ⟨by omega,by omega⟩];cases aX h
  ·rfl
  ·rw[show(!true)=false from rfl,cond_false,rB [r] ⟨by simp; omega,by simp⟩,DF];cases aL r
   ·rfl
   ·cases fle r (some 0) <;> rfl
 ·have e:(((h.length:Nat):Int) != (n:Int))=true:=by simp; omega
  rw[e,cond_true,if_pos h0]
theorem E0 {n:Nat} {h:List Fl} {r:Fl} (q:mB n h r=0):h.length=n/\aX h=true/\aL r=true/\fle r (some 0)=false:=by
 unfold mB at q;split at q
 ·cases q
 ·split at q
  ·cases q
  ·split at q
   ·cases q
   ·split at q
    ·cases q
    ·rename_i h0 h1 h2 h3;exact⟨by simpa using h0,by simpa using h1,by simpa using h2,by simpa using h3⟩
def lst (l:List Fl):Nat->Fl:=λt=>l.getD t none
def uV (n:Nat) (p h:List Fl):Nat->Fl:=λi=>dV (λt=>elt p n i t) (lst h) n
def uVo (n:Nat) (p h:List Fl):Nat->Bool:=λi=>dO (λt=>elt p n i t) (lst h) n
def uW (n:Nat) (x h:List Fl):Fl:=dV (lst h) (lst x) n
def uS (n:Nat) (p h:List Fl) (r:Fl):Fl:=cD (dV (lst h) (uV n p h) n) r
def uF (n:Nat) (x p h:List Fl) (r:Fl):Bool:=((orB (uVo n p h) n||dO (lst h) (lst x) n)||dO (lst h) (uV n p h) n) || !aL (uS n p h r)
def uE (n:Nat) (x p h:List Fl) (r:Fl):Int:=if uF n x p h r=true then 5 else if fgt (uS n p h r) (some 0)=false then 153 else 0
theorem Jt {N:Nat} (hF:Fuel N) (x:List Fl) (rr cc:Int) (p h:List Fl) (r:Fl) (hwp:AllW p) (k0:Int->Bool) (k1:Int->Bool->Fl->Fl->List Fl->Bool) :
  jS N x rr cc p h r k0 k1=if uR x rr cc p ≠ 0 then k0 (uR x rr cc p)else if mB x.length h r ≠ 0 then k0 (mB x.length h r)else
   k1 (uE x.length x p h r) (uF x.length x p h r) (uW x.length x h) (uS x.length p h r) (vf x.length (uV x.length p h)):=by
 have hN:=hF.lt
 (unfold jS; rw[af]; unfold nx)
 rw[Eo hF _ _ _ _ hwp];by_cases h0:uR x rr cc p=0
 ·obtain⟨n,hn,rfl,rfl,hx,hl,fx,fl,-,-⟩:=yn h0;rw[if_neg (λh=>h h0),h0,show((0:Int) != 0)=false from rfl,cond_false,hx,SQ (by omega) hn];by_cases h1:mB n h r=0
  ·obtain⟨hh,-,-,-⟩:=E0 h1;rw[if_neg (λq=>q h1),h1,show((0:Int) != 0)=false from rfl,cond_false];have z0:((0,false,[]):Int × Bool × List Fl)=(λt:Nat=>((t:Int),orB (uVo n p h) t,(vf n (uV n p h)).take t)) 0:=rfl;rw[z0];refine aV (λt:Nat=>((t:Int),orB (uVo n p h) t,(vf n (uV n p h)).take t)) n (by omega) ?_ ?_
   ·intro t ht K;unfold fZ;dsimp only;rw[decide_eq_true (by omega:(t:Int)<(n:Int)),cond_true,Do (by omega) ht hl,
     Jg (n:=n) (f:=λi=>elt p n t i) (g:=lst h) (by omega) (by omega) _ _ _ _ _ _ _ _ _ (xu hl ht) (by omega) (by omega) (λi hi=>yC hl ht hi) (λi hi=>rfl)]
    have e:dV (λi=>elt p n t i) (lst h) n=uV n p h t:=rfl;rw[e,Od n (uV n p h) ht,aa (decide_eq_true (by rw[List.length_take,ce]; omega)),aa (ac (by omega) (by omega))];rfl
   ·intro K;unfold fZ;dsimp only;rw[decide_eq_false (by omega:¬(n:Int)<(n:Int)),cond_false,List.take_of_length_le (by rw[ce]; omega),
     Jg (n:=n) (f:=lst h) (g:=lst x) (by omega) (by omega) _ _ _ _ _ _ _ _ _ hh (by omega) (by omega) (λi hi=>rfl) (λi hi=>rfl),
     Sx (n:=n) (f:=lst h) (g:=uV n p h) (by omega) (by omega) _ _ _ _ _ _ _ _ hh (by rw[ce]; omega) (by rw[ce]; omega) (λi hi=>rfl) (λi hi=>na n _ hi none),ml N (l6 _ _)]
    (unfold NY; rw[af]; unfold Qc)
    show cond (uF n x p h r) (k1 5 (uF n x p h r) (uW n x h) (uS n p h r) _) (cond (!(fgt (uS n p h r) (some 0))) (k1 153 (uF n x p h r) (uW n x h) (uS n p h r) _) (k1 0 (uF n x p h r) (uW n x h) (uS n p h r) _))=_;unfold uE;cases uF n x p h r
    ·cases fgt (uS n p h r) (some 0) <;> rfl
    ·rfl
  ·rw[if_pos h1,jP _ _ h1,cond_true]
 ·rw[if_pos h0,jP _ _ h0,cond_true]
def gK (v:Nat->Fl) (s:Fl):Nat->Fl:=λi=>fdiv (v i) s
def gX (v:Nat->Fl) (s y:Fl) (x:List Fl):Nat->Fl:=λi=>cD (x.getD i none) (bA (gK v s i) y)
def gO (v:Nat->Fl) (s y:Fl) (x:List Fl):Nat->Bool:=λi=>(!aL (gK v s i) || !aL (bA (gK v s i) y)) || !aL (gX v s y x i)
theorem Pd {N n:Nat} (hN:1000<=N) (hn:n<=12) {v:Nat->Fl} {s y:Fl} {x:List Fl} (hx:x.length=n) (o:Bool) (b1 b2:Int) (b3:List Fl) (t1 t2:Int) (t3 t4 t5:Fl) (a1:List Fl) (a2 a3:Int) (a4 a5:List Fl) (a6 a7:Fl) (e0:Bool->List Fl->List Fl->Bool) :
  al N (cj N y n x b1 b2 b3 t1 t2 t3 t4 t5 a1 a2 a3 a4 a5 a6 a7 s (vf n v) e0) (0,o,List.replicate n (some 0),[])=e0 (o||orB (gO v s y x) n) (vf n (gX v s y x)) (vf n (gK v s)):=by
 have z0:((0,o,List.replicate n (some 0),[]):Int × Bool × List Fl × List Fl)=(λt:Nat=>((t:Int),o||orB (gO v s y x) t,(vf n (gX v s y x)).take t++List.replicate (n - t) (some 0),(vf n (gK v s)).take t)) 0:=by show _=(((0:Nat):Int),o||false,_,_); rw[wh]; rfl
 rw[z0];refine aV (λt:Nat=>((t:Int),o||orB (gO v s y x) t,(vf n (gX v s y x)).take t++List.replicate (n - t) (some 0),(vf n (gK v s)).take t)) n (by omega) ?_ ?_
 ·intro t ht K;unfold cj;dsimp only;have hfl2:=xT n (gX v s y x) (i:=t) (by omega);have hs:=H_ n (gX v s y x) ht;have hk:fdiv (v t) s=gK v s t:=rfl;have hkl:((vf n (gK v s)).take (t+1)).length=t+1:=by rw[List.length_take,ce]; omega
  have hkt:((vf n (gK v s)).take (t+1)).getD t none=gK v s t:=by rw[List.getD_eq_getElem?_getD,List.getElem?_take,if_pos (by omega),<- List.getD_eq_getElem?_getD,na n _ ht]
  rw[decide_eq_true (by omega:(t:Int)<(n:Int)),cond_true,ce,aa (ai (by omega) (by omega)),Int.toNat_natCast,aa (decide_eq_true ht),na n v ht,hk,dQ N (by rw[<- hk]; exact MX _ _),
   Od n (gK v s) ht,hkl,aa (decide_eq_true (by omega)),aa (ai (by omega) (by omega)),aa (ai (by omega) (by omega)),aa (decide_eq_true (by omega)),hkt,eA,dQ N (l6 _ _),hfl2,aa (ai (by omega) (by omega)),aa (decide_eq_true ht),aa (ac (by omega) (by omega))]
  have e:cD (x.getD t none) (bA (gK v s t) y)=gX v s y x t:=rfl;have e2:((((o||orB (gO v s y x) t) || !aL (gK v s t)) || !aL (bA (gK v s t) y)) || !aL (gX v s y x t))=(o||orB (gO v s y x) (t+1)):=by rw[<- k9 o (gO v s y x) t];unfold gO;simp only[Bool.or_assoc]
  rw[e,e2,hs];rfl
 ·intro K;unfold cj;dsimp only;rw[decide_eq_false (by omega:¬(n:Int)<(n:Int)),cond_false,Nat.sub_self,List.replicate_zero,List.append_nil,List.take_of_length_le (by rw[ce]; omega),List.take_of_length_le (by rw[ce]; omega)]
def upY (n:Nat) (x h:List Fl) (z:Fl):Fl:=lj z (uW n x h)
def upX (n:Nat) (x p h:List Fl) (r z:Fl):List Fl:=vf n (gX (uV n p h) (uS n p h r) (upY n x h z) x)
def upG (n:Nat) (p h:List Fl) (r:Fl):List Fl:=vf n (gK (uV n p h) (uS n p h r))
def upC (n:Nat) (x p h:List Fl) (r z:Fl):Fl:=fdiv (bA (upY n x h z) (upY n x h z)) (uS n p h r)
def upO (n:Nat) (x p h:List Fl) (r z:Fl):Bool:=(((!aL (upY n x h z)||orB (gO (uV n p h) (uS n p h r) (upY n x h z) x) n) || !aL (bA (upY n x h z) (upY n x h z))) || !aL (upC n x p h r z))||Jd n p (upG n p h r) h r
def Fe (x:List Fl) (rr cc:Int) (p h:List Fl) (r z:Fl) (k0:Int->Bool) (k2:Nat->Fl->Fl->Fl->List Fl->List Fl->List Fl->Bool):Bool:=
 if uR x rr cc p ≠ 0 then k0 (uR x rr cc p)else if mB x.length h r ≠ 0 then k0 (mB x.length h r)else if aL z=false then k0 4 else
 if uE x.length x p h r ≠ 0 then k0 (uE x.length x p h r)else
 cond (upO x.length x p h r z) (k0 5) (cond (!yS x.length (FB x.length p (upG x.length p h r) h r)) (k0 151)
  (k2 x.length (upY x.length x h z) (uS x.length p h r) (upC x.length x p h r z) (upX x.length x p h r z) (FB x.length p (upG x.length p h r) h r) (upG x.length p h r)))
theorem UX {n:Nat} {p kk h:List Fl} {r:Fl} (q:Jd n p kk h r=false):aX (FB n p kk h r)=true:=by unfold Jd at q;rw[Bool.or_eq_false_iff]at q;refine Hy (NK λa b ha hb=>?_);have h2:=tW (tW q.2 a ha) b (by omega);unfold jO at h2;rw[Bool.or_eq_false_iff]at h2;simpa using h2.2
theorem LW {N:Nat} (hF:Fuel N) (x:List Fl) (rr cc:Int) (p h:List Fl) (r z:Fl) (hwp:AllW p) (k0:Int->Int->Fl->Fl->Fl->Int->Bool) (k1:Int->Int->Fl->Fl->Fl->Int->List Fl->Bool) (k2:Int->Int->Fl->Fl->Fl->Int->List Fl->List Fl->List Fl->Bool) :
  mA N x rr cc p h r z k0 k1 k2=Fe x rr cc p h r z (λe=>k0 0 0 (some 0) (some 0) (some 0) e) (λn y s c x' p' g=>k2 n n y s c 0 x' p' g):=by
 have hN:=hF.lt
 (unfold mA; rw[af]; unfold eS Fe)
 rw[Jt hF _ _ _ _ _ _ hwp];by_cases h0:uR x rr cc p=0
 ·obtain⟨n,hn,rfl,rfl,hx,hl,fx,fl,-,-⟩:=yn h0;rw[ifz h0,ifz h0,hx];by_cases h1:mB n h r=0
  ·obtain⟨hh,-,-,-⟩:=E0 h1;rw[ifz h1,ifz h1];have hz1:vH N [z].length:=⟨by simp; omega,by simp⟩
   simp only[rB [z] hz1,DF];have same:∀(c:Bool) (a b:Bool),cond c a a=a:=by intro c a b; cases c <;> rfl
   rw[same _ _ true];cases hz:aL z
   ·rw[if_pos rfl]; rfl
   ·rw[if_neg (by decide),show(!true)=false from rfl,cond_false];unfold fW;by_cases h2:uE n x p h r=0
    ·rw[ifz h2,h2,show((0:Int) != 0)=false from rfl,cond_false];have hf:uF n x p h r=false:=by
      unfold uE at h2;split at h2
      ·cases h2
      ·rename_i q; simpa using q
     rw[hf,ml N (MY _ _),hh,Int.toNat_natCast,List.length_replicate,aa (bR (by omega) (by omega) (by omega) (by omega)),Pd (by omega) hn hx,eA,dQ N (MX _ _)]
     (unfold dH; unfold ii)
     rw[LO (by omega) hn hl hh (ce _ _)]
     (unfold dd; rw[af]; unfold cS; unfold VC; rw[af]; unfold XD)
     show cond (upO n x p h r z) _ _=cond (upO n x p h r z) _ _;cases h4:upO n x p h r z
     ·rw[cond_false,cond_false];have h5:Jd n p (upG n p h r) h r=false:=by unfold upO at h4;rw[Bool.or_eq_false_iff]at h4;exact h4.2
      have hfin:=UX h5;show cz N n n (FB n p (upG n p h r) h r) _=_;have hpos:=λk=>u7 hF hn (l:=FB n p (upG n p h r) h r) (eB n _) hfin (aal (WB λa b=>l6 _ _)) (NL _) k
      rw[hpos];cases yS n (FB n p (upG n p h r) h r)
      ·rfl
      ·rfl
     ·rfl
    ·rw[Lz h2,jP _ _ h2,cond_true]
  ·rw[Lz h1,Lz h1];have e:((mB n h r==0)==false)=true:=by simp[h1]
   rw[e,cond_true];unfold fV;rw[jP _ _ h1,cond_true]
 ·rw[Lz h0,Lz h0];have e:((uR x rr cc p==0)==false)=true:=by simp[h0]
  rw[e,cond_true];unfold fV;rw[jP _ _ h0,cond_true]
theorem Z1 {x z:Fl} (h:aL x=true) (hz:isZ z):isZ (bA x z):=by obtain⟨b,s,m,i,rfl,hb⟩:=cI h;obtain⟨t,rfl⟩:=hz;exact⟨_,EF hb⟩
theorem ON (x y:Fl) (hx:aL x=true) (hy:aL y=true):bA x y=bA y x:=by obtain⟨b,s,m,i,rfl,hb⟩:=cI hx;obtain⟨c,t,n,j,rfl,hc⟩:=cI hy;show((Ieee.double.read b).product (Ieee.double.read c)).map _=((Ieee.double.read c).product (Ieee.double.read b)).map _;rw[hb,hc];simp only[Datum.product];rw[Nat.mul_comm m n,Int.add_comm i j,Bool.xor_comm s t]
theorem Ni:aL (some 4607182418800017408)=true:=yi JX
theorem Sj {x:Fl} (hw:FW x) (h:aL x=true):bA x (some 4607182418800017408)=x:=by rw[ON _ _ h Ni]; exact JP hw h
def nz (x:Fl):Fl:=cD (some 0) x
theorem xl {x:Fl} (hw:FW x) (h:aL x=true):(∃ b s m i,x=some b/\W64 b/\Ieee.double.read b=.number s m i/\m ≠ 0/\nz x=x)\/(isZ x/\nz x=some 0):=by
 obtain⟨b,s,m,i,rfl,hb⟩:=cI h;by_cases hm:m=0
 ·subst hm;have e:=yy (hw b rfl) hb;right;rw[e];exact⟨⟨s,rfl⟩,yI ⟨s,rfl⟩⟩
 ·left;refine⟨b,s,m,i,rfl,hw b rfl,hb,hm,?_⟩;unfold nz;rw[BE];have:=q9 (t:=false) (hw b rfl) hb hm
  rwa [GR]at this
theorem Mi {x z:Fl} (hw:FW x) (h:aL x=true) (hz:isZ z):cD (nz x) z=nz x:=by
 rcases xl hw h with⟨b,s,m,i,rfl,hb,hr,hm,e⟩ | ⟨h1,e⟩
 ·rw[e];obtain⟨t,rfl⟩:=hz;exact q9 hb hr hm
 ·rw[e,yI hz]
theorem EL {x:Fl} (hw:FW x) (h:aL x=true):aL (nz x)=true:=by
 rcases xl hw h with⟨b,s,m,i,rfl,hb,hr,hm,e⟩ | ⟨h1,e⟩
 ·rw[e]; exact yi hr
 ·rw[e]; exact oe rA
theorem aaZ (x:Fl):FW (nz x):=l6 _ _
theorem aao {x:Fl} (hw:FW x) (h:aL x=true):nz (nz x)=nz x:=by
 rcases xl hw h with⟨b,s,m,i,rfl,hb,hr,hm,e⟩ | ⟨h1,e⟩
 ·rw[e,e]
 ·rw[e]; exact yI rA
theorem S9 {x:Fl} (hw:FW x) (h:aL x=true):feq (nz x) x=true:=by unfold nz; rw[BE]; exact AC hw h rA
theorem JL {x:Fl} (hw:FW x) (h:aL x=true) (q:feq (nz x) (some 0)=true):nz x=some 0:=by
 rcases xl hw h with⟨b,s,m,i,rfl,hb,hr,hm,e⟩ | ⟨h1,e⟩
 ·exfalso;rw[e,Sf,hr,qW]at q;have hp:=xp hr;simp only[Datum.order]at q;revert q;simp only[sW];have hne:signed s m (i - min i (-1074)).toNat ≠ 0:=by have h1:=MH s m (i - min i (-1074)).toNat;intro h0;rw[h0]at h1;have:0<m*2 ^ (i - min i (-1074)).toNat:=Nat.mul_pos (by omega) (Nat.two_pow_pos _);simp at h1;omega
  generalize signed s m (i - min i (-1074)).toNat=u at hne;simp only[compare,compareOfLessAndEq,beq_iff_eq,Option.some.injEq];rcases Int.lt_trichotomy u 0 with h | h | h
  ·rw[if_pos h]; simp
  ·exact absurd h hne
  ·rw[if_neg (by omega),if_neg (by omega)]; simp
 ·exact e
theorem Ta {x:Fl} (hw:FW x) (h:aL x=true):rJ (ofE (nz x))=rJ (ofE x):=by
 rcases xl hw h with⟨b,s,m,i,rfl,hb,hr,hm,e⟩ | ⟨⟨t,rfl⟩,e⟩
 ·rw[e]
 ·rw[e];cases t <;> rw[A2 (lB _),A2 qW] <;> rfl
theorem T2 {f g:Nat->Fl}:∀{n:Nat},(∀ t,t<n->isZ (bA (f t) (g t)))->dV f g n=some 0/\dO f g n=false
 | 0,_=>⟨rfl,rfl⟩
 | n+1,h=>by
  obtain⟨h1,h2⟩:=T2 (n:=n) λt ht=>h t (by omega)
  have hz:=h n (by omega);have e:dV f g (n+1)=some 0:=by show cD (dV f g n) (bA (f n) (g n))=some 0;rw[h1,yI hz]
  refine⟨e,?_⟩;show((dO f g n || !aL (bA (f n) (g n))) || !aL (dV f g (n+1)))=false;rw[h2,e,oe hz,oe rA]; rfl
theorem Y7 {f g:Nat->Fl} {i:Nat} (hf:aL (bA (f i) (g i))=true):∀{n:Nat},i<n->(∀ t,t<n->t ≠ i->isZ (bA (f t) (g t)))->dV f g n=nz (bA (f i) (g i))/\dO f g n=false
 | 0,h,_=>by omega
 | n+1,hi,h=>by
  have hw:FW (bA (f i) (g i)):=Di _ _;by_cases e:i=n
  ·subst e;obtain⟨h1,h2⟩:=T2 (n:=i) λt ht=>h t (by omega) (by omega)
   have e:dV f g (i+1)=nz (bA (f i) (g i)):=by show cD (dV f g i) (bA (f i) (g i))=_;rw[h1]; rfl
   refine⟨e,?_⟩;show((dO f g i || !aL (bA (f i) (g i))) || !aL (dV f g (i+1)))=false;rw[h2,e,hf,EL hw hf]; rfl
  ·obtain⟨h1,h2⟩:=Y7 hf (n:=n) (by omega) λt ht=>h t (by omega)
   have hz:=h n (by omega) (λq=>e q.symm);have e:dV f g (n+1)=nz (bA (f i) (g i)):=by show cD (dV f g n) (bA (f n) (g n))=_;rw[h1,Mi hw hf hz]
   refine⟨e,?_⟩;show((dO f g n || !aL (bA (f n) (g n))) || !aL (dV f g (n+1)))=false;rw[h2,e,oe hz,EL hw hf]; rfl
theorem oz:aL (some 0)=true:=oe rA
theorem W3:FW (some 4607182418800017408):=by intro b h; cases h; decide
theorem EO (i j:Nat):aL (fk i j)=true:=by unfold fk; split; exact Ni; exact oz
theorem YQ (i j:Nat):FW (fk i j):=by unfold fk; split; exact W3; exact Ue
theorem Gx (i:Nat):fk i i=some 4607182418800017408:=if_pos rfl
theorem NR {i j:Nat} (h:i ≠ j):fk i j=some 0:=if_neg h
theorem Kw {f:Nat->Fl} {n i:Nat} (hi:i<n) (hw:∀ t,t<n->FW (f t)) (hf:∀ t,t<n->aL (f t)=true):dV (fk i) f n=nz (f i)/\dO (fk i) f n=false:=by
 have e:bA (fk i i) (f i)=f i:=by rw[Gx]; exact JP (hw i hi) (hf i hi)
 have:=Y7 (f:=fk i) (g:=f) (i:=i) (by rw[e]; exact hf i hi) hi λt ht hne=>by rw[NR (λq=>hne q.symm)]; exact um (hf t ht)
 rwa [e]at this
theorem PW {f:Nat->Fl} {n j:Nat} (hj:j<n) (hw:∀ t,t<n->FW (f t)) (hf:∀ t,t<n->aL (f t)=true):dV f (fk j) n=nz (f j)/\dO f (fk j) n=false:=by
 have e:bA (f j) (fk j j)=f j:=by rw[Gx]; exact Sj (hw j hj) (hf j hj)
 have:=Y7 (f:=f) (g:=fk j) (i:=j) (by rw[e]; exact hf j hj) hj λt ht hne=>by rw[NR (λq=>hne q.symm)]; exact yj (hf t ht)
 rwa [e]at this
theorem Az {f f' g g':Nat->Fl}:∀{n:Nat},(∀ t,t<n->f t=f' t/\g t=g' t)->dV f g n=dV f' g' n/\dO f g n=dO f' g' n
 | 0,_=>⟨rfl,rfl⟩
 | n+1,h=>by
  obtain⟨h1,h2⟩:=Az (n:=n) λt ht=>h t (by omega)
  obtain⟨h3,h4⟩:=h n (by omega);have e:dV f g (n+1)=dV f' g' (n+1):=by show cD (dV f g n) (bA (f n) (g n))=cD (dV f' g' n) (bA (f' n) (g' n));rw[h1,h3,h4]
  refine⟨e,?_⟩;show((dO f g n || !aL (bA (f n) (g n))) || !aL (dV f g (n+1)))=((dO f' g' n || !aL (bA (f' n) (g' n))) || !aL (dV f' g' (n+1)));rw[h2,e,h3,h4]
theorem oV {p:Nat->Bool}:∀{n:Nat},(∀ t,t<n->p t=false)->orB p n=false
 | 0,_=>rfl
 | n+1,h=>by show(orB p n||p n)=false;rw[oV λt ht=>h t (by omega),h n (by omega)]; rfl
theorem EP {n:Nat} {p:Nat->Nat->Bool} (h:∀ i j,i<n->j<n->p i j=false):orM n p=false:=oV λi hi=>oV λj hj=>h i j hi hj
theorem JT {n:Nat} {p:Nat->Nat->Bool} (h:∀ i j,i<n->j<n->p i j=false):orL n p=false:=oV λi hi=>oV λj hj=>h i j hi (by omega)
theorem xF {n:Nat}:∀{d c:Nat} {s:Int} {f g:Nat->Nat->Rat},c+d=n->(∀ a b,a<n->b<n->f a b=g a b)->vT n d c s f=vT n d c s g
 | 0,c,s,f,g,_,_=>rfl
 | d+1,c,s,f,g,hd,h=>by
  unfold vT;have e:∀ a b,a<n->b<n->e9 f c n a b=e9 g c n a b:=by intro a b ha hb;unfold e9;rw[h a b ha hb,h a c ha (by omega),h c c (by omega) (by omega),h c b (by omega) hb]
  rw[h c c (by omega) (by omega),zD (g:=λi=>f i c) (h:=λi=>g i c) d (c+1) (λj h1 h2=>h j c (by omega) (by omega)),xF (d:=d) (c:=c+1) (s:=2) (by omega) h,xF (d:=d) (c:=c+1) (s:=s) (by omega) e]
theorem Mq {n:Nat} {l l':List Fl} (h:∀ a b,a<n->b<n->rJ (ofE (elt l n a b))=rJ (ofE (elt l' n a b))):yS n l=yS n l':=by unfold yS;rw[xF (f:=fm n l) (g:=fm n l') (Nat.zero_add n) h]
theorem Lj {x y:Fl} (hx:aL x=false):aL (fdiv x y)=false:=by
 cases x with
 | none=>cases y <;> rfl
 | some b=>
  cases y with
  | none=>rfl
  | some c=>
   cases hr:Ieee.double.read b with
   | number s m i=>rw[yi hr]at hx; cases hx
   | nan s f=>
    have:fdiv (some b) (some c)=none:=by show(Datum.quotient _ (Ieee.double.read b) (Ieee.double.read c)).map Ieee.double.write=none;rw[hr]; cases Ieee.double.read c <;> rfl
    rw[this]; rfl
   | infinity s=>
    have h:fdiv (some b) (some c)=none \/ ∃ t,fdiv (some b) (some c)=some (Ieee.double.write (.infinity t)):=by
     show(Datum.quotient _ (Ieee.double.read b) (Ieee.double.read c)).map Ieee.double.write=none \/ ∃ t,(Datum.quotient _ (Ieee.double.read b) (Ieee.double.read c)).map Ieee.double.write=_;rw[hr];cases Ieee.double.read c with
     | nan _ _=>exact .inl rfl
     | infinity t=>exact .inl rfl
     | number t m i=>exact .inr ⟨s ^^ t,rfl⟩
    rcases h with h | ⟨t,h⟩
    ·rw[h]; rfl
    ·rw[h]; cases t <;> decide
def nzM (n:Nat) (p:List Fl):List Fl:=mf n (mir λa b=>nz (elt p n a b))
section
variable {n:Nat} {x p:List Fl} (hx:x.length=n) (hp:p.length=n*n) (fx:aX x=true) (fp:aX p=true) (wx:AllW x) (wp:AllW p)
include hp fp in
theorem nE {a b:Nat} (ha:a<n) (hb:b<n):aL (elt p n a b)=true:=dY fp (by have:=lz ha hb; omega)
include hp wp in
theorem Fu {a b:Nat} (ha:a<n) (hb:b<n):FW (elt p n a b):=wp.get (by have:=lz ha hb; omega)
include hp fp in
theorem T5 (hs:sv n p=true) {a b:Nat} (ha:a<n) (hb:b<n):elt p n a b=elt p n b a:=by
 have key:∀ i j,j<i->i<n->elt p n i j=elt p n j i:=by intro i j hj hi;have h2:=of_decide_eq_true (eX.1 (eX.1 hs i hi) j hj);rw[G9 (nE hp fp hi (by omega)),G9 (nE hp fp (by omega) hi)]at h2;exact h2
 rcases Nat.lt_trichotomy a b with h1 | h1 | h1
 ·exact(key b a h1 hb).symm
 ·rw[h1]
 ·exact key a b h1 ha
include hp fp wp in
theorem JK (hs:sv n p=true):yS n (nzM n p)=yS n p:=by
 refine Mq λa b ha hb=>?_
 unfold nzM;rw[vk n _ ha hb];unfold mir;split
 ·exact Ta (Fu hp wp ha hb) (nE hp fp ha hb)
 ·rw[Ta (Fu hp wp hb ha) (nE hp fp hb ha),T5 hp fp hs ha hb]
include hp fp wp in
theorem A5 {f:List Fl} (hf:∀ a b,a<n->b<n->elt f n a b=fk a b) {i j:Nat} (hi:i<n) (hj:j<n):prV n f p i j=nz (elt p n i j)/\prO n f p i j=false:=by
 have h1:=Az (f:=λt=>elt f n i t) (f':=fk i) (g:=λt=>elt p n t j) (g':=λt=>elt p n t j) (n:=n) λt ht=>⟨hf i t hi ht,rfl⟩
 have h2:=Kw (f:=λt=>elt p n t j) hi (λt ht=>Fu hp wp ht hj) λt ht=>nE hp fp ht hj
 exact⟨h1.1.trans h2.1,h1.2.trans h2.2⟩
include hp fp wp in
theorem NP {i j:Nat} {g:Nat->Fl} (hg:∀ t,t<n->g t=nz (elt p n i t)) {f:Nat->Fl} (hf:∀ t,t<n->f t=fk j t) (hi:i<n) (hj:j<n):dV g f n=nz (elt p n i j)/\dO g f n=false:=by
 have h1:=Az (f:=g) (f':=λt=>nz (elt p n i t)) (g:=f) (g':=fk j) (n:=n) λt ht=>⟨hg t ht,hf t ht⟩
 have h2:=PW (f:=λt=>nz (elt p n i t)) hj (λt ht=>aaZ _) λt ht=>EL (Fu hp wp hi ht) (nE hp fp hi ht)
 rw[aao (Fu hp wp hi hj) (nE hp fp hi hj)]at h2;exact⟨h1.1.trans h2.1,h1.2.trans h2.2⟩
include hx fx wx in
theorem WW {f:List Fl} (hf:∀ a b,a<n->b<n->elt f n a b=fk a b) {i:Nat} (hi:i<n):prX n f x i=nz (x.getD i none)/\PF n f x i=false:=by
 have h1:=Az (f:=λt=>elt f n i t) (f':=fk i) (g:=λt=>x.getD t none) (g':=λt=>x.getD t none) (n:=n) λt ht=>⟨hf i t hi ht,rfl⟩
 have h2:=Kw (f:=λt=>x.getD t none) hi (λt ht=>wx.get (by omega)) λt ht=>dY fx (by omega)
 exact⟨h1.1.trans h2.1,h1.2.trans h2.2⟩
theorem Gs {n:Nat} {v w:Nat->Nat->Fl} (h:∀ a b,a<n->b<n->v a b=w a b):mf n (mir v)=mf n (mir w):=oS n λa b ha hb=>by
 unfold mir; split
 ·exact h a b ha hb
 ·exact h b a hb ha
theorem Uc {n:Nat} {g g':Nat->Fl} (h:∀ i,i<n->g i=g' i):vf n g=vf n g':=by unfold vf;exact List.map_congr_left λi hi=>h i (List.mem_range.1 hi)
include hx hp fx fp wx wp in
theorem Tf (hn:n<=12) (hs:sv n p=true) (hd:yS n p=true) (h0:uR x n n p=0) (k0:Int->Int->Int->Bool) (k1:Int->Int->Int->List Fl->List Fl->Bool) :
  prK x n n p n n (mf n fk) n n (mf n λ_ _=>some 0) k0 k1=k1 n n 0 (vf n λi=>nz (x.getD i none)) (nzM n p):=by
 have hu:∀ a b,a<n->b<n->elt (mf n fk) n a b=fk a b:=λa b ha hb=>vk n _ ha hb
 have fu:aX (mf n fk)=true:=Hy λa b _ _=>EO a b
 have fz:aX (mf n λ_ _=>some 0)=true:=Hy λa b _ _=>oz
 have sz:∀{l:List Fl},l.length=n*n->aX l=true->sqc n n l n=0:=λh1 h2=>by unfold sqc;rw[G7 hn h1 h2,if_neg (λh=>h rfl),if_neg (λh=>h rfl),if_neg (λh=>h rfl)]
 have hz:sv n (mf n λ_ _=>some 0)=true:=by
  unfold sv;refine eX.2 λi hi=>eX.2 λj hj=>decide_eq_true ?_
  rw[vk n _ hi (by omega),vk n _ (by omega) hi]
 have hM:∀ i j,i<n->j<n->nwV n (prV n (mf n fk) p) (mf n fk) (mf n λ_ _=>some 0) i j=nz (elt p n i j)/\nwO n (prV n (mf n fk) p) (mf n fk) (mf n λ_ _=>some 0) i j=false:=by
  intro i j hi hj;have h1:=NP hp fp wp (g:=λt=>prV n (mf n fk) p i t) (λt ht=>(A5 hp fp wp hu hi ht).1) (f:=λt=>elt (mf n fk) n j t) (λt ht=>hu j t hj ht) hi hj;have e:nwV n (prV n (mf n fk) p) (mf n fk) (mf n λ_ _=>some 0) i j=nz (elt p n i j):=by unfold nwV;rw[h1.1,vk n _ hi hj,Mi (Fu hp wp hi hj) (nE hp fp hi hj) rA]
  refine⟨e,?_⟩;unfold nwO;rw[h1.2,e,EL (Fu hp wp hi hj) (nE hp fp hi hj)]; rfl
 have e1:prF n x p (mf n fk) (mf n λ_ _=>some 0)=false:=by unfold prF;rw[oV λi hi=>(WW hx fx wx hu hi).2,EP λi j hi hj=>(A5 hp fp wp hu hi hj).2,JT λi j hi hj=>(hM i j hi hj).2]; rfl
 have e2:prM n p (mf n fk) (mf n λ_ _=>some 0)=nzM n p:=by unfold prM nzM;exact Gs λa b ha hb=>(hM a b ha hb).1
 have e3:vf n (prX n (mf n fk) x)=vf n λi=>nz (x.getD i none):=Uc λi hi=>(WW hx fx wx hu hi).1
 unfold prK;rw[ifz h0,hx,ifz (sz (eB n _) fu),ifz (sz (eB n _) fz),if_neg (by rw[hz]; decide),e1,cond_false,e2,JK hp fp wp hs,hd,e3];rfl
end
section
variable {n:Nat} {x p:List Fl} {r z:Fl} (hx:x.length=n) (hp:p.length=n*n) (fx:aX x=true) (fp:aX p=true) (wx:AllW x) (wp:AllW p)
 (fr:aL r=true) (wr:FW r) (pr:fgt r (some 0)=true) (fz:aL z=true) (wz:FW z)
theorem CF {n t:Nat} (ht:t<n):lst (List.replicate n (some 0)) t=some 0:=by unfold lst;rw[List.getD_eq_getElem?_getD,List.getElem?_replicate,if_pos ht]; rfl
include hp fp in
theorem Za {i:Nat} (hi:i<n):uV n p (List.replicate n (some 0)) i=some 0/\uVo n p (List.replicate n (some 0)) i=false:=
 T2 λt ht=>by rw[CF ht]; exact yj (nE hp fp hi ht)
include hx fx in
theorem aaM:uW n x (List.replicate n (some 0))=some 0/\dO (lst (List.replicate n (some 0))) (lst x) n=false:=
 T2 λt ht=>by rw[CF ht]; exact um (dY fx (by omega))
include hp fp fr wr pr in
theorem P3:uS n p (List.replicate n (some 0)) r=r/\dO (lst (List.replicate n (some 0))) (uV n p (List.replicate n (some 0))) n=false:=by
 have:=T2 (f:=lst (List.replicate n (some 0))) (g:=uV n p (List.replicate n (some 0))) (n:=n) λt ht=>by rw[CF ht,(Za hp fp ht).1]; exact yj oz
 refine⟨?_,this.2⟩;unfold uS;rw[this.1,BE,Fv wr fr pr rA]
include hx hp fx fp fr wr pr in
theorem acd:uF n x p (List.replicate n (some 0)) r=false/\uE n x p (List.replicate n (some 0)) r=0:=by
 have e:uF n x p (List.replicate n (some 0)) r=false:=by unfold uF;rw[oV λi hi=>(Za hp fp hi).2,(aaM hx fx).2,(P3 hp fp fr wr pr).2,(P3 hp fp fr wr pr).1,fr]; rfl
 refine⟨e,?_⟩;unfold uE;rw[e,(P3 hp fp fr wr pr).1,pr]; rfl
include hx fx fz wz in
theorem Om:upY n x (List.replicate n (some 0)) z=z:=by unfold upY; rw[(aaM hx fx).1]; exact F8 wz fz
include hp fp fr wr pr in
theorem aaK {i:Nat} (hi:i<n):gK (uV n p (List.replicate n (some 0))) (uS n p (List.replicate n (some 0)) r) i=some 0:=by unfold gK; rw[(Za hp fp hi).1,(P3 hp fp fr wr pr).1]; exact FO fr pr
include hx hp fx fp wx fr wr pr fz wz in
theorem aaL {i:Nat} (hi:i<n):feq (gX (uV n p (List.replicate n (some 0))) (uS n p (List.replicate n (some 0)) r) (upY n x (List.replicate n (some 0)) z) x i) (x.getD i none)=true /\
  gO (uV n p (List.replicate n (some 0))) (uS n p (List.replicate n (some 0)) r) (upY n x (List.replicate n (some 0)) z) x i=false:=by
 have h1:isZ (bA (some 0) z):=um fz;have h2:aL (x.getD i none)=true:=dY fx (by omega);have h3:FW (x.getD i none):=wx.get (by omega);unfold gO gX;rw[aaK hp fp fr wr pr hi,Om hx fx fz wz,oe h1,Hc h3 h2 h1];exact⟨AC h3 h2 h1,rfl⟩
include hp fp wp fr wr pr in
theorem WX:FB n p (upG n p (List.replicate n (some 0)) r) (List.replicate n (some 0)) r=nzM n p/\Jd n p (upG n p (List.replicate n (some 0)) r) (List.replicate n (some 0)) r=false:=by
 have hk:∀ i,i<n->(upG n p (List.replicate n (some 0)) r).getD i none=some 0:=λi hi=>by unfold upG; rw[na n _ hi]; exact aaK hp fp fr wr pr hi
 have hh:∀ i,i<n->(List.replicate n (some 0):List Fl).getD i none=some 0:=λi hi=>CF hi
 generalize upG n p (List.replicate n (some 0)) r=kk at hk ⊢;generalize List.replicate n (some 0)=h at hh ⊢;have m0:bA (some 0) (some 0)=some 0:=by decide
 have ha:∀ a b,a<n->b<n->elt (mf n (asV kk h)) n a b=fk a b/\asO kk h a b=false:=by
  intro a b ha hb;have e:asV kk h a b=fk a b:=by unfold asV; rw[hk a ha,hh b hb,m0]; exact F8 (YQ a b) (EO a b)
  refine⟨by rw[vk n _ ha hb,e],?_⟩;unfold asO;rw[e,hk a ha,hh b hb,m0,EO,oz]; rfl
 have hu:=λa b q1 q2=>(ha a b q1 q2).1
 have hB:∀ i j,i<n->j<n->elt (mf n (prV n (mf n (asV kk h)) p)) n i j=nz (elt p n i j):=λi j hi hj=>by rw[vk n _ hi hj]; exact(A5 hp fp wp hu hi hj).1
 have hz:isZ (bA (bA (some 0) r) (some 0)):=yj (oe (um fr));have hj:∀ i j,i<n->j<n->jV n (mf n (prV n (mf n (asV kk h)) p)) (mf n (asV kk h)) kk r i j=nz (elt p n i j)/\jO n (mf n (prV n (mf n (asV kk h)) p)) (mf n (asV kk h)) kk r i j=false:=by
  intro i j hi hj;have h1:=NP hp fp wp (g:=λt=>elt (mf n (prV n (mf n (asV kk h)) p)) n i t) (λt ht=>hB i t hi ht) (f:=λt=>elt (mf n (asV kk h)) n j t) (λt ht=>hu j t hj ht) hi hj;have e:jV n (mf n (prV n (mf n (asV kk h)) p)) (mf n (asV kk h)) kk r i j=nz (elt p n i j):=by unfold jV;rw[h1.1,hk i hi,hk j hj,Mi (Fu hp wp hi hj) (nE hp fp hi hj) hz]
  refine⟨e,?_⟩;unfold jO;rw[h1.2,e,hk i hi,hk j hj,oe hz,oe (um fr),EL (Fu hp wp hi hj) (nE hp fp hi hj)]; rfl
 refine⟨?_,?_⟩
 ·unfold FB nzM;exact Gs λa b ha hb=>(hj a b ha hb).1
 ·unfold Jd;rw[EP λi j hi hj=>(ha i j hi hj).2,EP λi j hi hj=>(A5 hp fp wp hu hi hj).2,JT λi j h1 h2=>(hj i j h1 h2).2]; rfl
include hx hp fx fp wx wp fr wr pr fz wz in
theorem Ub (hs:sv n p=true) (hd:yS n p=true) (h0:uR x n n p=0) (hn:n<=12) (hr:fle r (some 0)=false) (k0:Int->Bool) (k2:Nat->Fl->Fl->Fl->List Fl->List Fl->List Fl->Bool) :
  Fe x n n p (List.replicate n (some 0)) r z k0 k2=cond (aL (fdiv (bA z z) r)) (k2 n z r (fdiv (bA z z) r) (upX n x p (List.replicate n (some 0)) r z) (nzM n p) (upG n p (List.replicate n (some 0)) r)) (k0 5):=by
 have hh:aX (List.replicate n (some 0))=true:=by
  unfold aX;refine eX.2 λi hi=>?_
  rw[List.length_replicate]at hi;have:=CF hi;unfold lst at this;rw[this]; exact oz
 have h1:mB x.length (List.replicate n (some 0)) r=0:=by unfold mB;rw[List.length_replicate,hx,hh,fr,hr,if_neg (λh=>h rfl),if_neg (by decide),if_neg (by decide),if_neg (by decide)]
 have c1:upC n x p (List.replicate n (some 0)) r z=fdiv (bA z z) r:=by unfold upC; rw[Om hx fx fz wz,(P3 hp fp fr wr pr).1]
 have c2:upO n x p (List.replicate n (some 0)) r z = !aL (fdiv (bA z z) r):=by
  unfold upO;rw[oV λi hi=>(aaL hx hp fx fp wx fr wr pr fz wz hi).2,c1,Om hx fx fz wz,(WX hp fp wp fr wr pr).2,fz];cases hm:aL (bA z z)
  ·rw[Lj hm]; rfl
  ·cases aL (fdiv (bA z z) r) <;> rfl
 unfold Fe;rw[ifz h0,ifz h1,fz,if_neg (by decide),hx,(acd hx hp fx fp fr wr pr).2,ifz rfl,c2,(WX hp fp wp fr wr pr).1,JK hp fp wp hs,hd,c1,Om hx fx fz wz,(P3 hp fp fr wr pr).1];cases aL (fdiv (bA z z) r) <;> rfl
end
theorem va {N:Nat} {a b:List Fl} (hN:a.length<N) (ha:a.length<=1000) (hl:a.length=b.length) (h:∀ i,i<a.length->feq (a.getD i none) (b.getD i none)=true) (k:Bool->Bool):sQ2 N a b k=k true:=by
 (unfold sQ2; rw[af]; unfold GQ2)
 have e:(((a.length:Nat):Int) != ((b.length:Nat):Int))=false:=by simp[hl]
 rw[e,cond_false];refine aV (λt:Nat=>(t:Int)) a.length hN ?_ ?_
 ·intro i hi K;unfold HV;dsimp only;rw[decide_eq_true (by omega:(i:Int)<(a.length:Int)),cond_true,aa (ai (by omega) (by omega)),aa (ai (by omega) (by omega)),Int.toNat_natCast,h i hi,show(!true)=false from rfl,cond_false,aa (ac (by omega) (by omega))];rfl
 ·intro K;unfold HV;dsimp only;rw[decide_eq_false (by omega:¬(a.length:Int)<(a.length:Int)),cond_false]
theorem Gk {N:Nat} {a:List Fl} (hN:a.length<N) (ha:a.length<=1000) (h:∀ i,i<a.length->feq (a.getD i none) (some 0)=true->a.getD i none=some 0) (k:Bool->Bool):sQ8 N a k=k true:=by
 (unfold sQ8; rw[af]; unfold GQ8)
 refine aV (λt:Nat=>(t:Int)) a.length hN ?_ ?_
 ·intro i hi K;unfold HZ;dsimp only;rw[decide_eq_true (by omega:(i:Int)<(a.length:Int)),cond_true,aa (ai (by omega) (by omega)),Int.toNat_natCast];cases hq:feq (a.getD i none) (some 0)
  ·rw[show(false==true)=false from rfl,cond_false,aa (ac (by omega) (by omega))];rfl
  ·rw[show(true==true)=true from rfl,cond_true,h i hi hq];show(ah .i64 ((i:Int)+1)&&K ((i:Int)+1))=_;rw[aa (ac (by omega) (by omega))];rfl
 ·intro K;unfold HZ;dsimp only;rw[decide_eq_false (by omega:¬(a.length:Int)<(a.length:Int)),cond_false]
theorem Pn {N n:Nat} (hN:1000<=N) (hn:n<=12) (k:List Fl->Bool):vv N n k=k (mf n fk):=by
 (unfold vv; rw[af]; unfold zy)
 rw[Gl hn];have h0:((0,mf n λ_ _=>some 0):Int × List Fl)=(λt:Nat=>((t:Int),mf n λa b=>if a=b/\a<t then some 4607182418800017408 else some 0)) 0:=by show _=(((0:Nat):Int),_);rw[oS n (f':=λa b=>if a=b/\a<0 then some 4607182418800017408 else some 0) λa b _ _=>by rw[if_neg (by omega)]];rfl
 rw[h0];refine aV (λt:Nat=>((t:Int),mf n λa b=>if a=b/\a<t then some 4607182418800017408 else some 0)) n (by omega) ?_ ?_
 ·intro t ht K;unfold ot;dsimp only;rw[decide_eq_true (by omega:(t:Int)<(n:Int)),cond_true,U8 hn ht ht,aa (ac (by omega) (by omega))];rw[oS n (f':=λa b=>if a=b/\a<t+1 then some 4607182418800017408 else some 0) λa b _ _=>by
   by_cases h:a=t/\b=t
   ·rw[if_pos h,if_pos (by omega)]
   ·rw[if_neg h];by_cases h2:a=b/\a<t
    ·rw[if_pos h2,if_pos (by omega)]
    ·rw[if_neg h2,if_neg (by omega)]]
  rfl
 ·intro K;unfold ot;dsimp only;rw[decide_eq_false (by omega:¬(n:Int)<(n:Int)),cond_false,oS n (f':=fk) λa b ha _=>by
   unfold fk;by_cases h:a=b
   ·rw[if_pos h,if_pos ⟨h,ha⟩]
   ·rw[if_neg h,if_neg λq=>h q.1]]
theorem Nj {r:Fl} (h:aL r=true):fgt r (some 0) = !fle r (some 0):=by
 obtain⟨b,s,m,i,rfl,hb⟩:=cI h;rw[Ws];show _ = !((Ieee.double.read b).order (Ieee.double.read 0)==some .lt||(Ieee.double.read b).order (Ieee.double.read 0)==some .eq);rw[hb,qW];obtain⟨o,ho⟩:∃ o,(Datum.number s m i).order (.number false 0 (-1074))=some o:=⟨_,rfl⟩
 rw[ho];cases o <;> rfl
theorem Js (N:Nat) (r:Int) (k:Fl->Bool):sQ1 N r k=k (ik r.toNat):=rfl
section
variable {n:Nat} {p:List Fl} (hp:p.length=n*n) (fp:aX p=true) (wp:AllW p) (hs:sv n p=true)
include hp fp wp hs in
theorem HE {t:Nat} (ht:t<n*n):feq ((nzM n p).getD t none) (p.getD t none)=true/\(feq ((nzM n p).getD t none) (some 0)=true->(nzM n p).getD t none=some 0):=by
 have hn:0<n:=by
  rcases Nat.eq_zero_or_pos n with h0 | h0
  ·rw[h0]at ht; omega
  ·exact h0
 have ha:t / n<n:=Nat.div_lt_of_lt_mul ht;have hb:t%n<n:=Nat.mod_lt t hn;have e:(nzM n p).getD t none=nz (elt p n (t / n) (t%n)):=by
  have:=AY n (mir λa b=>nz (elt p n a b)) ha hb none;rw[show t / n*n+t%n=t from by rw[Nat.mul_comm]; exact Nat.div_add_mod t n]at this;unfold nzM;rw[this];unfold mir;split
  ·rfl
  ·show nz (elt p n (t%n) (t / n))=_;rw[T5 hp fp hs hb ha]
 have e2:p.getD t none=elt p n (t / n) (t%n):=by show _=p.getD (t / n*n+t%n) none;rw[show t / n*n+t%n=t from by rw[Nat.mul_comm]; exact Nat.div_add_mod t n]
 have h1:=nE hp fp ha hb;have h2:=Fu hp wp ha hb;rw[e,e2];exact⟨S9 h2 h1,JL h2 h1⟩
end
theorem LG {N:Nat} (hF:Fuel N) (x:List Fl) (rr cc:Int) (p h:List Fl) (r z:Fl) (hwp:AllW p) (k0:Int->Int->Fl->Fl->Fl->Int->Bool) (k1:Int->Int->Fl->Fl->Fl->Int->List Fl->Bool) (k2:Int->Int->Fl->Fl->Fl->Int->List Fl->List Fl->List Fl->Bool) :
  dz N x rr cc p h r z k0 k1 k2=Fe x rr cc p h r z (λe=>k0 0 0 (some 0) (some 0) (some 0) e) (λn y s c x' p' g=>k2 n n y s c 0 x' p' g):=by
 (unfold dz; rw[af]; unfold pj)
 rw[LW hF _ _ _ _ _ _ _ hwp]
theorem C4 {N:Nat} (hF:Fuel N) (x:List Int) (n0:Int) (p:List Int) (r z:Int) (hx:vH N x.length) (hp:vH N p.length) (hwx:∀ z,z ∈ x->z.toNat<18446744073709551616) (hw:∀ z,z ∈ p->z.toNat<18446744073709551616) (hr:r.toNat<18446744073709551616) (hz:z.toNat<18446744073709551616) :
  sQ4 N x n0 p r z (λb=>b)=true:=by
 have hN:=hF.lt;have hW:=Tb hw;have hWx:=Tb hwx;unfold sQ4 GQ4;rw[O9 hx hp,Ji hF _ _ _ _ hW];by_cases h0:uR (nM x) n0 n0 (nM p)=0
 ·obtain⟨n,hn,rfl,-,lx,lp,fx,fp,hs,hd⟩:=yn h0;have n2:n*n<=144:=EK hn;have S3:(nzM n (nM p)).length=n*n:=eB n _;rw[h0,show((0:Int) != 0)=false from rfl,cond_false,Pn (by omega) hn,Gl hn,Jl hF _ _ _ _ _ _ _ _ _ _ hW,Tf lx lp fx fp hWx hW hn hs hd h0];dsimp only;rw[show((0:Int) != 0)=false from rfl,show(false==false)=true from rfl,cond_true,
   va (by rw[ce]; omega) (by rw[ce]; omega) (by rw[ce,lx]) (λi hi=>by rw[ce]at hi;rw[na n _ hi];exact S9 (hWx.get (by omega)) (dY fx (by omega))),
   show(!true)=false from rfl,show(false==false)=true from rfl,cond_true,
   va (by rw[S3]; omega) (by rw[S3]; omega) (by rw[S3,lp]) (λi hi=>by rw[S3]at hi; exact(HE lp fp hW hs hi).1),
   show(!true)=false from rfl,show(false==false)=true from rfl,cond_true,
   Gk (by rw[ce]; omega) (by rw[ce]; omega) (λi hi=>by rw[ce]at hi;rw[na n _ hi];exact JL (hWx.get (by omega)) (dY fx (by omega))),
   show(!true)=false from rfl,show(false==false)=true from rfl,cond_true,
   Gk (by rw[S3]; omega) (by rw[S3]; omega) (λi hi=>by rw[S3]at hi; exact(HE lp fp hW hs hi).2),
   show(!true)=false from rfl,cond_false]
  unfold JQ7;rw[Int.toNat_natCast,aa (bR (by omega) (by omega) (by omega) (by omega))];simp only[Js,LG hF _ _ _ _ _ _ _ hW,rD];have wr:FW (ik r.toNat):=DN hr;have wz:FW (ik z.toNat):=DN hz;generalize hRe:ik r.toNat=R at wr ⊢;generalize hZe:ik z.toNat=Z at wz ⊢;have aw:∀ e:Int,e ≠ 0->cond ((e != 0)==true) (sQ0 N λb=>b) false=true:=λe he=>by rw[jP _ _ he,show(true==true)=true from rfl,cond_true,yp (by omega)]
  cases fr:aL R
  ·have e:∀(k0:Int->Bool) k2,Fe (nM x) n n (nM p) (List.replicate n (some 0)) R Z k0 k2=k0 4:=by
    intro k0 k2;have hh:aX (List.replicate n (some 0))=true:=by
     unfold aX;refine eX.2 λi hi=>?_
     rw[List.length_replicate]at hi;have:=CF hi;unfold lst at this;rw[this]; exact oz
    have h1:mB (nM x).length (List.replicate n (some 0)) R=4:=by unfold mB;rw[List.length_replicate,lx,hh,fr,if_neg (λh=>h rfl),if_neg (by decide),if_pos rfl]
    unfold Fe;rw[ifz h0,Lz (by rw[h1]; decide),h1]
   rw[e]
   try dsimp only
   cases fgt R (some 0) <;> exact aw 4 (by decide)
  ·cases hle:fle R (some 0)
   ·have pr:fgt R (some 0)=true:=by rw[Nj fr,hle]; rfl
    cases fz:aL Z
    ·have e:∀(k0:Int->Bool) k2,Fe (nM x) n n (nM p) (List.replicate n (some 0)) R Z k0 k2=k0 4:=by
      intro k0 k2;unfold Fe;rw[ifz h0];by_cases h1:mB (nM x).length (List.replicate n (some 0)) R=0
      ·rw[ifz h1,fz,if_pos rfl]
      ·exfalso;apply h1;have hh:aX (List.replicate n (some 0))=true:=by
        unfold aX;refine eX.2 λi hi=>?_
        rw[List.length_replicate]at hi;have:=CF hi;unfold lst at this;rw[this]; exact oz
       unfold mB;rw[List.length_replicate,lx,hh,fr,hle,if_neg (λh=>h rfl),if_neg (by decide),if_neg (by decide),if_neg (by decide)]
     rw[e]
     try dsimp only
     rw[pr];exact aw 4 (by decide)
    ·rw[Ub lx lp fx fp hWx hW fr wr pr fz wz hs hd h0 hn hle]
     try dsimp only
     rw[pr];cases hq:aL (fdiv (bA Z Z) R)
     ·show Ul N x n p r z 5 (nM x) (nM p) 0 0 (some 0) (some 0) (some 0) (λb=>b)=true;unfold Ul;rw[Js,Js,Js,hRe,hZe,rD,hq,yp (by omega)];rfl
     ·show Um N x n p r z 0 (nM x) (nM p) (upX n (nM x) (nM p) (List.replicate n (some 0)) R Z) (nzM n (nM p)) (upG n (nM p) (List.replicate n (some 0)) R) n n Z R (fdiv (bA Z Z) R) (λb=>b)=true;unfold Um;rw[show((0:Int) != 0)=false from rfl,cond_false,
       va (by unfold upX; rw[ce]; omega) (by unfold upX; rw[ce]; omega) (by unfold upX; rw[ce,lx]) (λi hi=>by unfold upX at hi ⊢;rw[ce]at hi;rw[na n _ hi];exact(aaL lx lp fx fp hWx fr wr pr fz wz hi).1),
       show(true==true)=true from rfl,cond_true,
       va (by rw[S3]; omega) (by rw[S3]; omega) (by rw[S3,lp]) (λi hi=>by rw[S3]at hi; exact(HE lp fp hW hs hi).1),
       show(true==true)=true from rfl,cond_true,Js,hRe,Ph (Re fr),show(true==true)=true from rfl,cond_true,yp (by omega)]
   ·have e:∀(k0:Int->Bool) k2,Fe (nM x) n n (nM p) (List.replicate n (some 0)) R Z k0 k2=k0 152:=by
     intro k0 k2;have hh:aX (List.replicate n (some 0))=true:=by
      unfold aX;refine eX.2 λi hi=>?_
      rw[List.length_replicate]at hi;have:=CF hi;unfold lst at this;rw[this]; exact oz
     have h1:mB (nM x).length (List.replicate n (some 0)) R=152:=by unfold mB;rw[List.length_replicate,lx,hh,fr,hle,if_neg (λh=>h rfl),if_neg (by decide),if_neg (by decide),if_pos rfl]
     unfold Fe;rw[ifz h0,Lz (by rw[h1]; decide),h1]
    have pr:fgt R (some 0)=false:=by rw[Nj fr,hle]; rfl
    rw[e]
    try dsimp only
    rw[pr];exact aw 152 (by decide)
 ·rw[jP _ _ h0,cond_true,yp (by omega)]
end Go.Proofs.YteifemaagdeomaaGreatDoor
end
