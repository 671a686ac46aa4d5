/- Laws in plain Lean. Conditions: none. -/
import Derived.Test.YtdinakfmablagaaGreatDoorC8
set_option linter.unusedVariables false
namespace Go.Proofs.YtdinakfmablagaaGreatDoor
open Go Go.Mach Ieee
def fm (n:Nat) (l:List Fl):Nat->Nat->Rat:=λi j=>oV (ofE (l.getD (i*n+j) none))
theorem GQ {α:Type} (g:Rat->α) {n:Nat} {l:List Fl} (h:l.length=n*n):l.map (λx=>g (oV (ofE x)))=mat g n (fm n l):=by
 apply List.ext_getElem?;intro t;by_cases ht:t<n*n
 ·unfold mat;rw[List.getElem?_map,List.getElem?_map,List.getElem?_range ht,List.getElem?_eq_getElem (by omega)];simp only[abz];unfold fm;have:t / n*n+t%n=t:=by rw[aab]; exact aaY t n
  rw[this,List.getD_eq_getElem?_getD,List.getElem?_eq_getElem (by omega)];rfl
 ·rw[List.getElem?_eq_none (by rw[aca]; omega),List.getElem?_eq_none (by rw[oP]; omega)]
theorem du {l:List Fl} (h:aF l=true) {i:Nat} (hi:i<l.length):aG (l.getD i none)=true:=by unfold aF at h;exact cL.1 h i hi
def AllW (l:List Fl):Prop:=∀ x,x ∈ l->FW x
theorem AllW.get {l:List Fl} (h:AllW l) {i:Nat} (hi:i<l.length):FW (l.getD i none):=by rw[List.getD_eq_getElem?_getD,List.getElem?_eq_getElem hi];exact h _ (abi hi)
theorem Bm {n:Nat} {l:List Fl} (h:l.length=n*n) (hf:aF l=true):po 1200 n (fm n l):=by intro a b ha hb;have:=fG ha hb;exact NZ (du hf (by omega))
theorem Hh {N:Nat} (x:Int) (k:Kz0):AX N x k=k (decide (0<=x/\x<=12)):=by
 unfold AX JC;by_cases h:x>=0
 ·rw[Z7 h,show(true==true)=true from rfl,Z_];congr 1;by_cases h2:x<=12
  ·rw[Z7 h2,Z7 ⟨h,h2⟩]
  ·rw[Z8 h2,Z8 (by omega)]
 ·rw[Z8 h,show(false==true)=false from rfl,Z9,Z8 (by omega)]
theorem GV {a b:Int} (h1:0<=a/\a<=12) (h2:0<=b/\b<=12):0<=a*b/\a*b<=144:=by have h3:a*b<=12*b:=Int.mul_le_mul_of_nonneg_right h1.2 h2.1;have h4:0<=a*b:=Int.mul_nonneg h1.1 h2.1;omega
theorem tg {N:Nat} (hN:1000<=N) (a b:Int) (l:List Fl) (k:Kz1):D7 N a b l k=k (chk a b l):=by
 (unfold D7; rw[ac]; unfold MP chk)
 rw[Hh];by_cases h1:0<=a/\a<=12
 ·rw[Z7 h1,show((!true)==false)=true from rfl,Z_,Hh];by_cases h2:0<=b/\b<=12
  ·have h3:=GV h1 h2;rw[Z7 h2,if_pos ⟨h1,h2⟩,show(!true)=false from rfl,Z9,aa Z5];by_cases h4:(l.length:Int)=a*b
   ·have:(((l.length:Nat):Int) != a*b)=false:=by simp[h4]
    have h6:l.length<=144:=by rw[<- h4]at h3; omega
    rw[this,Z9,if_pos h4,jb l ⟨by omega,by omega⟩];cases h5:aF l
    ·rfl
    ·rfl
   ·have:(((l.length:Nat):Int) != a*b)=true:=by simp[h4]
    rw[this,Z_,if_neg h4]
  ·rw[Z8 h2,if_neg (λh=>h2 h.2),show(!false)=true from rfl,Z_]
 ·rw[Z8 h1,if_neg (λh=>h1 h.1)]; rfl
theorem Be {n:Nat} {l:List Fl} (hn:n<=12) (h:l.length=n*n) (hf:aF l=true):chk n n l=0:=
 kV.2 ⟨⟨by omega,by omega⟩,by rw[h,aat],hf⟩
theorem sv {α:Type} (g:Fl->α) {l:List Fl} {t:Nat} (ht:t<l.length):(l.take (t+1)).map g=(l.take t).map g++[g (l.getD t none)]:=by rw[abq ht,abU,List.getD_eq_getElem?_getD,List.getElem?_eq_getElem ht]; rfl
theorem Bz {N n:Nat} (hF:Fuel N) {l:List Fl} (hn:n<=12) (h:l.length=n*n) (hf:aF l=true) (hw:AllW l) (k:List RY1->Bool) :
  iF N n n l k=k (mat enc n (fm n l)):=by
 have hN:=hF.lt;have hl:=qV (n:=n) (by omega)
 (unfold iF; rw[ac]; unfold iB)
 rw[tg (by omega),Be hn h hf,oI,<- GQ enc h];refine bw (λt:Nat=>((t:Int),(l.take t).map (λx=>enc (oV (ofE x))))) l.length (by omega) ?_ ?_
 ·intro t ht K;unfold dk;dsimp only;rw[Z7 (by omega:(t:Int)<(l.length:Int)),Z_,aa Z6,aac,Dp hF (du hf ht) (hw.get ht)];unfold kq kr;dsimp only;rw[sv _ ht,aa (Z7 (by rw[abl,aca,aaO]; simp only[aaK,acj]; omega)),aa Z5];rfl
 ·intro K;unfold dk;dsimp only;rw[Z8 (by omega:¬(l.length:Int)<(l.length:Int)),Z9,aaR]
theorem Ib {N n:Nat} (hF:Fuel N) {l:List Fl} (hn:n<=12) (h:l.length=n*n) (hf:aF l=true) (hw:AllW l) (a b:Int) (k:List RY2->Bool) :
  qP N a b l k=k (mat dy n (fm n l)):=by
 have hN:=hF.lt;have hl:=qV (n:=n) (by omega)
 (unfold qP; rw[ac]; unfold pV)
 rw[<- GQ dy h];refine bw (λt:Nat=>((t:Int),(l.take t).map (λx=>dy (oV (ofE x))))) l.length (by omega) ?_ ?_
 ·intro t ht K;unfold kc;dsimp only;rw[Z7 (by omega:(t:Int)<(l.length:Int)),Z_,aa Z6,aac,Ie hF (du hf ht) (hw.get ht)];unfold kqR krR;dsimp only;rw[sv _ ht,aa (Z7 (by rw[aca,aaO]; omega)),aa Z5];rfl
 ·intro K;unfold kc;dsimp only;rw[Z8 (by omega:¬(l.length:Int)<(l.length:Int)),Z9,aaR]
theorem Fj {N n:Nat} (hF:Fuel N) (hn:n<=12) (k:List RY2->Bool):pb N n n k=k (List.replicate (n*n) ((false,[]),(false,[]))):=by
 have hN:=hF.lt;have hl:=qV (n:=n) (by omega)
 (unfold pb; rw[ac]; unfold oc)
 have h0:([]:List RY2)=List.replicate 0 ((false,[]),(false,[])):=rfl;rw[h0];refine bw (λt:Nat=>((t:Int),List.replicate t ((false,[]),(false,[])))) (n*n) (by omega) ?_ ?_
 ·intro t ht K;unfold i7;dsimp only;rw[<- aat,aa Z5,Z7 (by omega:(t:Int)<((n*n:Nat):Int)),Z_,aa (Z7 (by rw[abw]; omega)),aa Z5,abM];rfl
 ·intro K;unfold i7;dsimp only;rw[<- aat,aa Z5,Z8 (by omega:¬((n*n:Nat):Int)<((n*n:Nat):Int)),Z9]
theorem C2 {α:Type} (l:List α) (z:α) {t:Nat} (ht:t<=l.length):(l.take t++List.replicate (l.length - t) z).length=l.length:=by rw[abl,aaO,abw]; omega
theorem C3 {α:Type} (l:List α) (z:α) {t:Nat} (ht:t<l.length):(l.take t++List.replicate (l.length - t) z).set t (l.getD t z)=l.take (t+1)++List.replicate (l.length - (t+1)) z:=by
 have h1:(l.take t).length=t:=by rw[aaO]; omega
 have h2:l.length - t=(l.length - (t+1))+1:=by omega
 rw[acl _ _ (by omega),h1,aaH,h2,aaT,List.set_cons_zero,abq ht,aaq,List.getD_eq_getElem?_getD,List.getElem?_eq_getElem ht];rfl
theorem NH {α:Type} (g:Rat->α) (n:Nat) (f:Nat->Nat->Rat) {t:Nat} (ht:t<n*n) (z:α):∃ a b,a<n/\b<n/\(mat g n f).getD t z=g (f a b):=by
 have hn:0<n:=by
  rcases abv n with h0 | h0
  ·rw[h0]at ht; omega
  ·exact h0
 refine⟨t / n,t%n,ab9 ht,aao _ hn,?_⟩;have:=lf g n f (ab9 ht) (aao t hn) z;rw[show t / n*n+t%n=t from by rw[aab]; exact aaY t n]at this;exact this
theorem Fr {N n B:Nat} (hF:Fuel N) (hB:B<=2000000000100) (hn:n<=12) {f:Nat->Nat->Rat} (hf:po B n f) (k:List RY2->Bool) :
  R3 N n n (mat dy n f) k=k (mat dy n f):=by
 have hN:=hF.lt;have hl:=qV (n:=n) (by omega)
 (unfold R3; rw[ac]; unfold P6)
 rw[Fj hF hn];have hlen:=oP dy n f;have h0:List.replicate (n*n) (((false,[]),(false,[])):RY2)=(mat dy n f).take 0++List.replicate ((mat dy n f).length - 0) ((false,[]),(false,[])):=by rw[hlen]; rfl
 rw[h0];refine bw (λt:Nat=>((t:Int),(mat dy n f).take t++List.replicate ((mat dy n f).length - t) ((false,[]),(false,[])))) (mat dy n f).length (by omega) ?_ ?_
 ·intro t ht K;unfold Ca;dsimp only;have hfl:=C2 (mat dy n f) (((false,[]),(false,[])):RY2) (t:=t) (by omega);rw[Z7 (by omega:(t:Int)<((mat dy n f).length:Int)),Z_,aac,hfl,aa Z6,aa (Z7 ht),aa Z6];obtain⟨a,b,ha,hb,hm⟩:=NH dy n f (t:=t) (by omega) ((false,[]),(false,[]));have hs:=C3 (mat dy n f) (((false,[]),(false,[])):RY2) ht;rw[hm]at hs ⊢;have he:∀ x:Rat,dy x=((decide (x.num<0),ai x.num.natAbs),(false,ai x.den)):=λx=>rfl
  have hset:=λb1 b2 l1 l2 kk=>Le (N:=N) hF hB (hf a b ha hb) b1 b2 l1 l2 kk
  generalize List.take t (mat dy n f)++List.replicate ((mat dy n f).length - t) ((false,[]),false,[])=L at *;rw[he (f a b)];dsimp only;rw[hset];unfold kqR krR;dsimp only;rw[aa Z5];exact adg (λl=>K ((t:Int)+1,l)) hs
 ·intro K;unfold Ca;dsimp only;rw[Z8 (by omega),Z9,aaR,aaH,aaL,aaI]
theorem wQ {n:Nat} (hn:n<=12):(1200+1)*4 ^ n<=100000000000:=by
 have h1:4 ^ n<=4 ^ 12:=aan (by decide) hn;have h2:(4:Nat) ^ 12=16777216:=by decide
 rw[h2]at h1;have h3:(1200+1)*4 ^ n<=(1200+1)*16777216:=aae _ h1;omega
def J9 (n:Nat) (l:List Fl):Prop:=∀ a b,a<n->b<n->fm n l a b=fm n l b a
def vx (n:Nat) (l:List Fl):Bool:=uF n n 0 3 (fm n l)==3
theorem Dm {N n:Nat} (hF:Fuel N) {l:List Fl} (hn:n<=12) (h:l.length=n*n) (hf:aF l=true) (hw:AllW l) (hs:J9 n l) (k:Ky3) :
  jg N n n l k=k (uF n n 0 3 (fm n l)) 0:=by
 (unfold jg; rw[ac]; unfold i8)
 rw[Bz hF hn h hf hw];exact Il hF (by omega) (Bm h hf) hs (wQ hn) (λt=>k t 0)
theorem oF {N n:Nat} (hF:Fuel N) {l:List Fl} (hn:n<=12) (h:l.length=n*n) (hf:aF l=true) (hw:AllW l) (hs:J9 n l) (k:Kz0) :
  Hb N n n l k=k (vx n l):=by
 have hN:=hF.lt;unfold Hb OL wN vQ;rw[Ib hF hn h hf hw];dsimp only
 (unfold Pb; rw[ac]; unfold JK)
 rw[Fr (B:=1200) hF (by decide) hn (Bm h hf)];exact Ig hF (by omega) (λt=>k (t==3)) n 0 1200 N 3 (fm n l) (by omega) (by omega) (Bm h hf) (λa b _ _=>hs a b) (wQ hn)
end Go.Proofs.YtdinakfmablagaaGreatDoor
