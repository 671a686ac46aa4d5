/- Laws in plain Lean. Conditions: none. -/
import Derived.Test.YtdinakfmablagaaGreatDoorC8
set_option linter.unusedVariables false
namespace Go.Proofs.YtdinakfmablagaaGreatDoor
open Go Go.Mach Ieee
def fm (n:Nat) (l:List Fl):Nat->Nat->Rat:=λi j=>qZ (ofE (l.getD (i*n+j) none))
theorem JZ {α:Type} (g:Rat->α) {n:Nat} {l:List Fl} (h:l.length=n*n):l.map (λx=>g (qZ (ofE x)))=mat g n (fm n l):=by
 apply List.ext_getElem?;intro t;by_cases ht:t<n*n
 ·unfold mat;rw[List.getElem?_map,List.getElem?_map,List.getElem?_range ht,List.getElem?_eq_getElem (by omega)];simp only[ag1];unfold fm;have:t / n*n+t%n=t:=by rw[afy]; exact agp t n
  rw[this,List.getD_eq_getElem?_getD,List.getElem?_eq_getElem (by omega)];rfl
 ·rw[List.getElem?_eq_none (by rw[ahu]; omega),List.getElem?_eq_none (by rw[qT]; omega)]
theorem cD {l:List Fl} (h:az l=true) {i:Nat} (hi:i<l.length):bD (l.getD i none)=true:=by unfold az at h;exact bX.1 h i hi
def AllW (l:List Fl):Prop:=∀ x,x ∈ l->FW x
theorem AllW.get {l:List Fl} (h:AllW l) {i:Nat} (hi:i<l.length):FW (l.getD i none):=by rw[List.getD_eq_getElem?_getD,List.getElem?_eq_getElem hi];exact h _ (agH hi)
theorem DX {n:Nat} {l:List Fl} (h:l.length=n*n) (hf:az l=true):rG 1200 n (fm n l):=by intro a b ha hb;have:=gU ha hb;exact RE (cD hf (by omega))
theorem Kn {N:Nat} (x:Int) (k:Kz3):G0 N x k=k (decide (0<=x/\x<=12)):=by
 unfold G0 Qp;by_cases h:x>=0
 ·rw[afu h,show(true==true)=true from rfl,afx];congr 1;by_cases h2:x<=12
  ·rw[afu h2,afu ⟨h,h2⟩]
  ·rw[afv h2,afv (by omega)]
 ·rw[afv h,show(false==true)=false from rfl,afw,afv (by omega)]
theorem J4 {a b:Int} (h1:0<=a/\a<=12) (h2:0<=b/\b<=12):0<=a*b/\a*b<=144:=by have h3:a*b<=12*b:=Int.mul_le_mul_of_nonneg_right h1.2 h2.1;have h4:0<=a*b:=Int.mul_nonneg h1.1 h2.1;omega
theorem ep {N:Nat} (hN:1000<=N) (a b:Int) (l:List Fl) (k:Kz4):we N a b l k=k (chk a b l):=by
 (unfold we; rw[ac]; unfold Qj chk)
 rw[Kn];by_cases h1:0<=a/\a<=12
 ·rw[afu h1,show((!true)==false)=true from rfl,afx,Kn];by_cases h2:0<=b/\b<=12
  ·have h3:=J4 h1 h2;rw[afu h2,if_pos ⟨h1,h2⟩,show(!true)=false from rfl,afw,aa afs];by_cases h4:(l.length:Int)=a*b
   ·have:(((l.length:Nat):Int) != a*b)=false:=by simp[h4]
    have h6:l.length<=144:=by rw[<- h4]at h3; omega
    rw[this,afw,if_pos h4,lE l ⟨by omega,by omega⟩];cases h5:az l
    ·rfl
    ·rfl
   ·have:(((l.length:Nat):Int) != a*b)=true:=by simp[h4]
    rw[this,afx,if_neg h4]
  ·rw[afv h2,if_neg (λh=>h2 h.2),show(!false)=true from rfl,afx]
 ·rw[afv h1,if_neg (λh=>h1 h.1)]; rfl
theorem nM {n:Nat} {l:List Fl} (hn:n<=12) (h:l.length=n*n) (hf:az l=true):chk n n l=0:=
 mh.2 ⟨⟨by omega,by omega⟩,by rw[h,afR],hf⟩
theorem vo {α:Type} (g:Fl->α) {l:List Fl} {t:Nat} (ht:t<l.length):(l.take (t+1)).map g=(l.take t).map g++[g (l.getD t none)]:=by rw[agO ht,ahc,List.getD_eq_getElem?_getD,List.getElem?_eq_getElem ht]; rfl
theorem D9 {N n:Nat} (hF:Fuel N) {l:List Fl} (hn:n<=12) (h:l.length=n*n) (hf:az l=true) (hw:AllW l) (k:List RY1->Bool) :
  jj N n n l k=k (mat enc n (fm n l)):=by
 have hN:=hF.lt;have hl:=tY (n:=n) (by omega)
 (unfold jj; rw[ac]; unfold jg)
 rw[ep (by omega),nM hn h hf,qN,<- JZ enc h];refine aA (λt:Nat=>((t:Int),(l.take t).map (λx=>enc (qZ (ofE x))))) l.length (by omega) ?_ ?_
 ·intro t ht K;unfold dq;dsimp only;rw[afu (by omega:(t:Int)<(l.length:Int)),afx,aa aft,afz,Ge hF (cD hf ht) (hw.get ht)];unfold kq kr;dsimp only;rw[vo _ ht,aa (afu (by rw[agK,ahu,aga]; simp only[af8,ahD]; omega)),aa afs];rfl
 ·intro K;unfold dq;dsimp only;rw[afv (by omega:¬(l.length:Int)<(l.length:Int)),afw,agd]
theorem Ln {N n:Nat} (hF:Fuel N) {l:List Fl} (hn:n<=12) (h:l.length=n*n) (hf:az l=true) (hw:AllW l) (a b:Int) (k:List RY2->Bool) :
  tP N a b l k=k (mat dA n (fm n l)):=by
 have hN:=hF.lt;have hl:=tY (n:=n) (by omega)
 (unfold tP; rw[ac]; unfold sv)
 rw[<- JZ dA h];refine aA (λt:Nat=>((t:Int),(l.take t).map (λx=>dA (qZ (ofE x))))) l.length (by omega) ?_ ?_
 ·intro t ht K;unfold kX;dsimp only;rw[afu (by omega:(t:Int)<(l.length:Int)),afx,aa aft,afz,Lp hF (cD hf ht) (hw.get ht)];unfold kqR krR;dsimp only;rw[vo _ ht,aa (afu (by rw[ahu,aga]; omega)),aa afs];rfl
 ·intro K;unfold kX;dsimp only;rw[afv (by omega:¬(l.length:Int)<(l.length:Int)),afw,agd]
theorem Ig {N n:Nat} (hF:Fuel N) (hn:n<=12) (k:List RY2->Bool):rm N n n k=k (List.replicate (n*n) ((false,[]),(false,[]))):=by
 have hN:=hF.lt;have hl:=tY (n:=n) (by omega)
 (unfold rm; rw[ac]; unfold qp)
 have h0:([]:List RY2)=List.replicate 0 ((false,[]),(false,[])):=rfl;rw[h0];refine aA (λt:Nat=>((t:Int),List.replicate t ((false,[]),(false,[])))) (n*n) (by omega) ?_ ?_
 ·intro t ht K;unfold jN;dsimp only;rw[<- afR,aa afs,afu (by omega:(t:Int)<((n*n:Nat):Int)),afx,aa (afu (by rw[agR]; omega)),aa afs,ag6];rfl
 ·intro K;unfold jN;dsimp only;rw[<- afR,aa afs,afv (by omega:¬((n*n:Nat):Int)<((n*n:Nat):Int)),afw]
theorem Ox {α:Type} (l:List α) (z:α) {t:Nat} (ht:t<=l.length):(l.take t++List.replicate (l.length - t) z).length=l.length:=by rw[agK,aga,agR]; omega
theorem Oy {α:Type} (l:List α) (z:α) {t:Nat} (ht:t<l.length):(l.take t++List.replicate (l.length - t) z).set t (l.getD t z)=l.take (t+1)++List.replicate (l.length - (t+1)) z:=by
 have h1:(l.take t).length=t:=by rw[aga]; omega
 have h2:l.length - t=(l.length - (t+1))+1:=by omega
 rw[ahF _ _ (by omega),h1,af6,h2,agf,List.set_cons_zero,agO ht,afN,List.getD_eq_getElem?_getD,List.getElem?_eq_getElem ht];rfl
theorem Rj {α:Type} (g:Rat->α) (n:Nat) (f:Nat->Nat->Rat) {t:Nat} (ht:t<n*n) (z:α):∃ a b,a<n/\b<n/\(mat g n f).getD t z=g (f a b):=by
 have hn:0<n:=by
  rcases agQ n with h0 | h0
  ·rw[h0]at ht; omega
  ·exact h0
 refine⟨t / n,t%n,ahs ht,afK _ hn,?_⟩;have:=mz g n f (ahs ht) (afK t hn) z;rw[show t / n*n+t%n=t from by rw[afy]; exact agp t n]at this;exact this
theorem Iq {N n B:Nat} (hF:Fuel N) (hB:B<=2000000000100) (hn:n<=12) {f:Nat->Nat->Rat} (hf:rG B n f) (k:List RY2->Bool) :
  Wz N n n (mat dA n f) k=k (mat dA n f):=by
 have hN:=hF.lt;have hl:=tY (n:=n) (by omega)
 (unfold Wz; rw[ac]; unfold TT)
 rw[Ig hF hn];have hlen:=qT dA n f;have h0:List.replicate (n*n) (((false,[]),(false,[])):RY2)=(mat dA n f).take 0++List.replicate ((mat dA n f).length - 0) ((false,[]),(false,[])):=by rw[hlen]; rfl
 rw[h0];refine aA (λt:Nat=>((t:Int),(mat dA n f).take t++List.replicate ((mat dA n f).length - t) ((false,[]),(false,[])))) (mat dA n f).length (by omega) ?_ ?_
 ·intro t ht K;unfold EM;dsimp only;have hfl:=Ox (mat dA n f) (((false,[]),(false,[])):RY2) (t:=t) (by omega);rw[afu (by omega:(t:Int)<((mat dA n f).length:Int)),afx,afz,hfl,aa aft,aa (afu ht),aa aft];obtain⟨a,b,ha,hb,hm⟩:=Rj dA n f (t:=t) (by omega) ((false,[]),(false,[]));have hs:=Oy (mat dA n f) (((false,[]),(false,[])):RY2) ht;rw[hm]at hs ⊢;have he:∀ x:Rat,dA x=((decide (x.num<0),aj x.num.natAbs),(false,aj x.den)):=λx=>rfl
  have hset:=λb1 b2 l1 l2 kk=>OZ (N:=N) hF hB (hf a b ha hb) b1 b2 l1 l2 kk
  generalize List.take t (mat dA n f)++List.replicate ((mat dA n f).length - t) ((false,[]),false,[])=L at *;rw[he (f a b)];dsimp only;rw[hset];unfold kqR krR;dsimp only;rw[aa afs];exact aiE (λl=>K ((t:Int)+1,l)) hs
 ·intro K;unfold EM;dsimp only;rw[afv (by omega),afw,agd,af6,af9,af5]
theorem zy {n:Nat} (hn:n<=12):(1200+1)*4 ^ n<=100000000000:=by
 have h1:4 ^ n<=4 ^ 12:=afL (by decide) hn;have h2:(4:Nat) ^ 12=16777216:=by decide
 rw[h2]at h1;have h3:(1200+1)*4 ^ n<=(1200+1)*16777216:=afC _ h1;omega
def Cn (n:Nat) (l:List Fl):Prop:=∀ a b,a<n->b<n->fm n l a b=fm n l b a
def xd (n:Nat) (l:List Fl):Bool:=xq n n 0 3 (fm n l)==3
theorem F9 {N n:Nat} (hF:Fuel N) {l:List Fl} (hn:n<=12) (h:l.length=n*n) (hf:az l=true) (hw:AllW l) (hs:Cn n l) (k:Ky5) :
  jZ N n n l k=k (xq n n 0 3 (fm n l)) 0:=by
 (unfold jZ; rw[ac]; unfold jT)
 rw[D9 hF hn h hf hw];exact Lw hF (by omega) (DX h hf) hs (zy hn) (λt=>k t 0)
theorem qK {N n:Nat} (hF:Fuel N) {l:List Fl} (hn:n<=12) (h:l.length=n*n) (hf:az l=true) (hw:AllW l) (hs:Cn n l) (k:Kz3) :
  Cz N n n l k=k (xd n l):=by
 have hN:=hF.lt;unfold Cz W9 zu yG;rw[Ln hF hn h hf hw];dsimp only
 (unfold SW; rw[ac]; unfold Nf)
 rw[Iq (B:=1200) hF (by decide) hn (DX h hf)];exact Lq hF (by omega) (λt=>k (t==3)) n 0 1200 N 3 (fm n l) (by omega) (by omega) (DX h hf) (λa b _ _=>hs a b) (zy hn)
end Go.Proofs.YtdinakfmablagaaGreatDoor
