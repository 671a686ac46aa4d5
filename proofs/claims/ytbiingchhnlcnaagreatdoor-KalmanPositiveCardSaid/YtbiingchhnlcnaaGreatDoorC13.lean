/- Laws in plain Lean. Conditions: none. -/
import Derived.Test.YtbiingchhnlcnaaGreatDoorC11
set_option linter.defProp false
set_option linter.unusedVariables false
namespace Go.Proofs.YtbiingchhnlcnaaGreatDoor
open Go Go.Mach Ieee
def fm (n:Nat) (l:List Fl):Nat->Nat->Rat:=λi j=>rn (ofE (l.getD (i*n+j) none))
def I4 {α:Type} (g:Rat->α) {n:Nat} {l:List Fl} (h:l.length=n*n):l.map (λx=>g (rn (ofE x)))=mat g n (fm n l):=by
 apply List.ext_getElem?;intro t;by_cases ht:t<n*n
 ·unfold mat;rw[List.getElem?_map,List.getElem?_map,List.getElem?_range ht,List.getElem?_eq_getElem (by omega)];simp only[ajY];unfold fm;have:t / n*n+t%n=t:=by rw[aix]; exact ajo t n
  rw[this,List.getD_eq_getElem?_getD,List.getElem?_eq_getElem (by omega)];rfl
 ·rw[List.getElem?_eq_none (by rw[akq]; omega),List.getElem?_eq_none (by rw[pu]; omega)]
def ov {l:List Fl} (h:bb l=true) {i:Nat} (hi:i<l.length):be (l.getD i none)=true:=by unfold bb at h;exact kT.1 h i hi
def AllW (l:List Fl):Prop:=∀ x,x ∈ l->FW x
def AllW.get {l:List Fl} (h:AllW l) {i:Nat} (hi:i<l.length):FW (l.getD i none):=by rw[List.getD_eq_getElem?_getD,List.getElem?_eq_getElem hi];exact h _ (ajD hi)
def zB {n:Nat} {l:List Fl} (h:l.length=n*n) (hf:bb l=true):pY 1200 n (fm n l):=by intro a b ha hb;have:=ke ha hb;exact PA (ov hf (by omega))
def Jp {N:Nat} (x:Int) (k:Kz4):Gr N x k=k (decide (0<=x/\x<=12)):=by
 unfold Gr Rt;by_cases h:x>=0
 ·rw[ait h,show(true==true)=true from rfl,aiw];congr 1;by_cases h2:x<=12
  ·rw[ait h2,ait ⟨h,h2⟩]
  ·rw[aiu h2,aiu (by omega)]
 ·rw[aiu h,show(false==true)=false from rfl,aiv,aiu (by omega)]
def I7 {a b:Int} (h1:0<=a/\a<=12) (h2:0<=b/\b<=12):0<=a*b/\a*b<=144:=by have h3:a*b<=12*b:=Int.mul_le_mul_of_nonneg_right h1.2 h2.1;have h4:0<=a*b:=Int.mul_nonneg h1.1 h2.1;omega
def q9 {N:Nat} (hN:1000<=N) (a b:Int) (l:List Fl) (k:Kz5):KZ N a b l k=k (chk a b l):=by
 (unfold KZ; rw[ae]; unfold Q6 chk)
 rw[Jp];by_cases h1:0<=a/\a<=12
 ·rw[ait h1,show((!true)==false)=true from rfl,aiw,Jp];by_cases h2:0<=b/\b<=12
  ·have h3:=I7 h1 h2;rw[ait h2,if_pos ⟨h1,h2⟩,show(!true)=false from rfl,aiv,aa air];by_cases h4:(l.length:Int)=a*b
   ·have:(((l.length:Nat):Int) != a*b)=false:=by simp[h4]
    have h6:l.length<=144:=by rw[<- h4]at h3; omega
    rw[this,aiv,if_pos h4,iG l ⟨by omega,by omega⟩];cases h5:bb l
    ·rfl
    ·rfl
   ·have:(((l.length:Nat):Int) != a*b)=true:=by simp[h4]
    rw[this,aiw,if_neg h4]
  ·rw[aiu h2,if_neg (λh=>h2 h.2),show(!false)=true from rfl,aiw]
 ·rw[aiu h1,if_neg (λh=>h1 h.1)]; rfl
def Ac {n:Nat} {l:List Fl} (hn:n<=12) (h:l.length=n*n) (hf:bb l=true):chk n n l=0:=
 sT.2 ⟨⟨by omega,by omega⟩,by rw[h,aiQ],hf⟩
def vA {α:Type} (g:Fl->α) {l:List Fl} {t:Nat} (ht:t<l.length):(l.take (t+1)).map g=(l.take t).map g++[g (l.getD t none)]:=by rw[ajL ht,akj,List.getD_eq_getElem?_getD,List.getElem?_eq_getElem ht]; rfl
def Dy {N n:Nat} (hF:Fuel N) {l:List Fl} (hn:n<=12) (h:l.length=n*n) (hf:bb l=true) (hw:AllW l) (k:List RY1->Bool) :
  jz N n n l k=k (mat enc n (fm n l)):=by
 have hN:=hF.lt;have hl:=tZ (n:=n) (by omega)
 (unfold jz; rw[ae]; unfold js)
 rw[q9 (by omega),Ac hn h hf,ra,<- I4 enc h];refine aD (λt:Nat=>((t:Int),(l.take t).map (λx=>enc (rn (ofE x))))) l.length (by omega) ?_ ?_
 ·intro t ht K;unfold dQ;dsimp only;rw[ait (by omega:(t:Int)<(l.length:Int)),aiw,aa ais,aiA,FG hF (ov hf ht) (hw.get ht)];unfold kq kr;dsimp only;rw[vA _ ht,aa (ait (by rw[ajG,akq,ai_]; simp only[ai6,akA]; omega)),aa air];rfl
 ·intro K;unfold dQ;dsimp only;rw[aiu (by omega:¬(l.length:Int)<(l.length:Int)),aiv,ajb]
def Kd {N n:Nat} (hF:Fuel N) {l:List Fl} (hn:n<=12) (h:l.length=n*n) (hf:bb l=true) (hw:AllW l) (a b:Int) (k:List RY2->Bool) :
  tT N a b l k=k (mat dC n (fm n l)):=by
 have hN:=hF.lt;have hl:=tZ (n:=n) (by omega)
 (unfold tT; rw[ae]; unfold sJ)
 rw[<- I4 dC h];refine aD (λt:Nat=>((t:Int),(l.take t).map (λx=>dC (rn (ofE x))))) l.length (by omega) ?_ ?_
 ·intro t ht K;unfold lW;dsimp only;rw[ait (by omega:(t:Int)<(l.length:Int)),aiw,aa ais,aiA,Kf hF (ov hf ht) (hw.get ht)];unfold kqR krR;dsimp only;rw[vA _ ht,aa (ait (by rw[akq,ai_]; omega)),aa air];rfl
 ·intro K;unfold lW;dsimp only;rw[aiu (by omega:¬(l.length:Int)<(l.length:Int)),aiv,ajb]
def Hv {N n:Nat} (hF:Fuel N) (hn:n<=12) (k:List RY2->Bool):rD N n n k=k (List.replicate (n*n) ((false,[]),(false,[]))):=by
 have hN:=hF.lt;have hl:=tZ (n:=n) (by omega)
 (unfold rD; rw[ae]; unfold qK)
 have h0:([]:List RY2)=List.replicate 0 ((false,[]),(false,[])):=rfl;rw[h0];refine aD (λt:Nat=>((t:Int),List.replicate t ((false,[]),(false,[])))) (n*n) (by omega) ?_ ?_
 ·intro t ht K;unfold kj;dsimp only;rw[<- aiQ,aa air,ait (by omega:(t:Int)<((n*n:Nat):Int)),aiw,aa (ait (by rw[ajO]; omega)),aa air,aj4];rfl
 ·intro K;unfold kj;dsimp only;rw[<- aiQ,aa air,aiu (by omega:¬((n*n:Nat):Int)<((n*n:Nat):Int)),aiv]
def Fe {α:Type} (l:List α) (z:α) {t:Nat} (ht:t<=l.length):(l.take t++List.replicate (l.length - t) z).length=l.length:=by rw[ajG,ai_,ajO]; omega
def Ff {α:Type} (l:List α) (z:α) {t:Nat} (ht:t<l.length):(l.take t++List.replicate (l.length - t) z).set t (l.getD t z)=l.take (t+1)++List.replicate (l.length - (t+1)) z:=by
 have h1:(l.take t).length=t:=by rw[ai_]; omega
 have h2:l.length - t=(l.length - (t+1))+1:=by omega
 rw[akC _ _ (by omega),h1,ai4,h2,ajd,List.set_cons_zero,ajL ht,aiM,List.getD_eq_getElem?_getD,List.getElem?_eq_getElem ht];rfl
def Pm {α:Type} (g:Rat->α) (n:Nat) (f:Nat->Nat->Rat) {t:Nat} (ht:t<n*n) (z:α):∃ a b,a<n/\b<n/\(mat g n f).getD t z=g (f a b):=by
 have hn:0<n:=by
  rcases ajM n with h0 | h0
  ·rw[h0]at ht; omega
  ·exact h0
 refine⟨t / n,t%n,ako ht,aiJ _ hn,?_⟩;have:=ll g n f (ako ht) (aiJ t hn) z;rw[show t / n*n+t%n=t from by rw[aix]; exact ajo t n]at this;exact this
def HB {N n B:Nat} (hF:Fuel N) (hB:B<=2000000000100) (hn:n<=12) {f:Nat->Nat->Rat} (hf:pY B n f) (k:List RY2->Bool) :
  TW N n n (mat dC n f) k=k (mat dC n f):=by
 have hN:=hF.lt;have hl:=tZ (n:=n) (by omega)
 (unfold TW; rw[ae]; unfold Ru)
 rw[Hv hF hn];have hlen:=pu dC n f;have h0:List.replicate (n*n) (((false,[]),(false,[])):RY2)=(mat dC n f).take 0++List.replicate ((mat dC n f).length - 0) ((false,[]),(false,[])):=by rw[hlen]; rfl
 rw[h0];refine aD (λt:Nat=>((t:Int),(mat dC n f).take t++List.replicate ((mat dC n f).length - t) ((false,[]),(false,[])))) (mat dC n f).length (by omega) ?_ ?_
 ·intro t ht K;unfold Ei;dsimp only;have hfl:=Fe (mat dC n f) (((false,[]),(false,[])):RY2) (t:=t) (by omega);rw[ait (by omega:(t:Int)<((mat dC n f).length:Int)),aiw,aiA,hfl,aa ais,aa (ait ht),aa ais];obtain⟨a,b,ha,hb,hm⟩:=Pm dC n f (t:=t) (by omega) ((false,[]),(false,[]));have hs:=Ff (mat dC n f) (((false,[]),(false,[])):RY2) ht;rw[hm]at hs ⊢;have he:∀ x:Rat,dC x=((decide (x.num<0),aj x.num.natAbs),(false,aj x.den)):=λx=>rfl
  have hset:=λb1 b2 l1 l2 kk=>Nm (N:=N) hF hB (hf a b ha hb) b1 b2 l1 l2 kk
  generalize List.take t (mat dC n f)++List.replicate ((mat dC n f).length - t) ((false,[]),false,[])=L at *;rw[he (f a b)];dsimp only;rw[hset];unfold kqR krR;dsimp only;rw[aa air];exact alE (λl=>K ((t:Int)+1,l)) hs
 ·intro K;unfold Ei;dsimp only;rw[aiu (by omega),aiv,ajb,ai4,ai8,ai3]
def y_ {n:Nat} (hn:n<=12):(1200+1)*4 ^ n<=100000000000:=by
 have h1:4 ^ n<=4 ^ 12:=aiK (by decide) hn;have h2:(4:Nat) ^ 12=16777216:=by decide
 rw[h2]at h1;have h3:(1200+1)*4 ^ n<=(1200+1)*16777216:=aiB _ h1;omega
def Ml (n:Nat) (l:List Fl):Prop:=∀ a b,a<n->b<n->fm n l a b=fm n l b a
def xe (n:Nat) (l:List Fl):Bool:=tY n n 0 3 (fm n l)==3
def FB {N n:Nat} (hF:Fuel N) {l:List Fl} (hn:n<=12) (h:l.length=n*n) (hf:bb l=true) (hw:AllW l) (hs:Ml n l) (k:Ky6) :
  ku N n n l k=k (tY n n 0 3 (fm n l)) 0:=by
 (unfold ku; rw[ae]; unfold km)
 rw[Dy hF hn h hf hw];exact Kn hF (by omega) (zB h hf) hs (y_ hn) (λt=>k t 0)
def nR {N n:Nat} (hF:Fuel N) {l:List Fl} (hn:n<=12) (h:l.length=n*n) (hf:bb l=true) (hw:AllW l) (hs:Ml n l) (k:Kz4) :
  bV N n n l k=k (xe n l):=by
 unfold bV oZ;rw[FB hF hn h hf hw hs];rfl
end Go.Proofs.YtbiingchhnlcnaaGreatDoor
