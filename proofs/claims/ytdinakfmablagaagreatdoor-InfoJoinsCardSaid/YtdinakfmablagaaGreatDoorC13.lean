/- Laws in plain Lean. Conditions: none. -/
import Derived.Test.YtdinakfmablagaaGreatDoorC8
set_option linter.defProp false
set_option linter.unusedVariables false
namespace Go.Proofs.YtdinakfmablagaaGreatDoor
open Go Go.Mach Ieee
def fm (n:Nat) (l:List Fl):Nat->Nat->Rat:=λi j=>oR (ofE (l.getD (i*n+j) none))
def Gq {α:Type} (g:Rat->α) {n:Nat} {l:List Fl} (h:l.length=n*n):l.map (λx=>g (oR (ofE x)))=mat g n (fm n l):=by
 apply List.ext_getElem?;intro t;by_cases ht:t<n*n
 ·unfold mat;rw[List.getElem?_map,List.getElem?_map,List.getElem?_range ht,List.getElem?_eq_getElem (by omega)];simp only[aaz];unfold fm;have:t / n*n+t%n=t:=by rw[Y_]; exact ZW t n
  rw[this,List.getD_eq_getElem?_getD,List.getElem?_eq_getElem (by omega)];rfl
 ·rw[List.getElem?_eq_none (by rw[aa7]; omega),List.getElem?_eq_none (by rw[oK]; omega)]
def bG {l:List Fl} (h:bF l=true) {i:Nat} (hi:i<l.length):aL (l.getD i none)=true:=by unfold bF at h;exact gu.1 h i hi
def AllW (l:List Fl):Prop:=∀ x,x ∈ l->FW x
def AllW.get {l:List Fl} (h:AllW l) {i:Nat} (hi:i<l.length):FW (l.getD i none):=by rw[List.getD_eq_getElem?_getD,List.getElem?_eq_getElem hi];exact h _ (aah hi)
def A8 {n:Nat} {l:List Fl} (h:l.length=n*n) (hf:bF l=true):pj 1200 n (fm n l):=by intro a b ha hb;have:=gd ha hb;exact Ns (bG hf (by omega))
def GQ {N:Nat} (x:Int) (k:Ky9):GH N x k=k (decide (0<=x/\x<=12)):=by
 unfold GH N3;by_cases h:x>=0
 ·rw[Y5 h,show(true==true)=true from rfl,Y8];congr 1;by_cases h2:x<=12
  ·rw[Y5 h2,Y5 ⟨h,h2⟩]
  ·rw[Y6 h2,Y6 (by omega)]
 ·rw[Y6 h,show(false==true)=false from rfl,Y7,Y6 (by omega)]
def Gv {a b:Int} (h1:0<=a/\a<=12) (h2:0<=b/\b<=12):0<=a*b/\a*b<=144:=by have h3:a*b<=12*b:=Int.mul_le_mul_of_nonneg_right h1.2 h2.1;have h4:0<=a*b:=Int.mul_nonneg h1.1 h2.1;omega
def sT {N:Nat} (hN:1000<=N) (a b:Int) (l:List Fl) (k:Kz0):LA N a b l k=k (chk a b l):=by
 (unfold LA; rw[af]; unfold Pj chk)
 rw[GQ];by_cases h1:0<=a/\a<=12
 ·rw[Y5 h1,show((!true)==false)=true from rfl,Y8,GQ];by_cases h2:0<=b/\b<=12
  ·have h3:=Gv h1 h2;rw[Y5 h2,if_pos ⟨h1,h2⟩,show(!true)=false from rfl,Y7,aa Y3];by_cases h4:(l.length:Int)=a*b
   ·have:(((l.length:Nat):Int) != a*b)=false:=by simp[h4]
    have h6:l.length<=144:=by rw[<- h4]at h3; omega
    rw[this,Y7,if_pos h4,l_ l ⟨by omega,by omega⟩];cases h5:bF l
    ·rfl
    ·rfl
   ·have:(((l.length:Nat):Int) != a*b)=true:=by simp[h4]
    rw[this,Y8,if_neg h4]
  ·rw[Y6 h2,if_neg (λh=>h2 h.2),show(!false)=true from rfl,Y8]
 ·rw[Y6 h1,if_neg (λh=>h1 h.1)]; rfl
def Ev {n:Nat} {l:List Fl} (hn:n<=12) (h:l.length=n*n) (hf:bF l=true):chk n n l=0:=
 p6.2 ⟨⟨by omega,by omega⟩,by rw[h,Zp],hf⟩
def so {α:Type} (g:Fl->α) {l:List Fl} {t:Nat} (ht:t<l.length):(l.take (t+1)).map g=(l.take t).map g++[g (l.getD t none)]:=by rw[aap ht,aaQ,List.getD_eq_getElem?_getD,List.getElem?_eq_getElem ht]; rfl
def Bl {N n:Nat} (hF:Fuel N) {l:List Fl} (hn:n<=12) (h:l.length=n*n) (hf:bF l=true) (hw:AllW l) (k:List RY1->Bool) :
  ir N n n l k=k (mat enc n (fm n l)):=by
 have hN:=hF.lt;have hl:=qS (n:=n) (by omega)
 (unfold ir; rw[af]; unfold im)
 rw[sT (by omega),Ev hn h hf,oD,<- Gq enc h];refine bR (λt:Nat=>((t:Int),(l.take t).map (λx=>enc (oR (ofE x))))) l.length (by omega) ?_ ?_
 ·intro t ht K;unfold dk;dsimp only;rw[Y5 (by omega:(t:Int)<(l.length:Int)),Y8,aa Y4,Zb,De hF (bG hf ht) (hw.get ht)];unfold kq kr;dsimp only;rw[so _ ht,aa (Y5 (by rw[aak,aa7,ZM]; simp only[ZI,abe]; omega)),aa Y3];rfl
 ·intro K;unfold dk;dsimp only;rw[Y6 (by omega:¬(l.length:Int)<(l.length:Int)),Y7,ZO]
def HK {N n:Nat} (hF:Fuel N) {l:List Fl} (hn:n<=12) (h:l.length=n*n) (hf:bF l=true) (hw:AllW l) (a b:Int) (k:List RY2->Bool) :
  qK N a b l k=k (mat du n (fm n l)):=by
 have hN:=hF.lt;have hl:=qS (n:=n) (by omega)
 (unfold qK; rw[af]; unfold pR)
 rw[<- Gq du h];refine bR (λt:Nat=>((t:Int),(l.take t).map (λx=>du (oR (ofE x))))) l.length (by omega) ?_ ?_
 ·intro t ht K;unfold jO;dsimp only;rw[Y5 (by omega:(t:Int)<(l.length:Int)),Y8,aa Y4,Zb,HM hF (bG hf ht) (hw.get ht)];unfold kqR krR;dsimp only;rw[so _ ht,aa (Y5 (by rw[aa7,ZM]; omega)),aa Y3];rfl
 ·intro K;unfold jO;dsimp only;rw[Y6 (by omega:¬(l.length:Int)<(l.length:Int)),Y7,ZO]
def EW {N n:Nat} (hF:Fuel N) (hn:n<=12) (k:List RY2->Bool):oZ N n n k=k (List.replicate (n*n) ((false,[]),(false,[]))):=by
 have hN:=hF.lt;have hl:=qS (n:=n) (by omega)
 (unfold oZ; rw[af]; unfold ob)
 have h0:([]:List RY2)=List.replicate 0 ((false,[]),(false,[])):=rfl;rw[h0];refine bR (λt:Nat=>((t:Int),List.replicate t ((false,[]),(false,[])))) (n*n) (by omega) ?_ ?_
 ·intro t ht K;unfold iP;dsimp only;rw[<- Zp,aa Y3,Y5 (by omega:(t:Int)<((n*n:Nat):Int)),Y8,aa (Y5 (by rw[aau]; omega)),aa Y3,aaJ];rfl
 ·intro K;unfold iP;dsimp only;rw[<- Zp,aa Y3,Y6 (by omega:¬((n*n:Nat):Int)<((n*n:Nat):Int)),Y7]
def CN {α:Type} (l:List α) (z:α) {t:Nat} (ht:t<=l.length):(l.take t++List.replicate (l.length - t) z).length=l.length:=by rw[aak,ZM,aau]; omega
def CO {α:Type} (l:List α) (z:α) {t:Nat} (ht:t<l.length):(l.take t++List.replicate (l.length - t) z).set t (l.getD t z)=l.take (t+1)++List.replicate (l.length - (t+1)) z:=by
 have h1:(l.take t).length=t:=by rw[ZM]; omega
 have h2:l.length - t=(l.length - (t+1))+1:=by omega
 rw[abg _ _ (by omega),h1,ZF,h2,ZQ,List.set_cons_zero,aap ht,Zo,List.getD_eq_getElem?_getD,List.getElem?_eq_getElem ht];rfl
def Nc {α:Type} (g:Rat->α) (n:Nat) (f:Nat->Nat->Rat) {t:Nat} (ht:t<n*n) (z:α):∃ a b,a<n/\b<n/\(mat g n f).getD t z=g (f a b):=by
 have hn:0<n:=by
  rcases aat n with h0 | h0
  ·rw[h0]at ht; omega
  ·exact h0
 refine⟨t / n,t%n,aa5 ht,Zm _ hn,?_⟩;have:=kD g n f (aa5 ht) (Zm t hn) z;rw[show t / n*n+t%n=t from by rw[Y_]; exact ZW t n]at this;exact this
def E5 {N n B:Nat} (hF:Fuel N) (hB:B<=2000000000100) (hn:n<=12) {f:Nat->Nat->Rat} (hf:pj B n f) (k:List RY2->Bool) :
  Rn N n n (mat du n f) k=k (mat du n f):=by
 have hN:=hF.lt;have hl:=qS (n:=n) (by omega)
 (unfold Rn; rw[af]; unfold Pz)
 rw[EW hF hn];have hlen:=oK du n f;have h0:List.replicate (n*n) (((false,[]),(false,[])):RY2)=(mat du n f).take 0++List.replicate ((mat du n f).length - 0) ((false,[]),(false,[])):=by rw[hlen]; rfl
 rw[h0];refine bR (λt:Nat=>((t:Int),(mat du n f).take t++List.replicate ((mat du n f).length - t) ((false,[]),(false,[])))) (mat du n f).length (by omega) ?_ ?_
 ·intro t ht K;unfold BV;dsimp only;have hfl:=CN (mat du n f) (((false,[]),(false,[])):RY2) (t:=t) (by omega);rw[Y5 (by omega:(t:Int)<((mat du n f).length:Int)),Y8,Zb,hfl,aa Y4,aa (Y5 ht),aa Y4];obtain⟨a,b,ha,hb,hm⟩:=Nc du n f (t:=t) (by omega) ((false,[]),(false,[]));have hs:=CO (mat du n f) (((false,[]),(false,[])):RY2) ht;rw[hm]at hs ⊢;have he:∀ x:Rat,du x=((decide (x.num<0),ah x.num.natAbs),(false,ah x.den)):=λx=>rfl
  have hset:=λb1 b2 l1 l2 kk=>KH (N:=N) hF hB (hf a b ha hb) b1 b2 l1 l2 kk
  generalize List.take t (mat du n f)++List.replicate ((mat du n f).length - t) ((false,[]),false,[])=L at *;rw[he (f a b)];dsimp only;rw[hset];unfold kqR krR;dsimp only;rw[aa Y3];exact acf (λl=>K ((t:Int)+1,l)) hs
 ·intro K;unfold BV;dsimp only;rw[Y6 (by omega),Y7,ZO,ZF,ZJ,ZG]
def ww {n:Nat} (hn:n<=12):(1200+1)*4 ^ n<=100000000000:=by
 have h1:4 ^ n<=4 ^ 12:=Zl (by decide) hn;have h2:(4:Nat) ^ 12=16777216:=by decide
 rw[h2]at h1;have h3:(1200+1)*4 ^ n<=(1200+1)*16777216:=Zc _ h1;omega
def JE (n:Nat) (l:List Fl):Prop:=∀ a b,a<n->b<n->fm n l a b=fm n l b a
def zD (n:Nat) (l:List Fl):Bool:=uo n n 0 3 (fm n l)==3
def Db {N n:Nat} (hF:Fuel N) {l:List Fl} (hn:n<=12) (h:l.length=n*n) (hf:bF l=true) (hw:AllW l) (hs:JE n l) (k:Ky2) :
  iY N n n l k=k (uo n n 0 3 (fm n l)) 0:=by
 (unfold iY; rw[af]; unfold iR)
 rw[Bl hF hn h hf hw];exact HT hF (by omega) (A8 h hf) hs (ww hn) (λt=>k t 0)
def Bj {N n:Nat} (hF:Fuel N) {l:List Fl} (hn:n<=12) (h:l.length=n*n) (hf:bF l=true) (hw:AllW l) (hs:JE n l) (k:Ky9) :
  Lx N n n l k=k (zD n l):=by
 have hN:=hF.lt;unfold Lx N9 wo vw;rw[HK hF hn h hf hw];dsimp only
 (unfold OE; rw[af]; unfold Jg)
 rw[E5 (B:=1200) hF (by decide) hn (A8 h hf)];exact HN hF (by omega) (λt=>k (t==3)) n 0 1200 N 3 (fm n l) (by omega) (by omega) (A8 h hf) (λa b _ _=>hs a b) (ww hn)
end Go.Proofs.YtdinakfmablagaaGreatDoor
