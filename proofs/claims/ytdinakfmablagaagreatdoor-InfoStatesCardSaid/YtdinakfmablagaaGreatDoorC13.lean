/- Laws in plain Lean. Conditions: none. -/
import Derived.Test.YtdinakfmablagaaGreatDoorC8
set_option linter.unusedVariables false
namespace Go.Proofs.YtdinakfmablagaaGreatDoor
open Go Go.Mach Ieee
def fm (n:Nat) (l:List Fl):Nat->Nat->Rat:=λi j=>qP (ofE (l.getD (i*n+j) none))
theorem Js {α:Type} (g:Rat->α) {n:Nat} {l:List Fl} (h:l.length=n*n):l.map (λx=>g (qP (ofE x)))=mat g n (fm n l):=by
 apply List.ext_getElem?;intro t;by_cases ht:t<n*n
 ·unfold mat;rw[List.getElem?_map,List.getElem?_map,List.getElem?_range ht,List.getElem?_eq_getElem (by omega)];simp only[ahk];unfold fm;have:t / n*n+t%n=t:=by rw[afS]; exact agJ t n
  rw[this,List.getD_eq_getElem?_getD,List.getElem?_eq_getElem (by omega)];rfl
 ·rw[List.getElem?_eq_none (by rw[ahO]; omega),List.getElem?_eq_none (by rw[qK]; omega)]
theorem lN {l:List Fl} (h:aG l=true) {i:Nat} (hi:i<l.length):bC (l.getD i none)=true:=by unfold aG at h;exact ik.1 h i hi
def AllW (l:List Fl):Prop:=∀ x,x ∈ l->FW x
theorem AllW.get {l:List Fl} (h:AllW l) {i:Nat} (hi:i<l.length):FW (l.getD i none):=by rw[List.getD_eq_getElem?_getD,List.getElem?_eq_getElem hi];exact h _ (ag1 hi)
theorem DE {n:Nat} {l:List Fl} (h:l.length=n*n) (hf:aG l=true):rm 1200 n (fm n l):=by intro a b ha hb;have:=ma ha hb;exact Rd (lN hf (by omega))
theorem JV {N:Nat} (x:Int) (k:Kz4):LN N x k=k (decide (0<=x/\x<=12)):=by
 unfold LN S5;by_cases h:x>=0
 ·rw[afO h,show(true==true)=true from rfl,afR];congr 1;by_cases h2:x<=12
  ·rw[afO h2,afO ⟨h,h2⟩]
  ·rw[afP h2,afP (by omega)]
 ·rw[afP h,show(false==true)=false from rfl,afQ,afP (by omega)]
theorem Jw {a b:Int} (h1:0<=a/\a<=12) (h2:0<=b/\b<=12):0<=a*b/\a*b<=144:=by have h3:a*b<=12*b:=Int.mul_le_mul_of_nonneg_right h1.2 h2.1;have h4:0<=a*b:=Int.mul_nonneg h1.1 h2.1;omega
theorem ga {N:Nat} (hN:1000<=N) (a b:Int) (l:List Fl) (k:Kz5):Bv N a b l k=k (chk a b l):=by
 (unfold Bv; rw[ac]; unfold SF chk)
 rw[JV];by_cases h1:0<=a/\a<=12
 ·rw[afO h1,show((!true)==false)=true from rfl,afR,JV];by_cases h2:0<=b/\b<=12
  ·have h3:=Jw h1 h2;rw[afO h2,if_pos ⟨h1,h2⟩,show(!true)=false from rfl,afQ,aa afM];by_cases h4:(l.length:Int)=a*b
   ·have:(((l.length:Nat):Int) != a*b)=false:=by simp[h4]
    have h6:l.length<=144:=by rw[<- h4]at h3; omega
    rw[this,afQ,if_pos h4,oa l ⟨by omega,by omega⟩];cases h5:aG l
    ·rfl
    ·rfl
   ·have:(((l.length:Nat):Int) != a*b)=true:=by simp[h4]
    rw[this,afR,if_neg h4]
  ·rw[afP h2,if_neg (λh=>h2 h.2),show(!false)=true from rfl,afR]
 ·rw[afP h1,if_neg (λh=>h1 h.1)]; rfl
theorem vm {n:Nat} {l:List Fl} (hn:n<=12) (h:l.length=n*n) (hf:aG l=true):chk n n l=0:=
 kx.2 ⟨⟨by omega,by omega⟩,by rw[h,aga],hf⟩
theorem uR {α:Type} (g:Fl->α) {l:List Fl} {t:Nat} (ht:t<l.length):(l.take (t+1)).map g=(l.take t).map g++[g (l.getD t none)]:=by rw[ag8 ht,ahw,List.getD_eq_getElem?_getD,List.getElem?_eq_getElem ht]; rfl
theorem DQ {N n:Nat} (hF:Fuel N) {l:List Fl} (hn:n<=12) (h:l.length=n*n) (hf:aG l=true) (hw:AllW l) (k:List RY1->Bool) :
  jw N n n l k=k (mat enc n (fm n l)):=by
 have hN:=hF.lt;have hl:=tG (n:=n) (by omega)
 (unfold jw; rw[ac]; unfold jr)
 rw[ga (by omega),vm hn h hf,qE,<- Js enc h];refine ax (λt:Nat=>((t:Int),(l.take t).map (λx=>enc (qP (ofE x))))) l.length (by omega) ?_ ?_
 ·intro t ht K;unfold dn;dsimp only;rw[afO (by omega:(t:Int)<(l.length:Int)),afR,aa afN,afV,FR hF (lN hf ht) (hw.get ht)];unfold kq kr;dsimp only;rw[uR _ ht,aa (afO (by rw[ag4,ahO,agv]; simp only[ags,ahX]; omega)),aa afM];rfl
 ·intro K;unfold dn;dsimp only;rw[afP (by omega:¬(l.length:Int)<(l.length:Int)),afQ,agy]
theorem KR {N n:Nat} (hF:Fuel N) {l:List Fl} (hn:n<=12) (h:l.length=n*n) (hf:aG l=true) (hw:AllW l) (a b:Int) (k:List RY2->Bool) :
  tw N a b l k=k (mat dy n (fm n l)):=by
 have hN:=hF.lt;have hl:=tG (n:=n) (by omega)
 (unfold tw; rw[ac]; unfold sb)
 rw[<- Js dy h];refine ax (λt:Nat=>((t:Int),(l.take t).map (λx=>dy (qP (ofE x))))) l.length (by omega) ?_ ?_
 ·intro t ht K;unfold lq;dsimp only;rw[afO (by omega:(t:Int)<(l.length:Int)),afR,aa afN,afV,KT hF (lN hf ht) (hw.get ht)];unfold kqR krR;dsimp only;rw[uR _ ht,aa (afO (by rw[ahO,agv]; omega)),aa afM];rfl
 ·intro K;unfold lq;dsimp only;rw[afP (by omega:¬(l.length:Int)<(l.length:Int)),afQ,agy]
theorem HO {N n:Nat} (hF:Fuel N) (hn:n<=12) (k:List RY2->Bool):q8 N n n k=k (List.replicate (n*n) ((false,[]),(false,[]))):=by
 have hN:=hF.lt;have hl:=tG (n:=n) (by omega)
 (unfold q8; rw[ac]; unfold qh)
 have h0:([]:List RY2)=List.replicate 0 ((false,[]),(false,[])):=rfl;rw[h0];refine ax (λt:Nat=>((t:Int),List.replicate t ((false,[]),(false,[])))) (n*n) (by omega) ?_ ?_
 ·intro t ht K;unfold j6;dsimp only;rw[<- aga,aa afM,afO (by omega:(t:Int)<((n*n:Nat):Int)),afR,aa (afO (by rw[aha]; omega)),aa afM,ahp];rfl
 ·intro K;unfold j6;dsimp only;rw[<- aga,aa afM,afP (by omega:¬((n*n:Nat):Int)<((n*n:Nat):Int)),afQ]
theorem Ft {α:Type} (l:List α) (z:α) {t:Nat} (ht:t<=l.length):(l.take t++List.replicate (l.length - t) z).length=l.length:=by rw[ag4,agv,aha]; omega
theorem Fu {α:Type} (l:List α) (z:α) {t:Nat} (ht:t<l.length):(l.take t++List.replicate (l.length - t) z).set t (l.getD t z)=l.take (t+1)++List.replicate (l.length - (t+1)) z:=by
 have h1:(l.take t).length=t:=by rw[agv]; omega
 have h2:l.length - t=(l.length - (t+1))+1:=by omega
 rw[ahZ _ _ (by omega),h1,agq,h2,agA,List.set_cons_zero,ag8 ht,af7,List.getD_eq_getElem?_getD,List.getElem?_eq_getElem ht];rfl
theorem QS {α:Type} (g:Rat->α) (n:Nat) (f:Nat->Nat->Rat) {t:Nat} (ht:t<n*n) (z:α):∃ a b,a<n/\b<n/\(mat g n f).getD t z=g (f a b):=by
 have hn:0<n:=by
  rcases ag_ n with h0 | h0
  ·rw[h0]at ht; omega
  ·exact h0
 refine⟨t / n,t%n,ahM ht,af4 _ hn,?_⟩;have:=mF g n f (ahM ht) (af4 t hn) z;rw[show t / n*n+t%n=t from by rw[afS]; exact agJ t n]at this;exact this
theorem HV {N n B:Nat} (hF:Fuel N) (hB:B<=2000000000100) (hn:n<=12) {f:Nat->Nat->Rat} (hf:rm B n f) (k:List RY2->Bool) :
  VY N n n (mat dy n f) k=k (mat dy n f):=by
 have hN:=hF.lt;have hl:=tG (n:=n) (by omega)
 (unfold VY; rw[ac]; unfold Tf)
 rw[HO hF hn];have hlen:=qK dy n f;have h0:List.replicate (n*n) (((false,[]),(false,[])):RY2)=(mat dy n f).take 0++List.replicate ((mat dy n f).length - 0) ((false,[]),(false,[])):=by rw[hlen]; rfl
 rw[h0];refine ax (λt:Nat=>((t:Int),(mat dy n f).take t++List.replicate ((mat dy n f).length - t) ((false,[]),(false,[])))) (mat dy n f).length (by omega) ?_ ?_
 ·intro t ht K;unfold Ev;dsimp only;have hfl:=Ft (mat dy n f) (((false,[]),(false,[])):RY2) (t:=t) (by omega);rw[afO (by omega:(t:Int)<((mat dy n f).length:Int)),afR,afV,hfl,aa afN,aa (afO ht),aa afN];obtain⟨a,b,ha,hb,hm⟩:=QS dy n f (t:=t) (by omega) ((false,[]),(false,[]));have hs:=Fu (mat dy n f) (((false,[]),(false,[])):RY2) ht;rw[hm]at hs ⊢;have he:∀ x:Rat,dy x=((decide (x.num<0),aj x.num.natAbs),(false,aj x.den)):=λx=>rfl
  have hset:=λb1 b2 l1 l2 kk=>Om (N:=N) hF hB (hf a b ha hb) b1 b2 l1 l2 kk
  generalize List.take t (mat dy n f)++List.replicate ((mat dy n f).length - t) ((false,[]),false,[])=L at *;rw[he (f a b)];dsimp only;rw[hset];unfold kqR krR;dsimp only;rw[aa afM];exact aiY (λl=>K ((t:Int)+1,l)) hs
 ·intro K;unfold Ev;dsimp only;rw[afP (by omega),afQ,agy,agq,agt,agp]
theorem zf {n:Nat} (hn:n<=12):(1200+1)*4 ^ n<=100000000000:=by
 have h1:4 ^ n<=4 ^ 12:=af5 (by decide) hn;have h2:(4:Nat) ^ 12=16777216:=by decide
 rw[h2]at h1;have h3:(1200+1)*4 ^ n<=(1200+1)*16777216:=afW _ h1;omega
def B7 (n:Nat) (l:List Fl):Prop:=∀ a b,a<n->b<n->fm n l a b=fm n l b a
def pj (n:Nat) (l:List Fl):Bool:=w_ n n 0 3 (fm n l)==3
theorem yJ {N n:Nat} (hF:Fuel N) {l:List Fl} (hn:n<=12) (h:l.length=n*n) (hf:aG l=true) (hw:AllW l) (hs:B7 n l) (k:Ky5) :
  gd N n n l k=k (w_ n n 0 3 (fm n l)) 0:=by
 (unfold gd; rw[ac]; unfold j9)
 rw[DQ hF hn h hf hw];exact K2 hF (by omega) (DE h hf) hs (zf hn) (λt=>k t 0)
theorem no {N n:Nat} (hF:Fuel N) {l:List Fl} (hn:n<=12) (h:l.length=n*n) (hf:aG l=true) (hw:AllW l) (hs:B7 n l) (k:Kz4) :
  xR N n n l k=k (pj n l):=by
 have hN:=hF.lt;unfold xR Wm zb yj;rw[KR hF hn h hf hw];dsimp only
 (unfold Sm; rw[ac]; unfold MC)
 rw[HV (B:=1200) hF (by decide) hn (DE h hf)];exact KU hF (by omega) (λt=>k (t==3)) n 0 1200 N 3 (fm n l) (by omega) (by omega) (DE h hf) (λa b _ _=>hs a b) (zf hn)
end Go.Proofs.YtdinakfmablagaaGreatDoor
