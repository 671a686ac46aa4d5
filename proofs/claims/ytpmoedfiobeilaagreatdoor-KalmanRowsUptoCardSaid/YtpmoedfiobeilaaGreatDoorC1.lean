/- Laws in plain Lean. Conditions: none. -/
import Derived.Test.YtpmoedfiobeilaaGreatDoorGp
import Derived.Test.YtpmoedfiobeilaaGreatDoorBig
set_option linter.defProp false
set_option linter.unusedVariables false
namespace Go.Proofs.YtpmoedfiobeilaaGreatDoor
open Go Go.Mach
def aa {a c:Bool} (h:a=true):(a&&c)=c:=by rw[h]; rfl
def am (z:Int):IntKind.wrap .u64 z=z%18446744073709551616:=by rfl
def dm (z:Int):IntKind.wrap .u32 z=z%4294967296:=by rfl
def jN (z:Int):Int.fdiv z (2 ^ 32)=z / 4294967296:=by rw[aeR _ (by decide)]; rfl
def aE {σ:Type} {step:σ->(σ->Bool)->Bool} {s:σ} (C:Nat->σ) (n:Nat) {N:Nat} (h0:s=C 0) (hn:n<N) {out:Bool} (hs:∀ i,i<n -> ∀ K:σ->Bool,step (C i) K=K (C (i+1))) (hx:∀ K,step (C n) K=out):ai N step s=out:=by subst h0; exact aD C n hn hs hx
def bM (b:List Int):Nat->Nat
 | 0=>0
 | n+1=>if b.getD n 0=0 then bM b n else n+1
def nj (b:List Int) (n:Nat):bM b (n+1)=if b.getD n 0=0 then bM b n else n+1:=rfl
def js (b:List Int):∀ n,bM b n<=n
 | 0=>adx _
 | n+1=>by unfold bM; split; exact Nat.le_succ_of_le (js b n); exact adx _
def d8 {b:List Int} {i:Nat} (h:b.length<=i):b.getD i 0=0:=by rw[List.getD_eq_getElem?_getD,List.getElem?_eq_none h]; rfl
def aN {m:List Int} (i:Nat):aC (m.take (i+1))=aC (m.take i)+4294967296 ^ i*(m.getD i 0).toNat:=by
 by_cases h:i<m.length
 ·exact zh h
 ·rw[d8 (by omega),adI (by omega),adI (by omega)]; simp
def qK (b:List Int):∀ n,aC (b.take (bM b n))=aC (b.take n)
 | 0=>rfl
 | n+1=>by
  unfold bM;split
  ·rename_i h;rw[qK b n,aN,h]; simp
  ·rfl
def getLast?_take {b:List Int} {n:Nat} (h:n<b.length):(b.take (n+1)).getLast? = some (b.getD n 0):=by rw[aeG h,List.getLast?_append,List.getD_eq_getElem?_getD,List.getElem?_eq_getElem h];simp
def qJ (b:List Int):∀ n,n<=b.length -> ∀ x,(b.take (bM b n)).getLast? = some x->x ≠ 0
 | 0,_,x,h=>by simp[bM]at h
 | n+1,hn,x,h=>by
  unfold bM at h;split at h
  ·exact qJ b n (by omega) x h
  ·rename_i h0;rw[getLast?_take (by omega)]at h;cases h; exact h0
def rH {b:List Int} (hb:InW b):b.take (bM b b.length)=aj (aC b):=by have h1:=qK b b.length;rw[ad6]at h1;rw[<- h1,vC (hb.take _) (qJ b b.length (adx _))]
def kF {N:Nat} (b:List Int) (hN:b.length<N) (hs:b.length<9223372036854775807) (k:Kz4):ox N b k=k (bM b b.length):=by
 (unfold ox; rw[ac]; unfold PN)
 have key:∀ n,n<=b.length -> ∀ M,n<M->ai M (uq N 0 b λm=>k m) n=k (bM b n):=by
  intro n;induction n with
  | zero=>
   intro _ M hM;cases M with
   | zero=>omega
   | succ M=>
    show uq N 0 b _ 0 _=_;simp[uq,bM]
  | succ n ih=>
   intro hn M hM;cases M with
   | zero=>omega
   | succ M=>
    show uq N 0 b _ (n+1) (ai M _)=_;have e:Int.toNat (((n+1:Nat):Int) - 1)=n:=by omega
    simp only[uq,e,adR,aft];rw[adk (by omega:((n+1:Nat):Int)>0),aa adi,aa adj,aa (adk (by omega)),aa adi,aa (adk (by omega)),ih (by omega) M (by omega)];rw[nj];by_cases h0:b.getD n 0=0
    ·have:(b.getD n 0==0)=true:=by simpa using h0
     rw[this,if_pos h0]; rfl
    ·have:(b.getD n 0==0)=false:=by simpa using h0
     rw[this,if_neg h0]; rfl
 exact key b.length (adx _) N hN
def GQ {N:Nat} (m:List Int) (hm:InW m) (hN:m.length<N) (hs:m.length<9223372036854775807) (k:Kz7):kL N m k=k (aj (aC m)):=by
 (unfold kL; rw[ac]; unfold vq)
 have key:∀ n,n<9223372036854775807 -> ∀(l:List Int),l.length=n->InW l -> ∀ M,n<M->ai M (fN N λVF=>k VF) l=k (aj (aC l)):=by
  intro n;induction n with
  | zero=>
   intro _ l hl _ M hM;cases M with
   | zero=>omega
   | succ M=>
    have:l=[]:=List.length_eq_zero_iff.1 hl;subst this;show fN N _ [] _=_;simp[fN,aC,aU]
  | succ n ih=>
   intro hn l hl hw M hM;cases M with
   | zero=>omega
   | succ M=>
    show fN N _ l (ai M _)=_;have e:Int.toNat ((l.length:Int) - 1)=n:=by omega
    simp only[fN,e,aeU];rw[adk (by omega:(l.length:Int)>0),aa adi,aa adj,aa adi,aa (adk (by omega)),ih (by omega) (l.take n) (by simp; omega) (hw.take n) M (by omega)];have e2:=aN (m:=l) n;rw[adI (by omega)]at e2;by_cases h0:l.getD n 0=0
    ·have:(l.getD n 0==0)=true:=by simpa using h0
     rw[this];rw[h0]at e2;simp at e2;rw[e2]; rfl
    ·have:(l.getD n 0==0)=false:=by simpa using h0
     rw[this,vC hw (λx hx=>by have:=getLast?_take (b:=l) (n:=n) (by omega);rw[adI (by omega)]at this;rw[this]at hx; cases hx; exact h0)]
     rfl
 exact key m.length hs m rfl hm N hN
def du {N:Nat} (b:List Int) (hb:InW b) (hN:b.length<N) (hs:b.length<9223372036854775807) (k:Kz7) :
  (ox N b λl=>(decide (0+l<=b.length))&&k (List.take l (List.drop 0 b)))=k (aj (aC b)):=by
 rw[kF b hN hs,aeU,rH hb];have:=js b b.length;rw[adk (by omega)]; rfl
def fB (N:Nat) (l:List Int):Prop:=l.length+2<N/\l.length<=17592186044416
def dY (T A i:Nat):(T+4294967296 ^ i*A) / 4294967296 ^ i=T / 4294967296 ^ i+A:=aej _ _ (aew (by decide))
def FT (m:List Int) (i:Nat):aC m=aC (m.take i)+4294967296 ^ (m.take i).length*aC (m.drop i):=by rw[<- qZ,af0]
def bT (m:List Int) (i:Nat):∃ R,aC m=aC (m.take i)+4294967296 ^ i*R:=by
 by_cases h:i<=m.length
 ·refine⟨aC (m.drop i),?_⟩;have:=FT m i
  rwa [ad3,aeO h]at this
 ·exact⟨0,by rw[adI (by omega)]; simp⟩
def be {m:List Int} (h:InW m) (i:Nat):aC (m.take i)<4294967296 ^ i:=by
 have h1:=eS (h.take i);have h2:(m.take i).length<=i:=by simp; omega
 exact adF h1 (adB (by decide) h2)
def lf {S T R i:Nat} (h:S=T+4294967296 ^ (i+1)*R):S / 4294967296 ^ i%4294967296=T / 4294967296 ^ i%4294967296:=by rw[h,ady,adw,dY,aeF]
def A5 {N:Nat} (a b:List Int) (ha:InW a) (hb:InW b) (hl:b.length<=a.length) (hN:fB N a) (k:Kz7) :
  ai N (gp N a b λcarry out=>(inR (a.length:Nat) out.length)&&((decide ((Int.toNat (a.length:Nat))<out.length)) &&
   (ox N (List.set out (Int.toNat (a.length:Nat)) (IntKind.wrap .u32 carry)) λWi=>(decide ((0+Wi)<=(List.length (List.set out (Int.toNat (a.length:Nat)) (IntKind.wrap .u32 carry)))))&&k (List.take Wi (List.drop 0 (List.set out (Int.toNat (a.length:Nat)) (IntKind.wrap .u32 carry)))))))
   (0,0,List.replicate (a.length+1) 0)=k (aj (aC a+aC b)):=by
 obtain⟨hN1,hN2⟩:=hN
 let S:=aC a+aC b
 let T:=λi=>aC (a.take i)+aC (b.take i)
 refine aE (λi=>(((T i / 4294967296 ^ i:Nat):Int),(i:Int),dl S i++List.replicate (a.length+1 - i) 0)) a.length (by simp[T,aC,dl]) (by omega) (λi hi K=>?_) (λK=>?_)
 ·have hx:=ha.at (i:=i);have hy:=hb.at (i:=i);have hT:T (i+1)=T i+4294967296 ^ i*((a.getD i 0).toNat+(b.getD i 0).toNat):=by simp only[T,aN,adC]; omega
  have hq:T (i+1) / 4294967296 ^ i=T i / 4294967296 ^ i+((a.getD i 0).toNat+(b.getD i 0).toNat):=by rw[hT,dY]
  have hc:T i / 4294967296 ^ i<=1:=by
   have h1:=be ha i;have h2:=be hb i;have h3:T i<4294967296 ^ i*2:=by simp only[T]; omega
   have:=(adu (aew (n:=i) (by decide:0<4294967296))).2 (by rw[ado]; exact h3:T i<2*4294967296 ^ i);omega
  have hdiv:T (i+1) / 4294967296 ^ (i+1)=T (i+1) / 4294967296 ^ i / 4294967296:=by rw[ady,adt]
  have hdig:S / 4294967296 ^ i%4294967296=T (i+1) / 4294967296 ^ i%4294967296:=by obtain⟨R1,h1⟩:=bT a (i+1);obtain⟨R2,h2⟩:=bT b (i+1);refine lf (R:=R1+R2) ?_;simp only[S,T];rw[adC]; omega
  have hset:=yq S i (a.length+1) (by omega);have hlen:(dl S i++List.replicate (a.length+1 - i) 0).length=a.length+1:=by simp[al]; omega
  generalize hq':T i / 4294967296 ^ i=q at *;generalize hx':a.getD i 0=x at *;generalize hy':b.getD i 0=y at *;simp only[gp,adr];rw[adk (by omega:(i:Int)<a.length),adn,hx',hy',aa adj,hlen];have hstep:∀ s:Int,s=((q+(x.toNat+y.toNat):Nat):Int)->K ((Int.fdiv s (2 ^ 32)),((i:Int)+1),(List.set (dl S i++List.replicate (a.length+1 - i) 0) i (IntKind.wrap .u32 s)))=K (((T (i+1) / 4294967296 ^ (i+1):Nat):Int),((i+1:Nat):Int),dl S (i+1)++List.replicate (a.length+1 - (i+1)) 0):=by
   intro s hs;have e1:Int.fdiv s (2 ^ 32)=((T (i+1) / 4294967296 ^ (i+1):Nat):Int):=by rw[jN,hdiv,hq,hs]; omega
   have e2:IntKind.wrap .u32 s=((S / 4294967296 ^ i%4294967296:Nat):Int):=by rw[dm,hdig,hq,hs]; omega
   rw[e1,e2,hset]; rfl
  by_cases hib:i<b.length
  ·rw[adk (by omega:(i:Int)<b.length),adn,aa adj,aa adj,aa (adk (by omega)),aa adi];exact hstep _ (by simp only[am]; omega)
  ·rw[adl (by omega:¬(i:Int)<b.length),adm,aa adj,aa (adk (by omega)),aa adi];have hy0:y=0:=by rw[<- hy']; exact d8 (by omega)
   subst hy0;exact hstep _ (by simp only[am]; omega)
 ·simp only[gp];rw[adl (by omega:¬(a.length:Int)<a.length),adm];have hT:T a.length=S:=by simp only[T,S]; rw[ad6,adI hl]
  have hS:S<4294967296 ^ (a.length+1):=by have h1:=eS ha;have h2:=eS hb;have h3:4294967296 ^ b.length<=4294967296 ^ a.length:=adB (by decide) hl;rw[ady];simp only[S]; omega
  have hlen:(dl S a.length++List.replicate (a.length+1 - a.length) 0).length=a.length+1:=by simp[al]
  have e2:IntKind.wrap .u32 ((T a.length / 4294967296 ^ a.length:Nat):Int)=((S / 4294967296 ^ a.length%4294967296:Nat):Int):=by rw[dm,hT]; omega
  have hset:=yq S a.length (a.length+1) (by omega);rw[e2,adr,hset,hlen,aa adj,aa (adk (by omega)),adX,ad0,adW,
   du _ (iN S _) (by rw[al]; omega) (by rw[al]; omega),oX hS]
def LC {N:Nat} (a b:List Int) (ha:InW a) (hb:InW b) (hNa:fB N a) (hNb:fB N b) (k:Kz7):ue N a b k=k (aj (aC a+aC b)):=by
 (unfold ue; rw[ac]; unfold tA)
 have h1:=hNa.2;have h2:=hNb.2;by_cases h:a.length<b.length
 ·rw[adk (by omega:(a.length:Int)<b.length),adn,aa adi,aa (cb (by omega) (by omega) (by omega) (by omega))];have e:Int.toNat ((b.length:Int)+1)=b.length+1:=by omega
  rw[e,A5 b a hb ha (by omega) hNb k,afg]
 ·rw[adl (by omega:¬(a.length:Int)<b.length),adm,aa adi,aa (cb (by omega) (by omega) (by omega) (by omega))];have e:Int.toNat ((a.length:Int)+1)=a.length+1:=by omega
  rw[e,A5 a b ha hb (by omega) hNa k]
def aR (i:Nat):0<4294967296 ^ i:=aew (by decide)
def yG {D e P:Nat} {z:Int} (h:(D:Int)=(e:Int)+(P:Int)*z) (he:e<P):((D / P:Nat):Int)=z:=by
 have hP:(P:Int) ≠ 0:=by omega
 rw[Int.natCast_ediv,h,Int.add_mul_ediv_left _ _ hP,<- Int.natCast_ediv,adS he];simp
def ne (P A B x y:Nat) (hA:A<P) (hB:B<P):(if A+P*x<B+P*y then 1 else 0)=if x<y+(if A<B then 1 else 0)then 1 else(0:Nat):=by
 by_cases hxy:x<y
 ·have:P*(x+1)<=P*y:=ads P hxy;rw[adC]at this;rw[if_pos (by omega),if_pos (by omega)]
 ·by_cases hyx:y<x
  ·have:P*(y+1)<=P*x:=ads P hyx;rw[adC]at this;rw[if_neg (by omega),if_neg (by split <;> omega)]
  ·have:x=y:=by omega
   subst this;by_cases hAB:A<B
   ·rw[if_pos (by omega),if_pos hAB,if_pos (by omega)]
   ·rw[if_neg (by omega),if_neg hAB,if_neg (by omega)]
def C0 {P A B x y o R1 R2 D a b:Nat} (hA:A<P) (hB:B<P) (ho:o=if A<B then 1 else 0) (h1:a=A+P*x+P*4294967296*R1) (h2:b=B+P*y+P*4294967296*R2) (hD:(D:Int)=(a:Int) - (b:Int)) :
  ((D / P:Nat):Int)=(x:Int) - (y:Int) - (o:Int)+4294967296*((R1:Int) - (R2:Int)):=by
 have he:∃ e:Nat,e<P/\(e:Int)=(A:Int) - (B:Int)+(P:Int)*(o:Int):=by
  rw[ho];split
  ·exact⟨A+P - B,by omega,by omega⟩
  ·exact⟨A - B,by omega,by omega⟩
 obtain⟨e,he1,he2⟩:=he;refine yG (e:=e) ?_ he1;have e1:(a:Int)=A+(P:Int)*x+4294967296*((P:Int)*R1):=by rw[h1,adw,adN]; simp
 have e2:(b:Int)=B+(P:Int)*y+4294967296*((P:Int)*R2):=by rw[h2,adw,adN]; simp
 have e3:(P:Int)*((x:Int) - (y:Int) - (o:Int)+4294967296*((R1:Int) - (R2:Int)))=(P:Int)*x - (P:Int)*y - (P:Int)*o+(4294967296*((P:Int)*R1) - 4294967296*((P:Int)*R2)):=by rw[Int.mul_add,afK,afK,Int.mul_left_comm,afK,afK]
 rw[hD,e1,e2,e3,he2];omega
def vQ {N:Nat} (a b:List Int) (ha:InW a) (hb:InW b) (hle:aC b<=aC a) (hN:fB N a) (k:Kz7):lH N a b k=k (aj (aC a - aC b)):=by
 obtain⟨hN1,hN2⟩:=hN
 (unfold lH; rw[ac]; unfold qr)
 rw[aa (cb (by omega) (by omega) (by omega) (by omega)),adr]
 let D:=aC a - aC b
 let bo:=λi=>if aC (a.take i)<aC (b.take i)then(1:Nat)else 0
 refine aE (λi=>(((bo i:Nat):Int),(i:Int),dl D i++List.replicate (a.length - i) 0)) a.length (by simp[bo,aC,dl]) (by omega) (λi hi K=>?_) (λK=>?_)
 ·have hx:=ha.at (i:=i);have hy:=hb.at (i:=i);have hA:=aN (m:=a) i;have hB:=aN (m:=b) i;have hAl:=be ha i;have hBl:=be hb i;have hset:=yq D i a.length (by omega);have hl:(dl D i++List.replicate (a.length - i) 0).length=a.length:=by simp[al]; omega
  obtain⟨R1,h1⟩:=bT a (i+1);obtain⟨R2,h2⟩:=bT b (i+1);have hD:(D:Int)=(aC a:Int) - (aC b:Int):=by simp only[D]; omega
  have hP:=aR i;have hPs:4294967296 ^ (i+1)=4294967296 ^ i*4294967296:=ady ..;have hbo:bo i<=1:=by simp only[bo]; split <;> omega
  have hbs:bo (i+1)=if (a.getD i 0).toNat<(b.getD i 0).toNat+bo i then 1 else 0:=by simp only[bo,hA,hB];exact ne _ _ _ _ _ hAl hBl
  have hq:((D / 4294967296 ^ i:Nat):Int)=((a.getD i 0).toNat:Int) - ((b.getD i 0).toNat:Int) - (bo i:Int)+4294967296*((R1:Int) - (R2:Int)):=by rw[hA,hPs]at h1;rw[hB,hPs]at h2;exact C0 hAl hBl rfl h1 h2 hD
  have hdig:((D / 4294967296 ^ i%4294967296:Nat):Int)=(((a.getD i 0).toNat:Int) - ((b.getD i 0).toNat:Int) - (bo i:Int))%4294967296:=by rw[Int.natCast_emod,hq];exact Int.add_mul_emod_self_left _ _ _
  generalize hx':a.getD i 0=x at *;generalize hy':b.getD i 0=y at *;generalize bo i=o at *;generalize bo (i+1)=o' at *;simp only[kh,adr];have hy0:¬ i<b.length->y=0:=λh=>by rw[<- hy']; exact d8 (by omega)
  have fin:∀(v w:Int),v=(o':Int)->w%4294967296=((D / 4294967296 ^ i%4294967296:Nat):Int)->K (v,(i:Int)+1,List.set (dl D i++List.replicate (a.length - i) 0) i (IntKind.wrap .u32 w))=K ((o':Int),((i+1:Nat):Int),dl D (i+1)++List.replicate (a.length - (i+1)) 0):=by intro v w hv hw;rw[hv,dm,hw,hset]; rfl
  simp only[hx',hy',hl];rw[adk (by omega:(i:Int)<a.length),adn];by_cases hib:i<b.length
  ·rw[adk (by omega:(i:Int)<b.length),adn,aa adj,aa adj];by_cases hlt:x.toNat<y.toNat+o
   ·rw[adk (by simp only[am]; omega),adn,aa adj,aa (adk (by omega)),aa adi];rw[if_pos hlt]at hbs;exact fin _ _ (by omega) (by rw[hdig]; simp only[am]; omega)
   ·rw[adl (by simp only[am]; omega),adm,aa adj,aa (adk (by omega)),aa adi];rw[if_neg hlt]at hbs;exact fin _ _ (by omega) (by rw[hdig]; simp only[am]; omega)
  ·have hy1:=hy0 hib;rw[adl (by omega:¬(i:Int)<b.length),adm,aa adj];by_cases hlt:x.toNat<y.toNat+o
   ·rw[adk (by simp only[am]; omega),adn,aa adj,aa (adk (by omega)),aa adi];rw[if_pos hlt]at hbs;exact fin _ _ (by omega) (by rw[hdig]; simp only[am]; omega)
   ·rw[adl (by simp only[am]; omega),adm,aa adj,aa (adk (by omega)),aa adi];rw[if_neg hlt]at hbs;exact fin _ _ (by omega) (by rw[hdig]; simp only[am]; omega)
 ·simp only[kh];rw[adl (by omega:¬(a.length:Int)<a.length),adm,adX,ad0,adW];have hS:D<4294967296 ^ a.length:=by have:=eS ha; simp only[D]; omega
  rw[du _ (iN D _) (by rw[al]; omega) (by rw[al]; omega),oX hS]
def cl (a c s:Nat) (ha:a<2 ^ s) (hlt:2 ^ s*c+a<18446744073709551616):aA .or .u64 (a:Int) ((2 ^ s*c:Nat):Int)=((2 ^ s*c+a:Nat):Int):=by
 unfold aA pV;simp only[ad_];have e:((BitVec.ofInt (IntKind.bits .u64) (a:Int)) ||| (BitVec.ofInt (IntKind.bits .u64) ((2 ^ s*c:Nat):Int))).toNat=2 ^ s*c+a:=by
  show((BitVec.ofInt 64 (a:Int)) ||| (BitVec.ofInt 64 ((2 ^ s*c:Nat):Int))).toNat=_;have h64:(2:Nat) ^ 64=18446744073709551616:=by decide
  rw[BitVec.toNat_or,aev,aev,aeD,aeD,adv (by omega),adv (by omega),Nat.or_comm,<- agh ha]
 rw[e,vk _ hlt]
def EH (n:Nat) (h:n<4294967296):IntKind.wrap .u32 (n:Int)=n:=by rw[dm]; omega
def pW (a c s:Nat) (ha:a<2 ^ s) (hlt:2 ^ s*c+a<4294967296):aA .or .u32 (a:Int) ((2 ^ s*c:Nat):Int)=((2 ^ s*c+a:Nat):Int):=by
 unfold aA pV;simp only[ad_];have e:((BitVec.ofInt (IntKind.bits .u32) (a:Int)) ||| (BitVec.ofInt (IntKind.bits .u32) ((2 ^ s*c:Nat):Int))).toNat=2 ^ s*c+a:=by
  show((BitVec.ofInt 32 (a:Int)) ||| (BitVec.ofInt 32 ((2 ^ s*c:Nat):Int))).toNat=_;have h32:(2:Nat) ^ 32=4294967296:=by decide
  rw[BitVec.toNat_or,aev,aev,aeD,aeD,adv (by omega),adv (by omega),Nat.or_comm,<- agh ha]
 rw[e,EH _ hlt]
def dD (x y:Nat):Int:=if x<y then -1 else if x=y then 0 else 1
def KI {P A B x y:Nat} (hA:A<P) (h:x<y):dD (A+P*x) (B+P*y) = -1:=by have:P*(x+1)<=P*y:=ads P h;rw[adC]at this;unfold dD;rw[if_pos (by omega)]
def KH {P A B x y:Nat} (hB:B<P) (h:y<x):dD (A+P*x) (B+P*y)=1:=by have:P*(y+1)<=P*x:=ads P h;rw[adC]at this;unfold dD;rw[if_neg (by omega),if_neg (by omega)]
def CO {P A B x:Nat}:dD (A+P*x) (B+P*x)=dD A B:=by
 unfold dD;by_cases h3:A<B
 ·rw[if_pos h3,if_pos (by omega)]
 ·by_cases h4:A=B
  ·subst h4; simp
  ·rw[if_neg h3,if_neg h4,if_neg (by omega),if_neg (by omega)]
def Bt {N:Nat} (a b:List Int) (ha:InW a) (hb:InW b) (hl:a.length=b.length) (hs:a.length<9223372036854775807) (k:Kz3) :
  ∀ n,n<=a.length -> ∀ M,n<M->ai M (uk N a b (λt4=>k t4) (k 0)) ((n:Int) - 1)=k (dD (aC (a.take n)) (aC (b.take n))):=by
 intro n;induction n with
 | zero=>
  intro _ M hM;cases M with
  | zero=>omega
  | succ M=>
   show uk N a b _ _ ((0:Nat) - 1:Int) _=_;simp[uk,dD,aC]
 | succ n ih=>
  intro hn M hM;cases M with
  | zero=>omega
  | succ M=>
   show uk N a b _ _ (((n+1:Nat):Int) - 1) (ai M _)=_;have e:(((n+1:Nat):Int) - 1)=(n:Int):=by omega
   have hx:=ha.at (i:=n);have hy:=hb.at (i:=n);have hA:=aN (m:=a) n;have hB:=aN (m:=b) n;have hAl:=be ha n;have hBl:=be hb n;rw[e];simp only[uk,adr];rw[hA,hB,adk (by omega:(n:Int)>=0),adn,aa adj,aa adj,aa adj,aa adj,aa adi,ih (by omega) M (by omega)];by_cases h1:a.getD n 0<b.getD n 0
   ·rw[adk h1,adn,KI hAl (by omega)]
   ·rw[adl h1,adm];by_cases h2:a.getD n 0>b.getD n 0
    ·rw[adk h2,adn,KH hBl (by omega)]
    ·rw[adl h2,adm];have:a.getD n 0=b.getD n 0:=by omega
     rw[this,CO]
def bQ {x y:Nat} (h:x<=y):(aj x).length<=(aj y).length:=by
 induction y using Nat.strongRecOn generalizing x with
 | ind y ih=>
  by_cases hx:x=0
  ·subst hx; rw[aU]; simp
  ·rw[b_ hx,b_ (by omega:y ≠ 0)];simp only[adZ];have:=ih (y / 4294967296) (by omega) (x:=x / 4294967296) (afD h);omega
def jy {N:Nat} (x y:Nat) (hx:fB N (aj x)) (hy:fB N (aj y)) (k:Kz3):w_ N (aj x) (aj y) k=k (dD x y):=by
 (unfold w_; rw[ac]; unfold Jy)
 obtain⟨x1,x2⟩:=hx;obtain⟨y1,y2⟩:=hy;by_cases h:(aj x).length=(aj y).length
 ·have e:(((aj x).length:Int) != (aj y).length)=false:=by rw[h]; simp
  rw[e,adm,aa adi,Bt (aj x) (aj y) (aY x) (aY y) h (by omega) k _ (adx _) N (by omega),ad6,h,ad6,aI,aI]
 ·have e:(((aj x).length:Int) != (aj y).length)=true:=by simp; omega
  rw[e,adn];by_cases h1:(aj x).length<(aj y).length
  ·rw[adk (by omega),adn];have:x<y:=by
    rcases aen x y with h2 | h2
    ·exact h2
    ·have:=bQ h2; omega
   unfold dD; rw[if_pos this]
  ·rw[adl (by omega),adm];have:¬ x<=y:=λh2=>by have:=bQ h2; omega
   unfold dD; rw[if_neg (by omega),if_neg (by omega)]
def bl (n:Nat):Nat:=if n=0 then 0 else n.log2+1
def k9 {n:Nat} (j:Nat) (h:2 ^ j<=n):bl n=j+bl (n / 2 ^ j):=by
 have hp:0<2 ^ j:=adz j;have h0:n ≠ 0:=by omega
 have h1:n / 2 ^ j ≠ 0:=by have:=afL h hp;omega
 unfold bl;rw[if_neg h0,if_neg h1];have hj:j<=n.log2:=(Nat.le_log2 h0).2 h;have:(n / 2 ^ j).log2=n.log2 - j:=by
  rw[Nat.log2_eq_iff h1];have h2:=Nat.log2_self_le h0;have h3:n<2 ^ (n.log2+1):=Nat.lt_log2_self;constructor
  ·rw[ae5 hp,<- adE];rw[show n.log2 - j+j=n.log2 by omega]; exact h2
  ·rw[adu hp,<- adE];rw[show n.log2 - j+1+j=n.log2+1 by omega]; exact h3
 omega
def SI:∀ i:Fin 256,ay.getD i.val 0=(bl i.val:Int):=by decide +kernel
def MZ {i:Nat} (h:i<256):ay.getD i 0=(bl i:Int):=SI ⟨i,h⟩
def CC {n:Nat} (h:n<256):bl n<=8:=by
 unfold bl;split
 ·omega
 ·rename_i h0;have:=(Nat.log2_lt h0).2 (by simpa using h:n<2 ^ 8);omega
def Pw (z:Int):IntKind.wrap .u8 z=z%256:=by rfl
def O3 (z:Int):Int.fdiv z (2 ^ 8)=z / 256:=by rw[aeR _ (by decide)]; rfl
def K2 (z:Int):Int.fdiv z (2 ^ 16)=z / 65536:=by rw[aeR _ (by decide)]; rfl
def AJ (N:Nat) (x:Nat) (h:x<4294967296) (k:Kz3):Hl N (x:Int) k=k (bl x:Int):=by
 (unfold Hl; rw[ac]; unfold JX)
 simp only[O3,K2,Pw];have key:∀(z:Int) (m:Nat),z=(m:Int)->m<256 -> ∀ c:Nat,c<=32->((inR z 256)&&((ah .i64 (List.getD ay (Int.toNat z) 0))&&((ah .i64 ((c:Int)+(List.getD ay (Int.toNat z) 0)))&&k ((c:Int)+List.getD ay (Int.toNat z) 0))))=k ((c+bl m:Nat):Int):=by intro z m hz hm c hc;subst hz;have:=CC hm;rw[adr,MZ hm,aa adj,aa adi,aa adi];rfl
 by_cases h16:65536<=x
 ·rw[adk (by omega:(x:Int)>=65536),adn];have e16:=k9 (n:=x) 16 (by simpa using h16);have p16:(2:Nat) ^ 16=65536:=by decide
  have p8:(2:Nat) ^ 8=256:=by decide
  rw[p16]at e16;by_cases h8:256<=x / 65536
  ·rw[adk (by omega:(x:Int) / 65536>=256),adn];have e8:=k9 (n:=x / 65536) 8 (by simpa using h8);rw[p8]at e8;have:=key ((x:Int) / 65536 / 256%256) (x / 65536 / 256) (by omega) (by omega) 24 (by omega);rw[show((24:Nat):Int)=24 from rfl]at this;rw[this]; congr 2; omega
  ·rw[adl (by omega:¬(x:Int) / 65536>=256),adm];have:=key ((x:Int) / 65536%256) (x / 65536) (by omega) (by omega) 16 (by omega);rw[show((16:Nat):Int)=16 from rfl]at this;rw[this]; congr 2; omega
 ·rw[adl (by omega:¬(x:Int)>=65536),adm];by_cases h8:256<=x
  ·rw[adk (by omega:(x:Int)>=256),adn];have e8:=k9 (n:=x) 8 (by simpa using h8);rw[show(2:Nat) ^ 8=256 by decide]at e8;have:=key ((x:Int) / 256%256) (x / 256) (by omega) (by omega) 8 (by omega);rw[show((8:Nat):Int)=8 from rfl]at this;rw[this]; congr 2; omega
  ·rw[adl (by omega:¬(x:Int)>=256),adm];have:=key ((x:Int)%256) x (by omega) (by omega) 0 (by omega);rw[show((0:Nat):Int)=0 from rfl]at this;rw[this]; congr 2; omega
def qL:∀ n,n ≠ 0->bl n=32*((aj n).length - 1)+bl ((aj n).getD ((aj n).length - 1) 0).toNat/\0<(aj n).length:=by
  intro n;induction n using Nat.strongRecOn with
  | ind n ih=>
    intro h;rw[b_ h];by_cases h1:n / 4294967296=0
    · rw[h1,aU]
      have:n%4294967296=n:=adv (by omega);simp[this]
    · obtain⟨i1,i2⟩:=ih (n / 4294967296) (by omega) h1
      have e:=k9 (n:=n) 32 (by have:(2:Nat) ^ 32=4294967296:=(by decide); omega);rw[show(2:Nat) ^ 32=4294967296 by decide]at e;refine⟨?_,by simp⟩;have e2:(((n%4294967296:Nat):Int)::aj (n / 4294967296)).getD ((((n%4294967296:Nat):Int)::aj (n / 4294967296)).length - 1) 0=(aj (n / 4294967296)).getD ((aj (n / 4294967296)).length - 1) 0:=by
        simp only[adZ,afO];generalize aj (n / 4294967296)=l at i2 ⊢;cases l with
        | nil=>simp at i2
        | cons y l=>simp
      rw[e2,e,i1];simp only[adZ];omega
def yP {N:Nat} (g:Bool) (n:Nat) (hs:fB N (aj n)) (k:Kz3):Jd N g (aj n) k=k (bl n:Int):=by
  (unfold Jd; rw[ac]; unfold Qa)
  obtain⟨s1,s2⟩:=hs;by_cases h:n=0
  · subst h; rw[aU]; rfl
  · obtain⟨e1,e2⟩:=qL n h
    have e0:(((aj n).length:Int)==0)=false:=by simp; intro h'; rw[h']at e2; simp at e2
    have e3:Int.toNat (((aj n).length:Int) - 1)=(aj n).length - 1:=by omega
    have hw:=(aY n).at (i:=(aj n).length - 1);have hb:bl ((aj n).getD ((aj n).length - 1) 0).toNat<=32:=by
      unfold bl; split
      · omega
      · rename_i h0
        have:=(Nat.log2_lt h0).2 (by have:(2:Nat) ^ 32=4294967296:=(by decide); omega:((aj n).getD ((aj n).length - 1) 0).toNat<2 ^ 32);omega
    have e4:(aj n).getD ((aj n).length - 1) 0=((((aj n).getD ((aj n).length - 1) 0).toNat:Nat):Int):=by omega
    rw[e0,adm,aa adi,aa adi,aa adi,aa adj,e3,e4,AJ N _ (by omega),aa adi];congr 1; omega
def tL:∀(w X:Nat),dl (4294967296 ^ w*X) w=List.replicate w 0:=by
 intro w;have key:∀ n,n<=w -> ∀ X,dl (4294967296 ^ w*X) n=List.replicate n 0:=by
  intro n;induction n with
  | zero=>intro _ X; rfl
  | succ n ih=>
   intro hn X;rw[dl,ih (by omega),aeY];have e:4294967296 ^ w*X=4294967296 ^ n*(4294967296*(4294967296 ^ (w - n - 1)*X)):=by rw[<- adw,<- adw,<- ady,<- adE];congr 2; omega
   rw[e,adY _ (aR n),agv];rfl
 exact key w (adx _)
def u7 (n:Nat):2 ^ n=4294967296 ^ (n / 32)*2 ^ (n%32):=by
 have:(4294967296:Nat)=2 ^ 32:=by decide
 rw[this,<- agi,<- adE];congr 1; omega
def aX {α:Type} (xs:List α) (y:α) (ys:List α) (z:α) (n:Nat) (h:n=xs.length):(xs++y::ys).set n z=xs++z::ys:=by subst h; rw[afw _ _ (adx _),adX]; rfl
def bR {xs:List Int} {y:Int} {ys:List Int} {n:Nat} (h:n=xs.length):(xs++y::ys).getD n 0=y:=by subst h; rw[List.getD_eq_getElem?_getD,List.getElem?_append_right (adx _),adX]; rfl
def Ly {N:Nat} (m:List Int) (hm:InW m) (n:Nat) (hn:n<4294967296) (hN:m.length+n / 32+4<N) (hs:m.length<=1099511627776) (k:Kz7):uc N m n k=k (aj (aC m*2 ^ n)):=by
 (unfold uc; rw[ac]; unfold tz)
 by_cases h0:m.length=0
 ·have:m=[]:=List.length_eq_zero_iff.1 h0;subst this;simp[aC,aU]
 ·have e0:((m.length:Int)==0)=false:=by simp; intro h; subst h; simp at h0
  have ew:IntKind.wrap .u64 (Int.tdiv (n:Int) 32)=((n / 32:Nat):Int):=by rw[am,aer (by omega)]; omega
  have es:Int.tmod (n:Int) 32=((n%32:Nat):Int):=by rw[aeg (by omega)]; rfl
  rw[e0,adm,ew,es];generalize hw:n / 32=w at *;generalize hsh:n%32=s at *;have hs32:s<32:=by omega
  have hp2:2 ^ n=4294967296 ^ w*2 ^ s:=by rw[u7,hw,hsh]
  have hs0:0<2 ^ s:=adz s;have hs1:2 ^ s*2 ^ (32 - s)=4294967296:=by rw[<- adE,show s+(32 - s)=32 by omega]
  have hs2:2 ^ s<=2147483648:=by have:2 ^ s<=2 ^ 31:=adB (by decide) (by omega);simpa using this
  have elen:Int.toNat (((w:Nat):Int)+(m.length:Int)+1)=w+m.length+1:=by omega
  rw[aa adi,aa adi,aa adi,aa (cb (by omega) (by omega) (by omega) (by omega)),elen]
  let V:=aC m*2 ^ n
  let X:=aC m*2 ^ s
  have hVX:V=4294967296 ^ w*X:=by simp only[V,X]; rw[hp2,adN]
  let T:=λi=>aC (m.take i)*2 ^ s
  let c:=λi=>T i / 4294967296 ^ i
  refine aE (λi=>((i:Int),dl V (w+i)++((c i:Nat):Int)::List.replicate (m.length - i) 0)) m.length ?_ (by omega) (λi hi K=>?_) (λK=>?_)
  ·congr 1;show List.replicate (w+m.length+1) (0:Int)=dl V w++((c 0:Nat):Int)::List.replicate m.length 0;rw[hVX,tL];have hc0:c 0=0:=by simp[c,T,aC]
   rw[hc0];have:w+m.length+1=w+(m.length+1):=by omega
   rw[this,<- ae2,ad8]; rfl
  ·have hx:=hm.at (i:=i);have hT:T (i+1)=T i+4294967296 ^ i*((m.getD i 0).toNat*2 ^ s):=by simp only[T,aN,adQ,adw]
   have hq:T (i+1) / 4294967296 ^ i=c i+(m.getD i 0).toNat*2 ^ s:=by rw[hT,dY]
   have hci:c i<2 ^ s:=by simp only[c,T];rw[adu (aR i),ado];exact aex (be hm i) hs0
   have hc1:c (i+1)=(c i+(m.getD i 0).toNat*2 ^ s) / 4294967296:=by rw[<- hq]; simp only[c]; rw[ady,adt]
   have hdig:V / 4294967296 ^ (w+i)%4294967296=(c i+(m.getD i 0).toNat*2 ^ s)%4294967296:=by rw[<- hq,hVX,adE,<- adt,adY _ (aR w)];obtain⟨R,hR⟩:=bT m (i+1);refine lf (R:=R*2 ^ s) ?_;simp only[X,T];rw[hR,adQ,adw]
   have hrep:List.replicate (m.length - i) (0:Int)=0::List.replicate (m.length - (i+1)) 0:=by rw[show m.length - i=(m.length - (i+1))+1 by omega,ad8]
   have hdl:=al V (w+i);have ei:Int.toNat ((w:Int)+(i:Int))=w+i:=by omega
   have ei1:Int.toNat ((w:Int)+(i:Int)+1)=w+i+1:=by omega
   have emin:min s 64=s:=by omega
   simp only[eF,adr,ei,ei1,emin];rw[hrep,bR hdl.symm,aX _ _ _ _ _ hdl.symm];have et:IntKind.wrap .u64 (IntKind.wrap .u64 (m.getD i 0)*2 ^ s)=(((m.getD i 0).toNat*2 ^ s:Nat):Int):=by
    have hxs:(m.getD i 0).toNat*2 ^ s<4294967296*2147483648:=ad7 (by omega) hs2 (by decide);have e1:IntKind.wrap .u64 (m.getD i 0)=(((m.getD i 0).toNat:Nat):Int):=by rw[am]; omega
    have e2:(((m.getD i 0).toNat:Nat):Int)*2 ^ s=(((m.getD i 0).toNat*2 ^ s:Nat):Int):=by simp
    rw[e1,e2,am]; omega
   rw[et];generalize hxx:(m.getD i 0).toNat=x at *;have hx32:x<4294967296:=by omega
   have hlow:x*2 ^ s%4294967296=2 ^ s*(x%2 ^ (32 - s)):=by
    have e:x*2 ^ s%(2 ^ s*2 ^ (32 - s))=2 ^ s*(x%2 ^ (32 - s)):=by rw[ado x]; exact ae9 _ _ _
    rwa [hs1]at e
   have hsum:2 ^ s*(x%2 ^ (32 - s))+c i<4294967296:=by have h1:x%2 ^ (32 - s)+1<=2 ^ (32 - s):=adA _ (adz _);have h2:=ads (2 ^ s) h1;rw[hs1,adC]at h2;omega
   have eor:aA .or .u32 ((c i:Nat):Int) (IntKind.wrap .u32 ((x*2 ^ s:Nat):Int))=((V / 4294967296 ^ (w+i)%4294967296:Nat):Int):=by
    have e1:IntKind.wrap .u32 ((x*2 ^ s:Nat):Int)=((2 ^ s*(x%2 ^ (32 - s)):Nat):Int):=by rw[<- hlow,dm]; omega
    rw[e1,pW _ _ s hci hsum,hdig];omega
   have ehi:IntKind.wrap .u32 (Int.fdiv ((x*2 ^ s:Nat):Int) (2 ^ 32))=((c (i+1):Nat):Int):=by have hxs:x*2 ^ s<4294967296*2147483648:=ad7 hx32 hs2 (by decide);rw[jN,dm,hc1];omega
   rw[eor,ehi];have hl1:∀(a b:Int) (ys:List Int),(dl V (w+i)++a::b::ys).length=w+i+2+ys.length:=by intro a b ys; simp[hdl]; omega
   have hset2:(dl V (w+i)++((V / 4294967296 ^ (w+i)%4294967296:Nat):Int)::0::List.replicate (m.length - (i+1)) 0).set (w+i+1) ((c (i+1):Nat):Int)=dl V (w+(i+1))++((c (i+1):Nat):Int)::List.replicate (m.length - (i+1)) 0:=by
    have:dl V (w+i)++((V / 4294967296 ^ (w+i)%4294967296:Nat):Int)::0::List.replicate (m.length - (i+1)) 0=dl V (w+(i+1))++0::List.replicate (m.length - (i+1)) 0:=by rw[<- ad5,dl]; simp
    rw[this];exact aX _ _ _ _ _ (by rw[al]; omega)
   rw[hset2,hl1,hl1];simp only[aeJ];rw[adk (by omega:(i:Int)<m.length),adn,aa adj,aa (adk (by omega)),aa adi,aa adj,aa (adk (by omega)),aa adj,aa (adk (by omega)),
    aa adi,aa adi,aa adj,aa (adk (by omega)),aa adi]
   rfl
  ·simp only[eF];rw[adl (by omega:¬(m.length:Int)<m.length),adm,adX,ad0];have hV:V<4294967296 ^ (w+m.length+1):=by have h1:=eS hm;simp only[V];rw[hp2,ady,adE,adN,adw];refine aex ?_ (aR w);exact ad7 h1 (by omega) (by decide)
   have hT:T m.length=X:=by simp only[T,X]; rw[ad6]
   have hend:dl V (w+m.length)++[((c m.length:Nat):Int)]=dl V (w+m.length+1):=by
    rw[dl];have:c m.length=V / 4294967296 ^ (w+m.length)%4294967296:=by simp only[c];rw[hT,hVX,adE,<- adt,adY _ (aR w)];rw[adv];rw[adu (aR _),ado];have h1:=eS hm;simp only[X];exact ad7 h1 (by omega) (by decide)
    rw[this]
   rw[hend,du _ (iN V _) (by rw[al]; omega) (by rw[al]; omega),oX hV]
def Ax {m:List Int} (hm:InW m) (j:Nat):∃ R,aC m / 4294967296 ^ j=(m.getD j 0).toNat+4294967296*(m.getD (j+1) 0).toNat+4294967296*4294967296*R:=by
 obtain⟨R,hR⟩:=bT m (j+2);refine⟨R,?_⟩;rw[hR,aN,aN];simp only[ady];have e:aC (m.take j)+4294967296 ^ j*(m.getD j 0).toNat+4294967296 ^ j*4294967296*(m.getD (j+1) 0).toNat+4294967296 ^ j*4294967296*4294967296*R
   = aC (m.take j)+4294967296 ^ j*((m.getD j 0).toNat+4294967296*(m.getD (j+1) 0).toNat+4294967296*4294967296*R):=by
  rw[adC,adC,adw,adw,adw,adw]; omega
 rw[e,dY,adS (be hm j),adR]
def sA {N:Nat} (n:Nat) (hn:n<18446744073709551616) (hN:4<N) (k:Kz7):Ba N n k=k (aj n):=by
 (unfold Ba; rw[ac]; unfold Kd)
 have hw:InW [IntKind.wrap .u32 (n:Int),IntKind.wrap .u32 (Int.fdiv (n:Int) (2 ^ 32))]:=by intro x hx;simp only[dm,jN,aeL,afp,or_false]at hx;rcases hx with rfl | rfl <;> omega
 have hv:aC [IntKind.wrap .u32 (n:Int),IntKind.wrap .u32 (Int.fdiv (n:Int) (2 ^ 32))]=n:=by simp only[aC,dm,jN]; omega
 rw[du _ hw (by simp; omega) (by simp),hv]
def sg (neg:Bool) (n:Nat):Bool:=neg&&decide (n ≠ 0)
def l5 (n:Nat):decide (((aj n).length:Int)>0)=decide (n ≠ 0):=by
 by_cases h:n=0
 ·subst h; rw[aU]; simp
 ·obtain⟨-,h2⟩:=qL n h;rw[adk (by omega),adk h]
def Pb (neg:Bool) (n:Nat) (k:Ky5):cond (neg==true) (k (decide (((aj n).length:Int)>0)) (aj n)) (k false (aj n))=k (sg neg n) (aj n):=by rw[l5];cases neg <;> rfl
def mj {N:Nat} (neg:Bool) (m:List Int) (b:Bool) (hm:InW m) (hN:fB N m) (k:Ky5):xc N neg m b k=k (sg neg (aC m)) (aj (aC m)):=by unfold xc OR;rw[GQ m hm (by have:=hN.1; omega) (by have:=hN.2; omega)];exact Pb neg _ k
def tg {N:Nat} (n:Nat) (hn:n<18446744073709551616) (b:Bool) (hN:fB N (aj n)) (h4:4<N) (k:Ky5):Ox N n b k=k false (aj n):=by
 (unfold Ox; rw[ac]; unfold P7)
 rw[sA n hn h4,mj false _ b (aY n) hN,aI];rfl
def aT (g:Bool) (n:Nat):Int:=if g=true then -(n:Int)else n
def sR (z:Int) (k:Ky5):Bool:=k (decide (z<0)) (aj z.natAbs)
def sF (g:Bool) (n:Nat) (k:Ky5):k (sg g n) (aj n)=sR (aT g n) k:=by
 unfold sR aT sg;cases g
 ·simp only[aeC,adV,afX,aei];rw[adl (by omega)]
 ·simp only[ae0,aet,afY,aei];congr 1;by_cases h:n=0
  ·subst h; rfl
  ·rw[adk h,adk (by omega)]
def Li (z:Int):aT (decide (z<0)) z.natAbs=z:=by
 unfold aT;by_cases h:z<0
 ·rw[adk h]; simp; omega
 ·rw[adl h]; simp; omega
def rV {x y:Nat}:decide (dD x y>=0)=decide (y<=x):=by
 unfold dD;split
 ·rw[adl (by omega),adl (by omega)]
 ·split
  ·rw[adk (by omega),adk (by omega)]
  ·rw[adk (by omega),adk (by omega)]
def Jm (g1 g2 turn:Bool) (n1 n2:Nat) (k:Ky5) :
  cond (g1==(g2 != turn)) (k (sg (g2 != turn) (n1+n2)) (aj (n1+n2))) (cond (decide (dD n1 n2>=0)) (k (sg g1 (n1 - n2)) (aj (n1 - n2))) (k (sg (g2 != turn) (n2 - n1)) (aj (n2 - n1))))
   = sR (aT g1 n1+(if turn=true then -(aT g2 n2)else aT g2 n2)) k:=by
 rw[sF _ _ k,sF _ _ k,sF _ _ k,rV];have key:∀ a b:Int,a=b->sR a k=sR b k:=λa b h=>by rw[h]
 cases g1 <;> cases g2 <;> cases turn <;> simp only[aT] <;> by_cases h:n2<=n1 <;> simp only[h,af_,agp,adn,adm,bne,ae7,aef,ad4,aeC,ae0,adV,(by decide:(false==true)=false),(by decide:(true==false)=false)] <;> refine key _ _ ?_ <;> omega
def IM {N:Nat} (turn b g1:Bool) (n1:Nat) (g2:Bool) (n2:Nat) (h1:fB N (aj n1)) (h2:fB N (aj n2)) (h3:fB N (aj (n1+n2))) (k:Ky5) :
  Ml N turn b g1 (aj n1) g2 (aj n2) k=sR (aT g1 n1+(if turn=true then -(aT g2 n2)else aT g2 n2)) k:=by
 (unfold Ml; rw[ac]; unfold Jz)
 have hs:∀ m,m<=n1+n2->fB N (aj m):=λm hm=>by have:=bQ hm;exact⟨by have:=h3.1; omega,by have:=h3.2; omega⟩
 rw[LC _ _ (aY _) (aY _) h1 h2,jy _ _ h1 h2,aI,aI,mj _ _ _ (aY _) h3,aI,<- Jm];congr 1;by_cases h:n2<=n1
 ·rw[vQ _ _ (aY _) (aY _) (by rw[aI,aI]; exact h) h1,aI,aI,mj _ _ _ (aY _) (hs _ (by omega)),aI,rV,adk h];rfl
 ·rw[vQ _ _ (aY n2) (aY n1) (by rw[aI,aI]; omega) h2,aI,aI,mj _ _ _ (aY _) (hs _ (by omega)),aI,rV,adl h];rfl
def Ir {N:Nat} (b g1:Bool) (n1:Nat) (g2:Bool) (n2:Nat) (h1:fB N (aj n1)) (h2:fB N (aj n2)) (h3:fB N (aj (n1+n2))) (k:Ky5) :
  Mm N b g1 (aj n1) g2 (aj n2) k=sR (aT g1 n1 - aT g2 n2) k:=by
 unfold Mm OO;rw[IM true b g1 n1 g2 n2 h1 h2 h3]; rfl
def TC (N m s:Nat):Prop:=(aj m).length+s / 32+4<N/\(aj m).length<=1099511627776/\s<4294967296/\fB N (aj (m*2 ^ s))
def AL {N:Nat} (s:Nat) (b g:Bool) (n:Nat) (h:TC N n s) (k:Ky5):Hj N s b g (aj n) k=sR (aT g (n*2 ^ s)) k:=by
 (unfold Hj; rw[ac]; unfold JO)
 rw[Ly _ (aY n) s h.2.2.1 h.1 h.2.1,aI,mj _ _ _ (aY _) h.2.2.2,aI,sF _ _ k]
def yS {N:Nat} (n:Nat) (hn:n<9223372036854775808) (hs:fB N (aj n)) (h4:4<N) (k:Ky5):ma N n k=k false (aj n):=by
 (unfold ma uv; unfold Pl; rw[ac]; unfold JW iM)
 have e:IntKind.wrap .u64 (n:Int)=n:=by rw[am]; omega
 rw[adl (by omega:¬(n:Int)<0),adm,e,sA n (by omega) h4,mj _ _ _ (aY _) hs,aI];rfl
def KU:aj 1=[1]:=by rw[b_ (by decide),aU]; rfl
def j6 (a b:Nat):Int.fdiv (a:Int) (b:Int)=((a / b:Nat):Int):=by rw[aeR _ (by omega)]; rfl
def p7 (N:Nat) (k:Kz3):v7 N 52 2047 1075 k=k 9223372036854775808:=by rfl
def lU (N:Nat) (k:Kz3):nP N 52 2047 1075 k=k 9218868437227405312:=by rfl
def jX (N:Nat) (k:Kz3):lG N 52 2047 1075 k=k 4503599627370496:=by rfl
def xt (N:Nat) (k:Kz3):vZ N 52 2047 1075 k=k 9221120237041090561:=by
 (unfold vZ; rw[ac]; unfold vp)
 simp only[lU,jX];exact agy k (by decide)
def NR (N:Nat) (b:Nat) (k:Kz2):Mn N b 52 2047 1075 k=k (isNaN b):=by
 (unfold Mn; rw[ac]; unfold JP)
 simp only[p7,lU,nU];congr 1;rw[aeT,aeM,fk];omega
def cnb (b:Nat):Nat:=if isNaN b then 9221120237041090561 else b
def AO (N:Nat) (b:Nat) (k:Kz3):MF N b 52 2047 1075 k=k (cnb b):=by unfold MF S3;simp only[NR,xt,cnb];cases isNaN b <;> rfl
def AU (N:Nat) (b:Nat) (k:Ky0):Ow N b 52 2047 1075 k=k (aA .and .u64 (cnb b) 9223372036854775808 != 0) ((cnb b / 4503599627370496%2048:Nat):Int) ((cnb b%4503599627370496:Nat):Int):=by
 (unfold Ow; rw[ac]; unfold P6)
 simp only[AO,p7,jX];have e1:(2:Int) ^ (min (Int.toNat 52) 64)=((4503599627370496:Nat):Int):=by decide
 have e2:IntKind.wrap .u64 2047=((2 ^ 11 - 1:Nat):Int):=by decide
 have e3:IntKind.wrap .u64 (4503599627370496 - 1)=((2 ^ 52 - 1:Nat):Int):=by decide
 have e4:decide ((0:Int)<=52)=true:=by decide
 rw[e1,j6,e2,e3,jJ _ _ (by decide),jJ _ _ (by decide),e4,ab (by omega) (by omega)];rfl
def Bs (b:Nat):cls b=if (cnb b / 4503599627370496%2048)=2047 then(if cnb b%4503599627370496=0 then 2 else 1)else if cnb b / 4503599627370496%2048=0 then(if cnb b%4503599627370496=0 then 3 else 4)else 5:=by
 unfold cls cnb;by_cases h:isNaN b=true
 ·rw[if_pos h,if_pos h]; decide
 ·rw[if_neg h,if_neg h];have hn:¬(9218868437227405312<b%9223372036854775808):=λq=>h ((fk b).2 q)
  by_cases h1:b / 4503599627370496%2048=2047
  ·rw[if_pos h1,if_pos h1,if_pos (by omega)]
  ·rw[if_neg h1,if_neg h1]
def AP (N:Nat) (b:Nat) (k:Kz3):Ov N b 52 2047 1075 k=k (cls b):=by
 (unfold Ov; rw[ac]; unfold P5)
 simp only[AU,Bs b];generalize cnb b / 4503599627370496%2048=e;generalize cnb b%4503599627370496=f;have d1:((e:Int)==2047)=decide (e=2047):=by rw[aeT,afl,aeM]; omega
 have d2:((e:Int)==0)=decide (e=0):=by rw[aeT,afl,aeM]; omega
 have d3:((f:Int)==0)=decide (f=0):=by rw[aeT,afl,aeM]; omega
 simp only[bne,d1,d2,d3];by_cases h1:e=2047 <;> by_cases h2:e=0 <;> by_cases h3:f=0 <;> simp[h1,h2,h3]
def Ij (N:Nat) (b:Nat) (k:Kz3):sQ8 N b k=k (cls b):=by unfold sQ8 GQ8;simp only[B3,sH,Bj,AP]
def KK (a b:Nat) (_ha:a<18446744073709551616\/True):decide ((cnb a:Int)=cnb b)=decide (cn (some a)=cn (some b)):=by
 have hq:isNaN 9221120237041090561=true:=by decide
 rw[aeT,aeM,aeM];have cf:∀ c,cn (some c)=if isNaN c=true then none else some c:=λ_=>rfl
 rw[cf,cf];unfold cnb;by_cases h1:isNaN a=true <;> by_cases h2:isNaN b=true
 ·simp[h1,h2]
 ·rw[if_pos h1,if_neg h2,if_pos h1,if_neg h2];refine⟨λh=>?_,λh=>by cases h⟩;have:b=9221120237041090561:=by omega
  rw[this]at h2; exact absurd hq h2
 ·rw[if_neg h1,if_pos h2,if_neg h1,if_pos h2];refine⟨λh=>?_,λh=>by cases h⟩;have:a=9221120237041090561:=by omega
  rw[this]at h1; exact absurd hq h1
 ·simp only[h1,h2,adV,adM,aeC]; omega
def NL (N:Nat) (b:Nat) (k:Kz5):F9 N b k=k (z7 (some b)):=by unfold F9 S2;simp only[B3,zz,nU];rfl
def KM (b:Bool) (k:Kz2):cond b (k true) (k false)=k b:=by cases b <;> rfl
def gW {a c:Bool} (h:a=true):(a&&c)=c:=by rw[h]; rfl
def bJ (N n:Nat):Prop:=n<N/\n<=17592186044416
def ot (l:List Int):List Fl:=l.map λn=>fD n.toNat
def yT {N:Nat} (l:List Int) (hl:bJ N l.length) (k:Kz6):mY N l k=k (ot l):=by
 (unfold mY; rw[ac]; unfold tB)
 refine(aD (λi=>((i:Int),(l.take i).map λn=>fD n.toNat)) l.length hl.1 (λi hi K=>?_) (λK=>?_):_)
 ·have h2:=hl.2;have e1:(l.take (i+1)).map (λn=>fD n.toNat)=(l.take i).map (λn=>fD n.toNat)++[fD (l.getD i 0).toNat]:=by rw[aeG hi,ae4,List.getD_eq_getElem?_getD,List.getElem?_eq_getElem hi]; rfl
  simp only[k8,zz,adr];rw[uC (by omega),adn,gW adj,gW (uC (by simp; omega)),gW adi,e1];rfl
 ·simp only[k8];rw[vB (by omega),adm,ad6]; rfl
def bw (xs:List Fl):Bool:=vz (λi=>bb (xs.getD i none)) xs.length
def mH {N:Nat} (xs:List Fl) (hl:bJ N xs.length) (k:Kz2):u_ N xs k=k (bw xs):=by
 (unfold u_; rw[ac]; unfold JV)
 rw[<- KM (bw xs) k];refine(me (λi=>(i:Int)) (λi=>bb (xs.getD i none)) xs.length hl.1 (λi hi K=>?_) (λK=>?_):_)
 ·have h2:=hl.2;simp only[kd,ME,adr];rw[uC (by omega),adn,gW adj,gW adi];have hc:=CN (xs.getD i none);generalize yg (xs.getD i none)=c at hc ⊢;generalize bb (xs.getD i none)=f at hc ⊢;have d1:(c==1)=decide (c=1):=rfl;have d2:(c==2)=decide (c=2):=rfl;rw[d1,d2];generalize decide (c=1)=u at *;generalize decide (c=2)=v at *;cases u <;> cases v <;> cases f <;> first | rfl | cases hc
 ·simp only[kd];rw[vB (by omega),adm]
def lN:Fl->Nat
 | none=>9221120237041090561
 | some b=>cnb b
def F2 (d:Ieee.Datum) (h:d.isNaN=false):d.order d=some .eq:=by
 cases d with
 | nan s t=>cases h
 | infinity s=>simp[Ieee.Datum.order,compare,compareOfLessAndEq]
 | number s m i=>simp[Ieee.Datum.order,compare,compareOfLessAndEq]
def H6 (b:Nat) (h:isNaN b=false):(Ieee.double.order b b==some .eq)=true:=by unfold Ieee.Format.order;rw[F2 _ h]; rfl
def K5 (b:Nat):feq (some b) (some b) = !isNaN b:=by
 cases h:isNaN b with
 | true=>simp[feq,uD,mR b h]
 | false=>simp only[feq,uD,ad4]; exact H6 b h
def Dn (N:Nat) (x:Fl) (k:Kz3):mX N x k=k (lN x):=by
 unfold mX xQ xa;cases x with
 | none=>rfl
 | some b=>
  rw[K5];simp only[lN,cnb];cases isNaN b <;> rfl
def DP (a b:Nat):Int.tmod (a:Int) (b:Int)=((a%b:Nat):Int):=by rw[aeg (by omega)]; rfl
def AN (N:Nat) (x:Fl) (k:Ky0):nF N x k=k (Int.fdiv (lN x:Int) (2 ^ 63)==1) ((lN x / 4503599627370496%2048:Nat):Int) ((lN x%4503599627370496:Nat):Int):=by
 (unfold nF; rw[ac]; unfold qv)
 simp only[Dn];have e1:(2:Int) ^ 52=((4503599627370496:Nat):Int):=by decide
 have e2:(2048:Int)=((2048:Nat):Int):=rfl;have e3:(4503599627370496:Int)=((4503599627370496:Nat):Int):=rfl;rw[e1,e2,e3,j6,DP,DP,ab (by omega) (by omega)];rfl
def HX (x:Fl):yg x=if (lN x / 4503599627370496%2048)=2047 then(if lN x%4503599627370496=0 then 2 else 1)else if lN x / 4503599627370496%2048=0 then(if lN x%4503599627370496=0 then 3 else 4)else 5:=by
 cases x with
 | none=>decide
 | some b=>exact Bs b
def Ac (N:Nat) (x:Fl) (k:Kz3):rn N x k=k (yg x):=by
 (unfold rn wr; unfold Ps; rw[ac]; unfold Kj)
 simp only[AN,HX x];generalize lN x / 4503599627370496%2048=e;generalize lN x%4503599627370496=f;have d1:((e:Int)==2047)=decide (e=2047):=by rw[aeT,afl,aeM]; omega
 have d2:((e:Int)==0)=decide (e=0):=by rw[aeT,afl,aeM]; omega
 have d3:((f:Int)==0)=decide (f=0):=by rw[aeT,afl,aeM]; omega
 simp only[bne,d1,d2,d3];by_cases h1:e=2047 <;> by_cases h2:e=0 <;> by_cases h3:f=0 <;> simp[h1,h2,h3]
def j4 (N:Nat) (x:Fl) (k:Kz2):A_ N x k=k (bb x):=by
 unfold A_ OW;simp only[Ac];congr 1;have h1:=CN x;have h2:=Nm x;rw[aeT,aeM];cases hf:bb x with
 | true=>
  rw[hf]at h1;simp only[aef,Bool.or_eq_false_iff,afP]at h1;exact⟨λ_=>rfl,λ_=>by omega⟩
 | false=>
  rw[hf]at h1;simp only[ad4,agG,afB]at h1;exact⟨λ_=>by omega,λh=>by cases h⟩
def nN {N:Nat} (xs:List Fl) (hl:bJ N xs.length) (k:Kz2):D4 N xs k=k (bw xs):=by
 (unfold D4; rw[ac]; unfold JF)
 rw[<- KM (bw xs) k];refine(me (λi=>(i:Int)) (λi=>bb (xs.getD i none)) xs.length hl.1 (λi hi K=>?_) (λK=>?_):_)
 ·have h2:=hl.2;simp only[fO,adr,j4];rw[uC (by omega),adn,gW adj,gW adi];cases bb (xs.getD i none) <;> rfl
 ·simp only[fO];rw[vB (by omega),adm]
def Ky (x y:Fl):((lN x:Int)==lN y)=decide (cn x=cn y):=by
 have hq:cn (some 9221120237041090561)=none:=by decide
 have hb:cnb 9221120237041090561=9221120237041090561:=by decide
 have key:∀ x,∃ a,lN x=cnb a/\cn x=cn (some a):=by
  intro x;cases x with
  | none=>exact⟨9221120237041090561,hb.symm,hq.symm⟩
  | some b=>exact⟨b,rfl,rfl⟩
 obtain⟨a,e1,e2⟩:=key x;obtain⟨b,e3,e4⟩:=key y;rw[e1,e2,e3,e4,<- KK a b (.inr trivial)];rfl
def BM (N:Nat) (x y:Fl) (k:Kz2):uf N x y k=k (decide (cn x=cn y)):=by
 (unfold uf; rw[ac]; unfold tC)
 simp only[Dn,Ky]
def Ig {σ:Type} {step:σ->(σ->Bool)->Bool} {s:σ} (C:Nat->σ) (n:Nat) {N:Nat} (h0:s=C 0) (hn:n<N) {out:Bool} (hs:∀ i,i<n -> ∀ K:σ->Bool,step (C i) K=K (C (i+1))) (hx:∀ K,step (C n) K=out):ai N step s=out:=by subst h0; exact aD C n hn hs hx
def nK {n i j:Nat} (hi:i<n) (hj:j<n):i*n+j<n*n:=by have:(i+1)*n<=n*n:=adp n hi;rw[adQ]at this; omega
def w6 {n:Nat} (h:n<=12):n*n<=144:=aee h h
def chk (r c:Int) (xs:List Fl):Int:=if (0<=r/\r<=12)/\(0<=c/\c<=12)then(if (xs.length:Int)=r*c then(if bw xs=true then 0 else 4)else 3)else 1
def Ob {r c:Int} (hr:0<=r/\r<=12) (hc:0<=c/\c<=12):ah .i64 (r*c)=true:=by have h1:0<=r*c:=Int.mul_nonneg hr.1 hc.1;have h2:r*c<=12*12:=Int.mul_le_mul hr.2 hc.2 hc.1 (by decide);exact ab (by omega) (by omega)
def mv {r c:Int} {xs:List Fl}:chk r c xs=0↔((0<=r/\r<=12)/\(0<=c/\c<=12))/\(xs.length:Int)=r*c/\bw xs=true:=by
 unfold chk;split
 ·split
  ·split
   ·simp[*]
   ·simp[*]
  ·simp[*]
 ·simp[*]
def elt (xs:List Fl) (n i j:Nat):Fl:=xs.getD (i*n+j) none
def G8 (V x Bk bk i k:Nat):V%4294967296 ^ (i+k+1)+x*(Bk+4294967296 ^ k*bk)*4294967296 ^ i=(V%4294967296 ^ (i+k)+x*Bk*4294967296 ^ i)+4294967296 ^ (i+k)*(V / 4294967296 ^ (i+k)%4294967296+x*bk):=by rw[Nat.mod_pow_succ,adE];grind
def EZ (V x Bk bk i k:Nat):(V%4294967296 ^ (i+k+1)+x*(Bk+4294967296 ^ k*bk)*4294967296 ^ i) / 4294967296 ^ (i+k+1)=((V%4294967296 ^ (i+k)+x*Bk*4294967296 ^ i) / 4294967296 ^ (i+k)+V / 4294967296 ^ (i+k)%4294967296+x*bk) / 4294967296:=by rw[G8,ady,<- adt,aej _ _ (aew (by decide)),ad5]
def CJ (V x Bk bk i k R:Nat):(V+x*(Bk+4294967296 ^ k*bk+4294967296 ^ (k+1)*R)*4294967296 ^ i) / 4294967296 ^ (i+k)%4294967296=((V%4294967296 ^ (i+k)+x*Bk*4294967296 ^ i) / 4294967296 ^ (i+k)+V / 4294967296 ^ (i+k)%4294967296+x*bk)%4294967296:=by
 have e:V+x*(Bk+4294967296 ^ k*bk+4294967296 ^ (k+1)*R)*4294967296 ^ i=(V%4294967296 ^ (i+k+1)+x*(Bk+4294967296 ^ k*bk)*4294967296 ^ i)+4294967296 ^ (i+k+1)*(V / 4294967296 ^ (i+k+1)+x*R):=by
  have h:=aeh V (4294967296 ^ (i+k+1));have h2:4294967296 ^ (i+k+1)=4294967296 ^ (k+1)*4294967296 ^ i:=by rw[<- adE]; congr 1; omega
  generalize V / 4294967296 ^ (i+k+1)=q at *;generalize V%4294967296 ^ (i+k+1)=r at *;rw[<- h,h2];grind
 rw[lf e,G8,aej _ _ (aew (by decide)),ad5]
def KF {V x Bk i k:Nat} (hx:x<4294967296) (hB:Bk<4294967296 ^ k):(V%4294967296 ^ (i+k)+x*Bk*4294967296 ^ i) / 4294967296 ^ (i+k)<4294967296:=by
 rw[adu (aew (by decide))];have h1:V%4294967296 ^ (i+k)<4294967296 ^ (i+k):=adA _ (aew (by decide));have h2:x*Bk<=4294967295*4294967296 ^ k:=aee (by omega) (by omega);have h3:x*Bk*4294967296 ^ i<=4294967295*4294967296 ^ (i+k):=by
  have:=adp (4294967296 ^ i) h2
  rwa [adw 4294967295,<- adE,afg k i]at this
 omega
def rY (S:Nat) {L i:Nat} (h:i<L):(dl S L).getD i 0=((S / 4294967296 ^ i%4294967296:Nat):Int):=by
 induction L with
 | zero=>omega
 | succ L ih=>
  show((dl S L)++[_]).getD i 0=_;rw[List.getD_eq_getElem?_getD];by_cases hi:i<L
  ·rw[List.getElem?_append_left (by rw[al]; exact hi),<- List.getD_eq_getElem?_getD,ih hi]
  ·have:i=L:=by omega
   subst this;rw[List.getElem?_append_right (by rw[al]; exact adx _),al,adX]; rfl
def db {l:List Int} {n:Nat} (h:n<l.length):l.drop n=l.getD n 0::l.drop (n+1):=by rw[List.drop_eq_getElem_cons h,List.getD_eq_getElem?_getD,List.getElem?_eq_getElem h]; rfl
def p_ {b:List Int} {k:Nat}:aC (b.take (k+1))=aC (b.take k)+4294967296 ^ k*(b.getD k 0).toNat:=aN k
def yp (U V L p:Nat) (h:p<L):(dl U p++(dl V L).drop p).set p ((U / 4294967296 ^ p%4294967296:Nat):Int)=dl U (p+1)++(dl V L).drop (p+1):=by rw[db (by rw[al]; exact h),aX _ _ _ _ _ (by rw[al])];show _=(dl U p++[_])++_;rw[adD]; rfl
def E7 (U V L p:Nat) (h:p<L):(dl U p++(dl V L).drop p).getD p 0=((V / 4294967296 ^ p%4294967296:Nat):Int):=by rw[db (by rw[al]; exact h),bR (by rw[al]),rY V h]
def yo (U V L p:Nat) (h:p<=L):(dl U p++(dl V L).drop p).length=L:=by simp[al]; omega
def H4 {U L p:Nat} (hU:U<4294967296 ^ p) (h:p<=L) {V:Nat} (hV:V<4294967296 ^ p):dl U p++(dl V L).drop p=dl U L:=by
 induction L with
 | zero=>
  have:p=0:=by omega
  subst this; rfl
 | succ L ih=>
  by_cases hp:p=L+1
  ·subst hp; rw[ad9 (by rw[al]; omega),adW]
  ·have hpL:p<=L:=by omega
   have e:∀ X,X<4294967296 ^ p->dl X (L+1)=dl X L++[0]:=by intro X hX;show dl X L++[((X / 4294967296 ^ L%4294967296:Nat):Int)]=_;rw[adS (adF hX (adB (by decide) hpL))]; rfl
   rw[e V hV,e U hU,aep (by rw[al]; exact hpL),<- adD,ih hpL]
def tW {a:List Int} (ha:InW a) (i:Nat):aC (a.take i)<4294967296 ^ i:=be ha i
def tV {x y i j:Nat} (hx:x<4294967296 ^ i) (hy:y<4294967296 ^ j):x*y<4294967296 ^ (i+j):=by rw[adE];exact agD hx hy
def vS {N:Nat} (a b:List Int) (ha:InW a) (hb:InW b) (hN:a.length+b.length+2<N) (hs:a.length+b.length<=17592186044416) (k:Kz7):qe N a b k=k (aj (aC a*aC b)):=by
  (unfold qe; rw[ac]; unfold JB)
  have eL:Int.toNat (((a.length:Nat):Int)+((b.length:Nat):Int))=a.length+b.length:=by omega
  rw[aa adi,aa (cb (by omega) (by omega) (by omega) (by omega)),eL]
  let L:=a.length+b.length
  let B:=aC b
  have hB:B<4294967296 ^ b.length:=eS hb;refine aE (λi=>((i:Int),dl (aC (a.take i)*B) L)) a.length ?_ (by omega) (λi hi K=>?_) (λK=>?_)
  · show((0:Int),List.replicate L (0:Int))=(((0:Nat):Int),dl (aC (a.take 0)*B) L)
    have:=tL L 0;rw[aeK]at this;rw[afF,show aC []=0 from rfl,aeN,this]; rfl
  · simp only[kl]
    rw[adk (by omega:(i:Int)<a.length),adn];have hx:=ha.at (i:=i)
    let V:=aC (a.take i)*B
    let x:=(a.getD i 0).toNat
    let U:=aC (a.take (i+1))*B
    have hU:U=V+x*B*4294967296 ^ i:=by simp only[U,V,x];rw[p_];grind
    have hV:V<4294967296 ^ (i+b.length):=tV (tW ha i) hB;have hUl:U<4294967296 ^ (i+1+b.length):=tV (tW ha (i+1)) hB
    let c:=λj=>(V%4294967296 ^ (i+j)+x*aC (b.take j)*4294967296 ^ i) / 4294967296 ^ (i+j)
    refine aE (λj=>(((c j:Nat):Int),(j:Int),dl U (i+j)++(dl V L).drop (i+j))) b.length ?_ (by omega) (λj hj K'=>?_) (λK'=>?_)
    · show((0:Int),(0:Int),dl V L)=_
      have h0:c 0=0:=by simp only[c,afF,show aC []=0 from rfl,aeK,aeN,adU];exact adS (adA _ (aew (by decide)))
      have hlow:dl U i=dl V i:=by
        have:∀ n,n<=i->dl U n=dl V n:=by
          intro n;induction n with
          | zero=>intro _; rfl
          | succ n ih=>
            intro hn;show dl U n++[_]=dl V n++[_];rw[ih (by omega)];congr 3;have:U=V+4294967296 ^ (n+1)*(x*B*4294967296 ^ (i - (n+1))):=by rw[hU,adN,<- adE,show n+1+(i - (n+1))=i by omega]
            exact lf this
        exact this i (adx _)
      have hsp:dl V i++(dl V L).drop i=dl V L:=by
        have:∀ n,i<=n->dl V i++(dl V n).drop i=dl V n:=by
          intro n;induction n with
          | zero=>intro h; have:i=0:=(by omega); subst this; rfl
          | succ n ih=>
            intro h;by_cases hn:i=n+1
            · subst hn; rw[ad9 (by rw[al]; omega),adW]
            · show dl V i++(dl V n++[_]).drop i=dl V n++[_]
              rw[aep (by rw[al]; omega),<- adD,ih (by omega)]
        exact this L (by simp only[L]; omega)
      rw[h0,adU,hlow,hsp]; rfl
    · have hy:=hb.at (i:=j)
      have hp:i+j<L:=by simp only[L]; omega
      have hlen:=yo U V L (i+j) (by omega);have hget:=E7 U V L (i+j) hp;have hset:=yp U V L (i+j) hp;have hc:=KF (V:=V) (x:=x) (i:=i) (k:=j) (Bk:=aC (b.take j)) (by simp only[x]; omega) (tW hb j);have hstep:=EZ V x (aC (b.take j)) (b.getD j 0).toNat i j;obtain⟨R,hR⟩:=bT b (j+1);have hdig:=CJ V x (aC (b.take j)) (b.getD j 0).toNat i j R;rw[<- p_]at hstep hdig;rw[<- hR]at hdig;have hUe:V+x*aC b*4294967296 ^ i=U:=hU.symm;rw[hUe]at hdig;have hxy:x*(b.getD j 0).toNat<=4294967295*4294967295:=aee (by simp only[x]; omega) (by omega);have eidx:Int.toNat ((i:Int)+(j:Int))=i+j:=by omega
      have hcj:∀ n,c n=(V%4294967296 ^ (i+n)+x*aC (b.take n)*4294967296 ^ i) / 4294967296 ^ (i+n):=λ_=>rfl
      have hax:a.getD i 0=(x:Int):=by simp only[x]; omega
      have hby:b.getD j 0=((b.getD j 0).toNat:Int):=by omega
      simp only[km,adr,eidx,hlen,hget];rw[adk (by omega:(j:Int)<b.length),adn,aa adj,aa adj,aa adi,aa adj,aa (adk (by omega)),aa adi,aa adj,aa (adk (by omega)),aa adi];have ec1:c (j+1)=(c j+V / 4294967296 ^ (i+j)%4294967296+x*(b.getD j 0).toNat) / 4294967296:=hstep;have ed:U / 4294967296 ^ (i+j)%4294967296=(c j+V / 4294967296 ^ (i+j)%4294967296+x*(b.getD j 0).toNat)%4294967296:=hdig;have hcl:c j<4294967296:=hc;rw[ed]at hset;have vlt:V / 4294967296 ^ (i+j)%4294967296<4294967296:=adA _ (by decide);rw[hax,hby,show i+(j+1)=i+j+1 by omega,<- hset];generalize V / 4294967296 ^ (i+j)%4294967296=v at *;generalize (b.getD j 0).toNat=y at *;generalize dl U (i+j)++(dl V L).drop (i+j)=l at *;have et:∀ q:Nat,q=c j+v+x*y->IntKind.wrap .u64 ((IntKind.wrap .u64 ((IntKind.wrap .u64 ((IntKind.wrap .u64 (x:Int))*(IntKind.wrap .u64 (y:Int))))+(IntKind.wrap .u64 (v:Int))))+((c j:Nat):Int))=(q:Int):=by
        intro q hq;have exy:((x:Int))*(y:Int)=((x*y:Nat):Int):=by rw[adH]
        have hxl:x<4294967296:=by simp only[x]; omega
        have hyl:y<4294967296:=by omega
        have w1:IntKind.wrap .u64 (x:Int)=x:=by rw[am]; omega
        have w2:IntKind.wrap .u64 (y:Int)=y:=by rw[am]; omega
        rw[w1,w2,exy,am,am,am,am];omega
      rw[et _ rfl,ec1,jN,dm];congr 1
    · simp only[km]
      rw[adl (by omega:¬(b.length:Int)<b.length),adm];have hlen:=yo U V L (i+b.length) (by simp only[L]; omega);have hset:=yp U V L (i+b.length) (by simp only[L]; omega);have eidx:Int.toNat ((i:Int)+(b.length:Int))=i+b.length:=by omega
      have hLe:i+b.length<L:=by simp only[L]; omega
      have hc:c b.length=U / 4294967296 ^ (i+b.length):=by simp only[c];rw[ad6,adv hV,hU]
      have hcl:U / 4294967296 ^ (i+b.length)<4294967296:=by
        rw[adu (aew (by decide))];have:i+1+b.length=i+b.length+1:=by omega
        rw[this,ady]at hUl;omega
      have ew:IntKind.wrap .u32 ((c b.length:Nat):Int)=((U / 4294967296 ^ (i+b.length)%4294967296:Nat):Int):=by rw[dm,hc]; omega
      have hfin:=H4 (U:=U) (V:=V) (L:=L) (p:=i+b.length+1) (by rw[show i+b.length+1=i+1+b.length by omega]; exact hUl) (by omega) (adF hV (adB (by decide) (by omega)));rw[aa adi,eidx,hlen,aa adj,aa (adk (by omega)),aa adi,ew,hset,hfin];rfl
  · simp only[kl]
    rw[adl (by omega:¬(a.length:Int)<a.length),adm,ad6,du _ (iN _ _) (by rw[al]; simp only[L]; omega) (by rw[al]; simp only[L]; omega)];rw[oX (tV (eS ha) hB)]
def yL (g h:Bool) (m n:Nat):aT (g != h) (m*n)=aT g m*aT h n:=by unfold aT;rw[adH];cases g <;> cases h <;> simp[agz,agj]
def CW (n:Nat):bM (aj n) (aj n).length=(aj n).length:=by
 have ht:(aj n).take (bM (aj n) (aj n).length)=aj n:=by rw[rH (aY n),aI]
 have hc:=js (aj n) (aj n).length;have:=agy List.length ht;rw[ad3]at this; omega
def N1 (g:Bool) (n:Nat) (k:Ky5):cond ((!g)==true) (k (decide (((aj n).length:Int)>0)) (aj n)) (k false (aj n))=sR (-(aT g n)) k:=by rw[Pb,sF _ _ k];congr 1;unfold aT; cases g <;> simp
def AM {N:Nat} (g:Bool) (n:Nat) (hN:fB N (aj n)) (k:Ky5):MA N g (aj n) k=sR (-(aT g n)) k:=by
 (unfold MA; rw[ac]; unfold Ka rA qA)
 obtain⟨h1,h2⟩:=hN;rw[aeb,adk (by omega),aet,kF _ (by omega) (by omega),CW];simp only[aeU,ad6];rw[adk (by omega:0+(aj n).length<=(aj n).length),aet];exact N1 g n k
def aQ (B:Nat) (n:Nat):Prop:=n<2 ^ B
def ct:∀(j n:Nat),n<4294967296 ^ j->(aj n).length<=j
 | 0,n,h=>by
  have:n=0:=by simp at h; exact h
  subst this; rw[aU]; exact adx _
 | j+1,n,h=>by
  by_cases h0:n=0
  ·subst h0; rw[aU]; simp
  ·rw[b_ h0,adZ];have:n / 4294967296<4294967296 ^ j:=afi (by rw[ady]at h; omega);have:=ct j _ this;omega
def Ts (j:Nat):4294967296 ^ j=2 ^ (32*j):=by rw[agi]
def yc {B n:Nat} (h:aQ B n):(aj n).length<=B / 32+1:=by refine ct _ _ ?_;rw[Ts];exact adF h (adB (by decide) (by omega))
def EW {N B n:Nat} (hN:1000<=N) (hB:B<=31000) (h:aQ B n):fB N (aj n):=by have:=yc h;exact⟨by omega,by omega⟩
def bK {A B n:Nat} (h:aQ A n) (hAB:A<=B):aQ B n:=adF h (adB (by decide) hAB)
def dC {A B m n:Nat} (h:aQ A m) (g:aQ B n):aQ (A+B) (m*n):=by unfold aQ; rw[adE]; exact agD h g
def tH {A m:Nat} (h:aQ A m) (s:Nat):aQ (A+s) (m*2 ^ s):=by unfold aQ; rw[adE]; exact aec h (adz s)
def uz {A m n:Nat} (h:aQ A m) (g:aQ A n):aQ (A+1) (m+n):=by unfold aQ at *; rw[ady]; omega
def kT {A m n:Nat} (h:aQ A m) (g:n<=m):aQ A n:=aeW g h
def Ar {N B n s:Nat} (hN:1000<=N) (hB:B+s<=31000) (h:aQ B n):TC N n s:=by have h1:=yc h;exact⟨by omega,by omega,by omega,EW hN hB (tH h s)⟩
def exK (z:Int × Int) (k:Int->Bool->List Int->Bool):Bool:=k z.1 (decide (z.2<0)) (aj z.2.natAbs)
def wO (x y:Int × Int):Int × Int:=(x.1+y.1,x.2*y.2)
def O2 (x:Int × Int):Int × Int:=(x.1,-x.2)
def qQ (x:Int × Int) (e:Int):Int:=x.2*2 ^ (x.1 - e).toNat
def GJ (x y:Int × Int):Int × Int:=if x.2=0 then y else if y.2=0 then x else(min x.1 y.1,qQ x (min x.1 y.1)+qQ y (min x.1 y.1))
def Ex (E B:Nat) (x:Int × Int):Prop:=-(E:Int)<=x.1/\x.1<=E/\aQ B x.2.natAbs
def vg (z:Int):Int:=if z=0 then 0 else if z<0 then -1 else 1
def au:List Int->Nat
 | []=>0
 | x::r=>x.toNat+18446744073709551616*au r
def InWq (m:List Int):Prop:=∀ x ∈ m,0<=x/\x<18446744073709551616
def ae (n:Nat):List Int:=if h:n=0 then[]else((n%18446744073709551616:Nat):Int)::ae (n / 18446744073709551616)
termination_by n
decreasing_by omega
def ba:ae 0=[]:=by rw[ae]; simp
def bN {n:Nat} (h:n ≠ 0):ae n=((n%18446744073709551616:Nat):Int)::ae (n / 18446744073709551616):=by rw[ae]; simp[h]
def aS:∀ n,InWq (ae n):=by
 intro n;induction n using Nat.strongRecOn with
 | ind n ih=>
  by_cases h:n=0
  ·subst h; rw[ba]; intro x hx; cases hx
  ·rw[bN h];intro x hx;rcases List.mem_cons.1 hx with rfl | hx
   ·omega
   ·exact ih (n / 18446744073709551616) (by omega) x hx
def aB:∀ n,au (ae n)=n:=by
 intro n;induction n using Nat.strongRecOn with
 | ind n ih=>
  by_cases h:n=0
  ·subst h; rw[ba]; rfl
  ·rw[bN h,au,ih (n / 18446744073709551616) (by omega),adr];omega
def l8 (a b:List Int):au (a++b)=au a+18446744073709551616 ^ a.length*au b:=by
 induction a with
 | nil=>simp[au]
 | cons x r ih=>
  rw[ae8,au,ih,au,adZ,ady,adC,ado (18446744073709551616 ^ r.length) 18446744073709551616,adw];omega
def InWq.take {m:List Int} (h:InWq m) (n:Nat):InWq (m.take n):=λx hx=>h x (af8 hx)
def InWq.drop {m:List Int} (h:InWq m) (n:Nat):InWq (m.drop n):=λx hx=>h x (af7 hx)
def InWq.cons {x:Int} {m:List Int} (h:InWq (x::m)):(0<=x/\x<18446744073709551616)/\InWq m:=⟨h x (by simp),λy hy=>h y (by simp[hy])⟩
def InWq.at {m:List Int} (h:InWq m) {i:Nat}:0<=m.getD i 0/\m.getD i 0<18446744073709551616:=by
 rw[List.getD_eq_getElem?_getD];by_cases hi:i<m.length
 ·rw[List.getElem?_eq_getElem hi]; exact h _ (aey hi)
 ·rw[List.getElem?_eq_none (by omega)]; exact⟨by decide,by decide⟩
def im:∀{m:List Int},InWq m->au m<18446744073709551616 ^ m.length
 | [],_=>by simp[au]
 | x::r,h=>by have ih:=im h.cons.2;have hx:=h.cons.1;rw[au,adZ,ady];have:au r+1<=18446744073709551616 ^ r.length:=ih;have:=adp 18446744073709551616 this;omega
def yl:∀{m:List Int},InWq m->(∀ x,m.getLast? = some x->x ≠ 0)->ae (au m)=m
 | [],_,_=>ba
 | [x],h,hl=>by
  have hx:=h.cons.1;have h0:x ≠ 0:=hl x rfl;have e:au [x]=x.toNat:=by simp[au]
  rw[e,bN (by omega),adS (by omega),ba,adv (by omega),afJ hx.1]
 | x::y::r,h,hl=>by
  have hx:=h.cons.1;have ih:=yl h.cons.2 (λz hz=>hl z (by rw[List.getLast?_cons_cons]; exact hz));have hne:au (y::r) ≠ 0:=by intro h0;rw[h0,ba]at ih; cases ih
  have e1:au (x::y::r)=x.toNat+18446744073709551616*au (y::r):=rfl;rw[e1,bN (by omega)];have e2:(x.toNat+18446744073709551616*au (y::r))%18446744073709551616=x.toNat:=by omega
  have e3:(x.toNat+18446744073709551616*au (y::r)) / 18446744073709551616=au (y::r):=by omega
  rw[e2,e3,ih,afJ hx.1]
def xw {m:List Int} {i:Nat} (hi:i<m.length):au (m.take (i+1))=au (m.take i)+18446744073709551616 ^ i*(m.getD i 0).toNat:=by rw[aeG hi,l8,ad3,aeO (by omega),List.getD_eq_getElem?_getD,List.getElem?_eq_getElem hi];simp[au]
def xv (n:Nat):au (List.replicate n 0)=0:=by
 induction n with
 | zero=>rfl
 | succ n ih=>rw[ad8,au,ih]; rfl
def dlq (S:Nat):Nat->List Int
 | 0=>[]
 | n+1=>dlq S n++[((S / 18446744073709551616 ^ n%18446744073709551616:Nat):Int)]
def ak (S:Nat):∀ n,(dlq S n).length=n
 | 0=>rfl
 | n+1=>by simp[dlq,ak S n]
def gw (S:Nat):∀ n,InWq (dlq S n)
 | 0=>λx hx=>by cases hx
 | n+1=>λx hx=>by
  rcases List.mem_append.1 hx with h | h
  ·exact gw S n x h
  ·simp only[agq]at h;subst h;omega
def om (S:Nat):∀ n,au (dlq S n)=S%18446744073709551616 ^ n
 | 0=>by simp[dlq,au,age]
 | n+1=>by rw[dlq,l8,ak,om S n,ady,agf];simp only[au,adr,aeK,adU]
def rZ (S n m:Nat) (h:n<m):(dlq S n++List.replicate (m - n) 0).set n ((S / 18446744073709551616 ^ n%18446744073709551616:Nat):Int)=dlq S (n+1)++List.replicate (m - (n+1)) 0:=by
 rw[afw _ _ (by rw[ak]; exact adx _),ak,adX];have:m - n=(m - (n+1))+1:=by omega
 rw[this,ad8];simp[dlq]
def lh {S n:Nat} (h:S<18446744073709551616 ^ n):ae (au (dlq S n))=ae S:=by rw[om,adv h]
def aJ {m:List Int} (i:Nat):au (m.take (i+1))=au (m.take i)+18446744073709551616 ^ i*(m.getD i 0).toNat:=by
 by_cases h:i<m.length
 ·exact xw h
 ·rw[d8 (by omega),adI (by omega),adI (by omega)]; simp
def oU (b:List Int):∀ n,au (b.take (bM b n))=au (b.take n)
 | 0=>rfl
 | n+1=>by
  unfold bM;split
  ·rename_i h;rw[oU b n,aJ,h]; simp
  ·rfl
def vj {b:List Int} (hb:InWq b):b.take (bM b b.length)=ae (au b):=by have h1:=oU b b.length;rw[ad6]at h1;rw[<- h1,yl (hb.take _) (qJ b b.length (adx _))]
def cM (T A i:Nat):(T+18446744073709551616 ^ i*A) / 18446744073709551616 ^ i=T / 18446744073709551616 ^ i+A:=aej _ _ (aew (by decide))
def DN (m:List Int) (i:Nat):au m=au (m.take i)+18446744073709551616 ^ (m.take i).length*au (m.drop i):=by rw[<- l8,af0]
def bB (m:List Int) (i:Nat):∃ R,au m=au (m.take i)+18446744073709551616 ^ i*R:=by
 by_cases h:i<=m.length
 ·refine⟨au (m.drop i),?_⟩;have:=DN m i
  rwa [ad3,aeO h]at this
 ·exact⟨0,by rw[adI (by omega)]; simp⟩
def aO {m:List Int} (h:InWq m) (i:Nat):au (m.take i)<18446744073709551616 ^ i:=by
 have h1:=im (h.take i);have h2:(m.take i).length<=i:=by simp; omega
 exact adF h1 (adB (by decide) h2)
def iu {S T R i:Nat} (h:S=T+18446744073709551616 ^ (i+1)*R):S / 18446744073709551616 ^ i%18446744073709551616=T / 18446744073709551616 ^ i%18446744073709551616:=by rw[h,ady,adw,cM,aeF]
def F4 (i:Nat):0<18446744073709551616 ^ i:=aew (by decide)
def Aw {P A B x y o R1 R2 D a b:Nat} (hA:A<P) (hB:B<P) (ho:o=if A<B then 1 else 0) (h1:a=A+P*x+P*18446744073709551616*R1) (h2:b=B+P*y+P*18446744073709551616*R2) (hD:(D:Int)=(a:Int) - (b:Int)) :
  ((D / P:Nat):Int)=(x:Int) - (y:Int) - (o:Int)+18446744073709551616*((R1:Int) - (R2:Int)):=by
 have he:∃ e:Nat,e<P/\(e:Int)=(A:Int) - (B:Int)+(P:Int)*(o:Int):=by
  rw[ho];split
  ·exact⟨A+P - B,by omega,by omega⟩
  ·exact⟨A - B,by omega,by omega⟩
 obtain⟨e,he1,he2⟩:=he;refine yG (e:=e) ?_ he1;have e1:(a:Int)=A+(P:Int)*x+18446744073709551616*((P:Int)*R1):=by rw[h1,adw,adN]; simp
 have e2:(b:Int)=B+(P:Int)*y+18446744073709551616*((P:Int)*R2):=by rw[h2,adw,adN]; simp
 have e3:(P:Int)*((x:Int) - (y:Int) - (o:Int)+18446744073709551616*((R1:Int) - (R2:Int)))=(P:Int)*x - (P:Int)*y - (P:Int)*o+(18446744073709551616*((P:Int)*R1) - 18446744073709551616*((P:Int)*R2)):=by rw[Int.mul_add,afK,afK,Int.mul_left_comm,afK,afK]
 rw[hD,e1,e2,e3,he2];omega
def di {x y:Nat} (h:x<=y):(ae x).length<=(ae y).length:=by
 induction y using Nat.strongRecOn generalizing x with
 | ind y ih=>
  by_cases hx:x=0
  ·subst hx; rw[ba]; simp
  ·rw[bN hx,bN (by omega:y ≠ 0)];simp only[adZ];have:=ih (y / 18446744073709551616) (by omega) (x:=x / 18446744073709551616) (afD h);omega
def qN:∀(w X:Nat),dlq (18446744073709551616 ^ w*X) w=List.replicate w 0:=by
 intro w;have key:∀ n,n<=w -> ∀ X,dlq (18446744073709551616 ^ w*X) n=List.replicate n 0:=by
  intro n;induction n with
  | zero=>intro _ X; rfl
  | succ n ih=>
   intro hn X;rw[dlq,ih (by omega),aeY];have e:18446744073709551616 ^ w*X=18446744073709551616 ^ n*(18446744073709551616*(18446744073709551616 ^ (w - n - 1)*X)):=by rw[<- adw,<- adw,<- ady,<- adE];congr 2; omega
   rw[e,adY _ (F4 n),agv];rfl
 exact key w (adx _)
def fM:∀(j n:Nat),n<18446744073709551616 ^ j->(ae n).length<=j
 | 0,n,h=>by
  have:n=0:=by simp at h; exact h
  subst this; rw[ba]; exact adx _
 | j+1,n,h=>by
  by_cases h0:n=0
  ·subst h0; rw[ba]; simp
  ·rw[bN h0,adZ];have:n / 18446744073709551616<18446744073709551616 ^ j:=afi (by rw[ady]at h; omega);have:=fM j _ this;omega
def DM (V x Bk bk i k:Nat):V%18446744073709551616 ^ (i+k+1)+x*(Bk+18446744073709551616 ^ k*bk)*18446744073709551616 ^ i=(V%18446744073709551616 ^ (i+k)+x*Bk*18446744073709551616 ^ i)+18446744073709551616 ^ (i+k)*(V / 18446744073709551616 ^ (i+k)%18446744073709551616+x*bk):=by rw[Nat.mod_pow_succ,adE];grind
def CK (V x Bk bk i k:Nat):(V%18446744073709551616 ^ (i+k+1)+x*(Bk+18446744073709551616 ^ k*bk)*18446744073709551616 ^ i) / 18446744073709551616 ^ (i+k+1)=((V%18446744073709551616 ^ (i+k)+x*Bk*18446744073709551616 ^ i) / 18446744073709551616 ^ (i+k)+V / 18446744073709551616 ^ (i+k)%18446744073709551616+x*bk) / 18446744073709551616:=by rw[DM,ady,<- adt,aej _ _ (aew (by decide)),ad5]
def Bp (V x Bk bk i k R:Nat):(V+x*(Bk+18446744073709551616 ^ k*bk+18446744073709551616 ^ (k+1)*R)*18446744073709551616 ^ i) / 18446744073709551616 ^ (i+k)%18446744073709551616=((V%18446744073709551616 ^ (i+k)+x*Bk*18446744073709551616 ^ i) / 18446744073709551616 ^ (i+k)+V / 18446744073709551616 ^ (i+k)%18446744073709551616+x*bk)%18446744073709551616:=by
 have e:V+x*(Bk+18446744073709551616 ^ k*bk+18446744073709551616 ^ (k+1)*R)*18446744073709551616 ^ i=(V%18446744073709551616 ^ (i+k+1)+x*(Bk+18446744073709551616 ^ k*bk)*18446744073709551616 ^ i)+18446744073709551616 ^ (i+k+1)*(V / 18446744073709551616 ^ (i+k+1)+x*R):=by
  have h:=aeh V (18446744073709551616 ^ (i+k+1));have h2:18446744073709551616 ^ (i+k+1)=18446744073709551616 ^ (k+1)*18446744073709551616 ^ i:=by rw[<- adE]; congr 1; omega
  generalize V / 18446744073709551616 ^ (i+k+1)=q at *;generalize V%18446744073709551616 ^ (i+k+1)=r at *;rw[<- h,h2];grind
 rw[iu e,DM,aej _ _ (aew (by decide)),ad5]
def HV {V x Bk i k:Nat} (hx:x<18446744073709551616) (hB:Bk<18446744073709551616 ^ k):(V%18446744073709551616 ^ (i+k)+x*Bk*18446744073709551616 ^ i) / 18446744073709551616 ^ (i+k)<18446744073709551616:=by
 rw[adu (aew (by decide))];have h1:V%18446744073709551616 ^ (i+k)<18446744073709551616 ^ (i+k):=adA _ (aew (by decide));have h2:x*Bk<=18446744073709551615*18446744073709551616 ^ k:=aee (by omega) (by omega);have h3:x*Bk*18446744073709551616 ^ i<=18446744073709551615*18446744073709551616 ^ (i+k):=by
  have:=adp (18446744073709551616 ^ i) h2
  rwa [adw 18446744073709551615,<- adE,afg k i]at this
 omega
def qM (S:Nat) {L i:Nat} (h:i<L):(dlq S L).getD i 0=((S / 18446744073709551616 ^ i%18446744073709551616:Nat):Int):=by
 induction L with
 | zero=>omega
 | succ L ih=>
  show((dlq S L)++[_]).getD i 0=_;rw[List.getD_eq_getElem?_getD];by_cases hi:i<L
  ·rw[List.getElem?_append_left (by rw[ak]; exact hi),<- List.getD_eq_getElem?_getD,ih hi]
  ·have:i=L:=by omega
   subst this;rw[List.getElem?_append_right (by rw[ak]; exact adx _),ak,adX]; rfl
def oq {b:List Int} {k:Nat}:au (b.take (k+1))=au (b.take k)+18446744073709551616 ^ k*(b.getD k 0).toNat:=aJ k
def wL (U V L p:Nat) (h:p<L):(dlq U p++(dlq V L).drop p).set p ((U / 18446744073709551616 ^ p%18446744073709551616:Nat):Int)=dlq U (p+1)++(dlq V L).drop (p+1):=by rw[db (by rw[ak]; exact h),aX _ _ _ _ _ (by rw[ak])];show _=(dlq U p++[_])++_;rw[adD]; rfl
def C3 (U V L p:Nat) (h:p<L):(dlq U p++(dlq V L).drop p).getD p 0=((V / 18446744073709551616 ^ p%18446744073709551616:Nat):Int):=by rw[db (by rw[ak]; exact h),bR (by rw[ak]),qM V h]
def wK (U V L p:Nat) (h:p<=L):(dlq U p++(dlq V L).drop p).length=L:=by simp[ak]; omega
def E6 {U L p:Nat} (hU:U<18446744073709551616 ^ p) (h:p<=L) {V:Nat} (hV:V<18446744073709551616 ^ p):dlq U p++(dlq V L).drop p=dlq U L:=by
 induction L with
 | zero=>
  have:p=0:=by omega
  subst this; rfl
 | succ L ih=>
  by_cases hp:p=L+1
  ·subst hp; rw[ad9 (by rw[ak]; omega),adW]
  ·have hpL:p<=L:=by omega
   have e:∀ X,X<18446744073709551616 ^ p->dlq X (L+1)=dlq X L++[0]:=by intro X hX;show dlq X L++[((X / 18446744073709551616 ^ L%18446744073709551616:Nat):Int)]=_;rw[adS (adF hX (adB (by decide) hpL))]; rfl
   rw[e V hV,e U hU,aep (by rw[ak]; exact hpL),<- adD,ih hpL]
def q7 {a:List Int} (ha:InWq a) (i:Nat):au (a.take i)<18446744073709551616 ^ i:=aO ha i
def qY {x y i j:Nat} (hx:x<18446744073709551616 ^ i) (hy:y<18446744073709551616 ^ j):x*y<18446744073709551616 ^ (i+j):=by rw[adE];exact agD hx hy
def kA (N:Nat) (l:List Int):Prop:=l.length+3<N/\l.length<=1099511627776
def yZ {N:Nat} (b:List Int) (hN:b.length<N) (hs:b.length<9223372036854775807) (k:Kz4):va N b k=k (bM b b.length):=by
 (unfold va; rw[ac]; unfold PW)
 have key:∀ n,n<=b.length -> ∀ M,n<M->ai M (un N b λWc=>((decide (0<=Wc/\Wc<=(((List.length b):Nat):Int)))&&(k ((Int.toNat Wc) - 0)))) (n:Int)=k (bM b n):=by
  intro n;induction n with
  | zero=>
   intro _ M hM;cases M with
   | zero=>omega
   | succ M=>
    show un N b _ ((0:Nat):Int) _=_;simp only[un,bM];rw[adl (by omega:¬((0:Nat):Int)>0),show(false==true)=false from rfl,adm,adk (by omega),aet];rfl
  | succ n ih=>
   intro hn M hM;cases M with
   | zero=>omega
   | succ M=>
    show un N b _ ((n+1:Nat):Int) (ai M _)=_;have e:Int.toNat (((n+1:Nat):Int) - 1)=n:=by omega
    have e2:((n+1:Nat):Int) - 1=(n:Int):=by omega
    simp only[un,e];rw[adk (by omega:((n+1:Nat):Int)>0),show(true==true)=true from rfl,adn,aa adi,aa adj,aa (adk (by omega)),aa adi,e2,ih (by omega) M (by omega),nj];by_cases h0:b.getD n 0=0
    ·have:(b.getD n 0==0)=true:=by simpa using h0
     rw[this,if_pos h0]; rfl
    ·have:(b.getD n 0==0)=false:=by simpa using h0
     rw[this,if_neg h0,adm,adk (by omega),aet];rfl
 exact key b.length (adx _) N hN
def jY {N:Nat} (b:List Int) (hb:InWq b) (hN:b.length<N) (hs:b.length<9223372036854775807) (k:Kz7) :
  (va N b λl=>(decide (0+l<=b.length))&&k (List.take l (List.drop 0 b)))=k (ae (au b)):=by
 rw[yZ b hN hs,aeU,vj hb];have:=js b b.length;rw[adk (by omega)]; rfl
def sk {N:Nat} (hN:1000<=N) (n:Nat) (hn:n<18446744073709551616) (k:Kz7):jm N (n:Int) k=k (ae n):=by
 unfold jm xP;have hw:InWq [(n:Int)]:=by intro x hx;simp only[aeL,afp,or_false]at hx;subst hx; omega
 have hv:au [(n:Int)]=n:=by simp only[au]; omega
 have:=jY (N:=N) [(n:Int)] hw (by simp; omega) (by simp) k;rw[hv]at this;exact this
def vO {N:Nat} (l:List Int) (h:l.length<=1099511627776) (k:Kz7):qf N l k=k l:=by unfold qf ON;rw[aeb,adk (by omega),aet]
def mi (N:Nat) (l:List Int) (i:Nat) (hi:i<9223372036854775807) (k:Kz3):xd N l (i:Int) k=k (l.getD i 0):=by
 unfold xd OU;by_cases h:i<l.length
 ·rw[adk (by omega:(i:Int)<((l.length:Nat):Int)),adn,aa adj,adr]
 ·rw[adl (by omega:¬(i:Int)<((l.length:Nat):Int)),adm,d8 (by omega)]
def mg (N:Nat) {x y c:Int} {a b d:Nat} (hx:x=(a:Int)) (hy:y=(b:Int)) (hz:c=(d:Int)) (hc:d<=1) (k:Ky4):sQ1 N x y c k=k (((a+b+d)%18446744073709551616:Nat):Int) (((a+b+d) / 18446744073709551616:Nat):Int):=by subst hx hy hz;show(decide (Int.toNat (d:Int)<=1)&&_)=_;rw[adr,adk hc]; rfl
def vN (N:Nat) {x y c:Int} {a b d:Nat} (hx:x=(a:Int)) (hy:y=(b:Int)) (hz:c=(d:Int)) (hc:d<=1) (k:Ky4):sQ4 N x y c k=k (((a+18446744073709551616 - b - d)%18446744073709551616:Nat):Int) (if a<b+d then 1 else 0):=by
 subst hx hy hz;show(decide (Int.toNat (d:Int)<=1)&&_)=_;rw[adr,adk hc];show k _ (cond (decide (a<b+d)) 1 0)=_;by_cases h:a<b+d
 ·rw[adk h,if_pos h]; rfl
 ·rw[adl h,if_neg h]; rfl
def NF (a b:Nat):imm true (a:Int) (b:Int)=((max a b:Nat):Int):=by
 unfold imm; simp only[adn];by_cases h:(b:Int)>a
 ·rw[adk h,adn]; omega
 ·rw[adl h,adm]; omega
def Lw {N:Nat} (a b:List Int) (ha:InWq a) (hb:InWq b) (hNa:kA N a) (hNb:kA N b) (k:Kz7):vX N a b k=k (ae (au a+au b)):=by
 (unfold vX; rw[ac]; unfold vm)
 obtain⟨a1,a2⟩:=hNa;obtain⟨b1,b2⟩:=hNb;rw[NF]
 let L:=max a.length b.length
 have hLa:a.length<=L:=Nat.le_max_left _ _;have hLb:b.length<=L:=Nat.le_max_right _ _;have hLN:L+3<N:=by simp only[L]; omega
 have hLs:L<=1099511627776:=by simp only[L]; omega
 show(ah .i64 ((L:Int)+1)&&_)=_;have eL:Int.toNat ((L:Int)+1)=L+1:=by omega
 rw[aa adi,aa (cb (by omega) (by omega) (by omega) (by omega)),eL]
 let S:=au a+au b
 let T:=λi=>au (a.take i)+au (b.take i)
 refine aE (λi=>(((T i / 18446744073709551616 ^ i:Nat):Int),(i:Int),dlq S i++List.replicate (L+1 - i) 0)) L (by simp[T,au,dlq]) (by omega) (λi hi K=>?_) (λK=>?_)
 ·have hx:=ha.at (i:=i);have hy:=hb.at (i:=i);have hT:T (i+1)=T i+18446744073709551616 ^ i*((a.getD i 0).toNat+(b.getD i 0).toNat):=by simp only[T,aJ,adC]; omega
  have hq:T (i+1) / 18446744073709551616 ^ i=T i / 18446744073709551616 ^ i+((a.getD i 0).toNat+(b.getD i 0).toNat):=by rw[hT,cM]
  have hc:T i / 18446744073709551616 ^ i<=1:=by
   have h1:=aO ha i;have h2:=aO hb i;have h3:T i<18446744073709551616 ^ i*2:=by simp only[T]; omega
   have:=(adu (aew (n:=i) (by decide:0<18446744073709551616))).2 (by rw[ado]; exact h3:T i<2*18446744073709551616 ^ i);omega
  have hdiv:T (i+1) / 18446744073709551616 ^ (i+1)=T (i+1) / 18446744073709551616 ^ i / 18446744073709551616:=by rw[ady,adt]
  have hdig:S / 18446744073709551616 ^ i%18446744073709551616=T (i+1) / 18446744073709551616 ^ i%18446744073709551616:=by obtain⟨R1,h1⟩:=bB a (i+1);obtain⟨R2,h2⟩:=bB b (i+1);refine iu (R:=R1+R2) ?_;simp only[S,T];rw[adC]; omega
  have hset:=rZ S i (L+1) (by omega);have hlen:(dlq S i++List.replicate (L+1 - i) 0).length=L+1:=by simp[ak]; omega
  simp only[mb];rw[adk (by omega:(i:Int)<((max a.length b.length:Nat):Int)),adn,mi N a i (by omega),mi N b i (by omega),mg N (a:=(a.getD i 0).toNat) (b:=(b.getD i 0).toNat) (d:=T i / 18446744073709551616 ^ i) (by omega) (by omega) rfl hc,hlen,aa adj,aa (adk (by omega)),aa adi,adr];have e1:(a.getD i 0).toNat+(b.getD i 0).toNat+T i / 18446744073709551616 ^ i=T (i+1) / 18446744073709551616 ^ i:=by rw[hq]; omega
  rw[e1,<- hdig,<- hdiv,hset];rfl
 ·simp only[mb];rw[adl (by omega:¬(L:Int)<((max a.length b.length:Nat):Int)),adm];have hT:T L=S:=by simp only[T,S]; rw[adI hLa,adI hLb]
  have hS:S<18446744073709551616 ^ (L+1):=by have h1:=aO ha L;have h2:=aO hb L;rw[adI hLa]at h1;rw[adI hLb]at h2;rw[ady];simp only[S]; omega
  have hlen:(dlq S L++List.replicate (L+1 - L) 0).length=L+1:=by simp[ak]
  have hcl:S / 18446744073709551616 ^ L<18446744073709551616:=by rw[adu (aew (by decide)),ado,<- ady]; exact hS
  have e2:((T L / 18446744073709551616 ^ L:Nat):Int)=((S / 18446744073709551616 ^ L%18446744073709551616:Nat):Int):=by rw[hT,adv hcl]
  have hset:=rZ S L (L+1) (by omega);rw[e2,adr,hset,hlen,aa adj,aa (adk (by omega)),adX,ad0,adW,
   jY _ (gw S _) (by rw[ak]; omega) (by rw[ak]; omega),lh hS]
def mh {N:Nat} (a b:List Int) (ha:InWq a) (hb:InWq b) (hle:au b<=au a) (hN:kA N a) (k:Kz7):xe N a b k=k (ae (au a - au b)):=by
 obtain⟨hN1,hN2⟩:=hN
 (unfold xe; rw[ac]; unfold Ke)
 rw[aa (cb (by omega) (by omega) (by omega) (by omega)),adr]
 let D:=au a - au b
 let bo:=λi=>if au (a.take i)<au (b.take i)then(1:Nat)else 0
 refine aE (λi=>(((bo i:Nat):Int),(i:Int),dlq D i++List.replicate (a.length - i) 0)) a.length (by simp[bo,au,dlq]) (by omega) (λi hi K=>?_) (λK=>?_)
 ·have hx:=ha.at (i:=i);have hy:=hb.at (i:=i);have hA:=aJ (m:=a) i;have hB:=aJ (m:=b) i;have hAl:=aO ha i;have hBl:=aO hb i;have hset:=rZ D i a.length (by omega);have hl:(dlq D i++List.replicate (a.length - i) 0).length=a.length:=by simp[ak]; omega
  obtain⟨R1,h1⟩:=bB a (i+1);obtain⟨R2,h2⟩:=bB b (i+1);have hD:(D:Int)=(au a:Int) - (au b:Int):=by simp only[D]; omega
  have hPs:18446744073709551616 ^ (i+1)=18446744073709551616 ^ i*18446744073709551616:=ady ..;have hbo:bo i<=1:=by simp only[bo]; split <;> omega
  have hbs:bo (i+1)=if (a.getD i 0).toNat<(b.getD i 0).toNat+bo i then 1 else 0:=by simp only[bo,hA,hB];exact ne _ _ _ _ _ hAl hBl
  have hq:((D / 18446744073709551616 ^ i:Nat):Int)=((a.getD i 0).toNat:Int) - ((b.getD i 0).toNat:Int) - (bo i:Int)+18446744073709551616*((R1:Int) - (R2:Int)):=by rw[hA,hPs]at h1;rw[hB,hPs]at h2;exact Aw hAl hBl rfl h1 h2 hD
  have hdig:((D / 18446744073709551616 ^ i%18446744073709551616:Nat):Int)=(((a.getD i 0).toNat:Int) - ((b.getD i 0).toNat:Int) - (bo i:Int))%18446744073709551616:=by rw[Int.natCast_emod,hq];exact Int.add_mul_emod_self_left _ _ _
  simp only[kY];rw[adk (by omega:(i:Int)<a.length),adn,aa adj,mi N b i (by omega),adr,vN N (a:=(a.getD i 0).toNat) (b:=(b.getD i 0).toNat) (d:=bo i) (by omega) (by omega) rfl hbo,hl,aa adj,aa (adk (by omega)),aa adi];have e1:(((((a.getD i 0).toNat+18446744073709551616 - (b.getD i 0).toNat - bo i)%18446744073709551616:Nat)):Int)=((D / 18446744073709551616 ^ i%18446744073709551616:Nat):Int):=by rw[hdig]; omega
  have e2:(if (a.getD i 0).toNat<(b.getD i 0).toNat+bo i then(1:Int)else 0)=((bo (i+1):Nat):Int):=by rw[hbs]; split <;> rfl
  rw[e1,e2,hset];rfl
 ·simp only[kY];rw[adl (by omega:¬(a.length:Int)<a.length),adm,adX,ad0,adW];have hS:D<18446744073709551616 ^ a.length:=by have:=im ha; simp only[D]; omega
  rw[jY _ (gw D _) (by rw[ak]; omega) (by rw[ak]; omega),lh hS]
def z8 {N:Nat} (a b:List Int) (ha:InWq a) (hb:InWq b) (hl:a.length=b.length) (hs:a.length<9223372036854775807) (k:Kz3) :
  ∀ n,n<=a.length -> ∀ M,n<M->ai M (uj N a b (λt4=>k t4) (k 0)) ((n:Int) - 1)=k (dD (au (a.take n)) (au (b.take n))):=by
 intro n;induction n with
 | zero=>
  intro _ M hM;cases M with
  | zero=>omega
  | succ M=>
   show uj N a b _ _ ((0:Nat) - 1:Int) _=_;simp[uj,dD,au]
 | succ n ih=>
  intro hn M hM;cases M with
  | zero=>omega
  | succ M=>
   show uj N a b _ _ (((n+1:Nat):Int) - 1) (ai M _)=_;have e:(((n+1:Nat):Int) - 1)=(n:Int):=by omega
   have hx:=ha.at (i:=n);have hy:=hb.at (i:=n);have hA:=aJ (m:=a) n;have hB:=aJ (m:=b) n;have hAl:=aO ha n;have hBl:=aO hb n;rw[e];simp only[uj,adr];rw[hA,hB,adk (by omega:(n:Int)>=0),adn,aa adj,aa adj,aa adj,aa adj,aa adi,ih (by omega) M (by omega)];by_cases h0:a.getD n 0=b.getD n 0
   ·rw[show(a.getD n 0 != b.getD n 0)=false by simpa using h0,adm,h0,CO]
   ·rw[show(a.getD n 0 != b.getD n 0)=true by simpa using h0,adn];by_cases h1:a.getD n 0<b.getD n 0
    ·rw[adk h1,adn,KI hAl (by omega)]
    ·rw[adl h1,adm,KH hBl (by omega)]
def iw {N:Nat} (x y:Nat) (hx:kA N (ae x)) (hy:kA N (ae y)) (k:Kz3):A9 N (ae x) (ae y) k=k (dD x y):=by
 (unfold A9; rw[ac]; unfold JQ)
 obtain⟨x1,x2⟩:=hx;obtain⟨y1,y2⟩:=hy;by_cases h:(ae x).length=(ae y).length
 ·have e:(((ae x).length:Int) != (ae y).length)=false:=by rw[h]; simp
  rw[e,adm,aa adi,z8 (ae x) (ae y) (aS x) (aS y) h (by omega) k _ (adx _) N (by omega),ad6,h,ad6,aB,aB]
 ·have e:(((ae x).length:Int) != (ae y).length)=true:=by simp; omega
  rw[e,adn];by_cases h1:(ae x).length<(ae y).length
  ·rw[adk (by omega),adn];have:x<y:=by
    rcases aen x y with h2 | h2
    ·exact h2
    ·have:=di h2; omega
   unfold dD; rw[if_pos this]
  ·rw[adl (by omega),adm];have:¬ x<=y:=λh2=>by have:=di h2; omega
   unfold dD; rw[if_neg (by omega),if_neg (by omega)]
def qT (z:Int) (k:Ky5):Bool:=k (decide (z<0)) (ae z.natAbs)
def nX (n:Nat):decide (((ae n).length:Int)>0)=decide (n ≠ 0):=by
 by_cases h:n=0
 ·subst h; rw[ba]; simp
 ·rw[bN h,adZ,adk (by omega),adk h]
def DY (g:Bool) (n:Nat) (k:Ky5):k (sg g n) (ae n)=qT (aT g n) k:=by
 unfold qT aT sg;cases g
 ·simp only[aeC,adV,afX,aei];rw[adl (by omega)]
 ·simp only[ae0,aet,afY,aei];congr 1;by_cases h:n=0
  ·subst h; rfl
  ·rw[adk h,adk (by omega)]
def LR (g:Bool) (n:Nat) (k:Ky5):cond (g==true) (k (decide (((ae n).length:Int)>0)) (ae n)) (k false (ae n))=qT (aT g n) k:=by rw[nX,<- DY];cases g <;> rfl
def FB {N:Nat} (g b:Bool) (n:Nat) (k:Ky5):B2 N g (ae n) b (λcr=>k cr (ae n))=qT (aT g n) k:=LR g n k
def mJ {N:Nat} (g b:Bool) (l:List Int) (n:Nat) (k:Ky5):Jc N g (ae n) b l (λcr=>k cr (ae n))=qT (aT g n) k:=LR g n k
def Gi (g1 g2:Bool) (n1 n2:Nat) (k:Ky5) :
  cond (g1==g2) (qT (aT g2 (n1+n2)) k) (cond (decide (dD n1 n2>=0)) (qT (aT g1 (n1 - n2)) k) (qT (aT g2 (n2 - n1)) k))=qT (aT g1 n1+aT g2 n2) k:=by
 rw[rV];have key:∀ a b:Int,a=b->qT a k=qT b k:=λa b h=>by rw[h]
 cases g1 <;> cases g2 <;> simp only[aT] <;> by_cases h:n2<=n1 <;> simp only[h,af_,agp,adn,adm,ae7,aeC,ae0,adV,(by decide:(false==true)=false),(by decide:(true==false)=false)] <;> refine key _ _ ?_ <;> omega
def CB (n:Nat):aA .and .u64 (n:Int) 4294967295=((n%4294967296:Nat):Int):=by
 have h:=jJ n 32 (by decide);have e1:((2 ^ 32 - 1:Nat):Int)=4294967295:=by decide
 have e2:(2:Nat) ^ 32=4294967296:=by decide
 rw[e1,e2]at h;exact h
def R8 (p00 p10 p01 p11:Nat):(p11*18446744073709551616+(p10+p01)*4294967296+p00) / 18446744073709551616=p11+(p10+p00 / 4294967296) / 4294967296+((p10+p00 / 4294967296)%4294967296+p01) / 4294967296:=by omega
def IU (x y:Nat):x*y=(x / 4294967296)*(y / 4294967296)*18446744073709551616+((x / 4294967296)*(y%4294967296)+(x%4294967296)*(y / 4294967296))*4294967296+(x%4294967296)*(y%4294967296):=by have hx:=aeh x 4294967296;have hy:=aeh y 4294967296;generalize x / 4294967296=a at *;generalize x%4294967296=b at *;generalize y / 4294967296=c at *;generalize y%4294967296=d at *;subst hx hy;grind
def vL (N:Nat) {x y:Nat} (hx:x<18446744073709551616) (hy:y<18446744073709551616) (k:Ky4):D7 N (x:Int) (y:Int) k=k ((x*y / 18446744073709551616:Nat):Int) ((x*y%18446744073709551616:Nat):Int):=by
 (unfold D7; rw[ac]; unfold JN)
 have fx:Int.fdiv (x:Int) (2 ^ 32)=((x / 4294967296:Nat):Int):=by rw[jN]; rfl
 have fy:Int.fdiv (y:Int) (2 ^ 32)=((y / 4294967296:Nat):Int):=by rw[jN]; rfl
 rw[CB,CB,fx,fy];have hs:=IU x y;have b0:x / 4294967296<=4294967295:=by omega
 have b1:x%4294967296<=4294967295:=by omega
 have b2:y / 4294967296<=4294967295:=by omega
 have b3:y%4294967296<=4294967295:=by omega
 have m00:=aee b1 b3;have m10:=aee b0 b3;have m01:=aee b1 b2;have m11:=aee b0 b2;have hh:=R8 ((x%4294967296)*(y%4294967296)) ((x / 4294967296)*(y%4294967296)) ((x%4294967296)*(y / 4294967296)) ((x / 4294967296)*(y / 4294967296));rw[<- hs]at hh;rw[<- adH,<- adH,<- adH,<- adH,<- adH];have hlt:x*y<=18446744073709551615*18446744073709551615:=aee (by omega) (by omega);generalize x*y=P at *;generalize (x%4294967296)*(y%4294967296)=p00 at *;generalize (x / 4294967296)*(y%4294967296)=p10 at *;generalize (x%4294967296)*(y / 4294967296)=p01 at *;generalize (x / 4294967296)*(y / 4294967296)=p11 at *;have t1:IntKind.wrap .u64 (IntKind.wrap .u64 (p10:Int)+Int.fdiv (IntKind.wrap .u64 (p00:Int)) (2 ^ 32))=((p10+p00 / 4294967296:Nat):Int):=by simp only[am,jN]; omega
 rw[t1,CB];congr 1
 ·rw[hh];simp only[am,jN];omega
def yX (N:Nat) {x y c d:Int} {a b e f:Nat} (hx:x=(a:Int)) (hy:y=(b:Int)) (hc:c=(e:Int)) (hd:d=(f:Int)) (ha:a<18446744073709551616) (hb:b<18446744073709551616) (he:e<18446744073709551616) (hf:f<18446744073709551616) (k:Ky4) :
  kI N x y c d k=k (((a*b+e+f) / 18446744073709551616:Nat):Int) (((a*b+e+f)%18446744073709551616:Nat):Int):=by
 subst hx hy hc hd
 (unfold kI; rw[ac]; unfold tv)
 have hlt:a*b<=18446744073709551615*18446744073709551615:=aee (by omega) (by omega);rw[vL N ha hb];generalize a*b=P at *;rw[mg N (c:=0) (a:=P%18446744073709551616) (b:=e) (d:=0) rfl rfl rfl (by omega),mg N (c:=0) (a:=(P%18446744073709551616+e+0)%18446744073709551616) (b:=f) (d:=0) rfl rfl rfl (by omega)];congr 1
 ·simp only[am]; omega
 ·omega
def Fw {N:Nat} (a b:List Int) (ha:InWq a) (hb:InWq b) (hN:a.length+b.length+2<N) (hs:a.length+b.length<=1099511627776) (k:Kz7):qb N a b k=k (ae (au a*au b)):=by
  (unfold qb; rw[ac]; unfold JA)
  by_cases a0:a.length=0
  · have:a=[]:=List.length_eq_zero_iff.1 a0
    subst this;show k []=k (ae (0*au b));rw[aeN,ba]
  by_cases b0:b.length=0
  · have:b=[]:=List.length_eq_zero_iff.1 b0
    subst this;have e:(((a.length:Nat):Int)==0)=false:=by simp; intro h; subst h; simp at a0
    rw[e,show(false==false)=true from rfl,adn];show k []=k (ae (au a*0));rw[aeK,ba]
  have e0:(((a.length:Nat):Int)==0)=false:=by simp; intro h; subst h; simp at a0
  have e1:(((b.length:Nat):Int)==0)=false:=by simp; intro h; subst h; simp at b0
  rw[e0,e1,show(false==false)=true from rfl,adn,adm];have eL:Int.toNat (((a.length:Nat):Int)+((b.length:Nat):Int))=a.length+b.length:=by omega
  rw[aa adi,aa (cb (by omega) (by omega) (by omega) (by omega)),eL]
  let L:=a.length+b.length
  let B:=au b
  have hB:B<18446744073709551616 ^ b.length:=im hb;refine aE (λi=>((i:Int),dlq (au (a.take i)*B) L)) a.length ?_ (by omega) (λi hi K=>?_) (λK=>?_)
  · show((0:Int),List.replicate L (0:Int))=(((0:Nat):Int),dlq (au (a.take 0)*B) L)
    have:=qN L 0;rw[aeK]at this;rw[afF,show au []=0 from rfl,aeN,this]; rfl
  · simp only[kf]
    rw[adk (by omega:(i:Int)<a.length),adn,aa adj,adr];have hx:=ha.at (i:=i)
    let V:=au (a.take i)*B
    let x:=(a.getD i 0).toNat
    let U:=au (a.take (i+1))*B
    have hU:U=V+x*B*18446744073709551616 ^ i:=by simp only[U,V,x];rw[oq];grind
    have hV:V<18446744073709551616 ^ (i+b.length):=qY (q7 ha i) hB;have hUl:U<18446744073709551616 ^ (i+1+b.length):=qY (q7 ha (i+1)) hB
    let c:=λj=>(V%18446744073709551616 ^ (i+j)+x*au (b.take j)*18446744073709551616 ^ i) / 18446744073709551616 ^ (i+j)
    refine aE (λj=>(((c j:Nat):Int),(j:Int),dlq U (i+j)++(dlq V L).drop (i+j))) b.length ?_ (by omega) (λj hj K'=>?_) (λK'=>?_)
    · show((0:Int),(0:Int),dlq V L)=_
      have h0:c 0=0:=by simp only[c,afF,show au []=0 from rfl,aeK,aeN,adU];exact adS (adA _ (aew (by decide)))
      have hlow:dlq U i=dlq V i:=by
        have:∀ n,n<=i->dlq U n=dlq V n:=by
          intro n;induction n with
          | zero=>intro _; rfl
          | succ n ih=>
            intro hn;show dlq U n++[_]=dlq V n++[_];rw[ih (by omega)];congr 3;have:U=V+18446744073709551616 ^ (n+1)*(x*B*18446744073709551616 ^ (i - (n+1))):=by rw[hU,adN,<- adE,show n+1+(i - (n+1))=i by omega]
            exact iu this
        exact this i (adx _)
      have hsp:dlq V i++(dlq V L).drop i=dlq V L:=by
        have:∀ n,i<=n->dlq V i++(dlq V n).drop i=dlq V n:=by
          intro n;induction n with
          | zero=>intro h; have:i=0:=(by omega); subst this; rfl
          | succ n ih=>
            intro h;by_cases hn:i=n+1
            · subst hn; rw[ad9 (by rw[ak]; omega),adW]
            · show dlq V i++(dlq V n++[_]).drop i=dlq V n++[_]
              rw[aep (by rw[ak]; omega),<- adD,ih (by omega)]
        exact this L (by simp only[L]; omega)
      rw[h0,adU,hlow,hsp]; rfl
    · have hy:=hb.at (i:=j)
      have hp:i+j<L:=by simp only[L]; omega
      have hlen:=wK U V L (i+j) (by omega);have hget:=C3 U V L (i+j) hp;have hset:=wL U V L (i+j) hp;have hc:=HV (V:=V) (x:=x) (i:=i) (k:=j) (Bk:=au (b.take j)) (by simp only[x]; omega) (q7 hb j);have hstep:=CK V x (au (b.take j)) (b.getD j 0).toNat i j;obtain⟨R,hR⟩:=bB b (j+1);have hdig:=Bp V x (au (b.take j)) (b.getD j 0).toNat i j R;rw[<- oq]at hstep hdig;rw[<- hR]at hdig;have hUe:V+x*au b*18446744073709551616 ^ i=U:=hU.symm;rw[hUe]at hdig;have hxy:x*(b.getD j 0).toNat<=18446744073709551615*18446744073709551615:=aee (by simp only[x]; omega) (by omega);have eidx:Int.toNat ((i:Int)+(j:Int))=i+j:=by omega
      have hcj:∀ n,c n=(V%18446744073709551616 ^ (i+n)+x*au (b.take n)*18446744073709551616 ^ i) / 18446744073709551616 ^ (i+n):=λ_=>rfl
      have hax:a.getD i 0=(x:Int):=by simp only[x]; omega
      have hby:b.getD j 0=((b.getD j 0).toNat:Int):=by omega
      have ec1:c (j+1)=(c j+V / 18446744073709551616 ^ (i+j)%18446744073709551616+x*(b.getD j 0).toNat) / 18446744073709551616:=hstep;have ed:U / 18446744073709551616 ^ (i+j)%18446744073709551616=(c j+V / 18446744073709551616 ^ (i+j)%18446744073709551616+x*(b.getD j 0).toNat)%18446744073709551616:=hdig;have hcl:c j<18446744073709551616:=hc;rw[ed]at hset;have vlt:V / 18446744073709551616 ^ (i+j)%18446744073709551616<18446744073709551616:=adA _ (by decide);have hxl:x<18446744073709551616:=by simp only[x]; omega
      have hyl:(b.getD j 0).toNat<18446744073709551616:=by omega
      simp only[kg,adr,eidx,hlen];rw[adk (by omega:(j:Int)<((b.length:Nat):Int)),adn,aa adj,aa adi,aa adi,aa adj,aa (adk (by omega)),yX N hax hby hget rfl hxl hyl vlt hcl,aa adj,aa (adk (by omega)),aa adi];rw[show i+(j+1)=i+j+1 by omega,<- hset];have ez:x*(b.getD j 0).toNat+V / 18446744073709551616 ^ (i+j)%18446744073709551616+c j=c j+V / 18446744073709551616 ^ (i+j)%18446744073709551616+x*(b.getD j 0).toNat:=by omega
      rw[ez,ec1];rfl
    · simp only[kg]
      rw[adl (by omega:¬(b.length:Int)<b.length),adm];have hlen:=wK U V L (i+b.length) (by simp only[L]; omega);have hset:=wL U V L (i+b.length) (by simp only[L]; omega);have eidx:Int.toNat ((i:Int)+(b.length:Int))=i+b.length:=by omega
      have hLe:i+b.length<L:=by simp only[L]; omega
      have hc:c b.length=U / 18446744073709551616 ^ (i+b.length):=by simp only[c];rw[ad6,adv hV,hU]
      have hcl:U / 18446744073709551616 ^ (i+b.length)<18446744073709551616:=by
        rw[adu (aew (by decide))];have:i+1+b.length=i+b.length+1:=by omega
        rw[this,ady]at hUl;omega
      have ew:((c b.length:Nat):Int)=((U / 18446744073709551616 ^ (i+b.length)%18446744073709551616:Nat):Int):=by rw[hc,adv hcl]
      have hfin:=E6 (U:=U) (V:=V) (L:=L) (p:=i+b.length+1) (by rw[show i+b.length+1=i+1+b.length by omega]; exact hUl) (by omega) (adF hV (adB (by decide) (by omega)));rw[aa adi,eidx,hlen,aa adj,aa (adk (by omega)),aa adi,ew,hset,hfin];rfl
  · simp only[kf]
    rw[adl (by omega:¬(a.length:Int)<a.length),adm,ad6,jY _ (gw _ _) (by rw[ak]; simp only[L]; omega) (by rw[ak]; simp only[L]; omega)];rw[lh (qY (im ha) hB)]
def BX (n:Nat):2 ^ n=18446744073709551616 ^ (n / 64)*2 ^ (n%64):=by
 have e:(18446744073709551616:Nat)=2 ^ 64:=by decide
 rw[e,<- agi,<- adE];congr 1; omega
def aV (i:Nat):0<18446744073709551616 ^ i:=aew (by decide)
def It {N:Nat} (m:List Int) (hm:InWq m) (n:Nat) (hn:n<4294967296) (hN:m.length+n / 64+4<N) (hs:m.length<=1099511627776) (k:Kz7):ub N m n k=k (ae (au m*2 ^ n)):=by
 (unfold ub; rw[ac]; unfold tw)
 by_cases h0:m.length=0
 ·have:m=[]:=List.length_eq_zero_iff.1 h0;subst this;show k []=k (ae (0*2 ^ n));rw[aeN,ba]
 ·have e0:((m.length:Int)==0)=false:=by simp; intro h; subst h; simp at h0
  have ew:IntKind.wrap .u64 (Int.tdiv (n:Int) 64)=((n / 64:Nat):Int):=by rw[am,aer (by omega)]; omega
  have es:Int.tmod (n:Int) 64=((n%64:Nat):Int):=by rw[aeg (by omega)]; rfl
  rw[e0,adm,ew,es];have hw6:n / 64<67108864:=by omega
  generalize hw:n / 64=w at *;generalize hsh:n%64=s at *;have hs32:s<64:=by omega
  have hp2:2 ^ n=18446744073709551616 ^ w*2 ^ s:=by rw[BX,hw,hsh]
  have hs0:0<2 ^ s:=adz s;have hs1:2 ^ s*2 ^ (64 - s)=18446744073709551616:=by rw[<- adE,show s+(64 - s)=64 by omega]
  have elen:Int.toNat (((w:Nat):Int)+(m.length:Int)+1)=w+m.length+1:=by omega
  rw[aa adi,aa adi,aa adi,aa (cb (by omega) (by omega) (by omega) (by omega)),elen]
  let V:=au m*2 ^ n
  let X:=au m*2 ^ s
  have hVX:V=18446744073709551616 ^ w*X:=by simp only[V,X]; rw[hp2,adN]
  let T:=λi=>au (m.take i)*2 ^ s
  let c:=λi=>T i / 18446744073709551616 ^ i
  have hcl:∀ i,c i<2 ^ s:=by intro i;simp only[c,T];rw[adu (aV i),ado];exact aex (aO hm i) hs0
  refine aE (λi=>((i:Int),dlq V (w+i)++((c i:Nat):Int)::List.replicate (m.length - i) 0)) m.length ?_ (by omega) (λi hi K=>?_) (λK=>?_)
  ·congr 1;show List.replicate (w+m.length+1) (0:Int)=dlq V w++((c 0:Nat):Int)::List.replicate m.length 0;rw[hVX,qN];have hc0:c 0=0:=by simp[c,T,au]
   rw[hc0];have:w+m.length+1=w+(m.length+1):=by omega
   rw[this,<- ae2,ad8]; rfl
  ·have hx:=hm.at (i:=i);have hT:T (i+1)=T i+18446744073709551616 ^ i*((m.getD i 0).toNat*2 ^ s):=by simp only[T,aJ,adQ,adw]
   have hq:T (i+1) / 18446744073709551616 ^ i=c i+(m.getD i 0).toNat*2 ^ s:=by rw[hT,cM]
   have hci:c i<2 ^ s:=hcl i;have hc1:c (i+1)=(c i+(m.getD i 0).toNat*2 ^ s) / 18446744073709551616:=by rw[<- hq]; simp only[c]; rw[ady,adt]
   have hdig:V / 18446744073709551616 ^ (w+i)%18446744073709551616=(c i+(m.getD i 0).toNat*2 ^ s)%18446744073709551616:=by rw[<- hq,hVX,adE,<- adt,adY _ (aV w)];obtain⟨R,hR⟩:=bB m (i+1);refine iu (R:=R*2 ^ s) ?_;simp only[X,T];rw[hR,adQ,adw]
   have hrep:List.replicate (m.length - i) (0:Int)=0::List.replicate (m.length - (i+1)) 0:=by rw[show m.length - i=(m.length - (i+1))+1 by omega,ad8]
   have hdl:=ak V (w+i);have ei:Int.toNat ((w:Int)+(i:Int))=w+i:=by omega
   have ei1:Int.toNat ((w:Int)+(i:Int)+1)=w+i+1:=by omega
   have emin:min s 64=s:=by omega
   have e64:min (Int.toNat (IntKind.wrap .u64 (64 - (s:Int)))) 64=64 - s:=by rw[am]; omega
   simp only[eE,adr,ei,ei1,emin,e64];rw[hrep,bR hdl.symm,aX _ _ _ _ _ hdl.symm];have hmx:m.getD i 0=(((m.getD i 0).toNat:Nat):Int):=by omega
   rw[hmx];generalize hxx:(m.getD i 0).toNat=x at *;have hx32:x<18446744073709551616:=by omega
   have hlow:x*2 ^ s%18446744073709551616=2 ^ s*(x%2 ^ (64 - s)):=by
    have e:x*2 ^ s%(2 ^ s*2 ^ (64 - s))=2 ^ s*(x%2 ^ (64 - s)):=by rw[ado x]; exact ae9 _ _ _
    rwa [hs1]at e
   have hsum:2 ^ s*(x%2 ^ (64 - s))+c i<18446744073709551616:=by have h1:x%2 ^ (64 - s)+1<=2 ^ (64 - s):=adA _ (adz _);have h2:=ads (2 ^ s) h1;rw[hs1,adC]at h2;omega
   have epw:(x:Int)*2 ^ s=((x*2 ^ s:Nat):Int):=by rw[adH,aeP]; rfl
   have eor:aA .or .u64 ((c i:Nat):Int) (IntKind.wrap .u64 ((x:Int)*2 ^ s))=((V / 18446744073709551616 ^ (w+i)%18446744073709551616:Nat):Int):=by
    have e1:IntKind.wrap .u64 ((x*2 ^ s:Nat):Int)=((2 ^ s*(x%2 ^ (64 - s)):Nat):Int):=by rw[<- hlow,am]; omega
    rw[epw,e1,cl _ _ s hci hsum,hdig];omega
   have ehi:Int.fdiv (x:Int) (2 ^ (64 - s))=((c (i+1):Nat):Int):=by
    have e2:(2:Int) ^ (64 - s)=((2 ^ (64 - s):Nat):Int):=by rw[aeP]; rfl
    rw[e2,j6,hc1];have:(c i+x*2 ^ s) / 18446744073709551616=x / 2 ^ (64 - s):=by rw[<- hs1,<- adt,ado x,aej _ _ hs0,adS hci,adR]
    rw[this]
   rw[eor,ehi];have hl1:∀(a b:Int) (ys:List Int),(dlq V (w+i)++a::b::ys).length=w+i+2+ys.length:=by intro a b ys; simp[hdl]; omega
   have hset2:(dlq V (w+i)++((V / 18446744073709551616 ^ (w+i)%18446744073709551616:Nat):Int)::0::List.replicate (m.length - (i+1)) 0).set (w+i+1) ((c (i+1):Nat):Int)=dlq V (w+(i+1))++((c (i+1):Nat):Int)::List.replicate (m.length - (i+1)) 0:=by
    have:dlq V (w+i)++((V / 18446744073709551616 ^ (w+i)%18446744073709551616:Nat):Int)::0::List.replicate (m.length - (i+1)) 0=dlq V (w+(i+1))++0::List.replicate (m.length - (i+1)) 0:=by rw[<- ad5,dlq]; simp
    rw[this];exact aX _ _ _ _ _ (by rw[ak]; omega)
   rw[hset2,hl1,hl1];simp only[aeJ];rw[adk (by omega:(i:Int)<((m.length:Nat):Int)),adn,aa adj,aa adi,aa adj,aa (adk (by omega)),aa (adk (by omega)),aa adj,aa (adk (by omega)),aa adi,aa adi,aa (adk (by rw[am]; omega)),aa adj,aa (adk (by omega)),aa adi];rfl
  ·simp only[eE];rw[adl (by omega:¬(m.length:Int)<m.length),adm,adX,ad0];have hV:V<18446744073709551616 ^ (w+m.length+1):=by
    have h1:=im hm;simp only[V];rw[hp2,ady,adE,adN,adw];refine aex ?_ (aV w);have hs2:2 ^ s<=18446744073709551616:=by rw[<- hs1]; exact ael _ (adz _)
    exact ad7 h1 hs2 (by decide)
   have hT:T m.length=X:=by simp only[T,X]; rw[ad6]
   have hend:dlq V (w+m.length)++[((c m.length:Nat):Int)]=dlq V (w+m.length+1):=by
    rw[dlq];have:c m.length=V / 18446744073709551616 ^ (w+m.length)%18446744073709551616:=by
     have hX:V / 18446744073709551616 ^ (w+m.length)=X / 18446744073709551616 ^ m.length:=by rw[hVX,adE,<- adt,adY _ (aV w)]
     have h2:=hcl m.length;have hs2:2 ^ s<=18446744073709551616:=by rw[<- hs1]; exact ael _ (adz _)
     rw[hX,<- hT];exact(adv (by show c m.length<_; omega)).symm
    rw[this]
   rw[hend,jY _ (gw V _) (by rw[ak]; omega) (by rw[ak]; omega),lh hV]
def my:∀(i V:Nat),(ae V).getD i 0=((V / 18446744073709551616 ^ i%18446744073709551616:Nat):Int)
 | i,V=>by
  by_cases h:V=0
  ·subst h; rw[ba]; simp
  ·rw[bN h];cases i with
   | zero=>simp
   | succ i=>
    show(ae (V / 18446744073709551616)).getD i 0=_;rw[my i (V / 18446744073709551616),ady,ado,<- adt]
def sa {l:List Int} {n i:Nat} (h:i<n):(l.take n).getD i 0=l.getD i 0:=by rw[List.getD_eq_getElem?_getD,List.getD_eq_getElem?_getD,List.getElem?_take,if_pos h]
def yn {m:List Int} (hm:InWq m) (j:Nat):∃ R,au m / 18446744073709551616 ^ j=(m.getD j 0).toNat+18446744073709551616*(m.getD (j+1) 0).toNat+18446744073709551616*18446744073709551616*R:=by
 obtain⟨R,hR⟩:=bB m (j+2);refine⟨R,?_⟩;rw[hR,aJ,aJ];simp only[ady];have e:au (m.take j)+18446744073709551616 ^ j*(m.getD j 0).toNat+18446744073709551616 ^ j*18446744073709551616*(m.getD (j+1) 0).toNat+18446744073709551616 ^ j*18446744073709551616*18446744073709551616*R
   = au (m.take j)+18446744073709551616 ^ j*((m.getD j 0).toNat+18446744073709551616*(m.getD (j+1) 0).toNat+18446744073709551616*18446744073709551616*R):=by
  rw[adC,adC,adw,adw,adw,adw]; omega
 rw[e,cM,adS (aO hm j),adR]
def Be {x y s:Nat} (hs:s<64) (hx:x<18446744073709551616) (hy:y<18446744073709551616):aA .or .u64 (Int.fdiv (x:Int) (2 ^ s)) (IntKind.wrap .u64 ((y:Int)*2 ^ (64 - s)))=(((x+18446744073709551616*y) / 2 ^ s%18446744073709551616:Nat):Int):=by
 have hs0:0<2 ^ s:=adz s;have hs1:2 ^ s*2 ^ (64 - s)=18446744073709551616:=by rw[<- adE,show s+(64 - s)=64 by omega]
 have e1:Int.fdiv (x:Int) (2 ^ s)=((x / 2 ^ s:Nat):Int):=by
  have e2:(2:Int) ^ s=((2 ^ s:Nat):Int):=by rw[aeP]; rfl
  rw[e2,j6]
 have e3:(y:Int)*2 ^ (64 - s)=((y*2 ^ (64 - s):Nat):Int):=by rw[adH,aeP]; rfl
 have hlow:y*2 ^ (64 - s)%18446744073709551616=2 ^ (64 - s)*(y%2 ^ s):=by
  have e:2 ^ (64 - s)*y%(2 ^ (64 - s)*2 ^ s)=2 ^ (64 - s)*(y%2 ^ s):=ae9 _ _ _
  rwa [ado (2 ^ (64 - s)) (2 ^ s),hs1,ado (2 ^ (64 - s)) y]at e
 have e4:IntKind.wrap .u64 ((y*2 ^ (64 - s):Nat):Int)=((2 ^ (64 - s)*(y%2 ^ s):Nat):Int):=by rw[<- hlow,am]; omega
 have hxl:x / 2 ^ s<2 ^ (64 - s):=by rw[adu hs0,ado,hs1]; exact hx
 have hsum:2 ^ (64 - s)*(y%2 ^ s)+x / 2 ^ s<18446744073709551616:=by have h1:y%2 ^ s+1<=2 ^ s:=adA _ hs0;have h2:=ads (2 ^ (64 - s)) h1;rw[ado (2 ^ (64 - s)) (2 ^ s),hs1,adC]at h2;omega
 rw[e1,e3,e4,cl _ _ (64 - s) hxl hsum];congr 1;have e5:(x+18446744073709551616*y) / 2 ^ s=x / 2 ^ s+2 ^ (64 - s)*y:=by rw[<- hs1,adw,aej _ _ hs0]
 rw[e5];have e6:y=y%2 ^ s+2 ^ s*(y / 2 ^ s):=(afx _ _).symm;have e7:2 ^ (64 - s)*y=2 ^ (64 - s)*(y%2 ^ s)+18446744073709551616*(y / 2 ^ s):=by
  conv=>lhs; rw[e6]
  rw[adC,<- adw,ado (2 ^ (64 - s)) (2 ^ s),hs1]
 rw[e7,<- ad5,aeF,adv (a:=x / 2 ^ s+2 ^ (64 - s)*(y%2 ^ s)) (b:=18446744073709551616) (by rw[afg]; exact hsum)];exact afg _ _
def zk:∀ n:Nat,n ≠ 0 -> ∃ t c,n=2 ^ t*(2*c+1):=by
 intro n;induction n using Nat.strongRecOn with
 | ind n ih=>
  intro h0;by_cases h:n%2=0
  ·obtain⟨t,c,hc⟩:=ih (n / 2) (by omega) (by omega);exact⟨t+1,c,by rw[ady,ado (2 ^ t) 2,adw,<- hc]; omega⟩
  ·exact⟨0,n / 2,by rw[afh,afn]; omega⟩
def sV {a b:Nat} (ha:a<18446744073709551616) (hb:b<18446744073709551616):aA .and .u64 (a:Int) (b:Int)=((a &&& b:Nat):Int):=by
 unfold aA pV;simp only[ad_];have h64:(2:Nat) ^ 64=18446744073709551616:=by decide
 have e:((BitVec.ofInt (IntKind.bits .u64) (a:Int)) &&& (BitVec.ofInt (IntKind.bits .u64) (b:Int))).toNat=a &&& b:=by show((BitVec.ofInt 64 (a:Int)) &&& (BitVec.ofInt 64 (b:Int))).toNat=_;rw[af4,aev,aev,aeD,aeD,adv (by omega),adv (by omega)]
 have hl:a &&& b<18446744073709551616:=aeW Nat.and_le_left ha;rw[e,vk _ hl]
def Nl {t c:Nat} (h:2 ^ t*(2*c+1)<2 ^ 64):(2 ^ t*(2*c+1)) &&& (2 ^ 64 - 2 ^ t*(2*c+1))=2 ^ t:=by
 have ht0:0<2 ^ t:=adz t;have ht:t<64:=by
  rcases aen t 64 with h1 | h1
  ·exact h1
  ·have h2:2 ^ 64<=2 ^ t:=adB (by decide) h1;have h3:2 ^ t*1<=2 ^ t*(2*c+1):=ads _ (by omega);omega
 have e1:2 ^ t*(2*c+1)=(2 ^ t*(2*c)+(2 ^ t - 1))+1:=by rw[adC]; omega
 refine afC λj=>?_
 rw[agk];have e2:(2 ^ 64 - 2 ^ t*(2*c+1)).testBit j=(decide (j<64) && !(2 ^ t*(2*c)+(2 ^ t - 1)).testBit j):=by
  conv=>lhs; rw[e1]
  exact af9 (by rw[e1]at h; omega) j
 rw[e2,Nat.testBit_two_pow_mul,agl _ (by omega),afc];rcases afV j t with hj | hj | hj
 ·rw[adl (by omega:¬ j>=t),adl (by omega:¬ t=j)]; rfl
 ·subst hj;rw[if_neg (by omega),adX,adk (adx _),adk ht,adk rfl];have a1:(2*c+1).testBit 0=true:=by rw[af5]; simp
  have a2:(2*c).testBit 0=false:=by rw[af5]; simp
  rw[a1,a2]; rfl
 ·obtain⟨k,hk⟩:∃ k,j - t=k+1:=⟨j - t - 1,by omega⟩
  rw[if_neg (by omega),hk,adk (by omega:j>=t),adl (by omega:¬ t=j),af6,af6];have a1:(2*c+1) / 2=c:=by omega
  have a2:2*c / 2=c:=by omega
  rw[a1,a2];cases c.testBit k <;> simp
def SK:∀ t:Fin 64,(inR (Int.fdiv (IntKind.wrap .u64 (((2 ^ t.val:Nat):Int)*285870213051353865)) (2 ^ 58)) 64=true)/\(List.getD xk (Int.toNat (Int.fdiv (IntKind.wrap .u64 (((2 ^ t.val:Nat):Int)*285870213051353865)) (2 ^ 58))) 0=(t.val:Int)):=by decide +kernel
def RY (N:Nat) {t c:Nat} (h:2 ^ t*(2*c+1)<18446744073709551616) (k:Kz3):Sf N ((2 ^ t*(2*c+1):Nat):Int) k=k (t:Int):=by
 have h64:(2:Nat) ^ 64=18446744073709551616:=by decide
 have ht0:0<2 ^ t:=adz t;have hx0:0<2 ^ t*(2*c+1):=afo ht0 (by omega);have ht:t<64:=by
  rcases aen t 64 with h1 | h1
  ·exact h1
  ·have h2:2 ^ 64<=2 ^ t:=adB (by decide) h1;have h3:2 ^ t*1<=2 ^ t*(2*c+1):=ads _ (by omega);omega
 (unfold Sf; rw[ac]; unfold Nc)
 have ha:=Nl (t:=t) (c:=c) (by omega);rw[h64]at ha;generalize 2 ^ t*(2*c+1)=x at *;have e0:((x:Int)==0)=false:=by simp; omega
 have ew:IntKind.wrap .u64 (0 - (x:Int))=((18446744073709551616 - x:Nat):Int):=by rw[am]; omega
 obtain⟨t1,t2⟩:=SK ⟨t,ht⟩;rw[e0,adm,ew,sV h (by omega),ha,aa t1,t2,aa adi]
def R3 {V w:Nat} (h:V / 18446744073709551616 ^ w ≠ 0):w<(ae V).length:=by
 rcases aen w (ae V).length with h1 | h1
 ·exact h1
 ·exfalso;have h2:=im (aS V);rw[aB]at h2;exact h (adS (adF h2 (adB (by decide) h1)))
def HT {B n:Nat} (h:aQ B n):(ae n).length<=B / 64+1:=by
 refine fM _ _ ?_;have e:(18446744073709551616:Nat)=2 ^ 64:=by decide
 rw[e,<- agi];exact adF h (adB (by decide) (by omega))
def Il {N:Nat} (g:Bool) (n:Nat) (h:(ae n).length<=1099511627776) (k:Ky5):Ot N g (ae n) k=qT (-(aT g n)) k:=by
 (unfold Ot; rw[ac]; unfold PY)
 rw[vO _ h,mJ (!g) g (ae n) n k];congr 1; unfold aT; cases g <;> simp
def Ls {N:Nat} (hN:1000<=N) (n:Nat) (hn:n<18446744073709551616) (b:Bool) (k:Ky5):Oj N n b k=k false (ae n):=by
 (unfold Oj; rw[ac]; unfold PI)
 rw[sk hN n hn]; rfl
def qW {N:Nat} (hN:1000<=N) (n:Nat) (hn:n<9223372036854775808) (k:Ky5):Ea N n k=k false (ae n):=by
 (unfold Ea OZ; unfold Tu; rw[ac]; unfold P4)
 have e:IntKind.wrap .u64 (n:Int)=n:=by rw[am]; omega
 rw[adl (by omega:¬(n:Int)<0),adm,e,sk hN n (by omega)]; rfl
def Ik {N:Nat} (s:Nat) (b g:Bool) (n:Nat) (hs:s<4294967296) (hN:(ae n).length+s / 64+4<N) (h:(ae n).length<=1099511627776) (k:Ky5):Sy N s b g (ae n) k=qT (aT g (n*2 ^ s)) k:=by unfold Sy S6;rw[It _ (aS n) s hs hN h,aB,FB g b _ k]
def oY {n:Nat} (h0:n ≠ 0) (h:n<18446744073709551616):ae n=[(n:Int)]:=by rw[bN h0,adS h,ba,adv h]
def sW (a b:Int):aA .or .u64 a b=aA .or .u64 b a:=by unfold aA pV;simp only[ad_];rw[BitVec.or_comm]
end Go.Proofs.YtpmoedfiobeilaaGreatDoor
