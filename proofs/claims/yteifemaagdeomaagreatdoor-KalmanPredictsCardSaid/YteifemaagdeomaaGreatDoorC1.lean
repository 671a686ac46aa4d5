/- Laws in plain Lean. Conditions: none. -/
import Derived.Test.YteifemaagdeomaaGreatDoorGp
import Derived.Test.YteifemaagdeomaaGreatDoorBig
set_option linter.defProp false
set_option linter.unusedVariables false
namespace Go.Proofs.YteifemaagdeomaaGreatDoor
open Go Go.Mach
def ac {a c:Bool} (h:a=true):(a&&c)=c:=by rw[h]; rfl
def au (z:Int):IntKind.wrap .u64 z=z%18446744073709551616:=by rfl
def iw (z:Int):IntKind.wrap .u32 z=z%4294967296:=by rfl
def oA (z:Int):Int.fdiv z (2 ^ 32)=z / 4294967296:=by rw[aIl _ (by decide)]; rfl
def aM {σ:Type} {step:σ->(σ->Bool)->Bool} {s:σ} (C:Nat->σ) (n:Nat) {N:Nat} (h0:s=C 0) (hn:n<N) {out:Bool} (hs:∀ i,i<n -> ∀ K:σ->Bool,step (C i) K=K (C (i+1))) (hx:∀ K,step (C n) K=out):ah N step s=out:=by subst h0; exact bc C n hn hs hx
def dQ (b:List Int):Nat->Nat
 | 0=>0
 | n+1=>if b.getD n 0=0 then dQ b n else n+1
def vm (b:List Int) (n:Nat):dQ b (n+1)=if b.getD n 0=0 then dQ b n else n+1:=rfl
def nZ (b:List Int):∀ n,dQ b n<=n
 | 0=>aG4 _
 | n+1=>by unfold dQ; split; exact Nat.le_succ_of_le (nZ b n); exact aG4 _
def jr {b:List Int} {i:Nat} (h:b.length<=i):b.getD i 0=0:=by rw[List.getD_eq_getElem?_getD,List.getElem?_eq_none h]; rfl
def aY {m:List Int} (i:Nat):aI (m.take (i+1))=aI (m.take i)+4294967296 ^ i*(m.getD i 0).toNat:=by
 by_cases h:i<m.length
 ·exact JH h
 ·rw[jr (by omega),aHb (by omega),aHb (by omega)]; simp
def zr (b:List Int):∀ n,aI (b.take (dQ b n))=aI (b.take n)
 | 0=>rfl
 | n+1=>by
  unfold dQ;split
  ·rename_i h;rw[zr b n,aY,h]; simp
  ·rfl
def getLast?_take {b:List Int} {n:Nat} (h:n<b.length):(b.take (n+1)).getLast? = some (b.getD n 0):=by rw[aHJ h,List.getLast?_append,List.getD_eq_getElem?_getD,List.getElem?_eq_getElem h];simp
def zq (b:List Int):∀ n,n<=b.length -> ∀ x,(b.take (dQ b n)).getLast? = some x->x ≠ 0
 | 0,_,x,h=>by simp[dQ]at h
 | n+1,hn,x,h=>by
  unfold dQ at h;split at h
  ·exact zq b n (by omega) x h
  ·rename_i h0;rw[getLast?_take (by omega)]at h;cases h; exact h0
def Ao {b:List Int} (hb:InW b):b.take (dQ b b.length)=am (aI b):=by have h1:=zr b b.length;rw[aHw]at h1;rw[<- h1,ER (hb.take _) (zq b b.length (aG4 _))]
def qi {N:Nat} (b:List Int) (hN:b.length<N) (hs:b.length<9223372036854775807) (k:Kz2):sQ8 N b k=k (dQ b b.length):=by
 unfold sQ8 GQ8;have key:∀ n,n<=b.length -> ∀ M,n<M->ah M (C0 N 0 b λm=>k m) n=k (dQ b n):=by
  intro n;induction n with
  | zero=>
   intro _ M hM;cases M with
   | zero=>omega
   | succ M=>
    show C0 N 0 b _ 0 _=_;simp[C0,dQ]
  | succ n ih=>
   intro hn M hM;cases M with
   | zero=>omega
   | succ M=>
    show C0 N 0 b _ (n+1) (ah M _)=_;have e:Int.toNat (((n+1:Nat):Int) - 1)=n:=by omega
    simp only[C0,e,aHk,aIT];rw[aGQ (by omega:((n+1:Nat):Int)>0),ac aGO,ac aGP,ac (aGQ (by omega)),ac aGO,ac (aGQ (by omega)),ih (by omega) M (by omega)];rw[vm];by_cases h0:b.getD n 0=0
    ·have:(b.getD n 0==0)=true:=by simpa using h0
     rw[this,if_pos h0]; rfl
    ·have:(b.getD n 0==0)=false:=by simpa using h0
     rw[this,if_neg h0]; rfl
 exact key b.length (aG4 _) N hN
def U7 {N:Nat} (m:List Int) (hm:InW m) (hN:m.length<N) (hs:m.length<9223372036854775807) (k:Kz5):Gf N m k=k (am (aI m)):=by
 unfold Gf Z5;have key:∀ n,n<9223372036854775807 -> ∀(l:List Int),l.length=n->InW l -> ∀ M,n<M->ah M (kR N λm_2=>k m_2) l=k (am (aI l)):=by
  intro n;induction n with
  | zero=>
   intro _ l hl _ M hM;cases M with
   | zero=>omega
   | succ M=>
    have:l=[]:=List.length_eq_zero_iff.1 hl;subst this;show kR N _ [] _=_;simp[kR,aI,bG]
  | succ n ih=>
   intro hn l hl hw M hM;cases M with
   | zero=>omega
   | succ M=>
    show kR N _ l (ah M _)=_;have e:Int.toNat ((l.length:Int) - 1)=n:=by omega
    simp only[kR,e,aIj];rw[aGQ (by omega:(l.length:Int)>0),ac aGO,ac aGP,ac aGO,ac (aGQ (by omega)),ih (by omega) (l.take n) (by simp; omega) (hw.take n) M (by omega)];have e2:=aY (m:=l) n;rw[aHb (by omega)]at e2;by_cases h0:l.getD n 0=0
    ·have:(l.getD n 0==0)=true:=by simpa using h0
     rw[this];rw[h0]at e2;simp at e2;rw[e2]; rfl
    ·have:(l.getD n 0==0)=false:=by simpa using h0
     rw[this,ER hw (λx hx=>by have:=getLast?_take (b:=l) (n:=n) (by omega);rw[aHb (by omega)]at this;rw[this]at hx; cases hx; exact h0)]
     rfl
 exact key m.length hs m rfl hm N hN
def iG {N:Nat} (b:List Int) (hb:InW b) (hN:b.length<N) (hs:b.length<9223372036854775807) (k:Kz5) :
  (sQ8 N b λl=>(decide (0+l<=b.length))&&k (List.take l (List.drop 0 b)))=k (am (aI b)):=by
 rw[qi b hN hs,aIj,Ao hb];have:=nZ b b.length;rw[aGQ (by omega)]; rfl
def kj (N:Nat) (l:List Int):Prop:=l.length+2<N/\l.length<=17592186044416
def jq (T A i:Nat):(T+4294967296 ^ i*A) / 4294967296 ^ i=T / 4294967296 ^ i+A:=aHP _ _ (aH1 (by decide))
def SG (m:List Int) (i:Nat):aI m=aI (m.take i)+4294967296 ^ (m.take i).length*aI (m.drop i):=by rw[<- zV,aIY]
def eJ (m:List Int) (i:Nat):∃ R,aI m=aI (m.take i)+4294967296 ^ i*R:=by
 by_cases h:i<=m.length
 ·refine⟨aI (m.drop i),?_⟩;have:=SG m i
  rwa [aHl,aIc h]at this
 ·exact⟨0,by rw[aHb (by omega)]; simp⟩
def bX {m:List Int} (h:InW m) (i:Nat):aI (m.take i)<4294967296 ^ i:=by
 have h1:=jU (h.take i);have h2:(m.take i).length<=i:=by simp; omega
 exact aHc h1 (aG7 (by decide) h2)
def qM {S T R i:Nat} (h:S=T+4294967296 ^ (i+1)*R):S / 4294967296 ^ i%4294967296=T / 4294967296 ^ i%4294967296:=by rw[h,aG3,aG2,jq,aH8]
def LX {N:Nat} (a b:List Int) (ha:InW a) (hb:InW b) (hl:b.length<=a.length) (hN:kj N a) (k:Kz5) :
  ah N (lc N (sQ8 N) a b λcarry out=>(inR (a.length:Nat) out.length)&&((decide ((Int.toNat (a.length:Nat))<out.length)) &&
   (sQ8 N (List.set out (Int.toNat (a.length:Nat)) (IntKind.wrap .u32 carry)) λaww=>(decide ((0+aww)<=(List.length (List.set out (Int.toNat (a.length:Nat)) (IntKind.wrap .u32 carry)))))&&k (List.take aww (List.drop 0 (List.set out (Int.toNat (a.length:Nat)) (IntKind.wrap .u32 carry)))))))
   (0,0,List.replicate (a.length+1) 0)=k (am (aI a+aI b)):=by
 obtain⟨hN1,hN2⟩:=hN
 let S:=aI a+aI b
 let T:=λi=>aI (a.take i)+aI (b.take i)
 refine aM (λi=>(((T i / 4294967296 ^ i:Nat):Int),(i:Int),dl S i++List.replicate (a.length+1 - i) 0)) a.length (by simp[T,aI,dl]) (by omega) (λi hi K=>?_) (λK=>?_)
 ·have hx:=ha.at (i:=i);have hy:=hb.at (i:=i);have hT:T (i+1)=T i+4294967296 ^ i*((a.getD i 0).toNat+(b.getD i 0).toNat):=by simp only[T,aY,aG8]; omega
  have hq:T (i+1) / 4294967296 ^ i=T i / 4294967296 ^ i+((a.getD i 0).toNat+(b.getD i 0).toNat):=by rw[hT,jq]
  have hc:T i / 4294967296 ^ i<=1:=by
   have h1:=bX ha i;have h2:=bX hb i;have h3:T i<4294967296 ^ i*2:=by simp only[T]; omega
   have:=(aG0 (aH1 (n:=i) (by decide:0<4294967296))).2 (by rw[aGV]; exact h3:T i<2*4294967296 ^ i);omega
  have hdiv:T (i+1) / 4294967296 ^ (i+1)=T (i+1) / 4294967296 ^ i / 4294967296:=by rw[aG3,aGY]
  have hdig:S / 4294967296 ^ i%4294967296=T (i+1) / 4294967296 ^ i%4294967296:=by obtain⟨R1,h1⟩:=eJ a (i+1);obtain⟨R2,h2⟩:=eJ b (i+1);refine qM (R:=R1+R2) ?_;simp only[S,T];rw[aG8]; omega
  have hset:=IW S i (a.length+1) (by omega);have hlen:(dl S i++List.replicate (a.length+1 - i) 0).length=a.length+1:=by simp[aq]; omega
  generalize hq':T i / 4294967296 ^ i=q at *;generalize hx':a.getD i 0=x at *;generalize hy':b.getD i 0=y at *;simp only[lc,aGU];rw[aGQ (by omega:(i:Int)<a.length),aGT,hx',hy',ac aGP,hlen];have hstep:∀ s:Int,s=((q+(x.toNat+y.toNat):Nat):Int)->K ((Int.fdiv s (2 ^ 32)),((i:Int)+1),(List.set (dl S i++List.replicate (a.length+1 - i) 0) i (IntKind.wrap .u32 s)))=K (((T (i+1) / 4294967296 ^ (i+1):Nat):Int),((i+1:Nat):Int),dl S (i+1)++List.replicate (a.length+1 - (i+1)) 0):=by
   intro s hs;have e1:Int.fdiv s (2 ^ 32)=((T (i+1) / 4294967296 ^ (i+1):Nat):Int):=by rw[oA,hdiv,hq,hs]; omega
   have e2:IntKind.wrap .u32 s=((S / 4294967296 ^ i%4294967296:Nat):Int):=by rw[iw,hdig,hq,hs]; omega
   rw[e1,e2,hset]; rfl
  by_cases hib:i<b.length
  ·rw[aGQ (by omega:(i:Int)<b.length),aGT,ac aGP,ac aGP,ac (aGQ (by omega)),ac aGO];exact hstep _ (by simp only[au]; omega)
  ·rw[aGR (by omega:¬(i:Int)<b.length),aGS,ac aGP,ac (aGQ (by omega)),ac aGO];have hy0:y=0:=by rw[<- hy']; exact jr (by omega)
   subst hy0;exact hstep _ (by simp only[au]; omega)
 ·simp only[lc];rw[aGR (by omega:¬(a.length:Int)<a.length),aGS];have hT:T a.length=S:=by simp only[T,S]; rw[aHw,aHb hl]
  have hS:S<4294967296 ^ (a.length+1):=by have h1:=jU ha;have h2:=jU hb;have h3:4294967296 ^ b.length<=4294967296 ^ a.length:=aG7 (by decide) hl;rw[aG3];simp only[S]; omega
  have hlen:(dl S a.length++List.replicate (a.length+1 - a.length) 0).length=a.length+1:=by simp[aq]
  have e2:IntKind.wrap .u32 ((T a.length / 4294967296 ^ a.length:Nat):Int)=((S / 4294967296 ^ a.length%4294967296:Nat):Int):=by rw[iw,hT]; omega
  have hset:=IW S a.length (a.length+1) (by omega);rw[e2,aGU,hset,hlen,ac aGP,ac (aGQ (by omega)),aHq,aHp,aHn,
   iG _ (nd S _) (by rw[aq]; omega) (by rw[aq]; omega),xx hS]
def ad6 {N:Nat} (a b:List Int) (ha:InW a) (hb:InW b) (hNa:kj N a) (hNb:kj N b) (k:Kz5):V_ N a b k=k (am (aI a+aI b)):=by
 unfold V_ aat;have h1:=hNa.2;have h2:=hNb.2;by_cases h:a.length<b.length
 ·rw[aGQ (by omega:(a.length:Int)<b.length),aGT,ac aGO,ac (fZ (by omega) (by omega) (by omega) (by omega))];have e:Int.toNat ((b.length:Int)+1)=b.length+1:=by omega
  rw[e,LX b a hb ha (by omega) hNb k,aIJ]
 ·rw[aGR (by omega:¬(a.length:Int)<b.length),aGS,ac aGO,ac (fZ (by omega) (by omega) (by omega) (by omega))];have e:Int.toNat ((a.length:Int)+1)=a.length+1:=by omega
  rw[e,LX a b ha hb (by omega) hNa k]
def bv (i:Nat):0<4294967296 ^ i:=aH1 (by decide)
def Jf {D e P:Nat} {z:Int} (h:(D:Int)=(e:Int)+(P:Int)*z) (he:e<P):((D / P:Nat):Int)=z:=by
 have hP:(P:Int) ≠ 0:=by omega
 rw[Int.natCast_ediv,h,Int.add_mul_ediv_left _ _ hP,<- Int.natCast_ediv,aHm he];simp
def vk (P A B x y:Nat) (hA:A<P) (hB:B<P):(if A+P*x<B+P*y then 1 else 0)=if x<y+(if A<B then 1 else 0)then 1 else(0:Nat):=by
 by_cases hxy:x<y
 ·have:P*(x+1)<=P*y:=aGZ P hxy;rw[aG8]at this;rw[if_pos (by omega),if_pos (by omega)]
 ·by_cases hyx:y<x
  ·have:P*(y+1)<=P*x:=aGZ P hyx;rw[aG8]at this;rw[if_neg (by omega),if_neg (by split <;> omega)]
  ·have:x=y:=by omega
   subst this;by_cases hAB:A<B
   ·rw[if_pos (by omega),if_pos hAB,if_pos (by omega)]
   ·rw[if_neg (by omega),if_neg hAB,if_neg (by omega)]
def O1 {P A B x y o R1 R2 D a b:Nat} (hA:A<P) (hB:B<P) (ho:o=if A<B then 1 else 0) (h1:a=A+P*x+P*4294967296*R1) (h2:b=B+P*y+P*4294967296*R2) (hD:(D:Int)=(a:Int) - (b:Int)) :
  ((D / P:Nat):Int)=(x:Int) - (y:Int) - (o:Int)+4294967296*((R1:Int) - (R2:Int)):=by
 have he:∃ e:Nat,e<P/\(e:Int)=(A:Int) - (B:Int)+(P:Int)*(o:Int):=by
  rw[ho];split
  ·exact⟨A+P - B,by omega,by omega⟩
  ·exact⟨A - B,by omega,by omega⟩
 obtain⟨e,he1,he2⟩:=he;refine Jf (e:=e) ?_ he1;have e1:(a:Int)=A+(P:Int)*x+4294967296*((P:Int)*R1):=by rw[h1,aG2,aHi]; simp
 have e2:(b:Int)=B+(P:Int)*y+4294967296*((P:Int)*R2):=by rw[h2,aG2,aHi]; simp
 have e3:(P:Int)*((x:Int) - (y:Int) - (o:Int)+4294967296*((R1:Int) - (R2:Int)))=(P:Int)*x - (P:Int)*y - (P:Int)*o+(4294967296*((P:Int)*R1) - 4294967296*((P:Int)*R2)):=by rw[Int.mul_add,aJe,aJe,Int.mul_left_comm,aJe,aJe]
 rw[hD,e1,e2,e3,he2];omega
def Fg {N:Nat} (a b:List Int) (ha:InW a) (hb:InW b) (hle:aI b<=aI a) (hN:kj N a) (k:Kz5):P_ N a b k=k (am (aI a - aI b)):=by
 obtain⟨hN1,hN2⟩:=hN;unfold P_ Z9;rw[ac (fZ (by omega) (by omega) (by omega) (by omega)),aGU]
 let D:=aI a - aI b
 let bo:=λi=>if aI (a.take i)<aI (b.take i)then(1:Nat)else 0
 refine aM (λi=>(((bo i:Nat):Int),(i:Int),dl D i++List.replicate (a.length - i) 0)) a.length (by simp[bo,aI,dl]) (by omega) (λi hi K=>?_) (λK=>?_)
 ·have hx:=ha.at (i:=i);have hy:=hb.at (i:=i);have hA:=aY (m:=a) i;have hB:=aY (m:=b) i;have hAl:=bX ha i;have hBl:=bX hb i;have hset:=IW D i a.length (by omega);have hl:(dl D i++List.replicate (a.length - i) 0).length=a.length:=by simp[aq]; omega
  obtain⟨R1,h1⟩:=eJ a (i+1);obtain⟨R2,h2⟩:=eJ b (i+1);have hD:(D:Int)=(aI a:Int) - (aI b:Int):=by simp only[D]; omega
  have hP:=bv i;have hPs:4294967296 ^ (i+1)=4294967296 ^ i*4294967296:=aG3 ..;have hbo:bo i<=1:=by simp only[bo]; split <;> omega
  have hbs:bo (i+1)=if (a.getD i 0).toNat<(b.getD i 0).toNat+bo i then 1 else 0:=by simp only[bo,hA,hB];exact vk _ _ _ _ _ hAl hBl
  have hq:((D / 4294967296 ^ i:Nat):Int)=((a.getD i 0).toNat:Int) - ((b.getD i 0).toNat:Int) - (bo i:Int)+4294967296*((R1:Int) - (R2:Int)):=by rw[hA,hPs]at h1;rw[hB,hPs]at h2;exact O1 hAl hBl rfl h1 h2 hD
  have hdig:((D / 4294967296 ^ i%4294967296:Nat):Int)=(((a.getD i 0).toNat:Int) - ((b.getD i 0).toNat:Int) - (bo i:Int))%4294967296:=by rw[Int.natCast_emod,hq];exact Int.add_mul_emod_self_left _ _ _
  generalize hx':a.getD i 0=x at *;generalize hy':b.getD i 0=y at *;generalize bo i=o at *;generalize bo (i+1)=o' at *;simp only[pa,aGU];have hy0:¬ i<b.length->y=0:=λh=>by rw[<- hy']; exact jr (by omega)
  have fin:∀(v w:Int),v=(o':Int)->w%4294967296=((D / 4294967296 ^ i%4294967296:Nat):Int)->K (v,(i:Int)+1,List.set (dl D i++List.replicate (a.length - i) 0) i (IntKind.wrap .u32 w))=K ((o':Int),((i+1:Nat):Int),dl D (i+1)++List.replicate (a.length - (i+1)) 0):=by intro v w hv hw;rw[hv,iw,hw,hset]; rfl
  simp only[hx',hy',hl];rw[aGQ (by omega:(i:Int)<a.length),aGT];by_cases hib:i<b.length
  ·rw[aGQ (by omega:(i:Int)<b.length),aGT,ac aGP,ac aGP];by_cases hlt:x.toNat<y.toNat+o
   ·rw[aGQ (by simp only[au]; omega),aGT,ac aGP,ac (aGQ (by omega)),ac aGO];rw[if_pos hlt]at hbs;exact fin _ _ (by omega) (by rw[hdig]; simp only[au]; omega)
   ·rw[aGR (by simp only[au]; omega),aGS,ac aGP,ac (aGQ (by omega)),ac aGO];rw[if_neg hlt]at hbs;exact fin _ _ (by omega) (by rw[hdig]; simp only[au]; omega)
  ·have hy1:=hy0 hib;rw[aGR (by omega:¬(i:Int)<b.length),aGS,ac aGP];by_cases hlt:x.toNat<y.toNat+o
   ·rw[aGQ (by simp only[au]; omega),aGT,ac aGP,ac (aGQ (by omega)),ac aGO];rw[if_pos hlt]at hbs;exact fin _ _ (by omega) (by rw[hdig]; simp only[au]; omega)
   ·rw[aGR (by simp only[au]; omega),aGS,ac aGP,ac (aGQ (by omega)),ac aGO];rw[if_neg hlt]at hbs;exact fin _ _ (by omega) (by rw[hdig]; simp only[au]; omega)
 ·simp only[pa];rw[aGR (by omega:¬(a.length:Int)<a.length),aGS,aHq,aHp,aHn];have hS:D<4294967296 ^ a.length:=by have:=jU ha; simp only[D]; omega
  rw[iG _ (nd D _) (by rw[aq]; omega) (by rw[aq]; omega),xx hS]
def gj (a c s:Nat) (ha:a<2 ^ s) (hlt:2 ^ s*c+a<18446744073709551616):aF .or .u64 (a:Int) ((2 ^ s*c:Nat):Int)=((2 ^ s*c+a:Nat):Int):=by
 unfold aF yr;simp only[aHz];have e:((BitVec.ofInt (IntKind.bits .u64) (a:Int)) ||| (BitVec.ofInt (IntKind.bits .u64) ((2 ^ s*c:Nat):Int))).toNat=2 ^ s*c+a:=by
  show((BitVec.ofInt 64 (a:Int)) ||| (BitVec.ofInt 64 ((2 ^ s*c:Nat):Int))).toNat=_;have h64:(2:Nat) ^ 64=18446744073709551616:=by decide
  rw[BitVec.toNat_or,aH0,aH0,aH6,aH6,aG1 (by omega),aG1 (by omega),Nat.or_comm,<- aJI ha]
 rw[e,Ew _ hlt]
def QJ (n:Nat) (h:n<4294967296):IntKind.wrap .u32 (n:Int)=n:=by rw[iw]; omega
def yu (a c s:Nat) (ha:a<2 ^ s) (hlt:2 ^ s*c+a<4294967296):aF .or .u32 (a:Int) ((2 ^ s*c:Nat):Int)=((2 ^ s*c+a:Nat):Int):=by
 unfold aF yr;simp only[aHz];have e:((BitVec.ofInt (IntKind.bits .u32) (a:Int)) ||| (BitVec.ofInt (IntKind.bits .u32) ((2 ^ s*c:Nat):Int))).toNat=2 ^ s*c+a:=by
  show((BitVec.ofInt 32 (a:Int)) ||| (BitVec.ofInt 32 ((2 ^ s*c:Nat):Int))).toNat=_;have h32:(2:Nat) ^ 32=4294967296:=by decide
  rw[BitVec.toNat_or,aH0,aH0,aH6,aH6,aG1 (by omega),aG1 (by omega),Nat.or_comm,<- aJI ha]
 rw[e,QJ _ hlt]
def iW (x y:Nat):Int:=if x<y then -1 else if x=y then 0 else 1
def abb {P A B x y:Nat} (hA:A<P) (h:x<y):iW (A+P*x) (B+P*y) = -1:=by have:P*(x+1)<=P*y:=aGZ P h;rw[aG8]at this;unfold iW;rw[if_pos (by omega)]
def aba {P A B x y:Nat} (hB:B<P) (h:y<x):iW (A+P*x) (B+P*y)=1:=by have:P*(y+1)<=P*x:=aGZ P h;rw[aG8]at this;unfold iW;rw[if_neg (by omega),if_neg (by omega)]
def OH {P A B x:Nat}:iW (A+P*x) (B+P*x)=iW A B:=by
 unfold iW;by_cases h3:A<B
 ·rw[if_pos h3,if_pos (by omega)]
 ·by_cases h4:A=B
  ·subst h4; simp
  ·rw[if_neg h3,if_neg h4,if_neg (by omega),if_neg (by omega)]
def Mq {N:Nat} (a b:List Int) (ha:InW a) (hb:InW b) (hl:a.length=b.length) (hs:a.length<9223372036854775807) (k:Kz1) :
  ∀ n,n<=a.length -> ∀ M,n<M->ah M (CW N a b (λt4=>k t4) (k 0)) ((n:Int) - 1)=k (iW (aI (a.take n)) (aI (b.take n))):=by
 intro n;induction n with
 | zero=>
  intro _ M hM;cases M with
  | zero=>omega
  | succ M=>
   show CW N a b _ _ ((0:Nat) - 1:Int) _=_;simp[CW,iW,aI]
 | succ n ih=>
  intro hn M hM;cases M with
  | zero=>omega
  | succ M=>
   show CW N a b _ _ (((n+1:Nat):Int) - 1) (ah M _)=_;have e:(((n+1:Nat):Int) - 1)=(n:Int):=by omega
   have hx:=ha.at (i:=n);have hy:=hb.at (i:=n);have hA:=aY (m:=a) n;have hB:=aY (m:=b) n;have hAl:=bX ha n;have hBl:=bX hb n;rw[e];simp only[CW,aGU];rw[hA,hB,aGQ (by omega:(n:Int)>=0),aGT,ac aGP,ac aGP,ac aGP,ac aGP,ac aGO,ih (by omega) M (by omega)];by_cases h1:a.getD n 0<b.getD n 0
   ·rw[aGQ h1,aGT,abb hAl (by omega)]
   ·rw[aGR h1,aGS];by_cases h2:a.getD n 0>b.getD n 0
    ·rw[aGQ h2,aGT,aba hBl (by omega)]
    ·rw[aGR h2,aGS];have:a.getD n 0=b.getD n 0:=by omega
     rw[this,OH]
def eG {x y:Nat} (h:x<=y):(am x).length<=(am y).length:=by
 induction y using Nat.strongRecOn generalizing x with
 | ind y ih=>
  by_cases hx:x=0
  ·subst hx; rw[bG]; simp
  ·rw[fQ hx,fQ (by omega:y ≠ 0)];simp only[aHv];have:=ih (y / 4294967296) (by omega) (x:=x / 4294967296) (aI7 h);omega
def ob {N:Nat} (x y:Nat) (hx:kj N (am x)) (hy:kj N (am y)) (k:Kz1):w7 N (am x) (am y) k=k (iW x y):=by
 unfold w7 ank;obtain⟨x1,x2⟩:=hx;obtain⟨y1,y2⟩:=hy;by_cases h:(am x).length=(am y).length
 ·have e:(((am x).length:Int) != (am y).length)=false:=by rw[h]; simp
  rw[e,aGS,ac aGO,Mq (am x) (am y) (bN x) (bN y) h (by omega) k _ (aG4 _) N (by omega),aHw,h,aHw,aS,aS]
 ·have e:(((am x).length:Int) != (am y).length)=true:=by simp; omega
  rw[e,aGT];by_cases h1:(am x).length<(am y).length
  ·rw[aGQ (by omega),aGT];have:x<y:=by
    rcases aHN x y with h2 | h2
    ·exact h2
    ·have:=eG h2; omega
   unfold iW; rw[if_pos this]
  ·rw[aGR (by omega),aGS];have:¬ x<=y:=λh2=>by have:=eG h2; omega
   unfold iW; rw[if_neg (by omega),if_neg (by omega)]
def bl (n:Nat):Nat:=if n=0 then 0 else n.log2+1
def qK {n:Nat} (j:Nat) (h:2 ^ j<=n):bl n=j+bl (n / 2 ^ j):=by
 have hp:0<2 ^ j:=aG5 j;have h0:n ≠ 0:=by omega
 have h1:n / 2 ^ j ≠ 0:=by have:=aJf h hp;omega
 unfold bl;rw[if_neg h0,if_neg h1];have hj:j<=n.log2:=(Nat.le_log2 h0).2 h;have:(n / 2 ^ j).log2=n.log2 - j:=by
  rw[Nat.log2_eq_iff h1];have h2:=Nat.log2_self_le h0;have h3:n<2 ^ (n.log2+1):=Nat.lt_log2_self;constructor
  ·rw[aIz hp,<- aG_];rw[show n.log2 - j+j=n.log2 by omega]; exact h2
  ·rw[aG0 hp,<- aG_];rw[show n.log2 - j+1+j=n.log2+1 by omega]; exact h3
 omega
def aqC:∀ i:Fin 256,aD.getD i.val 0=(bl i.val:Int):=by decide +kernel
def agP {i:Nat} (h:i<256):aD.getD i 0=(bl i:Int):=aqC ⟨i,h⟩
def Ov {n:Nat} (h:n<256):bl n<=8:=by
 unfold bl;split
 ·omega
 ·rename_i h0;have:=(Nat.log2_lt h0).2 (by simpa using h:n<2 ^ 8);omega
def anb (z:Int):IntKind.wrap .u8 z=z%256:=by rfl
def alC (z:Int):Int.fdiv z (2 ^ 8)=z / 256:=by rw[aIl _ (by decide)]; rfl
def abF (z:Int):Int.fdiv z (2 ^ 16)=z / 65536:=by rw[aIl _ (by decide)]; rfl
def Lz (N:Nat) (x:Nat) (h:x<4294967296) (k:Kz1):P7 N (x:Int) k=k (bl x:Int):=by
 unfold P7 ZS;simp only[alC,abF,anb];have key:∀(z:Int) (m:Nat),z=(m:Int)->m<256 -> ∀ c:Nat,c<=32->((inR z 256)&&((aj .i64 (List.getD aD (Int.toNat z) 0))&&((aj .i64 ((c:Int)+(List.getD aD (Int.toNat z) 0)))&&k ((c:Int)+List.getD aD (Int.toNat z) 0))))=k ((c+bl m:Nat):Int):=by intro z m hz hm c hc;subst hz;have:=Ov hm;rw[aGU,agP hm,ac aGP,ac aGO,ac aGO];rfl
 by_cases h16:65536<=x
 ·rw[aGQ (by omega:(x:Int)>=65536),aGT];have e16:=qK (n:=x) 16 (by simpa using h16);have p16:(2:Nat) ^ 16=65536:=by decide
  have p8:(2:Nat) ^ 8=256:=by decide
  rw[p16]at e16;by_cases h8:256<=x / 65536
  ·rw[aGQ (by omega:(x:Int) / 65536>=256),aGT];have e8:=qK (n:=x / 65536) 8 (by simpa using h8);rw[p8]at e8;have:=key ((x:Int) / 65536 / 256%256) (x / 65536 / 256) (by omega) (by omega) 24 (by omega);rw[show((24:Nat):Int)=24 from rfl]at this;rw[this]; congr 2; omega
  ·rw[aGR (by omega:¬(x:Int) / 65536>=256),aGS];have:=key ((x:Int) / 65536%256) (x / 65536) (by omega) (by omega) 16 (by omega);rw[show((16:Nat):Int)=16 from rfl]at this;rw[this]; congr 2; omega
 ·rw[aGR (by omega:¬(x:Int)>=65536),aGS];by_cases h8:256<=x
  ·rw[aGQ (by omega:(x:Int)>=256),aGT];have e8:=qK (n:=x) 8 (by simpa using h8);rw[show(2:Nat) ^ 8=256 by decide]at e8;have:=key ((x:Int) / 256%256) (x / 256) (by omega) (by omega) 8 (by omega);rw[show((8:Nat):Int)=8 from rfl]at this;rw[this]; congr 2; omega
  ·rw[aGR (by omega:¬(x:Int)>=256),aGS];have:=key ((x:Int)%256) x (by omega) (by omega) 0 (by omega);rw[show((0:Nat):Int)=0 from rfl]at this;rw[this]; congr 2; omega
def zt:∀ n,n ≠ 0->bl n=32*((am n).length - 1)+bl ((am n).getD ((am n).length - 1) 0).toNat/\0<(am n).length:=by
  intro n;induction n using Nat.strongRecOn with
  | ind n ih=>
    intro h;rw[fQ h];by_cases h1:n / 4294967296=0
    · rw[h1,bG]
      have:n%4294967296=n:=aG1 (by omega);simp[this]
    · obtain⟨i1,i2⟩:=ih (n / 4294967296) (by omega) h1
      have e:=qK (n:=n) 32 (by have:(2:Nat) ^ 32=4294967296:=(by decide); omega);rw[show(2:Nat) ^ 32=4294967296 by decide]at e;refine⟨?_,by simp⟩;have e2:(((n%4294967296:Nat):Int)::am (n / 4294967296)).getD ((((n%4294967296:Nat):Int)::am (n / 4294967296)).length - 1) 0=(am (n / 4294967296)).getD ((am (n / 4294967296)).length - 1) 0:=by
        simp only[aHv,aJj];generalize am (n / 4294967296)=l at i2 ⊢;cases l with
        | nil=>simp at i2
        | cons y l=>simp
      rw[e2,e,i1];simp only[aHv];omega
def Jp {N:Nat} (g:Bool) (n:Nat) (hs:kj N (am n)) (k:Kz1):Be N g (am n) k=k (bl n:Int):=by
  unfold Be anu;obtain⟨s1,s2⟩:=hs;by_cases h:n=0
  · subst h; rw[bG]; rfl
  · obtain⟨e1,e2⟩:=zt n h
    have e0:(((am n).length:Int)==0)=false:=by simp; intro h'; rw[h']at e2; simp at e2
    have e3:Int.toNat (((am n).length:Int) - 1)=(am n).length - 1:=by omega
    have hw:=(bN n).at (i:=(am n).length - 1);have hb:bl ((am n).getD ((am n).length - 1) 0).toNat<=32:=by
      unfold bl; split
      · omega
      · rename_i h0
        have:=(Nat.log2_lt h0).2 (by have:(2:Nat) ^ 32=4294967296:=(by decide); omega:((am n).getD ((am n).length - 1) 0).toNat<2 ^ 32);omega
    have e4:(am n).getD ((am n).length - 1) 0=((((am n).getD ((am n).length - 1) 0).toNat:Nat):Int):=by omega
    rw[e0,aGS,ac aGO,ac aGO,ac aGO,ac aGP,e3,e4,Lz N _ (by omega),ac aGO];congr 1; omega
def Cp:∀(w X:Nat),dl (4294967296 ^ w*X) w=List.replicate w 0:=by
 intro w;have key:∀ n,n<=w -> ∀ X,dl (4294967296 ^ w*X) n=List.replicate n 0:=by
  intro n;induction n with
  | zero=>intro _ X; rfl
  | succ n ih=>
   intro hn X;rw[dl,ih (by omega),aIv];have e:4294967296 ^ w*X=4294967296 ^ n*(4294967296*(4294967296 ^ (w - n - 1)*X)):=by rw[<- aG2,<- aG2,<- aG3,<- aG_];congr 2; omega
   rw[e,aHs _ (bv n),aJX];rfl
 exact key w (aG4 _)
def D4 (n:Nat):2 ^ n=4294967296 ^ (n / 32)*2 ^ (n%32):=by
 have:(4294967296:Nat)=2 ^ 32:=by decide
 rw[this,<- aJJ,<- aG_];congr 1; omega
def bM {α:Type} (xs:List α) (y:α) (ys:List α) (z:α) (n:Nat) (h:n=xs.length):(xs++y::ys).set n z=xs++z::ys:=by subst h; rw[aIZ _ _ (aG4 _),aHq]; rfl
def eI {xs:List Int} {y:Int} {ys:List Int} {n:Nat} (h:n=xs.length):(xs++y::ys).getD n 0=y:=by subst h; rw[List.getD_eq_getElem?_getD,List.getElem?_append_right (aG4 _),aHq]; rfl
def ad2 {N:Nat} (m:List Int) (hm:InW m) (n:Nat) (hn:n<4294967296) (hN:m.length+n / 32+4<N) (hs:m.length<=1099511627776) (k:Kz5):V9 N m n k=k (am (aI m*2 ^ n)):=by
 unfold V9 aas;by_cases h0:m.length=0
 ·have:m=[]:=List.length_eq_zero_iff.1 h0;subst this;simp[aI,bG]
 ·have e0:((m.length:Int)==0)=false:=by simp; intro h; subst h; simp at h0
  have ew:IntKind.wrap .u64 (Int.tdiv (n:Int) 32)=((n / 32:Nat):Int):=by rw[au,aHT (by omega)]; omega
  have es:Int.tmod (n:Int) 32=((n%32:Nat):Int):=by rw[aHL (by omega)]; rfl
  rw[e0,aGS,ew,es];generalize hw:n / 32=w at *;generalize hsh:n%32=s at *;have hs32:s<32:=by omega
  have hp2:2 ^ n=4294967296 ^ w*2 ^ s:=by rw[D4,hw,hsh]
  have hs0:0<2 ^ s:=aG5 s;have hs1:2 ^ s*2 ^ (32 - s)=4294967296:=by rw[<- aG_,show s+(32 - s)=32 by omega]
  have hs2:2 ^ s<=2147483648:=by have:2 ^ s<=2 ^ 31:=aG7 (by decide) (by omega);simpa using this
  have elen:Int.toNat (((w:Nat):Int)+(m.length:Int)+1)=w+m.length+1:=by omega
  rw[ac aGO,ac aGO,ac aGO,ac (fZ (by omega) (by omega) (by omega) (by omega)),elen]
  let V:=aI m*2 ^ n
  let X:=aI m*2 ^ s
  have hVX:V=4294967296 ^ w*X:=by simp only[V,X]; rw[hp2,aHi]
  let T:=λi=>aI (m.take i)*2 ^ s
  let c:=λi=>T i / 4294967296 ^ i
  refine aM (λi=>((i:Int),dl V (w+i)++((c i:Nat):Int)::List.replicate (m.length - i) 0)) m.length ?_ (by omega) (λi hi K=>?_) (λK=>?_)
  ·congr 1;show List.replicate (w+m.length+1) (0:Int)=dl V w++((c 0:Nat):Int)::List.replicate m.length 0;rw[hVX,Cp];have hc0:c 0=0:=by simp[c,T,aI]
   rw[hc0];have:w+m.length+1=w+(m.length+1):=by omega
   rw[this,<- aIx,aHA]; rfl
  ·have hx:=hm.at (i:=i);have hT:T (i+1)=T i+4294967296 ^ i*((m.getD i 0).toNat*2 ^ s):=by simp only[T,aY,aHf,aG2]
   have hq:T (i+1) / 4294967296 ^ i=c i+(m.getD i 0).toNat*2 ^ s:=by rw[hT,jq]
   have hci:c i<2 ^ s:=by simp only[c,T];rw[aG0 (bv i),aGV];exact aH2 (bX hm i) hs0
   have hc1:c (i+1)=(c i+(m.getD i 0).toNat*2 ^ s) / 4294967296:=by rw[<- hq]; simp only[c]; rw[aG3,aGY]
   have hdig:V / 4294967296 ^ (w+i)%4294967296=(c i+(m.getD i 0).toNat*2 ^ s)%4294967296:=by rw[<- hq,hVX,aG_,<- aGY,aHs _ (bv w)];obtain⟨R,hR⟩:=eJ m (i+1);refine qM (R:=R*2 ^ s) ?_;simp only[X,T];rw[hR,aHf,aG2]
   have hrep:List.replicate (m.length - i) (0:Int)=0::List.replicate (m.length - (i+1)) 0:=by rw[show m.length - i=(m.length - (i+1))+1 by omega,aHA]
   have hdl:=aq V (w+i);have ei:Int.toNat ((w:Int)+(i:Int))=w+i:=by omega
   have ei1:Int.toNat ((w:Int)+(i:Int)+1)=w+i+1:=by omega
   have emin:min s 64=s:=by omega
   simp only[C2,aGU,ei,ei1,emin];rw[hrep,eI hdl.symm,bM _ _ _ _ _ hdl.symm];have et:IntKind.wrap .u64 (IntKind.wrap .u64 (m.getD i 0)*2 ^ s)=(((m.getD i 0).toNat*2 ^ s:Nat):Int):=by
    have hxs:(m.getD i 0).toNat*2 ^ s<4294967296*2147483648:=aHy (by omega) hs2 (by decide);have e1:IntKind.wrap .u64 (m.getD i 0)=(((m.getD i 0).toNat:Nat):Int):=by rw[au]; omega
    have e2:(((m.getD i 0).toNat:Nat):Int)*2 ^ s=(((m.getD i 0).toNat*2 ^ s:Nat):Int):=by simp
    rw[e1,e2,au]; omega
   rw[et];generalize hxx:(m.getD i 0).toNat=x at *;have hx32:x<4294967296:=by omega
   have hlow:x*2 ^ s%4294967296=2 ^ s*(x%2 ^ (32 - s)):=by
    have e:x*2 ^ s%(2 ^ s*2 ^ (32 - s))=2 ^ s*(x%2 ^ (32 - s)):=by rw[aGV x]; exact aIC _ _ _
    rwa [hs1]at e
   have hsum:2 ^ s*(x%2 ^ (32 - s))+c i<4294967296:=by have h1:x%2 ^ (32 - s)+1<=2 ^ (32 - s):=aG6 _ (aG5 _);have h2:=aGZ (2 ^ s) h1;rw[hs1,aG8]at h2;omega
   have eor:aF .or .u32 ((c i:Nat):Int) (IntKind.wrap .u32 ((x*2 ^ s:Nat):Int))=((V / 4294967296 ^ (w+i)%4294967296:Nat):Int):=by
    have e1:IntKind.wrap .u32 ((x*2 ^ s:Nat):Int)=((2 ^ s*(x%2 ^ (32 - s)):Nat):Int):=by rw[<- hlow,iw]; omega
    rw[e1,yu _ _ s hci hsum,hdig];omega
   have ehi:IntKind.wrap .u32 (Int.fdiv ((x*2 ^ s:Nat):Int) (2 ^ 32))=((c (i+1):Nat):Int):=by have hxs:x*2 ^ s<4294967296*2147483648:=aHy hx32 hs2 (by decide);rw[oA,iw,hc1];omega
   rw[eor,ehi];have hl1:∀(a b:Int) (ys:List Int),(dl V (w+i)++a::b::ys).length=w+i+2+ys.length:=by intro a b ys; simp[hdl]; omega
   have hset2:(dl V (w+i)++((V / 4294967296 ^ (w+i)%4294967296:Nat):Int)::0::List.replicate (m.length - (i+1)) 0).set (w+i+1) ((c (i+1):Nat):Int)=dl V (w+(i+1))++((c (i+1):Nat):Int)::List.replicate (m.length - (i+1)) 0:=by
    have:dl V (w+i)++((V / 4294967296 ^ (w+i)%4294967296:Nat):Int)::0::List.replicate (m.length - (i+1)) 0=dl V (w+(i+1))++0::List.replicate (m.length - (i+1)) 0:=by rw[<- aHx,dl]; simp
    rw[this];exact bM _ _ _ _ _ (by rw[aq]; omega)
   rw[hset2,hl1,hl1];simp only[aHW];rw[aGQ (by omega:(i:Int)<m.length),aGT,ac aGP,ac (aGQ (by omega)),ac aGO,ac aGP,ac (aGQ (by omega)),ac aGP,ac (aGQ (by omega)),
    ac aGO,ac aGO,ac aGP,ac (aGQ (by omega)),ac aGO]
   rfl
  ·simp only[C2];rw[aGR (by omega:¬(m.length:Int)<m.length),aGS,aHq,aHp];have hV:V<4294967296 ^ (w+m.length+1):=by have h1:=jU hm;simp only[V];rw[hp2,aG3,aG_,aHi,aG2];refine aH2 ?_ (bv w);exact aHy h1 (by omega) (by decide)
   have hT:T m.length=X:=by simp only[T,X]; rw[aHw]
   have hend:dl V (w+m.length)++[((c m.length:Nat):Int)]=dl V (w+m.length+1):=by
    rw[dl];have:c m.length=V / 4294967296 ^ (w+m.length)%4294967296:=by simp only[c];rw[hT,hVX,aG_,<- aGY,aHs _ (bv w)];rw[aG1];rw[aG0 (bv _),aGV];have h1:=jU hm;simp only[X];exact aHy h1 (by omega) (by decide)
    rw[this]
   rw[hend,iG _ (nd V _) (by rw[aq]; omega) (by rw[aq]; omega),xx hV]
def Lp {m:List Int} (hm:InW m) (j:Nat):∃ R,aI m / 4294967296 ^ j=(m.getD j 0).toNat+4294967296*(m.getD (j+1) 0).toNat+4294967296*4294967296*R:=by
 obtain⟨R,hR⟩:=eJ m (j+2);refine⟨R,?_⟩;rw[hR,aY,aY];simp only[aG3];have e:aI (m.take j)+4294967296 ^ j*(m.getD j 0).toNat+4294967296 ^ j*4294967296*(m.getD (j+1) 0).toNat+4294967296 ^ j*4294967296*4294967296*R
   = aI (m.take j)+4294967296 ^ j*((m.getD j 0).toNat+4294967296*(m.getD (j+1) 0).toNat+4294967296*4294967296*R):=by
  rw[aG8,aG8,aG2,aG2,aG2,aG2]; omega
 rw[e,jq,aHm (bX hm j),aHk]
def AN {N:Nat} (n:Nat) (hn:n<18446744073709551616) (hN:4<N) (k:Kz5):L4 N n k=k (am n):=by
 unfold L4 ZJ;have hw:InW [IntKind.wrap .u32 (n:Int),IntKind.wrap .u32 (Int.fdiv (n:Int) (2 ^ 32))]:=by intro x hx;simp only[iw,oA,aIf,aIP,or_false]at hx;rcases hx with rfl | rfl <;> omega
 have hv:aI [IntKind.wrap .u32 (n:Int),IntKind.wrap .u32 (Int.fdiv (n:Int) (2 ^ 32))]=n:=by simp only[aI,iw,oA]; omega
 rw[iG _ hw (by simp; omega) (by simp),hv]
def sg (neg:Bool) (n:Nat):Bool:=neg&&decide (n ≠ 0)
def sw (n:Nat):decide (((am n).length:Int)>0)=decide (n ≠ 0):=by
 by_cases h:n=0
 ·subst h; rw[bG]; simp
 ·obtain⟨-,h2⟩:=zt n h;rw[aGQ (by omega),aGQ h]
def al2 (neg:Bool) (n:Nat) (k:Ky2):cond (neg==true) (k (decide (((am n).length:Int)>0)) (am n)) (k false (am n))=k (sg neg n) (am n):=by rw[sw];cases neg <;> rfl
def tB {N:Nat} (neg:Bool) (m:List Int) (b:Bool) (hm:InW m) (hN:kj N m) (k:Ky2):JR N neg m b k=k (sg neg (aI m)) (am (aI m)):=by unfold JR Zp;rw[U7 m hm (by have:=hN.1; omega) (by have:=hN.2; omega)];exact al2 neg _ k
def BA {N:Nat} (n:Nat) (hn:n<18446744073709551616) (b:Bool) (hN:kj N (am n)) (h4:4<N) (k:Ky2):P6 N n b k=k false (am n):=by unfold P6 ZI;rw[AN n hn h4,tB false _ b (bN n) hN,aS];rfl
def bB (g:Bool) (n:Nat):Int:=if g=true then -(n:Int)else n
def Bd (z:Int) (k:Ky2):Bool:=k (decide (z<0)) (am z.natAbs)
def AU (g:Bool) (n:Nat) (k:Ky2):k (sg g n) (am n)=Bd (bB g n) k:=by
 unfold Bd bB sg;cases g
 ·simp only[aHX,aHr,aJs,aHO];rw[aGR (by omega)]
 ·simp only[aIr,aHV,aJt,aHO];congr 1;by_cases h:n=0
  ·subst h; rfl
  ·rw[aGQ h,aGQ (by omega)]
def adQ (z:Int):bB (decide (z<0)) z.natAbs=z:=by
 unfold bB;by_cases h:z<0
 ·rw[aGQ h]; simp; omega
 ·rw[aGR h]; simp; omega
def Ax {x y:Nat}:decide (iW x y>=0)=decide (y<=x):=by
 unfold iW;split
 ·rw[aGR (by omega),aGR (by omega)]
 ·split
  ·rw[aGQ (by omega),aGQ (by omega)]
  ·rw[aGQ (by omega),aGQ (by omega)]
def X_ (g1 g2 turn:Bool) (n1 n2:Nat) (k:Ky2) :
  cond (g1==(g2 != turn)) (k (sg (g2 != turn) (n1+n2)) (am (n1+n2))) (cond (decide (iW n1 n2>=0)) (k (sg g1 (n1 - n2)) (am (n1 - n2))) (k (sg (g2 != turn) (n2 - n1)) (am (n2 - n1))))
   = Bd (bB g1 n1+(if turn=true then -(bB g2 n2)else bB g2 n2)) k:=by
 rw[AU _ _ k,AU _ _ k,AU _ _ k,Ax];have key:∀ a b:Int,a=b->Bd a k=Bd b k:=λa b h=>by rw[h]
 cases g1 <;> cases g2 <;> cases turn <;> simp only[bB] <;> by_cases h:n2<=n1 <;> simp only[h,aJD,aJQ,aGT,aGS,bne,aIw,aHK,aHt,aHX,aIr,aHr,(by decide:(false==true)=false),(by decide:(true==false)=false)] <;> refine key _ _ ?_ <;> omega
def XG {N:Nat} (turn b g1:Bool) (n1:Nat) (g2:Bool) (n2:Nat) (h1:kj N (am n1)) (h2:kj N (am n2)) (h3:kj N (am (n1+n2))) (k:Ky2) :
  VN N turn b g1 (am n1) g2 (am n2) k=Bd (bB g1 n1+(if turn=true then -(bB g2 n2)else bB g2 n2)) k:=by
 unfold VN ZM;have hs:∀ m,m<=n1+n2->kj N (am m):=λm hm=>by have:=eG hm;exact⟨by have:=h3.1; omega,by have:=h3.2; omega⟩
 rw[ad6 _ _ (bN _) (bN _) h1 h2,ob _ _ h1 h2,aS,aS,tB _ _ _ (bN _) h3,aS,<- X_];congr 1;by_cases h:n2<=n1
 ·rw[Fg _ _ (bN _) (bN _) (by rw[aS,aS]; exact h) h1,aS,aS,tB _ _ _ (bN _) (hs _ (by omega)),aS,Ax,aGQ h];rfl
 ·rw[Fg _ _ (bN n2) (bN n1) (by rw[aS,aS]; omega) h2,aS,aS,tB _ _ _ (bN _) (hs _ (by omega)),aS,Ax,aGR h];rfl
def Xm {N:Nat} (b g1:Bool) (n1:Nat) (g2:Bool) (n2:Nat) (h1:kj N (am n1)) (h2:kj N (am n2)) (h3:kj N (am (n1+n2))) (k:Ky2) :
  VM N b g1 (am n1) g2 (am n2) k=Bd (bB g1 n1 - bB g2 n2) k:=by
 unfold VM ZL;rw[XG true b g1 n1 g2 n2 h1 h2 h3]; rfl
def asZ (N m s:Nat):Prop:=(am m).length+s / 32+4<N/\(am m).length<=1099511627776/\s<4294967296/\kj N (am (m*2 ^ s))
def LA {N:Nat} (s:Nat) (b g:Bool) (n:Nat) (h:asZ N n s) (k:Ky2):P4 N s b g (am n) k=Bd (bB g (n*2 ^ s)) k:=by unfold P4 ZG;rw[ad2 _ (bN n) s h.2.2.1 h.1 h.2.1,aS,tB _ _ _ (bN _) h.2.2.2,aS,AU _ _ k]
def Jt {N:Nat} (n:Nat) (hn:n<9223372036854775808) (hs:kj N (am n)) (h4:4<N) (k:Ky2):Qb N n k=k false (am n):=by
 unfold Qb aah aeB KY UE;have e:IntKind.wrap .u64 (n:Int)=n:=by rw[au]; omega
 rw[aGR (by omega:¬(n:Int)<0),aGS,e,AN n (by omega) h4,tB _ _ _ (bN _) hs,aS];rfl
def abw:am 1=[1]:=by rw[fQ (by decide),bG]; rfl
def oS (a b:Nat):Int.fdiv (a:Int) (b:Int)=((a / b:Nat):Int):=by rw[aIl _ (by omega)]; rfl
def yw (N:Nat) (k:Kz1):V7 N 52 2047 1075 k=k 9223372036854775808:=by rfl
def so (N:Nat) (k:Kz1):VR N 52 2047 1075 k=k 9218868437227405312:=by rfl
def oO (N:Nat) (k:Kz1):D9 N 52 2047 1075 k=k 4503599627370496:=by rfl
def GF (N:Nat) (k:Kz1):Wb N 52 2047 1075 k=k 9221120237041090561:=by unfold Wb aax;simp only[so,oO];exact aJS k (by decide)
def ajg (N:Nat) (b:Nat) (k:Kz0):VQ N b 52 2047 1075 k=k (isNaN b):=by unfold VQ ZX;simp only[yw,so,wn];congr 1;rw[aIs,aIg,kd];omega
def cnb (b:Nat):Nat:=if isNaN b then 9221120237041090561 else b
def LH (N:Nat) (b:Nat) (k:Kz1):P0 N b 52 2047 1075 k=k (cnb b):=by unfold P0 Zn;simp only[ajg,GF,cnb];cases isNaN b <;> rfl
def LN (N:Nat) (b:Nat) (k:Kx8):Qn N b 52 2047 1075 k=k (aF .and .u64 (cnb b) 9223372036854775808 != 0) ((cnb b / 4503599627370496%2048:Nat):Int) ((cnb b%4503599627370496:Nat):Int):=by
 unfold Qn an1;simp only[LH,yw,oO];have e1:(2:Int) ^ (min (Int.toNat 52) 64)=((4503599627370496:Nat):Int):=by decide
 have e2:IntKind.wrap .u64 2047=((2 ^ 11 - 1:Nat):Int):=by decide
 have e3:IntKind.wrap .u64 (4503599627370496 - 1)=((2 ^ 52 - 1:Nat):Int):=by decide
 have e4:decide ((0:Int)<=52)=true:=by decide
 rw[e1,oS,e2,e3,ou _ _ (by decide),ou _ _ (by decide),e4,af (by omega) (by omega)];rfl
def Mp (b:Nat):cls b=if (cnb b / 4503599627370496%2048)=2047 then(if cnb b%4503599627370496=0 then 2 else 1)else if cnb b / 4503599627370496%2048=0 then(if cnb b%4503599627370496=0 then 3 else 4)else 5:=by
 unfold cls cnb;by_cases h:isNaN b=true
 ·rw[if_pos h,if_pos h]; decide
 ·rw[if_neg h,if_neg h];have hn:¬(9218868437227405312<b%9223372036854775808):=λq=>h ((kd b).2 q)
  by_cases h1:b / 4503599627370496%2048=2047
  ·rw[if_pos h1,if_pos h1,if_pos (by omega)]
  ·rw[if_neg h1,if_neg h1]
def LJ (N:Nat) (b:Nat) (k:Kz1):Qm N b 52 2047 1075 k=k (cls b):=by
 unfold Qm an0;simp only[LN,Mp b];generalize cnb b / 4503599627370496%2048=e;generalize cnb b%4503599627370496=f;have d1:((e:Int)==2047)=decide (e=2047):=by rw[aIs,aJi,aIg]; omega
 have d2:((e:Int)==0)=decide (e=0):=by rw[aIs,aJi,aIg]; omega
 have d3:((f:Int)==0)=decide (f=0):=by rw[aIs,aJi,aIg]; omega
 simp only[bne,d1,d2,d3];by_cases h1:e=2047 <;> by_cases h2:e=0 <;> by_cases h3:f=0 <;> simp[h1,h2,h3]
def Xd (N:Nat) (b:Nat) (k:Kz1):L7 N b k=k (cls b):=by unfold L7 aau;simp only[JW,AW,GR,LJ]
def abd (a b:Nat) (_ha:a<18446744073709551616\/True):decide ((cnb a:Int)=cnb b)=decide (cn (some a)=cn (some b)):=by
 have hq:isNaN 9221120237041090561=true:=by decide
 rw[aIs,aIg,aIg];have cf:∀ c,cn (some c)=if isNaN c=true then none else some c:=λ_=>rfl
 rw[cf,cf];unfold cnb;by_cases h1:isNaN a=true <;> by_cases h2:isNaN b=true
 ·simp[h1,h2]
 ·rw[if_pos h1,if_neg h2,if_pos h1,if_neg h2];refine⟨λh=>?_,λh=>by cases h⟩;have:b=9221120237041090561:=by omega
  rw[this]at h2; exact absurd hq h2
 ·rw[if_neg h1,if_pos h2,if_neg h1,if_pos h2];refine⟨λh=>?_,λh=>by cases h⟩;have:a=9221120237041090561:=by omega
  rw[this]at h1; exact absurd hq h1
 ·simp only[h1,h2,aHr,aHh,aHX]; omega
def ajb (N:Nat) (b:Nat) (k:Kz3):L9 N b k=k (Kt (some b)):=by unfold L9 aaA;simp only[JW,Qg,wn];rfl
def abf (b:Bool) (k:Kz0):cond b (k true) (k false)=k b:=by cases b <;> rfl
def lU {a c:Bool} (h:a=true):(a&&c)=c:=by rw[h]; rfl
def kl (N n:Nat):Prop:=n<N/\n<=17592186044416
def jj (l:List Int):List Fl:=l.map λn=>ow n.toNat
def wV {N:Nat} (l:List Int) (hl:kl N l.length) (k:Kz4):PY N l k=k (jj l):=by
 unfold PY Zf Qg;refine(bc (λi=>((i:Int),(l.take i).map λn=>ow n.toNat)) l.length hl.1 (λi hi K=>?_) (λK=>?_):_)
 ·have h2:=hl.2;have e1:(l.take (i+1)).map (λn=>ow n.toNat)=(l.take i).map (λn=>ow n.toNat)++[ow (l.getD i 0).toNat]:=by rw[aHJ hi,aIL,List.getD_eq_getElem?_getD,List.getElem?_eq_getElem hi]; rfl
  simp only[qI,aGU];rw[Dw (by omega),aGT,lU aGP,lU (Dw (by simp; omega)),lU aGO,e1];rfl
 ·simp only[qI];rw[EQ (by omega),aGS,aHw]; rfl
def fP (xs:List Fl):Bool:=Ku (λi=>iY (xs.getD i none)) xs.length
def Jq {N:Nat} (xs:List Fl) (hl:kl N xs.length) (k:Kz0):SY N xs k=k (fP xs):=by
 unfold SY anB Qf;rw[<- abf (fP xs) k];refine(tw (λi=>(i:Int)) (λi=>iY (xs.getD i none)) xs.length hl.1 (λi hi K=>?_) (λK=>?_):_)
 ·have h2:=hl.2;simp only[o6,aGU];rw[Dw (by omega),aGT,lU aGP,lU aGO];have hc:=OG (xs.getD i none);generalize IG (xs.getD i none)=c at hc ⊢;generalize iY (xs.getD i none)=f at hc ⊢;have d1:(c==1)=decide (c=1):=rfl;have d2:(c==2)=decide (c=2):=rfl;rw[d1,d2];generalize decide (c=1)=u at *;generalize decide (c=2)=v at *;cases u <;> cases v <;> cases f <;> first | rfl | cases hc
 ·simp only[o6];rw[EQ (by omega),aGS]
def sk:Fl->Nat
 | none=>9221120237041090561
 | some b=>cnb b
def SO (d:Ieee.Datum) (h:d.isNaN=false):d.order d=some .eq:=by
 cases d with
 | nan s t=>cases h
 | infinity s=>simp[Ieee.Datum.order,compare,compareOfLessAndEq]
 | number s m i=>simp[Ieee.Datum.order,compare,compareOfLessAndEq]
def W0 (b:Nat) (h:isNaN b=false):(Ieee.double.order b b==some .eq)=true:=by unfold Ieee.Format.order;rw[SO _ h]; rfl
def abH (b:Nat):feq (some b) (some b) = !isNaN b:=by
 cases h:isNaN b with
 | true=>simp[feq,Dy,ut b h]
 | false=>simp only[feq,Dy,aHt]; exact W0 b h
def Pr (N:Nat) (x:Fl) (k:Kz1):Qc N x k=k (sk x):=by
 unfold Qc aaj L6;cases x with
 | none=>rfl
 | some b=>
  rw[abH];simp only[sk,cnb];cases isNaN b <;> rfl
def PP (a b:Nat):Int.tmod (a:Int) (b:Int)=((a%b:Nat):Int):=by rw[aHL (by omega)]; rfl
def LC (N:Nat) (x:Fl) (k:Kx8):L5 N x k=k (Int.fdiv (sk x:Int) (2 ^ 63)==1) ((sk x / 4503599627370496%2048:Nat):Int) ((sk x%4503599627370496:Nat):Int):=by
 unfold L5 ZY;simp only[Pr];have e1:(2:Int) ^ 52=((4503599627370496:Nat):Int):=by decide
 have e2:(2048:Int)=((2048:Nat):Int):=rfl;have e3:(4503599627370496:Int)=((4503599627370496:Nat):Int):=rfl;rw[e1,e2,e3,oS,PP,PP,af (by omega) (by omega)];rfl
def WT (x:Fl):IG x=if (sk x / 4503599627370496%2048)=2047 then(if sk x%4503599627370496=0 then 2 else 1)else if sk x / 4503599627370496%2048=0 then(if sk x%4503599627370496=0 then 3 else 4)else 5:=by
 cases x with
 | none=>decide
 | some b=>exact Mp b
def KH (N:Nat) (x:Fl) (k:Kz1):V4 N x k=k (IG x):=by
 unfold V4 aam aeJ Z_;simp only[LC,WT x];generalize sk x / 4503599627370496%2048=e;generalize sk x%4503599627370496=f;have d1:((e:Int)==2047)=decide (e=2047):=by rw[aIs,aJi,aIg]; omega
 have d2:((e:Int)==0)=decide (e=0):=by rw[aIs,aJi,aIg]; omega
 have d3:((f:Int)==0)=decide (f=0):=by rw[aIs,aJi,aIg]; omega
 simp only[bne,d1,d2,d3];by_cases h1:e=2047 <;> by_cases h2:e=0 <;> by_cases h3:f=0 <;> simp[h1,h2,h3]
def zS (N:Nat) (x:Fl) (k:Kz0):aeL N x k=k (iY x):=by
 unfold aeL anq;simp only[KH];congr 1;have h1:=OG x;have h2:=ahz x;rw[aIs,aIg];cases hf:iY x with
 | true=>
  rw[hf]at h1;simp only[aHK,Bool.or_eq_false_iff,aJk]at h1;exact⟨λ_=>rfl,λ_=>by omega⟩
 | false=>
  rw[hf]at h1;simp only[aHt,aJ6,aI4]at h1;exact⟨λ_=>by omega,λh=>by cases h⟩
def Bz {N:Nat} (xs:List Fl) (hl:kl N xs.length) (k:Kz0):PZ N xs k=k (fP xs):=by
 unfold PZ Zk;rw[<- abf (fP xs) k];refine(tw (λi=>(i:Int)) (λi=>iY (xs.getD i none)) xs.length hl.1 (λi hi K=>?_) (λK=>?_):_)
 ·have h2:=hl.2;simp only[NA,aGU,zS];rw[Dw (by omega),aGT,lU aGP,lU aGO];cases iY (xs.getD i none) <;> rfl
 ·simp only[NA];rw[EQ (by omega),aGS]
def aa3 (x y:Fl):((sk x:Int)==sk y)=decide (cn x=cn y):=by
 have hq:cn (some 9221120237041090561)=none:=by decide
 have hb:cnb 9221120237041090561=9221120237041090561:=by decide
 have key:∀ x,∃ a,sk x=cnb a/\cn x=cn (some a):=by
  intro x;cases x with
  | none=>exact⟨9221120237041090561,hb.symm,hq.symm⟩
  | some b=>exact⟨b,rfl,rfl⟩
 obtain⟨a,e1,e2⟩:=key x;obtain⟨b,e3,e4⟩:=key y;rw[e1,e2,e3,e4,<- abd a b (.inr trivial)];rfl
def ML (N:Nat) (x y:Fl) (k:Kz0):VV N x y k=k (decide (cn x=cn y)):=by unfold VV Z4;simp only[Pr,aa3]
def xP {n i j:Nat} (hi:i<n) (hj:j<n):i*n+j<n*n:=by have:(i+1)*n<=n*n:=aGX n hi;rw[aHf]at this; omega
def Vn {n:Nat} (h:n<=12):n*n<=144:=aHC h h
def chk (r c:Int) (xs:List Fl):Int:=if (0<=r/\r<=12)/\(0<=c/\c<=12)then(if (xs.length:Int)=r*c then(if fP xs=true then 0 else 4)else 3)else 1
def ajv {r c:Int} (hr:0<=r/\r<=12) (hc:0<=c/\c<=12):aj .i64 (r*c)=true:=by have h1:0<=r*c:=Int.mul_nonneg hr.1 hc.1;have h2:r*c<=12*12:=Int.mul_le_mul hr.2 hc.2 hc.1 (by decide);exact af (by omega) (by omega)
def wo {r c:Int} {xs:List Fl}:chk r c xs=0↔((0<=r/\r<=12)/\(0<=c/\c<=12))/\(xs.length:Int)=r*c/\fP xs=true:=by
 unfold chk;split
 ·split
  ·split
   ·simp[*]
   ·simp[*]
  ·simp[*]
 ·simp[*]
def elt (xs:List Fl) (n i j:Nat):Fl:=xs.getD (i*n+j) none
def Vl (V x Bk bk i k:Nat):V%4294967296 ^ (i+k+1)+x*(Bk+4294967296 ^ k*bk)*4294967296 ^ i=(V%4294967296 ^ (i+k)+x*Bk*4294967296 ^ i)+4294967296 ^ (i+k)*(V / 4294967296 ^ (i+k)%4294967296+x*bk):=by rw[Nat.mod_pow_succ,aG_];grind
def Rw (V x Bk bk i k:Nat):(V%4294967296 ^ (i+k+1)+x*(Bk+4294967296 ^ k*bk)*4294967296 ^ i) / 4294967296 ^ (i+k+1)=((V%4294967296 ^ (i+k)+x*Bk*4294967296 ^ i) / 4294967296 ^ (i+k)+V / 4294967296 ^ (i+k)%4294967296+x*bk) / 4294967296:=by rw[Vl,aG3,<- aGY,aHP _ _ (aH1 (by decide)),aHx]
def OC (V x Bk bk i k R:Nat):(V+x*(Bk+4294967296 ^ k*bk+4294967296 ^ (k+1)*R)*4294967296 ^ i) / 4294967296 ^ (i+k)%4294967296=((V%4294967296 ^ (i+k)+x*Bk*4294967296 ^ i) / 4294967296 ^ (i+k)+V / 4294967296 ^ (i+k)%4294967296+x*bk)%4294967296:=by
 have e:V+x*(Bk+4294967296 ^ k*bk+4294967296 ^ (k+1)*R)*4294967296 ^ i=(V%4294967296 ^ (i+k+1)+x*(Bk+4294967296 ^ k*bk)*4294967296 ^ i)+4294967296 ^ (i+k+1)*(V / 4294967296 ^ (i+k+1)+x*R):=by
  have h:=aHF V (4294967296 ^ (i+k+1));have h2:4294967296 ^ (i+k+1)=4294967296 ^ (k+1)*4294967296 ^ i:=by rw[<- aG_]; congr 1; omega
  generalize V / 4294967296 ^ (i+k+1)=q at *;generalize V%4294967296 ^ (i+k+1)=r at *;rw[<- h,h2];grind
 rw[qM e,Vl,aHP _ _ (aH1 (by decide)),aHx]
def aa_ {V x Bk i k:Nat} (hx:x<4294967296) (hB:Bk<4294967296 ^ k):(V%4294967296 ^ (i+k)+x*Bk*4294967296 ^ i) / 4294967296 ^ (i+k)<4294967296:=by
 rw[aG0 (aH1 (by decide))];have h1:V%4294967296 ^ (i+k)<4294967296 ^ (i+k):=aG6 _ (aH1 (by decide));have h2:x*Bk<=4294967295*4294967296 ^ k:=aHC (by omega) (by omega);have h3:x*Bk*4294967296 ^ i<=4294967295*4294967296 ^ (i+k):=by
  have:=aGX (4294967296 ^ i) h2
  rwa [aG2 4294967295,<- aG_,aIJ k i]at this
 omega
def AA (S:Nat) {L i:Nat} (h:i<L):(dl S L).getD i 0=((S / 4294967296 ^ i%4294967296:Nat):Int):=by
 induction L with
 | zero=>omega
 | succ L ih=>
  show((dl S L)++[_]).getD i 0=_;rw[List.getD_eq_getElem?_getD];by_cases hi:i<L
  ·rw[List.getElem?_append_left (by rw[aq]; exact hi),<- List.getD_eq_getElem?_getD,ih hi]
  ·have:i=L:=by omega
   subst this;rw[List.getElem?_append_right (by rw[aq]; exact aG4 _),aq,aHq]; rfl
def ig {l:List Int} {n:Nat} (h:n<l.length):l.drop n=l.getD n 0::l.drop (n+1):=by rw[List.drop_eq_getElem_cons h,List.getD_eq_getElem?_getD,List.getElem?_eq_getElem h]; rfl
def yy {b:List Int} {k:Nat}:aI (b.take (k+1))=aI (b.take k)+4294967296 ^ k*(b.getD k 0).toNat:=aY k
def IV (U V L p:Nat) (h:p<L):(dl U p++(dl V L).drop p).set p ((U / 4294967296 ^ p%4294967296:Nat):Int)=dl U (p+1)++(dl V L).drop (p+1):=by rw[ig (by rw[aq]; exact h),bM _ _ _ _ _ (by rw[aq])];show _=(dl U p++[_])++_;rw[aG9]; rfl
def RC (U V L p:Nat) (h:p<L):(dl U p++(dl V L).drop p).getD p 0=((V / 4294967296 ^ p%4294967296:Nat):Int):=by rw[ig (by rw[aq]; exact h),eI (by rw[aq]),AA V h]
def IU (U V L p:Nat) (h:p<=L):(dl U p++(dl V L).drop p).length=L:=by simp[aq]; omega
def WX {U L p:Nat} (hU:U<4294967296 ^ p) (h:p<=L) {V:Nat} (hV:V<4294967296 ^ p):dl U p++(dl V L).drop p=dl U L:=by
 induction L with
 | zero=>
  have:p=0:=by omega
  subst this; rfl
 | succ L ih=>
  by_cases hp:p=L+1
  ·subst hp; rw[aHB (by rw[aq]; omega),aHn]
  ·have hpL:p<=L:=by omega
   have e:∀ X,X<4294967296 ^ p->dl X (L+1)=dl X L++[0]:=by intro X hX;show dl X L++[((X / 4294967296 ^ L%4294967296:Nat):Int)]=_;rw[aHm (aHc hX (aG7 (by decide) hpL))]; rfl
   rw[e V hV,e U hU,aHR (by rw[aq]; exact hpL),<- aG9,ih hpL]
def CM {a:List Int} (ha:InW a) (i:Nat):aI (a.take i)<4294967296 ^ i:=bX ha i
def CL {x y i j:Nat} (hx:x<4294967296 ^ i) (hy:y<4294967296 ^ j):x*y<4294967296 ^ (i+j):=by rw[aG_];exact aJ3 hx hy
def Fj {N:Nat} (a b:List Int) (ha:InW a) (hb:InW b) (hN:a.length+b.length+2<N) (hs:a.length+b.length<=17592186044416) (k:Kz5):D6 N a b k=k (am (aI a*aI b)):=by
  unfold D6 Zt;have eL:Int.toNat (((a.length:Nat):Int)+((b.length:Nat):Int))=a.length+b.length:=by omega
  rw[ac aGO,ac (fZ (by omega) (by omega) (by omega) (by omega)),eL]
  let L:=a.length+b.length
  let B:=aI b
  have hB:B<4294967296 ^ b.length:=jU hb;refine aM (λi=>((i:Int),dl (aI (a.take i)*B) L)) a.length ?_ (by omega) (λi hi K=>?_) (λK=>?_)
  · show((0:Int),List.replicate L (0:Int))=(((0:Nat):Int),dl (aI (a.take 0)*B) L)
    have:=Cp L 0;rw[aIb]at this;rw[aI9,show aI []=0 from rfl,aIh,this]; rfl
  · simp only[pc]
    rw[aGQ (by omega:(i:Int)<a.length),aGT];have hx:=ha.at (i:=i)
    let V:=aI (a.take i)*B
    let x:=(a.getD i 0).toNat
    let U:=aI (a.take (i+1))*B
    have hU:U=V+x*B*4294967296 ^ i:=by simp only[U,V,x];rw[yy];grind
    have hV:V<4294967296 ^ (i+b.length):=CL (CM ha i) hB;have hUl:U<4294967296 ^ (i+1+b.length):=CL (CM ha (i+1)) hB
    let c:=λj=>(V%4294967296 ^ (i+j)+x*aI (b.take j)*4294967296 ^ i) / 4294967296 ^ (i+j)
    refine aM (λj=>(((c j:Nat):Int),(j:Int),dl U (i+j)++(dl V L).drop (i+j))) b.length ?_ (by omega) (λj hj K'=>?_) (λK'=>?_)
    · show((0:Int),(0:Int),dl V L)=_
      have h0:c 0=0:=by simp only[c,aI9,show aI []=0 from rfl,aIb,aIh,aHo];exact aHm (aG6 _ (aH1 (by decide)))
      have hlow:dl U i=dl V i:=by
        have:∀ n,n<=i->dl U n=dl V n:=by
          intro n;induction n with
          | zero=>intro _; rfl
          | succ n ih=>
            intro hn;show dl U n++[_]=dl V n++[_];rw[ih (by omega)];congr 3;have:U=V+4294967296 ^ (n+1)*(x*B*4294967296 ^ (i - (n+1))):=by rw[hU,aHi,<- aG_,show n+1+(i - (n+1))=i by omega]
            exact qM this
        exact this i (aG4 _)
      have hsp:dl V i++(dl V L).drop i=dl V L:=by
        have:∀ n,i<=n->dl V i++(dl V n).drop i=dl V n:=by
          intro n;induction n with
          | zero=>intro h; have:i=0:=(by omega); subst this; rfl
          | succ n ih=>
            intro h;by_cases hn:i=n+1
            · subst hn; rw[aHB (by rw[aq]; omega),aHn]
            · show dl V i++(dl V n++[_]).drop i=dl V n++[_]
              rw[aHR (by rw[aq]; omega),<- aG9,ih (by omega)]
        exact this L (by simp only[L]; omega)
      rw[h0,aHo,hlow,hsp]; rfl
    · have hy:=hb.at (i:=j)
      have hp:i+j<L:=by simp only[L]; omega
      have hlen:=IU U V L (i+j) (by omega);have hget:=RC U V L (i+j) hp;have hset:=IV U V L (i+j) hp;have hc:=aa_ (V:=V) (x:=x) (i:=i) (k:=j) (Bk:=aI (b.take j)) (by simp only[x]; omega) (CM hb j);have hstep:=Rw V x (aI (b.take j)) (b.getD j 0).toNat i j;obtain⟨R,hR⟩:=eJ b (j+1);have hdig:=OC V x (aI (b.take j)) (b.getD j 0).toNat i j R;rw[<- yy]at hstep hdig;rw[<- hR]at hdig;have hUe:V+x*aI b*4294967296 ^ i=U:=hU.symm;rw[hUe]at hdig;have hxy:x*(b.getD j 0).toNat<=4294967295*4294967295:=aHC (by simp only[x]; omega) (by omega);have eidx:Int.toNat ((i:Int)+(j:Int))=i+j:=by omega
      have hcj:∀ n,c n=(V%4294967296 ^ (i+n)+x*aI (b.take n)*4294967296 ^ i) / 4294967296 ^ (i+n):=λ_=>rfl
      have hax:a.getD i 0=(x:Int):=by simp only[x]; omega
      have hby:b.getD j 0=((b.getD j 0).toNat:Int):=by omega
      simp only[pd,aGU,eidx,hlen,hget];rw[aGQ (by omega:(j:Int)<b.length),aGT,ac aGP,ac aGP,ac aGO,ac aGP,ac (aGQ (by omega)),ac aGO,ac aGP,ac (aGQ (by omega)),ac aGO];have ec1:c (j+1)=(c j+V / 4294967296 ^ (i+j)%4294967296+x*(b.getD j 0).toNat) / 4294967296:=hstep;have ed:U / 4294967296 ^ (i+j)%4294967296=(c j+V / 4294967296 ^ (i+j)%4294967296+x*(b.getD j 0).toNat)%4294967296:=hdig;have hcl:c j<4294967296:=hc;rw[ed]at hset;have vlt:V / 4294967296 ^ (i+j)%4294967296<4294967296:=aG6 _ (by decide);rw[hax,hby,show i+(j+1)=i+j+1 by omega,<- hset];generalize V / 4294967296 ^ (i+j)%4294967296=v at *;generalize (b.getD j 0).toNat=y at *;generalize dl U (i+j)++(dl V L).drop (i+j)=l at *;have et:∀ q:Nat,q=c j+v+x*y->IntKind.wrap .u64 ((IntKind.wrap .u64 ((IntKind.wrap .u64 ((IntKind.wrap .u64 (x:Int))*(IntKind.wrap .u64 (y:Int))))+(IntKind.wrap .u64 (v:Int))))+((c j:Nat):Int))=(q:Int):=by
        intro q hq;have exy:((x:Int))*(y:Int)=((x*y:Nat):Int):=by rw[aHa]
        have hxl:x<4294967296:=by simp only[x]; omega
        have hyl:y<4294967296:=by omega
        have w1:IntKind.wrap .u64 (x:Int)=x:=by rw[au]; omega
        have w2:IntKind.wrap .u64 (y:Int)=y:=by rw[au]; omega
        rw[w1,w2,exy,au,au,au,au];omega
      rw[et _ rfl,ec1,oA,iw];congr 1
    · simp only[pd]
      rw[aGR (by omega:¬(b.length:Int)<b.length),aGS];have hlen:=IU U V L (i+b.length) (by simp only[L]; omega);have hset:=IV U V L (i+b.length) (by simp only[L]; omega);have eidx:Int.toNat ((i:Int)+(b.length:Int))=i+b.length:=by omega
      have hLe:i+b.length<L:=by simp only[L]; omega
      have hc:c b.length=U / 4294967296 ^ (i+b.length):=by simp only[c];rw[aHw,aG1 hV,hU]
      have hcl:U / 4294967296 ^ (i+b.length)<4294967296:=by
        rw[aG0 (aH1 (by decide))];have:i+1+b.length=i+b.length+1:=by omega
        rw[this,aG3]at hUl;omega
      have ew:IntKind.wrap .u32 ((c b.length:Nat):Int)=((U / 4294967296 ^ (i+b.length)%4294967296:Nat):Int):=by rw[iw,hc]; omega
      have hfin:=WX (U:=U) (V:=V) (L:=L) (p:=i+b.length+1) (by rw[show i+b.length+1=i+1+b.length by omega]; exact hUl) (by omega) (aHc hV (aG7 (by decide) (by omega)));rw[ac aGO,eidx,hlen,ac aGP,ac (aGQ (by omega)),ac aGO,ew,hset,hfin];rfl
  · simp only[pc]
    rw[aGR (by omega:¬(a.length:Int)<a.length),aGS,aHw,iG _ (nd _ _) (by rw[aq]; simp only[L]; omega) (by rw[aq]; simp only[L]; omega)];rw[xx (CL (jU ha) hB)]
def Jj (g h:Bool) (m n:Nat):bB (g != h) (m*n)=bB g m*bB h n:=by unfold bB;rw[aHa];cases g <;> cases h <;> simp[aJZ,aJK]
def OP (n:Nat):dQ (am n) (am n).length=(am n).length:=by
 have ht:(am n).take (dQ (am n) (am n).length)=am n:=by rw[Ao (bN n),aS]
 have hc:=nZ (am n) (am n).length;have:=aJS List.length ht;rw[aHl]at this; omega
def ajq (g:Bool) (n:Nat) (k:Ky2):cond ((!g)==true) (k (decide (((am n).length:Int)>0)) (am n)) (k false (am n))=Bd (-(bB g n)) k:=by rw[al2,AU _ _ k];congr 1;unfold bB; cases g <;> simp
def LB {N:Nat} (g:Bool) (n:Nat) (hN:kj N (am n)) (k:Ky2):VW N g (am n) k=Bd (-(bB g n)) k:=by unfold VW Z6 aeK aaa;obtain⟨h1,h2⟩:=hN;rw[aHG,aGQ (by omega),aHV,qi _ (by omega) (by omega),OP];simp only[aIj,aHw];rw[aGQ (by omega:0+(am n).length<=(am n).length),aHV];exact ajq g n k
def bg (B:Nat) (n:Nat):Prop:=n<2 ^ B
def gl:∀(j n:Nat),n<4294967296 ^ j->(am n).length<=j
 | 0,n,h=>by
  have:n=0:=by simp at h; exact h
  subst this; rw[bG]; exact aG4 _
 | j+1,n,h=>by
  by_cases h0:n=0
  ·subst h0; rw[bG]; simp
  ·rw[fQ h0,aHv];have:n / 4294967296<4294967296 ^ j:=aIm (by rw[aG3]at h; omega);have:=gl j _ this;omega
def asU (j:Nat):4294967296 ^ j=2 ^ (32*j):=by rw[aJJ]
def IE {B n:Nat} (h:bg B n):(am n).length<=B / 32+1:=by refine gl _ _ ?_;rw[asU];exact aHc h (aG7 (by decide) (by omega))
def Rt {N B n:Nat} (hN:1000<=N) (hB:B<=31000) (h:bg B n):kj N (am n):=by have:=IE h;exact⟨by omega,by omega⟩
def dE {A B n:Nat} (h:bg A n) (hAB:A<=B):bg B n:=aHc h (aG7 (by decide) hAB)
def iV {A B m n:Nat} (h:bg A m) (g:bg B n):bg (A+B) (m*n):=by unfold bg; rw[aG_]; exact aJ3 h g
def Ck {A m:Nat} (h:bg A m) (s:Nat):bg (A+s) (m*2 ^ s):=by unfold bg; rw[aG_]; exact aHH h (aG5 s)
def Dr {A m n:Nat} (h:bg A m) (g:bg A n):bg (A+1) (m+n):=by unfold bg at *; rw[aG3]; omega
def qz {A m n:Nat} (h:bg A m) (g:n<=m):bg A n:=aIt g h
def Ld {N B n s:Nat} (hN:1000<=N) (hB:B+s<=31000) (h:bg B n):asZ N n s:=by have h1:=IE h;exact⟨by omega,by omega,by omega,Rt hN hB (Ck h s)⟩
def exK (z:Int × Int) (k:Int->Bool->List Int->Bool):Bool:=k z.1 (decide (z.2<0)) (am z.2.natAbs)
def FV (x y:Int × Int):Int × Int:=(x.1+y.1,x.2*y.2)
def alB (x:Int × Int):Int × Int:=(x.1,-x.2)
def zz (x:Int × Int) (e:Int):Int:=x.2*2 ^ (x.1 - e).toNat
def UW (x y:Int × Int):Int × Int:=if x.2=0 then y else if y.2=0 then x else(min x.1 y.1,zz x (min x.1 y.1)+zz y (min x.1 y.1))
def Ex (E B:Nat) (x:Int × Int):Prop:=-(E:Int)<=x.1/\x.1<=E/\bg B x.2.natAbs
def Ec (z:Int):Int:=if z=0 then 0 else if z<0 then -1 else 1
def aB:List Int->Nat
 | []=>0
 | x::r=>x.toNat+18446744073709551616*aB r
def InWq (m:List Int):Prop:=∀ x ∈ m,0<=x/\x<18446744073709551616
def ai (n:Nat):List Int:=if h:n=0 then[]else((n%18446744073709551616:Nat):Int)::ai (n / 18446744073709551616)
termination_by n
decreasing_by omega
def bU:ai 0=[]:=by rw[ai]; simp
def eu {n:Nat} (h:n ≠ 0):ai n=((n%18446744073709551616:Nat):Int)::ai (n / 18446744073709551616):=by rw[ai]; simp[h]
def bA:∀ n,InWq (ai n):=by
 intro n;induction n using Nat.strongRecOn with
 | ind n ih=>
  by_cases h:n=0
  ·subst h; rw[bU]; intro x hx; cases hx
  ·rw[eu h];intro x hx;rcases List.mem_cons.1 hx with rfl | hx
   ·omega
   ·exact ih (n / 18446744073709551616) (by omega) x hx
def aH:∀ n,aB (ai n)=n:=by
 intro n;induction n using Nat.strongRecOn with
 | ind n ih=>
  by_cases h:n=0
  ·subst h; rw[bU]; rfl
  ·rw[eu h,aB,ih (n / 18446744073709551616) (by omega),aGU];omega
def sU (a b:List Int):aB (a++b)=aB a+18446744073709551616 ^ a.length*aB b:=by
 induction a with
 | nil=>simp[aB]
 | cons x r ih=>
  rw[aIB,aB,ih,aB,aHv,aG3,aG8,aGV (18446744073709551616 ^ r.length) 18446744073709551616,aG2];omega
def InWq.take {m:List Int} (h:InWq m) (n:Nat):InWq (m.take n):=λx hx=>h x (aI6 hx)
def InWq.drop {m:List Int} (h:InWq m) (n:Nat):InWq (m.drop n):=λx hx=>h x (aJB hx)
def InWq.cons {x:Int} {m:List Int} (h:InWq (x::m)):(0<=x/\x<18446744073709551616)/\InWq m:=⟨h x (by simp),λy hy=>h y (by simp[hy])⟩
def InWq.at {m:List Int} (h:InWq m) {i:Nat}:0<=m.getD i 0/\m.getD i 0<18446744073709551616:=by
 rw[List.getD_eq_getElem?_getD];by_cases hi:i<m.length
 ·rw[List.getElem?_eq_getElem hi]; exact h _ (aH_ hi)
 ·rw[List.getElem?_eq_none (by omega)]; exact⟨by decide,by decide⟩
def l_:∀{m:List Int},InWq m->aB m<18446744073709551616 ^ m.length
 | [],_=>by simp[aB]
 | x::r,h=>by have ih:=l_ h.cons.2;have hx:=h.cons.1;rw[aB,aHv,aG3];have:aB r+1<=18446744073709551616 ^ r.length:=ih;have:=aGX 18446744073709551616 this;omega
def IP:∀{m:List Int},InWq m->(∀ x,m.getLast? = some x->x ≠ 0)->ai (aB m)=m
 | [],_,_=>bU
 | [x],h,hl=>by
  have hx:=h.cons.1;have h0:x ≠ 0:=hl x rfl;have e:aB [x]=x.toNat:=by simp[aB]
  rw[e,eu (by omega),aHm (by omega),bU,aG1 (by omega),aJd hx.1]
 | x::y::r,h,hl=>by
  have hx:=h.cons.1;have ih:=IP h.cons.2 (λz hz=>hl z (by rw[List.getLast?_cons_cons]; exact hz));have hne:aB (y::r) ≠ 0:=by intro h0;rw[h0,bU]at ih; cases ih
  have e1:aB (x::y::r)=x.toNat+18446744073709551616*aB (y::r):=rfl;rw[e1,eu (by omega)];have e2:(x.toNat+18446744073709551616*aB (y::r))%18446744073709551616=x.toNat:=by omega
  have e3:(x.toNat+18446744073709551616*aB (y::r)) / 18446744073709551616=aB (y::r):=by omega
  rw[e2,e3,ih,aJd hx.1]
def GI {m:List Int} {i:Nat} (hi:i<m.length):aB (m.take (i+1))=aB (m.take i)+18446744073709551616 ^ i*(m.getD i 0).toNat:=by rw[aHJ hi,sU,aHl,aIc (by omega),List.getD_eq_getElem?_getD,List.getElem?_eq_getElem hi];simp[aB]
def GH (n:Nat):aB (List.replicate n 0)=0:=by
 induction n with
 | zero=>rfl
 | succ n ih=>rw[aHA,aB,ih]; rfl
def dlq (S:Nat):Nat->List Int
 | 0=>[]
 | n+1=>dlq S n++[((S / 18446744073709551616 ^ n%18446744073709551616:Nat):Int)]
def ao (S:Nat):∀ n,(dlq S n).length=n
 | 0=>rfl
 | n+1=>by simp[dlq,ao S n]
def lC (S:Nat):∀ n,InWq (dlq S n)
 | 0=>λx hx=>by cases hx
 | n+1=>λx hx=>by
  rcases List.mem_append.1 hx with h | h
  ·exact lC S n x h
  ·simp only[aJR]at h;subst h;omega
def wY (S:Nat):∀ n,aB (dlq S n)=S%18446744073709551616 ^ n
 | 0=>by simp[dlq,aB,aJG]
 | n+1=>by rw[dlq,sU,ao,wY S n,aG3,aJH];simp only[aB,aGU,aIb,aHo]
def AB (S n m:Nat) (h:n<m):(dlq S n++List.replicate (m - n) 0).set n ((S / 18446744073709551616 ^ n%18446744073709551616:Nat):Int)=dlq S (n+1)++List.replicate (m - (n+1)) 0:=by
 rw[aIZ _ _ (by rw[ao]; exact aG4 _),ao,aHq];have:m - n=(m - (n+1))+1:=by omega
 rw[this,aHA];simp[dlq]
def qN {S n:Nat} (h:S<18446744073709551616 ^ n):ai (aB (dlq S n))=ai S:=by rw[wY,aG1 h]
def aT {m:List Int} (i:Nat):aB (m.take (i+1))=aB (m.take i)+18446744073709551616 ^ i*(m.getD i 0).toNat:=by
 by_cases h:i<m.length
 ·exact GI h
 ·rw[jr (by omega),aHb (by omega),aHb (by omega)]; simp
def xv (b:List Int):∀ n,aB (b.take (dQ b n))=aB (b.take n)
 | 0=>rfl
 | n+1=>by
  unfold dQ;split
  ·rename_i h;rw[xv b n,aT,h]; simp
  ·rfl
def Eu {b:List Int} (hb:InWq b):b.take (dQ b b.length)=ai (aB b):=by have h1:=xv b b.length;rw[aHw]at h1;rw[<- h1,IP (hb.take _) (zq b b.length (aG4 _))]
def gQ (T A i:Nat):(T+18446744073709551616 ^ i*A) / 18446744073709551616 ^ i=T / 18446744073709551616 ^ i+A:=aHP _ _ (aH1 (by decide))
def PO (m:List Int) (i:Nat):aB m=aB (m.take i)+18446744073709551616 ^ (m.take i).length*aB (m.drop i):=by rw[<- sU,aIY]
def cR (m:List Int) (i:Nat):∃ R,aB m=aB (m.take i)+18446744073709551616 ^ i*R:=by
 by_cases h:i<=m.length
 ·refine⟨aB (m.drop i),?_⟩;have:=PO m i
  rwa [aHl,aIc h]at this
 ·exact⟨0,by rw[aHb (by omega)]; simp⟩
def aZ {m:List Int} (h:InWq m) (i:Nat):aB (m.take i)<18446744073709551616 ^ i:=by
 have h1:=l_ (h.take i);have h2:(m.take i).length<=i:=by simp; omega
 exact aHc h1 (aG7 (by decide) h2)
def mq {S T R i:Nat} (h:S=T+18446744073709551616 ^ (i+1)*R):S / 18446744073709551616 ^ i%18446744073709551616=T / 18446744073709551616 ^ i%18446744073709551616:=by rw[h,aG3,aG2,gQ,aH8]
def SQ (i:Nat):0<18446744073709551616 ^ i:=aH1 (by decide)
def Lo {P A B x y o R1 R2 D a b:Nat} (hA:A<P) (hB:B<P) (ho:o=if A<B then 1 else 0) (h1:a=A+P*x+P*18446744073709551616*R1) (h2:b=B+P*y+P*18446744073709551616*R2) (hD:(D:Int)=(a:Int) - (b:Int)) :
  ((D / P:Nat):Int)=(x:Int) - (y:Int) - (o:Int)+18446744073709551616*((R1:Int) - (R2:Int)):=by
 have he:∃ e:Nat,e<P/\(e:Int)=(A:Int) - (B:Int)+(P:Int)*(o:Int):=by
  rw[ho];split
  ·exact⟨A+P - B,by omega,by omega⟩
  ·exact⟨A - B,by omega,by omega⟩
 obtain⟨e,he1,he2⟩:=he;refine Jf (e:=e) ?_ he1;have e1:(a:Int)=A+(P:Int)*x+18446744073709551616*((P:Int)*R1):=by rw[h1,aG2,aHi]; simp
 have e2:(b:Int)=B+(P:Int)*y+18446744073709551616*((P:Int)*R2):=by rw[h2,aG2,aHi]; simp
 have e3:(P:Int)*((x:Int) - (y:Int) - (o:Int)+18446744073709551616*((R1:Int) - (R2:Int)))=(P:Int)*x - (P:Int)*y - (P:Int)*o+(18446744073709551616*((P:Int)*R1) - 18446744073709551616*((P:Int)*R2)):=by rw[Int.mul_add,aJe,aJe,Int.mul_left_comm,aJe,aJe]
 rw[hD,e1,e2,e3,he2];omega
def ir {x y:Nat} (h:x<=y):(ai x).length<=(ai y).length:=by
 induction y using Nat.strongRecOn generalizing x with
 | ind y ih=>
  by_cases hx:x=0
  ·subst hx; rw[bU]; simp
  ·rw[eu hx,eu (by omega:y ≠ 0)];simp only[aHv];have:=ih (y / 18446744073709551616) (by omega) (x:=x / 18446744073709551616) (aI7 h);omega
def zw:∀(w X:Nat),dlq (18446744073709551616 ^ w*X) w=List.replicate w 0:=by
 intro w;have key:∀ n,n<=w -> ∀ X,dlq (18446744073709551616 ^ w*X) n=List.replicate n 0:=by
  intro n;induction n with
  | zero=>intro _ X; rfl
  | succ n ih=>
   intro hn X;rw[dlq,ih (by omega),aIv];have e:18446744073709551616 ^ w*X=18446744073709551616 ^ n*(18446744073709551616*(18446744073709551616 ^ (w - n - 1)*X)):=by rw[<- aG2,<- aG2,<- aG3,<- aG_];congr 2; omega
   rw[e,aHs _ (SQ n),aJX];rfl
 exact key w (aG4 _)
def kx:∀(j n:Nat),n<18446744073709551616 ^ j->(ai n).length<=j
 | 0,n,h=>by
  have:n=0:=by simp at h; exact h
  subst this; rw[bU]; exact aG4 _
 | j+1,n,h=>by
  by_cases h0:n=0
  ·subst h0; rw[bU]; simp
  ·rw[eu h0,aHv];have:n / 18446744073709551616<18446744073709551616 ^ j:=aIm (by rw[aG3]at h; omega);have:=kx j _ this;omega
def PN (V x Bk bk i k:Nat):V%18446744073709551616 ^ (i+k+1)+x*(Bk+18446744073709551616 ^ k*bk)*18446744073709551616 ^ i=(V%18446744073709551616 ^ (i+k)+x*Bk*18446744073709551616 ^ i)+18446744073709551616 ^ (i+k)*(V / 18446744073709551616 ^ (i+k)%18446744073709551616+x*bk):=by rw[Nat.mod_pow_succ,aG_];grind
def OD (V x Bk bk i k:Nat):(V%18446744073709551616 ^ (i+k+1)+x*(Bk+18446744073709551616 ^ k*bk)*18446744073709551616 ^ i) / 18446744073709551616 ^ (i+k+1)=((V%18446744073709551616 ^ (i+k)+x*Bk*18446744073709551616 ^ i) / 18446744073709551616 ^ (i+k)+V / 18446744073709551616 ^ (i+k)%18446744073709551616+x*bk) / 18446744073709551616:=by rw[PN,aG3,<- aGY,aHP _ _ (aH1 (by decide)),aHx]
def Mo (V x Bk bk i k R:Nat):(V+x*(Bk+18446744073709551616 ^ k*bk+18446744073709551616 ^ (k+1)*R)*18446744073709551616 ^ i) / 18446744073709551616 ^ (i+k)%18446744073709551616=((V%18446744073709551616 ^ (i+k)+x*Bk*18446744073709551616 ^ i) / 18446744073709551616 ^ (i+k)+V / 18446744073709551616 ^ (i+k)%18446744073709551616+x*bk)%18446744073709551616:=by
 have e:V+x*(Bk+18446744073709551616 ^ k*bk+18446744073709551616 ^ (k+1)*R)*18446744073709551616 ^ i=(V%18446744073709551616 ^ (i+k+1)+x*(Bk+18446744073709551616 ^ k*bk)*18446744073709551616 ^ i)+18446744073709551616 ^ (i+k+1)*(V / 18446744073709551616 ^ (i+k+1)+x*R):=by
  have h:=aHF V (18446744073709551616 ^ (i+k+1));have h2:18446744073709551616 ^ (i+k+1)=18446744073709551616 ^ (k+1)*18446744073709551616 ^ i:=by rw[<- aG_]; congr 1; omega
  generalize V / 18446744073709551616 ^ (i+k+1)=q at *;generalize V%18446744073709551616 ^ (i+k+1)=r at *;rw[<- h,h2];grind
 rw[mq e,PN,aHP _ _ (aH1 (by decide)),aHx]
def WS {V x Bk i k:Nat} (hx:x<18446744073709551616) (hB:Bk<18446744073709551616 ^ k):(V%18446744073709551616 ^ (i+k)+x*Bk*18446744073709551616 ^ i) / 18446744073709551616 ^ (i+k)<18446744073709551616:=by
 rw[aG0 (aH1 (by decide))];have h1:V%18446744073709551616 ^ (i+k)<18446744073709551616 ^ (i+k):=aG6 _ (aH1 (by decide));have h2:x*Bk<=18446744073709551615*18446744073709551616 ^ k:=aHC (by omega) (by omega);have h3:x*Bk*18446744073709551616 ^ i<=18446744073709551615*18446744073709551616 ^ (i+k):=by
  have:=aGX (18446744073709551616 ^ i) h2
  rwa [aG2 18446744073709551615,<- aG_,aIJ k i]at this
 omega
def zu (S:Nat) {L i:Nat} (h:i<L):(dlq S L).getD i 0=((S / 18446744073709551616 ^ i%18446744073709551616:Nat):Int):=by
 induction L with
 | zero=>omega
 | succ L ih=>
  show((dlq S L)++[_]).getD i 0=_;rw[List.getD_eq_getElem?_getD];by_cases hi:i<L
  ·rw[List.getElem?_append_left (by rw[ao]; exact hi),<- List.getD_eq_getElem?_getD,ih hi]
  ·have:i=L:=by omega
   subst this;rw[List.getElem?_append_right (by rw[ao]; exact aG4 _),ao,aHq]; rfl
def wZ {b:List Int} {k:Nat}:aB (b.take (k+1))=aB (b.take k)+18446744073709551616 ^ k*(b.getD k 0).toNat:=aT k
def FT (U V L p:Nat) (h:p<L):(dlq U p++(dlq V L).drop p).set p ((U / 18446744073709551616 ^ p%18446744073709551616:Nat):Int)=dlq U (p+1)++(dlq V L).drop (p+1):=by rw[ig (by rw[ao]; exact h),bM _ _ _ _ _ (by rw[ao])];show _=(dlq U p++[_])++_;rw[aG9]; rfl
def O4 (U V L p:Nat) (h:p<L):(dlq U p++(dlq V L).drop p).getD p 0=((V / 18446744073709551616 ^ p%18446744073709551616:Nat):Int):=by rw[ig (by rw[ao]; exact h),eI (by rw[ao]),zu V h]
def FR (U V L p:Nat) (h:p<=L):(dlq U p++(dlq V L).drop p).length=L:=by simp[ao]; omega
def RB {U L p:Nat} (hU:U<18446744073709551616 ^ p) (h:p<=L) {V:Nat} (hV:V<18446744073709551616 ^ p):dlq U p++(dlq V L).drop p=dlq U L:=by
 induction L with
 | zero=>
  have:p=0:=by omega
  subst this; rfl
 | succ L ih=>
  by_cases hp:p=L+1
  ·subst hp; rw[aHB (by rw[ao]; omega),aHn]
  ·have hpL:p<=L:=by omega
   have e:∀ X,X<18446744073709551616 ^ p->dlq X (L+1)=dlq X L++[0]:=by intro X hX;show dlq X L++[((X / 18446744073709551616 ^ L%18446744073709551616:Nat):Int)]=_;rw[aHm (aHc hX (aG7 (by decide) hpL))]; rfl
   rw[e V hV,e U hU,aHR (by rw[ao]; exact hpL),<- aG9,ih hpL]
def zW {a:List Int} (ha:InWq a) (i:Nat):aB (a.take i)<18446744073709551616 ^ i:=aZ ha i
def zU {x y i j:Nat} (hx:x<18446744073709551616 ^ i) (hy:y<18446744073709551616 ^ j):x*y<18446744073709551616 ^ (i+j):=by rw[aG_];exact aJ3 hx hy
def pS (N:Nat) (l:List Int):Prop:=l.length+3<N/\l.length<=1099511627776
def Jy {N:Nat} (b:List Int) (hN:b.length<N) (hs:b.length<9223372036854775807) (k:Kz2):sQ9 N b k=k (dQ b b.length):=by
 unfold sQ9 GQ9;have key:∀ n,n<=b.length -> ∀ M,n<M->ah M (CY N b λn_1=>((decide (0<=n_1/\n_1<=(((List.length b):Nat):Int)))&&(k ((Int.toNat n_1) - 0)))) (n:Int)=k (dQ b n):=by
  intro n;induction n with
  | zero=>
   intro _ M hM;cases M with
   | zero=>omega
   | succ M=>
    show CY N b _ ((0:Nat):Int) _=_;simp only[CY,dQ];rw[aGR (by omega:¬((0:Nat):Int)>0),show(false==true)=false from rfl,aGS,aGQ (by omega),aHV];rfl
  | succ n ih=>
   intro hn M hM;cases M with
   | zero=>omega
   | succ M=>
    show CY N b _ ((n+1:Nat):Int) (ah M _)=_;have e:Int.toNat (((n+1:Nat):Int) - 1)=n:=by omega
    have e2:((n+1:Nat):Int) - 1=(n:Int):=by omega
    simp only[CY,e];rw[aGQ (by omega:((n+1:Nat):Int)>0),show(true==true)=true from rfl,aGT,ac aGO,ac aGP,ac (aGQ (by omega)),ac aGO,e2,ih (by omega) M (by omega),vm];by_cases h0:b.getD n 0=0
    ·have:(b.getD n 0==0)=true:=by simpa using h0
     rw[this,if_pos h0]; rfl
    ·have:(b.getD n 0==0)=false:=by simpa using h0
     rw[this,if_neg h0,aGS,aGQ (by omega),aHV];rfl
 exact key b.length (aG4 _) N hN
def oP {N:Nat} (b:List Int) (hb:InWq b) (hN:b.length<N) (hs:b.length<9223372036854775807) (k:Kz5) :
  (sQ9 N b λl=>(decide (0+l<=b.length))&&k (List.take l (List.drop 0 b)))=k (ai (aB b)):=by
 rw[Jy b hN hs,aIj,Eu hb];have:=nZ b b.length;rw[aGQ (by omega)]; rfl
def AJ {N:Nat} (hN:1000<=N) (n:Nat) (hn:n<18446744073709551616) (k:Kz5):Fm N (n:Int) k=k (ai n):=by
 unfold Fm anV;have hw:InWq [(n:Int)]:=by intro x hx;simp only[aIf,aIP,or_false]at hx;subst hx; omega
 have hv:aB [(n:Int)]=n:=by simp only[aB]; omega
 have:=oP (N:=N) [(n:Int)] hw (by simp; omega) (by simp) k;rw[hv]at this;exact this
def Ff {N:Nat} (l:List Int) (h:l.length<=1099511627776) (k:Kz5):GJ N l k=k l:=by unfold GJ anG;rw[aHG,aGQ (by omega),aHV]
def tA (N:Nat) (l:List Int) (i:Nat) (hi:i<9223372036854775807) (k:Kz1):JQ N l (i:Int) k=k (l.getD i 0):=by
 unfold JQ Zl;by_cases h:i<l.length
 ·rw[aGQ (by omega:(i:Int)<((l.length:Nat):Int)),aGT,ac aGP,aGU]
 ·rw[aGR (by omega:¬(i:Int)<((l.length:Nat):Int)),aGS,jr (by omega)]
def tx (N:Nat) {x y c:Int} {a b d:Nat} (hx:x=(a:Int)) (hy:y=(b:Int)) (hz:c=(d:Int)) (hc:d<=1) (k:Ky3):CQ N x y c k=k (((a+b+d)%18446744073709551616:Nat):Int) (((a+b+d) / 18446744073709551616:Nat):Int):=by subst hx hy hz;show(decide (Int.toNat (d:Int)<=1)&&_)=_;rw[aGU,aGQ hc]; rfl
def Fe (N:Nat) {x y c:Int} {a b d:Nat} (hx:x=(a:Int)) (hy:y=(b:Int)) (hz:c=(d:Int)) (hc:d<=1) (k:Ky3):aeR N x y c k=k (((a+18446744073709551616 - b - d)%18446744073709551616:Nat):Int) (if a<b+d then 1 else 0):=by
 subst hx hy hz;show(decide (Int.toNat (d:Int)<=1)&&_)=_;rw[aGU,aGQ hc];show k _ (cond (decide (a<b+d)) 1 0)=_;by_cases h:a<b+d
 ·rw[aGQ h,if_pos h]; rfl
 ·rw[aGR h,if_neg h]; rfl
def ai5 (a b:Nat):imm true (a:Int) (b:Int)=((max a b:Nat):Int):=by
 unfold imm; simp only[aGT];by_cases h:(b:Int)>a
 ·rw[aGQ h,aGT]; omega
 ·rw[aGR h,aGS]; omega
def ad1 {N:Nat} (a b:List Int) (ha:InWq a) (hb:InWq b) (hNa:pS N a) (hNb:pS N b) (k:Kz5):Wa N a b k=k (ai (aB a+aB b)):=by
 unfold Wa aaw;obtain⟨a1,a2⟩:=hNa;obtain⟨b1,b2⟩:=hNb;rw[ai5]
 let L:=max a.length b.length
 have hLa:a.length<=L:=Nat.le_max_left _ _;have hLb:b.length<=L:=Nat.le_max_right _ _;have hLN:L+3<N:=by simp only[L]; omega
 have hLs:L<=1099511627776:=by simp only[L]; omega
 show(aj .i64 ((L:Int)+1)&&_)=_;have eL:Int.toNat ((L:Int)+1)=L+1:=by omega
 rw[ac aGO,ac (fZ (by omega) (by omega) (by omega) (by omega)),eL]
 let S:=aB a+aB b
 let T:=λi=>aB (a.take i)+aB (b.take i)
 refine aM (λi=>(((T i / 18446744073709551616 ^ i:Nat):Int),(i:Int),dlq S i++List.replicate (L+1 - i) 0)) L (by simp[T,aB,dlq]) (by omega) (λi hi K=>?_) (λK=>?_)
 ·have hx:=ha.at (i:=i);have hy:=hb.at (i:=i);have hT:T (i+1)=T i+18446744073709551616 ^ i*((a.getD i 0).toNat+(b.getD i 0).toNat):=by simp only[T,aT,aG8]; omega
  have hq:T (i+1) / 18446744073709551616 ^ i=T i / 18446744073709551616 ^ i+((a.getD i 0).toNat+(b.getD i 0).toNat):=by rw[hT,gQ]
  have hc:T i / 18446744073709551616 ^ i<=1:=by
   have h1:=aZ ha i;have h2:=aZ hb i;have h3:T i<18446744073709551616 ^ i*2:=by simp only[T]; omega
   have:=(aG0 (aH1 (n:=i) (by decide:0<18446744073709551616))).2 (by rw[aGV]; exact h3:T i<2*18446744073709551616 ^ i);omega
  have hdiv:T (i+1) / 18446744073709551616 ^ (i+1)=T (i+1) / 18446744073709551616 ^ i / 18446744073709551616:=by rw[aG3,aGY]
  have hdig:S / 18446744073709551616 ^ i%18446744073709551616=T (i+1) / 18446744073709551616 ^ i%18446744073709551616:=by obtain⟨R1,h1⟩:=cR a (i+1);obtain⟨R2,h2⟩:=cR b (i+1);refine mq (R:=R1+R2) ?_;simp only[S,T];rw[aG8]; omega
  have hset:=AB S i (L+1) (by omega);have hlen:(dlq S i++List.replicate (L+1 - i) 0).length=L+1:=by simp[ao]; omega
  simp only[tc];rw[aGQ (by omega:(i:Int)<((max a.length b.length:Nat):Int)),aGT,tA N a i (by omega),tA N b i (by omega),tx N (a:=(a.getD i 0).toNat) (b:=(b.getD i 0).toNat) (d:=T i / 18446744073709551616 ^ i) (by omega) (by omega) rfl hc,hlen,ac aGP,ac (aGQ (by omega)),ac aGO,aGU];have e1:(a.getD i 0).toNat+(b.getD i 0).toNat+T i / 18446744073709551616 ^ i=T (i+1) / 18446744073709551616 ^ i:=by rw[hq]; omega
  rw[e1,<- hdig,<- hdiv,hset];rfl
 ·simp only[tc];rw[aGR (by omega:¬(L:Int)<((max a.length b.length:Nat):Int)),aGS];have hT:T L=S:=by simp only[T,S]; rw[aHb hLa,aHb hLb]
  have hS:S<18446744073709551616 ^ (L+1):=by have h1:=aZ ha L;have h2:=aZ hb L;rw[aHb hLa]at h1;rw[aHb hLb]at h2;rw[aG3];simp only[S]; omega
  have hlen:(dlq S L++List.replicate (L+1 - L) 0).length=L+1:=by simp[ao]
  have hcl:S / 18446744073709551616 ^ L<18446744073709551616:=by rw[aG0 (aH1 (by decide)),aGV,<- aG3]; exact hS
  have e2:((T L / 18446744073709551616 ^ L:Nat):Int)=((S / 18446744073709551616 ^ L%18446744073709551616:Nat):Int):=by rw[hT,aG1 hcl]
  have hset:=AB S L (L+1) (by omega);rw[e2,aGU,hset,hlen,ac aGP,ac (aGQ (by omega)),aHq,aHp,aHn,
   oP _ (lC S _) (by rw[ao]; omega) (by rw[ao]; omega),qN hS]
def tz {N:Nat} (a b:List Int) (ha:InWq a) (hb:InWq b) (hle:aB b<=aB a) (hN:pS N a) (k:Kz5):Qa N a b k=k (ai (aB a - aB b)):=by
 obtain⟨hN1,hN2⟩:=hN;unfold Qa aae;rw[ac (fZ (by omega) (by omega) (by omega) (by omega)),aGU]
 let D:=aB a - aB b
 let bo:=λi=>if aB (a.take i)<aB (b.take i)then(1:Nat)else 0
 refine aM (λi=>(((bo i:Nat):Int),(i:Int),dlq D i++List.replicate (a.length - i) 0)) a.length (by simp[bo,aB,dlq]) (by omega) (λi hi K=>?_) (λK=>?_)
 ·have hx:=ha.at (i:=i);have hy:=hb.at (i:=i);have hA:=aT (m:=a) i;have hB:=aT (m:=b) i;have hAl:=aZ ha i;have hBl:=aZ hb i;have hset:=AB D i a.length (by omega);have hl:(dlq D i++List.replicate (a.length - i) 0).length=a.length:=by simp[ao]; omega
  obtain⟨R1,h1⟩:=cR a (i+1);obtain⟨R2,h2⟩:=cR b (i+1);have hD:(D:Int)=(aB a:Int) - (aB b:Int):=by simp only[D]; omega
  have hPs:18446744073709551616 ^ (i+1)=18446744073709551616 ^ i*18446744073709551616:=aG3 ..;have hbo:bo i<=1:=by simp only[bo]; split <;> omega
  have hbs:bo (i+1)=if (a.getD i 0).toNat<(b.getD i 0).toNat+bo i then 1 else 0:=by simp only[bo,hA,hB];exact vk _ _ _ _ _ hAl hBl
  have hq:((D / 18446744073709551616 ^ i:Nat):Int)=((a.getD i 0).toNat:Int) - ((b.getD i 0).toNat:Int) - (bo i:Int)+18446744073709551616*((R1:Int) - (R2:Int)):=by rw[hA,hPs]at h1;rw[hB,hPs]at h2;exact Lo hAl hBl rfl h1 h2 hD
  have hdig:((D / 18446744073709551616 ^ i%18446744073709551616:Nat):Int)=(((a.getD i 0).toNat:Int) - ((b.getD i 0).toNat:Int) - (bo i:Int))%18446744073709551616:=by rw[Int.natCast_emod,hq];exact Int.add_mul_emod_self_left _ _ _
  simp only[qF];rw[aGQ (by omega:(i:Int)<a.length),aGT,ac aGP,tA N b i (by omega),aGU,Fe N (a:=(a.getD i 0).toNat) (b:=(b.getD i 0).toNat) (d:=bo i) (by omega) (by omega) rfl hbo,hl,ac aGP,ac (aGQ (by omega)),ac aGO];have e1:(((((a.getD i 0).toNat+18446744073709551616 - (b.getD i 0).toNat - bo i)%18446744073709551616:Nat)):Int)=((D / 18446744073709551616 ^ i%18446744073709551616:Nat):Int):=by rw[hdig]; omega
  have e2:(if (a.getD i 0).toNat<(b.getD i 0).toNat+bo i then(1:Int)else 0)=((bo (i+1):Nat):Int):=by rw[hbs]; split <;> rfl
  rw[e1,e2,hset];rfl
 ·simp only[qF];rw[aGR (by omega:¬(a.length:Int)<a.length),aGS,aHq,aHp,aHn];have hS:D<18446744073709551616 ^ a.length:=by have:=l_ ha; simp only[D]; omega
  rw[oP _ (lC D _) (by rw[ao]; omega) (by rw[ao]; omega),qN hS]
def Kv {N:Nat} (a b:List Int) (ha:InWq a) (hb:InWq b) (hl:a.length=b.length) (hs:a.length<9223372036854775807) (k:Kz1) :
  ∀ n,n<=a.length -> ∀ M,n<M->ah M (CV N a b (λt4=>k t4) (k 0)) ((n:Int) - 1)=k (iW (aB (a.take n)) (aB (b.take n))):=by
 intro n;induction n with
 | zero=>
  intro _ M hM;cases M with
  | zero=>omega
  | succ M=>
   show CV N a b _ _ ((0:Nat) - 1:Int) _=_;simp[CV,iW,aB]
 | succ n ih=>
  intro hn M hM;cases M with
  | zero=>omega
  | succ M=>
   show CV N a b _ _ (((n+1:Nat):Int) - 1) (ah M _)=_;have e:(((n+1:Nat):Int) - 1)=(n:Int):=by omega
   have hx:=ha.at (i:=n);have hy:=hb.at (i:=n);have hA:=aT (m:=a) n;have hB:=aT (m:=b) n;have hAl:=aZ ha n;have hBl:=aZ hb n;rw[e];simp only[CV,aGU];rw[hA,hB,aGQ (by omega:(n:Int)>=0),aGT,ac aGP,ac aGP,ac aGP,ac aGP,ac aGO,ih (by omega) M (by omega)];by_cases h0:a.getD n 0=b.getD n 0
   ·rw[show(a.getD n 0 != b.getD n 0)=false by simpa using h0,aGS,h0,OH]
   ·rw[show(a.getD n 0 != b.getD n 0)=true by simpa using h0,aGT];by_cases h1:a.getD n 0<b.getD n 0
    ·rw[aGQ h1,aGT,abb hAl (by omega)]
    ·rw[aGR h1,aGS,aba hBl (by omega)]
def mA {N:Nat} (x y:Nat) (hx:pS N (ai x)) (hy:pS N (ai y)) (k:Kz1):Ea N (ai x) (ai y) k=k (iW x y):=by
 unfold Ea anv;obtain⟨x1,x2⟩:=hx;obtain⟨y1,y2⟩:=hy;by_cases h:(ai x).length=(ai y).length
 ·have e:(((ai x).length:Int) != (ai y).length)=false:=by rw[h]; simp
  rw[e,aGS,ac aGO,Kv (ai x) (ai y) (bA x) (bA y) h (by omega) k _ (aG4 _) N (by omega),aHw,h,aHw,aH,aH]
 ·have e:(((ai x).length:Int) != (ai y).length)=true:=by simp; omega
  rw[e,aGT];by_cases h1:(ai x).length<(ai y).length
  ·rw[aGQ (by omega),aGT];have:x<y:=by
    rcases aHN x y with h2 | h2
    ·exact h2
    ·have:=ir h2; omega
   unfold iW; rw[if_pos this]
  ·rw[aGR (by omega),aGS];have:¬ x<=y:=λh2=>by have:=ir h2; omega
   unfold iW; rw[if_neg (by omega),if_neg (by omega)]
def zN (z:Int) (k:Ky2):Bool:=k (decide (z<0)) (ai z.natAbs)
def wz (n:Nat):decide (((ai n).length:Int)>0)=decide (n ≠ 0):=by
 by_cases h:n=0
 ·subst h; rw[bU]; simp
 ·rw[eu h,aHv,aGQ (by omega),aGQ h]
def PW (g:Bool) (n:Nat) (k:Ky2):k (sg g n) (ai n)=zN (bB g n) k:=by
 unfold zN bB sg;cases g
 ·simp only[aHX,aHr,aJs,aHO];rw[aGR (by omega)]
 ·simp only[aIr,aHV,aJt,aHO];congr 1;by_cases h:n=0
  ·subst h; rfl
  ·rw[aGQ h,aGQ (by omega)]
def aef (g:Bool) (n:Nat) (k:Ky2):cond (g==true) (k (decide (((ai n).length:Int)>0)) (ai n)) (k false (ai n))=zN (bB g n) k:=by rw[wz,<- PW];cases g <;> rfl
def Sc {N:Nat} (g b:Bool) (n:Nat) (k:Ky2):M8 N g (ai n) b (λcr=>k cr (ai n))=zN (bB g n) k:=aef g n k
def un {N:Nat} (g b:Bool) (l:List Int) (n:Nat) (k:Ky2):aeX N g (ai n) b l (λcr=>k cr (ai n))=zN (bB g n) k:=aef g n k
def TE (g1 g2:Bool) (n1 n2:Nat) (k:Ky2) :
  cond (g1==g2) (zN (bB g2 (n1+n2)) k) (cond (decide (iW n1 n2>=0)) (zN (bB g1 (n1 - n2)) k) (zN (bB g2 (n2 - n1)) k))=zN (bB g1 n1+bB g2 n2) k:=by
 rw[Ax];have key:∀ a b:Int,a=b->zN a k=zN b k:=λa b h=>by rw[h]
 cases g1 <;> cases g2 <;> simp only[bB] <;> by_cases h:n2<=n1 <;> simp only[h,aJD,aJQ,aGT,aGS,aIw,aHX,aIr,aHr,(by decide:(false==true)=false),(by decide:(true==false)=false)] <;> refine key _ _ ?_ <;> omega
def Ou (n:Nat):aF .and .u64 (n:Int) 4294967295=((n%4294967296:Nat):Int):=by
 have h:=ou n 32 (by decide);have e1:((2 ^ 32 - 1:Nat):Int)=4294967295:=by decide
 have e2:(2:Nat) ^ 32=4294967296:=by decide
 rw[e1,e2]at h;exact h
def apt (p00 p10 p01 p11:Nat):(p11*18446744073709551616+(p10+p01)*4294967296+p00) / 18446744073709551616=p11+(p10+p00 / 4294967296) / 4294967296+((p10+p00 / 4294967296)%4294967296+p01) / 4294967296:=by omega
def XJ (x y:Nat):x*y=(x / 4294967296)*(y / 4294967296)*18446744073709551616+((x / 4294967296)*(y%4294967296)+(x%4294967296)*(y / 4294967296))*4294967296+(x%4294967296)*(y%4294967296):=by have hx:=aHF x 4294967296;have hy:=aHF y 4294967296;generalize x / 4294967296=a at *;generalize x%4294967296=b at *;generalize y / 4294967296=c at *;generalize y%4294967296=d at *;subst hx hy;grind
def Fd (N:Nat) {x y:Nat} (hx:x<18446744073709551616) (hy:y<18446744073709551616) (k:Ky3):JZ N (x:Int) (y:Int) k=k ((x*y / 18446744073709551616:Nat):Int) ((x*y%18446744073709551616:Nat):Int):=by
 unfold JZ anX;have fx:Int.fdiv (x:Int) (2 ^ 32)=((x / 4294967296:Nat):Int):=by rw[oA]; rfl
 have fy:Int.fdiv (y:Int) (2 ^ 32)=((y / 4294967296:Nat):Int):=by rw[oA]; rfl
 rw[Ou,Ou,fx,fy];have hs:=XJ x y;have b0:x / 4294967296<=4294967295:=by omega
 have b1:x%4294967296<=4294967295:=by omega
 have b2:y / 4294967296<=4294967295:=by omega
 have b3:y%4294967296<=4294967295:=by omega
 have m00:=aHC b1 b3;have m10:=aHC b0 b3;have m01:=aHC b1 b2;have m11:=aHC b0 b2;have hh:=apt ((x%4294967296)*(y%4294967296)) ((x / 4294967296)*(y%4294967296)) ((x%4294967296)*(y / 4294967296)) ((x / 4294967296)*(y / 4294967296));rw[<- hs]at hh;rw[<- aHa,<- aHa,<- aHa,<- aHa,<- aHa];have hlt:x*y<=18446744073709551615*18446744073709551615:=aHC (by omega) (by omega);generalize x*y=P at *;generalize (x%4294967296)*(y%4294967296)=p00 at *;generalize (x / 4294967296)*(y%4294967296)=p10 at *;generalize (x%4294967296)*(y / 4294967296)=p01 at *;generalize (x / 4294967296)*(y / 4294967296)=p11 at *;have t1:IntKind.wrap .u64 (IntKind.wrap .u64 (p10:Int)+Int.fdiv (IntKind.wrap .u64 (p00:Int)) (2 ^ 32))=((p10+p00 / 4294967296:Nat):Int):=by simp only[au,oA]; omega
 rw[t1,Ou];congr 1
 ·rw[hh];simp only[au,oA];omega
def Jx (N:Nat) {x y c d:Int} {a b e f:Nat} (hx:x=(a:Int)) (hy:y=(b:Int)) (hc:c=(e:Int)) (hd:d=(f:Int)) (ha:a<18446744073709551616) (hb:b<18446744073709551616) (he:e<18446744073709551616) (hf:f<18446744073709551616) (k:Ky3) :
  Ta N x y c d k=k (((a*b+e+f) / 18446744073709551616:Nat):Int) (((a*b+e+f)%18446744073709551616:Nat):Int):=by
 subst hx hy hc hd;unfold Ta anJ;have hlt:a*b<=18446744073709551615*18446744073709551615:=aHC (by omega) (by omega);rw[Fd N ha hb];generalize a*b=P at *;rw[tx N (c:=0) (a:=P%18446744073709551616) (b:=e) (d:=0) rfl rfl rfl (by omega),tx N (c:=0) (a:=(P%18446744073709551616+e+0)%18446744073709551616) (b:=f) (d:=0) rfl rfl rfl (by omega)];congr 1
 ·simp only[au]; omega
 ·omega
def R8 {N:Nat} (a b:List Int) (ha:InWq a) (hb:InWq b) (hN:a.length+b.length+2<N) (hs:a.length+b.length<=1099511627776) (k:Kz5):Gd N a b k=k (ai (aB a*aB b)):=by
  unfold Gd ZD;by_cases a0:a.length=0
  · have:a=[]:=List.length_eq_zero_iff.1 a0
    subst this;show k []=k (ai (0*aB b));rw[aIh,bU]
  by_cases b0:b.length=0
  · have:b=[]:=List.length_eq_zero_iff.1 b0
    subst this;have e:(((a.length:Nat):Int)==0)=false:=by simp; intro h; subst h; simp at a0
    rw[e,show(false==false)=true from rfl,aGT];show k []=k (ai (aB a*0));rw[aIb,bU]
  have e0:(((a.length:Nat):Int)==0)=false:=by simp; intro h; subst h; simp at a0
  have e1:(((b.length:Nat):Int)==0)=false:=by simp; intro h; subst h; simp at b0
  rw[e0,e1,show(false==false)=true from rfl,aGT,aGS];have eL:Int.toNat (((a.length:Nat):Int)+((b.length:Nat):Int))=a.length+b.length:=by omega
  rw[ac aGO,ac (fZ (by omega) (by omega) (by omega) (by omega)),eL]
  let L:=a.length+b.length
  let B:=aB b
  have hB:B<18446744073709551616 ^ b.length:=l_ hb;refine aM (λi=>((i:Int),dlq (aB (a.take i)*B) L)) a.length ?_ (by omega) (λi hi K=>?_) (λK=>?_)
  · show((0:Int),List.replicate L (0:Int))=(((0:Nat):Int),dlq (aB (a.take 0)*B) L)
    have:=zw L 0;rw[aIb]at this;rw[aI9,show aB []=0 from rfl,aIh,this]; rfl
  · simp only[o8]
    rw[aGQ (by omega:(i:Int)<a.length),aGT,ac aGP,aGU];have hx:=ha.at (i:=i)
    let V:=aB (a.take i)*B
    let x:=(a.getD i 0).toNat
    let U:=aB (a.take (i+1))*B
    have hU:U=V+x*B*18446744073709551616 ^ i:=by simp only[U,V,x];rw[wZ];grind
    have hV:V<18446744073709551616 ^ (i+b.length):=zU (zW ha i) hB;have hUl:U<18446744073709551616 ^ (i+1+b.length):=zU (zW ha (i+1)) hB
    let c:=λj=>(V%18446744073709551616 ^ (i+j)+x*aB (b.take j)*18446744073709551616 ^ i) / 18446744073709551616 ^ (i+j)
    refine aM (λj=>(((c j:Nat):Int),(j:Int),dlq U (i+j)++(dlq V L).drop (i+j))) b.length ?_ (by omega) (λj hj K'=>?_) (λK'=>?_)
    · show((0:Int),(0:Int),dlq V L)=_
      have h0:c 0=0:=by simp only[c,aI9,show aB []=0 from rfl,aIb,aIh,aHo];exact aHm (aG6 _ (aH1 (by decide)))
      have hlow:dlq U i=dlq V i:=by
        have:∀ n,n<=i->dlq U n=dlq V n:=by
          intro n;induction n with
          | zero=>intro _; rfl
          | succ n ih=>
            intro hn;show dlq U n++[_]=dlq V n++[_];rw[ih (by omega)];congr 3;have:U=V+18446744073709551616 ^ (n+1)*(x*B*18446744073709551616 ^ (i - (n+1))):=by rw[hU,aHi,<- aG_,show n+1+(i - (n+1))=i by omega]
            exact mq this
        exact this i (aG4 _)
      have hsp:dlq V i++(dlq V L).drop i=dlq V L:=by
        have:∀ n,i<=n->dlq V i++(dlq V n).drop i=dlq V n:=by
          intro n;induction n with
          | zero=>intro h; have:i=0:=(by omega); subst this; rfl
          | succ n ih=>
            intro h;by_cases hn:i=n+1
            · subst hn; rw[aHB (by rw[ao]; omega),aHn]
            · show dlq V i++(dlq V n++[_]).drop i=dlq V n++[_]
              rw[aHR (by rw[ao]; omega),<- aG9,ih (by omega)]
        exact this L (by simp only[L]; omega)
      rw[h0,aHo,hlow,hsp]; rfl
    · have hy:=hb.at (i:=j)
      have hp:i+j<L:=by simp only[L]; omega
      have hlen:=FR U V L (i+j) (by omega);have hget:=O4 U V L (i+j) hp;have hset:=FT U V L (i+j) hp;have hc:=WS (V:=V) (x:=x) (i:=i) (k:=j) (Bk:=aB (b.take j)) (by simp only[x]; omega) (zW hb j);have hstep:=OD V x (aB (b.take j)) (b.getD j 0).toNat i j;obtain⟨R,hR⟩:=cR b (j+1);have hdig:=Mo V x (aB (b.take j)) (b.getD j 0).toNat i j R;rw[<- wZ]at hstep hdig;rw[<- hR]at hdig;have hUe:V+x*aB b*18446744073709551616 ^ i=U:=hU.symm;rw[hUe]at hdig;have hxy:x*(b.getD j 0).toNat<=18446744073709551615*18446744073709551615:=aHC (by simp only[x]; omega) (by omega);have eidx:Int.toNat ((i:Int)+(j:Int))=i+j:=by omega
      have hcj:∀ n,c n=(V%18446744073709551616 ^ (i+n)+x*aB (b.take n)*18446744073709551616 ^ i) / 18446744073709551616 ^ (i+n):=λ_=>rfl
      have hax:a.getD i 0=(x:Int):=by simp only[x]; omega
      have hby:b.getD j 0=((b.getD j 0).toNat:Int):=by omega
      have ec1:c (j+1)=(c j+V / 18446744073709551616 ^ (i+j)%18446744073709551616+x*(b.getD j 0).toNat) / 18446744073709551616:=hstep;have ed:U / 18446744073709551616 ^ (i+j)%18446744073709551616=(c j+V / 18446744073709551616 ^ (i+j)%18446744073709551616+x*(b.getD j 0).toNat)%18446744073709551616:=hdig;have hcl:c j<18446744073709551616:=hc;rw[ed]at hset;have vlt:V / 18446744073709551616 ^ (i+j)%18446744073709551616<18446744073709551616:=aG6 _ (by decide);have hxl:x<18446744073709551616:=by simp only[x]; omega
      have hyl:(b.getD j 0).toNat<18446744073709551616:=by omega
      simp only[o9,aGU,eidx,hlen];rw[aGQ (by omega:(j:Int)<((b.length:Nat):Int)),aGT,ac aGP,ac aGO,ac aGO,ac aGP,ac (aGQ (by omega)),Jx N hax hby hget rfl hxl hyl vlt hcl,ac aGP,ac (aGQ (by omega)),ac aGO];rw[show i+(j+1)=i+j+1 by omega,<- hset];have ez:x*(b.getD j 0).toNat+V / 18446744073709551616 ^ (i+j)%18446744073709551616+c j=c j+V / 18446744073709551616 ^ (i+j)%18446744073709551616+x*(b.getD j 0).toNat:=by omega
      rw[ez,ec1];rfl
    · simp only[o9]
      rw[aGR (by omega:¬(b.length:Int)<b.length),aGS];have hlen:=FR U V L (i+b.length) (by simp only[L]; omega);have hset:=FT U V L (i+b.length) (by simp only[L]; omega);have eidx:Int.toNat ((i:Int)+(b.length:Int))=i+b.length:=by omega
      have hLe:i+b.length<L:=by simp only[L]; omega
      have hc:c b.length=U / 18446744073709551616 ^ (i+b.length):=by simp only[c];rw[aHw,aG1 hV,hU]
      have hcl:U / 18446744073709551616 ^ (i+b.length)<18446744073709551616:=by
        rw[aG0 (aH1 (by decide))];have:i+1+b.length=i+b.length+1:=by omega
        rw[this,aG3]at hUl;omega
      have ew:((c b.length:Nat):Int)=((U / 18446744073709551616 ^ (i+b.length)%18446744073709551616:Nat):Int):=by rw[hc,aG1 hcl]
      have hfin:=RB (U:=U) (V:=V) (L:=L) (p:=i+b.length+1) (by rw[show i+b.length+1=i+1+b.length by omega]; exact hUl) (by omega) (aHc hV (aG7 (by decide) (by omega)));rw[ac aGO,eidx,hlen,ac aGP,ac (aGQ (by omega)),ac aGO,ew,hset,hfin];rfl
  · simp only[o8]
    rw[aGR (by omega:¬(a.length:Int)<a.length),aGS,aHw,oP _ (lC _ _) (by rw[ao]; simp only[L]; omega) (by rw[ao]; simp only[L]; omega)];rw[qN (zU (l_ ha) hB)]
def M4 (n:Nat):2 ^ n=18446744073709551616 ^ (n / 64)*2 ^ (n%64):=by
 have e:(18446744073709551616:Nat)=2 ^ 64:=by decide
 rw[e,<- aJJ,<- aG_];congr 1; omega
def bH (i:Nat):0<18446744073709551616 ^ i:=aH1 (by decide)
def Xo {N:Nat} (m:List Int) (hm:InWq m) (n:Nat) (hn:n<4294967296) (hN:m.length+n / 64+4<N) (hs:m.length<=1099511627776) (k:Kz5):V8 N m n k=k (ai (aB m*2 ^ n)):=by
 unfold V8 aar;by_cases h0:m.length=0
 ·have:m=[]:=List.length_eq_zero_iff.1 h0;subst this;show k []=k (ai (0*2 ^ n));rw[aIh,bU]
 ·have e0:((m.length:Int)==0)=false:=by simp; intro h; subst h; simp at h0
  have ew:IntKind.wrap .u64 (Int.tdiv (n:Int) 64)=((n / 64:Nat):Int):=by rw[au,aHT (by omega)]; omega
  have es:Int.tmod (n:Int) 64=((n%64:Nat):Int):=by rw[aHL (by omega)]; rfl
  rw[e0,aGS,ew,es];have hw6:n / 64<67108864:=by omega
  generalize hw:n / 64=w at *;generalize hsh:n%64=s at *;have hs32:s<64:=by omega
  have hp2:2 ^ n=18446744073709551616 ^ w*2 ^ s:=by rw[M4,hw,hsh]
  have hs0:0<2 ^ s:=aG5 s;have hs1:2 ^ s*2 ^ (64 - s)=18446744073709551616:=by rw[<- aG_,show s+(64 - s)=64 by omega]
  have elen:Int.toNat (((w:Nat):Int)+(m.length:Int)+1)=w+m.length+1:=by omega
  rw[ac aGO,ac aGO,ac aGO,ac (fZ (by omega) (by omega) (by omega) (by omega)),elen]
  let V:=aB m*2 ^ n
  let X:=aB m*2 ^ s
  have hVX:V=18446744073709551616 ^ w*X:=by simp only[V,X]; rw[hp2,aHi]
  let T:=λi=>aB (m.take i)*2 ^ s
  let c:=λi=>T i / 18446744073709551616 ^ i
  have hcl:∀ i,c i<2 ^ s:=by intro i;simp only[c,T];rw[aG0 (bH i),aGV];exact aH2 (aZ hm i) hs0
  refine aM (λi=>((i:Int),dlq V (w+i)++((c i:Nat):Int)::List.replicate (m.length - i) 0)) m.length ?_ (by omega) (λi hi K=>?_) (λK=>?_)
  ·congr 1;show List.replicate (w+m.length+1) (0:Int)=dlq V w++((c 0:Nat):Int)::List.replicate m.length 0;rw[hVX,zw];have hc0:c 0=0:=by simp[c,T,aB]
   rw[hc0];have:w+m.length+1=w+(m.length+1):=by omega
   rw[this,<- aIx,aHA]; rfl
  ·have hx:=hm.at (i:=i);have hT:T (i+1)=T i+18446744073709551616 ^ i*((m.getD i 0).toNat*2 ^ s):=by simp only[T,aT,aHf,aG2]
   have hq:T (i+1) / 18446744073709551616 ^ i=c i+(m.getD i 0).toNat*2 ^ s:=by rw[hT,gQ]
   have hci:c i<2 ^ s:=hcl i;have hc1:c (i+1)=(c i+(m.getD i 0).toNat*2 ^ s) / 18446744073709551616:=by rw[<- hq]; simp only[c]; rw[aG3,aGY]
   have hdig:V / 18446744073709551616 ^ (w+i)%18446744073709551616=(c i+(m.getD i 0).toNat*2 ^ s)%18446744073709551616:=by rw[<- hq,hVX,aG_,<- aGY,aHs _ (bH w)];obtain⟨R,hR⟩:=cR m (i+1);refine mq (R:=R*2 ^ s) ?_;simp only[X,T];rw[hR,aHf,aG2]
   have hrep:List.replicate (m.length - i) (0:Int)=0::List.replicate (m.length - (i+1)) 0:=by rw[show m.length - i=(m.length - (i+1))+1 by omega,aHA]
   have hdl:=ao V (w+i);have ei:Int.toNat ((w:Int)+(i:Int))=w+i:=by omega
   have ei1:Int.toNat ((w:Int)+(i:Int)+1)=w+i+1:=by omega
   have emin:min s 64=s:=by omega
   have e64:min (Int.toNat (IntKind.wrap .u64 (64 - (s:Int)))) 64=64 - s:=by rw[au]; omega
   simp only[C1,aGU,ei,ei1,emin,e64];rw[hrep,eI hdl.symm,bM _ _ _ _ _ hdl.symm];have hmx:m.getD i 0=(((m.getD i 0).toNat:Nat):Int):=by omega
   rw[hmx];generalize hxx:(m.getD i 0).toNat=x at *;have hx32:x<18446744073709551616:=by omega
   have hlow:x*2 ^ s%18446744073709551616=2 ^ s*(x%2 ^ (64 - s)):=by
    have e:x*2 ^ s%(2 ^ s*2 ^ (64 - s))=2 ^ s*(x%2 ^ (64 - s)):=by rw[aGV x]; exact aIC _ _ _
    rwa [hs1]at e
   have hsum:2 ^ s*(x%2 ^ (64 - s))+c i<18446744073709551616:=by have h1:x%2 ^ (64 - s)+1<=2 ^ (64 - s):=aG6 _ (aG5 _);have h2:=aGZ (2 ^ s) h1;rw[hs1,aG8]at h2;omega
   have epw:(x:Int)*2 ^ s=((x*2 ^ s:Nat):Int):=by rw[aHa,aIi]; rfl
   have eor:aF .or .u64 ((c i:Nat):Int) (IntKind.wrap .u64 ((x:Int)*2 ^ s))=((V / 18446744073709551616 ^ (w+i)%18446744073709551616:Nat):Int):=by
    have e1:IntKind.wrap .u64 ((x*2 ^ s:Nat):Int)=((2 ^ s*(x%2 ^ (64 - s)):Nat):Int):=by rw[<- hlow,au]; omega
    rw[epw,e1,gj _ _ s hci hsum,hdig];omega
   have ehi:Int.fdiv (x:Int) (2 ^ (64 - s))=((c (i+1):Nat):Int):=by
    have e2:(2:Int) ^ (64 - s)=((2 ^ (64 - s):Nat):Int):=by rw[aIi]; rfl
    rw[e2,oS,hc1];have:(c i+x*2 ^ s) / 18446744073709551616=x / 2 ^ (64 - s):=by rw[<- hs1,<- aGY,aGV x,aHP _ _ hs0,aHm hci,aHk]
    rw[this]
   rw[eor,ehi];have hl1:∀(a b:Int) (ys:List Int),(dlq V (w+i)++a::b::ys).length=w+i+2+ys.length:=by intro a b ys; simp[hdl]; omega
   have hset2:(dlq V (w+i)++((V / 18446744073709551616 ^ (w+i)%18446744073709551616:Nat):Int)::0::List.replicate (m.length - (i+1)) 0).set (w+i+1) ((c (i+1):Nat):Int)=dlq V (w+(i+1))++((c (i+1):Nat):Int)::List.replicate (m.length - (i+1)) 0:=by
    have:dlq V (w+i)++((V / 18446744073709551616 ^ (w+i)%18446744073709551616:Nat):Int)::0::List.replicate (m.length - (i+1)) 0=dlq V (w+(i+1))++0::List.replicate (m.length - (i+1)) 0:=by rw[<- aHx,dlq]; simp
    rw[this];exact bM _ _ _ _ _ (by rw[ao]; omega)
   rw[hset2,hl1,hl1];simp only[aHW];rw[aGQ (by omega:(i:Int)<((m.length:Nat):Int)),aGT,ac aGP,ac aGO,ac aGP,ac (aGQ (by omega)),ac (aGQ (by omega)),ac aGP,ac (aGQ (by omega)),ac aGO,ac aGO,ac (aGQ (by rw[au]; omega)),ac aGP,ac (aGQ (by omega)),ac aGO];rfl
  ·simp only[C1];rw[aGR (by omega:¬(m.length:Int)<m.length),aGS,aHq,aHp];have hV:V<18446744073709551616 ^ (w+m.length+1):=by
    have h1:=l_ hm;simp only[V];rw[hp2,aG3,aG_,aHi,aG2];refine aH2 ?_ (bH w);have hs2:2 ^ s<=18446744073709551616:=by rw[<- hs1]; exact aHE _ (aG5 _)
    exact aHy h1 hs2 (by decide)
   have hT:T m.length=X:=by simp only[T,X]; rw[aHw]
   have hend:dlq V (w+m.length)++[((c m.length:Nat):Int)]=dlq V (w+m.length+1):=by
    rw[dlq];have:c m.length=V / 18446744073709551616 ^ (w+m.length)%18446744073709551616:=by
     have hX:V / 18446744073709551616 ^ (w+m.length)=X / 18446744073709551616 ^ m.length:=by rw[hVX,aG_,<- aGY,aHs _ (bH w)]
     have h2:=hcl m.length;have hs2:2 ^ s<=18446744073709551616:=by rw[<- hs1]; exact aHE _ (aG5 _)
     rw[hX,<- hT];exact(aG1 (by show c m.length<_; omega)).symm
    rw[this]
   rw[hend,oP _ (lC V _) (by rw[ao]; omega) (by rw[ao]; omega),qN hV]
def tT:∀(i V:Nat),(ai V).getD i 0=((V / 18446744073709551616 ^ i%18446744073709551616:Nat):Int)
 | i,V=>by
  by_cases h:V=0
  ·subst h; rw[bU]; simp
  ·rw[eu h];cases i with
   | zero=>simp
   | succ i=>
    show(ai (V / 18446744073709551616)).getD i 0=_;rw[tT i (V / 18446744073709551616),aG3,aGV,<- aGY]
def AD {l:List Int} {n i:Nat} (h:i<n):(l.take n).getD i 0=l.getD i 0:=by rw[List.getD_eq_getElem?_getD,List.getD_eq_getElem?_getD,List.getElem?_take,if_pos h]
def IR {m:List Int} (hm:InWq m) (j:Nat):∃ R,aB m / 18446744073709551616 ^ j=(m.getD j 0).toNat+18446744073709551616*(m.getD (j+1) 0).toNat+18446744073709551616*18446744073709551616*R:=by
 obtain⟨R,hR⟩:=cR m (j+2);refine⟨R,?_⟩;rw[hR,aT,aT];simp only[aG3];have e:aB (m.take j)+18446744073709551616 ^ j*(m.getD j 0).toNat+18446744073709551616 ^ j*18446744073709551616*(m.getD (j+1) 0).toNat+18446744073709551616 ^ j*18446744073709551616*18446744073709551616*R
   = aB (m.take j)+18446744073709551616 ^ j*((m.getD j 0).toNat+18446744073709551616*(m.getD (j+1) 0).toNat+18446744073709551616*18446744073709551616*R):=by
  rw[aG8,aG8,aG2,aG2,aG2,aG2]; omega
 rw[e,gQ,aHm (aZ hm j),aHk]
def Md {x y s:Nat} (hs:s<64) (hx:x<18446744073709551616) (hy:y<18446744073709551616):aF .or .u64 (Int.fdiv (x:Int) (2 ^ s)) (IntKind.wrap .u64 ((y:Int)*2 ^ (64 - s)))=(((x+18446744073709551616*y) / 2 ^ s%18446744073709551616:Nat):Int):=by
 have hs0:0<2 ^ s:=aG5 s;have hs1:2 ^ s*2 ^ (64 - s)=18446744073709551616:=by rw[<- aG_,show s+(64 - s)=64 by omega]
 have e1:Int.fdiv (x:Int) (2 ^ s)=((x / 2 ^ s:Nat):Int):=by
  have e2:(2:Int) ^ s=((2 ^ s:Nat):Int):=by rw[aIi]; rfl
  rw[e2,oS]
 have e3:(y:Int)*2 ^ (64 - s)=((y*2 ^ (64 - s):Nat):Int):=by rw[aHa,aIi]; rfl
 have hlow:y*2 ^ (64 - s)%18446744073709551616=2 ^ (64 - s)*(y%2 ^ s):=by
  have e:2 ^ (64 - s)*y%(2 ^ (64 - s)*2 ^ s)=2 ^ (64 - s)*(y%2 ^ s):=aIC _ _ _
  rwa [aGV (2 ^ (64 - s)) (2 ^ s),hs1,aGV (2 ^ (64 - s)) y]at e
 have e4:IntKind.wrap .u64 ((y*2 ^ (64 - s):Nat):Int)=((2 ^ (64 - s)*(y%2 ^ s):Nat):Int):=by rw[<- hlow,au]; omega
 have hxl:x / 2 ^ s<2 ^ (64 - s):=by rw[aG0 hs0,aGV,hs1]; exact hx
 have hsum:2 ^ (64 - s)*(y%2 ^ s)+x / 2 ^ s<18446744073709551616:=by have h1:y%2 ^ s+1<=2 ^ s:=aG6 _ hs0;have h2:=aGZ (2 ^ (64 - s)) h1;rw[aGV (2 ^ (64 - s)) (2 ^ s),hs1,aG8]at h2;omega
 rw[e1,e3,e4,gj _ _ (64 - s) hxl hsum];congr 1;have e5:(x+18446744073709551616*y) / 2 ^ s=x / 2 ^ s+2 ^ (64 - s)*y:=by rw[<- hs1,aG2,aHP _ _ hs0]
 rw[e5];have e6:y=y%2 ^ s+2 ^ s*(y / 2 ^ s):=(aI0 _ _).symm;have e7:2 ^ (64 - s)*y=2 ^ (64 - s)*(y%2 ^ s)+18446744073709551616*(y / 2 ^ s):=by
  conv=>lhs; rw[e6]
  rw[aG8,<- aG2,aGV (2 ^ (64 - s)) (2 ^ s),hs1]
 rw[e7,<- aHx,aH8,aG1 (a:=x / 2 ^ s+2 ^ (64 - s)*(y%2 ^ s)) (b:=18446744073709551616) (by rw[aIJ]; exact hsum)];exact aIJ _ _
def JK:∀ n:Nat,n ≠ 0 -> ∃ t c,n=2 ^ t*(2*c+1):=by
 intro n;induction n using Nat.strongRecOn with
 | ind n ih=>
  intro h0;by_cases h:n%2=0
  ·obtain⟨t,c,hc⟩:=ih (n / 2) (by omega) (by omega);exact⟨t+1,c,by rw[aG3,aGV (2 ^ t) 2,aG2,<- hc]; omega⟩
  ·exact⟨0,n / 2,by rw[aIK,aIS]; omega⟩
def Br {a b:Nat} (ha:a<18446744073709551616) (hb:b<18446744073709551616):aF .and .u64 (a:Int) (b:Int)=((a &&& b:Nat):Int):=by
 unfold aF yr;simp only[aHz];have h64:(2:Nat) ^ 64=18446744073709551616:=by decide
 have e:((BitVec.ofInt (IntKind.bits .u64) (a:Int)) &&& (BitVec.ofInt (IntKind.bits .u64) (b:Int))).toNat=a &&& b:=by show((BitVec.ofInt 64 (a:Int)) &&& (BitVec.ofInt 64 (b:Int))).toNat=_;rw[aJy,aH0,aH0,aH6,aH6,aG1 (by omega),aG1 (by omega)]
 have hl:a &&& b<18446744073709551616:=aIt Nat.and_le_left ha;rw[e,Ew _ hl]
def ahy {t c:Nat} (h:2 ^ t*(2*c+1)<2 ^ 64):(2 ^ t*(2*c+1)) &&& (2 ^ 64 - 2 ^ t*(2*c+1))=2 ^ t:=by
 have ht0:0<2 ^ t:=aG5 t;have ht:t<64:=by
  rcases aHN t 64 with h1 | h1
  ·exact h1
  ·have h2:2 ^ 64<=2 ^ t:=aG7 (by decide) h1;have h3:2 ^ t*1<=2 ^ t*(2*c+1):=aGZ _ (by omega);omega
 have e1:2 ^ t*(2*c+1)=(2 ^ t*(2*c)+(2 ^ t - 1))+1:=by rw[aG8]; omega
 refine aI5 λj=>?_
 rw[aJL];have e2:(2 ^ 64 - 2 ^ t*(2*c+1)).testBit j=(decide (j<64) && !(2 ^ t*(2*c)+(2 ^ t - 1)).testBit j):=by
  conv=>lhs; rw[e1]
  exact aJC (by rw[e1]at h; omega) j
 rw[e2,Nat.testBit_two_pow_mul,aJM _ (by omega),aIG];rcases aIM j t with hj | hj | hj
 ·rw[aGR (by omega:¬ j>=t),aGR (by omega:¬ t=j)]; rfl
 ·subst hj;rw[if_neg (by omega),aHq,aGQ (aG4 _),aGQ ht,aGQ rfl];have a1:(2*c+1).testBit 0=true:=by rw[aJz]; simp
  have a2:(2*c).testBit 0=false:=by rw[aJz]; simp
  rw[a1,a2]; rfl
 ·obtain⟨k,hk⟩:∃ k,j - t=k+1:=⟨j - t - 1,by omega⟩
  rw[if_neg (by omega),hk,aGQ (by omega:j>=t),aGR (by omega:¬ t=j),aJA,aJA];have a1:(2*c+1) / 2=c:=by omega
  have a2:2*c / 2=c:=by omega
  rw[a1,a2];cases c.testBit k <;> simp
def aqG:∀ t:Fin 64,(inR (Int.fdiv (IntKind.wrap .u64 (((2 ^ t.val:Nat):Int)*285870213051353865)) (2 ^ 58)) 64=true)/\(List.getD Gl (Int.toNat (Int.fdiv (IntKind.wrap .u64 (((2 ^ t.val:Nat):Int)*285870213051353865)) (2 ^ 58))) 0=(t.val:Int)):=by decide +kernel
def apm (N:Nat) {t c:Nat} (h:2 ^ t*(2*c+1)<18446744073709551616) (k:Kz1):Tc N ((2 ^ t*(2*c+1):Nat):Int) k=k (t:Int):=by
 have h64:(2:Nat) ^ 64=18446744073709551616:=by decide
 have ht0:0<2 ^ t:=aG5 t;have hx0:0<2 ^ t*(2*c+1):=aIO ht0 (by omega);have ht:t<64:=by
  rcases aHN t 64 with h1 | h1
  ·exact h1
  ·have h2:2 ^ 64<=2 ^ t:=aG7 (by decide) h1;have h3:2 ^ t*1<=2 ^ t*(2*c+1):=aGZ _ (by omega);omega
 unfold Tc aaD;have ha:=ahy (t:=t) (c:=c) (by omega);rw[h64]at ha;generalize 2 ^ t*(2*c+1)=x at *;have e0:((x:Int)==0)=false:=by simp; omega
 have ew:IntKind.wrap .u64 (0 - (x:Int))=((18446744073709551616 - x:Nat):Int):=by rw[au]; omega
 obtain⟨t1,t2⟩:=aqG ⟨t,ht⟩;rw[e0,aGS,ew,Br h (by omega),ha,ac t1,t2,ac aGO]
def apo {V w:Nat} (h:V / 18446744073709551616 ^ w ≠ 0):w<(ai V).length:=by
 rcases aHN w (ai V).length with h1 | h1
 ·exact h1
 ·exfalso;have h2:=l_ (bA V);rw[aH]at h2;exact h (aHm (aHc h2 (aG7 (by decide) h1)))
def WQ {B n:Nat} (h:bg B n):(ai n).length<=B / 64+1:=by
 refine kx _ _ ?_;have e:(18446744073709551616:Nat)=2 ^ 64:=by decide
 rw[e,<- aJJ];exact aHc h (aG7 (by decide) (by omega))
def Xh {N:Nat} (g:Bool) (n:Nat) (h:(ai n).length<=1099511627776) (k:Ky2):Qo N g (ai n) k=zN (-(bB g n)) k:=by unfold Qo aob;rw[Ff _ h,un (!g) g (ai n) n k];congr 1; unfold bB; cases g <;> simp
def adY {N:Nat} (hN:1000<=N) (n:Nat) (hn:n<18446744073709551616) (b:Bool) (k:Ky2):Ql N n b k=k false (ai n):=by unfold Ql anT;rw[AJ hN n hn]; rfl
def zQ {N:Nat} (hN:1000<=N) (n:Nat) (hn:n<9223372036854775808) (k:Ky2):Ge N n k=k false (ai n):=by
 unfold Ge ZO aev Zs;have e:IntKind.wrap .u64 (n:Int)=n:=by rw[au]; omega
 rw[aGR (by omega:¬(n:Int)<0),aGS,e,AJ hN n (by omega)]; rfl
def Xg {N:Nat} (s:Nat) (b g:Bool) (n:Nat) (hs:s<4294967296) (hN:(ai n).length+s / 64+4<N) (h:(ai n).length<=1099511627776) (k:Ky2):Tf N s b g (ai n) k=zN (bB g (n*2 ^ s)) k:=by unfold Tf an8;rw[Xo _ (bA n) s hs hN h,aH,Sc g b _ k]
def xy {n:Nat} (h0:n ≠ 0) (h:n<18446744073709551616):ai n=[(n:Int)]:=by rw[eu h0,aHm h,bU,aG1 h]
def Bs (a b:Int):aF .or .u64 a b=aF .or .u64 b a:=by unfold aF yr;simp only[aHz];rw[BitVec.or_comm]
end Go.Proofs.YteifemaagdeomaaGreatDoor
