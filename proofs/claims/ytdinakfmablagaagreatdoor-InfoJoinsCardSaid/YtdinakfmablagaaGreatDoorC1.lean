/- Laws in plain Lean. Conditions: none. -/
import Derived.Test.YtdinakfmablagaaGreatDoorGp
import Derived.Test.YtdinakfmablagaaGreatDoorBig
set_option linter.defProp false
set_option linter.unusedVariables false
namespace Go.Proofs.YtdinakfmablagaaGreatDoor
open Go Go.Mach
def aa {a c:Bool} (h:a=true):(a&&c)=c:=by rw[h]; rfl
def aq (z:Int):IntKind.wrap .u64 z=z%18446744073709551616:=by rfl
def dc (z:Int):IntKind.wrap .u32 z=z%4294967296:=by rfl
def jj (z:Int):Int.fdiv z (2 ^ 32)=z / 4294967296:=by rw[aay _ (by decide)]; rfl
def aF {σ:Type} {step:σ->(σ->Bool)->Bool} {s:σ} (C:Nat->σ) (n:Nat) {N:Nat} (h0:s=C 0) (hn:n<N) {out:Bool} (hs:∀ i,i<n -> ∀ K:σ->Bool,step (C i) K=K (C (i+1))) (hx:∀ K,step (C n) K=out):am N step s=out:=by subst h0; exact bR C n hn hs hx
def bS (b:List Int):Nat->Nat
 | 0=>0
 | n+1=>if b.getD n 0=0 then bS b n else n+1
def mJ (b:List Int) (n:Nat):bS b (n+1)=if b.getD n 0=0 then bS b n else n+1:=rfl
def i6 (b:List Int):∀ n,bS b n<=n
 | 0=>Zi _
 | n+1=>by unfold bS; split; exact Nat.le_succ_of_le (i6 b n); exact Zi _
def dJ {b:List Int} {i:Nat} (h:b.length<=i):b.getD i 0=0:=by rw[List.getD_eq_getElem?_getD,List.getElem?_eq_none h]; rfl
def aP {m:List Int} (i:Nat):aE (m.take (i+1))=aE (m.take i)+4294967296 ^ i*(m.getD i 0).toNat:=by
 by_cases h:i<m.length
 ·exact yz h
 ·rw[dJ (by omega),Zt (by omega),Zt (by omega)]; simp
def qa (b:List Int):∀ n,aE (b.take (bS b n))=aE (b.take n)
 | 0=>rfl
 | n+1=>by
  unfold bS;split
  ·rename_i h;rw[qa b n,aP,h]; simp
  ·rfl
def getLast?_take {b:List Int} {n:Nat} (h:n<b.length):(b.take (n+1)).getLast? = some (b.getD n 0):=by rw[aap h,List.getLast?_append,List.getD_eq_getElem?_getD,List.getElem?_eq_getElem h];simp
def p_ (b:List Int):∀ n,n<=b.length -> ∀ x,(b.take (bS b n)).getLast? = some x->x ≠ 0
 | 0,_,x,h=>by simp[bS]at h
 | n+1,hn,x,h=>by
  unfold bS at h;split at h
  ·exact p_ b n (by omega) x h
  ·rename_i h0;rw[getLast?_take (by omega)]at h;cases h; exact h0
def qW {b:List Int} (hb:InW b):b.take (bS b b.length)=ah (aE b):=by have h1:=qa b b.length;rw[ZO]at h1;rw[<- h1,uH (hb.take _) (p_ b b.length (Zi _))]
def gZ {N:Nat} (b:List Int) (hN:b.length<N) (hs:b.length<9223372036854775807) (k:Kz1):nk N b k=k (bS b b.length):=by
 (unfold nk; rw[af]; unfold O1)
 have key:∀ n,n<=b.length -> ∀ M,n<M->am M (tz N 0 b λm=>k m) n=k (bS b n):=by
  intro n;induction n with
  | zero=>
   intro _ M hM;cases M with
   | zero=>omega
   | succ M=>
    show tz N 0 b _ 0 _=_;simp[tz,bS]
  | succ n ih=>
   intro hn M hM;cases M with
   | zero=>omega
   | succ M=>
    show tz N 0 b _ (n+1) (am M _)=_;have e:Int.toNat (((n+1:Nat):Int) - 1)=n:=by omega
    simp only[tz,e,Zx,abd];rw[Y5 (by omega:((n+1:Nat):Int)>0),aa Y3,aa Y4,aa (Y5 (by omega)),aa Y3,aa (Y5 (by omega)),ih (by omega) M (by omega)];rw[mJ];by_cases h0:b.getD n 0=0
    ·have:(b.getD n 0==0)=true:=by simpa using h0
     rw[this,if_pos h0]; rfl
    ·have:(b.getD n 0==0)=false:=by simpa using h0
     rw[this,if_neg h0]; rfl
 exact key b.length (Zi _) N hN
def Gj {N:Nat} (m:List Int) (hm:InW m) (hN:m.length<N) (hs:m.length<9223372036854775807) (k:Kz3):kc N m k=k (ah (aE m)):=by
 (unfold kc; rw[af]; unfold uB)
 have key:∀ n,n<9223372036854775807 -> ∀(l:List Int),l.length=n->InW l -> ∀ M,n<M->am M (fk N λUw=>k Uw) l=k (ah (aE l)):=by
  intro n;induction n with
  | zero=>
   intro _ l hl _ M hM;cases M with
   | zero=>omega
   | succ M=>
    have:l=[]:=List.length_eq_zero_iff.1 hl;subst this;show fk N _ [] _=_;simp[fk,aE,aX]
  | succ n ih=>
   intro hn l hl hw M hM;cases M with
   | zero=>omega
   | succ M=>
    show fk N _ l (am M _)=_;have e:Int.toNat ((l.length:Int) - 1)=n:=by omega
    simp only[fk,e,aaB];rw[Y5 (by omega:(l.length:Int)>0),aa Y3,aa Y4,aa Y3,aa (Y5 (by omega)),ih (by omega) (l.take n) (by simp; omega) (hw.take n) M (by omega)];have e2:=aP (m:=l) n;rw[Zt (by omega)]at e2;by_cases h0:l.getD n 0=0
    ·have:(l.getD n 0==0)=true:=by simpa using h0
     rw[this];rw[h0]at e2;simp at e2;rw[e2]; rfl
    ·have:(l.getD n 0==0)=false:=by simpa using h0
     rw[this,uH hw (λx hx=>by have:=getLast?_take (b:=l) (n:=n) (by omega);rw[Zt (by omega)]at this;rw[this]at hx; cases hx; exact h0)]
     rfl
 exact key m.length hs m rfl hm N hN
def dh {N:Nat} (b:List Int) (hb:InW b) (hN:b.length<N) (hs:b.length<9223372036854775807) (k:Kz3) :
  (nk N b λl=>(decide (0+l<=b.length))&&k (List.take l (List.drop 0 b)))=k (ah (aE b)):=by
 rw[gZ b hN hs,aaB,qW hb];have:=i6 b b.length;rw[Y5 (by omega)]; rfl
def dq (N:Nat) (l:List Int):Prop:=l.length+2<N/\l.length<=17592186044416
def dI (T A i:Nat):(T+4294967296 ^ i*A) / 4294967296 ^ i=T / 4294967296 ^ i+A:=Z2 _ _ (aaf (by decide))
def Fj (m:List Int) (i:Nat):aE m=aE (m.take i)+4294967296 ^ (m.take i).length*aE (m.drop i):=by rw[<- qr,abM]
def ca (m:List Int) (i:Nat):∃ R,aE m=aE (m.take i)+4294967296 ^ i*R:=by
 by_cases h:i<=m.length
 ·refine⟨aE (m.drop i),?_⟩;have:=Fj m i
  rwa [ZM,aal h]at this
 ·exact⟨0,by rw[Zt (by omega)]; simp⟩
def bC {m:List Int} (h:InW m) (i:Nat):aE (m.take i)<4294967296 ^ i:=by
 have h1:=di (h.take i);have h2:(m.take i).length<=i:=by simp; omega
 exact Zq h1 (Zl (by decide) h2)
def kv {S T R i:Nat} (h:S=T+4294967296 ^ (i+1)*R):S / 4294967296 ^ i%4294967296=T / 4294967296 ^ i%4294967296:=by rw[h,Zh,Zf,dI,aao]
def AD {N:Nat} (a b:List Int) (ha:InW a) (hb:InW b) (hl:b.length<=a.length) (hN:dq N a) (k:Kz3) :
  am N (fH N a b λcarry out=>(inR (a.length:Nat) out.length)&&((decide ((Int.toNat (a.length:Nat))<out.length)) &&
   (nk N (List.set out (Int.toNat (a.length:Nat)) (IntKind.wrap .u32 carry)) λUI=>(decide ((0+UI)<=(List.length (List.set out (Int.toNat (a.length:Nat)) (IntKind.wrap .u32 carry)))))&&k (List.take UI (List.drop 0 (List.set out (Int.toNat (a.length:Nat)) (IntKind.wrap .u32 carry)))))))
   (0,0,List.replicate (a.length+1) 0)=k (ah (aE a+aE b)):=by
 obtain⟨hN1,hN2⟩:=hN
 let S:=aE a+aE b
 let T:=λi=>aE (a.take i)+aE (b.take i)
 refine aF (λi=>(((T i / 4294967296 ^ i:Nat):Int),(i:Int),dl S i++List.replicate (a.length+1 - i) 0)) a.length (by simp[T,aE,dl]) (by omega) (λi hi K=>?_) (λK=>?_)
 ·have hx:=ha.at (i:=i);have hy:=hb.at (i:=i);have hT:T (i+1)=T i+4294967296 ^ i*((a.getD i 0).toNat+(b.getD i 0).toNat):=by simp only[T,aP,Zn]; omega
  have hq:T (i+1) / 4294967296 ^ i=T i / 4294967296 ^ i+((a.getD i 0).toNat+(b.getD i 0).toNat):=by rw[hT,dI]
  have hc:T i / 4294967296 ^ i<=1:=by
   have h1:=bC ha i;have h2:=bC hb i;have h3:T i<4294967296 ^ i*2:=by simp only[T]; omega
   have:=(Ze (aaf (n:=i) (by decide:0<4294967296))).2 (by rw[Y_]; exact h3:T i<2*4294967296 ^ i);omega
  have hdiv:T (i+1) / 4294967296 ^ (i+1)=T (i+1) / 4294967296 ^ i / 4294967296:=by rw[Zh,Zd]
  have hdig:S / 4294967296 ^ i%4294967296=T (i+1) / 4294967296 ^ i%4294967296:=by obtain⟨R1,h1⟩:=ca a (i+1);obtain⟨R2,h2⟩:=ca b (i+1);refine kv (R:=R1+R2) ?_;simp only[S,T];rw[Zn]; omega
  have hset:=xK S i (a.length+1) (by omega);have hlen:(dl S i++List.replicate (a.length+1 - i) 0).length=a.length+1:=by simp[al]; omega
  generalize hq':T i / 4294967296 ^ i=q at *;generalize hx':a.getD i 0=x at *;generalize hy':b.getD i 0=y at *;simp only[fH,Zb];rw[Y5 (by omega:(i:Int)<a.length),Y8,hx',hy',aa Y4,hlen];have hstep:∀ s:Int,s=((q+(x.toNat+y.toNat):Nat):Int)->K ((Int.fdiv s (2 ^ 32)),((i:Int)+1),(List.set (dl S i++List.replicate (a.length+1 - i) 0) i (IntKind.wrap .u32 s)))=K (((T (i+1) / 4294967296 ^ (i+1):Nat):Int),((i+1:Nat):Int),dl S (i+1)++List.replicate (a.length+1 - (i+1)) 0):=by
   intro s hs;have e1:Int.fdiv s (2 ^ 32)=((T (i+1) / 4294967296 ^ (i+1):Nat):Int):=by rw[jj,hdiv,hq,hs]; omega
   have e2:IntKind.wrap .u32 s=((S / 4294967296 ^ i%4294967296:Nat):Int):=by rw[dc,hdig,hq,hs]; omega
   rw[e1,e2,hset]; rfl
  by_cases hib:i<b.length
  ·rw[Y5 (by omega:(i:Int)<b.length),Y8,aa Y4,aa Y4,aa (Y5 (by omega)),aa Y3];exact hstep _ (by simp only[aq]; omega)
  ·rw[Y6 (by omega:¬(i:Int)<b.length),Y7,aa Y4,aa (Y5 (by omega)),aa Y3];have hy0:y=0:=by rw[<- hy']; exact dJ (by omega)
   subst hy0;exact hstep _ (by simp only[aq]; omega)
 ·simp only[fH];rw[Y6 (by omega:¬(a.length:Int)<a.length),Y7];have hT:T a.length=S:=by simp only[T,S]; rw[ZO,Zt hl]
  have hS:S<4294967296 ^ (a.length+1):=by have h1:=di ha;have h2:=di hb;have h3:4294967296 ^ b.length<=4294967296 ^ a.length:=Zl (by decide) hl;rw[Zh];simp only[S]; omega
  have hlen:(dl S a.length++List.replicate (a.length+1 - a.length) 0).length=a.length+1:=by simp[al]
  have e2:IntKind.wrap .u32 ((T a.length / 4294967296 ^ a.length:Nat):Int)=((S / 4294967296 ^ a.length%4294967296:Nat):Int):=by rw[dc,hT]; omega
  have hset:=xK S a.length (a.length+1) (by omega);rw[e2,Zb,hset,hlen,aa Y4,aa (Y5 (by omega)),ZF,ZJ,ZG,
   dh _ (ip S _) (by rw[al]; omega) (by rw[al]; omega),oq hS]
def KS {N:Nat} (a b:List Int) (ha:InW a) (hb:InW b) (hNa:dq N a) (hNb:dq N b) (k:Kz3):tk N a b k=k (ah (aE a+aE b)):=by
 (unfold tk; rw[af]; unfold sx)
 have h1:=hNa.2;have h2:=hNb.2;by_cases h:a.length<b.length
 ·rw[Y5 (by omega:(a.length:Int)<b.length),Y8,aa Y3,aa (bQ (by omega) (by omega) (by omega) (by omega))];have e:Int.toNat ((b.length:Int)+1)=b.length+1:=by omega
  rw[e,AD b a hb ha (by omega) hNb k,aa4]
 ·rw[Y6 (by omega:¬(a.length:Int)<b.length),Y7,aa Y3,aa (bQ (by omega) (by omega) (by omega) (by omega))];have e:Int.toNat ((a.length:Int)+1)=a.length+1:=by omega
  rw[e,AD a b ha hb (by omega) hNa k]
def aU (i:Nat):0<4294967296 ^ i:=aaf (by decide)
def ya {D e P:Nat} {z:Int} (h:(D:Int)=(e:Int)+(P:Int)*z) (he:e<P):((D / P:Nat):Int)=z:=by
 have hP:(P:Int) ≠ 0:=by omega
 rw[Int.natCast_ediv,h,Int.add_mul_ediv_left _ _ hP,<- Int.natCast_ediv,ZA he];simp
def mG (P A B x y:Nat) (hA:A<P) (hB:B<P):(if A+P*x<B+P*y then 1 else 0)=if x<y+(if A<B then 1 else 0)then 1 else(0:Nat):=by
 by_cases hxy:x<y
 ·have:P*(x+1)<=P*y:=Zc P hxy;rw[Zn]at this;rw[if_pos (by omega),if_pos (by omega)]
 ·by_cases hyx:y<x
  ·have:P*(y+1)<=P*x:=Zc P hyx;rw[Zn]at this;rw[if_neg (by omega),if_neg (by split <;> omega)]
  ·have:x=y:=by omega
   subst this;by_cases hAB:A<B
   ·rw[if_pos (by omega),if_pos hAB,if_pos (by omega)]
   ·rw[if_neg (by omega),if_neg hAB,if_neg (by omega)]
def CA {P A B x y o R1 R2 D a b:Nat} (hA:A<P) (hB:B<P) (ho:o=if A<B then 1 else 0) (h1:a=A+P*x+P*4294967296*R1) (h2:b=B+P*y+P*4294967296*R2) (hD:(D:Int)=(a:Int) - (b:Int)) :
  ((D / P:Nat):Int)=(x:Int) - (y:Int) - (o:Int)+4294967296*((R1:Int) - (R2:Int)):=by
 have he:∃ e:Nat,e<P/\(e:Int)=(A:Int) - (B:Int)+(P:Int)*(o:Int):=by
  rw[ho];split
  ·exact⟨A+P - B,by omega,by omega⟩
  ·exact⟨A - B,by omega,by omega⟩
 obtain⟨e,he1,he2⟩:=he;refine ya (e:=e) ?_ he1;have e1:(a:Int)=A+(P:Int)*x+4294967296*((P:Int)*R1):=by rw[h1,Zf,ZB]; simp
 have e2:(b:Int)=B+(P:Int)*y+4294967296*((P:Int)*R2):=by rw[h2,Zf,ZB]; simp
 have e3:(P:Int)*((x:Int) - (y:Int) - (o:Int)+4294967296*((R1:Int) - (R2:Int)))=(P:Int)*x - (P:Int)*y - (P:Int)*o+(4294967296*((P:Int)*R1) - 4294967296*((P:Int)*R2)):=by rw[Int.mul_add,abu,abu,Int.mul_left_comm,abu,abu]
 rw[hD,e1,e2,e3,he2];omega
def uW {N:Nat} (a b:List Int) (ha:InW a) (hb:InW b) (hle:aE b<=aE a) (hN:dq N a) (k:Kz3):kN N a b k=k (ah (aE a - aE b)):=by
 obtain⟨hN1,hN2⟩:=hN
 (unfold kN; rw[af]; unfold pM)
 rw[aa (bQ (by omega) (by omega) (by omega) (by omega)),Zb]
 let D:=aE a - aE b
 let bo:=λi=>if aE (a.take i)<aE (b.take i)then(1:Nat)else 0
 refine aF (λi=>(((bo i:Nat):Int),(i:Int),dl D i++List.replicate (a.length - i) 0)) a.length (by simp[bo,aE,dl]) (by omega) (λi hi K=>?_) (λK=>?_)
 ·have hx:=ha.at (i:=i);have hy:=hb.at (i:=i);have hA:=aP (m:=a) i;have hB:=aP (m:=b) i;have hAl:=bC ha i;have hBl:=bC hb i;have hset:=xK D i a.length (by omega);have hl:(dl D i++List.replicate (a.length - i) 0).length=a.length:=by simp[al]; omega
  obtain⟨R1,h1⟩:=ca a (i+1);obtain⟨R2,h2⟩:=ca b (i+1);have hD:(D:Int)=(aE a:Int) - (aE b:Int):=by simp only[D]; omega
  have hP:=aU i;have hPs:4294967296 ^ (i+1)=4294967296 ^ i*4294967296:=Zh ..;have hbo:bo i<=1:=by simp only[bo]; split <;> omega
  have hbs:bo (i+1)=if (a.getD i 0).toNat<(b.getD i 0).toNat+bo i then 1 else 0:=by simp only[bo,hA,hB];exact mG _ _ _ _ _ hAl hBl
  have hq:((D / 4294967296 ^ i:Nat):Int)=((a.getD i 0).toNat:Int) - ((b.getD i 0).toNat:Int) - (bo i:Int)+4294967296*((R1:Int) - (R2:Int)):=by rw[hA,hPs]at h1;rw[hB,hPs]at h2;exact CA hAl hBl rfl h1 h2 hD
  have hdig:((D / 4294967296 ^ i%4294967296:Nat):Int)=(((a.getD i 0).toNat:Int) - ((b.getD i 0).toNat:Int) - (bo i:Int))%4294967296:=by rw[Int.natCast_emod,hq];exact Int.add_mul_emod_self_left _ _ _
  generalize hx':a.getD i 0=x at *;generalize hy':b.getD i 0=y at *;generalize bo i=o at *;generalize bo (i+1)=o' at *;simp only[jI,Zb];have hy0:¬ i<b.length->y=0:=λh=>by rw[<- hy']; exact dJ (by omega)
  have fin:∀(v w:Int),v=(o':Int)->w%4294967296=((D / 4294967296 ^ i%4294967296:Nat):Int)->K (v,(i:Int)+1,List.set (dl D i++List.replicate (a.length - i) 0) i (IntKind.wrap .u32 w))=K ((o':Int),((i+1:Nat):Int),dl D (i+1)++List.replicate (a.length - (i+1)) 0):=by intro v w hv hw;rw[hv,dc,hw,hset]; rfl
  simp only[hx',hy',hl];rw[Y5 (by omega:(i:Int)<a.length),Y8];by_cases hib:i<b.length
  ·rw[Y5 (by omega:(i:Int)<b.length),Y8,aa Y4,aa Y4];by_cases hlt:x.toNat<y.toNat+o
   ·rw[Y5 (by simp only[aq]; omega),Y8,aa Y4,aa (Y5 (by omega)),aa Y3];rw[if_pos hlt]at hbs;exact fin _ _ (by omega) (by rw[hdig]; simp only[aq]; omega)
   ·rw[Y6 (by simp only[aq]; omega),Y7,aa Y4,aa (Y5 (by omega)),aa Y3];rw[if_neg hlt]at hbs;exact fin _ _ (by omega) (by rw[hdig]; simp only[aq]; omega)
  ·have hy1:=hy0 hib;rw[Y6 (by omega:¬(i:Int)<b.length),Y7,aa Y4];by_cases hlt:x.toNat<y.toNat+o
   ·rw[Y5 (by simp only[aq]; omega),Y8,aa Y4,aa (Y5 (by omega)),aa Y3];rw[if_pos hlt]at hbs;exact fin _ _ (by omega) (by rw[hdig]; simp only[aq]; omega)
   ·rw[Y6 (by simp only[aq]; omega),Y7,aa Y4,aa (Y5 (by omega)),aa Y3];rw[if_neg hlt]at hbs;exact fin _ _ (by omega) (by rw[hdig]; simp only[aq]; omega)
 ·simp only[jI];rw[Y6 (by omega:¬(a.length:Int)<a.length),Y7,ZF,ZJ,ZG];have hS:D<4294967296 ^ a.length:=by have:=di ha; simp only[D]; omega
  rw[dh _ (ip D _) (by rw[al]; omega) (by rw[al]; omega),oq hS]
def cB (a c s:Nat) (ha:a<2 ^ s) (hlt:2 ^ s*c+a<18446744073709551616):aA .or .u64 (a:Int) ((2 ^ s*c:Nat):Int)=((2 ^ s*c+a:Nat):Int):=by
 unfold aA pk;simp only[ZT];have e:((BitVec.ofInt (IntKind.bits .u64) (a:Int)) ||| (BitVec.ofInt (IntKind.bits .u64) ((2 ^ s*c:Nat):Int))).toNat=2 ^ s*c+a:=by
  show((BitVec.ofInt 64 (a:Int)) ||| (BitVec.ofInt 64 ((2 ^ s*c:Nat):Int))).toNat=_;have h64:(2:Nat) ^ 64=18446744073709551616:=by decide
  rw[BitVec.toNat_or,aae,aae,aam,aam,Zg (by omega),Zg (by omega),Nat.or_comm,<- ab5 ha]
 rw[e,uv _ hlt]
def Ec (n:Nat) (h:n<4294967296):IntKind.wrap .u32 (n:Int)=n:=by rw[dc]; omega
def pm (a c s:Nat) (ha:a<2 ^ s) (hlt:2 ^ s*c+a<4294967296):aA .or .u32 (a:Int) ((2 ^ s*c:Nat):Int)=((2 ^ s*c+a:Nat):Int):=by
 unfold aA pk;simp only[ZT];have e:((BitVec.ofInt (IntKind.bits .u32) (a:Int)) ||| (BitVec.ofInt (IntKind.bits .u32) ((2 ^ s*c:Nat):Int))).toNat=2 ^ s*c+a:=by
  show((BitVec.ofInt 32 (a:Int)) ||| (BitVec.ofInt 32 ((2 ^ s*c:Nat):Int))).toNat=_;have h32:(2:Nat) ^ 32=4294967296:=by decide
  rw[BitVec.toNat_or,aae,aae,aam,aam,Zg (by omega),Zg (by omega),Nat.or_comm,<- ab5 ha]
 rw[e,Ec _ hlt]
def dr (x y:Nat):Int:=if x<y then -1 else if x=y then 0 else 1
def JX {P A B x y:Nat} (hA:A<P) (h:x<y):dr (A+P*x) (B+P*y) = -1:=by have:P*(x+1)<=P*y:=Zc P h;rw[Zn]at this;unfold dr;rw[if_pos (by omega)]
def JW {P A B x y:Nat} (hB:B<P) (h:y<x):dr (A+P*x) (B+P*y)=1:=by have:P*(y+1)<=P*x:=Zc P h;rw[Zn]at this;unfold dr;rw[if_neg (by omega),if_neg (by omega)]
def Co {P A B x:Nat}:dr (A+P*x) (B+P*x)=dr A B:=by
 unfold dr;by_cases h3:A<B
 ·rw[if_pos h3,if_pos (by omega)]
 ·by_cases h4:A=B
  ·subst h4; simp
  ·rw[if_neg h3,if_neg h4,if_neg (by omega),if_neg (by omega)]
def A3 {N:Nat} (a b:List Int) (ha:InW a) (hb:InW b) (hl:a.length=b.length) (hs:a.length<9223372036854775807) (k:Kz0) :
  ∀ n,n<=a.length -> ∀ M,n<M->am M (tu N a b (λt4=>k t4) (k 0)) ((n:Int) - 1)=k (dr (aE (a.take n)) (aE (b.take n))):=by
 intro n;induction n with
 | zero=>
  intro _ M hM;cases M with
  | zero=>omega
  | succ M=>
   show tu N a b _ _ ((0:Nat) - 1:Int) _=_;simp[tu,dr,aE]
 | succ n ih=>
  intro hn M hM;cases M with
  | zero=>omega
  | succ M=>
   show tu N a b _ _ (((n+1:Nat):Int) - 1) (am M _)=_;have e:(((n+1:Nat):Int) - 1)=(n:Int):=by omega
   have hx:=ha.at (i:=n);have hy:=hb.at (i:=n);have hA:=aP (m:=a) n;have hB:=aP (m:=b) n;have hAl:=bC ha n;have hBl:=bC hb n;rw[e];simp only[tu,Zb];rw[hA,hB,Y5 (by omega:(n:Int)>=0),Y8,aa Y4,aa Y4,aa Y4,aa Y4,aa Y3,ih (by omega) M (by omega)];by_cases h1:a.getD n 0<b.getD n 0
   ·rw[Y5 h1,Y8,JX hAl (by omega)]
   ·rw[Y6 h1,Y7];by_cases h2:a.getD n 0>b.getD n 0
    ·rw[Y5 h2,Y8,JW hBl (by omega)]
    ·rw[Y6 h2,Y7];have:a.getD n 0=b.getD n 0:=by omega
     rw[this,Co]
def bX {x y:Nat} (h:x<=y):(ah x).length<=(ah y).length:=by
 induction y using Nat.strongRecOn generalizing x with
 | ind y ih=>
  by_cases hx:x=0
  ·subst hx; rw[aX]; simp
  ·rw[ct hx,ct (by omega:y ≠ 0)];simp only[ZI];have:=ih (y / 4294967296) (by omega) (x:=x / 4294967296) (abm h);omega
def jb {N:Nat} (x y:Nat) (hx:dq N (ah x)) (hy:dq N (ah y)) (k:Kz0):DP N (ah x) (ah y) k=k (dr x y):=by
 (unfold DP; rw[af]; unfold PB)
 obtain⟨x1,x2⟩:=hx;obtain⟨y1,y2⟩:=hy;by_cases h:(ah x).length=(ah y).length
 ·have e:(((ah x).length:Int) != (ah y).length)=false:=by rw[h]; simp
  rw[e,Y7,aa Y3,A3 (ah x) (ah y) (aR x) (aR y) h (by omega) k _ (Zi _) N (by omega),ZO,h,ZO,aD,aD]
 ·have e:(((ah x).length:Int) != (ah y).length)=true:=by simp; omega
  rw[e,Y8];by_cases h1:(ah x).length<(ah y).length
  ·rw[Y5 (by omega),Y8];have:x<y:=by
    rcases Z6 x y with h2 | h2
    ·exact h2
    ·have:=bX h2; omega
   unfold dr; rw[if_pos this]
  ·rw[Y6 (by omega),Y7];have:¬ x<=y:=λh2=>by have:=bX h2; omega
   unfold dr; rw[if_neg (by omega),if_neg (by omega)]
def bl (n:Nat):Nat:=if n=0 then 0 else n.log2+1
def ku {n:Nat} (j:Nat) (h:2 ^ j<=n):bl n=j+bl (n / 2 ^ j):=by
 have hp:0<2 ^ j:=Zj j;have h0:n ≠ 0:=by omega
 have h1:n / 2 ^ j ≠ 0:=by have:=abv h hp;omega
 unfold bl;rw[if_neg h0,if_neg h1];have hj:j<=n.log2:=(Nat.le_log2 h0).2 h;have:(n / 2 ^ j).log2=n.log2 - j:=by
  rw[Nat.log2_eq_iff h1];have h2:=Nat.log2_self_le h0;have h3:n<2 ^ (n.log2+1):=Nat.lt_log2_self;constructor
  ·rw[aaF hp,<- Zk];rw[show n.log2 - j+j=n.log2 by omega]; exact h2
  ·rw[Ze hp,<- Zk];rw[show n.log2 - j+1+j=n.log2+1 by omega]; exact h3
 omega
def Rv:∀ i:Fin 256,av.getD i.val 0=(bl i.val:Int):=by decide +kernel
def Md {i:Nat} (h:i<256):av.getD i 0=(bl i:Int):=Rv ⟨i,h⟩
def Cd {n:Nat} (h:n<256):bl n<=8:=by
 unfold bl;split
 ·omega
 ·rename_i h0;have:=(Nat.log2_lt h0).2 (by simpa using h:n<2 ^ 8);omega
def OL (z:Int):IntKind.wrap .u8 z=z%256:=by rfl
def Oi (z:Int):Int.fdiv z (2 ^ 8)=z / 256:=by rw[aay _ (by decide)]; rfl
def Kk (z:Int):Int.fdiv z (2 ^ 16)=z / 65536:=by rw[aay _ (by decide)]; rfl
def Ak (N:Nat) (x:Nat) (h:x<4294967296) (k:Kz0):GI N (x:Int) k=k (bl x:Int):=by
 (unfold GI; rw[af]; unfold Ja)
 simp only[Oi,Kk,OL];have key:∀(z:Int) (m:Nat),z=(m:Int)->m<256 -> ∀ c:Nat,c<=32->((inR z 256)&&((ai .i64 (List.getD av (Int.toNat z) 0))&&((ai .i64 ((c:Int)+(List.getD av (Int.toNat z) 0)))&&k ((c:Int)+List.getD av (Int.toNat z) 0))))=k ((c+bl m:Nat):Int):=by intro z m hz hm c hc;subst hz;have:=Cd hm;rw[Zb,Md hm,aa Y4,aa Y3,aa Y3];rfl
 by_cases h16:65536<=x
 ·rw[Y5 (by omega:(x:Int)>=65536),Y8];have e16:=ku (n:=x) 16 (by simpa using h16);have p16:(2:Nat) ^ 16=65536:=by decide
  have p8:(2:Nat) ^ 8=256:=by decide
  rw[p16]at e16;by_cases h8:256<=x / 65536
  ·rw[Y5 (by omega:(x:Int) / 65536>=256),Y8];have e8:=ku (n:=x / 65536) 8 (by simpa using h8);rw[p8]at e8;have:=key ((x:Int) / 65536 / 256%256) (x / 65536 / 256) (by omega) (by omega) 24 (by omega);rw[show((24:Nat):Int)=24 from rfl]at this;rw[this]; congr 2; omega
  ·rw[Y6 (by omega:¬(x:Int) / 65536>=256),Y7];have:=key ((x:Int) / 65536%256) (x / 65536) (by omega) (by omega) 16 (by omega);rw[show((16:Nat):Int)=16 from rfl]at this;rw[this]; congr 2; omega
 ·rw[Y6 (by omega:¬(x:Int)>=65536),Y7];by_cases h8:256<=x
  ·rw[Y5 (by omega:(x:Int)>=256),Y8];have e8:=ku (n:=x) 8 (by simpa using h8);rw[show(2:Nat) ^ 8=256 by decide]at e8;have:=key ((x:Int) / 256%256) (x / 256) (by omega) (by omega) 8 (by omega);rw[show((8:Nat):Int)=8 from rfl]at this;rw[this]; congr 2; omega
  ·rw[Y6 (by omega:¬(x:Int)>=256),Y7];have:=key ((x:Int)%256) x (by omega) (by omega) 0 (by omega);rw[show((0:Nat):Int)=0 from rfl]at this;rw[this]; congr 2; omega
def lQ:∀ n,n ≠ 0->bl n=32*((ah n).length - 1)+bl ((ah n).getD ((ah n).length - 1) 0).toNat/\0<(ah n).length:=by
  intro n;induction n using Nat.strongRecOn with
  | ind n ih=>
    intro h;rw[ct h];by_cases h1:n / 4294967296=0
    · rw[h1,aX]
      have:n%4294967296=n:=Zg (by omega);simp[this]
    · obtain⟨i1,i2⟩:=ih (n / 4294967296) (by omega) h1
      have e:=ku (n:=n) 32 (by have:(2:Nat) ^ 32=4294967296:=(by decide); omega);rw[show(2:Nat) ^ 32=4294967296 by decide]at e;refine⟨?_,by simp⟩;have e2:(((n%4294967296:Nat):Int)::ah (n / 4294967296)).getD ((((n%4294967296:Nat):Int)::ah (n / 4294967296)).length - 1) 0=(ah (n / 4294967296)).getD ((ah (n / 4294967296)).length - 1) 0:=by
        simp only[ZI,abz];generalize ah (n / 4294967296)=l at i2 ⊢;cases l with
        | nil=>simp at i2
        | cons y l=>simp
      rw[e2,e,i1];simp only[ZI];omega
def yi {N:Nat} (g:Bool) (n:Nat) (hs:dq N (ah n)) (k:Kz0):Iy N g (ah n) k=k (bl n:Int):=by
  (unfold Iy; rw[af]; unfold Po)
  obtain⟨s1,s2⟩:=hs;by_cases h:n=0
  · subst h; rw[aX]; rfl
  · obtain⟨e1,e2⟩:=lQ n h
    have e0:(((ah n).length:Int)==0)=false:=by simp; intro h'; rw[h']at e2; simp at e2
    have e3:Int.toNat (((ah n).length:Int) - 1)=(ah n).length - 1:=by omega
    have hw:=(aR n).at (i:=(ah n).length - 1);have hb:bl ((ah n).getD ((ah n).length - 1) 0).toNat<=32:=by
      unfold bl; split
      · omega
      · rename_i h0
        have:=(Nat.log2_lt h0).2 (by have:(2:Nat) ^ 32=4294967296:=(by decide); omega:((ah n).getD ((ah n).length - 1) 0).toNat<2 ^ 32);omega
    have e4:(ah n).getD ((ah n).length - 1) 0=((((ah n).getD ((ah n).length - 1) 0).toNat:Nat):Int):=by omega
    rw[e0,Y7,aa Y3,aa Y3,aa Y3,aa Y4,e3,e4,Ak N _ (by omega),aa Y3];congr 1; omega
def sK:∀(w X:Nat),dl (4294967296 ^ w*X) w=List.replicate w 0:=by
 intro w;have key:∀ n,n<=w -> ∀ X,dl (4294967296 ^ w*X) n=List.replicate n 0:=by
  intro n;induction n with
  | zero=>intro _ X; rfl
  | succ n ih=>
   intro hn X;rw[dl,ih (by omega),aaJ];have e:4294967296 ^ w*X=4294967296 ^ n*(4294967296*(4294967296 ^ (w - n - 1)*X)):=by rw[<- Zf,<- Zf,<- Zh,<- Zk];congr 2; omega
   rw[e,ZH _ (aU n),ack];rfl
 exact key w (Zi _)
def uc (n:Nat):2 ^ n=4294967296 ^ (n / 32)*2 ^ (n%32):=by
 have:(4294967296:Nat)=2 ^ 32:=by decide
 rw[this,<- ab6,<- Zk];congr 1; omega
def bf {α:Type} (xs:List α) (y:α) (ys:List α) (z:α) (n:Nat) (h:n=xs.length):(xs++y::ys).set n z=xs++z::ys:=by subst h; rw[abg _ _ (Zi _),ZF]; rfl
def bZ {xs:List Int} {y:Int} {ys:List Int} {n:Nat} (h:n=xs.length):(xs++y::ys).getD n 0=y:=by subst h; rw[List.getD_eq_getElem?_getD,List.getElem?_append_right (Zi _),ZF]; rfl
def KO {N:Nat} (m:List Int) (hm:InW m) (n:Nat) (hn:n<4294967296) (hN:m.length+n / 32+4<N) (hs:m.length<=1099511627776) (k:Kz3):ti N m n k=k (ah (aE m*2 ^ n)):=by
 (unfold ti; rw[af]; unfold sw)
 by_cases h0:m.length=0
 ·have:m=[]:=List.length_eq_zero_iff.1 h0;subst this;simp[aE,aX]
 ·have e0:((m.length:Int)==0)=false:=by simp; intro h; subst h; simp at h0
  have ew:IntKind.wrap .u64 (Int.tdiv (n:Int) 32)=((n / 32:Nat):Int):=by rw[aq,Z_ (by omega)]; omega
  have es:Int.tmod (n:Int) 32=((n%32:Nat):Int):=by rw[Z1 (by omega)]; rfl
  rw[e0,Y7,ew,es];generalize hw:n / 32=w at *;generalize hsh:n%32=s at *;have hs32:s<32:=by omega
  have hp2:2 ^ n=4294967296 ^ w*2 ^ s:=by rw[uc,hw,hsh]
  have hs0:0<2 ^ s:=Zj s;have hs1:2 ^ s*2 ^ (32 - s)=4294967296:=by rw[<- Zk,show s+(32 - s)=32 by omega]
  have hs2:2 ^ s<=2147483648:=by have:2 ^ s<=2 ^ 31:=Zl (by decide) (by omega);simpa using this
  have elen:Int.toNat (((w:Nat):Int)+(m.length:Int)+1)=w+m.length+1:=by omega
  rw[aa Y3,aa Y3,aa Y3,aa (bQ (by omega) (by omega) (by omega) (by omega)),elen]
  let V:=aE m*2 ^ n
  let X:=aE m*2 ^ s
  have hVX:V=4294967296 ^ w*X:=by simp only[V,X]; rw[hp2,ZB]
  let T:=λi=>aE (m.take i)*2 ^ s
  let c:=λi=>T i / 4294967296 ^ i
  refine aF (λi=>((i:Int),dl V (w+i)++((c i:Nat):Int)::List.replicate (m.length - i) 0)) m.length ?_ (by omega) (λi hi K=>?_) (λK=>?_)
  ·congr 1;show List.replicate (w+m.length+1) (0:Int)=dl V w++((c 0:Nat):Int)::List.replicate m.length 0;rw[hVX,sK];have hc0:c 0=0:=by simp[c,T,aE]
   rw[hc0];have:w+m.length+1=w+(m.length+1):=by omega
   rw[this,<- aaN,ZQ]; rfl
  ·have hx:=hm.at (i:=i);have hT:T (i+1)=T i+4294967296 ^ i*((m.getD i 0).toNat*2 ^ s):=by simp only[T,aP,Zw,Zf]
   have hq:T (i+1) / 4294967296 ^ i=c i+(m.getD i 0).toNat*2 ^ s:=by rw[hT,dI]
   have hci:c i<2 ^ s:=by simp only[c,T];rw[Ze (aU i),Y_];exact aag (bC hm i) hs0
   have hc1:c (i+1)=(c i+(m.getD i 0).toNat*2 ^ s) / 4294967296:=by rw[<- hq]; simp only[c]; rw[Zh,Zd]
   have hdig:V / 4294967296 ^ (w+i)%4294967296=(c i+(m.getD i 0).toNat*2 ^ s)%4294967296:=by rw[<- hq,hVX,Zk,<- Zd,ZH _ (aU w)];obtain⟨R,hR⟩:=ca m (i+1);refine kv (R:=R*2 ^ s) ?_;simp only[X,T];rw[hR,Zw,Zf]
   have hrep:List.replicate (m.length - i) (0:Int)=0::List.replicate (m.length - (i+1)) 0:=by rw[show m.length - i=(m.length - (i+1))+1 by omega,ZQ]
   have hdl:=al V (w+i);have ei:Int.toNat ((w:Int)+(i:Int))=w+i:=by omega
   have ei1:Int.toNat ((w:Int)+(i:Int)+1)=w+i+1:=by omega
   have emin:min s 64=s:=by omega
   simp only[dU,Zb,ei,ei1,emin];rw[hrep,bZ hdl.symm,bf _ _ _ _ _ hdl.symm];have et:IntKind.wrap .u64 (IntKind.wrap .u64 (m.getD i 0)*2 ^ s)=(((m.getD i 0).toNat*2 ^ s:Nat):Int):=by
    have hxs:(m.getD i 0).toNat*2 ^ s<4294967296*2147483648:=ZP (by omega) hs2 (by decide);have e1:IntKind.wrap .u64 (m.getD i 0)=(((m.getD i 0).toNat:Nat):Int):=by rw[aq]; omega
    have e2:(((m.getD i 0).toNat:Nat):Int)*2 ^ s=(((m.getD i 0).toNat*2 ^ s:Nat):Int):=by simp
    rw[e1,e2,aq]; omega
   rw[et];generalize hxx:(m.getD i 0).toNat=x at *;have hx32:x<4294967296:=by omega
   have hlow:x*2 ^ s%4294967296=2 ^ s*(x%2 ^ (32 - s)):=by
    have e:x*2 ^ s%(2 ^ s*2 ^ (32 - s))=2 ^ s*(x%2 ^ (32 - s)):=by rw[Y_ x]; exact aaY _ _ _
    rwa [hs1]at e
   have hsum:2 ^ s*(x%2 ^ (32 - s))+c i<4294967296:=by have h1:x%2 ^ (32 - s)+1<=2 ^ (32 - s):=Zm _ (Zj _);have h2:=Zc (2 ^ s) h1;rw[hs1,Zn]at h2;omega
   have eor:aA .or .u32 ((c i:Nat):Int) (IntKind.wrap .u32 ((x*2 ^ s:Nat):Int))=((V / 4294967296 ^ (w+i)%4294967296:Nat):Int):=by
    have e1:IntKind.wrap .u32 ((x*2 ^ s:Nat):Int)=((2 ^ s*(x%2 ^ (32 - s)):Nat):Int):=by rw[<- hlow,dc]; omega
    rw[e1,pm _ _ s hci hsum,hdig];omega
   have ehi:IntKind.wrap .u32 (Int.fdiv ((x*2 ^ s:Nat):Int) (2 ^ 32))=((c (i+1):Nat):Int):=by have hxs:x*2 ^ s<4294967296*2147483648:=ZP hx32 hs2 (by decide);rw[jj,dc,hc1];omega
   rw[eor,ehi];have hl1:∀(a b:Int) (ys:List Int),(dl V (w+i)++a::b::ys).length=w+i+2+ys.length:=by intro a b ys; simp[hdl]; omega
   have hset2:(dl V (w+i)++((V / 4294967296 ^ (w+i)%4294967296:Nat):Int)::0::List.replicate (m.length - (i+1)) 0).set (w+i+1) ((c (i+1):Nat):Int)=dl V (w+(i+1))++((c (i+1):Nat):Int)::List.replicate (m.length - (i+1)) 0:=by
    have:dl V (w+i)++((V / 4294967296 ^ (w+i)%4294967296:Nat):Int)::0::List.replicate (m.length - (i+1)) 0=dl V (w+(i+1))++0::List.replicate (m.length - (i+1)) 0:=by rw[<- ZK,dl]; simp
    rw[this];exact bf _ _ _ _ _ (by rw[al]; omega)
   rw[hset2,hl1,hl1];simp only[aau];rw[Y5 (by omega:(i:Int)<m.length),Y8,aa Y4,aa (Y5 (by omega)),aa Y3,aa Y4,aa (Y5 (by omega)),aa Y4,aa (Y5 (by omega)),
    aa Y3,aa Y3,aa Y4,aa (Y5 (by omega)),aa Y3]
   rfl
  ·simp only[dU];rw[Y6 (by omega:¬(m.length:Int)<m.length),Y7,ZF,ZJ];have hV:V<4294967296 ^ (w+m.length+1):=by have h1:=di hm;simp only[V];rw[hp2,Zh,Zk,ZB,Zf];refine aag ?_ (aU w);exact ZP h1 (by omega) (by decide)
   have hT:T m.length=X:=by simp only[T,X]; rw[ZO]
   have hend:dl V (w+m.length)++[((c m.length:Nat):Int)]=dl V (w+m.length+1):=by
    rw[dl];have:c m.length=V / 4294967296 ^ (w+m.length)%4294967296:=by simp only[c];rw[hT,hVX,Zk,<- Zd,ZH _ (aU w)];rw[Zg];rw[Ze (aU _),Y_];have h1:=di hm;simp only[X];exact ZP h1 (by omega) (by decide)
    rw[this]
   rw[hend,dh _ (ip V _) (by rw[al]; omega) (by rw[al]; omega),oq hV]
def zZ {m:List Int} (hm:InW m) (j:Nat):∃ R,aE m / 4294967296 ^ j=(m.getD j 0).toNat+4294967296*(m.getD (j+1) 0).toNat+4294967296*4294967296*R:=by
 obtain⟨R,hR⟩:=ca m (j+2);refine⟨R,?_⟩;rw[hR,aP,aP];simp only[Zh];have e:aE (m.take j)+4294967296 ^ j*(m.getD j 0).toNat+4294967296 ^ j*4294967296*(m.getD (j+1) 0).toNat+4294967296 ^ j*4294967296*4294967296*R
   = aE (m.take j)+4294967296 ^ j*((m.getD j 0).toNat+4294967296*(m.getD (j+1) 0).toNat+4294967296*4294967296*R):=by
  rw[Zn,Zn,Zf,Zf,Zf,Zf]; omega
 rw[e,dI,ZA (bC hm j),Zx]
def rK {N:Nat} (n:Nat) (hn:n<18446744073709551616) (hN:4<N) (k:Kz3):AH N n k=k (ah n):=by
 (unfold AH; rw[af]; unfold Jo)
 have hw:InW [IntKind.wrap .u32 (n:Int),IntKind.wrap .u32 (Int.fdiv (n:Int) (2 ^ 32))]:=by intro x hx;simp only[dc,jj,aav,aa_,or_false]at hx;rcases hx with rfl | rfl <;> omega
 have hv:aE [IntKind.wrap .u32 (n:Int),IntKind.wrap .u32 (Int.fdiv (n:Int) (2 ^ 32))]=n:=by simp only[aE,dc,jj]; omega
 rw[dh _ hw (by simp; omega) (by simp),hv]
def sg (neg:Bool) (n:Nat):Bool:=neg&&decide (n ≠ 0)
def lm (n:Nat):decide (((ah n).length:Int)>0)=decide (n ≠ 0):=by
 by_cases h:n=0
 ·subst h; rw[aX]; simp
 ·obtain⟨-,h2⟩:=lQ n h;rw[Y5 (by omega),Y5 h]
def Ow (neg:Bool) (n:Nat) (k:Ky3):cond (neg==true) (k (decide (((ah n).length:Int)>0)) (ah n)) (k false (ah n))=k (sg neg n) (ah n):=by rw[lm];cases neg <;> rfl
def j6 {N:Nat} (neg:Bool) (m:List Int) (b:Bool) (hm:InW m) (hN:dq N m) (k:Ky3):ug N neg m b k=k (sg neg (aE m)) (ah (aE m)):=by unfold ug N2;rw[Gj m hm (by have:=hN.1; omega) (by have:=hN.2; omega)];exact Ow neg _ k
def si {N:Nat} (n:Nat) (hn:n<18446744073709551616) (b:Bool) (hN:dq N (ah n)) (h4:4<N) (k:Ky3):NN N n b k=k false (ah n):=by
 (unfold NN; rw[af]; unfold Pk)
 rw[rK n hn h4,j6 false _ b (aR n) hN,aD];rfl
def aT (g:Bool) (n:Nat):Int:=if g=true then -(n:Int)else n
def mB (z:Int) (k:Ky3):Bool:=k (decide (z<0)) (ah z.natAbs)
def oQ (g:Bool) (n:Nat) (k:Ky3):k (sg g n) (ah n)=mB (aT g n) k:=by
 unfold mB aT sg;cases g
 ·simp only[ZU,ZE,abK,ZV];rw[Y6 (by omega)]
 ·simp only[aaD,aac,abo,ZV];congr 1;by_cases h:n=0
  ·subst h; rfl
  ·rw[Y5 h,Y5 (by omega)]
def l7 (z:Int):aT (decide (z<0)) z.natAbs=z:=by
 unfold aT;by_cases h:z<0
 ·rw[Y5 h]; simp; omega
 ·rw[Y6 h]; simp; omega
def rk {x y:Nat}:decide (dr x y>=0)=decide (y<=x):=by
 unfold dr;split
 ·rw[Y6 (by omega),Y6 (by omega)]
 ·split
  ·rw[Y5 (by omega),Y5 (by omega)]
  ·rw[Y5 (by omega),Y5 (by omega)]
def IE (g1 g2 turn:Bool) (n1 n2:Nat) (k:Ky3) :
  cond (g1==(g2 != turn)) (k (sg (g2 != turn) (n1+n2)) (ah (n1+n2))) (cond (decide (dr n1 n2>=0)) (k (sg g1 (n1 - n2)) (ah (n1 - n2))) (k (sg (g2 != turn) (n2 - n1)) (ah (n2 - n1))))
   = mB (aT g1 n1+(if turn=true then -(aT g2 n2)else aT g2 n2)) k:=by
 rw[oQ _ _ k,oQ _ _ k,oQ _ _ k,rk];have key:∀ a b:Int,a=b->mB a k=mB b k:=λa b h=>by rw[h]
 cases g1 <;> cases g2 <;> cases turn <;> simp only[aT] <;> by_cases h:n2<=n1 <;> simp only[h,abX,acd,Y8,Y7,bne,aaV,Z0,ZN,ZU,aaD,ZE,(by decide:(false==true)=false),(by decide:(true==false)=false)] <;> refine key _ _ ?_ <;> omega
def As {N:Nat} (turn b g1:Bool) (n1:Nat) (g2:Bool) (n2:Nat) (h1:dq N (ah n1)) (h2:dq N (ah n2)) (h3:dq N (ah (n1+n2))) (k:Ky3) :
  NO N turn b g1 (ah n1) g2 (ah n2) k=mB (aT g1 n1+(if turn=true then -(aT g2 n2)else aT g2 n2)) k:=by
 (unfold NO; rw[af]; unfold Pl)
 have hs:∀ m,m<=n1+n2->dq N (ah m):=λm hm=>by have:=bX hm;exact⟨by have:=h3.1; omega,by have:=h3.2; omega⟩
 rw[KS _ _ (aR _) (aR _) h1 h2,jb _ _ h1 h2,aD,aD,j6 _ _ _ (aR _) h3,aD,<- IE];congr 1;by_cases h:n2<=n1
 ·rw[uW _ _ (aR _) (aR _) (by rw[aD,aD]; exact h) h1,aD,aD,j6 _ _ _ (aR _) (hs _ (by omega)),aD,rk,Y5 h];rfl
 ·rw[uW _ _ (aR n2) (aR n1) (by rw[aD,aD]; omega) h2,aD,aD,j6 _ _ _ (aR _) (hs _ (by omega)),aD,rk,Y6 h];rfl
def HO {N:Nat} (b g1:Bool) (n1:Nat) (g2:Bool) (n2:Nat) (h1:dq N (ah n1)) (h2:dq N (ah n2)) (h3:dq N (ah (n1+n2))) (k:Ky3) :
  Lm N b g1 (ah n1) g2 (ah n2) k=mB (aT g1 n1 - aT g2 n2) k:=by
 unfold Lm N1;rw[As true b g1 n1 g2 n2 h1 h2 h3]; rfl
def SG (N m s:Nat):Prop:=(ah m).length+s / 32+4<N/\(ah m).length<=1099511627776/\s<4294967296/\dq N (ah (m*2 ^ s))
def Al {N:Nat} (s:Nat) (b g:Bool) (n:Nat) (h:SG N n s) (k:Ky3):GG N s b g (ah n) k=mB (aT g (n*2 ^ s)) k:=by
 (unfold GG; rw[af]; unfold I6)
 rw[KO _ (aR n) s h.2.2.1 h.1 h.2.1,aD,j6 _ _ _ (aR _) h.2.2.2,aD,oQ _ _ k]
def J_ {n:Nat}:(((ah n).length:Int)==0)=decide (n=0):=by
 by_cases h:n=0
 ·subst h; rw[aX]; rfl
 ·obtain⟨-,h2⟩:=lQ n h;rw[Y6 h]; simp; intro h'; rw[h']at h2; simp at h2
def sU {N:Nat} (n:Nat) (hn:n<9223372036854775808) (hs:dq N (ah n)) (h4:4<N) (k:Ky3):yK N n k=k false (ah n):=by
 (unfold yK N0; unfold OD; rw[af]; unfold I_ io)
 have e:IntKind.wrap .u64 (n:Int)=n:=by rw[aq]; omega
 rw[Y6 (by omega:¬(n:Int)<0),Y7,e,rK n (by omega) h4,j6 _ _ _ (aR _) hs,aD];rfl
def Ka:ah 1=[1]:=by rw[ct (by decide),aX]; rfl
def js (a b:Nat):Int.fdiv (a:Int) (b:Int)=((a / b:Nat):Int):=by rw[aay _ (by omega)]; rfl
def pr (N:Nat) (k:Kz0):vh N 52 2047 1075 k=k 9223372036854775808:=by rfl
def lh (N:Nat) (k:Kz0):nl N 52 2047 1075 k=k 9218868437227405312:=by rfl
def jo (N:Nat) (k:Kz0):kK N 52 2047 1075 k=k 4503599627370496:=by rfl
def wJ (N:Nat) (k:Kz0):vg N 52 2047 1075 k=k 9221120237041090561:=by
 (unfold vg; rw[af]; unfold uA)
 simp only[lh,jo];exact acf k (by decide)
def M7 (N:Nat) (b:Nat) (k:Ky9):Ln N b 52 2047 1075 k=k (isNaN b):=by
 (unfold Ln; rw[af]; unfold I7)
 simp only[pr,lh,nq];congr 1;rw[aaA,aaw,eA];omega
def cnb (b:Nat):Nat:=if isNaN b then 9221120237041090561 else b
def Ap (N:Nat) (b:Nat) (k:Kz0):Lz N b 52 2047 1075 k=k (cnb b):=by unfold Lz RU;simp only[M7,wJ,cnb];cases isNaN b <;> rfl
def Ar (N:Nat) (b:Nat) (k:Kx6):NM N b 52 2047 1075 k=k (aA .and .u64 (cnb b) 9223372036854775808 != 0) ((cnb b / 4503599627370496%2048:Nat):Int) ((cnb b%4503599627370496:Nat):Int):=by
 (unfold NM; rw[af]; unfold Pi)
 simp only[Ap,pr,jo];have e1:(2:Int) ^ (min (Int.toNat 52) 64)=((4503599627370496:Nat):Int):=by decide
 have e2:IntKind.wrap .u64 2047=((2 ^ 11 - 1:Nat):Int):=by decide
 have e3:IntKind.wrap .u64 (4503599627370496 - 1)=((2 ^ 52 - 1:Nat):Int):=by decide
 have e4:decide ((0:Int)<=52)=true:=by decide
 rw[e1,js,e2,e3,jg _ _ (by decide),jg _ _ (by decide),e4,ac (by omega) (by omega)];rfl
def A1 (b:Nat):cls b=if (cnb b / 4503599627370496%2048)=2047 then(if cnb b%4503599627370496=0 then 2 else 1)else if cnb b / 4503599627370496%2048=0 then(if cnb b%4503599627370496=0 then 3 else 4)else 5:=by
 unfold cls cnb;by_cases h:isNaN b=true
 ·rw[if_pos h,if_pos h]; decide
 ·rw[if_neg h,if_neg h];have hn:¬(9218868437227405312<b%9223372036854775808):=λq=>h ((eA b).2 q)
  by_cases h1:b / 4503599627370496%2048=2047
  ·rw[if_pos h1,if_pos h1,if_pos (by omega)]
  ·rw[if_neg h1,if_neg h1]
def Aq (N:Nat) (b:Nat) (k:Kz0):NL N b 52 2047 1075 k=k (cls b):=by
 (unfold NL; rw[af]; unfold Ph)
 simp only[Ar,A1 b];generalize cnb b / 4503599627370496%2048=e;generalize cnb b%4503599627370496=f;have d1:((e:Int)==2047)=decide (e=2047):=by rw[aaA,aaI,aaw]; omega
 have d2:((e:Int)==0)=decide (e=0):=by rw[aaA,aaI,aaw]; omega
 have d3:((f:Int)==0)=decide (f=0):=by rw[aaA,aaI,aaw]; omega
 simp only[bne,d1,d2,d3];by_cases h1:e=2047 <;> by_cases h2:e=0 <;> by_cases h3:f=0 <;> simp[h1,h2,h3]
def HE (N:Nat) (b:Nat) (k:Kz0):Fy N b k=k (cls b):=by unfold Fy RE;simp only[BI,rP,AR,Aq]
def JY (a b:Nat) (_ha:a<18446744073709551616\/True):decide ((cnb a:Int)=cnb b)=decide (cn (some a)=cn (some b)):=by
 have hq:isNaN 9221120237041090561=true:=by decide
 rw[aaA,aaw,aaw];have cf:∀ c,cn (some c)=if isNaN c=true then none else some c:=λ_=>rfl
 rw[cf,cf];unfold cnb;by_cases h1:isNaN a=true <;> by_cases h2:isNaN b=true
 ·simp[h1,h2]
 ·rw[if_pos h1,if_neg h2,if_pos h1,if_neg h2];refine⟨λh=>?_,λh=>by cases h⟩;have:b=9221120237041090561:=by omega
  rw[this]at h2; exact absurd hq h2
 ·rw[if_neg h1,if_pos h2,if_neg h1,if_pos h2];refine⟨λh=>?_,λh=>by cases h⟩;have:a=9221120237041090561:=by omega
  rw[this]at h1; exact absurd hq h1
 ·simp only[h1,h2,ZE,Zy,ZU]; omega
def M3 (N:Nat) (b:Nat) (k:Kz2):FC N b k=k (zp (some b)):=by unfold FC RQ;simp only[BI,wl,nq];rfl
def J0 (b:Bool) (k:Ky9):cond b (k true) (k false)=k b:=by cases b <;> rfl
def gv {a c:Bool} (h:a=true):(a&&c)=c:=by rw[h]; rfl
def ek (N n:Nat):Prop:=n<N/\n<=17592186044416
def oO (l:List Int):List Fl:=l.map λn=>dD n.toNat
def yk {N:Nat} (l:List Int) (hl:ek N l.length) (k:List Fl->Bool):mu N l k=k (oO l):=by
 (unfold mu; rw[af]; unfold sA)
 refine(bR (λi=>((i:Int),(l.take i).map λn=>dD n.toNat)) l.length hl.1 (λi hi K=>?_) (λK=>?_):_)
 ·have h2:=hl.2;have e1:(l.take (i+1)).map (λn=>dD n.toNat)=(l.take i).map (λn=>dD n.toNat)++[dD (l.getD i 0).toNat]:=by rw[aap hi,aaQ,List.getD_eq_getElem?_getD,List.getElem?_eq_getElem hi]; rfl
  simp only[ko,wl,Zb];rw[tK (by omega),Y8,gv Y4,gv (tK (by simp; omega)),gv Y3,e1];rfl
 ·simp only[ko];rw[uG (by omega),Y7,ZO]; rfl
def bF (xs:List Fl):Bool:=zq (λi=>aL (xs.getD i none)) xs.length
def l_ {N:Nat} (xs:List Fl) (hl:ek N xs.length) (k:Ky9):yL N xs k=k (bF xs):=by
 (unfold yL; rw[af]; unfold Ji)
 rw[<- J0 (bF xs) k];refine(lE (λi=>(i:Int)) (λi=>aL (xs.getD i none)) xs.length hl.1 (λi hi K=>?_) (λK=>?_):_)
 ·have h2:=hl.2;simp only[jE,Ly,Zb];rw[tK (by omega),Y8,gv Y4,gv Y3];have hc:=Cn (xs.getD i none);generalize xA (xs.getD i none)=c at hc ⊢;generalize aL (xs.getD i none)=f at hc ⊢;have d1:(c==1)=decide (c=1):=rfl;have d2:(c==2)=decide (c=2):=rfl;rw[d1,d2];generalize decide (c=1)=u at *;generalize decide (c=2)=v at *;cases u <;> cases v <;> cases f <;> first | rfl | cases hc
 ·simp only[jE];rw[uG (by omega),Y7]
def kY:Fl->Nat
 | none=>9221120237041090561
 | some b=>cnb b
def Fr (d:Ieee.Datum) (h:d.isNaN=false):d.order d=some .eq:=by
 cases d with
 | nan s t=>cases h
 | infinity s=>simp[Ieee.Datum.order,compare,compareOfLessAndEq]
 | number s m i=>simp[Ieee.Datum.order,compare,compareOfLessAndEq]
def Ho (b:Nat) (h:isNaN b=false):(Ieee.double.order b b==some .eq)=true:=by unfold Ieee.Format.order;rw[Fr _ h]; rfl
def Km (b:Nat):feq (some b) (some b) = !isNaN b:=by
 cases h:isNaN b with
 | true=>simp[feq,tL,ml b h]
 | false=>simp only[feq,tL,ZN]; exact Ho b h
def C4 (N:Nat) (x:Fl) (k:Kz0):mq N x k=k (kY x):=by
 unfold mq xm uf;cases x with
 | none=>rfl
 | some b=>
  rw[Km];simp only[kY,cnb];cases isNaN b <;> rfl
def Du (a b:Nat):Int.tmod (a:Int) (b:Int)=((a%b:Nat):Int):=by rw[Z1 (by omega)]; rfl
def Ao (N:Nat) (x:Fl) (k:Kx6):m_ N x k=k (Int.fdiv (kY x:Int) (2 ^ 63)==1) ((kY x / 4503599627370496%2048:Nat):Int) ((kY x%4503599627370496:Nat):Int):=by
 (unfold m_; rw[af]; unfold pQ)
 simp only[C4];have e1:(2:Int) ^ 52=((4503599627370496:Nat):Int):=by decide
 have e2:(2048:Int)=((2048:Nat):Int):=rfl;have e3:(4503599627370496:Int)=((4503599627370496:Nat):Int):=rfl;rw[e1,e2,e3,js,Du,Du,ac (by omega) (by omega)];rfl
def Hg (x:Fl):xA x=if (kY x / 4503599627370496%2048)=2047 then(if kY x%4503599627370496=0 then 2 else 1)else if kY x / 4503599627370496%2048=0 then(if kY x%4503599627370496=0 then 3 else 4)else 5:=by
 cases x with
 | none=>decide
 | some b=>exact A1 b
def zA (N:Nat) (x:Fl) (k:Kz0):qI N x k=k (xA x):=by
 (unfold qI vu; unfold OI; rw[af]; unfold Jt)
 simp only[Ao,Hg x];generalize kY x / 4503599627370496%2048=e;generalize kY x%4503599627370496=f;have d1:((e:Int)==2047)=decide (e=2047):=by rw[aaA,aaI,aaw]; omega
 have d2:((e:Int)==0)=decide (e=0):=by rw[aaA,aaI,aaw]; omega
 have d3:((f:Int)==0)=decide (f=0):=by rw[aaA,aaI,aaw]; omega
 simp only[bne,d1,d2,d3];by_cases h1:e=2047 <;> by_cases h2:e=0 <;> by_cases h3:f=0 <;> simp[h1,h2,h3]
def yr (N:Nat) (x:Fl) (k:Ky9):oX N x k=k (aL x):=by
 unfold oX tD;simp only[zA];congr 1;have h1:=Cn x;have h2:=My x;rw[aaA,aaw];cases hf:aL x with
 | true=>
  rw[hf]at h1;simp only[Z0,Bool.or_eq_false_iff,aaZ]at h1;exact⟨λ_=>rfl,λ_=>by omega⟩
 | false=>
  rw[hf]at h1;simp only[ZN,ab3,aa0]at h1;exact⟨λ_=>by omega,λh=>by cases h⟩
def se {N:Nat} (xs:List Fl) (hl:ek N xs.length) (k:Ky9):GF N xs k=k (bF xs):=by
 (unfold GF; rw[af]; unfold I5)
 rw[<- J0 (bF xs) k];refine(lE (λi=>(i:Int)) (λi=>aL (xs.getD i none)) xs.length hl.1 (λi hi K=>?_) (λK=>?_):_)
 ·have h2:=hl.2;simp only[fo,Zb,yr];rw[tK (by omega),Y8,gv Y4,gv Y3];cases aL (xs.getD i none) <;> rfl
 ·simp only[fo];rw[uG (by omega),Y7]
def JN (x y:Fl):((kY x:Int)==kY y)=decide (cn x=cn y):=by
 have hq:cn (some 9221120237041090561)=none:=by decide
 have hb:cnb 9221120237041090561=9221120237041090561:=by decide
 have key:∀ x,∃ a,kY x=cnb a/\cn x=cn (some a):=by
  intro x;cases x with
  | none=>exact⟨9221120237041090561,hb.symm,hq.symm⟩
  | some b=>exact⟨b,rfl,rfl⟩
 obtain⟨a,e1,e2⟩:=key x;obtain⟨b,e3,e4⟩:=key y;rw[e1,e2,e3,e4,<- JY a b (.inr trivial)];rfl
def Bn (N:Nat) (x y:Fl) (k:Ky9):tm N x y k=k (decide (cn x=cn y)):=by
 (unfold tm; rw[af]; unfold sB)
 simp only[C4,JN]
def iU {n i j:Nat} (hi:i<n) (hj:j<n):i*n+j<n*n:=by have:(i+1)*n<=n*n:=Y9 n hi;rw[Zw]at this; omega
def yC {n:Nat} (h:n<=12):n*n<=144:=ZZ h h
def chk (r c:Int) (xs:List Fl):Int:=if (0<=r/\r<=12)/\(0<=c/\c<=12)then(if (xs.length:Int)=r*c then(if bF xs=true then 0 else 4)else 3)else 1
def Nt {r c:Int} (hr:0<=r/\r<=12) (hc:0<=c/\c<=12):ai .i64 (r*c)=true:=by have h1:0<=r*c:=Int.mul_nonneg hr.1 hc.1;have h2:r*c<=12*12:=Int.mul_le_mul hr.2 hc.2 hc.1 (by decide);exact ac (by omega) (by omega)
def p6 {r c:Int} {xs:List Fl}:chk r c xs=0↔((0<=r/\r<=12)/\(0<=c/\c<=12))/\(xs.length:Int)=r*c/\bF xs=true:=by
 unfold chk;split
 ·split
  ·split
   ·simp[*]
   ·simp[*]
  ·simp[*]
 ·simp[*]
def elt (xs:List Fl) (n i j:Nat):Fl:=xs.getD (i*n+j) none
def Gw (V x Bk bk i k:Nat):V%4294967296 ^ (i+k+1)+x*(Bk+4294967296 ^ k*bk)*4294967296 ^ i=(V%4294967296 ^ (i+k)+x*Bk*4294967296 ^ i)+4294967296 ^ (i+k)*(V / 4294967296 ^ (i+k)%4294967296+x*bk):=by rw[Nat.mod_pow_succ,Zk];grind
def Eu (V x Bk bk i k:Nat):(V%4294967296 ^ (i+k+1)+x*(Bk+4294967296 ^ k*bk)*4294967296 ^ i) / 4294967296 ^ (i+k+1)=((V%4294967296 ^ (i+k)+x*Bk*4294967296 ^ i) / 4294967296 ^ (i+k)+V / 4294967296 ^ (i+k)%4294967296+x*bk) / 4294967296:=by rw[Gw,Zh,<- Zd,Z2 _ _ (aaf (by decide)),ZK]
def Cj (V x Bk bk i k R:Nat):(V+x*(Bk+4294967296 ^ k*bk+4294967296 ^ (k+1)*R)*4294967296 ^ i) / 4294967296 ^ (i+k)%4294967296=((V%4294967296 ^ (i+k)+x*Bk*4294967296 ^ i) / 4294967296 ^ (i+k)+V / 4294967296 ^ (i+k)%4294967296+x*bk)%4294967296:=by
 have e:V+x*(Bk+4294967296 ^ k*bk+4294967296 ^ (k+1)*R)*4294967296 ^ i=(V%4294967296 ^ (i+k+1)+x*(Bk+4294967296 ^ k*bk)*4294967296 ^ i)+4294967296 ^ (i+k+1)*(V / 4294967296 ^ (i+k+1)+x*R):=by
  have h:=ZW V (4294967296 ^ (i+k+1));have h2:4294967296 ^ (i+k+1)=4294967296 ^ (k+1)*4294967296 ^ i:=by rw[<- Zk]; congr 1; omega
  generalize V / 4294967296 ^ (i+k+1)=q at *;generalize V%4294967296 ^ (i+k+1)=r at *;rw[<- h,h2];grind
 rw[kv e,Gw,Z2 _ _ (aaf (by decide)),ZK]
def JU {V x Bk i k:Nat} (hx:x<4294967296) (hB:Bk<4294967296 ^ k):(V%4294967296 ^ (i+k)+x*Bk*4294967296 ^ i) / 4294967296 ^ (i+k)<4294967296:=by
 rw[Ze (aaf (by decide))];have h1:V%4294967296 ^ (i+k)<4294967296 ^ (i+k):=Zm _ (aaf (by decide));have h2:x*Bk<=4294967295*4294967296 ^ k:=ZZ (by omega) (by omega);have h3:x*Bk*4294967296 ^ i<=4294967295*4294967296 ^ (i+k):=by
  have:=Y9 (4294967296 ^ i) h2
  rwa [Zf 4294967295,<- Zk,aa4 k i]at this
 omega
def rn (S:Nat) {L i:Nat} (h:i<L):(dl S L).getD i 0=((S / 4294967296 ^ i%4294967296:Nat):Int):=by
 induction L with
 | zero=>omega
 | succ L ih=>
  show((dl S L)++[_]).getD i 0=_;rw[List.getD_eq_getElem?_getD];by_cases hi:i<L
  ·rw[List.getElem?_append_left (by rw[al]; exact hi),<- List.getD_eq_getElem?_getD,ih hi]
  ·have:i=L:=by omega
   subst this;rw[List.getElem?_append_right (by rw[al]; exact Zi _),al,ZF]; rfl
def cV {l:List Int} {n:Nat} (h:n<l.length):l.drop n=l.getD n 0::l.drop (n+1):=by rw[List.drop_eq_getElem_cons h,List.getD_eq_getElem?_getD,List.getElem?_eq_getElem h]; rfl
def pw {b:List Int} {k:Nat}:aE (b.take (k+1))=aE (b.take k)+4294967296 ^ k*(b.getD k 0).toNat:=aP k
def xJ (U V L p:Nat) (h:p<L):(dl U p++(dl V L).drop p).set p ((U / 4294967296 ^ p%4294967296:Nat):Int)=dl U (p+1)++(dl V L).drop (p+1):=by rw[cV (by rw[al]; exact h),bf _ _ _ _ _ (by rw[al])];show _=(dl U p++[_])++_;rw[Zo]; rfl
def EC (U V L p:Nat) (h:p<L):(dl U p++(dl V L).drop p).getD p 0=((V / 4294967296 ^ p%4294967296:Nat):Int):=by rw[cV (by rw[al]; exact h),bZ (by rw[al]),rn V h]
def xI (U V L p:Nat) (h:p<=L):(dl U p++(dl V L).drop p).length=L:=by simp[al]; omega
def Hk {U L p:Nat} (hU:U<4294967296 ^ p) (h:p<=L) {V:Nat} (hV:V<4294967296 ^ p):dl U p++(dl V L).drop p=dl U L:=by
 induction L with
 | zero=>
  have:p=0:=by omega
  subst this; rfl
 | succ L ih=>
  by_cases hp:p=L+1
  ·subst hp; rw[ZR (by rw[al]; omega),ZG]
  ·have hpL:p<=L:=by omega
   have e:∀ X,X<4294967296 ^ p->dl X (L+1)=dl X L++[0]:=by intro X hX;show dl X L++[((X / 4294967296 ^ L%4294967296:Nat):Int)]=_;rw[ZA (Zq hX (Zl (by decide) hpL))]; rfl
   rw[e V hV,e U hU,Z8 (by rw[al]; exact hpL),<- Zo,ih hpL]
def s_ {a:List Int} (ha:InW a) (i:Nat):aE (a.take i)<4294967296 ^ i:=bC ha i
def oM {x y i j:Nat} (hx:x<4294967296 ^ i) (hy:y<4294967296 ^ j):x*y<4294967296 ^ (i+j):=by rw[Zk];exact acp hx hy
def rI {N:Nat} (a b:List Int) (ha:InW a) (hb:InW b) (hN:a.length+b.length+2<N) (hs:a.length+b.length<=17592186044416) (k:Kz3):u9 N a b k=k (ah (aE a*aE b)):=by
  (unfold u9; rw[af]; unfold Ps)
  have eL:Int.toNat (((a.length:Nat):Int)+((b.length:Nat):Int))=a.length+b.length:=by omega
  rw[aa Y3,aa (bQ (by omega) (by omega) (by omega) (by omega)),eL]
  let L:=a.length+b.length
  let B:=aE b
  have hB:B<4294967296 ^ b.length:=di hb;refine aF (λi=>((i:Int),dl (aE (a.take i)*B) L)) a.length ?_ (by omega) (λi hi K=>?_) (λK=>?_)
  · show((0:Int),List.replicate L (0:Int))=(((0:Nat):Int),dl (aE (a.take 0)*B) L)
    have:=sK L 0;rw[aar]at this;rw[abp,show aE []=0 from rfl,aaq,this]; rfl
  · simp only[jL]
    rw[Y5 (by omega:(i:Int)<a.length),Y8];have hx:=ha.at (i:=i)
    let V:=aE (a.take i)*B
    let x:=(a.getD i 0).toNat
    let U:=aE (a.take (i+1))*B
    have hU:U=V+x*B*4294967296 ^ i:=by simp only[U,V,x];rw[pw];grind
    have hV:V<4294967296 ^ (i+b.length):=oM (s_ ha i) hB;have hUl:U<4294967296 ^ (i+1+b.length):=oM (s_ ha (i+1)) hB
    let c:=λj=>(V%4294967296 ^ (i+j)+x*aE (b.take j)*4294967296 ^ i) / 4294967296 ^ (i+j)
    refine aF (λj=>(((c j:Nat):Int),(j:Int),dl U (i+j)++(dl V L).drop (i+j))) b.length ?_ (by omega) (λj hj K'=>?_) (λK'=>?_)
    · show((0:Int),(0:Int),dl V L)=_
      have h0:c 0=0:=by simp only[c,abp,show aE []=0 from rfl,aar,aaq,ZD];exact ZA (Zm _ (aaf (by decide)))
      have hlow:dl U i=dl V i:=by
        have:∀ n,n<=i->dl U n=dl V n:=by
          intro n;induction n with
          | zero=>intro _; rfl
          | succ n ih=>
            intro hn;show dl U n++[_]=dl V n++[_];rw[ih (by omega)];congr 3;have:U=V+4294967296 ^ (n+1)*(x*B*4294967296 ^ (i - (n+1))):=by rw[hU,ZB,<- Zk,show n+1+(i - (n+1))=i by omega]
            exact kv this
        exact this i (Zi _)
      have hsp:dl V i++(dl V L).drop i=dl V L:=by
        have:∀ n,i<=n->dl V i++(dl V n).drop i=dl V n:=by
          intro n;induction n with
          | zero=>intro h; have:i=0:=(by omega); subst this; rfl
          | succ n ih=>
            intro h;by_cases hn:i=n+1
            · subst hn; rw[ZR (by rw[al]; omega),ZG]
            · show dl V i++(dl V n++[_]).drop i=dl V n++[_]
              rw[Z8 (by rw[al]; omega),<- Zo,ih (by omega)]
        exact this L (by simp only[L]; omega)
      rw[h0,ZD,hlow,hsp]; rfl
    · have hy:=hb.at (i:=j)
      have hp:i+j<L:=by simp only[L]; omega
      have hlen:=xI U V L (i+j) (by omega);have hget:=EC U V L (i+j) hp;have hset:=xJ U V L (i+j) hp;have hc:=JU (V:=V) (x:=x) (i:=i) (k:=j) (Bk:=aE (b.take j)) (by simp only[x]; omega) (s_ hb j);have hstep:=Eu V x (aE (b.take j)) (b.getD j 0).toNat i j;obtain⟨R,hR⟩:=ca b (j+1);have hdig:=Cj V x (aE (b.take j)) (b.getD j 0).toNat i j R;rw[<- pw]at hstep hdig;rw[<- hR]at hdig;have hUe:V+x*aE b*4294967296 ^ i=U:=hU.symm;rw[hUe]at hdig;have hxy:x*(b.getD j 0).toNat<=4294967295*4294967295:=ZZ (by simp only[x]; omega) (by omega);have eidx:Int.toNat ((i:Int)+(j:Int))=i+j:=by omega
      have hcj:∀ n,c n=(V%4294967296 ^ (i+n)+x*aE (b.take n)*4294967296 ^ i) / 4294967296 ^ (i+n):=λ_=>rfl
      have hax:a.getD i 0=(x:Int):=by simp only[x]; omega
      have hby:b.getD j 0=((b.getD j 0).toNat:Int):=by omega
      simp only[jM,Zb,eidx,hlen,hget];rw[Y5 (by omega:(j:Int)<b.length),Y8,aa Y4,aa Y4,aa Y3,aa Y4,aa (Y5 (by omega)),aa Y3,aa Y4,aa (Y5 (by omega)),aa Y3];have ec1:c (j+1)=(c j+V / 4294967296 ^ (i+j)%4294967296+x*(b.getD j 0).toNat) / 4294967296:=hstep;have ed:U / 4294967296 ^ (i+j)%4294967296=(c j+V / 4294967296 ^ (i+j)%4294967296+x*(b.getD j 0).toNat)%4294967296:=hdig;have hcl:c j<4294967296:=hc;rw[ed]at hset;have vlt:V / 4294967296 ^ (i+j)%4294967296<4294967296:=Zm _ (by decide);rw[hax,hby,show i+(j+1)=i+j+1 by omega,<- hset];generalize V / 4294967296 ^ (i+j)%4294967296=v at *;generalize (b.getD j 0).toNat=y at *;generalize dl U (i+j)++(dl V L).drop (i+j)=l at *;have et:∀ q:Nat,q=c j+v+x*y->IntKind.wrap .u64 ((IntKind.wrap .u64 ((IntKind.wrap .u64 ((IntKind.wrap .u64 (x:Int))*(IntKind.wrap .u64 (y:Int))))+(IntKind.wrap .u64 (v:Int))))+((c j:Nat):Int))=(q:Int):=by
        intro q hq;have exy:((x:Int))*(y:Int)=((x*y:Nat):Int):=by rw[Zp]
        have hxl:x<4294967296:=by simp only[x]; omega
        have hyl:y<4294967296:=by omega
        have w1:IntKind.wrap .u64 (x:Int)=x:=by rw[aq]; omega
        have w2:IntKind.wrap .u64 (y:Int)=y:=by rw[aq]; omega
        rw[w1,w2,exy,aq,aq,aq,aq];omega
      rw[et _ rfl,ec1,jj,dc];congr 1
    · simp only[jM]
      rw[Y6 (by omega:¬(b.length:Int)<b.length),Y7];have hlen:=xI U V L (i+b.length) (by simp only[L]; omega);have hset:=xJ U V L (i+b.length) (by simp only[L]; omega);have eidx:Int.toNat ((i:Int)+(b.length:Int))=i+b.length:=by omega
      have hLe:i+b.length<L:=by simp only[L]; omega
      have hc:c b.length=U / 4294967296 ^ (i+b.length):=by simp only[c];rw[ZO,Zg hV,hU]
      have hcl:U / 4294967296 ^ (i+b.length)<4294967296:=by
        rw[Ze (aaf (by decide))];have:i+1+b.length=i+b.length+1:=by omega
        rw[this,Zh]at hUl;omega
      have ew:IntKind.wrap .u32 ((c b.length:Nat):Int)=((U / 4294967296 ^ (i+b.length)%4294967296:Nat):Int):=by rw[dc,hc]; omega
      have hfin:=Hk (U:=U) (V:=V) (L:=L) (p:=i+b.length+1) (by rw[show i+b.length+1=i+1+b.length by omega]; exact hUl) (by omega) (Zq hV (Zl (by decide) (by omega)));rw[aa Y3,eidx,hlen,aa Y4,aa (Y5 (by omega)),aa Y3,ew,hset,hfin];rfl
  · simp only[jL]
    rw[Y6 (by omega:¬(a.length:Int)<a.length),Y7,ZO,dh _ (ip _ _) (by rw[al]; simp only[L]; omega) (by rw[al]; simp only[L]; omega)];rw[oq (oM (di ha) hB)]
def tQ (g h:Bool) (m n:Nat):aT (g != h) (m*n)=aT g m*aT h n:=by unfold aT;rw[Zp];cases g <;> cases h <;> simp[abw,ab7]
def tJ (n:Nat):bS (ah n) (ah n).length=(ah n).length:=by
 have ht:(ah n).take (bS (ah n) (ah n).length)=ah n:=by rw[qW (aR n),aD]
 have hc:=i6 (ah n) (ah n).length;have:=acf List.length ht;rw[ZM]at this; omega
def Gx (g:Bool) (n:Nat) (k:Ky3):cond ((!g)==true) (k (decide (((ah n).length:Int)>0)) (ah n)) (k false (ah n))=mB (-(aT g n)) k:=by rw[Ow,oQ _ _ k];congr 1;unfold aT; cases g <;> simp
def An {N:Nat} (g:Bool) (n:Nat) (hN:dq N (ah n)) (k:Ky3):Lv N g (ah n) k=mB (-(aT g n)) k:=by
 (unfold Lv; rw[af]; unfold Jm qO pV)
 obtain⟨h1,h2⟩:=hN;rw[ZX,Y5 (by omega),aac,gZ _ (by omega) (by omega),tJ];simp only[aaB,ZO];rw[Y5 (by omega:0+(ah n).length<=(ah n).length),aac];exact Gx g n k
def aK (B:Nat) (n:Nat):Prop:=n<2 ^ B
def ci:∀(j n:Nat),n<4294967296 ^ j->(ah n).length<=j
 | 0,n,h=>by
  have:n=0:=by simp at h; exact h
  subst this; rw[aX]; exact Zi _
 | j+1,n,h=>by
  by_cases h0:n=0
  ·subst h0; rw[aX]; simp
  ·rw[ct h0,ZI];have:n / 4294967296<4294967296 ^ j:=aa5 (by rw[Zh]at h; omega);have:=ci j _ this;omega
def Sw (j:Nat):4294967296 ^ j=2 ^ (32*j):=by rw[ab6]
def pX {B n:Nat} (h:aK B n):(ah n).length<=B / 32+1:=by refine ci _ _ ?_;rw[Sw];exact Zq h (Zl (by decide) (by omega))
def iT {N B n:Nat} (hN:1000<=N) (hB:B<=31000) (h:aK B n):dq N (ah n):=by have:=pX h;exact⟨by omega,by omega⟩
def bJ {A B n:Nat} (h:aK A n) (hAB:A<=B):aK B n:=Zq h (Zl (by decide) hAB)
def dd {A B m n:Nat} (h:aK A m) (g:aK B n):aK (A+B) (m*n):=by unfold aK; rw[Zk]; exact acp h g
def oi {A m:Nat} (h:aK A m) (s:Nat):aK (A+s) (m*2 ^ s):=by unfold aK; rw[Zk]; exact ZS h (Zj s)
def pW {A m n:Nat} (h:aK A m) (g:aK A n):aK (A+1) (m+n):=by unfold aK at *; rw[Zh]; omega
def jh {A m n:Nat} (h:aK A m) (g:n<=m):aK A n:=aaG g h
def zS {N B n s:Nat} (hN:1000<=N) (hB:B+s<=31000) (h:aK B n):SG N n s:=by have h1:=pX h;exact⟨by omega,by omega,by omega,iT hN hB (oi h s)⟩
def exK (z:Int × Int) (k:Kx9):Bool:=k z.1 (decide (z.2<0)) (ah z.2.natAbs)
def mN (x y:Int × Int):Int × Int:=(x.1+y.1,x.2*y.2)
def vS (x:Int × Int):Int × Int:=(x.1,-x.2)
def pp (x:Int × Int) (e:Int):Int:=x.2*2 ^ (x.1 - e).toNat
def jQ (x y:Int × Int):Int × Int:=if x.2=0 then y else if y.2=0 then x else(min x.1 y.1,pp x (min x.1 y.1)+pp y (min x.1 y.1))
def Ex (E B:Nat) (x:Int × Int):Prop:=-(E:Int)<=x.1/\x.1<=E/\aK B x.2.natAbs
def nS (z:Int):Int:=if z=0 then 0 else if z<0 then -1 else 1
def MV (a b:Int):imm false a b=min a b:=by
 unfold imm; simp only[Y7];by_cases h:b<a
 ·rw[Y5 h,Y8]; omega
 ·rw[Y6 h,Y7]; omega
def au:List Int->Nat
 | []=>0
 | x::r=>x.toNat+18446744073709551616*au r
def InWq (m:List Int):Prop:=∀ x ∈ m,0<=x/\x<18446744073709551616
def ae (n:Nat):List Int:=if h:n=0 then[]else((n%18446744073709551616:Nat):Int)::ae (n / 18446744073709551616)
termination_by n
decreasing_by omega
def bA:ae 0=[]:=by rw[ae]; simp
def bT {n:Nat} (h:n ≠ 0):ae n=((n%18446744073709551616:Nat):Int)::ae (n / 18446744073709551616):=by rw[ae]; simp[h]
def aW:∀ n,InWq (ae n):=by
 intro n;induction n using Nat.strongRecOn with
 | ind n ih=>
  by_cases h:n=0
  ·subst h; rw[bA]; intro x hx; cases hx
  ·rw[bT h];intro x hx;rcases List.mem_cons.1 hx with rfl | hx
   ·omega
   ·exact ih (n / 18446744073709551616) (by omega) x hx
def aC:∀ n,au (ae n)=n:=by
 intro n;induction n using Nat.strongRecOn with
 | ind n ih=>
  by_cases h:n=0
  ·subst h; rw[bA]; rfl
  ·rw[bT h,au,ih (n / 18446744073709551616) (by omega),Zb];omega
def lw (a b:List Int):au (a++b)=au a+18446744073709551616 ^ a.length*au b:=by
 induction a with
 | nil=>simp[au]
 | cons x r ih=>
  rw[aaW,au,ih,au,ZI,Zh,Zn,Y_ (18446744073709551616 ^ r.length) 18446744073709551616,Zf];omega
def InWq.take {m:List Int} (h:InWq m) (n:Nat):InWq (m.take n):=λx hx=>h x (abU hx)
def InWq.drop {m:List Int} (h:InWq m) (n:Nat):InWq (m.drop n):=λx hx=>h x (abT hx)
def InWq.cons {x:Int} {m:List Int} (h:InWq (x::m)):(0<=x/\x<18446744073709551616)/\InWq m:=⟨h x (by simp),λy hy=>h y (by simp[hy])⟩
def InWq.at {m:List Int} (h:InWq m) {i:Nat}:0<=m.getD i 0/\m.getD i 0<18446744073709551616:=by
 rw[List.getD_eq_getElem?_getD];by_cases hi:i<m.length
 ·rw[List.getElem?_eq_getElem hi]; exact h _ (aah hi)
 ·rw[List.getElem?_eq_none (by omega)]; exact⟨by decide,by decide⟩
def gO:∀{m:List Int},InWq m->au m<18446744073709551616 ^ m.length
 | [],_=>by simp[au]
 | x::r,h=>by have ih:=gO h.cons.2;have hx:=h.cons.1;rw[au,ZI,Zh];have:au r+1<=18446744073709551616 ^ r.length:=ih;have:=Y9 18446744073709551616 this;omega
def xF:∀{m:List Int},InWq m->(∀ x,m.getLast? = some x->x ≠ 0)->ae (au m)=m
 | [],_,_=>bA
 | [x],h,hl=>by
  have hx:=h.cons.1;have h0:x ≠ 0:=hl x rfl;have e:au [x]=x.toNat:=by simp[au]
  rw[e,bT (by omega),ZA (by omega),bA,Zg (by omega),abt hx.1]
 | x::y::r,h,hl=>by
  have hx:=h.cons.1;have ih:=xF h.cons.2 (λz hz=>hl z (by rw[List.getLast?_cons_cons]; exact hz));have hne:au (y::r) ≠ 0:=by intro h0;rw[h0,bA]at ih; cases ih
  have e1:au (x::y::r)=x.toNat+18446744073709551616*au (y::r):=rfl;rw[e1,bT (by omega)];have e2:(x.toNat+18446744073709551616*au (y::r))%18446744073709551616=x.toNat:=by omega
  have e3:(x.toNat+18446744073709551616*au (y::r)) / 18446744073709551616=au (y::r):=by omega
  rw[e2,e3,ih,abt hx.1]
def wO {m:List Int} {i:Nat} (hi:i<m.length):au (m.take (i+1))=au (m.take i)+18446744073709551616 ^ i*(m.getD i 0).toNat:=by rw[aap hi,lw,ZM,aal (by omega),List.getD_eq_getElem?_getD,List.getElem?_eq_getElem hi];simp[au]
def wN (n:Nat):au (List.replicate n 0)=0:=by
 induction n with
 | zero=>rfl
 | succ n ih=>rw[ZQ,au,ih]; rfl
def dlq (S:Nat):Nat->List Int
 | 0=>[]
 | n+1=>dlq S n++[((S / 18446744073709551616 ^ n%18446744073709551616:Nat):Int)]
def ak (S:Nat):∀ n,(dlq S n).length=n
 | 0=>rfl
 | n+1=>by simp[dlq,ak S n]
def fQ (S:Nat):∀ n,InWq (dlq S n)
 | 0=>λx hx=>by cases hx
 | n+1=>λx hx=>by
  rcases List.mem_append.1 hx with h | h
  ·exact fQ S n x h
  ·simp only[ace]at h;subst h;omega
def nK (S:Nat):∀ n,au (dlq S n)=S%18446744073709551616 ^ n
 | 0=>by simp[dlq,au,abH]
 | n+1=>by rw[dlq,lw,ak,nK S n,Zh,ab4];simp only[au,Zb,aar,ZD]
def rq (S n m:Nat) (h:n<m):(dlq S n++List.replicate (m - n) 0).set n ((S / 18446744073709551616 ^ n%18446744073709551616:Nat):Int)=dlq S (n+1)++List.replicate (m - (n+1)) 0:=by
 rw[abg _ _ (by rw[ak]; exact Zi _),ak,ZF];have:m - n=(m - (n+1))+1:=by omega
 rw[this,ZQ];simp[dlq]
def kw {S n:Nat} (h:S<18446744073709551616 ^ n):ae (au (dlq S n))=ae S:=by rw[nK,Zg h]
def aJ {m:List Int} (i:Nat):au (m.take (i+1))=au (m.take i)+18446744073709551616 ^ i*(m.getD i 0).toNat:=by
 by_cases h:i<m.length
 ·exact wO h
 ·rw[dJ (by omega),Zt (by omega),Zt (by omega)]; simp
def ol (b:List Int):∀ n,au (b.take (bS b n))=au (b.take n)
 | 0=>rfl
 | n+1=>by
  unfold bS;split
  ·rename_i h;rw[ol b n,aJ,h]; simp
  ·rfl
def ur {b:List Int} (hb:InWq b):b.take (bS b b.length)=ae (au b):=by have h1:=ol b b.length;rw[ZO]at h1;rw[<- h1,xF (hb.take _) (p_ b b.length (Zi _))]
def cJ (T A i:Nat):(T+18446744073709551616 ^ i*A) / 18446744073709551616 ^ i=T / 18446744073709551616 ^ i+A:=Z2 _ _ (aaf (by decide))
def Dt (m:List Int) (i:Nat):au m=au (m.take i)+18446744073709551616 ^ (m.take i).length*au (m.drop i):=by rw[<- lw,abM]
def bI (m:List Int) (i:Nat):∃ R,au m=au (m.take i)+18446744073709551616 ^ i*R:=by
 by_cases h:i<=m.length
 ·refine⟨au (m.drop i),?_⟩;have:=Dt m i
  rwa [ZM,aal h]at this
 ·exact⟨0,by rw[Zt (by omega)]; simp⟩
def aQ {m:List Int} (h:InWq m) (i:Nat):au (m.take i)<18446744073709551616 ^ i:=by
 have h1:=gO (h.take i);have h2:(m.take i).length<=i:=by simp; omega
 exact Zq h1 (Zl (by decide) h2)
def gW {S T R i:Nat} (h:S=T+18446744073709551616 ^ (i+1)*R):S / 18446744073709551616 ^ i%18446744073709551616=T / 18446744073709551616 ^ i%18446744073709551616:=by rw[h,Zh,Zf,cJ,aao]
def Fu (i:Nat):0<18446744073709551616 ^ i:=aaf (by decide)
def zY {P A B x y o R1 R2 D a b:Nat} (hA:A<P) (hB:B<P) (ho:o=if A<B then 1 else 0) (h1:a=A+P*x+P*18446744073709551616*R1) (h2:b=B+P*y+P*18446744073709551616*R2) (hD:(D:Int)=(a:Int) - (b:Int)) :
  ((D / P:Nat):Int)=(x:Int) - (y:Int) - (o:Int)+18446744073709551616*((R1:Int) - (R2:Int)):=by
 have he:∃ e:Nat,e<P/\(e:Int)=(A:Int) - (B:Int)+(P:Int)*(o:Int):=by
  rw[ho];split
  ·exact⟨A+P - B,by omega,by omega⟩
  ·exact⟨A - B,by omega,by omega⟩
 obtain⟨e,he1,he2⟩:=he;refine ya (e:=e) ?_ he1;have e1:(a:Int)=A+(P:Int)*x+18446744073709551616*((P:Int)*R1):=by rw[h1,Zf,ZB]; simp
 have e2:(b:Int)=B+(P:Int)*y+18446744073709551616*((P:Int)*R2):=by rw[h2,Zf,ZB]; simp
 have e3:(P:Int)*((x:Int) - (y:Int) - (o:Int)+18446744073709551616*((R1:Int) - (R2:Int)))=(P:Int)*x - (P:Int)*y - (P:Int)*o+(18446744073709551616*((P:Int)*R1) - 18446744073709551616*((P:Int)*R2)):=by rw[Int.mul_add,abu,abu,Int.mul_left_comm,abu,abu]
 rw[hD,e1,e2,e3,he2];omega
def cZ {x y:Nat} (h:x<=y):(ae x).length<=(ae y).length:=by
 induction y using Nat.strongRecOn generalizing x with
 | ind y ih=>
  by_cases hx:x=0
  ·subst hx; rw[bA]; simp
  ·rw[bT hx,bT (by omega:y ≠ 0)];simp only[ZI];have:=ih (y / 18446744073709551616) (by omega) (x:=x / 18446744073709551616) (abm h);omega
def qe:∀(w X:Nat),dlq (18446744073709551616 ^ w*X) w=List.replicate w 0:=by
 intro w;have key:∀ n,n<=w -> ∀ X,dlq (18446744073709551616 ^ w*X) n=List.replicate n 0:=by
  intro n;induction n with
  | zero=>intro _ X; rfl
  | succ n ih=>
   intro hn X;rw[dlq,ih (by omega),aaJ];have e:18446744073709551616 ^ w*X=18446744073709551616 ^ n*(18446744073709551616*(18446744073709551616 ^ (w - n - 1)*X)):=by rw[<- Zf,<- Zf,<- Zh,<- Zk];congr 2; omega
   rw[e,ZH _ (Fu n),ack];rfl
 exact key w (Zi _)
def fa:∀(j n:Nat),n<18446744073709551616 ^ j->(ae n).length<=j
 | 0,n,h=>by
  have:n=0:=by simp at h; exact h
  subst this; rw[bA]; exact Zi _
 | j+1,n,h=>by
  by_cases h0:n=0
  ·subst h0; rw[bA]; simp
  ·rw[bT h0,ZI];have:n / 18446744073709551616<18446744073709551616 ^ j:=aa5 (by rw[Zh]at h; omega);have:=fa j _ this;omega
def Ds (V x Bk bk i k:Nat):V%18446744073709551616 ^ (i+k+1)+x*(Bk+18446744073709551616 ^ k*bk)*18446744073709551616 ^ i=(V%18446744073709551616 ^ (i+k)+x*Bk*18446744073709551616 ^ i)+18446744073709551616 ^ (i+k)*(V / 18446744073709551616 ^ (i+k)%18446744073709551616+x*bk):=by rw[Nat.mod_pow_succ,Zk];grind
def Ck (V x Bk bk i k:Nat):(V%18446744073709551616 ^ (i+k+1)+x*(Bk+18446744073709551616 ^ k*bk)*18446744073709551616 ^ i) / 18446744073709551616 ^ (i+k+1)=((V%18446744073709551616 ^ (i+k)+x*Bk*18446744073709551616 ^ i) / 18446744073709551616 ^ (i+k)+V / 18446744073709551616 ^ (i+k)%18446744073709551616+x*bk) / 18446744073709551616:=by rw[Ds,Zh,<- Zd,Z2 _ _ (aaf (by decide)),ZK]
def A0 (V x Bk bk i k R:Nat):(V+x*(Bk+18446744073709551616 ^ k*bk+18446744073709551616 ^ (k+1)*R)*18446744073709551616 ^ i) / 18446744073709551616 ^ (i+k)%18446744073709551616=((V%18446744073709551616 ^ (i+k)+x*Bk*18446744073709551616 ^ i) / 18446744073709551616 ^ (i+k)+V / 18446744073709551616 ^ (i+k)%18446744073709551616+x*bk)%18446744073709551616:=by
 have e:V+x*(Bk+18446744073709551616 ^ k*bk+18446744073709551616 ^ (k+1)*R)*18446744073709551616 ^ i=(V%18446744073709551616 ^ (i+k+1)+x*(Bk+18446744073709551616 ^ k*bk)*18446744073709551616 ^ i)+18446744073709551616 ^ (i+k+1)*(V / 18446744073709551616 ^ (i+k+1)+x*R):=by
  have h:=ZW V (18446744073709551616 ^ (i+k+1));have h2:18446744073709551616 ^ (i+k+1)=18446744073709551616 ^ (k+1)*18446744073709551616 ^ i:=by rw[<- Zk]; congr 1; omega
  generalize V / 18446744073709551616 ^ (i+k+1)=q at *;generalize V%18446744073709551616 ^ (i+k+1)=r at *;rw[<- h,h2];grind
 rw[gW e,Ds,Z2 _ _ (aaf (by decide)),ZK]
def He {V x Bk i k:Nat} (hx:x<18446744073709551616) (hB:Bk<18446744073709551616 ^ k):(V%18446744073709551616 ^ (i+k)+x*Bk*18446744073709551616 ^ i) / 18446744073709551616 ^ (i+k)<18446744073709551616:=by
 rw[Ze (aaf (by decide))];have h1:V%18446744073709551616 ^ (i+k)<18446744073709551616 ^ (i+k):=Zm _ (aaf (by decide));have h2:x*Bk<=18446744073709551615*18446744073709551616 ^ k:=ZZ (by omega) (by omega);have h3:x*Bk*18446744073709551616 ^ i<=18446744073709551615*18446744073709551616 ^ (i+k):=by
  have:=Y9 (18446744073709551616 ^ i) h2
  rwa [Zf 18446744073709551615,<- Zk,aa4 k i]at this
 omega
def qb (S:Nat) {L i:Nat} (h:i<L):(dlq S L).getD i 0=((S / 18446744073709551616 ^ i%18446744073709551616:Nat):Int):=by
 induction L with
 | zero=>omega
 | succ L ih=>
  show((dlq S L)++[_]).getD i 0=_;rw[List.getD_eq_getElem?_getD];by_cases hi:i<L
  ·rw[List.getElem?_append_left (by rw[ak]; exact hi),<- List.getD_eq_getElem?_getD,ih hi]
  ·have:i=L:=by omega
   subst this;rw[List.getElem?_append_right (by rw[ak]; exact Zi _),ak,ZF]; rfl
def nL {b:List Int} {k:Nat}:au (b.take (k+1))=au (b.take k)+18446744073709551616 ^ k*(b.getD k 0).toNat:=aJ k
def vO (U V L p:Nat) (h:p<L):(dlq U p++(dlq V L).drop p).set p ((U / 18446744073709551616 ^ p%18446744073709551616:Nat):Int)=dlq U (p+1)++(dlq V L).drop (p+1):=by rw[cV (by rw[ak]; exact h),bf _ _ _ _ _ (by rw[ak])];show _=(dlq U p++[_])++_;rw[Zo]; rfl
def CD (U V L p:Nat) (h:p<L):(dlq U p++(dlq V L).drop p).getD p 0=((V / 18446744073709551616 ^ p%18446744073709551616:Nat):Int):=by rw[cV (by rw[ak]; exact h),bZ (by rw[ak]),qb V h]
def vN (U V L p:Nat) (h:p<=L):(dlq U p++(dlq V L).drop p).length=L:=by simp[ak]; omega
def EB {U L p:Nat} (hU:U<18446744073709551616 ^ p) (h:p<=L) {V:Nat} (hV:V<18446744073709551616 ^ p):dlq U p++(dlq V L).drop p=dlq U L:=by
 induction L with
 | zero=>
  have:p=0:=by omega
  subst this; rfl
 | succ L ih=>
  by_cases hp:p=L+1
  ·subst hp; rw[ZR (by rw[ak]; omega),ZG]
  ·have hpL:p<=L:=by omega
   have e:∀ X,X<18446744073709551616 ^ p->dlq X (L+1)=dlq X L++[0]:=by intro X hX;show dlq X L++[((X / 18446744073709551616 ^ L%18446744073709551616:Nat):Int)]=_;rw[ZA (Zq hX (Zl (by decide) hpL))]; rfl
   rw[e V hV,e U hU,Z8 (by rw[ak]; exact hpL),<- Zo,ih hpL]
def qs {a:List Int} (ha:InWq a) (i:Nat):au (a.take i)<18446744073709551616 ^ i:=aQ ha i
def qq {x y i j:Nat} (hx:x<18446744073709551616 ^ i) (hy:y<18446744073709551616 ^ j):x*y<18446744073709551616 ^ (i+j):=by rw[Zk];exact acp hx hy
def jW (N:Nat) (l:List Int):Prop:=l.length+3<N/\l.length<=1099511627776
def yp {N:Nat} (b:List Int) (hN:b.length<N) (hs:b.length<9223372036854775807) (k:Kz1):uh N b k=k (bS b b.length):=by
 (unfold uh; rw[af]; unfold Pa)
 have key:∀ n,n<=b.length -> ∀ M,n<M->am M (tw N b λUn=>((decide (0<=Un/\Un<=(((List.length b):Nat):Int)))&&(k ((Int.toNat Un) - 0)))) (n:Int)=k (bS b n):=by
  intro n;induction n with
  | zero=>
   intro _ M hM;cases M with
   | zero=>omega
   | succ M=>
    show tw N b _ ((0:Nat):Int) _=_;simp only[tw,bS];rw[Y6 (by omega:¬((0:Nat):Int)>0),show(false==true)=false from rfl,Y7,Y5 (by omega),aac];rfl
  | succ n ih=>
   intro hn M hM;cases M with
   | zero=>omega
   | succ M=>
    show tw N b _ ((n+1:Nat):Int) (am M _)=_;have e:Int.toNat (((n+1:Nat):Int) - 1)=n:=by omega
    have e2:((n+1:Nat):Int) - 1=(n:Int):=by omega
    simp only[tw,e];rw[Y5 (by omega:((n+1:Nat):Int)>0),show(true==true)=true from rfl,Y8,aa Y3,aa Y4,aa (Y5 (by omega)),aa Y3,e2,ih (by omega) M (by omega),mJ];by_cases h0:b.getD n 0=0
    ·have:(b.getD n 0==0)=true:=by simpa using h0
     rw[this,if_pos h0]; rfl
    ·have:(b.getD n 0==0)=false:=by simpa using h0
     rw[this,if_neg h0,Y7,Y5 (by omega),aac];rfl
 exact key b.length (Zi _) N hN
def jp {N:Nat} (b:List Int) (hb:InWq b) (hN:b.length<N) (hs:b.length<9223372036854775807) (k:Kz3) :
  (uh N b λl=>(decide (0+l<=b.length))&&k (List.take l (List.drop 0 b)))=k (ae (au b)):=by
 rw[yp b hN hs,aaB,ur hb];have:=i6 b b.length;rw[Y5 (by omega)]; rfl
def rF {N:Nat} (hN:1000<=N) (n:Nat) (hn:n<18446744073709551616) (k:Kz3):iW N (n:Int) k=k (ae n):=by
 unfold iW xl;have hw:InWq [(n:Int)]:=by intro x hx;simp only[aav,aa_,or_false]at hx;subst hx; omega
 have hv:au [(n:Int)]=n:=by simp only[au]; omega
 have:=jp (N:=N) [(n:Int)] hw (by simp; omega) (by simp) k;rw[hv]at this;exact this
def uV {N:Nat} (l:List Int) (h:l.length<=1099511627776) (k:Kz3):pz N l k=k l:=by unfold pz NZ;rw[ZX,Y5 (by omega),aac]
def lI (N:Nat) (l:List Int) (i:Nat) (hi:i<9223372036854775807) (k:Kz0):wm N l (i:Int) k=k (l.getD i 0):=by
 unfold wm N5;by_cases h:i<l.length
 ·rw[Y5 (by omega:(i:Int)<((l.length:Nat):Int)),Y8,aa Y4,Zb]
 ·rw[Y6 (by omega:¬(i:Int)<((l.length:Nat):Int)),Y7,dJ (by omega)]
def lG (N:Nat) {x y c:Int} {a b d:Nat} (hx:x=(a:Int)) (hy:y=(b:Int)) (hz:c=(d:Int)) (hc:d<=1) (k:Ky2):sQ6 N x y c k=k (((a+b+d)%18446744073709551616:Nat):Int) (((a+b+d) / 18446744073709551616:Nat):Int):=by subst hx hy hz;show(decide (Int.toNat (d:Int)<=1)&&_)=_;rw[Zb,Y5 hc]; rfl
def uU (N:Nat) {x y c:Int} {a b d:Nat} (hx:x=(a:Int)) (hy:y=(b:Int)) (hz:c=(d:Int)) (hc:d<=1) (k:Ky2):sQ8 N x y c k=k (((a+18446744073709551616 - b - d)%18446744073709551616:Nat):Int) (if a<b+d then 1 else 0):=by
 subst hx hy hz;show(decide (Int.toNat (d:Int)<=1)&&_)=_;rw[Zb,Y5 hc];show k _ (cond (decide (a<b+d)) 1 0)=_;by_cases h:a<b+d
 ·rw[Y5 h,if_pos h]; rfl
 ·rw[Y6 h,if_neg h]; rfl
def MU (a b:Nat):imm true (a:Int) (b:Int)=((max a b:Nat):Int):=by
 unfold imm; simp only[Y8];by_cases h:(b:Int)>a
 ·rw[Y5 h,Y8]; omega
 ·rw[Y6 h,Y7]; omega
def KN {N:Nat} (a b:List Int) (ha:InWq a) (hb:InWq b) (hNa:jW N a) (hNb:jW N b) (k:Kz3):u_ N a b k=k (ae (au a+au b)):=by
 (unfold u_; rw[af]; unfold uy)
 obtain⟨a1,a2⟩:=hNa;obtain⟨b1,b2⟩:=hNb;rw[MU]
 let L:=max a.length b.length
 have hLa:a.length<=L:=Nat.le_max_left _ _;have hLb:b.length<=L:=Nat.le_max_right _ _;have hLN:L+3<N:=by simp only[L]; omega
 have hLs:L<=1099511627776:=by simp only[L]; omega
 show(ai .i64 ((L:Int)+1)&&_)=_;have eL:Int.toNat ((L:Int)+1)=L+1:=by omega
 rw[aa Y3,aa (bQ (by omega) (by omega) (by omega) (by omega)),eL]
 let S:=au a+au b
 let T:=λi=>au (a.take i)+au (b.take i)
 refine aF (λi=>(((T i / 18446744073709551616 ^ i:Nat):Int),(i:Int),dlq S i++List.replicate (L+1 - i) 0)) L (by simp[T,au,dlq]) (by omega) (λi hi K=>?_) (λK=>?_)
 ·have hx:=ha.at (i:=i);have hy:=hb.at (i:=i);have hT:T (i+1)=T i+18446744073709551616 ^ i*((a.getD i 0).toNat+(b.getD i 0).toNat):=by simp only[T,aJ,Zn]; omega
  have hq:T (i+1) / 18446744073709551616 ^ i=T i / 18446744073709551616 ^ i+((a.getD i 0).toNat+(b.getD i 0).toNat):=by rw[hT,cJ]
  have hc:T i / 18446744073709551616 ^ i<=1:=by
   have h1:=aQ ha i;have h2:=aQ hb i;have h3:T i<18446744073709551616 ^ i*2:=by simp only[T]; omega
   have:=(Ze (aaf (n:=i) (by decide:0<18446744073709551616))).2 (by rw[Y_]; exact h3:T i<2*18446744073709551616 ^ i);omega
  have hdiv:T (i+1) / 18446744073709551616 ^ (i+1)=T (i+1) / 18446744073709551616 ^ i / 18446744073709551616:=by rw[Zh,Zd]
  have hdig:S / 18446744073709551616 ^ i%18446744073709551616=T (i+1) / 18446744073709551616 ^ i%18446744073709551616:=by obtain⟨R1,h1⟩:=bI a (i+1);obtain⟨R2,h2⟩:=bI b (i+1);refine gW (R:=R1+R2) ?_;simp only[S,T];rw[Zn]; omega
  have hset:=rq S i (L+1) (by omega);have hlen:(dlq S i++List.replicate (L+1 - i) 0).length=L+1:=by simp[ak]; omega
  simp only[lB];rw[Y5 (by omega:(i:Int)<((max a.length b.length:Nat):Int)),Y8,lI N a i (by omega),lI N b i (by omega),lG N (a:=(a.getD i 0).toNat) (b:=(b.getD i 0).toNat) (d:=T i / 18446744073709551616 ^ i) (by omega) (by omega) rfl hc,hlen,aa Y4,aa (Y5 (by omega)),aa Y3,Zb];have e1:(a.getD i 0).toNat+(b.getD i 0).toNat+T i / 18446744073709551616 ^ i=T (i+1) / 18446744073709551616 ^ i:=by rw[hq]; omega
  rw[e1,<- hdig,<- hdiv,hset];rfl
 ·simp only[lB];rw[Y6 (by omega:¬(L:Int)<((max a.length b.length:Nat):Int)),Y7];have hT:T L=S:=by simp only[T,S]; rw[Zt hLa,Zt hLb]
  have hS:S<18446744073709551616 ^ (L+1):=by have h1:=aQ ha L;have h2:=aQ hb L;rw[Zt hLa]at h1;rw[Zt hLb]at h2;rw[Zh];simp only[S]; omega
  have hlen:(dlq S L++List.replicate (L+1 - L) 0).length=L+1:=by simp[ak]
  have hcl:S / 18446744073709551616 ^ L<18446744073709551616:=by rw[Ze (aaf (by decide)),Y_,<- Zh]; exact hS
  have e2:((T L / 18446744073709551616 ^ L:Nat):Int)=((S / 18446744073709551616 ^ L%18446744073709551616:Nat):Int):=by rw[hT,Zg hcl]
  have hset:=rq S L (L+1) (by omega);rw[e2,Zb,hset,hlen,aa Y4,aa (Y5 (by omega)),ZF,ZJ,ZG,
   jp _ (fQ S _) (by rw[ak]; omega) (by rw[ak]; omega),kw hS]
def lH {N:Nat} (a b:List Int) (ha:InWq a) (hb:InWq b) (hle:au b<=au a) (hN:jW N a) (k:Kz3):wn N a b k=k (ae (au a - au b)):=by
 obtain⟨hN1,hN2⟩:=hN
 (unfold wn; rw[af]; unfold Jp)
 rw[aa (bQ (by omega) (by omega) (by omega) (by omega)),Zb]
 let D:=au a - au b
 let bo:=λi=>if au (a.take i)<au (b.take i)then(1:Nat)else 0
 refine aF (λi=>(((bo i:Nat):Int),(i:Int),dlq D i++List.replicate (a.length - i) 0)) a.length (by simp[bo,au,dlq]) (by omega) (λi hi K=>?_) (λK=>?_)
 ·have hx:=ha.at (i:=i);have hy:=hb.at (i:=i);have hA:=aJ (m:=a) i;have hB:=aJ (m:=b) i;have hAl:=aQ ha i;have hBl:=aQ hb i;have hset:=rq D i a.length (by omega);have hl:(dlq D i++List.replicate (a.length - i) 0).length=a.length:=by simp[ak]; omega
  obtain⟨R1,h1⟩:=bI a (i+1);obtain⟨R2,h2⟩:=bI b (i+1);have hD:(D:Int)=(au a:Int) - (au b:Int):=by simp only[D]; omega
  have hPs:18446744073709551616 ^ (i+1)=18446744073709551616 ^ i*18446744073709551616:=Zh ..;have hbo:bo i<=1:=by simp only[bo]; split <;> omega
  have hbs:bo (i+1)=if (a.getD i 0).toNat<(b.getD i 0).toNat+bo i then 1 else 0:=by simp only[bo,hA,hB];exact mG _ _ _ _ _ hAl hBl
  have hq:((D / 18446744073709551616 ^ i:Nat):Int)=((a.getD i 0).toNat:Int) - ((b.getD i 0).toNat:Int) - (bo i:Int)+18446744073709551616*((R1:Int) - (R2:Int)):=by rw[hA,hPs]at h1;rw[hB,hPs]at h2;exact zY hAl hBl rfl h1 h2 hD
  have hdig:((D / 18446744073709551616 ^ i%18446744073709551616:Nat):Int)=(((a.getD i 0).toNat:Int) - ((b.getD i 0).toNat:Int) - (bo i:Int))%18446744073709551616:=by rw[Int.natCast_emod,hq];exact Int.add_mul_emod_self_left _ _ _
  simp only[kl];rw[Y5 (by omega:(i:Int)<a.length),Y8,aa Y4,lI N b i (by omega),Zb,uU N (a:=(a.getD i 0).toNat) (b:=(b.getD i 0).toNat) (d:=bo i) (by omega) (by omega) rfl hbo,hl,aa Y4,aa (Y5 (by omega)),aa Y3];have e1:(((((a.getD i 0).toNat+18446744073709551616 - (b.getD i 0).toNat - bo i)%18446744073709551616:Nat)):Int)=((D / 18446744073709551616 ^ i%18446744073709551616:Nat):Int):=by rw[hdig]; omega
  have e2:(if (a.getD i 0).toNat<(b.getD i 0).toNat+bo i then(1:Int)else 0)=((bo (i+1):Nat):Int):=by rw[hbs]; split <;> rfl
  rw[e1,e2,hset];rfl
 ·simp only[kl];rw[Y6 (by omega:¬(a.length:Int)<a.length),Y7,ZF,ZJ,ZG];have hS:D<18446744073709551616 ^ a.length:=by have:=gO ha; simp only[D]; omega
  rw[jp _ (fQ D _) (by rw[ak]; omega) (by rw[ak]; omega),kw hS]
def zr {N:Nat} (a b:List Int) (ha:InWq a) (hb:InWq b) (hl:a.length=b.length) (hs:a.length<9223372036854775807) (k:Kz0) :
  ∀ n,n<=a.length -> ∀ M,n<M->am M (tn N a b (λt4=>k t4) (k 0)) ((n:Int) - 1)=k (dr (au (a.take n)) (au (b.take n))):=by
 intro n;induction n with
 | zero=>
  intro _ M hM;cases M with
  | zero=>omega
  | succ M=>
   show tn N a b _ _ ((0:Nat) - 1:Int) _=_;simp[tn,dr,au]
 | succ n ih=>
  intro hn M hM;cases M with
  | zero=>omega
  | succ M=>
   show tn N a b _ _ (((n+1:Nat):Int) - 1) (am M _)=_;have e:(((n+1:Nat):Int) - 1)=(n:Int):=by omega
   have hx:=ha.at (i:=n);have hy:=hb.at (i:=n);have hA:=aJ (m:=a) n;have hB:=aJ (m:=b) n;have hAl:=aQ ha n;have hBl:=aQ hb n;rw[e];simp only[tn,Zb];rw[hA,hB,Y5 (by omega:(n:Int)>=0),Y8,aa Y4,aa Y4,aa Y4,aa Y4,aa Y3,ih (by omega) M (by omega)];by_cases h0:a.getD n 0=b.getD n 0
   ·rw[show(a.getD n 0 != b.getD n 0)=false by simpa using h0,Y7,h0,Co]
   ·rw[show(a.getD n 0 != b.getD n 0)=true by simpa using h0,Y8];by_cases h1:a.getD n 0<b.getD n 0
    ·rw[Y5 h1,Y8,JX hAl (by omega)]
    ·rw[Y6 h1,Y7,JW hBl (by omega)]
def gY {N:Nat} (x y:Nat) (hx:jW N (ae x)) (hy:jW N (ae y)) (k:Kz0):AG N (ae x) (ae y) k=k (dr x y):=by
 (unfold AG; rw[af]; unfold I8)
 obtain⟨x1,x2⟩:=hx;obtain⟨y1,y2⟩:=hy;by_cases h:(ae x).length=(ae y).length
 ·have e:(((ae x).length:Int) != (ae y).length)=false:=by rw[h]; simp
  rw[e,Y7,aa Y3,zr (ae x) (ae y) (aW x) (aW y) h (by omega) k _ (Zi _) N (by omega),ZO,h,ZO,aC,aC]
 ·have e:(((ae x).length:Int) != (ae y).length)=true:=by simp; omega
  rw[e,Y8];by_cases h1:(ae x).length<(ae y).length
  ·rw[Y5 (by omega),Y8];have:x<y:=by
    rcases Z6 x y with h2 | h2
    ·exact h2
    ·have:=cZ h2; omega
   unfold dr; rw[if_pos this]
  ·rw[Y6 (by omega),Y7];have:¬ x<=y:=λh2=>by have:=cZ h2; omega
   unfold dr; rw[if_neg (by omega),if_neg (by omega)]
def qi (z:Int) (k:Ky3):Bool:=k (decide (z<0)) (ae z.natAbs)
def nx (n:Nat):decide (((ae n).length:Int)>0)=decide (n ≠ 0):=by
 by_cases h:n=0
 ·subst h; rw[bA]; simp
 ·rw[bT h,ZI,Y5 (by omega),Y5 h]
def DC (g:Bool) (n:Nat) (k:Ky3):k (sg g n) (ae n)=qi (aT g n) k:=by
 unfold qi aT sg;cases g
 ·simp only[ZU,ZE,abK,ZV];rw[Y6 (by omega)]
 ·simp only[aaD,aac,abo,ZV];congr 1;by_cases h:n=0
  ·subst h; rfl
  ·rw[Y5 h,Y5 (by omega)]
def K0 (g:Bool) (n:Nat) (k:Ky3):cond (g==true) (k (decide (((ae n).length:Int)>0)) (ae n)) (k false (ae n))=qi (aT g n) k:=by rw[nx,<- DC];cases g <;> rfl
def E8 {N:Nat} (g b:Bool) (n:Nat) (k:Ky3):BG N g (ae n) b (λcr=>k cr (ae n))=qi (aT g n) k:=K0 g n k
def ma {N:Nat} (g b:Bool) (l:List Int) (n:Nat) (k:Ky3):Ix N g (ae n) b l (λcr=>k cr (ae n))=qi (aT g n) k:=K0 g n k
def FM (g1 g2:Bool) (n1 n2:Nat) (k:Ky3) :
  cond (g1==g2) (qi (aT g2 (n1+n2)) k) (cond (decide (dr n1 n2>=0)) (qi (aT g1 (n1 - n2)) k) (qi (aT g2 (n2 - n1)) k))=qi (aT g1 n1+aT g2 n2) k:=by
 rw[rk];have key:∀ a b:Int,a=b->qi a k=qi b k:=λa b h=>by rw[h]
 cases g1 <;> cases g2 <;> simp only[aT] <;> by_cases h:n2<=n1 <;> simp only[h,abX,acd,Y8,Y7,aaV,ZU,aaD,ZE,(by decide:(false==true)=false),(by decide:(true==false)=false)] <;> refine key _ _ ?_ <;> omega
def Cb (n:Nat):aA .and .u64 (n:Int) 4294967295=((n%4294967296:Nat):Int):=by
 have h:=jg n 32 (by decide);have e1:((2 ^ 32 - 1:Nat):Int)=4294967295:=by decide
 have e2:(2:Nat) ^ 32=4294967296:=by decide
 rw[e1,e2]at h;exact h
def Q0 (p00 p10 p01 p11:Nat):(p11*18446744073709551616+(p10+p01)*4294967296+p00) / 18446744073709551616=p11+(p10+p00 / 4294967296) / 4294967296+((p10+p00 / 4294967296)%4294967296+p01) / 4294967296:=by omega
def Ib (x y:Nat):x*y=(x / 4294967296)*(y / 4294967296)*18446744073709551616+((x / 4294967296)*(y%4294967296)+(x%4294967296)*(y / 4294967296))*4294967296+(x%4294967296)*(y%4294967296):=by have hx:=ZW x 4294967296;have hy:=ZW y 4294967296;generalize x / 4294967296=a at *;generalize x%4294967296=b at *;generalize y / 4294967296=c at *;generalize y%4294967296=d at *;subst hx hy;grind
def uS (N:Nat) {x y:Nat} (hx:x<18446744073709551616) (hy:y<18446744073709551616) (k:Ky2):DH N (x:Int) (y:Int) k=k ((x*y / 18446744073709551616:Nat):Int) ((x*y%18446744073709551616:Nat):Int):=by
 (unfold DH; rw[af]; unfold I4)
 have fx:Int.fdiv (x:Int) (2 ^ 32)=((x / 4294967296:Nat):Int):=by rw[jj]; rfl
 have fy:Int.fdiv (y:Int) (2 ^ 32)=((y / 4294967296:Nat):Int):=by rw[jj]; rfl
 rw[Cb,Cb,fx,fy];have hs:=Ib x y;have b0:x / 4294967296<=4294967295:=by omega
 have b1:x%4294967296<=4294967295:=by omega
 have b2:y / 4294967296<=4294967295:=by omega
 have b3:y%4294967296<=4294967295:=by omega
 have m00:=ZZ b1 b3;have m10:=ZZ b0 b3;have m01:=ZZ b1 b2;have m11:=ZZ b0 b2;have hh:=Q0 ((x%4294967296)*(y%4294967296)) ((x / 4294967296)*(y%4294967296)) ((x%4294967296)*(y / 4294967296)) ((x / 4294967296)*(y / 4294967296));rw[<- hs]at hh;rw[<- Zp,<- Zp,<- Zp,<- Zp,<- Zp];have hlt:x*y<=18446744073709551615*18446744073709551615:=ZZ (by omega) (by omega);generalize x*y=P at *;generalize (x%4294967296)*(y%4294967296)=p00 at *;generalize (x / 4294967296)*(y%4294967296)=p10 at *;generalize (x%4294967296)*(y / 4294967296)=p01 at *;generalize (x / 4294967296)*(y / 4294967296)=p11 at *;have t1:IntKind.wrap .u64 (IntKind.wrap .u64 (p10:Int)+Int.fdiv (IntKind.wrap .u64 (p00:Int)) (2 ^ 32))=((p10+p00 / 4294967296:Nat):Int):=by simp only[aq,jj]; omega
 rw[t1,Cb];congr 1
 ·rw[hh];simp only[aq,jj];omega
def yo (N:Nat) {x y c d:Int} {a b e f:Nat} (hx:x=(a:Int)) (hy:y=(b:Int)) (hc:c=(e:Int)) (hd:d=(f:Int)) (ha:a<18446744073709551616) (hb:b<18446744073709551616) (he:e<18446744073709551616) (hf:f<18446744073709551616) (k:Ky2) :
  ka N x y c d k=k (((a*b+e+f) / 18446744073709551616:Nat):Int) (((a*b+e+f)%18446744073709551616:Nat):Int):=by
 subst hx hy hc hd
 (unfold ka; rw[af]; unfold sr)
 have hlt:a*b<=18446744073709551615*18446744073709551615:=ZZ (by omega) (by omega);rw[uS N ha hb];generalize a*b=P at *;rw[lG N (c:=0) (a:=P%18446744073709551616) (b:=e) (d:=0) rfl rfl rfl (by omega),lG N (c:=0) (a:=(P%18446744073709551616+e+0)%18446744073709551616) (b:=f) (d:=0) rfl rfl rfl (by omega)];congr 1
 ·simp only[aq]; omega
 ·omega
def E3 {N:Nat} (a b:List Int) (ha:InWq a) (hb:InWq b) (hN:a.length+b.length+2<N) (hs:a.length+b.length<=1099511627776) (k:Kz3):wP N a b k=k (ae (au a*au b)):=by
  (unfold wP; rw[af]; unfold PD)
  by_cases a0:a.length=0
  · have:a=[]:=List.length_eq_zero_iff.1 a0
    subst this;show k []=k (ae (0*au b));rw[aaq,bA]
  by_cases b0:b.length=0
  · have:b=[]:=List.length_eq_zero_iff.1 b0
    subst this;have e:(((a.length:Nat):Int)==0)=false:=by simp; intro h; subst h; simp at a0
    rw[e,show(false==false)=true from rfl,Y8];show k []=k (ae (au a*0));rw[aar,bA]
  have e0:(((a.length:Nat):Int)==0)=false:=by simp; intro h; subst h; simp at a0
  have e1:(((b.length:Nat):Int)==0)=false:=by simp; intro h; subst h; simp at b0
  rw[e0,e1,show(false==false)=true from rfl,Y8,Y7];have eL:Int.toNat (((a.length:Nat):Int)+((b.length:Nat):Int))=a.length+b.length:=by omega
  rw[aa Y3,aa (bQ (by omega) (by omega) (by omega) (by omega)),eL]
  let L:=a.length+b.length
  let B:=au b
  have hB:B<18446744073709551616 ^ b.length:=gO hb;refine aF (λi=>((i:Int),dlq (au (a.take i)*B) L)) a.length ?_ (by omega) (λi hi K=>?_) (λK=>?_)
  · show((0:Int),List.replicate L (0:Int))=(((0:Nat):Int),dlq (au (a.take 0)*B) L)
    have:=qe L 0;rw[aar]at this;rw[abp,show au []=0 from rfl,aaq,this]; rfl
  · simp only[jG]
    rw[Y5 (by omega:(i:Int)<a.length),Y8,aa Y4,Zb];have hx:=ha.at (i:=i)
    let V:=au (a.take i)*B
    let x:=(a.getD i 0).toNat
    let U:=au (a.take (i+1))*B
    have hU:U=V+x*B*18446744073709551616 ^ i:=by simp only[U,V,x];rw[nL];grind
    have hV:V<18446744073709551616 ^ (i+b.length):=qq (qs ha i) hB;have hUl:U<18446744073709551616 ^ (i+1+b.length):=qq (qs ha (i+1)) hB
    let c:=λj=>(V%18446744073709551616 ^ (i+j)+x*au (b.take j)*18446744073709551616 ^ i) / 18446744073709551616 ^ (i+j)
    refine aF (λj=>(((c j:Nat):Int),(j:Int),dlq U (i+j)++(dlq V L).drop (i+j))) b.length ?_ (by omega) (λj hj K'=>?_) (λK'=>?_)
    · show((0:Int),(0:Int),dlq V L)=_
      have h0:c 0=0:=by simp only[c,abp,show au []=0 from rfl,aar,aaq,ZD];exact ZA (Zm _ (aaf (by decide)))
      have hlow:dlq U i=dlq V i:=by
        have:∀ n,n<=i->dlq U n=dlq V n:=by
          intro n;induction n with
          | zero=>intro _; rfl
          | succ n ih=>
            intro hn;show dlq U n++[_]=dlq V n++[_];rw[ih (by omega)];congr 3;have:U=V+18446744073709551616 ^ (n+1)*(x*B*18446744073709551616 ^ (i - (n+1))):=by rw[hU,ZB,<- Zk,show n+1+(i - (n+1))=i by omega]
            exact gW this
        exact this i (Zi _)
      have hsp:dlq V i++(dlq V L).drop i=dlq V L:=by
        have:∀ n,i<=n->dlq V i++(dlq V n).drop i=dlq V n:=by
          intro n;induction n with
          | zero=>intro h; have:i=0:=(by omega); subst this; rfl
          | succ n ih=>
            intro h;by_cases hn:i=n+1
            · subst hn; rw[ZR (by rw[ak]; omega),ZG]
            · show dlq V i++(dlq V n++[_]).drop i=dlq V n++[_]
              rw[Z8 (by rw[ak]; omega),<- Zo,ih (by omega)]
        exact this L (by simp only[L]; omega)
      rw[h0,ZD,hlow,hsp]; rfl
    · have hy:=hb.at (i:=j)
      have hp:i+j<L:=by simp only[L]; omega
      have hlen:=vN U V L (i+j) (by omega);have hget:=CD U V L (i+j) hp;have hset:=vO U V L (i+j) hp;have hc:=He (V:=V) (x:=x) (i:=i) (k:=j) (Bk:=au (b.take j)) (by simp only[x]; omega) (qs hb j);have hstep:=Ck V x (au (b.take j)) (b.getD j 0).toNat i j;obtain⟨R,hR⟩:=bI b (j+1);have hdig:=A0 V x (au (b.take j)) (b.getD j 0).toNat i j R;rw[<- nL]at hstep hdig;rw[<- hR]at hdig;have hUe:V+x*au b*18446744073709551616 ^ i=U:=hU.symm;rw[hUe]at hdig;have hxy:x*(b.getD j 0).toNat<=18446744073709551615*18446744073709551615:=ZZ (by simp only[x]; omega) (by omega);have eidx:Int.toNat ((i:Int)+(j:Int))=i+j:=by omega
      have hcj:∀ n,c n=(V%18446744073709551616 ^ (i+n)+x*au (b.take n)*18446744073709551616 ^ i) / 18446744073709551616 ^ (i+n):=λ_=>rfl
      have hax:a.getD i 0=(x:Int):=by simp only[x]; omega
      have hby:b.getD j 0=((b.getD j 0).toNat:Int):=by omega
      have ec1:c (j+1)=(c j+V / 18446744073709551616 ^ (i+j)%18446744073709551616+x*(b.getD j 0).toNat) / 18446744073709551616:=hstep;have ed:U / 18446744073709551616 ^ (i+j)%18446744073709551616=(c j+V / 18446744073709551616 ^ (i+j)%18446744073709551616+x*(b.getD j 0).toNat)%18446744073709551616:=hdig;have hcl:c j<18446744073709551616:=hc;rw[ed]at hset;have vlt:V / 18446744073709551616 ^ (i+j)%18446744073709551616<18446744073709551616:=Zm _ (by decide);have hxl:x<18446744073709551616:=by simp only[x]; omega
      have hyl:(b.getD j 0).toNat<18446744073709551616:=by omega
      simp only[jH,Zb,eidx,hlen];rw[Y5 (by omega:(j:Int)<((b.length:Nat):Int)),Y8,aa Y4,aa Y3,aa Y3,aa Y4,aa (Y5 (by omega)),yo N hax hby hget rfl hxl hyl vlt hcl,aa Y4,aa (Y5 (by omega)),aa Y3];rw[show i+(j+1)=i+j+1 by omega,<- hset];have ez:x*(b.getD j 0).toNat+V / 18446744073709551616 ^ (i+j)%18446744073709551616+c j=c j+V / 18446744073709551616 ^ (i+j)%18446744073709551616+x*(b.getD j 0).toNat:=by omega
      rw[ez,ec1];rfl
    · simp only[jH]
      rw[Y6 (by omega:¬(b.length:Int)<b.length),Y7];have hlen:=vN U V L (i+b.length) (by simp only[L]; omega);have hset:=vO U V L (i+b.length) (by simp only[L]; omega);have eidx:Int.toNat ((i:Int)+(b.length:Int))=i+b.length:=by omega
      have hLe:i+b.length<L:=by simp only[L]; omega
      have hc:c b.length=U / 18446744073709551616 ^ (i+b.length):=by simp only[c];rw[ZO,Zg hV,hU]
      have hcl:U / 18446744073709551616 ^ (i+b.length)<18446744073709551616:=by
        rw[Ze (aaf (by decide))];have:i+1+b.length=i+b.length+1:=by omega
        rw[this,Zh]at hUl;omega
      have ew:((c b.length:Nat):Int)=((U / 18446744073709551616 ^ (i+b.length)%18446744073709551616:Nat):Int):=by rw[hc,Zg hcl]
      have hfin:=EB (U:=U) (V:=V) (L:=L) (p:=i+b.length+1) (by rw[show i+b.length+1=i+1+b.length by omega]; exact hUl) (by omega) (Zq hV (Zl (by decide) (by omega)));rw[aa Y3,eidx,hlen,aa Y4,aa (Y5 (by omega)),aa Y3,ew,hset,hfin];rfl
  · simp only[jG]
    rw[Y6 (by omega:¬(a.length:Int)<a.length),Y7,ZO,jp _ (fQ _ _) (by rw[ak]; simp only[L]; omega) (by rw[ak]; simp only[L]; omega)];rw[kw (qq (gO ha) hB)]
def BC (n:Nat):2 ^ n=18446744073709551616 ^ (n / 64)*2 ^ (n%64):=by
 have e:(18446744073709551616:Nat)=2 ^ 64:=by decide
 rw[e,<- ab6,<- Zk];congr 1; omega
def aZ (i:Nat):0<18446744073709551616 ^ i:=aaf (by decide)
def HR {N:Nat} (m:List Int) (hm:InWq m) (n:Nat) (hn:n<4294967296) (hN:m.length+n / 64+4<N) (hs:m.length<=1099511627776) (k:Kz3):th N m n k=k (ae (au m*2 ^ n)):=by
 (unfold th; rw[af]; unfold su)
 by_cases h0:m.length=0
 ·have:m=[]:=List.length_eq_zero_iff.1 h0;subst this;show k []=k (ae (0*2 ^ n));rw[aaq,bA]
 ·have e0:((m.length:Int)==0)=false:=by simp; intro h; subst h; simp at h0
  have ew:IntKind.wrap .u64 (Int.tdiv (n:Int) 64)=((n / 64:Nat):Int):=by rw[aq,Z_ (by omega)]; omega
  have es:Int.tmod (n:Int) 64=((n%64:Nat):Int):=by rw[Z1 (by omega)]; rfl
  rw[e0,Y7,ew,es];have hw6:n / 64<67108864:=by omega
  generalize hw:n / 64=w at *;generalize hsh:n%64=s at *;have hs32:s<64:=by omega
  have hp2:2 ^ n=18446744073709551616 ^ w*2 ^ s:=by rw[BC,hw,hsh]
  have hs0:0<2 ^ s:=Zj s;have hs1:2 ^ s*2 ^ (64 - s)=18446744073709551616:=by rw[<- Zk,show s+(64 - s)=64 by omega]
  have elen:Int.toNat (((w:Nat):Int)+(m.length:Int)+1)=w+m.length+1:=by omega
  rw[aa Y3,aa Y3,aa Y3,aa (bQ (by omega) (by omega) (by omega) (by omega)),elen]
  let V:=au m*2 ^ n
  let X:=au m*2 ^ s
  have hVX:V=18446744073709551616 ^ w*X:=by simp only[V,X]; rw[hp2,ZB]
  let T:=λi=>au (m.take i)*2 ^ s
  let c:=λi=>T i / 18446744073709551616 ^ i
  have hcl:∀ i,c i<2 ^ s:=by intro i;simp only[c,T];rw[Ze (aZ i),Y_];exact aag (aQ hm i) hs0
  refine aF (λi=>((i:Int),dlq V (w+i)++((c i:Nat):Int)::List.replicate (m.length - i) 0)) m.length ?_ (by omega) (λi hi K=>?_) (λK=>?_)
  ·congr 1;show List.replicate (w+m.length+1) (0:Int)=dlq V w++((c 0:Nat):Int)::List.replicate m.length 0;rw[hVX,qe];have hc0:c 0=0:=by simp[c,T,au]
   rw[hc0];have:w+m.length+1=w+(m.length+1):=by omega
   rw[this,<- aaN,ZQ]; rfl
  ·have hx:=hm.at (i:=i);have hT:T (i+1)=T i+18446744073709551616 ^ i*((m.getD i 0).toNat*2 ^ s):=by simp only[T,aJ,Zw,Zf]
   have hq:T (i+1) / 18446744073709551616 ^ i=c i+(m.getD i 0).toNat*2 ^ s:=by rw[hT,cJ]
   have hci:c i<2 ^ s:=hcl i;have hc1:c (i+1)=(c i+(m.getD i 0).toNat*2 ^ s) / 18446744073709551616:=by rw[<- hq]; simp only[c]; rw[Zh,Zd]
   have hdig:V / 18446744073709551616 ^ (w+i)%18446744073709551616=(c i+(m.getD i 0).toNat*2 ^ s)%18446744073709551616:=by rw[<- hq,hVX,Zk,<- Zd,ZH _ (aZ w)];obtain⟨R,hR⟩:=bI m (i+1);refine gW (R:=R*2 ^ s) ?_;simp only[X,T];rw[hR,Zw,Zf]
   have hrep:List.replicate (m.length - i) (0:Int)=0::List.replicate (m.length - (i+1)) 0:=by rw[show m.length - i=(m.length - (i+1))+1 by omega,ZQ]
   have hdl:=ak V (w+i);have ei:Int.toNat ((w:Int)+(i:Int))=w+i:=by omega
   have ei1:Int.toNat ((w:Int)+(i:Int)+1)=w+i+1:=by omega
   have emin:min s 64=s:=by omega
   have e64:min (Int.toNat (IntKind.wrap .u64 (64 - (s:Int)))) 64=64 - s:=by rw[aq]; omega
   simp only[dT,Zb,ei,ei1,emin,e64];rw[hrep,bZ hdl.symm,bf _ _ _ _ _ hdl.symm];have hmx:m.getD i 0=(((m.getD i 0).toNat:Nat):Int):=by omega
   rw[hmx];generalize hxx:(m.getD i 0).toNat=x at *;have hx32:x<18446744073709551616:=by omega
   have hlow:x*2 ^ s%18446744073709551616=2 ^ s*(x%2 ^ (64 - s)):=by
    have e:x*2 ^ s%(2 ^ s*2 ^ (64 - s))=2 ^ s*(x%2 ^ (64 - s)):=by rw[Y_ x]; exact aaY _ _ _
    rwa [hs1]at e
   have hsum:2 ^ s*(x%2 ^ (64 - s))+c i<18446744073709551616:=by have h1:x%2 ^ (64 - s)+1<=2 ^ (64 - s):=Zm _ (Zj _);have h2:=Zc (2 ^ s) h1;rw[hs1,Zn]at h2;omega
   have epw:(x:Int)*2 ^ s=((x*2 ^ s:Nat):Int):=by rw[Zp,aab]; rfl
   have eor:aA .or .u64 ((c i:Nat):Int) (IntKind.wrap .u64 ((x:Int)*2 ^ s))=((V / 18446744073709551616 ^ (w+i)%18446744073709551616:Nat):Int):=by
    have e1:IntKind.wrap .u64 ((x*2 ^ s:Nat):Int)=((2 ^ s*(x%2 ^ (64 - s)):Nat):Int):=by rw[<- hlow,aq]; omega
    rw[epw,e1,cB _ _ s hci hsum,hdig];omega
   have ehi:Int.fdiv (x:Int) (2 ^ (64 - s))=((c (i+1):Nat):Int):=by
    have e2:(2:Int) ^ (64 - s)=((2 ^ (64 - s):Nat):Int):=by rw[aab]; rfl
    rw[e2,js,hc1];have:(c i+x*2 ^ s) / 18446744073709551616=x / 2 ^ (64 - s):=by rw[<- hs1,<- Zd,Y_ x,Z2 _ _ hs0,ZA hci,Zx]
    rw[this]
   rw[eor,ehi];have hl1:∀(a b:Int) (ys:List Int),(dlq V (w+i)++a::b::ys).length=w+i+2+ys.length:=by intro a b ys; simp[hdl]; omega
   have hset2:(dlq V (w+i)++((V / 18446744073709551616 ^ (w+i)%18446744073709551616:Nat):Int)::0::List.replicate (m.length - (i+1)) 0).set (w+i+1) ((c (i+1):Nat):Int)=dlq V (w+(i+1))++((c (i+1):Nat):Int)::List.replicate (m.length - (i+1)) 0:=by
    have:dlq V (w+i)++((V / 18446744073709551616 ^ (w+i)%18446744073709551616:Nat):Int)::0::List.replicate (m.length - (i+1)) 0=dlq V (w+(i+1))++0::List.replicate (m.length - (i+1)) 0:=by rw[<- ZK,dlq]; simp
    rw[this];exact bf _ _ _ _ _ (by rw[ak]; omega)
   rw[hset2,hl1,hl1];simp only[aau];rw[Y5 (by omega:(i:Int)<((m.length:Nat):Int)),Y8,aa Y4,aa Y3,aa Y4,aa (Y5 (by omega)),aa (Y5 (by omega)),aa Y4,aa (Y5 (by omega)),aa Y3,aa Y3,aa (Y5 (by rw[aq]; omega)),aa Y4,aa (Y5 (by omega)),aa Y3];rfl
  ·simp only[dT];rw[Y6 (by omega:¬(m.length:Int)<m.length),Y7,ZF,ZJ];have hV:V<18446744073709551616 ^ (w+m.length+1):=by
    have h1:=gO hm;simp only[V];rw[hp2,Zh,Zk,ZB,Zf];refine aag ?_ (aZ w);have hs2:2 ^ s<=18446744073709551616:=by rw[<- hs1]; exact Z4 _ (Zj _)
    exact ZP h1 hs2 (by decide)
   have hT:T m.length=X:=by simp only[T,X]; rw[ZO]
   have hend:dlq V (w+m.length)++[((c m.length:Nat):Int)]=dlq V (w+m.length+1):=by
    rw[dlq];have:c m.length=V / 18446744073709551616 ^ (w+m.length)%18446744073709551616:=by
     have hX:V / 18446744073709551616 ^ (w+m.length)=X / 18446744073709551616 ^ m.length:=by rw[hVX,Zk,<- Zd,ZH _ (aZ w)]
     have h2:=hcl m.length;have hs2:2 ^ s<=18446744073709551616:=by rw[<- hs1]; exact Z4 _ (Zj _)
     rw[hX,<- hT];exact(Zg (by show c m.length<_; omega)).symm
    rw[this]
   rw[hend,jp _ (fQ V _) (by rw[ak]; omega) (by rw[ak]; omega),kw hV]
def lR:∀(i V:Nat),(ae V).getD i 0=((V / 18446744073709551616 ^ i%18446744073709551616:Nat):Int)
 | i,V=>by
  by_cases h:V=0
  ·subst h; rw[bA]; simp
  ·rw[bT h];cases i with
   | zero=>simp
   | succ i=>
    show(ae (V / 18446744073709551616)).getD i 0=_;rw[lR i (V / 18446744073709551616),Zh,Y_,<- Zd]
def rz {l:List Int} {n i:Nat} (h:i<n):(l.take n).getD i 0=l.getD i 0:=by rw[List.getD_eq_getElem?_getD,List.getD_eq_getElem?_getD,List.getElem?_take,if_pos h]
def xH {m:List Int} (hm:InWq m) (j:Nat):∃ R,au m / 18446744073709551616 ^ j=(m.getD j 0).toNat+18446744073709551616*(m.getD (j+1) 0).toNat+18446744073709551616*18446744073709551616*R:=by
 obtain⟨R,hR⟩:=bI m (j+2);refine⟨R,?_⟩;rw[hR,aJ,aJ];simp only[Zh];have e:au (m.take j)+18446744073709551616 ^ j*(m.getD j 0).toNat+18446744073709551616 ^ j*18446744073709551616*(m.getD (j+1) 0).toNat+18446744073709551616 ^ j*18446744073709551616*18446744073709551616*R
   = au (m.take j)+18446744073709551616 ^ j*((m.getD j 0).toNat+18446744073709551616*(m.getD (j+1) 0).toNat+18446744073709551616*18446744073709551616*R):=by
  rw[Zn,Zn,Zf,Zf,Zf,Zf]; omega
 rw[e,cJ,ZA (aQ hm j),Zx]
def AN {x y s:Nat} (hs:s<64) (hx:x<18446744073709551616) (hy:y<18446744073709551616):aA .or .u64 (Int.fdiv (x:Int) (2 ^ s)) (IntKind.wrap .u64 ((y:Int)*2 ^ (64 - s)))=(((x+18446744073709551616*y) / 2 ^ s%18446744073709551616:Nat):Int):=by
 have hs0:0<2 ^ s:=Zj s;have hs1:2 ^ s*2 ^ (64 - s)=18446744073709551616:=by rw[<- Zk,show s+(64 - s)=64 by omega]
 have e1:Int.fdiv (x:Int) (2 ^ s)=((x / 2 ^ s:Nat):Int):=by
  have e2:(2:Int) ^ s=((2 ^ s:Nat):Int):=by rw[aab]; rfl
  rw[e2,js]
 have e3:(y:Int)*2 ^ (64 - s)=((y*2 ^ (64 - s):Nat):Int):=by rw[Zp,aab]; rfl
 have hlow:y*2 ^ (64 - s)%18446744073709551616=2 ^ (64 - s)*(y%2 ^ s):=by
  have e:2 ^ (64 - s)*y%(2 ^ (64 - s)*2 ^ s)=2 ^ (64 - s)*(y%2 ^ s):=aaY _ _ _
  rwa [Y_ (2 ^ (64 - s)) (2 ^ s),hs1,Y_ (2 ^ (64 - s)) y]at e
 have e4:IntKind.wrap .u64 ((y*2 ^ (64 - s):Nat):Int)=((2 ^ (64 - s)*(y%2 ^ s):Nat):Int):=by rw[<- hlow,aq]; omega
 have hxl:x / 2 ^ s<2 ^ (64 - s):=by rw[Ze hs0,Y_,hs1]; exact hx
 have hsum:2 ^ (64 - s)*(y%2 ^ s)+x / 2 ^ s<18446744073709551616:=by have h1:y%2 ^ s+1<=2 ^ s:=Zm _ hs0;have h2:=Zc (2 ^ (64 - s)) h1;rw[Y_ (2 ^ (64 - s)) (2 ^ s),hs1,Zn]at h2;omega
 rw[e1,e3,e4,cB _ _ (64 - s) hxl hsum];congr 1;have e5:(x+18446744073709551616*y) / 2 ^ s=x / 2 ^ s+2 ^ (64 - s)*y:=by rw[<- hs1,Zf,Z2 _ _ hs0]
 rw[e5];have e6:y=y%2 ^ s+2 ^ s*(y / 2 ^ s):=(abh _ _).symm;have e7:2 ^ (64 - s)*y=2 ^ (64 - s)*(y%2 ^ s)+18446744073709551616*(y / 2 ^ s):=by
  conv=>lhs; rw[e6]
  rw[Zn,<- Zf,Y_ (2 ^ (64 - s)) (2 ^ s),hs1]
 rw[e7,<- ZK,aao,Zg (a:=x / 2 ^ s+2 ^ (64 - s)*(y%2 ^ s)) (b:=18446744073709551616) (by rw[aa4]; exact hsum)];exact aa4 _ _
def yD:∀ n:Nat,n ≠ 0 -> ∃ t c,n=2 ^ t*(2*c+1):=by
 intro n;induction n using Nat.strongRecOn with
 | ind n ih=>
  intro h0;by_cases h:n%2=0
  ·obtain⟨t,c,hc⟩:=ih (n / 2) (by omega) (by omega);exact⟨t+1,c,by rw[Zh,Y_ (2 ^ t) 2,Zf,<- hc]; omega⟩
  ·exact⟨0,n / 2,by rw[aaR,aaC]; omega⟩
def rX {a b:Nat} (ha:a<18446744073709551616) (hb:b<18446744073709551616):aA .and .u64 (a:Int) (b:Int)=((a &&& b:Nat):Int):=by
 unfold aA pk;simp only[ZT];have h64:(2:Nat) ^ 64=18446744073709551616:=by decide
 have e:((BitVec.ofInt (IntKind.bits .u64) (a:Int)) &&& (BitVec.ofInt (IntKind.bits .u64) (b:Int))).toNat=a &&& b:=by show((BitVec.ofInt 64 (a:Int)) &&& (BitVec.ofInt 64 (b:Int))).toNat=_;rw[abQ,aae,aae,aam,aam,Zg (by omega),Zg (by omega)]
 have hl:a &&& b<18446744073709551616:=aaG Nat.and_le_left ha;rw[e,uv _ hl]
def Mx {t c:Nat} (h:2 ^ t*(2*c+1)<2 ^ 64):(2 ^ t*(2*c+1)) &&& (2 ^ 64 - 2 ^ t*(2*c+1))=2 ^ t:=by
 have ht0:0<2 ^ t:=Zj t;have ht:t<64:=by
  rcases Z6 t 64 with h1 | h1
  ·exact h1
  ·have h2:2 ^ 64<=2 ^ t:=Zl (by decide) h1;have h3:2 ^ t*1<=2 ^ t*(2*c+1):=Zc _ (by omega);omega
 have e1:2 ^ t*(2*c+1)=(2 ^ t*(2*c)+(2 ^ t - 1))+1:=by rw[Zn]; omega
 refine abl λj=>?_
 rw[ab8];have e2:(2 ^ 64 - 2 ^ t*(2*c+1)).testBit j=(decide (j<64) && !(2 ^ t*(2*c)+(2 ^ t - 1)).testBit j):=by
  conv=>lhs; rw[e1]
  exact abW (by rw[e1]at h; omega) j
 rw[e2,Nat.testBit_two_pow_mul,ab9 _ (by omega),aa1];rcases abI j t with hj | hj | hj
 ·rw[Y6 (by omega:¬ j>=t),Y6 (by omega:¬ t=j)]; rfl
 ·subst hj;rw[if_neg (by omega),ZF,Y5 (Zi _),Y5 ht,Y5 rfl];have a1:(2*c+1).testBit 0=true:=by rw[abR]; simp
  have a2:(2*c).testBit 0=false:=by rw[abR]; simp
  rw[a1,a2]; rfl
 ·obtain⟨k,hk⟩:∃ k,j - t=k+1:=⟨j - t - 1,by omega⟩
  rw[if_neg (by omega),hk,Y5 (by omega:j>=t),Y6 (by omega:¬ t=j),abS,abS];have a1:(2*c+1) / 2=c:=by omega
  have a2:2*c / 2=c:=by omega
  rw[a1,a2];cases c.testBit k <;> simp
def Rx:∀ t:Fin 64,(inR (Int.fdiv (IntKind.wrap .u64 (((2 ^ t.val:Nat):Int)*285870213051353865)) (2 ^ 58)) 64=true)/\(List.getD wA (Int.toNat (Int.fdiv (IntKind.wrap .u64 (((2 ^ t.val:Nat):Int)*285870213051353865)) (2 ^ 58))) 0=(t.val:Int)):=by decide +kernel
def QR (N:Nat) {t c:Nat} (h:2 ^ t*(2*c+1)<18446744073709551616) (k:Kz0):Q7 N ((2 ^ t*(2*c+1):Nat):Int) k=k (t:Int):=by
 have h64:(2:Nat) ^ 64=18446744073709551616:=by decide
 have ht0:0<2 ^ t:=Zj t;have hx0:0<2 ^ t*(2*c+1):=aa9 ht0 (by omega);have ht:t<64:=by
  rcases Z6 t 64 with h1 | h1
  ·exact h1
  ·have h2:2 ^ 64<=2 ^ t:=Zl (by decide) h1;have h3:2 ^ t*1<=2 ^ t*(2*c+1):=Zc _ (by omega);omega
 (unfold Q7; rw[af]; unfold Mp)
 have ha:=Mx (t:=t) (c:=c) (by omega);rw[h64]at ha;generalize 2 ^ t*(2*c+1)=x at *;have e0:((x:Int)==0)=false:=by simp; omega
 have ew:IntKind.wrap .u64 (0 - (x:Int))=((18446744073709551616 - x:Nat):Int):=by rw[aq]; omega
 obtain⟨t1,t2⟩:=Rx ⟨t,ht⟩;rw[e0,Y7,ew,rX h (by omega),ha,aa t1,t2,aa Y3]
def QW {V w:Nat} (h:V / 18446744073709551616 ^ w ≠ 0):w<(ae V).length:=by
 rcases Z6 w (ae V).length with h1 | h1
 ·exact h1
 ·exfalso;have h2:=gO (aW V);rw[aC]at h2;exact h (ZA (Zq h2 (Zl (by decide) h1)))
def Ha {B n:Nat} (h:aK B n):(ae n).length<=B / 64+1:=by
 refine fa _ _ ?_;have e:(18446744073709551616:Nat)=2 ^ 64:=by decide
 rw[e,<- ab6];exact Zq h (Zl (by decide) (by omega))
def HJ {N:Nat} (g:Bool) (n:Nat) (h:(ae n).length<=1099511627776) (k:Ky3):NI N g (ae n) k=qi (-(aT g n)) k:=by
 (unfold NI; rw[af]; unfold Pc)
 rw[uV _ h,ma (!g) g (ae n) n k];congr 1; unfold aT; cases g <;> simp
def KJ {N:Nat} (hN:1000<=N) (n:Nat) (hn:n<18446744073709551616) (b:Bool) (k:Ky3):NB N n b k=k false (ae n):=by
 (unfold NB; rw[af]; unfold O0)
 rw[rF hN n hn]; rfl
def qk {N:Nat} (hN:1000<=N) (n:Nat) (hn:n<9223372036854775808) (k:Ky3):DL N n k=k false (ae n):=by
 (unfold DL N8; unfold Sy; rw[af]; unfold Pf)
 have e:IntKind.wrap .u64 (n:Int)=n:=by rw[aq]; omega
 rw[Y6 (by omega:¬(n:Int)<0),Y7,e,rF hN n (by omega)]; rfl
def HI {N:Nat} (s:Nat) (b g:Bool) (n:Nat) (hs:s<4294967296) (hN:(ae n).length+s / 64+4<N) (h:(ae n).length<=1099511627776) (k:Ky3):Rh N s b g (ae n) k=qi (aT g (n*2 ^ s)) k:=by unfold Rh RV;rw[HR _ (aW n) s hs hN h,aC,E8 g b _ k]
def ot {n:Nat} (h0:n ≠ 0) (h:n<18446744073709551616):ae n=[(n:Int)]:=by rw[bT h0,ZA h,bA,Zg h]
def rY (a b:Int):aA .or .u64 a b=aA .or .u64 b a:=by unfold aA pk;simp only[ZT];rw[BitVec.or_comm]
end Go.Proofs.YtdinakfmablagaaGreatDoor
