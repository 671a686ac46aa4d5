/-
  PURE: laws of the seat's functions, taken over from another seat of mine.
  Conditions: none.
-/
import Derived.Test.YteifemaagdeomaaGreatDoorGp
import Derived.Test.YteifemaagdeomaaGreatDoorBig
set_option linter.unusedVariables false
namespace Go.Proofs.YteifemaagdeomaaGreatDoor
open Go Go.Mach
theorem ac {a c:Bool} (h:a=true):(a&&c)=c:=by rw[h]; rfl
theorem ar (z:Int):IntKind.wrap .u64 z=z%18446744073709551616:=by rfl
theorem il (z:Int):IntKind.wrap .u32 z=z%4294967296:=by rfl
theorem oB (z:Int):Int.fdiv z (2 ^ 32)=z / 4294967296:=by rw[aG3 _ (by decide)]; rfl
theorem aS {σ:Type} {step:σ->(σ->Bool)->Bool} {s:σ} (C:Nat->σ) (n:Nat) {N:Nat} (h0:s=C 0) (hn:n<N) {out:Bool} (hs:∀ i,i<n -> ∀ K:σ->Bool,step (C i) K=K (C (i+1))) (hx:∀ K,step (C n) K=out):ah N step s=out:=by subst h0; exact ke C n hn hs hx
def d8 (b:List Int):Nat->Nat
 | 0=>0
 | n+1=>if b.getD n 0=0 then d8 b n else n+1
theorem uI (b:List Int) (n:Nat):d8 b (n+1)=if b.getD n 0=0 then d8 b n else n+1:=rfl
theorem nU (b:List Int):∀ n,d8 b n<=n
 | 0=>aFM _
 | n+1=>by unfold d8; split; exact Nat.le_succ_of_le (nU b n); exact aFM _
theorem ji {b:List Int} {i:Nat} (h:b.length<=i):b.getD i 0=0:=by rw[List.getD_eq_getElem?_getD,List.getElem?_eq_none h]; rfl
theorem bd {m:List Int} (i:Nat):aL (m.take (i+1))=aL (m.take i)+4294967296 ^ i*(m.getD i 0).toNat:=by
 by_cases h:i<m.length
 ·exact Ja h
 ·rw[ji (by omega),aFW (by omega),aFW (by omega)]; simp
theorem yK (b:List Int):∀ n,aL (b.take (d8 b n))=aL (b.take n)
 | 0=>rfl
 | n+1=>by
  unfold d8;split
  ·rename_i h;rw[yK b n,bd,h]; simp
  ·rfl
theorem getLast?_take {b:List Int} {n:Nat} (h:n<b.length):(b.take (n+1)).getLast? = some (b.getD n 0):=by rw[aGM h,List.getLast?_append,List.getD_eq_getElem?_getD,List.getElem?_eq_getElem h];simp
theorem yJ (b:List Int):∀ n,n<=b.length -> ∀ x,(b.take (d8 b n)).getLast? = some x->x ≠ 0
 | 0,_,x,h=>by simp[d8]at h
 | n+1,hn,x,h=>by
  unfold d8 at h;split at h
  ·exact yJ b n (by omega) x h
  ·rename_i h0;rw[getLast?_take (by omega)]at h;cases h; exact h0
theorem z8 {b:List Int} (hb:InW b):b.take (d8 b b.length)=ak (aL b):=by have h1:=yK b b.length;rw[aGe]at h1;rw[<- h1,Ek (hb.take _) (yJ b b.length (aFM _))]
theorem p_ {N:Nat} (b:List Int) (hN:b.length<N) (hs:b.length<9223372036854775807) (k:Kz1):sQ7 N b k=k (d8 b b.length):=by
 unfold sQ7 GQ7;have key:∀ n,n<=b.length -> ∀ M,n<M->ah M (Cu N 0 b λm=>k m) n=k (d8 b n):=by
  intro n;induction n with
  | zero=>
   intro _ M hM;cases M with
   | zero=>omega
   | succ M=>
    show Cu N 0 b _ 0 _=_;simp[Cu,d8]
  | succ n ih=>
   intro hn M hM;cases M with
   | zero=>omega
   | succ M=>
    show Cu N 0 b _ (n+1) (ah M _)=_;have e:Int.toNat (((n+1:Nat):Int) - 1)=n:=by omega
    simp only[Cu,e,aF3,aHA];rw[aFy (by omega:((n+1:Nat):Int)>0),ac aFw,ac aFx,ac (aFy (by omega)),ac aFw,ac (aFy (by omega)),ih (by omega) M (by omega)];rw[uI];by_cases h0:b.getD n 0=0
    ·have:(b.getD n 0==0)=true:=by simpa using h0
     rw[this,if_pos h0]; rfl
    ·have:(b.getD n 0==0)=false:=by simpa using h0
     rw[this,if_neg h0]; rfl
 exact key b.length (aFM _) N hN
theorem UD {N:Nat} (m:List Int) (hm:InW m) (hN:m.length<N) (hs:m.length<9223372036854775807) (k:Kz4):FP N m k=k (ak (aL m)):=by
 unfold FP T2;have key:∀ n,n<9223372036854775807 -> ∀(l:List Int),l.length=n->InW l -> ∀ M,n<M->ah M (kU N λm_2=>k m_2) l=k (ak (aL l)):=by
  intro n;induction n with
  | zero=>
   intro _ l hl _ M hM;cases M with
   | zero=>omega
   | succ M=>
    have:l=[]:=List.length_eq_zero_iff.1 hl;subst this;show kU N _ [] _=_;simp[kU,aL,bM]
  | succ n ih=>
   intro hn l hl hw M hM;cases M with
   | zero=>omega
   | succ M=>
    show kU N _ l (ah M _)=_;have e:Int.toNat ((l.length:Int) - 1)=n:=by omega
    simp only[kU,e,aG1];rw[aFy (by omega:(l.length:Int)>0),ac aFw,ac aFx,ac aFw,ac (aFy (by omega)),ih (by omega) (l.take n) (by simp; omega) (hw.take n) M (by omega)];have e2:=bd (m:=l) n;rw[aFW (by omega)]at e2;by_cases h0:l.getD n 0=0
    ·have:(l.getD n 0==0)=true:=by simpa using h0
     rw[this];rw[h0]at e2;simp at e2;rw[e2]; rfl
    ·have:(l.getD n 0==0)=false:=by simpa using h0
     rw[this,Ek hw (λx hx=>by have:=getLast?_take (b:=l) (n:=n) (by omega);rw[aFW (by omega)]at this;rw[this]at hx; cases hx; exact h0)]
     rfl
 exact key m.length hs m rfl hm N hN
theorem ix {N:Nat} (b:List Int) (hb:InW b) (hN:b.length<N) (hs:b.length<9223372036854775807) (k:Kz4) :
  (sQ7 N b λl=>(decide (0+l<=b.length))&&k (List.take l (List.drop 0 b)))=k (ak (aL b)):=by
 rw[p_ b hN hs,aG1,z8 hb];have:=nU b b.length;rw[aFy (by omega)]; rfl
def kp (N:Nat) (l:List Int):Prop:=l.length+2<N/\l.length<=17592186044416
theorem jh (T A i:Nat):(T+4294967296 ^ i*A) / 4294967296 ^ i=T / 4294967296 ^ i+A:=aGr _ _ (aGE (by decide))
theorem Rv (m:List Int) (i:Nat):aL m=aL (m.take i)+4294967296 ^ (m.take i).length*aL (m.drop i):=by rw[<- zB,aHE]
theorem eI (m:List Int) (i:Nat):∃ R,aL m=aL (m.take i)+4294967296 ^ i*R:=by
 by_cases h:i<=m.length
 ·refine⟨aL (m.drop i),?_⟩;have:=Rv m i
  rwa [aGc,aGY h]at this
 ·exact⟨0,by rw[aFW (by omega)]; simp⟩
theorem ch {m:List Int} (h:InW m) (i:Nat):aL (m.take i)<4294967296 ^ i:=by
 have h1:=jX (h.take i);have h2:(m.take i).length<=i:=by simp; omega
 exact aFT h1 (aFP (by decide) h2)
theorem qy {S T R i:Nat} (h:S=T+4294967296 ^ (i+1)*R):S / 4294967296 ^ i%4294967296=T / 4294967296 ^ i%4294967296:=by rw[h,aFL,aFK,jh,aGL]
theorem Le {N:Nat} (a b:List Int) (ha:InW a) (hb:InW b) (hl:b.length<=a.length) (hN:kp N a) (k:Kz4) :
  ah N (lm N (sQ7 N) a b λcarry out=>(inR (a.length:Nat) out.length)&&((decide ((Int.toNat (a.length:Nat))<out.length)) &&
   (sQ7 N (List.set out (Int.toNat (a.length:Nat)) (IntKind.wrap .u32 carry)) λauL=>(decide ((0+auL)<=(List.length (List.set out (Int.toNat (a.length:Nat)) (IntKind.wrap .u32 carry)))))&&k (List.take auL (List.drop 0 (List.set out (Int.toNat (a.length:Nat)) (IntKind.wrap .u32 carry)))))))
   (0,0,List.replicate (a.length+1) 0)=k (ak (aL a+aL b)):=by
 obtain⟨hN1,hN2⟩:=hN
 let S:=aL a+aL b
 let T:=λi=>aL (a.take i)+aL (b.take i)
 refine aS (λi=>(((T i / 4294967296 ^ i:Nat):Int),(i:Int),dl S i++List.replicate (a.length+1 - i) 0)) a.length (by simp[T,aL,dl]) (by omega) (λi hi K=>?_) (λK=>?_)
 ·have hx:=ha.at (i:=i);have hy:=hb.at (i:=i);have hT:T (i+1)=T i+4294967296 ^ i*((a.getD i 0).toNat+(b.getD i 0).toNat):=by simp only[T,bd,aFQ]; omega
  have hq:T (i+1) / 4294967296 ^ i=T i / 4294967296 ^ i+((a.getD i 0).toNat+(b.getD i 0).toNat):=by rw[hT,jh]
  have hc:T i / 4294967296 ^ i<=1:=by
   have h1:=ch ha i;have h2:=ch hb i;have h3:T i<4294967296 ^ i*2:=by simp only[T]; omega
   have:=(aFI (aGE (n:=i) (by decide:0<4294967296))).2 (by rw[aFD]; exact h3:T i<2*4294967296 ^ i);omega
  have hdiv:T (i+1) / 4294967296 ^ (i+1)=T (i+1) / 4294967296 ^ i / 4294967296:=by rw[aFL,aFG]
  have hdig:S / 4294967296 ^ i%4294967296=T (i+1) / 4294967296 ^ i%4294967296:=by obtain⟨R1,h1⟩:=eI a (i+1);obtain⟨R2,h2⟩:=eI b (i+1);refine qy (R:=R1+R2) ?_;simp only[S,T];rw[aFQ]; omega
  have hset:=Ir S i (a.length+1) (by omega);have hlen:(dl S i++List.replicate (a.length+1 - i) 0).length=a.length+1:=by simp[am]; omega
  generalize hq':T i / 4294967296 ^ i=q at *;generalize hx':a.getD i 0=x at *;generalize hy':b.getD i 0=y at *;simp only[lm,aFC];rw[aFy (by omega:(i:Int)<a.length),aFB,hx',hy',ac aFx,hlen];have hstep:∀ s:Int,s=((q+(x.toNat+y.toNat):Nat):Int)->K ((Int.fdiv s (2 ^ 32)),((i:Int)+1),(List.set (dl S i++List.replicate (a.length+1 - i) 0) i (IntKind.wrap .u32 s)))=K (((T (i+1) / 4294967296 ^ (i+1):Nat):Int),((i+1:Nat):Int),dl S (i+1)++List.replicate (a.length+1 - (i+1)) 0):=by
   intro s hs;have e1:Int.fdiv s (2 ^ 32)=((T (i+1) / 4294967296 ^ (i+1):Nat):Int):=by rw[oB,hdiv,hq,hs]; omega
   have e2:IntKind.wrap .u32 s=((S / 4294967296 ^ i%4294967296:Nat):Int):=by rw[il,hdig,hq,hs]; omega
   rw[e1,e2,hset]; rfl
  by_cases hib:i<b.length
  ·rw[aFy (by omega:(i:Int)<b.length),aFB,ac aFx,ac aFx,ac (aFy (by omega)),ac aFw];exact hstep _ (by simp only[ar]; omega)
  ·rw[aFz (by omega:¬(i:Int)<b.length),aFA,ac aFx,ac (aFy (by omega)),ac aFw];have hy0:y=0:=by rw[<- hy']; exact ji (by omega)
   subst hy0;exact hstep _ (by simp only[ar]; omega)
 ·simp only[lm];rw[aFz (by omega:¬(a.length:Int)<a.length),aFA];have hT:T a.length=S:=by simp only[T,S]; rw[aGe,aFW hl]
  have hS:S<4294967296 ^ (a.length+1):=by have h1:=jX ha;have h2:=jX hb;have h3:4294967296 ^ b.length<=4294967296 ^ a.length:=aFP (by decide) hl;rw[aFL];simp only[S]; omega
  have hlen:(dl S a.length++List.replicate (a.length+1 - a.length) 0).length=a.length+1:=by simp[am]
  have e2:IntKind.wrap .u32 ((T a.length / 4294967296 ^ a.length:Nat):Int)=((S / 4294967296 ^ a.length%4294967296:Nat):Int):=by rw[il,hT]; omega
  have hset:=Ir S a.length (a.length+1) (by omega);rw[e2,aFC,hset,hlen,ac aFx,ac (aFy (by omega)),aF9,aF_,aF7,
   ix _ (mY S _) (by rw[am]; omega) (by rw[am]; omega),wP hS]
theorem adD {N:Nat} (a b:List Int) (ha:InW a) (hb:InW b) (hNa:kp N a) (hNb:kp N b) (k:Kz4):Vr N a b k=k (ak (aL a+aL b)):=by
 unfold Vr T_;have h1:=hNa.2;have h2:=hNb.2;by_cases h:a.length<b.length
 ·rw[aFy (by omega:(a.length:Int)<b.length),aFB,ac aFw,ac (iy (by omega) (by omega) (by omega) (by omega))];have e:Int.toNat ((b.length:Int)+1)=b.length+1:=by omega
  rw[e,Le b a hb ha (by omega) hNb k,aHp]
 ·rw[aFz (by omega:¬(a.length:Int)<b.length),aFA,ac aFw,ac (iy (by omega) (by omega) (by omega) (by omega))];have e:Int.toNat ((a.length:Int)+1)=a.length+1:=by omega
  rw[e,Le a b ha hb (by omega) hNa k]
theorem bB (i:Nat):0<4294967296 ^ i:=aGE (by decide)
theorem IK {D e P:Nat} {z:Int} (h:(D:Int)=(e:Int)+(P:Int)*z) (he:e<P):((D / P:Nat):Int)=z:=by
 have hP:(P:Int) ≠ 0:=by omega
 rw[Int.natCast_ediv,h,Int.add_mul_ediv_left _ _ hP,<- Int.natCast_ediv,aF4 he];simp
theorem uG (P A B x y:Nat) (hA:A<P) (hB:B<P):(if A+P*x<B+P*y then 1 else 0)=if x<y+(if A<B then 1 else 0)then 1 else(0:Nat):=by
 by_cases hxy:x<y
 ·have:P*(x+1)<=P*y:=aFH P hxy;rw[aFQ]at this;rw[if_pos (by omega),if_pos (by omega)]
 ·by_cases hyx:y<x
  ·have:P*(y+1)<=P*x:=aFH P hyx;rw[aFQ]at this;rw[if_neg (by omega),if_neg (by split <;> omega)]
  ·have:x=y:=by omega
   subst this;by_cases hAB:A<B
   ·rw[if_pos (by omega),if_pos hAB,if_pos (by omega)]
   ·rw[if_neg (by omega),if_neg hAB,if_neg (by omega)]
theorem Of {P A B x y o R1 R2 D a b:Nat} (hA:A<P) (hB:B<P) (ho:o=if A<B then 1 else 0) (h1:a=A+P*x+P*4294967296*R1) (h2:b=B+P*y+P*4294967296*R2) (hD:(D:Int)=(a:Int) - (b:Int)) :
  ((D / P:Nat):Int)=(x:Int) - (y:Int) - (o:Int)+4294967296*((R1:Int) - (R2:Int)):=by
 have he:∃ e:Nat,e<P/\(e:Int)=(A:Int) - (B:Int)+(P:Int)*(o:Int):=by
  rw[ho];split
  ·exact⟨A+P - B,by omega,by omega⟩
  ·exact⟨A - B,by omega,by omega⟩
 obtain⟨e,he1,he2⟩:=he;refine IK (e:=e) ?_ he1;have e1:(a:Int)=A+(P:Int)*x+4294967296*((P:Int)*R1):=by rw[h1,aFK,aF0]; simp
 have e2:(b:Int)=B+(P:Int)*y+4294967296*((P:Int)*R2):=by rw[h2,aFK,aF0]; simp
 have e3:(P:Int)*((x:Int) - (y:Int) - (o:Int)+4294967296*((R1:Int) - (R2:Int)))=(P:Int)*x - (P:Int)*y - (P:Int)*o+(4294967296*((P:Int)*R1) - 4294967296*((P:Int)*R2)):=by rw[Int.mul_add,aHV,aHV,Int.mul_left_comm,aHV,aHV]
 rw[hD,e1,e2,e3,he2];omega
theorem EL {N:Nat} (a b:List Int) (ha:InW a) (hb:InW b) (hle:aL b<=aL a) (hN:kp N a) (k:Kz4):Pk N a b k=k (ak (aL a - aL b)):=by
 obtain⟨hN1,hN2⟩:=hN;unfold Pk T3;rw[ac (iy (by omega) (by omega) (by omega) (by omega)),aFC]
 let D:=aL a - aL b
 let bo:=λi=>if aL (a.take i)<aL (b.take i)then(1:Nat)else 0
 refine aS (λi=>(((bo i:Nat):Int),(i:Int),dl D i++List.replicate (a.length - i) 0)) a.length (by simp[bo,aL,dl]) (by omega) (λi hi K=>?_) (λK=>?_)
 ·have hx:=ha.at (i:=i);have hy:=hb.at (i:=i);have hA:=bd (m:=a) i;have hB:=bd (m:=b) i;have hAl:=ch ha i;have hBl:=ch hb i;have hset:=Ir D i a.length (by omega);have hl:(dl D i++List.replicate (a.length - i) 0).length=a.length:=by simp[am]; omega
  obtain⟨R1,h1⟩:=eI a (i+1);obtain⟨R2,h2⟩:=eI b (i+1);have hD:(D:Int)=(aL a:Int) - (aL b:Int):=by simp only[D]; omega
  have hP:=bB i;have hPs:4294967296 ^ (i+1)=4294967296 ^ i*4294967296:=aFL ..;have hbo:bo i<=1:=by simp only[bo]; split <;> omega
  have hbs:bo (i+1)=if (a.getD i 0).toNat<(b.getD i 0).toNat+bo i then 1 else 0:=by simp only[bo,hA,hB];exact uG _ _ _ _ _ hAl hBl
  have hq:((D / 4294967296 ^ i:Nat):Int)=((a.getD i 0).toNat:Int) - ((b.getD i 0).toNat:Int) - (bo i:Int)+4294967296*((R1:Int) - (R2:Int)):=by rw[hA,hPs]at h1;rw[hB,hPs]at h2;exact Of hAl hBl rfl h1 h2 hD
  have hdig:((D / 4294967296 ^ i%4294967296:Nat):Int)=(((a.getD i 0).toNat:Int) - ((b.getD i 0).toNat:Int) - (bo i:Int))%4294967296:=by rw[Int.natCast_emod,hq];exact Int.add_mul_emod_self_left _ _ _
  generalize hx':a.getD i 0=x at *;generalize hy':b.getD i 0=y at *;generalize bo i=o at *;generalize bo (i+1)=o' at *;simp only[o_,aFC];have hy0:¬ i<b.length->y=0:=λh=>by rw[<- hy']; exact ji (by omega)
  have fin:∀(v w:Int),v=(o':Int)->w%4294967296=((D / 4294967296 ^ i%4294967296:Nat):Int)->K (v,(i:Int)+1,List.set (dl D i++List.replicate (a.length - i) 0) i (IntKind.wrap .u32 w))=K ((o':Int),((i+1:Nat):Int),dl D (i+1)++List.replicate (a.length - (i+1)) 0):=by intro v w hv hw;rw[hv,il,hw,hset]; rfl
  simp only[hx',hy',hl];rw[aFy (by omega:(i:Int)<a.length),aFB];by_cases hib:i<b.length
  ·rw[aFy (by omega:(i:Int)<b.length),aFB,ac aFx,ac aFx];by_cases hlt:x.toNat<y.toNat+o
   ·rw[aFy (by simp only[ar]; omega),aFB,ac aFx,ac (aFy (by omega)),ac aFw];rw[if_pos hlt]at hbs;exact fin _ _ (by omega) (by rw[hdig]; simp only[ar]; omega)
   ·rw[aFz (by simp only[ar]; omega),aFA,ac aFx,ac (aFy (by omega)),ac aFw];rw[if_neg hlt]at hbs;exact fin _ _ (by omega) (by rw[hdig]; simp only[ar]; omega)
  ·have hy1:=hy0 hib;rw[aFz (by omega:¬(i:Int)<b.length),aFA,ac aFx];by_cases hlt:x.toNat<y.toNat+o
   ·rw[aFy (by simp only[ar]; omega),aFB,ac aFx,ac (aFy (by omega)),ac aFw];rw[if_pos hlt]at hbs;exact fin _ _ (by omega) (by rw[hdig]; simp only[ar]; omega)
   ·rw[aFz (by simp only[ar]; omega),aFA,ac aFx,ac (aFy (by omega)),ac aFw];rw[if_neg hlt]at hbs;exact fin _ _ (by omega) (by rw[hdig]; simp only[ar]; omega)
 ·simp only[o_];rw[aFz (by omega:¬(a.length:Int)<a.length),aFA,aF9,aF_,aF7];have hS:D<4294967296 ^ a.length:=by have:=jX ha; simp only[D]; omega
  rw[ix _ (mY D _) (by rw[am]; omega) (by rw[am]; omega),wP hS]
theorem gb (a c s:Nat) (ha:a<2 ^ s) (hlt:2 ^ s*c+a<18446744073709551616):aH .or .u64 (a:Int) ((2 ^ s*c:Nat):Int)=((2 ^ s*c+a:Nat):Int):=by
 unfold aH xz;simp only[aGj];have e:((BitVec.ofInt (IntKind.bits .u64) (a:Int)) ||| (BitVec.ofInt (IntKind.bits .u64) ((2 ^ s*c:Nat):Int))).toNat=2 ^ s*c+a:=by
  show((BitVec.ofInt 64 (a:Int)) ||| (BitVec.ofInt 64 ((2 ^ s*c:Nat):Int))).toNat=_;have h64:(2:Nat) ^ 64=18446744073709551616:=by decide
  rw[BitVec.toNat_or,aGD,aGD,aGJ,aGJ,aFJ (by omega),aFJ (by omega),Nat.or_comm,<- aIp ha]
 rw[e,D3 _ hlt]
theorem PT (n:Nat) (h:n<4294967296):IntKind.wrap .u32 (n:Int)=n:=by rw[il]; omega
theorem xA (a c s:Nat) (ha:a<2 ^ s) (hlt:2 ^ s*c+a<4294967296):aH .or .u32 (a:Int) ((2 ^ s*c:Nat):Int)=((2 ^ s*c+a:Nat):Int):=by
 unfold aH xz;simp only[aGj];have e:((BitVec.ofInt (IntKind.bits .u32) (a:Int)) ||| (BitVec.ofInt (IntKind.bits .u32) ((2 ^ s*c:Nat):Int))).toNat=2 ^ s*c+a:=by
  show((BitVec.ofInt 32 (a:Int)) ||| (BitVec.ofInt 32 ((2 ^ s*c:Nat):Int))).toNat=_;have h32:(2:Nat) ^ 32=4294967296:=by decide
  rw[BitVec.toNat_or,aGD,aGD,aGJ,aGJ,aFJ (by omega),aFJ (by omega),Nat.or_comm,<- aIp ha]
 rw[e,PT _ hlt]
def iP (x y:Nat):Int:=if x<y then -1 else if x=y then 0 else 1
theorem aaw {P A B x y:Nat} (hA:A<P) (h:x<y):iP (A+P*x) (B+P*y) = -1:=by have:P*(x+1)<=P*y:=aFH P h;rw[aFQ]at this;unfold iP;rw[if_pos (by omega)]
theorem aav {P A B x y:Nat} (hB:B<P) (h:y<x):iP (A+P*x) (B+P*y)=1:=by have:P*(y+1)<=P*x:=aFH P h;rw[aFQ]at this;unfold iP;rw[if_neg (by omega),if_neg (by omega)]
theorem NQ {P A B x:Nat}:iP (A+P*x) (B+P*x)=iP A B:=by
 unfold iP;by_cases h3:A<B
 ·rw[if_pos h3,if_pos (by omega)]
 ·by_cases h4:A=B
  ·subst h4; simp
  ·rw[if_neg h3,if_neg h4,if_neg (by omega),if_neg (by omega)]
theorem LC {N:Nat} (a b:List Int) (ha:InW a) (hb:InW b) (hl:a.length=b.length) (hs:a.length<9223372036854775807) (k:Kz0) :
  ∀ n,n<=a.length -> ∀ M,n<M->ah M (Cq N a b (λt4=>k t4) (k 0)) ((n:Int) - 1)=k (iP (aL (a.take n)) (aL (b.take n))):=by
 intro n;induction n with
 | zero=>
  intro _ M hM;cases M with
  | zero=>omega
  | succ M=>
   show Cq N a b _ _ ((0:Nat) - 1:Int) _=_;simp[Cq,iP,aL]
 | succ n ih=>
  intro hn M hM;cases M with
  | zero=>omega
  | succ M=>
   show Cq N a b _ _ (((n+1:Nat):Int) - 1) (ah M _)=_;have e:(((n+1:Nat):Int) - 1)=(n:Int):=by omega
   have hx:=ha.at (i:=n);have hy:=hb.at (i:=n);have hA:=bd (m:=a) n;have hB:=bd (m:=b) n;have hAl:=ch ha n;have hBl:=ch hb n;rw[e];simp only[Cq,aFC];rw[hA,hB,aFy (by omega:(n:Int)>=0),aFB,ac aFx,ac aFx,ac aFx,ac aFx,ac aFw,ih (by omega) M (by omega)];by_cases h1:a.getD n 0<b.getD n 0
   ·rw[aFy h1,aFB,aaw hAl (by omega)]
   ·rw[aFz h1,aFA];by_cases h2:a.getD n 0>b.getD n 0
    ·rw[aFy h2,aFB,aav hBl (by omega)]
    ·rw[aFz h2,aFA];have:a.getD n 0=b.getD n 0:=by omega
     rw[this,NQ]
theorem eF {x y:Nat} (h:x<=y):(ak x).length<=(ak y).length:=by
 induction y using Nat.strongRecOn generalizing x with
 | ind y ih=>
  by_cases hx:x=0
  ·subst hx; rw[bM]; simp
  ·rw[fL hx,fL (by omega:y ≠ 0)];simp only[aGb];have:=ih (y / 4294967296) (by omega) (x:=x / 4294967296) (aHN h);omega
theorem nW {N:Nat} (x y:Nat) (hx:kp N (ak x)) (hy:kp N (ak y)) (k:Kz0):wh N (ak x) (ak y) k=k (iP x y):=by
 unfold wh ag_;obtain⟨x1,x2⟩:=hx;obtain⟨y1,y2⟩:=hy;by_cases h:(ak x).length=(ak y).length
 ·have e:(((ak x).length:Int) != (ak y).length)=false:=by rw[h]; simp
  rw[e,aFA,ac aFw,LC (ak x) (ak y) (bV x) (bV y) h (by omega) k _ (aFM _) N (by omega),aGe,h,aGe,aZ,aZ]
 ·have e:(((ak x).length:Int) != (ak y).length)=true:=by simp; omega
  rw[e,aFB];by_cases h1:(ak x).length<(ak y).length
  ·rw[aFy (by omega),aFB];have:x<y:=by
    rcases aGw x y with h2 | h2
    ·exact h2
    ·have:=eF h2; omega
   unfold iP; rw[if_pos this]
  ·rw[aFz (by omega),aFA];have:¬ x<=y:=λh2=>by have:=eF h2; omega
   unfold iP; rw[if_neg (by omega),if_neg (by omega)]
def bl (n:Nat):Nat:=if n=0 then 0 else n.log2+1
theorem qu {n:Nat} (j:Nat) (h:2 ^ j<=n):bl n=j+bl (n / 2 ^ j):=by
 have hp:0<2 ^ j:=aFN j;have h0:n ≠ 0:=by omega
 have h1:n / 2 ^ j ≠ 0:=by have:=aHW h hp;omega
 unfold bl;rw[if_neg h0,if_neg h1];have hj:j<=n.log2:=(Nat.le_log2 h0).2 h;have:(n / 2 ^ j).log2=n.log2 - j:=by
  rw[Nat.log2_eq_iff h1];have h2:=Nat.log2_self_le h0;have h3:n<2 ^ (n.log2+1):=Nat.lt_log2_self;constructor
  ·rw[aHf hp,<- aFS];rw[show n.log2 - j+j=n.log2 by omega]; exact h2
  ·rw[aFI hp,<- aFS];rw[show n.log2 - j+1+j=n.log2+1 by omega]; exact h3
 omega
theorem aoO:∀ i:Fin 256,aE.getD i.val 0=(bl i.val:Int):=by decide +kernel
theorem agF {i:Nat} (h:i<256):aE.getD i 0=(bl i:Int):=aoO ⟨i,h⟩
theorem NF {n:Nat} (h:n<256):bl n<=8:=by
 unfold bl;split
 ·omega
 ·rename_i h0;have:=(Nat.log2_lt h0).2 (by simpa using h:n<2 ^ 8);omega
theorem al9 (z:Int):IntKind.wrap .u8 z=z%256:=by rfl
theorem ak2 (z:Int):Int.fdiv z (2 ^ 8)=z / 256:=by rw[aG3 _ (by decide)]; rfl
theorem abc (z:Int):Int.fdiv z (2 ^ 16)=z / 65536:=by rw[aG3 _ (by decide)]; rfl
theorem KU (N:Nat) (x:Nat) (h:x<4294967296) (k:Kz0):Pi N (x:Int) k=k (bl x:Int):=by
 unfold Pi Zl;simp only[ak2,abc,al9];have key:∀(z:Int) (m:Nat),z=(m:Int)->m<256 -> ∀ c:Nat,c<=32->((inR z 256)&&((aj .i64 (List.getD aE (Int.toNat z) 0))&&((aj .i64 ((c:Int)+(List.getD aE (Int.toNat z) 0)))&&k ((c:Int)+List.getD aE (Int.toNat z) 0))))=k ((c+bl m:Nat):Int):=by intro z m hz hm c hc;subst hz;have:=NF hm;rw[aFC,agF hm,ac aFx,ac aFw,ac aFw];rfl
 by_cases h16:65536<=x
 ·rw[aFy (by omega:(x:Int)>=65536),aFB];have e16:=qu (n:=x) 16 (by simpa using h16);have p16:(2:Nat) ^ 16=65536:=by decide
  have p8:(2:Nat) ^ 8=256:=by decide
  rw[p16]at e16;by_cases h8:256<=x / 65536
  ·rw[aFy (by omega:(x:Int) / 65536>=256),aFB];have e8:=qu (n:=x / 65536) 8 (by simpa using h8);rw[p8]at e8;have:=key ((x:Int) / 65536 / 256%256) (x / 65536 / 256) (by omega) (by omega) 24 (by omega);rw[show((24:Nat):Int)=24 from rfl]at this;rw[this]; congr 2; omega
  ·rw[aFz (by omega:¬(x:Int) / 65536>=256),aFA];have:=key ((x:Int) / 65536%256) (x / 65536) (by omega) (by omega) 16 (by omega);rw[show((16:Nat):Int)=16 from rfl]at this;rw[this]; congr 2; omega
 ·rw[aFz (by omega:¬(x:Int)>=65536),aFA];by_cases h8:256<=x
  ·rw[aFy (by omega:(x:Int)>=256),aFB];have e8:=qu (n:=x) 8 (by simpa using h8);rw[show(2:Nat) ^ 8=256 by decide]at e8;have:=key ((x:Int) / 256%256) (x / 256) (by omega) (by omega) 8 (by omega);rw[show((8:Nat):Int)=8 from rfl]at this;rw[this]; congr 2; omega
  ·rw[aFz (by omega:¬(x:Int)>=256),aFA];have:=key ((x:Int)%256) x (by omega) (by omega) 0 (by omega);rw[show((0:Nat):Int)=0 from rfl]at this;rw[this]; congr 2; omega
theorem yM:∀ n,n ≠ 0->bl n=32*((ak n).length - 1)+bl ((ak n).getD ((ak n).length - 1) 0).toNat/\0<(ak n).length:=by
  intro n;induction n using Nat.strongRecOn with
  | ind n ih=>
    intro h;rw[fL h];by_cases h1:n / 4294967296=0
    · rw[h1,bM]
      have:n%4294967296=n:=aFJ (by omega);simp[this]
    · obtain⟨i1,i2⟩:=ih (n / 4294967296) (by omega) h1
      have e:=qu (n:=n) 32 (by have:(2:Nat) ^ 32=4294967296:=(by decide); omega);rw[show(2:Nat) ^ 32=4294967296 by decide]at e;refine⟨?_,by simp⟩;have e2:(((n%4294967296:Nat):Int)::ak (n / 4294967296)).getD ((((n%4294967296:Nat):Int)::ak (n / 4294967296)).length - 1) 0=(ak (n / 4294967296)).getD ((ak (n / 4294967296)).length - 1) 0:=by
        simp only[aGb,aHZ];generalize ak (n / 4294967296)=l at i2 ⊢;cases l with
        | nil=>simp at i2
        | cons y l=>simp
      rw[e2,e,i1];simp only[aGb];omega
theorem IV {N:Nat} (g:Bool) (n:Nat) (hs:kp N (ak n)) (k:Kz0):AQ N g (ak n) k=k (bl n:Int):=by
  unfold AQ amn;obtain⟨s1,s2⟩:=hs;by_cases h:n=0
  · subst h; rw[bM]; rfl
  · obtain⟨e1,e2⟩:=yM n h
    have e0:(((ak n).length:Int)==0)=false:=by simp; intro h'; rw[h']at e2; simp at e2
    have e3:Int.toNat (((ak n).length:Int) - 1)=(ak n).length - 1:=by omega
    have hw:=(bV n).at (i:=(ak n).length - 1);have hb:bl ((ak n).getD ((ak n).length - 1) 0).toNat<=32:=by
      unfold bl; split
      · omega
      · rename_i h0
        have:=(Nat.log2_lt h0).2 (by have:(2:Nat) ^ 32=4294967296:=(by decide); omega:((ak n).getD ((ak n).length - 1) 0).toNat<2 ^ 32);omega
    have e4:(ak n).getD ((ak n).length - 1) 0=((((ak n).getD ((ak n).length - 1) 0).toNat:Nat):Int):=by omega
    rw[e0,aFA,ac aFw,ac aFw,ac aFw,ac aFx,e3,e4,KU N _ (by omega),ac aFw];congr 1; omega
theorem BZ:∀(w X:Nat),dl (4294967296 ^ w*X) w=List.replicate w 0:=by
 intro w;have key:∀ n,n<=w -> ∀ X,dl (4294967296 ^ w*X) n=List.replicate n 0:=by
  intro n;induction n with
  | zero=>intro _ X; rfl
  | succ n ih=>
   intro hn X;rw[dl,ih (by omega),aHb];have e:4294967296 ^ w*X=4294967296 ^ n*(4294967296*(4294967296 ^ (w - n - 1)*X)):=by rw[<- aFK,<- aFK,<- aFL,<- aFS];congr 2; omega
   rw[e,aF8 _ (bB n),aIE];rfl
 exact key w (aFM _)
theorem DB (n:Nat):2 ^ n=4294967296 ^ (n / 32)*2 ^ (n%32):=by
 have:(4294967296:Nat)=2 ^ 32:=by decide
 rw[this,<- aIq,<- aFS];congr 1; omega
theorem bT {α:Type} (xs:List α) (y:α) (ys:List α) (z:α) (n:Nat) (h:n=xs.length):(xs++y::ys).set n z=xs++z::ys:=by subst h; rw[aHF _ _ (aFM _),aF9]; rfl
theorem eG {xs:List Int} {y:Int} {ys:List Int} {n:Nat} (h:n=xs.length):(xs++y::ys).getD n 0=y:=by subst h; rw[List.getD_eq_getElem?_getD,List.getElem?_append_right (aFM _),aF9]; rfl
theorem adz {N:Nat} (m:List Int) (hm:InW m) (n:Nat) (hn:n<4294967296) (hN:m.length+n / 32+4<N) (hs:m.length<=1099511627776) (k:Kz4):Vq N m n k=k (ak (aL m*2 ^ n)):=by
 unfold Vq T9;by_cases h0:m.length=0
 ·have:m=[]:=List.length_eq_zero_iff.1 h0;subst this;simp[aL,bM]
 ·have e0:((m.length:Int)==0)=false:=by simp; intro h; subst h; simp at h0
  have ew:IntKind.wrap .u64 (Int.tdiv (n:Int) 32)=((n / 32:Nat):Int):=by rw[ar,aGz (by omega)]; omega
  have es:Int.tmod (n:Int) 32=((n%32:Nat):Int):=by rw[aGo (by omega)]; rfl
  rw[e0,aFA,ew,es];generalize hw:n / 32=w at *;generalize hsh:n%32=s at *;have hs32:s<32:=by omega
  have hp2:2 ^ n=4294967296 ^ w*2 ^ s:=by rw[DB,hw,hsh]
  have hs0:0<2 ^ s:=aFN s;have hs1:2 ^ s*2 ^ (32 - s)=4294967296:=by rw[<- aFS,show s+(32 - s)=32 by omega]
  have hs2:2 ^ s<=2147483648:=by have:2 ^ s<=2 ^ 31:=aFP (by decide) (by omega);simpa using this
  have elen:Int.toNat (((w:Nat):Int)+(m.length:Int)+1)=w+m.length+1:=by omega
  rw[ac aFw,ac aFw,ac aFw,ac (iy (by omega) (by omega) (by omega) (by omega)),elen]
  let V:=aL m*2 ^ n
  let X:=aL m*2 ^ s
  have hVX:V=4294967296 ^ w*X:=by simp only[V,X]; rw[hp2,aF0]
  let T:=λi=>aL (m.take i)*2 ^ s
  let c:=λi=>T i / 4294967296 ^ i
  refine aS (λi=>((i:Int),dl V (w+i)++((c i:Nat):Int)::List.replicate (m.length - i) 0)) m.length ?_ (by omega) (λi hi K=>?_) (λK=>?_)
  ·congr 1;show List.replicate (w+m.length+1) (0:Int)=dl V w++((c 0:Nat):Int)::List.replicate m.length 0;rw[hVX,BZ];have hc0:c 0=0:=by simp[c,T,aL]
   rw[hc0];have:w+m.length+1=w+(m.length+1):=by omega
   rw[this,<- aHd,aGh]; rfl
  ·have hx:=hm.at (i:=i);have hT:T (i+1)=T i+4294967296 ^ i*((m.getD i 0).toNat*2 ^ s):=by simp only[T,bd,aF2,aFK]
   have hq:T (i+1) / 4294967296 ^ i=c i+(m.getD i 0).toNat*2 ^ s:=by rw[hT,jh]
   have hci:c i<2 ^ s:=by simp only[c,T];rw[aFI (bB i),aFD];exact aGF (ch hm i) hs0
   have hc1:c (i+1)=(c i+(m.getD i 0).toNat*2 ^ s) / 4294967296:=by rw[<- hq]; simp only[c]; rw[aFL,aFG]
   have hdig:V / 4294967296 ^ (w+i)%4294967296=(c i+(m.getD i 0).toNat*2 ^ s)%4294967296:=by rw[<- hq,hVX,aFS,<- aFG,aF8 _ (bB w)];obtain⟨R,hR⟩:=eI m (i+1);refine qy (R:=R*2 ^ s) ?_;simp only[X,T];rw[hR,aF2,aFK]
   have hrep:List.replicate (m.length - i) (0:Int)=0::List.replicate (m.length - (i+1)) 0:=by rw[show m.length - i=(m.length - (i+1))+1 by omega,aGh]
   have hdl:=am V (w+i);have ei:Int.toNat ((w:Int)+(i:Int))=w+i:=by omega
   have ei1:Int.toNat ((w:Int)+(i:Int)+1)=w+i+1:=by omega
   have emin:min s 64=s:=by omega
   simp only[Cw,aFC,ei,ei1,emin];rw[hrep,eG hdl.symm,bT _ _ _ _ _ hdl.symm];have et:IntKind.wrap .u64 (IntKind.wrap .u64 (m.getD i 0)*2 ^ s)=(((m.getD i 0).toNat*2 ^ s:Nat):Int):=by
    have hxs:(m.getD i 0).toNat*2 ^ s<4294967296*2147483648:=aGg (by omega) hs2 (by decide);have e1:IntKind.wrap .u64 (m.getD i 0)=(((m.getD i 0).toNat:Nat):Int):=by rw[ar]; omega
    have e2:(((m.getD i 0).toNat:Nat):Int)*2 ^ s=(((m.getD i 0).toNat*2 ^ s:Nat):Int):=by simp
    rw[e1,e2,ar]; omega
   rw[et];generalize hxx:(m.getD i 0).toNat=x at *;have hx32:x<4294967296:=by omega
   have hlow:x*2 ^ s%4294967296=2 ^ s*(x%2 ^ (32 - s)):=by
    have e:x*2 ^ s%(2 ^ s*2 ^ (32 - s))=2 ^ s*(x%2 ^ (32 - s)):=by rw[aFD x]; exact aHi _ _ _
    rwa [hs1]at e
   have hsum:2 ^ s*(x%2 ^ (32 - s))+c i<4294967296:=by have h1:x%2 ^ (32 - s)+1<=2 ^ (32 - s):=aFO _ (aFN _);have h2:=aFH (2 ^ s) h1;rw[hs1,aFQ]at h2;omega
   have eor:aH .or .u32 ((c i:Nat):Int) (IntKind.wrap .u32 ((x*2 ^ s:Nat):Int))=((V / 4294967296 ^ (w+i)%4294967296:Nat):Int):=by
    have e1:IntKind.wrap .u32 ((x*2 ^ s:Nat):Int)=((2 ^ s*(x%2 ^ (32 - s)):Nat):Int):=by rw[<- hlow,il]; omega
    rw[e1,xA _ _ s hci hsum,hdig];omega
   have ehi:IntKind.wrap .u32 (Int.fdiv ((x*2 ^ s:Nat):Int) (2 ^ 32))=((c (i+1):Nat):Int):=by have hxs:x*2 ^ s<4294967296*2147483648:=aGg hx32 hs2 (by decide);rw[oB,il,hc1];omega
   rw[eor,ehi];have hl1:∀(a b:Int) (ys:List Int),(dl V (w+i)++a::b::ys).length=w+i+2+ys.length:=by intro a b ys; simp[hdl]; omega
   have hset2:(dl V (w+i)++((V / 4294967296 ^ (w+i)%4294967296:Nat):Int)::0::List.replicate (m.length - (i+1)) 0).set (w+i+1) ((c (i+1):Nat):Int)=dl V (w+(i+1))++((c (i+1):Nat):Int)::List.replicate (m.length - (i+1)) 0:=by
    have:dl V (w+i)++((V / 4294967296 ^ (w+i)%4294967296:Nat):Int)::0::List.replicate (m.length - (i+1)) 0=dl V (w+(i+1))++0::List.replicate (m.length - (i+1)) 0:=by rw[<- aGf,dl]; simp
    rw[this];exact bT _ _ _ _ _ (by rw[am]; omega)
   rw[hset2,hl1,hl1];simp only[aGT];rw[aFy (by omega:(i:Int)<m.length),aFB,ac aFx,ac (aFy (by omega)),ac aFw,ac aFx,ac (aFy (by omega)),ac aFx,ac (aFy (by omega)),
    ac aFw,ac aFw,ac aFx,ac (aFy (by omega)),ac aFw]
   rfl
  ·simp only[Cw];rw[aFz (by omega:¬(m.length:Int)<m.length),aFA,aF9,aF_];have hV:V<4294967296 ^ (w+m.length+1):=by have h1:=jX hm;simp only[V];rw[hp2,aFL,aFS,aF0,aFK];refine aGF ?_ (bB w);exact aGg h1 (by omega) (by decide)
   have hT:T m.length=X:=by simp only[T,X]; rw[aGe]
   have hend:dl V (w+m.length)++[((c m.length:Nat):Int)]=dl V (w+m.length+1):=by
    rw[dl];have:c m.length=V / 4294967296 ^ (w+m.length)%4294967296:=by simp only[c];rw[hT,hVX,aFS,<- aFG,aF8 _ (bB w)];rw[aFJ];rw[aFI (bB _),aFD];have h1:=jX hm;simp only[X];exact aGg h1 (by omega) (by decide)
    rw[this]
   rw[hend,ix _ (mY V _) (by rw[am]; omega) (by rw[am]; omega),wP hV]
theorem KJ {m:List Int} (hm:InW m) (j:Nat):∃ R,aL m / 4294967296 ^ j=(m.getD j 0).toNat+4294967296*(m.getD (j+1) 0).toNat+4294967296*4294967296*R:=by
 obtain⟨R,hR⟩:=eI m (j+2);refine⟨R,?_⟩;rw[hR,bd,bd];simp only[aFL];have e:aL (m.take j)+4294967296 ^ j*(m.getD j 0).toNat+4294967296 ^ j*4294967296*(m.getD (j+1) 0).toNat+4294967296 ^ j*4294967296*4294967296*R
   = aL (m.take j)+4294967296 ^ j*((m.getD j 0).toNat+4294967296*(m.getD (j+1) 0).toNat+4294967296*4294967296*R):=by
  rw[aFQ,aFQ,aFK,aFK,aFK,aFK]; omega
 rw[e,jh,aF4 (ch hm j),aF3]
theorem At {N:Nat} (n:Nat) (hn:n<18446744073709551616) (hN:4<N) (k:Kz4):Lh N n k=k (ak n):=by
 unfold Lh Zd;have hw:InW [IntKind.wrap .u32 (n:Int),IntKind.wrap .u32 (Int.fdiv (n:Int) (2 ^ 32))]:=by intro x hx;simp only[il,oB,aGW,aHw,or_false]at hx;rcases hx with rfl | rfl <;> omega
 have hv:aL [IntKind.wrap .u32 (n:Int),IntKind.wrap .u32 (Int.fdiv (n:Int) (2 ^ 32))]=n:=by simp only[aL,il,oB]; omega
 rw[ix _ hw (by simp; omega) (by simp),hv]
def sg (neg:Bool) (n:Nat):Bool:=neg&&decide (n ≠ 0)
theorem se (n:Nat):decide (((ak n).length:Int)>0)=decide (n ≠ 0):=by
 by_cases h:n=0
 ·subst h; rw[bM]; simp
 ·obtain⟨-,h2⟩:=yM n h;rw[aFy (by omega),aFy h]
theorem aln (neg:Bool) (n:Nat) (k:Ky1):cond (neg==true) (k (decide (((ak n).length:Int)>0)) (ak n)) (k false (ak n))=k (sg neg n) (ak n):=by rw[se];cases neg <;> rfl
theorem tc {N:Nat} (neg:Bool) (m:List Int) (b:Bool) (hm:InW m) (hN:kp N m) (k:Ky1):Jj N neg m b k=k (sg neg (aL m)) (ak (aL m)):=by unfold Jj YX;rw[UD m hm (by have:=hN.1; omega) (by have:=hN.2; omega)];exact aln neg _ k
theorem Ba {N:Nat} (n:Nat) (hn:n<18446744073709551616) (b:Bool) (hN:kp N (ak n)) (h4:4<N) (k:Ky1):Ph N n b k=k false (ak n):=by unfold Ph Zc;rw[At n hn h4,tc false _ b (bV n) hN,aZ];rfl
def bF (g:Bool) (n:Nat):Int:=if g=true then -(n:Int)else n
def AP (z:Int) (k:Ky1):Bool:=k (decide (z<0)) (ak z.natAbs)
theorem Ax (g:Bool) (n:Nat) (k:Ky1):k (sg g n) (ak n)=AP (bF g n) k:=by
 unfold AP bF sg;cases g
 ·simp only[aGQ,aF6,aH8,aGq];rw[aFz (by omega)]
 ·simp only[aG8,aGB,aH9,aGq];congr 1;by_cases h:n=0
  ·subst h; rfl
  ·rw[aFy h,aFy (by omega)]
theorem ado (z:Int):bF (decide (z<0)) z.natAbs=z:=by
 unfold bF;by_cases h:z<0
 ·rw[aFy h]; simp; omega
 ·rw[aFz h]; simp; omega
theorem Ag {x y:Nat}:decide (iP x y>=0)=decide (y<=x):=by
 unfold iP;split
 ·rw[aFz (by omega),aFz (by omega)]
 ·split
  ·rw[aFy (by omega),aFy (by omega)]
  ·rw[aFy (by omega),aFy (by omega)]
theorem XF (g1 g2 turn:Bool) (n1 n2:Nat) (k:Ky1) :
  cond (g1==(g2 != turn)) (k (sg (g2 != turn) (n1+n2)) (ak (n1+n2))) (cond (decide (iP n1 n2>=0)) (k (sg g1 (n1 - n2)) (ak (n1 - n2))) (k (sg (g2 != turn) (n2 - n1)) (ak (n2 - n1))))
   = AP (bF g1 n1+(if turn=true then -(bF g2 n2)else bF g2 n2)) k:=by
 rw[Ax _ _ k,Ax _ _ k,Ax _ _ k,Ag];have key:∀ a b:Int,a=b->AP a k=AP b k:=λa b h=>by rw[h]
 cases g1 <;> cases g2 <;> cases turn <;> simp only[bF] <;> by_cases h:n2<=n1 <;> simp only[h,aIi,aIx,aFB,aFA,bne,aG5,aGn,aGd,aGQ,aG8,aF6,(by decide:(false==true)=false),(by decide:(true==false)=false)] <;> refine key _ _ ?_ <;> omega
theorem Xc {N:Nat} (turn b g1:Bool) (n1:Nat) (g2:Bool) (n2:Nat) (h1:kp N (ak n1)) (h2:kp N (ak n2)) (h3:kp N (ak (n1+n2))) (k:Ky1) :
  U7 N turn b g1 (ak n1) g2 (ak n2) k=AP (bF g1 n1+(if turn=true then -(bF g2 n2)else bF g2 n2)) k:=by
 unfold U7 Zg;have hs:∀ m,m<=n1+n2->kp N (ak m):=λm hm=>by have:=eF hm;exact⟨by have:=h3.1; omega,by have:=h3.2; omega⟩
 rw[adD _ _ (bV _) (bV _) h1 h2,nW _ _ h1 h2,aZ,aZ,tc _ _ _ (bV _) h3,aZ,<- XF];congr 1;by_cases h:n2<=n1
 ·rw[EL _ _ (bV _) (bV _) (by rw[aZ,aZ]; exact h) h1,aZ,aZ,tc _ _ _ (bV _) (hs _ (by omega)),aZ,Ag,aFy h];rfl
 ·rw[EL _ _ (bV n2) (bV n1) (by rw[aZ,aZ]; omega) h2,aZ,aZ,tc _ _ _ (bV _) (hs _ (by omega)),aZ,Ag,aFz h];rfl
theorem WV {N:Nat} (b g1:Bool) (n1:Nat) (g2:Bool) (n2:Nat) (h1:kp N (ak n1)) (h2:kp N (ak n2)) (h3:kp N (ak (n1+n2))) (k:Ky1) :
  U6 N b g1 (ak n1) g2 (ak n2) k=AP (bF g1 n1 - bF g2 n2) k:=by
 unfold U6 Zf;rw[Xc true b g1 n1 g2 n2 h1 h2 h3]; rfl
def aq3 (N m s:Nat):Prop:=(ak m).length+s / 32+4<N/\(ak m).length<=1099511627776/\s<4294967296/\kp N (ak (m*2 ^ s))
theorem KW {N:Nat} (s:Nat) (b g:Bool) (n:Nat) (h:aq3 N n s) (k:Ky1):Pe N s b g (ak n) k=AP (bF g (n*2 ^ s)) k:=by unfold Pe Zb;rw[adz _ (bV n) s h.2.2.1 h.1 h.2.1,aZ,tc _ _ _ (bV _) h.2.2.2,aZ,Ax _ _ k]
theorem IZ {N:Nat} (n:Nat) (hn:n<9223372036854775808) (hs:kp N (ak n)) (h4:4<N) (k:Ky1):Pm N n k=k false (ak n):=by
 unfold Pm ZG ad6 Kp Ud;have e:IntKind.wrap .u64 (n:Int)=n:=by rw[ar]; omega
 rw[aFz (by omega:¬(n:Int)<0),aFA,e,At n (by omega) h4,tc _ _ _ (bV _) hs,aZ];rfl
theorem aa6:ak 1=[1]:=by rw[fL (by decide),bM]; rfl
theorem oR (a b:Nat):Int.fdiv (a:Int) (b:Int)=((a / b:Nat):Int):=by rw[aG3 _ (by omega)]; rfl
theorem xE (N:Nat) (k:Kz0):Vo N 52 2047 1075 k=k 9223372036854775808:=by rfl
theorem rW (N:Nat) (k:Kz0):Va N 52 2047 1075 k=k 9218868437227405312:=by rfl
theorem oO (N:Nat) (k:Kz0):DG N 52 2047 1075 k=k 4503599627370496:=by rfl
theorem Gd (N:Nat) (k:Kz0):Vt N 52 2047 1075 k=k 9221120237041090561:=by unfold Vt ZR;simp only[rW,oO];exact aIH k (by decide)
theorem ai6 (N:Nat) (b:Nat) (k:Ky9):U_ N b 52 2047 1075 k=k (isNaN b):=by unfold U_ Zp;simp only[xE,rW,vF];congr 1;rw[aG9,aGX,kd];omega
def cnb (b:Nat):Nat:=if isNaN b then 9221120237041090561 else b
theorem KZ (N:Nat) (b:Nat) (k:Kz0):Pa N b 52 2047 1075 k=k (cnb b):=by unfold Pa YV;simp only[ai6,Gd,cnb];cases isNaN b <;> rfl
theorem K1 (N:Nat) (b:Nat) (k:Kx7):Px N b 52 2047 1075 k=k (aH .and .u64 (cnb b) 9223372036854775808 != 0) ((cnb b / 4503599627370496%2048:Nat):Int) ((cnb b%4503599627370496:Nat):Int):=by
 unfold Px amG;simp only[KZ,xE,oO];have e1:(2:Int) ^ (min (Int.toNat 52) 64)=((4503599627370496:Nat):Int):=by decide
 have e2:IntKind.wrap .u64 2047=((2 ^ 11 - 1:Nat):Int):=by decide
 have e3:IntKind.wrap .u64 (4503599627370496 - 1)=((2 ^ 52 - 1:Nat):Int):=by decide
 have e4:decide ((0:Int)<=52)=true:=by decide
 rw[e1,oR,e2,e3,ox _ _ (by decide),ox _ _ (by decide),e4,af (by omega) (by omega)];rfl
theorem LB (b:Nat):cls b=if (cnb b / 4503599627370496%2048)=2047 then(if cnb b%4503599627370496=0 then 2 else 1)else if cnb b / 4503599627370496%2048=0 then(if cnb b%4503599627370496=0 then 3 else 4)else 5:=by
 unfold cls cnb;by_cases h:isNaN b=true
 ·rw[if_pos h,if_pos h]; decide
 ·rw[if_neg h,if_neg h];have hn:¬(9218868437227405312<b%9223372036854775808):=λq=>h ((kd b).2 q)
  by_cases h1:b / 4503599627370496%2048=2047
  ·rw[if_pos h1,if_pos h1,if_pos (by omega)]
  ·rw[if_neg h1,if_neg h1]
theorem K0 (N:Nat) (b:Nat) (k:Kz0):Pw N b 52 2047 1075 k=k (cls b):=by
 unfold Pw amF;simp only[K1,LB b];generalize cnb b / 4503599627370496%2048=e;generalize cnb b%4503599627370496=f;have d1:((e:Int)==2047)=decide (e=2047):=by rw[aG9,aIF,aGX]; omega
 have d2:((e:Int)==0)=decide (e=0):=by rw[aG9,aIF,aGX]; omega
 have d3:((f:Int)==0)=decide (f=0):=by rw[aG9,aIF,aGX]; omega
 simp only[bne,d1,d2,d3];by_cases h1:e=2047 <;> by_cases h2:e=0 <;> by_cases h3:f=0 <;> simp[h1,h2,h3]
theorem WO (N:Nat) (b:Nat) (k:Kz0):Lk N b k=k (cls b):=by unfold Lk ZP;simp only[Jn,Ay,Gt,K0]
theorem aay (a b:Nat) (_ha:a<18446744073709551616\/True):decide ((cnb a:Int)=cnb b)=decide (cn (some a)=cn (some b)):=by
 have hq:isNaN 9221120237041090561=true:=by decide
 rw[aG9,aGX,aGX];have cf:∀ c,cn (some c)=if isNaN c=true then none else some c:=λ_=>rfl
 rw[cf,cf];unfold cnb;by_cases h1:isNaN a=true <;> by_cases h2:isNaN b=true
 ·simp[h1,h2]
 ·rw[if_pos h1,if_neg h2,if_pos h1,if_neg h2];refine⟨λh=>?_,λh=>by cases h⟩;have:b=9221120237041090561:=by omega
  rw[this]at h2; exact absurd hq h2
 ·rw[if_neg h1,if_pos h2,if_neg h1,if_pos h2];refine⟨λh=>?_,λh=>by cases h⟩;have:a=9221120237041090561:=by omega
  rw[this]at h1; exact absurd hq h1
 ·simp only[h1,h2,aF6,aFZ,aGQ]; omega
theorem ai1 (N:Nat) (b:Nat) (k:Kz2):Lm N b k=k (Nu (some b)):=by unfold Lm ZU;simp only[Jn,Pq,vF];rfl
theorem aaA (b:Bool) (k:Ky9):cond b (k true) (k false)=k b:=by cases b <;> rfl
theorem l8 {a c:Bool} (h:a=true):(a&&c)=c:=by rw[h]; rfl
def CH (N n:Nat):Prop:=n<N/\n<=17592186044416
def Gi (l:List Int):List Fl:=l.map λn=>qx n.toNat
theorem OJ {N:Nat} (l:List Int) (hl:CH N l.length) (k:Kz3):ajx N l k=k (Gi l):=by
 unfold ajx aht Pq;refine(ke (λi=>((i:Int),(l.take i).map λn=>qx n.toNat)) l.length hl.1 (λi hi K=>?_) (λK=>?_):_)
 ·have h2:=hl.2;have e1:(l.take (i+1)).map (λn=>qx n.toNat)=(l.take i).map (λn=>qx n.toNat)++[qx (l.getD i 0).toNat]:=by rw[aGM hi,aHt,List.getD_eq_getElem?_getD,List.getElem?_eq_getElem hi]; rfl
  simp only[qt,aFC];rw[C5 (by omega),aFB,l8 aFx,l8 (C5 (by simp; omega)),l8 aFw,e1];rfl
 ·simp only[qt];rw[Ej (by omega),aFA,aGe]; rfl
def gu (xs:List Fl):Bool:=JX (λi=>kA (xs.getD i none)) xs.length
theorem IW {N:Nat} (xs:List Fl) (hl:CH N xs.length) (k:Ky9):RM N xs k=k (gu xs):=by
 unfold RM ahe Pp;rw[<- aaA (gu xs) k];refine(sW (λi=>(i:Int)) (λi=>kA (xs.getD i none)) xs.length hl.1 (λi hi K=>?_) (λK=>?_):_)
 ·have h2:=hl.2;simp only[o6,aFC];rw[C5 (by omega),aFB,l8 aFx,l8 aFw];have hc:=NP (xs.getD i none);generalize H_ (xs.getD i none)=c at hc ⊢;generalize kA (xs.getD i none)=f at hc ⊢;have d1:(c==1)=decide (c=1):=rfl;have d2:(c==2)=decide (c=2):=rfl;rw[d1,d2];generalize decide (c=1)=u at *;generalize decide (c=2)=v at *;cases u <;> cases v <;> cases f <;> first | rfl | cases hc
 ·simp only[o6];rw[Ej (by omega),aFA]
def rV:Fl->Nat
 | none=>9221120237041090561
 | some b=>cnb b
theorem RC (d:Ieee.Datum) (h:d.isNaN=false):d.order d=some .eq:=by
 cases d with
 | nan s t=>cases h
 | infinity s=>simp[Ieee.Datum.order,compare,compareOfLessAndEq]
 | number s m i=>simp[Ieee.Datum.order,compare,compareOfLessAndEq]
theorem WC (b:Nat) (h:isNaN b=false):(Ieee.double.order b b==some .eq)=true:=by unfold Ieee.Format.order;rw[RC _ h]; rfl
theorem abd (b:Nat):feq (some b) (some b) = !isNaN b:=by
 cases h:isNaN b with
 | true=>simp[feq,C8,tT b h]
 | false=>simp only[feq,C8,aGd]; exact WC b h
theorem OG (N:Nat) (x:Fl) (k:Kz0):Pn N x k=k (rV x):=by
 unfold Pn ZI Lj;cases x with
 | none=>rfl
 | some b=>
  rw[abd];simp only[rV,cnb];cases isNaN b <;> rfl
theorem O1 (a b:Nat):Int.tmod (a:Int) (b:Int)=((a%b:Nat):Int):=by rw[aGo (by omega)]; rfl
theorem KY (N:Nat) (x:Fl) (k:Kx7):Li N x k=k (Int.fdiv (rV x:Int) (2 ^ 63)==1) ((rV x / 4503599627370496%2048:Nat):Int) ((rV x%4503599627370496:Nat):Int):=by
 unfold Li Zq;simp only[OG];have e1:(2:Int) ^ 52=((4503599627370496:Nat):Int):=by decide
 have e2:(2048:Int)=((2048:Nat):Int):=rfl;have e3:(4503599627370496:Int)=((4503599627370496:Nat):Int):=rfl;rw[e1,e2,e3,oR,O1,O1,af (by omega) (by omega)];rfl
theorem Ww (x:Fl):H_ x=if (rV x / 4503599627370496%2048)=2047 then(if rV x%4503599627370496=0 then 2 else 1)else if rV x / 4503599627370496%2048=0 then(if rV x%4503599627370496=0 then 3 else 4)else 5:=by
 cases x with
 | none=>decide
 | some b=>exact LB b
theorem Ka (N:Nat) (x:Fl) (k:Kz0):Vl N x k=k (H_ x):=by
 unfold Vl ZL aef ZA;simp only[KY,Ww x];generalize rV x / 4503599627370496%2048=e;generalize rV x%4503599627370496=f;have d1:((e:Int)==2047)=decide (e=2047):=by rw[aG9,aIF,aGX]; omega
 have d2:((e:Int)==0)=decide (e=0):=by rw[aG9,aIF,aGX]; omega
 have d3:((f:Int)==0)=decide (f=0):=by rw[aG9,aIF,aGX]; omega
 simp only[bne,d1,d2,d3];by_cases h1:e=2047 <;> by_cases h2:e=0 <;> by_cases h3:f=0 <;> simp[h1,h2,h3]
theorem zz (N:Nat) (x:Fl) (k:Ky9):aei N x k=k (kA x):=by
 unfold aei amk;simp only[Ka];congr 1;have h1:=NP x;have h2:=ahy x;rw[aG9,aGX];cases hf:kA x with
 | true=>
  rw[hf]at h1;simp only[aGn,Bool.or_eq_false_iff,aH0]at h1;exact⟨λ_=>rfl,λ_=>by omega⟩
 | false=>
  rw[hf]at h1;simp only[aGd,aIP,aID]at h1;exact⟨λ_=>by omega,λh=>by cases h⟩
theorem A_ {N:Nat} (xs:List Fl) (hl:CH N xs.length) (k:Ky9):O_ N xs k=k (gu xs):=by
 unfold O_ TO;rw[<- aaA (gu xs) k];refine(sW (λi=>(i:Int)) (λi=>kA (xs.getD i none)) xs.length hl.1 (λi hi K=>?_) (λK=>?_):_)
 ·have h2:=hl.2;simp only[MH,aFC,zz];rw[C5 (by omega),aFB,l8 aFx,l8 aFw];cases kA (xs.getD i none) <;> rfl
 ·simp only[MH];rw[Ej (by omega),aFA]
theorem aan (x y:Fl):((rV x:Int)==rV y)=decide (cn x=cn y):=by
 have hq:cn (some 9221120237041090561)=none:=by decide
 have hb:cnb 9221120237041090561=9221120237041090561:=by decide
 have key:∀ x,∃ a,rV x=cnb a/\cn x=cn (some a):=by
  intro x;cases x with
  | none=>exact⟨9221120237041090561,hb.symm,hq.symm⟩
  | some b=>exact⟨b,rfl,rfl⟩
 obtain⟨a,e1,e2⟩:=key x;obtain⟨b,e3,e4⟩:=key y;rw[e1,e2,e3,e4,<- aay a b (.inr aHT)];rfl
theorem L6 (N:Nat) (x y:Fl) (k:Ky9):Vc N x y k=k (decide (cn x=cn y)):=by unfold Vc Zw;simp only[OG,aan]
theorem LV {n i j:Nat} (hi:i<n) (hj:j<n):i*n+j<n*n:=by have:(i+1)*n<=n*n:=aFF n hi;rw[aF2]at this; omega
def chk (r c:Int) (xs:List Fl):Int:=if (0<=r/\r<=12)/\(0<=c/\c<=12)then(if (xs.length:Int)=r*c then(if gu xs=true then 0 else 4)else 3)else 1
theorem ajj {r c:Int} (hr:0<=r/\r<=12) (hc:0<=c/\c<=12):aj .i64 (r*c)=true:=by have h1:0<=r*c:=Int.mul_nonneg hr.1 hc.1;have h2:r*c<=12*12:=Int.mul_le_mul hr.2 hc.2 hc.1 (by decide);exact af (by omega) (by omega)
theorem yG {r c:Int} {xs:List Fl}:chk r c xs=0↔((0<=r/\r<=12)/\(0<=c/\c<=12))/\(xs.length:Int)=r*c/\gu xs=true:=by
 unfold chk;split
 ·split
  ·split
   ·simp[*]
   ·simp[*]
  ·simp[*]
 ·simp[*]
def elt (xs:List Fl) (n i j:Nat):Fl:=xs.getD (i*n+j) none
theorem UM (V x Bk bk i k:Nat):V%4294967296 ^ (i+k+1)+x*(Bk+4294967296 ^ k*bk)*4294967296 ^ i=(V%4294967296 ^ (i+k)+x*Bk*4294967296 ^ i)+4294967296 ^ (i+k)*(V / 4294967296 ^ (i+k)%4294967296+x*bk):=by rw[Nat.mod_pow_succ,aFS];grind
theorem QD (V x Bk bk i k:Nat):(V%4294967296 ^ (i+k+1)+x*(Bk+4294967296 ^ k*bk)*4294967296 ^ i) / 4294967296 ^ (i+k+1)=((V%4294967296 ^ (i+k)+x*Bk*4294967296 ^ i) / 4294967296 ^ (i+k)+V / 4294967296 ^ (i+k)%4294967296+x*bk) / 4294967296:=by rw[UM,aFL,<- aFG,aGr _ _ (aGE (by decide)),aGf]
theorem NM (V x Bk bk i k R:Nat):(V+x*(Bk+4294967296 ^ k*bk+4294967296 ^ (k+1)*R)*4294967296 ^ i) / 4294967296 ^ (i+k)%4294967296=((V%4294967296 ^ (i+k)+x*Bk*4294967296 ^ i) / 4294967296 ^ (i+k)+V / 4294967296 ^ (i+k)%4294967296+x*bk)%4294967296:=by
 have e:V+x*(Bk+4294967296 ^ k*bk+4294967296 ^ (k+1)*R)*4294967296 ^ i=(V%4294967296 ^ (i+k+1)+x*(Bk+4294967296 ^ k*bk)*4294967296 ^ i)+4294967296 ^ (i+k+1)*(V / 4294967296 ^ (i+k+1)+x*R):=by
  have h:=aGv V (4294967296 ^ (i+k+1));have h2:4294967296 ^ (i+k+1)=4294967296 ^ (k+1)*4294967296 ^ i:=by rw[<- aFS]; congr 1; omega
  generalize V / 4294967296 ^ (i+k+1)=q at *;generalize V%4294967296 ^ (i+k+1)=r at *;rw[<- h,h2];grind
 rw[qy e,UM,aGr _ _ (aGE (by decide)),aGf]
theorem aau {V x Bk i k:Nat} (hx:x<4294967296) (hB:Bk<4294967296 ^ k):(V%4294967296 ^ (i+k)+x*Bk*4294967296 ^ i) / 4294967296 ^ (i+k)<4294967296:=by
 rw[aFI (aGE (by decide))];have h1:V%4294967296 ^ (i+k)<4294967296 ^ (i+k):=aFO _ (aGE (by decide));have h2:x*Bk<=4294967295*4294967296 ^ k:=aGu (by omega) (by omega);have h3:x*Bk*4294967296 ^ i<=4294967295*4294967296 ^ (i+k):=by
  have:=aFF (4294967296 ^ i) h2
  rwa [aFK 4294967295,<- aFS,aHp k i]at this
 omega
theorem Ai (S:Nat) {L i:Nat} (h:i<L):(dl S L).getD i 0=((S / 4294967296 ^ i%4294967296:Nat):Int):=by
 induction L with
 | zero=>omega
 | succ L ih=>
  show((dl S L)++[_]).getD i 0=_;rw[List.getD_eq_getElem?_getD];by_cases hi:i<L
  ·rw[List.getElem?_append_left (by rw[am]; exact hi),<- List.getD_eq_getElem?_getD,ih hi]
  ·have:i=L:=by omega
   subst this;rw[List.getElem?_append_right (by rw[am]; exact aFM _),am,aF9]; rfl
theorem g8 {l:List Int} {n:Nat} (h:n<l.length):l.drop n=l.getD n 0::l.drop (n+1):=by rw[List.drop_eq_getElem_cons h,List.getD_eq_getElem?_getD,List.getElem?_eq_getElem h]; rfl
theorem xG {b:List Int} {k:Nat}:aL (b.take (k+1))=aL (b.take k)+4294967296 ^ k*(b.getD k 0).toNat:=bd k
theorem Iq (U V L p:Nat) (h:p<L):(dl U p++(dl V L).drop p).set p ((U / 4294967296 ^ p%4294967296:Nat):Int)=dl U (p+1)++(dl V L).drop (p+1):=by rw[g8 (by rw[am]; exact h),bT _ _ _ _ _ (by rw[am])];show _=(dl U p++[_])++_;rw[aFR]; rfl
theorem QI (U V L p:Nat) (h:p<L):(dl U p++(dl V L).drop p).getD p 0=((V / 4294967296 ^ p%4294967296:Nat):Int):=by rw[g8 (by rw[am]; exact h),eG (by rw[am]),Ai V h]
theorem Ip (U V L p:Nat) (h:p<=L):(dl U p++(dl V L).drop p).length=L:=by simp[am]; omega
theorem WA {U L p:Nat} (hU:U<4294967296 ^ p) (h:p<=L) {V:Nat} (hV:V<4294967296 ^ p):dl U p++(dl V L).drop p=dl U L:=by
 induction L with
 | zero=>
  have:p=0:=by omega
  subst this; rfl
 | succ L ih=>
  by_cases hp:p=L+1
  ·subst hp; rw[aGi (by rw[am]; omega),aF7]
  ·have hpL:p<=L:=by omega
   have e:∀ X,X<4294967296 ^ p->dl X (L+1)=dl X L++[0]:=by intro X hX;show dl X L++[((X / 4294967296 ^ L%4294967296:Nat):Int)]=_;rw[aF4 (aFT hX (aFP (by decide) hpL))]; rfl
   rw[e V hV,e U hU,aGx (by rw[am]; exact hpL),<- aFR,ih hpL]
theorem Ci {a:List Int} (ha:InW a) (i:Nat):aL (a.take i)<4294967296 ^ i:=ch ha i
theorem Ch {x y i j:Nat} (hx:x<4294967296 ^ i) (hy:y<4294967296 ^ j):x*y<4294967296 ^ (i+j):=by rw[aFS];exact aIM hx hy
theorem EN {N:Nat} (a b:List Int) (ha:InW a) (hb:InW b) (hN:a.length+b.length+2<N) (hs:a.length+b.length<=17592186044416) (k:Kz4):DD N a b k=k (ak (aL a*aL b)):=by
  unfold DD TR;have eL:Int.toNat (((a.length:Nat):Int)+((b.length:Nat):Int))=a.length+b.length:=by omega
  rw[ac aFw,ac (iy (by omega) (by omega) (by omega) (by omega)),eL]
  let L:=a.length+b.length
  let B:=aL b
  have hB:B<4294967296 ^ b.length:=jX hb;refine aS (λi=>((i:Int),dl (aL (a.take i)*B) L)) a.length ?_ (by omega) (λi hi K=>?_) (λK=>?_)
  · show((0:Int),List.replicate L (0:Int))=(((0:Nat):Int),dl (aL (a.take 0)*B) L)
    have:=BZ L 0;rw[aGU]at this;rw[aHP,show aL []=0 from rfl,aG4,this]; rfl
  · simp only[pb]
    rw[aFy (by omega:(i:Int)<a.length),aFB];have hx:=ha.at (i:=i)
    let V:=aL (a.take i)*B
    let x:=(a.getD i 0).toNat
    let U:=aL (a.take (i+1))*B
    have hU:U=V+x*B*4294967296 ^ i:=by simp only[U,V,x];rw[xG];grind
    have hV:V<4294967296 ^ (i+b.length):=Ch (Ci ha i) hB;have hUl:U<4294967296 ^ (i+1+b.length):=Ch (Ci ha (i+1)) hB
    let c:=λj=>(V%4294967296 ^ (i+j)+x*aL (b.take j)*4294967296 ^ i) / 4294967296 ^ (i+j)
    refine aS (λj=>(((c j:Nat):Int),(j:Int),dl U (i+j)++(dl V L).drop (i+j))) b.length ?_ (by omega) (λj hj K'=>?_) (λK'=>?_)
    · show((0:Int),(0:Int),dl V L)=_
      have h0:c 0=0:=by simp only[c,aHP,show aL []=0 from rfl,aGU,aG4,aF5];exact aF4 (aFO _ (aGE (by decide)))
      have hlow:dl U i=dl V i:=by
        have:∀ n,n<=i->dl U n=dl V n:=by
          intro n;induction n with
          | zero=>intro _; rfl
          | succ n ih=>
            intro hn;show dl U n++[_]=dl V n++[_];rw[ih (by omega)];congr 3;have:U=V+4294967296 ^ (n+1)*(x*B*4294967296 ^ (i - (n+1))):=by rw[hU,aF0,<- aFS,show n+1+(i - (n+1))=i by omega]
            exact qy this
        exact this i (aFM _)
      have hsp:dl V i++(dl V L).drop i=dl V L:=by
        have:∀ n,i<=n->dl V i++(dl V n).drop i=dl V n:=by
          intro n;induction n with
          | zero=>intro h; have:i=0:=(by omega); subst this; rfl
          | succ n ih=>
            intro h;by_cases hn:i=n+1
            · subst hn; rw[aGi (by rw[am]; omega),aF7]
            · show dl V i++(dl V n++[_]).drop i=dl V n++[_]
              rw[aGx (by rw[am]; omega),<- aFR,ih (by omega)]
        exact this L (by simp only[L]; omega)
      rw[h0,aF5,hlow,hsp]; rfl
    · have hy:=hb.at (i:=j)
      have hp:i+j<L:=by simp only[L]; omega
      have hlen:=Ip U V L (i+j) (by omega);have hget:=QI U V L (i+j) hp;have hset:=Iq U V L (i+j) hp;have hc:=aau (V:=V) (x:=x) (i:=i) (k:=j) (Bk:=aL (b.take j)) (by simp only[x]; omega) (Ci hb j);have hstep:=QD V x (aL (b.take j)) (b.getD j 0).toNat i j;obtain⟨R,hR⟩:=eI b (j+1);have hdig:=NM V x (aL (b.take j)) (b.getD j 0).toNat i j R;rw[<- xG]at hstep hdig;rw[<- hR]at hdig;have hUe:V+x*aL b*4294967296 ^ i=U:=hU.symm;rw[hUe]at hdig;have hxy:x*(b.getD j 0).toNat<=4294967295*4294967295:=aGu (by simp only[x]; omega) (by omega);have eidx:Int.toNat ((i:Int)+(j:Int))=i+j:=by omega
      have hcj:∀ n,c n=(V%4294967296 ^ (i+n)+x*aL (b.take n)*4294967296 ^ i) / 4294967296 ^ (i+n):=λ_=>rfl
      have hax:a.getD i 0=(x:Int):=by simp only[x]; omega
      have hby:b.getD j 0=((b.getD j 0).toNat:Int):=by omega
      simp only[pc,aFC,eidx,hlen,hget];rw[aFy (by omega:(j:Int)<b.length),aFB,ac aFx,ac aFx,ac aFw,ac aFx,ac (aFy (by omega)),ac aFw,ac aFx,ac (aFy (by omega)),ac aFw];have ec1:c (j+1)=(c j+V / 4294967296 ^ (i+j)%4294967296+x*(b.getD j 0).toNat) / 4294967296:=hstep;have ed:U / 4294967296 ^ (i+j)%4294967296=(c j+V / 4294967296 ^ (i+j)%4294967296+x*(b.getD j 0).toNat)%4294967296:=hdig;have hcl:c j<4294967296:=hc;rw[ed]at hset;have vlt:V / 4294967296 ^ (i+j)%4294967296<4294967296:=aFO _ (by decide);rw[hax,hby,show i+(j+1)=i+j+1 by omega,<- hset];generalize V / 4294967296 ^ (i+j)%4294967296=v at *;generalize (b.getD j 0).toNat=y at *;generalize dl U (i+j)++(dl V L).drop (i+j)=l at *;have et:∀ q:Nat,q=c j+v+x*y->IntKind.wrap .u64 ((IntKind.wrap .u64 ((IntKind.wrap .u64 ((IntKind.wrap .u64 (x:Int))*(IntKind.wrap .u64 (y:Int))))+(IntKind.wrap .u64 (v:Int))))+((c j:Nat):Int))=(q:Int):=by
        intro q hq;have exy:((x:Int))*(y:Int)=((x*y:Nat):Int):=by rw[aFV]
        have hxl:x<4294967296:=by simp only[x]; omega
        have hyl:y<4294967296:=by omega
        have w1:IntKind.wrap .u64 (x:Int)=x:=by rw[ar]; omega
        have w2:IntKind.wrap .u64 (y:Int)=y:=by rw[ar]; omega
        rw[w1,w2,exy,ar,ar,ar,ar];omega
      rw[et _ rfl,ec1,oB,il];congr 1
    · simp only[pc]
      rw[aFz (by omega:¬(b.length:Int)<b.length),aFA];have hlen:=Ip U V L (i+b.length) (by simp only[L]; omega);have hset:=Iq U V L (i+b.length) (by simp only[L]; omega);have eidx:Int.toNat ((i:Int)+(b.length:Int))=i+b.length:=by omega
      have hLe:i+b.length<L:=by simp only[L]; omega
      have hc:c b.length=U / 4294967296 ^ (i+b.length):=by simp only[c];rw[aGe,aFJ hV,hU]
      have hcl:U / 4294967296 ^ (i+b.length)<4294967296:=by
        rw[aFI (aGE (by decide))];have:i+1+b.length=i+b.length+1:=by omega
        rw[this,aFL]at hUl;omega
      have ew:IntKind.wrap .u32 ((c b.length:Nat):Int)=((U / 4294967296 ^ (i+b.length)%4294967296:Nat):Int):=by rw[il,hc]; omega
      have hfin:=WA (U:=U) (V:=V) (L:=L) (p:=i+b.length+1) (by rw[show i+b.length+1=i+1+b.length by omega]; exact hUl) (by omega) (aFT hV (aFP (by decide) (by omega)));rw[ac aFw,eidx,hlen,ac aFx,ac (aFy (by omega)),ac aFw,ew,hset,hfin];rfl
  · simp only[pb]
    rw[aFz (by omega:¬(a.length:Int)<a.length),aFA,aGe,ix _ (mY _ _) (by rw[am]; simp only[L]; omega) (by rw[am]; simp only[L]; omega)];rw[wP (Ch (jX ha) hB)]
theorem i0o (g h:Bool) (m n:Nat):bF (g != h) (m*n)=bF g m*bF h n:=by unfold bF;rw[aFV];cases g <;> cases h <;> simp[aII,aIr]
theorem NY (n:Nat):d8 (ak n) (ak n).length=(ak n).length:=by
 have ht:(ak n).take (d8 (ak n) (ak n).length)=ak n:=by rw[z8 (bV n),aZ]
 have hc:=nU (ak n) (ak n).length;have:=aIH List.length ht;rw[aGc]at this; omega
theorem aje (g:Bool) (n:Nat) (k:Ky1):cond ((!g)==true) (k (decide (((ak n).length:Int)>0)) (ak n)) (k false (ak n))=AP (-(bF g n)) k:=by rw[aln,Ax _ _ k];congr 1;unfold bF; cases g <;> simp
theorem KX {N:Nat} (g:Bool) (n:Nat) (hN:kp N (ak n)) (k:Ky1):Vd N g (ak n) k=AP (-(bF g n)) k:=by unfold Vd Zx aeg ZB;obtain⟨h1,h2⟩:=hN;rw[aGk,aFy (by omega),aGB,p_ _ (by omega) (by omega),NY];simp only[aG1,aGe];rw[aFy (by omega:0+(ak n).length<=(ak n).length),aGB];exact aje g n k
def bv (B:Nat) (n:Nat):Prop:=n<2 ^ B
theorem gd:∀(j n:Nat),n<4294967296 ^ j->(ak n).length<=j
 | 0,n,h=>by
  have:n=0:=by simp at h; exact h
  subst this; rw[bM]; exact aFM _
 | j+1,n,h=>by
  by_cases h0:n=0
  ·subst h0; rw[bM]; simp
  ·rw[fL h0,aGb];have:n / 4294967296<4294967296 ^ j:=aHr (by rw[aFL]at h; omega);have:=gd j _ this;omega
theorem aqU (j:Nat):4294967296 ^ j=2 ^ (32*j):=by rw[aIq]
theorem H8 {B n:Nat} (h:bv B n):(ak n).length<=B / 32+1:=by refine gd _ _ ?_;rw[aqU];exact aFT h (aFP (by decide) (by omega))
theorem QA {N B n:Nat} (hN:1000<=N) (hB:B<=31000) (h:bv B n):kp N (ak n):=by have:=H8 h;exact⟨by omega,by omega⟩
theorem dU {A B n:Nat} (h:bv A n) (hAB:A<=B):bv B n:=aFT h (aFP (by decide) hAB)
theorem iO {A B m n:Nat} (h:bv A m) (g:bv B n):bv (A+B) (m*n):=by unfold bv; rw[aFS]; exact aIM h g
theorem BT {A m:Nat} (h:bv A m) (s:Nat):bv (A+s) (m*2 ^ s):=by unfold bv; rw[aFS]; exact aGl h (aFN s)
theorem C1 {A m n:Nat} (h:bv A m) (g:bv A n):bv (A+1) (m+n):=by unfold bv at *; rw[aFL]; omega
theorem qm {A m n:Nat} (h:bv A m) (g:n<=m):bv A n:=aG_ g h
theorem KB {N B n s:Nat} (hN:1000<=N) (hB:B+s<=31000) (h:bv B n):aq3 N n s:=by have h1:=H8 h;exact⟨by omega,by omega,by omega,QA hN hB (BT h s)⟩
def exK (z:Int × Int) (k:Int->Bool->List Int->Bool):Bool:=k z.1 (decide (z.2<0)) (ak z.2.natAbs)
def Fv (x y:Int × Int):Int × Int:=(x.1+y.1,x.2*y.2)
def ak1 (x:Int × Int):Int × Int:=(x.1,-x.2)
def yR (x:Int × Int) (e:Int):Int:=x.2*2 ^ (x.1 - e).toNat
def Ut (x y:Int × Int):Int × Int:=if x.2=0 then y else if y.2=0 then x else(min x.1 y.1,yR x (min x.1 y.1)+yR y (min x.1 y.1))
def Ex (E B:Nat) (x:Int × Int):Prop:=-(E:Int)<=x.1/\x.1<=E/\bv B x.2.natAbs
def DL (z:Int):Int:=if z=0 then 0 else if z<0 then -1 else 1
def ax:List Int->Nat
 | []=>0
 | x::r=>x.toNat+18446744073709551616*ax r
def InWq (m:List Int):Prop:=∀ x ∈ m,0<=x/\x<18446744073709551616
def ai (n:Nat):List Int:=if h:n=0 then[]else((n%18446744073709551616:Nat):Int)::ai (n / 18446744073709551616)
termination_by n
decreasing_by omega
theorem bW:ai 0=[]:=by rw[ai]; simp
theorem eB {n:Nat} (h:n ≠ 0):ai n=((n%18446744073709551616:Nat):Int)::ai (n / 18446744073709551616):=by rw[ai]; simp[h]
theorem bE:∀ n,InWq (ai n):=by
 intro n;induction n using Nat.strongRecOn with
 | ind n ih=>
  by_cases h:n=0
  ·subst h; rw[bW]; intro x hx; cases hx
  ·rw[eB h];intro x hx;rcases List.mem_cons.1 hx with rfl | hx
   ·omega
   ·exact ih (n / 18446744073709551616) (by omega) x hx
theorem aK:∀ n,ax (ai n)=n:=by
 intro n;induction n using Nat.strongRecOn with
 | ind n ih=>
  by_cases h:n=0
  ·subst h; rw[bW]; rfl
  ·rw[eB h,ax,ih (n / 18446744073709551616) (by omega),aFC];omega
theorem sI (a b:List Int):ax (a++b)=ax a+18446744073709551616 ^ a.length*ax b:=by
 induction a with
 | nil=>simp[ax]
 | cons x r ih=>
  rw[aHh,ax,ih,ax,aGb,aFL,aFQ,aFD (18446744073709551616 ^ r.length) 18446744073709551616,aFK];omega
theorem InWq.take {m:List Int} (h:InWq m) (n:Nat):InWq (m.take n):=λx hx=>h x (aHM hx)
theorem InWq.drop {m:List Int} (h:InWq m) (n:Nat):InWq (m.drop n):=λx hx=>h x (aIg hx)
theorem InWq.cons {x:Int} {m:List Int} (h:InWq (x::m)):(0<=x/\x<18446744073709551616)/\InWq m:=⟨h x (by simp),λy hy=>h y (by simp[hy])⟩
theorem InWq.at {m:List Int} (h:InWq m) {i:Nat}:0<=m.getD i 0/\m.getD i 0<18446744073709551616:=by
 rw[List.getD_eq_getElem?_getD];by_cases hi:i<m.length
 ·rw[List.getElem?_eq_getElem hi]; exact h _ (aGP hi)
 ·rw[List.getElem?_eq_none (by omega)]; exact⟨by decide,by decide⟩
theorem mh:∀{m:List Int},InWq m->ax m<18446744073709551616 ^ m.length
 | [],_=>by simp[ax]
 | x::r,h=>by have ih:=mh h.cons.2;have hx:=h.cons.1;rw[ax,aGb,aFL];have:ax r+1<=18446744073709551616 ^ r.length:=ih;have:=aFF 18446744073709551616 this;omega
theorem Il:∀{m:List Int},InWq m->(∀ x,m.getLast? = some x->x ≠ 0)->ai (ax m)=m
 | [],_,_=>bW
 | [x],h,hl=>by
  have hx:=h.cons.1;have h0:x ≠ 0:=hl x rfl;have e:ax [x]=x.toNat:=by simp[ax]
  rw[e,eB (by omega),aF4 (by omega),bW,aFJ (by omega),aHU hx.1]
 | x::y::r,h,hl=>by
  have hx:=h.cons.1;have ih:=Il h.cons.2 (λz hz=>hl z (by rw[List.getLast?_cons_cons]; exact hz));have hne:ax (y::r) ≠ 0:=by intro h0;rw[h0,bW]at ih; cases ih
  have e1:ax (x::y::r)=x.toNat+18446744073709551616*ax (y::r):=rfl;rw[e1,eB (by omega)];have e2:(x.toNat+18446744073709551616*ax (y::r))%18446744073709551616=x.toNat:=by omega
  have e3:(x.toNat+18446744073709551616*ax (y::r)) / 18446744073709551616=ax (y::r):=by omega
  rw[e2,e3,ih,aHU hx.1]
theorem Gg {m:List Int} {i:Nat} (hi:i<m.length):ax (m.take (i+1))=ax (m.take i)+18446744073709551616 ^ i*(m.getD i 0).toNat:=by rw[aGM hi,sI,aGc,aGY (by omega),List.getD_eq_getElem?_getD,List.getElem?_eq_getElem hi];simp[ax]
theorem Gf (n:Nat):ax (List.replicate n 0)=0:=by
 induction n with
 | zero=>rfl
 | succ n ih=>rw[aGh,ax,ih]; rfl
def dlq (S:Nat):Nat->List Int
 | 0=>[]
 | n+1=>dlq S n++[((S / 18446744073709551616 ^ n%18446744073709551616:Nat):Int)]
theorem al (S:Nat):∀ n,(dlq S n).length=n
 | 0=>rfl
 | n+1=>by simp[dlq,al S n]
theorem lC (S:Nat):∀ n,InWq (dlq S n)
 | 0=>λx hx=>by cases hx
 | n+1=>λx hx=>by
  rcases List.mem_append.1 hx with h | h
  ·exact lC S n x h
  ·simp only[aIy]at h;subst h;omega
theorem wb (S:Nat):∀ n,ax (dlq S n)=S%18446744073709551616 ^ n
 | 0=>by simp[dlq,ax,aIn]
 | n+1=>by rw[dlq,sI,al,wb S n,aFL,aIo];simp only[ax,aFC,aGU,aF5]
theorem Aj (S n m:Nat) (h:n<m):(dlq S n++List.replicate (m - n) 0).set n ((S / 18446744073709551616 ^ n%18446744073709551616:Nat):Int)=dlq S (n+1)++List.replicate (m - (n+1)) 0:=by
 rw[aHF _ _ (by rw[al]; exact aFM _),al,aF9];have:m - n=(m - (n+1))+1:=by omega
 rw[this,aGh];simp[dlq]
theorem qz {S n:Nat} (h:S<18446744073709551616 ^ n):ai (ax (dlq S n))=ai S:=by rw[wb,aFJ h]
theorem ba {m:List Int} (i:Nat):ax (m.take (i+1))=ax (m.take i)+18446744073709551616 ^ i*(m.getD i 0).toNat:=by
 by_cases h:i<m.length
 ·exact Gg h
 ·rw[ji (by omega),aFW (by omega),aFW (by omega)]; simp
theorem wN (b:List Int):∀ n,ax (b.take (d8 b n))=ax (b.take n)
 | 0=>rfl
 | n+1=>by
  unfold d8;split
  ·rename_i h;rw[wN b n,ba,h]; simp
  ·rfl
theorem D0 {b:List Int} (hb:InWq b):b.take (d8 b b.length)=ai (ax b):=by have h1:=wN b b.length;rw[aGe]at h1;rw[<- h1,Il (hb.take _) (yJ b b.length (aFM _))]
theorem gF (T A i:Nat):(T+18446744073709551616 ^ i*A) / 18446744073709551616 ^ i=T / 18446744073709551616 ^ i+A:=aGr _ _ (aGE (by decide))
theorem O0 (m:List Int) (i:Nat):ax m=ax (m.take i)+18446744073709551616 ^ (m.take i).length*ax (m.drop i):=by rw[<- sI,aHE]
theorem di (m:List Int) (i:Nat):∃ R,ax m=ax (m.take i)+18446744073709551616 ^ i*R:=by
 by_cases h:i<=m.length
 ·refine⟨ax (m.drop i),?_⟩;have:=O0 m i
  rwa [aGc,aGY h]at this
 ·exact⟨0,by rw[aFW (by omega)]; simp⟩
theorem be {m:List Int} (h:InWq m) (i:Nat):ax (m.take i)<18446744073709551616 ^ i:=by
 have h1:=mh (h.take i);have h2:(m.take i).length<=i:=by simp; omega
 exact aFT h1 (aFP (by decide) h2)
theorem mv {S T R i:Nat} (h:S=T+18446744073709551616 ^ (i+1)*R):S / 18446744073709551616 ^ i%18446744073709551616=T / 18446744073709551616 ^ i%18446744073709551616:=by rw[h,aFL,aFK,gF,aGL]
theorem RE (i:Nat):0<18446744073709551616 ^ i:=aGE (by decide)
theorem KI {P A B x y o R1 R2 D a b:Nat} (hA:A<P) (hB:B<P) (ho:o=if A<B then 1 else 0) (h1:a=A+P*x+P*18446744073709551616*R1) (h2:b=B+P*y+P*18446744073709551616*R2) (hD:(D:Int)=(a:Int) - (b:Int)) :
  ((D / P:Nat):Int)=(x:Int) - (y:Int) - (o:Int)+18446744073709551616*((R1:Int) - (R2:Int)):=by
 have he:∃ e:Nat,e<P/\(e:Int)=(A:Int) - (B:Int)+(P:Int)*(o:Int):=by
  rw[ho];split
  ·exact⟨A+P - B,by omega,by omega⟩
  ·exact⟨A - B,by omega,by omega⟩
 obtain⟨e,he1,he2⟩:=he;refine IK (e:=e) ?_ he1;have e1:(a:Int)=A+(P:Int)*x+18446744073709551616*((P:Int)*R1):=by rw[h1,aFK,aF0]; simp
 have e2:(b:Int)=B+(P:Int)*y+18446744073709551616*((P:Int)*R2):=by rw[h2,aFK,aF0]; simp
 have e3:(P:Int)*((x:Int) - (y:Int) - (o:Int)+18446744073709551616*((R1:Int) - (R2:Int)))=(P:Int)*x - (P:Int)*y - (P:Int)*o+(18446744073709551616*((P:Int)*R1) - 18446744073709551616*((P:Int)*R2)):=by rw[Int.mul_add,aHV,aHV,Int.mul_left_comm,aHV,aHV]
 rw[hD,e1,e2,e3,he2];omega
theorem ii {x y:Nat} (h:x<=y):(ai x).length<=(ai y).length:=by
 induction y using Nat.strongRecOn generalizing x with
 | ind y ih=>
  by_cases hx:x=0
  ·subst hx; rw[bW]; simp
  ·rw[eB hx,eB (by omega:y ≠ 0)];simp only[aGb];have:=ih (y / 18446744073709551616) (by omega) (x:=x / 18446744073709551616) (aHN h);omega
theorem yO:∀(w X:Nat),dlq (18446744073709551616 ^ w*X) w=List.replicate w 0:=by
 intro w;have key:∀ n,n<=w -> ∀ X,dlq (18446744073709551616 ^ w*X) n=List.replicate n 0:=by
  intro n;induction n with
  | zero=>intro _ X; rfl
  | succ n ih=>
   intro hn X;rw[dlq,ih (by omega),aHb];have e:18446744073709551616 ^ w*X=18446744073709551616 ^ n*(18446744073709551616*(18446744073709551616 ^ (w - n - 1)*X)):=by rw[<- aFK,<- aFK,<- aFL,<- aFS];congr 2; omega
   rw[e,aF8 _ (RE n),aIE];rfl
 exact key w (aFM _)
theorem kz:∀(j n:Nat),n<18446744073709551616 ^ j->(ai n).length<=j
 | 0,n,h=>by
  have:n=0:=by simp at h; exact h
  subst this; rw[bW]; exact aFM _
 | j+1,n,h=>by
  by_cases h0:n=0
  ·subst h0; rw[bW]; simp
  ·rw[eB h0,aGb];have:n / 18446744073709551616<18446744073709551616 ^ j:=aHr (by rw[aFL]at h; omega);have:=kz j _ this;omega
theorem OZ (V x Bk bk i k:Nat):V%18446744073709551616 ^ (i+k+1)+x*(Bk+18446744073709551616 ^ k*bk)*18446744073709551616 ^ i=(V%18446744073709551616 ^ (i+k)+x*Bk*18446744073709551616 ^ i)+18446744073709551616 ^ (i+k)*(V / 18446744073709551616 ^ (i+k)%18446744073709551616+x*bk):=by rw[Nat.mod_pow_succ,aFS];grind
theorem NN (V x Bk bk i k:Nat):(V%18446744073709551616 ^ (i+k+1)+x*(Bk+18446744073709551616 ^ k*bk)*18446744073709551616 ^ i) / 18446744073709551616 ^ (i+k+1)=((V%18446744073709551616 ^ (i+k)+x*Bk*18446744073709551616 ^ i) / 18446744073709551616 ^ (i+k)+V / 18446744073709551616 ^ (i+k)%18446744073709551616+x*bk) / 18446744073709551616:=by rw[OZ,aFL,<- aFG,aGr _ _ (aGE (by decide)),aGf]
theorem Lz (V x Bk bk i k R:Nat):(V+x*(Bk+18446744073709551616 ^ k*bk+18446744073709551616 ^ (k+1)*R)*18446744073709551616 ^ i) / 18446744073709551616 ^ (i+k)%18446744073709551616=((V%18446744073709551616 ^ (i+k)+x*Bk*18446744073709551616 ^ i) / 18446744073709551616 ^ (i+k)+V / 18446744073709551616 ^ (i+k)%18446744073709551616+x*bk)%18446744073709551616:=by
 have e:V+x*(Bk+18446744073709551616 ^ k*bk+18446744073709551616 ^ (k+1)*R)*18446744073709551616 ^ i=(V%18446744073709551616 ^ (i+k+1)+x*(Bk+18446744073709551616 ^ k*bk)*18446744073709551616 ^ i)+18446744073709551616 ^ (i+k+1)*(V / 18446744073709551616 ^ (i+k+1)+x*R):=by
  have h:=aGv V (18446744073709551616 ^ (i+k+1));have h2:18446744073709551616 ^ (i+k+1)=18446744073709551616 ^ (k+1)*18446744073709551616 ^ i:=by rw[<- aFS]; congr 1; omega
  generalize V / 18446744073709551616 ^ (i+k+1)=q at *;generalize V%18446744073709551616 ^ (i+k+1)=r at *;rw[<- h,h2];grind
 rw[mv e,OZ,aGr _ _ (aGE (by decide)),aGf]
theorem Wv {V x Bk i k:Nat} (hx:x<18446744073709551616) (hB:Bk<18446744073709551616 ^ k):(V%18446744073709551616 ^ (i+k)+x*Bk*18446744073709551616 ^ i) / 18446744073709551616 ^ (i+k)<18446744073709551616:=by
 rw[aFI (aGE (by decide))];have h1:V%18446744073709551616 ^ (i+k)<18446744073709551616 ^ (i+k):=aFO _ (aGE (by decide));have h2:x*Bk<=18446744073709551615*18446744073709551616 ^ k:=aGu (by omega) (by omega);have h3:x*Bk*18446744073709551616 ^ i<=18446744073709551615*18446744073709551616 ^ (i+k):=by
  have:=aFF (18446744073709551616 ^ i) h2
  rwa [aFK 18446744073709551615,<- aFS,aHp k i]at this
 omega
theorem yN (S:Nat) {L i:Nat} (h:i<L):(dlq S L).getD i 0=((S / 18446744073709551616 ^ i%18446744073709551616:Nat):Int):=by
 induction L with
 | zero=>omega
 | succ L ih=>
  show((dlq S L)++[_]).getD i 0=_;rw[List.getD_eq_getElem?_getD];by_cases hi:i<L
  ·rw[List.getElem?_append_left (by rw[al]; exact hi),<- List.getD_eq_getElem?_getD,ih hi]
  ·have:i=L:=by omega
   subst this;rw[List.getElem?_append_right (by rw[al]; exact aFM _),al,aF9]; rfl
theorem wc {b:List Int} {k:Nat}:ax (b.take (k+1))=ax (b.take k)+18446744073709551616 ^ k*(b.getD k 0).toNat:=ba k
theorem Ft (U V L p:Nat) (h:p<L):(dlq U p++(dlq V L).drop p).set p ((U / 18446744073709551616 ^ p%18446744073709551616:Nat):Int)=dlq U (p+1)++(dlq V L).drop (p+1):=by rw[g8 (by rw[al]; exact h),bT _ _ _ _ _ (by rw[al])];show _=(dlq U p++[_])++_;rw[aFR]; rfl
theorem Oi (U V L p:Nat) (h:p<L):(dlq U p++(dlq V L).drop p).getD p 0=((V / 18446744073709551616 ^ p%18446744073709551616:Nat):Int):=by rw[g8 (by rw[al]; exact h),eG (by rw[al]),yN V h]
theorem Fr (U V L p:Nat) (h:p<=L):(dlq U p++(dlq V L).drop p).length=L:=by simp[al]; omega
theorem QH {U L p:Nat} (hU:U<18446744073709551616 ^ p) (h:p<=L) {V:Nat} (hV:V<18446744073709551616 ^ p):dlq U p++(dlq V L).drop p=dlq U L:=by
 induction L with
 | zero=>
  have:p=0:=by omega
  subst this; rfl
 | succ L ih=>
  by_cases hp:p=L+1
  ·subst hp; rw[aGi (by rw[al]; omega),aF7]
  ·have hpL:p<=L:=by omega
   have e:∀ X,X<18446744073709551616 ^ p->dlq X (L+1)=dlq X L++[0]:=by intro X hX;show dlq X L++[((X / 18446744073709551616 ^ L%18446744073709551616:Nat):Int)]=_;rw[aF4 (aFT hX (aFP (by decide) hpL))]; rfl
   rw[e V hV,e U hU,aGx (by rw[al]; exact hpL),<- aFR,ih hpL]
theorem zC {a:List Int} (ha:InWq a) (i:Nat):ax (a.take i)<18446744073709551616 ^ i:=be ha i
theorem zA {x y i j:Nat} (hx:x<18446744073709551616 ^ i) (hy:y<18446744073709551616 ^ j):x*y<18446744073709551616 ^ (i+j):=by rw[aFS];exact aIM hx hy
def pN (N:Nat) (l:List Int):Prop:=l.length+3<N/\l.length<=1099511627776
theorem I4 {N:Nat} (b:List Int) (hN:b.length<N) (hs:b.length<9223372036854775807) (k:Kz1):sQ9 N b k=k (d8 b b.length):=by
 unfold sQ9 GQ9;have key:∀ n,n<=b.length -> ∀ M,n<M->ah M (Cs N b λn_1=>((decide (0<=n_1/\n_1<=(((List.length b):Nat):Int)))&&(k ((Int.toNat n_1) - 0)))) (n:Int)=k (d8 b n):=by
  intro n;induction n with
  | zero=>
   intro _ M hM;cases M with
   | zero=>omega
   | succ M=>
    show Cs N b _ ((0:Nat):Int) _=_;simp only[Cs,d8];rw[aFz (by omega:¬((0:Nat):Int)>0),show(false==true)=false from rfl,aFA,aFy (by omega),aGB];rfl
  | succ n ih=>
   intro hn M hM;cases M with
   | zero=>omega
   | succ M=>
    show Cs N b _ ((n+1:Nat):Int) (ah M _)=_;have e:Int.toNat (((n+1:Nat):Int) - 1)=n:=by omega
    have e2:((n+1:Nat):Int) - 1=(n:Int):=by omega
    simp only[Cs,e];rw[aFy (by omega:((n+1:Nat):Int)>0),show(true==true)=true from rfl,aFB,ac aFw,ac aFx,ac (aFy (by omega)),ac aFw,e2,ih (by omega) M (by omega),uI];by_cases h0:b.getD n 0=0
    ·have:(b.getD n 0==0)=true:=by simpa using h0
     rw[this,if_pos h0]; rfl
    ·have:(b.getD n 0==0)=false:=by simpa using h0
     rw[this,if_neg h0,aFA,aFy (by omega),aGB];rfl
 exact key b.length (aFM _) N hN
theorem oP {N:Nat} (b:List Int) (hb:InWq b) (hN:b.length<N) (hs:b.length<9223372036854775807) (k:Kz4) :
  (sQ9 N b λl=>(decide (0+l<=b.length))&&k (List.take l (List.drop 0 b)))=k (ai (ax b)):=by
 rw[I4 b hN hs,aG1,D0 hb];have:=nU b b.length;rw[aFy (by omega)]; rfl
theorem Ap {N:Nat} (hN:1000<=N) (n:Nat) (hn:n<18446744073709551616) (k:Kz4):ER N (n:Int) k=k (ai n):=by
 unfold ER amC;have hw:InWq [(n:Int)]:=by intro x hx;simp only[aGW,aHw,or_false]at hx;subst hx; omega
 have hv:ax [(n:Int)]=n:=by simp only[ax]; omega
 have:=oP (N:=N) [(n:Int)] hw (by simp; omega) (by simp) k;rw[hv]at this;exact this
theorem EK {N:Nat} (l:List Int) (h:l.length<=1099511627776) (k:Kz4):Gj N l k=k l:=by unfold Gj amt;rw[aGk,aFy (by omega),aGB]
theorem ta (N:Nat) (l:List Int) (i:Nat) (hi:i<9223372036854775807) (k:Kz0):Ji N l (i:Int) k=k (l.getD i 0):=by
 unfold Ji YS;by_cases h:i<l.length
 ·rw[aFy (by omega:(i:Int)<((l.length:Nat):Int)),aFB,ac aFx,aFC]
 ·rw[aFz (by omega:¬(i:Int)<((l.length:Nat):Int)),aFA,ji (by omega)]
theorem sZ (N:Nat) {x y c:Int} {a b d:Nat} (hx:x=(a:Int)) (hy:y=(b:Int)) (hz:c=(d:Int)) (hc:d<=1) (k:Ky2):Cl N x y c k=k (((a+b+d)%18446744073709551616:Nat):Int) (((a+b+d) / 18446744073709551616:Nat):Int):=by subst hx hy hz;show(decide (Int.toNat (d:Int)<=1)&&_)=_;rw[aFC,aFy hc]; rfl
theorem EJ (N:Nat) {x y c:Int} {a b d:Nat} (hx:x=(a:Int)) (hy:y=(b:Int)) (hz:c=(d:Int)) (hc:d<=1) (k:Ky2):aeo N x y c k=k (((a+18446744073709551616 - b - d)%18446744073709551616:Nat):Int) (if a<b+d then 1 else 0):=by
 subst hx hy hz;show(decide (Int.toNat (d:Int)<=1)&&_)=_;rw[aFC,aFy hc];show k _ (cond (decide (a<b+d)) 1 0)=_;by_cases h:a<b+d
 ·rw[aFy h,if_pos h]; rfl
 ·rw[aFz h,if_neg h]; rfl
theorem aiX (a b:Nat):imm true (a:Int) (b:Int)=((max a b:Nat):Int):=by
 unfold imm; simp only[aFB];by_cases h:(b:Int)>a
 ·rw[aFy h,aFB]; omega
 ·rw[aFz h,aFA]; omega
theorem ady {N:Nat} (a b:List Int) (ha:InWq a) (hb:InWq b) (hNa:pN N a) (hNb:pN N b) (k:Kz4):Vs N a b k=k (ai (ax a+ax b)):=by
 unfold Vs Ua;obtain⟨a1,a2⟩:=hNa;obtain⟨b1,b2⟩:=hNb;rw[aiX]
 let L:=max a.length b.length
 have hLa:a.length<=L:=Nat.le_max_left _ _;have hLb:b.length<=L:=Nat.le_max_right _ _;have hLN:L+3<N:=by simp only[L]; omega
 have hLs:L<=1099511627776:=by simp only[L]; omega
 show(aj .i64 ((L:Int)+1)&&_)=_;have eL:Int.toNat ((L:Int)+1)=L+1:=by omega
 rw[ac aFw,ac (iy (by omega) (by omega) (by omega) (by omega)),eL]
 let S:=ax a+ax b
 let T:=λi=>ax (a.take i)+ax (b.take i)
 refine aS (λi=>(((T i / 18446744073709551616 ^ i:Nat):Int),(i:Int),dlq S i++List.replicate (L+1 - i) 0)) L (by simp[T,ax,dlq]) (by omega) (λi hi K=>?_) (λK=>?_)
 ·have hx:=ha.at (i:=i);have hy:=hb.at (i:=i);have hT:T (i+1)=T i+18446744073709551616 ^ i*((a.getD i 0).toNat+(b.getD i 0).toNat):=by simp only[T,ba,aFQ]; omega
  have hq:T (i+1) / 18446744073709551616 ^ i=T i / 18446744073709551616 ^ i+((a.getD i 0).toNat+(b.getD i 0).toNat):=by rw[hT,gF]
  have hc:T i / 18446744073709551616 ^ i<=1:=by
   have h1:=be ha i;have h2:=be hb i;have h3:T i<18446744073709551616 ^ i*2:=by simp only[T]; omega
   have:=(aFI (aGE (n:=i) (by decide:0<18446744073709551616))).2 (by rw[aFD]; exact h3:T i<2*18446744073709551616 ^ i);omega
  have hdiv:T (i+1) / 18446744073709551616 ^ (i+1)=T (i+1) / 18446744073709551616 ^ i / 18446744073709551616:=by rw[aFL,aFG]
  have hdig:S / 18446744073709551616 ^ i%18446744073709551616=T (i+1) / 18446744073709551616 ^ i%18446744073709551616:=by obtain⟨R1,h1⟩:=di a (i+1);obtain⟨R2,h2⟩:=di b (i+1);refine mv (R:=R1+R2) ?_;simp only[S,T];rw[aFQ]; omega
  have hset:=Aj S i (L+1) (by omega);have hlen:(dlq S i++List.replicate (L+1 - i) 0).length=L+1:=by simp[al]; omega
  simp only[sM];rw[aFy (by omega:(i:Int)<((max a.length b.length:Nat):Int)),aFB,ta N a i (by omega),ta N b i (by omega),sZ N (a:=(a.getD i 0).toNat) (b:=(b.getD i 0).toNat) (d:=T i / 18446744073709551616 ^ i) (by omega) (by omega) rfl hc,hlen,ac aFx,ac (aFy (by omega)),ac aFw,aFC];have e1:(a.getD i 0).toNat+(b.getD i 0).toNat+T i / 18446744073709551616 ^ i=T (i+1) / 18446744073709551616 ^ i:=by rw[hq]; omega
  rw[e1,<- hdig,<- hdiv,hset];rfl
 ·simp only[sM];rw[aFz (by omega:¬(L:Int)<((max a.length b.length:Nat):Int)),aFA];have hT:T L=S:=by simp only[T,S]; rw[aFW hLa,aFW hLb]
  have hS:S<18446744073709551616 ^ (L+1):=by have h1:=be ha L;have h2:=be hb L;rw[aFW hLa]at h1;rw[aFW hLb]at h2;rw[aFL];simp only[S]; omega
  have hlen:(dlq S L++List.replicate (L+1 - L) 0).length=L+1:=by simp[al]
  have hcl:S / 18446744073709551616 ^ L<18446744073709551616:=by rw[aFI (aGE (by decide)),aFD,<- aFL]; exact hS
  have e2:((T L / 18446744073709551616 ^ L:Nat):Int)=((S / 18446744073709551616 ^ L%18446744073709551616:Nat):Int):=by rw[hT,aFJ hcl]
  have hset:=Aj S L (L+1) (by omega);rw[e2,aFC,hset,hlen,ac aFx,ac (aFy (by omega)),aF9,aF_,aF7,
   oP _ (lC S _) (by rw[al]; omega) (by rw[al]; omega),qz hS]
theorem s_ {N:Nat} (a b:List Int) (ha:InWq a) (hb:InWq b) (hle:ax b<=ax a) (hN:pN N a) (k:Kz4):Pl N a b k=k (ai (ax a - ax b)):=by
 obtain⟨hN1,hN2⟩:=hN;unfold Pl T4;rw[ac (iy (by omega) (by omega) (by omega) (by omega)),aFC]
 let D:=ax a - ax b
 let bo:=λi=>if ax (a.take i)<ax (b.take i)then(1:Nat)else 0
 refine aS (λi=>(((bo i:Nat):Int),(i:Int),dlq D i++List.replicate (a.length - i) 0)) a.length (by simp[bo,ax,dlq]) (by omega) (λi hi K=>?_) (λK=>?_)
 ·have hx:=ha.at (i:=i);have hy:=hb.at (i:=i);have hA:=ba (m:=a) i;have hB:=ba (m:=b) i;have hAl:=be ha i;have hBl:=be hb i;have hset:=Aj D i a.length (by omega);have hl:(dlq D i++List.replicate (a.length - i) 0).length=a.length:=by simp[al]; omega
  obtain⟨R1,h1⟩:=di a (i+1);obtain⟨R2,h2⟩:=di b (i+1);have hD:(D:Int)=(ax a:Int) - (ax b:Int):=by simp only[D]; omega
  have hPs:18446744073709551616 ^ (i+1)=18446744073709551616 ^ i*18446744073709551616:=aFL ..;have hbo:bo i<=1:=by simp only[bo]; split <;> omega
  have hbs:bo (i+1)=if (a.getD i 0).toNat<(b.getD i 0).toNat+bo i then 1 else 0:=by simp only[bo,hA,hB];exact uG _ _ _ _ _ hAl hBl
  have hq:((D / 18446744073709551616 ^ i:Nat):Int)=((a.getD i 0).toNat:Int) - ((b.getD i 0).toNat:Int) - (bo i:Int)+18446744073709551616*((R1:Int) - (R2:Int)):=by rw[hA,hPs]at h1;rw[hB,hPs]at h2;exact KI hAl hBl rfl h1 h2 hD
  have hdig:((D / 18446744073709551616 ^ i%18446744073709551616:Nat):Int)=(((a.getD i 0).toNat:Int) - ((b.getD i 0).toNat:Int) - (bo i:Int))%18446744073709551616:=by rw[Int.natCast_emod,hq];exact Int.add_mul_emod_self_left _ _ _
  simp only[qq];rw[aFy (by omega:(i:Int)<a.length),aFB,ac aFx,ta N b i (by omega),aFC,EJ N (a:=(a.getD i 0).toNat) (b:=(b.getD i 0).toNat) (d:=bo i) (by omega) (by omega) rfl hbo,hl,ac aFx,ac (aFy (by omega)),ac aFw];have e1:(((((a.getD i 0).toNat+18446744073709551616 - (b.getD i 0).toNat - bo i)%18446744073709551616:Nat)):Int)=((D / 18446744073709551616 ^ i%18446744073709551616:Nat):Int):=by rw[hdig]; omega
  have e2:(if (a.getD i 0).toNat<(b.getD i 0).toNat+bo i then(1:Int)else 0)=((bo (i+1):Nat):Int):=by rw[hbs]; split <;> rfl
  rw[e1,e2,hset];rfl
 ·simp only[qq];rw[aFz (by omega:¬(a.length:Int)<a.length),aFA,aF9,aF_,aF7];have hS:D<18446744073709551616 ^ a.length:=by have:=mh ha; simp only[D]; omega
  rw[oP _ (lC D _) (by rw[al]; omega) (by rw[al]; omega),qz hS]
theorem JY {N:Nat} (a b:List Int) (ha:InWq a) (hb:InWq b) (hl:a.length=b.length) (hs:a.length<9223372036854775807) (k:Kz0) :
  ∀ n,n<=a.length -> ∀ M,n<M->ah M (Cp N a b (λt4=>k t4) (k 0)) ((n:Int) - 1)=k (iP (ax (a.take n)) (ax (b.take n))):=by
 intro n;induction n with
 | zero=>
  intro _ M hM;cases M with
  | zero=>omega
  | succ M=>
   show Cp N a b _ _ ((0:Nat) - 1:Int) _=_;simp[Cp,iP,ax]
 | succ n ih=>
  intro hn M hM;cases M with
  | zero=>omega
  | succ M=>
   show Cp N a b _ _ (((n+1:Nat):Int) - 1) (ah M _)=_;have e:(((n+1:Nat):Int) - 1)=(n:Int):=by omega
   have hx:=ha.at (i:=n);have hy:=hb.at (i:=n);have hA:=ba (m:=a) n;have hB:=ba (m:=b) n;have hAl:=be ha n;have hBl:=be hb n;rw[e];simp only[Cp,aFC];rw[hA,hB,aFy (by omega:(n:Int)>=0),aFB,ac aFx,ac aFx,ac aFx,ac aFx,ac aFw,ih (by omega) M (by omega)];by_cases h0:a.getD n 0=b.getD n 0
   ·rw[show(a.getD n 0 != b.getD n 0)=false by simpa using h0,aFA,h0,NQ]
   ·rw[show(a.getD n 0 != b.getD n 0)=true by simpa using h0,aFB];by_cases h1:a.getD n 0<b.getD n 0
    ·rw[aFy h1,aFB,aaw hAl (by omega)]
    ·rw[aFz h1,aFA,aav hBl (by omega)]
theorem mE {N:Nat} (x y:Nat) (hx:pN N (ai x)) (hy:pN N (ai y)) (k:Kz0):DI N (ai x) (ai y) k=k (iP x y):=by
 unfold DI ahb;obtain⟨x1,x2⟩:=hx;obtain⟨y1,y2⟩:=hy;by_cases h:(ai x).length=(ai y).length
 ·have e:(((ai x).length:Int) != (ai y).length)=false:=by rw[h]; simp
  rw[e,aFA,ac aFw,JY (ai x) (ai y) (bE x) (bE y) h (by omega) k _ (aFM _) N (by omega),aGe,h,aGe,aK,aK]
 ·have e:(((ai x).length:Int) != (ai y).length)=true:=by simp; omega
  rw[e,aFB];by_cases h1:(ai x).length<(ai y).length
  ·rw[aFy (by omega),aFB];have:x<y:=by
    rcases aGw x y with h2 | h2
    ·exact h2
    ·have:=ii h2; omega
   unfold iP; rw[if_pos this]
  ·rw[aFz (by omega),aFA];have:¬ x<=y:=λh2=>by have:=ii h2; omega
   unfold iP; rw[if_neg (by omega),if_neg (by omega)]
def zl (z:Int) (k:Ky1):Bool:=k (decide (z<0)) (ai z.natAbs)
theorem vJ (n:Nat):decide (((ai n).length:Int)>0)=decide (n ≠ 0):=by
 by_cases h:n=0
 ·subst h; rw[bW]; simp
 ·rw[eB h,aGb,aFy (by omega),aFy h]
theorem O8 (g:Bool) (n:Nat) (k:Ky1):k (sg g n) (ai n)=zl (bF g n) k:=by
 unfold zl bF sg;cases g
 ·simp only[aGQ,aF6,aH8,aGq];rw[aFz (by omega)]
 ·simp only[aG8,aGB,aH9,aGq];congr 1;by_cases h:n=0
  ·subst h; rfl
  ·rw[aFy h,aFy (by omega)]
theorem adJ (g:Bool) (n:Nat) (k:Ky1):cond (g==true) (k (decide (((ai n).length:Int)>0)) (ai n)) (k false (ai n))=zl (bF g n) k:=by rw[vJ,<- O8];cases g <;> rfl
theorem Rd {N:Nat} (g b:Bool) (n:Nat) (k:Ky1):Mo N g (ai n) b (λcr=>k cr (ai n))=zl (bF g n) k:=adJ g n k
theorem tO {N:Nat} (g b:Bool) (l:List Int) (n:Nat) (k:Ky1):aes N g (ai n) b l (λcr=>k cr (ai n))=zl (bF g n) k:=adJ g n k
theorem SS (g1 g2:Bool) (n1 n2:Nat) (k:Ky1) :
  cond (g1==g2) (zl (bF g2 (n1+n2)) k) (cond (decide (iP n1 n2>=0)) (zl (bF g1 (n1 - n2)) k) (zl (bF g2 (n2 - n1)) k))=zl (bF g1 n1+bF g2 n2) k:=by
 rw[Ag];have key:∀ a b:Int,a=b->zl a k=zl b k:=λa b h=>by rw[h]
 cases g1 <;> cases g2 <;> simp only[bF] <;> by_cases h:n2<=n1 <;> simp only[h,aIi,aIx,aFB,aFA,aG5,aGQ,aG8,aF6,(by decide:(false==true)=false),(by decide:(true==false)=false)] <;> refine key _ _ ?_ <;> omega
theorem NE (n:Nat):aH .and .u64 (n:Int) 4294967295=((n%4294967296:Nat):Int):=by
 have h:=ox n 32 (by decide);have e1:((2 ^ 32 - 1:Nat):Int)=4294967295:=by decide
 have e2:(2:Nat) ^ 32=4294967296:=by decide
 rw[e1,e2]at h;exact h
theorem an3 (p00 p10 p01 p11:Nat):(p11*18446744073709551616+(p10+p01)*4294967296+p00) / 18446744073709551616=p11+(p10+p00 / 4294967296) / 4294967296+((p10+p00 / 4294967296)%4294967296+p01) / 4294967296:=by omega
theorem Xf (x y:Nat):x*y=(x / 4294967296)*(y / 4294967296)*18446744073709551616+((x / 4294967296)*(y%4294967296)+(x%4294967296)*(y / 4294967296))*4294967296+(x%4294967296)*(y%4294967296):=by have hx:=aGv x 4294967296;have hy:=aGv y 4294967296;generalize x / 4294967296=a at *;generalize x%4294967296=b at *;generalize y / 4294967296=c at *;generalize y%4294967296=d at *;subst hx hy;grind
theorem EI (N:Nat) {x y:Nat} (hx:x<18446744073709551616) (hy:y<18446744073709551616) (k:Ky2):Jq N (x:Int) (y:Int) k=k ((x*y / 18446744073709551616:Nat):Int) ((x*y%18446744073709551616:Nat):Int):=by
 unfold Jq amD;have fx:Int.fdiv (x:Int) (2 ^ 32)=((x / 4294967296:Nat):Int):=by rw[oB]; rfl
 have fy:Int.fdiv (y:Int) (2 ^ 32)=((y / 4294967296:Nat):Int):=by rw[oB]; rfl
 rw[NE,NE,fx,fy];have hs:=Xf x y;have b0:x / 4294967296<=4294967295:=by omega
 have b1:x%4294967296<=4294967295:=by omega
 have b2:y / 4294967296<=4294967295:=by omega
 have b3:y%4294967296<=4294967295:=by omega
 have m00:=aGu b1 b3;have m10:=aGu b0 b3;have m01:=aGu b1 b2;have m11:=aGu b0 b2;have hh:=an3 ((x%4294967296)*(y%4294967296)) ((x / 4294967296)*(y%4294967296)) ((x%4294967296)*(y / 4294967296)) ((x / 4294967296)*(y / 4294967296));rw[<- hs]at hh;rw[<- aFV,<- aFV,<- aFV,<- aFV,<- aFV];have hlt:x*y<=18446744073709551615*18446744073709551615:=aGu (by omega) (by omega);generalize x*y=P at *;generalize (x%4294967296)*(y%4294967296)=p00 at *;generalize (x / 4294967296)*(y%4294967296)=p10 at *;generalize (x%4294967296)*(y / 4294967296)=p01 at *;generalize (x / 4294967296)*(y / 4294967296)=p11 at *;have t1:IntKind.wrap .u64 (IntKind.wrap .u64 (p10:Int)+Int.fdiv (IntKind.wrap .u64 (p00:Int)) (2 ^ 32))=((p10+p00 / 4294967296:Nat):Int):=by simp only[ar,oB]; omega
 rw[t1,NE];congr 1
 ·rw[hh];simp only[ar,oB];omega
theorem I2 (N:Nat) {x y c d:Int} {a b e f:Nat} (hx:x=(a:Int)) (hy:y=(b:Int)) (hc:c=(e:Int)) (hd:d=(f:Int)) (ha:a<18446744073709551616) (hb:b<18446744073709551616) (he:e<18446744073709551616) (hf:f<18446744073709551616) (k:Ky2) :
  RP N x y c d k=k (((a*b+e+f) / 18446744073709551616:Nat):Int) (((a*b+e+f)%18446744073709551616:Nat):Int):=by
 subst hx hy hc hd;unfold RP amu;have hlt:a*b<=18446744073709551615*18446744073709551615:=aGu (by omega) (by omega);rw[EI N ha hb];generalize a*b=P at *;rw[sZ N (c:=0) (a:=P%18446744073709551616) (b:=e) (d:=0) rfl rfl rfl (by omega),sZ N (c:=0) (a:=(P%18446744073709551616+e+0)%18446744073709551616) (b:=f) (d:=0) rfl rfl rfl (by omega)];congr 1
 ·simp only[ar]; omega
 ·omega
theorem Q9 {N:Nat} (a b:List Int) (ha:InWq a) (hb:InWq b) (hN:a.length+b.length+2<N) (hs:a.length+b.length<=1099511627776) (k:Kz4):FN N a b k=k (ai (ax a*ax b)):=by
  unfold FN TT;by_cases a0:a.length=0
  · have:a=[]:=List.length_eq_zero_iff.1 a0
    subst this;show k []=k (ai (0*ax b));rw[aG4,bW]
  by_cases b0:b.length=0
  · have:b=[]:=List.length_eq_zero_iff.1 b0
    subst this;have e:(((a.length:Nat):Int)==0)=false:=by simp; intro h; subst h; simp at a0
    rw[e,show(false==false)=true from rfl,aFB];show k []=k (ai (ax a*0));rw[aGU,bW]
  have e0:(((a.length:Nat):Int)==0)=false:=by simp; intro h; subst h; simp at a0
  have e1:(((b.length:Nat):Int)==0)=false:=by simp; intro h; subst h; simp at b0
  rw[e0,e1,show(false==false)=true from rfl,aFB,aFA];have eL:Int.toNat (((a.length:Nat):Int)+((b.length:Nat):Int))=a.length+b.length:=by omega
  rw[ac aFw,ac (iy (by omega) (by omega) (by omega) (by omega)),eL]
  let L:=a.length+b.length
  let B:=ax b
  have hB:B<18446744073709551616 ^ b.length:=mh hb;refine aS (λi=>((i:Int),dlq (ax (a.take i)*B) L)) a.length ?_ (by omega) (λi hi K=>?_) (λK=>?_)
  · show((0:Int),List.replicate L (0:Int))=(((0:Nat):Int),dlq (ax (a.take 0)*B) L)
    have:=yO L 0;rw[aGU]at this;rw[aHP,show ax []=0 from rfl,aG4,this]; rfl
  · simp only[o8]
    rw[aFy (by omega:(i:Int)<a.length),aFB,ac aFx,aFC];have hx:=ha.at (i:=i)
    let V:=ax (a.take i)*B
    let x:=(a.getD i 0).toNat
    let U:=ax (a.take (i+1))*B
    have hU:U=V+x*B*18446744073709551616 ^ i:=by simp only[U,V,x];rw[wc];grind
    have hV:V<18446744073709551616 ^ (i+b.length):=zA (zC ha i) hB;have hUl:U<18446744073709551616 ^ (i+1+b.length):=zA (zC ha (i+1)) hB
    let c:=λj=>(V%18446744073709551616 ^ (i+j)+x*ax (b.take j)*18446744073709551616 ^ i) / 18446744073709551616 ^ (i+j)
    refine aS (λj=>(((c j:Nat):Int),(j:Int),dlq U (i+j)++(dlq V L).drop (i+j))) b.length ?_ (by omega) (λj hj K'=>?_) (λK'=>?_)
    · show((0:Int),(0:Int),dlq V L)=_
      have h0:c 0=0:=by simp only[c,aHP,show ax []=0 from rfl,aGU,aG4,aF5];exact aF4 (aFO _ (aGE (by decide)))
      have hlow:dlq U i=dlq V i:=by
        have:∀ n,n<=i->dlq U n=dlq V n:=by
          intro n;induction n with
          | zero=>intro _; rfl
          | succ n ih=>
            intro hn;show dlq U n++[_]=dlq V n++[_];rw[ih (by omega)];congr 3;have:U=V+18446744073709551616 ^ (n+1)*(x*B*18446744073709551616 ^ (i - (n+1))):=by rw[hU,aF0,<- aFS,show n+1+(i - (n+1))=i by omega]
            exact mv this
        exact this i (aFM _)
      have hsp:dlq V i++(dlq V L).drop i=dlq V L:=by
        have:∀ n,i<=n->dlq V i++(dlq V n).drop i=dlq V n:=by
          intro n;induction n with
          | zero=>intro h; have:i=0:=(by omega); subst this; rfl
          | succ n ih=>
            intro h;by_cases hn:i=n+1
            · subst hn; rw[aGi (by rw[al]; omega),aF7]
            · show dlq V i++(dlq V n++[_]).drop i=dlq V n++[_]
              rw[aGx (by rw[al]; omega),<- aFR,ih (by omega)]
        exact this L (by simp only[L]; omega)
      rw[h0,aF5,hlow,hsp]; rfl
    · have hy:=hb.at (i:=j)
      have hp:i+j<L:=by simp only[L]; omega
      have hlen:=Fr U V L (i+j) (by omega);have hget:=Oi U V L (i+j) hp;have hset:=Ft U V L (i+j) hp;have hc:=Wv (V:=V) (x:=x) (i:=i) (k:=j) (Bk:=ax (b.take j)) (by simp only[x]; omega) (zC hb j);have hstep:=NN V x (ax (b.take j)) (b.getD j 0).toNat i j;obtain⟨R,hR⟩:=di b (j+1);have hdig:=Lz V x (ax (b.take j)) (b.getD j 0).toNat i j R;rw[<- wc]at hstep hdig;rw[<- hR]at hdig;have hUe:V+x*ax b*18446744073709551616 ^ i=U:=hU.symm;rw[hUe]at hdig;have hxy:x*(b.getD j 0).toNat<=18446744073709551615*18446744073709551615:=aGu (by simp only[x]; omega) (by omega);have eidx:Int.toNat ((i:Int)+(j:Int))=i+j:=by omega
      have hcj:∀ n,c n=(V%18446744073709551616 ^ (i+n)+x*ax (b.take n)*18446744073709551616 ^ i) / 18446744073709551616 ^ (i+n):=λ_=>rfl
      have hax:a.getD i 0=(x:Int):=by simp only[x]; omega
      have hby:b.getD j 0=((b.getD j 0).toNat:Int):=by omega
      have ec1:c (j+1)=(c j+V / 18446744073709551616 ^ (i+j)%18446744073709551616+x*(b.getD j 0).toNat) / 18446744073709551616:=hstep;have ed:U / 18446744073709551616 ^ (i+j)%18446744073709551616=(c j+V / 18446744073709551616 ^ (i+j)%18446744073709551616+x*(b.getD j 0).toNat)%18446744073709551616:=hdig;have hcl:c j<18446744073709551616:=hc;rw[ed]at hset;have vlt:V / 18446744073709551616 ^ (i+j)%18446744073709551616<18446744073709551616:=aFO _ (by decide);have hxl:x<18446744073709551616:=by simp only[x]; omega
      have hyl:(b.getD j 0).toNat<18446744073709551616:=by omega
      simp only[o9,aFC,eidx,hlen];rw[aFy (by omega:(j:Int)<((b.length:Nat):Int)),aFB,ac aFx,ac aFw,ac aFw,ac aFx,ac (aFy (by omega)),I2 N hax hby hget rfl hxl hyl vlt hcl,ac aFx,ac (aFy (by omega)),ac aFw];rw[show i+(j+1)=i+j+1 by omega,<- hset];have ez:x*(b.getD j 0).toNat+V / 18446744073709551616 ^ (i+j)%18446744073709551616+c j=c j+V / 18446744073709551616 ^ (i+j)%18446744073709551616+x*(b.getD j 0).toNat:=by omega
      rw[ez,ec1];rfl
    · simp only[o9]
      rw[aFz (by omega:¬(b.length:Int)<b.length),aFA];have hlen:=Fr U V L (i+b.length) (by simp only[L]; omega);have hset:=Ft U V L (i+b.length) (by simp only[L]; omega);have eidx:Int.toNat ((i:Int)+(b.length:Int))=i+b.length:=by omega
      have hLe:i+b.length<L:=by simp only[L]; omega
      have hc:c b.length=U / 18446744073709551616 ^ (i+b.length):=by simp only[c];rw[aGe,aFJ hV,hU]
      have hcl:U / 18446744073709551616 ^ (i+b.length)<18446744073709551616:=by
        rw[aFI (aGE (by decide))];have:i+1+b.length=i+b.length+1:=by omega
        rw[this,aFL]at hUl;omega
      have ew:((c b.length:Nat):Int)=((U / 18446744073709551616 ^ (i+b.length)%18446744073709551616:Nat):Int):=by rw[hc,aFJ hcl]
      have hfin:=QH (U:=U) (V:=V) (L:=L) (p:=i+b.length+1) (by rw[show i+b.length+1=i+1+b.length by omega]; exact hUl) (by omega) (aFT hV (aFP (by decide) (by omega)));rw[ac aFw,eidx,hlen,ac aFx,ac (aFy (by omega)),ac aFw,ew,hset,hfin];rfl
  · simp only[o8]
    rw[aFz (by omega:¬(a.length:Int)<a.length),aFA,aGe,oP _ (lC _ _) (by rw[al]; simp only[L]; omega) (by rw[al]; simp only[L]; omega)];rw[qz (zA (mh ha) hB)]
theorem Ml (n:Nat):2 ^ n=18446744073709551616 ^ (n / 64)*2 ^ (n%64):=by
 have e:(18446744073709551616:Nat)=2 ^ 64:=by decide
 rw[e,<- aIq,<- aFS];congr 1; omega
theorem bN (i:Nat):0<18446744073709551616 ^ i:=aGE (by decide)
theorem WY {N:Nat} (m:List Int) (hm:InWq m) (n:Nat) (hn:n<4294967296) (hN:m.length+n / 64+4<N) (hs:m.length<=1099511627776) (k:Kz4):Vp N m n k=k (ai (ax m*2 ^ n)):=by
 unfold Vp T8;by_cases h0:m.length=0
 ·have:m=[]:=List.length_eq_zero_iff.1 h0;subst this;show k []=k (ai (0*2 ^ n));rw[aG4,bW]
 ·have e0:((m.length:Int)==0)=false:=by simp; intro h; subst h; simp at h0
  have ew:IntKind.wrap .u64 (Int.tdiv (n:Int) 64)=((n / 64:Nat):Int):=by rw[ar,aGz (by omega)]; omega
  have es:Int.tmod (n:Int) 64=((n%64:Nat):Int):=by rw[aGo (by omega)]; rfl
  rw[e0,aFA,ew,es];have hw6:n / 64<67108864:=by omega
  generalize hw:n / 64=w at *;generalize hsh:n%64=s at *;have hs32:s<64:=by omega
  have hp2:2 ^ n=18446744073709551616 ^ w*2 ^ s:=by rw[Ml,hw,hsh]
  have hs0:0<2 ^ s:=aFN s;have hs1:2 ^ s*2 ^ (64 - s)=18446744073709551616:=by rw[<- aFS,show s+(64 - s)=64 by omega]
  have elen:Int.toNat (((w:Nat):Int)+(m.length:Int)+1)=w+m.length+1:=by omega
  rw[ac aFw,ac aFw,ac aFw,ac (iy (by omega) (by omega) (by omega) (by omega)),elen]
  let V:=ax m*2 ^ n
  let X:=ax m*2 ^ s
  have hVX:V=18446744073709551616 ^ w*X:=by simp only[V,X]; rw[hp2,aF0]
  let T:=λi=>ax (m.take i)*2 ^ s
  let c:=λi=>T i / 18446744073709551616 ^ i
  have hcl:∀ i,c i<2 ^ s:=by intro i;simp only[c,T];rw[aFI (bN i),aFD];exact aGF (be hm i) hs0
  refine aS (λi=>((i:Int),dlq V (w+i)++((c i:Nat):Int)::List.replicate (m.length - i) 0)) m.length ?_ (by omega) (λi hi K=>?_) (λK=>?_)
  ·congr 1;show List.replicate (w+m.length+1) (0:Int)=dlq V w++((c 0:Nat):Int)::List.replicate m.length 0;rw[hVX,yO];have hc0:c 0=0:=by simp[c,T,ax]
   rw[hc0];have:w+m.length+1=w+(m.length+1):=by omega
   rw[this,<- aHd,aGh]; rfl
  ·have hx:=hm.at (i:=i);have hT:T (i+1)=T i+18446744073709551616 ^ i*((m.getD i 0).toNat*2 ^ s):=by simp only[T,ba,aF2,aFK]
   have hq:T (i+1) / 18446744073709551616 ^ i=c i+(m.getD i 0).toNat*2 ^ s:=by rw[hT,gF]
   have hci:c i<2 ^ s:=hcl i;have hc1:c (i+1)=(c i+(m.getD i 0).toNat*2 ^ s) / 18446744073709551616:=by rw[<- hq]; simp only[c]; rw[aFL,aFG]
   have hdig:V / 18446744073709551616 ^ (w+i)%18446744073709551616=(c i+(m.getD i 0).toNat*2 ^ s)%18446744073709551616:=by rw[<- hq,hVX,aFS,<- aFG,aF8 _ (bN w)];obtain⟨R,hR⟩:=di m (i+1);refine mv (R:=R*2 ^ s) ?_;simp only[X,T];rw[hR,aF2,aFK]
   have hrep:List.replicate (m.length - i) (0:Int)=0::List.replicate (m.length - (i+1)) 0:=by rw[show m.length - i=(m.length - (i+1))+1 by omega,aGh]
   have hdl:=al V (w+i);have ei:Int.toNat ((w:Int)+(i:Int))=w+i:=by omega
   have ei1:Int.toNat ((w:Int)+(i:Int)+1)=w+i+1:=by omega
   have emin:min s 64=s:=by omega
   have e64:min (Int.toNat (IntKind.wrap .u64 (64 - (s:Int)))) 64=64 - s:=by rw[ar]; omega
   simp only[Cv,aFC,ei,ei1,emin,e64];rw[hrep,eG hdl.symm,bT _ _ _ _ _ hdl.symm];have hmx:m.getD i 0=(((m.getD i 0).toNat:Nat):Int):=by omega
   rw[hmx];generalize hxx:(m.getD i 0).toNat=x at *;have hx32:x<18446744073709551616:=by omega
   have hlow:x*2 ^ s%18446744073709551616=2 ^ s*(x%2 ^ (64 - s)):=by
    have e:x*2 ^ s%(2 ^ s*2 ^ (64 - s))=2 ^ s*(x%2 ^ (64 - s)):=by rw[aFD x]; exact aHi _ _ _
    rwa [hs1]at e
   have hsum:2 ^ s*(x%2 ^ (64 - s))+c i<18446744073709551616:=by have h1:x%2 ^ (64 - s)+1<=2 ^ (64 - s):=aFO _ (aFN _);have h2:=aFH (2 ^ s) h1;rw[hs1,aFQ]at h2;omega
   have epw:(x:Int)*2 ^ s=((x*2 ^ s:Nat):Int):=by rw[aFV,aG0]; rfl
   have eor:aH .or .u64 ((c i:Nat):Int) (IntKind.wrap .u64 ((x:Int)*2 ^ s))=((V / 18446744073709551616 ^ (w+i)%18446744073709551616:Nat):Int):=by
    have e1:IntKind.wrap .u64 ((x*2 ^ s:Nat):Int)=((2 ^ s*(x%2 ^ (64 - s)):Nat):Int):=by rw[<- hlow,ar]; omega
    rw[epw,e1,gb _ _ s hci hsum,hdig];omega
   have ehi:Int.fdiv (x:Int) (2 ^ (64 - s))=((c (i+1):Nat):Int):=by
    have e2:(2:Int) ^ (64 - s)=((2 ^ (64 - s):Nat):Int):=by rw[aG0]; rfl
    rw[e2,oR,hc1];have:(c i+x*2 ^ s) / 18446744073709551616=x / 2 ^ (64 - s):=by rw[<- hs1,<- aFG,aFD x,aGr _ _ hs0,aF4 hci,aF3]
    rw[this]
   rw[eor,ehi];have hl1:∀(a b:Int) (ys:List Int),(dlq V (w+i)++a::b::ys).length=w+i+2+ys.length:=by intro a b ys; simp[hdl]; omega
   have hset2:(dlq V (w+i)++((V / 18446744073709551616 ^ (w+i)%18446744073709551616:Nat):Int)::0::List.replicate (m.length - (i+1)) 0).set (w+i+1) ((c (i+1):Nat):Int)=dlq V (w+(i+1))++((c (i+1):Nat):Int)::List.replicate (m.length - (i+1)) 0:=by
    have:dlq V (w+i)++((V / 18446744073709551616 ^ (w+i)%18446744073709551616:Nat):Int)::0::List.replicate (m.length - (i+1)) 0=dlq V (w+(i+1))++0::List.replicate (m.length - (i+1)) 0:=by rw[<- aGf,dlq]; simp
    rw[this];exact bT _ _ _ _ _ (by rw[al]; omega)
   rw[hset2,hl1,hl1];simp only[aGT];rw[aFy (by omega:(i:Int)<((m.length:Nat):Int)),aFB,ac aFx,ac aFw,ac aFx,ac (aFy (by omega)),ac (aFy (by omega)),ac aFx,ac (aFy (by omega)),ac aFw,ac aFw,ac (aFy (by rw[ar]; omega)),ac aFx,ac (aFy (by omega)),ac aFw];rfl
  ·simp only[Cv];rw[aFz (by omega:¬(m.length:Int)<m.length),aFA,aF9,aF_];have hV:V<18446744073709551616 ^ (w+m.length+1):=by
    have h1:=mh hm;simp only[V];rw[hp2,aFL,aFS,aF0,aFK];refine aGF ?_ (bN w);have hs2:2 ^ s<=18446744073709551616:=by rw[<- hs1]; exact aGt _ (aFN _)
    exact aGg h1 hs2 (by decide)
   have hT:T m.length=X:=by simp only[T,X]; rw[aGe]
   have hend:dlq V (w+m.length)++[((c m.length:Nat):Int)]=dlq V (w+m.length+1):=by
    rw[dlq];have:c m.length=V / 18446744073709551616 ^ (w+m.length)%18446744073709551616:=by
     have hX:V / 18446744073709551616 ^ (w+m.length)=X / 18446744073709551616 ^ m.length:=by rw[hVX,aFS,<- aFG,aF8 _ (bN w)]
     have h2:=hcl m.length;have hs2:2 ^ s<=18446744073709551616:=by rw[<- hs1]; exact aGt _ (aFN _)
     rw[hX,<- hT];exact(aFJ (by show c m.length<_; omega)).symm
    rw[this]
   rw[hend,oP _ (lC V _) (by rw[al]; omega) (by rw[al]; omega),qz hV]
theorem tB:∀(i V:Nat),(ai V).getD i 0=((V / 18446744073709551616 ^ i%18446744073709551616:Nat):Int)
 | i,V=>by
  by_cases h:V=0
  ·subst h; rw[bW]; simp
  ·rw[eB h];cases i with
   | zero=>simp
   | succ i=>
    show(ai (V / 18446744073709551616)).getD i 0=_;rw[tB i (V / 18446744073709551616),aFL,aFD,<- aFG]
theorem Al {l:List Int} {n i:Nat} (h:i<n):(l.take n).getD i 0=l.getD i 0:=by rw[List.getD_eq_getElem?_getD,List.getD_eq_getElem?_getD,List.getElem?_take,if_pos h]
theorem Io {m:List Int} (hm:InWq m) (j:Nat):∃ R,ax m / 18446744073709551616 ^ j=(m.getD j 0).toNat+18446744073709551616*(m.getD (j+1) 0).toNat+18446744073709551616*18446744073709551616*R:=by
 obtain⟨R,hR⟩:=di m (j+2);refine⟨R,?_⟩;rw[hR,ba,ba];simp only[aFL];have e:ax (m.take j)+18446744073709551616 ^ j*(m.getD j 0).toNat+18446744073709551616 ^ j*18446744073709551616*(m.getD (j+1) 0).toNat+18446744073709551616 ^ j*18446744073709551616*18446744073709551616*R
   = ax (m.take j)+18446744073709551616 ^ j*((m.getD j 0).toNat+18446744073709551616*(m.getD (j+1) 0).toNat+18446744073709551616*18446744073709551616*R):=by
  rw[aFQ,aFQ,aFK,aFK,aFK,aFK]; omega
 rw[e,gF,aF4 (be hm j),aF3]
theorem Lq {x y s:Nat} (hs:s<64) (hx:x<18446744073709551616) (hy:y<18446744073709551616):aH .or .u64 (Int.fdiv (x:Int) (2 ^ s)) (IntKind.wrap .u64 ((y:Int)*2 ^ (64 - s)))=(((x+18446744073709551616*y) / 2 ^ s%18446744073709551616:Nat):Int):=by
 have hs0:0<2 ^ s:=aFN s;have hs1:2 ^ s*2 ^ (64 - s)=18446744073709551616:=by rw[<- aFS,show s+(64 - s)=64 by omega]
 have e1:Int.fdiv (x:Int) (2 ^ s)=((x / 2 ^ s:Nat):Int):=by
  have e2:(2:Int) ^ s=((2 ^ s:Nat):Int):=by rw[aG0]; rfl
  rw[e2,oR]
 have e3:(y:Int)*2 ^ (64 - s)=((y*2 ^ (64 - s):Nat):Int):=by rw[aFV,aG0]; rfl
 have hlow:y*2 ^ (64 - s)%18446744073709551616=2 ^ (64 - s)*(y%2 ^ s):=by
  have e:2 ^ (64 - s)*y%(2 ^ (64 - s)*2 ^ s)=2 ^ (64 - s)*(y%2 ^ s):=aHi _ _ _
  rwa [aFD (2 ^ (64 - s)) (2 ^ s),hs1,aFD (2 ^ (64 - s)) y]at e
 have e4:IntKind.wrap .u64 ((y*2 ^ (64 - s):Nat):Int)=((2 ^ (64 - s)*(y%2 ^ s):Nat):Int):=by rw[<- hlow,ar]; omega
 have hxl:x / 2 ^ s<2 ^ (64 - s):=by rw[aFI hs0,aFD,hs1]; exact hx
 have hsum:2 ^ (64 - s)*(y%2 ^ s)+x / 2 ^ s<18446744073709551616:=by have h1:y%2 ^ s+1<=2 ^ s:=aFO _ hs0;have h2:=aFH (2 ^ (64 - s)) h1;rw[aFD (2 ^ (64 - s)) (2 ^ s),hs1,aFQ]at h2;omega
 rw[e1,e3,e4,gb _ _ (64 - s) hxl hsum];congr 1;have e5:(x+18446744073709551616*y) / 2 ^ s=x / 2 ^ s+2 ^ (64 - s)*y:=by rw[<- hs1,aFK,aGr _ _ hs0]
 rw[e5];have e6:y=y%2 ^ s+2 ^ s*(y / 2 ^ s):=(aHG _ _).symm;have e7:2 ^ (64 - s)*y=2 ^ (64 - s)*(y%2 ^ s)+18446744073709551616*(y / 2 ^ s):=by
  conv=>lhs; rw[e6]
  rw[aFQ,<- aFK,aFD (2 ^ (64 - s)) (2 ^ s),hs1]
 rw[e7,<- aGf,aGL,aFJ (a:=x / 2 ^ s+2 ^ (64 - s)*(y%2 ^ s)) (b:=18446744073709551616) (by rw[aHp]; exact hsum)];exact aHp _ _
theorem Jd:∀ n:Nat,n ≠ 0 -> ∃ t c,n=2 ^ t*(2*c+1):=by
 intro n;induction n using Nat.strongRecOn with
 | ind n ih=>
  intro h0;by_cases h:n%2=0
  ·obtain⟨t,c,hc⟩:=ih (n / 2) (by omega) (by omega);exact⟨t+1,c,by rw[aFL,aFD (2 ^ t) 2,aFK,<- hc]; omega⟩
  ·exact⟨0,n / 2,by rw[aHq,aHz]; omega⟩
theorem A3 {a b:Nat} (ha:a<18446744073709551616) (hb:b<18446744073709551616):aH .and .u64 (a:Int) (b:Int)=((a &&& b:Nat):Int):=by
 unfold aH xz;simp only[aGj];have h64:(2:Nat) ^ 64=18446744073709551616:=by decide
 have e:((BitVec.ofInt (IntKind.bits .u64) (a:Int)) &&& (BitVec.ofInt (IntKind.bits .u64) (b:Int))).toNat=a &&& b:=by show((BitVec.ofInt 64 (a:Int)) &&& (BitVec.ofInt 64 (b:Int))).toNat=_;rw[aId,aGD,aGD,aGJ,aGJ,aFJ (by omega),aFJ (by omega)]
 have hl:a &&& b<18446744073709551616:=aG_ Nat.and_le_left ha;rw[e,D3 _ hl]
theorem ahx {t c:Nat} (h:2 ^ t*(2*c+1)<2 ^ 64):(2 ^ t*(2*c+1)) &&& (2 ^ 64 - 2 ^ t*(2*c+1))=2 ^ t:=by
 have ht0:0<2 ^ t:=aFN t;have ht:t<64:=by
  rcases aGw t 64 with h1 | h1
  ·exact h1
  ·have h2:2 ^ 64<=2 ^ t:=aFP (by decide) h1;have h3:2 ^ t*1<=2 ^ t*(2*c+1):=aFH _ (by omega);omega
 have e1:2 ^ t*(2*c+1)=(2 ^ t*(2*c)+(2 ^ t - 1))+1:=by rw[aFQ]; omega
 refine aHL λj=>?_
 rw[aIs];have e2:(2 ^ 64 - 2 ^ t*(2*c+1)).testBit j=(decide (j<64) && !(2 ^ t*(2*c)+(2 ^ t - 1)).testBit j):=by
  conv=>lhs; rw[e1]
  exact aIh (by rw[e1]at h; omega) j
 rw[e2,Nat.testBit_two_pow_mul,aIt _ (by omega),aHm];rcases aHK j t with hj | hj | hj
 ·rw[aFz (by omega:¬ j>=t),aFz (by omega:¬ t=j)]; rfl
 ·subst hj;rw[if_neg (by omega),aF9,aFy (aFM _),aFy ht,aFy rfl];have a1:(2*c+1).testBit 0=true:=by rw[aIe]; simp
  have a2:(2*c).testBit 0=false:=by rw[aIe]; simp
  rw[a1,a2]; rfl
 ·obtain⟨k,hk⟩:∃ k,j - t=k+1:=⟨j - t - 1,by omega⟩
  rw[if_neg (by omega),hk,aFy (by omega:j>=t),aFz (by omega:¬ t=j),aIf,aIf];have a1:(2*c+1) / 2=c:=by omega
  have a2:2*c / 2=c:=by omega
  rw[a1,a2];cases c.testBit k <;> simp
theorem aoR:∀ t:Fin 64,(inR (Int.fdiv (IntKind.wrap .u64 (((2 ^ t.val:Nat):Int)*285870213051353865)) (2 ^ 58)) 64=true)/\(List.getD FV (Int.toNat (Int.fdiv (IntKind.wrap .u64 (((2 ^ t.val:Nat):Int)*285870213051353865)) (2 ^ 58))) 0=(t.val:Int)):=by decide +kernel
theorem anY (N:Nat) {t c:Nat} (h:2 ^ t*(2*c+1)<18446744073709551616) (k:Kz0):RS N ((2 ^ t*(2*c+1):Nat):Int) k=k (t:Int):=by
 have h64:(2:Nat) ^ 64=18446744073709551616:=by decide
 have ht0:0<2 ^ t:=aFN t;have hx0:0<2 ^ t*(2*c+1):=aHv ht0 (by omega);have ht:t<64:=by
  rcases aGw t 64 with h1 | h1
  ·exact h1
  ·have h2:2 ^ 64<=2 ^ t:=aFP (by decide) h1;have h3:2 ^ t*1<=2 ^ t*(2*c+1):=aFH _ (by omega);omega
 unfold RS ZX;have ha:=ahx (t:=t) (c:=c) (by omega);rw[h64]at ha;generalize 2 ^ t*(2*c+1)=x at *;have e0:((x:Int)==0)=false:=by simp; omega
 have ew:IntKind.wrap .u64 (0 - (x:Int))=((18446744073709551616 - x:Nat):Int):=by rw[ar]; omega
 obtain⟨t1,t2⟩:=aoR ⟨t,ht⟩;rw[e0,aFA,ew,A3 h (by omega),ha,ac t1,t2,ac aFw]
theorem an0 {V w:Nat} (h:V / 18446744073709551616 ^ w ≠ 0):w<(ai V).length:=by
 rcases aGw w (ai V).length with h1 | h1
 ·exact h1
 ·exfalso;have h2:=mh (bE V);rw[aK]at h2;exact h (aF4 (aFT h2 (aFP (by decide) h1)))
theorem Wt {B n:Nat} (h:bv B n):(ai n).length<=B / 64+1:=by
 refine kz _ _ ?_;have e:(18446744073709551616:Nat)=2 ^ 64:=by decide
 rw[e,<- aIq];exact aFT h (aFP (by decide) (by omega))
theorem WQ {N:Nat} (g:Bool) (n:Nat) (h:(ai n).length<=1099511627776) (k:Ky1):Py N g (ai n) k=zl (-(bF g n)) k:=by unfold Py amN;rw[EK _ h,tO (!g) g (ai n) n k];congr 1; unfold bF; cases g <;> simp
theorem adu {N:Nat} (hN:1000<=N) (n:Nat) (hn:n<18446744073709551616) (b:Bool) (k:Ky1):Pv N n b k=k false (ai n):=by unfold Pv amA;rw[Ap hN n hn]; rfl
theorem zx {N:Nat} (hN:1000<=N) (n:Nat) (hn:n<9223372036854775808) (k:Ky1):FO N n k=k false (ai n):=by
 unfold FO Zh adY Y0;have e:IntKind.wrap .u64 (n:Int)=n:=by rw[ar]; omega
 rw[aFz (by omega:¬(n:Int)<0),aFA,e,Ap hN n (by omega)]; rfl
theorem WP {N:Nat} (s:Nat) (b g:Bool) (n:Nat) (hs:s<4294967296) (hN:(ai n).length+s / 64+4<N) (h:(ai n).length<=1099511627776) (k:Ky1):RV N s b g (ai n) k=zl (bF g (n*2 ^ s)) k:=by unfold RV amK;rw[WY _ (bE n) s hs hN h,aK,Rd g b _ k]
theorem wQ {n:Nat} (h0:n ≠ 0) (h:n<18446744073709551616):ai n=[(n:Int)]:=by rw[eB h0,aF4 h,bW,aFJ h]
theorem A4 (a b:Int):aH .or .u64 a b=aH .or .u64 b a:=by unfold aH xz;simp only[aGj];rw[BitVec.or_comm]
end Go.Proofs.YteifemaagdeomaaGreatDoor
