/-
  PURE: laws of the seat's functions, taken over from another seat of mine.
  Conditions: none.
-/
import Derived.Test.YtldenpmpmifnlaaGreatDoorGp
import Derived.Test.YtldenpmpmifnlaaGreatDoorBig
set_option linter.unusedVariables false
namespace Go.Proofs.YtldenpmpmifnlaaGreatDoor
open Go Go.Mach
theorem ae {a c:Bool} (h:a=true):(a&&c)=c:=by rw[h]; rfl
theorem aD (z:Int):IntKind.wrap .u64 z=z%18446744073709551616:=by rfl
theorem ti (z:Int):IntKind.wrap .u32 z=z%4294967296:=by rfl
theorem rg (z:Int):Int.fdiv z (2 ^ 32)=z / 4294967296:=by rw[ayr _ (by decide)]; rfl
theorem cz {σ:Type} {step:σ->(σ->Bool)->Bool} {s:σ} (C:Nat->σ) (n:Nat) {N:Nat} (h0:s=C 0) (hn:n<N) {out:Bool} (hs:∀ i,i<n -> ∀ K:σ->Bool,step (C i) K=K (C (i+1))) (hx:∀ K,step (C n) K=out):al N step s=out:=by subst h0; exact tK C n hn hs hx
def fM (b:List Int):Nat->Nat
 | 0=>0
 | n+1=>if b.getD n 0=0 then fM b n else n+1
theorem wc (b:List Int) (n:Nat):fM b (n+1)=if b.getD n 0=0 then fM b n else n+1:=rfl
theorem qO (b:List Int):∀ n,fM b n<=n
 | 0=>awT _
 | n+1=>by unfold fM; split; exact Nat.le_succ_of_le (qO b n); exact awT _
theorem lX {b:List Int} {i:Nat} (h:b.length<=i):b.getD i 0=0:=by rw[List.getD_eq_getElem?_getD,List.getElem?_eq_none h]; rfl
theorem gk {m:List Int} (i:Nat):bJ (m.take (i+1))=bJ (m.take i)+4294967296 ^ i*(m.getD i 0).toNat:=by
 by_cases h:i<m.length
 ·exact Fc h
 ·rw[lX (by omega),axd (by omega),axd (by omega)]; simp
theorem CF (b:List Int):∀ n,bJ (b.take (fM b n))=bJ (b.take n)
 | 0=>rfl
 | n+1=>by
  unfold fM;split
  ·rename_i h;rw[CF b n,gk,h]; simp
  ·rfl
theorem getLast?_take {b:List Int} {n:Nat} (h:n<b.length):(b.take (n+1)).getLast? = some (b.getD n 0):=by rw[ax_ h,List.getLast?_append,List.getD_eq_getElem?_getD,List.getElem?_eq_getElem h];simp
theorem wb (b:List Int):∀ n,n<=b.length -> ∀ x,(b.take (fM b n)).getLast? = some x->x ≠ 0
 | 0,_,x,h=>by simp[fM]at h
 | n+1,hn,x,h=>by
  unfold fM at h;split at h
  ·exact wb b n (by omega) x h
  ·rename_i h0;rw[getLast?_take (by omega)]at h;cases h; exact h0
theorem CZ {b:List Int} (hb:InW b):b.take (fM b b.length)=aM (bJ b):=by have h1:=CF b b.length;rw[axp]at h1;rw[<- h1,BH (hb.take _) (wb b b.length (awT _))]
theorem xJ {N:Nat} (b:List Int) (hN:b.length<N) (hs:b.length<9223372036854775807) (k:Ky9):Cd N b k=k (fM b b.length):=by
 unfold Cd aaF;have key:∀ n,n<=b.length -> ∀ M,n<M->al M (zE N 0 b λm=>k m) n=k (fM b n):=by
  intro n;induction n with
  | zero=>
   intro _ M hM;cases M with
   | zero=>omega
   | succ M=>
    show zE N 0 b _ 0 _=_;simp[zE,fM]
  | succ n ih=>
   intro hn M hM;cases M with
   | zero=>omega
   | succ M=>
    show zE N 0 b _ (n+1) (al M _)=_;have e:Int.toNat (((n+1:Nat):Int) - 1)=n:=by omega
    simp only[zE,e,axe,azt];rw[awM (by omega:((n+1:Nat):Int)>0),ae awK,ae awL,ae (awM (by omega)),ae awK,ae (awM (by omega)),ih (by omega) M (by omega)];rw[wc];by_cases h0:b.getD n 0=0
    ·have:(b.getD n 0==0)=true:=by simpa using h0
     rw[this,if_pos h0]; rfl
    ·have:(b.getD n 0==0)=false:=by simpa using h0
     rw[this,if_neg h0]; rfl
 exact key b.length (awT _) N hN
theorem adI {N:Nat} (m:List Int) (hm:InW m) (hN:m.length<N) (hs:m.length<9223372036854775807) (k:Kz1):Qx N m k=k (aM (bJ m)):=by
 unfold Qx Pv;have key:∀ n,n<9223372036854775807 -> ∀(l:List Int),l.length=n->InW l -> ∀ M,n<M->al M (kp N λm_2=>k m_2) l=k (aM (bJ l)):=by
  intro n;induction n with
  | zero=>
   intro _ l hl _ M hM;cases M with
   | zero=>omega
   | succ M=>
    have:l=[]:=List.length_eq_zero_iff.1 hl;subst this;show kp N _ [] _=_;simp[kp,bJ,gR]
  | succ n ih=>
   intro hn l hl hw M hM;cases M with
   | zero=>omega
   | succ M=>
    show kp N _ l (al M _)=_;have e:Int.toNat ((l.length:Int) - 1)=n:=by omega
    simp only[kp,e,ayc];rw[awM (by omega:(l.length:Int)>0),ae awK,ae awL,ae awK,ae (awM (by omega)),ih (by omega) (l.take n) (by simp; omega) (hw.take n) M (by omega)];have e2:=gk (m:=l) n;rw[axd (by omega)]at e2;by_cases h0:l.getD n 0=0
    ·have:(l.getD n 0==0)=true:=by simpa using h0
     rw[this];rw[h0]at e2;simp at e2;rw[e2]; rfl
    ·have:(l.getD n 0==0)=false:=by simpa using h0
     rw[this,BH hw (λx hx=>by have:=getLast?_take (b:=l) (n:=n) (by omega);rw[axd (by omega)]at this;rw[this]at hx; cases hx; exact h0)]
     rfl
 exact key m.length hs m rfl hm N hN
theorem nN {N:Nat} (b:List Int) (hb:InW b) (hN:b.length<N) (hs:b.length<9223372036854775807) (k:Kz1) :
  (Cd N b λl=>(decide (0+l<=b.length))&&k (List.take l (List.drop 0 b)))=k (aM (bJ b)):=by
 rw[xJ b hN hs,ayc,CZ hb];have:=qO b b.length;rw[awM (by omega)]; rfl
def ll (N:Nat) (l:List Int):Prop:=l.length+2<N/\l.length<=17592186044416
theorem wg (T A i:Nat):(T+4294967296 ^ i*A) / 4294967296 ^ i=T / 4294967296 ^ i+A:=axG _ _ (axJ (by decide))
theorem MY (m:List Int) (i:Nat):bJ m=bJ (m.take i)+4294967296 ^ (m.take i).length*bJ (m.drop i):=by rw[<- wT,ayM]
theorem kE (m:List Int) (i:Nat):∃ R,bJ m=bJ (m.take i)+4294967296 ^ i*R:=by
 by_cases h:i<=m.length
 ·refine⟨bJ (m.drop i),?_⟩;have:=MY m i
  rwa [axv,axU h]at this
 ·exact⟨0,by rw[axd (by omega)]; simp⟩
theorem ja {m:List Int} (h:InW m) (i:Nat):bJ (m.take i)<4294967296 ^ i:=by
 have h1:=m8 (h.take i);have h2:(m.take i).length<=i:=by simp; omega
 exact aw6 h1 (aw5 (by decide) h2)
theorem Ah {S T R i:Nat} (h:S=T+4294967296 ^ (i+1)*R):S / 4294967296 ^ i%4294967296=T / 4294967296 ^ i%4294967296:=by rw[h,awX,awW,wg,ayd]
theorem HC {N:Nat} (a b:List Int) (ha:InW a) (hb:InW b) (hl:b.length<=a.length) (hN:ll N a) (k:Kz1) :
  al N (kF N (Cd N) a b λcarry out=>(inR (a.length:Nat) out.length)&&((decide ((Int.toNat (a.length:Nat))<out.length)) &&
   (Cd N (List.set out (Int.toNat (a.length:Nat)) (IntKind.wrap .u32 carry)) λaoF=>(decide ((0+aoF)<=(List.length (List.set out (Int.toNat (a.length:Nat)) (IntKind.wrap .u32 carry)))))&&k (List.take aoF (List.drop 0 (List.set out (Int.toNat (a.length:Nat)) (IntKind.wrap .u32 carry)))))))
   (0,0,List.replicate (a.length+1) 0)=k (aM (bJ a+bJ b)):=by
 obtain⟨hN1,hN2⟩:=hN
 let S:=bJ a+bJ b
 let T:=λi=>bJ (a.take i)+bJ (b.take i)
 refine cz (λi=>(((T i / 4294967296 ^ i:Nat):Int),(i:Int),dl S i++List.replicate (a.length+1 - i) 0)) a.length (by simp[T,bJ,dl]) (by omega) (λi hi K=>?_) (λK=>?_)
 ·have hx:=ha.at (i:=i);have hy:=hb.at (i:=i);have hT:T (i+1)=T i+4294967296 ^ i*((a.getD i 0).toNat+(b.getD i 0).toNat):=by simp only[T,gk,axa]; omega
  have hq:T (i+1) / 4294967296 ^ i=T i / 4294967296 ^ i+((a.getD i 0).toNat+(b.getD i 0).toNat):=by rw[hT,wg]
  have hc:T i / 4294967296 ^ i<=1:=by
   have h1:=ja ha i;have h2:=ja hb i;have h3:T i<4294967296 ^ i*2:=by simp only[T]; omega
   have:=(awY (axJ (n:=i) (by decide:0<4294967296))).2 (by rw[awR]; exact h3:T i<2*4294967296 ^ i);omega
  have hdiv:T (i+1) / 4294967296 ^ (i+1)=T (i+1) / 4294967296 ^ i / 4294967296:=by rw[awX,awZ]
  have hdig:S / 4294967296 ^ i%4294967296=T (i+1) / 4294967296 ^ i%4294967296:=by obtain⟨R1,h1⟩:=kE a (i+1);obtain⟨R2,h2⟩:=kE b (i+1);refine Ah (R:=R1+R2) ?_;simp only[S,T];rw[axa]; omega
  have hset:=Md S i (a.length+1) (by omega);have hlen:(dl S i++List.replicate (a.length+1 - i) 0).length=a.length+1:=by simp[bu]; omega
  generalize hq':T i / 4294967296 ^ i=q at *;generalize hx':a.getD i 0=x at *;generalize hy':b.getD i 0=y at *;simp only[kF,awS];rw[awM (by omega:(i:Int)<a.length),awP,hx',hy',ae awL,hlen];have hstep:∀ s:Int,s=((q+(x.toNat+y.toNat):Nat):Int)->K ((Int.fdiv s (2 ^ 32)),((i:Int)+1),(List.set (dl S i++List.replicate (a.length+1 - i) 0) i (IntKind.wrap .u32 s)))=K (((T (i+1) / 4294967296 ^ (i+1):Nat):Int),((i+1:Nat):Int),dl S (i+1)++List.replicate (a.length+1 - (i+1)) 0):=by
   intro s hs;have e1:Int.fdiv s (2 ^ 32)=((T (i+1) / 4294967296 ^ (i+1):Nat):Int):=by rw[rg,hdiv,hq,hs]; omega
   have e2:IntKind.wrap .u32 s=((S / 4294967296 ^ i%4294967296:Nat):Int):=by rw[ti,hdig,hq,hs]; omega
   rw[e1,e2,hset]; rfl
  by_cases hib:i<b.length
  ·rw[awM (by omega:(i:Int)<b.length),awP,ae awL,ae awL,ae (awM (by omega)),ae awK];exact hstep _ (by simp only[aD]; omega)
  ·rw[awN (by omega:¬(i:Int)<b.length),awO,ae awL,ae (awM (by omega)),ae awK];have hy0:y=0:=by rw[<- hy']; exact lX (by omega)
   subst hy0;exact hstep _ (by simp only[aD]; omega)
 ·simp only[kF];rw[awN (by omega:¬(a.length:Int)<a.length),awO];have hT:T a.length=S:=by simp only[T,S]; rw[axp,axd hl]
  have hS:S<4294967296 ^ (a.length+1):=by have h1:=m8 ha;have h2:=m8 hb;have h3:4294967296 ^ b.length<=4294967296 ^ a.length:=aw5 (by decide) hl;rw[awX];simp only[S]; omega
  have hlen:(dl S a.length++List.replicate (a.length+1 - a.length) 0).length=a.length+1:=by simp[bu]
  have e2:IntKind.wrap .u32 ((T a.length / 4294967296 ^ a.length:Nat):Int)=((S / 4294967296 ^ a.length%4294967296:Nat):Int):=by rw[ti,hT]; omega
  have hset:=Md S a.length (a.length+1) (by omega);rw[e2,awS,hset,hlen,ae awL,ae (awM (by omega)),axu,axD,axn,
   nN _ (Ew S _) (by rw[bu]; omega) (by rw[bu]; omega),Ds hS]
theorem Wj {N:Nat} (a b:List Int) (ha:InW a) (hb:InW b) (hNa:ll N a) (hNb:ll N b) (k:Kz1):Qu N a b k=k (aM (bJ a+bJ b)):=by
 unfold Qu Pr;have h1:=hNa.2;have h2:=hNb.2;by_cases h:a.length<b.length
 ·rw[awM (by omega:(a.length:Int)<b.length),awP,ae awK,ae (kV (by omega) (by omega) (by omega) (by omega))];have e:Int.toNat ((b.length:Int)+1)=b.length+1:=by omega
  rw[e,HC b a hb ha (by omega) hNb k,ay1]
 ·rw[awN (by omega:¬(a.length:Int)<b.length),awO,ae awK,ae (kV (by omega) (by omega) (by omega) (by omega))];have e:Int.toNat ((a.length:Int)+1)=a.length+1:=by omega
  rw[e,HC a b ha hb (by omega) hNa k]
theorem oY (i:Nat):0<4294967296 ^ i:=axJ (by decide)
theorem EU {D e P:Nat} {z:Int} (h:(D:Int)=(e:Int)+(P:Int)*z) (he:e<P):((D / P:Nat):Int)=z:=by
 have hP:(P:Int) ≠ 0:=by omega
 rw[Int.natCast_ediv,h,Int.add_mul_ediv_left _ _ hP,<- Int.natCast_ediv,axl he];simp
theorem vX (P A B x y:Nat) (hA:A<P) (hB:B<P):(if A+P*x<B+P*y then 1 else 0)=if x<y+(if A<B then 1 else 0)then 1 else(0:Nat):=by
 by_cases hxy:x<y
 ·have:P*(x+1)<=P*y:=aw1 P hxy;rw[axa]at this;rw[if_pos (by omega),if_pos (by omega)]
 ·by_cases hyx:y<x
  ·have:P*(y+1)<=P*x:=aw1 P hyx;rw[axa]at this;rw[if_neg (by omega),if_neg (by split <;> omega)]
  ·have:x=y:=by omega
   subst this;by_cases hAB:A<B
   ·rw[if_pos (by omega),if_pos hAB,if_pos (by omega)]
   ·rw[if_neg (by omega),if_neg hAB,if_neg (by omega)]
theorem UY {P A B x y o R1 R2 D a b:Nat} (hA:A<P) (hB:B<P) (ho:o=if A<B then 1 else 0) (h1:a=A+P*x+P*4294967296*R1) (h2:b=B+P*y+P*4294967296*R2) (hD:(D:Int)=(a:Int) - (b:Int)) :
  ((D / P:Nat):Int)=(x:Int) - (y:Int) - (o:Int)+4294967296*((R1:Int) - (R2:Int)):=by
 have he:∃ e:Nat,e<P/\(e:Int)=(A:Int) - (B:Int)+(P:Int)*(o:Int):=by
  rw[ho];split
  ·exact⟨A+P - B,by omega,by omega⟩
  ·exact⟨A - B,by omega,by omega⟩
 obtain⟨e,he1,he2⟩:=he;refine EU (e:=e) ?_ he1;have e1:(a:Int)=A+(P:Int)*x+4294967296*((P:Int)*R1):=by rw[h1,awW,axm]; simp
 have e2:(b:Int)=B+(P:Int)*y+4294967296*((P:Int)*R2):=by rw[h2,awW,axm]; simp
 have e3:(P:Int)*((x:Int) - (y:Int) - (o:Int)+4294967296*((R1:Int) - (R2:Int)))=(P:Int)*x - (P:Int)*y - (P:Int)*o+(4294967296*((P:Int)*R1) - 4294967296*((P:Int)*R2)):=by rw[Int.mul_add,ay0,ay0,Int.mul_left_comm,ay0,ay0]
 rw[hD,e1,e2,e3,he2];omega
theorem Hp {N:Nat} (a b:List Int) (ha:InW a) (hb:InW b) (hle:bJ b<=bJ a) (hN:ll N a) (k:Kz1):Qp N a b k=k (aM (bJ a - bJ b)):=by
 obtain⟨hN1,hN2⟩:=hN;unfold Qp Pn;rw[ae (kV (by omega) (by omega) (by omega) (by omega)),awS]
 let D:=bJ a - bJ b
 let bo:=λi=>if bJ (a.take i)<bJ (b.take i)then(1:Nat)else 0
 refine cz (λi=>(((bo i:Nat):Int),(i:Int),dl D i++List.replicate (a.length - i) 0)) a.length (by simp[bo,bJ,dl]) (by omega) (λi hi K=>?_) (λK=>?_)
 ·have hx:=ha.at (i:=i);have hy:=hb.at (i:=i);have hA:=gk (m:=a) i;have hB:=gk (m:=b) i;have hAl:=ja ha i;have hBl:=ja hb i;have hset:=Md D i a.length (by omega);have hl:(dl D i++List.replicate (a.length - i) 0).length=a.length:=by simp[bu]; omega
  obtain⟨R1,h1⟩:=kE a (i+1);obtain⟨R2,h2⟩:=kE b (i+1);have hD:(D:Int)=(bJ a:Int) - (bJ b:Int):=by simp only[D]; omega
  have hP:=oY i;have hPs:4294967296 ^ (i+1)=4294967296 ^ i*4294967296:=awX ..;have hbo:bo i<=1:=by simp only[bo]; split <;> omega
  have hbs:bo (i+1)=if (a.getD i 0).toNat<(b.getD i 0).toNat+bo i then 1 else 0:=by simp only[bo,hA,hB];exact vX _ _ _ _ _ hAl hBl
  have hq:((D / 4294967296 ^ i:Nat):Int)=((a.getD i 0).toNat:Int) - ((b.getD i 0).toNat:Int) - (bo i:Int)+4294967296*((R1:Int) - (R2:Int)):=by rw[hA,hPs]at h1;rw[hB,hPs]at h2;exact UY hAl hBl rfl h1 h2 hD
  have hdig:((D / 4294967296 ^ i%4294967296:Nat):Int)=(((a.getD i 0).toNat:Int) - ((b.getD i 0).toNat:Int) - (bo i:Int))%4294967296:=by rw[Int.natCast_emod,hq];exact Int.add_mul_emod_self_left _ _ _
  generalize hx':a.getD i 0=x at *;generalize hy':b.getD i 0=y at *;generalize bo i=o at *;generalize bo (i+1)=o' at *;simp only[oj,awS];have hy0:¬ i<b.length->y=0:=λh=>by rw[<- hy']; exact lX (by omega)
  have fin:∀(v w:Int),v=(o':Int)->w%4294967296=((D / 4294967296 ^ i%4294967296:Nat):Int)->K (v,(i:Int)+1,List.set (dl D i++List.replicate (a.length - i) 0) i (IntKind.wrap .u32 w))=K ((o':Int),((i+1:Nat):Int),dl D (i+1)++List.replicate (a.length - (i+1)) 0):=by intro v w hv hw;rw[hv,ti,hw,hset]; rfl
  simp only[hx',hy',hl];rw[awM (by omega:(i:Int)<a.length),awP];by_cases hib:i<b.length
  ·rw[awM (by omega:(i:Int)<b.length),awP,ae awL,ae awL];by_cases hlt:x.toNat<y.toNat+o
   ·rw[awM (by simp only[aD]; omega),awP,ae awL,ae (awM (by omega)),ae awK];rw[if_pos hlt]at hbs;exact fin _ _ (by omega) (by rw[hdig]; simp only[aD]; omega)
   ·rw[awN (by simp only[aD]; omega),awO,ae awL,ae (awM (by omega)),ae awK];rw[if_neg hlt]at hbs;exact fin _ _ (by omega) (by rw[hdig]; simp only[aD]; omega)
  ·have hy1:=hy0 hib;rw[awN (by omega:¬(i:Int)<b.length),awO,ae awL];by_cases hlt:x.toNat<y.toNat+o
   ·rw[awM (by simp only[aD]; omega),awP,ae awL,ae (awM (by omega)),ae awK];rw[if_pos hlt]at hbs;exact fin _ _ (by omega) (by rw[hdig]; simp only[aD]; omega)
   ·rw[awN (by simp only[aD]; omega),awO,ae awL,ae (awM (by omega)),ae awK];rw[if_neg hlt]at hbs;exact fin _ _ (by omega) (by rw[hdig]; simp only[aD]; omega)
 ·simp only[oj];rw[awN (by omega:¬(a.length:Int)<a.length),awO,axu,axD,axn];have hS:D<4294967296 ^ a.length:=by have:=m8 ha; simp only[D]; omega
  rw[nN _ (Ew D _) (by rw[bu]; omega) (by rw[bu]; omega),Ds hS]
theorem dE (a c s:Nat) (ha:a<2 ^ s) (hlt:2 ^ s*c+a<18446744073709551616):az .or .u64 (a:Int) ((2 ^ s*c:Nat):Int)=((2 ^ s*c+a:Nat):Int):=by
 unfold az qf;simp only[axk];have e:((BitVec.ofInt (IntKind.bits .u64) (a:Int)) ||| (BitVec.ofInt (IntKind.bits .u64) ((2 ^ s*c:Nat):Int))).toNat=2 ^ s*c+a:=by
  show((BitVec.ofInt 64 (a:Int)) ||| (BitVec.ofInt 64 ((2 ^ s*c:Nat):Int))).toNat=_;have h64:(2:Nat) ^ 64=18446744073709551616:=by decide
  rw[BitVec.toNat_or,axg,axg,axi,axi,awV (by omega),awV (by omega),Nat.or_comm,<- azq ha]
 rw[e,pJ _ hlt]
theorem Ly (n:Nat) (h:n<4294967296):IntKind.wrap .u32 (n:Int)=n:=by rw[ti]; omega
theorem C5 (a c s:Nat) (ha:a<2 ^ s) (hlt:2 ^ s*c+a<4294967296):az .or .u32 (a:Int) ((2 ^ s*c:Nat):Int)=((2 ^ s*c+a:Nat):Int):=by
 unfold az qf;simp only[axk];have e:((BitVec.ofInt (IntKind.bits .u32) (a:Int)) ||| (BitVec.ofInt (IntKind.bits .u32) ((2 ^ s*c:Nat):Int))).toNat=2 ^ s*c+a:=by
  show((BitVec.ofInt 32 (a:Int)) ||| (BitVec.ofInt 32 ((2 ^ s*c:Nat):Int))).toNat=_;have h32:(2:Nat) ^ 32=4294967296:=by decide
  rw[BitVec.toNat_or,axg,axg,axi,axi,awV (by omega),awV (by omega),Nat.or_comm,<- azq ha]
 rw[e,Ly _ hlt]
def lR (x y:Nat):Int:=if x<y then -1 else if x=y then 0 else 1
theorem Uw {P A B x y:Nat} (hA:A<P) (h:x<y):lR (A+P*x) (B+P*y) = -1:=by have:P*(x+1)<=P*y:=aw1 P h;rw[axa]at this;unfold lR;rw[if_pos (by omega)]
theorem Uv {P A B x y:Nat} (hB:B<P) (h:y<x):lR (A+P*x) (B+P*y)=1:=by have:P*(y+1)<=P*x:=aw1 P h;rw[axa]at this;unfold lR;rw[if_neg (by omega),if_neg (by omega)]
theorem JE {P A B x:Nat}:lR (A+P*x) (B+P*x)=lR A B:=by
 unfold lR;by_cases h3:A<B
 ·rw[if_pos h3,if_pos (by omega)]
 ·by_cases h4:A=B
  ·subst h4; simp
  ·rw[if_neg h3,if_neg h4,if_neg (by omega),if_neg (by omega)]
theorem HY {N:Nat} (a b:List Int) (ha:InW a) (hb:InW b) (hl:a.length=b.length) (hs:a.length<9223372036854775807) (k:Ky8) :
  ∀ n,n<=a.length -> ∀ M,n<M->al M (zB N a b (λt4=>k t4) (k 0)) ((n:Int) - 1)=k (lR (bJ (a.take n)) (bJ (b.take n))):=by
 intro n;induction n with
 | zero=>
  intro _ M hM;cases M with
  | zero=>omega
  | succ M=>
   show zB N a b _ _ ((0:Nat) - 1:Int) _=_;simp[zB,lR,bJ]
 | succ n ih=>
  intro hn M hM;cases M with
  | zero=>omega
  | succ M=>
   show zB N a b _ _ (((n+1:Nat):Int) - 1) (al M _)=_;have e:(((n+1:Nat):Int) - 1)=(n:Int):=by omega
   have hx:=ha.at (i:=n);have hy:=hb.at (i:=n);have hA:=gk (m:=a) n;have hB:=gk (m:=b) n;have hAl:=ja ha n;have hBl:=ja hb n;rw[e];simp only[zB,awS];rw[hA,hB,awM (by omega:(n:Int)>=0),awP,ae awL,ae awL,ae awL,ae awL,ae awK,ih (by omega) M (by omega)];by_cases h1:a.getD n 0<b.getD n 0
   ·rw[awM h1,awP,Uw hAl (by omega)]
   ·rw[awN h1,awO];by_cases h2:a.getD n 0>b.getD n 0
    ·rw[awM h2,awP,Uv hBl (by omega)]
    ·rw[awN h2,awO];have:a.getD n 0=b.getD n 0:=by omega
     rw[this,JE]
theorem re {x y:Nat} (h:x<=y):(aM x).length<=(aM y).length:=by
 induction y using Nat.strongRecOn generalizing x with
 | ind y ih=>
  by_cases hx:x=0
  ·subst hx; rw[gR]; simp
  ·rw[nE hx,nE (by omega:y ≠ 0)];simp only[axj];have:=ih (y / 4294967296) (by omega) (x:=x / 4294967296) (azi h);omega
theorem Ky {N:Nat} (x y:Nat) (hx:ll N (aM x)) (hy:ll N (aM y)) (k:Ky8):Qm N (aM x) (aM y) k=k (lR x y):=by
 unfold Qm Pf;obtain⟨x1,x2⟩:=hx;obtain⟨y1,y2⟩:=hy;by_cases h:(aM x).length=(aM y).length
 ·have e:(((aM x).length:Int) != (aM y).length)=false:=by rw[h]; simp
  rw[e,awO,ae awK,HY (aM x) (aM y) (dL x) (dL y) h (by omega) k _ (awT _) N (by omega),axp,h,axp,bR,bR]
 ·have e:(((aM x).length:Int) != (aM y).length)=true:=by simp; omega
  rw[e,awP];by_cases h1:(aM x).length<(aM y).length
  ·rw[awM (by omega),awP];have:x<y:=by
    rcases axY x y with h2 | h2
    ·exact h2
    ·have:=re h2; omega
   unfold lR; rw[if_pos this]
  ·rw[awN (by omega),awO];have:¬ x<=y:=λh2=>by have:=re h2; omega
   unfold lR; rw[if_neg (by omega),if_neg (by omega)]
def bl (n:Nat):Nat:=if n=0 then 0 else n.log2+1
theorem vV {n:Nat} (j:Nat) (h:2 ^ j<=n):bl n=j+bl (n / 2 ^ j):=by
 have hp:0<2 ^ j:=aw0 j;have h0:n ≠ 0:=by omega
 have h1:n / 2 ^ j ≠ 0:=by have:=azB h hp;omega
 unfold bl;rw[if_neg h0,if_neg h1];have hj:j<=n.log2:=(Nat.le_log2 h0).2 h;have:(n / 2 ^ j).log2=n.log2 - j:=by
  rw[Nat.log2_eq_iff h1];have h2:=Nat.log2_self_le h0;have h3:n<2 ^ (n.log2+1):=Nat.lt_log2_self;constructor
  ·rw[ayf hp,<- aw2];rw[show n.log2 - j+j=n.log2 by omega]; exact h2
  ·rw[awY hp,<- aw2];rw[show n.log2 - j+1+j=n.log2+1 by omega]; exact h3
 omega
theorem ag2:∀ i:Fin 256,di.getD i.val 0=(bl i.val:Int):=by decide +kernel
theorem ag1 {i:Nat} (h:i<256):di.getD i 0=(bl i:Int):=ag2 ⟨i,h⟩
theorem Uo {n:Nat} (h:n<256):bl n<=8:=by
 unfold bl;split
 ·omega
 ·rename_i h0;have:=(Nat.log2_lt h0).2 (by simpa using h:n<2 ^ 8);omega
theorem ajM (z:Int):IntKind.wrap .u8 z=z%256:=by rfl
theorem aiy (z:Int):Int.fdiv z (2 ^ 8)=z / 256:=by rw[ayr _ (by decide)]; rfl
theorem afV (z:Int):Int.fdiv z (2 ^ 16)=z / 65536:=by rw[ayr _ (by decide)]; rfl
theorem we:∀ n,n ≠ 0->bl n=32*((aM n).length - 1)+bl ((aM n).getD ((aM n).length - 1) 0).toNat/\0<(aM n).length:=by
  intro n;induction n using Nat.strongRecOn with
  | ind n ih=>
    intro h;rw[nE h];by_cases h1:n / 4294967296=0
    · rw[h1,gR]
      have:n%4294967296=n:=awV (by omega);simp[this]
    · obtain⟨i1,i2⟩:=ih (n / 4294967296) (by omega) h1
      have e:=vV (n:=n) 32 (by have:(2:Nat) ^ 32=4294967296:=(by decide); omega);rw[show(2:Nat) ^ 32=4294967296 by decide]at e;refine⟨?_,by simp⟩;have e2:(((n%4294967296:Nat):Int)::aM (n / 4294967296)).getD ((((n%4294967296:Nat):Int)::aM (n / 4294967296)).length - 1) 0=(aM (n / 4294967296)).getD ((aM (n / 4294967296)).length - 1) 0:=by
        simp only[axj,ay3];generalize aM (n / 4294967296)=l at i2 ⊢;cases l with
        | nil=>simp at i2
        | cons y l=>simp
      rw[e2,e,i1];simp only[axj];omega
theorem EA:∀(w X:Nat),dl (4294967296 ^ w*X) w=List.replicate w 0:=by
 intro w;have key:∀ n,n<=w -> ∀ X,dl (4294967296 ^ w*X) n=List.replicate n 0:=by
  intro n;induction n with
  | zero=>intro _ X; rfl
  | succ n ih=>
   intro hn X;rw[dl,ih (by omega),ayT];have e:4294967296 ^ w*X=4294967296 ^ n*(4294967296*(4294967296 ^ (w - n - 1)*X)):=by rw[<- awW,<- awW,<- awX,<- aw2];congr 2; omega
   rw[e,axx _ (oY n),Nat.mul_mod_right];rfl
 exact key w (awT _)
theorem adZ (n:Nat):2 ^ n=4294967296 ^ (n / 32)*2 ^ (n%32):=by
 have:(4294967296:Nat)=2 ^ 32:=by decide
 rw[this,<- azC,<- aw2];congr 1; omega
theorem dY {α:Type} (xs:List α) (y:α) (ys:List α) (z:α) (n:Nat) (h:n=xs.length):(xs++y::ys).set n z=xs++z::ys:=by subst h; rw[aze _ _ (awT _),axu]; rfl
theorem iB {xs:List Int} {y:Int} {ys:List Int} {n:Nat} (h:n=xs.length):(xs++y::ys).getD n 0=y:=by subst h; rw[List.getD_eq_getElem?_getD,List.getElem?_append_right (awT _),axu]; rfl
theorem Wg {N:Nat} (m:List Int) (hm:InW m) (n:Nat) (hn:n<4294967296) (hN:m.length+n / 32+4<N) (hs:m.length<=1099511627776) (k:Kz1):Qt N m n k=k (aM (bJ m*2 ^ n)):=by
 unfold Qt Pq;by_cases h0:m.length=0
 ·have:m=[]:=List.length_eq_zero_iff.1 h0;subst this;simp[bJ,gR]
 ·have e0:((m.length:Int)==0)=false:=by simp; intro h; subst h; simp at h0
  have ew:IntKind.wrap .u64 (Int.tdiv (n:Int) 32)=((n / 32:Nat):Int):=by rw[aD,ax0 (by omega)]; omega
  have es:Int.tmod (n:Int) 32=((n%32:Nat):Int):=by rw[axS (by omega)]; rfl
  rw[e0,awO,ew,es];generalize hw:n / 32=w at *;generalize hsh:n%32=s at *;have hs32:s<32:=by omega
  have hp2:2 ^ n=4294967296 ^ w*2 ^ s:=by rw[adZ,hw,hsh]
  have hs0:0<2 ^ s:=aw0 s;have hs1:2 ^ s*2 ^ (32 - s)=4294967296:=by rw[<- aw2,show s+(32 - s)=32 by omega]
  have hs2:2 ^ s<=2147483648:=by have:2 ^ s<=2 ^ 31:=aw5 (by decide) (by omega);simpa using this
  have elen:Int.toNat (((w:Nat):Int)+(m.length:Int)+1)=w+m.length+1:=by omega
  rw[ae awK,ae awK,ae awK,ae (kV (by omega) (by omega) (by omega) (by omega)),elen]
  let V:=bJ m*2 ^ n
  let X:=bJ m*2 ^ s
  have hVX:V=4294967296 ^ w*X:=by simp only[V,X]; rw[hp2,axm]
  let T:=λi=>bJ (m.take i)*2 ^ s
  let c:=λi=>T i / 4294967296 ^ i
  refine cz (λi=>((i:Int),dl V (w+i)++((c i:Nat):Int)::List.replicate (m.length - i) 0)) m.length ?_ (by omega) (λi hi K=>?_) (λK=>?_)
  ·congr 1;show List.replicate (w+m.length+1) (0:Int)=dl V w++((c 0:Nat):Int)::List.replicate m.length 0;rw[hVX,EA];have hc0:c 0=0:=by simp[c,T,bJ]
   rw[hc0];have:w+m.length+1=w+(m.length+1):=by omega
   rw[this,<- ayz,axy]; rfl
  ·have hx:=hm.at (i:=i);have hT:T (i+1)=T i+4294967296 ^ i*((m.getD i 0).toNat*2 ^ s):=by simp only[T,gk,axh,awW]
   have hq:T (i+1) / 4294967296 ^ i=c i+(m.getD i 0).toNat*2 ^ s:=by rw[hT,wg]
   have hci:c i<2 ^ s:=by simp only[c,T];rw[awY (oY i),awR];exact ax1 (ja hm i) hs0
   have hc1:c (i+1)=(c i+(m.getD i 0).toNat*2 ^ s) / 4294967296:=by rw[<- hq]; simp only[c]; rw[awX,awZ]
   have hdig:V / 4294967296 ^ (w+i)%4294967296=(c i+(m.getD i 0).toNat*2 ^ s)%4294967296:=by rw[<- hq,hVX,aw2,<- awZ,axx _ (oY w)];obtain⟨R,hR⟩:=kE m (i+1);refine Ah (R:=R*2 ^ s) ?_;simp only[X,T];rw[hR,axh,awW]
   have hrep:List.replicate (m.length - i) (0:Int)=0::List.replicate (m.length - (i+1)) 0:=by rw[show m.length - i=(m.length - (i+1))+1 by omega,axy]
   have hdl:=bu V (w+i);have ei:Int.toNat ((w:Int)+(i:Int))=w+i:=by omega
   have ei1:Int.toNat ((w:Int)+(i:Int)+1)=w+i+1:=by omega
   have emin:min s 64=s:=by omega
   simp only[IW,awS,ei,ei1,emin];rw[hrep,iB hdl.symm,dY _ _ _ _ _ hdl.symm];have et:IntKind.wrap .u64 (IntKind.wrap .u64 (m.getD i 0)*2 ^ s)=(((m.getD i 0).toNat*2 ^ s:Nat):Int):=by
    have hxs:(m.getD i 0).toNat*2 ^ s<4294967296*2147483648:=axT (by omega) hs2 (by decide);have e1:IntKind.wrap .u64 (m.getD i 0)=(((m.getD i 0).toNat:Nat):Int):=by rw[aD]; omega
    have e2:(((m.getD i 0).toNat:Nat):Int)*2 ^ s=(((m.getD i 0).toNat*2 ^ s:Nat):Int):=by simp
    rw[e1,e2,aD]; omega
   rw[et];generalize hxx:(m.getD i 0).toNat=x at *;have hx32:x<4294967296:=by omega
   have hlow:x*2 ^ s%4294967296=2 ^ s*(x%2 ^ (32 - s)):=by
    have e:x*2 ^ s%(2 ^ s*2 ^ (32 - s))=2 ^ s*(x%2 ^ (32 - s)):=by rw[awR x]; exact ayy _ _ _
    rwa [hs1]at e
   have hsum:2 ^ s*(x%2 ^ (32 - s))+c i<4294967296:=by have h1:x%2 ^ (32 - s)+1<=2 ^ (32 - s):=axf _ (aw0 _);have h2:=aw1 (2 ^ s) h1;rw[hs1,axa]at h2;omega
   have eor:az .or .u32 ((c i:Nat):Int) (IntKind.wrap .u32 ((x*2 ^ s:Nat):Int))=((V / 4294967296 ^ (w+i)%4294967296:Nat):Int):=by
    have e1:IntKind.wrap .u32 ((x*2 ^ s:Nat):Int)=((2 ^ s*(x%2 ^ (32 - s)):Nat):Int):=by rw[<- hlow,ti]; omega
    rw[e1,C5 _ _ s hci hsum,hdig];omega
   have ehi:IntKind.wrap .u32 (Int.fdiv ((x*2 ^ s:Nat):Int) (2 ^ 32))=((c (i+1):Nat):Int):=by have hxs:x*2 ^ s<4294967296*2147483648:=axT hx32 hs2 (by decide);rw[rg,ti,hc1];omega
   rw[eor,ehi];have hl1:∀(a b:Int) (ys:List Int),(dl V (w+i)++a::b::ys).length=w+i+2+ys.length:=by intro a b ys; simp[hdl]; omega
   have hset2:(dl V (w+i)++((V / 4294967296 ^ (w+i)%4294967296:Nat):Int)::0::List.replicate (m.length - (i+1)) 0).set (w+i+1) ((c (i+1):Nat):Int)=dl V (w+(i+1))++((c (i+1):Nat):Int)::List.replicate (m.length - (i+1)) 0:=by
    have:dl V (w+i)++((V / 4294967296 ^ (w+i)%4294967296:Nat):Int)::0::List.replicate (m.length - (i+1)) 0=dl V (w+(i+1))++0::List.replicate (m.length - (i+1)) 0:=by rw[<- axo,dl]; simp
    rw[this];exact dY _ _ _ _ _ (by rw[bu]; omega)
   rw[hset2,hl1,hl1];simp only[ayw];rw[awM (by omega:(i:Int)<m.length),awP,ae awL,ae (awM (by omega)),ae awK,ae awL,ae (awM (by omega)),ae awL,ae (awM (by omega)),
    ae awK,ae awK,ae awL,ae (awM (by omega)),ae awK]
   rfl
  ·simp only[IW];rw[awN (by omega:¬(m.length:Int)<m.length),awO,axu,axD];have hV:V<4294967296 ^ (w+m.length+1):=by have h1:=m8 hm;simp only[V];rw[hp2,awX,aw2,axm,awW];refine ax1 ?_ (oY w);exact axT h1 (by omega) (by decide)
   have hT:T m.length=X:=by simp only[T,X]; rw[axp]
   have hend:dl V (w+m.length)++[((c m.length:Nat):Int)]=dl V (w+m.length+1):=by
    rw[dl];have:c m.length=V / 4294967296 ^ (w+m.length)%4294967296:=by simp only[c];rw[hT,hVX,aw2,<- awZ,axx _ (oY w)];rw[awV];rw[awY (oY _),awR];have h1:=m8 hm;simp only[X];exact axT h1 (by omega) (by decide)
    rw[this]
   rw[hend,nN _ (Ew V _) (by rw[bu]; omega) (by rw[bu]; omega),Ds hV]
theorem Hs {N:Nat} (n:Nat) (hn:n<18446744073709551616) (hN:4<N) (k:Kz1):W8 N n k=k (aM n):=by
 unfold W8 abC;have hw:InW [IntKind.wrap .u32 (n:Int),IntKind.wrap .u32 (Int.fdiv (n:Int) (2 ^ 32))]:=by intro x hx;simp only[ti,rg,axZ,ayV,or_false]at hx;rcases hx with rfl | rfl <;> omega
 have hv:bJ [IntKind.wrap .u32 (n:Int),IntKind.wrap .u32 (Int.fdiv (n:Int) (2 ^ 32))]=n:=by simp only[bJ,ti,rg]; omega
 rw[nN _ hw (by simp; omega) (by simp),hv]
def sg (neg:Bool) (n:Nat):Bool:=neg&&decide (n ≠ 0)
theorem H3 (n:Nat):decide (((aM n).length:Int)>0)=decide (n ≠ 0):=by
 by_cases h:n=0
 ·subst h; rw[gR]; simp
 ·obtain⟨-,h2⟩:=we n h;rw[awM (by omega),awM h]
theorem aeT (neg:Bool) (n:Nat) (k:Ky1):cond (neg==true) (k (decide (((aM n).length:Int)>0)) (aM n)) (k false (aM n))=k (sg neg n) (aM n):=by rw[H3];cases neg <;> rfl
theorem oW {N:Nat} (neg:Bool) (m:List Int) (b:Bool) (hm:InW m) (hN:ll N m) (k:Ky1):Lc N neg m b k=k (sg neg (bJ m)) (aM (bJ m)):=by unfold Lc aa6;rw[adI m hm (by have:=hN.1; omega) (by have:=hN.2; omega)];exact aeT neg _ k
theorem yD {N:Nat} (n:Nat) (hn:n<18446744073709551616) (b:Bool) (hN:ll N (aM n)) (h4:4<N) (k:Ky1):W5 N n b k=k false (aM n):=by unfold W5 abq;rw[Hs n hn h4,oW false _ b (dL n) hN,bR];rfl
def cT (g:Bool) (n:Nat):Int:=if g=true then -(n:Int)else n
def vF (z:Int) (k:Ky1):Bool:=k (decide (z<0)) (aM z.natAbs)
theorem xO (g:Bool) (n:Nat) (k:Ky1):k (sg g n) (aM n)=vF (cT g n) k:=by
 unfold vF cT sg;cases g
 ·simp only[axq,axc,azx,axI];rw[awN (by omega)]
 ·simp only[ax5,axB,azc,axI];congr 1;by_cases h:n=0
  ·subst h; rfl
  ·rw[awM h,awM (by omega)]
theorem rz (z:Int):cT (decide (z<0)) z.natAbs=z:=by
 unfold cT;by_cases h:z<0
 ·rw[awM h]; simp; omega
 ·rw[awN h]; simp; omega
theorem xx {x y:Nat}:decide (lR x y>=0)=decide (y<=x):=by
 unfold lR;split
 ·rw[awN (by omega),awN (by omega)]
 ·split
  ·rw[awM (by omega),awM (by omega)]
  ·rw[awM (by omega),awM (by omega)]
theorem Tq (g1 g2 turn:Bool) (n1 n2:Nat) (k:Ky1) :
  cond (g1==(g2 != turn)) (k (sg (g2 != turn) (n1+n2)) (aM (n1+n2))) (cond (decide (lR n1 n2>=0)) (k (sg g1 (n1 - n2)) (aM (n1 - n2))) (k (sg (g2 != turn) (n2 - n1)) (aM (n2 - n1))))
   = vF (cT g1 n1+(if turn=true then -(cT g2 n2)else cT g2 n2)) k:=by
 rw[xO _ _ k,xO _ _ k,xO _ _ k,xx];have key:∀ a b:Int,a=b->vF a k=vF b k:=λa b h=>by rw[h]
 cases g1 <;> cases g2 <;> cases turn <;> simp only[cT] <;> by_cases h:n2<=n1 <;> simp only[h,azm,azu,awP,awO,bne,ayl,azk,azb,axq,ax5,axc,(by decide:(false==true)=false),(by decide:(true==false)=false)] <;> refine key _ _ ?_ <;> omega
theorem SK {N:Nat} (turn b g1:Bool) (n1:Nat) (g2:Bool) (n2:Nat) (h1:ll N (aM n1)) (h2:ll N (aM n2)) (h3:ll N (aM (n1+n2))) (k:Ky1) :
  aep N turn b g1 (aM n1) g2 (aM n2) k=vF (cT g1 n1+(if turn=true then -(cT g2 n2)else cT g2 n2)) k:=by
 unfold aep abu;have hs:∀ m,m<=n1+n2->ll N (aM m):=λm hm=>by have:=re hm;exact⟨by have:=h3.1; omega,by have:=h3.2; omega⟩
 rw[Wj _ _ (dL _) (dL _) h1 h2,Ky _ _ h1 h2,bR,bR,oW _ _ _ (dL _) h3,bR,<- Tq];congr 1;by_cases h:n2<=n1
 ·rw[Hp _ _ (dL _) (dL _) (by rw[bR,bR]; exact h) h1,bR,bR,oW _ _ _ (dL _) (hs _ (by omega)),bR,xx,awM h];rfl
 ·rw[Hp _ _ (dL n2) (dL n1) (by rw[bR,bR]; omega) h2,bR,bR,oW _ _ _ (dL _) (hs _ (by omega)),bR,xx,awN h];rfl
def ajG (N m s:Nat):Prop:=(aM m).length+s / 32+4<N/\(aM m).length<=1099511627776/\s<4294967296/\ll N (aM (m*2 ^ s))
theorem Su {N:Nat} (s:Nat) (b g:Bool) (n:Nat) (h:ajG N n s) (k:Ky1):Qh N s b g (aM n) k=vF (cT g (n*2 ^ s)) k:=by unfold Qh O8;rw[Wg _ (dL n) s h.2.2.1 h.1 h.2.1,bR,oW _ _ _ (dL _) h.2.2.2,bR,xO _ _ k]
theorem UZ {n:Nat}:(((aM n).length:Int)==0)=decide (n=0):=by
 by_cases h:n=0
 ·subst h; rw[gR]; rfl
 ·obtain⟨-,h2⟩:=we n h;rw[awN h]; simp; intro h'; rw[h']at h2; simp at h2
theorem MH {N:Nat} (n:Nat) (hn:n<9223372036854775808) (hs:ll N (aM n)) (h4:4<N) (k:Ky1):KZ N n k=k false (aM n):=by
 unfold KZ Pj agP RM PA;have e:IntKind.wrap .u64 (n:Int)=n:=by rw[aD]; omega
 rw[awN (by omega:¬(n:Int)<0),awO,e,Hs n (by omega) h4,oW _ _ _ (dL _) hs,bR];rfl
theorem mQ (a b:Nat):Int.fdiv (a:Int) (b:Int)=((a / b:Nat):Int):=by rw[ayr _ (by omega)]; rfl
theorem vf (N:Nat) (k:Ky8):Qr N 52 2047 1075 k=k 9223372036854775808:=by rfl
theorem qh (N:Nat) (k:Ky8):aes N 52 2047 1075 k=k 9218868437227405312:=by rfl
theorem nO (N:Nat) (k:Ky8):IE N 52 2047 1075 k=k 4503599627370496:=by rfl
theorem Dg (N:Nat) (k:Ky8):Qz N 52 2047 1075 k=k 9221120237041090561:=by unfold Qz Px;simp only[qh,nO];exact azJ k (by decide)
theorem adK (N:Nat) (b:Nat) (k:Ky7):aer N b 52 2047 1075 k=k (isNaN b):=by unfold aer abB;simp only[vf,qh,oO];congr 1;rw[ayo,ayi,jP];omega
def cnb (b:Nat):Nat:=if isNaN b then 9221120237041090561 else b
theorem Hn (N:Nat) (b:Nat) (k:Ky8):WZ N b 52 2047 1075 k=k (cnb b):=by unfold WZ abb;simp only[adK,Dg,cnb];cases isNaN b <;> rfl
theorem Hq (N:Nat) (b:Nat) (k:Kx6):K8 N b 52 2047 1075 k=k (az .and .u64 (cnb b) 9223372036854775808 != 0) ((cnb b / 4503599627370496%2048:Nat):Int) ((cnb b%4503599627370496:Nat):Int):=by
 unfold K8 aaY;simp only[Hn,vf,nO];have e1:(2:Int) ^ (min (Int.toNat 52) 64)=((4503599627370496:Nat):Int):=by decide
 have e2:IntKind.wrap .u64 2047=((2 ^ 11 - 1:Nat):Int):=by decide
 have e3:IntKind.wrap .u64 (4503599627370496 - 1)=((2 ^ 52 - 1:Nat):Int):=by decide
 have e4:decide ((0:Int)<=52)=true:=by decide
 rw[e1,mQ,e2,e3,nD _ _ (by decide),nD _ _ (by decide),e4,aj (by omega) (by omega)];rfl
theorem PK (b:Nat):cls b=if (cnb b / 4503599627370496%2048)=2047 then(if cnb b%4503599627370496=0 then 2 else 1)else if cnb b / 4503599627370496%2048=0 then(if cnb b%4503599627370496=0 then 3 else 4)else 5:=by
 unfold cls cnb;by_cases h:isNaN b=true
 ·rw[if_pos h,if_pos h]; decide
 ·rw[if_neg h,if_neg h];have hn:¬(9218868437227405312<b%9223372036854775808):=λq=>h ((jP b).2 q)
  by_cases h1:b / 4503599627370496%2048=2047
  ·rw[if_pos h1,if_pos h1,if_pos (by omega)]
  ·rw[if_neg h1,if_neg h1]
theorem Ho (N:Nat) (b:Nat) (k:Ky8):K7 N b 52 2047 1075 k=k (cls b):=by
 unfold K7 aaX;simp only[Hq,PK b];generalize cnb b / 4503599627370496%2048=e;generalize cnb b%4503599627370496=f;have d1:((e:Int)==2047)=decide (e=2047):=by rw[ayo,azl,ayi]; omega
 have d2:((e:Int)==0)=decide (e=0):=by rw[ayo,azl,ayi]; omega
 have d3:((f:Int)==0)=decide (f=0):=by rw[ayo,azl,ayi]; omega
 simp only[bne,d1,d2,d3];by_cases h1:e=2047 <;> by_cases h2:e=0 <;> by_cases h3:f=0 <;> simp[h1,h2,h3]
theorem Sm (N:Nat) (b:Nat) (k:Ky8):HH N b k=k (cls b):=by unfold HH Pt;simp only[Fq,xQ,zP,Ho]
theorem afP (a b:Nat) (_ha:a<18446744073709551616\/True):decide ((cnb a:Int)=cnb b)=decide (cn (some a)=cn (some b)):=by
 have hq:isNaN 9221120237041090561=true:=by decide
 rw[ayo,ayi,ayi];have cf:∀ c,cn (some c)=if isNaN c=true then none else some c:=λ_=>rfl
 rw[cf,cf];unfold cnb;by_cases h1:isNaN a=true <;> by_cases h2:isNaN b=true
 ·simp[h1,h2]
 ·rw[if_pos h1,if_neg h2,if_pos h1,if_neg h2];refine⟨λh=>?_,λh=>by cases h⟩;have:b=9221120237041090561:=by omega
  rw[this]at h2; exact absurd hq h2
 ·rw[if_neg h1,if_pos h2,if_neg h1,if_pos h2];refine⟨λh=>?_,λh=>by cases h⟩;have:a=9221120237041090561:=by omega
  rw[this]at h1; exact absurd hq h1
 ·simp only[h1,h2,axc,aw7,axq]; omega
theorem adF (N:Nat) (b:Nat) (k:Kz0):HJ N b k=k (oJ (some b)):=by unfold HJ Pz;simp only[Fq,Fp,oO];rfl
theorem afQ (b:Bool) (k:Ky7):cond b (k true) (k false)=k b:=by cases b <;> rfl
theorem CA {a c:Bool} (h:a=true):(a&&c)=c:=by rw[h]; rfl
def PC (N n:Nat):Prop:=n<N/\n<=17592186044416
def ji (xs:List Fl):Bool:=HU (λi=>aw (xs.getD i none)) xs.length
theorem rA {N:Nat} (xs:List Fl) (hl:PC N xs.length) (k:Ky7):K9 N xs k=k (ji xs):=by
 unfold K9 aa0 K2;rw[<- afQ (ji xs) k];refine(B2 (λi=>(i:Int)) (λi=>aw (xs.getD i none)) xs.length hl.1 (λi hi K=>?_) (λK=>?_):_)
 ·have h2:=hl.2;simp only[oe,awS];rw[UV (by omega),awP,CA awL,CA awK];have hc:=Uu (xs.getD i none);generalize JD (xs.getD i none)=c at hc ⊢;generalize aw (xs.getD i none)=f at hc ⊢;have d1:(c==1)=decide (c=1):=rfl;have d2:(c==2)=decide (c=2):=rfl;rw[d1,d2];generalize decide (c=1)=u at *;generalize decide (c=2)=v at *;cases u <;> cases v <;> cases f <;> first | rfl | cases hc
 ·simp only[oe];rw[R3 (by omega),awO]
def Ei:Fl->Nat
 | none=>9221120237041090561
 | some b=>cnb b
theorem M7 (d:Ieee.Datum) (h:d.isNaN=false):d.order d=some .eq:=by
 cases d with
 | nan s t=>cases h
 | infinity s=>simp[Ieee.Datum.order,compare,compareOfLessAndEq]
 | number s m i=>simp[Ieee.Datum.order,compare,compareOfLessAndEq]
theorem R8 (b:Nat) (h:isNaN b=false):(Ieee.double.order b b==some .eq)=true:=by unfold Ieee.Format.order;rw[M7 _ h]; rfl
theorem U_ (b:Nat):feq (some b) (some b) = !isNaN b:=by
 cases h:isNaN b with
 | true=>simp[feq,vq,rG b h]
 | false=>simp only[feq,vq,azb]; exact R8 b h
theorem Wb (N:Nat) (x:Fl) (k:Ky8):Qv N x k=k (Ei x):=by
 unfold Qv Ps yH;cases x with
 | none=>rfl
 | some b=>
  rw[U_];simp only[Ei,cnb];cases isNaN b <;> rfl
theorem KM (a b:Nat):Int.tmod (a:Int) (b:Int)=((a%b:Nat):Int):=by rw[axS (by omega)]; rfl
theorem Sy (N:Nat) (x:Fl) (k:Kx6):KX N x k=k (Int.fdiv (Ei x:Int) (2 ^ 63)==1) ((Ei x / 4503599627370496%2048:Nat):Int) ((Ei x%4503599627370496:Nat):Int):=by
 unfold KX Ph;simp only[Wb];have e1:(2:Int) ^ 52=((4503599627370496:Nat):Int):=by decide
 have e2:(2048:Int)=((2048:Nat):Int):=rfl;have e3:(4503599627370496:Int)=((4503599627370496:Nat):Int):=rfl;rw[e1,e2,e3,mQ,KM,KM,aj (by omega) (by omega)];rfl
theorem MB {n i j:Nat} (hi:i<n) (hj:j<n):i*n+j<n*n:=by have:(i+1)*n<=n*n:=awU n hi;rw[axh]at this; omega
def chk (r c:Int) (xs:List Fl):Int:=if (0<=r/\r<=12)/\(0<=c/\c<=12)then(if (xs.length:Int)=r*c then(if ji xs=true then 0 else 4)else 3)else 1
theorem Ae {r c:Int} {xs:List Fl}:chk r c xs=0↔((0<=r/\r<=12)/\(0<=c/\c<=12))/\(xs.length:Int)=r*c/\ji xs=true:=by
 unfold chk;split
 ·split
  ·split
   ·simp[*]
   ·simp[*]
  ·simp[*]
 ·simp[*]
def elt (xs:List Fl) (n i j:Nat):Fl:=xs.getD (i*n+j) none
def aip (xs ys:List Fl):Nat->Fl
 | 0=>some 0
 | i+1=>cu (aip xs ys i) (aZ (xs.getD i none) (ys.getD i none))
def ain (xs:List Fl) (n j:Nat):Nat->List Fl
 | 0=>[]
 | i+1=>ain xs n j i++[elt xs n i j]
def vL (xs h:List Fl) (n:Nat):Nat->List Fl
 | 0=>List.replicate n (some 0)
 | j+1=>(vL xs h n j).set j (aip (ain xs n j n) h n)
def ag_ (v a:List Fl) (j:Nat):Fl:=cu (a.getD (j+1) none) (aZ (v.getD j none) (v.getD j none))
def aL (v:List Fl) (r:Fl) (n:Nat):Nat->List Fl
 | 0=>(List.replicate (n+1) (some 0)).set n r
 | i+1=>(aL v r n i).set (n - 1 - i) (ag_ v (aL v r n i) (n - 1 - i))
def fA (xs h:List Fl) (r:Fl) (n:Nat):List Fl:=aL (vL xs h n n) r n n
theorem P5 (V x Bk bk i k:Nat):V%4294967296 ^ (i+k+1)+x*(Bk+4294967296 ^ k*bk)*4294967296 ^ i=(V%4294967296 ^ (i+k)+x*Bk*4294967296 ^ i)+4294967296 ^ (i+k)*(V / 4294967296 ^ (i+k)%4294967296+x*bk):=by rw[Nat.mod_pow_succ,aw2];grind
theorem L7 (V x Bk bk i k:Nat):(V%4294967296 ^ (i+k+1)+x*(Bk+4294967296 ^ k*bk)*4294967296 ^ i) / 4294967296 ^ (i+k+1)=((V%4294967296 ^ (i+k)+x*Bk*4294967296 ^ i) / 4294967296 ^ (i+k)+V / 4294967296 ^ (i+k)%4294967296+x*bk) / 4294967296:=by rw[P5,awX,<- awZ,axG _ _ (axJ (by decide)),axo]
theorem JA (V x Bk bk i k R:Nat):(V+x*(Bk+4294967296 ^ k*bk+4294967296 ^ (k+1)*R)*4294967296 ^ i) / 4294967296 ^ (i+k)%4294967296=((V%4294967296 ^ (i+k)+x*Bk*4294967296 ^ i) / 4294967296 ^ (i+k)+V / 4294967296 ^ (i+k)%4294967296+x*bk)%4294967296:=by
 have e:V+x*(Bk+4294967296 ^ k*bk+4294967296 ^ (k+1)*R)*4294967296 ^ i=(V%4294967296 ^ (i+k+1)+x*(Bk+4294967296 ^ k*bk)*4294967296 ^ i)+4294967296 ^ (i+k+1)*(V / 4294967296 ^ (i+k+1)+x*R):=by
  have h:=axz V (4294967296 ^ (i+k+1));have h2:4294967296 ^ (i+k+1)=4294967296 ^ (k+1)*4294967296 ^ i:=by rw[<- aw2]; congr 1; omega
  generalize V / 4294967296 ^ (i+k+1)=q at *;generalize V%4294967296 ^ (i+k+1)=r at *;rw[<- h,h2];grind
 rw[Ah e,P5,axG _ _ (axJ (by decide)),axo]
theorem Us {V x Bk i k:Nat} (hx:x<4294967296) (hB:Bk<4294967296 ^ k):(V%4294967296 ^ (i+k)+x*Bk*4294967296 ^ i) / 4294967296 ^ (i+k)<4294967296:=by
 rw[awY (axJ (by decide))];have h1:V%4294967296 ^ (i+k)<4294967296 ^ (i+k):=axf _ (axJ (by decide));have h2:x*Bk<=4294967295*4294967296 ^ k:=axK (by omega) (by omega);have h3:x*Bk*4294967296 ^ i<=4294967295*4294967296 ^ (i+k):=by
  have:=awU (4294967296 ^ i) h2
  rwa [awW 4294967295,<- aw2,ay1 k i]at this
 omega
theorem abN (S:Nat) {L i:Nat} (h:i<L):(dl S L).getD i 0=((S / 4294967296 ^ i%4294967296:Nat):Int):=by
 induction L with
 | zero=>omega
 | succ L ih=>
  show((dl S L)++[_]).getD i 0=_;rw[List.getD_eq_getElem?_getD];by_cases hi:i<L
  ·rw[List.getElem?_append_left (by rw[bu]; exact hi),<- List.getD_eq_getElem?_getD,ih hi]
  ·have:i=L:=by omega
   subst this;rw[List.getElem?_append_right (by rw[bu]; exact awT _),bu,axu]; rfl
theorem lU {l:List Int} {n:Nat} (h:n<l.length):l.drop n=l.getD n 0::l.drop (n+1):=by rw[List.drop_eq_getElem_cons h,List.getD_eq_getElem?_getD,List.getElem?_eq_getElem h]; rfl
theorem vg {b:List Int} {k:Nat}:bJ (b.take (k+1))=bJ (b.take k)+4294967296 ^ k*(b.getD k 0).toNat:=gk k
theorem Ez (U V L p:Nat) (h:p<L):(dl U p++(dl V L).drop p).set p ((U / 4294967296 ^ p%4294967296:Nat):Int)=dl U (p+1)++(dl V L).drop (p+1):=by rw[lU (by rw[bu]; exact h),dY _ _ _ _ _ (by rw[bu])];show _=(dl U p++[_])++_;rw[aw8]; rfl
theorem Mc (U V L p:Nat) (h:p<L):(dl U p++(dl V L).drop p).getD p 0=((V / 4294967296 ^ p%4294967296:Nat):Int):=by rw[lU (by rw[bu]; exact h),iB (by rw[bu]),abN V h]
theorem Ey (U V L p:Nat) (h:p<=L):(dl U p++(dl V L).drop p).length=L:=by simp[bu]; omega
theorem R6 {U L p:Nat} (hU:U<4294967296 ^ p) (h:p<=L) {V:Nat} (hV:V<4294967296 ^ p):dl U p++(dl V L).drop p=dl U L:=by
 induction L with
 | zero=>
  have:p=0:=by omega
  subst this; rfl
 | succ L ih=>
  by_cases hp:p=L+1
  ·subst hp; rw[axL (by rw[bu]; omega),axn]
  ·have hpL:p<=L:=by omega
   have e:∀ X,X<4294967296 ^ p->dl X (L+1)=dl X L++[0]:=by intro X hX;show dl X L++[((X / 4294967296 ^ L%4294967296:Nat):Int)]=_;rw[axl (aw6 hX (aw5 (by decide) hpL))]; rfl
   rw[e V hV,e U hU,axV (by rw[bu]; exact hpL),<- aw8,ih hpL]
theorem zt {a:List Int} (ha:InW a) (i:Nat):bJ (a.take i)<4294967296 ^ i:=ja ha i
theorem uJ {x y i j:Nat} (hx:x<4294967296 ^ i) (hy:y<4294967296 ^ j):x*y<4294967296 ^ (i+j):=by rw[aw2];exact azE hx hy
theorem SL {N:Nat} (a b:List Int) (ha:InW a) (hb:InW b) (hN:a.length+b.length+2<N) (hs:a.length+b.length<=17592186044416) (k:Kz1):Qn N a b k=k (aM (bJ a*bJ b)):=by
  unfold Qn Pm;have eL:Int.toNat (((a.length:Nat):Int)+((b.length:Nat):Int))=a.length+b.length:=by omega
  rw[ae awK,ae (kV (by omega) (by omega) (by omega) (by omega)),eL]
  let L:=a.length+b.length
  let B:=bJ b
  have hB:B<4294967296 ^ b.length:=m8 hb;refine cz (λi=>((i:Int),dl (bJ (a.take i)*B) L)) a.length ?_ (by omega) (λi hi K=>?_) (λK=>?_)
  · show((0:Int),List.replicate L (0:Int))=(((0:Nat):Int),dl (bJ (a.take 0)*B) L)
    have:=EA L 0;rw[ax8]at this;rw[azd,show bJ []=0 from rfl,axF,this]; rfl
  · simp only[ol]
    rw[awM (by omega:(i:Int)<a.length),awP];have hx:=ha.at (i:=i)
    let V:=bJ (a.take i)*B
    let x:=(a.getD i 0).toNat
    let U:=bJ (a.take (i+1))*B
    have hU:U=V+x*B*4294967296 ^ i:=by simp only[U,V,x];rw[vg];grind
    have hV:V<4294967296 ^ (i+b.length):=uJ (zt ha i) hB;have hUl:U<4294967296 ^ (i+1+b.length):=uJ (zt ha (i+1)) hB
    let c:=λj=>(V%4294967296 ^ (i+j)+x*bJ (b.take j)*4294967296 ^ i) / 4294967296 ^ (i+j)
    refine cz (λj=>(((c j:Nat):Int),(j:Int),dl U (i+j)++(dl V L).drop (i+j))) b.length ?_ (by omega) (λj hj K'=>?_) (λK'=>?_)
    · show((0:Int),(0:Int),dl V L)=_
      have h0:c 0=0:=by simp only[c,azd,show bJ []=0 from rfl,ax8,axF,axb];exact axl (axf _ (axJ (by decide)))
      have hlow:dl U i=dl V i:=by
        have:∀ n,n<=i->dl U n=dl V n:=by
          intro n;induction n with
          | zero=>intro _; rfl
          | succ n ih=>
            intro hn;show dl U n++[_]=dl V n++[_];rw[ih (by omega)];congr 3;have:U=V+4294967296 ^ (n+1)*(x*B*4294967296 ^ (i - (n+1))):=by rw[hU,axm,<- aw2,show n+1+(i - (n+1))=i by omega]
            exact Ah this
        exact this i (awT _)
      have hsp:dl V i++(dl V L).drop i=dl V L:=by
        have:∀ n,i<=n->dl V i++(dl V n).drop i=dl V n:=by
          intro n;induction n with
          | zero=>intro h; have:i=0:=(by omega); subst this; rfl
          | succ n ih=>
            intro h;by_cases hn:i=n+1
            · subst hn; rw[axL (by rw[bu]; omega),axn]
            · show dl V i++(dl V n++[_]).drop i=dl V n++[_]
              rw[axV (by rw[bu]; omega),<- aw8,ih (by omega)]
        exact this L (by simp only[L]; omega)
      rw[h0,axb,hlow,hsp]; rfl
    · have hy:=hb.at (i:=j)
      have hp:i+j<L:=by simp only[L]; omega
      have hlen:=Ey U V L (i+j) (by omega);have hget:=Mc U V L (i+j) hp;have hset:=Ez U V L (i+j) hp;have hc:=Us (V:=V) (x:=x) (i:=i) (k:=j) (Bk:=bJ (b.take j)) (by simp only[x]; omega) (zt hb j);have hstep:=L7 V x (bJ (b.take j)) (b.getD j 0).toNat i j;obtain⟨R,hR⟩:=kE b (j+1);have hdig:=JA V x (bJ (b.take j)) (b.getD j 0).toNat i j R;rw[<- vg]at hstep hdig;rw[<- hR]at hdig;have hUe:V+x*bJ b*4294967296 ^ i=U:=hU.symm;rw[hUe]at hdig;have hxy:x*(b.getD j 0).toNat<=4294967295*4294967295:=axK (by simp only[x]; omega) (by omega);have eidx:Int.toNat ((i:Int)+(j:Int))=i+j:=by omega
      have hcj:∀ n,c n=(V%4294967296 ^ (i+n)+x*bJ (b.take n)*4294967296 ^ i) / 4294967296 ^ (i+n):=λ_=>rfl
      have hax:a.getD i 0=(x:Int):=by simp only[x]; omega
      have hby:b.getD j 0=((b.getD j 0).toNat:Int):=by omega
      simp only[om,awS,eidx,hlen,hget];rw[awM (by omega:(j:Int)<b.length),awP,ae awL,ae awL,ae awK,ae awL,ae (awM (by omega)),ae awK,ae awL,ae (awM (by omega)),ae awK];have ec1:c (j+1)=(c j+V / 4294967296 ^ (i+j)%4294967296+x*(b.getD j 0).toNat) / 4294967296:=hstep;have ed:U / 4294967296 ^ (i+j)%4294967296=(c j+V / 4294967296 ^ (i+j)%4294967296+x*(b.getD j 0).toNat)%4294967296:=hdig;have hcl:c j<4294967296:=hc;rw[ed]at hset;have vlt:V / 4294967296 ^ (i+j)%4294967296<4294967296:=axf _ (by decide);rw[hax,hby,show i+(j+1)=i+j+1 by omega,<- hset];generalize V / 4294967296 ^ (i+j)%4294967296=v at *;generalize (b.getD j 0).toNat=y at *;generalize dl U (i+j)++(dl V L).drop (i+j)=l at *;have et:∀ q:Nat,q=c j+v+x*y->IntKind.wrap .u64 ((IntKind.wrap .u64 ((IntKind.wrap .u64 ((IntKind.wrap .u64 (x:Int))*(IntKind.wrap .u64 (y:Int))))+(IntKind.wrap .u64 (v:Int))))+((c j:Nat):Int))=(q:Int):=by
        intro q hq;have exy:((x:Int))*(y:Int)=((x*y:Nat):Int):=by rw[aw4]
        have hxl:x<4294967296:=by simp only[x]; omega
        have hyl:y<4294967296:=by omega
        have w1:IntKind.wrap .u64 (x:Int)=x:=by rw[aD]; omega
        have w2:IntKind.wrap .u64 (y:Int)=y:=by rw[aD]; omega
        rw[w1,w2,exy,aD,aD,aD,aD];omega
      rw[et _ rfl,ec1,rg,ti];congr 1
    · simp only[om]
      rw[awN (by omega:¬(b.length:Int)<b.length),awO];have hlen:=Ey U V L (i+b.length) (by simp only[L]; omega);have hset:=Ez U V L (i+b.length) (by simp only[L]; omega);have eidx:Int.toNat ((i:Int)+(b.length:Int))=i+b.length:=by omega
      have hLe:i+b.length<L:=by simp only[L]; omega
      have hc:c b.length=U / 4294967296 ^ (i+b.length):=by simp only[c];rw[axp,awV hV,hU]
      have hcl:U / 4294967296 ^ (i+b.length)<4294967296:=by
        rw[awY (axJ (by decide))];have:i+1+b.length=i+b.length+1:=by omega
        rw[this,awX]at hUl;omega
      have ew:IntKind.wrap .u32 ((c b.length:Nat):Int)=((U / 4294967296 ^ (i+b.length)%4294967296:Nat):Int):=by rw[ti,hc]; omega
      have hfin:=R6 (U:=U) (V:=V) (L:=L) (p:=i+b.length+1) (by rw[show i+b.length+1=i+1+b.length by omega]; exact hUl) (by omega) (aw6 hV (aw5 (by decide) (by omega)));rw[ae awK,eidx,hlen,ae awL,ae (awM (by omega)),ae awK,ew,hset,hfin];rfl
  · simp only[ol]
    rw[awN (by omega:¬(a.length:Int)<a.length),awO,axp,nN _ (Ew _ _) (by rw[bu]; simp only[L]; omega) (by rw[bu]; simp only[L]; omega)];rw[Ds (uJ (m8 ha) hB)]
theorem Kp (g h:Bool) (m n:Nat):cT (g != h) (m*n)=cT g m*cT h n:=by unfold cT;rw[aw4];cases g <;> cases h <;> simp[ayN,azM]
theorem Em (n:Nat):fM (aM n) (aM n).length=(aM n).length:=by
 have ht:(aM n).take (fM (aM n) (aM n).length)=aM n:=by rw[CZ (dL n),bR]
 have hc:=qO (aM n) (aM n).length;have:=azJ List.length ht;rw[axv]at this; omega
theorem P7 (g:Bool) (n:Nat) (k:Ky1):cond ((!g)==true) (k (decide (((aM n).length:Int)>0)) (aM n)) (k false (aM n))=vF (-(cT g n)) k:=by rw[aeT,xO _ _ k];congr 1;unfold cT; cases g <;> simp
theorem Hm {N:Nat} (g:Bool) (n:Nat) (hN:ll N (aM n)) (k:Ky1):Qk N g (aM n) k=vF (-(cT g n)) k:=by unfold Qk Pa WN Pd;obtain⟨h1,h2⟩:=hN;rw[ax3,awM (by omega),axB,xJ _ (by omega) (by omega),Em];simp only[ayc,axp];rw[awM (by omega:0+(aM n).length<=(aM n).length),axB];exact P7 g n k
def cP (B:Nat) (n:Nat):Prop:=n<2 ^ B
theorem sr:∀(j n:Nat),n<4294967296 ^ j->(aM n).length<=j
 | 0,n,h=>by
  have:n=0:=by simp at h; exact h
  subst this; rw[gR]; exact awT _
 | j+1,n,h=>by
  by_cases h0:n=0
  ·subst h0; rw[gR]; simp
  ·rw[nE h0,axj];have:n / 4294967296<4294967296 ^ j:=azj (by rw[awX]at h; omega);have:=sr j _ this;omega
theorem ajw (j:Nat):4294967296 ^ j=2 ^ (32*j):=by rw[azC]
theorem Ab {B n:Nat} (h:cP B n):(aM n).length<=B / 32+1:=by refine sr _ _ ?_;rw[ajw];exact aw6 h (aw5 (by decide) (by omega))
theorem m_ {N B n:Nat} (hN:1000<=N) (hB:B<=31000) (h:cP B n):ll N (aM n):=by have:=Ab h;exact⟨by omega,by omega⟩
theorem gQ {A B n:Nat} (h:cP A n) (hAB:A<=B):cP B n:=aw6 h (aw5 (by decide) hAB)
theorem po {A B m n:Nat} (h:cP A m) (g:cP B n):cP (A+B) (m*n):=by unfold cP; rw[aw2]; exact azE h g
theorem yV {A m:Nat} (h:cP A m) (s:Nat):cP (A+s) (m*2 ^ s):=by unfold cP; rw[aw2]; exact axE h (aw0 s)
theorem Ej {A m n:Nat} (h:cP A m) (g:cP A n):cP (A+1) (m+n):=by unfold cP at *; rw[awX]; omega
theorem qr {A m n:Nat} (h:cP A m) (g:n<=m):cP A n:=ayF g h
theorem RV {N B n s:Nat} (hN:1000<=N) (hB:B+s<=31000) (h:cP B n):ajG N n s:=by have h1:=Ab h;exact⟨by omega,by omega,by omega,m_ hN hB (yV h s)⟩
def exK (z:Int × Int) (k:Kx9):Bool:=k z.1 (decide (z.2<0)) (aM z.2.natAbs)
def jY (x y:Int × Int):Int × Int:=(x.1+y.1,x.2*y.2)
def Hb (x:Int × Int):Int × Int:=(x.1,-x.2)
def wk (x:Int × Int) (e:Int):Int:=x.2*2 ^ (x.1 - e).toNat
def yB (x y:Int × Int):Int × Int:=if x.2=0 then y else if y.2=0 then x else(min x.1 y.1,wk x (min x.1 y.1)+wk y (min x.1 y.1))
def Ex (E B:Nat) (x:Int × Int):Prop:=-(E:Int)<=x.1/\x.1<=E/\cP B x.2.natAbs
def vK (z:Int):Int:=if z=0 then 0 else if z<0 then -1 else 1
theorem adB (a b:Int):imm false a b=min a b:=by
 unfold imm; simp only[awO];by_cases h:b<a
 ·rw[awM h,awP]; omega
 ·rw[awN h,awO]; omega
def ar:List Int->Nat
 | []=>0
 | x::r=>x.toNat+18446744073709551616*ar r
def InWq (m:List Int):Prop:=∀ x ∈ m,0<=x/\x<18446744073709551616
def af (n:Nat):List Int:=if h:n=0 then[]else((n%18446744073709551616:Nat):Int)::af (n / 18446744073709551616)
termination_by n
decreasing_by omega
theorem bT:af 0=[]:=by rw[af]; simp
theorem dV {n:Nat} (h:n ≠ 0):af n=((n%18446744073709551616:Nat):Int)::af (n / 18446744073709551616):=by rw[af]; simp[h]
theorem bA:∀ n,InWq (af n):=by
 intro n;induction n using Nat.strongRecOn with
 | ind n ih=>
  by_cases h:n=0
  ·subst h; rw[bT]; intro x hx; cases hx
  ·rw[dV h];intro x hx;rcases List.mem_cons.1 hx with rfl | hx
   ·omega
   ·exact ih (n / 18446744073709551616) (by omega) x hx
theorem aK:∀ n,ar (af n)=n:=by
 intro n;induction n using Nat.strongRecOn with
 | ind n ih=>
  by_cases h:n=0
  ·subst h; rw[bT]; rfl
  ·rw[dV h,ar,ih (n / 18446744073709551616) (by omega),awS];omega
theorem qG (a b:List Int):ar (a++b)=ar a+18446744073709551616 ^ a.length*ar b:=by
 induction a with
 | nil=>simp[ar]
 | cons x r ih=>
  rw[ayC,ar,ih,ar,axj,awX,axa,awR (18446744073709551616 ^ r.length) 18446744073709551616,awW];omega
theorem InWq.take {m:List Int} (h:InWq m) (n:Nat):InWq (m.take n):=λx hx=>h x (azh hx)
theorem InWq.drop {m:List Int} (h:InWq m) (n:Nat):InWq (m.drop n):=λx hx=>h x (azg hx)
theorem InWq.cons {x:Int} {m:List Int} (h:InWq (x::m)):(0<=x/\x<18446744073709551616)/\InWq m:=⟨h x (by simp),λy hy=>h y (by simp[hy])⟩
theorem InWq.at {m:List Int} (h:InWq m) {i:Nat}:0<=m.getD i 0/\m.getD i 0<18446744073709551616:=by
 rw[List.getD_eq_getElem?_getD];by_cases hi:i<m.length
 ·rw[List.getElem?_eq_getElem hi]; exact h _ (axN hi)
 ·rw[List.getElem?_eq_none (by omega)]; exact⟨by decide,by decide⟩
theorem lB:∀{m:List Int},InWq m->ar m<18446744073709551616 ^ m.length
 | [],_=>by simp[ar]
 | x::r,h=>by have ih:=lB h.cons.2;have hx:=h.cons.1;rw[ar,axj,awX];have:ar r+1<=18446744073709551616 ^ r.length:=ih;have:=awU 18446744073709551616 this;omega
theorem Et:∀{m:List Int},InWq m->(∀ x,m.getLast? = some x->x ≠ 0)->af (ar m)=m
 | [],_,_=>bT
 | [x],h,hl=>by
  have hx:=h.cons.1;have h0:x ≠ 0:=hl x rfl;have e:ar [x]=x.toNat:=by simp[ar]
  rw[e,dV (by omega),axl (by omega),bT,awV (by omega),ayZ hx.1]
 | x::y::r,h,hl=>by
  have hx:=h.cons.1;have ih:=Et h.cons.2 (λz hz=>hl z (by rw[List.getLast?_cons_cons]; exact hz));have hne:ar (y::r) ≠ 0:=by intro h0;rw[h0,bT]at ih; cases ih
  have e1:ar (x::y::r)=x.toNat+18446744073709551616*ar (y::r):=rfl;rw[e1,dV (by omega)];have e2:(x.toNat+18446744073709551616*ar (y::r))%18446744073709551616=x.toNat:=by omega
  have e3:(x.toNat+18446744073709551616*ar (y::r)) / 18446744073709551616=ar (y::r):=by omega
  rw[e2,e3,ih,ayZ hx.1]
theorem Dj {m:List Int} {i:Nat} (hi:i<m.length):ar (m.take (i+1))=ar (m.take i)+18446744073709551616 ^ i*(m.getD i 0).toNat:=by rw[ax_ hi,qG,axv,axU (by omega),List.getD_eq_getElem?_getD,List.getElem?_eq_getElem hi];simp[ar]
theorem Di (n:Nat):ar (List.replicate n 0)=0:=by
 induction n with
 | zero=>rfl
 | succ n ih=>rw[axy,ar,ih]; rfl
def dlq (S:Nat):Nat->List Int
 | 0=>[]
 | n+1=>dlq S n++[((S / 18446744073709551616 ^ n%18446744073709551616:Nat):Int)]
theorem ak (S:Nat):∀ n,(dlq S n).length=n
 | 0=>rfl
 | n+1=>by simp[dlq,ak S n]
theorem kN (S:Nat):∀ n,InWq (dlq S n)
 | 0=>λx hx=>by cases hx
 | n+1=>λx hx=>by
  rcases List.mem_append.1 hx with h | h
  ·exact kN S n x h
  ·simp only[azv]at h;subst h;omega
theorem tO (S:Nat):∀ n,ar (dlq S n)=S%18446744073709551616 ^ n
 | 0=>by simp[dlq,ar,azA]
 | n+1=>by rw[dlq,qG,ak,tO S n,awX,azL];simp only[ar,awS,ax8,axb]
theorem xz (S n m:Nat) (h:n<m):(dlq S n++List.replicate (m - n) 0).set n ((S / 18446744073709551616 ^ n%18446744073709551616:Nat):Int)=dlq S (n+1)++List.replicate (m - (n+1)) 0:=by
 rw[aze _ _ (by rw[ak]; exact awT _),ak,axu];have:m - n=(m - (n+1))+1:=by omega
 rw[this,axy];simp[dlq]
theorem pp {S n:Nat} (h:S<18446744073709551616 ^ n):af (ar (dlq S n))=af S:=by rw[tO,awV h]
theorem aY {m:List Int} (i:Nat):ar (m.take (i+1))=ar (m.take i)+18446744073709551616 ^ i*(m.getD i 0).toNat:=by
 by_cases h:i<m.length
 ·exact Dj h
 ·rw[lX (by omega),axd (by omega),axd (by omega)]; simp
theorem um (b:List Int):∀ n,ar (b.take (fM b n))=ar (b.take n)
 | 0=>rfl
 | n+1=>by
  unfold fM;split
  ·rename_i h;rw[um b n,aY,h]; simp
  ·rfl
theorem A3 {b:List Int} (hb:InWq b):b.take (fM b b.length)=af (ar b):=by have h1:=um b b.length;rw[axp]at h1;rw[<- h1,Et (hb.take _) (wb b b.length (awT _))]
theorem ge (T A i:Nat):(T+18446744073709551616 ^ i*A) / 18446744073709551616 ^ i=T / 18446744073709551616 ^ i+A:=axG _ _ (axJ (by decide))
theorem KK (m:List Int) (i:Nat):ar m=ar (m.take i)+18446744073709551616 ^ (m.take i).length*ar (m.drop i):=by rw[<- qG,ayM]
theorem dg (m:List Int) (i:Nat):∃ R,ar m=ar (m.take i)+18446744073709551616 ^ i*R:=by
 by_cases h:i<=m.length
 ·refine⟨ar (m.drop i),?_⟩;have:=KK m i
  rwa [axv,axU h]at this
 ·exact⟨0,by rw[axd (by omega)]; simp⟩
theorem be {m:List Int} (h:InWq m) (i:Nat):ar (m.take i)<18446744073709551616 ^ i:=by
 have h1:=lB (h.take i);have h2:(m.take i).length<=i:=by simp; omega
 exact aw6 h1 (aw5 (by decide) h2)
theorem lT {S T R i:Nat} (h:S=T+18446744073709551616 ^ (i+1)*R):S / 18446744073709551616 ^ i%18446744073709551616=T / 18446744073709551616 ^ i%18446744073709551616:=by rw[h,awX,awW,ge,ayd]
theorem M9 (i:Nat):0<18446744073709551616 ^ i:=axJ (by decide)
theorem G6 {P A B x y o R1 R2 D a b:Nat} (hA:A<P) (hB:B<P) (ho:o=if A<B then 1 else 0) (h1:a=A+P*x+P*18446744073709551616*R1) (h2:b=B+P*y+P*18446744073709551616*R2) (hD:(D:Int)=(a:Int) - (b:Int)) :
  ((D / P:Nat):Int)=(x:Int) - (y:Int) - (o:Int)+18446744073709551616*((R1:Int) - (R2:Int)):=by
 have he:∃ e:Nat,e<P/\(e:Int)=(A:Int) - (B:Int)+(P:Int)*(o:Int):=by
  rw[ho];split
  ·exact⟨A+P - B,by omega,by omega⟩
  ·exact⟨A - B,by omega,by omega⟩
 obtain⟨e,he1,he2⟩:=he;refine EU (e:=e) ?_ he1;have e1:(a:Int)=A+(P:Int)*x+18446744073709551616*((P:Int)*R1):=by rw[h1,awW,axm]; simp
 have e2:(b:Int)=B+(P:Int)*y+18446744073709551616*((P:Int)*R2):=by rw[h2,awW,axm]; simp
 have e3:(P:Int)*((x:Int) - (y:Int) - (o:Int)+18446744073709551616*((R1:Int) - (R2:Int)))=(P:Int)*x - (P:Int)*y - (P:Int)*o+(18446744073709551616*((P:Int)*R1) - 18446744073709551616*((P:Int)*R2)):=by rw[Int.mul_add,ay0,ay0,Int.mul_left_comm,ay0,ay0]
 rw[hD,e1,e2,e3,he2];omega
theorem g8 {x y:Nat} (h:x<=y):(af x).length<=(af y).length:=by
 induction y using Nat.strongRecOn generalizing x with
 | ind y ih=>
  by_cases hx:x=0
  ·subst hx; rw[bT]; simp
  ·rw[dV hx,dV (by omega:y ≠ 0)];simp only[axj];have:=ih (y / 18446744073709551616) (by omega) (x:=x / 18446744073709551616) (azi h);omega
theorem wi:∀(w X:Nat),dlq (18446744073709551616 ^ w*X) w=List.replicate w 0:=by
 intro w;have key:∀ n,n<=w -> ∀ X,dlq (18446744073709551616 ^ w*X) n=List.replicate n 0:=by
  intro n;induction n with
  | zero=>intro _ X; rfl
  | succ n ih=>
   intro hn X;rw[dlq,ih (by omega),ayT];have e:18446744073709551616 ^ w*X=18446744073709551616 ^ n*(18446744073709551616*(18446744073709551616 ^ (w - n - 1)*X)):=by rw[<- awW,<- awW,<- awX,<- aw2];congr 2; omega
   rw[e,axx _ (M9 n),Nat.mul_mod_right];rfl
 exact key w (awT _)
theorem j8:∀(j n:Nat),n<18446744073709551616 ^ j->(af n).length<=j
 | 0,n,h=>by
  have:n=0:=by simp at h; exact h
  subst this; rw[bT]; exact awT _
 | j+1,n,h=>by
  by_cases h0:n=0
  ·subst h0; rw[bT]; simp
  ·rw[dV h0,axj];have:n / 18446744073709551616<18446744073709551616 ^ j:=azj (by rw[awX]at h; omega);have:=j8 j _ this;omega
theorem KJ (V x Bk bk i k:Nat):V%18446744073709551616 ^ (i+k+1)+x*(Bk+18446744073709551616 ^ k*bk)*18446744073709551616 ^ i=(V%18446744073709551616 ^ (i+k)+x*Bk*18446744073709551616 ^ i)+18446744073709551616 ^ (i+k)*(V / 18446744073709551616 ^ (i+k)%18446744073709551616+x*bk):=by rw[Nat.mod_pow_succ,aw2];grind
theorem JB (V x Bk bk i k:Nat):(V%18446744073709551616 ^ (i+k+1)+x*(Bk+18446744073709551616 ^ k*bk)*18446744073709551616 ^ i) / 18446744073709551616 ^ (i+k+1)=((V%18446744073709551616 ^ (i+k)+x*Bk*18446744073709551616 ^ i) / 18446744073709551616 ^ (i+k)+V / 18446744073709551616 ^ (i+k)%18446744073709551616+x*bk) / 18446744073709551616:=by rw[KJ,awX,<- awZ,axG _ _ (axJ (by decide)),axo]
theorem HX (V x Bk bk i k R:Nat):(V+x*(Bk+18446744073709551616 ^ k*bk+18446744073709551616 ^ (k+1)*R)*18446744073709551616 ^ i) / 18446744073709551616 ^ (i+k)%18446744073709551616=((V%18446744073709551616 ^ (i+k)+x*Bk*18446744073709551616 ^ i) / 18446744073709551616 ^ (i+k)+V / 18446744073709551616 ^ (i+k)%18446744073709551616+x*bk)%18446744073709551616:=by
 have e:V+x*(Bk+18446744073709551616 ^ k*bk+18446744073709551616 ^ (k+1)*R)*18446744073709551616 ^ i=(V%18446744073709551616 ^ (i+k+1)+x*(Bk+18446744073709551616 ^ k*bk)*18446744073709551616 ^ i)+18446744073709551616 ^ (i+k+1)*(V / 18446744073709551616 ^ (i+k+1)+x*R):=by
  have h:=axz V (18446744073709551616 ^ (i+k+1));have h2:18446744073709551616 ^ (i+k+1)=18446744073709551616 ^ (k+1)*18446744073709551616 ^ i:=by rw[<- aw2]; congr 1; omega
  generalize V / 18446744073709551616 ^ (i+k+1)=q at *;generalize V%18446744073709551616 ^ (i+k+1)=r at *;rw[<- h,h2];grind
 rw[lT e,KJ,axG _ _ (axJ (by decide)),axo]
theorem RX {V x Bk i k:Nat} (hx:x<18446744073709551616) (hB:Bk<18446744073709551616 ^ k):(V%18446744073709551616 ^ (i+k)+x*Bk*18446744073709551616 ^ i) / 18446744073709551616 ^ (i+k)<18446744073709551616:=by
 rw[awY (axJ (by decide))];have h1:V%18446744073709551616 ^ (i+k)<18446744073709551616 ^ (i+k):=axf _ (axJ (by decide));have h2:x*Bk<=18446744073709551615*18446744073709551616 ^ k:=axK (by omega) (by omega);have h3:x*Bk*18446744073709551616 ^ i<=18446744073709551615*18446744073709551616 ^ (i+k):=by
  have:=awU (18446744073709551616 ^ i) h2
  rwa [awW 18446744073709551615,<- aw2,ay1 k i]at this
 omega
theorem wh (S:Nat) {L i:Nat} (h:i<L):(dlq S L).getD i 0=((S / 18446744073709551616 ^ i%18446744073709551616:Nat):Int):=by
 induction L with
 | zero=>omega
 | succ L ih=>
  show((dlq S L)++[_]).getD i 0=_;rw[List.getD_eq_getElem?_getD];by_cases hi:i<L
  ·rw[List.getElem?_append_left (by rw[ak]; exact hi),<- List.getD_eq_getElem?_getD,ih hi]
  ·have:i=L:=by omega
   subst this;rw[List.getElem?_append_right (by rw[ak]; exact awT _),ak,axu]; rfl
theorem tP {b:List Int} {k:Nat}:ar (b.take (k+1))=ar (b.take k)+18446744073709551616 ^ k*(b.getD k 0).toNat:=aY k
theorem CI (U V L p:Nat) (h:p<L):(dlq U p++(dlq V L).drop p).set p ((U / 18446744073709551616 ^ p%18446744073709551616:Nat):Int)=dlq U (p+1)++(dlq V L).drop (p+1):=by rw[lU (by rw[ak]; exact h),dY _ _ _ _ _ (by rw[ak])];show _=(dlq U p++[_])++_;rw[aw8]; rfl
theorem J6 (U V L p:Nat) (h:p<L):(dlq U p++(dlq V L).drop p).getD p 0=((V / 18446744073709551616 ^ p%18446744073709551616:Nat):Int):=by rw[lU (by rw[ak]; exact h),iB (by rw[ak]),wh V h]
theorem CH (U V L p:Nat) (h:p<=L):(dlq U p++(dlq V L).drop p).length=L:=by simp[ak]; omega
theorem Mb {U L p:Nat} (hU:U<18446744073709551616 ^ p) (h:p<=L) {V:Nat} (hV:V<18446744073709551616 ^ p):dlq U p++(dlq V L).drop p=dlq U L:=by
 induction L with
 | zero=>
  have:p=0:=by omega
  subst this; rfl
 | succ L ih=>
  by_cases hp:p=L+1
  ·subst hp; rw[axL (by rw[ak]; omega),axn]
  ·have hpL:p<=L:=by omega
   have e:∀ X,X<18446744073709551616 ^ p->dlq X (L+1)=dlq X L++[0]:=by intro X hX;show dlq X L++[((X / 18446744073709551616 ^ L%18446744073709551616:Nat):Int)]=_;rw[axl (aw6 hX (aw5 (by decide) hpL))]; rfl
   rw[e V hV,e U hU,axV (by rw[ak]; exact hpL),<- aw8,ih hpL]
theorem wU {a:List Int} (ha:InWq a) (i:Nat):ar (a.take i)<18446744073709551616 ^ i:=be ha i
theorem wS {x y i j:Nat} (hx:x<18446744073709551616 ^ i) (hy:y<18446744073709551616 ^ j):x*y<18446744073709551616 ^ (i+j):=by rw[aw2];exact azE hx hy
def oI (N:Nat) (l:List Int):Prop:=l.length+3<N/\l.length<=1099511627776
theorem E9 {N:Nat} (b:List Int) (hN:b.length<N) (hs:b.length<9223372036854775807) (k:Ky9):sQ2 N b k=k (fM b b.length):=by
 unfold sQ2 GQ2;have key:∀ n,n<=b.length -> ∀ M,n<M->al M (zD N b λn_1=>((decide (0<=n_1/\n_1<=(((List.length b):Nat):Int)))&&(k ((Int.toNat n_1) - 0)))) (n:Int)=k (fM b n):=by
  intro n;induction n with
  | zero=>
   intro _ M hM;cases M with
   | zero=>omega
   | succ M=>
    show zD N b _ ((0:Nat):Int) _=_;simp only[zD,fM];rw[awN (by omega:¬((0:Nat):Int)>0),show(false==true)=false from rfl,awO,awM (by omega),axB];rfl
  | succ n ih=>
   intro hn M hM;cases M with
   | zero=>omega
   | succ M=>
    show zD N b _ ((n+1:Nat):Int) (al M _)=_;have e:Int.toNat (((n+1:Nat):Int) - 1)=n:=by omega
    have e2:((n+1:Nat):Int) - 1=(n:Int):=by omega
    simp only[zD,e];rw[awM (by omega:((n+1:Nat):Int)>0),show(true==true)=true from rfl,awP,ae awK,ae awL,ae (awM (by omega)),ae awK,e2,ih (by omega) M (by omega),wc];by_cases h0:b.getD n 0=0
    ·have:(b.getD n 0==0)=true:=by simpa using h0
     rw[this,if_pos h0]; rfl
    ·have:(b.getD n 0==0)=false:=by simpa using h0
     rw[this,if_neg h0,awO,awM (by omega),axB];rfl
 exact key b.length (awT _) N hN
theorem nP {N:Nat} (b:List Int) (hb:InWq b) (hN:b.length<N) (hs:b.length<9223372036854775807) (k:Kz1) :
  (sQ2 N b λl=>(decide (0+l<=b.length))&&k (List.take l (List.drop 0 b)))=k (af (ar b)):=by
 rw[E9 b hN hs,ayc,A3 hb];have:=qO b b.length;rw[awM (by omega)]; rfl
theorem xI {N:Nat} (hN:1000<=N) (n:Nat) (hn:n<18446744073709551616) (k:Kz1):Ce N (n:Int) k=k (af n):=by
 unfold Ce aaS;have hw:InWq [(n:Int)]:=by intro x hx;simp only[axZ,ayV,or_false]at hx;subst hx; omega
 have hv:ar [(n:Int)]=n:=by simp only[ar]; omega
 have:=nP (N:=N) [(n:Int)] hw (by simp; omega) (by simp) k;rw[hv]at this;exact this
theorem B7 {N:Nat} (l:List Int) (h:l.length<=1099511627776) (k:Kz1):Dk N l k=k l:=by unfold Dk aaI;rw[ax3,awM (by omega),axB]
theorem qS (N:Nat) (l:List Int) (i:Nat) (hi:i<9223372036854775807) (k:Ky8):Np N l (i:Int) k=k (l.getD i 0):=by
 unfold Np aa_;by_cases h:i<l.length
 ·rw[awM (by omega:(i:Int)<((l.length:Nat):Int)),awP,ae awL,awS]
 ·rw[awN (by omega:¬(i:Int)<((l.length:Nat):Int)),awO,lX (by omega)]
theorem qP (N:Nat) {x y c:Int} {a b d:Nat} (hx:x=(a:Int)) (hy:y=(b:Int)) (hz:c=(d:Int)) (hc:d<=1) (k:Ky2):sQ5 N x y c k=k (((a+b+d)%18446744073709551616:Nat):Int) (((a+b+d) / 18446744073709551616:Nat):Int):=by subst hx hy hz;show(decide (Int.toNat (d:Int)<=1)&&_)=_;rw[awS,awM hc]; rfl
theorem B6 (N:Nat) {x y c:Int} {a b d:Nat} (hx:x=(a:Int)) (hy:y=(b:Int)) (hz:c=(d:Int)) (hc:d<=1) (k:Ky2):sQ9 N x y c k=k (((a+18446744073709551616 - b - d)%18446744073709551616:Nat):Int) (if a<b+d then 1 else 0):=by
 subst hx hy hz;show(decide (Int.toNat (d:Int)<=1)&&_)=_;rw[awS,awM hc];show k _ (cond (decide (a<b+d)) 1 0)=_;by_cases h:a<b+d
 ·rw[awM h,if_pos h]; rfl
 ·rw[awN h,if_neg h]; rfl
theorem adA (a b:Nat):imm true (a:Int) (b:Int)=((max a b:Nat):Int):=by
 unfold imm; simp only[awP];by_cases h:(b:Int)>a
 ·rw[awM h,awP]; omega
 ·rw[awN h,awO]; omega
theorem Wf {N:Nat} (a b:List Int) (ha:InWq a) (hb:InWq b) (hNa:oI N a) (hNb:oI N b) (k:Kz1):Qy N a b k=k (af (ar a+ar b)):=by
 unfold Qy Pw;obtain⟨a1,a2⟩:=hNa;obtain⟨b1,b2⟩:=hNb;rw[adA]
 let L:=max a.length b.length
 have hLa:a.length<=L:=Nat.le_max_left _ _;have hLb:b.length<=L:=Nat.le_max_right _ _;have hLN:L+3<N:=by simp only[L]; omega
 have hLs:L<=1099511627776:=by simp only[L]; omega
 show(au .i64 ((L:Int)+1)&&_)=_;have eL:Int.toNat ((L:Int)+1)=L+1:=by omega
 rw[ae awK,ae (kV (by omega) (by omega) (by omega) (by omega)),eL]
 let S:=ar a+ar b
 let T:=λi=>ar (a.take i)+ar (b.take i)
 refine cz (λi=>(((T i / 18446744073709551616 ^ i:Nat):Int),(i:Int),dlq S i++List.replicate (L+1 - i) 0)) L (by simp[T,ar,dlq]) (by omega) (λi hi K=>?_) (λK=>?_)
 ·have hx:=ha.at (i:=i);have hy:=hb.at (i:=i);have hT:T (i+1)=T i+18446744073709551616 ^ i*((a.getD i 0).toNat+(b.getD i 0).toNat):=by simp only[T,aY,axa]; omega
  have hq:T (i+1) / 18446744073709551616 ^ i=T i / 18446744073709551616 ^ i+((a.getD i 0).toNat+(b.getD i 0).toNat):=by rw[hT,ge]
  have hc:T i / 18446744073709551616 ^ i<=1:=by
   have h1:=be ha i;have h2:=be hb i;have h3:T i<18446744073709551616 ^ i*2:=by simp only[T]; omega
   have:=(awY (axJ (n:=i) (by decide:0<18446744073709551616))).2 (by rw[awR]; exact h3:T i<2*18446744073709551616 ^ i);omega
  have hdiv:T (i+1) / 18446744073709551616 ^ (i+1)=T (i+1) / 18446744073709551616 ^ i / 18446744073709551616:=by rw[awX,awZ]
  have hdig:S / 18446744073709551616 ^ i%18446744073709551616=T (i+1) / 18446744073709551616 ^ i%18446744073709551616:=by obtain⟨R1,h1⟩:=dg a (i+1);obtain⟨R2,h2⟩:=dg b (i+1);refine lT (R:=R1+R2) ?_;simp only[S,T];rw[axa]; omega
  have hset:=xz S i (L+1) (by omega);have hlen:(dlq S i++List.replicate (L+1 - i) 0).length=L+1:=by simp[ak]; omega
  simp only[qL];rw[awM (by omega:(i:Int)<((max a.length b.length:Nat):Int)),awP,qS N a i (by omega),qS N b i (by omega),qP N (a:=(a.getD i 0).toNat) (b:=(b.getD i 0).toNat) (d:=T i / 18446744073709551616 ^ i) (by omega) (by omega) rfl hc,hlen,ae awL,ae (awM (by omega)),ae awK,awS];have e1:(a.getD i 0).toNat+(b.getD i 0).toNat+T i / 18446744073709551616 ^ i=T (i+1) / 18446744073709551616 ^ i:=by rw[hq]; omega
  rw[e1,<- hdig,<- hdiv,hset];rfl
 ·simp only[qL];rw[awN (by omega:¬(L:Int)<((max a.length b.length:Nat):Int)),awO];have hT:T L=S:=by simp only[T,S]; rw[axd hLa,axd hLb]
  have hS:S<18446744073709551616 ^ (L+1):=by have h1:=be ha L;have h2:=be hb L;rw[axd hLa]at h1;rw[axd hLb]at h2;rw[awX];simp only[S]; omega
  have hlen:(dlq S L++List.replicate (L+1 - L) 0).length=L+1:=by simp[ak]
  have hcl:S / 18446744073709551616 ^ L<18446744073709551616:=by rw[awY (axJ (by decide)),awR,<- awX]; exact hS
  have e2:((T L / 18446744073709551616 ^ L:Nat):Int)=((S / 18446744073709551616 ^ L%18446744073709551616:Nat):Int):=by rw[hT,awV hcl]
  have hset:=xz S L (L+1) (by omega);rw[e2,awS,hset,hlen,ae awL,ae (awM (by omega)),axu,axD,axn,
   nP _ (kN S _) (by rw[ak]; omega) (by rw[ak]; omega),pp hS]
theorem qR {N:Nat} (a b:List Int) (ha:InWq a) (hb:InWq b) (hle:ar b<=ar a) (hN:oI N a) (k:Kz1):KY N a b k=k (af (ar a - ar b)):=by
 obtain⟨hN1,hN2⟩:=hN;unfold KY Pi;rw[ae (kV (by omega) (by omega) (by omega) (by omega)),awS]
 let D:=ar a - ar b
 let bo:=λi=>if ar (a.take i)<ar (b.take i)then(1:Nat)else 0
 refine cz (λi=>(((bo i:Nat):Int),(i:Int),dlq D i++List.replicate (a.length - i) 0)) a.length (by simp[bo,ar,dlq]) (by omega) (λi hi K=>?_) (λK=>?_)
 ·have hx:=ha.at (i:=i);have hy:=hb.at (i:=i);have hA:=aY (m:=a) i;have hB:=aY (m:=b) i;have hAl:=be ha i;have hBl:=be hb i;have hset:=xz D i a.length (by omega);have hl:(dlq D i++List.replicate (a.length - i) 0).length=a.length:=by simp[ak]; omega
  obtain⟨R1,h1⟩:=dg a (i+1);obtain⟨R2,h2⟩:=dg b (i+1);have hD:(D:Int)=(ar a:Int) - (ar b:Int):=by simp only[D]; omega
  have hPs:18446744073709551616 ^ (i+1)=18446744073709551616 ^ i*18446744073709551616:=awX ..;have hbo:bo i<=1:=by simp only[bo]; split <;> omega
  have hbs:bo (i+1)=if (a.getD i 0).toNat<(b.getD i 0).toNat+bo i then 1 else 0:=by simp only[bo,hA,hB];exact vX _ _ _ _ _ hAl hBl
  have hq:((D / 18446744073709551616 ^ i:Nat):Int)=((a.getD i 0).toNat:Int) - ((b.getD i 0).toNat:Int) - (bo i:Int)+18446744073709551616*((R1:Int) - (R2:Int)):=by rw[hA,hPs]at h1;rw[hB,hPs]at h2;exact G6 hAl hBl rfl h1 h2 hD
  have hdig:((D / 18446744073709551616 ^ i%18446744073709551616:Nat):Int)=(((a.getD i 0).toNat:Int) - ((b.getD i 0).toNat:Int) - (bo i:Int))%18446744073709551616:=by rw[Int.natCast_emod,hq];exact Int.add_mul_emod_self_left _ _ _
  simp only[ph];rw[awM (by omega:(i:Int)<a.length),awP,ae awL,qS N b i (by omega),awS,B6 N (a:=(a.getD i 0).toNat) (b:=(b.getD i 0).toNat) (d:=bo i) (by omega) (by omega) rfl hbo,hl,ae awL,ae (awM (by omega)),ae awK];have e1:(((((a.getD i 0).toNat+18446744073709551616 - (b.getD i 0).toNat - bo i)%18446744073709551616:Nat)):Int)=((D / 18446744073709551616 ^ i%18446744073709551616:Nat):Int):=by rw[hdig]; omega
  have e2:(if (a.getD i 0).toNat<(b.getD i 0).toNat+bo i then(1:Int)else 0)=((bo (i+1):Nat):Int):=by rw[hbs]; split <;> rfl
  rw[e1,e2,hset];rfl
 ·simp only[ph];rw[awN (by omega:¬(a.length:Int)<a.length),awO,axu,axD,axn];have hS:D<18446744073709551616 ^ a.length:=by have:=lB ha; simp only[D]; omega
  rw[nP _ (kN D _) (by rw[ak]; omega) (by rw[ak]; omega),pp hS]
theorem F4 {N:Nat} (a b:List Int) (ha:InWq a) (hb:InWq b) (hl:a.length=b.length) (hs:a.length<9223372036854775807) (k:Ky8) :
  ∀ n,n<=a.length -> ∀ M,n<M->al M (zA N a b (λt4=>k t4) (k 0)) ((n:Int) - 1)=k (lR (ar (a.take n)) (ar (b.take n))):=by
 intro n;induction n with
 | zero=>
  intro _ M hM;cases M with
  | zero=>omega
  | succ M=>
   show zA N a b _ _ ((0:Nat) - 1:Int) _=_;simp[zA,lR,ar]
 | succ n ih=>
  intro hn M hM;cases M with
  | zero=>omega
  | succ M=>
   show zA N a b _ _ (((n+1:Nat):Int) - 1) (al M _)=_;have e:(((n+1:Nat):Int) - 1)=(n:Int):=by omega
   have hx:=ha.at (i:=n);have hy:=hb.at (i:=n);have hA:=aY (m:=a) n;have hB:=aY (m:=b) n;have hAl:=be ha n;have hBl:=be hb n;rw[e];simp only[zA,awS];rw[hA,hB,awM (by omega:(n:Int)>=0),awP,ae awL,ae awL,ae awL,ae awL,ae awK,ih (by omega) M (by omega)];by_cases h0:a.getD n 0=b.getD n 0
   ·rw[show(a.getD n 0 != b.getD n 0)=false by simpa using h0,awO,h0,JE]
   ·rw[show(a.getD n 0 != b.getD n 0)=true by simpa using h0,awP];by_cases h1:a.getD n 0<b.getD n 0
    ·rw[awM h1,awP,Uw hAl (by omega)]
    ·rw[awN h1,awO,Uv hBl (by omega)]
theorem l7 {N:Nat} (x y:Nat) (hx:oI N (af x)) (hy:oI N (af y)) (k:Ky8):sQ6 N (af x) (af y) k=k (lR x y):=by
 unfold sQ6 GQ6;obtain⟨x1,x2⟩:=hx;obtain⟨y1,y2⟩:=hy;by_cases h:(af x).length=(af y).length
 ·have e:(((af x).length:Int) != (af y).length)=false:=by rw[h]; simp
  rw[e,awO,ae awK,F4 (af x) (af y) (bA x) (bA y) h (by omega) k _ (awT _) N (by omega),axp,h,axp,aK,aK]
 ·have e:(((af x).length:Int) != (af y).length)=true:=by simp; omega
  rw[e,awP];by_cases h1:(af x).length<(af y).length
  ·rw[awM (by omega),awP];have:x<y:=by
    rcases axY x y with h2 | h2
    ·exact h2
    ·have:=g8 h2; omega
   unfold lR; rw[if_pos this]
  ·rw[awN (by omega),awO];have:¬ x<=y:=λh2=>by have:=g8 h2; omega
   unfold lR; rw[if_neg (by omega),if_neg (by omega)]
def wI (z:Int) (k:Ky1):Bool:=k (decide (z<0)) (af z.natAbs)
theorem tv (n:Nat):decide (((af n).length:Int)>0)=decide (n ≠ 0):=by
 by_cases h:n=0
 ·subst h; rw[bT]; simp
 ·rw[dV h,axj,awM (by omega),awM h]
theorem KU (g:Bool) (n:Nat) (k:Ky1):k (sg g n) (af n)=wI (cT g n) k:=by
 unfold wI cT sg;cases g
 ·simp only[axq,axc,azx,axI];rw[awN (by omega)]
 ·simp only[ax5,axB,azc,axI];congr 1;by_cases h:n=0
  ·subst h; rfl
  ·rw[awM h,awM (by omega)]
theorem Wq (g:Bool) (n:Nat) (k:Ky1):cond (g==true) (k (decide (((af n).length:Int)>0)) (af n)) (k false (af n))=wI (cT g n) k:=by rw[tv,<- KU];cases g <;> rfl
theorem ML {N:Nat} (g b:Bool) (n:Nat) (k:Ky1):IB N g (af n) b (λcr=>k cr (af n))=wI (cT g n) k:=Wq g n k
theorem rB {N:Nat} (g b:Bool) (l:List Int) (n:Nat) (k:Ky1):WU N g (af n) b l (λcr=>k cr (af n))=wI (cT g n) k:=Wq g n k
theorem On (g1 g2:Bool) (n1 n2:Nat) (k:Ky1) :
  cond (g1==g2) (wI (cT g2 (n1+n2)) k) (cond (decide (lR n1 n2>=0)) (wI (cT g1 (n1 - n2)) k) (wI (cT g2 (n2 - n1)) k))=wI (cT g1 n1+cT g2 n2) k:=by
 rw[xx];have key:∀ a b:Int,a=b->wI a k=wI b k:=λa b h=>by rw[h]
 cases g1 <;> cases g2 <;> simp only[cT] <;> by_cases h:n2<=n1 <;> simp only[h,azm,azu,awP,awO,ayl,axq,ax5,axc,(by decide:(false==true)=false),(by decide:(true==false)=false)] <;> refine key _ _ ?_ <;> omega
theorem PF (n:Nat):az .and .u64 (n:Int) 4294967295=((n%4294967296:Nat):Int):=by
 have h:=nD n 32 (by decide);have e1:((2 ^ 32 - 1:Nat):Int)=4294967295:=by decide
 have e2:(2:Nat) ^ 32=4294967296:=by decide
 rw[e1,e2]at h;exact h
theorem agF (p00 p10 p01 p11:Nat):(p11*18446744073709551616+(p10+p01)*4294967296+p00) / 18446744073709551616=p11+(p10+p00 / 4294967296) / 4294967296+((p10+p00 / 4294967296)%4294967296+p01) / 4294967296:=by omega
theorem SQ (x y:Nat):x*y=(x / 4294967296)*(y / 4294967296)*18446744073709551616+((x / 4294967296)*(y%4294967296)+(x%4294967296)*(y / 4294967296))*4294967296+(x%4294967296)*(y%4294967296):=by have hx:=axz x 4294967296;have hy:=axz y 4294967296;generalize x / 4294967296=a at *;generalize x%4294967296=b at *;generalize y / 4294967296=c at *;generalize y%4294967296=d at *;subst hx hy;grind
theorem B5 (N:Nat) {x y:Nat} (hx:x<18446744073709551616) (hy:y<18446744073709551616) (k:Ky2):Fu N (x:Int) (y:Int) k=k ((x*y / 18446744073709551616:Nat):Int) ((x*y%18446744073709551616:Nat):Int):=by
 unfold Fu aaU;have fx:Int.fdiv (x:Int) (2 ^ 32)=((x / 4294967296:Nat):Int):=by rw[rg]; rfl
 have fy:Int.fdiv (y:Int) (2 ^ 32)=((y / 4294967296:Nat):Int):=by rw[rg]; rfl
 rw[PF,PF,fx,fy];have hs:=SQ x y;have b0:x / 4294967296<=4294967295:=by omega
 have b1:x%4294967296<=4294967295:=by omega
 have b2:y / 4294967296<=4294967295:=by omega
 have b3:y%4294967296<=4294967295:=by omega
 have m00:=axK b1 b3;have m10:=axK b0 b3;have m01:=axK b1 b2;have m11:=axK b0 b2;have hh:=agF ((x%4294967296)*(y%4294967296)) ((x / 4294967296)*(y%4294967296)) ((x%4294967296)*(y / 4294967296)) ((x / 4294967296)*(y / 4294967296));rw[<- hs]at hh;rw[<- aw4,<- aw4,<- aw4,<- aw4,<- aw4];have hlt:x*y<=18446744073709551615*18446744073709551615:=axK (by omega) (by omega);generalize x*y=P at *;generalize (x%4294967296)*(y%4294967296)=p00 at *;generalize (x / 4294967296)*(y%4294967296)=p10 at *;generalize (x%4294967296)*(y / 4294967296)=p01 at *;generalize (x / 4294967296)*(y / 4294967296)=p11 at *;have t1:IntKind.wrap .u64 (IntKind.wrap .u64 (p10:Int)+Int.fdiv (IntKind.wrap .u64 (p00:Int)) (2 ^ 32))=((p10+p00 / 4294967296:Nat):Int):=by simp only[aD,rg]; omega
 rw[t1,PF];congr 1
 ·rw[hh];simp only[aD,rg];omega
theorem E8 (N:Nat) {x y c d:Int} {a b e f:Nat} (hx:x=(a:Int)) (hy:y=(b:Int)) (hc:c=(e:Int)) (hd:d=(f:Int)) (ha:a<18446744073709551616) (hb:b<18446744073709551616) (he:e<18446744073709551616) (hf:f<18446744073709551616) (k:Ky2) :
  Nh N x y c d k=k (((a*b+e+f) / 18446744073709551616:Nat):Int) (((a*b+e+f)%18446744073709551616:Nat):Int):=by
 subst hx hy hc hd;unfold Nh aaJ;have hlt:a*b<=18446744073709551615*18446744073709551615:=axK (by omega) (by omega);rw[B5 N ha hb];generalize a*b=P at *;rw[qP N (c:=0) (a:=P%18446744073709551616) (b:=e) (d:=0) rfl rfl rfl (by omega),qP N (c:=0) (a:=(P%18446744073709551616+e+0)%18446744073709551616) (b:=f) (d:=0) rfl rfl rfl (by omega)];congr 1
 ·simp only[aD]; omega
 ·omega
theorem MK {N:Nat} (a b:List Int) (ha:InWq a) (hb:InWq b) (hN:a.length+b.length+2<N) (hs:a.length+b.length<=1099511627776) (k:Kz1):Le N a b k=k (af (ar a*ar b)):=by
  unfold Le abn;by_cases a0:a.length=0
  · have:a=[]:=List.length_eq_zero_iff.1 a0
    subst this;show k []=k (af (0*ar b));rw[axF,bT]
  by_cases b0:b.length=0
  · have:b=[]:=List.length_eq_zero_iff.1 b0
    subst this;have e:(((a.length:Nat):Int)==0)=false:=by simp; intro h; subst h; simp at a0
    rw[e,show(false==false)=true from rfl,awP];show k []=k (af (ar a*0));rw[ax8,bT]
  have e0:(((a.length:Nat):Int)==0)=false:=by simp; intro h; subst h; simp at a0
  have e1:(((b.length:Nat):Int)==0)=false:=by simp; intro h; subst h; simp at b0
  rw[e0,e1,show(false==false)=true from rfl,awP,awO];have eL:Int.toNat (((a.length:Nat):Int)+((b.length:Nat):Int))=a.length+b.length:=by omega
  rw[ae awK,ae (kV (by omega) (by omega) (by omega) (by omega)),eL]
  let L:=a.length+b.length
  let B:=ar b
  have hB:B<18446744073709551616 ^ b.length:=lB hb;refine cz (λi=>((i:Int),dlq (ar (a.take i)*B) L)) a.length ?_ (by omega) (λi hi K=>?_) (λK=>?_)
  · show((0:Int),List.replicate L (0:Int))=(((0:Nat):Int),dlq (ar (a.take 0)*B) L)
    have:=wi L 0;rw[ax8]at this;rw[azd,show ar []=0 from rfl,axF,this]; rfl
  · simp only[oh]
    rw[awM (by omega:(i:Int)<a.length),awP,ae awL,awS];have hx:=ha.at (i:=i)
    let V:=ar (a.take i)*B
    let x:=(a.getD i 0).toNat
    let U:=ar (a.take (i+1))*B
    have hU:U=V+x*B*18446744073709551616 ^ i:=by simp only[U,V,x];rw[tP];grind
    have hV:V<18446744073709551616 ^ (i+b.length):=wS (wU ha i) hB;have hUl:U<18446744073709551616 ^ (i+1+b.length):=wS (wU ha (i+1)) hB
    let c:=λj=>(V%18446744073709551616 ^ (i+j)+x*ar (b.take j)*18446744073709551616 ^ i) / 18446744073709551616 ^ (i+j)
    refine cz (λj=>(((c j:Nat):Int),(j:Int),dlq U (i+j)++(dlq V L).drop (i+j))) b.length ?_ (by omega) (λj hj K'=>?_) (λK'=>?_)
    · show((0:Int),(0:Int),dlq V L)=_
      have h0:c 0=0:=by simp only[c,azd,show ar []=0 from rfl,ax8,axF,axb];exact axl (axf _ (axJ (by decide)))
      have hlow:dlq U i=dlq V i:=by
        have:∀ n,n<=i->dlq U n=dlq V n:=by
          intro n;induction n with
          | zero=>intro _; rfl
          | succ n ih=>
            intro hn;show dlq U n++[_]=dlq V n++[_];rw[ih (by omega)];congr 3;have:U=V+18446744073709551616 ^ (n+1)*(x*B*18446744073709551616 ^ (i - (n+1))):=by rw[hU,axm,<- aw2,show n+1+(i - (n+1))=i by omega]
            exact lT this
        exact this i (awT _)
      have hsp:dlq V i++(dlq V L).drop i=dlq V L:=by
        have:∀ n,i<=n->dlq V i++(dlq V n).drop i=dlq V n:=by
          intro n;induction n with
          | zero=>intro h; have:i=0:=(by omega); subst this; rfl
          | succ n ih=>
            intro h;by_cases hn:i=n+1
            · subst hn; rw[axL (by rw[ak]; omega),axn]
            · show dlq V i++(dlq V n++[_]).drop i=dlq V n++[_]
              rw[axV (by rw[ak]; omega),<- aw8,ih (by omega)]
        exact this L (by simp only[L]; omega)
      rw[h0,axb,hlow,hsp]; rfl
    · have hy:=hb.at (i:=j)
      have hp:i+j<L:=by simp only[L]; omega
      have hlen:=CH U V L (i+j) (by omega);have hget:=J6 U V L (i+j) hp;have hset:=CI U V L (i+j) hp;have hc:=RX (V:=V) (x:=x) (i:=i) (k:=j) (Bk:=ar (b.take j)) (by simp only[x]; omega) (wU hb j);have hstep:=JB V x (ar (b.take j)) (b.getD j 0).toNat i j;obtain⟨R,hR⟩:=dg b (j+1);have hdig:=HX V x (ar (b.take j)) (b.getD j 0).toNat i j R;rw[<- tP]at hstep hdig;rw[<- hR]at hdig;have hUe:V+x*ar b*18446744073709551616 ^ i=U:=hU.symm;rw[hUe]at hdig;have hxy:x*(b.getD j 0).toNat<=18446744073709551615*18446744073709551615:=axK (by simp only[x]; omega) (by omega);have eidx:Int.toNat ((i:Int)+(j:Int))=i+j:=by omega
      have hcj:∀ n,c n=(V%18446744073709551616 ^ (i+n)+x*ar (b.take n)*18446744073709551616 ^ i) / 18446744073709551616 ^ (i+n):=λ_=>rfl
      have hax:a.getD i 0=(x:Int):=by simp only[x]; omega
      have hby:b.getD j 0=((b.getD j 0).toNat:Int):=by omega
      have ec1:c (j+1)=(c j+V / 18446744073709551616 ^ (i+j)%18446744073709551616+x*(b.getD j 0).toNat) / 18446744073709551616:=hstep;have ed:U / 18446744073709551616 ^ (i+j)%18446744073709551616=(c j+V / 18446744073709551616 ^ (i+j)%18446744073709551616+x*(b.getD j 0).toNat)%18446744073709551616:=hdig;have hcl:c j<18446744073709551616:=hc;rw[ed]at hset;have vlt:V / 18446744073709551616 ^ (i+j)%18446744073709551616<18446744073709551616:=axf _ (by decide);have hxl:x<18446744073709551616:=by simp only[x]; omega
      have hyl:(b.getD j 0).toNat<18446744073709551616:=by omega
      simp only[oi,awS,eidx,hlen];rw[awM (by omega:(j:Int)<((b.length:Nat):Int)),awP,ae awL,ae awK,ae awK,ae awL,ae (awM (by omega)),E8 N hax hby hget rfl hxl hyl vlt hcl,ae awL,ae (awM (by omega)),ae awK];rw[show i+(j+1)=i+j+1 by omega,<- hset];have ez:x*(b.getD j 0).toNat+V / 18446744073709551616 ^ (i+j)%18446744073709551616+c j=c j+V / 18446744073709551616 ^ (i+j)%18446744073709551616+x*(b.getD j 0).toNat:=by omega
      rw[ez,ec1];rfl
    · simp only[oi]
      rw[awN (by omega:¬(b.length:Int)<b.length),awO];have hlen:=CH U V L (i+b.length) (by simp only[L]; omega);have hset:=CI U V L (i+b.length) (by simp only[L]; omega);have eidx:Int.toNat ((i:Int)+(b.length:Int))=i+b.length:=by omega
      have hLe:i+b.length<L:=by simp only[L]; omega
      have hc:c b.length=U / 18446744073709551616 ^ (i+b.length):=by simp only[c];rw[axp,awV hV,hU]
      have hcl:U / 18446744073709551616 ^ (i+b.length)<18446744073709551616:=by
        rw[awY (axJ (by decide))];have:i+1+b.length=i+b.length+1:=by omega
        rw[this,awX]at hUl;omega
      have ew:((c b.length:Nat):Int)=((U / 18446744073709551616 ^ (i+b.length)%18446744073709551616:Nat):Int):=by rw[hc,awV hcl]
      have hfin:=Mb (U:=U) (V:=V) (L:=L) (p:=i+b.length+1) (by rw[show i+b.length+1=i+1+b.length by omega]; exact hUl) (by omega) (aw6 hV (aw5 (by decide) (by omega)));rw[ae awK,eidx,hlen,ae awL,ae (awM (by omega)),ae awK,ew,hset,hfin];rfl
  · simp only[oh]
    rw[awN (by omega:¬(a.length:Int)<a.length),awO,axp,nP _ (kN _ _) (by rw[ak]; simp only[L]; omega) (by rw[ak]; simp only[L]; omega)];rw[pp (wS (lB ha) hB)]
theorem Iy (n:Nat):2 ^ n=18446744073709551616 ^ (n / 64)*2 ^ (n%64):=by
 have e:(18446744073709551616:Nat)=2 ^ 64:=by decide
 rw[e,<- azC,<- aw2];congr 1; omega
theorem bI (i:Nat):0<18446744073709551616 ^ i:=axJ (by decide)
theorem SC {N:Nat} (m:List Int) (hm:InWq m) (n:Nat) (hn:n<4294967296) (hN:m.length+n / 64+4<N) (hs:m.length<=1099511627776) (k:Kz1):Qs N m n k=k (af (ar m*2 ^ n)):=by
 unfold Qs Pp;by_cases h0:m.length=0
 ·have:m=[]:=List.length_eq_zero_iff.1 h0;subst this;show k []=k (af (0*2 ^ n));rw[axF,bT]
 ·have e0:((m.length:Int)==0)=false:=by simp; intro h; subst h; simp at h0
  have ew:IntKind.wrap .u64 (Int.tdiv (n:Int) 64)=((n / 64:Nat):Int):=by rw[aD,ax0 (by omega)]; omega
  have es:Int.tmod (n:Int) 64=((n%64:Nat):Int):=by rw[axS (by omega)]; rfl
  rw[e0,awO,ew,es];have hw6:n / 64<67108864:=by omega
  generalize hw:n / 64=w at *;generalize hsh:n%64=s at *;have hs32:s<64:=by omega
  have hp2:2 ^ n=18446744073709551616 ^ w*2 ^ s:=by rw[Iy,hw,hsh]
  have hs0:0<2 ^ s:=aw0 s;have hs1:2 ^ s*2 ^ (64 - s)=18446744073709551616:=by rw[<- aw2,show s+(64 - s)=64 by omega]
  have elen:Int.toNat (((w:Nat):Int)+(m.length:Int)+1)=w+m.length+1:=by omega
  rw[ae awK,ae awK,ae awK,ae (kV (by omega) (by omega) (by omega) (by omega)),elen]
  let V:=ar m*2 ^ n
  let X:=ar m*2 ^ s
  have hVX:V=18446744073709551616 ^ w*X:=by simp only[V,X]; rw[hp2,axm]
  let T:=λi=>ar (m.take i)*2 ^ s
  let c:=λi=>T i / 18446744073709551616 ^ i
  have hcl:∀ i,c i<2 ^ s:=by intro i;simp only[c,T];rw[awY (bI i),awR];exact ax1 (be hm i) hs0
  refine cz (λi=>((i:Int),dlq V (w+i)++((c i:Nat):Int)::List.replicate (m.length - i) 0)) m.length ?_ (by omega) (λi hi K=>?_) (λK=>?_)
  ·congr 1;show List.replicate (w+m.length+1) (0:Int)=dlq V w++((c 0:Nat):Int)::List.replicate m.length 0;rw[hVX,wi];have hc0:c 0=0:=by simp[c,T,ar]
   rw[hc0];have:w+m.length+1=w+(m.length+1):=by omega
   rw[this,<- ayz,axy]; rfl
  ·have hx:=hm.at (i:=i);have hT:T (i+1)=T i+18446744073709551616 ^ i*((m.getD i 0).toNat*2 ^ s):=by simp only[T,aY,axh,awW]
   have hq:T (i+1) / 18446744073709551616 ^ i=c i+(m.getD i 0).toNat*2 ^ s:=by rw[hT,ge]
   have hci:c i<2 ^ s:=hcl i;have hc1:c (i+1)=(c i+(m.getD i 0).toNat*2 ^ s) / 18446744073709551616:=by rw[<- hq]; simp only[c]; rw[awX,awZ]
   have hdig:V / 18446744073709551616 ^ (w+i)%18446744073709551616=(c i+(m.getD i 0).toNat*2 ^ s)%18446744073709551616:=by rw[<- hq,hVX,aw2,<- awZ,axx _ (bI w)];obtain⟨R,hR⟩:=dg m (i+1);refine lT (R:=R*2 ^ s) ?_;simp only[X,T];rw[hR,axh,awW]
   have hrep:List.replicate (m.length - i) (0:Int)=0::List.replicate (m.length - (i+1)) 0:=by rw[show m.length - i=(m.length - (i+1))+1 by omega,axy]
   have hdl:=ak V (w+i);have ei:Int.toNat ((w:Int)+(i:Int))=w+i:=by omega
   have ei1:Int.toNat ((w:Int)+(i:Int)+1)=w+i+1:=by omega
   have emin:min s 64=s:=by omega
   have e64:min (Int.toNat (IntKind.wrap .u64 (64 - (s:Int)))) 64=64 - s:=by rw[aD]; omega
   simp only[zF,awS,ei,ei1,emin,e64];rw[hrep,iB hdl.symm,dY _ _ _ _ _ hdl.symm];have hmx:m.getD i 0=(((m.getD i 0).toNat:Nat):Int):=by omega
   rw[hmx];generalize hxx:(m.getD i 0).toNat=x at *;have hx32:x<18446744073709551616:=by omega
   have hlow:x*2 ^ s%18446744073709551616=2 ^ s*(x%2 ^ (64 - s)):=by
    have e:x*2 ^ s%(2 ^ s*2 ^ (64 - s))=2 ^ s*(x%2 ^ (64 - s)):=by rw[awR x]; exact ayy _ _ _
    rwa [hs1]at e
   have hsum:2 ^ s*(x%2 ^ (64 - s))+c i<18446744073709551616:=by have h1:x%2 ^ (64 - s)+1<=2 ^ (64 - s):=axf _ (aw0 _);have h2:=aw1 (2 ^ s) h1;rw[hs1,axa]at h2;omega
   have epw:(x:Int)*2 ^ s=((x*2 ^ s:Nat):Int):=by rw[aw4,axA]; rfl
   have eor:az .or .u64 ((c i:Nat):Int) (IntKind.wrap .u64 ((x:Int)*2 ^ s))=((V / 18446744073709551616 ^ (w+i)%18446744073709551616:Nat):Int):=by
    have e1:IntKind.wrap .u64 ((x*2 ^ s:Nat):Int)=((2 ^ s*(x%2 ^ (64 - s)):Nat):Int):=by rw[<- hlow,aD]; omega
    rw[epw,e1,dE _ _ s hci hsum,hdig];omega
   have ehi:Int.fdiv (x:Int) (2 ^ (64 - s))=((c (i+1):Nat):Int):=by
    have e2:(2:Int) ^ (64 - s)=((2 ^ (64 - s):Nat):Int):=by rw[axA]; rfl
    rw[e2,mQ,hc1];have:(c i+x*2 ^ s) / 18446744073709551616=x / 2 ^ (64 - s):=by rw[<- hs1,<- awZ,awR x,axG _ _ hs0,axl hci,axe]
    rw[this]
   rw[eor,ehi];have hl1:∀(a b:Int) (ys:List Int),(dlq V (w+i)++a::b::ys).length=w+i+2+ys.length:=by intro a b ys; simp[hdl]; omega
   have hset2:(dlq V (w+i)++((V / 18446744073709551616 ^ (w+i)%18446744073709551616:Nat):Int)::0::List.replicate (m.length - (i+1)) 0).set (w+i+1) ((c (i+1):Nat):Int)=dlq V (w+(i+1))++((c (i+1):Nat):Int)::List.replicate (m.length - (i+1)) 0:=by
    have:dlq V (w+i)++((V / 18446744073709551616 ^ (w+i)%18446744073709551616:Nat):Int)::0::List.replicate (m.length - (i+1)) 0=dlq V (w+(i+1))++0::List.replicate (m.length - (i+1)) 0:=by rw[<- axo,dlq]; simp
    rw[this];exact dY _ _ _ _ _ (by rw[ak]; omega)
   rw[hset2,hl1,hl1];simp only[ayw];rw[awM (by omega:(i:Int)<((m.length:Nat):Int)),awP,ae awL,ae awK,ae awL,ae (awM (by omega)),ae (awM (by omega)),ae awL,ae (awM (by omega)),ae awK,ae awK,ae (awM (by rw[aD]; omega)),ae awL,ae (awM (by omega)),ae awK];rfl
  ·simp only[zF];rw[awN (by omega:¬(m.length:Int)<m.length),awO,axu,axD];have hV:V<18446744073709551616 ^ (w+m.length+1):=by
    have h1:=lB hm;simp only[V];rw[hp2,awX,aw2,axm,awW];refine ax1 ?_ (bI w);have hs2:2 ^ s<=18446744073709551616:=by rw[<- hs1]; exact axr _ (aw0 _)
    exact axT h1 hs2 (by decide)
   have hT:T m.length=X:=by simp only[T,X]; rw[axp]
   have hend:dlq V (w+m.length)++[((c m.length:Nat):Int)]=dlq V (w+m.length+1):=by
    rw[dlq];have:c m.length=V / 18446744073709551616 ^ (w+m.length)%18446744073709551616:=by
     have hX:V / 18446744073709551616 ^ (w+m.length)=X / 18446744073709551616 ^ m.length:=by rw[hVX,aw2,<- awZ,axx _ (bI w)]
     have h2:=hcl m.length;have hs2:2 ^ s<=18446744073709551616:=by rw[<- hs1]; exact axr _ (aw0 _)
     rw[hX,<- hT];exact(awV (by show c m.length<_; omega)).symm
    rw[this]
   rw[hend,nP _ (kN V _) (by rw[ak]; omega) (by rw[ak]; omega),pp hV]
theorem rf:∀(i V:Nat),(af V).getD i 0=((V / 18446744073709551616 ^ i%18446744073709551616:Nat):Int)
 | i,V=>by
  by_cases h:V=0
  ·subst h; rw[bT]; simp
  ·rw[dV h];cases i with
   | zero=>simp
   | succ i=>
    show(af (V / 18446744073709551616)).getD i 0=_;rw[rf i (V / 18446744073709551616),awX,awR,<- awZ]
theorem He {l:List Int} {n i:Nat} (h:i<n):(l.take n).getD i 0=l.getD i 0:=by rw[List.getD_eq_getElem?_getD,List.getD_eq_getElem?_getD,List.getElem?_take,if_pos h]
theorem Ev {m:List Int} (hm:InWq m) (j:Nat):∃ R,ar m / 18446744073709551616 ^ j=(m.getD j 0).toNat+18446744073709551616*(m.getD (j+1) 0).toNat+18446744073709551616*18446744073709551616*R:=by
 obtain⟨R,hR⟩:=dg m (j+2);refine⟨R,?_⟩;rw[hR,aY,aY];simp only[awX];have e:ar (m.take j)+18446744073709551616 ^ j*(m.getD j 0).toNat+18446744073709551616 ^ j*18446744073709551616*(m.getD (j+1) 0).toNat+18446744073709551616 ^ j*18446744073709551616*18446744073709551616*R
   = ar (m.take j)+18446744073709551616 ^ j*((m.getD j 0).toNat+18446744073709551616*(m.getD (j+1) 0).toNat+18446744073709551616*18446744073709551616*R):=by
  rw[axa,axa,awW,awW,awW,awW]; omega
 rw[e,ge,axl (be hm j),axe]
theorem HN {x y s:Nat} (hs:s<64) (hx:x<18446744073709551616) (hy:y<18446744073709551616):az .or .u64 (Int.fdiv (x:Int) (2 ^ s)) (IntKind.wrap .u64 ((y:Int)*2 ^ (64 - s)))=(((x+18446744073709551616*y) / 2 ^ s%18446744073709551616:Nat):Int):=by
 have hs0:0<2 ^ s:=aw0 s;have hs1:2 ^ s*2 ^ (64 - s)=18446744073709551616:=by rw[<- aw2,show s+(64 - s)=64 by omega]
 have e1:Int.fdiv (x:Int) (2 ^ s)=((x / 2 ^ s:Nat):Int):=by
  have e2:(2:Int) ^ s=((2 ^ s:Nat):Int):=by rw[axA]; rfl
  rw[e2,mQ]
 have e3:(y:Int)*2 ^ (64 - s)=((y*2 ^ (64 - s):Nat):Int):=by rw[aw4,axA]; rfl
 have hlow:y*2 ^ (64 - s)%18446744073709551616=2 ^ (64 - s)*(y%2 ^ s):=by
  have e:2 ^ (64 - s)*y%(2 ^ (64 - s)*2 ^ s)=2 ^ (64 - s)*(y%2 ^ s):=ayy _ _ _
  rwa [awR (2 ^ (64 - s)) (2 ^ s),hs1,awR (2 ^ (64 - s)) y]at e
 have e4:IntKind.wrap .u64 ((y*2 ^ (64 - s):Nat):Int)=((2 ^ (64 - s)*(y%2 ^ s):Nat):Int):=by rw[<- hlow,aD]; omega
 have hxl:x / 2 ^ s<2 ^ (64 - s):=by rw[awY hs0,awR,hs1]; exact hx
 have hsum:2 ^ (64 - s)*(y%2 ^ s)+x / 2 ^ s<18446744073709551616:=by have h1:y%2 ^ s+1<=2 ^ s:=axf _ hs0;have h2:=aw1 (2 ^ (64 - s)) h1;rw[awR (2 ^ (64 - s)) (2 ^ s),hs1,axa]at h2;omega
 rw[e1,e3,e4,dE _ _ (64 - s) hxl hsum];congr 1;have e5:(x+18446744073709551616*y) / 2 ^ s=x / 2 ^ s+2 ^ (64 - s)*y:=by rw[<- hs1,awW,axG _ _ hs0]
 rw[e5];have e6:y=y%2 ^ s+2 ^ s*(y / 2 ^ s):=(azH _ _).symm;have e7:2 ^ (64 - s)*y=2 ^ (64 - s)*(y%2 ^ s)+18446744073709551616*(y / 2 ^ s):=by
  conv=>lhs; rw[e6]
  rw[axa,<- awW,awR (2 ^ (64 - s)) (2 ^ s),hs1]
 rw[e7,<- axo,ayd,awV (a:=x / 2 ^ s+2 ^ (64 - s)*(y%2 ^ s)) (b:=18446744073709551616) (by rw[ay1]; exact hsum)];exact ay1 _ _
theorem Wy:∀ n:Nat,n ≠ 0 -> ∃ t c,n=2 ^ t*(2*c+1):=by
 intro n;induction n using Nat.strongRecOn with
 | ind n ih=>
  intro h0;by_cases h:n%2=0
  ·obtain⟨t,c,hc⟩:=ih (n / 2) (by omega) (by omega);exact⟨t+1,c,by rw[awX,awR (2 ^ t) 2,awW,<- hc]; omega⟩
  ·exact⟨0,n / 2,by rw[ayO,ax4]; omega⟩
theorem yw {a b:Nat} (ha:a<18446744073709551616) (hb:b<18446744073709551616):az .and .u64 (a:Int) (b:Int)=((a &&& b:Nat):Int):=by
 unfold az qf;simp only[axk];have h64:(2:Nat) ^ 64=18446744073709551616:=by decide
 have e:((BitVec.ofInt (IntKind.bits .u64) (a:Int)) &&& (BitVec.ofInt (IntKind.bits .u64) (b:Int))).toNat=a &&& b:=by show((BitVec.ofInt 64 (a:Int)) &&& (BitVec.ofInt 64 (b:Int))).toNat=_;rw[ayt,axg,axg,axi,axi,awV (by omega),awV (by omega)]
 have hl:a &&& b<18446744073709551616:=ayF Nat.and_le_left ha;rw[e,pJ _ hl]
theorem abJ {t c:Nat} (h:2 ^ t*(2*c+1)<2 ^ 64):(2 ^ t*(2*c+1)) &&& (2 ^ 64 - 2 ^ t*(2*c+1))=2 ^ t:=by
 have ht0:0<2 ^ t:=aw0 t;have ht:t<64:=by
  rcases axY t 64 with h1 | h1
  ·exact h1
  ·have h2:2 ^ 64<=2 ^ t:=aw5 (by decide) h1;have h3:2 ^ t*1<=2 ^ t*(2*c+1):=aw1 _ (by omega);omega
 have e1:2 ^ t*(2*c+1)=(2 ^ t*(2*c)+(2 ^ t - 1))+1:=by rw[axa]; omega
 refine ayn λj=>?_
 rw[ayp];have e2:(2 ^ 64 - 2 ^ t*(2*c+1)).testBit j=(decide (j<64) && !(2 ^ t*(2*c)+(2 ^ t - 1)).testBit j):=by
  conv=>lhs; rw[e1]
  exact Nat.testBit_two_pow_sub_succ (by rw[e1]at h; omega) j
 rw[e2,Nat.testBit_two_pow_mul,ayq _ (by omega),ayb];rcases ay_ j t with hj | hj | hj
 ·rw[awN (by omega:¬ j>=t),awN (by omega:¬ t=j)]; rfl
 ·subst hj;rw[if_neg (by omega),axu,awM (awT _),awM ht,awM rfl];have a1:(2*c+1).testBit 0=true:=by rw[Nat.testBit_zero]; simp
  have a2:(2*c).testBit 0=false:=by rw[Nat.testBit_zero]; simp
  rw[a1,a2]; rfl
 ·obtain⟨k,hk⟩:∃ k,j - t=k+1:=⟨j - t - 1,by omega⟩
  rw[if_neg (by omega),hk,awM (by omega:j>=t),awN (by omega:¬ t=j),Nat.testBit_succ,Nat.testBit_succ];have a1:(2*c+1) / 2=c:=by omega
  have a2:2*c / 2=c:=by omega
  rw[a1,a2];cases c.testBit k <;> simp
theorem ag5:∀ t:Fin 64,(inR (Int.fdiv (IntKind.wrap .u64 (((2 ^ t.val:Nat):Int)*285870213051353865)) (2 ^ 58)) 64=true)/\(List.getD CY (Int.toNat (Int.fdiv (IntKind.wrap .u64 (((2 ^ t.val:Nat):Int)*285870213051353865)) (2 ^ 58))) 0=(t.val:Int)):=by decide +kernel
theorem agA (N:Nat) {t c:Nat} (h:2 ^ t*(2*c+1)<18446744073709551616) (k:Ky8):Nk N ((2 ^ t*(2*c+1):Nat):Int) k=k (t:Int):=by
 have h64:(2:Nat) ^ 64=18446744073709551616:=by decide
 have ht0:0<2 ^ t:=aw0 t;have hx0:0<2 ^ t*(2*c+1):=ayI ht0 (by omega);have ht:t<64:=by
  rcases axY t 64 with h1 | h1
  ·exact h1
  ·have h2:2 ^ 64<=2 ^ t:=aw5 (by decide) h1;have h3:2 ^ t*1<=2 ^ t*(2*c+1):=aw1 _ (by omega);omega
 unfold Nk TQ;have ha:=abJ (t:=t) (c:=c) (by omega);rw[h64]at ha;generalize 2 ^ t*(2*c+1)=x at *;have e0:((x:Int)==0)=false:=by simp; omega
 have ew:IntKind.wrap .u64 (0 - (x:Int))=((18446744073709551616 - x:Nat):Int):=by rw[aD]; omega
 obtain⟨t1,t2⟩:=ag5 ⟨t,ht⟩;rw[e0,awO,ew,yw h (by omega),ha,ae t1,t2,ae awK]
theorem agC {V w:Nat} (h:V / 18446744073709551616 ^ w ≠ 0):w<(af V).length:=by
 rcases axY w (af V).length with h1 | h1
 ·exact h1
 ·exfalso;have h2:=lB (bA V);rw[aK]at h2;exact h (axl (aw6 h2 (aw5 (by decide) h1)))
theorem RU {B n:Nat} (h:cP B n):(af n).length<=B / 64+1:=by
 refine j8 _ _ ?_;have e:(18446744073709551616:Nat)=2 ^ 64:=by decide
 rw[e,<- azC];exact aw6 h (aw5 (by decide) (by omega))
theorem Sv {N:Nat} (g:Bool) (n:Nat) (h:(af n).length<=1099511627776) (k:Ky1):Ld N g (af n) k=wI (-(cT g n)) k:=by unfold Ld aa8;rw[B7 _ h,rB (!g) g (af n) n k];congr 1; unfold cT; cases g <;> simp
theorem Wd {N:Nat} (hN:1000<=N) (n:Nat) (hn:n<18446744073709551616) (b:Bool) (k:Ky1):K6 N n b k=k false (af n):=by unfold K6 aaR;rw[xI hN n hn]; rfl
theorem wR {N:Nat} (hN:1000<=N) (n:Nat) (hn:n<9223372036854775808) (k:Ky1):Lf N n k=k false (af n):=by
 unfold Lf abv agJ abf;have e:IntKind.wrap .u64 (n:Int)=n:=by rw[aD]; omega
 rw[awN (by omega:¬(n:Int)<0),awO,e,xI hN n (by omega)]; rfl
theorem Sr {N:Nat} (s:Nat) (b g:Bool) (n:Nat) (hs:s<4294967296) (hN:(af n).length+s / 64+4<N) (h:(af n).length<=1099511627776) (k:Ky1):Nm N s b g (af n) k=wI (cT g (n*2 ^ s)) k:=by unfold Nm aa3;rw[SC _ (bA n) s hs hN h,aK,ML g b _ k]
theorem uo {n:Nat} (h0:n ≠ 0) (h:n<18446744073709551616):af n=[(n:Int)]:=by rw[dV h0,axl h,bT,awV h]
theorem yx (a b:Int):az .or .u64 a b=az .or .u64 b a:=by unfold az qf;simp only[axk];rw[BitVec.or_comm]
end Go.Proofs.YtldenpmpmifnlaaGreatDoor
