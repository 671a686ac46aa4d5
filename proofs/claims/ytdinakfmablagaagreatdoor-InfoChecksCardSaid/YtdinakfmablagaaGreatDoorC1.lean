/- Laws in plain Lean. Conditions: none. -/
import Derived.Test.YtdinakfmablagaaGreatDoorGp
import Derived.Test.YtdinakfmablagaaGreatDoorBig
set_option linter.unusedVariables false
namespace Go.Proofs.YtdinakfmablagaaGreatDoor
open Go Go.Mach
theorem aa {a c:Bool} (h:a=true):(a&&c)=c:=by rw[h]; rfl
theorem am (z:Int):IntKind.wrap .u64 z=z%18446744073709551616:=by rfl
theorem dh (z:Int):IntKind.wrap .u32 z=z%4294967296:=by rfl
theorem kh (z:Int):Int.fdiv z (2 ^ 32)=z / 4294967296:=by rw[ag0 _ (by decide)]; rfl
theorem aH {σ:Type} {step:σ->(σ->Bool)->Bool} {s:σ} (C:Nat->σ) (n:Nat) {N:Nat} (h0:s=C 0) (hn:n<N) {out:Bool} (hs:∀ i,i<n -> ∀ K:σ->Bool,step (C i) K=K (C (i+1))) (hx:∀ K,step (C n) K=out):ah N step s=out:=by subst h0; exact aA C n hn hs hx
def bS (b:List Int):Nat->Nat
 | 0=>0
 | n+1=>if b.getD n 0=0 then bS b n else n+1
theorem oI (b:List Int) (n:Nat):bS b (n+1)=if b.getD n 0=0 then bS b n else n+1:=rfl
theorem j7 (b:List Int):∀ n,bS b n<=n
 | 0=>afH _
 | n+1=>by unfold bS; split; exact Nat.le_succ_of_le (j7 b n); exact afH _
theorem dU {b:List Int} {i:Nat} (h:b.length<=i):b.getD i 0=0:=by rw[List.getD_eq_getElem?_getD,List.getElem?_eq_none h]; rfl
theorem aQ {m:List Int} (i:Nat):aF (m.take (i+1))=aF (m.take i)+4294967296 ^ i*(m.getD i 0).toNat:=by
 by_cases h:i<m.length
 ·exact Bv h
 ·rw[dU (by omega),afS (by omega),afS (by omega)]; simp
theorem sM (b:List Int):∀ n,aF (b.take (bS b n))=aF (b.take n)
 | 0=>rfl
 | n+1=>by
  unfold bS;split
  ·rename_i h;rw[sM b n,aQ,h]; simp
  ·rfl
theorem getLast?_take {b:List Int} {n:Nat} (h:n<b.length):(b.take (n+1)).getLast? = some (b.getD n 0):=by rw[agO h,List.getLast?_append,List.getD_eq_getElem?_getD,List.getElem?_eq_getElem h];simp
theorem sL (b:List Int):∀ n,n<=b.length -> ∀ x,(b.take (bS b n)).getLast? = some x->x ≠ 0
 | 0,_,x,h=>by simp[bS]at h
 | n+1,hn,x,h=>by
  unfold bS at h;split at h
  ·exact sL b n (by omega) x h
  ·rename_i h0;rw[getLast?_take (by omega)]at h;cases h; exact h0
theorem uc {b:List Int} (hb:InW b):b.take (bS b b.length)=aj (aF b):=by have h1:=sM b b.length;rw[agd]at h1;rw[<- h1,xI (hb.take _) (sL b b.length (afH _))]
theorem lF {N:Nat} (b:List Int) (hN:b.length<N) (hs:b.length<9223372036854775807) (k:Kz5):pY N b k=k (bS b b.length):=by
 (unfold pY; rw[ac]; unfold Tp)
 have key:∀ n,n<=b.length -> ∀ M,n<M->ah M (ww N 0 b λm=>k m) n=k (bS b n):=by
  intro n;induction n with
  | zero=>
   intro _ M hM;cases M with
   | zero=>omega
   | succ M=>
    show ww N 0 b _ 0 _=_;simp[ww,bS]
  | succ n ih=>
   intro hn M hM;cases M with
   | zero=>omega
   | succ M=>
    show ww N 0 b _ (n+1) (ah M _)=_;have e:Int.toNat (((n+1:Nat):Int) - 1)=n:=by omega
    simp only[ww,e,af1,ahC];rw[afu (by omega:((n+1:Nat):Int)>0),aa afs,aa aft,aa (afu (by omega)),aa afs,aa (afu (by omega)),ih (by omega) M (by omega)];rw[oI];by_cases h0:b.getD n 0=0
    ·have:(b.getD n 0==0)=true:=by simpa using h0
     rw[this,if_pos h0]; rfl
    ·have:(b.getD n 0==0)=false:=by simpa using h0
     rw[this,if_neg h0]; rfl
 exact key b.length (afH _) N hN
theorem JP {N:Nat} (m:List Int) (hm:InW m) (hN:m.length<N) (hs:m.length<9223372036854775807) (k:Kz8):lM N m k=k (aj (aF m)):=by
 (unfold lM; rw[ac]; unfold xB)
 have key:∀ n,n<9223372036854775807 -> ∀(l:List Int),l.length=n->InW l -> ∀ M,n<M->ah M (fW N λZ7=>k Z7) l=k (aj (aF l)):=by
  intro n;induction n with
  | zero=>
   intro _ l hl _ M hM;cases M with
   | zero=>omega
   | succ M=>
    have:l=[]:=List.length_eq_zero_iff.1 hl;subst this;show fW N _ [] _=_;simp[fW,aF,ba]
  | succ n ih=>
   intro hn l hl hw M hM;cases M with
   | zero=>omega
   | succ M=>
    show fW N _ l (ah M _)=_;have e:Int.toNat ((l.length:Int) - 1)=n:=by omega
    simp only[fW,e,agY];rw[afu (by omega:(l.length:Int)>0),aa afs,aa aft,aa afs,aa (afu (by omega)),ih (by omega) (l.take n) (by simp; omega) (hw.take n) M (by omega)];have e2:=aQ (m:=l) n;rw[afS (by omega)]at e2;by_cases h0:l.getD n 0=0
    ·have:(l.getD n 0==0)=true:=by simpa using h0
     rw[this];rw[h0]at e2;simp at e2;rw[e2]; rfl
    ·have:(l.getD n 0==0)=false:=by simpa using h0
     rw[this,xI hw (λx hx=>by have:=getLast?_take (b:=l) (n:=n) (by omega);rw[afS (by omega)]at this;rw[this]at hx; cases hx; exact h0)]
     rfl
 exact key m.length hs m rfl hm N hN
theorem dp {N:Nat} (b:List Int) (hb:InW b) (hN:b.length<N) (hs:b.length<9223372036854775807) (k:Kz8) :
  (pY N b λl=>(decide (0+l<=b.length))&&k (List.take l (List.drop 0 b)))=k (aj (aF b)):=by
 rw[lF b hN hs,agY,uc hb];have:=j7 b b.length;rw[afu (by omega)]; rfl
def fE (N:Nat) (l:List Int):Prop:=l.length+2<N/\l.length<=17592186044416
theorem dS (T A i:Nat):(T+4294967296 ^ i*A) / 4294967296 ^ i=T / 4294967296 ^ i+A:=agr _ _ (agF (by decide))
theorem IJ (m:List Int) (i:Nat):aF m=aF (m.take i)+4294967296 ^ (m.take i).length*aF (m.drop i):=by rw[<- tm,aia]
theorem cb (m:List Int) (i:Nat):∃ R,aF m=aF (m.take i)+4294967296 ^ i*R:=by
 by_cases h:i<=m.length
 ·refine⟨aF (m.drop i),?_⟩;have:=IJ m i
  rwa [aga,agW h]at this
 ·exact⟨0,by rw[afS (by omega)]; simp⟩
theorem bu {m:List Int} (h:InW m) (i:Nat):aF (m.take i)<4294967296 ^ i:=by
 have h1:=eJ (h.take i);have h2:(m.take i).length<=i:=by simp; omega
 exact afP h1 (afL (by decide) h2)
theorem mi {S T R i:Nat} (h:S=T+4294967296 ^ (i+1)*R):S / 4294967296 ^ i%4294967296=T / 4294967296 ^ i%4294967296:=by rw[h,afI,afG,dS,agN]
theorem Dq {N:Nat} (a b:List Int) (ha:InW a) (hb:InW b) (hl:b.length<=a.length) (hN:fE N a) (k:Kz8) :
  ah N (gD N a b λcarry out=>(inR (a.length:Nat) out.length)&&((decide ((Int.toNat (a.length:Nat))<out.length)) &&
   (pY N (List.set out (Int.toNat (a.length:Nat)) (IntKind.wrap .u32 carry)) λaaO=>(decide ((0+aaO)<=(List.length (List.set out (Int.toNat (a.length:Nat)) (IntKind.wrap .u32 carry)))))&&k (List.take aaO (List.drop 0 (List.set out (Int.toNat (a.length:Nat)) (IntKind.wrap .u32 carry)))))))
   (0,0,List.replicate (a.length+1) 0)=k (aj (aF a+aF b)):=by
 obtain⟨hN1,hN2⟩:=hN
 let S:=aF a+aF b
 let T:=λi=>aF (a.take i)+aF (b.take i)
 refine aH (λi=>(((T i / 4294967296 ^ i:Nat):Int),(i:Int),dl S i++List.replicate (a.length+1 - i) 0)) a.length (by simp[T,aF,dl]) (by omega) (λi hi K=>?_) (λK=>?_)
 ·have hx:=ha.at (i:=i);have hy:=hb.at (i:=i);have hT:T (i+1)=T i+4294967296 ^ i*((a.getD i 0).toNat+(b.getD i 0).toNat):=by simp only[T,aQ,afM]; omega
  have hq:T (i+1) / 4294967296 ^ i=T i / 4294967296 ^ i+((a.getD i 0).toNat+(b.getD i 0).toNat):=by rw[hT,dS]
  have hc:T i / 4294967296 ^ i<=1:=by
   have h1:=bu ha i;have h2:=bu hb i;have h3:T i<4294967296 ^ i*2:=by simp only[T]; omega
   have:=(afE (agF (n:=i) (by decide:0<4294967296))).2 (by rw[afy]; exact h3:T i<2*4294967296 ^ i);omega
  have hdiv:T (i+1) / 4294967296 ^ (i+1)=T (i+1) / 4294967296 ^ i / 4294967296:=by rw[afI,afD]
  have hdig:S / 4294967296 ^ i%4294967296=T (i+1) / 4294967296 ^ i%4294967296:=by obtain⟨R1,h1⟩:=cb a (i+1);obtain⟨R2,h2⟩:=cb b (i+1);refine mi (R:=R1+R2) ?_;simp only[S,T];rw[afM]; omega
  have hset:=AG S i (a.length+1) (by omega);have hlen:(dl S i++List.replicate (a.length+1 - i) 0).length=a.length+1:=by simp[al]; omega
  generalize hq':T i / 4294967296 ^ i=q at *;generalize hx':a.getD i 0=x at *;generalize hy':b.getD i 0=y at *;simp only[gD,afz];rw[afu (by omega:(i:Int)<a.length),afx,hx',hy',aa aft,hlen];have hstep:∀ s:Int,s=((q+(x.toNat+y.toNat):Nat):Int)->K ((Int.fdiv s (2 ^ 32)),((i:Int)+1),(List.set (dl S i++List.replicate (a.length+1 - i) 0) i (IntKind.wrap .u32 s)))=K (((T (i+1) / 4294967296 ^ (i+1):Nat):Int),((i+1:Nat):Int),dl S (i+1)++List.replicate (a.length+1 - (i+1)) 0):=by
   intro s hs;have e1:Int.fdiv s (2 ^ 32)=((T (i+1) / 4294967296 ^ (i+1):Nat):Int):=by rw[kh,hdiv,hq,hs]; omega
   have e2:IntKind.wrap .u32 s=((S / 4294967296 ^ i%4294967296:Nat):Int):=by rw[dh,hdig,hq,hs]; omega
   rw[e1,e2,hset]; rfl
  by_cases hib:i<b.length
  ·rw[afu (by omega:(i:Int)<b.length),afx,aa aft,aa aft,aa (afu (by omega)),aa afs];exact hstep _ (by simp only[am]; omega)
  ·rw[afv (by omega:¬(i:Int)<b.length),afw,aa aft,aa (afu (by omega)),aa afs];have hy0:y=0:=by rw[<- hy']; exact dU (by omega)
   subst hy0;exact hstep _ (by simp only[am]; omega)
 ·simp only[gD];rw[afv (by omega:¬(a.length:Int)<a.length),afw];have hT:T a.length=S:=by simp only[T,S]; rw[agd,afS hl]
  have hS:S<4294967296 ^ (a.length+1):=by have h1:=eJ ha;have h2:=eJ hb;have h3:4294967296 ^ b.length<=4294967296 ^ a.length:=afL (by decide) hl;rw[afI];simp only[S]; omega
  have hlen:(dl S a.length++List.replicate (a.length+1 - a.length) 0).length=a.length+1:=by simp[al]
  have e2:IntKind.wrap .u32 ((T a.length / 4294967296 ^ a.length:Nat):Int)=((S / 4294967296 ^ a.length%4294967296:Nat):Int):=by rw[dh,hT]; omega
  have hset:=AG S a.length (a.length+1) (by omega);rw[e2,afz,hset,hlen,aa aft,aa (afu (by omega)),af6,af9,af5,
   dp _ (ji S _) (by rw[al]; omega) (by rw[al]; omega),qA hS]
theorem Pf {N:Nat} (a b:List Int) (ha:InW a) (hb:InW b) (hNa:fE N a) (hNb:fE N b) (k:Kz8):wk N a b k=k (aj (aF a+aF b)):=by
 (unfold wk; rw[ac]; unfold vy)
 have h1:=hNa.2;have h2:=hNb.2;by_cases h:a.length<b.length
 ·rw[afu (by omega:(a.length:Int)<b.length),afx,aa afs,aa (bF (by omega) (by omega) (by omega) (by omega))];have e:Int.toNat ((b.length:Int)+1)=b.length+1:=by omega
  rw[e,Dq b a hb ha (by omega) hNb k,ahq]
 ·rw[afv (by omega:¬(a.length:Int)<b.length),afw,aa afs,aa (bF (by omega) (by omega) (by omega) (by omega))];have e:Int.toNat ((a.length:Int)+1)=a.length+1:=by omega
  rw[e,Dq a b ha hb (by omega) hNa k]
theorem aV (i:Nat):0<4294967296 ^ i:=agF (by decide)
theorem A1 {D e P:Nat} {z:Int} (h:(D:Int)=(e:Int)+(P:Int)*z) (he:e<P):((D / P:Nat):Int)=z:=by
 have hP:(P:Int) ≠ 0:=by omega
 rw[Int.natCast_ediv,h,Int.add_mul_ediv_left _ _ hP,<- Int.natCast_ediv,af2 he];simp
theorem oF (P A B x y:Nat) (hA:A<P) (hB:B<P):(if A+P*x<B+P*y then 1 else 0)=if x<y+(if A<B then 1 else 0)then 1 else(0:Nat):=by
 by_cases hxy:x<y
 ·have:P*(x+1)<=P*y:=afC P hxy;rw[afM]at this;rw[if_pos (by omega),if_pos (by omega)]
 ·by_cases hyx:y<x
  ·have:P*(y+1)<=P*x:=afC P hyx;rw[afM]at this;rw[if_neg (by omega),if_neg (by split <;> omega)]
  ·have:x=y:=by omega
   subst this;by_cases hAB:A<B
   ·rw[if_pos (by omega),if_pos hAB,if_pos (by omega)]
   ·rw[if_neg (by omega),if_neg hAB,if_neg (by omega)]
theorem FD {P A B x y o R1 R2 D a b:Nat} (hA:A<P) (hB:B<P) (ho:o=if A<B then 1 else 0) (h1:a=A+P*x+P*4294967296*R1) (h2:b=B+P*y+P*4294967296*R2) (hD:(D:Int)=(a:Int) - (b:Int)) :
  ((D / P:Nat):Int)=(x:Int) - (y:Int) - (o:Int)+4294967296*((R1:Int) - (R2:Int)):=by
 have he:∃ e:Nat,e<P/\(e:Int)=(A:Int) - (B:Int)+(P:Int)*(o:Int):=by
  rw[ho];split
  ·exact⟨A+P - B,by omega,by omega⟩
  ·exact⟨A - B,by omega,by omega⟩
 obtain⟨e,he1,he2⟩:=he;refine A1 (e:=e) ?_ he1;have e1:(a:Int)=A+(P:Int)*x+4294967296*((P:Int)*R1):=by rw[h1,afG,afY]; simp
 have e2:(b:Int)=B+(P:Int)*y+4294967296*((P:Int)*R2):=by rw[h2,afG,afY]; simp
 have e3:(P:Int)*((x:Int) - (y:Int) - (o:Int)+4294967296*((R1:Int) - (R2:Int)))=(P:Int)*x - (P:Int)*y - (P:Int)*o+(4294967296*((P:Int)*R1) - 4294967296*((P:Int)*R2)):=by rw[Int.mul_add,ahU,ahU,Int.mul_left_comm,ahU,ahU]
 rw[hD,e1,e2,e3,he2];omega
theorem yb {N:Nat} (a b:List Int) (ha:InW a) (hb:InW b) (hle:aF b<=aF a) (hN:fE N a) (k:Kz8):mK N a b k=k (aj (aF a - aF b)):=by
 obtain⟨hN1,hN2⟩:=hN
 (unfold mK; rw[ac]; unfold sm)
 rw[aa (bF (by omega) (by omega) (by omega) (by omega)),afz]
 let D:=aF a - aF b
 let bo:=λi=>if aF (a.take i)<aF (b.take i)then(1:Nat)else 0
 refine aH (λi=>(((bo i:Nat):Int),(i:Int),dl D i++List.replicate (a.length - i) 0)) a.length (by simp[bo,aF,dl]) (by omega) (λi hi K=>?_) (λK=>?_)
 ·have hx:=ha.at (i:=i);have hy:=hb.at (i:=i);have hA:=aQ (m:=a) i;have hB:=aQ (m:=b) i;have hAl:=bu ha i;have hBl:=bu hb i;have hset:=AG D i a.length (by omega);have hl:(dl D i++List.replicate (a.length - i) 0).length=a.length:=by simp[al]; omega
  obtain⟨R1,h1⟩:=cb a (i+1);obtain⟨R2,h2⟩:=cb b (i+1);have hD:(D:Int)=(aF a:Int) - (aF b:Int):=by simp only[D]; omega
  have hP:=aV i;have hPs:4294967296 ^ (i+1)=4294967296 ^ i*4294967296:=afI ..;have hbo:bo i<=1:=by simp only[bo]; split <;> omega
  have hbs:bo (i+1)=if (a.getD i 0).toNat<(b.getD i 0).toNat+bo i then 1 else 0:=by simp only[bo,hA,hB];exact oF _ _ _ _ _ hAl hBl
  have hq:((D / 4294967296 ^ i:Nat):Int)=((a.getD i 0).toNat:Int) - ((b.getD i 0).toNat:Int) - (bo i:Int)+4294967296*((R1:Int) - (R2:Int)):=by rw[hA,hPs]at h1;rw[hB,hPs]at h2;exact FD hAl hBl rfl h1 h2 hD
  have hdig:((D / 4294967296 ^ i%4294967296:Nat):Int)=(((a.getD i 0).toNat:Int) - ((b.getD i 0).toNat:Int) - (bo i:Int))%4294967296:=by rw[Int.natCast_emod,hq];exact Int.add_mul_emod_self_left _ _ _
  generalize hx':a.getD i 0=x at *;generalize hy':b.getD i 0=y at *;generalize bo i=o at *;generalize bo (i+1)=o' at *;simp only[kR,afz];have hy0:¬ i<b.length->y=0:=λh=>by rw[<- hy']; exact dU (by omega)
  have fin:∀(v w:Int),v=(o':Int)->w%4294967296=((D / 4294967296 ^ i%4294967296:Nat):Int)->K (v,(i:Int)+1,List.set (dl D i++List.replicate (a.length - i) 0) i (IntKind.wrap .u32 w))=K ((o':Int),((i+1:Nat):Int),dl D (i+1)++List.replicate (a.length - (i+1)) 0):=by intro v w hv hw;rw[hv,dh,hw,hset]; rfl
  simp only[hx',hy',hl];rw[afu (by omega:(i:Int)<a.length),afx];by_cases hib:i<b.length
  ·rw[afu (by omega:(i:Int)<b.length),afx,aa aft,aa aft];by_cases hlt:x.toNat<y.toNat+o
   ·rw[afu (by simp only[am]; omega),afx,aa aft,aa (afu (by omega)),aa afs];rw[if_pos hlt]at hbs;exact fin _ _ (by omega) (by rw[hdig]; simp only[am]; omega)
   ·rw[afv (by simp only[am]; omega),afw,aa aft,aa (afu (by omega)),aa afs];rw[if_neg hlt]at hbs;exact fin _ _ (by omega) (by rw[hdig]; simp only[am]; omega)
  ·have hy1:=hy0 hib;rw[afv (by omega:¬(i:Int)<b.length),afw,aa aft];by_cases hlt:x.toNat<y.toNat+o
   ·rw[afu (by simp only[am]; omega),afx,aa aft,aa (afu (by omega)),aa afs];rw[if_pos hlt]at hbs;exact fin _ _ (by omega) (by rw[hdig]; simp only[am]; omega)
   ·rw[afv (by simp only[am]; omega),afw,aa aft,aa (afu (by omega)),aa afs];rw[if_neg hlt]at hbs;exact fin _ _ (by omega) (by rw[hdig]; simp only[am]; omega)
 ·simp only[kR];rw[afv (by omega:¬(a.length:Int)<a.length),afw,af6,af9,af5];have hS:D<4294967296 ^ a.length:=by have:=eJ ha; simp only[D]; omega
  rw[dp _ (ji D _) (by rw[al]; omega) (by rw[al]; omega),qA hS]
theorem cu (a c s:Nat) (ha:a<2 ^ s) (hlt:2 ^ s*c+a<18446744073709551616):aD .or .u64 (a:Int) ((2 ^ s*c:Nat):Int)=((2 ^ s*c+a:Nat):Int):=by
 unfold aD rH;simp only[agi];have e:((BitVec.ofInt (IntKind.bits .u64) (a:Int)) ||| (BitVec.ofInt (IntKind.bits .u64) ((2 ^ s*c:Nat):Int))).toNat=2 ^ s*c+a:=by
  show((BitVec.ofInt 64 (a:Int)) ||| (BitVec.ofInt 64 ((2 ^ s*c:Nat):Int))).toNat=_;have h64:(2:Nat) ^ 64=18446744073709551616:=by decide
  rw[BitVec.toNat_or,agE,agE,agL,agL,afF (by omega),afF (by omega),Nat.or_comm,<- ain ha]
 rw[e,xw _ hlt]
theorem Hr (n:Nat) (h:n<4294967296):IntKind.wrap .u32 (n:Int)=n:=by rw[dh]; omega
theorem rI (a c s:Nat) (ha:a<2 ^ s) (hlt:2 ^ s*c+a<4294967296):aD .or .u32 (a:Int) ((2 ^ s*c:Nat):Int)=((2 ^ s*c+a:Nat):Int):=by
 unfold aD rH;simp only[agi];have e:((BitVec.ofInt (IntKind.bits .u32) (a:Int)) ||| (BitVec.ofInt (IntKind.bits .u32) ((2 ^ s*c:Nat):Int))).toNat=2 ^ s*c+a:=by
  show((BitVec.ofInt 32 (a:Int)) ||| (BitVec.ofInt 32 ((2 ^ s*c:Nat):Int))).toNat=_;have h32:(2:Nat) ^ 32=4294967296:=by decide
  rw[BitVec.toNat_or,agE,agE,agL,agL,afF (by omega),afF (by omega),Nat.or_comm,<- ain ha]
 rw[e,Hr _ hlt]
def dz (x y:Nat):Int:=if x<y then -1 else if x=y then 0 else 1
theorem N5 {P A B x y:Nat} (hA:A<P) (h:x<y):dz (A+P*x) (B+P*y) = -1:=by have:P*(x+1)<=P*y:=afC P h;rw[afM]at this;unfold dz;rw[if_pos (by omega)]
theorem N4 {P A B x y:Nat} (hB:B<P) (h:y<x):dz (A+P*x) (B+P*y)=1:=by have:P*(y+1)<=P*x:=afC P h;rw[afM]at this;unfold dz;rw[if_neg (by omega),if_neg (by omega)]
theorem Fq {P A B x:Nat}:dz (A+P*x) (B+P*x)=dz A B:=by
 unfold dz;by_cases h3:A<B
 ·rw[if_pos h3,if_pos (by omega)]
 ·by_cases h4:A=B
  ·subst h4; simp
  ·rw[if_neg h3,if_neg h4,if_neg (by omega),if_neg (by omega)]
theorem DS {N:Nat} (a b:List Int) (ha:InW a) (hb:InW b) (hl:a.length=b.length) (hs:a.length<9223372036854775807) (k:Kz4) :
  ∀ n,n<=a.length -> ∀ M,n<M->ah M (wn N a b (λt4=>k t4) (k 0)) ((n:Int) - 1)=k (dz (aF (a.take n)) (aF (b.take n))):=by
 intro n;induction n with
 | zero=>
  intro _ M hM;cases M with
  | zero=>omega
  | succ M=>
   show wn N a b _ _ ((0:Nat) - 1:Int) _=_;simp[wn,dz,aF]
 | succ n ih=>
  intro hn M hM;cases M with
  | zero=>omega
  | succ M=>
   show wn N a b _ _ (((n+1:Nat):Int) - 1) (ah M _)=_;have e:(((n+1:Nat):Int) - 1)=(n:Int):=by omega
   have hx:=ha.at (i:=n);have hy:=hb.at (i:=n);have hA:=aQ (m:=a) n;have hB:=aQ (m:=b) n;have hAl:=bu ha n;have hBl:=bu hb n;rw[e];simp only[wn,afz];rw[hA,hB,afu (by omega:(n:Int)>=0),afx,aa aft,aa aft,aa aft,aa aft,aa afs,ih (by omega) M (by omega)];by_cases h1:a.getD n 0<b.getD n 0
   ·rw[afu h1,afx,N5 hAl (by omega)]
   ·rw[afv h1,afw];by_cases h2:a.getD n 0>b.getD n 0
    ·rw[afu h2,afx,N4 hBl (by omega)]
    ·rw[afv h2,afw];have:a.getD n 0=b.getD n 0:=by omega
     rw[this,Fq]
theorem bZ {x y:Nat} (h:x<=y):(aj x).length<=(aj y).length:=by
 induction y using Nat.strongRecOn generalizing x with
 | ind y ih=>
  by_cases hx:x=0
  ·subst hx; rw[ba]; simp
  ·rw[cl hx,cl (by omega:y ≠ 0)];simp only[af8];have:=ih (y / 4294967296) (by omega) (x:=x / 4294967296) (ahM h);omega
theorem kd {N:Nat} (x y:Nat) (hx:fE N (aj x)) (hy:fE N (aj y)) (k:Kz4):G2 N (aj x) (aj y) k=k (dz x y):=by
 (unfold G2; rw[ac]; unfold TV)
 obtain⟨x1,x2⟩:=hx;obtain⟨y1,y2⟩:=hy;by_cases h:(aj x).length=(aj y).length
 ·have e:(((aj x).length:Int) != (aj y).length)=false:=by rw[h]; simp
  rw[e,afw,aa afs,DS (aj x) (aj y) (bg x) (bg y) h (by omega) k _ (afH _) N (by omega),agd,h,agd,aL,aL]
 ·have e:(((aj x).length:Int) != (aj y).length)=true:=by simp; omega
  rw[e,afx];by_cases h1:(aj x).length<(aj y).length
  ·rw[afu (by omega),afx];have:x<y:=by
    rcases agv x y with h2 | h2
    ·exact h2
    ·have:=bZ h2; omega
   unfold dz; rw[if_pos this]
  ·rw[afv (by omega),afw];have:¬ x<=y:=λh2=>by have:=bZ h2; omega
   unfold dz; rw[if_neg (by omega),if_neg (by omega)]
def bl (n:Nat):Nat:=if n=0 then 0 else n.log2+1
theorem mg {n:Nat} (j:Nat) (h:2 ^ j<=n):bl n=j+bl (n / 2 ^ j):=by
 have hp:0<2 ^ j:=afJ j;have h0:n ≠ 0:=by omega
 have h1:n / 2 ^ j ≠ 0:=by have:=ahV h hp;omega
 unfold bl;rw[if_neg h0,if_neg h1];have hj:j<=n.log2:=(Nat.le_log2 h0).2 h;have:(n / 2 ^ j).log2=n.log2 - j:=by
  rw[Nat.log2_eq_iff h1];have h2:=Nat.log2_self_le h0;have h3:n<2 ^ (n.log2+1):=Nat.lt_log2_self;constructor
  ·rw[ahd hp,<- afO];rw[show n.log2 - j+j=n.log2 by omega]; exact h2
  ·rw[afE hp,<- afO];rw[show n.log2 - j+1+j=n.log2+1 by omega]; exact h3
 omega
theorem WJ:∀ i:Fin 256,ay.getD i.val 0=(bl i.val:Int):=by decide +kernel
theorem P9 {i:Nat} (h:i<256):ay.getD i 0=(bl i:Int):=WJ ⟨i,h⟩
theorem Fa {n:Nat} (h:n<256):bl n<=8:=by
 unfold bl;split
 ·omega
 ·rename_i h0;have:=(Nat.log2_lt h0).2 (by simpa using h:n<2 ^ 8);omega
theorem S8 (z:Int):IntKind.wrap .u8 z=z%256:=by rfl
theorem SD (z:Int):Int.fdiv z (2 ^ 8)=z / 256:=by rw[ag0 _ (by decide)]; rfl
theorem Ou (z:Int):Int.fdiv z (2 ^ 16)=z / 65536:=by rw[ag0 _ (by decide)]; rfl
theorem C7 (N:Nat) (x:Nat) (h:x<4294967296) (k:Kz4):Kf N (x:Int) k=k (bl x:Int):=by
 (unfold Kf; rw[ac]; unfold M8)
 simp only[SD,Ou,S8];have key:∀(z:Int) (m:Nat),z=(m:Int)->m<256 -> ∀ c:Nat,c<=32->((inR z 256)&&((af .i64 (List.getD ay (Int.toNat z) 0))&&((af .i64 ((c:Int)+(List.getD ay (Int.toNat z) 0)))&&k ((c:Int)+List.getD ay (Int.toNat z) 0))))=k ((c+bl m:Nat):Int):=by intro z m hz hm c hc;subst hz;have:=Fa hm;rw[afz,P9 hm,aa aft,aa afs,aa afs];rfl
 by_cases h16:65536<=x
 ·rw[afu (by omega:(x:Int)>=65536),afx];have e16:=mg (n:=x) 16 (by simpa using h16);have p16:(2:Nat) ^ 16=65536:=by decide
  have p8:(2:Nat) ^ 8=256:=by decide
  rw[p16]at e16;by_cases h8:256<=x / 65536
  ·rw[afu (by omega:(x:Int) / 65536>=256),afx];have e8:=mg (n:=x / 65536) 8 (by simpa using h8);rw[p8]at e8;have:=key ((x:Int) / 65536 / 256%256) (x / 65536 / 256) (by omega) (by omega) 24 (by omega);rw[show((24:Nat):Int)=24 from rfl]at this;rw[this]; congr 2; omega
  ·rw[afv (by omega:¬(x:Int) / 65536>=256),afw];have:=key ((x:Int) / 65536%256) (x / 65536) (by omega) (by omega) 16 (by omega);rw[show((16:Nat):Int)=16 from rfl]at this;rw[this]; congr 2; omega
 ·rw[afv (by omega:¬(x:Int)>=65536),afw];by_cases h8:256<=x
  ·rw[afu (by omega:(x:Int)>=256),afx];have e8:=mg (n:=x) 8 (by simpa using h8);rw[show(2:Nat) ^ 8=256 by decide]at e8;have:=key ((x:Int) / 256%256) (x / 256) (by omega) (by omega) 8 (by omega);rw[show((8:Nat):Int)=8 from rfl]at this;rw[this]; congr 2; omega
  ·rw[afv (by omega:¬(x:Int)>=256),afw];have:=key ((x:Int)%256) x (by omega) (by omega) 0 (by omega);rw[show((0:Nat):Int)=0 from rfl]at this;rw[this]; congr 2; omega
theorem sN:∀ n,n ≠ 0->bl n=32*((aj n).length - 1)+bl ((aj n).getD ((aj n).length - 1) 0).toNat/\0<(aj n).length:=by
  intro n;induction n using Nat.strongRecOn with
  | ind n ih=>
    intro h;rw[cl h];by_cases h1:n / 4294967296=0
    · rw[h1,ba]
      have:n%4294967296=n:=afF (by omega);simp[this]
    · obtain⟨i1,i2⟩:=ih (n / 4294967296) (by omega) h1
      have e:=mg (n:=n) 32 (by have:(2:Nat) ^ 32=4294967296:=(by decide); omega);rw[show(2:Nat) ^ 32=4294967296 by decide]at e;refine⟨?_,by simp⟩;have e2:(((n%4294967296:Nat):Int)::aj (n / 4294967296)).getD ((((n%4294967296:Nat):Int)::aj (n / 4294967296)).length - 1) 0=(aj (n / 4294967296)).getD ((aj (n / 4294967296)).length - 1) 0:=by
        simp only[af8,ahY];generalize aj (n / 4294967296)=l at i2 ⊢;cases l with
        | nil=>simp at i2
        | cons y l=>simp
      rw[e2,e,i1];simp only[af8];omega
theorem A_ {N:Nat} (g:Bool) (n:Nat) (hs:fE N (aj n)) (k:Kz4):Mt N g (aj n) k=k (bl n:Int):=by
  (unfold Mt; rw[ac]; unfold TL)
  obtain⟨s1,s2⟩:=hs;by_cases h:n=0
  · subst h; rw[ba]; rfl
  · obtain⟨e1,e2⟩:=sN n h
    have e0:(((aj n).length:Int)==0)=false:=by simp; intro h'; rw[h']at e2; simp at e2
    have e3:Int.toNat (((aj n).length:Int) - 1)=(aj n).length - 1:=by omega
    have hw:=(bg n).at (i:=(aj n).length - 1);have hb:bl ((aj n).getD ((aj n).length - 1) 0).toNat<=32:=by
      unfold bl; split
      · omega
      · rename_i h0
        have:=(Nat.log2_lt h0).2 (by have:(2:Nat) ^ 32=4294967296:=(by decide); omega:((aj n).getD ((aj n).length - 1) 0).toNat<2 ^ 32);omega
    have e4:(aj n).getD ((aj n).length - 1) 0=((((aj n).getD ((aj n).length - 1) 0).toNat:Nat):Int):=by omega
    rw[e0,afw,aa afs,aa afs,aa afs,aa aft,e3,e4,C7 N _ (by omega),aa afs];congr 1; omega
theorem vN:∀(w X:Nat),dl (4294967296 ^ w*X) w=List.replicate w 0:=by
 intro w;have key:∀ n,n<=w -> ∀ X,dl (4294967296 ^ w*X) n=List.replicate n 0:=by
  intro n;induction n with
  | zero=>intro _ X; rfl
  | succ n ih=>
   intro hn X;rw[dl,ih (by omega),ag6];have e:4294967296 ^ w*X=4294967296 ^ n*(4294967296*(4294967296 ^ (w - n - 1)*X)):=by rw[<- afG,<- afG,<- afI,<- afO];congr 2; omega
   rw[e,af7 _ (aV n),aiB];rfl
 exact key w (afH _)
theorem xe (n:Nat):2 ^ n=4294967296 ^ (n / 32)*2 ^ (n%32):=by
 have:(4294967296:Nat)=2 ^ 32:=by decide
 rw[this,<- aio,<- afO];congr 1; omega
theorem bf {α:Type} (xs:List α) (y:α) (ys:List α) (z:α) (n:Nat) (h:n=xs.length):(xs++y::ys).set n z=xs++z::ys:=by subst h; rw[ahF _ _ (afH _),af6]; rfl
theorem b6 {xs:List Int} {y:Int} {ys:List Int} {n:Nat} (h:n=xs.length):(xs++y::ys).getD n 0=y:=by subst h; rw[List.getD_eq_getElem?_getD,List.getElem?_append_right (afH _),af6]; rfl
theorem O_ {N:Nat} (m:List Int) (hm:InW m) (n:Nat) (hn:n<4294967296) (hN:m.length+n / 32+4<N) (hs:m.length<=1099511627776) (k:Kz8):wj N m n k=k (aj (aF m*2 ^ n)):=by
 (unfold wj; rw[ac]; unfold vx)
 by_cases h0:m.length=0
 ·have:m=[]:=List.length_eq_zero_iff.1 h0;subst this;simp[aF,ba]
 ·have e0:((m.length:Int)==0)=false:=by simp; intro h; subst h; simp at h0
  have ew:IntKind.wrap .u64 (Int.tdiv (n:Int) 32)=((n / 32:Nat):Int):=by rw[am,agA (by omega)]; omega
  have es:Int.tmod (n:Int) 32=((n%32:Nat):Int):=by rw[ago (by omega)]; rfl
  rw[e0,afw,ew,es];generalize hw:n / 32=w at *;generalize hsh:n%32=s at *;have hs32:s<32:=by omega
  have hp2:2 ^ n=4294967296 ^ w*2 ^ s:=by rw[xe,hw,hsh]
  have hs0:0<2 ^ s:=afJ s;have hs1:2 ^ s*2 ^ (32 - s)=4294967296:=by rw[<- afO,show s+(32 - s)=32 by omega]
  have hs2:2 ^ s<=2147483648:=by have:2 ^ s<=2 ^ 31:=afL (by decide) (by omega);simpa using this
  have elen:Int.toNat (((w:Nat):Int)+(m.length:Int)+1)=w+m.length+1:=by omega
  rw[aa afs,aa afs,aa afs,aa (bF (by omega) (by omega) (by omega) (by omega)),elen]
  let V:=aF m*2 ^ n
  let X:=aF m*2 ^ s
  have hVX:V=4294967296 ^ w*X:=by simp only[V,X]; rw[hp2,afY]
  let T:=λi=>aF (m.take i)*2 ^ s
  let c:=λi=>T i / 4294967296 ^ i
  refine aH (λi=>((i:Int),dl V (w+i)++((c i:Nat):Int)::List.replicate (m.length - i) 0)) m.length ?_ (by omega) (λi hi K=>?_) (λK=>?_)
  ·congr 1;show List.replicate (w+m.length+1) (0:Int)=dl V w++((c 0:Nat):Int)::List.replicate m.length 0;rw[hVX,vN];have hc0:c 0=0:=by simp[c,T,aF]
   rw[hc0];have:w+m.length+1=w+(m.length+1):=by omega
   rw[this,<- aha,agf]; rfl
  ·have hx:=hm.at (i:=i);have hT:T (i+1)=T i+4294967296 ^ i*((m.getD i 0).toNat*2 ^ s):=by simp only[T,aQ,af0,afG]
   have hq:T (i+1) / 4294967296 ^ i=c i+(m.getD i 0).toNat*2 ^ s:=by rw[hT,dS]
   have hci:c i<2 ^ s:=by simp only[c,T];rw[afE (aV i),afy];exact agG (bu hm i) hs0
   have hc1:c (i+1)=(c i+(m.getD i 0).toNat*2 ^ s) / 4294967296:=by rw[<- hq]; simp only[c]; rw[afI,afD]
   have hdig:V / 4294967296 ^ (w+i)%4294967296=(c i+(m.getD i 0).toNat*2 ^ s)%4294967296:=by rw[<- hq,hVX,afO,<- afD,af7 _ (aV w)];obtain⟨R,hR⟩:=cb m (i+1);refine mi (R:=R*2 ^ s) ?_;simp only[X,T];rw[hR,af0,afG]
   have hrep:List.replicate (m.length - i) (0:Int)=0::List.replicate (m.length - (i+1)) 0:=by rw[show m.length - i=(m.length - (i+1))+1 by omega,agf]
   have hdl:=al V (w+i);have ei:Int.toNat ((w:Int)+(i:Int))=w+i:=by omega
   have ei1:Int.toNat ((w:Int)+(i:Int)+1)=w+i+1:=by omega
   have emin:min s 64=s:=by omega
   simp only[eD,afz,ei,ei1,emin];rw[hrep,b6 hdl.symm,bf _ _ _ _ _ hdl.symm];have et:IntKind.wrap .u64 (IntKind.wrap .u64 (m.getD i 0)*2 ^ s)=(((m.getD i 0).toNat*2 ^ s:Nat):Int):=by
    have hxs:(m.getD i 0).toNat*2 ^ s<4294967296*2147483648:=age (by omega) hs2 (by decide);have e1:IntKind.wrap .u64 (m.getD i 0)=(((m.getD i 0).toNat:Nat):Int):=by rw[am]; omega
    have e2:(((m.getD i 0).toNat:Nat):Int)*2 ^ s=(((m.getD i 0).toNat*2 ^ s:Nat):Int):=by simp
    rw[e1,e2,am]; omega
   rw[et];generalize hxx:(m.getD i 0).toNat=x at *;have hx32:x<4294967296:=by omega
   have hlow:x*2 ^ s%4294967296=2 ^ s*(x%2 ^ (32 - s)):=by
    have e:x*2 ^ s%(2 ^ s*2 ^ (32 - s))=2 ^ s*(x%2 ^ (32 - s)):=by rw[afy x]; exact ahh _ _ _
    rwa [hs1]at e
   have hsum:2 ^ s*(x%2 ^ (32 - s))+c i<4294967296:=by have h1:x%2 ^ (32 - s)+1<=2 ^ (32 - s):=afK _ (afJ _);have h2:=afC (2 ^ s) h1;rw[hs1,afM]at h2;omega
   have eor:aD .or .u32 ((c i:Nat):Int) (IntKind.wrap .u32 ((x*2 ^ s:Nat):Int))=((V / 4294967296 ^ (w+i)%4294967296:Nat):Int):=by
    have e1:IntKind.wrap .u32 ((x*2 ^ s:Nat):Int)=((2 ^ s*(x%2 ^ (32 - s)):Nat):Int):=by rw[<- hlow,dh]; omega
    rw[e1,rI _ _ s hci hsum,hdig];omega
   have ehi:IntKind.wrap .u32 (Int.fdiv ((x*2 ^ s:Nat):Int) (2 ^ 32))=((c (i+1):Nat):Int):=by have hxs:x*2 ^ s<4294967296*2147483648:=age hx32 hs2 (by decide);rw[kh,dh,hc1];omega
   rw[eor,ehi];have hl1:∀(a b:Int) (ys:List Int),(dl V (w+i)++a::b::ys).length=w+i+2+ys.length:=by intro a b ys; simp[hdl]; omega
   have hset2:(dl V (w+i)++((V / 4294967296 ^ (w+i)%4294967296:Nat):Int)::0::List.replicate (m.length - (i+1)) 0).set (w+i+1) ((c (i+1):Nat):Int)=dl V (w+(i+1))++((c (i+1):Nat):Int)::List.replicate (m.length - (i+1)) 0:=by
    have:dl V (w+i)++((V / 4294967296 ^ (w+i)%4294967296:Nat):Int)::0::List.replicate (m.length - (i+1)) 0=dl V (w+(i+1))++0::List.replicate (m.length - (i+1)) 0:=by rw[<- agc,dl]; simp
    rw[this];exact bf _ _ _ _ _ (by rw[al]; omega)
   rw[hset2,hl1,hl1];simp only[agR];rw[afu (by omega:(i:Int)<m.length),afx,aa aft,aa (afu (by omega)),aa afs,aa aft,aa (afu (by omega)),aa aft,aa (afu (by omega)),
    aa afs,aa afs,aa aft,aa (afu (by omega)),aa afs]
   rfl
  ·simp only[eD];rw[afv (by omega:¬(m.length:Int)<m.length),afw,af6,af9];have hV:V<4294967296 ^ (w+m.length+1):=by have h1:=eJ hm;simp only[V];rw[hp2,afI,afO,afY,afG];refine agG ?_ (aV w);exact age h1 (by omega) (by decide)
   have hT:T m.length=X:=by simp only[T,X]; rw[agd]
   have hend:dl V (w+m.length)++[((c m.length:Nat):Int)]=dl V (w+m.length+1):=by
    rw[dl];have:c m.length=V / 4294967296 ^ (w+m.length)%4294967296:=by simp only[c];rw[hT,hVX,afO,<- afD,af7 _ (aV w)];rw[afF];rw[afE (aV _),afy];have h1:=eJ hm;simp only[X];exact age h1 (by omega) (by decide)
    rw[this]
   rw[hend,dp _ (ji V _) (by rw[al]; omega) (by rw[al]; omega),qA hV]
theorem CT {m:List Int} (hm:InW m) (j:Nat):∃ R,aF m / 4294967296 ^ j=(m.getD j 0).toNat+4294967296*(m.getD (j+1) 0).toNat+4294967296*4294967296*R:=by
 obtain⟨R,hR⟩:=cb m (j+2);refine⟨R,?_⟩;rw[hR,aQ,aQ];simp only[afI];have e:aF (m.take j)+4294967296 ^ j*(m.getD j 0).toNat+4294967296 ^ j*4294967296*(m.getD (j+1) 0).toNat+4294967296 ^ j*4294967296*4294967296*R
   = aF (m.take j)+4294967296 ^ j*((m.getD j 0).toNat+4294967296*(m.getD (j+1) 0).toNat+4294967296*4294967296*R):=by
  rw[afM,afM,afG,afG,afG,afG]; omega
 rw[e,dS,af2 (bu hm j),af1]
theorem uI {N:Nat} (n:Nat) (hn:n<18446744073709551616) (hN:4<N) (k:Kz8):Dy N n k=k (aj n):=by
 (unfold Dy; rw[ac]; unfold Nt)
 have hw:InW [IntKind.wrap .u32 (n:Int),IntKind.wrap .u32 (Int.fdiv (n:Int) (2 ^ 32))]:=by intro x hx;simp only[dh,kh,agT,ahy,or_false]at hx;rcases hx with rfl | rfl <;> omega
 have hv:aF [IntKind.wrap .u32 (n:Int),IntKind.wrap .u32 (Int.fdiv (n:Int) (2 ^ 32))]=n:=by simp only[aF,dh,kh]; omega
 rw[dp _ hw (by simp; omega) (by simp),hv]
def sg (neg:Bool) (n:Nat):Bool:=neg&&decide (n ≠ 0)
theorem nn (n:Nat):decide (((aj n).length:Int)>0)=decide (n ≠ 0):=by
 by_cases h:n=0
 ·subst h; rw[ba]; simp
 ·obtain⟨-,h2⟩:=sN n h;rw[afu (by omega),afu h]
theorem SM (neg:Bool) (n:Nat) (k:Ky4):cond (neg==true) (k (decide (((aj n).length:Int)>0)) (aj n)) (k false (aj n))=k (sg neg n) (aj n):=by rw[nn];cases neg <;> rfl
theorem nC {N:Nat} (neg:Bool) (m:List Int) (b:Bool) (hm:InW m) (hN:fE N m) (k:Ky4):zm N neg m b k=k (sg neg (aF m)) (aj (aF m)):=by unfold zm Sm;rw[JP m hm (by have:=hN.1; omega) (by have:=hN.2; omega)];exact SM neg _ k
theorem vj {N:Nat} (n:Nat) (hn:n<18446744073709551616) (b:Bool) (hN:fE N (aj n)) (h4:4<N) (k:Ky4):R3 N n b k=k false (aj n):=by
 (unfold R3; rw[ac]; unfold TH)
 rw[uI n hn h4,nC false _ b (bg n) hN,aL];rfl
def aY (g:Bool) (n:Nat):Int:=if g=true then -(n:Int)else n
def uY (z:Int) (k:Ky4):Bool:=k (decide (z<0)) (aj z.natAbs)
theorem uN (g:Bool) (n:Nat) (k:Ky4):k (sg g n) (aj n)=uY (aY g n) k:=by
 unfold uY aY sg;cases g
 ·simp only[agx,af4,ah8,agq];rw[afv (by omega)]
 ·simp only[ag8,agC,ah9,agq];congr 1;by_cases h:n=0
  ·subst h; rfl
  ·rw[afu h,afu (by omega)]
theorem OO (z:Int):aY (decide (z<0)) z.natAbs=z:=by
 unfold aY;by_cases h:z<0
 ·rw[afu h]; simp; omega
 ·rw[afv h]; simp; omega
theorem ut {x y:Nat}:decide (dz x y>=0)=decide (y<=x):=by
 unfold dz;split
 ·rw[afv (by omega),afv (by omega)]
 ·split
  ·rw[afu (by omega),afu (by omega)]
  ·rw[afu (by omega),afu (by omega)]
theorem Mz (g1 g2 turn:Bool) (n1 n2:Nat) (k:Ky4) :
  cond (g1==(g2 != turn)) (k (sg (g2 != turn) (n1+n2)) (aj (n1+n2))) (cond (decide (dz n1 n2>=0)) (k (sg g1 (n1 - n2)) (aj (n1 - n2))) (k (sg (g2 != turn) (n2 - n1)) (aj (n2 - n1))))
   = uY (aY g1 n1+(if turn=true then -(aY g2 n2)else aY g2 n2)) k:=by
 rw[uN _ _ k,uN _ _ k,uN _ _ k,ut];have key:∀ a b:Int,a=b->uY a k=uY b k:=λa b h=>by rw[h]
 cases g1 <;> cases g2 <;> cases turn <;> simp only[aY] <;> by_cases h:n2<=n1 <;> simp only[h,aiC,aiv,afx,afw,bne,ahf,agn,agb,agx,ag8,af4,(by decide:(false==true)=false),(by decide:(true==false)=false)] <;> refine key _ _ ?_ <;> omega
theorem LQ {N:Nat} (turn b g1:Bool) (n1:Nat) (g2:Bool) (n2:Nat) (h1:fE N (aj n1)) (h2:fE N (aj n2)) (h3:fE N (aj (n1+n2))) (k:Ky4) :
  WB N turn b g1 (aj n1) g2 (aj n2) k=uY (aY g1 n1+(if turn=true then -(aY g2 n2)else aY g2 n2)) k:=by
 (unfold WB; rw[ac]; unfold TW)
 have hs:∀ m,m<=n1+n2->fE N (aj m):=λm hm=>by have:=bZ hm;exact⟨by have:=h3.1; omega,by have:=h3.2; omega⟩
 rw[Pf _ _ (bg _) (bg _) h1 h2,kd _ _ h1 h2,aL,aL,nC _ _ _ (bg _) h3,aL,<- Mz];congr 1;by_cases h:n2<=n1
 ·rw[yb _ _ (bg _) (bg _) (by rw[aL,aL]; exact h) h1,aL,aL,nC _ _ _ (bg _) (hs _ (by omega)),aL,ut,afu h];rfl
 ·rw[yb _ _ (bg n2) (bg n1) (by rw[aL,aL]; omega) h2,aL,aL,nC _ _ _ (bg _) (hs _ (by omega)),aL,ut,afv h];rfl
theorem Ls {N:Nat} (b g1:Bool) (n1:Nat) (g2:Bool) (n2:Nat) (h1:fE N (aj n1)) (h2:fE N (aj n2)) (h3:fE N (aj (n1+n2))) (k:Ky4) :
  PE N b g1 (aj n1) g2 (aj n2) k=uY (aY g1 n1 - aY g2 n2) k:=by
 unfold PE Sj;rw[LQ true b g1 n1 g2 n2 h1 h2 h3]; rfl
def XT (N m s:Nat):Prop:=(aj m).length+s / 32+4<N/\(aj m).length<=1099511627776/\s<4294967296/\fE N (aj (m*2 ^ s))
theorem C8 {N:Nat} (s:Nat) (b g:Bool) (n:Nat) (h:XT N n s) (k:Ky4):Kd N s b g (aj n) k=uY (aY g (n*2 ^ s)) k:=by
 (unfold Kd; rw[ac]; unfold MZ)
 rw[O_ _ (bg n) s h.2.2.1 h.1 h.2.1,aL,nC _ _ _ (bg _) h.2.2.2,aL,uN _ _ k]
theorem Be {N:Nat} (n:Nat) (hn:n<9223372036854775808) (hs:fE N (aj n)) (h4:4<N) (k:Ky4):nt N n k=k false (aj n):=by
 (unfold nt wG; unfold SV; rw[ac]; unfold M7 jh)
 have e:IntKind.wrap .u64 (n:Int)=n:=by rw[am]; omega
 rw[afv (by omega:¬(n:Int)<0),afw,e,uI n (by omega) h4,nC _ _ _ (bg _) hs,aL];rfl
theorem Og:aj 1=[1]:=by rw[cl (by decide),ba]; rfl
theorem kx (a b:Nat):Int.fdiv (a:Int) (b:Int)=((a / b:Nat):Int):=by rw[ag0 _ (by omega)]; rfl
theorem rN (N:Nat) (k:Kz4):yq N 52 2047 1075 k=k 9223372036854775808:=by rfl
theorem ng (N:Nat) (k:Kz4):pr N 52 2047 1075 k=k 9218868437227405312:=by rfl
theorem ku (N:Nat) (k:Kz4):mJ N 52 2047 1075 k=k 4503599627370496:=by rfl
theorem zI (N:Nat) (k:Kz4):yp N 52 2047 1075 k=k 9221120237041090561:=by
 (unfold yp; rw[ac]; unfold xA)
 simp only[ng,ku];exact aiE k (by decide)
theorem Q8 (N:Nat) (b:Nat) (k:Kz3):PF N b 52 2047 1075 k=k (isNaN b):=by
 (unfold PF; rw[ac]; unfold M0)
 simp only[rN,ng,pz];congr 1;rw[ag2,agU,fj];omega
def cnb (b:Nat):Nat:=if isNaN b then 9221120237041090561 else b
theorem Dc (N:Nat) (b:Nat) (k:Kz4):PW N b 52 2047 1075 k=k (cnb b):=by unfold PW Xa;simp only[Q8,zI,cnb];cases isNaN b <;> rfl
theorem Df (N:Nat) (b:Nat) (k:Kx9):RY N b 52 2047 1075 k=k (aD .and .u64 (cnb b) 9223372036854775808 != 0) ((cnb b / 4503599627370496%2048:Nat):Int) ((cnb b%4503599627370496:Nat):Int):=by
 (unfold RY; rw[ac]; unfold TF)
 simp only[Dc,rN,ku];have e1:(2:Int) ^ (min (Int.toNat 52) 64)=((4503599627370496:Nat):Int):=by decide
 have e2:IntKind.wrap .u64 2047=((2 ^ 11 - 1:Nat):Int):=by decide
 have e3:IntKind.wrap .u64 (4503599627370496 - 1)=((2 ^ 52 - 1:Nat):Int):=by decide
 have e4:decide ((0:Int)<=52)=true:=by decide
 rw[e1,kx,e2,e3,kf _ _ (by decide),kf _ _ (by decide),e4,ab (by omega) (by omega)];rfl
theorem DR (b:Nat):cls b=if (cnb b / 4503599627370496%2048)=2047 then(if cnb b%4503599627370496=0 then 2 else 1)else if cnb b / 4503599627370496%2048=0 then(if cnb b%4503599627370496=0 then 3 else 4)else 5:=by
 unfold cls cnb;by_cases h:isNaN b=true
 ·rw[if_pos h,if_pos h]; decide
 ·rw[if_neg h,if_neg h];have hn:¬(9218868437227405312<b%9223372036854775808):=λq=>h ((fj b).2 q)
  by_cases h1:b / 4503599627370496%2048=2047
  ·rw[if_pos h1,if_pos h1,if_pos (by omega)]
  ·rw[if_neg h1,if_neg h1]
theorem Dd (N:Nat) (b:Nat) (k:Kz4):RX N b 52 2047 1075 k=k (cls b):=by
 (unfold RX; rw[ac]; unfold TE)
 simp only[Df,DR b];generalize cnb b / 4503599627370496%2048=e;generalize cnb b%4503599627370496=f;have d1:((e:Int)==2047)=decide (e=2047):=by rw[ag2,ag_,agU]; omega
 have d2:((e:Int)==0)=decide (e=0):=by rw[ag2,ag_,agU]; omega
 have d3:((f:Int)==0)=decide (f=0):=by rw[ag2,ag_,agU]; omega
 simp only[bne,d1,d2,d3];by_cases h1:e=2047 <;> by_cases h2:e=0 <;> by_cases h3:f=0 <;> simp[h1,h2,h3]
theorem Lk (N:Nat) (b:Nat) (k:Kz4):sQ6 N b k=k (cls b):=by unfold sQ6 GQ6;simp only[Ev,uO,DJ,Dd]
theorem N6 (a b:Nat) (_ha:a<18446744073709551616\/True):decide ((cnb a:Int)=cnb b)=decide (cn (some a)=cn (some b)):=by
 have hq:isNaN 9221120237041090561=true:=by decide
 rw[ag2,agU,agU];have cf:∀ c,cn (some c)=if isNaN c=true then none else some c:=λ_=>rfl
 rw[cf,cf];unfold cnb;by_cases h1:isNaN a=true <;> by_cases h2:isNaN b=true
 ·simp[h1,h2]
 ·rw[if_pos h1,if_neg h2,if_pos h1,if_neg h2];refine⟨λh=>?_,λh=>by cases h⟩;have:b=9221120237041090561:=by omega
  rw[this]at h2; exact absurd hq h2
 ·rw[if_neg h1,if_pos h2,if_neg h1,if_pos h2];refine⟨λh=>?_,λh=>by cases h⟩;have:a=9221120237041090561:=by omega
  rw[this]at h1; exact absurd hq h1
 ·simp only[h1,h2,af4,afW,agx]; omega
theorem Q0 (N:Nat) (b:Nat) (k:Kz6):I0 N b k=k (Co (some b)):=by unfold I0 W_;simp only[Ev,BJ,pz];rfl
theorem N8 (b:Bool) (k:Kz3):cond b (k true) (k false)=k b:=by cases b <;> rfl
theorem aS {a c:Bool} (h:a=true):(a&&c)=c:=by rw[h]; rfl
def di (N n:Nat):Prop:=n<N/\n<=17592186044416
theorem DE (i n j:Nat):Int.toNat ((i:Int)*(n:Int)+(j:Int))=i*n+j:=by rw[<- afR,<- Int.natCast_add,afz]
def rZ (l:List Int):List Fl:=l.map λn=>jt n.toNat
theorem wW {N:Nat} (l:List Int) (hl:di N l.length) (k:Kz7):lN N l k=k (rZ l):=by
 (unfold lN; rw[ac]; unfold vz)
 refine(aA (λi=>((i:Int),(l.take i).map λn=>jt n.toNat)) l.length hl.1 (λi hi K=>?_) (λK=>?_):_)
 ·have h2:=hl.2;have e1:(l.take (i+1)).map (λn=>jt n.toNat)=(l.take i).map (λn=>jt n.toNat)++[jt (l.getD i 0).toNat]:=by rw[agO hi,ahc,List.getD_eq_getElem?_getD,List.getElem?_eq_getElem hi]; rfl
  simp only[l9,BJ,afz];rw[bB (by omega),afx,aS aft,aS (bB (by simp; omega)),aS afs,e1];rfl
 ·simp only[l9];rw[bC (by omega),afw,agd]; rfl
def az (xs:List Fl):Bool:=oC (λi=>bD (xs.getD i none)) xs.length
theorem lE {N:Nat} (xs:List Fl) (hl:di N xs.length) (k:Kz3):BK N xs k=k (az xs):=by
 (unfold BK; rw[ac]; unfold Nh)
 rw[<- N8 (az xs) k];refine(lD (λi=>(i:Int)) (λi=>bD (xs.getD i none)) xs.length hl.1 (λi hi K=>?_) (λK=>?_):_)
 ·have h2:=hl.2;simp only[kK,PV,afz];rw[bB (by omega),afx,aS aft,aS afs];have hc:=Fp (xs.getD i none);generalize Av (xs.getD i none)=c at hc ⊢;generalize bD (xs.getD i none)=f at hc ⊢;have d1:(c==1)=decide (c=1):=rfl;have d2:(c==2)=decide (c=2):=rfl;rw[d1,d2];generalize decide (c=1)=u at *;generalize decide (c=2)=v at *;cases u <;> cases v <;> cases f <;> first | rfl | cases hc
 ·simp only[kK];rw[bC (by omega),afw]
def mV:Fl->Nat
 | none=>9221120237041090561
 | some b=>cnb b
theorem IU (d:Ieee.Datum) (h:d.isNaN=false):d.order d=some .eq:=by
 cases d with
 | nan s t=>cases h
 | infinity s=>simp[Ieee.Datum.order,compare,compareOfLessAndEq]
 | number s m i=>simp[Ieee.Datum.order,compare,compareOfLessAndEq]
theorem K5 (b:Nat) (h:isNaN b=false):(Ieee.double.order b b==some .eq)=true:=by unfold Ieee.Format.order;rw[IU _ h]; rfl
theorem Ow (b:Nat):feq (some b) (some b) = !isNaN b:=by
 cases h:isNaN b with
 | true=>simp[feq,wO,og b h]
 | false=>simp only[feq,wO,agb]; exact K5 b h
theorem F3 (N:Nat) (x:Fl) (k:Kz4):ot N x k=k (mV x):=by
 unfold ot Ag yn;cases x with
 | none=>rfl
 | some b=>
  rw[Ow];simp only[mV,cnb];cases isNaN b <;> rfl
theorem Gw (a b:Nat):Int.tmod (a:Int) (b:Int)=((a%b:Nat):Int):=by rw[ago (by omega)]; rfl
theorem C_ (N:Nat) (x:Fl) (k:Kx9):o_ N x k=k (Int.fdiv (mV x:Int) (2 ^ 63)==1) ((mV x / 4503599627370496%2048:Nat):Int) ((mV x%4503599627370496:Nat):Int):=by
 (unfold o_; rw[ac]; unfold su)
 simp only[F3];have e1:(2:Int) ^ 52=((4503599627370496:Nat):Int):=by decide
 have e2:(2048:Int)=((2048:Nat):Int):=rfl;have e3:(4503599627370496:Int)=((4503599627370496:Nat):Int):=rfl;rw[e1,e2,e3,kx,Gw,Gw,ab (by omega) (by omega)];rfl
theorem KX (x:Fl):Av x=if (mV x / 4503599627370496%2048)=2047 then(if mV x%4503599627370496=0 then 2 else 1)else if mV x / 4503599627370496%2048=0 then(if mV x%4503599627370496=0 then 3 else 4)else 5:=by
 cases x with
 | none=>decide
 | some b=>exact DR b
theorem Cv (N:Nat) (x:Fl) (k:Kz4):tN N x k=k (Av x):=by
 (unfold tN yE; unfold S0; rw[ac]; unfold NC)
 simp only[C_,KX x];generalize mV x / 4503599627370496%2048=e;generalize mV x%4503599627370496=f;have d1:((e:Int)==2047)=decide (e=2047):=by rw[ag2,ag_,agU]; omega
 have d2:((e:Int)==0)=decide (e=0):=by rw[ag2,ag_,agU]; omega
 have d3:((f:Int)==0)=decide (f=0):=by rw[ag2,ag_,agU]; omega
 simp only[bne,d1,d2,d3];by_cases h1:e=2047 <;> by_cases h2:e=0 <;> by_cases h3:f=0 <;> simp[h1,h2,h3]
theorem th (N:Nat) (x:Fl) (k:Kz3):nu N x k=k (bD x):=by
 unfold nu wH;simp only[Cv];congr 1;have h1:=Fp x;have h2:=Qx x;rw[ag2,agU];cases hf:bD x with
 | true=>
  rw[hf]at h1;simp only[agn,Bool.or_eq_false_iff,ahZ]at h1;exact⟨λ_=>rfl,λ_=>by omega⟩
 | false=>
  rw[hf]at h1;simp only[agb,aiM,ahl]at h1;exact⟨λ_=>by omega,λh=>by cases h⟩
theorem lU {N:Nat} (xs:List Fl) (hl:di N xs.length) (k:Kz3):Ms N xs k=k (az xs):=by
 (unfold Ms; rw[ac]; unfold TK)
 rw[<- N8 (az xs) k];refine(lD (λi=>(i:Int)) (λi=>bD (xs.getD i none)) xs.length hl.1 (λi hi K=>?_) (λK=>?_):_)
 ·have h2:=hl.2;simp only[fX,afz,th];rw[bB (by omega),afx,aS aft,aS afs];cases bD (xs.getD i none) <;> rfl
 ·simp only[fX];rw[bC (by omega),afw]
theorem NT (x y:Fl):((mV x:Int)==mV y)=decide (cn x=cn y):=by
 have hq:cn (some 9221120237041090561)=none:=by decide
 have hb:cnb 9221120237041090561=9221120237041090561:=by decide
 have key:∀ x,∃ a,mV x=cnb a/\cn x=cn (some a):=by
  intro x;cases x with
  | none=>exact⟨9221120237041090561,hb.symm,hq.symm⟩
  | some b=>exact⟨b,rfl,rfl⟩
 obtain⟨a,e1,e2⟩:=key x;obtain⟨b,e3,e4⟩:=key y;rw[e1,e2,e3,e4,<- N6 a b (.inr trivial)];rfl
theorem w7 (N:Nat) (x y:Fl) (k:Kz3):rk N x y k=k (decide (cn x=cn y)):=by
 (unfold rk; rw[ac]; unfold vA)
 simp only[F3,NT]
theorem C4 {σ:Type} {step:σ->(σ->Bool)->Bool} {s:σ} (C:Nat->σ) (n:Nat) {N:Nat} (h0:s=C 0) (hn:n<N) {out:Bool} (hs:∀ i,i<n -> ∀ K:σ->Bool,step (C i) K=K (C (i+1))) (hx:∀ K,step (C n) K=out):ah N step s=out:=by subst h0; exact aA C n hn hs hx
theorem jV {σ:Type} {step:σ->(σ->Bool)->Bool} {s:σ} (C:Nat->σ) (p:Nat->Bool) (n:Nat) {N:Nat} (h0:s=C 0) (hn:n<N) {ex out:Bool}
  (hs:∀ i,i<n -> ∀ K:σ->Bool,step (C i) K=cond (p i) (K (C (i+1))) ex) (hx:∀ K,step (C n) K=out):ah N step s=cond (oC p n) out ex:=by
 subst h0; exact lD C p n hn hs hx
theorem eo {n i j:Nat} (hi:i<n) (hj:j<n):i*n+j<n*n:=by have:(i+1)*n<=n*n:=afA n hi;rw[af0]at this; omega
theorem oe {n:Nat} (h:n<=12):n*n<=144:=agj h h
theorem Xx {n i:Nat} (h:n<=12) (hi:i<n):i*n<=144:=agj (by omega:i<=12) h
theorem pp (a b:Int):(a != b) = !decide (a=b):=rfl
theorem Pl (N:Nat) (n:Int) (k:Kz3):G0 N n k=k (decide (0<=n/\n<=12)):=by
 unfold G0 Qp;by_cases h1:0<=n
 ·rw[bB (p:=n>=0) h1]; simp[h1]
 ·rw[bC (p:=n>=0) h1]; simp[h1]
def chk (r c:Int) (xs:List Fl):Int:=if (0<=r/\r<=12)/\(0<=c/\c<=12)then(if (xs.length:Int)=r*c then(if az xs=true then 0 else 4)else 3)else 1
theorem J9 {r c:Int} (hr:0<=r/\r<=12) (hc:0<=c/\c<=12):af .i64 (r*c)=true:=by have h1:0<=r*c:=Int.mul_nonneg hr.1 hc.1;have h2:r*c<=12*12:=Int.mul_le_mul hr.2 hc.2 hc.1 (by decide);exact ab (by omega) (by omega)
theorem Lj {N:Nat} (r c:Int) (xs:List Fl) (hl:di N xs.length) (k:Kz4):we N r c xs k=k (chk r c xs):=by
 (unfold we; rw[ac]; unfold Qj chk)
 simp only[Pl,lE xs hl];by_cases hr:0<=r/\r<=12
 ·by_cases hc:0<=c/\c<=12
  ·rw[bB hr,bB hc,if_pos ⟨hr,hc⟩,pp,J9 hr hc];by_cases hx:(xs.length:Int)=r*c
   ·rw[bB hx,if_pos hx]; cases az xs <;> rfl
   ·rw[bC hx,if_neg hx]; rfl
  ·rw[bB hr,bC hc,if_neg (λh=>hc h.2)]; rfl
 ·rw[bC hr,if_neg (λh=>hr h.1)]; rfl
theorem mh {r c:Int} {xs:List Fl}:chk r c xs=0↔((0<=r/\r<=12)/\(0<=c/\c<=12))/\(xs.length:Int)=r*c/\az xs=true:=by
 unfold chk;split
 ·split
  ·split
   ·simp[*]
   ·simp[*]
  ·simp[*]
 ·simp[*]
def elt (xs:List Fl) (n i j:Nat):Fl:=xs.getD (i*n+j) none
def upP (xs:List Fl) (n i j:Nat):Bool:=decide (cn (elt xs n i j)=cn (some 0))
def oc (xs:List Fl) (n i:Nat):Bool:=oC (λd=>upP xs n i (i+1+d)) (n - (i+1))
def LV (xs:List Fl) (n:Nat):Bool:=oC (oc xs n) n
def pE (xs:List Fl) (n i:Nat):Bool:=fgt (elt xs n i i) (some 0)
theorem J5 (V x Bk bk i k:Nat):V%4294967296 ^ (i+k+1)+x*(Bk+4294967296 ^ k*bk)*4294967296 ^ i=(V%4294967296 ^ (i+k)+x*Bk*4294967296 ^ i)+4294967296 ^ (i+k)*(V / 4294967296 ^ (i+k)%4294967296+x*bk):=by rw[Nat.mod_pow_succ,afO];grind
theorem HM (V x Bk bk i k:Nat):(V%4294967296 ^ (i+k+1)+x*(Bk+4294967296 ^ k*bk)*4294967296 ^ i) / 4294967296 ^ (i+k+1)=((V%4294967296 ^ (i+k)+x*Bk*4294967296 ^ i) / 4294967296 ^ (i+k)+V / 4294967296 ^ (i+k)%4294967296+x*bk) / 4294967296:=by rw[J5,afI,<- afD,agr _ _ (agF (by decide)),agc]
theorem Fk (V x Bk bk i k R:Nat):(V+x*(Bk+4294967296 ^ k*bk+4294967296 ^ (k+1)*R)*4294967296 ^ i) / 4294967296 ^ (i+k)%4294967296=((V%4294967296 ^ (i+k)+x*Bk*4294967296 ^ i) / 4294967296 ^ (i+k)+V / 4294967296 ^ (i+k)%4294967296+x*bk)%4294967296:=by
 have e:V+x*(Bk+4294967296 ^ k*bk+4294967296 ^ (k+1)*R)*4294967296 ^ i=(V%4294967296 ^ (i+k+1)+x*(Bk+4294967296 ^ k*bk)*4294967296 ^ i)+4294967296 ^ (i+k+1)*(V / 4294967296 ^ (i+k+1)+x*R):=by
  have h:=agp V (4294967296 ^ (i+k+1));have h2:4294967296 ^ (i+k+1)=4294967296 ^ (k+1)*4294967296 ^ i:=by rw[<- afO]; congr 1; omega
  generalize V / 4294967296 ^ (i+k+1)=q at *;generalize V%4294967296 ^ (i+k+1)=r at *;rw[<- h,h2];grind
 rw[mi e,J5,agr _ _ (agF (by decide)),agc]
theorem N2 {V x Bk i k:Nat} (hx:x<4294967296) (hB:Bk<4294967296 ^ k):(V%4294967296 ^ (i+k)+x*Bk*4294967296 ^ i) / 4294967296 ^ (i+k)<4294967296:=by
 rw[afE (agF (by decide))];have h1:V%4294967296 ^ (i+k)<4294967296 ^ (i+k):=afK _ (agF (by decide));have h2:x*Bk<=4294967295*4294967296 ^ k:=agj (by omega) (by omega);have h3:x*Bk*4294967296 ^ i<=4294967295*4294967296 ^ (i+k):=by
  have:=afA (4294967296 ^ i) h2
  rwa [afG 4294967295,<- afO,ahq k i]at this
 omega
theorem uv (S:Nat) {L i:Nat} (h:i<L):(dl S L).getD i 0=((S / 4294967296 ^ i%4294967296:Nat):Int):=by
 induction L with
 | zero=>omega
 | succ L ih=>
  show((dl S L)++[_]).getD i 0=_;rw[List.getD_eq_getElem?_getD];by_cases hi:i<L
  ·rw[List.getElem?_append_left (by rw[al]; exact hi),<- List.getD_eq_getElem?_getD,ih hi]
  ·have:i=L:=by omega
   subst this;rw[List.getElem?_append_right (by rw[al]; exact afH _),al,af6]; rfl
theorem cW {l:List Int} {n:Nat} (h:n<l.length):l.drop n=l.getD n 0::l.drop (n+1):=by rw[List.drop_eq_getElem_cons h,List.getD_eq_getElem?_getD,List.getElem?_eq_getElem h]; rfl
theorem rP {b:List Int} {k:Nat}:aF (b.take (k+1))=aF (b.take k)+4294967296 ^ k*(b.getD k 0).toNat:=aQ k
theorem AF (U V L p:Nat) (h:p<L):(dl U p++(dl V L).drop p).set p ((U / 4294967296 ^ p%4294967296:Nat):Int)=dl U (p+1)++(dl V L).drop (p+1):=by rw[cW (by rw[al]; exact h),bf _ _ _ _ _ (by rw[al])];show _=(dl U p++[_])++_;rw[afN]; rfl
theorem HT (U V L p:Nat) (h:p<L):(dl U p++(dl V L).drop p).getD p 0=((V / 4294967296 ^ p%4294967296:Nat):Int):=by rw[cW (by rw[al]; exact h),b6 (by rw[al]),uv V h]
theorem AE (U V L p:Nat) (h:p<=L):(dl U p++(dl V L).drop p).length=L:=by simp[al]; omega
theorem K1 {U L p:Nat} (hU:U<4294967296 ^ p) (h:p<=L) {V:Nat} (hV:V<4294967296 ^ p):dl U p++(dl V L).drop p=dl U L:=by
 induction L with
 | zero=>
  have:p=0:=by omega
  subst this; rfl
 | succ L ih=>
  by_cases hp:p=L+1
  ·subst hp; rw[agh (by rw[al]; omega),af5]
  ·have hpL:p<=L:=by omega
   have e:∀ X,X<4294967296 ^ p->dl X (L+1)=dl X L++[0]:=by intro X hX;show dl X L++[((X / 4294967296 ^ L%4294967296:Nat):Int)]=_;rw[af2 (afP hX (afL (by decide) hpL))]; rfl
   rw[e V hV,e U hU,agy (by rw[al]; exact hpL),<- afN,ih hpL]
theorem v7 {a:List Int} (ha:InW a) (i:Nat):aF (a.take i)<4294967296 ^ i:=bu ha i
theorem vZ {x y i j:Nat} (hx:x<4294967296 ^ i) (hy:y<4294967296 ^ j):x*y<4294967296 ^ (i+j):=by rw[afO];exact aiJ hx hy
theorem yi {N:Nat} (a b:List Int) (ha:InW a) (hb:InW b) (hN:a.length+b.length+2<N) (hs:a.length+b.length<=17592186044416) (k:Kz8):zN N a b k=k (aj (aF a*aF b)):=by
  (unfold zN; rw[ac]; unfold TY)
  have eL:Int.toNat (((a.length:Nat):Int)+((b.length:Nat):Int))=a.length+b.length:=by omega
  rw[aa afs,aa (bF (by omega) (by omega) (by omega) (by omega)),eL]
  let L:=a.length+b.length
  let B:=aF b
  have hB:B<4294967296 ^ b.length:=eJ hb;refine aH (λi=>((i:Int),dl (aF (a.take i)*B) L)) a.length ?_ (by omega) (λi hi K=>?_) (λK=>?_)
  · show((0:Int),List.replicate L (0:Int))=(((0:Nat):Int),dl (aF (a.take 0)*B) L)
    have:=vN L 0;rw[agS]at this;rw[ahO,show aF []=0 from rfl,agV,this]; rfl
  · simp only[kU]
    rw[afu (by omega:(i:Int)<a.length),afx];have hx:=ha.at (i:=i)
    let V:=aF (a.take i)*B
    let x:=(a.getD i 0).toNat
    let U:=aF (a.take (i+1))*B
    have hU:U=V+x*B*4294967296 ^ i:=by simp only[U,V,x];rw[rP];grind
    have hV:V<4294967296 ^ (i+b.length):=vZ (v7 ha i) hB;have hUl:U<4294967296 ^ (i+1+b.length):=vZ (v7 ha (i+1)) hB
    let c:=λj=>(V%4294967296 ^ (i+j)+x*aF (b.take j)*4294967296 ^ i) / 4294967296 ^ (i+j)
    refine aH (λj=>(((c j:Nat):Int),(j:Int),dl U (i+j)++(dl V L).drop (i+j))) b.length ?_ (by omega) (λj hj K'=>?_) (λK'=>?_)
    · show((0:Int),(0:Int),dl V L)=_
      have h0:c 0=0:=by simp only[c,ahO,show aF []=0 from rfl,agS,agV,af3];exact af2 (afK _ (agF (by decide)))
      have hlow:dl U i=dl V i:=by
        have:∀ n,n<=i->dl U n=dl V n:=by
          intro n;induction n with
          | zero=>intro _; rfl
          | succ n ih=>
            intro hn;show dl U n++[_]=dl V n++[_];rw[ih (by omega)];congr 3;have:U=V+4294967296 ^ (n+1)*(x*B*4294967296 ^ (i - (n+1))):=by rw[hU,afY,<- afO,show n+1+(i - (n+1))=i by omega]
            exact mi this
        exact this i (afH _)
      have hsp:dl V i++(dl V L).drop i=dl V L:=by
        have:∀ n,i<=n->dl V i++(dl V n).drop i=dl V n:=by
          intro n;induction n with
          | zero=>intro h; have:i=0:=(by omega); subst this; rfl
          | succ n ih=>
            intro h;by_cases hn:i=n+1
            · subst hn; rw[agh (by rw[al]; omega),af5]
            · show dl V i++(dl V n++[_]).drop i=dl V n++[_]
              rw[agy (by rw[al]; omega),<- afN,ih (by omega)]
        exact this L (by simp only[L]; omega)
      rw[h0,af3,hlow,hsp]; rfl
    · have hy:=hb.at (i:=j)
      have hp:i+j<L:=by simp only[L]; omega
      have hlen:=AE U V L (i+j) (by omega);have hget:=HT U V L (i+j) hp;have hset:=AF U V L (i+j) hp;have hc:=N2 (V:=V) (x:=x) (i:=i) (k:=j) (Bk:=aF (b.take j)) (by simp only[x]; omega) (v7 hb j);have hstep:=HM V x (aF (b.take j)) (b.getD j 0).toNat i j;obtain⟨R,hR⟩:=cb b (j+1);have hdig:=Fk V x (aF (b.take j)) (b.getD j 0).toNat i j R;rw[<- rP]at hstep hdig;rw[<- hR]at hdig;have hUe:V+x*aF b*4294967296 ^ i=U:=hU.symm;rw[hUe]at hdig;have hxy:x*(b.getD j 0).toNat<=4294967295*4294967295:=agj (by simp only[x]; omega) (by omega);have eidx:Int.toNat ((i:Int)+(j:Int))=i+j:=by omega
      have hcj:∀ n,c n=(V%4294967296 ^ (i+n)+x*aF (b.take n)*4294967296 ^ i) / 4294967296 ^ (i+n):=λ_=>rfl
      have hax:a.getD i 0=(x:Int):=by simp only[x]; omega
      have hby:b.getD j 0=((b.getD j 0).toNat:Int):=by omega
      simp only[kV,afz,eidx,hlen,hget];rw[afu (by omega:(j:Int)<b.length),afx,aa aft,aa aft,aa afs,aa aft,aa (afu (by omega)),aa afs,aa aft,aa (afu (by omega)),aa afs];have ec1:c (j+1)=(c j+V / 4294967296 ^ (i+j)%4294967296+x*(b.getD j 0).toNat) / 4294967296:=hstep;have ed:U / 4294967296 ^ (i+j)%4294967296=(c j+V / 4294967296 ^ (i+j)%4294967296+x*(b.getD j 0).toNat)%4294967296:=hdig;have hcl:c j<4294967296:=hc;rw[ed]at hset;have vlt:V / 4294967296 ^ (i+j)%4294967296<4294967296:=afK _ (by decide);rw[hax,hby,show i+(j+1)=i+j+1 by omega,<- hset];generalize V / 4294967296 ^ (i+j)%4294967296=v at *;generalize (b.getD j 0).toNat=y at *;generalize dl U (i+j)++(dl V L).drop (i+j)=l at *;have et:∀ q:Nat,q=c j+v+x*y->IntKind.wrap .u64 ((IntKind.wrap .u64 ((IntKind.wrap .u64 ((IntKind.wrap .u64 (x:Int))*(IntKind.wrap .u64 (y:Int))))+(IntKind.wrap .u64 (v:Int))))+((c j:Nat):Int))=(q:Int):=by
        intro q hq;have exy:((x:Int))*(y:Int)=((x*y:Nat):Int):=by rw[afR]
        have hxl:x<4294967296:=by simp only[x]; omega
        have hyl:y<4294967296:=by omega
        have w1:IntKind.wrap .u64 (x:Int)=x:=by rw[am]; omega
        have w2:IntKind.wrap .u64 (y:Int)=y:=by rw[am]; omega
        rw[w1,w2,exy,am,am,am,am];omega
      rw[et _ rfl,ec1,kh,dh];congr 1
    · simp only[kV]
      rw[afv (by omega:¬(b.length:Int)<b.length),afw];have hlen:=AE U V L (i+b.length) (by simp only[L]; omega);have hset:=AF U V L (i+b.length) (by simp only[L]; omega);have eidx:Int.toNat ((i:Int)+(b.length:Int))=i+b.length:=by omega
      have hLe:i+b.length<L:=by simp only[L]; omega
      have hc:c b.length=U / 4294967296 ^ (i+b.length):=by simp only[c];rw[agd,afF hV,hU]
      have hcl:U / 4294967296 ^ (i+b.length)<4294967296:=by
        rw[afE (agF (by decide))];have:i+1+b.length=i+b.length+1:=by omega
        rw[this,afI]at hUl;omega
      have ew:IntKind.wrap .u32 ((c b.length:Nat):Int)=((U / 4294967296 ^ (i+b.length)%4294967296:Nat):Int):=by rw[dh,hc]; omega
      have hfin:=K1 (U:=U) (V:=V) (L:=L) (p:=i+b.length+1) (by rw[show i+b.length+1=i+1+b.length by omega]; exact hUl) (by omega) (afP hV (afL (by decide) (by omega)));rw[aa afs,eidx,hlen,aa aft,aa (afu (by omega)),aa afs,ew,hset,hfin];rfl
  · simp only[kU]
    rw[afv (by omega:¬(a.length:Int)<a.length),afw,agd,dp _ (ji _ _) (by rw[al]; simp only[L]; omega) (by rw[al]; simp only[L]; omega)];rw[qA (vZ (eJ ha) hB)]
theorem A6 (g h:Bool) (m n:Nat):aY (g != h) (m*n)=aY g m*aY h n:=by unfold aY;rw[afR];cases g <;> cases h <;> simp[aiF,aip]
theorem Fz (n:Nat):bS (aj n) (aj n).length=(aj n).length:=by
 have ht:(aj n).take (bS (aj n) (aj n).length)=aj n:=by rw[uc (bg n),aL]
 have hc:=j7 (aj n) (aj n).length;have:=aiE List.length ht;rw[aga]at this; omega
theorem Rm (g:Bool) (n:Nat) (k:Ky4):cond ((!g)==true) (k (decide (((aj n).length:Int)>0)) (aj n)) (k false (aj n))=uY (-(aY g n)) k:=by rw[SM,uN _ _ k];congr 1;unfold aY; cases g <;> simp
theorem C9 {N:Nat} (g:Bool) (n:Nat) (hN:fE N (aj n)) (k:Ky4):PQ N g (aj n) k=uY (-(aY g n)) k:=by
 (unfold PQ; rw[ac]; unfold Nq tW sE)
 obtain⟨h1,h2⟩:=hN;rw[agk,afu (by omega),agC,lF _ (by omega) (by omega),Fz];simp only[agY,agd];rw[afu (by omega:0+(aj n).length<=(aj n).length),agC];exact Rm g n k
def aU (B:Nat) (n:Nat):Prop:=n<2 ^ B
theorem cz:∀(j n:Nat),n<4294967296 ^ j->(aj n).length<=j
 | 0,n,h=>by
  have:n=0:=by simp at h; exact h
  subst this; rw[ba]; exact afH _
 | j+1,n,h=>by
  by_cases h0:n=0
  ·subst h0; rw[ba]; simp
  ·rw[cl h0,af8];have:n / 4294967296<4294967296 ^ j:=ahs (by rw[afI]at h; omega);have:=cz j _ this;omega
theorem XJ (j:Nat):4294967296 ^ j=2 ^ (32*j):=by rw[aio]
theorem Aq {B n:Nat} (h:aU B n):(aj n).length<=B / 32+1:=by refine cz _ _ ?_;rw[XJ];exact afP h (afL (by decide) (by omega))
theorem HG {N B n:Nat} (hN:1000<=N) (hB:B<=31000) (h:aU B n):fE N (aj n):=by have:=Aq h;exact⟨by omega,by omega⟩
theorem bO {A B n:Nat} (h:aU A n) (hAB:A<=B):aU B n:=afP h (afL (by decide) hAB)
theorem dy {A B m n:Nat} (h:aU A m) (g:aU B n):aU (A+B) (m*n):=by unfold aU; rw[afO]; exact aiJ h g
theorem vJ {A m:Nat} (h:aU A m) (s:Nat):aU (A+s) (m*2 ^ s):=by unfold aU; rw[afO]; exact agl h (afJ s)
theorem wL {A m n:Nat} (h:aU A m) (g:aU A n):aU (A+1) (m+n):=by unfold aU at *; rw[afI]; omega
theorem lT {A m n:Nat} (h:aU A m) (g:n<=m):aU A n:=ag4 g h
theorem CM {N B n s:Nat} (hN:1000<=N) (hB:B+s<=31000) (h:aU B n):XT N n s:=by have h1:=Aq h;exact⟨by omega,by omega,by omega,HG hN hB (vJ h s)⟩
def exK (z:Int × Int) (k:Int->Bool->List Int->Bool):Bool:=k z.1 (decide (z.2<0)) (aj z.2.natAbs)
def yY (x y:Int × Int):Int × Int:=(x.1+y.1,x.2*y.2)
def SC (x:Int × Int):Int × Int:=(x.1,-x.2)
def sZ (x:Int × Int) (e:Int):Int:=x.2*2 ^ (x.1 - e).toNat
def JA (x y:Int × Int):Int × Int:=if x.2=0 then y else if y.2=0 then x else(min x.1 y.1,sZ x (min x.1 y.1)+sZ y (min x.1 y.1))
def Ex (E B:Nat) (x:Int × Int):Prop:=-(E:Int)<=x.1/\x.1<=E/\aU B x.2.natAbs
def xo (z:Int):Int:=if z=0 then 0 else if z<0 then -1 else 1
def av:List Int->Nat
 | []=>0
 | x::r=>x.toNat+18446744073709551616*av r
def InWq (m:List Int):Prop:=∀ x ∈ m,0<=x/\x<18446744073709551616
def ae (n:Nat):List Int:=if h:n=0 then[]else((n%18446744073709551616:Nat):Int)::ae (n / 18446744073709551616)
termination_by n
decreasing_by omega
theorem bh:ae 0=[]:=by rw[ae]; simp
theorem bU {n:Nat} (h:n ≠ 0):ae n=((n%18446744073709551616:Nat):Int)::ae (n / 18446744073709551616):=by rw[ae]; simp[h]
theorem aX:∀ n,InWq (ae n):=by
 intro n;induction n using Nat.strongRecOn with
 | ind n ih=>
  by_cases h:n=0
  ·subst h; rw[bh]; intro x hx; cases hx
  ·rw[bU h];intro x hx;rcases List.mem_cons.1 hx with rfl | hx
   ·omega
   ·exact ih (n / 18446744073709551616) (by omega) x hx
theorem aE:∀ n,av (ae n)=n:=by
 intro n;induction n using Nat.strongRecOn with
 | ind n ih=>
  by_cases h:n=0
  ·subst h; rw[bh]; rfl
  ·rw[bU h,av,ih (n / 18446744073709551616) (by omega),afz];omega
theorem np (a b:List Int):av (a++b)=av a+18446744073709551616 ^ a.length*av b:=by
 induction a with
 | nil=>simp[av]
 | cons x r ih=>
  rw[ahg,av,ih,av,af8,afI,afM,afy (18446744073709551616 ^ r.length) 18446744073709551616,afG];omega
theorem InWq.take {m:List Int} (h:InWq m) (n:Nat):InWq (m.take n):=λx hx=>h x (aii hx)
theorem InWq.drop {m:List Int} (h:InWq m) (n:Nat):InWq (m.drop n):=λx hx=>h x (aih hx)
theorem InWq.cons {x:Int} {m:List Int} (h:InWq (x::m)):(0<=x/\x<18446744073709551616)/\InWq m:=⟨h x (by simp),λy hy=>h y (by simp[hy])⟩
theorem InWq.at {m:List Int} (h:InWq m) {i:Nat}:0<=m.getD i 0/\m.getD i 0<18446744073709551616:=by
 rw[List.getD_eq_getElem?_getD];by_cases hi:i<m.length
 ·rw[List.getElem?_eq_getElem hi]; exact h _ (agH hi)
 ·rw[List.getElem?_eq_none (by omega)]; exact⟨by decide,by decide⟩
theorem iN:∀{m:List Int},InWq m->av m<18446744073709551616 ^ m.length
 | [],_=>by simp[av]
 | x::r,h=>by have ih:=iN h.cons.2;have hx:=h.cons.1;rw[av,af8,afI];have:av r+1<=18446744073709551616 ^ r.length:=ih;have:=afA 18446744073709551616 this;omega
theorem AB:∀{m:List Int},InWq m->(∀ x,m.getLast? = some x->x ≠ 0)->ae (av m)=m
 | [],_,_=>bh
 | [x],h,hl=>by
  have hx:=h.cons.1;have h0:x ≠ 0:=hl x rfl;have e:av [x]=x.toNat:=by simp[av]
  rw[e,bU (by omega),af2 (by omega),bh,afF (by omega),ahT hx.1]
 | x::y::r,h,hl=>by
  have hx:=h.cons.1;have ih:=AB h.cons.2 (λz hz=>hl z (by rw[List.getLast?_cons_cons]; exact hz));have hne:av (y::r) ≠ 0:=by intro h0;rw[h0,bh]at ih; cases ih
  have e1:av (x::y::r)=x.toNat+18446744073709551616*av (y::r):=rfl;rw[e1,bU (by omega)];have e2:(x.toNat+18446744073709551616*av (y::r))%18446744073709551616=x.toNat:=by omega
  have e3:(x.toNat+18446744073709551616*av (y::r)) / 18446744073709551616=av (y::r):=by omega
  rw[e2,e3,ih,ahT hx.1]
theorem zL {m:List Int} {i:Nat} (hi:i<m.length):av (m.take (i+1))=av (m.take i)+18446744073709551616 ^ i*(m.getD i 0).toNat:=by rw[agO hi,np,aga,agW (by omega),List.getD_eq_getElem?_getD,List.getElem?_eq_getElem hi];simp[av]
theorem zK (n:Nat):av (List.replicate n 0)=0:=by
 induction n with
 | zero=>rfl
 | succ n ih=>rw[agf,av,ih]; rfl
def dlq (S:Nat):Nat->List Int
 | 0=>[]
 | n+1=>dlq S n++[((S / 18446744073709551616 ^ n%18446744073709551616:Nat):Int)]
theorem ak (S:Nat):∀ n,(dlq S n).length=n
 | 0=>rfl
 | n+1=>by simp[dlq,ak S n]
theorem gI (S:Nat):∀ n,InWq (dlq S n)
 | 0=>λx hx=>by cases hx
 | n+1=>λx hx=>by
  rcases List.mem_append.1 hx with h | h
  ·exact gI S n x h
  ·simp only[aiw]at h;subst h;omega
theorem pS (S:Nat):∀ n,av (dlq S n)=S%18446744073709551616 ^ n
 | 0=>by simp[dlq,av,ail]
 | n+1=>by rw[dlq,np,ak,pS S n,afI,aim];simp only[av,afz,agS,af3]
theorem uw (S n m:Nat) (h:n<m):(dlq S n++List.replicate (m - n) 0).set n ((S / 18446744073709551616 ^ n%18446744073709551616:Nat):Int)=dlq S (n+1)++List.replicate (m - (n+1)) 0:=by
 rw[ahF _ _ (by rw[ak]; exact afH _),ak,af6];have:m - n=(m - (n+1))+1:=by omega
 rw[this,agf];simp[dlq]
theorem mj {S n:Nat} (h:S<18446744073709551616 ^ n):ae (av (dlq S n))=ae S:=by rw[pS,afF h]
theorem aM {m:List Int} (i:Nat):av (m.take (i+1))=av (m.take i)+18446744073709551616 ^ i*(m.getD i 0).toNat:=by
 by_cases h:i<m.length
 ·exact zL h
 ·rw[dU (by omega),afS (by omega),afS (by omega)]; simp
theorem qy (b:List Int):∀ n,av (b.take (bS b n))=av (b.take n)
 | 0=>rfl
 | n+1=>by
  unfold bS;split
  ·rename_i h;rw[qy b n,aM,h]; simp
  ·rfl
theorem xu {b:List Int} (hb:InWq b):b.take (bS b b.length)=ae (av b):=by have h1:=qy b b.length;rw[agd]at h1;rw[<- h1,AB (hb.take _) (sL b b.length (afH _))]
theorem cH (T A i:Nat):(T+18446744073709551616 ^ i*A) / 18446744073709551616 ^ i=T / 18446744073709551616 ^ i+A:=agr _ _ (agF (by decide))
theorem Gv (m:List Int) (i:Nat):av m=av (m.take i)+18446744073709551616 ^ (m.take i).length*av (m.drop i):=by rw[<- np,aia]
theorem bE (m:List Int) (i:Nat):∃ R,av m=av (m.take i)+18446744073709551616 ^ i*R:=by
 by_cases h:i<=m.length
 ·refine⟨av (m.drop i),?_⟩;have:=Gv m i
  rwa [aga,agW h]at this
 ·exact⟨0,by rw[afS (by omega)]; simp⟩
theorem aR {m:List Int} (h:InWq m) (i:Nat):av (m.take i)<18446744073709551616 ^ i:=by
 have h1:=iN (h.take i);have h2:(m.take i).length<=i:=by simp; omega
 exact afP h1 (afL (by decide) h2)
theorem iT {S T R i:Nat} (h:S=T+18446744073709551616 ^ (i+1)*R):S / 18446744073709551616 ^ i%18446744073709551616=T / 18446744073709551616 ^ i%18446744073709551616:=by rw[h,afI,afG,cH,agN]
theorem IW (i:Nat):0<18446744073709551616 ^ i:=agF (by decide)
theorem CS {P A B x y o R1 R2 D a b:Nat} (hA:A<P) (hB:B<P) (ho:o=if A<B then 1 else 0) (h1:a=A+P*x+P*18446744073709551616*R1) (h2:b=B+P*y+P*18446744073709551616*R2) (hD:(D:Int)=(a:Int) - (b:Int)) :
  ((D / P:Nat):Int)=(x:Int) - (y:Int) - (o:Int)+18446744073709551616*((R1:Int) - (R2:Int)):=by
 have he:∃ e:Nat,e<P/\(e:Int)=(A:Int) - (B:Int)+(P:Int)*(o:Int):=by
  rw[ho];split
  ·exact⟨A+P - B,by omega,by omega⟩
  ·exact⟨A - B,by omega,by omega⟩
 obtain⟨e,he1,he2⟩:=he;refine A1 (e:=e) ?_ he1;have e1:(a:Int)=A+(P:Int)*x+18446744073709551616*((P:Int)*R1):=by rw[h1,afG,afY]; simp
 have e2:(b:Int)=B+(P:Int)*y+18446744073709551616*((P:Int)*R2):=by rw[h2,afG,afY]; simp
 have e3:(P:Int)*((x:Int) - (y:Int) - (o:Int)+18446744073709551616*((R1:Int) - (R2:Int)))=(P:Int)*x - (P:Int)*y - (P:Int)*o+(18446744073709551616*((P:Int)*R1) - 18446744073709551616*((P:Int)*R2)):=by rw[Int.mul_add,ahU,ahU,Int.mul_left_comm,ahU,ahU]
 rw[hD,e1,e2,e3,he2];omega
theorem dc {x y:Nat} (h:x<=y):(ae x).length<=(ae y).length:=by
 induction y using Nat.strongRecOn generalizing x with
 | ind y ih=>
  by_cases hx:x=0
  ·subst hx; rw[bh]; simp
  ·rw[bU hx,bU (by omega:y ≠ 0)];simp only[af8];have:=ih (y / 18446744073709551616) (by omega) (x:=x / 18446744073709551616) (ahM h);omega
theorem sT:∀(w X:Nat),dlq (18446744073709551616 ^ w*X) w=List.replicate w 0:=by
 intro w;have key:∀ n,n<=w -> ∀ X,dlq (18446744073709551616 ^ w*X) n=List.replicate n 0:=by
  intro n;induction n with
  | zero=>intro _ X; rfl
  | succ n ih=>
   intro hn X;rw[dlq,ih (by omega),ag6];have e:18446744073709551616 ^ w*X=18446744073709551616 ^ n*(18446744073709551616*(18446744073709551616 ^ (w - n - 1)*X)):=by rw[<- afG,<- afG,<- afI,<- afO];congr 2; omega
   rw[e,af7 _ (IW n),aiB];rfl
 exact key w (afH _)
theorem fN:∀(j n:Nat),n<18446744073709551616 ^ j->(ae n).length<=j
 | 0,n,h=>by
  have:n=0:=by simp at h; exact h
  subst this; rw[bh]; exact afH _
 | j+1,n,h=>by
  by_cases h0:n=0
  ·subst h0; rw[bh]; simp
  ·rw[bU h0,af8];have:n / 18446744073709551616<18446744073709551616 ^ j:=ahs (by rw[afI]at h; omega);have:=fN j _ this;omega
theorem Gu (V x Bk bk i k:Nat):V%18446744073709551616 ^ (i+k+1)+x*(Bk+18446744073709551616 ^ k*bk)*18446744073709551616 ^ i=(V%18446744073709551616 ^ (i+k)+x*Bk*18446744073709551616 ^ i)+18446744073709551616 ^ (i+k)*(V / 18446744073709551616 ^ (i+k)%18446744073709551616+x*bk):=by rw[Nat.mod_pow_succ,afO];grind
theorem Fm (V x Bk bk i k:Nat):(V%18446744073709551616 ^ (i+k+1)+x*(Bk+18446744073709551616 ^ k*bk)*18446744073709551616 ^ i) / 18446744073709551616 ^ (i+k+1)=((V%18446744073709551616 ^ (i+k)+x*Bk*18446744073709551616 ^ i) / 18446744073709551616 ^ (i+k)+V / 18446744073709551616 ^ (i+k)%18446744073709551616+x*bk) / 18446744073709551616:=by rw[Gu,afI,<- afD,agr _ _ (agF (by decide)),agc]
theorem DQ (V x Bk bk i k R:Nat):(V+x*(Bk+18446744073709551616 ^ k*bk+18446744073709551616 ^ (k+1)*R)*18446744073709551616 ^ i) / 18446744073709551616 ^ (i+k)%18446744073709551616=((V%18446744073709551616 ^ (i+k)+x*Bk*18446744073709551616 ^ i) / 18446744073709551616 ^ (i+k)+V / 18446744073709551616 ^ (i+k)%18446744073709551616+x*bk)%18446744073709551616:=by
 have e:V+x*(Bk+18446744073709551616 ^ k*bk+18446744073709551616 ^ (k+1)*R)*18446744073709551616 ^ i=(V%18446744073709551616 ^ (i+k+1)+x*(Bk+18446744073709551616 ^ k*bk)*18446744073709551616 ^ i)+18446744073709551616 ^ (i+k+1)*(V / 18446744073709551616 ^ (i+k+1)+x*R):=by
  have h:=agp V (18446744073709551616 ^ (i+k+1));have h2:18446744073709551616 ^ (i+k+1)=18446744073709551616 ^ (k+1)*18446744073709551616 ^ i:=by rw[<- afO]; congr 1; omega
  generalize V / 18446744073709551616 ^ (i+k+1)=q at *;generalize V%18446744073709551616 ^ (i+k+1)=r at *;rw[<- h,h2];grind
 rw[iT e,Gu,agr _ _ (agF (by decide)),agc]
theorem KS {V x Bk i k:Nat} (hx:x<18446744073709551616) (hB:Bk<18446744073709551616 ^ k):(V%18446744073709551616 ^ (i+k)+x*Bk*18446744073709551616 ^ i) / 18446744073709551616 ^ (i+k)<18446744073709551616:=by
 rw[afE (agF (by decide))];have h1:V%18446744073709551616 ^ (i+k)<18446744073709551616 ^ (i+k):=afK _ (agF (by decide));have h2:x*Bk<=18446744073709551615*18446744073709551616 ^ k:=agj (by omega) (by omega);have h3:x*Bk*18446744073709551616 ^ i<=18446744073709551615*18446744073709551616 ^ (i+k):=by
  have:=afA (18446744073709551616 ^ i) h2
  rwa [afG 18446744073709551615,<- afO,ahq k i]at this
 omega
theorem sS (S:Nat) {L i:Nat} (h:i<L):(dlq S L).getD i 0=((S / 18446744073709551616 ^ i%18446744073709551616:Nat):Int):=by
 induction L with
 | zero=>omega
 | succ L ih=>
  show((dlq S L)++[_]).getD i 0=_;rw[List.getD_eq_getElem?_getD];by_cases hi:i<L
  ·rw[List.getElem?_append_left (by rw[ak]; exact hi),<- List.getD_eq_getElem?_getD,ih hi]
  ·have:i=L:=by omega
   subst this;rw[List.getElem?_append_right (by rw[ak]; exact afH _),ak,af6]; rfl
theorem pT {b:List Int} {k:Nat}:av (b.take (k+1))=av (b.take k)+18446744073709551616 ^ k*(b.getD k 0).toNat:=aM k
theorem yU (U V L p:Nat) (h:p<L):(dlq U p++(dlq V L).drop p).set p ((U / 18446744073709551616 ^ p%18446744073709551616:Nat):Int)=dlq U (p+1)++(dlq V L).drop (p+1):=by rw[cW (by rw[ak]; exact h),bf _ _ _ _ _ (by rw[ak])];show _=(dlq U p++[_])++_;rw[afN]; rfl
theorem FG (U V L p:Nat) (h:p<L):(dlq U p++(dlq V L).drop p).getD p 0=((V / 18446744073709551616 ^ p%18446744073709551616:Nat):Int):=by rw[cW (by rw[ak]; exact h),b6 (by rw[ak]),sS V h]
theorem yT (U V L p:Nat) (h:p<=L):(dlq U p++(dlq V L).drop p).length=L:=by simp[ak]; omega
theorem HS {U L p:Nat} (hU:U<18446744073709551616 ^ p) (h:p<=L) {V:Nat} (hV:V<18446744073709551616 ^ p):dlq U p++(dlq V L).drop p=dlq U L:=by
 induction L with
 | zero=>
  have:p=0:=by omega
  subst this; rfl
 | succ L ih=>
  by_cases hp:p=L+1
  ·subst hp; rw[agh (by rw[ak]; omega),af5]
  ·have hpL:p<=L:=by omega
   have e:∀ X,X<18446744073709551616 ^ p->dlq X (L+1)=dlq X L++[0]:=by intro X hX;show dlq X L++[((X / 18446744073709551616 ^ L%18446744073709551616:Nat):Int)]=_;rw[af2 (afP hX (afL (by decide) hpL))]; rfl
   rw[e V hV,e U hU,agy (by rw[ak]; exact hpL),<- afN,ih hpL]
theorem tn {a:List Int} (ha:InWq a) (i:Nat):av (a.take i)<18446744073709551616 ^ i:=aR ha i
theorem tk {x y i j:Nat} (hx:x<18446744073709551616 ^ i) (hy:y<18446744073709551616 ^ j):x*y<18446744073709551616 ^ (i+j):=by rw[afO];exact aiJ hx hy
def lw (N:Nat) (l:List Int):Prop:=l.length+3<N/\l.length<=1099511627776
theorem Bn {N:Nat} (b:List Int) (hN:b.length<N) (hs:b.length<9223372036854775807) (k:Kz5):xh N b k=k (bS b b.length):=by
 (unfold xh; rw[ac]; unfold Tw)
 have key:∀ n,n<=b.length -> ∀ M,n<M->ah M (wr N b λn_1=>((decide (0<=n_1/\n_1<=(((List.length b):Nat):Int)))&&(k ((Int.toNat n_1) - 0)))) (n:Int)=k (bS b n):=by
  intro n;induction n with
  | zero=>
   intro _ M hM;cases M with
   | zero=>omega
   | succ M=>
    show wr N b _ ((0:Nat):Int) _=_;simp only[wr,bS];rw[afv (by omega:¬((0:Nat):Int)>0),show(false==true)=false from rfl,afw,afu (by omega),agC];rfl
  | succ n ih=>
   intro hn M hM;cases M with
   | zero=>omega
   | succ M=>
    show wr N b _ ((n+1:Nat):Int) (ah M _)=_;have e:Int.toNat (((n+1:Nat):Int) - 1)=n:=by omega
    have e2:((n+1:Nat):Int) - 1=(n:Int):=by omega
    simp only[wr,e];rw[afu (by omega:((n+1:Nat):Int)>0),show(true==true)=true from rfl,afx,aa afs,aa aft,aa (afu (by omega)),aa afs,e2,ih (by omega) M (by omega),oI];by_cases h0:b.getD n 0=0
    ·have:(b.getD n 0==0)=true:=by simpa using h0
     rw[this,if_pos h0]; rfl
    ·have:(b.getD n 0==0)=false:=by simpa using h0
     rw[this,if_neg h0,afw,afu (by omega),agC];rfl
 exact key b.length (afH _) N hN
theorem kv {N:Nat} (b:List Int) (hb:InWq b) (hN:b.length<N) (hs:b.length<9223372036854775807) (k:Kz8) :
  (xh N b λl=>(decide (0+l<=b.length))&&k (List.take l (List.drop 0 b)))=k (ae (av b)):=by
 rw[Bn b hN hs,agY,xu hb];have:=j7 b b.length;rw[afu (by omega)]; rfl
theorem uC {N:Nat} (hN:1000<=N) (n:Nat) (hn:n<18446744073709551616) (k:Kz8):jY N (n:Int) k=k (ae n):=by
 unfold jY Ae;have hw:InWq [(n:Int)]:=by intro x hx;simp only[agT,ahy,or_false]at hx;subst hx; omega
 have hv:av [(n:Int)]=n:=by simp only[av]; omega
 have:=kv (N:=N) [(n:Int)] hw (by simp; omega) (by simp) k;rw[hv]at this;exact this
theorem xZ {N:Nat} (l:List Int) (h:l.length<=1099511627776) (k:Kz8):rR N l k=k l:=by unfold rR Sf;rw[agk,afu (by omega),agC]
theorem nB (N:Nat) (l:List Int) (i:Nat) (hi:i<9223372036854775807) (k:Kz4):zn N l (i:Int) k=k (l.getD i 0):=by
 unfold zn So;by_cases h:i<l.length
 ·rw[afu (by omega:(i:Int)<((l.length:Nat):Int)),afx,aa aft,afz]
 ·rw[afv (by omega:¬(i:Int)<((l.length:Nat):Int)),afw,dU (by omega)]
theorem nz (N:Nat) {x y c:Int} {a b d:Nat} (hx:x=(a:Int)) (hy:y=(b:Int)) (hz:c=(d:Int)) (hc:d<=1) (k:Ky5):sQ2 N x y c k=k (((a+b+d)%18446744073709551616:Nat):Int) (((a+b+d) / 18446744073709551616:Nat):Int):=by subst hx hy hz;show(decide (Int.toNat (d:Int)<=1)&&_)=_;rw[afz,afu hc]; rfl
theorem xV (N:Nat) {x y c:Int} {a b d:Nat} (hx:x=(a:Int)) (hy:y=(b:Int)) (hz:c=(d:Int)) (hc:d<=1) (k:Ky5):sQ4 N x y c k=k (((a+18446744073709551616 - b - d)%18446744073709551616:Nat):Int) (if a<b+d then 1 else 0):=by
 subst hx hy hz;show(decide (Int.toNat (d:Int)<=1)&&_)=_;rw[afz,afu hc];show k _ (cond (decide (a<b+d)) 1 0)=_;by_cases h:a<b+d
 ·rw[afu h,if_pos h]; rfl
 ·rw[afv h,if_neg h]; rfl
theorem QU (a b:Nat):imm true (a:Int) (b:Int)=((max a b:Nat):Int):=by
 unfold imm; simp only[afx];by_cases h:(b:Int)>a
 ·rw[afu h,afx]; omega
 ·rw[afv h,afw]; omega
theorem O3 {N:Nat} (a b:List Int) (ha:InWq a) (hb:InWq b) (hNa:lw N a) (hNb:lw N b) (k:Kz8):yo N a b k=k (ae (av a+av b)):=by
 (unfold yo; rw[ac]; unfold xy)
 obtain⟨a1,a2⟩:=hNa;obtain⟨b1,b2⟩:=hNb;rw[QU]
 let L:=max a.length b.length
 have hLa:a.length<=L:=Nat.le_max_left _ _;have hLb:b.length<=L:=Nat.le_max_right _ _;have hLN:L+3<N:=by simp only[L]; omega
 have hLs:L<=1099511627776:=by simp only[L]; omega
 show(af .i64 ((L:Int)+1)&&_)=_;have eL:Int.toNat ((L:Int)+1)=L+1:=by omega
 rw[aa afs,aa (bF (by omega) (by omega) (by omega) (by omega)),eL]
 let S:=av a+av b
 let T:=λi=>av (a.take i)+av (b.take i)
 refine aH (λi=>(((T i / 18446744073709551616 ^ i:Nat):Int),(i:Int),dlq S i++List.replicate (L+1 - i) 0)) L (by simp[T,av,dlq]) (by omega) (λi hi K=>?_) (λK=>?_)
 ·have hx:=ha.at (i:=i);have hy:=hb.at (i:=i);have hT:T (i+1)=T i+18446744073709551616 ^ i*((a.getD i 0).toNat+(b.getD i 0).toNat):=by simp only[T,aM,afM]; omega
  have hq:T (i+1) / 18446744073709551616 ^ i=T i / 18446744073709551616 ^ i+((a.getD i 0).toNat+(b.getD i 0).toNat):=by rw[hT,cH]
  have hc:T i / 18446744073709551616 ^ i<=1:=by
   have h1:=aR ha i;have h2:=aR hb i;have h3:T i<18446744073709551616 ^ i*2:=by simp only[T]; omega
   have:=(afE (agF (n:=i) (by decide:0<18446744073709551616))).2 (by rw[afy]; exact h3:T i<2*18446744073709551616 ^ i);omega
  have hdiv:T (i+1) / 18446744073709551616 ^ (i+1)=T (i+1) / 18446744073709551616 ^ i / 18446744073709551616:=by rw[afI,afD]
  have hdig:S / 18446744073709551616 ^ i%18446744073709551616=T (i+1) / 18446744073709551616 ^ i%18446744073709551616:=by obtain⟨R1,h1⟩:=bE a (i+1);obtain⟨R2,h2⟩:=bE b (i+1);refine iT (R:=R1+R2) ?_;simp only[S,T];rw[afM]; omega
  have hset:=uw S i (L+1) (by omega);have hlen:(dlq S i++List.replicate (L+1 - i) 0).length=L+1:=by simp[ak]; omega
  simp only[nv];rw[afu (by omega:(i:Int)<((max a.length b.length:Nat):Int)),afx,nB N a i (by omega),nB N b i (by omega),nz N (a:=(a.getD i 0).toNat) (b:=(b.getD i 0).toNat) (d:=T i / 18446744073709551616 ^ i) (by omega) (by omega) rfl hc,hlen,aa aft,aa (afu (by omega)),aa afs,afz];have e1:(a.getD i 0).toNat+(b.getD i 0).toNat+T i / 18446744073709551616 ^ i=T (i+1) / 18446744073709551616 ^ i:=by rw[hq]; omega
  rw[e1,<- hdig,<- hdiv,hset];rfl
 ·simp only[nv];rw[afv (by omega:¬(L:Int)<((max a.length b.length:Nat):Int)),afw];have hT:T L=S:=by simp only[T,S]; rw[afS hLa,afS hLb]
  have hS:S<18446744073709551616 ^ (L+1):=by have h1:=aR ha L;have h2:=aR hb L;rw[afS hLa]at h1;rw[afS hLb]at h2;rw[afI];simp only[S]; omega
  have hlen:(dlq S L++List.replicate (L+1 - L) 0).length=L+1:=by simp[ak]
  have hcl:S / 18446744073709551616 ^ L<18446744073709551616:=by rw[afE (agF (by decide)),afy,<- afI]; exact hS
  have e2:((T L / 18446744073709551616 ^ L:Nat):Int)=((S / 18446744073709551616 ^ L%18446744073709551616:Nat):Int):=by rw[hT,afF hcl]
  have hset:=uw S L (L+1) (by omega);rw[e2,afz,hset,hlen,aa aft,aa (afu (by omega)),af6,af9,af5,
   kv _ (gI S _) (by rw[ak]; omega) (by rw[ak]; omega),mj hS]
theorem nA {N:Nat} (a b:List Int) (ha:InWq a) (hb:InWq b) (hle:av b<=av a) (hN:lw N a) (k:Kz8):zp N a b k=k (ae (av a - av b)):=by
 obtain⟨hN1,hN2⟩:=hN
 (unfold zp; rw[ac]; unfold Nw)
 rw[aa (bF (by omega) (by omega) (by omega) (by omega)),afz]
 let D:=av a - av b
 let bo:=λi=>if av (a.take i)<av (b.take i)then(1:Nat)else 0
 refine aH (λi=>(((bo i:Nat):Int),(i:Int),dlq D i++List.replicate (a.length - i) 0)) a.length (by simp[bo,av,dlq]) (by omega) (λi hi K=>?_) (λK=>?_)
 ·have hx:=ha.at (i:=i);have hy:=hb.at (i:=i);have hA:=aM (m:=a) i;have hB:=aM (m:=b) i;have hAl:=aR ha i;have hBl:=aR hb i;have hset:=uw D i a.length (by omega);have hl:(dlq D i++List.replicate (a.length - i) 0).length=a.length:=by simp[ak]; omega
  obtain⟨R1,h1⟩:=bE a (i+1);obtain⟨R2,h2⟩:=bE b (i+1);have hD:(D:Int)=(av a:Int) - (av b:Int):=by simp only[D]; omega
  have hPs:18446744073709551616 ^ (i+1)=18446744073709551616 ^ i*18446744073709551616:=afI ..;have hbo:bo i<=1:=by simp only[bo]; split <;> omega
  have hbs:bo (i+1)=if (a.getD i 0).toNat<(b.getD i 0).toNat+bo i then 1 else 0:=by simp only[bo,hA,hB];exact oF _ _ _ _ _ hAl hBl
  have hq:((D / 18446744073709551616 ^ i:Nat):Int)=((a.getD i 0).toNat:Int) - ((b.getD i 0).toNat:Int) - (bo i:Int)+18446744073709551616*((R1:Int) - (R2:Int)):=by rw[hA,hPs]at h1;rw[hB,hPs]at h2;exact CS hAl hBl rfl h1 h2 hD
  have hdig:((D / 18446744073709551616 ^ i%18446744073709551616:Nat):Int)=(((a.getD i 0).toNat:Int) - ((b.getD i 0).toNat:Int) - (bo i:Int))%18446744073709551616:=by rw[Int.natCast_emod,hq];exact Int.add_mul_emod_self_left _ _ _
  simp only[l6];rw[afu (by omega:(i:Int)<a.length),afx,aa aft,nB N b i (by omega),afz,xV N (a:=(a.getD i 0).toNat) (b:=(b.getD i 0).toNat) (d:=bo i) (by omega) (by omega) rfl hbo,hl,aa aft,aa (afu (by omega)),aa afs];have e1:(((((a.getD i 0).toNat+18446744073709551616 - (b.getD i 0).toNat - bo i)%18446744073709551616:Nat)):Int)=((D / 18446744073709551616 ^ i%18446744073709551616:Nat):Int):=by rw[hdig]; omega
  have e2:(if (a.getD i 0).toNat<(b.getD i 0).toNat+bo i then(1:Int)else 0)=((bo (i+1):Nat):Int):=by rw[hbs]; split <;> rfl
  rw[e1,e2,hset];rfl
 ·simp only[l6];rw[afv (by omega:¬(a.length:Int)<a.length),afw,af6,af9,af5];have hS:D<18446744073709551616 ^ a.length:=by have:=iN ha; simp only[D]; omega
  rw[kv _ (gI D _) (by rw[ak]; omega) (by rw[ak]; omega),mj hS]
theorem Cp {N:Nat} (a b:List Int) (ha:InWq a) (hb:InWq b) (hl:a.length=b.length) (hs:a.length<9223372036854775807) (k:Kz4) :
  ∀ n,n<=a.length -> ∀ M,n<M->ah M (wm N a b (λt4=>k t4) (k 0)) ((n:Int) - 1)=k (dz (av (a.take n)) (av (b.take n))):=by
 intro n;induction n with
 | zero=>
  intro _ M hM;cases M with
  | zero=>omega
  | succ M=>
   show wm N a b _ _ ((0:Nat) - 1:Int) _=_;simp[wm,dz,av]
 | succ n ih=>
  intro hn M hM;cases M with
  | zero=>omega
  | succ M=>
   show wm N a b _ _ (((n+1:Nat):Int) - 1) (ah M _)=_;have e:(((n+1:Nat):Int) - 1)=(n:Int):=by omega
   have hx:=ha.at (i:=n);have hy:=hb.at (i:=n);have hA:=aM (m:=a) n;have hB:=aM (m:=b) n;have hAl:=aR ha n;have hBl:=aR hb n;rw[e];simp only[wm,afz];rw[hA,hB,afu (by omega:(n:Int)>=0),afx,aa aft,aa aft,aa aft,aa aft,aa afs,ih (by omega) M (by omega)];by_cases h0:a.getD n 0=b.getD n 0
   ·rw[show(a.getD n 0 != b.getD n 0)=false by simpa using h0,afw,h0,Fq]
   ·rw[show(a.getD n 0 != b.getD n 0)=true by simpa using h0,afx];by_cases h1:a.getD n 0<b.getD n 0
    ·rw[afu h1,afx,N5 hAl (by omega)]
    ·rw[afv h1,afw,N4 hBl (by omega)]
theorem iW {N:Nat} (x y:Nat) (hx:lw N (ae x)) (hy:lw N (ae y)) (k:Kz4):Dx N (ae x) (ae y) k=k (dz x y):=by
 (unfold Dx; rw[ac]; unfold M3)
 obtain⟨x1,x2⟩:=hx;obtain⟨y1,y2⟩:=hy;by_cases h:(ae x).length=(ae y).length
 ·have e:(((ae x).length:Int) != (ae y).length)=false:=by rw[h]; simp
  rw[e,afw,aa afs,Cp (ae x) (ae y) (aX x) (aX y) h (by omega) k _ (afH _) N (by omega),agd,h,agd,aE,aE]
 ·have e:(((ae x).length:Int) != (ae y).length)=true:=by simp; omega
  rw[e,afx];by_cases h1:(ae x).length<(ae y).length
  ·rw[afu (by omega),afx];have:x<y:=by
    rcases agv x y with h2 | h2
    ·exact h2
    ·have:=dc h2; omega
   unfold dz; rw[if_pos this]
  ·rw[afv (by omega),afw];have:¬ x<=y:=λh2=>by have:=dc h2; omega
   unfold dz; rw[if_neg (by omega),if_neg (by omega)]
def ta (z:Int) (k:Ky4):Bool:=k (decide (z<0)) (ae z.natAbs)
theorem pF (n:Nat):decide (((ae n).length:Int)>0)=decide (n ≠ 0):=by
 by_cases h:n=0
 ·subst h; rw[bh]; simp
 ·rw[bU h,af8,afu (by omega),afu h]
theorem GG (g:Bool) (n:Nat) (k:Ky4):k (sg g n) (ae n)=ta (aY g n) k:=by
 unfold ta aY sg;cases g
 ·simp only[agx,af4,ah8,agq];rw[afv (by omega)]
 ·simp only[ag8,agC,ah9,agq];congr 1;by_cases h:n=0
  ·subst h; rfl
  ·rw[afu h,afu (by omega)]
theorem Pp (g:Bool) (n:Nat) (k:Ky4):cond (g==true) (k (decide (((ae n).length:Int)>0)) (ae n)) (k false (ae n))=ta (aY g n) k:=by rw[pF,<- GG];cases g <;> rfl
theorem Iu {N:Nat} (g b:Bool) (n:Nat) (k:Ky4):Eu N g (ae n) b (λcr=>k cr (ae n))=ta (aY g n) k:=Pp g n k
theorem nY {N:Nat} (g b:Bool) (l:List Int) (n:Nat) (k:Ky4):Mr N g (ae n) b l (λcr=>k cr (ae n))=ta (aY g n) k:=Pp g n k
theorem I9 (g1 g2:Bool) (n1 n2:Nat) (k:Ky4) :
  cond (g1==g2) (ta (aY g2 (n1+n2)) k) (cond (decide (dz n1 n2>=0)) (ta (aY g1 (n1 - n2)) k) (ta (aY g2 (n2 - n1)) k))=ta (aY g1 n1+aY g2 n2) k:=by
 rw[ut];have key:∀ a b:Int,a=b->ta a k=ta b k:=λa b h=>by rw[h]
 cases g1 <;> cases g2 <;> simp only[aY] <;> by_cases h:n2<=n1 <;> simp only[h,aiC,aiv,afx,afw,ahf,agx,ag8,af4,(by decide:(false==true)=false),(by decide:(true==false)=false)] <;> refine key _ _ ?_ <;> omega
theorem E_ (n:Nat):aD .and .u64 (n:Int) 4294967295=((n%4294967296:Nat):Int):=by
 have h:=kf n 32 (by decide);have e1:((2 ^ 32 - 1:Nat):Int)=4294967295:=by decide
 have e2:(2:Nat) ^ 32=4294967296:=by decide
 rw[e1,e2]at h;exact h
theorem V1 (p00 p10 p01 p11:Nat):(p11*18446744073709551616+(p10+p01)*4294967296+p00) / 18446744073709551616=p11+(p10+p00 / 4294967296) / 4294967296+((p10+p00 / 4294967296)%4294967296+p01) / 4294967296:=by omega
theorem LY (x y:Nat):x*y=(x / 4294967296)*(y / 4294967296)*18446744073709551616+((x / 4294967296)*(y%4294967296)+(x%4294967296)*(y / 4294967296))*4294967296+(x%4294967296)*(y%4294967296):=by have hx:=agp x 4294967296;have hy:=agp y 4294967296;generalize x / 4294967296=a at *;generalize x%4294967296=b at *;generalize y / 4294967296=c at *;generalize y%4294967296=d at *;subst hx hy;grind
theorem xU (N:Nat) {x y:Nat} (hx:x<18446744073709551616) (hy:y<18446744073709551616) (k:Ky5):GN N (x:Int) (y:Int) k=k ((x*y / 18446744073709551616:Nat):Int) ((x*y%18446744073709551616:Nat):Int):=by
 (unfold GN; rw[ac]; unfold MX)
 have fx:Int.fdiv (x:Int) (2 ^ 32)=((x / 4294967296:Nat):Int):=by rw[kh]; rfl
 have fy:Int.fdiv (y:Int) (2 ^ 32)=((y / 4294967296:Nat):Int):=by rw[kh]; rfl
 rw[E_,E_,fx,fy];have hs:=LY x y;have b0:x / 4294967296<=4294967295:=by omega
 have b1:x%4294967296<=4294967295:=by omega
 have b2:y / 4294967296<=4294967295:=by omega
 have b3:y%4294967296<=4294967295:=by omega
 have m00:=agj b1 b3;have m10:=agj b0 b3;have m01:=agj b1 b2;have m11:=agj b0 b2;have hh:=V1 ((x%4294967296)*(y%4294967296)) ((x / 4294967296)*(y%4294967296)) ((x%4294967296)*(y / 4294967296)) ((x / 4294967296)*(y / 4294967296));rw[<- hs]at hh;rw[<- afR,<- afR,<- afR,<- afR,<- afR];have hlt:x*y<=18446744073709551615*18446744073709551615:=agj (by omega) (by omega);generalize x*y=P at *;generalize (x%4294967296)*(y%4294967296)=p00 at *;generalize (x / 4294967296)*(y%4294967296)=p10 at *;generalize (x%4294967296)*(y / 4294967296)=p01 at *;generalize (x / 4294967296)*(y / 4294967296)=p11 at *;have t1:IntKind.wrap .u64 (IntKind.wrap .u64 (p10:Int)+Int.fdiv (IntKind.wrap .u64 (p00:Int)) (2 ^ 32))=((p10+p00 / 4294967296:Nat):Int):=by simp only[am,kh]; omega
 rw[t1,E_];congr 1
 ·rw[hh];simp only[am,kh];omega
theorem Bm (N:Nat) {x y c d:Int} {a b e f:Nat} (hx:x=(a:Int)) (hy:y=(b:Int)) (hc:c=(e:Int)) (hd:d=(f:Int)) (ha:a<18446744073709551616) (hb:b<18446744073709551616) (he:e<18446744073709551616) (hf:f<18446744073709551616) (k:Ky5) :
  lJ N x y c d k=k (((a*b+e+f) / 18446744073709551616:Nat):Int) (((a*b+e+f)%18446744073709551616:Nat):Int):=by
 subst hx hy hc hd
 (unfold lJ; rw[ac]; unfold vq)
 have hlt:a*b<=18446744073709551615*18446744073709551615:=agj (by omega) (by omega);rw[xU N ha hb];generalize a*b=P at *;rw[nz N (c:=0) (a:=P%18446744073709551616) (b:=e) (d:=0) rfl rfl rfl (by omega),nz N (c:=0) (a:=(P%18446744073709551616+e+0)%18446744073709551616) (b:=f) (d:=0) rfl rfl rfl (by omega)];congr 1
 ·simp only[am]; omega
 ·omega
theorem Il {N:Nat} (a b:List Int) (ha:InWq a) (hb:InWq b) (hN:a.length+b.length+2<N) (hs:a.length+b.length<=1099511627776) (k:Kz8):zM N a b k=k (ae (av a*av b)):=by
  (unfold zM; rw[ac]; unfold TX)
  by_cases a0:a.length=0
  · have:a=[]:=List.length_eq_zero_iff.1 a0
    subst this;show k []=k (ae (0*av b));rw[agV,bh]
  by_cases b0:b.length=0
  · have:b=[]:=List.length_eq_zero_iff.1 b0
    subst this;have e:(((a.length:Nat):Int)==0)=false:=by simp; intro h; subst h; simp at a0
    rw[e,show(false==false)=true from rfl,afx];show k []=k (ae (av a*0));rw[agS,bh]
  have e0:(((a.length:Nat):Int)==0)=false:=by simp; intro h; subst h; simp at a0
  have e1:(((b.length:Nat):Int)==0)=false:=by simp; intro h; subst h; simp at b0
  rw[e0,e1,show(false==false)=true from rfl,afx,afw];have eL:Int.toNat (((a.length:Nat):Int)+((b.length:Nat):Int))=a.length+b.length:=by omega
  rw[aa afs,aa (bF (by omega) (by omega) (by omega) (by omega)),eL]
  let L:=a.length+b.length
  let B:=av b
  have hB:B<18446744073709551616 ^ b.length:=iN hb;refine aH (λi=>((i:Int),dlq (av (a.take i)*B) L)) a.length ?_ (by omega) (λi hi K=>?_) (λK=>?_)
  · show((0:Int),List.replicate L (0:Int))=(((0:Nat):Int),dlq (av (a.take 0)*B) L)
    have:=sT L 0;rw[agS]at this;rw[ahO,show av []=0 from rfl,agV,this]; rfl
  · simp only[kO]
    rw[afu (by omega:(i:Int)<a.length),afx,aa aft,afz];have hx:=ha.at (i:=i)
    let V:=av (a.take i)*B
    let x:=(a.getD i 0).toNat
    let U:=av (a.take (i+1))*B
    have hU:U=V+x*B*18446744073709551616 ^ i:=by simp only[U,V,x];rw[pT];grind
    have hV:V<18446744073709551616 ^ (i+b.length):=tk (tn ha i) hB;have hUl:U<18446744073709551616 ^ (i+1+b.length):=tk (tn ha (i+1)) hB
    let c:=λj=>(V%18446744073709551616 ^ (i+j)+x*av (b.take j)*18446744073709551616 ^ i) / 18446744073709551616 ^ (i+j)
    refine aH (λj=>(((c j:Nat):Int),(j:Int),dlq U (i+j)++(dlq V L).drop (i+j))) b.length ?_ (by omega) (λj hj K'=>?_) (λK'=>?_)
    · show((0:Int),(0:Int),dlq V L)=_
      have h0:c 0=0:=by simp only[c,ahO,show av []=0 from rfl,agS,agV,af3];exact af2 (afK _ (agF (by decide)))
      have hlow:dlq U i=dlq V i:=by
        have:∀ n,n<=i->dlq U n=dlq V n:=by
          intro n;induction n with
          | zero=>intro _; rfl
          | succ n ih=>
            intro hn;show dlq U n++[_]=dlq V n++[_];rw[ih (by omega)];congr 3;have:U=V+18446744073709551616 ^ (n+1)*(x*B*18446744073709551616 ^ (i - (n+1))):=by rw[hU,afY,<- afO,show n+1+(i - (n+1))=i by omega]
            exact iT this
        exact this i (afH _)
      have hsp:dlq V i++(dlq V L).drop i=dlq V L:=by
        have:∀ n,i<=n->dlq V i++(dlq V n).drop i=dlq V n:=by
          intro n;induction n with
          | zero=>intro h; have:i=0:=(by omega); subst this; rfl
          | succ n ih=>
            intro h;by_cases hn:i=n+1
            · subst hn; rw[agh (by rw[ak]; omega),af5]
            · show dlq V i++(dlq V n++[_]).drop i=dlq V n++[_]
              rw[agy (by rw[ak]; omega),<- afN,ih (by omega)]
        exact this L (by simp only[L]; omega)
      rw[h0,af3,hlow,hsp]; rfl
    · have hy:=hb.at (i:=j)
      have hp:i+j<L:=by simp only[L]; omega
      have hlen:=yT U V L (i+j) (by omega);have hget:=FG U V L (i+j) hp;have hset:=yU U V L (i+j) hp;have hc:=KS (V:=V) (x:=x) (i:=i) (k:=j) (Bk:=av (b.take j)) (by simp only[x]; omega) (tn hb j);have hstep:=Fm V x (av (b.take j)) (b.getD j 0).toNat i j;obtain⟨R,hR⟩:=bE b (j+1);have hdig:=DQ V x (av (b.take j)) (b.getD j 0).toNat i j R;rw[<- pT]at hstep hdig;rw[<- hR]at hdig;have hUe:V+x*av b*18446744073709551616 ^ i=U:=hU.symm;rw[hUe]at hdig;have hxy:x*(b.getD j 0).toNat<=18446744073709551615*18446744073709551615:=agj (by simp only[x]; omega) (by omega);have eidx:Int.toNat ((i:Int)+(j:Int))=i+j:=by omega
      have hcj:∀ n,c n=(V%18446744073709551616 ^ (i+n)+x*av (b.take n)*18446744073709551616 ^ i) / 18446744073709551616 ^ (i+n):=λ_=>rfl
      have hax:a.getD i 0=(x:Int):=by simp only[x]; omega
      have hby:b.getD j 0=((b.getD j 0).toNat:Int):=by omega
      have ec1:c (j+1)=(c j+V / 18446744073709551616 ^ (i+j)%18446744073709551616+x*(b.getD j 0).toNat) / 18446744073709551616:=hstep;have ed:U / 18446744073709551616 ^ (i+j)%18446744073709551616=(c j+V / 18446744073709551616 ^ (i+j)%18446744073709551616+x*(b.getD j 0).toNat)%18446744073709551616:=hdig;have hcl:c j<18446744073709551616:=hc;rw[ed]at hset;have vlt:V / 18446744073709551616 ^ (i+j)%18446744073709551616<18446744073709551616:=afK _ (by decide);have hxl:x<18446744073709551616:=by simp only[x]; omega
      have hyl:(b.getD j 0).toNat<18446744073709551616:=by omega
      simp only[kP,afz,eidx,hlen];rw[afu (by omega:(j:Int)<((b.length:Nat):Int)),afx,aa aft,aa afs,aa afs,aa aft,aa (afu (by omega)),Bm N hax hby hget rfl hxl hyl vlt hcl,aa aft,aa (afu (by omega)),aa afs];rw[show i+(j+1)=i+j+1 by omega,<- hset];have ez:x*(b.getD j 0).toNat+V / 18446744073709551616 ^ (i+j)%18446744073709551616+c j=c j+V / 18446744073709551616 ^ (i+j)%18446744073709551616+x*(b.getD j 0).toNat:=by omega
      rw[ez,ec1];rfl
    · simp only[kP]
      rw[afv (by omega:¬(b.length:Int)<b.length),afw];have hlen:=yT U V L (i+b.length) (by simp only[L]; omega);have hset:=yU U V L (i+b.length) (by simp only[L]; omega);have eidx:Int.toNat ((i:Int)+(b.length:Int))=i+b.length:=by omega
      have hLe:i+b.length<L:=by simp only[L]; omega
      have hc:c b.length=U / 18446744073709551616 ^ (i+b.length):=by simp only[c];rw[agd,afF hV,hU]
      have hcl:U / 18446744073709551616 ^ (i+b.length)<18446744073709551616:=by
        rw[afE (agF (by decide))];have:i+1+b.length=i+b.length+1:=by omega
        rw[this,afI]at hUl;omega
      have ew:((c b.length:Nat):Int)=((U / 18446744073709551616 ^ (i+b.length)%18446744073709551616:Nat):Int):=by rw[hc,afF hcl]
      have hfin:=HS (U:=U) (V:=V) (L:=L) (p:=i+b.length+1) (by rw[show i+b.length+1=i+1+b.length by omega]; exact hUl) (by omega) (afP hV (afL (by decide) (by omega)));rw[aa afs,eidx,hlen,aa aft,aa (afu (by omega)),aa afs,ew,hset,hfin];rfl
  · simp only[kO]
    rw[afv (by omega:¬(a.length:Int)<a.length),afw,agd,kv _ (gI _ _) (by rw[ak]; simp only[L]; omega) (by rw[ak]; simp only[L]; omega)];rw[mj (tk (iN ha) hB)]
theorem Er (n:Nat):2 ^ n=18446744073709551616 ^ (n / 64)*2 ^ (n%64):=by
 have e:(18446744073709551616:Nat)=2 ^ 64:=by decide
 rw[e,<- aio,<- afO];congr 1; omega
theorem bb (i:Nat):0<18446744073709551616 ^ i:=agF (by decide)
theorem Lu {N:Nat} (m:List Int) (hm:InWq m) (n:Nat) (hn:n<4294967296) (hN:m.length+n / 64+4<N) (hs:m.length<=1099511627776) (k:Kz8):wh N m n k=k (ae (av m*2 ^ n)):=by
 (unfold wh; rw[ac]; unfold vt)
 by_cases h0:m.length=0
 ·have:m=[]:=List.length_eq_zero_iff.1 h0;subst this;show k []=k (ae (0*2 ^ n));rw[agV,bh]
 ·have e0:((m.length:Int)==0)=false:=by simp; intro h; subst h; simp at h0
  have ew:IntKind.wrap .u64 (Int.tdiv (n:Int) 64)=((n / 64:Nat):Int):=by rw[am,agA (by omega)]; omega
  have es:Int.tmod (n:Int) 64=((n%64:Nat):Int):=by rw[ago (by omega)]; rfl
  rw[e0,afw,ew,es];have hw6:n / 64<67108864:=by omega
  generalize hw:n / 64=w at *;generalize hsh:n%64=s at *;have hs32:s<64:=by omega
  have hp2:2 ^ n=18446744073709551616 ^ w*2 ^ s:=by rw[Er,hw,hsh]
  have hs0:0<2 ^ s:=afJ s;have hs1:2 ^ s*2 ^ (64 - s)=18446744073709551616:=by rw[<- afO,show s+(64 - s)=64 by omega]
  have elen:Int.toNat (((w:Nat):Int)+(m.length:Int)+1)=w+m.length+1:=by omega
  rw[aa afs,aa afs,aa afs,aa (bF (by omega) (by omega) (by omega) (by omega)),elen]
  let V:=av m*2 ^ n
  let X:=av m*2 ^ s
  have hVX:V=18446744073709551616 ^ w*X:=by simp only[V,X]; rw[hp2,afY]
  let T:=λi=>av (m.take i)*2 ^ s
  let c:=λi=>T i / 18446744073709551616 ^ i
  have hcl:∀ i,c i<2 ^ s:=by intro i;simp only[c,T];rw[afE (bb i),afy];exact agG (aR hm i) hs0
  refine aH (λi=>((i:Int),dlq V (w+i)++((c i:Nat):Int)::List.replicate (m.length - i) 0)) m.length ?_ (by omega) (λi hi K=>?_) (λK=>?_)
  ·congr 1;show List.replicate (w+m.length+1) (0:Int)=dlq V w++((c 0:Nat):Int)::List.replicate m.length 0;rw[hVX,sT];have hc0:c 0=0:=by simp[c,T,av]
   rw[hc0];have:w+m.length+1=w+(m.length+1):=by omega
   rw[this,<- aha,agf]; rfl
  ·have hx:=hm.at (i:=i);have hT:T (i+1)=T i+18446744073709551616 ^ i*((m.getD i 0).toNat*2 ^ s):=by simp only[T,aM,af0,afG]
   have hq:T (i+1) / 18446744073709551616 ^ i=c i+(m.getD i 0).toNat*2 ^ s:=by rw[hT,cH]
   have hci:c i<2 ^ s:=hcl i;have hc1:c (i+1)=(c i+(m.getD i 0).toNat*2 ^ s) / 18446744073709551616:=by rw[<- hq]; simp only[c]; rw[afI,afD]
   have hdig:V / 18446744073709551616 ^ (w+i)%18446744073709551616=(c i+(m.getD i 0).toNat*2 ^ s)%18446744073709551616:=by rw[<- hq,hVX,afO,<- afD,af7 _ (bb w)];obtain⟨R,hR⟩:=bE m (i+1);refine iT (R:=R*2 ^ s) ?_;simp only[X,T];rw[hR,af0,afG]
   have hrep:List.replicate (m.length - i) (0:Int)=0::List.replicate (m.length - (i+1)) 0:=by rw[show m.length - i=(m.length - (i+1))+1 by omega,agf]
   have hdl:=ak V (w+i);have ei:Int.toNat ((w:Int)+(i:Int))=w+i:=by omega
   have ei1:Int.toNat ((w:Int)+(i:Int)+1)=w+i+1:=by omega
   have emin:min s 64=s:=by omega
   have e64:min (Int.toNat (IntKind.wrap .u64 (64 - (s:Int)))) 64=64 - s:=by rw[am]; omega
   simp only[eC,afz,ei,ei1,emin,e64];rw[hrep,b6 hdl.symm,bf _ _ _ _ _ hdl.symm];have hmx:m.getD i 0=(((m.getD i 0).toNat:Nat):Int):=by omega
   rw[hmx];generalize hxx:(m.getD i 0).toNat=x at *;have hx32:x<18446744073709551616:=by omega
   have hlow:x*2 ^ s%18446744073709551616=2 ^ s*(x%2 ^ (64 - s)):=by
    have e:x*2 ^ s%(2 ^ s*2 ^ (64 - s))=2 ^ s*(x%2 ^ (64 - s)):=by rw[afy x]; exact ahh _ _ _
    rwa [hs1]at e
   have hsum:2 ^ s*(x%2 ^ (64 - s))+c i<18446744073709551616:=by have h1:x%2 ^ (64 - s)+1<=2 ^ (64 - s):=afK _ (afJ _);have h2:=afC (2 ^ s) h1;rw[hs1,afM]at h2;omega
   have epw:(x:Int)*2 ^ s=((x*2 ^ s:Nat):Int):=by rw[afR,agX]; rfl
   have eor:aD .or .u64 ((c i:Nat):Int) (IntKind.wrap .u64 ((x:Int)*2 ^ s))=((V / 18446744073709551616 ^ (w+i)%18446744073709551616:Nat):Int):=by
    have e1:IntKind.wrap .u64 ((x*2 ^ s:Nat):Int)=((2 ^ s*(x%2 ^ (64 - s)):Nat):Int):=by rw[<- hlow,am]; omega
    rw[epw,e1,cu _ _ s hci hsum,hdig];omega
   have ehi:Int.fdiv (x:Int) (2 ^ (64 - s))=((c (i+1):Nat):Int):=by
    have e2:(2:Int) ^ (64 - s)=((2 ^ (64 - s):Nat):Int):=by rw[agX]; rfl
    rw[e2,kx,hc1];have:(c i+x*2 ^ s) / 18446744073709551616=x / 2 ^ (64 - s):=by rw[<- hs1,<- afD,afy x,agr _ _ hs0,af2 hci,af1]
    rw[this]
   rw[eor,ehi];have hl1:∀(a b:Int) (ys:List Int),(dlq V (w+i)++a::b::ys).length=w+i+2+ys.length:=by intro a b ys; simp[hdl]; omega
   have hset2:(dlq V (w+i)++((V / 18446744073709551616 ^ (w+i)%18446744073709551616:Nat):Int)::0::List.replicate (m.length - (i+1)) 0).set (w+i+1) ((c (i+1):Nat):Int)=dlq V (w+(i+1))++((c (i+1):Nat):Int)::List.replicate (m.length - (i+1)) 0:=by
    have:dlq V (w+i)++((V / 18446744073709551616 ^ (w+i)%18446744073709551616:Nat):Int)::0::List.replicate (m.length - (i+1)) 0=dlq V (w+(i+1))++0::List.replicate (m.length - (i+1)) 0:=by rw[<- agc,dlq]; simp
    rw[this];exact bf _ _ _ _ _ (by rw[ak]; omega)
   rw[hset2,hl1,hl1];simp only[agR];rw[afu (by omega:(i:Int)<((m.length:Nat):Int)),afx,aa aft,aa afs,aa aft,aa (afu (by omega)),aa (afu (by omega)),aa aft,aa (afu (by omega)),aa afs,aa afs,aa (afu (by rw[am]; omega)),aa aft,aa (afu (by omega)),aa afs];rfl
  ·simp only[eC];rw[afv (by omega:¬(m.length:Int)<m.length),afw,af6,af9];have hV:V<18446744073709551616 ^ (w+m.length+1):=by
    have h1:=iN hm;simp only[V];rw[hp2,afI,afO,afY,afG];refine agG ?_ (bb w);have hs2:2 ^ s<=18446744073709551616:=by rw[<- hs1]; exact agt _ (afJ _)
    exact age h1 hs2 (by decide)
   have hT:T m.length=X:=by simp only[T,X]; rw[agd]
   have hend:dlq V (w+m.length)++[((c m.length:Nat):Int)]=dlq V (w+m.length+1):=by
    rw[dlq];have:c m.length=V / 18446744073709551616 ^ (w+m.length)%18446744073709551616:=by
     have hX:V / 18446744073709551616 ^ (w+m.length)=X / 18446744073709551616 ^ m.length:=by rw[hVX,afO,<- afD,af7 _ (bb w)]
     have h2:=hcl m.length;have hs2:2 ^ s<=18446744073709551616:=by rw[<- hs1]; exact agt _ (afJ _)
     rw[hX,<- hT];exact(afF (by show c m.length<_; omega)).symm
    rw[this]
   rw[hend,kv _ (gI V _) (by rw[ak]; omega) (by rw[ak]; omega),mj hV]
theorem nO:∀(i V:Nat),(ae V).getD i 0=((V / 18446744073709551616 ^ i%18446744073709551616:Nat):Int)
 | i,V=>by
  by_cases h:V=0
  ·subst h; rw[bh]; simp
  ·rw[bU h];cases i with
   | zero=>simp
   | succ i=>
    show(ae (V / 18446744073709551616)).getD i 0=_;rw[nO i (V / 18446744073709551616),afI,afy,<- afD]
theorem uy {l:List Int} {n i:Nat} (h:i<n):(l.take n).getD i 0=l.getD i 0:=by rw[List.getD_eq_getElem?_getD,List.getD_eq_getElem?_getD,List.getElem?_take,if_pos h]
theorem AD {m:List Int} (hm:InWq m) (j:Nat):∃ R,av m / 18446744073709551616 ^ j=(m.getD j 0).toNat+18446744073709551616*(m.getD (j+1) 0).toNat+18446744073709551616*18446744073709551616*R:=by
 obtain⟨R,hR⟩:=bE m (j+2);refine⟨R,?_⟩;rw[hR,aM,aM];simp only[afI];have e:av (m.take j)+18446744073709551616 ^ j*(m.getD j 0).toNat+18446744073709551616 ^ j*18446744073709551616*(m.getD (j+1) 0).toNat+18446744073709551616 ^ j*18446744073709551616*18446744073709551616*R
   = av (m.take j)+18446744073709551616 ^ j*((m.getD j 0).toNat+18446744073709551616*(m.getD (j+1) 0).toNat+18446744073709551616*18446744073709551616*R):=by
  rw[afM,afM,afG,afG,afG,afG]; omega
 rw[e,cH,af2 (aR hm j),af1]
theorem DF {x y s:Nat} (hs:s<64) (hx:x<18446744073709551616) (hy:y<18446744073709551616):aD .or .u64 (Int.fdiv (x:Int) (2 ^ s)) (IntKind.wrap .u64 ((y:Int)*2 ^ (64 - s)))=(((x+18446744073709551616*y) / 2 ^ s%18446744073709551616:Nat):Int):=by
 have hs0:0<2 ^ s:=afJ s;have hs1:2 ^ s*2 ^ (64 - s)=18446744073709551616:=by rw[<- afO,show s+(64 - s)=64 by omega]
 have e1:Int.fdiv (x:Int) (2 ^ s)=((x / 2 ^ s:Nat):Int):=by
  have e2:(2:Int) ^ s=((2 ^ s:Nat):Int):=by rw[agX]; rfl
  rw[e2,kx]
 have e3:(y:Int)*2 ^ (64 - s)=((y*2 ^ (64 - s):Nat):Int):=by rw[afR,agX]; rfl
 have hlow:y*2 ^ (64 - s)%18446744073709551616=2 ^ (64 - s)*(y%2 ^ s):=by
  have e:2 ^ (64 - s)*y%(2 ^ (64 - s)*2 ^ s)=2 ^ (64 - s)*(y%2 ^ s):=ahh _ _ _
  rwa [afy (2 ^ (64 - s)) (2 ^ s),hs1,afy (2 ^ (64 - s)) y]at e
 have e4:IntKind.wrap .u64 ((y*2 ^ (64 - s):Nat):Int)=((2 ^ (64 - s)*(y%2 ^ s):Nat):Int):=by rw[<- hlow,am]; omega
 have hxl:x / 2 ^ s<2 ^ (64 - s):=by rw[afE hs0,afy,hs1]; exact hx
 have hsum:2 ^ (64 - s)*(y%2 ^ s)+x / 2 ^ s<18446744073709551616:=by have h1:y%2 ^ s+1<=2 ^ s:=afK _ hs0;have h2:=afC (2 ^ (64 - s)) h1;rw[afy (2 ^ (64 - s)) (2 ^ s),hs1,afM]at h2;omega
 rw[e1,e3,e4,cu _ _ (64 - s) hxl hsum];congr 1;have e5:(x+18446744073709551616*y) / 2 ^ s=x / 2 ^ s+2 ^ (64 - s)*y:=by rw[<- hs1,afG,agr _ _ hs0]
 rw[e5];have e6:y=y%2 ^ s+2 ^ s*(y / 2 ^ s):=(ahG _ _).symm;have e7:2 ^ (64 - s)*y=2 ^ (64 - s)*(y%2 ^ s)+18446744073709551616*(y / 2 ^ s):=by
  conv=>lhs; rw[e6]
  rw[afM,<- afG,afy (2 ^ (64 - s)) (2 ^ s),hs1]
 rw[e7,<- agc,agN,afF (a:=x / 2 ^ s+2 ^ (64 - s)*(y%2 ^ s)) (b:=18446744073709551616) (by rw[ahq]; exact hsum)];exact ahq _ _
theorem Bz:∀ n:Nat,n ≠ 0 -> ∃ t c,n=2 ^ t*(2*c+1):=by
 intro n;induction n using Nat.strongRecOn with
 | ind n ih=>
  intro h0;by_cases h:n%2=0
  ·obtain⟨t,c,hc⟩:=ih (n / 2) (by omega) (by omega);exact⟨t+1,c,by rw[afI,afy (2 ^ t) 2,afG,<- hc]; omega⟩
  ·exact⟨0,n / 2,by rw[ahr,ahw]; omega⟩
theorem u9 {a b:Nat} (ha:a<18446744073709551616) (hb:b<18446744073709551616):aD .and .u64 (a:Int) (b:Int)=((a &&& b:Nat):Int):=by
 unfold aD rH;simp only[agi];have h64:(2:Nat) ^ 64=18446744073709551616:=by decide
 have e:((BitVec.ofInt (IntKind.bits .u64) (a:Int)) &&& (BitVec.ofInt (IntKind.bits .u64) (b:Int))).toNat=a &&& b:=by show((BitVec.ofInt 64 (a:Int)) &&& (BitVec.ofInt 64 (b:Int))).toNat=_;rw[aie,agE,agE,agL,agL,afF (by omega),afF (by omega)]
 have hl:a &&& b<18446744073709551616:=ag4 Nat.and_le_left ha;rw[e,xw _ hl]
theorem Qv {t c:Nat} (h:2 ^ t*(2*c+1)<2 ^ 64):(2 ^ t*(2*c+1)) &&& (2 ^ 64 - 2 ^ t*(2*c+1))=2 ^ t:=by
 have ht0:0<2 ^ t:=afJ t;have ht:t<64:=by
  rcases agv t 64 with h1 | h1
  ·exact h1
  ·have h2:2 ^ 64<=2 ^ t:=afL (by decide) h1;have h3:2 ^ t*1<=2 ^ t*(2*c+1):=afC _ (by omega);omega
 have e1:2 ^ t*(2*c+1)=(2 ^ t*(2*c)+(2 ^ t - 1))+1:=by rw[afM]; omega
 refine ahL λj=>?_
 rw[aiq];have e2:(2 ^ 64 - 2 ^ t*(2*c+1)).testBit j=(decide (j<64) && !(2 ^ t*(2*c)+(2 ^ t - 1)).testBit j):=by
  conv=>lhs; rw[e1]
  exact aij (by rw[e1]at h; omega) j
 rw[e2,Nat.testBit_two_pow_mul,air _ (by omega),ahn];rcases ah6 j t with hj | hj | hj
 ·rw[afv (by omega:¬ j>=t),afv (by omega:¬ t=j)]; rfl
 ·subst hj;rw[if_neg (by omega),af6,afu (afH _),afu ht,afu rfl];have a1:(2*c+1).testBit 0=true:=by rw[aif]; simp
  have a2:(2*c).testBit 0=false:=by rw[aif]; simp
  rw[a1,a2]; rfl
 ·obtain⟨k,hk⟩:∃ k,j - t=k+1:=⟨j - t - 1,by omega⟩
  rw[if_neg (by omega),hk,afu (by omega:j>=t),afv (by omega:¬ t=j),aig,aig];have a1:(2*c+1) / 2=c:=by omega
  have a2:2*c / 2=c:=by omega
  rw[a1,a2];cases c.testBit k <;> simp
theorem WN:∀ t:Fin 64,(inR (Int.fdiv (IntKind.wrap .u64 (((2 ^ t.val:Nat):Int)*285870213051353865)) (2 ^ 58)) 64=true)/\(List.getD zA (Int.toNat (Int.fdiv (IntKind.wrap .u64 (((2 ^ t.val:Nat):Int)*285870213051353865)) (2 ^ 58))) 0=(t.val:Int)):=by decide +kernel
theorem VV (N:Nat) {t c:Nat} (h:2 ^ t*(2*c+1)<18446744073709551616) (k:Kz4):sQ9 N ((2 ^ t*(2*c+1):Nat):Int) k=k (t:Int):=by
 have h64:(2:Nat) ^ 64=18446744073709551616:=by decide
 have ht0:0<2 ^ t:=afJ t;have hx0:0<2 ^ t*(2*c+1):=ahx ht0 (by omega);have ht:t<64:=by
  rcases agv t 64 with h1 | h1
  ·exact h1
  ·have h2:2 ^ 64<=2 ^ t:=afL (by decide) h1;have h3:2 ^ t*1<=2 ^ t*(2*c+1):=afC _ (by omega);omega
 (unfold sQ9; rw[ac]; unfold GQ9)
 have ha:=Qv (t:=t) (c:=c) (by omega);rw[h64]at ha;generalize 2 ^ t*(2*c+1)=x at *;have e0:((x:Int)==0)=false:=by simp; omega
 have ew:IntKind.wrap .u64 (0 - (x:Int))=((18446744073709551616 - x:Nat):Int):=by rw[am]; omega
 obtain⟨t1,t2⟩:=WN ⟨t,ht⟩;rw[e0,afw,ew,u9 h (by omega),ha,aa t1,t2,aa afs]
theorem VX {V w:Nat} (h:V / 18446744073709551616 ^ w ≠ 0):w<(ae V).length:=by
 rcases agv w (ae V).length with h1 | h1
 ·exact h1
 ·exfalso;have h2:=iN (aX V);rw[aE]at h2;exact h (af2 (afP h2 (afL (by decide) h1)))
theorem KQ {B n:Nat} (h:aU B n):(ae n).length<=B / 64+1:=by
 refine fN _ _ ?_;have e:(18446744073709551616:Nat)=2 ^ 64:=by decide
 rw[e,<- aio];exact afP h (afL (by decide) (by omega))
theorem Lm {N:Nat} (g:Bool) (n:Nat) (h:(ae n).length<=1099511627776) (k:Ky4):RV N g (ae n) k=ta (-(aY g n)) k:=by
 (unfold RV; rw[ac]; unfold Tx)
 rw[xZ _ h,nY (!g) g (ae n) n k];congr 1; unfold aY; cases g <;> simp
theorem O0 {N:Nat} (hN:1000<=N) (n:Nat) (hn:n<18446744073709551616) (b:Bool) (k:Ky4):RL N n b k=k false (ae n):=by
 (unfold RL; rw[ac]; unfold Tl)
 rw[uC hN n hn]; rfl
theorem tf {N:Nat} (hN:1000<=N) (n:Nat) (hn:n<9223372036854775808) (k:Ky4):GW N n k=k false (ae n):=by
 (unfold GW Sv; unfold XL; rw[ac]; unfold TD)
 have e:IntKind.wrap .u64 (n:Int)=n:=by rw[am]; omega
 rw[afv (by omega:¬(n:Int)<0),afw,e,uC hN n (by omega)]; rfl
theorem Ll {N:Nat} (s:Nat) (b g:Bool) (n:Nat) (hs:s<4294967296) (hN:(ae n).length+s / 64+4<N) (h:(ae n).length<=1099511627776) (k:Ky4):Wr N s b g (ae n) k=ta (aY g (n*2 ^ s)) k:=by unfold Wr Xc;rw[Lu _ (aX n) s hs hN h,aE,Iu g b _ k]
theorem qB {n:Nat} (h0:n ≠ 0) (h:n<18446744073709551616):ae n=[(n:Int)]:=by rw[bU h0,af2 h,bh,afF h]
theorem u_ (a b:Int):aD .or .u64 a b=aD .or .u64 b a:=by unfold aD rH;simp only[agi];rw[BitVec.or_comm]
end Go.Proofs.YtdinakfmablagaaGreatDoor
