/-
  PURE: laws of the seat's functions, taken over from another seat of mine.
  Conditions: none.
-/
import Derived.Test.YteifemaagdeomaaGreatDoorGp
import Derived.Test.YteifemaagdeomaaGreatDoorBig
set_option linter.unusedVariables false
namespace Go.Proofs.YteifemaagdeomaaGreatDoor
open Go Go.Mach
theorem aa {a c:Bool} (h:a=true):(a&&c)=c:=by rw[h]; rfl
theorem aq (z:Int):IntKind.wrap .u64 z=z%18446744073709551616:=by rfl
theorem dB (z:Int):IntKind.wrap .u32 z=z%4294967296:=by rfl
theorem l8 (z:Int):Int.fdiv z (2 ^ 32)=z / 4294967296:=by rw[ak4 _ (by decide)]; rfl
theorem aH {σ:Type} {step:σ->(σ->Bool)->Bool} {s:σ} (C:Nat->σ) (n:Nat) {N:Nat} (h0:s=C 0) (hn:n<N) {out:Bool} (hs:∀ i,i<n -> ∀ K:σ->Bool,step (C i) K=K (C (i+1))) (hx:∀ K,step (C n) K=out):al N step s=out:=by subst h0; exact aV C n hn hs hx
def bQ (b:List Int):Nat->Nat
 | 0=>0
 | n+1=>if b.getD n 0=0 then bQ b n else n+1
theorem sC (b:List Int) (n:Nat):bQ b (n+1)=if b.getD n 0=0 then bQ b n else n+1:=rfl
theorem lG (b:List Int):∀ n,bQ b n<=n
 | 0=>ajL _
 | n+1=>by unfold bQ; split; exact Nat.le_succ_of_le (lG b n); exact ajL _
theorem e_ {b:List Int} {i:Nat} (h:b.length<=i):b.getD i 0=0:=by rw[List.getD_eq_getElem?_getD,List.getElem?_eq_none h]; rfl
theorem aR {m:List Int} (i:Nat):aG (m.take (i+1))=aG (m.take i)+4294967296 ^ i*(m.getD i 0).toNat:=by
 by_cases h:i<m.length
 ·exact EG h
 ·rw[e_ (by omega),ajV (by omega),ajV (by omega)]; simp
theorem wK (b:List Int):∀ n,aG (b.take (bQ b n))=aG (b.take n)
 | 0=>rfl
 | n+1=>by
  unfold bQ;split
  ·rename_i h;rw[wK b n,aR,h]; simp
  ·rfl
theorem getLast?_take {b:List Int} {n:Nat} (h:n<b.length):(b.take (n+1)).getLast? = some (b.getD n 0):=by rw[akP h,List.getLast?_append,List.getD_eq_getElem?_getD,List.getElem?_eq_getElem h];simp
theorem wJ (b:List Int):∀ n,n<=b.length -> ∀ x,(b.take (bQ b n)).getLast? = some x->x ≠ 0
 | 0,_,x,h=>by simp[bQ]at h
 | n+1,hn,x,h=>by
  unfold bQ at h;split at h
  ·exact wJ b n (by omega) x h
  ·rename_i h0;rw[getLast?_take (by omega)]at h;cases h; exact h0
theorem xR {b:List Int} (hb:InW b):b.take (bQ b b.length)=aj (aG b):=by have h1:=wK b b.length;rw[akd]at h1;rw[<- h1,Bz (hb.take _) (wJ b b.length (ajL _))]
theorem nJ {N:Nat} (b:List Int) (hN:b.length<N) (hs:b.length<9223372036854775807) (k:Kz0):tk N b k=k (bQ b b.length):=by
 (unfold tk; rw[af]; unfold Xd)
 have key:∀ n,n<=b.length -> ∀ M,n<M->al M (Am N 0 b λm=>k m) n=k (bQ b n):=by
  intro n;induction n with
  | zero=>
   intro _ M hM;cases M with
   | zero=>omega
   | succ M=>
    show Am N 0 b _ 0 _=_;simp[Am,bQ]
  | succ n ih=>
   intro hn M hM;cases M with
   | zero=>omega
   | succ M=>
    show Am N 0 b _ (n+1) (al M _)=_;have e:Int.toNat (((n+1:Nat):Int) - 1)=n:=by omega
    simp only[Am,e,aj1,alD];rw[ajx (by omega:((n+1:Nat):Int)>0),aa ajv,aa ajw,aa (ajx (by omega)),aa ajv,aa (ajx (by omega)),ih (by omega) M (by omega)];rw[sC];by_cases h0:b.getD n 0=0
    ·have:(b.getD n 0==0)=true:=by simpa using h0
     rw[this,if_pos h0]; rfl
    ·have:(b.getD n 0==0)=false:=by simpa using h0
     rw[this,if_neg h0]; rfl
 exact key b.length (ajL _) N hN
theorem Ns {N:Nat} (m:List Int) (hm:InW m) (hN:m.length<N) (hs:m.length<9223372036854775807) (k:Kz3):nR N m k=k (aj (aG m)):=by
 (unfold nR; rw[af]; unfold Bp)
 have key:∀ n,n<9223372036854775807 -> ∀(l:List Int),l.length=n->InW l -> ∀ M,n<M->al M (gI N λm_2=>k m_2) l=k (aj (aG l)):=by
  intro n;induction n with
  | zero=>
   intro _ l hl _ M hM;cases M with
   | zero=>omega
   | succ M=>
    have:l=[]:=List.length_eq_zero_iff.1 hl;subst this;show gI N _ [] _=_;simp[gI,aG,ba]
  | succ n ih=>
   intro hn l hl hw M hM;cases M with
   | zero=>omega
   | succ M=>
    show gI N _ l (al M _)=_;have e:Int.toNat ((l.length:Int) - 1)=n:=by omega
    simp only[gI,e,ak2];rw[ajx (by omega:(l.length:Int)>0),aa ajv,aa ajw,aa ajv,aa (ajx (by omega)),ih (by omega) (l.take n) (by simp; omega) (hw.take n) M (by omega)];have e2:=aR (m:=l) n;rw[ajV (by omega)]at e2;by_cases h0:l.getD n 0=0
    ·have:(l.getD n 0==0)=true:=by simpa using h0
     rw[this];rw[h0]at e2;simp at e2;rw[e2]; rfl
    ·have:(l.getD n 0==0)=false:=by simpa using h0
     rw[this,Bz hw (λx hx=>by have:=getLast?_take (b:=l) (n:=n) (by omega);rw[ajV (by omega)]at this;rw[this]at hx; cases hx; exact h0)]
     rfl
 exact key m.length hs m rfl hm N hN
theorem dG {N:Nat} (b:List Int) (hb:InW b) (hN:b.length<N) (hs:b.length<9223372036854775807) (k:Kz3) :
  (tk N b λl=>(decide (0+l<=b.length))&&k (List.take l (List.drop 0 b)))=k (aj (aG b)):=by
 rw[nJ b hN hs,ak2,xR hb];have:=lG b b.length;rw[ajx (by omega)]; rfl
def gl (N:Nat) (l:List Int):Prop:=l.length+2<N/\l.length<=17592186044416
theorem eZ (T A i:Nat):(T+4294967296 ^ i*A) / 4294967296 ^ i=T / 4294967296 ^ i+A:=akt _ _ (akE (by decide))
theorem Mf (m:List Int) (i:Nat):aG m=aG (m.take i)+4294967296 ^ (m.take i).length*aG (m.drop i):=by rw[<- xf,alH]
theorem bZ (m:List Int) (i:Nat):∃ R,aG m=aG (m.take i)+4294967296 ^ i*R:=by
 by_cases h:i<=m.length
 ·refine⟨aG (m.drop i),?_⟩;have:=Mf m i
  rwa [akc,akS h]at this
 ·exact⟨0,by rw[ajV (by omega)]; simp⟩
theorem bt {m:List Int} (h:InW m) (i:Nat):aG (m.take i)<4294967296 ^ i:=by
 have h1:=fX (h.take i);have h2:(m.take i).length<=i:=by simp; omega
 exact ajS h1 (ajO (by decide) h2)
theorem ox {S T R i:Nat} (h:S=T+4294967296 ^ (i+1)*R):S / 4294967296 ^ i%4294967296=T / 4294967296 ^ i%4294967296:=by rw[h,ajK,ajI,eZ,akO]
theorem Gz {N:Nat} (a b:List Int) (ha:InW a) (hb:InW b) (hl:b.length<=a.length) (hN:gl N a) (k:Kz3) :
  al N (ib N a b λcarry out=>(inR (a.length:Nat) out.length)&&((decide ((Int.toNat (a.length:Nat))<out.length)) &&
   (tk N (List.set out (Int.toNat (a.length:Nat)) (IntKind.wrap .u32 carry)) λacZ=>(decide ((0+acZ)<=(List.length (List.set out (Int.toNat (a.length:Nat)) (IntKind.wrap .u32 carry)))))&&k (List.take acZ (List.drop 0 (List.set out (Int.toNat (a.length:Nat)) (IntKind.wrap .u32 carry)))))))
   (0,0,List.replicate (a.length+1) 0)=k (aj (aG a+aG b)):=by
 obtain⟨hN1,hN2⟩:=hN
 let S:=aG a+aG b
 let T:=λi=>aG (a.take i)+aG (b.take i)
 refine aH (λi=>(((T i / 4294967296 ^ i:Nat):Int),(i:Int),dl S i++List.replicate (a.length+1 - i) 0)) a.length (by simp[T,aG,dl]) (by omega) (λi hi K=>?_) (λK=>?_)
 ·have hx:=ha.at (i:=i);have hy:=hb.at (i:=i);have hT:T (i+1)=T i+4294967296 ^ i*((a.getD i 0).toNat+(b.getD i 0).toNat):=by simp only[T,aR,ajP]; omega
  have hq:T (i+1) / 4294967296 ^ i=T i / 4294967296 ^ i+((a.getD i 0).toNat+(b.getD i 0).toNat):=by rw[hT,eZ]
  have hc:T i / 4294967296 ^ i<=1:=by
   have h1:=bt ha i;have h2:=bt hb i;have h3:T i<4294967296 ^ i*2:=by simp only[T]; omega
   have:=(ajH (akE (n:=i) (by decide:0<4294967296))).2 (by rw[ajB]; exact h3:T i<2*4294967296 ^ i);omega
  have hdiv:T (i+1) / 4294967296 ^ (i+1)=T (i+1) / 4294967296 ^ i / 4294967296:=by rw[ajK,ajF]
  have hdig:S / 4294967296 ^ i%4294967296=T (i+1) / 4294967296 ^ i%4294967296:=by obtain⟨R1,h1⟩:=bZ a (i+1);obtain⟨R2,h2⟩:=bZ b (i+1);refine ox (R:=R1+R2) ?_;simp only[S,T];rw[ajP]; omega
  have hset:=DZ S i (a.length+1) (by omega);have hlen:(dl S i++List.replicate (a.length+1 - i) 0).length=a.length+1:=by simp[am]; omega
  generalize hq':T i / 4294967296 ^ i=q at *;generalize hx':a.getD i 0=x at *;generalize hy':b.getD i 0=y at *;simp only[ib,ajD];rw[ajx (by omega:(i:Int)<a.length),ajA,hx',hy',aa ajw,hlen];have hstep:∀ s:Int,s=((q+(x.toNat+y.toNat):Nat):Int)->K ((Int.fdiv s (2 ^ 32)),((i:Int)+1),(List.set (dl S i++List.replicate (a.length+1 - i) 0) i (IntKind.wrap .u32 s)))=K (((T (i+1) / 4294967296 ^ (i+1):Nat):Int),((i+1:Nat):Int),dl S (i+1)++List.replicate (a.length+1 - (i+1)) 0):=by
   intro s hs;have e1:Int.fdiv s (2 ^ 32)=((T (i+1) / 4294967296 ^ (i+1):Nat):Int):=by rw[l8,hdiv,hq,hs]; omega
   have e2:IntKind.wrap .u32 s=((S / 4294967296 ^ i%4294967296:Nat):Int):=by rw[dB,hdig,hq,hs]; omega
   rw[e1,e2,hset]; rfl
  by_cases hib:i<b.length
  ·rw[ajx (by omega:(i:Int)<b.length),ajA,aa ajw,aa ajw,aa (ajx (by omega)),aa ajv];exact hstep _ (by simp only[aq]; omega)
  ·rw[ajy (by omega:¬(i:Int)<b.length),ajz,aa ajw,aa (ajx (by omega)),aa ajv];have hy0:y=0:=by rw[<- hy']; exact e_ (by omega)
   subst hy0;exact hstep _ (by simp only[aq]; omega)
 ·simp only[ib];rw[ajy (by omega:¬(a.length:Int)<a.length),ajz];have hT:T a.length=S:=by simp only[T,S]; rw[akd,ajV hl]
  have hS:S<4294967296 ^ (a.length+1):=by have h1:=fX ha;have h2:=fX hb;have h3:4294967296 ^ b.length<=4294967296 ^ a.length:=ajO (by decide) hl;rw[ajK];simp only[S]; omega
  have hlen:(dl S a.length++List.replicate (a.length+1 - a.length) 0).length=a.length+1:=by simp[am]
  have e2:IntKind.wrap .u32 ((T a.length / 4294967296 ^ a.length:Nat):Int)=((S / 4294967296 ^ a.length%4294967296:Nat):Int):=by rw[dB,hT]; omega
  have hset:=DZ S a.length (a.length+1) (by omega);rw[e2,ajD,hset,hlen,aa ajw,aa (ajx (by omega)),aj8,aka,aj6,
   dG _ (kj S _) (by rw[am]; omega) (by rw[am]; omega),uC hS]
theorem SN {N:Nat} (a b:List Int) (ha:InW a) (hb:InW b) (hNa:gl N a) (hNb:gl N b) (k:Kz3):Ac N a b k=k (aj (aG a+aG b)):=by
 (unfold Ac; rw[af]; unfold zt)
 have h1:=hNa.2;have h2:=hNb.2;by_cases h:a.length<b.length
 ·rw[ajx (by omega:(a.length:Int)<b.length),ajA,aa ajv,aa (bR (by omega) (by omega) (by omega) (by omega))];have e:Int.toNat ((b.length:Int)+1)=b.length+1:=by omega
  rw[e,Gz b a hb ha (by omega) hNb k,alp]
 ·rw[ajy (by omega:¬(a.length:Int)<b.length),ajz,aa ajv,aa (bR (by omega) (by omega) (by omega) (by omega))];have e:Int.toNat ((a.length:Int)+1)=a.length+1:=by omega
  rw[e,Gz a b ha hb (by omega) hNa k]
theorem aW (i:Nat):0<4294967296 ^ i:=akE (by decide)
theorem Ee {D e P:Nat} {z:Int} (h:(D:Int)=(e:Int)+(P:Int)*z) (he:e<P):((D / P:Nat):Int)=z:=by
 have hP:(P:Int) ≠ 0:=by omega
 rw[Int.natCast_ediv,h,Int.add_mul_ediv_left _ _ hP,<- Int.natCast_ediv,aj3 he];simp
theorem sA (P A B x y:Nat) (hA:A<P) (hB:B<P):(if A+P*x<B+P*y then 1 else 0)=if x<y+(if A<B then 1 else 0)then 1 else(0:Nat):=by
 by_cases hxy:x<y
 ·have:P*(x+1)<=P*y:=ajG P hxy;rw[ajP]at this;rw[if_pos (by omega),if_pos (by omega)]
 ·by_cases hyx:y<x
  ·have:P*(y+1)<=P*x:=ajG P hyx;rw[ajP]at this;rw[if_neg (by omega),if_neg (by split <;> omega)]
  ·have:x=y:=by omega
   subst this;by_cases hAB:A<B
   ·rw[if_pos (by omega),if_pos hAB,if_pos (by omega)]
   ·rw[if_neg (by omega),if_neg hAB,if_neg (by omega)]
theorem IR {P A B x y o R1 R2 D a b:Nat} (hA:A<P) (hB:B<P) (ho:o=if A<B then 1 else 0) (h1:a=A+P*x+P*4294967296*R1) (h2:b=B+P*y+P*4294967296*R2) (hD:(D:Int)=(a:Int) - (b:Int)) :
  ((D / P:Nat):Int)=(x:Int) - (y:Int) - (o:Int)+4294967296*((R1:Int) - (R2:Int)):=by
 have he:∃ e:Nat,e<P/\(e:Int)=(A:Int) - (B:Int)+(P:Int)*(o:Int):=by
  rw[ho];split
  ·exact⟨A+P - B,by omega,by omega⟩
  ·exact⟨A - B,by omega,by omega⟩
 obtain⟨e,he1,he2⟩:=he;refine Ee (e:=e) ?_ he1;have e1:(a:Int)=A+(P:Int)*x+4294967296*((P:Int)*R1):=by rw[h1,ajI,ajZ]; simp
 have e2:(b:Int)=B+(P:Int)*y+4294967296*((P:Int)*R2):=by rw[h2,ajI,ajZ]; simp
 have e3:(P:Int)*((x:Int) - (y:Int) - (o:Int)+4294967296*((R1:Int) - (R2:Int)))=(P:Int)*x - (P:Int)*y - (P:Int)*o+(4294967296*((P:Int)*R1) - 4294967296*((P:Int)*R2)):=by rw[Int.mul_add,alX,alX,Int.mul_left_comm,alX,alX]
 rw[hD,e1,e2,e3,he2];omega
theorem BR {N:Nat} (a b:List Int) (ha:InW a) (hb:InW b) (hle:aG b<=aG a) (hN:gl N a) (k:Kz3):J_ N a b k=k (aj (aG a - aG b)):=by
 obtain⟨hN1,hN2⟩:=hN
 (unfold J_; rw[af]; unfold QE)
 rw[aa (bR (by omega) (by omega) (by omega) (by omega)),ajD]
 let D:=aG a - aG b
 let bo:=λi=>if aG (a.take i)<aG (b.take i)then(1:Nat)else 0
 refine aH (λi=>(((bo i:Nat):Int),(i:Int),dl D i++List.replicate (a.length - i) 0)) a.length (by simp[bo,aG,dl]) (by omega) (λi hi K=>?_) (λK=>?_)
 ·have hx:=ha.at (i:=i);have hy:=hb.at (i:=i);have hA:=aR (m:=a) i;have hB:=aR (m:=b) i;have hAl:=bt ha i;have hBl:=bt hb i;have hset:=DZ D i a.length (by omega);have hl:(dl D i++List.replicate (a.length - i) 0).length=a.length:=by simp[am]; omega
  obtain⟨R1,h1⟩:=bZ a (i+1);obtain⟨R2,h2⟩:=bZ b (i+1);have hD:(D:Int)=(aG a:Int) - (aG b:Int):=by simp only[D]; omega
  have hP:=aW i;have hPs:4294967296 ^ (i+1)=4294967296 ^ i*4294967296:=ajK ..;have hbo:bo i<=1:=by simp only[bo]; split <;> omega
  have hbs:bo (i+1)=if (a.getD i 0).toNat<(b.getD i 0).toNat+bo i then 1 else 0:=by simp only[bo,hA,hB];exact sA _ _ _ _ _ hAl hBl
  have hq:((D / 4294967296 ^ i:Nat):Int)=((a.getD i 0).toNat:Int) - ((b.getD i 0).toNat:Int) - (bo i:Int)+4294967296*((R1:Int) - (R2:Int)):=by rw[hA,hPs]at h1;rw[hB,hPs]at h2;exact IR hAl hBl rfl h1 h2 hD
  have hdig:((D / 4294967296 ^ i%4294967296:Nat):Int)=(((a.getD i 0).toNat:Int) - ((b.getD i 0).toNat:Int) - (bo i:Int))%4294967296:=by rw[Int.natCast_emod,hq];exact Int.add_mul_emod_self_left _ _ _
  generalize hx':a.getD i 0=x at *;generalize hy':b.getD i 0=y at *;generalize bo i=o at *;generalize bo (i+1)=o' at *;simp only[mM,ajD];have hy0:¬ i<b.length->y=0:=λh=>by rw[<- hy']; exact e_ (by omega)
  have fin:∀(v w:Int),v=(o':Int)->w%4294967296=((D / 4294967296 ^ i%4294967296:Nat):Int)->K (v,(i:Int)+1,List.set (dl D i++List.replicate (a.length - i) 0) i (IntKind.wrap .u32 w))=K ((o':Int),((i+1:Nat):Int),dl D (i+1)++List.replicate (a.length - (i+1)) 0):=by intro v w hv hw;rw[hv,dB,hw,hset]; rfl
  simp only[hx',hy',hl];rw[ajx (by omega:(i:Int)<a.length),ajA];by_cases hib:i<b.length
  ·rw[ajx (by omega:(i:Int)<b.length),ajA,aa ajw,aa ajw];by_cases hlt:x.toNat<y.toNat+o
   ·rw[ajx (by simp only[aq]; omega),ajA,aa ajw,aa (ajx (by omega)),aa ajv];rw[if_pos hlt]at hbs;exact fin _ _ (by omega) (by rw[hdig]; simp only[aq]; omega)
   ·rw[ajy (by simp only[aq]; omega),ajz,aa ajw,aa (ajx (by omega)),aa ajv];rw[if_neg hlt]at hbs;exact fin _ _ (by omega) (by rw[hdig]; simp only[aq]; omega)
  ·have hy1:=hy0 hib;rw[ajy (by omega:¬(i:Int)<b.length),ajz,aa ajw];by_cases hlt:x.toNat<y.toNat+o
   ·rw[ajx (by simp only[aq]; omega),ajA,aa ajw,aa (ajx (by omega)),aa ajv];rw[if_pos hlt]at hbs;exact fin _ _ (by omega) (by rw[hdig]; simp only[aq]; omega)
   ·rw[ajy (by simp only[aq]; omega),ajz,aa ajw,aa (ajx (by omega)),aa ajv];rw[if_neg hlt]at hbs;exact fin _ _ (by omega) (by rw[hdig]; simp only[aq]; omega)
 ·simp only[mM];rw[ajy (by omega:¬(a.length:Int)<a.length),ajz,aj8,aka,aj6];have hS:D<4294967296 ^ a.length:=by have:=fX ha; simp only[D]; omega
  rw[dG _ (kj D _) (by rw[am]; omega) (by rw[am]; omega),uC hS]
theorem cE (a c s:Nat) (ha:a<2 ^ s) (hlt:2 ^ s*c+a<18446744073709551616):aE .or .u64 (a:Int) ((2 ^ s*c:Nat):Int)=((2 ^ s*c+a:Nat):Int):=by
 unfold aE vI;simp only[akj];have e:((BitVec.ofInt (IntKind.bits .u64) (a:Int)) ||| (BitVec.ofInt (IntKind.bits .u64) ((2 ^ s*c:Nat):Int))).toNat=2 ^ s*c+a:=by
  show((BitVec.ofInt 64 (a:Int)) ||| (BitVec.ofInt 64 ((2 ^ s*c:Nat):Int))).toNat=_;have h64:(2:Nat) ^ 64=18446744073709551616:=by decide
  rw[BitVec.toNat_or,akD,akD,akM,akM,ajJ (by omega),ajJ (by omega),Nat.or_comm,<- ams ha]
 rw[e,Bj _ hlt]
theorem KF (n:Nat) (h:n<4294967296):IntKind.wrap .u32 (n:Int)=n:=by rw[dB]; omega
theorem vJ (a c s:Nat) (ha:a<2 ^ s) (hlt:2 ^ s*c+a<4294967296):aE .or .u32 (a:Int) ((2 ^ s*c:Nat):Int)=((2 ^ s*c+a:Nat):Int):=by
 unfold aE vI;simp only[akj];have e:((BitVec.ofInt (IntKind.bits .u32) (a:Int)) ||| (BitVec.ofInt (IntKind.bits .u32) ((2 ^ s*c:Nat):Int))).toNat=2 ^ s*c+a:=by
  show((BitVec.ofInt 32 (a:Int)) ||| (BitVec.ofInt 32 ((2 ^ s*c:Nat):Int))).toNat=_;have h32:(2:Nat) ^ 32=4294967296:=by decide
  rw[BitVec.toNat_or,akD,akD,akM,akM,ajJ (by omega),ajJ (by omega),Nat.or_comm,<- ams ha]
 rw[e,KF _ hlt]
def d8 (x y:Nat):Int:=if x<y then -1 else if x=y then 0 else 1
theorem RS {P A B x y:Nat} (hA:A<P) (h:x<y):d8 (A+P*x) (B+P*y) = -1:=by have:P*(x+1)<=P*y:=ajG P h;rw[ajP]at this;unfold d8;rw[if_pos (by omega)]
theorem RQ {P A B x y:Nat} (hB:B<P) (h:y<x):d8 (A+P*x) (B+P*y)=1:=by have:P*(y+1)<=P*x:=ajG P h;rw[ajP]at this;unfold d8;rw[if_neg (by omega),if_neg (by omega)]
theorem IC {P A B x:Nat}:d8 (A+P*x) (B+P*x)=d8 A B:=by
 unfold d8;by_cases h3:A<B
 ·rw[if_pos h3,if_pos (by omega)]
 ·by_cases h4:A=B
  ·subst h4; simp
  ·rw[if_neg h3,if_neg h4,if_neg (by omega),if_neg (by omega)]
theorem G_ {N:Nat} (a b:List Int) (ha:InW a) (hb:InW b) (hl:a.length=b.length) (hs:a.length<9223372036854775807) (k:Ky9) :
  ∀ n,n<=a.length -> ∀ M,n<M->al M (Ai N a b (λt4=>k t4) (k 0)) ((n:Int) - 1)=k (d8 (aG (a.take n)) (aG (b.take n))):=by
 intro n;induction n with
 | zero=>
  intro _ M hM;cases M with
  | zero=>omega
  | succ M=>
   show Ai N a b _ _ ((0:Nat) - 1:Int) _=_;simp[Ai,d8,aG]
 | succ n ih=>
  intro hn M hM;cases M with
  | zero=>omega
  | succ M=>
   show Ai N a b _ _ (((n+1:Nat):Int) - 1) (al M _)=_;have e:(((n+1:Nat):Int) - 1)=(n:Int):=by omega
   have hx:=ha.at (i:=n);have hy:=hb.at (i:=n);have hA:=aR (m:=a) n;have hB:=aR (m:=b) n;have hAl:=bt ha n;have hBl:=bt hb n;rw[e];simp only[Ai,ajD];rw[hA,hB,ajx (by omega:(n:Int)>=0),ajA,aa ajw,aa ajw,aa ajw,aa ajw,aa ajv,ih (by omega) M (by omega)];by_cases h1:a.getD n 0<b.getD n 0
   ·rw[ajx h1,ajA,RS hAl (by omega)]
   ·rw[ajy h1,ajz];by_cases h2:a.getD n 0>b.getD n 0
    ·rw[ajx h2,ajA,RQ hBl (by omega)]
    ·rw[ajy h2,ajz];have:a.getD n 0=b.getD n 0:=by omega
     rw[this,IC]
theorem bW {x y:Nat} (h:x<=y):(aj x).length<=(aj y).length:=by
 induction y using Nat.strongRecOn generalizing x with
 | ind y ih=>
  by_cases hx:x=0
  ·subst hx; rw[ba]; simp
  ·rw[cu hx,cu (by omega:y ≠ 0)];simp only[aj9];have:=ih (y / 4294967296) (by omega) (x:=x / 4294967296) (alP h);omega
theorem lM {N:Nat} (x y:Nat) (hx:gl N (aj x)) (hy:gl N (aj y)) (k:Ky9):Da N (aj x) (aj y) k=k (d8 x y):=by
 (unfold Da; rw[af]; unfold Xk)
 obtain⟨x1,x2⟩:=hx;obtain⟨y1,y2⟩:=hy;by_cases h:(aj x).length=(aj y).length
 ·have e:(((aj x).length:Int) != (aj y).length)=false:=by rw[h]; simp
  rw[e,ajz,aa ajv,G_ (aj x) (aj y) (bf x) (bf y) h (by omega) k _ (ajL _) N (by omega),akd,h,akd,aM,aM]
 ·have e:(((aj x).length:Int) != (aj y).length)=true:=by simp; omega
  rw[e,ajA];by_cases h1:(aj x).length<(aj y).length
  ·rw[ajx (by omega),ajA];have:x<y:=by
    rcases akv x y with h2 | h2
    ·exact h2
    ·have:=bW h2; omega
   unfold d8; rw[if_pos this]
  ·rw[ajy (by omega),ajz];have:¬ x<=y:=λh2=>by have:=bW h2; omega
   unfold d8; rw[if_neg (by omega),if_neg (by omega)]
def bl (n:Nat):Nat:=if n=0 then 0 else n.log2+1
theorem ov {n:Nat} (j:Nat) (h:2 ^ j<=n):bl n=j+bl (n / 2 ^ j):=by
 have hp:0<2 ^ j:=ajM j;have h0:n ≠ 0:=by omega
 have h1:n / 2 ^ j ≠ 0:=by have:=alY h hp;omega
 unfold bl;rw[if_neg h0,if_neg h1];have hj:j<=n.log2:=(Nat.le_log2 h0).2 h;have:(n / 2 ^ j).log2=n.log2 - j:=by
  rw[Nat.log2_eq_iff h1];have h2:=Nat.log2_self_le h0;have h3:n<2 ^ (n.log2+1):=Nat.lt_log2_self;constructor
  ·rw[ale hp,<- ajR];rw[show n.log2 - j+j=n.log2 by omega]; exact h2
  ·rw[ajH hp,<- ajR];rw[show n.log2 - j+1+j=n.log2+1 by omega]; exact h3
 omega
theorem Y8:∀ i:Fin 256,aA.getD i.val 0=(bl i.val:Int):=by decide +kernel
theorem T6 {i:Nat} (h:i<256):aA.getD i 0=(bl i:Int):=Y8 ⟨i,h⟩
theorem Is {n:Nat} (h:n<256):bl n<=8:=by
 unfold bl;split
 ·omega
 ·rename_i h0;have:=(Nat.log2_lt h0).2 (by simpa using h:n<2 ^ 8);omega
theorem WV (z:Int):IntKind.wrap .u8 z=z%256:=by rfl
theorem Wr (z:Int):Int.fdiv z (2 ^ 8)=z / 256:=by rw[ak4 _ (by decide)]; rfl
theorem Sc (z:Int):Int.fdiv z (2 ^ 16)=z / 65536:=by rw[ak4 _ (by decide)]; rfl
theorem Gd (N:Nat) (x:Nat) (h:x<4294967296) (k:Ky9):N3 N (x:Int) k=k (bl x:Int):=by
 (unfold N3; rw[af]; unfold QA)
 simp only[Wr,Sc,WV];have key:∀(z:Int) (m:Nat),z=(m:Int)->m<256 -> ∀ c:Nat,c<=32->((inR z 256)&&((ah .i64 (List.getD aA (Int.toNat z) 0))&&((ah .i64 ((c:Int)+(List.getD aA (Int.toNat z) 0)))&&k ((c:Int)+List.getD aA (Int.toNat z) 0))))=k ((c+bl m:Nat):Int):=by intro z m hz hm c hc;subst hz;have:=Is hm;rw[ajD,T6 hm,aa ajw,aa ajv,aa ajv];rfl
 by_cases h16:65536<=x
 ·rw[ajx (by omega:(x:Int)>=65536),ajA];have e16:=ov (n:=x) 16 (by simpa using h16);have p16:(2:Nat) ^ 16=65536:=by decide
  have p8:(2:Nat) ^ 8=256:=by decide
  rw[p16]at e16;by_cases h8:256<=x / 65536
  ·rw[ajx (by omega:(x:Int) / 65536>=256),ajA];have e8:=ov (n:=x / 65536) 8 (by simpa using h8);rw[p8]at e8;have:=key ((x:Int) / 65536 / 256%256) (x / 65536 / 256) (by omega) (by omega) 24 (by omega);rw[show((24:Nat):Int)=24 from rfl]at this;rw[this]; congr 2; omega
  ·rw[ajy (by omega:¬(x:Int) / 65536>=256),ajz];have:=key ((x:Int) / 65536%256) (x / 65536) (by omega) (by omega) 16 (by omega);rw[show((16:Nat):Int)=16 from rfl]at this;rw[this]; congr 2; omega
 ·rw[ajy (by omega:¬(x:Int)>=65536),ajz];by_cases h8:256<=x
  ·rw[ajx (by omega:(x:Int)>=256),ajA];have e8:=ov (n:=x) 8 (by simpa using h8);rw[show(2:Nat) ^ 8=256 by decide]at e8;have:=key ((x:Int) / 256%256) (x / 256) (by omega) (by omega) 8 (by omega);rw[show((8:Nat):Int)=8 from rfl]at this;rw[this]; congr 2; omega
  ·rw[ajy (by omega:¬(x:Int)>=256),ajz];have:=key ((x:Int)%256) x (by omega) (by omega) 0 (by omega);rw[show((0:Nat):Int)=0 from rfl]at this;rw[this]; congr 2; omega
theorem wL:∀ n,n ≠ 0->bl n=32*((aj n).length - 1)+bl ((aj n).getD ((aj n).length - 1) 0).toNat/\0<(aj n).length:=by
  intro n;induction n using Nat.strongRecOn with
  | ind n ih=>
    intro h;rw[cu h];by_cases h1:n / 4294967296=0
    · rw[h1,ba]
      have:n%4294967296=n:=ajJ (by omega);simp[this]
    · obtain⟨i1,i2⟩:=ih (n / 4294967296) (by omega) h1
      have e:=ov (n:=n) 32 (by have:(2:Nat) ^ 32=4294967296:=(by decide); omega);rw[show(2:Nat) ^ 32=4294967296 by decide]at e;refine⟨?_,by simp⟩;have e2:(((n%4294967296:Nat):Int)::aj (n / 4294967296)).getD ((((n%4294967296:Nat):Int)::aj (n / 4294967296)).length - 1) 0=(aj (n / 4294967296)).getD ((aj (n / 4294967296)).length - 1) 0:=by
        simp only[aj9,al1];generalize aj (n / 4294967296)=l at i2 ⊢;cases l with
        | nil=>simp at i2
        | cons y l=>simp
      rw[e2,e,i1];simp only[aj9];omega
theorem En {N:Nat} (g:Bool) (n:Nat) (hs:gl N (aj n)) (k:Ky9):Kg N g (aj n) k=k (bl n:Int):=by
  (unfold Kg; rw[af]; unfold XA)
  obtain⟨s1,s2⟩:=hs;by_cases h:n=0
  · subst h; rw[ba]; rfl
  · obtain⟨e1,e2⟩:=wL n h
    have e0:(((aj n).length:Int)==0)=false:=by simp; intro h'; rw[h']at e2; simp at e2
    have e3:Int.toNat (((aj n).length:Int) - 1)=(aj n).length - 1:=by omega
    have hw:=(bf n).at (i:=(aj n).length - 1);have hb:bl ((aj n).getD ((aj n).length - 1) 0).toNat<=32:=by
      unfold bl; split
      · omega
      · rename_i h0
        have:=(Nat.log2_lt h0).2 (by have:(2:Nat) ^ 32=4294967296:=(by decide); omega:((aj n).getD ((aj n).length - 1) 0).toNat<2 ^ 32);omega
    have e4:(aj n).getD ((aj n).length - 1) 0=((((aj n).getD ((aj n).length - 1) 0).toNat:Nat):Int):=by omega
    rw[e0,ajz,aa ajv,aa ajv,aa ajv,aa ajw,e3,e4,Gd N _ (by omega),aa ajv];congr 1; omega
theorem zJ:∀(w X:Nat),dl (4294967296 ^ w*X) w=List.replicate w 0:=by
 intro w;have key:∀ n,n<=w -> ∀ X,dl (4294967296 ^ w*X) n=List.replicate n 0:=by
  intro n;induction n with
  | zero=>intro _ X; rfl
  | succ n ih=>
   intro hn X;rw[dl,ih (by omega),ak9];have e:4294967296 ^ w*X=4294967296 ^ n*(4294967296*(4294967296 ^ (w - n - 1)*X)):=by rw[<- ajI,<- ajI,<- ajK,<- ajR];congr 2; omega
   rw[e,aj7 _ (aW n),amG];rfl
 exact key w (ajL _)
theorem A4 (n:Nat):2 ^ n=4294967296 ^ (n / 32)*2 ^ (n%32):=by
 have:(4294967296:Nat)=2 ^ 32:=by decide
 rw[this,<- amt,<- ajR];congr 1; omega
theorem be {α:Type} (xs:List α) (y:α) (ys:List α) (z:α) (n:Nat) (h:n=xs.length):(xs++y::ys).set n z=xs++z::ys:=by subst h; rw[alI _ _ (ajL _),aj8]; rfl
theorem bX {xs:List Int} {y:Int} {ys:List Int} {n:Nat} (h:n=xs.length):(xs++y::ys).getD n 0=y:=by subst h; rw[List.getD_eq_getElem?_getD,List.getElem?_append_right (ajL _),aj8]; rfl
theorem SJ {N:Nat} (m:List Int) (hm:InW m) (n:Nat) (hn:n<4294967296) (hN:m.length+n / 32+4<N) (hs:m.length<=1099511627776) (k:Kz3):Ab N m n k=k (aj (aG m*2 ^ n)):=by
 (unfold Ab; rw[af]; unfold zr)
 by_cases h0:m.length=0
 ·have:m=[]:=List.length_eq_zero_iff.1 h0;subst this;simp[aG,ba]
 ·have e0:((m.length:Int)==0)=false:=by simp; intro h; subst h; simp at h0
  have ew:IntKind.wrap .u64 (Int.tdiv (n:Int) 32)=((n / 32:Nat):Int):=by rw[aq,aky (by omega)]; omega
  have es:Int.tmod (n:Int) 32=((n%32:Nat):Int):=by rw[akq (by omega)]; rfl
  rw[e0,ajz,ew,es];generalize hw:n / 32=w at *;generalize hsh:n%32=s at *;have hs32:s<32:=by omega
  have hp2:2 ^ n=4294967296 ^ w*2 ^ s:=by rw[A4,hw,hsh]
  have hs0:0<2 ^ s:=ajM s;have hs1:2 ^ s*2 ^ (32 - s)=4294967296:=by rw[<- ajR,show s+(32 - s)=32 by omega]
  have hs2:2 ^ s<=2147483648:=by have:2 ^ s<=2 ^ 31:=ajO (by decide) (by omega);simpa using this
  have elen:Int.toNat (((w:Nat):Int)+(m.length:Int)+1)=w+m.length+1:=by omega
  rw[aa ajv,aa ajv,aa ajv,aa (bR (by omega) (by omega) (by omega) (by omega)),elen]
  let V:=aG m*2 ^ n
  let X:=aG m*2 ^ s
  have hVX:V=4294967296 ^ w*X:=by simp only[V,X]; rw[hp2,ajZ]
  let T:=λi=>aG (m.take i)*2 ^ s
  let c:=λi=>T i / 4294967296 ^ i
  refine aH (λi=>((i:Int),dl V (w+i)++((c i:Nat):Int)::List.replicate (m.length - i) 0)) m.length ?_ (by omega) (λi hi K=>?_) (λK=>?_)
  ·congr 1;show List.replicate (w+m.length+1) (0:Int)=dl V w++((c 0:Nat):Int)::List.replicate m.length 0;rw[hVX,zJ];have hc0:c 0=0:=by simp[c,T,aG]
   rw[hc0];have:w+m.length+1=w+(m.length+1):=by omega
   rw[this,<- alc,akh]; rfl
  ·have hx:=hm.at (i:=i);have hT:T (i+1)=T i+4294967296 ^ i*((m.getD i 0).toNat*2 ^ s):=by simp only[T,aR,aj2,ajI]
   have hq:T (i+1) / 4294967296 ^ i=c i+(m.getD i 0).toNat*2 ^ s:=by rw[hT,eZ]
   have hci:c i<2 ^ s:=by simp only[c,T];rw[ajH (aW i),ajB];exact akF (bt hm i) hs0
   have hc1:c (i+1)=(c i+(m.getD i 0).toNat*2 ^ s) / 4294967296:=by rw[<- hq]; simp only[c]; rw[ajK,ajF]
   have hdig:V / 4294967296 ^ (w+i)%4294967296=(c i+(m.getD i 0).toNat*2 ^ s)%4294967296:=by rw[<- hq,hVX,ajR,<- ajF,aj7 _ (aW w)];obtain⟨R,hR⟩:=bZ m (i+1);refine ox (R:=R*2 ^ s) ?_;simp only[X,T];rw[hR,aj2,ajI]
   have hrep:List.replicate (m.length - i) (0:Int)=0::List.replicate (m.length - (i+1)) 0:=by rw[show m.length - i=(m.length - (i+1))+1 by omega,akh]
   have hdl:=am V (w+i);have ei:Int.toNat ((w:Int)+(i:Int))=w+i:=by omega
   have ei1:Int.toNat ((w:Int)+(i:Int)+1)=w+i+1:=by omega
   have emin:min s 64=s:=by omega
   simp only[fI,ajD,ei,ei1,emin];rw[hrep,bX hdl.symm,be _ _ _ _ _ hdl.symm];have et:IntKind.wrap .u64 (IntKind.wrap .u64 (m.getD i 0)*2 ^ s)=(((m.getD i 0).toNat*2 ^ s:Nat):Int):=by
    have hxs:(m.getD i 0).toNat*2 ^ s<4294967296*2147483648:=akg (by omega) hs2 (by decide);have e1:IntKind.wrap .u64 (m.getD i 0)=(((m.getD i 0).toNat:Nat):Int):=by rw[aq]; omega
    have e2:(((m.getD i 0).toNat:Nat):Int)*2 ^ s=(((m.getD i 0).toNat*2 ^ s:Nat):Int):=by simp
    rw[e1,e2,aq]; omega
   rw[et];generalize hxx:(m.getD i 0).toNat=x at *;have hx32:x<4294967296:=by omega
   have hlow:x*2 ^ s%4294967296=2 ^ s*(x%2 ^ (32 - s)):=by
    have e:x*2 ^ s%(2 ^ s*2 ^ (32 - s))=2 ^ s*(x%2 ^ (32 - s)):=by rw[ajB x]; exact ak_ _ _ _
    rwa [hs1]at e
   have hsum:2 ^ s*(x%2 ^ (32 - s))+c i<4294967296:=by have h1:x%2 ^ (32 - s)+1<=2 ^ (32 - s):=ajN _ (ajM _);have h2:=ajG (2 ^ s) h1;rw[hs1,ajP]at h2;omega
   have eor:aE .or .u32 ((c i:Nat):Int) (IntKind.wrap .u32 ((x*2 ^ s:Nat):Int))=((V / 4294967296 ^ (w+i)%4294967296:Nat):Int):=by
    have e1:IntKind.wrap .u32 ((x*2 ^ s:Nat):Int)=((2 ^ s*(x%2 ^ (32 - s)):Nat):Int):=by rw[<- hlow,dB]; omega
    rw[e1,vJ _ _ s hci hsum,hdig];omega
   have ehi:IntKind.wrap .u32 (Int.fdiv ((x*2 ^ s:Nat):Int) (2 ^ 32))=((c (i+1):Nat):Int):=by have hxs:x*2 ^ s<4294967296*2147483648:=akg hx32 hs2 (by decide);rw[l8,dB,hc1];omega
   rw[eor,ehi];have hl1:∀(a b:Int) (ys:List Int),(dl V (w+i)++a::b::ys).length=w+i+2+ys.length:=by intro a b ys; simp[hdl]; omega
   have hset2:(dl V (w+i)++((V / 4294967296 ^ (w+i)%4294967296:Nat):Int)::0::List.replicate (m.length - (i+1)) 0).set (w+i+1) ((c (i+1):Nat):Int)=dl V (w+(i+1))++((c (i+1):Nat):Int)::List.replicate (m.length - (i+1)) 0:=by
    have:dl V (w+i)++((V / 4294967296 ^ (w+i)%4294967296:Nat):Int)::0::List.replicate (m.length - (i+1)) 0=dl V (w+(i+1))++0::List.replicate (m.length - (i+1)) 0:=by rw[<- akf,dl]; simp
    rw[this];exact be _ _ _ _ _ (by rw[am]; omega)
   rw[hset2,hl1,hl1];simp only[akV];rw[ajx (by omega:(i:Int)<m.length),ajA,aa ajw,aa (ajx (by omega)),aa ajv,aa ajw,aa (ajx (by omega)),aa ajw,aa (ajx (by omega)),
    aa ajv,aa ajv,aa ajw,aa (ajx (by omega)),aa ajv]
   rfl
  ·simp only[fI];rw[ajy (by omega:¬(m.length:Int)<m.length),ajz,aj8,aka];have hV:V<4294967296 ^ (w+m.length+1):=by have h1:=fX hm;simp only[V];rw[hp2,ajK,ajR,ajZ,ajI];refine akF ?_ (aW w);exact akg h1 (by omega) (by decide)
   have hT:T m.length=X:=by simp only[T,X]; rw[akd]
   have hend:dl V (w+m.length)++[((c m.length:Nat):Int)]=dl V (w+m.length+1):=by
    rw[dl];have:c m.length=V / 4294967296 ^ (w+m.length)%4294967296:=by simp only[c];rw[hT,hVX,ajR,<- ajF,aj7 _ (aW w)];rw[ajJ];rw[ajH (aW _),ajB];have h1:=fX hm;simp only[X];exact akg h1 (by omega) (by decide)
    rw[this]
   rw[hend,dG _ (kj V _) (by rw[am]; omega) (by rw[am]; omega),uC hV]
theorem F3 {m:List Int} (hm:InW m) (j:Nat):∃ R,aG m / 4294967296 ^ j=(m.getD j 0).toNat+4294967296*(m.getD (j+1) 0).toNat+4294967296*4294967296*R:=by
 obtain⟨R,hR⟩:=bZ m (j+2);refine⟨R,?_⟩;rw[hR,aR,aR];simp only[ajK];have e:aG (m.take j)+4294967296 ^ j*(m.getD j 0).toNat+4294967296 ^ j*4294967296*(m.getD (j+1) 0).toNat+4294967296 ^ j*4294967296*4294967296*R
   = aG (m.take j)+4294967296 ^ j*((m.getD j 0).toNat+4294967296*(m.getD (j+1) 0).toNat+4294967296*4294967296*R):=by
  rw[ajP,ajP,ajI,ajI,ajI,ajI]; omega
 rw[e,eZ,aj3 (bt hm j),aj1]
theorem yw {N:Nat} (n:Nat) (hn:n<18446744073709551616) (hN:4<N) (k:Kz3):GG N n k=k (aj n):=by
 (unfold GG; rw[af]; unfold QM)
 have hw:InW [IntKind.wrap .u32 (n:Int),IntKind.wrap .u32 (Int.fdiv (n:Int) (2 ^ 32))]:=by intro x hx;simp only[dB,l8,akY,alx,or_false]at hx;rcases hx with rfl | rfl <;> omega
 have hv:aG [IntKind.wrap .u32 (n:Int),IntKind.wrap .u32 (Int.fdiv (n:Int) (2 ^ 32))]=n:=by simp only[aG,dB,l8]; omega
 rw[dG _ hw (by simp; omega) (by simp),hv]
def sg (neg:Bool) (n:Nat):Bool:=neg&&decide (n ≠ 0)
theorem qh (n:Nat):decide (((aj n).length:Int)>0)=decide (n ≠ 0):=by
 by_cases h:n=0
 ·subst h; rw[ba]; simp
 ·obtain⟨-,h2⟩:=wL n h;rw[ajx (by omega),ajx h]
theorem WE (neg:Bool) (n:Nat) (k:Ky2):cond (neg==true) (k (decide (((aj n).length:Int)>0)) (aj n)) (k false (aj n))=k (sg neg n) (aj n):=by rw[qh];cases neg <;> rfl
theorem qV {N:Nat} (neg:Bool) (m:List Int) (b:Bool) (hm:InW m) (hN:gl N m) (k:Ky2):CN N neg m b k=k (sg neg (aG m)) (aj (aG m)):=by unfold CN VY;rw[Ns m hm (by have:=hN.1; omega) (by have:=hN.2; omega)];exact WE neg _ k
theorem zi {N:Nat} (n:Nat) (hn:n<18446744073709551616) (b:Bool) (hN:gl N (aj n)) (h4:4<N) (k:Ky2):NZ N n b k=k false (aj n):=by
 (unfold NZ; rw[af]; unfold Qe)
 rw[yw n hn h4,qV false _ b (bf n) hN,aM];rfl
def aZ (g:Bool) (n:Nat):Int:=if g=true then -(n:Int)else n
def yR (z:Int) (k:Ky2):Bool:=k (decide (z<0)) (aj z.natAbs)
theorem yB (g:Bool) (n:Nat) (k:Ky2):k (sg g n) (aj n)=yR (aZ g n) k:=by
 unfold yR aZ sg;cases g
 ·simp only[akL,aj5,alR,ake];rw[ajy (by omega)]
 ·simp only[ak6,akA,alA,ake];congr 1;by_cases h:n=0
  ·subst h; rfl
  ·rw[ajx h,ajx (by omega)]
theorem Ss (z:Int):aZ (decide (z<0)) z.natAbs=z:=by
 unfold aZ;by_cases h:z<0
 ·rw[ajx h]; simp; omega
 ·rw[ajy h]; simp; omega
theorem yd {x y:Nat}:decide (d8 x y>=0)=decide (y<=x):=by
 unfold d8;split
 ·rw[ajy (by omega),ajy (by omega)]
 ·split
  ·rw[ajx (by omega),ajx (by omega)]
  ·rw[ajx (by omega),ajx (by omega)]
theorem PV (g1 g2 turn:Bool) (n1 n2:Nat) (k:Ky2) :
  cond (g1==(g2 != turn)) (k (sg (g2 != turn) (n1+n2)) (aj (n1+n2))) (cond (decide (d8 n1 n2>=0)) (k (sg g1 (n1 - n2)) (aj (n1 - n2))) (k (sg (g2 != turn) (n2 - n1)) (aj (n2 - n1))))
   = yR (aZ g1 n1+(if turn=true then -(aZ g2 n2)else aZ g2 n2)) k:=by
 rw[yB _ _ k,yB _ _ k,yB _ _ k,yd];have key:∀ a b:Int,a=b->yR a k=yR b k:=λa b h=>by rw[h]
 cases g1 <;> cases g2 <;> cases turn <;> simp only[aZ] <;> by_cases h:n2<=n1 <;> simp only[h,aml,amA,ajA,ajz,bne,alg,akp,aj_,akL,ak6,aj5,(by decide:(false==true)=false),(by decide:(true==false)=false)] <;> refine key _ _ ?_ <;> omega
theorem Pu {N:Nat} (turn b g1:Bool) (n1:Nat) (g2:Bool) (n2:Nat) (h1:gl N (aj n1)) (h2:gl N (aj n2)) (h3:gl N (aj (n1+n2))) (k:Ky2) :
  Tt N turn b g1 (aj n1) g2 (aj n2) k=yR (aZ g1 n1+(if turn=true then -(aZ g2 n2)else aZ g2 n2)) k:=by
 (unfold Tt; rw[af]; unfold Qo)
 have hs:∀ m,m<=n1+n2->gl N (aj m):=λm hm=>by have:=bW hm;exact⟨by have:=h3.1; omega,by have:=h3.2; omega⟩
 rw[SN _ _ (bf _) (bf _) h1 h2,lM _ _ h1 h2,aM,aM,qV _ _ _ (bf _) h3,aM,<- PV];congr 1;by_cases h:n2<=n1
 ·rw[BR _ _ (bf _) (bf _) (by rw[aM,aM]; exact h) h1,aM,aM,qV _ _ _ (bf _) (hs _ (by omega)),aM,yd,ajx h];rfl
 ·rw[BR _ _ (bf n2) (bf n1) (by rw[aM,aM]; omega) h2,aM,aM,qV _ _ _ (bf _) (hs _ (by omega)),aM,yd,ajy h];rfl
theorem O_ {N:Nat} (b g1:Bool) (n1:Nat) (g2:Bool) (n2:Nat) (h1:gl N (aj n1)) (h2:gl N (aj n2)) (h3:gl N (aj (n1+n2))) (k:Ky2) :
  Tx N b g1 (aj n1) g2 (aj n2) k=yR (aZ g1 n1 - aZ g2 n2) k:=by
 unfold Tx VW;rw[Pu true b g1 n1 g2 n2 h1 h2 h3]; rfl
def aaC (N m s:Nat):Prop:=(aj m).length+s / 32+4<N/\(aj m).length<=1099511627776/\s<4294967296/\gl N (aj (m*2 ^ s))
theorem Ge {N:Nat} (s:Nat) (b g:Bool) (n:Nat) (h:aaC N n s) (k:Ky2):N1 N s b g (aj n) k=yR (aZ g (n*2 ^ s)) k:=by
 (unfold N1; rw[af]; unfold Qw)
 rw[SJ _ (bf n) s h.2.2.1 h.1 h.2.1,aM,qV _ _ _ (bf _) h.2.2.2,aM,yB _ _ k]
theorem Er {N:Nat} (n:Nat) (hn:n<9223372036854775808) (hs:gl N (aj n)) (h4:4<N) (k:Ky2):qF N n k=k false (aj n):=by
 (unfold qF At; unfold aax; rw[af]; unfold QX Up)
 have e:IntKind.wrap .u64 (n:Int)=n:=by rw[aq]; omega
 rw[ajy (by omega:¬(n:Int)<0),ajz,e,yw n (by omega) h4,qV _ _ _ (bf _) hs,aM];rfl
theorem R6:aj 1=[1]:=by rw[cu (by decide),ba]; rfl
theorem mp (a b:Nat):Int.fdiv (a:Int) (b:Int)=((a / b:Nat):Int):=by rw[ak4 _ (by omega)]; rfl
theorem vM (N:Nat) (k:Ky9):BZ N 52 2047 1075 k=k 9223372036854775808:=by rfl
theorem pY (N:Nat) (k:Ky9):tn N 52 2047 1075 k=k 9218868437227405312:=by rfl
theorem mm (N:Nat) (k:Ky9):lO N 52 2047 1075 k=k 4503599627370496:=by rfl
theorem C5 (N:Nat) (k:Ky9):BX N 52 2047 1075 k=k 9221120237041090561:=by
 (unfold BX; rw[af]; unfold Bo)
 simp only[pY,mm];exact amI k (by decide)
theorem U5 (N:Nat) (b:Nat) (k:Ky8):Tz N b 52 2047 1075 k=k (isNaN b):=by
 (unfold Tz; rw[af]; unfold Qx)
 simp only[vM,pY,tC];congr 1;rw[ak0,akZ,gb];omega
def cnb (b:Nat):Nat:=if isNaN b then 9221120237041090561 else b
theorem Gi (N:Nat) (b:Nat) (k:Ky9):J0 N b 52 2047 1075 k=k (cnb b):=by unfold J0 VO;simp only[U5,C5,cnb];cases isNaN b <;> rfl
theorem Gm (N:Nat) (b:Nat) (k:Kx7):TQ N b 52 2047 1075 k=k (aE .and .u64 (cnb b) 9223372036854775808 != 0) ((cnb b / 4503599627370496%2048:Nat):Int) ((cnb b%4503599627370496:Nat):Int):=by
 (unfold TQ; rw[af]; unfold Xz)
 simp only[Gi,vM,mm];have e1:(2:Int) ^ (min (Int.toNat 52) 64)=((4503599627370496:Nat):Int):=by decide
 have e2:IntKind.wrap .u64 2047=((2 ^ 11 - 1:Nat):Int):=by decide
 have e3:IntKind.wrap .u64 (4503599627370496 - 1)=((2 ^ 52 - 1:Nat):Int):=by decide
 have e4:decide ((0:Int)<=52)=true:=by decide
 rw[e1,mp,e2,e3,l7 _ _ (by decide),l7 _ _ (by decide),e4,ac (by omega) (by omega)];rfl
theorem G8 (b:Nat):cls b=if (cnb b / 4503599627370496%2048)=2047 then(if cnb b%4503599627370496=0 then 2 else 1)else if cnb b / 4503599627370496%2048=0 then(if cnb b%4503599627370496=0 then 3 else 4)else 5:=by
 unfold cls cnb;by_cases h:isNaN b=true
 ·rw[if_pos h,if_pos h]; decide
 ·rw[if_neg h,if_neg h];have hn:¬(9218868437227405312<b%9223372036854775808):=λq=>h ((gb b).2 q)
  by_cases h1:b / 4503599627370496%2048=2047
  ·rw[if_pos h1,if_pos h1,if_pos (by omega)]
  ·rw[if_neg h1,if_neg h1]
theorem Gj (N:Nat) (b:Nat) (k:Ky9):TP N b 52 2047 1075 k=k (cls b):=by
 (unfold TP; rw[af]; unfold Xy)
 simp only[Gm,G8 b];generalize cnb b / 4503599627370496%2048=e;generalize cnb b%4503599627370496=f;have d1:((e:Int)==2047)=decide (e=2047):=by rw[ak0,al8,akZ]; omega
 have d2:((e:Int)==0)=decide (e=0):=by rw[ak0,al8,akZ]; omega
 have d3:((f:Int)==0)=decide (f=0):=by rw[ak0,al8,akZ]; omega
 simp only[bne,d1,d2,d3];by_cases h1:e=2047 <;> by_cases h2:e=0 <;> by_cases h3:f=0 <;> simp[h1,h2,h3]
theorem O0 (N:Nat) (b:Nat) (k:Ky9):Mv N b k=k (cls b):=by unfold Mv Zg;simp only[HK,yD,GU,Gj]
theorem RU (a b:Nat) (_ha:a<18446744073709551616\/True):decide ((cnb a:Int)=cnb b)=decide (cn (some a)=cn (some b)):=by
 have hq:isNaN 9221120237041090561=true:=by decide
 rw[ak0,akZ,akZ];have cf:∀ c,cn (some c)=if isNaN c=true then none else some c:=λ_=>rfl
 rw[cf,cf];unfold cnb;by_cases h1:isNaN a=true <;> by_cases h2:isNaN b=true
 ·simp[h1,h2]
 ·rw[if_pos h1,if_neg h2,if_pos h1,if_neg h2];refine⟨λh=>?_,λh=>by cases h⟩;have:b=9221120237041090561:=by omega
  rw[this]at h2; exact absurd hq h2
 ·rw[if_neg h1,if_pos h2,if_neg h1,if_pos h2];refine⟨λh=>?_,λh=>by cases h⟩;have:a=9221120237041090561:=by omega
  rw[this]at h1; exact absurd hq h1
 ·simp only[h1,h2,aj5,ajY,akL]; omega
theorem UZ (N:Nat) (b:Nat) (k:Kz1):EU N b k=k (Fr (some b)):=by unfold EU VN;simp only[HK,EW,tC];rfl
theorem RW (b:Bool) (k:Ky8):cond b (k true) (k false)=k b:=by cases b <;> rfl
theorem iZ {a c:Bool} (h:a=true):(a&&c)=c:=by rw[h]; rfl
def vH (N n:Nat):Prop:=n<N/\n<=17592186044416
def nM (l:List Int):List Fl:=l.map λn=>ik n.toNat
theorem Jk {N:Nat} (l:List Int) (hl:vH N l.length) (k:Kz2):vt N l k=k (nM l):=by
 (unfold vt; rw[af]; unfold zu)
 refine(aV (λi=>((i:Int),(l.take i).map λn=>ik n.toNat)) l.length hl.1 (λi hi K=>?_) (λK=>?_):_)
 ·have h2:=hl.2;have e1:(l.take (i+1)).map (λn=>ik n.toNat)=(l.take i).map (λn=>ik n.toNat)++[ik (l.getD i 0).toNat]:=by rw[akP hi,alv,List.getD_eq_getElem?_getD,List.getElem?_eq_getElem hi]; rfl
  simp only[oq,EW,ajD];rw[AA (by omega),ajA,iZ ajw,iZ (AA (by simp; omega)),iZ ajv,e1];rfl
 ·simp only[oq];rw[Bx (by omega),ajz,akd]; rfl
def aX (xs:List Fl):Bool:=Bw (λi=>aL (xs.getD i none)) xs.length
theorem rB {N:Nat} (xs:List Fl) (hl:vH N xs.length) (k:Ky8):vQ N xs k=k (aX xs):=by
 (unfold vQ; rw[af]; unfold P8)
 rw[<- RW (aX xs) k];refine(qR (λi=>(i:Int)) (λi=>aL (xs.getD i none)) xs.length hl.1 (λi hi K=>?_) (λK=>?_):_)
 ·have h2:=hl.2;simp only[mH,JZ,ajD];rw[AA (by omega),ajA,iZ ajw,iZ ajv];have hc:=IB (xs.getD i none);generalize DP (xs.getD i none)=c at hc ⊢;generalize aL (xs.getD i none)=f at hc ⊢;have d1:(c==1)=decide (c=1):=rfl;have d2:(c==2)=decide (c=2):=rfl;rw[d1,d2];generalize decide (c=1)=u at *;generalize decide (c=2)=v at *;cases u <;> cases v <;> cases f <;> first | rfl | cases hc
 ·simp only[mH];rw[Bx (by omega),ajz]
def pQ:Fl->Nat
 | none=>9221120237041090561
 | some b=>cnb b
theorem Mo (d:Ieee.Datum) (h:d.isNaN=false):d.order d=some .eq:=by
 cases d with
 | nan s t=>cases h
 | infinity s=>simp[Ieee.Datum.order,compare,compareOfLessAndEq]
 | number s m i=>simp[Ieee.Datum.order,compare,compareOfLessAndEq]
theorem OM (b:Nat) (h:isNaN b=false):(Ieee.double.order b b==some .eq)=true:=by unfold Ieee.Format.order;rw[Mo _ h]; rfl
theorem Se (b:Nat):feq (some b) (some b) = !isNaN b:=by
 cases h:isNaN b with
 | true=>simp[feq,yK,rH b h]
 | false=>simp only[feq,yK,aj_]; exact OM b h
theorem Jf (N:Nat) (x:Fl) (k:Ky9):rN N x k=k (pQ x):=by
 unfold rN Du A8;cases x with
 | none=>rfl
 | some b=>
  rw[Se];simp only[pQ,cnb];cases isNaN b <;> rfl
theorem JI (a b:Nat):Int.tmod (a:Int) (b:Int)=((a%b:Nat):Int):=by rw[akq (by omega)]; rfl
theorem Gg (N:Nat) (x:Fl) (k:Kx7):oX N x k=k (Int.fdiv (pQ x:Int) (2 ^ 63)==1) ((pQ x / 4503599627370496%2048:Nat):Int) ((pQ x%4503599627370496:Nat):Int):=by
 (unfold oX; rw[af]; unfold wn)
 simp only[Jf];have e1:(2:Int) ^ 52=((4503599627370496:Nat):Int):=by decide
 have e2:(2048:Int)=((2048:Nat):Int):=rfl;have e3:(4503599627370496:Int)=((4503599627370496:Nat):Int):=rfl;rw[e1,e2,e3,mp,JI,JI,ac (by omega) (by omega)];rfl
theorem OG (x:Fl):DP x=if (pQ x / 4503599627370496%2048)=2047 then(if pQ x%4503599627370496=0 then 2 else 1)else if pQ x / 4503599627370496%2048=0 then(if pQ x%4503599627370496=0 then 3 else 4)else 5:=by
 cases x with
 | none=>decide
 | some b=>exact G8 b
theorem FG (N:Nat) (x:Fl) (k:Ky9):xz N x k=k (DP x):=by
 (unfold xz Ca; unfold WS; rw[af]; unfold QR)
 simp only[Gg,OG x];generalize pQ x / 4503599627370496%2048=e;generalize pQ x%4503599627370496=f;have d1:((e:Int)==2047)=decide (e=2047):=by rw[ak0,al8,akZ]; omega
 have d2:((e:Int)==0)=decide (e=0):=by rw[ak0,al8,akZ]; omega
 have d3:((f:Int)==0)=decide (f=0):=by rw[ak0,al8,akZ]; omega
 simp only[bne,d1,d2,d3];by_cases h1:e=2047 <;> by_cases h2:e=0 <;> by_cases h3:f=0 <;> simp[h1,h2,h3]
theorem rD (N:Nat) (x:Fl) (k:Ky8):ko N x k=k (aL x):=by
 unfold ko Zf;simp only[FG];congr 1;have h1:=IB x;have h2:=UI x;rw[ak0,akZ];cases hf:aL x with
 | true=>
  rw[hf]at h1;simp only[akp,Bool.or_eq_false_iff,al2]at h1;exact⟨λ_=>rfl,λ_=>by omega⟩
 | false=>
  rw[hf]at h1;simp only[aj_,amq,al9]at h1;exact⟨λ_=>by omega,λh=>by cases h⟩
theorem zg {N:Nat} (xs:List Fl) (hl:vH N xs.length) (k:Ky8):NX N xs k=k (aX xs):=by
 (unfold NX; rw[af]; unfold P9)
 rw[<- RW (aX xs) k];refine(qR (λi=>(i:Int)) (λi=>aL (xs.getD i none)) xs.length hl.1 (λi hi K=>?_) (λK=>?_):_)
 ·have h2:=hl.2;simp only[gJ,ajD,rD];rw[AA (by omega),ajA,iZ ajw,iZ ajv];cases aL (xs.getD i none) <;> rfl
 ·simp only[gJ];rw[Bx (by omega),ajz]
theorem RK (x y:Fl):((pQ x:Int)==pQ y)=decide (cn x=cn y):=by
 have hq:cn (some 9221120237041090561)=none:=by decide
 have hb:cnb 9221120237041090561=9221120237041090561:=by decide
 have key:∀ x,∃ a,pQ x=cnb a/\cn x=cn (some a):=by
  intro x;cases x with
  | none=>exact⟨9221120237041090561,hb.symm,hq.symm⟩
  | some b=>exact⟨b,rfl,rfl⟩
 obtain⟨a,e1,e2⟩:=key x;obtain⟨b,e3,e4⟩:=key y;rw[e1,e2,e3,e4,<- RU a b (.inr trivial)];rfl
theorem Hu (N:Nat) (x y:Fl) (k:Ky8):Ad N x y k=k (decide (cn x=cn y)):=by
 (unfold Ad; rw[af]; unfold zw)
 simp only[Jf,RK]
theorem lz {n i j:Nat} (hi:i<n) (hj:j<n):i*n+j<n*n:=by have:(i+1)*n<=n*n:=ajE n hi;rw[aj2]at this; omega
theorem EK {n:Nat} (h:n<=12):n*n<=144:=ako h h
def chk (r c:Int) (xs:List Fl):Int:=if (0<=r/\r<=12)/\(0<=c/\c<=12)then(if (xs.length:Int)=r*c then(if aX xs=true then 0 else 4)else 3)else 1
theorem Vk {r c:Int} (hr:0<=r/\r<=12) (hc:0<=c/\c<=12):ah .i64 (r*c)=true:=by have h1:0<=r*c:=Int.mul_nonneg hr.1 hc.1;have h2:r*c<=12*12:=Int.mul_le_mul hr.2 hc.2 hc.1 (by decide);exact ac (by omega) (by omega)
theorem tD {r c:Int} {xs:List Fl}:chk r c xs=0↔((0<=r/\r<=12)/\(0<=c/\c<=12))/\(xs.length:Int)=r*c/\aX xs=true:=by
 unfold chk;split
 ·split
  ·split
   ·simp[*]
   ·simp[*]
  ·simp[*]
 ·simp[*]
def elt (xs:List Fl) (n i j:Nat):Fl:=xs.getD (i*n+j) none
theorem NN (V x Bk bk i k:Nat):V%4294967296 ^ (i+k+1)+x*(Bk+4294967296 ^ k*bk)*4294967296 ^ i=(V%4294967296 ^ (i+k)+x*Bk*4294967296 ^ i)+4294967296 ^ (i+k)*(V / 4294967296 ^ (i+k)%4294967296+x*bk):=by rw[Nat.mod_pow_succ,ajR];grind
theorem K9 (V x Bk bk i k:Nat):(V%4294967296 ^ (i+k+1)+x*(Bk+4294967296 ^ k*bk)*4294967296 ^ i) / 4294967296 ^ (i+k+1)=((V%4294967296 ^ (i+k)+x*Bk*4294967296 ^ i) / 4294967296 ^ (i+k)+V / 4294967296 ^ (i+k)%4294967296+x*bk) / 4294967296:=by rw[NN,ajK,<- ajF,akt _ _ (akE (by decide)),akf]
theorem Iy (V x Bk bk i k R:Nat):(V+x*(Bk+4294967296 ^ k*bk+4294967296 ^ (k+1)*R)*4294967296 ^ i) / 4294967296 ^ (i+k)%4294967296=((V%4294967296 ^ (i+k)+x*Bk*4294967296 ^ i) / 4294967296 ^ (i+k)+V / 4294967296 ^ (i+k)%4294967296+x*bk)%4294967296:=by
 have e:V+x*(Bk+4294967296 ^ k*bk+4294967296 ^ (k+1)*R)*4294967296 ^ i=(V%4294967296 ^ (i+k+1)+x*(Bk+4294967296 ^ k*bk)*4294967296 ^ i)+4294967296 ^ (i+k+1)*(V / 4294967296 ^ (i+k+1)+x*R):=by
  have h:=aks V (4294967296 ^ (i+k+1));have h2:4294967296 ^ (i+k+1)=4294967296 ^ (k+1)*4294967296 ^ i:=by rw[<- ajR]; congr 1; omega
  generalize V / 4294967296 ^ (i+k+1)=q at *;generalize V%4294967296 ^ (i+k+1)=r at *;rw[<- h,h2];grind
 rw[ox e,NN,akt _ _ (akE (by decide)),akf]
theorem RP {V x Bk i k:Nat} (hx:x<4294967296) (hB:Bk<4294967296 ^ k):(V%4294967296 ^ (i+k)+x*Bk*4294967296 ^ i) / 4294967296 ^ (i+k)<4294967296:=by
 rw[ajH (akE (by decide))];have h1:V%4294967296 ^ (i+k)<4294967296 ^ (i+k):=ajN _ (akE (by decide));have h2:x*Bk<=4294967295*4294967296 ^ k:=ako (by omega) (by omega);have h3:x*Bk*4294967296 ^ i<=4294967295*4294967296 ^ (i+k):=by
  have:=ajE (4294967296 ^ i) h2
  rwa [ajI 4294967295,<- ajR,alp k i]at this
 omega
theorem yf (S:Nat) {L i:Nat} (h:i<L):(dl S L).getD i 0=((S / 4294967296 ^ i%4294967296:Nat):Int):=by
 induction L with
 | zero=>omega
 | succ L ih=>
  show((dl S L)++[_]).getD i 0=_;rw[List.getD_eq_getElem?_getD];by_cases hi:i<L
  ·rw[List.getElem?_append_left (by rw[am]; exact hi),<- List.getD_eq_getElem?_getD,ih hi]
  ·have:i=L:=by omega
   subst this;rw[List.getElem?_append_right (by rw[am]; exact ajL _),am,aj8]; rfl
theorem dp {l:List Int} {n:Nat} (h:n<l.length):l.drop n=l.getD n 0::l.drop (n+1):=by rw[List.drop_eq_getElem_cons h,List.getD_eq_getElem?_getD,List.getElem?_eq_getElem h]; rfl
theorem vO {b:List Int} {k:Nat}:aG (b.take (k+1))=aG (b.take k)+4294967296 ^ k*(b.getD k 0).toNat:=aR k
theorem DY (U V L p:Nat) (h:p<L):(dl U p++(dl V L).drop p).set p ((U / 4294967296 ^ p%4294967296:Nat):Int)=dl U (p+1)++(dl V L).drop (p+1):=by rw[dp (by rw[am]; exact h),be _ _ _ _ _ (by rw[am])];show _=(dl U p++[_])++_;rw[ajQ]; rfl
theorem Lg (U V L p:Nat) (h:p<L):(dl U p++(dl V L).drop p).getD p 0=((V / 4294967296 ^ p%4294967296:Nat):Int):=by rw[dp (by rw[am]; exact h),bX (by rw[am]),yf V h]
theorem DX (U V L p:Nat) (h:p<=L):(dl U p++(dl V L).drop p).length=L:=by simp[am]; omega
theorem OK {U L p:Nat} (hU:U<4294967296 ^ p) (h:p<=L) {V:Nat} (hV:V<4294967296 ^ p):dl U p++(dl V L).drop p=dl U L:=by
 induction L with
 | zero=>
  have:p=0:=by omega
  subst this; rfl
 | succ L ih=>
  by_cases hp:p=L+1
  ·subst hp; rw[aki (by rw[am]; omega),aj6]
  ·have hpL:p<=L:=by omega
   have e:∀ X,X<4294967296 ^ p->dl X (L+1)=dl X L++[0]:=by intro X hX;show dl X L++[((X / 4294967296 ^ L%4294967296:Nat):Int)]=_;rw[aj3 (ajS hX (ajO (by decide) hpL))]; rfl
   rw[e V hV,e U hU,akw (by rw[am]; exact hpL),<- ajQ,ih hpL]
theorem zZ {a:List Int} (ha:InW a) (i:Nat):aG (a.take i)<4294967296 ^ i:=bt ha i
theorem zY {x y i j:Nat} (hx:x<4294967296 ^ i) (hy:y<4294967296 ^ j):x*y<4294967296 ^ (i+j):=by rw[ajR];exact amN hx hy
theorem BT {N:Nat} (a b:List Int) (ha:InW a) (hb:InW b) (hN:a.length+b.length+2<N) (hs:a.length+b.length<=17592186044416) (k:Kz3):Dc N a b k=k (aj (aG a*aG b)):=by
  (unfold Dc; rw[af]; unfold XG)
  have eL:Int.toNat (((a.length:Nat):Int)+((b.length:Nat):Int))=a.length+b.length:=by omega
  rw[aa ajv,aa (bR (by omega) (by omega) (by omega) (by omega)),eL]
  let L:=a.length+b.length
  let B:=aG b
  have hB:B<4294967296 ^ b.length:=fX hb;refine aH (λi=>((i:Int),dl (aG (a.take i)*B) L)) a.length ?_ (by omega) (λi hi K=>?_) (λK=>?_)
  · show((0:Int),List.replicate L (0:Int))=(((0:Nat):Int),dl (aG (a.take 0)*B) L)
    have:=zJ L 0;rw[akQ]at this;rw[alS,show aG []=0 from rfl,akW,this]; rfl
  · simp only[mP]
    rw[ajx (by omega:(i:Int)<a.length),ajA];have hx:=ha.at (i:=i)
    let V:=aG (a.take i)*B
    let x:=(a.getD i 0).toNat
    let U:=aG (a.take (i+1))*B
    have hU:U=V+x*B*4294967296 ^ i:=by simp only[U,V,x];rw[vO];grind
    have hV:V<4294967296 ^ (i+b.length):=zY (zZ ha i) hB;have hUl:U<4294967296 ^ (i+1+b.length):=zY (zZ ha (i+1)) hB
    let c:=λj=>(V%4294967296 ^ (i+j)+x*aG (b.take j)*4294967296 ^ i) / 4294967296 ^ (i+j)
    refine aH (λj=>(((c j:Nat):Int),(j:Int),dl U (i+j)++(dl V L).drop (i+j))) b.length ?_ (by omega) (λj hj K'=>?_) (λK'=>?_)
    · show((0:Int),(0:Int),dl V L)=_
      have h0:c 0=0:=by simp only[c,alS,show aG []=0 from rfl,akQ,akW,aj4];exact aj3 (ajN _ (akE (by decide)))
      have hlow:dl U i=dl V i:=by
        have:∀ n,n<=i->dl U n=dl V n:=by
          intro n;induction n with
          | zero=>intro _; rfl
          | succ n ih=>
            intro hn;show dl U n++[_]=dl V n++[_];rw[ih (by omega)];congr 3;have:U=V+4294967296 ^ (n+1)*(x*B*4294967296 ^ (i - (n+1))):=by rw[hU,ajZ,<- ajR,show n+1+(i - (n+1))=i by omega]
            exact ox this
        exact this i (ajL _)
      have hsp:dl V i++(dl V L).drop i=dl V L:=by
        have:∀ n,i<=n->dl V i++(dl V n).drop i=dl V n:=by
          intro n;induction n with
          | zero=>intro h; have:i=0:=(by omega); subst this; rfl
          | succ n ih=>
            intro h;by_cases hn:i=n+1
            · subst hn; rw[aki (by rw[am]; omega),aj6]
            · show dl V i++(dl V n++[_]).drop i=dl V n++[_]
              rw[akw (by rw[am]; omega),<- ajQ,ih (by omega)]
        exact this L (by simp only[L]; omega)
      rw[h0,aj4,hlow,hsp]; rfl
    · have hy:=hb.at (i:=j)
      have hp:i+j<L:=by simp only[L]; omega
      have hlen:=DX U V L (i+j) (by omega);have hget:=Lg U V L (i+j) hp;have hset:=DY U V L (i+j) hp;have hc:=RP (V:=V) (x:=x) (i:=i) (k:=j) (Bk:=aG (b.take j)) (by simp only[x]; omega) (zZ hb j);have hstep:=K9 V x (aG (b.take j)) (b.getD j 0).toNat i j;obtain⟨R,hR⟩:=bZ b (j+1);have hdig:=Iy V x (aG (b.take j)) (b.getD j 0).toNat i j R;rw[<- vO]at hstep hdig;rw[<- hR]at hdig;have hUe:V+x*aG b*4294967296 ^ i=U:=hU.symm;rw[hUe]at hdig;have hxy:x*(b.getD j 0).toNat<=4294967295*4294967295:=ako (by simp only[x]; omega) (by omega);have eidx:Int.toNat ((i:Int)+(j:Int))=i+j:=by omega
      have hcj:∀ n,c n=(V%4294967296 ^ (i+n)+x*aG (b.take n)*4294967296 ^ i) / 4294967296 ^ (i+n):=λ_=>rfl
      have hax:a.getD i 0=(x:Int):=by simp only[x]; omega
      have hby:b.getD j 0=((b.getD j 0).toNat:Int):=by omega
      simp only[mQ,ajD,eidx,hlen,hget];rw[ajx (by omega:(j:Int)<b.length),ajA,aa ajw,aa ajw,aa ajv,aa ajw,aa (ajx (by omega)),aa ajv,aa ajw,aa (ajx (by omega)),aa ajv];have ec1:c (j+1)=(c j+V / 4294967296 ^ (i+j)%4294967296+x*(b.getD j 0).toNat) / 4294967296:=hstep;have ed:U / 4294967296 ^ (i+j)%4294967296=(c j+V / 4294967296 ^ (i+j)%4294967296+x*(b.getD j 0).toNat)%4294967296:=hdig;have hcl:c j<4294967296:=hc;rw[ed]at hset;have vlt:V / 4294967296 ^ (i+j)%4294967296<4294967296:=ajN _ (by decide);rw[hax,hby,show i+(j+1)=i+j+1 by omega,<- hset];generalize V / 4294967296 ^ (i+j)%4294967296=v at *;generalize (b.getD j 0).toNat=y at *;generalize dl U (i+j)++(dl V L).drop (i+j)=l at *;have et:∀ q:Nat,q=c j+v+x*y->IntKind.wrap .u64 ((IntKind.wrap .u64 ((IntKind.wrap .u64 ((IntKind.wrap .u64 (x:Int))*(IntKind.wrap .u64 (y:Int))))+(IntKind.wrap .u64 (v:Int))))+((c j:Nat):Int))=(q:Int):=by
        intro q hq;have exy:((x:Int))*(y:Int)=((x*y:Nat):Int):=by rw[ajU]
        have hxl:x<4294967296:=by simp only[x]; omega
        have hyl:y<4294967296:=by omega
        have w1:IntKind.wrap .u64 (x:Int)=x:=by rw[aq]; omega
        have w2:IntKind.wrap .u64 (y:Int)=y:=by rw[aq]; omega
        rw[w1,w2,exy,aq,aq,aq,aq];omega
      rw[et _ rfl,ec1,l8,dB];congr 1
    · simp only[mQ]
      rw[ajy (by omega:¬(b.length:Int)<b.length),ajz];have hlen:=DX U V L (i+b.length) (by simp only[L]; omega);have hset:=DY U V L (i+b.length) (by simp only[L]; omega);have eidx:Int.toNat ((i:Int)+(b.length:Int))=i+b.length:=by omega
      have hLe:i+b.length<L:=by simp only[L]; omega
      have hc:c b.length=U / 4294967296 ^ (i+b.length):=by simp only[c];rw[akd,ajJ hV,hU]
      have hcl:U / 4294967296 ^ (i+b.length)<4294967296:=by
        rw[ajH (akE (by decide))];have:i+1+b.length=i+b.length+1:=by omega
        rw[this,ajK]at hUl;omega
      have ew:IntKind.wrap .u32 ((c b.length:Nat):Int)=((U / 4294967296 ^ (i+b.length)%4294967296:Nat):Int):=by rw[dB,hc]; omega
      have hfin:=OK (U:=U) (V:=V) (L:=L) (p:=i+b.length+1) (by rw[show i+b.length+1=i+1+b.length by omega]; exact hUl) (by omega) (ajS hV (ajO (by decide) (by omega)));rw[aa ajv,eidx,hlen,aa ajw,aa (ajx (by omega)),aa ajv,ew,hset,hfin];rfl
  · simp only[mP]
    rw[ajy (by omega:¬(a.length:Int)<a.length),ajz,akd,dG _ (kj _ _) (by rw[am]; simp only[L]; omega) (by rw[am]; simp only[L]; omega)];rw[uC (zY (fX ha) hB)]
theorem Ei (g h:Bool) (m n:Nat):aZ (g != h) (m*n)=aZ g m*aZ h n:=by unfold aZ;rw[ajU];cases g <;> cases h <;> simp[amJ,amu]
theorem IK (n:Nat):bQ (aj n) (aj n).length=(aj n).length:=by
 have ht:(aj n).take (bQ (aj n) (aj n).length)=aj n:=by rw[xR (bf n),aM]
 have hc:=lG (aj n) (aj n).length;have:=amI List.length ht;rw[akc]at this; omega
theorem Ve (g:Bool) (n:Nat) (k:Ky2):cond ((!g)==true) (k (decide (((aj n).length:Int)>0)) (aj n)) (k false (aj n))=yR (-(aZ g n)) k:=by rw[WE,yB _ _ k];congr 1;unfold aZ; cases g <;> simp
theorem Gf {N:Nat} (g:Bool) (n:Nat) (hN:gl N (aj n)) (k:Ky2):TE N g (aj n) k=yR (-(aZ g n)) k:=by
 (unfold TE; rw[af]; unfold QJ xD wA)
 obtain⟨h1,h2⟩:=hN;rw[akl,ajx (by omega),akA,nJ _ (by omega) (by omega),IK];simp only[ak2,akd];rw[ajx (by omega:0+(aj n).length<=(aj n).length),akA];exact Ve g n k
def aU (B:Nat) (n:Nat):Prop:=n<2 ^ B
theorem cG:∀(j n:Nat),n<4294967296 ^ j->(aj n).length<=j
 | 0,n,h=>by
  have:n=0:=by simp at h; exact h
  subst this; rw[ba]; exact ajL _
 | j+1,n,h=>by
  by_cases h0:n=0
  ·subst h0; rw[ba]; simp
  ·rw[cu h0,aj9];have:n / 4294967296<4294967296 ^ j:=als (by rw[ajK]at h; omega);have:=cG j _ this;omega
theorem aau (j:Nat):4294967296 ^ j=2 ^ (32*j):=by rw[amt]
theorem DL {B n:Nat} (h:aU B n):(aj n).length<=B / 32+1:=by refine cG _ _ ?_;rw[aau];exact ajS h (ajO (by decide) (by omega))
theorem K6 {N B n:Nat} (hN:1000<=N) (hB:B<=31000) (h:aU B n):gl N (aj n):=by have:=DL h;exact⟨by omega,by omega⟩
theorem bN {A B n:Nat} (h:aU A n) (hAB:A<=B):aU B n:=ajS h (ajO (by decide) hAB)
theorem d7 {A B m n:Nat} (h:aU A m) (g:aU B n):aU (A+B) (m*n):=by unfold aU; rw[ajR]; exact amN h g
theorem zE {A m:Nat} (h:aU A m) (s:Nat):aU (A+s) (m*2 ^ s):=by unfold aU; rw[ajR]; exact akm h (ajM s)
theorem Aw {A m n:Nat} (h:aU A m) (g:aU A n):aU (A+1) (m+n):=by unfold aU at *; rw[ajK]; omega
theorem oc {A m n:Nat} (h:aU A m) (g:n<=m):aU A n:=ak7 g h
theorem FV {N B n s:Nat} (hN:1000<=N) (hB:B+s<=31000) (h:aU B n):aaC N n s:=by have h1:=DL h;exact⟨by omega,by omega,by omega,K6 hN hB (zE h s)⟩
def exK (z:Int × Int) (k:Int->Bool->List Int->Bool):Bool:=k z.1 (decide (z.2<0)) (aj z.2.natAbs)
def Cw (x y:Int × Int):Int × Int:=(x.1+y.1,x.2*y.2)
def Wq (x:Int × Int):Int × Int:=(x.1,-x.2)
def wQ (x:Int × Int) (e:Int):Int:=x.2*2 ^ (x.1 - e).toNat
def Nh (x y:Int × Int):Int × Int:=if x.2=0 then y else if y.2=0 then x else(min x.1 y.1,wQ x (min x.1 y.1)+wQ y (min x.1 y.1))
def Ex (E B:Nat) (x:Int × Int):Prop:=-(E:Int)<=x.1/\x.1<=E/\aU B x.2.natAbs
def Bd (z:Int):Int:=if z=0 then 0 else if z<0 then -1 else 1
def ax:List Int->Nat
 | []=>0
 | x::r=>x.toNat+18446744073709551616*ax r
def InWq (m:List Int):Prop:=∀ x ∈ m,0<=x/\x<18446744073709551616
def ae (n:Nat):List Int:=if h:n=0 then[]else((n%18446744073709551616:Nat):Int)::ae (n / 18446744073709551616)
termination_by n
decreasing_by omega
theorem bh:ae 0=[]:=by rw[ae]; simp
theorem bS {n:Nat} (h:n ≠ 0):ae n=((n%18446744073709551616:Nat):Int)::ae (n / 18446744073709551616):=by rw[ae]; simp[h]
theorem aY:∀ n,InWq (ae n):=by
 intro n;induction n using Nat.strongRecOn with
 | ind n ih=>
  by_cases h:n=0
  ·subst h; rw[bh]; intro x hx; cases hx
  ·rw[bS h];intro x hx;rcases List.mem_cons.1 hx with rfl | hx
   ·omega
   ·exact ih (n / 18446744073709551616) (by omega) x hx
theorem aF:∀ n,ax (ae n)=n:=by
 intro n;induction n using Nat.strongRecOn with
 | ind n ih=>
  by_cases h:n=0
  ·subst h; rw[bh]; rfl
  ·rw[bS h,ax,ih (n / 18446744073709551616) (by omega),ajD];omega
theorem qA (a b:List Int):ax (a++b)=ax a+18446744073709551616 ^ a.length*ax b:=by
 induction a with
 | nil=>simp[ax]
 | cons x r ih=>
  rw[alh,ax,ih,ax,aj9,ajK,ajP,ajB (18446744073709551616 ^ r.length) 18446744073709551616,ajI];omega
theorem InWq.take {m:List Int} (h:InWq m) (n:Nat):InWq (m.take n):=λx hx=>h x (alO hx)
theorem InWq.drop {m:List Int} (h:InWq m) (n:Nat):InWq (m.drop n):=λx hx=>h x (amj hx)
theorem InWq.cons {x:Int} {m:List Int} (h:InWq (x::m)):(0<=x/\x<18446744073709551616)/\InWq m:=⟨h x (by simp),λy hy=>h y (by simp[hy])⟩
theorem InWq.at {m:List Int} (h:InWq m) {i:Nat}:0<=m.getD i 0/\m.getD i 0<18446744073709551616:=by
 rw[List.getD_eq_getElem?_getD];by_cases hi:i<m.length
 ·rw[List.getElem?_eq_getElem hi]; exact h _ (akR hi)
 ·rw[List.getElem?_eq_none (by omega)]; exact⟨by decide,by decide⟩
theorem ju:∀{m:List Int},InWq m->ax m<18446744073709551616 ^ m.length
 | [],_=>by simp[ax]
 | x::r,h=>by have ih:=ju h.cons.2;have hx:=h.cons.1;rw[ax,aj9,ajK];have:ax r+1<=18446744073709551616 ^ r.length:=ih;have:=ajE 18446744073709551616 this;omega
theorem DU:∀{m:List Int},InWq m->(∀ x,m.getLast? = some x->x ≠ 0)->ae (ax m)=m
 | [],_,_=>bh
 | [x],h,hl=>by
  have hx:=h.cons.1;have h0:x ≠ 0:=hl x rfl;have e:ax [x]=x.toNat:=by simp[ax]
  rw[e,bS (by omega),aj3 (by omega),bh,ajJ (by omega),alW hx.1]
 | x::y::r,h,hl=>by
  have hx:=h.cons.1;have ih:=DU h.cons.2 (λz hz=>hl z (by rw[List.getLast?_cons_cons]; exact hz));have hne:ax (y::r) ≠ 0:=by intro h0;rw[h0,bh]at ih; cases ih
  have e1:ax (x::y::r)=x.toNat+18446744073709551616*ax (y::r):=rfl;rw[e1,bS (by omega)];have e2:(x.toNat+18446744073709551616*ax (y::r))%18446744073709551616=x.toNat:=by omega
  have e3:(x.toNat+18446744073709551616*ax (y::r)) / 18446744073709551616=ax (y::r):=by omega
  rw[e2,e3,ih,alW hx.1]
theorem C8 {m:List Int} {i:Nat} (hi:i<m.length):ax (m.take (i+1))=ax (m.take i)+18446744073709551616 ^ i*(m.getD i 0).toNat:=by rw[akP hi,qA,akc,akS (by omega),List.getD_eq_getElem?_getD,List.getElem?_eq_getElem hi];simp[ax]
theorem C7 (n:Nat):ax (List.replicate n 0)=0:=by
 induction n with
 | zero=>rfl
 | succ n ih=>rw[akh,ax,ih]; rfl
def dlq (S:Nat):Nat->List Int
 | 0=>[]
 | n+1=>dlq S n++[((S / 18446744073709551616 ^ n%18446744073709551616:Nat):Int)]
theorem ak (S:Nat):∀ n,(dlq S n).length=n
 | 0=>rfl
 | n+1=>by simp[dlq,ak S n]
theorem il (S:Nat):∀ n,InWq (dlq S n)
 | 0=>λx hx=>by cases hx
 | n+1=>λx hx=>by
  rcases List.mem_append.1 hx with h | h
  ·exact il S n x h
  ·simp only[amB]at h;subst h;omega
theorem tU (S:Nat):∀ n,ax (dlq S n)=S%18446744073709551616 ^ n
 | 0=>by simp[dlq,ax,al_]
 | n+1=>by rw[dlq,qA,ak,tU S n,ajK,amr];simp only[ax,ajD,akQ,aj4]
theorem yg (S n m:Nat) (h:n<m):(dlq S n++List.replicate (m - n) 0).set n ((S / 18446744073709551616 ^ n%18446744073709551616:Nat):Int)=dlq S (n+1)++List.replicate (m - (n+1)) 0:=by
 rw[alI _ _ (by rw[ak]; exact ajL _),ak,aj8];have:m - n=(m - (n+1))+1:=by omega
 rw[this,akh];simp[dlq]
theorem oy {S n:Nat} (h:S<18446744073709551616 ^ n):ae (ax (dlq S n))=ae S:=by rw[tU,ajJ h]
theorem aN {m:List Int} (i:Nat):ax (m.take (i+1))=ax (m.take i)+18446744073709551616 ^ i*(m.getD i 0).toNat:=by
 by_cases h:i<m.length
 ·exact C8 h
 ·rw[e_ (by omega),ajV (by omega),ajV (by omega)]; simp
theorem uz (b:List Int):∀ n,ax (b.take (bQ b n))=ax (b.take n)
 | 0=>rfl
 | n+1=>by
  unfold bQ;split
  ·rename_i h;rw[uz b n,aN,h]; simp
  ·rfl
theorem Bi {b:List Int} (hb:InWq b):b.take (bQ b b.length)=ae (ax b):=by have h1:=uz b b.length;rw[akd]at h1;rw[<- h1,DU (hb.take _) (wJ b b.length (ajL _))]
theorem cO (T A i:Nat):(T+18446744073709551616 ^ i*A) / 18446744073709551616 ^ i=T / 18446744073709551616 ^ i+A:=akt _ _ (akE (by decide))
theorem JH (m:List Int) (i:Nat):ax m=ax (m.take i)+18446744073709551616 ^ (m.take i).length*ax (m.drop i):=by rw[<- qA,alH]
theorem bF (m:List Int) (i:Nat):∃ R,ax m=ax (m.take i)+18446744073709551616 ^ i*R:=by
 by_cases h:i<=m.length
 ·refine⟨ax (m.drop i),?_⟩;have:=JH m i
  rwa [akc,akS h]at this
 ·exact⟨0,by rw[ajV (by omega)]; simp⟩
theorem aS {m:List Int} (h:InWq m) (i:Nat):ax (m.take i)<18446744073709551616 ^ i:=by
 have h1:=ju (h.take i);have h2:(m.take i).length<=i:=by simp; omega
 exact ajS h1 (ajO (by decide) h2)
theorem jL {S T R i:Nat} (h:S=T+18446744073709551616 ^ (i+1)*R):S / 18446744073709551616 ^ i%18446744073709551616=T / 18446744073709551616 ^ i%18446744073709551616:=by rw[h,ajK,ajI,cO,akO]
theorem Mr (i:Nat):0<18446744073709551616 ^ i:=akE (by decide)
theorem F2 {P A B x y o R1 R2 D a b:Nat} (hA:A<P) (hB:B<P) (ho:o=if A<B then 1 else 0) (h1:a=A+P*x+P*18446744073709551616*R1) (h2:b=B+P*y+P*18446744073709551616*R2) (hD:(D:Int)=(a:Int) - (b:Int)) :
  ((D / P:Nat):Int)=(x:Int) - (y:Int) - (o:Int)+18446744073709551616*((R1:Int) - (R2:Int)):=by
 have he:∃ e:Nat,e<P/\(e:Int)=(A:Int) - (B:Int)+(P:Int)*(o:Int):=by
  rw[ho];split
  ·exact⟨A+P - B,by omega,by omega⟩
  ·exact⟨A - B,by omega,by omega⟩
 obtain⟨e,he1,he2⟩:=he;refine Ee (e:=e) ?_ he1;have e1:(a:Int)=A+(P:Int)*x+18446744073709551616*((P:Int)*R1):=by rw[h1,ajI,ajZ]; simp
 have e2:(b:Int)=B+(P:Int)*y+18446744073709551616*((P:Int)*R2):=by rw[h2,ajI,ajZ]; simp
 have e3:(P:Int)*((x:Int) - (y:Int) - (o:Int)+18446744073709551616*((R1:Int) - (R2:Int)))=(P:Int)*x - (P:Int)*y - (P:Int)*o+(18446744073709551616*((P:Int)*R1) - 18446744073709551616*((P:Int)*R2)):=by rw[Int.mul_add,alX,alX,Int.mul_left_comm,alX,alX]
 rw[hD,e1,e2,e3,he2];omega
theorem dx {x y:Nat} (h:x<=y):(ae x).length<=(ae y).length:=by
 induction y using Nat.strongRecOn generalizing x with
 | ind y ih=>
  by_cases hx:x=0
  ·subst hx; rw[bh]; simp
  ·rw[bS hx,bS (by omega:y ≠ 0)];simp only[aj9];have:=ih (y / 18446744073709551616) (by omega) (x:=x / 18446744073709551616) (alP h);omega
theorem wN:∀(w X:Nat),dlq (18446744073709551616 ^ w*X) w=List.replicate w 0:=by
 intro w;have key:∀ n,n<=w -> ∀ X,dlq (18446744073709551616 ^ w*X) n=List.replicate n 0:=by
  intro n;induction n with
  | zero=>intro _ X; rfl
  | succ n ih=>
   intro hn X;rw[dlq,ih (by omega),ak9];have e:18446744073709551616 ^ w*X=18446744073709551616 ^ n*(18446744073709551616*(18446744073709551616 ^ (w - n - 1)*X)):=by rw[<- ajI,<- ajI,<- ajK,<- ajR];congr 2; omega
   rw[e,aj7 _ (Mr n),amG];rfl
 exact key w (ajL _)
theorem gF:∀(j n:Nat),n<18446744073709551616 ^ j->(ae n).length<=j
 | 0,n,h=>by
  have:n=0:=by simp at h; exact h
  subst this; rw[bh]; exact ajL _
 | j+1,n,h=>by
  by_cases h0:n=0
  ·subst h0; rw[bh]; simp
  ·rw[bS h0,aj9];have:n / 18446744073709551616<18446744073709551616 ^ j:=als (by rw[ajK]at h; omega);have:=gF j _ this;omega
theorem JG (V x Bk bk i k:Nat):V%18446744073709551616 ^ (i+k+1)+x*(Bk+18446744073709551616 ^ k*bk)*18446744073709551616 ^ i=(V%18446744073709551616 ^ (i+k)+x*Bk*18446744073709551616 ^ i)+18446744073709551616 ^ (i+k)*(V / 18446744073709551616 ^ (i+k)%18446744073709551616+x*bk):=by rw[Nat.mod_pow_succ,ajR];grind
theorem Iz (V x Bk bk i k:Nat):(V%18446744073709551616 ^ (i+k+1)+x*(Bk+18446744073709551616 ^ k*bk)*18446744073709551616 ^ i) / 18446744073709551616 ^ (i+k+1)=((V%18446744073709551616 ^ (i+k)+x*Bk*18446744073709551616 ^ i) / 18446744073709551616 ^ (i+k)+V / 18446744073709551616 ^ (i+k)%18446744073709551616+x*bk) / 18446744073709551616:=by rw[JG,ajK,<- ajF,akt _ _ (akE (by decide)),akf]
theorem G6 (V x Bk bk i k R:Nat):(V+x*(Bk+18446744073709551616 ^ k*bk+18446744073709551616 ^ (k+1)*R)*18446744073709551616 ^ i) / 18446744073709551616 ^ (i+k)%18446744073709551616=((V%18446744073709551616 ^ (i+k)+x*Bk*18446744073709551616 ^ i) / 18446744073709551616 ^ (i+k)+V / 18446744073709551616 ^ (i+k)%18446744073709551616+x*bk)%18446744073709551616:=by
 have e:V+x*(Bk+18446744073709551616 ^ k*bk+18446744073709551616 ^ (k+1)*R)*18446744073709551616 ^ i=(V%18446744073709551616 ^ (i+k+1)+x*(Bk+18446744073709551616 ^ k*bk)*18446744073709551616 ^ i)+18446744073709551616 ^ (i+k+1)*(V / 18446744073709551616 ^ (i+k+1)+x*R):=by
  have h:=aks V (18446744073709551616 ^ (i+k+1));have h2:18446744073709551616 ^ (i+k+1)=18446744073709551616 ^ (k+1)*18446744073709551616 ^ i:=by rw[<- ajR]; congr 1; omega
  generalize V / 18446744073709551616 ^ (i+k+1)=q at *;generalize V%18446744073709551616 ^ (i+k+1)=r at *;rw[<- h,h2];grind
 rw[jL e,JG,akt _ _ (akE (by decide)),akf]
theorem OE {V x Bk i k:Nat} (hx:x<18446744073709551616) (hB:Bk<18446744073709551616 ^ k):(V%18446744073709551616 ^ (i+k)+x*Bk*18446744073709551616 ^ i) / 18446744073709551616 ^ (i+k)<18446744073709551616:=by
 rw[ajH (akE (by decide))];have h1:V%18446744073709551616 ^ (i+k)<18446744073709551616 ^ (i+k):=ajN _ (akE (by decide));have h2:x*Bk<=18446744073709551615*18446744073709551616 ^ k:=ako (by omega) (by omega);have h3:x*Bk*18446744073709551616 ^ i<=18446744073709551615*18446744073709551616 ^ (i+k):=by
  have:=ajE (18446744073709551616 ^ i) h2
  rwa [ajI 18446744073709551615,<- ajR,alp k i]at this
 omega
theorem wM (S:Nat) {L i:Nat} (h:i<L):(dlq S L).getD i 0=((S / 18446744073709551616 ^ i%18446744073709551616:Nat):Int):=by
 induction L with
 | zero=>omega
 | succ L ih=>
  show((dlq S L)++[_]).getD i 0=_;rw[List.getD_eq_getElem?_getD];by_cases hi:i<L
  ·rw[List.getElem?_append_left (by rw[ak]; exact hi),<- List.getD_eq_getElem?_getD,ih hi]
  ·have:i=L:=by omega
   subst this;rw[List.getElem?_append_right (by rw[ak]; exact ajL _),ak,aj8]; rfl
theorem tV {b:List Int} {k:Nat}:ax (b.take (k+1))=ax (b.take k)+18446744073709551616 ^ k*(b.getD k 0).toNat:=aN k
theorem Cu (U V L p:Nat) (h:p<L):(dlq U p++(dlq V L).drop p).set p ((U / 18446744073709551616 ^ p%18446744073709551616:Nat):Int)=dlq U (p+1)++(dlq V L).drop (p+1):=by rw[dp (by rw[ak]; exact h),be _ _ _ _ _ (by rw[ak])];show _=(dlq U p++[_])++_;rw[ajQ]; rfl
theorem IW (U V L p:Nat) (h:p<L):(dlq U p++(dlq V L).drop p).getD p 0=((V / 18446744073709551616 ^ p%18446744073709551616:Nat):Int):=by rw[dp (by rw[ak]; exact h),bX (by rw[ak]),wM V h]
theorem Ct (U V L p:Nat) (h:p<=L):(dlq U p++(dlq V L).drop p).length=L:=by simp[ak]; omega
theorem Lf {U L p:Nat} (hU:U<18446744073709551616 ^ p) (h:p<=L) {V:Nat} (hV:V<18446744073709551616 ^ p):dlq U p++(dlq V L).drop p=dlq U L:=by
 induction L with
 | zero=>
  have:p=0:=by omega
  subst this; rfl
 | succ L ih=>
  by_cases hp:p=L+1
  ·subst hp; rw[aki (by rw[ak]; omega),aj6]
  ·have hpL:p<=L:=by omega
   have e:∀ X,X<18446744073709551616 ^ p->dlq X (L+1)=dlq X L++[0]:=by intro X hX;show dlq X L++[((X / 18446744073709551616 ^ L%18446744073709551616:Nat):Int)]=_;rw[aj3 (ajS hX (ajO (by decide) hpL))]; rfl
   rw[e V hV,e U hU,akw (by rw[ak]; exact hpL),<- ajQ,ih hpL]
theorem xg {a:List Int} (ha:InWq a) (i:Nat):ax (a.take i)<18446744073709551616 ^ i:=aS ha i
theorem xe {x y i j:Nat} (hx:x<18446744073709551616 ^ i) (hy:y<18446744073709551616 ^ j):x*y<18446744073709551616 ^ (i+j):=by rw[ajR];exact amN hx hy
def ny (N:Nat) (l:List Int):Prop:=l.length+3<N/\l.length<=1099511627776
theorem Ew {N:Nat} (b:List Int) (hN:b.length<N) (hs:b.length<9223372036854775807) (k:Kz0):A9 N b k=k (bQ b b.length):=by
 (unfold A9; rw[af]; unfold Xm)
 have key:∀ n,n<=b.length -> ∀ M,n<M->al M (Ak N b λn_1=>((decide (0<=n_1/\n_1<=(((List.length b):Nat):Int)))&&(k ((Int.toNat n_1) - 0)))) (n:Int)=k (bQ b n):=by
  intro n;induction n with
  | zero=>
   intro _ M hM;cases M with
   | zero=>omega
   | succ M=>
    show Ak N b _ ((0:Nat):Int) _=_;simp only[Ak,bQ];rw[ajy (by omega:¬((0:Nat):Int)>0),show(false==true)=false from rfl,ajz,ajx (by omega),akA];rfl
  | succ n ih=>
   intro hn M hM;cases M with
   | zero=>omega
   | succ M=>
    show Ak N b _ ((n+1:Nat):Int) (al M _)=_;have e:Int.toNat (((n+1:Nat):Int) - 1)=n:=by omega
    have e2:((n+1:Nat):Int) - 1=(n:Int):=by omega
    simp only[Ak,e];rw[ajx (by omega:((n+1:Nat):Int)>0),show(true==true)=true from rfl,ajA,aa ajv,aa ajw,aa (ajx (by omega)),aa ajv,e2,ih (by omega) M (by omega),sC];by_cases h0:b.getD n 0=0
    ·have:(b.getD n 0==0)=true:=by simpa using h0
     rw[this,if_pos h0]; rfl
    ·have:(b.getD n 0==0)=false:=by simpa using h0
     rw[this,if_neg h0,ajz,ajx (by omega),akA];rfl
 exact key b.length (ajL _) N hN
theorem mn {N:Nat} (b:List Int) (hb:InWq b) (hN:b.length<N) (hs:b.length<9223372036854775807) (k:Kz3) :
  (A9 N b λl=>(decide (0+l<=b.length))&&k (List.take l (List.drop 0 b)))=k (ae (ax b)):=by
 rw[Ew b hN hs,ak2,Bi hb];have:=lG b b.length;rw[ajx (by omega)]; rfl
theorem yq {N:Nat} (hN:1000<=N) (n:Nat) (hn:n<18446744073709551616) (k:Kz3):jw N (n:Int) k=k (ae n):=by
 unfold jw Dt;have hw:InWq [(n:Int)]:=by intro x hx;simp only[akY,alx,or_false]at hx;subst hx; omega
 have hv:ax [(n:Int)]=n:=by simp only[ax]; omega
 have:=mn (N:=N) [(n:Int)] hw (by simp; omega) (by simp) k;rw[hv]at this;exact this
theorem BQ {N:Nat} (l:List Int) (h:l.length<=1099511627776) (k:Kz3):tZ N l k=k l:=by unfold tZ VT;rw[akl,ajx (by omega),akA]
theorem qU (N:Nat) (l:List Int) (i:Nat) (hi:i<9223372036854775807) (k:Ky9):CP N l (i:Int) k=k (l.getD i 0):=by
 unfold CP V3;by_cases h:i<l.length
 ·rw[ajx (by omega:(i:Int)<((l.length:Nat):Int)),ajA,aa ajw,ajD]
 ·rw[ajy (by omega:¬(i:Int)<((l.length:Nat):Int)),ajz,e_ (by omega)]
theorem qS (N:Nat) {x y c:Int} {a b d:Nat} (hx:x=(a:Int)) (hy:y=(b:Int)) (hz:c=(d:Int)) (hc:d<=1) (k:Ky1):sQ6 N x y c k=k (((a+b+d)%18446744073709551616:Nat):Int) (((a+b+d) / 18446744073709551616:Nat):Int):=by subst hx hy hz;show(decide (Int.toNat (d:Int)<=1)&&_)=_;rw[ajD,ajx hc]; rfl
theorem BP (N:Nat) {x y c:Int} {a b d:Nat} (hx:x=(a:Int)) (hy:y=(b:Int)) (hz:c=(d:Int)) (hc:d<=1) (k:Ky1):J5 N x y c k=k (((a+18446744073709551616 - b - d)%18446744073709551616:Nat):Int) (if a<b+d then 1 else 0):=by
 subst hx hy hz;show(decide (Int.toNat (d:Int)<=1)&&_)=_;rw[ajD,ajx hc];show k _ (cond (decide (a<b+d)) 1 0)=_;by_cases h:a<b+d
 ·rw[ajx h,if_pos h]; rfl
 ·rw[ajy h,if_neg h]; rfl
theorem UT (a b:Nat):imm true (a:Int) (b:Int)=((max a b:Nat):Int):=by
 unfold imm; simp only[ajA];by_cases h:(b:Int)>a
 ·rw[ajx h,ajA]; omega
 ·rw[ajy h,ajz]; omega
theorem SH {N:Nat} (a b:List Int) (ha:InWq a) (hb:InWq b) (hNa:ny N a) (hNb:ny N b) (k:Kz3):BW N a b k=k (ae (ax a+ax b)):=by
 (unfold BW; rw[af]; unfold Bm)
 obtain⟨a1,a2⟩:=hNa;obtain⟨b1,b2⟩:=hNb;rw[UT]
 let L:=max a.length b.length
 have hLa:a.length<=L:=Nat.le_max_left _ _;have hLb:b.length<=L:=Nat.le_max_right _ _;have hLN:L+3<N:=by simp only[L]; omega
 have hLs:L<=1099511627776:=by simp only[L]; omega
 show(ah .i64 ((L:Int)+1)&&_)=_;have eL:Int.toNat ((L:Int)+1)=L+1:=by omega
 rw[aa ajv,aa (bR (by omega) (by omega) (by omega) (by omega)),eL]
 let S:=ax a+ax b
 let T:=λi=>ax (a.take i)+ax (b.take i)
 refine aH (λi=>(((T i / 18446744073709551616 ^ i:Nat):Int),(i:Int),dlq S i++List.replicate (L+1 - i) 0)) L (by simp[T,ax,dlq]) (by omega) (λi hi K=>?_) (λK=>?_)
 ·have hx:=ha.at (i:=i);have hy:=hb.at (i:=i);have hT:T (i+1)=T i+18446744073709551616 ^ i*((a.getD i 0).toNat+(b.getD i 0).toNat):=by simp only[T,aN,ajP]; omega
  have hq:T (i+1) / 18446744073709551616 ^ i=T i / 18446744073709551616 ^ i+((a.getD i 0).toNat+(b.getD i 0).toNat):=by rw[hT,cO]
  have hc:T i / 18446744073709551616 ^ i<=1:=by
   have h1:=aS ha i;have h2:=aS hb i;have h3:T i<18446744073709551616 ^ i*2:=by simp only[T]; omega
   have:=(ajH (akE (n:=i) (by decide:0<18446744073709551616))).2 (by rw[ajB]; exact h3:T i<2*18446744073709551616 ^ i);omega
  have hdiv:T (i+1) / 18446744073709551616 ^ (i+1)=T (i+1) / 18446744073709551616 ^ i / 18446744073709551616:=by rw[ajK,ajF]
  have hdig:S / 18446744073709551616 ^ i%18446744073709551616=T (i+1) / 18446744073709551616 ^ i%18446744073709551616:=by obtain⟨R1,h1⟩:=bF a (i+1);obtain⟨R2,h2⟩:=bF b (i+1);refine jL (R:=R1+R2) ?_;simp only[S,T];rw[ajP]; omega
  have hset:=yg S i (L+1) (by omega);have hlen:(dlq S i++List.replicate (L+1 - i) 0).length=L+1:=by simp[ak]; omega
  simp only[qG];rw[ajx (by omega:(i:Int)<((max a.length b.length:Nat):Int)),ajA,qU N a i (by omega),qU N b i (by omega),qS N (a:=(a.getD i 0).toNat) (b:=(b.getD i 0).toNat) (d:=T i / 18446744073709551616 ^ i) (by omega) (by omega) rfl hc,hlen,aa ajw,aa (ajx (by omega)),aa ajv,ajD];have e1:(a.getD i 0).toNat+(b.getD i 0).toNat+T i / 18446744073709551616 ^ i=T (i+1) / 18446744073709551616 ^ i:=by rw[hq]; omega
  rw[e1,<- hdig,<- hdiv,hset];rfl
 ·simp only[qG];rw[ajy (by omega:¬(L:Int)<((max a.length b.length:Nat):Int)),ajz];have hT:T L=S:=by simp only[T,S]; rw[ajV hLa,ajV hLb]
  have hS:S<18446744073709551616 ^ (L+1):=by have h1:=aS ha L;have h2:=aS hb L;rw[ajV hLa]at h1;rw[ajV hLb]at h2;rw[ajK];simp only[S]; omega
  have hlen:(dlq S L++List.replicate (L+1 - L) 0).length=L+1:=by simp[ak]
  have hcl:S / 18446744073709551616 ^ L<18446744073709551616:=by rw[ajH (akE (by decide)),ajB,<- ajK]; exact hS
  have e2:((T L / 18446744073709551616 ^ L:Nat):Int)=((S / 18446744073709551616 ^ L%18446744073709551616:Nat):Int):=by rw[hT,ajJ hcl]
  have hset:=yg S L (L+1) (by omega);rw[e2,ajD,hset,hlen,aa ajw,aa (ajx (by omega)),aj8,aka,aj6,
   mn _ (il S _) (by rw[ak]; omega) (by rw[ak]; omega),oy hS]
theorem qT {N:Nat} (a b:List Int) (ha:InWq a) (hb:InWq b) (hle:ax b<=ax a) (hN:ny N a) (k:Kz3):CO N a b k=k (ae (ax a - ax b)):=by
 obtain⟨hN1,hN2⟩:=hN
 (unfold CO; rw[af]; unfold QB)
 rw[aa (bR (by omega) (by omega) (by omega) (by omega)),ajD]
 let D:=ax a - ax b
 let bo:=λi=>if ax (a.take i)<ax (b.take i)then(1:Nat)else 0
 refine aH (λi=>(((bo i:Nat):Int),(i:Int),dlq D i++List.replicate (a.length - i) 0)) a.length (by simp[bo,ax,dlq]) (by omega) (λi hi K=>?_) (λK=>?_)
 ·have hx:=ha.at (i:=i);have hy:=hb.at (i:=i);have hA:=aN (m:=a) i;have hB:=aN (m:=b) i;have hAl:=aS ha i;have hBl:=aS hb i;have hset:=yg D i a.length (by omega);have hl:(dlq D i++List.replicate (a.length - i) 0).length=a.length:=by simp[ak]; omega
  obtain⟨R1,h1⟩:=bF a (i+1);obtain⟨R2,h2⟩:=bF b (i+1);have hD:(D:Int)=(ax a:Int) - (ax b:Int):=by simp only[D]; omega
  have hPs:18446744073709551616 ^ (i+1)=18446744073709551616 ^ i*18446744073709551616:=ajK ..;have hbo:bo i<=1:=by simp only[bo]; split <;> omega
  have hbs:bo (i+1)=if (a.getD i 0).toNat<(b.getD i 0).toNat+bo i then 1 else 0:=by simp only[bo,hA,hB];exact sA _ _ _ _ _ hAl hBl
  have hq:((D / 18446744073709551616 ^ i:Nat):Int)=((a.getD i 0).toNat:Int) - ((b.getD i 0).toNat:Int) - (bo i:Int)+18446744073709551616*((R1:Int) - (R2:Int)):=by rw[hA,hPs]at h1;rw[hB,hPs]at h2;exact F2 hAl hBl rfl h1 h2 hD
  have hdig:((D / 18446744073709551616 ^ i%18446744073709551616:Nat):Int)=(((a.getD i 0).toNat:Int) - ((b.getD i 0).toNat:Int) - (bo i:Int))%18446744073709551616:=by rw[Int.natCast_emod,hq];exact Int.add_mul_emod_self_left _ _ _
  simp only[oj];rw[ajx (by omega:(i:Int)<a.length),ajA,aa ajw,qU N b i (by omega),ajD,BP N (a:=(a.getD i 0).toNat) (b:=(b.getD i 0).toNat) (d:=bo i) (by omega) (by omega) rfl hbo,hl,aa ajw,aa (ajx (by omega)),aa ajv];have e1:(((((a.getD i 0).toNat+18446744073709551616 - (b.getD i 0).toNat - bo i)%18446744073709551616:Nat)):Int)=((D / 18446744073709551616 ^ i%18446744073709551616:Nat):Int):=by rw[hdig]; omega
  have e2:(if (a.getD i 0).toNat<(b.getD i 0).toNat+bo i then(1:Int)else 0)=((bo (i+1):Nat):Int):=by rw[hbs]; split <;> rfl
  rw[e1,e2,hset];rfl
 ·simp only[oj];rw[ajy (by omega:¬(a.length:Int)<a.length),ajz,aj8,aka,aj6];have hS:D<18446744073709551616 ^ a.length:=by have:=ju ha; simp only[D]; omega
  rw[mn _ (il D _) (by rw[ak]; omega) (by rw[ak]; omega),oy hS]
theorem Ft {N:Nat} (a b:List Int) (ha:InWq a) (hb:InWq b) (hl:a.length=b.length) (hs:a.length<9223372036854775807) (k:Ky9) :
  ∀ n,n<=a.length -> ∀ M,n<M->al M (Ah N a b (λt4=>k t4) (k 0)) ((n:Int) - 1)=k (d8 (ax (a.take n)) (ax (b.take n))):=by
 intro n;induction n with
 | zero=>
  intro _ M hM;cases M with
  | zero=>omega
  | succ M=>
   show Ah N a b _ _ ((0:Nat) - 1:Int) _=_;simp[Ah,d8,ax]
 | succ n ih=>
  intro hn M hM;cases M with
  | zero=>omega
  | succ M=>
   show Ah N a b _ _ (((n+1:Nat):Int) - 1) (al M _)=_;have e:(((n+1:Nat):Int) - 1)=(n:Int):=by omega
   have hx:=ha.at (i:=n);have hy:=hb.at (i:=n);have hA:=aN (m:=a) n;have hB:=aN (m:=b) n;have hAl:=aS ha n;have hBl:=aS hb n;rw[e];simp only[Ah,ajD];rw[hA,hB,ajx (by omega:(n:Int)>=0),ajA,aa ajw,aa ajw,aa ajw,aa ajw,aa ajv,ih (by omega) M (by omega)];by_cases h0:a.getD n 0=b.getD n 0
   ·rw[show(a.getD n 0 != b.getD n 0)=false by simpa using h0,ajz,h0,IC]
   ·rw[show(a.getD n 0 != b.getD n 0)=true by simpa using h0,ajA];by_cases h1:a.getD n 0<b.getD n 0
    ·rw[ajx h1,ajA,RS hAl (by omega)]
    ·rw[ajy h1,ajz,RQ hBl (by omega)]
theorem jN {N:Nat} (x y:Nat) (hx:ny N (ae x)) (hy:ny N (ae y)) (k:Ky9):HL N (ae x) (ae y) k=k (d8 x y):=by
 (unfold HL; rw[af]; unfold Xu)
 obtain⟨x1,x2⟩:=hx;obtain⟨y1,y2⟩:=hy;by_cases h:(ae x).length=(ae y).length
 ·have e:(((ae x).length:Int) != (ae y).length)=false:=by rw[h]; simp
  rw[e,ajz,aa ajv,Ft (ae x) (ae y) (aY x) (aY y) h (by omega) k _ (ajL _) N (by omega),akd,h,akd,aF,aF]
 ·have e:(((ae x).length:Int) != (ae y).length)=true:=by simp; omega
  rw[e,ajA];by_cases h1:(ae x).length<(ae y).length
  ·rw[ajx (by omega),ajA];have:x<y:=by
    rcases akv x y with h2 | h2
    ·exact h2
    ·have:=dx h2; omega
   unfold d8; rw[if_pos this]
  ·rw[ajy (by omega),ajz];have:¬ x<=y:=λh2=>by have:=dx h2; omega
   unfold d8; rw[if_neg (by omega),if_neg (by omega)]
def wZ (z:Int) (k:Ky2):Bool:=k (decide (z<0)) (ae z.natAbs)
theorem tG (n:Nat):decide (((ae n).length:Int)>0)=decide (n ≠ 0):=by
 by_cases h:n=0
 ·subst h; rw[bh]; simp
 ·rw[bS h,aj9,ajx (by omega),ajx h]
theorem JW (g:Bool) (n:Nat) (k:Ky2):k (sg g n) (ae n)=wZ (aZ g n) k:=by
 unfold wZ aZ sg;cases g
 ·simp only[akL,aj5,alR,ake];rw[ajy (by omega)]
 ·simp only[ak6,akA,alA,ake];congr 1;by_cases h:n=0
  ·subst h; rfl
  ·rw[ajx h,ajx (by omega)]
theorem S4 (g:Bool) (n:Nat) (k:Ky2):cond (g==true) (k (decide (((ae n).length:Int)>0)) (ae n)) (k false (ae n))=wZ (aZ g n) k:=by rw[tG,<- JW];cases g <;> rfl
theorem LQ {N:Nat} (g b:Bool) (n:Nat) (k:Ky2):HJ N g (ae n) b (λcr=>k cr (ae n))=wZ (aZ g n) k:=S4 g n k
theorem rC {N:Nat} (g b:Bool) (l:List Int) (n:Nat) (k:Ky2):GD N g (ae n) b l (λcr=>k cr (ae n))=wZ (aZ g n) k:=S4 g n k
theorem MT (g1 g2:Bool) (n1 n2:Nat) (k:Ky2) :
  cond (g1==g2) (wZ (aZ g2 (n1+n2)) k) (cond (decide (d8 n1 n2>=0)) (wZ (aZ g1 (n1 - n2)) k) (wZ (aZ g2 (n2 - n1)) k))=wZ (aZ g1 n1+aZ g2 n2) k:=by
 rw[yd];have key:∀ a b:Int,a=b->wZ a k=wZ b k:=λa b h=>by rw[h]
 cases g1 <;> cases g2 <;> simp only[aZ] <;> by_cases h:n2<=n1 <;> simp only[h,aml,amA,ajA,ajz,alg,akL,ak6,aj5,(by decide:(false==true)=false),(by decide:(true==false)=false)] <;> refine key _ _ ?_ <;> omega
theorem Ir (n:Nat):aE .and .u64 (n:Int) 4294967295=((n%4294967296:Nat):Int):=by
 have h:=l7 n 32 (by decide);have e1:((2 ^ 32 - 1:Nat):Int)=4294967295:=by decide
 have e2:(2:Nat) ^ 32=4294967296:=by decide
 rw[e1,e2]at h;exact h
theorem YO (p00 p10 p01 p11:Nat):(p11*18446744073709551616+(p10+p01)*4294967296+p00) / 18446744073709551616=p11+(p10+p00 / 4294967296) / 4294967296+((p10+p00 / 4294967296)%4294967296+p01) / 4294967296:=by omega
theorem Px (x y:Nat):x*y=(x / 4294967296)*(y / 4294967296)*18446744073709551616+((x / 4294967296)*(y%4294967296)+(x%4294967296)*(y / 4294967296))*4294967296+(x%4294967296)*(y%4294967296):=by have hx:=aks x 4294967296;have hy:=aks y 4294967296;generalize x / 4294967296=a at *;generalize x%4294967296=b at *;generalize y / 4294967296=c at *;generalize y%4294967296=d at *;subst hx hy;grind
theorem BO (N:Nat) {x y:Nat} (hx:x<18446744073709551616) (hy:y<18446744073709551616) (k:Ky1):J6 N (x:Int) (y:Int) k=k ((x*y / 18446744073709551616:Nat):Int) ((x*y%18446744073709551616:Nat):Int):=by
 (unfold J6; rw[af]; unfold Qv)
 have fx:Int.fdiv (x:Int) (2 ^ 32)=((x / 4294967296:Nat):Int):=by rw[l8]; rfl
 have fy:Int.fdiv (y:Int) (2 ^ 32)=((y / 4294967296:Nat):Int):=by rw[l8]; rfl
 rw[Ir,Ir,fx,fy];have hs:=Px x y;have b0:x / 4294967296<=4294967295:=by omega
 have b1:x%4294967296<=4294967295:=by omega
 have b2:y / 4294967296<=4294967295:=by omega
 have b3:y%4294967296<=4294967295:=by omega
 have m00:=ako b1 b3;have m10:=ako b0 b3;have m01:=ako b1 b2;have m11:=ako b0 b2;have hh:=YO ((x%4294967296)*(y%4294967296)) ((x / 4294967296)*(y%4294967296)) ((x%4294967296)*(y / 4294967296)) ((x / 4294967296)*(y / 4294967296));rw[<- hs]at hh;rw[<- ajU,<- ajU,<- ajU,<- ajU,<- ajU];have hlt:x*y<=18446744073709551615*18446744073709551615:=ako (by omega) (by omega);generalize x*y=P at *;generalize (x%4294967296)*(y%4294967296)=p00 at *;generalize (x / 4294967296)*(y%4294967296)=p10 at *;generalize (x%4294967296)*(y / 4294967296)=p01 at *;generalize (x / 4294967296)*(y / 4294967296)=p11 at *;have t1:IntKind.wrap .u64 (IntKind.wrap .u64 (p10:Int)+Int.fdiv (IntKind.wrap .u64 (p00:Int)) (2 ^ 32))=((p10+p00 / 4294967296:Nat):Int):=by simp only[aq,l8]; omega
 rw[t1,Ir];congr 1
 ·rw[hh];simp only[aq,l8];omega
theorem Ev (N:Nat) {x y c d:Int} {a b e f:Nat} (hx:x=(a:Int)) (hy:y=(b:Int)) (hc:c=(e:Int)) (hd:d=(f:Int)) (ha:a<18446744073709551616) (hb:b<18446744073709551616) (he:e<18446744073709551616) (hf:f<18446744073709551616) (k:Ky1) :
  nP N x y c d k=k (((a*b+e+f) / 18446744073709551616:Nat):Int) (((a*b+e+f)%18446744073709551616:Nat):Int):=by
 subst hx hy hc hd
 (unfold nP; rw[af]; unfold zo)
 have hlt:a*b<=18446744073709551615*18446744073709551615:=ako (by omega) (by omega);rw[BO N ha hb];generalize a*b=P at *;rw[qS N (c:=0) (a:=P%18446744073709551616) (b:=e) (d:=0) rfl rfl rfl (by omega),qS N (c:=0) (a:=(P%18446744073709551616+e+0)%18446744073709551616) (b:=f) (d:=0) rfl rfl rfl (by omega)];congr 1
 ·simp only[aq]; omega
 ·omega
theorem LJ {N:Nat} (a b:List Int) (ha:InWq a) (hb:InWq b) (hN:a.length+b.length+2<N) (hs:a.length+b.length<=1099511627776) (k:Kz3):Db N a b k=k (ae (ax a*ax b)):=by
  (unfold Db; rw[af]; unfold XC)
  by_cases a0:a.length=0
  · have:a=[]:=List.length_eq_zero_iff.1 a0
    subst this;show k []=k (ae (0*ax b));rw[akW,bh]
  by_cases b0:b.length=0
  · have:b=[]:=List.length_eq_zero_iff.1 b0
    subst this;have e:(((a.length:Nat):Int)==0)=false:=by simp; intro h; subst h; simp at a0
    rw[e,show(false==false)=true from rfl,ajA];show k []=k (ae (ax a*0));rw[akQ,bh]
  have e0:(((a.length:Nat):Int)==0)=false:=by simp; intro h; subst h; simp at a0
  have e1:(((b.length:Nat):Int)==0)=false:=by simp; intro h; subst h; simp at b0
  rw[e0,e1,show(false==false)=true from rfl,ajA,ajz];have eL:Int.toNat (((a.length:Nat):Int)+((b.length:Nat):Int))=a.length+b.length:=by omega
  rw[aa ajv,aa (bR (by omega) (by omega) (by omega) (by omega)),eL]
  let L:=a.length+b.length
  let B:=ax b
  have hB:B<18446744073709551616 ^ b.length:=ju hb;refine aH (λi=>((i:Int),dlq (ax (a.take i)*B) L)) a.length ?_ (by omega) (λi hi K=>?_) (λK=>?_)
  · show((0:Int),List.replicate L (0:Int))=(((0:Nat):Int),dlq (ax (a.take 0)*B) L)
    have:=wN L 0;rw[akQ]at this;rw[alS,show ax []=0 from rfl,akW,this]; rfl
  · simp only[mJ]
    rw[ajx (by omega:(i:Int)<a.length),ajA,aa ajw,ajD];have hx:=ha.at (i:=i)
    let V:=ax (a.take i)*B
    let x:=(a.getD i 0).toNat
    let U:=ax (a.take (i+1))*B
    have hU:U=V+x*B*18446744073709551616 ^ i:=by simp only[U,V,x];rw[tV];grind
    have hV:V<18446744073709551616 ^ (i+b.length):=xe (xg ha i) hB;have hUl:U<18446744073709551616 ^ (i+1+b.length):=xe (xg ha (i+1)) hB
    let c:=λj=>(V%18446744073709551616 ^ (i+j)+x*ax (b.take j)*18446744073709551616 ^ i) / 18446744073709551616 ^ (i+j)
    refine aH (λj=>(((c j:Nat):Int),(j:Int),dlq U (i+j)++(dlq V L).drop (i+j))) b.length ?_ (by omega) (λj hj K'=>?_) (λK'=>?_)
    · show((0:Int),(0:Int),dlq V L)=_
      have h0:c 0=0:=by simp only[c,alS,show ax []=0 from rfl,akQ,akW,aj4];exact aj3 (ajN _ (akE (by decide)))
      have hlow:dlq U i=dlq V i:=by
        have:∀ n,n<=i->dlq U n=dlq V n:=by
          intro n;induction n with
          | zero=>intro _; rfl
          | succ n ih=>
            intro hn;show dlq U n++[_]=dlq V n++[_];rw[ih (by omega)];congr 3;have:U=V+18446744073709551616 ^ (n+1)*(x*B*18446744073709551616 ^ (i - (n+1))):=by rw[hU,ajZ,<- ajR,show n+1+(i - (n+1))=i by omega]
            exact jL this
        exact this i (ajL _)
      have hsp:dlq V i++(dlq V L).drop i=dlq V L:=by
        have:∀ n,i<=n->dlq V i++(dlq V n).drop i=dlq V n:=by
          intro n;induction n with
          | zero=>intro h; have:i=0:=(by omega); subst this; rfl
          | succ n ih=>
            intro h;by_cases hn:i=n+1
            · subst hn; rw[aki (by rw[ak]; omega),aj6]
            · show dlq V i++(dlq V n++[_]).drop i=dlq V n++[_]
              rw[akw (by rw[ak]; omega),<- ajQ,ih (by omega)]
        exact this L (by simp only[L]; omega)
      rw[h0,aj4,hlow,hsp]; rfl
    · have hy:=hb.at (i:=j)
      have hp:i+j<L:=by simp only[L]; omega
      have hlen:=Ct U V L (i+j) (by omega);have hget:=IW U V L (i+j) hp;have hset:=Cu U V L (i+j) hp;have hc:=OE (V:=V) (x:=x) (i:=i) (k:=j) (Bk:=ax (b.take j)) (by simp only[x]; omega) (xg hb j);have hstep:=Iz V x (ax (b.take j)) (b.getD j 0).toNat i j;obtain⟨R,hR⟩:=bF b (j+1);have hdig:=G6 V x (ax (b.take j)) (b.getD j 0).toNat i j R;rw[<- tV]at hstep hdig;rw[<- hR]at hdig;have hUe:V+x*ax b*18446744073709551616 ^ i=U:=hU.symm;rw[hUe]at hdig;have hxy:x*(b.getD j 0).toNat<=18446744073709551615*18446744073709551615:=ako (by simp only[x]; omega) (by omega);have eidx:Int.toNat ((i:Int)+(j:Int))=i+j:=by omega
      have hcj:∀ n,c n=(V%18446744073709551616 ^ (i+n)+x*ax (b.take n)*18446744073709551616 ^ i) / 18446744073709551616 ^ (i+n):=λ_=>rfl
      have hax:a.getD i 0=(x:Int):=by simp only[x]; omega
      have hby:b.getD j 0=((b.getD j 0).toNat:Int):=by omega
      have ec1:c (j+1)=(c j+V / 18446744073709551616 ^ (i+j)%18446744073709551616+x*(b.getD j 0).toNat) / 18446744073709551616:=hstep;have ed:U / 18446744073709551616 ^ (i+j)%18446744073709551616=(c j+V / 18446744073709551616 ^ (i+j)%18446744073709551616+x*(b.getD j 0).toNat)%18446744073709551616:=hdig;have hcl:c j<18446744073709551616:=hc;rw[ed]at hset;have vlt:V / 18446744073709551616 ^ (i+j)%18446744073709551616<18446744073709551616:=ajN _ (by decide);have hxl:x<18446744073709551616:=by simp only[x]; omega
      have hyl:(b.getD j 0).toNat<18446744073709551616:=by omega
      simp only[mK,ajD,eidx,hlen];rw[ajx (by omega:(j:Int)<((b.length:Nat):Int)),ajA,aa ajw,aa ajv,aa ajv,aa ajw,aa (ajx (by omega)),Ev N hax hby hget rfl hxl hyl vlt hcl,aa ajw,aa (ajx (by omega)),aa ajv];rw[show i+(j+1)=i+j+1 by omega,<- hset];have ez:x*(b.getD j 0).toNat+V / 18446744073709551616 ^ (i+j)%18446744073709551616+c j=c j+V / 18446744073709551616 ^ (i+j)%18446744073709551616+x*(b.getD j 0).toNat:=by omega
      rw[ez,ec1];rfl
    · simp only[mK]
      rw[ajy (by omega:¬(b.length:Int)<b.length),ajz];have hlen:=Ct U V L (i+b.length) (by simp only[L]; omega);have hset:=Cu U V L (i+b.length) (by simp only[L]; omega);have eidx:Int.toNat ((i:Int)+(b.length:Int))=i+b.length:=by omega
      have hLe:i+b.length<L:=by simp only[L]; omega
      have hc:c b.length=U / 18446744073709551616 ^ (i+b.length):=by simp only[c];rw[akd,ajJ hV,hU]
      have hcl:U / 18446744073709551616 ^ (i+b.length)<18446744073709551616:=by
        rw[ajH (akE (by decide))];have:i+1+b.length=i+b.length+1:=by omega
        rw[this,ajK]at hUl;omega
      have ew:((c b.length:Nat):Int)=((U / 18446744073709551616 ^ (i+b.length)%18446744073709551616:Nat):Int):=by rw[hc,ajJ hcl]
      have hfin:=Lf (U:=U) (V:=V) (L:=L) (p:=i+b.length+1) (by rw[show i+b.length+1=i+1+b.length by omega]; exact hUl) (by omega) (ajS hV (ajO (by decide) (by omega)));rw[aa ajv,eidx,hlen,aa ajw,aa (ajx (by omega)),aa ajv,ew,hset,hfin];rfl
  · simp only[mJ]
    rw[ajy (by omega:¬(a.length:Int)<a.length),ajz,akd,mn _ (il _ _) (by rw[ak]; simp only[L]; omega) (by rw[ak]; simp only[L]; omega)];rw[oy (xe (ju ha) hB)]
theorem HG (n:Nat):2 ^ n=18446744073709551616 ^ (n / 64)*2 ^ (n%64):=by
 have e:(18446744073709551616:Nat)=2 ^ 64:=by decide
 rw[e,<- amt,<- ajR];congr 1; omega
theorem bb (i:Nat):0<18446744073709551616 ^ i:=akE (by decide)
theorem Pb {N:Nat} (m:List Int) (hm:InWq m) (n:Nat) (hn:n<4294967296) (hN:m.length+n / 64+4<N) (hs:m.length<=1099511627776) (k:Kz3):Aa N m n k=k (ae (ax m*2 ^ n)):=by
 (unfold Aa; rw[af]; unfold zp)
 by_cases h0:m.length=0
 ·have:m=[]:=List.length_eq_zero_iff.1 h0;subst this;show k []=k (ae (0*2 ^ n));rw[akW,bh]
 ·have e0:((m.length:Int)==0)=false:=by simp; intro h; subst h; simp at h0
  have ew:IntKind.wrap .u64 (Int.tdiv (n:Int) 64)=((n / 64:Nat):Int):=by rw[aq,aky (by omega)]; omega
  have es:Int.tmod (n:Int) 64=((n%64:Nat):Int):=by rw[akq (by omega)]; rfl
  rw[e0,ajz,ew,es];have hw6:n / 64<67108864:=by omega
  generalize hw:n / 64=w at *;generalize hsh:n%64=s at *;have hs32:s<64:=by omega
  have hp2:2 ^ n=18446744073709551616 ^ w*2 ^ s:=by rw[HG,hw,hsh]
  have hs0:0<2 ^ s:=ajM s;have hs1:2 ^ s*2 ^ (64 - s)=18446744073709551616:=by rw[<- ajR,show s+(64 - s)=64 by omega]
  have elen:Int.toNat (((w:Nat):Int)+(m.length:Int)+1)=w+m.length+1:=by omega
  rw[aa ajv,aa ajv,aa ajv,aa (bR (by omega) (by omega) (by omega) (by omega)),elen]
  let V:=ax m*2 ^ n
  let X:=ax m*2 ^ s
  have hVX:V=18446744073709551616 ^ w*X:=by simp only[V,X]; rw[hp2,ajZ]
  let T:=λi=>ax (m.take i)*2 ^ s
  let c:=λi=>T i / 18446744073709551616 ^ i
  have hcl:∀ i,c i<2 ^ s:=by intro i;simp only[c,T];rw[ajH (bb i),ajB];exact akF (aS hm i) hs0
  refine aH (λi=>((i:Int),dlq V (w+i)++((c i:Nat):Int)::List.replicate (m.length - i) 0)) m.length ?_ (by omega) (λi hi K=>?_) (λK=>?_)
  ·congr 1;show List.replicate (w+m.length+1) (0:Int)=dlq V w++((c 0:Nat):Int)::List.replicate m.length 0;rw[hVX,wN];have hc0:c 0=0:=by simp[c,T,ax]
   rw[hc0];have:w+m.length+1=w+(m.length+1):=by omega
   rw[this,<- alc,akh]; rfl
  ·have hx:=hm.at (i:=i);have hT:T (i+1)=T i+18446744073709551616 ^ i*((m.getD i 0).toNat*2 ^ s):=by simp only[T,aN,aj2,ajI]
   have hq:T (i+1) / 18446744073709551616 ^ i=c i+(m.getD i 0).toNat*2 ^ s:=by rw[hT,cO]
   have hci:c i<2 ^ s:=hcl i;have hc1:c (i+1)=(c i+(m.getD i 0).toNat*2 ^ s) / 18446744073709551616:=by rw[<- hq]; simp only[c]; rw[ajK,ajF]
   have hdig:V / 18446744073709551616 ^ (w+i)%18446744073709551616=(c i+(m.getD i 0).toNat*2 ^ s)%18446744073709551616:=by rw[<- hq,hVX,ajR,<- ajF,aj7 _ (bb w)];obtain⟨R,hR⟩:=bF m (i+1);refine jL (R:=R*2 ^ s) ?_;simp only[X,T];rw[hR,aj2,ajI]
   have hrep:List.replicate (m.length - i) (0:Int)=0::List.replicate (m.length - (i+1)) 0:=by rw[show m.length - i=(m.length - (i+1))+1 by omega,akh]
   have hdl:=ak V (w+i);have ei:Int.toNat ((w:Int)+(i:Int))=w+i:=by omega
   have ei1:Int.toNat ((w:Int)+(i:Int)+1)=w+i+1:=by omega
   have emin:min s 64=s:=by omega
   have e64:min (Int.toNat (IntKind.wrap .u64 (64 - (s:Int)))) 64=64 - s:=by rw[aq]; omega
   simp only[fH,ajD,ei,ei1,emin,e64];rw[hrep,bX hdl.symm,be _ _ _ _ _ hdl.symm];have hmx:m.getD i 0=(((m.getD i 0).toNat:Nat):Int):=by omega
   rw[hmx];generalize hxx:(m.getD i 0).toNat=x at *;have hx32:x<18446744073709551616:=by omega
   have hlow:x*2 ^ s%18446744073709551616=2 ^ s*(x%2 ^ (64 - s)):=by
    have e:x*2 ^ s%(2 ^ s*2 ^ (64 - s))=2 ^ s*(x%2 ^ (64 - s)):=by rw[ajB x]; exact ak_ _ _ _
    rwa [hs1]at e
   have hsum:2 ^ s*(x%2 ^ (64 - s))+c i<18446744073709551616:=by have h1:x%2 ^ (64 - s)+1<=2 ^ (64 - s):=ajN _ (ajM _);have h2:=ajG (2 ^ s) h1;rw[hs1,ajP]at h2;omega
   have epw:(x:Int)*2 ^ s=((x*2 ^ s:Nat):Int):=by rw[ajU,ak1]; rfl
   have eor:aE .or .u64 ((c i:Nat):Int) (IntKind.wrap .u64 ((x:Int)*2 ^ s))=((V / 18446744073709551616 ^ (w+i)%18446744073709551616:Nat):Int):=by
    have e1:IntKind.wrap .u64 ((x*2 ^ s:Nat):Int)=((2 ^ s*(x%2 ^ (64 - s)):Nat):Int):=by rw[<- hlow,aq]; omega
    rw[epw,e1,cE _ _ s hci hsum,hdig];omega
   have ehi:Int.fdiv (x:Int) (2 ^ (64 - s))=((c (i+1):Nat):Int):=by
    have e2:(2:Int) ^ (64 - s)=((2 ^ (64 - s):Nat):Int):=by rw[ak1]; rfl
    rw[e2,mp,hc1];have:(c i+x*2 ^ s) / 18446744073709551616=x / 2 ^ (64 - s):=by rw[<- hs1,<- ajF,ajB x,akt _ _ hs0,aj3 hci,aj1]
    rw[this]
   rw[eor,ehi];have hl1:∀(a b:Int) (ys:List Int),(dlq V (w+i)++a::b::ys).length=w+i+2+ys.length:=by intro a b ys; simp[hdl]; omega
   have hset2:(dlq V (w+i)++((V / 18446744073709551616 ^ (w+i)%18446744073709551616:Nat):Int)::0::List.replicate (m.length - (i+1)) 0).set (w+i+1) ((c (i+1):Nat):Int)=dlq V (w+(i+1))++((c (i+1):Nat):Int)::List.replicate (m.length - (i+1)) 0:=by
    have:dlq V (w+i)++((V / 18446744073709551616 ^ (w+i)%18446744073709551616:Nat):Int)::0::List.replicate (m.length - (i+1)) 0=dlq V (w+(i+1))++0::List.replicate (m.length - (i+1)) 0:=by rw[<- akf,dlq]; simp
    rw[this];exact be _ _ _ _ _ (by rw[ak]; omega)
   rw[hset2,hl1,hl1];simp only[akV];rw[ajx (by omega:(i:Int)<((m.length:Nat):Int)),ajA,aa ajw,aa ajv,aa ajw,aa (ajx (by omega)),aa (ajx (by omega)),aa ajw,aa (ajx (by omega)),aa ajv,aa ajv,aa (ajx (by rw[aq]; omega)),aa ajw,aa (ajx (by omega)),aa ajv];rfl
  ·simp only[fH];rw[ajy (by omega:¬(m.length:Int)<m.length),ajz,aj8,aka];have hV:V<18446744073709551616 ^ (w+m.length+1):=by
    have h1:=ju hm;simp only[V];rw[hp2,ajK,ajR,ajZ,ajI];refine akF ?_ (bb w);have hs2:2 ^ s<=18446744073709551616:=by rw[<- hs1]; exact akk _ (ajM _)
    exact akg h1 hs2 (by decide)
   have hT:T m.length=X:=by simp only[T,X]; rw[akd]
   have hend:dlq V (w+m.length)++[((c m.length:Nat):Int)]=dlq V (w+m.length+1):=by
    rw[dlq];have:c m.length=V / 18446744073709551616 ^ (w+m.length)%18446744073709551616:=by
     have hX:V / 18446744073709551616 ^ (w+m.length)=X / 18446744073709551616 ^ m.length:=by rw[hVX,ajR,<- ajF,aj7 _ (bb w)]
     have h2:=hcl m.length;have hs2:2 ^ s<=18446744073709551616:=by rw[<- hs1]; exact akk _ (ajM _)
     rw[hX,<- hT];exact(ajJ (by show c m.length<_; omega)).symm
    rw[this]
   rw[hend,mn _ (il V _) (by rw[ak]; omega) (by rw[ak]; omega),oy hV]
theorem q_:∀(i V:Nat),(ae V).getD i 0=((V / 18446744073709551616 ^ i%18446744073709551616:Nat):Int)
 | i,V=>by
  by_cases h:V=0
  ·subst h; rw[bh]; simp
  ·rw[bS h];cases i with
   | zero=>simp
   | succ i=>
    show(ae (V / 18446744073709551616)).getD i 0=_;rw[q_ i (V / 18446744073709551616),ajK,ajB,<- ajF]
theorem yk {l:List Int} {n i:Nat} (h:i<n):(l.take n).getD i 0=l.getD i 0:=by rw[List.getD_eq_getElem?_getD,List.getD_eq_getElem?_getD,List.getElem?_take,if_pos h]
theorem DW {m:List Int} (hm:InWq m) (j:Nat):∃ R,ax m / 18446744073709551616 ^ j=(m.getD j 0).toNat+18446744073709551616*(m.getD (j+1) 0).toNat+18446744073709551616*18446744073709551616*R:=by
 obtain⟨R,hR⟩:=bF m (j+2);refine⟨R,?_⟩;rw[hR,aN,aN];simp only[ajK];have e:ax (m.take j)+18446744073709551616 ^ j*(m.getD j 0).toNat+18446744073709551616 ^ j*18446744073709551616*(m.getD (j+1) 0).toNat+18446744073709551616 ^ j*18446744073709551616*18446744073709551616*R
   = ax (m.take j)+18446744073709551616 ^ j*((m.getD j 0).toNat+18446744073709551616*(m.getD (j+1) 0).toNat+18446744073709551616*18446744073709551616*R):=by
  rw[ajP,ajP,ajI,ajI,ajI,ajI]; omega
 rw[e,cO,aj3 (aS hm j),aj1]
theorem GO {x y s:Nat} (hs:s<64) (hx:x<18446744073709551616) (hy:y<18446744073709551616):aE .or .u64 (Int.fdiv (x:Int) (2 ^ s)) (IntKind.wrap .u64 ((y:Int)*2 ^ (64 - s)))=(((x+18446744073709551616*y) / 2 ^ s%18446744073709551616:Nat):Int):=by
 have hs0:0<2 ^ s:=ajM s;have hs1:2 ^ s*2 ^ (64 - s)=18446744073709551616:=by rw[<- ajR,show s+(64 - s)=64 by omega]
 have e1:Int.fdiv (x:Int) (2 ^ s)=((x / 2 ^ s:Nat):Int):=by
  have e2:(2:Int) ^ s=((2 ^ s:Nat):Int):=by rw[ak1]; rfl
  rw[e2,mp]
 have e3:(y:Int)*2 ^ (64 - s)=((y*2 ^ (64 - s):Nat):Int):=by rw[ajU,ak1]; rfl
 have hlow:y*2 ^ (64 - s)%18446744073709551616=2 ^ (64 - s)*(y%2 ^ s):=by
  have e:2 ^ (64 - s)*y%(2 ^ (64 - s)*2 ^ s)=2 ^ (64 - s)*(y%2 ^ s):=ak_ _ _ _
  rwa [ajB (2 ^ (64 - s)) (2 ^ s),hs1,ajB (2 ^ (64 - s)) y]at e
 have e4:IntKind.wrap .u64 ((y*2 ^ (64 - s):Nat):Int)=((2 ^ (64 - s)*(y%2 ^ s):Nat):Int):=by rw[<- hlow,aq]; omega
 have hxl:x / 2 ^ s<2 ^ (64 - s):=by rw[ajH hs0,ajB,hs1]; exact hx
 have hsum:2 ^ (64 - s)*(y%2 ^ s)+x / 2 ^ s<18446744073709551616:=by have h1:y%2 ^ s+1<=2 ^ s:=ajN _ hs0;have h2:=ajG (2 ^ (64 - s)) h1;rw[ajB (2 ^ (64 - s)) (2 ^ s),hs1,ajP]at h2;omega
 rw[e1,e3,e4,cE _ _ (64 - s) hxl hsum];congr 1;have e5:(x+18446744073709551616*y) / 2 ^ s=x / 2 ^ s+2 ^ (64 - s)*y:=by rw[<- hs1,ajI,akt _ _ hs0]
 rw[e5];have e6:y=y%2 ^ s+2 ^ s*(y / 2 ^ s):=(alJ _ _).symm;have e7:2 ^ (64 - s)*y=2 ^ (64 - s)*(y%2 ^ s)+18446744073709551616*(y / 2 ^ s):=by
  conv=>lhs; rw[e6]
  rw[ajP,<- ajI,ajB (2 ^ (64 - s)) (2 ^ s),hs1]
 rw[e7,<- akf,akO,ajJ (a:=x / 2 ^ s+2 ^ (64 - s)*(y%2 ^ s)) (b:=18446744073709551616) (by rw[alp]; exact hsum)];exact alp _ _
theorem EM:∀ n:Nat,n ≠ 0 -> ∃ t c,n=2 ^ t*(2*c+1):=by
 intro n;induction n using Nat.strongRecOn with
 | ind n ih=>
  intro h0;by_cases h:n%2=0
  ·obtain⟨t,c,hc⟩:=ih (n / 2) (by omega) (by omega);exact⟨t+1,c,by rw[ajK,ajB (2 ^ t) 2,ajI,<- hc]; omega⟩
  ·exact⟨0,n / 2,by rw[alq,alC]; omega⟩
theorem za {a b:Nat} (ha:a<18446744073709551616) (hb:b<18446744073709551616):aE .and .u64 (a:Int) (b:Int)=((a &&& b:Nat):Int):=by
 unfold aE vI;simp only[akj];have h64:(2:Nat) ^ 64=18446744073709551616:=by decide
 have e:((BitVec.ofInt (IntKind.bits .u64) (a:Int)) &&& (BitVec.ofInt (IntKind.bits .u64) (b:Int))).toNat=a &&& b:=by show((BitVec.ofInt 64 (a:Int)) &&& (BitVec.ofInt 64 (b:Int))).toNat=_;rw[amg,akD,akD,akM,akM,ajJ (by omega),ajJ (by omega)]
 have hl:a &&& b<18446744073709551616:=ak7 Nat.and_le_left ha;rw[e,Bj _ hl]
theorem UH {t c:Nat} (h:2 ^ t*(2*c+1)<2 ^ 64):(2 ^ t*(2*c+1)) &&& (2 ^ 64 - 2 ^ t*(2*c+1))=2 ^ t:=by
 have ht0:0<2 ^ t:=ajM t;have ht:t<64:=by
  rcases akv t 64 with h1 | h1
  ·exact h1
  ·have h2:2 ^ 64<=2 ^ t:=ajO (by decide) h1;have h3:2 ^ t*1<=2 ^ t*(2*c+1):=ajG _ (by omega);omega
 have e1:2 ^ t*(2*c+1)=(2 ^ t*(2*c)+(2 ^ t - 1))+1:=by rw[ajP]; omega
 refine alN λj=>?_
 rw[amv];have e2:(2 ^ 64 - 2 ^ t*(2*c+1)).testBit j=(decide (j<64) && !(2 ^ t*(2*c)+(2 ^ t - 1)).testBit j):=by
  conv=>lhs; rw[e1]
  exact amk (by rw[e1]at h; omega) j
 rw[e2,Nat.testBit_two_pow_mul,amw _ (by omega),alm];rcases ama j t with hj | hj | hj
 ·rw[ajy (by omega:¬ j>=t),ajy (by omega:¬ t=j)]; rfl
 ·subst hj;rw[if_neg (by omega),aj8,ajx (ajL _),ajx ht,ajx rfl];have a1:(2*c+1).testBit 0=true:=by rw[amh]; simp
  have a2:(2*c).testBit 0=false:=by rw[amh]; simp
  rw[a1,a2]; rfl
 ·obtain⟨k,hk⟩:∃ k,j - t=k+1:=⟨j - t - 1,by omega⟩
  rw[if_neg (by omega),hk,ajx (by omega:j>=t),ajy (by omega:¬ t=j),ami,ami];have a1:(2*c+1) / 2=c:=by omega
  have a2:2*c / 2=c:=by omega
  rw[a1,a2];cases c.testBit k <;> simp
theorem Y_:∀ t:Fin 64,(inR (Int.fdiv (IntKind.wrap .u64 (((2 ^ t.val:Nat):Int)*285870213051353865)) (2 ^ 58)) 64=true)/\(List.getD CV (Int.toNat (Int.fdiv (IntKind.wrap .u64 (((2 ^ t.val:Nat):Int)*285870213051353865)) (2 ^ 58))) 0=(t.val:Int)):=by decide +kernel
theorem YH (N:Nat) {t c:Nat} (h:2 ^ t*(2*c+1)<18446744073709551616) (k:Ky9):YV N ((2 ^ t*(2*c+1):Nat):Int) k=k (t:Int):=by
 have h64:(2:Nat) ^ 64=18446744073709551616:=by decide
 have ht0:0<2 ^ t:=ajM t;have hx0:0<2 ^ t*(2*c+1):=alr ht0 (by omega);have ht:t<64:=by
  rcases akv t 64 with h1 | h1
  ·exact h1
  ·have h2:2 ^ 64<=2 ^ t:=ajO (by decide) h1;have h3:2 ^ t*1<=2 ^ t*(2*c+1):=ajG _ (by omega);omega
 (unfold YV; rw[af]; unfold Uh)
 have ha:=UH (t:=t) (c:=c) (by omega);rw[h64]at ha;generalize 2 ^ t*(2*c+1)=x at *;have e0:((x:Int)==0)=false:=by simp; omega
 have ew:IntKind.wrap .u64 (0 - (x:Int))=((18446744073709551616 - x:Nat):Int):=by rw[aq]; omega
 obtain⟨t1,t2⟩:=Y_ ⟨t,ht⟩;rw[e0,ajz,ew,za h (by omega),ha,aa t1,t2,aa ajv]
theorem YJ {V w:Nat} (h:V / 18446744073709551616 ^ w ≠ 0):w<(ae V).length:=by
 rcases akv w (ae V).length with h1 | h1
 ·exact h1
 ·exfalso;have h2:=ju (aY V);rw[aF]at h2;exact h (aj3 (ajS h2 (ajO (by decide) h1)))
theorem OC {B n:Nat} (h:aU B n):(ae n).length<=B / 64+1:=by
 refine gF _ _ ?_;have e:(18446744073709551616:Nat)=2 ^ 64:=by decide
 rw[e,<- amt];exact ajS h (ajO (by decide) (by omega))
theorem O4 {N:Nat} (g:Bool) (n:Nat) (h:(ae n).length<=1099511627776) (k:Ky2):TO N g (ae n) k=wZ (-(aZ g n)) k:=by
 (unfold TO; rw[af]; unfold Xs)
 rw[BQ _ h,rC (!g) g (ae n) n k];congr 1; unfold aZ; cases g <;> simp
theorem SD {N:Nat} (hN:1000<=N) (n:Nat) (hn:n<18446744073709551616) (b:Bool) (k:Ky2):TM N n b k=k false (ae n):=by
 (unfold TM; rw[af]; unfold Xc)
 rw[yq hN n hn]; rfl
theorem xc {N:Nat} (hN:1000<=N) (n:Nat) (hn:n<9223372036854775808) (k:Ky2):Kb N n k=k false (ae n):=by
 (unfold Kb V8; unfold WG; rw[af]; unfold Qa)
 have e:IntKind.wrap .u64 (n:Int)=n:=by rw[aq]; omega
 rw[ajy (by omega:¬(n:Int)<0),ajz,e,yq hN n (by omega)]; rfl
theorem O3 {N:Nat} (s:Nat) (b g:Bool) (n:Nat) (hs:s<4294967296) (hN:(ae n).length+s / 64+4<N) (h:(ae n).length<=1099511627776) (k:Ky2):To N s b g (ae n) k=wZ (aZ g (n*2 ^ s)) k:=by unfold To VQ;rw[Pb _ (aY n) s hs hN h,aF,LQ g b _ k]
theorem uD {n:Nat} (h0:n ≠ 0) (h:n<18446744073709551616):ae n=[(n:Int)]:=by rw[bS h0,aj3 h,bh,ajJ h]
theorem zb (a b:Int):aE .or .u64 a b=aE .or .u64 b a:=by unfold aE vI;simp only[akj];rw[BitVec.or_comm]
end Go.Proofs.YteifemaagdeomaaGreatDoor
