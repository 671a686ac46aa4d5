/- Laws in plain Lean. Conditions: none. -/
import Derived.Test.YtbiingchhnlcnaaGreatDoorGp
import Derived.Test.YtbiingchhnlcnaaGreatDoorBig
set_option linter.defProp false
set_option linter.unusedVariables false
namespace Go.Proofs.YtbiingchhnlcnaaGreatDoor
open Go Go.Mach
def aa {a c:Bool} (h:a=true):(a&&c)=c:=by rw[h]; rfl
def aq (z:Int):IntKind.wrap .u64 z=z%18446744073709551616:=by rfl
def dH (z:Int):IntKind.wrap .u32 z=z%4294967296:=by rfl
def kV (z:Int):Int.fdiv z (2 ^ 32)=z / 4294967296:=by rw[ajX _ (by decide)]; rfl
def aG {σ:Type} {step:σ->(σ->Bool)->Bool} {s:σ} (C:Nat->σ) (n:Nat) {N:Nat} (h0:s=C 0) (hn:n<N) {out:Bool} (hs:∀ i,i<n -> ∀ K:σ->Bool,step (C i) K=K (C (i+1))) (hx:∀ K,step (C n) K=out):ah N step s=out:=by subst h0; exact aD C n hn hs hx
def bR (b:List Int):Nat->Nat
 | 0=>0
 | n+1=>if b.getD n 0=0 then bR b n else n+1
def pb (b:List Int) (n:Nat):bR b (n+1)=if b.getD n 0=0 then bR b n else n+1:=rfl
def kx (b:List Int):∀ n,bR b n<=n
 | 0=>aiH _
 | n+1=>by unfold bR; split; exact Nat.le_succ_of_le (kx b n); exact aiH _
def eI {b:List Int} {i:Nat} (h:b.length<=i):b.getD i 0=0:=by rw[List.getD_eq_getElem?_getD,List.getElem?_eq_none h]; rfl
def aP {m:List Int} (i:Nat):aE (m.take (i+1))=aE (m.take i)+4294967296 ^ i*(m.getD i 0).toNat:=by
 by_cases h:i<m.length
 ·exact A5 h
 ·rw[eI (by omega),aiR (by omega),aiR (by omega)]; simp
def sZ (b:List Int):∀ n,aE (b.take (bR b n))=aE (b.take n)
 | 0=>rfl
 | n+1=>by
  unfold bR;split
  ·rename_i h;rw[sZ b n,aP,h]; simp
  ·rfl
def getLast?_take {b:List Int} {n:Nat} (h:n<b.length):(b.take (n+1)).getLast? = some (b.getD n 0):=by rw[ajL h,List.getLast?_append,List.getD_eq_getElem?_getD,List.getElem?_eq_getElem h];simp
def sW (b:List Int):∀ n,n<=b.length -> ∀ x,(b.take (bR b n)).getLast? = some x->x ≠ 0
 | 0,_,x,h=>by simp[bR]at h
 | n+1,hn,x,h=>by
  unfold bR at h;split at h
  ·exact sW b n (by omega) x h
  ·rename_i h0;rw[getLast?_take (by omega)]at h;cases h; exact h0
def uc {b:List Int} (hb:InW b):b.take (bR b b.length)=aj (aE b):=by have h1:=sZ b b.length;rw[ajb]at h1;rw[<- h1,xG (hb.take _) (sW b b.length (aiH _))]
def mC {N:Nat} (b:List Int) (hN:b.length<N) (hs:b.length<9223372036854775807) (k:Kz6):qx N b k=k (bR b b.length):=by
 (unfold qx; rw[ae]; unfold QT)
 have key:∀ n,n<=b.length -> ∀ M,n<M->ah M (wH N 0 b λm=>k m) n=k (bR b n):=by
  intro n;induction n with
  | zero=>
   intro _ M hM;cases M with
   | zero=>omega
   | succ M=>
    show wH N 0 b _ 0 _=_;simp[wH,bR]
  | succ n ih=>
   intro hn M hM;cases M with
   | zero=>omega
   | succ M=>
    show wH N 0 b _ (n+1) (ah M _)=_;have e:Int.toNat (((n+1:Nat):Int) - 1)=n:=by omega
    simp only[wH,e,aiZ,akz];rw[ait (by omega:((n+1:Nat):Int)>0),aa air,aa ais,aa (ait (by omega)),aa air,aa (ait (by omega)),ih (by omega) M (by omega)];rw[pb];by_cases h0:b.getD n 0=0
    ·have:(b.getD n 0==0)=true:=by simpa using h0
     rw[this,if_pos h0]; rfl
    ·have:(b.getD n 0==0)=false:=by simpa using h0
     rw[this,if_neg h0]; rfl
 exact key b.length (aiH _) N hN
def IY {N:Nat} (m:List Int) (hm:InW m) (hN:m.length<N) (hs:m.length<9223372036854775807) (k:Kz9):mJ N m k=k (aj (aE m)):=by
 (unfold mJ; rw[ae]; unfold xz)
 have key:∀ n,n<9223372036854775807 -> ∀(l:List Int),l.length=n->InW l -> ∀ M,n<M->ah M (fU N λXu=>k Xu) l=k (aj (aE l)):=by
  intro n;induction n with
  | zero=>
   intro _ l hl _ M hM;cases M with
   | zero=>omega
   | succ M=>
    have:l=[]:=List.length_eq_zero_iff.1 hl;subst this;show fU N _ [] _=_;simp[fU,aE,aW]
  | succ n ih=>
   intro hn l hl hw M hM;cases M with
   | zero=>omega
   | succ M=>
    show fU N _ l (ah M _)=_;have e:Int.toNat ((l.length:Int) - 1)=n:=by omega
    simp only[fU,e,aj0];rw[ait (by omega:(l.length:Int)>0),aa air,aa ais,aa air,aa (ait (by omega)),ih (by omega) (l.take n) (by simp; omega) (hw.take n) M (by omega)];have e2:=aP (m:=l) n;rw[aiR (by omega)]at e2;by_cases h0:l.getD n 0=0
    ·have:(l.getD n 0==0)=true:=by simpa using h0
     rw[this];rw[h0]at e2;simp at e2;rw[e2]; rfl
    ·have:(l.getD n 0==0)=false:=by simpa using h0
     rw[this,xG hw (λx hx=>by have:=getLast?_take (b:=l) (n:=n) (by omega);rw[aiR (by omega)]at this;rw[this]at hx; cases hx; exact h0)]
     rfl
 exact key m.length hs m rfl hm N hN
def dM {N:Nat} (b:List Int) (hb:InW b) (hN:b.length<N) (hs:b.length<9223372036854775807) (k:Kz9) :
  (qx N b λl=>(decide (0+l<=b.length))&&k (List.take l (List.drop 0 b)))=k (aj (aE b)):=by
 rw[mC b hN hs,aj0,uc hb];have:=kx b b.length;rw[ait (by omega)]; rfl
def fH (N:Nat) (l:List Int):Prop:=l.length+2<N/\l.length<=17592186044416
def eG (T A i:Nat):(T+4294967296 ^ i*A) / 4294967296 ^ i=T / 4294967296 ^ i+A:=ajq _ _ (ajB (by decide))
def HW (m:List Int) (i:Nat):aE m=aE (m.take i)+4294967296 ^ (m.take i).length*aE (m.drop i):=by rw[<- tz,ak6]
def ck (m:List Int) (i:Nat):∃ R,aE m=aE (m.take i)+4294967296 ^ i*R:=by
 by_cases h:i<=m.length
 ·refine⟨aE (m.drop i),?_⟩;have:=HW m i
  rwa [ai_,ajU h]at this
 ·exact⟨0,by rw[aiR (by omega)]; simp⟩
def bf {m:List Int} (h:InW m) (i:Nat):aE (m.take i)<4294967296 ^ i:=by
 have h1:=fo (h.take i);have h2:(m.take i).length<=i:=by simp; omega
 exact aiO h1 (aiK (by decide) h2)
def mZ {S T R i:Nat} (h:S=T+4294967296 ^ (i+1)*R):S / 4294967296 ^ i%4294967296=T / 4294967296 ^ i%4294967296:=by rw[h,aiG,aiF,eG,ajK]
def CR {N:Nat} (a b:List Int) (ha:InW a) (hb:InW b) (hl:b.length<=a.length) (hN:fH N a) (k:Kz9) :
  ah N (gj N a b λcarry out=>(inR (a.length:Nat) out.length)&&((decide ((Int.toNat (a.length:Nat))<out.length)) &&
   (qx N (List.set out (Int.toNat (a.length:Nat)) (IntKind.wrap .u32 carry)) λYk=>(decide ((0+Yk)<=(List.length (List.set out (Int.toNat (a.length:Nat)) (IntKind.wrap .u32 carry)))))&&k (List.take Yk (List.drop 0 (List.set out (Int.toNat (a.length:Nat)) (IntKind.wrap .u32 carry)))))))
   (0,0,List.replicate (a.length+1) 0)=k (aj (aE a+aE b)):=by
 obtain⟨hN1,hN2⟩:=hN
 let S:=aE a+aE b
 let T:=λi=>aE (a.take i)+aE (b.take i)
 refine aG (λi=>(((T i / 4294967296 ^ i:Nat):Int),(i:Int),dl S i++List.replicate (a.length+1 - i) 0)) a.length (by simp[T,aE,dl]) (by omega) (λi hi K=>?_) (λK=>?_)
 ·have hx:=ha.at (i:=i);have hy:=hb.at (i:=i);have hT:T (i+1)=T i+4294967296 ^ i*((a.getD i 0).toNat+(b.getD i 0).toNat):=by simp only[T,aP,aiL]; omega
  have hq:T (i+1) / 4294967296 ^ i=T i / 4294967296 ^ i+((a.getD i 0).toNat+(b.getD i 0).toNat):=by rw[hT,eG]
  have hc:T i / 4294967296 ^ i<=1:=by
   have h1:=bf ha i;have h2:=bf hb i;have h3:T i<4294967296 ^ i*2:=by simp only[T]; omega
   have:=(aiD (ajB (n:=i) (by decide:0<4294967296))).2 (by rw[aix]; exact h3:T i<2*4294967296 ^ i);omega
  have hdiv:T (i+1) / 4294967296 ^ (i+1)=T (i+1) / 4294967296 ^ i / 4294967296:=by rw[aiG,aiC]
  have hdig:S / 4294967296 ^ i%4294967296=T (i+1) / 4294967296 ^ i%4294967296:=by obtain⟨R1,h1⟩:=ck a (i+1);obtain⟨R2,h2⟩:=ck b (i+1);refine mZ (R:=R1+R2) ?_;simp only[S,T];rw[aiL]; omega
  have hset:=An S i (a.length+1) (by omega);have hlen:(dl S i++List.replicate (a.length+1 - i) 0).length=a.length+1:=by simp[al]; omega
  generalize hq':T i / 4294967296 ^ i=q at *;generalize hx':a.getD i 0=x at *;generalize hy':b.getD i 0=y at *;simp only[gj,aiA];rw[ait (by omega:(i:Int)<a.length),aiw,hx',hy',aa ais,hlen];have hstep:∀ s:Int,s=((q+(x.toNat+y.toNat):Nat):Int)->K ((Int.fdiv s (2 ^ 32)),((i:Int)+1),(List.set (dl S i++List.replicate (a.length+1 - i) 0) i (IntKind.wrap .u32 s)))=K (((T (i+1) / 4294967296 ^ (i+1):Nat):Int),((i+1:Nat):Int),dl S (i+1)++List.replicate (a.length+1 - (i+1)) 0):=by
   intro s hs;have e1:Int.fdiv s (2 ^ 32)=((T (i+1) / 4294967296 ^ (i+1):Nat):Int):=by rw[kV,hdiv,hq,hs]; omega
   have e2:IntKind.wrap .u32 s=((S / 4294967296 ^ i%4294967296:Nat):Int):=by rw[dH,hdig,hq,hs]; omega
   rw[e1,e2,hset]; rfl
  by_cases hib:i<b.length
  ·rw[ait (by omega:(i:Int)<b.length),aiw,aa ais,aa ais,aa (ait (by omega)),aa air];exact hstep _ (by simp only[aq]; omega)
  ·rw[aiu (by omega:¬(i:Int)<b.length),aiv,aa ais,aa (ait (by omega)),aa air];have hy0:y=0:=by rw[<- hy']; exact eI (by omega)
   subst hy0;exact hstep _ (by simp only[aq]; omega)
 ·simp only[gj];rw[aiu (by omega:¬(a.length:Int)<a.length),aiv];have hT:T a.length=S:=by simp only[T,S]; rw[ajb,aiR hl]
  have hS:S<4294967296 ^ (a.length+1):=by have h1:=fo ha;have h2:=fo hb;have h3:4294967296 ^ b.length<=4294967296 ^ a.length:=aiK (by decide) hl;rw[aiG];simp only[S]; omega
  have hlen:(dl S a.length++List.replicate (a.length+1 - a.length) 0).length=a.length+1:=by simp[al]
  have e2:IntKind.wrap .u32 ((T a.length / 4294967296 ^ a.length:Nat):Int)=((S / 4294967296 ^ a.length%4294967296:Nat):Int):=by rw[dH,hT]; omega
  have hset:=An S a.length (a.length+1) (by omega);rw[e2,aiA,hset,hlen,aa ais,aa (ait (by omega)),ai4,ai8,ai3,
   dM _ (jw S _) (by rw[al]; omega) (by rw[al]; omega),qT hS]
def NA {N:Nat} (a b:List Int) (ha:InW a) (hb:InW b) (hNa:fH N a) (hNb:fH N b) (k:Kz9):wz N a b k=k (aj (aE a+aE b)):=by
 (unfold wz; rw[ae]; unfold vH)
 have h1:=hNa.2;have h2:=hNb.2;by_cases h:a.length<b.length
 ·rw[ait (by omega:(a.length:Int)<b.length),aiw,aa air,aa (bP (by omega) (by omega) (by omega) (by omega))];have e:Int.toNat ((b.length:Int)+1)=b.length+1:=by omega
  rw[e,CR b a hb ha (by omega) hNb k,akm]
 ·rw[aiu (by omega:¬(a.length:Int)<b.length),aiv,aa air,aa (bP (by omega) (by omega) (by omega) (by omega))];have e:Int.toNat ((a.length:Int)+1)=a.length+1:=by omega
  rw[e,CR a b ha hb (by omega) hNa k]
def aT (i:Nat):0<4294967296 ^ i:=ajB (by decide)
def AD {D e P:Nat} {z:Int} (h:(D:Int)=(e:Int)+(P:Int)*z) (he:e<P):((D / P:Nat):Int)=z:=by
 have hP:(P:Int) ≠ 0:=by omega
 rw[Int.natCast_ediv,h,Int.add_mul_ediv_left _ _ hP,<- Int.natCast_ediv,ai0 he];simp
def o_ (P A B x y:Nat) (hA:A<P) (hB:B<P):(if A+P*x<B+P*y then 1 else 0)=if x<y+(if A<B then 1 else 0)then 1 else(0:Nat):=by
 by_cases hxy:x<y
 ·have:P*(x+1)<=P*y:=aiB P hxy;rw[aiL]at this;rw[if_pos (by omega),if_pos (by omega)]
 ·by_cases hyx:y<x
  ·have:P*(y+1)<=P*x:=aiB P hyx;rw[aiL]at this;rw[if_neg (by omega),if_neg (by split <;> omega)]
  ·have:x=y:=by omega
   subst this;by_cases hAB:A<B
   ·rw[if_pos (by omega),if_pos hAB,if_pos (by omega)]
   ·rw[if_neg (by omega),if_neg hAB,if_neg (by omega)]
def E0 {P A B x y o R1 R2 D a b:Nat} (hA:A<P) (hB:B<P) (ho:o=if A<B then 1 else 0) (h1:a=A+P*x+P*4294967296*R1) (h2:b=B+P*y+P*4294967296*R2) (hD:(D:Int)=(a:Int) - (b:Int)) :
  ((D / P:Nat):Int)=(x:Int) - (y:Int) - (o:Int)+4294967296*((R1:Int) - (R2:Int)):=by
 have he:∃ e:Nat,e<P/\(e:Int)=(A:Int) - (B:Int)+(P:Int)*(o:Int):=by
  rw[ho];split
  ·exact⟨A+P - B,by omega,by omega⟩
  ·exact⟨A - B,by omega,by omega⟩
 obtain⟨e,he1,he2⟩:=he;refine AD (e:=e) ?_ he1;have e1:(a:Int)=A+(P:Int)*x+4294967296*((P:Int)*R1):=by rw[h1,aiF,aiW]; simp
 have e2:(b:Int)=B+(P:Int)*y+4294967296*((P:Int)*R2):=by rw[h2,aiF,aiW]; simp
 have e3:(P:Int)*((x:Int) - (y:Int) - (o:Int)+4294967296*((R1:Int) - (R2:Int)))=(P:Int)*x - (P:Int)*y - (P:Int)*o+(4294967296*((P:Int)*R1) - 4294967296*((P:Int)*R2)):=by rw[Int.mul_add,akP,akP,Int.mul_left_comm,akP,akP]
 rw[hD,e1,e2,e3,he2];omega
def xS {N:Nat} (a b:List Int) (ha:InW a) (hb:InW b) (hle:aE b<=aE a) (hN:fH N a) (k:Kz9):no N a b k=k (aj (aE a - aE b)):=by
 obtain⟨hN1,hN2⟩:=hN
 (unfold no; rw[ae]; unfold sE)
 rw[aa (bP (by omega) (by omega) (by omega) (by omega)),aiA]
 let D:=aE a - aE b
 let bo:=λi=>if aE (a.take i)<aE (b.take i)then(1:Nat)else 0
 refine aG (λi=>(((bo i:Nat):Int),(i:Int),dl D i++List.replicate (a.length - i) 0)) a.length (by simp[bo,aE,dl]) (by omega) (λi hi K=>?_) (λK=>?_)
 ·have hx:=ha.at (i:=i);have hy:=hb.at (i:=i);have hA:=aP (m:=a) i;have hB:=aP (m:=b) i;have hAl:=bf ha i;have hBl:=bf hb i;have hset:=An D i a.length (by omega);have hl:(dl D i++List.replicate (a.length - i) 0).length=a.length:=by simp[al]; omega
  obtain⟨R1,h1⟩:=ck a (i+1);obtain⟨R2,h2⟩:=ck b (i+1);have hD:(D:Int)=(aE a:Int) - (aE b:Int):=by simp only[D]; omega
  have hP:=aT i;have hPs:4294967296 ^ (i+1)=4294967296 ^ i*4294967296:=aiG ..;have hbo:bo i<=1:=by simp only[bo]; split <;> omega
  have hbs:bo (i+1)=if (a.getD i 0).toNat<(b.getD i 0).toNat+bo i then 1 else 0:=by simp only[bo,hA,hB];exact o_ _ _ _ _ _ hAl hBl
  have hq:((D / 4294967296 ^ i:Nat):Int)=((a.getD i 0).toNat:Int) - ((b.getD i 0).toNat:Int) - (bo i:Int)+4294967296*((R1:Int) - (R2:Int)):=by rw[hA,hPs]at h1;rw[hB,hPs]at h2;exact E0 hAl hBl rfl h1 h2 hD
  have hdig:((D / 4294967296 ^ i%4294967296:Nat):Int)=(((a.getD i 0).toNat:Int) - ((b.getD i 0).toNat:Int) - (bo i:Int))%4294967296:=by rw[Int.natCast_emod,hq];exact Int.add_mul_emod_self_left _ _ _
  generalize hx':a.getD i 0=x at *;generalize hy':b.getD i 0=y at *;generalize bo i=o at *;generalize bo (i+1)=o' at *;simp only[lQ,aiA];have hy0:¬ i<b.length->y=0:=λh=>by rw[<- hy']; exact eI (by omega)
  have fin:∀(v w:Int),v=(o':Int)->w%4294967296=((D / 4294967296 ^ i%4294967296:Nat):Int)->K (v,(i:Int)+1,List.set (dl D i++List.replicate (a.length - i) 0) i (IntKind.wrap .u32 w))=K ((o':Int),((i+1:Nat):Int),dl D (i+1)++List.replicate (a.length - (i+1)) 0):=by intro v w hv hw;rw[hv,dH,hw,hset]; rfl
  simp only[hx',hy',hl];rw[ait (by omega:(i:Int)<a.length),aiw];by_cases hib:i<b.length
  ·rw[ait (by omega:(i:Int)<b.length),aiw,aa ais,aa ais];by_cases hlt:x.toNat<y.toNat+o
   ·rw[ait (by simp only[aq]; omega),aiw,aa ais,aa (ait (by omega)),aa air];rw[if_pos hlt]at hbs;exact fin _ _ (by omega) (by rw[hdig]; simp only[aq]; omega)
   ·rw[aiu (by simp only[aq]; omega),aiv,aa ais,aa (ait (by omega)),aa air];rw[if_neg hlt]at hbs;exact fin _ _ (by omega) (by rw[hdig]; simp only[aq]; omega)
  ·have hy1:=hy0 hib;rw[aiu (by omega:¬(i:Int)<b.length),aiv,aa ais];by_cases hlt:x.toNat<y.toNat+o
   ·rw[ait (by simp only[aq]; omega),aiw,aa ais,aa (ait (by omega)),aa air];rw[if_pos hlt]at hbs;exact fin _ _ (by omega) (by rw[hdig]; simp only[aq]; omega)
   ·rw[aiu (by simp only[aq]; omega),aiv,aa ais,aa (ait (by omega)),aa air];rw[if_neg hlt]at hbs;exact fin _ _ (by omega) (by rw[hdig]; simp only[aq]; omega)
 ·simp only[lQ];rw[aiu (by omega:¬(a.length:Int)<a.length),aiv,ai4,ai8,ai3];have hS:D<4294967296 ^ a.length:=by have:=fo ha; simp only[D]; omega
  rw[dM _ (jw D _) (by rw[al]; omega) (by rw[al]; omega),qT hS]
def cL (a c s:Nat) (ha:a<2 ^ s) (hlt:2 ^ s*c+a<18446744073709551616):aA .or .u64 (a:Int) ((2 ^ s*c:Nat):Int)=((2 ^ s*c+a:Nat):Int):=by
 unfold aA rN;simp only[ajf];have e:((BitVec.ofInt (IntKind.bits .u64) (a:Int)) ||| (BitVec.ofInt (IntKind.bits .u64) ((2 ^ s*c:Nat):Int))).toNat=2 ^ s*c+a:=by
  show((BitVec.ofInt 64 (a:Int)) ||| (BitVec.ofInt 64 ((2 ^ s*c:Nat):Int))).toNat=_;have h64:(2:Nat) ^ 64=18446744073709551616:=by decide
  rw[BitVec.toNat_or,ajA,ajA,ajI,ajI,aiE (by omega),aiE (by omega),Nat.or_comm,<- alm ha]
 rw[e,xt _ hlt]
def GQ (n:Nat) (h:n<4294967296):IntKind.wrap .u32 (n:Int)=n:=by rw[dH]; omega
def rO (a c s:Nat) (ha:a<2 ^ s) (hlt:2 ^ s*c+a<4294967296):aA .or .u32 (a:Int) ((2 ^ s*c:Nat):Int)=((2 ^ s*c+a:Nat):Int):=by
 unfold aA rN;simp only[ajf];have e:((BitVec.ofInt (IntKind.bits .u32) (a:Int)) ||| (BitVec.ofInt (IntKind.bits .u32) ((2 ^ s*c:Nat):Int))).toNat=2 ^ s*c+a:=by
  show((BitVec.ofInt 32 (a:Int)) ||| (BitVec.ofInt 32 ((2 ^ s*c:Nat):Int))).toNat=_;have h32:(2:Nat) ^ 32=4294967296:=by decide
  rw[BitVec.toNat_or,ajA,ajA,ajI,ajI,aiE (by omega),aiE (by omega),Nat.or_comm,<- alm ha]
 rw[e,GQ _ hlt]
def dL (x y:Nat):Int:=if x<y then -1 else if x=y then 0 else 1
def MF {P A B x y:Nat} (hA:A<P) (h:x<y):dL (A+P*x) (B+P*y) = -1:=by have:P*(x+1)<=P*y:=aiB P h;rw[aiL]at this;unfold dL;rw[if_pos (by omega)]
def ME {P A B x y:Nat} (hB:B<P) (h:y<x):dL (A+P*x) (B+P*y)=1:=by have:P*(y+1)<=P*x:=aiB P h;rw[aiL]at this;unfold dL;rw[if_neg (by omega),if_neg (by omega)]
def EN {P A B x:Nat}:dL (A+P*x) (B+P*x)=dL A B:=by
 unfold dL;by_cases h3:A<B
 ·rw[if_pos h3,if_pos (by omega)]
 ·by_cases h4:A=B
  ·subst h4; simp
  ·rw[if_neg h3,if_neg h4,if_neg (by omega),if_neg (by omega)]
def Dh {N:Nat} (a b:List Int) (ha:InW a) (hb:InW b) (hl:a.length=b.length) (hs:a.length<9223372036854775807) (k:Kz5) :
  ∀ n,n<=a.length -> ∀ M,n<M->ah M (wD N a b (λt4=>k t4) (k 0)) ((n:Int) - 1)=k (dL (aE (a.take n)) (aE (b.take n))):=by
 intro n;induction n with
 | zero=>
  intro _ M hM;cases M with
  | zero=>omega
  | succ M=>
   show wD N a b _ _ ((0:Nat) - 1:Int) _=_;simp[wD,dL,aE]
 | succ n ih=>
  intro hn M hM;cases M with
  | zero=>omega
  | succ M=>
   show wD N a b _ _ (((n+1:Nat):Int) - 1) (ah M _)=_;have e:(((n+1:Nat):Int) - 1)=(n:Int):=by omega
   have hx:=ha.at (i:=n);have hy:=hb.at (i:=n);have hA:=aP (m:=a) n;have hB:=aP (m:=b) n;have hAl:=bf ha n;have hBl:=bf hb n;rw[e];simp only[wD,aiA];rw[hA,hB,ait (by omega:(n:Int)>=0),aiw,aa ais,aa ais,aa ais,aa ais,aa air,ih (by omega) M (by omega)];by_cases h1:a.getD n 0<b.getD n 0
   ·rw[ait h1,aiw,MF hAl (by omega)]
   ·rw[aiu h1,aiv];by_cases h2:a.getD n 0>b.getD n 0
    ·rw[ait h2,aiw,ME hBl (by omega)]
    ·rw[aiu h2,aiv];have:a.getD n 0=b.getD n 0:=by omega
     rw[this,EN]
def ce {x y:Nat} (h:x<=y):(aj x).length<=(aj y).length:=by
 induction y using Nat.strongRecOn generalizing x with
 | ind y ih=>
  by_cases hx:x=0
  ·subst hx; rw[aW]; simp
  ·rw[cE hx,cE (by omega:y ≠ 0)];simp only[ai6];have:=ih (y / 4294967296) (by omega) (x:=x / 4294967296) (akI h);omega
def iH {N:Nat} (x y:Nat) (hx:fH N (aj x)) (hy:fH N (aj y)) (k:Kz5):D2 N (aj x) (aj y) k=k (dL x y):=by
 (unfold D2; rw[ae]; unfold Rh)
 obtain⟨x1,x2⟩:=hx;obtain⟨y1,y2⟩:=hy;by_cases h:(aj x).length=(aj y).length
 ·have e:(((aj x).length:Int) != (aj y).length)=false:=by rw[h]; simp
  rw[e,aiv,aa air,Dh (aj x) (aj y) (ba x) (ba y) h (by omega) k _ (aiH _) N (by omega),ajb,h,ajb,aK,aK]
 ·have e:(((aj x).length:Int) != (aj y).length)=true:=by simp; omega
  rw[e,aiw];by_cases h1:(aj x).length<(aj y).length
  ·rw[ait (by omega),aiw];have:x<y:=by
    rcases ajs x y with h2 | h2
    ·exact h2
    ·have:=ce h2; omega
   unfold dL; rw[if_pos this]
  ·rw[aiu (by omega),aiv];have:¬ x<=y:=λh2=>by have:=ce h2; omega
   unfold dL; rw[if_neg (by omega),if_neg (by omega)]
def bl (n:Nat):Nat:=if n=0 then 0 else n.log2+1
def mY {n:Nat} (j:Nat) (h:2 ^ j<=n):bl n=j+bl (n / 2 ^ j):=by
 have hp:0<2 ^ j:=aiI j;have h0:n ≠ 0:=by omega
 have h1:n / 2 ^ j ≠ 0:=by have:=akQ h hp;omega
 unfold bl;rw[if_neg h0,if_neg h1];have hj:j<=n.log2:=(Nat.le_log2 h0).2 h;have:(n / 2 ^ j).log2=n.log2 - j:=by
  rw[Nat.log2_eq_iff h1];have h2:=Nat.log2_self_le h0;have h3:n<2 ^ (n.log2+1):=Nat.lt_log2_self;constructor
  ·rw[aj_ hp,<- aiN];rw[show n.log2 - j+j=n.log2 by omega]; exact h2
  ·rw[aiD hp,<- aiN];rw[show n.log2 - j+1+j=n.log2+1 by omega]; exact h3
 omega
def T5:∀ i:Fin 256,ay.getD i.val 0=(bl i.val:Int):=by decide +kernel
def Ow {i:Nat} (h:i<256):ay.getD i 0=(bl i:Int):=T5 ⟨i,h⟩
def EC {n:Nat} (h:n<256):bl n<=8:=by
 unfold bl;split
 ·omega
 ·rename_i h0;have:=(Nat.log2_lt h0).2 (by simpa using h:n<2 ^ 8);omega
def QF (z:Int):IntKind.wrap .u8 z=z%256:=by rfl
def Qj (z:Int):Int.fdiv z (2 ^ 8)=z / 256:=by rw[ajX _ (by decide)]; rfl
def MX (z:Int):Int.fdiv z (2 ^ 16)=z / 65536:=by rw[ajX _ (by decide)]; rfl
def Cw (N:Nat) (x:Nat) (h:x<4294967296) (k:Kz5):Ji N (x:Int) k=k (bl x:Int):=by
 (unfold Ji; rw[ae]; unfold Lz)
 simp only[Qj,MX,QF];have key:∀(z:Int) (m:Nat),z=(m:Int)->m<256 -> ∀ c:Nat,c<=32->((inR z 256)&&((ac .i64 (List.getD ay (Int.toNat z) 0))&&((ac .i64 ((c:Int)+(List.getD ay (Int.toNat z) 0)))&&k ((c:Int)+List.getD ay (Int.toNat z) 0))))=k ((c+bl m:Nat):Int):=by intro z m hz hm c hc;subst hz;have:=EC hm;rw[aiA,Ow hm,aa ais,aa air,aa air];rfl
 by_cases h16:65536<=x
 ·rw[ait (by omega:(x:Int)>=65536),aiw];have e16:=mY (n:=x) 16 (by simpa using h16);have p16:(2:Nat) ^ 16=65536:=by decide
  have p8:(2:Nat) ^ 8=256:=by decide
  rw[p16]at e16;by_cases h8:256<=x / 65536
  ·rw[ait (by omega:(x:Int) / 65536>=256),aiw];have e8:=mY (n:=x / 65536) 8 (by simpa using h8);rw[p8]at e8;have:=key ((x:Int) / 65536 / 256%256) (x / 65536 / 256) (by omega) (by omega) 24 (by omega);rw[show((24:Nat):Int)=24 from rfl]at this;rw[this]; congr 2; omega
  ·rw[aiu (by omega:¬(x:Int) / 65536>=256),aiv];have:=key ((x:Int) / 65536%256) (x / 65536) (by omega) (by omega) 16 (by omega);rw[show((16:Nat):Int)=16 from rfl]at this;rw[this]; congr 2; omega
 ·rw[aiu (by omega:¬(x:Int)>=65536),aiv];by_cases h8:256<=x
  ·rw[ait (by omega:(x:Int)>=256),aiw];have e8:=mY (n:=x) 8 (by simpa using h8);rw[show(2:Nat) ^ 8=256 by decide]at e8;have:=key ((x:Int) / 256%256) (x / 256) (by omega) (by omega) 8 (by omega);rw[show((8:Nat):Int)=8 from rfl]at this;rw[this]; congr 2; omega
  ·rw[aiu (by omega:¬(x:Int)>=256),aiv];have:=key ((x:Int)%256) x (by omega) (by omega) 0 (by omega);rw[show((0:Nat):Int)=0 from rfl]at this;rw[this]; congr 2; omega
def ta:∀ n,n ≠ 0->bl n=32*((aj n).length - 1)+bl ((aj n).getD ((aj n).length - 1) 0).toNat/\0<(aj n).length:=by
  intro n;induction n using Nat.strongRecOn with
  | ind n ih=>
    intro h;rw[cE h];by_cases h1:n / 4294967296=0
    · rw[h1,aW]
      have:n%4294967296=n:=aiE (by omega);simp[this]
    · obtain⟨i1,i2⟩:=ih (n / 4294967296) (by omega) h1
      have e:=mY (n:=n) 32 (by have:(2:Nat) ^ 32=4294967296:=(by decide); omega);rw[show(2:Nat) ^ 32=4294967296 by decide]at e;refine⟨?_,by simp⟩;have e2:(((n%4294967296:Nat):Int)::aj (n / 4294967296)).getD ((((n%4294967296:Nat):Int)::aj (n / 4294967296)).length - 1) 0=(aj (n / 4294967296)).getD ((aj (n / 4294967296)).length - 1) 0:=by
        simp only[ai6,akT];generalize aj (n / 4294967296)=l at i2 ⊢;cases l with
        | nil=>simp at i2
        | cons y l=>simp
      rw[e2,e,i1];simp only[ai6];omega
def AN {N:Nat} (g:Bool) (n:Nat) (hs:fH N (aj n)) (k:Kz5):K1 N g (aj n) k=k (bl n:Int):=by
  (unfold K1; rw[ae]; unfold Rj)
  obtain⟨s1,s2⟩:=hs;by_cases h:n=0
  · subst h; rw[aW]; rfl
  · obtain⟨e1,e2⟩:=ta n h
    have e0:(((aj n).length:Int)==0)=false:=by simp; intro h'; rw[h']at e2; simp at e2
    have e3:Int.toNat (((aj n).length:Int) - 1)=(aj n).length - 1:=by omega
    have hw:=(ba n).at (i:=(aj n).length - 1);have hb:bl ((aj n).getD ((aj n).length - 1) 0).toNat<=32:=by
      unfold bl; split
      · omega
      · rename_i h0
        have:=(Nat.log2_lt h0).2 (by have:(2:Nat) ^ 32=4294967296:=(by decide); omega:((aj n).getD ((aj n).length - 1) 0).toNat<2 ^ 32);omega
    have e4:(aj n).getD ((aj n).length - 1) 0=((((aj n).getD ((aj n).length - 1) 0).toNat:Nat):Int):=by omega
    rw[e0,aiv,aa air,aa air,aa air,aa ais,e3,e4,Cw N _ (by omega),aa air];congr 1; omega
def vV:∀(w X:Nat),dl (4294967296 ^ w*X) w=List.replicate w 0:=by
 intro w;have key:∀ n,n<=w -> ∀ X,dl (4294967296 ^ w*X) n=List.replicate n 0:=by
  intro n;induction n with
  | zero=>intro _ X; rfl
  | succ n ih=>
   intro hn X;rw[dl,ih (by omega),aj4];have e:4294967296 ^ w*X=4294967296 ^ n*(4294967296*(4294967296 ^ (w - n - 1)*X)):=by rw[<- aiF,<- aiF,<- aiG,<- aiN];congr 2; omega
   rw[e,ai5 _ (aT n),alB];rfl
 exact key w (aiH _)
def xf (n:Nat):2 ^ n=4294967296 ^ (n / 32)*2 ^ (n%32):=by
 have:(4294967296:Nat)=2 ^ 32:=by decide
 rw[this,<- aln,<- aiN];congr 1; omega
def aZ {α:Type} (xs:List α) (y:α) (ys:List α) (z:α) (n:Nat) (h:n=xs.length):(xs++y::ys).set n z=xs++z::ys:=by subst h; rw[akC _ _ (aiH _),ai4]; rfl
def ci {xs:List Int} {y:Int} {ys:List Int} {n:Nat} (h:n=xs.length):(xs++y::ys).getD n 0=y:=by subst h; rw[List.getD_eq_getElem?_getD,List.getElem?_append_right (aiH _),ai4]; rfl
def Nw {N:Nat} (m:List Int) (hm:InW m) (n:Nat) (hn:n<4294967296) (hN:m.length+n / 32+4<N) (hs:m.length<=1099511627776) (k:Kz9):ww N m n k=k (aj (aE m*2 ^ n)):=by
 (unfold ww; rw[ae]; unfold vG)
 by_cases h0:m.length=0
 ·have:m=[]:=List.length_eq_zero_iff.1 h0;subst this;simp[aE,aW]
 ·have e0:((m.length:Int)==0)=false:=by simp; intro h; subst h; simp at h0
  have ew:IntKind.wrap .u64 (Int.tdiv (n:Int) 32)=((n / 32:Nat):Int):=by rw[aq,ajw (by omega)]; omega
  have es:Int.tmod (n:Int) 32=((n%32:Nat):Int):=by rw[ajn (by omega)]; rfl
  rw[e0,aiv,ew,es];generalize hw:n / 32=w at *;generalize hsh:n%32=s at *;have hs32:s<32:=by omega
  have hp2:2 ^ n=4294967296 ^ w*2 ^ s:=by rw[xf,hw,hsh]
  have hs0:0<2 ^ s:=aiI s;have hs1:2 ^ s*2 ^ (32 - s)=4294967296:=by rw[<- aiN,show s+(32 - s)=32 by omega]
  have hs2:2 ^ s<=2147483648:=by have:2 ^ s<=2 ^ 31:=aiK (by decide) (by omega);simpa using this
  have elen:Int.toNat (((w:Nat):Int)+(m.length:Int)+1)=w+m.length+1:=by omega
  rw[aa air,aa air,aa air,aa (bP (by omega) (by omega) (by omega) (by omega)),elen]
  let V:=aE m*2 ^ n
  let X:=aE m*2 ^ s
  have hVX:V=4294967296 ^ w*X:=by simp only[V,X]; rw[hp2,aiW]
  let T:=λi=>aE (m.take i)*2 ^ s
  let c:=λi=>T i / 4294967296 ^ i
  refine aG (λi=>((i:Int),dl V (w+i)++((c i:Nat):Int)::List.replicate (m.length - i) 0)) m.length ?_ (by omega) (λi hi K=>?_) (λK=>?_)
  ·congr 1;show List.replicate (w+m.length+1) (0:Int)=dl V w++((c 0:Nat):Int)::List.replicate m.length 0;rw[hVX,vV];have hc0:c 0=0:=by simp[c,T,aE]
   rw[hc0];have:w+m.length+1=w+(m.length+1):=by omega
   rw[this,<- aj8,ajd]; rfl
  ·have hx:=hm.at (i:=i);have hT:T (i+1)=T i+4294967296 ^ i*((m.getD i 0).toNat*2 ^ s):=by simp only[T,aP,aiY,aiF]
   have hq:T (i+1) / 4294967296 ^ i=c i+(m.getD i 0).toNat*2 ^ s:=by rw[hT,eG]
   have hci:c i<2 ^ s:=by simp only[c,T];rw[aiD (aT i),aix];exact ajC (bf hm i) hs0
   have hc1:c (i+1)=(c i+(m.getD i 0).toNat*2 ^ s) / 4294967296:=by rw[<- hq]; simp only[c]; rw[aiG,aiC]
   have hdig:V / 4294967296 ^ (w+i)%4294967296=(c i+(m.getD i 0).toNat*2 ^ s)%4294967296:=by rw[<- hq,hVX,aiN,<- aiC,ai5 _ (aT w)];obtain⟨R,hR⟩:=ck m (i+1);refine mZ (R:=R*2 ^ s) ?_;simp only[X,T];rw[hR,aiY,aiF]
   have hrep:List.replicate (m.length - i) (0:Int)=0::List.replicate (m.length - (i+1)) 0:=by rw[show m.length - i=(m.length - (i+1))+1 by omega,ajd]
   have hdl:=al V (w+i);have ei:Int.toNat ((w:Int)+(i:Int))=w+i:=by omega
   have ei1:Int.toNat ((w:Int)+(i:Int)+1)=w+i+1:=by omega
   have emin:min s 64=s:=by omega
   simp only[e_,aiA,ei,ei1,emin];rw[hrep,ci hdl.symm,aZ _ _ _ _ _ hdl.symm];have et:IntKind.wrap .u64 (IntKind.wrap .u64 (m.getD i 0)*2 ^ s)=(((m.getD i 0).toNat*2 ^ s:Nat):Int):=by
    have hxs:(m.getD i 0).toNat*2 ^ s<4294967296*2147483648:=ajc (by omega) hs2 (by decide);have e1:IntKind.wrap .u64 (m.getD i 0)=(((m.getD i 0).toNat:Nat):Int):=by rw[aq]; omega
    have e2:(((m.getD i 0).toNat:Nat):Int)*2 ^ s=(((m.getD i 0).toNat*2 ^ s:Nat):Int):=by simp
    rw[e1,e2,aq]; omega
   rw[et];generalize hxx:(m.getD i 0).toNat=x at *;have hx32:x<4294967296:=by omega
   have hlow:x*2 ^ s%4294967296=2 ^ s*(x%2 ^ (32 - s)):=by
    have e:x*2 ^ s%(2 ^ s*2 ^ (32 - s))=2 ^ s*(x%2 ^ (32 - s)):=by rw[aix x]; exact akd _ _ _
    rwa [hs1]at e
   have hsum:2 ^ s*(x%2 ^ (32 - s))+c i<4294967296:=by have h1:x%2 ^ (32 - s)+1<=2 ^ (32 - s):=aiJ _ (aiI _);have h2:=aiB (2 ^ s) h1;rw[hs1,aiL]at h2;omega
   have eor:aA .or .u32 ((c i:Nat):Int) (IntKind.wrap .u32 ((x*2 ^ s:Nat):Int))=((V / 4294967296 ^ (w+i)%4294967296:Nat):Int):=by
    have e1:IntKind.wrap .u32 ((x*2 ^ s:Nat):Int)=((2 ^ s*(x%2 ^ (32 - s)):Nat):Int):=by rw[<- hlow,dH]; omega
    rw[e1,rO _ _ s hci hsum,hdig];omega
   have ehi:IntKind.wrap .u32 (Int.fdiv ((x*2 ^ s:Nat):Int) (2 ^ 32))=((c (i+1):Nat):Int):=by have hxs:x*2 ^ s<4294967296*2147483648:=ajc hx32 hs2 (by decide);rw[kV,dH,hc1];omega
   rw[eor,ehi];have hl1:∀(a b:Int) (ys:List Int),(dl V (w+i)++a::b::ys).length=w+i+2+ys.length:=by intro a b ys; simp[hdl]; omega
   have hset2:(dl V (w+i)++((V / 4294967296 ^ (w+i)%4294967296:Nat):Int)::0::List.replicate (m.length - (i+1)) 0).set (w+i+1) ((c (i+1):Nat):Int)=dl V (w+(i+1))++((c (i+1):Nat):Int)::List.replicate (m.length - (i+1)) 0:=by
    have:dl V (w+i)++((V / 4294967296 ^ (w+i)%4294967296:Nat):Int)::0::List.replicate (m.length - (i+1)) 0=dl V (w+(i+1))++0::List.replicate (m.length - (i+1)) 0:=by rw[<- aja,dl]; simp
    rw[this];exact aZ _ _ _ _ _ (by rw[al]; omega)
   rw[hset2,hl1,hl1];simp only[ajO];rw[ait (by omega:(i:Int)<m.length),aiw,aa ais,aa (ait (by omega)),aa air,aa ais,aa (ait (by omega)),aa ais,aa (ait (by omega)),
    aa air,aa air,aa ais,aa (ait (by omega)),aa air]
   rfl
  ·simp only[e_];rw[aiu (by omega:¬(m.length:Int)<m.length),aiv,ai4,ai8];have hV:V<4294967296 ^ (w+m.length+1):=by have h1:=fo hm;simp only[V];rw[hp2,aiG,aiN,aiW,aiF];refine ajC ?_ (aT w);exact ajc h1 (by omega) (by decide)
   have hT:T m.length=X:=by simp only[T,X]; rw[ajb]
   have hend:dl V (w+m.length)++[((c m.length:Nat):Int)]=dl V (w+m.length+1):=by
    rw[dl];have:c m.length=V / 4294967296 ^ (w+m.length)%4294967296:=by simp only[c];rw[hT,hVX,aiN,<- aiC,ai5 _ (aT w)];rw[aiE];rw[aiD (aT _),aix];have h1:=fo hm;simp only[X];exact ajc h1 (by omega) (by decide)
    rw[this]
   rw[hend,dM _ (jw V _) (by rw[al]; omega) (by rw[al]; omega),qT hV]
def Cl {m:List Int} (hm:InW m) (j:Nat):∃ R,aE m / 4294967296 ^ j=(m.getD j 0).toNat+4294967296*(m.getD (j+1) 0).toNat+4294967296*4294967296*R:=by
 obtain⟨R,hR⟩:=ck m (j+2);refine⟨R,?_⟩;rw[hR,aP,aP];simp only[aiG];have e:aE (m.take j)+4294967296 ^ j*(m.getD j 0).toNat+4294967296 ^ j*4294967296*(m.getD (j+1) 0).toNat+4294967296 ^ j*4294967296*4294967296*R
   = aE (m.take j)+4294967296 ^ j*((m.getD j 0).toNat+4294967296*(m.getD (j+1) 0).toNat+4294967296*4294967296*R):=by
  rw[aiL,aiL,aiF,aiF,aiF,aiF]; omega
 rw[e,eG,ai0 (bf hm j),aiZ]
def uL {N:Nat} (n:Nat) (hn:n<18446744073709551616) (hN:4<N) (k:Kz9):CX N n k=k (aj n):=by
 (unfold CX; rw[ae]; unfold LQ)
 have hw:InW [IntKind.wrap .u32 (n:Int),IntKind.wrap .u32 (Int.fdiv (n:Int) (2 ^ 32))]:=by intro x hx;simp only[dH,kV,ajQ,akv,or_false]at hx;rcases hx with rfl | rfl <;> omega
 have hv:aE [IntKind.wrap .u32 (n:Int),IntKind.wrap .u32 (Int.fdiv (n:Int) (2 ^ 32))]=n:=by simp only[aE,dH,kV]; omega
 rw[dM _ hw (by simp; omega) (by simp),hv]
def sg (neg:Bool) (n:Nat):Bool:=neg&&decide (n ≠ 0)
def nP (n:Nat):decide (((aj n).length:Int)>0)=decide (n ≠ 0):=by
 by_cases h:n=0
 ·subst h; rw[aW]; simp
 ·obtain⟨-,h2⟩:=ta n h;rw[ait (by omega),ait h]
def Qq (neg:Bool) (n:Nat) (k:Ky5):cond (neg==true) (k (decide (((aj n).length:Int)>0)) (aj n)) (k false (aj n))=k (sg neg n) (aj n):=by rw[nP];cases neg <;> rfl
def oe {N:Nat} (neg:Bool) (m:List Int) (b:Bool) (hm:InW m) (hN:fH N m) (k:Ky5):yU N neg m b k=k (sg neg (aE m)) (aj (aE m)):=by unfold yU P_;rw[IY m hm (by have:=hN.1; omega) (by have:=hN.2; omega)];exact Qq neg _ k
def vv {N:Nat} (n:Nat) (hn:n<18446744073709551616) (b:Bool) (hN:fH N (aj n)) (h4:4<N) (k:Ky5):PV N n b k=k false (aj n):=by
 (unfold PV; rw[ae]; unfold Rb)
 rw[uL n hn h4,oe false _ b (ba n) hN,aK];rfl
def aV (g:Bool) (n:Nat):Int:=if g=true then -(n:Int)else n
def vc (z:Int) (k:Ky5):Bool:=k (decide (z<0)) (aj z.natAbs)
def uP (g:Bool) (n:Nat) (k:Ky5):k (sg g n) (aj n)=vc (aV g n) k:=by
 unfold vc aV sg;cases g
 ·simp only[ajH,ai2,ak3,ajp];rw[aiu (by omega)]
 ·simp only[aj6,ajy,ak4,ajp];congr 1;by_cases h:n=0
  ·subst h; rfl
  ·rw[ait h,ait (by omega)]
def Na (z:Int):aV (decide (z<0)) z.natAbs=z:=by
 unfold aV;by_cases h:z<0
 ·rw[ait h]; simp; omega
 ·rw[aiu h]; simp; omega
def uv {x y:Nat}:decide (dL x y>=0)=decide (y<=x):=by
 unfold dL;split
 ·rw[aiu (by omega),aiu (by omega)]
 ·split
  ·rw[ait (by omega),ait (by omega)]
  ·rw[ait (by omega),ait (by omega)]
def K8 (g1 g2 turn:Bool) (n1 n2:Nat) (k:Ky5) :
  cond (g1==(g2 != turn)) (k (sg (g2 != turn) (n1+n2)) (aj (n1+n2))) (cond (decide (dL n1 n2>=0)) (k (sg g1 (n1 - n2)) (aj (n1 - n2))) (k (sg (g2 != turn) (n2 - n1)) (aj (n2 - n1))))
   = vc (aV g1 n1+(if turn=true then -(aV g2 n2)else aV g2 n2)) k:=by
 rw[uP _ _ k,uP _ _ k,uP _ _ k,uv];have key:∀ a b:Int,a=b->vc a k=vc b k:=λa b h=>by rw[h]
 cases g1 <;> cases g2 <;> cases turn <;> simp only[aV] <;> by_cases h:n2<=n1 <;> simp only[h,alf,alv,aiw,aiv,bne,akb,ajm,ai7,ajH,aj6,ai2,(by decide:(false==true)=false),(by decide:(true==false)=false)] <;> refine key _ _ ?_ <;> omega
def Kz {N:Nat} (turn b g1:Bool) (n1:Nat) (g2:Bool) (n2:Nat) (h1:fH N (aj n1)) (h2:fH N (aj n2)) (h3:fH N (aj (n1+n2))) (k:Ky5) :
  TY N turn b g1 (aj n1) g2 (aj n2) k=vc (aV g1 n1+(if turn=true then -(aV g2 n2)else aV g2 n2)) k:=by
 (unfold TY; rw[ae]; unfold Rw)
 have hs:∀ m,m<=n1+n2->fH N (aj m):=λm hm=>by have:=ce hm;exact⟨by have:=h3.1; omega,by have:=h3.2; omega⟩
 rw[NA _ _ (ba _) (ba _) h1 h2,iH _ _ h1 h2,aK,aK,oe _ _ _ (ba _) h3,aK,<- K8];congr 1;by_cases h:n2<=n1
 ·rw[xS _ _ (ba _) (ba _) (by rw[aK,aK]; exact h) h1,aK,aK,oe _ _ _ (ba _) (hs _ (by omega)),aK,uv,ait h];rfl
 ·rw[xS _ _ (ba n2) (ba n1) (by rw[aK,aK]; omega) h2,aK,aK,oe _ _ _ (ba _) (hs _ (by omega)),aK,uv,aiu h];rfl
def Ki {N:Nat} (b g1:Bool) (n1:Nat) (g2:Bool) (n2:Nat) (h1:fH N (aj n1)) (h2:fH N (aj n2)) (h3:fH N (aj (n1+n2))) (k:Ky5) :
  NZ N b g1 (aj n1) g2 (aj n2) k=vc (aV g1 n1 - aV g2 n2) k:=by
 unfold NZ P9;rw[Kz true b g1 n1 g2 n2 h1 h2 h3]; rfl
def U4 (N m s:Nat):Prop:=(aj m).length+s / 32+4<N/\(aj m).length<=1099511627776/\s<4294967296/\fH N (aj (m*2 ^ s))
def Cy {N:Nat} (s:Nat) (b g:Bool) (n:Nat) (h:U4 N n s) (k:Ky5):Jh N s b g (aj n) k=vc (aV g (n*2 ^ s)) k:=by
 (unfold Jh; rw[ae]; unfold Lu)
 rw[Nw _ (ba n) s h.2.2.1 h.1 h.2.1,aK,oe _ _ _ (ba _) h.2.2.2,aK,uP _ _ k]
def AP {N:Nat} (n:Nat) (hn:n<9223372036854775808) (hs:fH N (aj n)) (h4:4<N) (k:Ky5):nW N n k=k false (aj n):=by
 (unfold nW wL; unfold Qx; rw[ae]; unfold Ly jv)
 have e:IntKind.wrap .u64 (n:Int)=n:=by rw[aq]; omega
 rw[aiu (by omega:¬(n:Int)<0),aiv,e,uL n (by omega) h4,oe _ _ _ (ba _) hs,aK];rfl
def MQ:aj 1=[1]:=by rw[cE (by decide),aW]; rfl
def lq (a b:Nat):Int.fdiv (a:Int) (b:Int)=((a / b:Nat):Int):=by rw[ajX _ (by omega)]; rfl
def rT (N:Nat) (k:Kz5):yc N 52 2047 1075 k=k 9223372036854775808:=by rfl
def nH (N:Nat) (k:Kz5):pR N 52 2047 1075 k=k 9218868437227405312:=by rfl
def lf (N:Nat) (k:Kz5):nn N 52 2047 1075 k=k 4503599627370496:=by rfl
def zn (N:Nat) (k:Kz5):yb N 52 2047 1075 k=k 9221120237041090561:=by
 (unfold yb; rw[ae]; unfold xy)
 simp only[nH,lf];exact alE k (by decide)
def Pf (N:Nat) (b:Nat) (k:Kz4):N0 N b 52 2047 1075 k=k (isNaN b):=by
 (unfold N0; rw[ae]; unfold Lv)
 simp only[rT,nH,pZ];congr 1;rw[ajZ,ajS,fB];omega
def cnb (b:Nat):Nat:=if isNaN b then 9221120237041090561 else b
def CC (N:Nat) (b:Nat) (k:Kz5):Oc N b 52 2047 1075 k=k (cnb b):=by unfold Oc Ul;simp only[Pf,zn,cnb];cases isNaN b <;> rfl
def CF (N:Nat) (b:Nat) (k:Ky0):PT N b 52 2047 1075 k=k (aA .and .u64 (cnb b) 9223372036854775808 != 0) ((cnb b / 4503599627370496%2048:Nat):Int) ((cnb b%4503599627370496:Nat):Int):=by
 (unfold PT; rw[ae]; unfold Q_)
 simp only[CC,rT,lf];have e1:(2:Int) ^ (min (Int.toNat 52) 64)=((4503599627370496:Nat):Int):=by decide
 have e2:IntKind.wrap .u64 2047=((2 ^ 11 - 1:Nat):Int):=by decide
 have e3:IntKind.wrap .u64 (4503599627370496 - 1)=((2 ^ 52 - 1:Nat):Int):=by decide
 have e4:decide ((0:Int)<=52)=true:=by decide
 rw[e1,lq,e2,e3,kU _ _ (by decide),kU _ _ (by decide),e4,ab (by omega) (by omega)];rfl
def Dg (b:Nat):cls b=if (cnb b / 4503599627370496%2048)=2047 then(if cnb b%4503599627370496=0 then 2 else 1)else if cnb b / 4503599627370496%2048=0 then(if cnb b%4503599627370496=0 then 3 else 4)else 5:=by
 unfold cls cnb;by_cases h:isNaN b=true
 ·rw[if_pos h,if_pos h]; decide
 ·rw[if_neg h,if_neg h];have hn:¬(9218868437227405312<b%9223372036854775808):=λq=>h ((fB b).2 q)
  by_cases h1:b / 4503599627370496%2048=2047
  ·rw[if_pos h1,if_pos h1,if_pos (by omega)]
  ·rw[if_neg h1,if_neg h1]
def CD (N:Nat) (b:Nat) (k:Kz5):PS N b 52 2047 1075 k=k (cls b):=by
 (unfold PS; rw[ae]; unfold Q9)
 simp only[CF,Dg b];generalize cnb b / 4503599627370496%2048=e;generalize cnb b%4503599627370496=f;have d1:((e:Int)==2047)=decide (e=2047):=by rw[ajZ,akr,ajS]; omega
 have d2:((e:Int)==0)=decide (e=0):=by rw[ajZ,akr,ajS]; omega
 have d3:((f:Int)==0)=decide (f=0):=by rw[ajZ,akr,ajS]; omega
 simp only[bne,d1,d2,d3];by_cases h1:e=2047 <;> by_cases h2:e=0 <;> by_cases h3:f=0 <;> simp[h1,h2,h3]
def J9 (N:Nat) (b:Nat) (k:Kz5):sQ8 N b k=k (cls b):=by unfold sQ8 GQ8;simp only[D0,uR,C_,CD]
def MH (a b:Nat) (_ha:a<18446744073709551616\/True):decide ((cnb a:Int)=cnb b)=decide (cn (some a)=cn (some b)):=by
 have hq:isNaN 9221120237041090561=true:=by decide
 rw[ajZ,ajS,ajS];have cf:∀ c,cn (some c)=if isNaN c=true then none else some c:=λ_=>rfl
 rw[cf,cf];unfold cnb;by_cases h1:isNaN a=true <;> by_cases h2:isNaN b=true
 ·simp[h1,h2]
 ·rw[if_pos h1,if_neg h2,if_pos h1,if_neg h2];refine⟨λh=>?_,λh=>by cases h⟩;have:b=9221120237041090561:=by omega
  rw[this]at h2; exact absurd hq h2
 ·rw[if_neg h1,if_pos h2,if_neg h1,if_pos h2];refine⟨λh=>?_,λh=>by cases h⟩;have:a=9221120237041090561:=by omega
  rw[this]at h1; exact absurd hq h1
 ·simp only[h1,h2,ai2,aiV,ajH]; omega
def Pb (N:Nat) (b:Nat) (k:Kz7):Ic N b k=k (BK (some b)):=by unfold Ic Uk;simp only[D0,Be,pZ];rfl
def MJ (b:Bool) (k:Kz4):cond b (k true) (k false)=k b:=by cases b <;> rfl
def g8 {a c:Bool} (h:a=true):(a&&c)=c:=by rw[h]; rfl
def eE (N n:Nat):Prop:=n<N/\n<=17592186044416
def zr (l:List Int):List Fl:=l.map λn=>gw n.toNat
def AQ {N:Nat} (l:List Int) (hl:eE N l.length) (k:Kz8):oQ N l k=k (zr l):=by
 (unfold oQ; rw[ae]; unfold vI)
 refine(aD (λi=>((i:Int),(l.take i).map λn=>gw n.toNat)) l.length hl.1 (λi hi K=>?_) (λK=>?_):_)
 ·have h2:=hl.2;have e1:(l.take (i+1)).map (λn=>gw n.toNat)=(l.take i).map (λn=>gw n.toNat)++[gw (l.getD i 0).toNat]:=by rw[ajL hi,akj,List.getD_eq_getElem?_getD,List.getElem?_eq_getElem hi]; rfl
  simp only[mX,Be,aiA];rw[s_ (by omega),aiw,g8 ais,g8 (s_ (by simp; omega)),g8 air,e1];rfl
 ·simp only[mX];rw[uw (by omega),aiv,ajb]; rfl
def bb (xs:List Fl):Bool:=sN (λi=>be (xs.getD i none)) xs.length
def iG {N:Nat} (xs:List Fl) (hl:eE N xs.length) (k:Kz4):vh N xs k=k (bb xs):=by
 (unfold vh; rw[ae]; unfold Q3)
 rw[<- MJ (bb xs) k];refine(n_ (λi=>(i:Int)) (λi=>be (xs.getD i none)) xs.length hl.1 (λi hi K=>?_) (λK=>?_):_)
 ·have h2:=hl.2;simp only[lH,Ob,aiA];rw[s_ (by omega),aiw,g8 ais,g8 air];have hc:=EM (xs.getD i none);generalize Ad (xs.getD i none)=c at hc ⊢;generalize be (xs.getD i none)=f at hc ⊢;have d1:(c==1)=decide (c=1):=rfl;have d2:(c==2)=decide (c=2):=rfl;rw[d1,d2];generalize decide (c=1)=u at *;generalize decide (c=2)=v at *;cases u <;> cases v <;> cases f <;> first | rfl | cases hc
 ·simp only[lH];rw[uw (by omega),aiv]
def ny:Fl->Nat
 | none=>9221120237041090561
 | some b=>cnb b
def H8 (d:Ieee.Datum) (h:d.isNaN=false):d.order d=some .eq:=by
 cases d with
 | nan s t=>cases h
 | infinity s=>simp[Ieee.Datum.order,compare,compareOfLessAndEq]
 | number s m i=>simp[Ieee.Datum.order,compare,compareOfLessAndEq]
def JW (b:Nat) (h:isNaN b=false):(Ieee.double.order b b==some .eq)=true:=by unfold Ieee.Format.order;rw[H8 _ h]; rfl
def MZ (b:Nat):feq (some b) (some b) = !isNaN b:=by
 cases h:isNaN b with
 | true=>simp[feq,wT,oK b h]
 | false=>simp only[feq,wT,ai7]; exact JW b h
def Ft (N:Nat) (x:Fl) (k:Kz5):oP N x k=k (ny x):=by
 unfold oP zS CW;cases x with
 | none=>rfl
 | some b=>
  rw[MZ];simp only[ny,cnb];cases isNaN b <;> rfl
def F2 (a b:Nat):Int.tmod (a:Int) (b:Int)=((a%b:Nat):Int):=by rw[ajn (by omega)]; rfl
def CB (N:Nat) (x:Fl) (k:Ky0):pE N x k=k (Int.fdiv (ny x:Int) (2 ^ 63)==1) ((ny x / 4503599627370496%2048:Nat):Int) ((ny x%4503599627370496:Nat):Int):=by
 (unfold pE; rw[ae]; unfold sI)
 simp only[Ft];have e1:(2:Int) ^ 52=((4503599627370496:Nat):Int):=by decide
 have e2:(2048:Int)=((2048:Nat):Int):=rfl;have e3:(4503599627370496:Int)=((4503599627370496:Nat):Int):=rfl;rw[e1,e2,e3,lq,F2,F2,ab (by omega) (by omega)];rfl
def JP (x:Fl):Ad x=if (ny x / 4503599627370496%2048)=2047 then(if ny x%4503599627370496=0 then 2 else 1)else if ny x / 4503599627370496%2048=0 then(if ny x%4503599627370496=0 then 3 else 4)else 5:=by
 cases x with
 | none=>decide
 | some b=>exact Dg b
def BU (N:Nat) (x:Fl) (k:Kz5):tR N x k=k (Ad x):=by
 (unfold tR ym; unfold QB; rw[ae]; unfold Ma)
 simp only[CB,JP x];generalize ny x / 4503599627370496%2048=e;generalize ny x%4503599627370496=f;have d1:((e:Int)==2047)=decide (e=2047):=by rw[ajZ,akr,ajS]; omega
 have d2:((e:Int)==0)=decide (e=0):=by rw[ajZ,akr,ajS]; omega
 have d3:((f:Int)==0)=decide (f=0):=by rw[ajZ,akr,ajS]; omega
 simp only[bne,d1,d2,d3];by_cases h1:e=2047 <;> by_cases h2:e=0 <;> by_cases h3:f=0 <;> simp[h1,h2,h3]
def AY (N:Nat) (x:Fl) (k:Kz4):rB N x k=k (be x):=by
 unfold rB wM;simp only[BU];congr 1;have h1:=EM x;have h2:=OQ x;rw[ajZ,ajS];cases hf:be x with
 | true=>
  rw[hf]at h1;simp only[ajm,Bool.or_eq_false_iff,akU]at h1;exact⟨λ_=>rfl,λ_=>by omega⟩
 | false=>
  rw[hf]at h1;simp only[ai7,alM,ak0]at h1;exact⟨λ_=>by omega,λh=>by cases h⟩
def BP {N:Nat} (xs:List Fl) (hl:eE N xs.length) (k:Kz4):N3 N xs k=k (bb xs):=by
 (unfold N3; rw[ae]; unfold LB)
 rw[<- MJ (bb xs) k];refine(n_ (λi=>(i:Int)) (λi=>be (xs.getD i none)) xs.length hl.1 (λi hi K=>?_) (λK=>?_):_)
 ·have h2:=hl.2;simp only[fV,aiA,AY];rw[s_ (by omega),aiw,g8 ais,g8 air];cases be (xs.getD i none) <;> rfl
 ·simp only[fV];rw[uw (by omega),aiv]
def Mr (x y:Fl):((ny x:Int)==ny y)=decide (cn x=cn y):=by
 have hq:cn (some 9221120237041090561)=none:=by decide
 have hb:cnb 9221120237041090561=9221120237041090561:=by decide
 have key:∀ x,∃ a,ny x=cnb a/\cn x=cn (some a):=by
  intro x;cases x with
  | none=>exact⟨9221120237041090561,hb.symm,hq.symm⟩
  | some b=>exact⟨b,rfl,rfl⟩
 obtain⟨a,e1,e2⟩:=key x;obtain⟨b,e3,e4⟩:=key y;rw[e1,e2,e3,e4,<- MH a b (.inr trivial)];rfl
def DE (N:Nat) (x y:Fl) (k:Kz4):wA N x y k=k (decide (cn x=cn y)):=by
 (unfold wA; rw[ae]; unfold vJ)
 simp only[Ft,Mr]
def iF {n i j:Nat} (hi:i<n) (hj:j<n):i*n+j<n*n:=by have:(i+1)*n<=n*n:=aiy n hi;rw[aiY]at this; omega
def tD {n:Nat} (h:n<=12):n*n<=144:=ajl h h
def NF (N:Nat) (n:Int) (k:Kz4):Gr N n k=k (decide (0<=n/\n<=12)):=by
 unfold Gr Rt;by_cases h1:0<=n
 ·rw[s_ (p:=n>=0) h1]; simp[h1]
 ·rw[uw (p:=n>=0) h1]; simp[h1]
def chk (r c:Int) (xs:List Fl):Int:=if (0<=r/\r<=12)/\(0<=c/\c<=12)then(if (xs.length:Int)=r*c then(if bb xs=true then 0 else 4)else 3)else 1
def PB {r c:Int} (hr:0<=r/\r<=12) (hc:0<=c/\c<=12):ac .i64 (r*c)=true:=by have h1:0<=r*c:=Int.mul_nonneg hr.1 hc.1;have h2:r*c<=12*12:=Int.mul_le_mul hr.2 hc.2 hc.1 (by decide);exact ab (by omega) (by omega)
def sT {r c:Int} {xs:List Fl}:chk r c xs=0↔((0<=r/\r<=12)/\(0<=c/\c<=12))/\(xs.length:Int)=r*c/\bb xs=true:=by
 unfold chk;split
 ·split
  ·split
   ·simp[*]
   ·simp[*]
  ·simp[*]
 ·simp[*]
def elt (xs:List Fl) (n i j:Nat):Fl:=xs.getD (i*n+j) none
def I8 (V x Bk bk i k:Nat):V%4294967296 ^ (i+k+1)+x*(Bk+4294967296 ^ k*bk)*4294967296 ^ i=(V%4294967296 ^ (i+k)+x*Bk*4294967296 ^ i)+4294967296 ^ (i+k)*(V / 4294967296 ^ (i+k)%4294967296+x*bk):=by rw[Nat.mod_pow_succ,aiN];grind
def G7 (V x Bk bk i k:Nat):(V%4294967296 ^ (i+k+1)+x*(Bk+4294967296 ^ k*bk)*4294967296 ^ i) / 4294967296 ^ (i+k+1)=((V%4294967296 ^ (i+k)+x*Bk*4294967296 ^ i) / 4294967296 ^ (i+k)+V / 4294967296 ^ (i+k)%4294967296+x*bk) / 4294967296:=by rw[I8,aiG,<- aiC,ajq _ _ (ajB (by decide)),aja]
def EI (V x Bk bk i k R:Nat):(V+x*(Bk+4294967296 ^ k*bk+4294967296 ^ (k+1)*R)*4294967296 ^ i) / 4294967296 ^ (i+k)%4294967296=((V%4294967296 ^ (i+k)+x*Bk*4294967296 ^ i) / 4294967296 ^ (i+k)+V / 4294967296 ^ (i+k)%4294967296+x*bk)%4294967296:=by
 have e:V+x*(Bk+4294967296 ^ k*bk+4294967296 ^ (k+1)*R)*4294967296 ^ i=(V%4294967296 ^ (i+k+1)+x*(Bk+4294967296 ^ k*bk)*4294967296 ^ i)+4294967296 ^ (i+k+1)*(V / 4294967296 ^ (i+k+1)+x*R):=by
  have h:=ajo V (4294967296 ^ (i+k+1));have h2:4294967296 ^ (i+k+1)=4294967296 ^ (k+1)*4294967296 ^ i:=by rw[<- aiN]; congr 1; omega
  generalize V / 4294967296 ^ (i+k+1)=q at *;generalize V%4294967296 ^ (i+k+1)=r at *;rw[<- h,h2];grind
 rw[mZ e,I8,ajq _ _ (ajB (by decide)),aja]
def MB {V x Bk i k:Nat} (hx:x<4294967296) (hB:Bk<4294967296 ^ k):(V%4294967296 ^ (i+k)+x*Bk*4294967296 ^ i) / 4294967296 ^ (i+k)<4294967296:=by
 rw[aiD (ajB (by decide))];have h1:V%4294967296 ^ (i+k)<4294967296 ^ (i+k):=aiJ _ (ajB (by decide));have h2:x*Bk<=4294967295*4294967296 ^ k:=ajl (by omega) (by omega);have h3:x*Bk*4294967296 ^ i<=4294967295*4294967296 ^ (i+k):=by
  have:=aiy (4294967296 ^ i) h2
  rwa [aiF 4294967295,<- aiN,akm k i]at this
 omega
def uy (S:Nat) {L i:Nat} (h:i<L):(dl S L).getD i 0=((S / 4294967296 ^ i%4294967296:Nat):Int):=by
 induction L with
 | zero=>omega
 | succ L ih=>
  show((dl S L)++[_]).getD i 0=_;rw[List.getD_eq_getElem?_getD];by_cases hi:i<L
  ·rw[List.getElem?_append_left (by rw[al]; exact hi),<- List.getD_eq_getElem?_getD,ih hi]
  ·have:i=L:=by omega
   subst this;rw[List.getElem?_append_right (by rw[al]; exact aiH _),al,ai4]; rfl
def dq {l:List Int} {n:Nat} (h:n<l.length):l.drop n=l.getD n 0::l.drop (n+1):=by rw[List.drop_eq_getElem_cons h,List.getD_eq_getElem?_getD,List.getElem?_eq_getElem h]; rfl
def rW {b:List Int} {k:Nat}:aE (b.take (k+1))=aE (b.take k)+4294967296 ^ k*(b.getD k 0).toNat:=aP k
def Am (U V L p:Nat) (h:p<L):(dl U p++(dl V L).drop p).set p ((U / 4294967296 ^ p%4294967296:Nat):Int)=dl U (p+1)++(dl V L).drop (p+1):=by rw[dq (by rw[al]; exact h),aZ _ _ _ _ _ (by rw[al])];show _=(dl U p++[_])++_;rw[aiM]; rfl
def He (U V L p:Nat) (h:p<L):(dl U p++(dl V L).drop p).getD p 0=((V / 4294967296 ^ p%4294967296:Nat):Int):=by rw[dq (by rw[al]; exact h),ci (by rw[al]),uy V h]
def Al (U V L p:Nat) (h:p<=L):(dl U p++(dl V L).drop p).length=L:=by simp[al]; omega
def JU {U L p:Nat} (hU:U<4294967296 ^ p) (h:p<=L) {V:Nat} (hV:V<4294967296 ^ p):dl U p++(dl V L).drop p=dl U L:=by
 induction L with
 | zero=>
  have:p=0:=by omega
  subst this; rfl
 | succ L ih=>
  by_cases hp:p=L+1
  ·subst hp; rw[aje (by rw[al]; omega),ai3]
  ·have hpL:p<=L:=by omega
   have e:∀ X,X<4294967296 ^ p->dl X (L+1)=dl X L++[0]:=by intro X hX;show dl X L++[((X / 4294967296 ^ L%4294967296:Nat):Int)]=_;rw[ai0 (aiO hX (aiK (by decide) hpL))]; rfl
   rw[e V hV,e U hU,aju (by rw[al]; exact hpL),<- aiM,ih hpL]
def wj {a:List Int} (ha:InW a) (i:Nat):aE (a.take i)<4294967296 ^ i:=bf ha i
def wi {x y i j:Nat} (hx:x<4294967296 ^ i) (hy:y<4294967296 ^ j):x*y<4294967296 ^ (i+j):=by rw[aiN];exact alJ hx hy
def xU {N:Nat} (a b:List Int) (ha:InW a) (hb:InW b) (hN:a.length+b.length+2<N) (hs:a.length+b.length<=17592186044416) (k:Kz9):xi N a b k=k (aj (aE a*aE b)):=by
  (unfold xi; rw[ae]; unfold Rd)
  have eL:Int.toNat (((a.length:Nat):Int)+((b.length:Nat):Int))=a.length+b.length:=by omega
  rw[aa air,aa (bP (by omega) (by omega) (by omega) (by omega)),eL]
  let L:=a.length+b.length
  let B:=aE b
  have hB:B<4294967296 ^ b.length:=fo hb;refine aG (λi=>((i:Int),dl (aE (a.take i)*B) L)) a.length ?_ (by omega) (λi hi K=>?_) (λK=>?_)
  · show((0:Int),List.replicate L (0:Int))=(((0:Nat):Int),dl (aE (a.take 0)*B) L)
    have:=vV L 0;rw[ajP]at this;rw[akK,show aE []=0 from rfl,ajT,this]; rfl
  · simp only[lT]
    rw[ait (by omega:(i:Int)<a.length),aiw];have hx:=ha.at (i:=i)
    let V:=aE (a.take i)*B
    let x:=(a.getD i 0).toNat
    let U:=aE (a.take (i+1))*B
    have hU:U=V+x*B*4294967296 ^ i:=by simp only[U,V,x];rw[rW];grind
    have hV:V<4294967296 ^ (i+b.length):=wi (wj ha i) hB;have hUl:U<4294967296 ^ (i+1+b.length):=wi (wj ha (i+1)) hB
    let c:=λj=>(V%4294967296 ^ (i+j)+x*aE (b.take j)*4294967296 ^ i) / 4294967296 ^ (i+j)
    refine aG (λj=>(((c j:Nat):Int),(j:Int),dl U (i+j)++(dl V L).drop (i+j))) b.length ?_ (by omega) (λj hj K'=>?_) (λK'=>?_)
    · show((0:Int),(0:Int),dl V L)=_
      have h0:c 0=0:=by simp only[c,akK,show aE []=0 from rfl,ajP,ajT,ai1];exact ai0 (aiJ _ (ajB (by decide)))
      have hlow:dl U i=dl V i:=by
        have:∀ n,n<=i->dl U n=dl V n:=by
          intro n;induction n with
          | zero=>intro _; rfl
          | succ n ih=>
            intro hn;show dl U n++[_]=dl V n++[_];rw[ih (by omega)];congr 3;have:U=V+4294967296 ^ (n+1)*(x*B*4294967296 ^ (i - (n+1))):=by rw[hU,aiW,<- aiN,show n+1+(i - (n+1))=i by omega]
            exact mZ this
        exact this i (aiH _)
      have hsp:dl V i++(dl V L).drop i=dl V L:=by
        have:∀ n,i<=n->dl V i++(dl V n).drop i=dl V n:=by
          intro n;induction n with
          | zero=>intro h; have:i=0:=(by omega); subst this; rfl
          | succ n ih=>
            intro h;by_cases hn:i=n+1
            · subst hn; rw[aje (by rw[al]; omega),ai3]
            · show dl V i++(dl V n++[_]).drop i=dl V n++[_]
              rw[aju (by rw[al]; omega),<- aiM,ih (by omega)]
        exact this L (by simp only[L]; omega)
      rw[h0,ai1,hlow,hsp]; rfl
    · have hy:=hb.at (i:=j)
      have hp:i+j<L:=by simp only[L]; omega
      have hlen:=Al U V L (i+j) (by omega);have hget:=He U V L (i+j) hp;have hset:=Am U V L (i+j) hp;have hc:=MB (V:=V) (x:=x) (i:=i) (k:=j) (Bk:=aE (b.take j)) (by simp only[x]; omega) (wj hb j);have hstep:=G7 V x (aE (b.take j)) (b.getD j 0).toNat i j;obtain⟨R,hR⟩:=ck b (j+1);have hdig:=EI V x (aE (b.take j)) (b.getD j 0).toNat i j R;rw[<- rW]at hstep hdig;rw[<- hR]at hdig;have hUe:V+x*aE b*4294967296 ^ i=U:=hU.symm;rw[hUe]at hdig;have hxy:x*(b.getD j 0).toNat<=4294967295*4294967295:=ajl (by simp only[x]; omega) (by omega);have eidx:Int.toNat ((i:Int)+(j:Int))=i+j:=by omega
      have hcj:∀ n,c n=(V%4294967296 ^ (i+n)+x*aE (b.take n)*4294967296 ^ i) / 4294967296 ^ (i+n):=λ_=>rfl
      have hax:a.getD i 0=(x:Int):=by simp only[x]; omega
      have hby:b.getD j 0=((b.getD j 0).toNat:Int):=by omega
      simp only[lU,aiA,eidx,hlen,hget];rw[ait (by omega:(j:Int)<b.length),aiw,aa ais,aa ais,aa air,aa ais,aa (ait (by omega)),aa air,aa ais,aa (ait (by omega)),aa air];have ec1:c (j+1)=(c j+V / 4294967296 ^ (i+j)%4294967296+x*(b.getD j 0).toNat) / 4294967296:=hstep;have ed:U / 4294967296 ^ (i+j)%4294967296=(c j+V / 4294967296 ^ (i+j)%4294967296+x*(b.getD j 0).toNat)%4294967296:=hdig;have hcl:c j<4294967296:=hc;rw[ed]at hset;have vlt:V / 4294967296 ^ (i+j)%4294967296<4294967296:=aiJ _ (by decide);rw[hax,hby,show i+(j+1)=i+j+1 by omega,<- hset];generalize V / 4294967296 ^ (i+j)%4294967296=v at *;generalize (b.getD j 0).toNat=y at *;generalize dl U (i+j)++(dl V L).drop (i+j)=l at *;have et:∀ q:Nat,q=c j+v+x*y->IntKind.wrap .u64 ((IntKind.wrap .u64 ((IntKind.wrap .u64 ((IntKind.wrap .u64 (x:Int))*(IntKind.wrap .u64 (y:Int))))+(IntKind.wrap .u64 (v:Int))))+((c j:Nat):Int))=(q:Int):=by
        intro q hq;have exy:((x:Int))*(y:Int)=((x*y:Nat):Int):=by rw[aiQ]
        have hxl:x<4294967296:=by simp only[x]; omega
        have hyl:y<4294967296:=by omega
        have w1:IntKind.wrap .u64 (x:Int)=x:=by rw[aq]; omega
        have w2:IntKind.wrap .u64 (y:Int)=y:=by rw[aq]; omega
        rw[w1,w2,exy,aq,aq,aq,aq];omega
      rw[et _ rfl,ec1,kV,dH];congr 1
    · simp only[lU]
      rw[aiu (by omega:¬(b.length:Int)<b.length),aiv];have hlen:=Al U V L (i+b.length) (by simp only[L]; omega);have hset:=Am U V L (i+b.length) (by simp only[L]; omega);have eidx:Int.toNat ((i:Int)+(b.length:Int))=i+b.length:=by omega
      have hLe:i+b.length<L:=by simp only[L]; omega
      have hc:c b.length=U / 4294967296 ^ (i+b.length):=by simp only[c];rw[ajb,aiE hV,hU]
      have hcl:U / 4294967296 ^ (i+b.length)<4294967296:=by
        rw[aiD (ajB (by decide))];have:i+1+b.length=i+b.length+1:=by omega
        rw[this,aiG]at hUl;omega
      have ew:IntKind.wrap .u32 ((c b.length:Nat):Int)=((U / 4294967296 ^ (i+b.length)%4294967296:Nat):Int):=by rw[dH,hc]; omega
      have hfin:=JU (U:=U) (V:=V) (L:=L) (p:=i+b.length+1) (by rw[show i+b.length+1=i+1+b.length by omega]; exact hUl) (by omega) (aiO hV (aiK (by decide) (by omega)));rw[aa air,eidx,hlen,aa ais,aa (ait (by omega)),aa air,ew,hset,hfin];rfl
  · simp only[lT]
    rw[aiu (by omega:¬(a.length:Int)<a.length),aiv,ajb,dM _ (jw _ _) (by rw[al]; simp only[L]; omega) (by rw[al]; simp only[L]; omega)];rw[qT (wi (fo ha) hB)]
def AH (g h:Bool) (m n:Nat):aV (g != h) (m*n)=aV g m*aV h n:=by unfold aV;rw[aiQ];cases g <;> cases h <;> simp[alF,alo]
def EW (n:Nat):bR (aj n) (aj n).length=(aj n).length:=by
 have ht:(aj n).take (bR (aj n) (aj n).length)=aj n:=by rw[uc (ba n),aK]
 have hc:=kx (aj n) (aj n).length;have:=alE List.length ht;rw[ai_]at this; omega
def Pq (g:Bool) (n:Nat) (k:Ky5):cond ((!g)==true) (k (decide (((aj n).length:Int)>0)) (aj n)) (k false (aj n))=vc (-(aV g n)) k:=by rw[Qq,uP _ _ k];congr 1;unfold aV; cases g <;> simp
def Cz {N:Nat} (g:Bool) (n:Nat) (hN:fH N (aj n)) (k:Ky5):N7 N g (aj n) k=vc (-(aV g n)) k:=by
 (unfold N7; rw[ae]; unfold LN tW sL)
 obtain⟨h1,h2⟩:=hN;rw[ajh,ait (by omega),ajy,mC _ (by omega) (by omega),EW];simp only[aj0,ajb];rw[ait (by omega:0+(aj n).length<=(aj n).length),ajy];exact Pq g n k
def aS (B:Nat) (n:Nat):Prop:=n<2 ^ B
def cN:∀(j n:Nat),n<4294967296 ^ j->(aj n).length<=j
 | 0,n,h=>by
  have:n=0:=by simp at h; exact h
  subst this; rw[aW]; exact aiH _
 | j+1,n,h=>by
  by_cases h0:n=0
  ·subst h0; rw[aW]; simp
  ·rw[cE h0,ai6];have:n / 4294967296<4294967296 ^ j:=ako (by rw[aiG]at h; omega);have:=cN j _ this;omega
def UR (j:Nat):4294967296 ^ j=2 ^ (32*j):=by rw[aln]
def z_ {B n:Nat} (h:aS B n):(aj n).length<=B / 32+1:=by refine cN _ _ ?_;rw[UR];exact aiO h (aiK (by decide) (by omega))
def G3 {N B n:Nat} (hN:1000<=N) (hB:B<=31000) (h:aS B n):fH N (aj n):=by have:=z_ h;exact⟨by omega,by omega⟩
def bN {A B n:Nat} (h:aS A n) (hAB:A<=B):aS B n:=aiO h (aiK (by decide) hAB)
def dI {A B m n:Nat} (h:aS A m) (g:aS B n):aS (A+B) (m*n):=by unfold aS; rw[aiN]; exact alJ h g
def vR {A m:Nat} (h:aS A m) (s:Nat):aS (A+s) (m*2 ^ s):=by unfold aS; rw[aiN]; exact aji h (aiI s)
def wQ {A m n:Nat} (h:aS A m) (g:aS A n):aS (A+1) (m+n):=by unfold aS at *; rw[aiG]; omega
def mP {A m n:Nat} (h:aS A m) (g:n<=m):aS A n:=aj2 g h
def Ce {N B n s:Nat} (hN:1000<=N) (hB:B+s<=31000) (h:aS B n):U4 N n s:=by have h1:=z_ h;exact⟨by omega,by omega,by omega,G3 hN hB (vR h s)⟩
def exK (z:Int × Int) (k:Int->Bool->List Int->Bool):Bool:=k z.1 (decide (z.2<0)) (aj z.2.natAbs)
def yE (x y:Int × Int):Int × Int:=(x.1+y.1,x.2*y.2)
def Qi (x:Int × Int):Int × Int:=(x.1,-x.2)
def th (x:Int × Int) (e:Int):Int:=x.2*2 ^ (x.1 - e).toNat
def IK (x y:Int × Int):Int × Int:=if x.2=0 then y else if y.2=0 then x else(min x.1 y.1,th x (min x.1 y.1)+th y (min x.1 y.1))
def Ex (E B:Nat) (x:Int × Int):Prop:=-(E:Int)<=x.1/\x.1<=E/\aS B x.2.natAbs
def xn (z:Int):Int:=if z=0 then 0 else if z<0 then -1 else 1
def au:List Int->Nat
 | []=>0
 | x::r=>x.toNat+18446744073709551616*au r
def InWq (m:List Int):Prop:=∀ x ∈ m,0<=x/\x<18446744073709551616
def af (n:Nat):List Int:=if h:n=0 then[]else((n%18446744073709551616:Nat):Int)::af (n / 18446744073709551616)
termination_by n
decreasing_by omega
def bc:af 0=[]:=by rw[af]; simp
def bW {n:Nat} (h:n ≠ 0):af n=((n%18446744073709551616:Nat):Int)::af (n / 18446744073709551616):=by rw[af]; simp[h]
def aU:∀ n,InWq (af n):=by
 intro n;induction n using Nat.strongRecOn with
 | ind n ih=>
  by_cases h:n=0
  ·subst h; rw[bc]; intro x hx; cases hx
  ·rw[bW h];intro x hx;rcases List.mem_cons.1 hx with rfl | hx
   ·omega
   ·exact ih (n / 18446744073709551616) (by omega) x hx
def aC:∀ n,au (af n)=n:=by
 intro n;induction n using Nat.strongRecOn with
 | ind n ih=>
  by_cases h:n=0
  ·subst h; rw[bc]; rfl
  ·rw[bW h,au,ih (n / 18446744073709551616) (by omega),aiA];omega
def nS (a b:List Int):au (a++b)=au a+18446744073709551616 ^ a.length*au b:=by
 induction a with
 | nil=>simp[au]
 | cons x r ih=>
  rw[akc,au,ih,au,ai6,aiG,aiL,aix (18446744073709551616 ^ r.length) 18446744073709551616,aiF];omega
def InWq.take {m:List Int} (h:InWq m) (n:Nat):InWq (m.take n):=λx hx=>h x (ald hx)
def InWq.drop {m:List Int} (h:InWq m) (n:Nat):InWq (m.drop n):=λx hx=>h x (alc hx)
def InWq.cons {x:Int} {m:List Int} (h:InWq (x::m)):(0<=x/\x<18446744073709551616)/\InWq m:=⟨h x (by simp),λy hy=>h y (by simp[hy])⟩
def InWq.at {m:List Int} (h:InWq m) {i:Nat}:0<=m.getD i 0/\m.getD i 0<18446744073709551616:=by
 rw[List.getD_eq_getElem?_getD];by_cases hi:i<m.length
 ·rw[List.getElem?_eq_getElem hi]; exact h _ (ajD hi)
 ·rw[List.getElem?_eq_none (by omega)]; exact⟨by decide,by decide⟩
def iJ:∀{m:List Int},InWq m->au m<18446744073709551616 ^ m.length
 | [],_=>by simp[au]
 | x::r,h=>by have ih:=iJ h.cons.2;have hx:=h.cons.1;rw[au,ai6,aiG];have:au r+1<=18446744073709551616 ^ r.length:=ih;have:=aiy 18446744073709551616 this;omega
def Ai:∀{m:List Int},InWq m->(∀ x,m.getLast? = some x->x ≠ 0)->af (au m)=m
 | [],_,_=>bc
 | [x],h,hl=>by
  have hx:=h.cons.1;have h0:x ≠ 0:=hl x rfl;have e:au [x]=x.toNat:=by simp[au]
  rw[e,bW (by omega),ai0 (by omega),bc,aiE (by omega),akO hx.1]
 | x::y::r,h,hl=>by
  have hx:=h.cons.1;have ih:=Ai h.cons.2 (λz hz=>hl z (by rw[List.getLast?_cons_cons]; exact hz));have hne:au (y::r) ≠ 0:=by intro h0;rw[h0,bc]at ih; cases ih
  have e1:au (x::y::r)=x.toNat+18446744073709551616*au (y::r):=rfl;rw[e1,bW (by omega)];have e2:(x.toNat+18446744073709551616*au (y::r))%18446744073709551616=x.toNat:=by omega
  have e3:(x.toNat+18446744073709551616*au (y::r)) / 18446744073709551616=au (y::r):=by omega
  rw[e2,e3,ih,akO hx.1]
def zq {m:List Int} {i:Nat} (hi:i<m.length):au (m.take (i+1))=au (m.take i)+18446744073709551616 ^ i*(m.getD i 0).toNat:=by rw[ajL hi,nS,ai_,ajU (by omega),List.getD_eq_getElem?_getD,List.getElem?_eq_getElem hi];simp[au]
def zp (n:Nat):au (List.replicate n 0)=0:=by
 induction n with
 | zero=>rfl
 | succ n ih=>rw[ajd,au,ih]; rfl
def dlq (S:Nat):Nat->List Int
 | 0=>[]
 | n+1=>dlq S n++[((S / 18446744073709551616 ^ n%18446744073709551616:Nat):Int)]
def ak (S:Nat):∀ n,(dlq S n).length=n
 | 0=>rfl
 | n+1=>by simp[dlq,ak S n]
def gy (S:Nat):∀ n,InWq (dlq S n)
 | 0=>λx hx=>by cases hx
 | n+1=>λx hx=>by
  rcases List.mem_append.1 hx with h | h
  ·exact gy S n x h
  ·simp only[alw]at h;subst h;omega
def qp (S:Nat):∀ n,au (dlq S n)=S%18446744073709551616 ^ n
 | 0=>by simp[dlq,au,alj]
 | n+1=>by rw[dlq,nS,ak,qp S n,aiG,alk];simp only[au,aiA,ajP,ai1]
def uz (S n m:Nat) (h:n<m):(dlq S n++List.replicate (m - n) 0).set n ((S / 18446744073709551616 ^ n%18446744073709551616:Nat):Int)=dlq S (n+1)++List.replicate (m - (n+1)) 0:=by
 rw[akC _ _ (by rw[ak]; exact aiH _),ak,ai4];have:m - n=(m - (n+1))+1:=by omega
 rw[this,ajd];simp[dlq]
def m0 {S n:Nat} (h:S<18446744073709551616 ^ n):af (au (dlq S n))=af S:=by rw[qp,aiE h]
def aL {m:List Int} (i:Nat):au (m.take (i+1))=au (m.take i)+18446744073709551616 ^ i*(m.getD i 0).toNat:=by
 by_cases h:i<m.length
 ·exact zq h
 ·rw[eI (by omega),aiR (by omega),aiR (by omega)]; simp
def qQ (b:List Int):∀ n,au (b.take (bR b n))=au (b.take n)
 | 0=>rfl
 | n+1=>by
  unfold bR;split
  ·rename_i h;rw[qQ b n,aL,h]; simp
  ·rfl
def xq {b:List Int} (hb:InWq b):b.take (bR b b.length)=af (au b):=by have h1:=qQ b b.length;rw[ajb]at h1;rw[<- h1,Ai (hb.take _) (sW b b.length (aiH _))]
def cW (T A i:Nat):(T+18446744073709551616 ^ i*A) / 18446744073709551616 ^ i=T / 18446744073709551616 ^ i+A:=ajq _ _ (ajB (by decide))
def F1 (m:List Int) (i:Nat):au m=au (m.take i)+18446744073709551616 ^ (m.take i).length*au (m.drop i):=by rw[<- nS,ak6]
def bA (m:List Int) (i:Nat):∃ R,au m=au (m.take i)+18446744073709551616 ^ i*R:=by
 by_cases h:i<=m.length
 ·refine⟨au (m.drop i),?_⟩;have:=F1 m i
  rwa [ai_,ajU h]at this
 ·exact⟨0,by rw[aiR (by omega)]; simp⟩
def aQ {m:List Int} (h:InWq m) (i:Nat):au (m.take i)<18446744073709551616 ^ i:=by
 have h1:=iJ (h.take i);have h2:(m.take i).length<=i:=by simp; omega
 exact aiO h1 (aiK (by decide) h2)
def iR {S T R i:Nat} (h:S=T+18446744073709551616 ^ (i+1)*R):S / 18446744073709551616 ^ i%18446744073709551616=T / 18446744073709551616 ^ i%18446744073709551616:=by rw[h,aiG,aiF,cW,ajK]
def H_ (i:Nat):0<18446744073709551616 ^ i:=ajB (by decide)
def Ck {P A B x y o R1 R2 D a b:Nat} (hA:A<P) (hB:B<P) (ho:o=if A<B then 1 else 0) (h1:a=A+P*x+P*18446744073709551616*R1) (h2:b=B+P*y+P*18446744073709551616*R2) (hD:(D:Int)=(a:Int) - (b:Int)) :
  ((D / P:Nat):Int)=(x:Int) - (y:Int) - (o:Int)+18446744073709551616*((R1:Int) - (R2:Int)):=by
 have he:∃ e:Nat,e<P/\(e:Int)=(A:Int) - (B:Int)+(P:Int)*(o:Int):=by
  rw[ho];split
  ·exact⟨A+P - B,by omega,by omega⟩
  ·exact⟨A - B,by omega,by omega⟩
 obtain⟨e,he1,he2⟩:=he;refine AD (e:=e) ?_ he1;have e1:(a:Int)=A+(P:Int)*x+18446744073709551616*((P:Int)*R1):=by rw[h1,aiF,aiW]; simp
 have e2:(b:Int)=B+(P:Int)*y+18446744073709551616*((P:Int)*R2):=by rw[h2,aiF,aiW]; simp
 have e3:(P:Int)*((x:Int) - (y:Int) - (o:Int)+18446744073709551616*((R1:Int) - (R2:Int)))=(P:Int)*x - (P:Int)*y - (P:Int)*o+(18446744073709551616*((P:Int)*R1) - 18446744073709551616*((P:Int)*R2)):=by rw[Int.mul_add,akP,akP,Int.mul_left_comm,akP,akP]
 rw[hD,e1,e2,e3,he2];omega
def dB {x y:Nat} (h:x<=y):(af x).length<=(af y).length:=by
 induction y using Nat.strongRecOn generalizing x with
 | ind y ih=>
  by_cases hx:x=0
  ·subst hx; rw[bc]; simp
  ·rw[bW hx,bW (by omega:y ≠ 0)];simp only[ai6];have:=ih (y / 18446744073709551616) (by omega) (x:=x / 18446744073709551616) (akI h);omega
def te:∀(w X:Nat),dlq (18446744073709551616 ^ w*X) w=List.replicate w 0:=by
 intro w;have key:∀ n,n<=w -> ∀ X,dlq (18446744073709551616 ^ w*X) n=List.replicate n 0:=by
  intro n;induction n with
  | zero=>intro _ X; rfl
  | succ n ih=>
   intro hn X;rw[dlq,ih (by omega),aj4];have e:18446744073709551616 ^ w*X=18446744073709551616 ^ n*(18446744073709551616*(18446744073709551616 ^ (w - n - 1)*X)):=by rw[<- aiF,<- aiF,<- aiG,<- aiN];congr 2; omega
   rw[e,ai5 _ (H_ n),alB];rfl
 exact key w (aiH _)
def fR:∀(j n:Nat),n<18446744073709551616 ^ j->(af n).length<=j
 | 0,n,h=>by
  have:n=0:=by simp at h; exact h
  subst this; rw[bc]; exact aiH _
 | j+1,n,h=>by
  by_cases h0:n=0
  ·subst h0; rw[bc]; simp
  ·rw[bW h0,ai6];have:n / 18446744073709551616<18446744073709551616 ^ j:=ako (by rw[aiG]at h; omega);have:=fR j _ this;omega
def F0 (V x Bk bk i k:Nat):V%18446744073709551616 ^ (i+k+1)+x*(Bk+18446744073709551616 ^ k*bk)*18446744073709551616 ^ i=(V%18446744073709551616 ^ (i+k)+x*Bk*18446744073709551616 ^ i)+18446744073709551616 ^ (i+k)*(V / 18446744073709551616 ^ (i+k)%18446744073709551616+x*bk):=by rw[Nat.mod_pow_succ,aiN];grind
def EJ (V x Bk bk i k:Nat):(V%18446744073709551616 ^ (i+k+1)+x*(Bk+18446744073709551616 ^ k*bk)*18446744073709551616 ^ i) / 18446744073709551616 ^ (i+k+1)=((V%18446744073709551616 ^ (i+k)+x*Bk*18446744073709551616 ^ i) / 18446744073709551616 ^ (i+k)+V / 18446744073709551616 ^ (i+k)%18446744073709551616+x*bk) / 18446744073709551616:=by rw[F0,aiG,<- aiC,ajq _ _ (ajB (by decide)),aja]
def De (V x Bk bk i k R:Nat):(V+x*(Bk+18446744073709551616 ^ k*bk+18446744073709551616 ^ (k+1)*R)*18446744073709551616 ^ i) / 18446744073709551616 ^ (i+k)%18446744073709551616=((V%18446744073709551616 ^ (i+k)+x*Bk*18446744073709551616 ^ i) / 18446744073709551616 ^ (i+k)+V / 18446744073709551616 ^ (i+k)%18446744073709551616+x*bk)%18446744073709551616:=by
 have e:V+x*(Bk+18446744073709551616 ^ k*bk+18446744073709551616 ^ (k+1)*R)*18446744073709551616 ^ i=(V%18446744073709551616 ^ (i+k+1)+x*(Bk+18446744073709551616 ^ k*bk)*18446744073709551616 ^ i)+18446744073709551616 ^ (i+k+1)*(V / 18446744073709551616 ^ (i+k+1)+x*R):=by
  have h:=ajo V (18446744073709551616 ^ (i+k+1));have h2:18446744073709551616 ^ (i+k+1)=18446744073709551616 ^ (k+1)*18446744073709551616 ^ i:=by rw[<- aiN]; congr 1; omega
  generalize V / 18446744073709551616 ^ (i+k+1)=q at *;generalize V%18446744073709551616 ^ (i+k+1)=r at *;rw[<- h,h2];grind
 rw[iR e,F0,ajq _ _ (ajB (by decide)),aja]
def JN {V x Bk i k:Nat} (hx:x<18446744073709551616) (hB:Bk<18446744073709551616 ^ k):(V%18446744073709551616 ^ (i+k)+x*Bk*18446744073709551616 ^ i) / 18446744073709551616 ^ (i+k)<18446744073709551616:=by
 rw[aiD (ajB (by decide))];have h1:V%18446744073709551616 ^ (i+k)<18446744073709551616 ^ (i+k):=aiJ _ (ajB (by decide));have h2:x*Bk<=18446744073709551615*18446744073709551616 ^ k:=ajl (by omega) (by omega);have h3:x*Bk*18446744073709551616 ^ i<=18446744073709551615*18446744073709551616 ^ (i+k):=by
  have:=aiy (18446744073709551616 ^ i) h2
  rwa [aiF 18446744073709551615,<- aiN,akm k i]at this
 omega
def tc (S:Nat) {L i:Nat} (h:i<L):(dlq S L).getD i 0=((S / 18446744073709551616 ^ i%18446744073709551616:Nat):Int):=by
 induction L with
 | zero=>omega
 | succ L ih=>
  show((dlq S L)++[_]).getD i 0=_;rw[List.getD_eq_getElem?_getD];by_cases hi:i<L
  ·rw[List.getElem?_append_left (by rw[ak]; exact hi),<- List.getD_eq_getElem?_getD,ih hi]
  ·have:i=L:=by omega
   subst this;rw[List.getElem?_append_right (by rw[ak]; exact aiH _),ak,ai4]; rfl
def qq {b:List Int} {k:Nat}:au (b.take (k+1))=au (b.take k)+18446744073709551616 ^ k*(b.getD k 0).toNat:=aL k
def yC (U V L p:Nat) (h:p<L):(dlq U p++(dlq V L).drop p).set p ((U / 18446744073709551616 ^ p%18446744073709551616:Nat):Int)=dlq U (p+1)++(dlq V L).drop (p+1):=by rw[dq (by rw[ak]; exact h),aZ _ _ _ _ _ (by rw[ak])];show _=(dlq U p++[_])++_;rw[aiM]; rfl
def E6 (U V L p:Nat) (h:p<L):(dlq U p++(dlq V L).drop p).getD p 0=((V / 18446744073709551616 ^ p%18446744073709551616:Nat):Int):=by rw[dq (by rw[ak]; exact h),ci (by rw[ak]),tc V h]
def yB (U V L p:Nat) (h:p<=L):(dlq U p++(dlq V L).drop p).length=L:=by simp[ak]; omega
def Hc {U L p:Nat} (hU:U<18446744073709551616 ^ p) (h:p<=L) {V:Nat} (hV:V<18446744073709551616 ^ p):dlq U p++(dlq V L).drop p=dlq U L:=by
 induction L with
 | zero=>
  have:p=0:=by omega
  subst this; rfl
 | succ L ih=>
  by_cases hp:p=L+1
  ·subst hp; rw[aje (by rw[ak]; omega),ai3]
  ·have hpL:p<=L:=by omega
   have e:∀ X,X<18446744073709551616 ^ p->dlq X (L+1)=dlq X L++[0]:=by intro X hX;show dlq X L++[((X / 18446744073709551616 ^ L%18446744073709551616:Nat):Int)]=_;rw[ai0 (aiO hX (aiK (by decide) hpL))]; rfl
   rw[e V hV,e U hU,aju (by rw[ak]; exact hpL),<- aiM,ih hpL]
def tA {a:List Int} (ha:InWq a) (i:Nat):au (a.take i)<18446744073709551616 ^ i:=aQ ha i
def tx {x y i j:Nat} (hx:x<18446744073709551616 ^ i) (hy:y<18446744073709551616 ^ j):x*y<18446744073709551616 ^ (i+j):=by rw[aiN];exact alJ hx hy
def mu (N:Nat) (l:List Int):Prop:=l.length+3<N/\l.length<=1099511627776
def AW {N:Nat} (b:List Int) (hN:b.length<N) (hs:b.length<9223372036854775807) (k:Kz6):xh N b k=k (bR b b.length):=by
 (unfold xh; rw[ae]; unfold Q1)
 have key:∀ n,n<=b.length -> ∀ M,n<M->ah M (wF N b λXT=>((decide (0<=XT/\XT<=(((List.length b):Nat):Int)))&&(k ((Int.toNat XT) - 0)))) (n:Int)=k (bR b n):=by
  intro n;induction n with
  | zero=>
   intro _ M hM;cases M with
   | zero=>omega
   | succ M=>
    show wF N b _ ((0:Nat):Int) _=_;simp only[wF,bR];rw[aiu (by omega:¬((0:Nat):Int)>0),show(false==true)=false from rfl,aiv,ait (by omega),ajy];rfl
  | succ n ih=>
   intro hn M hM;cases M with
   | zero=>omega
   | succ M=>
    show wF N b _ ((n+1:Nat):Int) (ah M _)=_;have e:Int.toNat (((n+1:Nat):Int) - 1)=n:=by omega
    have e2:((n+1:Nat):Int) - 1=(n:Int):=by omega
    simp only[wF,e];rw[ait (by omega:((n+1:Nat):Int)>0),show(true==true)=true from rfl,aiw,aa air,aa ais,aa (ait (by omega)),aa air,e2,ih (by omega) M (by omega),pb];by_cases h0:b.getD n 0=0
    ·have:(b.getD n 0==0)=true:=by simpa using h0
     rw[this,if_pos h0]; rfl
    ·have:(b.getD n 0==0)=false:=by simpa using h0
     rw[this,if_neg h0,aiv,ait (by omega),ajy];rfl
 exact key b.length (aiH _) N hN
def lh {N:Nat} (b:List Int) (hb:InWq b) (hN:b.length<N) (hs:b.length<9223372036854775807) (k:Kz9) :
  (xh N b λl=>(decide (0+l<=b.length))&&k (List.take l (List.drop 0 b)))=k (af (au b)):=by
 rw[AW b hN hs,aj0,xq hb];have:=kx b b.length;rw[ait (by omega)]; rfl
def uH {N:Nat} (hN:1000<=N) (n:Nat) (hn:n<18446744073709551616) (k:Kz9):kt N (n:Int) k=k (af n):=by
 unfold kt zR;have hw:InWq [(n:Int)]:=by intro x hx;simp only[ajQ,akv,or_false]at hx;subst hx; omega
 have hv:au [(n:Int)]=n:=by simp only[au]; omega
 have:=lh (N:=N) [(n:Int)] hw (by simp; omega) (by simp) k;rw[hv]at this;exact this
def xR {N:Nat} (l:List Int) (h:l.length<=1099511627776) (k:Kz9):rY N l k=k l:=by unfold rY P8;rw[ajh,ait (by omega),ajy]
def od (N:Nat) (l:List Int) (i:Nat) (hi:i<9223372036854775807) (k:Kz5):yV N l (i:Int) k=k (l.getD i 0):=by
 unfold yV Qb;by_cases h:i<l.length
 ·rw[ait (by omega:(i:Int)<((l.length:Nat):Int)),aiw,aa ais,aiA]
 ·rw[aiu (by omega:¬(i:Int)<((l.length:Nat):Int)),aiv,eI (by omega)]
def ob (N:Nat) {x y c:Int} {a b d:Nat} (hx:x=(a:Int)) (hy:y=(b:Int)) (hz:c=(d:Int)) (hc:d<=1) (k:Ky6):sQ3 N x y c k=k (((a+b+d)%18446744073709551616:Nat):Int) (((a+b+d) / 18446744073709551616:Nat):Int):=by subst hx hy hz;show(decide (Int.toNat (d:Int)<=1)&&_)=_;rw[aiA,ait hc]; rfl
def xQ (N:Nat) {x y c:Int} {a b d:Nat} (hx:x=(a:Int)) (hy:y=(b:Int)) (hz:c=(d:Int)) (hc:d<=1) (k:Ky6):sQ6 N x y c k=k (((a+18446744073709551616 - b - d)%18446744073709551616:Nat):Int) (if a<b+d then 1 else 0):=by
 subst hx hy hz;show(decide (Int.toNat (d:Int)<=1)&&_)=_;rw[aiA,ait hc];show k _ (cond (decide (a<b+d)) 1 0)=_;by_cases h:a<b+d
 ·rw[ait h,if_pos h]; rfl
 ·rw[aiu h,if_neg h]; rfl
def O7 (a b:Nat):imm true (a:Int) (b:Int)=((max a b:Nat):Int):=by
 unfold imm; simp only[aiw];by_cases h:(b:Int)>a
 ·rw[ait h,aiw]; omega
 ·rw[aiu h,aiv]; omega
def Nt {N:Nat} (a b:List Int) (ha:InWq a) (hb:InWq b) (hNa:mu N a) (hNb:mu N b) (k:Kz9):xZ N a b k=k (af (au a+au b)):=by
 (unfold xZ; rw[ae]; unfold xv)
 obtain⟨a1,a2⟩:=hNa;obtain⟨b1,b2⟩:=hNb;rw[O7]
 let L:=max a.length b.length
 have hLa:a.length<=L:=Nat.le_max_left _ _;have hLb:b.length<=L:=Nat.le_max_right _ _;have hLN:L+3<N:=by simp only[L]; omega
 have hLs:L<=1099511627776:=by simp only[L]; omega
 show(ac .i64 ((L:Int)+1)&&_)=_;have eL:Int.toNat ((L:Int)+1)=L+1:=by omega
 rw[aa air,aa (bP (by omega) (by omega) (by omega) (by omega)),eL]
 let S:=au a+au b
 let T:=λi=>au (a.take i)+au (b.take i)
 refine aG (λi=>(((T i / 18446744073709551616 ^ i:Nat):Int),(i:Int),dlq S i++List.replicate (L+1 - i) 0)) L (by simp[T,au,dlq]) (by omega) (λi hi K=>?_) (λK=>?_)
 ·have hx:=ha.at (i:=i);have hy:=hb.at (i:=i);have hT:T (i+1)=T i+18446744073709551616 ^ i*((a.getD i 0).toNat+(b.getD i 0).toNat):=by simp only[T,aL,aiL]; omega
  have hq:T (i+1) / 18446744073709551616 ^ i=T i / 18446744073709551616 ^ i+((a.getD i 0).toNat+(b.getD i 0).toNat):=by rw[hT,cW]
  have hc:T i / 18446744073709551616 ^ i<=1:=by
   have h1:=aQ ha i;have h2:=aQ hb i;have h3:T i<18446744073709551616 ^ i*2:=by simp only[T]; omega
   have:=(aiD (ajB (n:=i) (by decide:0<18446744073709551616))).2 (by rw[aix]; exact h3:T i<2*18446744073709551616 ^ i);omega
  have hdiv:T (i+1) / 18446744073709551616 ^ (i+1)=T (i+1) / 18446744073709551616 ^ i / 18446744073709551616:=by rw[aiG,aiC]
  have hdig:S / 18446744073709551616 ^ i%18446744073709551616=T (i+1) / 18446744073709551616 ^ i%18446744073709551616:=by obtain⟨R1,h1⟩:=bA a (i+1);obtain⟨R2,h2⟩:=bA b (i+1);refine iR (R:=R1+R2) ?_;simp only[S,T];rw[aiL]; omega
  have hset:=uz S i (L+1) (by omega);have hlen:(dlq S i++List.replicate (L+1 - i) 0).length=L+1:=by simp[ak]; omega
  simp only[nX];rw[ait (by omega:(i:Int)<((max a.length b.length:Nat):Int)),aiw,od N a i (by omega),od N b i (by omega),ob N (a:=(a.getD i 0).toNat) (b:=(b.getD i 0).toNat) (d:=T i / 18446744073709551616 ^ i) (by omega) (by omega) rfl hc,hlen,aa ais,aa (ait (by omega)),aa air,aiA];have e1:(a.getD i 0).toNat+(b.getD i 0).toNat+T i / 18446744073709551616 ^ i=T (i+1) / 18446744073709551616 ^ i:=by rw[hq]; omega
  rw[e1,<- hdig,<- hdiv,hset];rfl
 ·simp only[nX];rw[aiu (by omega:¬(L:Int)<((max a.length b.length:Nat):Int)),aiv];have hT:T L=S:=by simp only[T,S]; rw[aiR hLa,aiR hLb]
  have hS:S<18446744073709551616 ^ (L+1):=by have h1:=aQ ha L;have h2:=aQ hb L;rw[aiR hLa]at h1;rw[aiR hLb]at h2;rw[aiG];simp only[S]; omega
  have hlen:(dlq S L++List.replicate (L+1 - L) 0).length=L+1:=by simp[ak]
  have hcl:S / 18446744073709551616 ^ L<18446744073709551616:=by rw[aiD (ajB (by decide)),aix,<- aiG]; exact hS
  have e2:((T L / 18446744073709551616 ^ L:Nat):Int)=((S / 18446744073709551616 ^ L%18446744073709551616:Nat):Int):=by rw[hT,aiE hcl]
  have hset:=uz S L (L+1) (by omega);rw[e2,aiA,hset,hlen,aa ais,aa (ait (by omega)),ai4,ai8,ai3,
   lh _ (gy S _) (by rw[ak]; omega) (by rw[ak]; omega),m0 hS]
def oc {N:Nat} (a b:List Int) (ha:InWq a) (hb:InWq b) (hle:au b<=au a) (hN:mu N a) (k:Kz9):yW N a b k=k (af (au a - au b)):=by
 obtain⟨hN1,hN2⟩:=hN
 (unfold yW; rw[ae]; unfold LR)
 rw[aa (bP (by omega) (by omega) (by omega) (by omega)),aiA]
 let D:=au a - au b
 let bo:=λi=>if au (a.take i)<au (b.take i)then(1:Nat)else 0
 refine aG (λi=>(((bo i:Nat):Int),(i:Int),dlq D i++List.replicate (a.length - i) 0)) a.length (by simp[bo,au,dlq]) (by omega) (λi hi K=>?_) (λK=>?_)
 ·have hx:=ha.at (i:=i);have hy:=hb.at (i:=i);have hA:=aL (m:=a) i;have hB:=aL (m:=b) i;have hAl:=aQ ha i;have hBl:=aQ hb i;have hset:=uz D i a.length (by omega);have hl:(dlq D i++List.replicate (a.length - i) 0).length=a.length:=by simp[ak]; omega
  obtain⟨R1,h1⟩:=bA a (i+1);obtain⟨R2,h2⟩:=bA b (i+1);have hD:(D:Int)=(au a:Int) - (au b:Int):=by simp only[D]; omega
  have hPs:18446744073709551616 ^ (i+1)=18446744073709551616 ^ i*18446744073709551616:=aiG ..;have hbo:bo i<=1:=by simp only[bo]; split <;> omega
  have hbs:bo (i+1)=if (a.getD i 0).toNat<(b.getD i 0).toNat+bo i then 1 else 0:=by simp only[bo,hA,hB];exact o_ _ _ _ _ _ hAl hBl
  have hq:((D / 18446744073709551616 ^ i:Nat):Int)=((a.getD i 0).toNat:Int) - ((b.getD i 0).toNat:Int) - (bo i:Int)+18446744073709551616*((R1:Int) - (R2:Int)):=by rw[hA,hPs]at h1;rw[hB,hPs]at h2;exact Ck hAl hBl rfl h1 h2 hD
  have hdig:((D / 18446744073709551616 ^ i%18446744073709551616:Nat):Int)=(((a.getD i 0).toNat:Int) - ((b.getD i 0).toNat:Int) - (bo i:Int))%18446744073709551616:=by rw[Int.natCast_emod,hq];exact Int.add_mul_emod_self_left _ _ _
  simp only[mU];rw[ait (by omega:(i:Int)<a.length),aiw,aa ais,od N b i (by omega),aiA,xQ N (a:=(a.getD i 0).toNat) (b:=(b.getD i 0).toNat) (d:=bo i) (by omega) (by omega) rfl hbo,hl,aa ais,aa (ait (by omega)),aa air];have e1:(((((a.getD i 0).toNat+18446744073709551616 - (b.getD i 0).toNat - bo i)%18446744073709551616:Nat)):Int)=((D / 18446744073709551616 ^ i%18446744073709551616:Nat):Int):=by rw[hdig]; omega
  have e2:(if (a.getD i 0).toNat<(b.getD i 0).toNat+bo i then(1:Int)else 0)=((bo (i+1):Nat):Int):=by rw[hbs]; split <;> rfl
  rw[e1,e2,hset];rfl
 ·simp only[mU];rw[aiu (by omega:¬(a.length:Int)<a.length),aiv,ai4,ai8,ai3];have hS:D<18446744073709551616 ^ a.length:=by have:=iJ ha; simp only[D]; omega
  rw[lh _ (gy D _) (by rw[ak]; omega) (by rw[ak]; omega),m0 hS]
def BL {N:Nat} (a b:List Int) (ha:InWq a) (hb:InWq b) (hl:a.length=b.length) (hs:a.length<9223372036854775807) (k:Kz5) :
  ∀ n,n<=a.length -> ∀ M,n<M->ah M (wC N a b (λt4=>k t4) (k 0)) ((n:Int) - 1)=k (dL (au (a.take n)) (au (b.take n))):=by
 intro n;induction n with
 | zero=>
  intro _ M hM;cases M with
  | zero=>omega
  | succ M=>
   show wC N a b _ _ ((0:Nat) - 1:Int) _=_;simp[wC,dL,au]
 | succ n ih=>
  intro hn M hM;cases M with
  | zero=>omega
  | succ M=>
   show wC N a b _ _ (((n+1:Nat):Int) - 1) (ah M _)=_;have e:(((n+1:Nat):Int) - 1)=(n:Int):=by omega
   have hx:=ha.at (i:=n);have hy:=hb.at (i:=n);have hA:=aL (m:=a) n;have hB:=aL (m:=b) n;have hAl:=aQ ha n;have hBl:=aQ hb n;rw[e];simp only[wC,aiA];rw[hA,hB,ait (by omega:(n:Int)>=0),aiw,aa ais,aa ais,aa ais,aa ais,aa air,ih (by omega) M (by omega)];by_cases h0:a.getD n 0=b.getD n 0
   ·rw[show(a.getD n 0 != b.getD n 0)=false by simpa using h0,aiv,h0,EN]
   ·rw[show(a.getD n 0 != b.getD n 0)=true by simpa using h0,aiw];by_cases h1:a.getD n 0<b.getD n 0
    ·rw[ait h1,aiw,MF hAl (by omega)]
    ·rw[aiu h1,aiv,ME hBl (by omega)]
def iV {N:Nat} (x y:Nat) (hx:mu N (af x)) (hy:mu N (af y)) (k:Kz5):CV N (af x) (af y) k=k (dL x y):=by
 (unfold CV; rw[ae]; unfold Lw)
 obtain⟨x1,x2⟩:=hx;obtain⟨y1,y2⟩:=hy;by_cases h:(af x).length=(af y).length
 ·have e:(((af x).length:Int) != (af y).length)=false:=by rw[h]; simp
  rw[e,aiv,aa air,BL (af x) (af y) (aU x) (aU y) h (by omega) k _ (aiH _) N (by omega),ajb,h,ajb,aC,aC]
 ·have e:(((af x).length:Int) != (af y).length)=true:=by simp; omega
  rw[e,aiw];by_cases h1:(af x).length<(af y).length
  ·rw[ait (by omega),aiw];have:x<y:=by
    rcases ajs x y with h2 | h2
    ·exact h2
    ·have:=dB h2; omega
   unfold dL; rw[if_pos this]
  ·rw[aiu (by omega),aiv];have:¬ x<=y:=λh2=>by have:=dB h2; omega
   unfold dL; rw[if_neg (by omega),if_neg (by omega)]
def tm (z:Int) (k:Ky5):Bool:=k (decide (z<0)) (af z.natAbs)
def p_ (n:Nat):decide (((af n).length:Int)>0)=decide (n ≠ 0):=by
 by_cases h:n=0
 ·subst h; rw[bc]; simp
 ·rw[bW h,ai6,ait (by omega),ait h]
def Gc (g:Bool) (n:Nat) (k:Ky5):k (sg g n) (af n)=tm (aV g n) k:=by
 unfold tm aV sg;cases g
 ·simp only[ajH,ai2,ak3,ajp];rw[aiu (by omega)]
 ·simp only[aj6,ajy,ak4,ajp];congr 1;by_cases h:n=0
  ·subst h; rfl
  ·rw[ait h,ait (by omega)]
def NK (g:Bool) (n:Nat) (k:Ky5):cond (g==true) (k (decide (((af n).length:Int)>0)) (af n)) (k false (af n))=tm (aV g n) k:=by rw[p_,<- Gc];cases g <;> rfl
def HH {N:Nat} (g b:Bool) (n:Nat) (k:Ky5):DY N g (af n) b (λcr=>k cr (af n))=tm (aV g n) k:=NK g n k
def oH {N:Nat} (g b:Bool) (l:List Int) (n:Nat) (k:Ky5):K0 N g (af n) b l (λcr=>k cr (af n))=tm (aV g n) k:=NK g n k
def Ip (g1 g2:Bool) (n1 n2:Nat) (k:Ky5) :
  cond (g1==g2) (tm (aV g2 (n1+n2)) k) (cond (decide (dL n1 n2>=0)) (tm (aV g1 (n1 - n2)) k) (tm (aV g2 (n2 - n1)) k))=tm (aV g1 n1+aV g2 n2) k:=by
 rw[uv];have key:∀ a b:Int,a=b->tm a k=tm b k:=λa b h=>by rw[h]
 cases g1 <;> cases g2 <;> simp only[aV] <;> by_cases h:n2<=n1 <;> simp only[h,alf,alv,aiw,aiv,akb,ajH,aj6,ai2,(by decide:(false==true)=false),(by decide:(true==false)=false)] <;> refine key _ _ ?_ <;> omega
def EA (n:Nat):aA .and .u64 (n:Int) 4294967295=((n%4294967296:Nat):Int):=by
 have h:=kU n 32 (by decide);have e1:((2 ^ 32 - 1:Nat):Int)=4294967295:=by decide
 have e2:(2:Nat) ^ 32=4294967296:=by decide
 rw[e1,e2]at h;exact h
def Tt (p00 p10 p01 p11:Nat):(p11*18446744073709551616+(p10+p01)*4294967296+p00) / 18446744073709551616=p11+(p10+p00 / 4294967296) / 4294967296+((p10+p00 / 4294967296)%4294967296+p01) / 4294967296:=by omega
def KE (x y:Nat):x*y=(x / 4294967296)*(y / 4294967296)*18446744073709551616+((x / 4294967296)*(y%4294967296)+(x%4294967296)*(y / 4294967296))*4294967296+(x%4294967296)*(y%4294967296):=by have hx:=ajo x 4294967296;have hy:=ajo y 4294967296;generalize x / 4294967296=a at *;generalize x%4294967296=b at *;generalize y / 4294967296=c at *;generalize y%4294967296=d at *;subst hx hy;grind
def xP (N:Nat) {x y:Nat} (hx:x<18446744073709551616) (hy:y<18446744073709551616) (k:Ky6):Gi N (x:Int) (y:Int) k=k ((x*y / 18446744073709551616:Nat):Int) ((x*y%18446744073709551616:Nat):Int):=by
 (unfold Gi; rw[ae]; unfold Lr)
 have fx:Int.fdiv (x:Int) (2 ^ 32)=((x / 4294967296:Nat):Int):=by rw[kV]; rfl
 have fy:Int.fdiv (y:Int) (2 ^ 32)=((y / 4294967296:Nat):Int):=by rw[kV]; rfl
 rw[EA,EA,fx,fy];have hs:=KE x y;have b0:x / 4294967296<=4294967295:=by omega
 have b1:x%4294967296<=4294967295:=by omega
 have b2:y / 4294967296<=4294967295:=by omega
 have b3:y%4294967296<=4294967295:=by omega
 have m00:=ajl b1 b3;have m10:=ajl b0 b3;have m01:=ajl b1 b2;have m11:=ajl b0 b2;have hh:=Tt ((x%4294967296)*(y%4294967296)) ((x / 4294967296)*(y%4294967296)) ((x%4294967296)*(y / 4294967296)) ((x / 4294967296)*(y / 4294967296));rw[<- hs]at hh;rw[<- aiQ,<- aiQ,<- aiQ,<- aiQ,<- aiQ];have hlt:x*y<=18446744073709551615*18446744073709551615:=ajl (by omega) (by omega);generalize x*y=P at *;generalize (x%4294967296)*(y%4294967296)=p00 at *;generalize (x / 4294967296)*(y%4294967296)=p10 at *;generalize (x%4294967296)*(y / 4294967296)=p01 at *;generalize (x / 4294967296)*(y / 4294967296)=p11 at *;have t1:IntKind.wrap .u64 (IntKind.wrap .u64 (p10:Int)+Int.fdiv (IntKind.wrap .u64 (p00:Int)) (2 ^ 32))=((p10+p00 / 4294967296:Nat):Int):=by simp only[aq,kV]; omega
 rw[t1,EA];congr 1
 ·rw[hh];simp only[aq,kV];omega
def AV (N:Nat) {x y c d:Int} {a b e f:Nat} (hx:x=(a:Int)) (hy:y=(b:Int)) (hc:c=(e:Int)) (hd:d=(f:Int)) (ha:a<18446744073709551616) (hb:b<18446744073709551616) (he:e<18446744073709551616) (hf:f<18446744073709551616) (k:Ky6) :
  mH N x y c d k=k (((a*b+e+f) / 18446744073709551616:Nat):Int) (((a*b+e+f)%18446744073709551616:Nat):Int):=by
 subst hx hy hc hd
 (unfold mH; rw[ae]; unfold vC)
 have hlt:a*b<=18446744073709551615*18446744073709551615:=ajl (by omega) (by omega);rw[xP N ha hb];generalize a*b=P at *;rw[ob N (c:=0) (a:=P%18446744073709551616) (b:=e) (d:=0) rfl rfl rfl (by omega),ob N (c:=0) (a:=(P%18446744073709551616+e+0)%18446744073709551616) (b:=f) (d:=0) rfl rfl rfl (by omega)];congr 1
 ·simp only[aq]; omega
 ·omega
def Hz {N:Nat} (a b:List Int) (ha:InWq a) (hb:InWq b) (hN:a.length+b.length+2<N) (hs:a.length+b.length<=1099511627776) (k:Kz9):zt N a b k=k (af (au a*au b)):=by
  (unfold zt; rw[ae]; unfold Rx)
  by_cases a0:a.length=0
  · have:a=[]:=List.length_eq_zero_iff.1 a0
    subst this;show k []=k (af (0*au b));rw[ajT,bc]
  by_cases b0:b.length=0
  · have:b=[]:=List.length_eq_zero_iff.1 b0
    subst this;have e:(((a.length:Nat):Int)==0)=false:=by simp; intro h; subst h; simp at a0
    rw[e,show(false==false)=true from rfl,aiw];show k []=k (af (au a*0));rw[ajP,bc]
  have e0:(((a.length:Nat):Int)==0)=false:=by simp; intro h; subst h; simp at a0
  have e1:(((b.length:Nat):Int)==0)=false:=by simp; intro h; subst h; simp at b0
  rw[e0,e1,show(false==false)=true from rfl,aiw,aiv];have eL:Int.toNat (((a.length:Nat):Int)+((b.length:Nat):Int))=a.length+b.length:=by omega
  rw[aa air,aa (bP (by omega) (by omega) (by omega) (by omega)),eL]
  let L:=a.length+b.length
  let B:=au b
  have hB:B<18446744073709551616 ^ b.length:=iJ hb;refine aG (λi=>((i:Int),dlq (au (a.take i)*B) L)) a.length ?_ (by omega) (λi hi K=>?_) (λK=>?_)
  · show((0:Int),List.replicate L (0:Int))=(((0:Nat):Int),dlq (au (a.take 0)*B) L)
    have:=te L 0;rw[ajP]at this;rw[akK,show au []=0 from rfl,ajT,this]; rfl
  · simp only[lJ]
    rw[ait (by omega:(i:Int)<a.length),aiw,aa ais,aiA];have hx:=ha.at (i:=i)
    let V:=au (a.take i)*B
    let x:=(a.getD i 0).toNat
    let U:=au (a.take (i+1))*B
    have hU:U=V+x*B*18446744073709551616 ^ i:=by simp only[U,V,x];rw[qq];grind
    have hV:V<18446744073709551616 ^ (i+b.length):=tx (tA ha i) hB;have hUl:U<18446744073709551616 ^ (i+1+b.length):=tx (tA ha (i+1)) hB
    let c:=λj=>(V%18446744073709551616 ^ (i+j)+x*au (b.take j)*18446744073709551616 ^ i) / 18446744073709551616 ^ (i+j)
    refine aG (λj=>(((c j:Nat):Int),(j:Int),dlq U (i+j)++(dlq V L).drop (i+j))) b.length ?_ (by omega) (λj hj K'=>?_) (λK'=>?_)
    · show((0:Int),(0:Int),dlq V L)=_
      have h0:c 0=0:=by simp only[c,akK,show au []=0 from rfl,ajP,ajT,ai1];exact ai0 (aiJ _ (ajB (by decide)))
      have hlow:dlq U i=dlq V i:=by
        have:∀ n,n<=i->dlq U n=dlq V n:=by
          intro n;induction n with
          | zero=>intro _; rfl
          | succ n ih=>
            intro hn;show dlq U n++[_]=dlq V n++[_];rw[ih (by omega)];congr 3;have:U=V+18446744073709551616 ^ (n+1)*(x*B*18446744073709551616 ^ (i - (n+1))):=by rw[hU,aiW,<- aiN,show n+1+(i - (n+1))=i by omega]
            exact iR this
        exact this i (aiH _)
      have hsp:dlq V i++(dlq V L).drop i=dlq V L:=by
        have:∀ n,i<=n->dlq V i++(dlq V n).drop i=dlq V n:=by
          intro n;induction n with
          | zero=>intro h; have:i=0:=(by omega); subst this; rfl
          | succ n ih=>
            intro h;by_cases hn:i=n+1
            · subst hn; rw[aje (by rw[ak]; omega),ai3]
            · show dlq V i++(dlq V n++[_]).drop i=dlq V n++[_]
              rw[aju (by rw[ak]; omega),<- aiM,ih (by omega)]
        exact this L (by simp only[L]; omega)
      rw[h0,ai1,hlow,hsp]; rfl
    · have hy:=hb.at (i:=j)
      have hp:i+j<L:=by simp only[L]; omega
      have hlen:=yB U V L (i+j) (by omega);have hget:=E6 U V L (i+j) hp;have hset:=yC U V L (i+j) hp;have hc:=JN (V:=V) (x:=x) (i:=i) (k:=j) (Bk:=au (b.take j)) (by simp only[x]; omega) (tA hb j);have hstep:=EJ V x (au (b.take j)) (b.getD j 0).toNat i j;obtain⟨R,hR⟩:=bA b (j+1);have hdig:=De V x (au (b.take j)) (b.getD j 0).toNat i j R;rw[<- qq]at hstep hdig;rw[<- hR]at hdig;have hUe:V+x*au b*18446744073709551616 ^ i=U:=hU.symm;rw[hUe]at hdig;have hxy:x*(b.getD j 0).toNat<=18446744073709551615*18446744073709551615:=ajl (by simp only[x]; omega) (by omega);have eidx:Int.toNat ((i:Int)+(j:Int))=i+j:=by omega
      have hcj:∀ n,c n=(V%18446744073709551616 ^ (i+n)+x*au (b.take n)*18446744073709551616 ^ i) / 18446744073709551616 ^ (i+n):=λ_=>rfl
      have hax:a.getD i 0=(x:Int):=by simp only[x]; omega
      have hby:b.getD j 0=((b.getD j 0).toNat:Int):=by omega
      have ec1:c (j+1)=(c j+V / 18446744073709551616 ^ (i+j)%18446744073709551616+x*(b.getD j 0).toNat) / 18446744073709551616:=hstep;have ed:U / 18446744073709551616 ^ (i+j)%18446744073709551616=(c j+V / 18446744073709551616 ^ (i+j)%18446744073709551616+x*(b.getD j 0).toNat)%18446744073709551616:=hdig;have hcl:c j<18446744073709551616:=hc;rw[ed]at hset;have vlt:V / 18446744073709551616 ^ (i+j)%18446744073709551616<18446744073709551616:=aiJ _ (by decide);have hxl:x<18446744073709551616:=by simp only[x]; omega
      have hyl:(b.getD j 0).toNat<18446744073709551616:=by omega
      simp only[lK,aiA,eidx,hlen];rw[ait (by omega:(j:Int)<((b.length:Nat):Int)),aiw,aa ais,aa air,aa air,aa ais,aa (ait (by omega)),AV N hax hby hget rfl hxl hyl vlt hcl,aa ais,aa (ait (by omega)),aa air];rw[show i+(j+1)=i+j+1 by omega,<- hset];have ez:x*(b.getD j 0).toNat+V / 18446744073709551616 ^ (i+j)%18446744073709551616+c j=c j+V / 18446744073709551616 ^ (i+j)%18446744073709551616+x*(b.getD j 0).toNat:=by omega
      rw[ez,ec1];rfl
    · simp only[lK]
      rw[aiu (by omega:¬(b.length:Int)<b.length),aiv];have hlen:=yB U V L (i+b.length) (by simp only[L]; omega);have hset:=yC U V L (i+b.length) (by simp only[L]; omega);have eidx:Int.toNat ((i:Int)+(b.length:Int))=i+b.length:=by omega
      have hLe:i+b.length<L:=by simp only[L]; omega
      have hc:c b.length=U / 18446744073709551616 ^ (i+b.length):=by simp only[c];rw[ajb,aiE hV,hU]
      have hcl:U / 18446744073709551616 ^ (i+b.length)<18446744073709551616:=by
        rw[aiD (ajB (by decide))];have:i+1+b.length=i+b.length+1:=by omega
        rw[this,aiG]at hUl;omega
      have ew:((c b.length:Nat):Int)=((U / 18446744073709551616 ^ (i+b.length)%18446744073709551616:Nat):Int):=by rw[hc,aiE hcl]
      have hfin:=Hc (U:=U) (V:=V) (L:=L) (p:=i+b.length+1) (by rw[show i+b.length+1=i+1+b.length by omega]; exact hUl) (by omega) (aiO hV (aiK (by decide) (by omega)));rw[aa air,eidx,hlen,aa ais,aa (ait (by omega)),aa air,ew,hset,hfin];rfl
  · simp only[lJ]
    rw[aiu (by omega:¬(a.length:Int)<a.length),aiv,ajb,lh _ (gy _ _) (by rw[ak]; simp only[L]; omega) (by rw[ak]; simp only[L]; omega)];rw[m0 (tx (iJ ha) hB)]
def DV (n:Nat):2 ^ n=18446744073709551616 ^ (n / 64)*2 ^ (n%64):=by
 have e:(18446744073709551616:Nat)=2 ^ 64:=by decide
 rw[e,<- aln,<- aiN];congr 1; omega
def aX (i:Nat):0<18446744073709551616 ^ i:=ajB (by decide)
def Kl {N:Nat} (m:List Int) (hm:InWq m) (n:Nat) (hn:n<4294967296) (hN:m.length+n / 64+4<N) (hs:m.length<=1099511627776) (k:Kz9):wt N m n k=k (af (au m*2 ^ n)):=by
 (unfold wt; rw[ae]; unfold vD)
 by_cases h0:m.length=0
 ·have:m=[]:=List.length_eq_zero_iff.1 h0;subst this;show k []=k (af (0*2 ^ n));rw[ajT,bc]
 ·have e0:((m.length:Int)==0)=false:=by simp; intro h; subst h; simp at h0
  have ew:IntKind.wrap .u64 (Int.tdiv (n:Int) 64)=((n / 64:Nat):Int):=by rw[aq,ajw (by omega)]; omega
  have es:Int.tmod (n:Int) 64=((n%64:Nat):Int):=by rw[ajn (by omega)]; rfl
  rw[e0,aiv,ew,es];have hw6:n / 64<67108864:=by omega
  generalize hw:n / 64=w at *;generalize hsh:n%64=s at *;have hs32:s<64:=by omega
  have hp2:2 ^ n=18446744073709551616 ^ w*2 ^ s:=by rw[DV,hw,hsh]
  have hs0:0<2 ^ s:=aiI s;have hs1:2 ^ s*2 ^ (64 - s)=18446744073709551616:=by rw[<- aiN,show s+(64 - s)=64 by omega]
  have elen:Int.toNat (((w:Nat):Int)+(m.length:Int)+1)=w+m.length+1:=by omega
  rw[aa air,aa air,aa air,aa (bP (by omega) (by omega) (by omega) (by omega)),elen]
  let V:=au m*2 ^ n
  let X:=au m*2 ^ s
  have hVX:V=18446744073709551616 ^ w*X:=by simp only[V,X]; rw[hp2,aiW]
  let T:=λi=>au (m.take i)*2 ^ s
  let c:=λi=>T i / 18446744073709551616 ^ i
  have hcl:∀ i,c i<2 ^ s:=by intro i;simp only[c,T];rw[aiD (aX i),aix];exact ajC (aQ hm i) hs0
  refine aG (λi=>((i:Int),dlq V (w+i)++((c i:Nat):Int)::List.replicate (m.length - i) 0)) m.length ?_ (by omega) (λi hi K=>?_) (λK=>?_)
  ·congr 1;show List.replicate (w+m.length+1) (0:Int)=dlq V w++((c 0:Nat):Int)::List.replicate m.length 0;rw[hVX,te];have hc0:c 0=0:=by simp[c,T,au]
   rw[hc0];have:w+m.length+1=w+(m.length+1):=by omega
   rw[this,<- aj8,ajd]; rfl
  ·have hx:=hm.at (i:=i);have hT:T (i+1)=T i+18446744073709551616 ^ i*((m.getD i 0).toNat*2 ^ s):=by simp only[T,aL,aiY,aiF]
   have hq:T (i+1) / 18446744073709551616 ^ i=c i+(m.getD i 0).toNat*2 ^ s:=by rw[hT,cW]
   have hci:c i<2 ^ s:=hcl i;have hc1:c (i+1)=(c i+(m.getD i 0).toNat*2 ^ s) / 18446744073709551616:=by rw[<- hq]; simp only[c]; rw[aiG,aiC]
   have hdig:V / 18446744073709551616 ^ (w+i)%18446744073709551616=(c i+(m.getD i 0).toNat*2 ^ s)%18446744073709551616:=by rw[<- hq,hVX,aiN,<- aiC,ai5 _ (aX w)];obtain⟨R,hR⟩:=bA m (i+1);refine iR (R:=R*2 ^ s) ?_;simp only[X,T];rw[hR,aiY,aiF]
   have hrep:List.replicate (m.length - i) (0:Int)=0::List.replicate (m.length - (i+1)) 0:=by rw[show m.length - i=(m.length - (i+1))+1 by omega,ajd]
   have hdl:=ak V (w+i);have ei:Int.toNat ((w:Int)+(i:Int))=w+i:=by omega
   have ei1:Int.toNat ((w:Int)+(i:Int)+1)=w+i+1:=by omega
   have emin:min s 64=s:=by omega
   have e64:min (Int.toNat (IntKind.wrap .u64 (64 - (s:Int)))) 64=64 - s:=by rw[aq]; omega
   simp only[e9,aiA,ei,ei1,emin,e64];rw[hrep,ci hdl.symm,aZ _ _ _ _ _ hdl.symm];have hmx:m.getD i 0=(((m.getD i 0).toNat:Nat):Int):=by omega
   rw[hmx];generalize hxx:(m.getD i 0).toNat=x at *;have hx32:x<18446744073709551616:=by omega
   have hlow:x*2 ^ s%18446744073709551616=2 ^ s*(x%2 ^ (64 - s)):=by
    have e:x*2 ^ s%(2 ^ s*2 ^ (64 - s))=2 ^ s*(x%2 ^ (64 - s)):=by rw[aix x]; exact akd _ _ _
    rwa [hs1]at e
   have hsum:2 ^ s*(x%2 ^ (64 - s))+c i<18446744073709551616:=by have h1:x%2 ^ (64 - s)+1<=2 ^ (64 - s):=aiJ _ (aiI _);have h2:=aiB (2 ^ s) h1;rw[hs1,aiL]at h2;omega
   have epw:(x:Int)*2 ^ s=((x*2 ^ s:Nat):Int):=by rw[aiQ,ajV]; rfl
   have eor:aA .or .u64 ((c i:Nat):Int) (IntKind.wrap .u64 ((x:Int)*2 ^ s))=((V / 18446744073709551616 ^ (w+i)%18446744073709551616:Nat):Int):=by
    have e1:IntKind.wrap .u64 ((x*2 ^ s:Nat):Int)=((2 ^ s*(x%2 ^ (64 - s)):Nat):Int):=by rw[<- hlow,aq]; omega
    rw[epw,e1,cL _ _ s hci hsum,hdig];omega
   have ehi:Int.fdiv (x:Int) (2 ^ (64 - s))=((c (i+1):Nat):Int):=by
    have e2:(2:Int) ^ (64 - s)=((2 ^ (64 - s):Nat):Int):=by rw[ajV]; rfl
    rw[e2,lq,hc1];have:(c i+x*2 ^ s) / 18446744073709551616=x / 2 ^ (64 - s):=by rw[<- hs1,<- aiC,aix x,ajq _ _ hs0,ai0 hci,aiZ]
    rw[this]
   rw[eor,ehi];have hl1:∀(a b:Int) (ys:List Int),(dlq V (w+i)++a::b::ys).length=w+i+2+ys.length:=by intro a b ys; simp[hdl]; omega
   have hset2:(dlq V (w+i)++((V / 18446744073709551616 ^ (w+i)%18446744073709551616:Nat):Int)::0::List.replicate (m.length - (i+1)) 0).set (w+i+1) ((c (i+1):Nat):Int)=dlq V (w+(i+1))++((c (i+1):Nat):Int)::List.replicate (m.length - (i+1)) 0:=by
    have:dlq V (w+i)++((V / 18446744073709551616 ^ (w+i)%18446744073709551616:Nat):Int)::0::List.replicate (m.length - (i+1)) 0=dlq V (w+(i+1))++0::List.replicate (m.length - (i+1)) 0:=by rw[<- aja,dlq]; simp
    rw[this];exact aZ _ _ _ _ _ (by rw[ak]; omega)
   rw[hset2,hl1,hl1];simp only[ajO];rw[ait (by omega:(i:Int)<((m.length:Nat):Int)),aiw,aa ais,aa air,aa ais,aa (ait (by omega)),aa (ait (by omega)),aa ais,aa (ait (by omega)),aa air,aa air,aa (ait (by rw[aq]; omega)),aa ais,aa (ait (by omega)),aa air];rfl
  ·simp only[e9];rw[aiu (by omega:¬(m.length:Int)<m.length),aiv,ai4,ai8];have hV:V<18446744073709551616 ^ (w+m.length+1):=by
    have h1:=iJ hm;simp only[V];rw[hp2,aiG,aiN,aiW,aiF];refine ajC ?_ (aX w);have hs2:2 ^ s<=18446744073709551616:=by rw[<- hs1]; exact ajg _ (aiI _)
    exact ajc h1 hs2 (by decide)
   have hT:T m.length=X:=by simp only[T,X]; rw[ajb]
   have hend:dlq V (w+m.length)++[((c m.length:Nat):Int)]=dlq V (w+m.length+1):=by
    rw[dlq];have:c m.length=V / 18446744073709551616 ^ (w+m.length)%18446744073709551616:=by
     have hX:V / 18446744073709551616 ^ (w+m.length)=X / 18446744073709551616 ^ m.length:=by rw[hVX,aiN,<- aiC,ai5 _ (aX w)]
     have h2:=hcl m.length;have hs2:2 ^ s<=18446744073709551616:=by rw[<- hs1]; exact ajg _ (aiI _)
     rw[hX,<- hT];exact(aiE (by show c m.length<_; omega)).symm
    rw[this]
   rw[hend,lh _ (gy V _) (by rw[ak]; omega) (by rw[ak]; omega),m0 hV]
def ox:∀(i V:Nat),(af V).getD i 0=((V / 18446744073709551616 ^ i%18446744073709551616:Nat):Int)
 | i,V=>by
  by_cases h:V=0
  ·subst h; rw[bc]; simp
  ·rw[bW h];cases i with
   | zero=>simp
   | succ i=>
    show(af (V / 18446744073709551616)).getD i 0=_;rw[ox i (V / 18446744073709551616),aiG,aix,<- aiC]
def uB {l:List Int} {n i:Nat} (h:i<n):(l.take n).getD i 0=l.getD i 0:=by rw[List.getD_eq_getElem?_getD,List.getD_eq_getElem?_getD,List.getElem?_take,if_pos h]
def Ak {m:List Int} (hm:InWq m) (j:Nat):∃ R,au m / 18446744073709551616 ^ j=(m.getD j 0).toNat+18446744073709551616*(m.getD (j+1) 0).toNat+18446744073709551616*18446744073709551616*R:=by
 obtain⟨R,hR⟩:=bA m (j+2);refine⟨R,?_⟩;rw[hR,aL,aL];simp only[aiG];have e:au (m.take j)+18446744073709551616 ^ j*(m.getD j 0).toNat+18446744073709551616 ^ j*18446744073709551616*(m.getD (j+1) 0).toNat+18446744073709551616 ^ j*18446744073709551616*18446744073709551616*R
   = au (m.take j)+18446744073709551616 ^ j*((m.getD j 0).toNat+18446744073709551616*(m.getD (j+1) 0).toNat+18446744073709551616*18446744073709551616*R):=by
  rw[aiL,aiL,aiF,aiF,aiF,aiF]; omega
 rw[e,cW,ai0 (aQ hm j),aiZ]
def C1 {x y s:Nat} (hs:s<64) (hx:x<18446744073709551616) (hy:y<18446744073709551616):aA .or .u64 (Int.fdiv (x:Int) (2 ^ s)) (IntKind.wrap .u64 ((y:Int)*2 ^ (64 - s)))=(((x+18446744073709551616*y) / 2 ^ s%18446744073709551616:Nat):Int):=by
 have hs0:0<2 ^ s:=aiI s;have hs1:2 ^ s*2 ^ (64 - s)=18446744073709551616:=by rw[<- aiN,show s+(64 - s)=64 by omega]
 have e1:Int.fdiv (x:Int) (2 ^ s)=((x / 2 ^ s:Nat):Int):=by
  have e2:(2:Int) ^ s=((2 ^ s:Nat):Int):=by rw[ajV]; rfl
  rw[e2,lq]
 have e3:(y:Int)*2 ^ (64 - s)=((y*2 ^ (64 - s):Nat):Int):=by rw[aiQ,ajV]; rfl
 have hlow:y*2 ^ (64 - s)%18446744073709551616=2 ^ (64 - s)*(y%2 ^ s):=by
  have e:2 ^ (64 - s)*y%(2 ^ (64 - s)*2 ^ s)=2 ^ (64 - s)*(y%2 ^ s):=akd _ _ _
  rwa [aix (2 ^ (64 - s)) (2 ^ s),hs1,aix (2 ^ (64 - s)) y]at e
 have e4:IntKind.wrap .u64 ((y*2 ^ (64 - s):Nat):Int)=((2 ^ (64 - s)*(y%2 ^ s):Nat):Int):=by rw[<- hlow,aq]; omega
 have hxl:x / 2 ^ s<2 ^ (64 - s):=by rw[aiD hs0,aix,hs1]; exact hx
 have hsum:2 ^ (64 - s)*(y%2 ^ s)+x / 2 ^ s<18446744073709551616:=by have h1:y%2 ^ s+1<=2 ^ s:=aiJ _ hs0;have h2:=aiB (2 ^ (64 - s)) h1;rw[aix (2 ^ (64 - s)) (2 ^ s),hs1,aiL]at h2;omega
 rw[e1,e3,e4,cL _ _ (64 - s) hxl hsum];congr 1;have e5:(x+18446744073709551616*y) / 2 ^ s=x / 2 ^ s+2 ^ (64 - s)*y:=by rw[<- hs1,aiF,ajq _ _ hs0]
 rw[e5];have e6:y=y%2 ^ s+2 ^ s*(y / 2 ^ s):=(akD _ _).symm;have e7:2 ^ (64 - s)*y=2 ^ (64 - s)*(y%2 ^ s)+18446744073709551616*(y / 2 ^ s):=by
  conv=>lhs; rw[e6]
  rw[aiL,<- aiF,aix (2 ^ (64 - s)) (2 ^ s),hs1]
 rw[e7,<- aja,ajK,aiE (a:=x / 2 ^ s+2 ^ (64 - s)*(y%2 ^ s)) (b:=18446744073709551616) (by rw[akm]; exact hsum)];exact akm _ _
def A8:∀ n:Nat,n ≠ 0 -> ∃ t c,n=2 ^ t*(2*c+1):=by
 intro n;induction n using Nat.strongRecOn with
 | ind n ih=>
  intro h0;by_cases h:n%2=0
  ·obtain⟨t,c,hc⟩:=ih (n / 2) (by omega) (by omega);exact⟨t+1,c,by rw[aiG,aix (2 ^ t) 2,aiF,<- hc]; omega⟩
  ·exact⟨0,n / 2,by rw[akn,akt]; omega⟩
def vm {a b:Nat} (ha:a<18446744073709551616) (hb:b<18446744073709551616):aA .and .u64 (a:Int) (b:Int)=((a &&& b:Nat):Int):=by
 unfold aA rN;simp only[ajf];have h64:(2:Nat) ^ 64=18446744073709551616:=by decide
 have e:((BitVec.ofInt (IntKind.bits .u64) (a:Int)) &&& (BitVec.ofInt (IntKind.bits .u64) (b:Int))).toNat=a &&& b:=by show((BitVec.ofInt 64 (a:Int)) &&& (BitVec.ofInt 64 (b:Int))).toNat=_;rw[ak_,ajA,ajA,ajI,ajI,aiE (by omega),aiE (by omega)]
 have hl:a &&& b<18446744073709551616:=aj2 Nat.and_le_left ha;rw[e,xt _ hl]
def OP {t c:Nat} (h:2 ^ t*(2*c+1)<2 ^ 64):(2 ^ t*(2*c+1)) &&& (2 ^ 64 - 2 ^ t*(2*c+1))=2 ^ t:=by
 have ht0:0<2 ^ t:=aiI t;have ht:t<64:=by
  rcases ajs t 64 with h1 | h1
  ·exact h1
  ·have h2:2 ^ 64<=2 ^ t:=aiK (by decide) h1;have h3:2 ^ t*1<=2 ^ t*(2*c+1):=aiB _ (by omega);omega
 have e1:2 ^ t*(2*c+1)=(2 ^ t*(2*c)+(2 ^ t - 1))+1:=by rw[aiL]; omega
 refine akH λj=>?_
 rw[alp];have e2:(2 ^ 64 - 2 ^ t*(2*c+1)).testBit j=(decide (j<64) && !(2 ^ t*(2*c)+(2 ^ t - 1)).testBit j):=by
  conv=>lhs; rw[e1]
  exact ale (by rw[e1]at h; omega) j
 rw[e2,Nat.testBit_two_pow_mul,alq _ (by omega),akh];rcases ak1 j t with hj | hj | hj
 ·rw[aiu (by omega:¬ j>=t),aiu (by omega:¬ t=j)]; rfl
 ·subst hj;rw[if_neg (by omega),ai4,ait (aiH _),ait ht,ait rfl];have a1:(2*c+1).testBit 0=true:=by rw[ala]; simp
  have a2:(2*c).testBit 0=false:=by rw[ala]; simp
  rw[a1,a2]; rfl
 ·obtain⟨k,hk⟩:∃ k,j - t=k+1:=⟨j - t - 1,by omega⟩
  rw[if_neg (by omega),hk,ait (by omega:j>=t),aiu (by omega:¬ t=j),alb,alb];have a1:(2*c+1) / 2=c:=by omega
  have a2:2*c / 2=c:=by omega
  rw[a1,a2];cases c.testBit k <;> simp
def T7:∀ t:Fin 64,(inR (Int.fdiv (IntKind.wrap .u64 (((2 ^ t.val:Nat):Int)*285870213051353865)) (2 ^ 58)) 64=true)/\(List.getD zb (Int.toNat (Int.fdiv (IntKind.wrap .u64 (((2 ^ t.val:Nat):Int)*285870213051353865)) (2 ^ 58))) 0=(t.val:Int)):=by decide +kernel
def Tm (N:Nat) {t c:Nat} (h:2 ^ t*(2*c+1)<18446744073709551616) (k:Kz5):TB N ((2 ^ t*(2*c+1):Nat):Int) k=k (t:Int):=by
 have h64:(2:Nat) ^ 64=18446744073709551616:=by decide
 have ht0:0<2 ^ t:=aiI t;have hx0:0<2 ^ t*(2*c+1):=aku ht0 (by omega);have ht:t<64:=by
  rcases ajs t 64 with h1 | h1
  ·exact h1
  ·have h2:2 ^ 64<=2 ^ t:=aiK (by decide) h1;have h3:2 ^ t*1<=2 ^ t*(2*c+1):=aiB _ (by omega);omega
 (unfold TB; rw[ae]; unfold OH)
 have ha:=OP (t:=t) (c:=c) (by omega);rw[h64]at ha;generalize 2 ^ t*(2*c+1)=x at *;have e0:((x:Int)==0)=false:=by simp; omega
 have ew:IntKind.wrap .u64 (0 - (x:Int))=((18446744073709551616 - x:Nat):Int):=by rw[aq]; omega
 obtain⟨t1,t2⟩:=T7 ⟨t,ht⟩;rw[e0,aiv,ew,vm h (by omega),ha,aa t1,t2,aa air]
def To {V w:Nat} (h:V / 18446744073709551616 ^ w ≠ 0):w<(af V).length:=by
 rcases ajs w (af V).length with h1 | h1
 ·exact h1
 ·exfalso;have h2:=iJ (aU V);rw[aC]at h2;exact h (ai0 (aiO h2 (aiK (by decide) h1)))
def JL {B n:Nat} (h:aS B n):(af n).length<=B / 64+1:=by
 refine fR _ _ ?_;have e:(18446744073709551616:Nat)=2 ^ 64:=by decide
 rw[e,<- aln];exact aiO h (aiK (by decide) (by omega))
def Kc {N:Nat} (g:Bool) (n:Nat) (h:(af n).length<=1099511627776) (k:Ky5):PQ N g (af n) k=tm (-(aV g n)) k:=by
 (unfold PQ; rw[ae]; unfold Q4)
 rw[xR _ h,oH (!g) g (af n) n k];congr 1; unfold aV; cases g <;> simp
def Np {N:Nat} (hN:1000<=N) (n:Nat) (hn:n<18446744073709551616) (b:Bool) (k:Ky5):PJ N n b k=k false (af n):=by
 (unfold PJ; rw[ae]; unfold QO)
 rw[uH hN n hn]; rfl
def tu {N:Nat} (hN:1000<=N) (n:Nat) (hn:n<9223372036854775808) (k:Ky5):Gm N n k=k false (af n):=by
 (unfold Gm Qe; unfold UT; rw[ae]; unfold Q8)
 have e:IntKind.wrap .u64 (n:Int)=n:=by rw[aq]; omega
 rw[aiu (by omega:¬(n:Int)<0),aiv,e,uH hN n (by omega)]; rfl
def Kb {N:Nat} (s:Nat) (b g:Bool) (n:Nat) (hs:s<4294967296) (hN:(af n).length+s / 64+4<N) (h:(af n).length<=1099511627776) (k:Ky5):TS N s b g (af n) k=tm (aV g (n*2 ^ s)) k:=by unfold TS Uo;rw[Kl _ (aU n) s hs hN h,aC,HH g b _ k]
def qU {n:Nat} (h0:n ≠ 0) (h:n<18446744073709551616):af n=[(n:Int)]:=by rw[bW h0,ai0 h,bc,aiE h]
def vn (a b:Int):aA .or .u64 a b=aA .or .u64 b a:=by unfold aA rN;simp only[ajf];rw[BitVec.or_comm]
end Go.Proofs.YtbiingchhnlcnaaGreatDoor
