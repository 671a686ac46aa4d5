/- Laws in plain Lean. Conditions: none. -/
import Derived.Test.YtbiingchhnlcnaaGreatDoorGp
import Derived.Test.YtbiingchhnlcnaaGreatDoorBig
set_option linter.defProp false
set_option linter.unusedVariables false
namespace Go.Proofs.YtbiingchhnlcnaaGreatDoor
open Go Go.Mach
def aa {a c:Bool} (h:a=true):(a&&c)=c:=by rw[h]; rfl
def aq (z:Int):IntKind.wrap .u64 z=z%18446744073709551616:=by rfl
def cU (z:Int):IntKind.wrap .u32 z=z%4294967296:=by rfl
def kK (z:Int):Int.fdiv z (2 ^ 32)=z / 4294967296:=by rw[amk _ (by decide)]; rfl
def aF {σ:Type} {step:σ->(σ->Bool)->Bool} {s:σ} (C:Nat->σ) (n:Nat) {N:Nat} (h0:s=C 0) (hn:n<N) {out:Bool} (hs:∀ i,i<n -> ∀ K:σ->Bool,step (C i) K=K (C (i+1))) (hx:∀ K,step (C n) K=out):af N step s=out:=by subst h0; exact aC C n hn hs hx
def bE (b:List Int):Nat->Nat
 | 0=>0
 | n+1=>if b.getD n 0=0 then bE b n else n+1
def pg (b:List Int) (n:Nat):bE b (n+1)=if b.getD n 0=0 then bE b n else n+1:=rfl
def kg (b:List Int):∀ n,bE b n<=n
 | 0=>ak3 _
 | n+1=>by unfold bE; split; exact Nat.le_succ_of_le (kg b n); exact ak3 _
def dT {b:List Int} {i:Nat} (h:b.length<=i):b.getD i 0=0:=by rw[List.getD_eq_getElem?_getD,List.getElem?_eq_none h]; rfl
def aO {m:List Int} (i:Nat):aE (m.take (i+1))=aE (m.take i)+4294967296 ^ i*(m.getD i 0).toNat:=by
 by_cases h:i<m.length
 ·exact BK h
 ·rw[dT (by omega),alc (by omega),alc (by omega)]; simp
def tn (b:List Int):∀ n,aE (b.take (bE b n))=aE (b.take n)
 | 0=>rfl
 | n+1=>by
  unfold bE;split
  ·rename_i h;rw[tn b n,aO,h]; simp
  ·rfl
def getLast?_take {b:List Int} {n:Nat} (h:n<b.length):(b.take (n+1)).getLast? = some (b.getD n 0):=by rw[al9 h,List.getLast?_append,List.getD_eq_getElem?_getD,List.getElem?_eq_getElem h];simp
def tm (b:List Int):∀ n,n<=b.length -> ∀ x,(b.take (bE b n)).getLast? = some x->x ≠ 0
 | 0,_,x,h=>by simp[bE]at h
 | n+1,hn,x,h=>by
  unfold bE at h;split at h
  ·exact tm b n (by omega) x h
  ·rename_i h0;rw[getLast?_take (by omega)]at h;cases h; exact h0
def uw {b:List Int} (hb:InW b):b.take (bE b b.length)=aj (aE b):=by have h1:=tn b b.length;rw[alz]at h1;rw[<- h1,x_ (hb.take _) (tm b b.length (ak3 _))]
def mo {N:Nat} (b:List Int) (hN:b.length<N) (hs:b.length<9223372036854775807) (k:Kz8):qs N b k=k (bE b b.length):=by
 (unfold qs; rw[ae]; unfold Sv)
 have key:∀ n,n<=b.length -> ∀ M,n<M->af M (wS N 0 b λm=>k m) n=k (bE b n):=by
  intro n;induction n with
  | zero=>
   intro _ M hM;cases M with
   | zero=>omega
   | succ M=>
    show wS N 0 b _ 0 _=_;simp[wS,bE]
  | succ n ih=>
   intro hn M hM;cases M with
   | zero=>omega
   | succ M=>
    show wS N 0 b _ (n+1) (af M _)=_;have e:Int.toNat (((n+1:Nat):Int) - 1)=n:=by omega
    simp only[wS,e,alk,amX];rw[akP (by omega:((n+1:Nat):Int)>0),aa akN,aa akO,aa (akP (by omega)),aa akN,aa (akP (by omega)),ih (by omega) M (by omega)];rw[pg];by_cases h0:b.getD n 0=0
    ·have:(b.getD n 0==0)=true:=by simpa using h0
     rw[this,if_pos h0]; rfl
    ·have:(b.getD n 0==0)=false:=by simpa using h0
     rw[this,if_neg h0]; rfl
 exact key b.length (ak3 _) N hN
def JO {N:Nat} (m:List Int) (hm:InW m) (hN:m.length<N) (hs:m.length<9223372036854775807) (k:List Int->Bool):mA N m k=k (aj (aE m)):=by
 (unfold mA; rw[ae]; unfold xS)
 have key:∀ n,n<9223372036854775807 -> ∀(l:List Int),l.length=n->InW l -> ∀ M,n<M->af M (fH N λZp=>k Zp) l=k (aj (aE l)):=by
  intro n;induction n with
  | zero=>
   intro _ l hl _ M hM;cases M with
   | zero=>omega
   | succ M=>
    have:l=[]:=List.length_eq_zero_iff.1 hl;subst this;show fH N _ [] _=_;simp[fH,aE,aV]
  | succ n ih=>
   intro hn l hl hw M hM;cases M with
   | zero=>omega
   | succ M=>
    show fH N _ l (af M _)=_;have e:Int.toNat ((l.length:Int) - 1)=n:=by omega
    simp only[fH,e,amn];rw[akP (by omega:(l.length:Int)>0),aa akN,aa akO,aa akN,aa (akP (by omega)),ih (by omega) (l.take n) (by simp; omega) (hw.take n) M (by omega)];have e2:=aO (m:=l) n;rw[alc (by omega)]at e2;by_cases h0:l.getD n 0=0
    ·have:(l.getD n 0==0)=true:=by simpa using h0
     rw[this];rw[h0]at e2;simp at e2;rw[e2]; rfl
    ·have:(l.getD n 0==0)=false:=by simpa using h0
     rw[this,x_ hw (λx hx=>by have:=getLast?_take (b:=l) (n:=n) (by omega);rw[alc (by omega)]at this;rw[this]at hx; cases hx; exact h0)]
     rfl
 exact key m.length hs m rfl hm N hN
def db {N:Nat} (b:List Int) (hb:InW b) (hN:b.length<N) (hs:b.length<9223372036854775807) (k:List Int->Bool) :
  (qs N b λl=>(decide (0+l<=b.length))&&k (List.take l (List.drop 0 b)))=k (aj (aE b)):=by
 rw[mo b hN hs,amn,uw hb];have:=kg b b.length;rw[akP (by omega)]; rfl
def fj (N:Nat) (l:List Int):Prop:=l.length+2<N/\l.length<=17592186044416
def dS (T A i:Nat):(T+4294967296 ^ i*A) / 4294967296 ^ i=T / 4294967296 ^ i+A:=alO _ _ (alZ (by decide))
def IM (m:List Int) (i:Nat):aE m=aE (m.take i)+4294967296 ^ (m.take i).length*aE (m.drop i):=by rw[<- tK,anu]
def bS (m:List Int) (i:Nat):∃ R,aE m=aE (m.take i)+4294967296 ^ i*R:=by
 by_cases h:i<=m.length
 ·refine⟨aE (m.drop i),?_⟩;have:=IM m i
  rwa [alx,amh h]at this
 ·exact⟨0,by rw[alc (by omega)]; simp⟩
def bc {m:List Int} (h:InW m) (i:Nat):aE (m.take i)<4294967296 ^ i:=by
 have h1:=eE (h.take i);have h2:(m.take i).length<=i:=by simp; omega
 exact ak_ h1 (ak6 (by decide) h2)
def mQ {S T R i:Nat} (h:S=T+4294967296 ^ (i+1)*R):S / 4294967296 ^ i%4294967296=T / 4294967296 ^ i%4294967296:=by rw[h,ak2,ak1,dS,al8]
def DD {N:Nat} (a b:List Int) (ha:InW a) (hb:InW b) (hl:b.length<=a.length) (hN:fj N a) (k:List Int->Bool) :
  af N (gf N a b λcarry out=>(inR (a.length:Nat) out.length)&&((decide ((Int.toNat (a.length:Nat))<out.length)) &&
   (qs N (List.set out (Int.toNat (a.length:Nat)) (IntKind.wrap .u32 carry)) λaak=>(decide ((0+aak)<=(List.length (List.set out (Int.toNat (a.length:Nat)) (IntKind.wrap .u32 carry)))))&&k (List.take aak (List.drop 0 (List.set out (Int.toNat (a.length:Nat)) (IntKind.wrap .u32 carry)))))))
   (0,0,List.replicate (a.length+1) 0)=k (aj (aE a+aE b)):=by
 obtain⟨hN1,hN2⟩:=hN
 let S:=aE a+aE b
 let T:=λi=>aE (a.take i)+aE (b.take i)
 refine aF (λi=>(((T i / 4294967296 ^ i:Nat):Int),(i:Int),dl S i++List.replicate (a.length+1 - i) 0)) a.length (by simp[T,aE,dl]) (by omega) (λi hi K=>?_) (λK=>?_)
 ·have hx:=ha.at (i:=i);have hy:=hb.at (i:=i);have hT:T (i+1)=T i+4294967296 ^ i*((a.getD i 0).toNat+(b.getD i 0).toNat):=by simp only[T,aO,ak7]; omega
  have hq:T (i+1) / 4294967296 ^ i=T i / 4294967296 ^ i+((a.getD i 0).toNat+(b.getD i 0).toNat):=by rw[hT,dS]
  have hc:T i / 4294967296 ^ i<=1:=by
   have h1:=bc ha i;have h2:=bc hb i;have h3:T i<4294967296 ^ i*2:=by simp only[T]; omega
   have:=(akZ (alZ (n:=i) (by decide:0<4294967296))).2 (by rw[akT]; exact h3:T i<2*4294967296 ^ i);omega
  have hdiv:T (i+1) / 4294967296 ^ (i+1)=T (i+1) / 4294967296 ^ i / 4294967296:=by rw[ak2,akY]
  have hdig:S / 4294967296 ^ i%4294967296=T (i+1) / 4294967296 ^ i%4294967296:=by obtain⟨R1,h1⟩:=bS a (i+1);obtain⟨R2,h2⟩:=bS b (i+1);refine mQ (R:=R1+R2) ?_;simp only[S,T];rw[ak7]; omega
  have hset:=AZ S i (a.length+1) (by omega);have hlen:(dl S i++List.replicate (a.length+1 - i) 0).length=a.length+1:=by simp[am]; omega
  generalize hq':T i / 4294967296 ^ i=q at *;generalize hx':a.getD i 0=x at *;generalize hy':b.getD i 0=y at *;simp only[gf,akW];rw[akP (by omega:(i:Int)<a.length),akS,hx',hy',aa akO,hlen];have hstep:∀ s:Int,s=((q+(x.toNat+y.toNat):Nat):Int)->K ((Int.fdiv s (2 ^ 32)),((i:Int)+1),(List.set (dl S i++List.replicate (a.length+1 - i) 0) i (IntKind.wrap .u32 s)))=K (((T (i+1) / 4294967296 ^ (i+1):Nat):Int),((i+1:Nat):Int),dl S (i+1)++List.replicate (a.length+1 - (i+1)) 0):=by
   intro s hs;have e1:Int.fdiv s (2 ^ 32)=((T (i+1) / 4294967296 ^ (i+1):Nat):Int):=by rw[kK,hdiv,hq,hs]; omega
   have e2:IntKind.wrap .u32 s=((S / 4294967296 ^ i%4294967296:Nat):Int):=by rw[cU,hdig,hq,hs]; omega
   rw[e1,e2,hset]; rfl
  by_cases hib:i<b.length
  ·rw[akP (by omega:(i:Int)<b.length),akS,aa akO,aa akO,aa (akP (by omega)),aa akN];exact hstep _ (by simp only[aq]; omega)
  ·rw[akQ (by omega:¬(i:Int)<b.length),akR,aa akO,aa (akP (by omega)),aa akN];have hy0:y=0:=by rw[<- hy']; exact dT (by omega)
   subst hy0;exact hstep _ (by simp only[aq]; omega)
 ·simp only[gf];rw[akQ (by omega:¬(a.length:Int)<a.length),akR];have hT:T a.length=S:=by simp only[T,S]; rw[alz,alc hl]
  have hS:S<4294967296 ^ (a.length+1):=by have h1:=eE ha;have h2:=eE hb;have h3:4294967296 ^ b.length<=4294967296 ^ a.length:=ak6 (by decide) hl;rw[ak2];simp only[S]; omega
  have hlen:(dl S a.length++List.replicate (a.length+1 - a.length) 0).length=a.length+1:=by simp[am]
  have e2:IntKind.wrap .u32 ((T a.length / 4294967296 ^ a.length:Nat):Int)=((S / 4294967296 ^ a.length%4294967296:Nat):Int):=by rw[cU,hT]; omega
  have hset:=AZ S a.length (a.length+1) (by omega);rw[e2,akW,hset,hlen,aa akO,aa (akP (by omega)),alq,alv,alp,
   db _ (jf S _) (by rw[am]; omega) (by rw[am]; omega),qT hS]
def OP {N:Nat} (a b:List Int) (ha:InW a) (hb:InW b) (hNa:fj N a) (hNb:fj N b) (k:List Int->Bool):wK N a b k=k (aj (aE a+aE b)):=by
 (unfold wK; rw[ae]; unfold vR)
 have h1:=hNa.2;have h2:=hNb.2;by_cases h:a.length<b.length
 ·rw[akP (by omega:(a.length:Int)<b.length),akS,aa akN,aa (bT (by omega) (by omega) (by omega) (by omega))];have e:Int.toNat ((b.length:Int)+1)=b.length+1:=by omega
  rw[e,DD b a hb ha (by omega) hNb k,amK]
 ·rw[akQ (by omega:¬(a.length:Int)<b.length),akR,aa akN,aa (bT (by omega) (by omega) (by omega) (by omega))];have e:Int.toNat ((a.length:Int)+1)=a.length+1:=by omega
  rw[e,DD a b ha hb (by omega) hNa k]
def aS (i:Nat):0<4294967296 ^ i:=alZ (by decide)
def Bf {D e P:Nat} {z:Int} (h:(D:Int)=(e:Int)+(P:Int)*z) (he:e<P):((D / P:Nat):Int)=z:=by
 have hP:(P:Int) ≠ 0:=by omega
 rw[Int.natCast_ediv,h,Int.add_mul_ediv_left _ _ hP,<- Int.natCast_ediv,alm he];simp
def pd (P A B x y:Nat) (hA:A<P) (hB:B<P):(if A+P*x<B+P*y then 1 else 0)=if x<y+(if A<B then 1 else 0)then 1 else(0:Nat):=by
 by_cases hxy:x<y
 ·have:P*(x+1)<=P*y:=akX P hxy;rw[ak7]at this;rw[if_pos (by omega),if_pos (by omega)]
 ·by_cases hyx:y<x
  ·have:P*(y+1)<=P*x:=akX P hyx;rw[ak7]at this;rw[if_neg (by omega),if_neg (by split <;> omega)]
  ·have:x=y:=by omega
   subst this;by_cases hAB:A<B
   ·rw[if_pos (by omega),if_pos hAB,if_pos (by omega)]
   ·rw[if_neg (by omega),if_neg hAB,if_neg (by omega)]
def FO {P A B x y o R1 R2 D a b:Nat} (hA:A<P) (hB:B<P) (ho:o=if A<B then 1 else 0) (h1:a=A+P*x+P*4294967296*R1) (h2:b=B+P*y+P*4294967296*R2) (hD:(D:Int)=(a:Int) - (b:Int)) :
  ((D / P:Nat):Int)=(x:Int) - (y:Int) - (o:Int)+4294967296*((R1:Int) - (R2:Int)):=by
 have he:∃ e:Nat,e<P/\(e:Int)=(A:Int) - (B:Int)+(P:Int)*(o:Int):=by
  rw[ho];split
  ·exact⟨A+P - B,by omega,by omega⟩
  ·exact⟨A - B,by omega,by omega⟩
 obtain⟨e,he1,he2⟩:=he;refine Bf (e:=e) ?_ he1;have e1:(a:Int)=A+(P:Int)*x+4294967296*((P:Int)*R1):=by rw[h1,ak1,alh]; simp
 have e2:(b:Int)=B+(P:Int)*y+4294967296*((P:Int)*R2):=by rw[h2,ak1,alh]; simp
 have e3:(P:Int)*((x:Int) - (y:Int) - (o:Int)+4294967296*((R1:Int) - (R2:Int)))=(P:Int)*x - (P:Int)*y - (P:Int)*o+(4294967296*((P:Int)*R1) - 4294967296*((P:Int)*R2)):=by rw[Int.mul_add,anc,anc,Int.mul_left_comm,anc,anc]
 rw[hD,e1,e2,e3,he2];omega
def yn {N:Nat} (a b:List Int) (ha:InW a) (hb:InW b) (hle:aE b<=aE a) (hN:fj N a) (k:List Int->Bool):nh N a b k=k (aj (aE a - aE b)):=by
 obtain⟨hN1,hN2⟩:=hN
 (unfold nh; rw[ae]; unfold sL)
 rw[aa (bT (by omega) (by omega) (by omega) (by omega)),akW]
 let D:=aE a - aE b
 let bo:=λi=>if aE (a.take i)<aE (b.take i)then(1:Nat)else 0
 refine aF (λi=>(((bo i:Nat):Int),(i:Int),dl D i++List.replicate (a.length - i) 0)) a.length (by simp[bo,aE,dl]) (by omega) (λi hi K=>?_) (λK=>?_)
 ·have hx:=ha.at (i:=i);have hy:=hb.at (i:=i);have hA:=aO (m:=a) i;have hB:=aO (m:=b) i;have hAl:=bc ha i;have hBl:=bc hb i;have hset:=AZ D i a.length (by omega);have hl:(dl D i++List.replicate (a.length - i) 0).length=a.length:=by simp[am]; omega
  obtain⟨R1,h1⟩:=bS a (i+1);obtain⟨R2,h2⟩:=bS b (i+1);have hD:(D:Int)=(aE a:Int) - (aE b:Int):=by simp only[D]; omega
  have hP:=aS i;have hPs:4294967296 ^ (i+1)=4294967296 ^ i*4294967296:=ak2 ..;have hbo:bo i<=1:=by simp only[bo]; split <;> omega
  have hbs:bo (i+1)=if (a.getD i 0).toNat<(b.getD i 0).toNat+bo i then 1 else 0:=by simp only[bo,hA,hB];exact pd _ _ _ _ _ hAl hBl
  have hq:((D / 4294967296 ^ i:Nat):Int)=((a.getD i 0).toNat:Int) - ((b.getD i 0).toNat:Int) - (bo i:Int)+4294967296*((R1:Int) - (R2:Int)):=by rw[hA,hPs]at h1;rw[hB,hPs]at h2;exact FO hAl hBl rfl h1 h2 hD
  have hdig:((D / 4294967296 ^ i%4294967296:Nat):Int)=(((a.getD i 0).toNat:Int) - ((b.getD i 0).toNat:Int) - (bo i:Int))%4294967296:=by rw[Int.natCast_emod,hq];exact Int.add_mul_emod_self_left _ _ _
  generalize hx':a.getD i 0=x at *;generalize hy':b.getD i 0=y at *;generalize bo i=o at *;generalize bo (i+1)=o' at *;simp only[lF,akW];have hy0:¬ i<b.length->y=0:=λh=>by rw[<- hy']; exact dT (by omega)
  have fin:∀(v w:Int),v=(o':Int)->w%4294967296=((D / 4294967296 ^ i%4294967296:Nat):Int)->K (v,(i:Int)+1,List.set (dl D i++List.replicate (a.length - i) 0) i (IntKind.wrap .u32 w))=K ((o':Int),((i+1:Nat):Int),dl D (i+1)++List.replicate (a.length - (i+1)) 0):=by intro v w hv hw;rw[hv,cU,hw,hset]; rfl
  simp only[hx',hy',hl];rw[akP (by omega:(i:Int)<a.length),akS];by_cases hib:i<b.length
  ·rw[akP (by omega:(i:Int)<b.length),akS,aa akO,aa akO];by_cases hlt:x.toNat<y.toNat+o
   ·rw[akP (by simp only[aq]; omega),akS,aa akO,aa (akP (by omega)),aa akN];rw[if_pos hlt]at hbs;exact fin _ _ (by omega) (by rw[hdig]; simp only[aq]; omega)
   ·rw[akQ (by simp only[aq]; omega),akR,aa akO,aa (akP (by omega)),aa akN];rw[if_neg hlt]at hbs;exact fin _ _ (by omega) (by rw[hdig]; simp only[aq]; omega)
  ·have hy1:=hy0 hib;rw[akQ (by omega:¬(i:Int)<b.length),akR,aa akO];by_cases hlt:x.toNat<y.toNat+o
   ·rw[akP (by simp only[aq]; omega),akS,aa akO,aa (akP (by omega)),aa akN];rw[if_pos hlt]at hbs;exact fin _ _ (by omega) (by rw[hdig]; simp only[aq]; omega)
   ·rw[akQ (by simp only[aq]; omega),akR,aa akO,aa (akP (by omega)),aa akN];rw[if_neg hlt]at hbs;exact fin _ _ (by omega) (by rw[hdig]; simp only[aq]; omega)
 ·simp only[lF];rw[akQ (by omega:¬(a.length:Int)<a.length),akR,alq,alv,alp];have hS:D<4294967296 ^ a.length:=by have:=eE ha; simp only[D]; omega
  rw[db _ (jf D _) (by rw[am]; omega) (by rw[am]; omega),qT hS]
def cj (a c s:Nat) (ha:a<2 ^ s) (hlt:2 ^ s*c+a<18446744073709551616):aA .or .u64 (a:Int) ((2 ^ s*c:Nat):Int)=((2 ^ s*c+a:Nat):Int):=by
 unfold aA rW;simp only[alD];have e:((BitVec.ofInt (IntKind.bits .u64) (a:Int)) ||| (BitVec.ofInt (IntKind.bits .u64) ((2 ^ s*c:Nat):Int))).toNat=2 ^ s*c+a:=by
  show((BitVec.ofInt 64 (a:Int)) ||| (BitVec.ofInt 64 ((2 ^ s*c:Nat):Int))).toNat=_;have h64:(2:Nat) ^ 64=18446744073709551616:=by decide
  rw[BitVec.toNat_or,alY,alY,al6,al6,ak0 (by omega),ak0 (by omega),Nat.or_comm,<- anL ha]
 rw[e,xM _ hlt]
def Hw (n:Nat) (h:n<4294967296):IntKind.wrap .u32 (n:Int)=n:=by rw[cU]; omega
def rX (a c s:Nat) (ha:a<2 ^ s) (hlt:2 ^ s*c+a<4294967296):aA .or .u32 (a:Int) ((2 ^ s*c:Nat):Int)=((2 ^ s*c+a:Nat):Int):=by
 unfold aA rW;simp only[alD];have e:((BitVec.ofInt (IntKind.bits .u32) (a:Int)) ||| (BitVec.ofInt (IntKind.bits .u32) ((2 ^ s*c:Nat):Int))).toNat=2 ^ s*c+a:=by
  show((BitVec.ofInt 32 (a:Int)) ||| (BitVec.ofInt 32 ((2 ^ s*c:Nat):Int))).toNat=_;have h32:(2:Nat) ^ 32=4294967296:=by decide
  rw[BitVec.toNat_or,alY,alY,al6,al6,ak0 (by omega),ak0 (by omega),Nat.or_comm,<- anL ha]
 rw[e,Hw _ hlt]
def dw (x y:Nat):Int:=if x<y then -1 else if x=y then 0 else 1
def NU {P A B x y:Nat} (hA:A<P) (h:x<y):dw (A+P*x) (B+P*y) = -1:=by have:P*(x+1)<=P*y:=akX P h;rw[ak7]at this;unfold dw;rw[if_pos (by omega)]
def NT {P A B x y:Nat} (hB:B<P) (h:y<x):dw (A+P*x) (B+P*y)=1:=by have:P*(y+1)<=P*x:=akX P h;rw[ak7]at this;unfold dw;rw[if_neg (by omega),if_neg (by omega)]
def FC {P A B x:Nat}:dw (A+P*x) (B+P*x)=dw A B:=by
 unfold dw;by_cases h3:A<B
 ·rw[if_pos h3,if_pos (by omega)]
 ·by_cases h4:A=B
  ·subst h4; simp
  ·rw[if_neg h3,if_neg h4,if_neg (by omega),if_neg (by omega)]
def D9 {N:Nat} (a b:List Int) (ha:InW a) (hb:InW b) (hl:a.length=b.length) (hs:a.length<9223372036854775807) (k:Kz7) :
  ∀ n,n<=a.length -> ∀ M,n<M->af M (wN N a b (λt4=>k t4) (k 0)) ((n:Int) - 1)=k (dw (aE (a.take n)) (aE (b.take n))):=by
 intro n;induction n with
 | zero=>
  intro _ M hM;cases M with
  | zero=>omega
  | succ M=>
   show wN N a b _ _ ((0:Nat) - 1:Int) _=_;simp[wN,dw,aE]
 | succ n ih=>
  intro hn M hM;cases M with
  | zero=>omega
  | succ M=>
   show wN N a b _ _ (((n+1:Nat):Int) - 1) (af M _)=_;have e:(((n+1:Nat):Int) - 1)=(n:Int):=by omega
   have hx:=ha.at (i:=n);have hy:=hb.at (i:=n);have hA:=aO (m:=a) n;have hB:=aO (m:=b) n;have hAl:=bc ha n;have hBl:=bc hb n;rw[e];simp only[wN,akW];rw[hA,hB,akP (by omega:(n:Int)>=0),akS,aa akO,aa akO,aa akO,aa akO,aa akN,ih (by omega) M (by omega)];by_cases h1:a.getD n 0<b.getD n 0
   ·rw[akP h1,akS,NU hAl (by omega)]
   ·rw[akQ h1,akR];by_cases h2:a.getD n 0>b.getD n 0
    ·rw[akP h2,akS,NT hBl (by omega)]
    ·rw[akQ h2,akR];have:a.getD n 0=b.getD n 0:=by omega
     rw[this,FC]
def bO {x y:Nat} (h:x<=y):(aj x).length<=(aj y).length:=by
 induction y using Nat.strongRecOn generalizing x with
 | ind y ih=>
  by_cases hx:x=0
  ·subst hx; rw[aV]; simp
  ·rw[cd hx,cd (by omega:y ≠ 0)];simp only[als];have:=ih (y / 4294967296) (by omega) (x:=x / 4294967296) (am6 h);omega
def kn {N:Nat} (x y:Nat) (hx:fj N (aj x)) (hy:fj N (aj y)) (k:Kz7):Ha N (aj x) (aj y) k=k (dw x y):=by
 (unfold Ha; rw[ae]; unfold S0)
 obtain⟨x1,x2⟩:=hx;obtain⟨y1,y2⟩:=hy;by_cases h:(aj x).length=(aj y).length
 ·have e:(((aj x).length:Int) != (aj y).length)=false:=by rw[h]; simp
  rw[e,akR,aa akN,D9 (aj x) (aj y) (aZ x) (aZ y) h (by omega) k _ (ak3 _) N (by omega),alz,h,alz,aJ,aJ]
 ·have e:(((aj x).length:Int) != (aj y).length)=true:=by simp; omega
  rw[e,akS];by_cases h1:(aj x).length<(aj y).length
  ·rw[akP (by omega),akS];have:x<y:=by
    rcases alQ x y with h2 | h2
    ·exact h2
    ·have:=bO h2; omega
   unfold dw; rw[if_pos this]
  ·rw[akQ (by omega),akR];have:¬ x<=y:=λh2=>by have:=bO h2; omega
   unfold dw; rw[if_neg (by omega),if_neg (by omega)]
def bl (n:Nat):Nat:=if n=0 then 0 else n.log2+1
def mP {n:Nat} (j:Nat) (h:2 ^ j<=n):bl n=j+bl (n / 2 ^ j):=by
 have hp:0<2 ^ j:=ak4 j;have h0:n ≠ 0:=by omega
 have h1:n / 2 ^ j ≠ 0:=by have:=ane h hp;omega
 unfold bl;rw[if_neg h0,if_neg h1];have hj:j<=n.log2:=(Nat.le_log2 h0).2 h;have:(n / 2 ^ j).log2=n.log2 - j:=by
  rw[Nat.log2_eq_iff h1];have h2:=Nat.log2_self_le h0;have h3:n<2 ^ (n.log2+1):=Nat.lt_log2_self;constructor
  ·rw[amx hp,<- ak9];rw[show n.log2 - j+j=n.log2 by omega]; exact h2
  ·rw[akZ hp,<- ak9];rw[show n.log2 - j+1+j=n.log2+1 by omega]; exact h3
 omega
def VP:∀ i:Fin 256,az.getD i.val 0=(bl i.val:Int):=by decide +kernel
def PX {i:Nat} (h:i<256):az.getD i 0=(bl i:Int):=VP ⟨i,h⟩
def Fq {n:Nat} (h:n<256):bl n<=8:=by
 unfold bl;split
 ·omega
 ·rename_i h0;have:=(Nat.log2_lt h0).2 (by simpa using h:n<2 ^ 8);omega
def Se (z:Int):IntKind.wrap .u8 z=z%256:=by rfl
def RL (z:Int):Int.fdiv z (2 ^ 8)=z / 256:=by rw[amk _ (by decide)]; rfl
def Od (z:Int):Int.fdiv z (2 ^ 16)=z / 65536:=by rw[amk _ (by decide)]; rfl
def Dh (N:Nat) (x:Nat) (h:x<4294967296) (k:Kz7):Kg N (x:Int) k=k (bl x:Int):=by
 (unfold Kg; rw[ae]; unfold MZ)
 simp only[RL,Od,Se];have key:∀(z:Int) (m:Nat),z=(m:Int)->m<256 -> ∀ c:Nat,c<=32->((inR z 256)&&((ac .i64 (List.getD az (Int.toNat z) 0))&&((ac .i64 ((c:Int)+(List.getD az (Int.toNat z) 0)))&&k ((c:Int)+List.getD az (Int.toNat z) 0))))=k ((c+bl m:Nat):Int):=by intro z m hz hm c hc;subst hz;have:=Fq hm;rw[akW,PX hm,aa akO,aa akN,aa akN];rfl
 by_cases h16:65536<=x
 ·rw[akP (by omega:(x:Int)>=65536),akS];have e16:=mP (n:=x) 16 (by simpa using h16);have p16:(2:Nat) ^ 16=65536:=by decide
  have p8:(2:Nat) ^ 8=256:=by decide
  rw[p16]at e16;by_cases h8:256<=x / 65536
  ·rw[akP (by omega:(x:Int) / 65536>=256),akS];have e8:=mP (n:=x / 65536) 8 (by simpa using h8);rw[p8]at e8;have:=key ((x:Int) / 65536 / 256%256) (x / 65536 / 256) (by omega) (by omega) 24 (by omega);rw[show((24:Nat):Int)=24 from rfl]at this;rw[this]; congr 2; omega
  ·rw[akQ (by omega:¬(x:Int) / 65536>=256),akR];have:=key ((x:Int) / 65536%256) (x / 65536) (by omega) (by omega) 16 (by omega);rw[show((16:Nat):Int)=16 from rfl]at this;rw[this]; congr 2; omega
 ·rw[akQ (by omega:¬(x:Int)>=65536),akR];by_cases h8:256<=x
  ·rw[akP (by omega:(x:Int)>=256),akS];have e8:=mP (n:=x) 8 (by simpa using h8);rw[show(2:Nat) ^ 8=256 by decide]at e8;have:=key ((x:Int) / 256%256) (x / 256) (by omega) (by omega) 8 (by omega);rw[show((8:Nat):Int)=8 from rfl]at this;rw[this]; congr 2; omega
  ·rw[akQ (by omega:¬(x:Int)>=256),akR];have:=key ((x:Int)%256) x (by omega) (by omega) 0 (by omega);rw[show((0:Nat):Int)=0 from rfl]at this;rw[this]; congr 2; omega
def tv:∀ n,n ≠ 0->bl n=32*((aj n).length - 1)+bl ((aj n).getD ((aj n).length - 1) 0).toNat/\0<(aj n).length:=by
  intro n;induction n using Nat.strongRecOn with
  | ind n ih=>
    intro h;rw[cd h];by_cases h1:n / 4294967296=0
    · rw[h1,aV]
      have:n%4294967296=n:=ak0 (by omega);simp[this]
    · obtain⟨i1,i2⟩:=ih (n / 4294967296) (by omega) h1
      have e:=mP (n:=n) 32 (by have:(2:Nat) ^ 32=4294967296:=(by decide); omega);rw[show(2:Nat) ^ 32=4294967296 by decide]at e;refine⟨?_,by simp⟩;have e2:(((n%4294967296:Nat):Int)::aj (n / 4294967296)).getD ((((n%4294967296:Nat):Int)::aj (n / 4294967296)).length - 1) 0=(aj (n / 4294967296)).getD ((aj (n / 4294967296)).length - 1) 0:=by
        simp only[als,anh];generalize aj (n / 4294967296)=l at i2 ⊢;cases l with
        | nil=>simp at i2
        | cons y l=>simp
      rw[e2,e,i1];simp only[als];omega
def Bo {N:Nat} (g:Bool) (n:Nat) (hs:fj N (aj n)) (k:Kz7):Mt N g (aj n) k=k (bl n:Int):=by
  (unfold Mt; rw[ae]; unfold SN)
  obtain⟨s1,s2⟩:=hs;by_cases h:n=0
  · subst h; rw[aV]; rfl
  · obtain⟨e1,e2⟩:=tv n h
    have e0:(((aj n).length:Int)==0)=false:=by simp; intro h'; rw[h']at e2; simp at e2
    have e3:Int.toNat (((aj n).length:Int) - 1)=(aj n).length - 1:=by omega
    have hw:=(aZ n).at (i:=(aj n).length - 1);have hb:bl ((aj n).getD ((aj n).length - 1) 0).toNat<=32:=by
      unfold bl; split
      · omega
      · rename_i h0
        have:=(Nat.log2_lt h0).2 (by have:(2:Nat) ^ 32=4294967296:=(by decide); omega:((aj n).getD ((aj n).length - 1) 0).toNat<2 ^ 32);omega
    have e4:(aj n).getD ((aj n).length - 1) 0=((((aj n).getD ((aj n).length - 1) 0).toNat:Nat):Int):=by omega
    rw[e0,akR,aa akN,aa akN,aa akN,aa akO,e3,e4,Dh N _ (by omega),aa akN];congr 1; omega
def wk:∀(w X:Nat),dl (4294967296 ^ w*X) w=List.replicate w 0:=by
 intro w;have key:∀ n,n<=w -> ∀ X,dl (4294967296 ^ w*X) n=List.replicate n 0:=by
  intro n;induction n with
  | zero=>intro _ X; rfl
  | succ n ih=>
   intro hn X;rw[dl,ih (by omega),amr];have e:4294967296 ^ w*X=4294967296 ^ n*(4294967296*(4294967296 ^ (w - n - 1)*X)):=by rw[<- ak1,<- ak1,<- ak2,<- ak9];congr 2; omega
   rw[e,alr _ (aS n),anZ];rfl
 exact key w (ak3 _)
def xw (n:Nat):2 ^ n=4294967296 ^ (n / 32)*2 ^ (n%32):=by
 have:(4294967296:Nat)=2 ^ 32:=by decide
 rw[this,<- anM,<- ak9];congr 1; omega
def aY {α:Type} (xs:List α) (y:α) (ys:List α) (z:α) (n:Nat) (h:n=xs.length):(xs++y::ys).set n z=xs++z::ys:=by subst h; rw[am0 _ _ (ak3 _),alq]; rfl
def bP {xs:List Int} {y:Int} {ys:List Int} {n:Nat} (h:n=xs.length):(xs++y::ys).getD n 0=y:=by subst h; rw[List.getD_eq_getElem?_getD,List.getElem?_append_right (ak3 _),alq]; rfl
def OL {N:Nat} (m:List Int) (hm:InW m) (n:Nat) (hn:n<4294967296) (hN:m.length+n / 32+4<N) (hs:m.length<=1099511627776) (k:List Int->Bool):wJ N m n k=k (aj (aE m*2 ^ n)):=by
 (unfold wJ; rw[ae]; unfold vQ)
 by_cases h0:m.length=0
 ·have:m=[]:=List.length_eq_zero_iff.1 h0;subst this;simp[aE,aV]
 ·have e0:((m.length:Int)==0)=false:=by simp; intro h; subst h; simp at h0
  have ew:IntKind.wrap .u64 (Int.tdiv (n:Int) 32)=((n / 32:Nat):Int):=by rw[aq,alU (by omega)]; omega
  have es:Int.tmod (n:Int) 32=((n%32:Nat):Int):=by rw[alL (by omega)]; rfl
  rw[e0,akR,ew,es];generalize hw:n / 32=w at *;generalize hsh:n%32=s at *;have hs32:s<32:=by omega
  have hp2:2 ^ n=4294967296 ^ w*2 ^ s:=by rw[xw,hw,hsh]
  have hs0:0<2 ^ s:=ak4 s;have hs1:2 ^ s*2 ^ (32 - s)=4294967296:=by rw[<- ak9,show s+(32 - s)=32 by omega]
  have hs2:2 ^ s<=2147483648:=by have:2 ^ s<=2 ^ 31:=ak6 (by decide) (by omega);simpa using this
  have elen:Int.toNat (((w:Nat):Int)+(m.length:Int)+1)=w+m.length+1:=by omega
  rw[aa akN,aa akN,aa akN,aa (bT (by omega) (by omega) (by omega) (by omega)),elen]
  let V:=aE m*2 ^ n
  let X:=aE m*2 ^ s
  have hVX:V=4294967296 ^ w*X:=by simp only[V,X]; rw[hp2,alh]
  let T:=λi=>aE (m.take i)*2 ^ s
  let c:=λi=>T i / 4294967296 ^ i
  refine aF (λi=>((i:Int),dl V (w+i)++((c i:Nat):Int)::List.replicate (m.length - i) 0)) m.length ?_ (by omega) (λi hi K=>?_) (λK=>?_)
  ·congr 1;show List.replicate (w+m.length+1) (0:Int)=dl V w++((c 0:Nat):Int)::List.replicate m.length 0;rw[hVX,wk];have hc0:c 0=0:=by simp[c,T,aE]
   rw[hc0];have:w+m.length+1=w+(m.length+1):=by omega
   rw[this,<- amv,alB]; rfl
  ·have hx:=hm.at (i:=i);have hT:T (i+1)=T i+4294967296 ^ i*((m.getD i 0).toNat*2 ^ s):=by simp only[T,aO,alj,ak1]
   have hq:T (i+1) / 4294967296 ^ i=c i+(m.getD i 0).toNat*2 ^ s:=by rw[hT,dS]
   have hci:c i<2 ^ s:=by simp only[c,T];rw[akZ (aS i),akT];exact al0 (bc hm i) hs0
   have hc1:c (i+1)=(c i+(m.getD i 0).toNat*2 ^ s) / 4294967296:=by rw[<- hq]; simp only[c]; rw[ak2,akY]
   have hdig:V / 4294967296 ^ (w+i)%4294967296=(c i+(m.getD i 0).toNat*2 ^ s)%4294967296:=by rw[<- hq,hVX,ak9,<- akY,alr _ (aS w)];obtain⟨R,hR⟩:=bS m (i+1);refine mQ (R:=R*2 ^ s) ?_;simp only[X,T];rw[hR,alj,ak1]
   have hrep:List.replicate (m.length - i) (0:Int)=0::List.replicate (m.length - (i+1)) 0:=by rw[show m.length - i=(m.length - (i+1))+1 by omega,alB]
   have hdl:=am V (w+i);have ei:Int.toNat ((w:Int)+(i:Int))=w+i:=by omega
   have ei1:Int.toNat ((w:Int)+(i:Int)+1)=w+i+1:=by omega
   have emin:min s 64=s:=by omega
   simp only[eh,akW,ei,ei1,emin];rw[hrep,bP hdl.symm,aY _ _ _ _ _ hdl.symm];have et:IntKind.wrap .u64 (IntKind.wrap .u64 (m.getD i 0)*2 ^ s)=(((m.getD i 0).toNat*2 ^ s:Nat):Int):=by
    have hxs:(m.getD i 0).toNat*2 ^ s<4294967296*2147483648:=alA (by omega) hs2 (by decide);have e1:IntKind.wrap .u64 (m.getD i 0)=(((m.getD i 0).toNat:Nat):Int):=by rw[aq]; omega
    have e2:(((m.getD i 0).toNat:Nat):Int)*2 ^ s=(((m.getD i 0).toNat*2 ^ s:Nat):Int):=by simp
    rw[e1,e2,aq]; omega
   rw[et];generalize hxx:(m.getD i 0).toNat=x at *;have hx32:x<4294967296:=by omega
   have hlow:x*2 ^ s%4294967296=2 ^ s*(x%2 ^ (32 - s)):=by
    have e:x*2 ^ s%(2 ^ s*2 ^ (32 - s))=2 ^ s*(x%2 ^ (32 - s)):=by rw[akT x]; exact amB _ _ _
    rwa [hs1]at e
   have hsum:2 ^ s*(x%2 ^ (32 - s))+c i<4294967296:=by have h1:x%2 ^ (32 - s)+1<=2 ^ (32 - s):=ak5 _ (ak4 _);have h2:=akX (2 ^ s) h1;rw[hs1,ak7]at h2;omega
   have eor:aA .or .u32 ((c i:Nat):Int) (IntKind.wrap .u32 ((x*2 ^ s:Nat):Int))=((V / 4294967296 ^ (w+i)%4294967296:Nat):Int):=by
    have e1:IntKind.wrap .u32 ((x*2 ^ s:Nat):Int)=((2 ^ s*(x%2 ^ (32 - s)):Nat):Int):=by rw[<- hlow,cU]; omega
    rw[e1,rX _ _ s hci hsum,hdig];omega
   have ehi:IntKind.wrap .u32 (Int.fdiv ((x*2 ^ s:Nat):Int) (2 ^ 32))=((c (i+1):Nat):Int):=by have hxs:x*2 ^ s<4294967296*2147483648:=alA hx32 hs2 (by decide);rw[kK,cU,hc1];omega
   rw[eor,ehi];have hl1:∀(a b:Int) (ys:List Int),(dl V (w+i)++a::b::ys).length=w+i+2+ys.length:=by intro a b ys; simp[hdl]; omega
   have hset2:(dl V (w+i)++((V / 4294967296 ^ (w+i)%4294967296:Nat):Int)::0::List.replicate (m.length - (i+1)) 0).set (w+i+1) ((c (i+1):Nat):Int)=dl V (w+(i+1))++((c (i+1):Nat):Int)::List.replicate (m.length - (i+1)) 0:=by
    have:dl V (w+i)++((V / 4294967296 ^ (w+i)%4294967296:Nat):Int)::0::List.replicate (m.length - (i+1)) 0=dl V (w+(i+1))++0::List.replicate (m.length - (i+1)) 0:=by rw[<- aly,dl]; simp
    rw[this];exact aY _ _ _ _ _ (by rw[am]; omega)
   rw[hset2,hl1,hl1];simp only[amb];rw[akP (by omega:(i:Int)<m.length),akS,aa akO,aa (akP (by omega)),aa akN,aa akO,aa (akP (by omega)),aa akO,aa (akP (by omega)),
    aa akN,aa akN,aa akO,aa (akP (by omega)),aa akN]
   rfl
  ·simp only[eh];rw[akQ (by omega:¬(m.length:Int)<m.length),akR,alq,alv];have hV:V<4294967296 ^ (w+m.length+1):=by have h1:=eE hm;simp only[V];rw[hp2,ak2,ak9,alh,ak1];refine al0 ?_ (aS w);exact alA h1 (by omega) (by decide)
   have hT:T m.length=X:=by simp only[T,X]; rw[alz]
   have hend:dl V (w+m.length)++[((c m.length:Nat):Int)]=dl V (w+m.length+1):=by
    rw[dl];have:c m.length=V / 4294967296 ^ (w+m.length)%4294967296:=by simp only[c];rw[hT,hVX,ak9,<- akY,alr _ (aS w)];rw[ak0];rw[akZ (aS _),akT];have h1:=eE hm;simp only[X];exact alA h1 (by omega) (by decide)
    rw[this]
   rw[hend,db _ (jf V _) (by rw[am]; omega) (by rw[am]; omega),qT hV]
def C9 {m:List Int} (hm:InW m) (j:Nat):∃ R,aE m / 4294967296 ^ j=(m.getD j 0).toNat+4294967296*(m.getD (j+1) 0).toNat+4294967296*4294967296*R:=by
 obtain⟨R,hR⟩:=bS m (j+2);refine⟨R,?_⟩;rw[hR,aO,aO];simp only[ak2];have e:aE (m.take j)+4294967296 ^ j*(m.getD j 0).toNat+4294967296 ^ j*4294967296*(m.getD (j+1) 0).toNat+4294967296 ^ j*4294967296*4294967296*R
   = aE (m.take j)+4294967296 ^ j*((m.getD j 0).toNat+4294967296*(m.getD (j+1) 0).toNat+4294967296*4294967296*R):=by
  rw[ak7,ak7,ak1,ak1,ak1,ak1]; omega
 rw[e,dS,alm (bc hm j),alk]
def uW {N:Nat} (n:Nat) (hn:n<18446744073709551616) (hN:4<N) (k:List Int->Bool):DK N n k=k (aj n):=by
 (unfold DK; rw[ae]; unfold Nc)
 have hw:InW [IntKind.wrap .u32 (n:Int),IntKind.wrap .u32 (Int.fdiv (n:Int) (2 ^ 32))]:=by intro x hx;simp only[cU,kK,amd,amT,or_false]at hx;rcases hx with rfl | rfl <;> omega
 have hv:aE [IntKind.wrap .u32 (n:Int),IntKind.wrap .u32 (Int.fdiv (n:Int) (2 ^ 32))]=n:=by simp only[aE,cU,kK]; omega
 rw[db _ hw (by simp; omega) (by simp),hv]
def sg (neg:Bool) (n:Nat):Bool:=neg&&decide (n ≠ 0)
def nQ (n:Nat):decide (((aj n).length:Int)>0)=decide (n ≠ 0):=by
 by_cases h:n=0
 ·subst h; rw[aV]; simp
 ·obtain⟨-,h2⟩:=tv n h;rw[akP (by omega),akP h]
def RW (neg:Bool) (n:Nat) (k:Ky5):cond (neg==true) (k (decide (((aj n).length:Int)>0)) (aj n)) (k false (aj n))=k (sg neg n) (aj n):=by rw[nQ];cases neg <;> rfl
def ol {N:Nat} (neg:Bool) (m:List Int) (b:Bool) (hm:InW m) (hN:fj N m) (k:Ky5):zB N neg m b k=k (sg neg (aE m)) (aj (aE m)):=by unfold zB Rw;rw[JO m hm (by have:=hN.1; omega) (by have:=hN.2; omega)];exact RW neg _ k
def vG {N:Nat} (n:Nat) (hn:n<18446744073709551616) (b:Bool) (hN:fj N (aj n)) (h4:4<N) (k:Ky5):Rf N n b k=k false (aj n):=by
 (unfold Rf; rw[ae]; unfold SK)
 rw[uW n hn h4,ol false _ b (aZ n) hN,aJ];rfl
def aU (g:Bool) (n:Nat):Int:=if g=true then -(n:Int)else n
def vu (z:Int) (k:Ky5):Bool:=k (decide (z<0)) (aj z.natAbs)
def u_ (g:Bool) (n:Nat) (k:Ky5):k (sg g n) (aj n)=vu (aU g n) k:=by
 unfold vu aU sg;cases g
 ·simp only[al5,alo,anr,alN];rw[akQ (by omega)]
 ·simp only[amt,alW,ans,alN];congr 1;by_cases h:n=0
  ·subst h; rfl
  ·rw[akP h,akP (by omega)]
def Ov (z:Int):aU (decide (z<0)) z.natAbs=z:=by
 unfold aU;by_cases h:z<0
 ·rw[akP h]; simp; omega
 ·rw[akQ h]; simp; omega
def uH {x y:Nat}:decide (dw x y>=0)=decide (y<=x):=by
 unfold dw;split
 ·rw[akQ (by omega),akQ (by omega)]
 ·split
  ·rw[akP (by omega),akP (by omega)]
  ·rw[akP (by omega),akP (by omega)]
def MB (g1 g2 turn:Bool) (n1 n2:Nat) (k:Ky5) :
  cond (g1==(g2 != turn)) (k (sg (g2 != turn) (n1+n2)) (aj (n1+n2))) (cond (decide (dw n1 n2>=0)) (k (sg g1 (n1 - n2)) (aj (n1 - n2))) (k (sg (g2 != turn) (n2 - n1)) (aj (n2 - n1))))
   = vu (aU g1 n1+(if turn=true then -(aU g2 n2)else aU g2 n2)) k:=by
 rw[u_ _ _ k,u_ _ _ k,u_ _ _ k,uH];have key:∀ a b:Int,a=b->vu a k=vu b k:=λa b h=>by rw[h]
 cases g1 <;> cases g2 <;> cases turn <;> simp only[aU] <;> by_cases h:n2<=n1 <;> simp only[h,anF,anT,akS,akR,bne,amz,alK,alu,al5,amt,alo,(by decide:(false==true)=false),(by decide:(true==false)=false)] <;> refine key _ _ ?_ <;> omega
def LW {N:Nat} (turn b g1:Bool) (n1:Nat) (g2:Bool) (n2:Nat) (h1:fj N (aj n1)) (h2:fj N (aj n2)) (h3:fj N (aj (n1+n2))) (k:Ky5) :
  VH N turn b g1 (aj n1) g2 (aj n2) k=vu (aU g1 n1+(if turn=true then -(aU g2 n2)else aU g2 n2)) k:=by
 (unfold VH; rw[ae]; unfold S1)
 have hs:∀ m,m<=n1+n2->fj N (aj m):=λm hm=>by have:=bO hm;exact⟨by have:=h3.1; omega,by have:=h3.2; omega⟩
 rw[OP _ _ (aZ _) (aZ _) h1 h2,kn _ _ h1 h2,aJ,aJ,ol _ _ _ (aZ _) h3,aJ,<- MB];congr 1;by_cases h:n2<=n1
 ·rw[yn _ _ (aZ _) (aZ _) (by rw[aJ,aJ]; exact h) h1,aJ,aJ,ol _ _ _ (aZ _) (hs _ (by omega)),aJ,uH,akP h];rfl
 ·rw[yn _ _ (aZ n2) (aZ n1) (by rw[aJ,aJ]; omega) h2,aJ,aJ,ol _ _ _ (aZ _) (hs _ (by omega)),aJ,uH,akQ h];rfl
def Lt {N:Nat} (b g1:Bool) (n1:Nat) (g2:Bool) (n2:Nat) (h1:fj N (aj n1)) (h2:fj N (aj n2)) (h3:fj N (aj (n1+n2))) (k:Ky5) :
  Pi N b g1 (aj n1) g2 (aj n2) k=vu (aU g1 n1 - aU g2 n2) k:=by
 unfold Pi Rt;rw[LW true b g1 n1 g2 n2 h1 h2 h3]; rfl
def WW (N m s:Nat):Prop:=(aj m).length+s / 32+4<N/\(aj m).length<=1099511627776/\s<4294967296/\fj N (aj (m*2 ^ s))
def Di {N:Nat} (s:Nat) (b g:Bool) (n:Nat) (h:WW N n s) (k:Ky5):Kf N s b g (aj n) k=vu (aU g (n*2 ^ s)) k:=by
 (unfold Kf; rw[ae]; unfold MS)
 rw[OL _ (aZ n) s h.2.2.1 h.1 h.2.1,aJ,ol _ _ _ (aZ _) h.2.2.2,aJ,u_ _ _ k]
def Bt {N:Nat} (n:Nat) (hn:n<9223372036854775808) (hs:fj N (aj n)) (h4:4<N) (k:Ky5):nY N n k=k false (aj n):=by
 (unfold nY wW; unfold R5; rw[ae]; unfold MY je)
 have e:IntKind.wrap .u64 (n:Int)=n:=by rw[aq]; omega
 rw[akQ (by omega:¬(n:Int)<0),akR,e,uW n (by omega) h4,ol _ _ _ (aZ _) hs,aJ];rfl
def N5:aj 1=[1]:=by rw[cd (by decide),aV]; rfl
def kY (a b:Nat):Int.fdiv (a:Int) (b:Int)=((a / b:Nat):Int):=by rw[amk _ (by omega)]; rfl
def sb (N:Nat) (k:Kz7):yB N 52 2047 1075 k=k 9223372036854775808:=by rfl
def nG (N:Nat) (k:Kz7):pR N 52 2047 1075 k=k 9218868437227405312:=by rfl
def kV (N:Nat) (k:Kz7):ng N 52 2047 1075 k=k 4503599627370496:=by rfl
def zY (N:Nat) (k:Kz7):yA N 52 2047 1075 k=k 9221120237041090561:=by
 (unfold yA; rw[ae]; unfold xR)
 simp only[nG,kV];exact an2 k (by decide)
def QE (N:Nat) (b:Nat) (k:Kz6):Pj N b 52 2047 1075 k=k (isNaN b):=by
 (unfold Pj; rw[ae]; unfold MT)
 simp only[sb,nG,pX];congr 1;rw[amm,amf,eW];omega
def cnb (b:Nat):Nat:=if isNaN b then 9221120237041090561 else b
def Dm (N:Nat) (b:Nat) (k:Kz7):PE N b 52 2047 1075 k=k (cnb b):=by unfold PE Wc;simp only[QE,zY,cnb];cases isNaN b <;> rfl
def Dr (N:Nat) (b:Nat) (k:Ky0):Rd N b 52 2047 1075 k=k (aA .and .u64 (cnb b) 9223372036854775808 != 0) ((cnb b / 4503599627370496%2048:Nat):Int) ((cnb b%4503599627370496:Nat):Int):=by
 (unfold Rd; rw[ae]; unfold SI)
 simp only[Dm,sb,kV];have e1:(2:Int) ^ (min (Int.toNat 52) 64)=((4503599627370496:Nat):Int):=by decide
 have e2:IntKind.wrap .u64 2047=((2 ^ 11 - 1:Nat):Int):=by decide
 have e3:IntKind.wrap .u64 (4503599627370496 - 1)=((2 ^ 52 - 1:Nat):Int):=by decide
 have e4:decide ((0:Int)<=52)=true:=by decide
 rw[e1,kY,e2,e3,kI _ _ (by decide),kI _ _ (by decide),e4,ab (by omega) (by omega)];rfl
def D8 (b:Nat):cls b=if (cnb b / 4503599627370496%2048)=2047 then(if cnb b%4503599627370496=0 then 2 else 1)else if cnb b / 4503599627370496%2048=0 then(if cnb b%4503599627370496=0 then 3 else 4)else 5:=by
 unfold cls cnb;by_cases h:isNaN b=true
 ·rw[if_pos h,if_pos h]; decide
 ·rw[if_neg h,if_neg h];have hn:¬(9218868437227405312<b%9223372036854775808):=λq=>h ((eW b).2 q)
  by_cases h1:b / 4503599627370496%2048=2047
  ·rw[if_pos h1,if_pos h1,if_pos (by omega)]
  ·rw[if_neg h1,if_neg h1]
def Dn (N:Nat) (b:Nat) (k:Kz7):Rb N b 52 2047 1075 k=k (cls b):=by
 (unfold Rb; rw[ae]; unfold SH)
 simp only[Dr,D8 b];generalize cnb b / 4503599627370496%2048=e;generalize cnb b%4503599627370496=f;have d1:((e:Int)==2047)=decide (e=2047):=by rw[amm,amP,amf]; omega
 have d2:((e:Int)==0)=decide (e=0):=by rw[amm,amP,amf]; omega
 have d3:((f:Int)==0)=decide (f=0):=by rw[amm,amP,amf]; omega
 simp only[bne,d1,d2,d3];by_cases h1:e=2047 <;> by_cases h2:e=0 <;> by_cases h3:f=0 <;> simp[h1,h2,h3]
def Lk (N:Nat) (b:Nat) (k:Kz7):sQ5 N b k=k (cls b):=by unfold sQ5 GQ5;simp only[EQ,vb,DV,Dn]
def NW (a b:Nat) (_ha:a<18446744073709551616\/True):decide ((cnb a:Int)=cnb b)=decide (cn (some a)=cn (some b)):=by
 have hq:isNaN 9221120237041090561=true:=by decide
 rw[amm,amf,amf];have cf:∀ c,cn (some c)=if isNaN c=true then none else some c:=λ_=>rfl
 rw[cf,cf];unfold cnb;by_cases h1:isNaN a=true <;> by_cases h2:isNaN b=true
 ·simp[h1,h2]
 ·rw[if_pos h1,if_neg h2,if_pos h1,if_neg h2];refine⟨λh=>?_,λh=>by cases h⟩;have:b=9221120237041090561:=by omega
  rw[this]at h2; exact absurd hq h2
 ·rw[if_neg h1,if_pos h2,if_neg h1,if_pos h2];refine⟨λh=>?_,λh=>by cases h⟩;have:a=9221120237041090561:=by omega
  rw[this]at h1; exact absurd hq h1
 ·simp only[h1,h2,alo,alg,al5]; omega
def Qz (N:Nat) (b:Nat) (k:Kz9):I8 N b k=k (Cv (some b)):=by unfold I8 Wb;simp only[EQ,xz,pX];rfl
def NY (b:Bool) (k:Kz6):cond b (k true) (k false)=k b:=by cases b <;> rfl
def gS {a c:Bool} (h:a=true):(a&&c)=c:=by rw[h]; rfl
def cM (N n:Nat):Prop:=n<N/\n<=17592186044416
def CF (l:List Int):List Fl:=l.map λn=>js n.toNat
def Gi {N:Nat} (l:List Int) (hl:cM N l.length) (k:List Fl->Bool):rD N l k=k (CF l):=by
 (unfold rD; rw[ae]; unfold vS)
 refine(aC (λi=>((i:Int),(l.take i).map λn=>js n.toNat)) l.length hl.1 (λi hi K=>?_) (λK=>?_):_)
 ·have h2:=hl.2;have e1:(l.take (i+1)).map (λn=>js n.toNat)=(l.take i).map (λn=>js n.toNat)++[js (l.getD i 0).toNat]:=by rw[al9 hi,amH,List.getD_eq_getElem?_getD,List.getElem?_eq_getElem hi]; rfl
  simp only[mO,xz,akW];rw[tu (by omega),akS,gS akO,gS (tu (by simp; omega)),gS akN,e1];rfl
 ·simp only[mO];rw[uJ (by omega),akR,alz]; rfl
def bg (xs:List Fl):Bool:=w7 (λi=>bA (xs.getD i none)) xs.length
def q9 {N:Nat} (xs:List Fl) (hl:cM N xs.length) (k:Kz6):yu N xs k=k (bg xs):=by
 (unfold yu; rw[ae]; unfold SO)
 rw[<- NY (bg xs) k];refine(og (λi=>(i:Int)) (λi=>bA (xs.getD i none)) xs.length hl.1 (λi hi K=>?_) (λK=>?_):_)
 ·have h2:=hl.2;simp only[lm,PD,akW];rw[tu (by omega),akS,gS akO,gS akN];have hc:=FB (xs.getD i none);generalize AN (xs.getD i none)=c at hc ⊢;generalize bA (xs.getD i none)=f at hc ⊢;have d1:(c==1)=decide (c=1):=rfl;have d2:(c==2)=decide (c=2):=rfl;rw[d1,d2];generalize decide (c=1)=u at *;generalize decide (c=2)=v at *;cases u <;> cases v <;> cases f <;> first | rfl | cases hc
 ·simp only[lm];rw[uJ (by omega),akR]
def nx:Fl->Nat
 | none=>9221120237041090561
 | some b=>cnb b
def I0 (d:Ieee.Datum) (h:d.isNaN=false):d.order d=some .eq:=by
 cases d with
 | nan s t=>cases h
 | infinity s=>simp[Ieee.Datum.order,compare,compareOfLessAndEq]
 | number s m i=>simp[Ieee.Datum.order,compare,compareOfLessAndEq]
def K6 (b:Nat) (h:isNaN b=false):(Ieee.double.order b b==some .eq)=true:=by unfold Ieee.Format.order;rw[I0 _ h]; rfl
def Of (b:Nat):feq (some b) (some b) = !isNaN b:=by
 cases h:isNaN b with
 | true=>simp[feq,wn,oP b h]
 | false=>simp only[feq,wn,alu]; exact K6 b h
def Gf (N:Nat) (x:Fl) (k:Kz7):oU N x k=k (nx x):=by
 unfold oU Av tY;cases x with
 | none=>rfl
 | some b=>
  rw[Of];simp only[nx,cnb];cases isNaN b <;> rfl
def GN (a b:Nat):Int.tmod (a:Int) (b:Int)=((a%b:Nat):Int):=by rw[alL (by omega)]; rfl
def Dk (N:Nat) (x:Fl) (k:Ky0):pH N x k=k (Int.fdiv (nx x:Int) (2 ^ 63)==1) ((nx x / 4503599627370496%2048:Nat):Int) ((nx x%4503599627370496:Nat):Int):=by
 (unfold pH; rw[ae]; unfold sP)
 simp only[Gf];have e1:(2:Int) ^ 52=((4503599627370496:Nat):Int):=by decide
 have e2:(2048:Int)=((2048:Nat):Int):=rfl;have e3:(4503599627370496:Int)=((4503599627370496:Nat):Int):=rfl;rw[e1,e2,e3,kY,GN,GN,ab (by omega) (by omega)];rfl
def KZ (x:Fl):AN x=if (nx x / 4503599627370496%2048)=2047 then(if nx x%4503599627370496=0 then 2 else 1)else if nx x / 4503599627370496%2048=0 then(if nx x%4503599627370496=0 then 3 else 4)else 5:=by
 cases x with
 | none=>decide
 | some b=>exact D8 b
def CD (N:Nat) (x:Fl) (k:Kz7):ue N x k=k (AN x):=by
 (unfold ue yM; unfold Sa; rw[ae]; unfold Nr)
 simp only[Dk,KZ x];generalize nx x / 4503599627370496%2048=e;generalize nx x%4503599627370496=f;have d1:((e:Int)==2047)=decide (e=2047):=by rw[amm,amP,amf]; omega
 have d2:((e:Int)==0)=decide (e=0):=by rw[amm,amP,amf]; omega
 have d3:((f:Int)==0)=decide (f=0):=by rw[amm,amP,amf]; omega
 simp only[bne,d1,d2,d3];by_cases h1:e=2047 <;> by_cases h2:e=0 <;> by_cases h3:f=0 <;> simp[h1,h2,h3]
def tI (N:Nat) (x:Fl) (k:Kz6):nZ N x k=k (bA x):=by
 unfold nZ wX;simp only[CD];congr 1;have h1:=FB x;have h2:=Qb x;rw[amm,amf];cases hf:bA x with
 | true=>
  rw[hf]at h1;simp only[alK,Bool.or_eq_false_iff,ani]at h1;exact⟨λ_=>rfl,λ_=>by omega⟩
 | false=>
  rw[hf]at h1;simp only[alu,an_,ano]at h1;exact⟨λ_=>by omega,λh=>by cases h⟩
def mG {N:Nat} (xs:List Fl) (hl:cM N xs.length) (k:Kz6):G8 N xs k=k (bg xs):=by
 (unfold G8; rw[ae]; unfold SB)
 rw[<- NY (bg xs) k];refine(og (λi=>(i:Int)) (λi=>bA (xs.getD i none)) xs.length hl.1 (λi hi K=>?_) (λK=>?_):_)
 ·have h2:=hl.2;simp only[fI,akW,tI];rw[tu (by omega),akS,gS akO,gS akN];cases bA (xs.getD i none) <;> rfl
 ·simp only[fI];rw[uJ (by omega),akR]
def NL (x y:Fl):((nx x:Int)==nx y)=decide (cn x=cn y):=by
 have hq:cn (some 9221120237041090561)=none:=by decide
 have hb:cnb 9221120237041090561=9221120237041090561:=by decide
 have key:∀ x,∃ a,nx x=cnb a/\cn x=cn (some a):=by
  intro x;cases x with
  | none=>exact⟨9221120237041090561,hb.symm,hq.symm⟩
  | some b=>exact⟨b,rfl,rfl⟩
 obtain⟨a,e1,e2⟩:=key x;obtain⟨b,e3,e4⟩:=key y;rw[e1,e2,e3,e4,<- NW a b (.inr trivial)];rfl
def Ey (N:Nat) (x y:Fl) (k:Kz6):wL N x y k=k (decide (cn x=cn y)):=by
 (unfold wL; rw[ae]; unfold vT)
 simp only[Gf,NL]
def mm {n i j:Nat} (hi:i<n) (hj:j<n):i*n+j<n*n:=by have:(i+1)*n<=n*n:=akU n hi;rw[alj]at this; omega
def tO {n:Nat} (h:n<=12):n*n<=144:=alJ h h
def OW (N:Nat) (n:Int) (k:Kz6):G_ N n k=k (decide (0<=n/\n<=12)):=by
 unfold G_ SX;by_cases h1:0<=n
 ·rw[tu (p:=n>=0) h1]; simp[h1]
 ·rw[uJ (p:=n>=0) h1]; simp[h1]
def chk (r c:Int) (xs:List Fl):Int:=if (0<=r/\r<=12)/\(0<=c/\c<=12)then(if (xs.length:Int)=r*c then(if bg xs=true then 0 else 4)else 3)else 1
def QX {r c:Int} (hr:0<=r/\r<=12) (hc:0<=c/\c<=12):ac .i64 (r*c)=true:=by have h1:0<=r*c:=Int.mul_nonneg hr.1 hc.1;have h2:r*c<=12*12:=Int.mul_le_mul hr.2 hc.2 hc.1 (by decide);exact ab (by omega) (by omega)
def pZ {r c:Int} {xs:List Fl}:chk r c xs=0↔((0<=r/\r<=12)/\(0<=c/\c<=12))/\(xs.length:Int)=r*c/\bg xs=true:=by
 unfold chk;split
 ·split
  ·split
   ·simp[*]
   ·simp[*]
  ·simp[*]
 ·simp[*]
def elt (xs:List Fl) (n i j:Nat):Fl:=xs.getD (i*n+j) none
def J2 (V x Bk bk i k:Nat):V%4294967296 ^ (i+k+1)+x*(Bk+4294967296 ^ k*bk)*4294967296 ^ i=(V%4294967296 ^ (i+k)+x*Bk*4294967296 ^ i)+4294967296 ^ (i+k)*(V / 4294967296 ^ (i+k)%4294967296+x*bk):=by rw[Nat.mod_pow_succ,ak9];grind
def HV (V x Bk bk i k:Nat):(V%4294967296 ^ (i+k+1)+x*(Bk+4294967296 ^ k*bk)*4294967296 ^ i) / 4294967296 ^ (i+k+1)=((V%4294967296 ^ (i+k)+x*Bk*4294967296 ^ i) / 4294967296 ^ (i+k)+V / 4294967296 ^ (i+k)%4294967296+x*bk) / 4294967296:=by rw[J2,ak2,<- akY,alO _ _ (alZ (by decide)),aly]
def Fx (V x Bk bk i k R:Nat):(V+x*(Bk+4294967296 ^ k*bk+4294967296 ^ (k+1)*R)*4294967296 ^ i) / 4294967296 ^ (i+k)%4294967296=((V%4294967296 ^ (i+k)+x*Bk*4294967296 ^ i) / 4294967296 ^ (i+k)+V / 4294967296 ^ (i+k)%4294967296+x*bk)%4294967296:=by
 have e:V+x*(Bk+4294967296 ^ k*bk+4294967296 ^ (k+1)*R)*4294967296 ^ i=(V%4294967296 ^ (i+k+1)+x*(Bk+4294967296 ^ k*bk)*4294967296 ^ i)+4294967296 ^ (i+k+1)*(V / 4294967296 ^ (i+k+1)+x*R):=by
  have h:=alM V (4294967296 ^ (i+k+1));have h2:4294967296 ^ (i+k+1)=4294967296 ^ (k+1)*4294967296 ^ i:=by rw[<- ak9]; congr 1; omega
  generalize V / 4294967296 ^ (i+k+1)=q at *;generalize V%4294967296 ^ (i+k+1)=r at *;rw[<- h,h2];grind
 rw[mQ e,J2,alO _ _ (alZ (by decide)),aly]
def NR {V x Bk i k:Nat} (hx:x<4294967296) (hB:Bk<4294967296 ^ k):(V%4294967296 ^ (i+k)+x*Bk*4294967296 ^ i) / 4294967296 ^ (i+k)<4294967296:=by
 rw[akZ (alZ (by decide))];have h1:V%4294967296 ^ (i+k)<4294967296 ^ (i+k):=ak5 _ (alZ (by decide));have h2:x*Bk<=4294967295*4294967296 ^ k:=alJ (by omega) (by omega);have h3:x*Bk*4294967296 ^ i<=4294967295*4294967296 ^ (i+k):=by
  have:=akU (4294967296 ^ i) h2
  rwa [ak1 4294967295,<- ak9,amK k i]at this
 omega
def uL (S:Nat) {L i:Nat} (h:i<L):(dl S L).getD i 0=((S / 4294967296 ^ i%4294967296:Nat):Int):=by
 induction L with
 | zero=>omega
 | succ L ih=>
  show((dl S L)++[_]).getD i 0=_;rw[List.getD_eq_getElem?_getD];by_cases hi:i<L
  ·rw[List.getElem?_append_left (by rw[am]; exact hi),<- List.getD_eq_getElem?_getD,ih hi]
  ·have:i=L:=by omega
   subst this;rw[List.getElem?_append_right (by rw[am]; exact ak3 _),am,alq]; rfl
def cN {l:List Int} {n:Nat} (h:n<l.length):l.drop n=l.getD n 0::l.drop (n+1):=by rw[List.drop_eq_getElem_cons h,List.getD_eq_getElem?_getD,List.getElem?_eq_getElem h]; rfl
def si {b:List Int} {k:Nat}:aE (b.take (k+1))=aE (b.take k)+4294967296 ^ k*(b.getD k 0).toNat:=aO k
def AY (U V L p:Nat) (h:p<L):(dl U p++(dl V L).drop p).set p ((U / 4294967296 ^ p%4294967296:Nat):Int)=dl U (p+1)++(dl V L).drop (p+1):=by rw[cN (by rw[am]; exact h),aY _ _ _ _ _ (by rw[am])];show _=(dl U p++[_])++_;rw[ak8]; rfl
def H5 (U V L p:Nat) (h:p<L):(dl U p++(dl V L).drop p).getD p 0=((V / 4294967296 ^ p%4294967296:Nat):Int):=by rw[cN (by rw[am]; exact h),bP (by rw[am]),uL V h]
def AX (U V L p:Nat) (h:p<=L):(dl U p++(dl V L).drop p).length=L:=by simp[am]; omega
def K3 {U L p:Nat} (hU:U<4294967296 ^ p) (h:p<=L) {V:Nat} (hV:V<4294967296 ^ p):dl U p++(dl V L).drop p=dl U L:=by
 induction L with
 | zero=>
  have:p=0:=by omega
  subst this; rfl
 | succ L ih=>
  by_cases hp:p=L+1
  ·subst hp; rw[alC (by rw[am]; omega),alp]
  ·have hpL:p<=L:=by omega
   have e:∀ X,X<4294967296 ^ p->dl X (L+1)=dl X L++[0]:=by intro X hX;show dl X L++[((X / 4294967296 ^ L%4294967296:Nat):Int)]=_;rw[alm (ak_ hX (ak6 (by decide) hpL))]; rfl
   rw[e V hV,e U hU,alS (by rw[am]; exact hpL),<- ak8,ih hpL]
def wC {a:List Int} (ha:InW a) (i:Nat):aE (a.take i)<4294967296 ^ i:=bc ha i
def wB {x y i j:Nat} (hx:x<4294967296 ^ i) (hy:y<4294967296 ^ j):x*y<4294967296 ^ (i+j):=by rw[ak9];exact an7 hx hy
def yq {N:Nat} (a b:List Int) (ha:InW a) (hb:InW b) (hN:a.length+b.length+2<N) (hs:a.length+b.length<=17592186044416) (k:List Int->Bool):Aa N a b k=k (aj (aE a*aE b)):=by
  (unfold Aa; rw[ae]; unfold S3)
  have eL:Int.toNat (((a.length:Nat):Int)+((b.length:Nat):Int))=a.length+b.length:=by omega
  rw[aa akN,aa (bT (by omega) (by omega) (by omega) (by omega)),eL]
  let L:=a.length+b.length
  let B:=aE b
  have hB:B<4294967296 ^ b.length:=eE hb;refine aF (λi=>((i:Int),dl (aE (a.take i)*B) L)) a.length ?_ (by omega) (λi hi K=>?_) (λK=>?_)
  · show((0:Int),List.replicate L (0:Int))=(((0:Nat):Int),dl (aE (a.take 0)*B) L)
    have:=wk L 0;rw[amc]at this;rw[am8,show aE []=0 from rfl,amg,this]; rfl
  · simp only[lI]
    rw[akP (by omega:(i:Int)<a.length),akS];have hx:=ha.at (i:=i)
    let V:=aE (a.take i)*B
    let x:=(a.getD i 0).toNat
    let U:=aE (a.take (i+1))*B
    have hU:U=V+x*B*4294967296 ^ i:=by simp only[U,V,x];rw[si];grind
    have hV:V<4294967296 ^ (i+b.length):=wB (wC ha i) hB;have hUl:U<4294967296 ^ (i+1+b.length):=wB (wC ha (i+1)) hB
    let c:=λj=>(V%4294967296 ^ (i+j)+x*aE (b.take j)*4294967296 ^ i) / 4294967296 ^ (i+j)
    refine aF (λj=>(((c j:Nat):Int),(j:Int),dl U (i+j)++(dl V L).drop (i+j))) b.length ?_ (by omega) (λj hj K'=>?_) (λK'=>?_)
    · show((0:Int),(0:Int),dl V L)=_
      have h0:c 0=0:=by simp only[c,am8,show aE []=0 from rfl,amc,amg,aln];exact alm (ak5 _ (alZ (by decide)))
      have hlow:dl U i=dl V i:=by
        have:∀ n,n<=i->dl U n=dl V n:=by
          intro n;induction n with
          | zero=>intro _; rfl
          | succ n ih=>
            intro hn;show dl U n++[_]=dl V n++[_];rw[ih (by omega)];congr 3;have:U=V+4294967296 ^ (n+1)*(x*B*4294967296 ^ (i - (n+1))):=by rw[hU,alh,<- ak9,show n+1+(i - (n+1))=i by omega]
            exact mQ this
        exact this i (ak3 _)
      have hsp:dl V i++(dl V L).drop i=dl V L:=by
        have:∀ n,i<=n->dl V i++(dl V n).drop i=dl V n:=by
          intro n;induction n with
          | zero=>intro h; have:i=0:=(by omega); subst this; rfl
          | succ n ih=>
            intro h;by_cases hn:i=n+1
            · subst hn; rw[alC (by rw[am]; omega),alp]
            · show dl V i++(dl V n++[_]).drop i=dl V n++[_]
              rw[alS (by rw[am]; omega),<- ak8,ih (by omega)]
        exact this L (by simp only[L]; omega)
      rw[h0,aln,hlow,hsp]; rfl
    · have hy:=hb.at (i:=j)
      have hp:i+j<L:=by simp only[L]; omega
      have hlen:=AX U V L (i+j) (by omega);have hget:=H5 U V L (i+j) hp;have hset:=AY U V L (i+j) hp;have hc:=NR (V:=V) (x:=x) (i:=i) (k:=j) (Bk:=aE (b.take j)) (by simp only[x]; omega) (wC hb j);have hstep:=HV V x (aE (b.take j)) (b.getD j 0).toNat i j;obtain⟨R,hR⟩:=bS b (j+1);have hdig:=Fx V x (aE (b.take j)) (b.getD j 0).toNat i j R;rw[<- si]at hstep hdig;rw[<- hR]at hdig;have hUe:V+x*aE b*4294967296 ^ i=U:=hU.symm;rw[hUe]at hdig;have hxy:x*(b.getD j 0).toNat<=4294967295*4294967295:=alJ (by simp only[x]; omega) (by omega);have eidx:Int.toNat ((i:Int)+(j:Int))=i+j:=by omega
      have hcj:∀ n,c n=(V%4294967296 ^ (i+n)+x*aE (b.take n)*4294967296 ^ i) / 4294967296 ^ (i+n):=λ_=>rfl
      have hax:a.getD i 0=(x:Int):=by simp only[x]; omega
      have hby:b.getD j 0=((b.getD j 0).toNat:Int):=by omega
      simp only[lJ,akW,eidx,hlen,hget];rw[akP (by omega:(j:Int)<b.length),akS,aa akO,aa akO,aa akN,aa akO,aa (akP (by omega)),aa akN,aa akO,aa (akP (by omega)),aa akN];have ec1:c (j+1)=(c j+V / 4294967296 ^ (i+j)%4294967296+x*(b.getD j 0).toNat) / 4294967296:=hstep;have ed:U / 4294967296 ^ (i+j)%4294967296=(c j+V / 4294967296 ^ (i+j)%4294967296+x*(b.getD j 0).toNat)%4294967296:=hdig;have hcl:c j<4294967296:=hc;rw[ed]at hset;have vlt:V / 4294967296 ^ (i+j)%4294967296<4294967296:=ak5 _ (by decide);rw[hax,hby,show i+(j+1)=i+j+1 by omega,<- hset];generalize V / 4294967296 ^ (i+j)%4294967296=v at *;generalize (b.getD j 0).toNat=y at *;generalize dl U (i+j)++(dl V L).drop (i+j)=l at *;have et:∀ q:Nat,q=c j+v+x*y->IntKind.wrap .u64 ((IntKind.wrap .u64 ((IntKind.wrap .u64 ((IntKind.wrap .u64 (x:Int))*(IntKind.wrap .u64 (y:Int))))+(IntKind.wrap .u64 (v:Int))))+((c j:Nat):Int))=(q:Int):=by
        intro q hq;have exy:((x:Int))*(y:Int)=((x*y:Nat):Int):=by rw[alb]
        have hxl:x<4294967296:=by simp only[x]; omega
        have hyl:y<4294967296:=by omega
        have w1:IntKind.wrap .u64 (x:Int)=x:=by rw[aq]; omega
        have w2:IntKind.wrap .u64 (y:Int)=y:=by rw[aq]; omega
        rw[w1,w2,exy,aq,aq,aq,aq];omega
      rw[et _ rfl,ec1,kK,cU];congr 1
    · simp only[lJ]
      rw[akQ (by omega:¬(b.length:Int)<b.length),akR];have hlen:=AX U V L (i+b.length) (by simp only[L]; omega);have hset:=AY U V L (i+b.length) (by simp only[L]; omega);have eidx:Int.toNat ((i:Int)+(b.length:Int))=i+b.length:=by omega
      have hLe:i+b.length<L:=by simp only[L]; omega
      have hc:c b.length=U / 4294967296 ^ (i+b.length):=by simp only[c];rw[alz,ak0 hV,hU]
      have hcl:U / 4294967296 ^ (i+b.length)<4294967296:=by
        rw[akZ (alZ (by decide))];have:i+1+b.length=i+b.length+1:=by omega
        rw[this,ak2]at hUl;omega
      have ew:IntKind.wrap .u32 ((c b.length:Nat):Int)=((U / 4294967296 ^ (i+b.length)%4294967296:Nat):Int):=by rw[cU,hc]; omega
      have hfin:=K3 (U:=U) (V:=V) (L:=L) (p:=i+b.length+1) (by rw[show i+b.length+1=i+1+b.length by omega]; exact hUl) (by omega) (ak_ hV (ak6 (by decide) (by omega)));rw[aa akN,eidx,hlen,aa akO,aa (akP (by omega)),aa akN,ew,hset,hfin];rfl
  · simp only[lI]
    rw[akQ (by omega:¬(a.length:Int)<a.length),akR,alz,db _ (jf _ _) (by rw[am]; simp only[L]; omega) (by rw[am]; simp only[L]; omega)];rw[qT (wB (eE ha) hB)]
def Bj (g h:Bool) (m n:Nat):aU (g != h) (m*n)=aU g m*aU h n:=by unfold aU;rw[alb];cases g <;> cases h <;> simp[an3,anN]
def FK (n:Nat):bE (aj n) (aj n).length=(aj n).length:=by
 have ht:(aj n).take (bE (aj n) (aj n).length)=aj n:=by rw[uw (aZ n),aJ]
 have hc:=kg (aj n) (aj n).length;have:=an2 List.length ht;rw[alx]at this; omega
def QP (g:Bool) (n:Nat) (k:Ky5):cond ((!g)==true) (k (decide (((aj n).length:Int)>0)) (aj n)) (k false (aj n))=vu (-(aU g n)) k:=by rw[RW,u_ _ _ k];congr 1;unfold aU; cases g <;> simp
def Dj {N:Nat} (g:Bool) (n:Nat) (hN:fj N (aj n)) (k:Ky5):Ps N g (aj n) k=vu (-(aU g n)) k:=by
 (unfold Ps; rw[ae]; unfold Na un sW)
 obtain⟨h1,h2⟩:=hN;rw[alF,akP (by omega),alW,mo _ (by omega) (by omega),FK];simp only[amn,alz];rw[akP (by omega:0+(aj n).length<=(aj n).length),alW];exact QP g n k
def aR (B:Nat) (n:Nat):Prop:=n<2 ^ B
def cl:∀(j n:Nat),n<4294967296 ^ j->(aj n).length<=j
 | 0,n,h=>by
  have:n=0:=by simp at h; exact h
  subst this; rw[aV]; exact ak3 _
 | j+1,n,h=>by
  by_cases h0:n=0
  ·subst h0; rw[aV]; simp
  ·rw[cd h0,als];have:n / 4294967296<4294967296 ^ j:=amM (by rw[ak2]at h; omega);have:=cl j _ this;omega
def WH (j:Nat):4294967296 ^ j=2 ^ (32*j):=by rw[anM]
def AJ {B n:Nat} (h:aR B n):(aj n).length<=B / 32+1:=by refine cl _ _ ?_;rw[WH];exact ak_ h (ak6 (by decide) (by omega))
def HN {N B n:Nat} (hN:1000<=N) (hB:B<=31000) (h:aR B n):fj N (aj n):=by have:=AJ h;exact⟨by omega,by omega⟩
def bB {A B n:Nat} (h:aR A n) (hAB:A<=B):aR B n:=ak_ h (ak6 (by decide) hAB)
def du {A B m n:Nat} (h:aR A m) (g:aR B n):aR (A+B) (m*n):=by unfold aR; rw[ak9]; exact an7 h g
def we {A m:Nat} (h:aR A m) (s:Nat):aR (A+s) (m*2 ^ s):=by unfold aR; rw[ak9]; exact alG h (ak4 s)
def w9 {A m n:Nat} (h:aR A m) (g:aR A n):aR (A+1) (m+n):=by unfold aR at *; rw[ak2]; omega
def mF {A m n:Nat} (h:aR A m) (g:n<=m):aR A n:=amp g h
def C2 {N B n s:Nat} (hN:1000<=N) (hB:B+s<=31000) (h:aR B n):WW N n s:=by have h1:=AJ h;exact⟨by omega,by omega,by omega,HN hN hB (we h s)⟩
def exK (z:Int × Int) (k:Int->Bool->List Int->Bool):Bool:=k z.1 (decide (z.2<0)) (aj z.2.natAbs)
def zg (x y:Int × Int):Int × Int:=(x.1+y.1,x.2*y.2)
def RK (x:Int × Int):Int × Int:=(x.1,-x.2)
def tB (x:Int × Int) (e:Int):Int:=x.2*2 ^ (x.1 - e).toNat
def JH (x y:Int × Int):Int × Int:=if x.2=0 then y else if y.2=0 then x else(min x.1 y.1,tB x (min x.1 y.1)+tB y (min x.1 y.1))
def Ex (E B:Nat) (x:Int × Int):Prop:=-(E:Int)<=x.1/\x.1<=E/\aR B x.2.natAbs
def xG (z:Int):Int:=if z=0 then 0 else if z<0 then -1 else 1
def au:List Int->Nat
 | []=>0
 | x::r=>x.toNat+18446744073709551616*au r
def InWq (m:List Int):Prop:=∀ x ∈ m,0<=x/\x<18446744073709551616
def ah (n:Nat):List Int:=if h:n=0 then[]else((n%18446744073709551616:Nat):Int)::ah (n / 18446744073709551616)
termination_by n
decreasing_by omega
def ba:ah 0=[]:=by rw[ah]; simp
def bH {n:Nat} (h:n ≠ 0):ah n=((n%18446744073709551616:Nat):Int)::ah (n / 18446744073709551616):=by rw[ah]; simp[h]
def aT:∀ n,InWq (ah n):=by
 intro n;induction n using Nat.strongRecOn with
 | ind n ih=>
  by_cases h:n=0
  ·subst h; rw[ba]; intro x hx; cases hx
  ·rw[bH h];intro x hx;rcases List.mem_cons.1 hx with rfl | hx
   ·omega
   ·exact ih (n / 18446744073709551616) (by omega) x hx
def aD:∀ n,au (ah n)=n:=by
 intro n;induction n using Nat.strongRecOn with
 | ind n ih=>
  by_cases h:n=0
  ·subst h; rw[ba]; rfl
  ·rw[bH h,au,ih (n / 18446744073709551616) (by omega),akW];omega
def nS (a b:List Int):au (a++b)=au a+18446744073709551616 ^ a.length*au b:=by
 induction a with
 | nil=>simp[au]
 | cons x r ih=>
  rw[amA,au,ih,au,als,ak2,ak7,akT (18446744073709551616 ^ r.length) 18446744073709551616,ak1];omega
def InWq.take {m:List Int} (h:InWq m) (n:Nat):InWq (m.take n):=λx hx=>h x (anD hx)
def InWq.drop {m:List Int} (h:InWq m) (n:Nat):InWq (m.drop n):=λx hx=>h x (anC hx)
def InWq.cons {x:Int} {m:List Int} (h:InWq (x::m)):(0<=x/\x<18446744073709551616)/\InWq m:=⟨h x (by simp),λy hy=>h y (by simp[hy])⟩
def InWq.at {m:List Int} (h:InWq m) {i:Nat}:0<=m.getD i 0/\m.getD i 0<18446744073709551616:=by
 rw[List.getD_eq_getElem?_getD];by_cases hi:i<m.length
 ·rw[List.getElem?_eq_getElem hi]; exact h _ (al1 hi)
 ·rw[List.getElem?_eq_none (by omega)]; exact⟨by decide,by decide⟩
def iw:∀{m:List Int},InWq m->au m<18446744073709551616 ^ m.length
 | [],_=>by simp[au]
 | x::r,h=>by have ih:=iw h.cons.2;have hx:=h.cons.1;rw[au,als,ak2];have:au r+1<=18446744073709551616 ^ r.length:=ih;have:=akU 18446744073709551616 this;omega
def AU:∀{m:List Int},InWq m->(∀ x,m.getLast? = some x->x ≠ 0)->ah (au m)=m
 | [],_,_=>ba
 | [x],h,hl=>by
  have hx:=h.cons.1;have h0:x ≠ 0:=hl x rfl;have e:au [x]=x.toNat:=by simp[au]
  rw[e,bH (by omega),alm (by omega),ba,ak0 (by omega),anb hx.1]
 | x::y::r,h,hl=>by
  have hx:=h.cons.1;have ih:=AU h.cons.2 (λz hz=>hl z (by rw[List.getLast?_cons_cons]; exact hz));have hne:au (y::r) ≠ 0:=by intro h0;rw[h0,ba]at ih; cases ih
  have e1:au (x::y::r)=x.toNat+18446744073709551616*au (y::r):=rfl;rw[e1,bH (by omega)];have e2:(x.toNat+18446744073709551616*au (y::r))%18446744073709551616=x.toNat:=by omega
  have e3:(x.toNat+18446744073709551616*au (y::r)) / 18446744073709551616=au (y::r):=by omega
  rw[e2,e3,ih,anb hx.1]
def z8 {m:List Int} {i:Nat} (hi:i<m.length):au (m.take (i+1))=au (m.take i)+18446744073709551616 ^ i*(m.getD i 0).toNat:=by rw[al9 hi,nS,alx,amh (by omega),List.getD_eq_getElem?_getD,List.getElem?_eq_getElem hi];simp[au]
def z7 (n:Nat):au (List.replicate n 0)=0:=by
 induction n with
 | zero=>rfl
 | succ n ih=>rw[alB,au,ih]; rfl
def dlq (S:Nat):Nat->List Int
 | 0=>[]
 | n+1=>dlq S n++[((S / 18446744073709551616 ^ n%18446744073709551616:Nat):Int)]
def al (S:Nat):∀ n,(dlq S n).length=n
 | 0=>rfl
 | n+1=>by simp[dlq,al S n]
def gq (S:Nat):∀ n,InWq (dlq S n)
 | 0=>λx hx=>by cases hx
 | n+1=>λx hx=>by
  rcases List.mem_append.1 hx with h | h
  ·exact gq S n x h
  ·simp only[anU]at h;subst h;omega
def qn (S:Nat):∀ n,au (dlq S n)=S%18446744073709551616 ^ n
 | 0=>by simp[dlq,au,anJ]
 | n+1=>by rw[dlq,nS,al,qn S n,ak2,anK];simp only[au,akW,amc,aln]
def uM (S n m:Nat) (h:n<m):(dlq S n++List.replicate (m - n) 0).set n ((S / 18446744073709551616 ^ n%18446744073709551616:Nat):Int)=dlq S (n+1)++List.replicate (m - (n+1)) 0:=by
 rw[am0 _ _ (by rw[al]; exact ak3 _),al,alq];have:m - n=(m - (n+1))+1:=by omega
 rw[this,alB];simp[dlq]
def mR {S n:Nat} (h:S<18446744073709551616 ^ n):ah (au (dlq S n))=ah S:=by rw[qn,ak0 h]
def aK {m:List Int} (i:Nat):au (m.take (i+1))=au (m.take i)+18446744073709551616 ^ i*(m.getD i 0).toNat:=by
 by_cases h:i<m.length
 ·exact z8 h
 ·rw[dT (by omega),alc (by omega),alc (by omega)]; simp
def qR (b:List Int):∀ n,au (b.take (bE b n))=au (b.take n)
 | 0=>rfl
 | n+1=>by
  unfold bE;split
  ·rename_i h;rw[qR b n,aK,h]; simp
  ·rfl
def xK {b:List Int} (hb:InWq b):b.take (bE b b.length)=ah (au b):=by have h1:=qR b b.length;rw[alz]at h1;rw[<- h1,AU (hb.take _) (tm b b.length (ak3 _))]
def cz (T A i:Nat):(T+18446744073709551616 ^ i*A) / 18446744073709551616 ^ i=T / 18446744073709551616 ^ i+A:=alO _ _ (alZ (by decide))
def GM (m:List Int) (i:Nat):au m=au (m.take i)+18446744073709551616 ^ (m.take i).length*au (m.drop i):=by rw[<- nS,anu]
def bh (m:List Int) (i:Nat):∃ R,au m=au (m.take i)+18446744073709551616 ^ i*R:=by
 by_cases h:i<=m.length
 ·refine⟨au (m.drop i),?_⟩;have:=GM m i
  rwa [alx,amh h]at this
 ·exact⟨0,by rw[alc (by omega)]; simp⟩
def aP {m:List Int} (h:InWq m) (i:Nat):au (m.take i)<18446744073709551616 ^ i:=by
 have h1:=iw (h.take i);have h2:(m.take i).length<=i:=by simp; omega
 exact ak_ h1 (ak6 (by decide) h2)
def iC {S T R i:Nat} (h:S=T+18446744073709551616 ^ (i+1)*R):S / 18446744073709551616 ^ i%18446744073709551616=T / 18446744073709551616 ^ i%18446744073709551616:=by rw[h,ak2,ak1,cz,al8]
def I2 (i:Nat):0<18446744073709551616 ^ i:=alZ (by decide)
def C8 {P A B x y o R1 R2 D a b:Nat} (hA:A<P) (hB:B<P) (ho:o=if A<B then 1 else 0) (h1:a=A+P*x+P*18446744073709551616*R1) (h2:b=B+P*y+P*18446744073709551616*R2) (hD:(D:Int)=(a:Int) - (b:Int)) :
  ((D / P:Nat):Int)=(x:Int) - (y:Int) - (o:Int)+18446744073709551616*((R1:Int) - (R2:Int)):=by
 have he:∃ e:Nat,e<P/\(e:Int)=(A:Int) - (B:Int)+(P:Int)*(o:Int):=by
  rw[ho];split
  ·exact⟨A+P - B,by omega,by omega⟩
  ·exact⟨A - B,by omega,by omega⟩
 obtain⟨e,he1,he2⟩:=he;refine Bf (e:=e) ?_ he1;have e1:(a:Int)=A+(P:Int)*x+18446744073709551616*((P:Int)*R1):=by rw[h1,ak1,alh]; simp
 have e2:(b:Int)=B+(P:Int)*y+18446744073709551616*((P:Int)*R2):=by rw[h2,ak1,alh]; simp
 have e3:(P:Int)*((x:Int) - (y:Int) - (o:Int)+18446744073709551616*((R1:Int) - (R2:Int)))=(P:Int)*x - (P:Int)*y - (P:Int)*o+(18446744073709551616*((P:Int)*R1) - 18446744073709551616*((P:Int)*R2)):=by rw[Int.mul_add,anc,anc,Int.mul_left_comm,anc,anc]
 rw[hD,e1,e2,e3,he2];omega
def cS {x y:Nat} (h:x<=y):(ah x).length<=(ah y).length:=by
 induction y using Nat.strongRecOn generalizing x with
 | ind y ih=>
  by_cases hx:x=0
  ·subst hx; rw[ba]; simp
  ·rw[bH hx,bH (by omega:y ≠ 0)];simp only[als];have:=ih (y / 18446744073709551616) (by omega) (x:=x / 18446744073709551616) (am6 h);omega
def tx:∀(w X:Nat),dlq (18446744073709551616 ^ w*X) w=List.replicate w 0:=by
 intro w;have key:∀ n,n<=w -> ∀ X,dlq (18446744073709551616 ^ w*X) n=List.replicate n 0:=by
  intro n;induction n with
  | zero=>intro _ X; rfl
  | succ n ih=>
   intro hn X;rw[dlq,ih (by omega),amr];have e:18446744073709551616 ^ w*X=18446744073709551616 ^ n*(18446744073709551616*(18446744073709551616 ^ (w - n - 1)*X)):=by rw[<- ak1,<- ak1,<- ak2,<- ak9];congr 2; omega
   rw[e,alr _ (I2 n),anZ];rfl
 exact key w (ak3 _)
def fE:∀(j n:Nat),n<18446744073709551616 ^ j->(ah n).length<=j
 | 0,n,h=>by
  have:n=0:=by simp at h; exact h
  subst this; rw[ba]; exact ak3 _
 | j+1,n,h=>by
  by_cases h0:n=0
  ·subst h0; rw[ba]; simp
  ·rw[bH h0,als];have:n / 18446744073709551616<18446744073709551616 ^ j:=amM (by rw[ak2]at h; omega);have:=fE j _ this;omega
def GL (V x Bk bk i k:Nat):V%18446744073709551616 ^ (i+k+1)+x*(Bk+18446744073709551616 ^ k*bk)*18446744073709551616 ^ i=(V%18446744073709551616 ^ (i+k)+x*Bk*18446744073709551616 ^ i)+18446744073709551616 ^ (i+k)*(V / 18446744073709551616 ^ (i+k)%18446744073709551616+x*bk):=by rw[Nat.mod_pow_succ,ak9];grind
def Fy (V x Bk bk i k:Nat):(V%18446744073709551616 ^ (i+k+1)+x*(Bk+18446744073709551616 ^ k*bk)*18446744073709551616 ^ i) / 18446744073709551616 ^ (i+k+1)=((V%18446744073709551616 ^ (i+k)+x*Bk*18446744073709551616 ^ i) / 18446744073709551616 ^ (i+k)+V / 18446744073709551616 ^ (i+k)%18446744073709551616+x*bk) / 18446744073709551616:=by rw[GL,ak2,<- akY,alO _ _ (alZ (by decide)),aly]
def D7 (V x Bk bk i k R:Nat):(V+x*(Bk+18446744073709551616 ^ k*bk+18446744073709551616 ^ (k+1)*R)*18446744073709551616 ^ i) / 18446744073709551616 ^ (i+k)%18446744073709551616=((V%18446744073709551616 ^ (i+k)+x*Bk*18446744073709551616 ^ i) / 18446744073709551616 ^ (i+k)+V / 18446744073709551616 ^ (i+k)%18446744073709551616+x*bk)%18446744073709551616:=by
 have e:V+x*(Bk+18446744073709551616 ^ k*bk+18446744073709551616 ^ (k+1)*R)*18446744073709551616 ^ i=(V%18446744073709551616 ^ (i+k+1)+x*(Bk+18446744073709551616 ^ k*bk)*18446744073709551616 ^ i)+18446744073709551616 ^ (i+k+1)*(V / 18446744073709551616 ^ (i+k+1)+x*R):=by
  have h:=alM V (18446744073709551616 ^ (i+k+1));have h2:18446744073709551616 ^ (i+k+1)=18446744073709551616 ^ (k+1)*18446744073709551616 ^ i:=by rw[<- ak9]; congr 1; omega
  generalize V / 18446744073709551616 ^ (i+k+1)=q at *;generalize V%18446744073709551616 ^ (i+k+1)=r at *;rw[<- h,h2];grind
 rw[iC e,GL,alO _ _ (alZ (by decide)),aly]
def KX {V x Bk i k:Nat} (hx:x<18446744073709551616) (hB:Bk<18446744073709551616 ^ k):(V%18446744073709551616 ^ (i+k)+x*Bk*18446744073709551616 ^ i) / 18446744073709551616 ^ (i+k)<18446744073709551616:=by
 rw[akZ (alZ (by decide))];have h1:V%18446744073709551616 ^ (i+k)<18446744073709551616 ^ (i+k):=ak5 _ (alZ (by decide));have h2:x*Bk<=18446744073709551615*18446744073709551616 ^ k:=alJ (by omega) (by omega);have h3:x*Bk*18446744073709551616 ^ i<=18446744073709551615*18446744073709551616 ^ (i+k):=by
  have:=akU (18446744073709551616 ^ i) h2
  rwa [ak1 18446744073709551615,<- ak9,amK k i]at this
 omega
def tw (S:Nat) {L i:Nat} (h:i<L):(dlq S L).getD i 0=((S / 18446744073709551616 ^ i%18446744073709551616:Nat):Int):=by
 induction L with
 | zero=>omega
 | succ L ih=>
  show((dlq S L)++[_]).getD i 0=_;rw[List.getD_eq_getElem?_getD];by_cases hi:i<L
  ·rw[List.getElem?_append_left (by rw[al]; exact hi),<- List.getD_eq_getElem?_getD,ih hi]
  ·have:i=L:=by omega
   subst this;rw[List.getElem?_append_right (by rw[al]; exact ak3 _),al,alq]; rfl
def qo {b:List Int} {k:Nat}:au (b.take (k+1))=au (b.take k)+18446744073709551616 ^ k*(b.getD k 0).toNat:=aK k
def ze (U V L p:Nat) (h:p<L):(dlq U p++(dlq V L).drop p).set p ((U / 18446744073709551616 ^ p%18446744073709551616:Nat):Int)=dlq U (p+1)++(dlq V L).drop (p+1):=by rw[cN (by rw[al]; exact h),aY _ _ _ _ _ (by rw[al])];show _=(dlq U p++[_])++_;rw[ak8]; rfl
def FU (U V L p:Nat) (h:p<L):(dlq U p++(dlq V L).drop p).getD p 0=((V / 18446744073709551616 ^ p%18446744073709551616:Nat):Int):=by rw[cN (by rw[al]; exact h),bP (by rw[al]),tw V h]
def zd (U V L p:Nat) (h:p<=L):(dlq U p++(dlq V L).drop p).length=L:=by simp[al]; omega
def H4 {U L p:Nat} (hU:U<18446744073709551616 ^ p) (h:p<=L) {V:Nat} (hV:V<18446744073709551616 ^ p):dlq U p++(dlq V L).drop p=dlq U L:=by
 induction L with
 | zero=>
  have:p=0:=by omega
  subst this; rfl
 | succ L ih=>
  by_cases hp:p=L+1
  ·subst hp; rw[alC (by rw[al]; omega),alp]
  ·have hpL:p<=L:=by omega
   have e:∀ X,X<18446744073709551616 ^ p->dlq X (L+1)=dlq X L++[0]:=by intro X hX;show dlq X L++[((X / 18446744073709551616 ^ L%18446744073709551616:Nat):Int)]=_;rw[alm (ak_ hX (ak6 (by decide) hpL))]; rfl
   rw[e V hV,e U hU,alS (by rw[al]; exact hpL),<- ak8,ih hpL]
def tL {a:List Int} (ha:InWq a) (i:Nat):au (a.take i)<18446744073709551616 ^ i:=aP ha i
def tJ {x y i j:Nat} (hx:x<18446744073709551616 ^ i) (hy:y<18446744073709551616 ^ j):x*y<18446744073709551616 ^ (i+j):=by rw[ak9];exact an7 hx hy
def me (N:Nat) (l:List Int):Prop:=l.length+3<N/\l.length<=1099511627776
def BA {N:Nat} (b:List Int) (hN:b.length<N) (hs:b.length<9223372036854775807) (k:Kz8):xA N b k=k (bE b b.length):=by
 (unfold xA; rw[ae]; unfold SA)
 have key:∀ n,n<=b.length -> ∀ M,n<M->af M (wP N b λZY=>((decide (0<=ZY/\ZY<=(((List.length b):Nat):Int)))&&(k ((Int.toNat ZY) - 0)))) (n:Int)=k (bE b n):=by
  intro n;induction n with
  | zero=>
   intro _ M hM;cases M with
   | zero=>omega
   | succ M=>
    show wP N b _ ((0:Nat):Int) _=_;simp only[wP,bE];rw[akQ (by omega:¬((0:Nat):Int)>0),show(false==true)=false from rfl,akR,akP (by omega),alW];rfl
  | succ n ih=>
   intro hn M hM;cases M with
   | zero=>omega
   | succ M=>
    show wP N b _ ((n+1:Nat):Int) (af M _)=_;have e:Int.toNat (((n+1:Nat):Int) - 1)=n:=by omega
    have e2:((n+1:Nat):Int) - 1=(n:Int):=by omega
    simp only[wP,e];rw[akP (by omega:((n+1:Nat):Int)>0),show(true==true)=true from rfl,akS,aa akN,aa akO,aa (akP (by omega)),aa akN,e2,ih (by omega) M (by omega),pg];by_cases h0:b.getD n 0=0
    ·have:(b.getD n 0==0)=true:=by simpa using h0
     rw[this,if_pos h0]; rfl
    ·have:(b.getD n 0==0)=false:=by simpa using h0
     rw[this,if_neg h0,akR,akP (by omega),alW];rfl
 exact key b.length (ak3 _) N hN
def kW {N:Nat} (b:List Int) (hb:InWq b) (hN:b.length<N) (hs:b.length<9223372036854775807) (k:List Int->Bool) :
  (xA N b λl=>(decide (0+l<=b.length))&&k (List.take l (List.drop 0 b)))=k (ah (au b)):=by
 rw[BA b hN hs,amn,xK hb];have:=kg b b.length;rw[akP (by omega)]; rfl
def uS {N:Nat} (hN:1000<=N) (n:Nat) (hn:n<18446744073709551616) (k:List Int->Bool):ka N (n:Int) k=k (ah n):=by
 unfold ka Au;have hw:InWq [(n:Int)]:=by intro x hx;simp only[amd,amT,or_false]at hx;subst hx; omega
 have hv:au [(n:Int)]=n:=by simp only[au]; omega
 have:=kW (N:=N) [(n:Int)] hw (by simp; omega) (by simp) k;rw[hv]at this;exact this
def ym {N:Nat} (l:List Int) (h:l.length<=1099511627776) (k:List Int->Bool):sk N l k=k l:=by unfold sk Rs;rw[alF,akP (by omega),alW]
def oj (N:Nat) (l:List Int) (i:Nat) (hi:i<9223372036854775807) (k:Kz7):zC N l (i:Int) k=k (l.getD i 0):=by
 unfold zC Ry;by_cases h:i<l.length
 ·rw[akP (by omega:(i:Int)<((l.length:Nat):Int)),akS,aa akO,akW]
 ·rw[akQ (by omega:¬(i:Int)<((l.length:Nat):Int)),akR,dT (by omega)]
def oh (N:Nat) {x y c:Int} {a b d:Nat} (hx:x=(a:Int)) (hy:y=(b:Int)) (hz:c=(d:Int)) (hc:d<=1) (k:Ky6):sQ2 N x y c k=k (((a+b+d)%18446744073709551616:Nat):Int) (((a+b+d) / 18446744073709551616:Nat):Int):=by subst hx hy hz;show(decide (Int.toNat (d:Int)<=1)&&_)=_;rw[akW,akP hc]; rfl
def yl (N:Nat) {x y c:Int} {a b d:Nat} (hx:x=(a:Int)) (hy:y=(b:Int)) (hz:c=(d:Int)) (hc:d<=1) (k:Ky6):sQ3 N x y c k=k (((a+18446744073709551616 - b - d)%18446744073709551616:Nat):Int) (if a<b+d then 1 else 0):=by
 subst hx hy hz;show(decide (Int.toNat (d:Int)<=1)&&_)=_;rw[akW,akP hc];show k _ (cond (decide (a<b+d)) 1 0)=_;by_cases h:a<b+d
 ·rw[akP h,if_pos h]; rfl
 ·rw[akQ h,if_neg h]; rfl
def Qt (a b:Nat):imm true (a:Int) (b:Int)=((max a b:Nat):Int):=by
 unfold imm; simp only[akS];by_cases h:(b:Int)>a
 ·rw[akP h,akS]; omega
 ·rw[akQ h,akR]; omega
def OJ {N:Nat} (a b:List Int) (ha:InWq a) (hb:InWq b) (hNa:me N a) (hNb:me N b) (k:List Int->Bool):yw N a b k=k (ah (au a+au b)):=by
 (unfold yw; rw[ae]; unfold xO)
 obtain⟨a1,a2⟩:=hNa;obtain⟨b1,b2⟩:=hNb;rw[Qt]
 let L:=max a.length b.length
 have hLa:a.length<=L:=Nat.le_max_left _ _;have hLb:b.length<=L:=Nat.le_max_right _ _;have hLN:L+3<N:=by simp only[L]; omega
 have hLs:L<=1099511627776:=by simp only[L]; omega
 show(ac .i64 ((L:Int)+1)&&_)=_;have eL:Int.toNat ((L:Int)+1)=L+1:=by omega
 rw[aa akN,aa (bT (by omega) (by omega) (by omega) (by omega)),eL]
 let S:=au a+au b
 let T:=λi=>au (a.take i)+au (b.take i)
 refine aF (λi=>(((T i / 18446744073709551616 ^ i:Nat):Int),(i:Int),dlq S i++List.replicate (L+1 - i) 0)) L (by simp[T,au,dlq]) (by omega) (λi hi K=>?_) (λK=>?_)
 ·have hx:=ha.at (i:=i);have hy:=hb.at (i:=i);have hT:T (i+1)=T i+18446744073709551616 ^ i*((a.getD i 0).toNat+(b.getD i 0).toNat):=by simp only[T,aK,ak7]; omega
  have hq:T (i+1) / 18446744073709551616 ^ i=T i / 18446744073709551616 ^ i+((a.getD i 0).toNat+(b.getD i 0).toNat):=by rw[hT,cz]
  have hc:T i / 18446744073709551616 ^ i<=1:=by
   have h1:=aP ha i;have h2:=aP hb i;have h3:T i<18446744073709551616 ^ i*2:=by simp only[T]; omega
   have:=(akZ (alZ (n:=i) (by decide:0<18446744073709551616))).2 (by rw[akT]; exact h3:T i<2*18446744073709551616 ^ i);omega
  have hdiv:T (i+1) / 18446744073709551616 ^ (i+1)=T (i+1) / 18446744073709551616 ^ i / 18446744073709551616:=by rw[ak2,akY]
  have hdig:S / 18446744073709551616 ^ i%18446744073709551616=T (i+1) / 18446744073709551616 ^ i%18446744073709551616:=by obtain⟨R1,h1⟩:=bh a (i+1);obtain⟨R2,h2⟩:=bh b (i+1);refine iC (R:=R1+R2) ?_;simp only[S,T];rw[ak7]; omega
  have hset:=uM S i (L+1) (by omega);have hlen:(dlq S i++List.replicate (L+1 - i) 0).length=L+1:=by simp[al]; omega
  simp only[n_];rw[akP (by omega:(i:Int)<((max a.length b.length:Nat):Int)),akS,oj N a i (by omega),oj N b i (by omega),oh N (a:=(a.getD i 0).toNat) (b:=(b.getD i 0).toNat) (d:=T i / 18446744073709551616 ^ i) (by omega) (by omega) rfl hc,hlen,aa akO,aa (akP (by omega)),aa akN,akW];have e1:(a.getD i 0).toNat+(b.getD i 0).toNat+T i / 18446744073709551616 ^ i=T (i+1) / 18446744073709551616 ^ i:=by rw[hq]; omega
  rw[e1,<- hdig,<- hdiv,hset];rfl
 ·simp only[n_];rw[akQ (by omega:¬(L:Int)<((max a.length b.length:Nat):Int)),akR];have hT:T L=S:=by simp only[T,S]; rw[alc hLa,alc hLb]
  have hS:S<18446744073709551616 ^ (L+1):=by have h1:=aP ha L;have h2:=aP hb L;rw[alc hLa]at h1;rw[alc hLb]at h2;rw[ak2];simp only[S]; omega
  have hlen:(dlq S L++List.replicate (L+1 - L) 0).length=L+1:=by simp[al]
  have hcl:S / 18446744073709551616 ^ L<18446744073709551616:=by rw[akZ (alZ (by decide)),akT,<- ak2]; exact hS
  have e2:((T L / 18446744073709551616 ^ L:Nat):Int)=((S / 18446744073709551616 ^ L%18446744073709551616:Nat):Int):=by rw[hT,ak0 hcl]
  have hset:=uM S L (L+1) (by omega);rw[e2,akW,hset,hlen,aa akO,aa (akP (by omega)),alq,alv,alp,
   kW _ (gq S _) (by rw[al]; omega) (by rw[al]; omega),mR hS]
def oi {N:Nat} (a b:List Int) (ha:InWq a) (hb:InWq b) (hle:au b<=au a) (hN:me N a) (k:List Int->Bool):zD N a b k=k (ah (au a - au b)):=by
 obtain⟨hN1,hN2⟩:=hN
 (unfold zD; rw[ae]; unfold Nf)
 rw[aa (bT (by omega) (by omega) (by omega) (by omega)),akW]
 let D:=au a - au b
 let bo:=λi=>if au (a.take i)<au (b.take i)then(1:Nat)else 0
 refine aF (λi=>(((bo i:Nat):Int),(i:Int),dlq D i++List.replicate (a.length - i) 0)) a.length (by simp[bo,au,dlq]) (by omega) (λi hi K=>?_) (λK=>?_)
 ·have hx:=ha.at (i:=i);have hy:=hb.at (i:=i);have hA:=aK (m:=a) i;have hB:=aK (m:=b) i;have hAl:=aP ha i;have hBl:=aP hb i;have hset:=uM D i a.length (by omega);have hl:(dlq D i++List.replicate (a.length - i) 0).length=a.length:=by simp[al]; omega
  obtain⟨R1,h1⟩:=bh a (i+1);obtain⟨R2,h2⟩:=bh b (i+1);have hD:(D:Int)=(au a:Int) - (au b:Int):=by simp only[D]; omega
  have hPs:18446744073709551616 ^ (i+1)=18446744073709551616 ^ i*18446744073709551616:=ak2 ..;have hbo:bo i<=1:=by simp only[bo]; split <;> omega
  have hbs:bo (i+1)=if (a.getD i 0).toNat<(b.getD i 0).toNat+bo i then 1 else 0:=by simp only[bo,hA,hB];exact pd _ _ _ _ _ hAl hBl
  have hq:((D / 18446744073709551616 ^ i:Nat):Int)=((a.getD i 0).toNat:Int) - ((b.getD i 0).toNat:Int) - (bo i:Int)+18446744073709551616*((R1:Int) - (R2:Int)):=by rw[hA,hPs]at h1;rw[hB,hPs]at h2;exact C8 hAl hBl rfl h1 h2 hD
  have hdig:((D / 18446744073709551616 ^ i%18446744073709551616:Nat):Int)=(((a.getD i 0).toNat:Int) - ((b.getD i 0).toNat:Int) - (bo i:Int))%18446744073709551616:=by rw[Int.natCast_emod,hq];exact Int.add_mul_emod_self_left _ _ _
  simp only[mL];rw[akP (by omega:(i:Int)<a.length),akS,aa akO,oj N b i (by omega),akW,yl N (a:=(a.getD i 0).toNat) (b:=(b.getD i 0).toNat) (d:=bo i) (by omega) (by omega) rfl hbo,hl,aa akO,aa (akP (by omega)),aa akN];have e1:(((((a.getD i 0).toNat+18446744073709551616 - (b.getD i 0).toNat - bo i)%18446744073709551616:Nat)):Int)=((D / 18446744073709551616 ^ i%18446744073709551616:Nat):Int):=by rw[hdig]; omega
  have e2:(if (a.getD i 0).toNat<(b.getD i 0).toNat+bo i then(1:Int)else 0)=((bo (i+1):Nat):Int):=by rw[hbs]; split <;> rfl
  rw[e1,e2,hset];rfl
 ·simp only[mL];rw[akQ (by omega:¬(a.length:Int)<a.length),akR,alq,alv,alp];have hS:D<18446744073709551616 ^ a.length:=by have:=iw ha; simp only[D]; omega
  rw[kW _ (gq D _) (by rw[al]; omega) (by rw[al]; omega),mR hS]
def Cw {N:Nat} (a b:List Int) (ha:InWq a) (hb:InWq b) (hl:a.length=b.length) (hs:a.length<9223372036854775807) (k:Kz7) :
  ∀ n,n<=a.length -> ∀ M,n<M->af M (wM N a b (λt4=>k t4) (k 0)) ((n:Int) - 1)=k (dw (au (a.take n)) (au (b.take n))):=by
 intro n;induction n with
 | zero=>
  intro _ M hM;cases M with
  | zero=>omega
  | succ M=>
   show wM N a b _ _ ((0:Nat) - 1:Int) _=_;simp[wM,dw,au]
 | succ n ih=>
  intro hn M hM;cases M with
  | zero=>omega
  | succ M=>
   show wM N a b _ _ (((n+1:Nat):Int) - 1) (af M _)=_;have e:(((n+1:Nat):Int) - 1)=(n:Int):=by omega
   have hx:=ha.at (i:=n);have hy:=hb.at (i:=n);have hA:=aK (m:=a) n;have hB:=aK (m:=b) n;have hAl:=aP ha n;have hBl:=aP hb n;rw[e];simp only[wM,akW];rw[hA,hB,akP (by omega:(n:Int)>=0),akS,aa akO,aa akO,aa akO,aa akO,aa akN,ih (by omega) M (by omega)];by_cases h0:a.getD n 0=b.getD n 0
   ·rw[show(a.getD n 0 != b.getD n 0)=false by simpa using h0,akR,h0,FC]
   ·rw[show(a.getD n 0 != b.getD n 0)=true by simpa using h0,akS];by_cases h1:a.getD n 0<b.getD n 0
    ·rw[akP h1,akS,NU hAl (by omega)]
    ·rw[akQ h1,akR,NT hBl (by omega)]
def iE {N:Nat} (x y:Nat) (hx:me N (ah x)) (hy:me N (ah y)) (k:Kz7):DI N (ah x) (ah y) k=k (dw x y):=by
 (unfold DI; rw[ae]; unfold MU)
 obtain⟨x1,x2⟩:=hx;obtain⟨y1,y2⟩:=hy;by_cases h:(ah x).length=(ah y).length
 ·have e:(((ah x).length:Int) != (ah y).length)=false:=by rw[h]; simp
  rw[e,akR,aa akN,Cw (ah x) (ah y) (aT x) (aT y) h (by omega) k _ (ak3 _) N (by omega),alz,h,alz,aD,aD]
 ·have e:(((ah x).length:Int) != (ah y).length)=true:=by simp; omega
  rw[e,akS];by_cases h1:(ah x).length<(ah y).length
  ·rw[akP (by omega),akS];have:x<y:=by
    rcases alQ x y with h2 | h2
    ·exact h2
    ·have:=cS h2; omega
   unfold dw; rw[if_pos this]
  ·rw[akQ (by omega),akR];have:¬ x<=y:=λh2=>by have:=cS h2; omega
   unfold dw; rw[if_neg (by omega),if_neg (by omega)]
def tE (z:Int) (k:Ky5):Bool:=k (decide (z<0)) (ah z.natAbs)
def p9 (n:Nat):decide (((ah n).length:Int)>0)=decide (n ≠ 0):=by
 by_cases h:n=0
 ·subst h; rw[ba]; simp
 ·rw[bH h,als,akP (by omega),akP h]
def GX (g:Bool) (n:Nat) (k:Ky5):k (sg g n) (ah n)=tE (aU g n) k:=by
 unfold tE aU sg;cases g
 ·simp only[al5,alo,anr,alN];rw[akQ (by omega)]
 ·simp only[amt,alW,ans,alN];congr 1;by_cases h:n=0
  ·subst h; rfl
  ·rw[akP h,akP (by omega)]
def O2 (g:Bool) (n:Nat) (k:Ky5):cond (g==true) (k (decide (((ah n).length:Int)>0)) (ah n)) (k false (ah n))=tE (aU g n) k:=by rw[p9,<- GX];cases g <;> rfl
def Iy {N:Nat} (g b:Bool) (n:Nat) (k:Ky5):EO N g (ah n) b (λcr=>k cr (ah n))=tE (aU g n) k:=O2 g n k
def oK {N:Nat} (g b:Bool) (l:List Int) (n:Nat) (k:Ky5):Ms N g (ah n) b l (λcr=>k cr (ah n))=tE (aU g n) k:=O2 g n k
def Jh (g1 g2:Bool) (n1 n2:Nat) (k:Ky5) :
  cond (g1==g2) (tE (aU g2 (n1+n2)) k) (cond (decide (dw n1 n2>=0)) (tE (aU g1 (n1 - n2)) k) (tE (aU g2 (n2 - n1)) k))=tE (aU g1 n1+aU g2 n2) k:=by
 rw[uH];have key:∀ a b:Int,a=b->tE a k=tE b k:=λa b h=>by rw[h]
 cases g1 <;> cases g2 <;> simp only[aU] <;> by_cases h:n2<=n1 <;> simp only[h,anF,anT,akS,akR,amz,al5,amt,alo,(by decide:(false==true)=false),(by decide:(true==false)=false)] <;> refine key _ _ ?_ <;> omega
def Fp (n:Nat):aA .and .u64 (n:Int) 4294967295=((n%4294967296:Nat):Int):=by
 have h:=kI n 32 (by decide);have e1:((2 ^ 32 - 1:Nat):Int)=4294967295:=by decide
 have e2:(2:Nat) ^ 32=4294967296:=by decide
 rw[e1,e2]at h;exact h
def Vi (p00 p10 p01 p11:Nat):(p11*18446744073709551616+(p10+p01)*4294967296+p00) / 18446744073709551616=p11+(p10+p00 / 4294967296) / 4294967296+((p10+p00 / 4294967296)%4294967296+p01) / 4294967296:=by omega
def Ma (x y:Nat):x*y=(x / 4294967296)*(y / 4294967296)*18446744073709551616+((x / 4294967296)*(y%4294967296)+(x%4294967296)*(y / 4294967296))*4294967296+(x%4294967296)*(y%4294967296):=by have hx:=alM x 4294967296;have hy:=alM y 4294967296;generalize x / 4294967296=a at *;generalize x%4294967296=b at *;generalize y / 4294967296=c at *;generalize y%4294967296=d at *;subst hx hy;grind
def yj (N:Nat) {x y:Nat} (hx:x<18446744073709551616) (hy:y<18446744073709551616) (k:Ky6):G0 N (x:Int) (y:Int) k=k ((x*y / 18446744073709551616:Nat):Int) ((x*y%18446744073709551616:Nat):Int):=by
 (unfold G0; rw[ae]; unfold MQ)
 have fx:Int.fdiv (x:Int) (2 ^ 32)=((x / 4294967296:Nat):Int):=by rw[kK]; rfl
 have fy:Int.fdiv (y:Int) (2 ^ 32)=((y / 4294967296:Nat):Int):=by rw[kK]; rfl
 rw[Fp,Fp,fx,fy];have hs:=Ma x y;have b0:x / 4294967296<=4294967295:=by omega
 have b1:x%4294967296<=4294967295:=by omega
 have b2:y / 4294967296<=4294967295:=by omega
 have b3:y%4294967296<=4294967295:=by omega
 have m00:=alJ b1 b3;have m10:=alJ b0 b3;have m01:=alJ b1 b2;have m11:=alJ b0 b2;have hh:=Vi ((x%4294967296)*(y%4294967296)) ((x / 4294967296)*(y%4294967296)) ((x%4294967296)*(y / 4294967296)) ((x / 4294967296)*(y / 4294967296));rw[<- hs]at hh;rw[<- alb,<- alb,<- alb,<- alb,<- alb];have hlt:x*y<=18446744073709551615*18446744073709551615:=alJ (by omega) (by omega);generalize x*y=P at *;generalize (x%4294967296)*(y%4294967296)=p00 at *;generalize (x / 4294967296)*(y%4294967296)=p10 at *;generalize (x%4294967296)*(y / 4294967296)=p01 at *;generalize (x / 4294967296)*(y / 4294967296)=p11 at *;have t1:IntKind.wrap .u64 (IntKind.wrap .u64 (p10:Int)+Int.fdiv (IntKind.wrap .u64 (p00:Int)) (2 ^ 32))=((p10+p00 / 4294967296:Nat):Int):=by simp only[aq,kK]; omega
 rw[t1,Fp];congr 1
 ·rw[hh];simp only[aq,kK];omega
def Bz (N:Nat) {x y c d:Int} {a b e f:Nat} (hx:x=(a:Int)) (hy:y=(b:Int)) (hc:c=(e:Int)) (hd:d=(f:Int)) (ha:a<18446744073709551616) (hb:b<18446744073709551616) (he:e<18446744073709551616) (hf:f<18446744073709551616) (k:Ky6) :
  mw N x y c d k=k (((a*b+e+f) / 18446744073709551616:Nat):Int) (((a*b+e+f)%18446744073709551616:Nat):Int):=by
 subst hx hy hc hd
 (unfold mw; rw[ae]; unfold vN)
 have hlt:a*b<=18446744073709551615*18446744073709551615:=alJ (by omega) (by omega);rw[yj N ha hb];generalize a*b=P at *;rw[oh N (c:=0) (a:=P%18446744073709551616) (b:=e) (d:=0) rfl rfl rfl (by omega),oh N (c:=0) (a:=(P%18446744073709551616+e+0)%18446744073709551616) (b:=f) (d:=0) rfl rfl rfl (by omega)];congr 1
 ·simp only[aq]; omega
 ·omega
def Is {N:Nat} (a b:List Int) (ha:InWq a) (hb:InWq b) (hN:a.length+b.length+2<N) (hs:a.length+b.length<=1099511627776) (k:List Int->Bool):z_ N a b k=k (ah (au a*au b)):=by
  (unfold z_; rw[ae]; unfold S2)
  by_cases a0:a.length=0
  · have:a=[]:=List.length_eq_zero_iff.1 a0
    subst this;show k []=k (ah (0*au b));rw[amg,ba]
  by_cases b0:b.length=0
  · have:b=[]:=List.length_eq_zero_iff.1 b0
    subst this;have e:(((a.length:Nat):Int)==0)=false:=by simp; intro h; subst h; simp at a0
    rw[e,show(false==false)=true from rfl,akS];show k []=k (ah (au a*0));rw[amc,ba]
  have e0:(((a.length:Nat):Int)==0)=false:=by simp; intro h; subst h; simp at a0
  have e1:(((b.length:Nat):Int)==0)=false:=by simp; intro h; subst h; simp at b0
  rw[e0,e1,show(false==false)=true from rfl,akS,akR];have eL:Int.toNat (((a.length:Nat):Int)+((b.length:Nat):Int))=a.length+b.length:=by omega
  rw[aa akN,aa (bT (by omega) (by omega) (by omega) (by omega)),eL]
  let L:=a.length+b.length
  let B:=au b
  have hB:B<18446744073709551616 ^ b.length:=iw hb;refine aF (λi=>((i:Int),dlq (au (a.take i)*B) L)) a.length ?_ (by omega) (λi hi K=>?_) (λK=>?_)
  · show((0:Int),List.replicate L (0:Int))=(((0:Nat):Int),dlq (au (a.take 0)*B) L)
    have:=tx L 0;rw[amc]at this;rw[am8,show au []=0 from rfl,amg,this]; rfl
  · simp only[lw]
    rw[akP (by omega:(i:Int)<a.length),akS,aa akO,akW];have hx:=ha.at (i:=i)
    let V:=au (a.take i)*B
    let x:=(a.getD i 0).toNat
    let U:=au (a.take (i+1))*B
    have hU:U=V+x*B*18446744073709551616 ^ i:=by simp only[U,V,x];rw[qo];grind
    have hV:V<18446744073709551616 ^ (i+b.length):=tJ (tL ha i) hB;have hUl:U<18446744073709551616 ^ (i+1+b.length):=tJ (tL ha (i+1)) hB
    let c:=λj=>(V%18446744073709551616 ^ (i+j)+x*au (b.take j)*18446744073709551616 ^ i) / 18446744073709551616 ^ (i+j)
    refine aF (λj=>(((c j:Nat):Int),(j:Int),dlq U (i+j)++(dlq V L).drop (i+j))) b.length ?_ (by omega) (λj hj K'=>?_) (λK'=>?_)
    · show((0:Int),(0:Int),dlq V L)=_
      have h0:c 0=0:=by simp only[c,am8,show au []=0 from rfl,amc,amg,aln];exact alm (ak5 _ (alZ (by decide)))
      have hlow:dlq U i=dlq V i:=by
        have:∀ n,n<=i->dlq U n=dlq V n:=by
          intro n;induction n with
          | zero=>intro _; rfl
          | succ n ih=>
            intro hn;show dlq U n++[_]=dlq V n++[_];rw[ih (by omega)];congr 3;have:U=V+18446744073709551616 ^ (n+1)*(x*B*18446744073709551616 ^ (i - (n+1))):=by rw[hU,alh,<- ak9,show n+1+(i - (n+1))=i by omega]
            exact iC this
        exact this i (ak3 _)
      have hsp:dlq V i++(dlq V L).drop i=dlq V L:=by
        have:∀ n,i<=n->dlq V i++(dlq V n).drop i=dlq V n:=by
          intro n;induction n with
          | zero=>intro h; have:i=0:=(by omega); subst this; rfl
          | succ n ih=>
            intro h;by_cases hn:i=n+1
            · subst hn; rw[alC (by rw[al]; omega),alp]
            · show dlq V i++(dlq V n++[_]).drop i=dlq V n++[_]
              rw[alS (by rw[al]; omega),<- ak8,ih (by omega)]
        exact this L (by simp only[L]; omega)
      rw[h0,aln,hlow,hsp]; rfl
    · have hy:=hb.at (i:=j)
      have hp:i+j<L:=by simp only[L]; omega
      have hlen:=zd U V L (i+j) (by omega);have hget:=FU U V L (i+j) hp;have hset:=ze U V L (i+j) hp;have hc:=KX (V:=V) (x:=x) (i:=i) (k:=j) (Bk:=au (b.take j)) (by simp only[x]; omega) (tL hb j);have hstep:=Fy V x (au (b.take j)) (b.getD j 0).toNat i j;obtain⟨R,hR⟩:=bh b (j+1);have hdig:=D7 V x (au (b.take j)) (b.getD j 0).toNat i j R;rw[<- qo]at hstep hdig;rw[<- hR]at hdig;have hUe:V+x*au b*18446744073709551616 ^ i=U:=hU.symm;rw[hUe]at hdig;have hxy:x*(b.getD j 0).toNat<=18446744073709551615*18446744073709551615:=alJ (by simp only[x]; omega) (by omega);have eidx:Int.toNat ((i:Int)+(j:Int))=i+j:=by omega
      have hcj:∀ n,c n=(V%18446744073709551616 ^ (i+n)+x*au (b.take n)*18446744073709551616 ^ i) / 18446744073709551616 ^ (i+n):=λ_=>rfl
      have hax:a.getD i 0=(x:Int):=by simp only[x]; omega
      have hby:b.getD j 0=((b.getD j 0).toNat:Int):=by omega
      have ec1:c (j+1)=(c j+V / 18446744073709551616 ^ (i+j)%18446744073709551616+x*(b.getD j 0).toNat) / 18446744073709551616:=hstep;have ed:U / 18446744073709551616 ^ (i+j)%18446744073709551616=(c j+V / 18446744073709551616 ^ (i+j)%18446744073709551616+x*(b.getD j 0).toNat)%18446744073709551616:=hdig;have hcl:c j<18446744073709551616:=hc;rw[ed]at hset;have vlt:V / 18446744073709551616 ^ (i+j)%18446744073709551616<18446744073709551616:=ak5 _ (by decide);have hxl:x<18446744073709551616:=by simp only[x]; omega
      have hyl:(b.getD j 0).toNat<18446744073709551616:=by omega
      simp only[ly,akW,eidx,hlen];rw[akP (by omega:(j:Int)<((b.length:Nat):Int)),akS,aa akO,aa akN,aa akN,aa akO,aa (akP (by omega)),Bz N hax hby hget rfl hxl hyl vlt hcl,aa akO,aa (akP (by omega)),aa akN];rw[show i+(j+1)=i+j+1 by omega,<- hset];have ez:x*(b.getD j 0).toNat+V / 18446744073709551616 ^ (i+j)%18446744073709551616+c j=c j+V / 18446744073709551616 ^ (i+j)%18446744073709551616+x*(b.getD j 0).toNat:=by omega
      rw[ez,ec1];rfl
    · simp only[ly]
      rw[akQ (by omega:¬(b.length:Int)<b.length),akR];have hlen:=zd U V L (i+b.length) (by simp only[L]; omega);have hset:=ze U V L (i+b.length) (by simp only[L]; omega);have eidx:Int.toNat ((i:Int)+(b.length:Int))=i+b.length:=by omega
      have hLe:i+b.length<L:=by simp only[L]; omega
      have hc:c b.length=U / 18446744073709551616 ^ (i+b.length):=by simp only[c];rw[alz,ak0 hV,hU]
      have hcl:U / 18446744073709551616 ^ (i+b.length)<18446744073709551616:=by
        rw[akZ (alZ (by decide))];have:i+1+b.length=i+b.length+1:=by omega
        rw[this,ak2]at hUl;omega
      have ew:((c b.length:Nat):Int)=((U / 18446744073709551616 ^ (i+b.length)%18446744073709551616:Nat):Int):=by rw[hc,ak0 hcl]
      have hfin:=H4 (U:=U) (V:=V) (L:=L) (p:=i+b.length+1) (by rw[show i+b.length+1=i+1+b.length by omega]; exact hUl) (by omega) (ak_ hV (ak6 (by decide) (by omega)));rw[aa akN,eidx,hlen,aa akO,aa (akP (by omega)),aa akN,ew,hset,hfin];rfl
  · simp only[lw]
    rw[akQ (by omega:¬(a.length:Int)<a.length),akR,alz,kW _ (gq _ _) (by rw[al]; simp only[L]; omega) (by rw[al]; simp only[L]; omega)];rw[mR (tJ (iw ha) hB)]
def EK (n:Nat):2 ^ n=18446744073709551616 ^ (n / 64)*2 ^ (n%64):=by
 have e:(18446744073709551616:Nat)=2 ^ 64:=by decide
 rw[e,<- anM,<- ak9];congr 1; omega
def aW (i:Nat):0<18446744073709551616 ^ i:=alZ (by decide)
def Lv {N:Nat} (m:List Int) (hm:InWq m) (n:Nat) (hn:n<4294967296) (hN:m.length+n / 64+4<N) (hs:m.length<=1099511627776) (k:List Int->Bool):wI N m n k=k (ah (au m*2 ^ n)):=by
 (unfold wI; rw[ae]; unfold vO)
 by_cases h0:m.length=0
 ·have:m=[]:=List.length_eq_zero_iff.1 h0;subst this;show k []=k (ah (0*2 ^ n));rw[amg,ba]
 ·have e0:((m.length:Int)==0)=false:=by simp; intro h; subst h; simp at h0
  have ew:IntKind.wrap .u64 (Int.tdiv (n:Int) 64)=((n / 64:Nat):Int):=by rw[aq,alU (by omega)]; omega
  have es:Int.tmod (n:Int) 64=((n%64:Nat):Int):=by rw[alL (by omega)]; rfl
  rw[e0,akR,ew,es];have hw6:n / 64<67108864:=by omega
  generalize hw:n / 64=w at *;generalize hsh:n%64=s at *;have hs32:s<64:=by omega
  have hp2:2 ^ n=18446744073709551616 ^ w*2 ^ s:=by rw[EK,hw,hsh]
  have hs0:0<2 ^ s:=ak4 s;have hs1:2 ^ s*2 ^ (64 - s)=18446744073709551616:=by rw[<- ak9,show s+(64 - s)=64 by omega]
  have elen:Int.toNat (((w:Nat):Int)+(m.length:Int)+1)=w+m.length+1:=by omega
  rw[aa akN,aa akN,aa akN,aa (bT (by omega) (by omega) (by omega) (by omega)),elen]
  let V:=au m*2 ^ n
  let X:=au m*2 ^ s
  have hVX:V=18446744073709551616 ^ w*X:=by simp only[V,X]; rw[hp2,alh]
  let T:=λi=>au (m.take i)*2 ^ s
  let c:=λi=>T i / 18446744073709551616 ^ i
  have hcl:∀ i,c i<2 ^ s:=by intro i;simp only[c,T];rw[akZ (aW i),akT];exact al0 (aP hm i) hs0
  refine aF (λi=>((i:Int),dlq V (w+i)++((c i:Nat):Int)::List.replicate (m.length - i) 0)) m.length ?_ (by omega) (λi hi K=>?_) (λK=>?_)
  ·congr 1;show List.replicate (w+m.length+1) (0:Int)=dlq V w++((c 0:Nat):Int)::List.replicate m.length 0;rw[hVX,tx];have hc0:c 0=0:=by simp[c,T,au]
   rw[hc0];have:w+m.length+1=w+(m.length+1):=by omega
   rw[this,<- amv,alB]; rfl
  ·have hx:=hm.at (i:=i);have hT:T (i+1)=T i+18446744073709551616 ^ i*((m.getD i 0).toNat*2 ^ s):=by simp only[T,aK,alj,ak1]
   have hq:T (i+1) / 18446744073709551616 ^ i=c i+(m.getD i 0).toNat*2 ^ s:=by rw[hT,cz]
   have hci:c i<2 ^ s:=hcl i;have hc1:c (i+1)=(c i+(m.getD i 0).toNat*2 ^ s) / 18446744073709551616:=by rw[<- hq]; simp only[c]; rw[ak2,akY]
   have hdig:V / 18446744073709551616 ^ (w+i)%18446744073709551616=(c i+(m.getD i 0).toNat*2 ^ s)%18446744073709551616:=by rw[<- hq,hVX,ak9,<- akY,alr _ (aW w)];obtain⟨R,hR⟩:=bh m (i+1);refine iC (R:=R*2 ^ s) ?_;simp only[X,T];rw[hR,alj,ak1]
   have hrep:List.replicate (m.length - i) (0:Int)=0::List.replicate (m.length - (i+1)) 0:=by rw[show m.length - i=(m.length - (i+1))+1 by omega,alB]
   have hdl:=al V (w+i);have ei:Int.toNat ((w:Int)+(i:Int))=w+i:=by omega
   have ei1:Int.toNat ((w:Int)+(i:Int)+1)=w+i+1:=by omega
   have emin:min s 64=s:=by omega
   have e64:min (Int.toNat (IntKind.wrap .u64 (64 - (s:Int)))) 64=64 - s:=by rw[aq]; omega
   simp only[eg,akW,ei,ei1,emin,e64];rw[hrep,bP hdl.symm,aY _ _ _ _ _ hdl.symm];have hmx:m.getD i 0=(((m.getD i 0).toNat:Nat):Int):=by omega
   rw[hmx];generalize hxx:(m.getD i 0).toNat=x at *;have hx32:x<18446744073709551616:=by omega
   have hlow:x*2 ^ s%18446744073709551616=2 ^ s*(x%2 ^ (64 - s)):=by
    have e:x*2 ^ s%(2 ^ s*2 ^ (64 - s))=2 ^ s*(x%2 ^ (64 - s)):=by rw[akT x]; exact amB _ _ _
    rwa [hs1]at e
   have hsum:2 ^ s*(x%2 ^ (64 - s))+c i<18446744073709551616:=by have h1:x%2 ^ (64 - s)+1<=2 ^ (64 - s):=ak5 _ (ak4 _);have h2:=akX (2 ^ s) h1;rw[hs1,ak7]at h2;omega
   have epw:(x:Int)*2 ^ s=((x*2 ^ s:Nat):Int):=by rw[alb,ami]; rfl
   have eor:aA .or .u64 ((c i:Nat):Int) (IntKind.wrap .u64 ((x:Int)*2 ^ s))=((V / 18446744073709551616 ^ (w+i)%18446744073709551616:Nat):Int):=by
    have e1:IntKind.wrap .u64 ((x*2 ^ s:Nat):Int)=((2 ^ s*(x%2 ^ (64 - s)):Nat):Int):=by rw[<- hlow,aq]; omega
    rw[epw,e1,cj _ _ s hci hsum,hdig];omega
   have ehi:Int.fdiv (x:Int) (2 ^ (64 - s))=((c (i+1):Nat):Int):=by
    have e2:(2:Int) ^ (64 - s)=((2 ^ (64 - s):Nat):Int):=by rw[ami]; rfl
    rw[e2,kY,hc1];have:(c i+x*2 ^ s) / 18446744073709551616=x / 2 ^ (64 - s):=by rw[<- hs1,<- akY,akT x,alO _ _ hs0,alm hci,alk]
    rw[this]
   rw[eor,ehi];have hl1:∀(a b:Int) (ys:List Int),(dlq V (w+i)++a::b::ys).length=w+i+2+ys.length:=by intro a b ys; simp[hdl]; omega
   have hset2:(dlq V (w+i)++((V / 18446744073709551616 ^ (w+i)%18446744073709551616:Nat):Int)::0::List.replicate (m.length - (i+1)) 0).set (w+i+1) ((c (i+1):Nat):Int)=dlq V (w+(i+1))++((c (i+1):Nat):Int)::List.replicate (m.length - (i+1)) 0:=by
    have:dlq V (w+i)++((V / 18446744073709551616 ^ (w+i)%18446744073709551616:Nat):Int)::0::List.replicate (m.length - (i+1)) 0=dlq V (w+(i+1))++0::List.replicate (m.length - (i+1)) 0:=by rw[<- aly,dlq]; simp
    rw[this];exact aY _ _ _ _ _ (by rw[al]; omega)
   rw[hset2,hl1,hl1];simp only[amb];rw[akP (by omega:(i:Int)<((m.length:Nat):Int)),akS,aa akO,aa akN,aa akO,aa (akP (by omega)),aa (akP (by omega)),aa akO,aa (akP (by omega)),aa akN,aa akN,aa (akP (by rw[aq]; omega)),aa akO,aa (akP (by omega)),aa akN];rfl
  ·simp only[eg];rw[akQ (by omega:¬(m.length:Int)<m.length),akR,alq,alv];have hV:V<18446744073709551616 ^ (w+m.length+1):=by
    have h1:=iw hm;simp only[V];rw[hp2,ak2,ak9,alh,ak1];refine al0 ?_ (aW w);have hs2:2 ^ s<=18446744073709551616:=by rw[<- hs1]; exact alE _ (ak4 _)
    exact alA h1 hs2 (by decide)
   have hT:T m.length=X:=by simp only[T,X]; rw[alz]
   have hend:dlq V (w+m.length)++[((c m.length:Nat):Int)]=dlq V (w+m.length+1):=by
    rw[dlq];have:c m.length=V / 18446744073709551616 ^ (w+m.length)%18446744073709551616:=by
     have hX:V / 18446744073709551616 ^ (w+m.length)=X / 18446744073709551616 ^ m.length:=by rw[hVX,ak9,<- akY,alr _ (aW w)]
     have h2:=hcl m.length;have hs2:2 ^ s<=18446744073709551616:=by rw[<- hs1]; exact alE _ (ak4 _)
     rw[hX,<- hT];exact(ak0 (by show c m.length<_; omega)).symm
    rw[this]
   rw[hend,kW _ (gq V _) (by rw[al]; omega) (by rw[al]; omega),mR hV]
def oB:∀(i V:Nat),(ah V).getD i 0=((V / 18446744073709551616 ^ i%18446744073709551616:Nat):Int)
 | i,V=>by
  by_cases h:V=0
  ·subst h; rw[ba]; simp
  ·rw[bH h];cases i with
   | zero=>simp
   | succ i=>
    show(ah (V / 18446744073709551616)).getD i 0=_;rw[oB i (V / 18446744073709551616),ak2,akT,<- akY]
def uO {l:List Int} {n i:Nat} (h:i<n):(l.take n).getD i 0=l.getD i 0:=by rw[List.getD_eq_getElem?_getD,List.getD_eq_getElem?_getD,List.getElem?_take,if_pos h]
def AW {m:List Int} (hm:InWq m) (j:Nat):∃ R,au m / 18446744073709551616 ^ j=(m.getD j 0).toNat+18446744073709551616*(m.getD (j+1) 0).toNat+18446744073709551616*18446744073709551616*R:=by
 obtain⟨R,hR⟩:=bh m (j+2);refine⟨R,?_⟩;rw[hR,aK,aK];simp only[ak2];have e:au (m.take j)+18446744073709551616 ^ j*(m.getD j 0).toNat+18446744073709551616 ^ j*18446744073709551616*(m.getD (j+1) 0).toNat+18446744073709551616 ^ j*18446744073709551616*18446744073709551616*R
   = au (m.take j)+18446744073709551616 ^ j*((m.getD j 0).toNat+18446744073709551616*(m.getD (j+1) 0).toNat+18446744073709551616*18446744073709551616*R):=by
  rw[ak7,ak7,ak1,ak1,ak1,ak1]; omega
 rw[e,cz,alm (aP hm j),alk]
def DR {x y s:Nat} (hs:s<64) (hx:x<18446744073709551616) (hy:y<18446744073709551616):aA .or .u64 (Int.fdiv (x:Int) (2 ^ s)) (IntKind.wrap .u64 ((y:Int)*2 ^ (64 - s)))=(((x+18446744073709551616*y) / 2 ^ s%18446744073709551616:Nat):Int):=by
 have hs0:0<2 ^ s:=ak4 s;have hs1:2 ^ s*2 ^ (64 - s)=18446744073709551616:=by rw[<- ak9,show s+(64 - s)=64 by omega]
 have e1:Int.fdiv (x:Int) (2 ^ s)=((x / 2 ^ s:Nat):Int):=by
  have e2:(2:Int) ^ s=((2 ^ s:Nat):Int):=by rw[ami]; rfl
  rw[e2,kY]
 have e3:(y:Int)*2 ^ (64 - s)=((y*2 ^ (64 - s):Nat):Int):=by rw[alb,ami]; rfl
 have hlow:y*2 ^ (64 - s)%18446744073709551616=2 ^ (64 - s)*(y%2 ^ s):=by
  have e:2 ^ (64 - s)*y%(2 ^ (64 - s)*2 ^ s)=2 ^ (64 - s)*(y%2 ^ s):=amB _ _ _
  rwa [akT (2 ^ (64 - s)) (2 ^ s),hs1,akT (2 ^ (64 - s)) y]at e
 have e4:IntKind.wrap .u64 ((y*2 ^ (64 - s):Nat):Int)=((2 ^ (64 - s)*(y%2 ^ s):Nat):Int):=by rw[<- hlow,aq]; omega
 have hxl:x / 2 ^ s<2 ^ (64 - s):=by rw[akZ hs0,akT,hs1]; exact hx
 have hsum:2 ^ (64 - s)*(y%2 ^ s)+x / 2 ^ s<18446744073709551616:=by have h1:y%2 ^ s+1<=2 ^ s:=ak5 _ hs0;have h2:=akX (2 ^ (64 - s)) h1;rw[akT (2 ^ (64 - s)) (2 ^ s),hs1,ak7]at h2;omega
 rw[e1,e3,e4,cj _ _ (64 - s) hxl hsum];congr 1;have e5:(x+18446744073709551616*y) / 2 ^ s=x / 2 ^ s+2 ^ (64 - s)*y:=by rw[<- hs1,ak1,alO _ _ hs0]
 rw[e5];have e6:y=y%2 ^ s+2 ^ s*(y / 2 ^ s):=(am1 _ _).symm;have e7:2 ^ (64 - s)*y=2 ^ (64 - s)*(y%2 ^ s)+18446744073709551616*(y / 2 ^ s):=by
  conv=>lhs; rw[e6]
  rw[ak7,<- ak1,akT (2 ^ (64 - s)) (2 ^ s),hs1]
 rw[e7,<- aly,al8,ak0 (a:=x / 2 ^ s+2 ^ (64 - s)*(y%2 ^ s)) (b:=18446744073709551616) (by rw[amK]; exact hsum)];exact amK _ _
def BN:∀ n:Nat,n ≠ 0 -> ∃ t c,n=2 ^ t*(2*c+1):=by
 intro n;induction n using Nat.strongRecOn with
 | ind n ih=>
  intro h0;by_cases h:n%2=0
  ·obtain⟨t,c,hc⟩:=ih (n / 2) (by omega) (by omega);exact⟨t+1,c,by rw[ak2,akT (2 ^ t) 2,ak1,<- hc]; omega⟩
  ·exact⟨0,n / 2,by rw[amL,amR]; omega⟩
def vz {a b:Nat} (ha:a<18446744073709551616) (hb:b<18446744073709551616):aA .and .u64 (a:Int) (b:Int)=((a &&& b:Nat):Int):=by
 unfold aA rW;simp only[alD];have h64:(2:Nat) ^ 64=18446744073709551616:=by decide
 have e:((BitVec.ofInt (IntKind.bits .u64) (a:Int)) &&& (BitVec.ofInt (IntKind.bits .u64) (b:Int))).toNat=a &&& b:=by show((BitVec.ofInt 64 (a:Int)) &&& (BitVec.ofInt 64 (b:Int))).toNat=_;rw[anz,alY,alY,al6,al6,ak0 (by omega),ak0 (by omega)]
 have hl:a &&& b<18446744073709551616:=amp Nat.and_le_left ha;rw[e,xM _ hl]
def Qa {t c:Nat} (h:2 ^ t*(2*c+1)<2 ^ 64):(2 ^ t*(2*c+1)) &&& (2 ^ 64 - 2 ^ t*(2*c+1))=2 ^ t:=by
 have ht0:0<2 ^ t:=ak4 t;have ht:t<64:=by
  rcases alQ t 64 with h1 | h1
  ·exact h1
  ·have h2:2 ^ 64<=2 ^ t:=ak6 (by decide) h1;have h3:2 ^ t*1<=2 ^ t*(2*c+1):=akX _ (by omega);omega
 have e1:2 ^ t*(2*c+1)=(2 ^ t*(2*c)+(2 ^ t - 1))+1:=by rw[ak7]; omega
 refine am5 λj=>?_
 rw[anO];have e2:(2 ^ 64 - 2 ^ t*(2*c+1)).testBit j=(decide (j<64) && !(2 ^ t*(2*c)+(2 ^ t - 1)).testBit j):=by
  conv=>lhs; rw[e1]
  exact anE (by rw[e1]at h; omega) j
 rw[e2,Nat.testBit_two_pow_mul,anP _ (by omega),amF];rcases anp j t with hj | hj | hj
 ·rw[akQ (by omega:¬ j>=t),akQ (by omega:¬ t=j)]; rfl
 ·subst hj;rw[if_neg (by omega),alq,akP (ak3 _),akP ht,akP rfl];have a1:(2*c+1).testBit 0=true:=by rw[anA]; simp
  have a2:(2*c).testBit 0=false:=by rw[anA]; simp
  rw[a1,a2]; rfl
 ·obtain⟨k,hk⟩:∃ k,j - t=k+1:=⟨j - t - 1,by omega⟩
  rw[if_neg (by omega),hk,akP (by omega:j>=t),akQ (by omega:¬ t=j),anB,anB];have a1:(2*c+1) / 2=c:=by omega
  have a2:2*c / 2=c:=by omega
  rw[a1,a2];cases c.testBit k <;> simp
def VS:∀ t:Fin 64,(inR (Int.fdiv (IntKind.wrap .u64 (((2 ^ t.val:Nat):Int)*285870213051353865)) (2 ^ 58)) 64=true)/\(List.getD zL (Int.toNat (Int.fdiv (IntKind.wrap .u64 (((2 ^ t.val:Nat):Int)*285870213051353865)) (2 ^ 58))) 0=(t.val:Int)):=by decide +kernel
def U7 (N:Nat) {t c:Nat} (h:2 ^ t*(2*c+1)<18446744073709551616) (k:Kz7):sQ8 N ((2 ^ t*(2*c+1):Nat):Int) k=k (t:Int):=by
 have h64:(2:Nat) ^ 64=18446744073709551616:=by decide
 have ht0:0<2 ^ t:=ak4 t;have hx0:0<2 ^ t*(2*c+1):=amS ht0 (by omega);have ht:t<64:=by
  rcases alQ t 64 with h1 | h1
  ·exact h1
  ·have h2:2 ^ 64<=2 ^ t:=ak6 (by decide) h1;have h3:2 ^ t*1<=2 ^ t*(2*c+1):=akX _ (by omega);omega
 (unfold sQ8; rw[ae]; unfold GQ8)
 have ha:=Qa (t:=t) (c:=c) (by omega);rw[h64]at ha;generalize 2 ^ t*(2*c+1)=x at *;have e0:((x:Int)==0)=false:=by simp; omega
 have ew:IntKind.wrap .u64 (0 - (x:Int))=((18446744073709551616 - x:Nat):Int):=by rw[aq]; omega
 obtain⟨t1,t2⟩:=VS ⟨t,ht⟩;rw[e0,akR,ew,vz h (by omega),ha,aa t1,t2,aa akN]
def Vd {V w:Nat} (h:V / 18446744073709551616 ^ w ≠ 0):w<(ah V).length:=by
 rcases alQ w (ah V).length with h1 | h1
 ·exact h1
 ·exfalso;have h2:=iw (aT V);rw[aD]at h2;exact h (alm (ak_ h2 (ak6 (by decide) h1)))
def KS {B n:Nat} (h:aR B n):(ah n).length<=B / 64+1:=by
 refine fE _ _ ?_;have e:(18446744073709551616:Nat)=2 ^ 64:=by decide
 rw[e,<- anM];exact ak_ h (ak6 (by decide) (by omega))
def Lo {N:Nat} (g:Bool) (n:Nat) (h:(ah n).length<=1099511627776) (k:Ky5):Q_ N g (ah n) k=tE (-(aU g n)) k:=by
 (unfold Q_; rw[ae]; unfold SC)
 rw[ym _ h,oK (!g) g (ah n) n k];congr 1; unfold aU; cases g <;> simp
def OD {N:Nat} (hN:1000<=N) (n:Nat) (hn:n<18446744073709551616) (b:Bool) (k:Ky5):Q4 N n b k=k false (ah n):=by
 (unfold Q4; rw[ae]; unfold Sp)
 rw[uS hN n hn]; rfl
def tG {N:Nat} (hN:1000<=N) (n:Nat) (hn:n<9223372036854775808) (k:Ky5):G6 N n k=k false (ah n):=by
 (unfold G6 RH; unfold WO; rw[ae]; unfold SG)
 have e:IntKind.wrap .u64 (n:Int)=n:=by rw[aq]; omega
 rw[akQ (by omega:¬(n:Int)<0),akR,e,uS hN n (by omega)]; rfl
def Ln {N:Nat} (s:Nat) (b g:Bool) (n:Nat) (hs:s<4294967296) (hN:(ah n).length+s / 64+4<N) (h:(ah n).length<=1099511627776) (k:Ky5):VA N s b g (ah n) k=tE (aU g (n*2 ^ s)) k:=by unfold VA We;rw[Lv _ (aT n) s hs hN h,aD,Iy g b _ k]
def qU {n:Nat} (h0:n ≠ 0) (h:n<18446744073709551616):ah n=[(n:Int)]:=by rw[bH h0,alm h,ba,ak0 h]
def vA (a b:Int):aA .or .u64 a b=aA .or .u64 b a:=by unfold aA rW;simp only[alD];rw[BitVec.or_comm]
end Go.Proofs.YtbiingchhnlcnaaGreatDoor
