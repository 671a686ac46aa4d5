/-
  WHOLE NUMBERS AS WORDS of 32 bits, the least ahead: what a list is worth, a number's words.
  Conditions: none.
-/
import Derived.Test.YtldenpmpmifnlaaGreatDoorMachT
set_option linter.unusedVariables false
namespace Go.Mach
theorem awK {n:Int} (h1 : -9223372036854775808 ≤ n:=by omega) (h2:n ≤ 9223372036854775807:=by omega):au .i64 n=true:=aj h1 h2
theorem awL {n:Int} {m:Nat} (h1:0 ≤ n:=by omega) (h2:n<(m:Int):=by omega):inR n m=true:=aB h1 h2
def bJ:List Int->Nat
 | []=>0
 | x::r=>x.toNat+4294967296*bJ r
def InW (m:List Int):Prop:=∀ x ∈ m,0<=x/\x<4294967296
def aM (n:Nat):List Int:=if h:n=0 then[]else((n%4294967296:Nat):Int)::aM (n / 4294967296)
termination_by n
decreasing_by omega
theorem gR:aM 0=[]:=by rw[aM]; simp
theorem nE {n:Nat} (h:n ≠ 0):aM n=((n%4294967296:Nat):Int)::aM (n / 4294967296):=by rw[aM]; simp[h]
theorem dL:∀ n,InW (aM n):=by
 intro n;induction n using Nat.strongRecOn with
 | ind n ih=>
  by_cases h:n=0
  ·subst h; rw[gR]; intro x hx; cases hx
  ·rw[nE h];intro x hx;rcases List.mem_cons.1 hx with rfl | hx
   ·omega
   ·exact ih (n / 4294967296) (by omega) x hx
theorem bR:∀ n,bJ (aM n)=n:=by
 intro n;induction n using Nat.strongRecOn with
 | ind n ih=>
  by_cases h:n=0
  ·subst h; rw[gR]; rfl
  ·rw[nE h,bJ,ih (n / 4294967296) (by omega),awS];omega
theorem wT (a b:List Int):bJ (a++b)=bJ a+4294967296 ^ a.length*bJ b:=by
 induction a with
 | nil=>simp[bJ]
 | cons x r ih=>
  rw[ayC,bJ,ih,bJ,axj,awX,axa,awR (4294967296 ^ r.length) 4294967296,awW];omega
theorem InW.take {m:List Int} (h:InW m) (n:Nat):InW (m.take n):=λx hx=>h x (azh hx)
theorem InW.drop {m:List Int} (h:InW m) (n:Nat):InW (m.drop n):=λx hx=>h x (azg hx)
theorem InW.cons {x:Int} {m:List Int} (h:InW (x::m)):(0<=x/\x<4294967296)/\InW m:=⟨h x (by simp),λy hy=>h y (by simp[hy])⟩
theorem InW.at {m:List Int} (h:InW m) {i:Nat}:0<=m.getD i 0/\m.getD i 0<4294967296:=by
 rw[List.getD_eq_getElem?_getD];by_cases hi:i<m.length
 ·rw[List.getElem?_eq_getElem hi]; exact h _ (axN hi)
 ·rw[List.getElem?_eq_none (by omega)]; exact⟨by decide,by decide⟩
theorem m8:∀{m:List Int},InW m->bJ m<4294967296 ^ m.length
 | [],_=>by simp[bJ]
 | x::r,h=>by have ih:=m8 h.cons.2;have hx:=h.cons.1;rw[bJ,axj,awX];have:bJ r+1<=4294967296 ^ r.length:=ih;have:=awU 4294967296 this;omega
theorem BH:∀{m:List Int},InW m->(∀ x,m.getLast? = some x->x ≠ 0)->aM (bJ m)=m
 | [],_,_=>gR
 | [x],h,hl=>by
  have hx:=h.cons.1;have h0:x ≠ 0:=hl x rfl;have e:bJ [x]=x.toNat:=by simp[bJ]
  rw[e,nE (by omega),axl (by omega),gR,awV (by omega),ayZ hx.1]
 | x::y::r,h,hl=>by
  have hx:=h.cons.1;have ih:=BH h.cons.2 (λz hz=>hl z (by rw[List.getLast?_cons_cons]; exact hz));have hne:bJ (y::r) ≠ 0:=by intro h0;rw[h0,gR]at ih; cases ih
  have e1:bJ (x::y::r)=x.toNat+4294967296*bJ (y::r):=rfl;rw[e1,nE (by omega)];have e2:(x.toNat+4294967296*bJ (y::r))%4294967296=x.toNat:=by omega
  have e3:(x.toNat+4294967296*bJ (y::r)) / 4294967296=bJ (y::r):=by omega
  rw[e2,e3,ih,ayZ hx.1]
theorem Fc {m:List Int} {i:Nat} (hi:i<m.length):bJ (m.take (i+1))=bJ (m.take i)+4294967296 ^ i*(m.getD i 0).toNat:=by rw[ax_ hi,wT,axv,axU (by omega),List.getD_eq_getElem?_getD,List.getElem?_eq_getElem hi];simp[bJ]
def dl (S:Nat):Nat->List Int
 | 0=>[]
 | n+1=>dl S n++[((S / 4294967296 ^ n%4294967296:Nat):Int)]
theorem bu (S:Nat):∀ n,(dl S n).length=n
 | 0=>rfl
 | n+1=>by simp[dl,bu S n]
theorem Ew (S:Nat):∀ n,InW (dl S n)
 | 0=>λx hx=>by cases hx
 | n+1=>λx hx=>by
  rcases List.mem_append.1 hx with h | h
  ·exact Ew S n x h
  ·simp only[azv]at h;subst h;omega
theorem P6 (S:Nat):∀ n,bJ (dl S n)=S%4294967296 ^ n
 | 0=>by simp[dl,bJ,azA]
 | n+1=>by rw[dl,wT,bu,P6 S n,awX,azL];simp only[bJ,awS,ax8,axb]
theorem Md (S n m:Nat) (h:n<m):(dl S n++List.replicate (m - n) 0).set n ((S / 4294967296 ^ n%4294967296:Nat):Int)=dl S (n+1)++List.replicate (m - (n+1)) 0:=by
 rw[aze _ _ (by rw[bu]; exact awT _),bu,axu];have:m - n=(m - (n+1))+1:=by omega
 rw[this,axy];simp[dl]
theorem Ds {S n:Nat} (h:S<4294967296 ^ n):aM (bJ (dl S n))=aM S:=by rw[P6,awV h]
end Go.Mach
