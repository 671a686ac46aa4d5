/- Laws in plain Lean. Conditions: none. -/
import Derived.Test.YteifemaagdeomaaGreatDoorMachT
set_option linter.defProp false
set_option linter.unusedVariables false
namespace Go.Mach
def aGO {n:Int} (h1 : -9223372036854775808 ≤ n:=by omega) (h2:n ≤ 9223372036854775807:=by omega):aj .i64 n=true:=af h1 h2
def aGP {n:Int} {m:Nat} (h1:0 ≤ n:=by omega) (h2:n<(m:Int):=by omega):inR n m=true:=al h1 h2
def aI:List Int->Nat
 | []=>0
 | x::r=>x.toNat+4294967296*aI r
def InW (m:List Int):Prop:=∀ x ∈ m,0<=x/\x<4294967296
def am (n:Nat):List Int:=if h:n=0 then[]else((n%4294967296:Nat):Int)::am (n / 4294967296)
termination_by n
decreasing_by omega
def bG:am 0=[]:=by rw[am]; simp
def fQ {n:Nat} (h:n ≠ 0):am n=((n%4294967296:Nat):Int)::am (n / 4294967296):=by rw[am]; simp[h]
def bN:∀ n,InW (am n):=by
 intro n;induction n using Nat.strongRecOn with
 | ind n ih=>
  by_cases h:n=0
  ·subst h; rw[bG]; intro x hx; cases hx
  ·rw[fQ h];intro x hx;rcases List.mem_cons.1 hx with rfl | hx
   ·omega
   ·exact ih (n / 4294967296) (by omega) x hx
def aS:∀ n,aI (am n)=n:=by
 intro n;induction n using Nat.strongRecOn with
 | ind n ih=>
  by_cases h:n=0
  ·subst h; rw[bG]; rfl
  ·rw[fQ h,aI,ih (n / 4294967296) (by omega),aGU];omega
def zV (a b:List Int):aI (a++b)=aI a+4294967296 ^ a.length*aI b:=by
 induction a with
 | nil=>simp[aI]
 | cons x r ih=>
  rw[aIB,aI,ih,aI,aHv,aG3,aG8,aGV (4294967296 ^ r.length) 4294967296,aG2];omega
def InW.take {m:List Int} (h:InW m) (n:Nat):InW (m.take n):=λx hx=>h x (aI6 hx)
def InW.drop {m:List Int} (h:InW m) (n:Nat):InW (m.drop n):=λx hx=>h x (aJB hx)
def InW.cons {x:Int} {m:List Int} (h:InW (x::m)):(0<=x/\x<4294967296)/\InW m:=⟨h x (by simp),λy hy=>h y (by simp[hy])⟩
def InW.at {m:List Int} (h:InW m) {i:Nat}:0<=m.getD i 0/\m.getD i 0<4294967296:=by
 rw[List.getD_eq_getElem?_getD];by_cases hi:i<m.length
 ·rw[List.getElem?_eq_getElem hi]; exact h _ (aH_ hi)
 ·rw[List.getElem?_eq_none (by omega)]; exact⟨by decide,by decide⟩
def jU:∀{m:List Int},InW m->aI m<4294967296 ^ m.length
 | [],_=>by simp[aI]
 | x::r,h=>by have ih:=jU h.cons.2;have hx:=h.cons.1;rw[aI,aHv,aG3];have:aI r+1<=4294967296 ^ r.length:=ih;have:=aGX 4294967296 this;omega
def ER:∀{m:List Int},InW m->(∀ x,m.getLast? = some x->x ≠ 0)->am (aI m)=m
 | [],_,_=>bG
 | [x],h,hl=>by
  have hx:=h.cons.1;have h0:x ≠ 0:=hl x rfl;have e:aI [x]=x.toNat:=by simp[aI]
  rw[e,fQ (by omega),aHm (by omega),bG,aG1 (by omega),aJd hx.1]
 | x::y::r,h,hl=>by
  have hx:=h.cons.1;have ih:=ER h.cons.2 (λz hz=>hl z (by rw[List.getLast?_cons_cons]; exact hz));have hne:aI (y::r) ≠ 0:=by intro h0;rw[h0,bG]at ih; cases ih
  have e1:aI (x::y::r)=x.toNat+4294967296*aI (y::r):=rfl;rw[e1,fQ (by omega)];have e2:(x.toNat+4294967296*aI (y::r))%4294967296=x.toNat:=by omega
  have e3:(x.toNat+4294967296*aI (y::r)) / 4294967296=aI (y::r):=by omega
  rw[e2,e3,ih,aJd hx.1]
def JH {m:List Int} {i:Nat} (hi:i<m.length):aI (m.take (i+1))=aI (m.take i)+4294967296 ^ i*(m.getD i 0).toNat:=by rw[aHJ hi,zV,aHl,aIc (by omega),List.getD_eq_getElem?_getD,List.getElem?_eq_getElem hi];simp[aI]
def dl (S:Nat):Nat->List Int
 | 0=>[]
 | n+1=>dl S n++[((S / 4294967296 ^ n%4294967296:Nat):Int)]
def aq (S:Nat):∀ n,(dl S n).length=n
 | 0=>rfl
 | n+1=>by simp[dl,aq S n]
def nd (S:Nat):∀ n,InW (dl S n)
 | 0=>λx hx=>by cases hx
 | n+1=>λx hx=>by
  rcases List.mem_append.1 hx with h | h
  ·exact nd S n x h
  ·simp only[aJR]at h;subst h;omega
def ya (S:Nat):∀ n,aI (dl S n)=S%4294967296 ^ n
 | 0=>by simp[dl,aI,aJG]
 | n+1=>by rw[dl,zV,aq,ya S n,aG3,aJH];simp only[aI,aGU,aIb,aHo]
def IW (S n m:Nat) (h:n<m):(dl S n++List.replicate (m - n) 0).set n ((S / 4294967296 ^ n%4294967296:Nat):Int)=dl S (n+1)++List.replicate (m - (n+1)) 0:=by
 rw[aIZ _ _ (by rw[aq]; exact aG4 _),aq,aHq];have:m - n=(m - (n+1))+1:=by omega
 rw[this,aHA];simp[dl]
def xx {S n:Nat} (h:S<4294967296 ^ n):am (aI (dl S n))=am S:=by rw[ya,aG1 h]
end Go.Mach
