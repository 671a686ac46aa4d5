/- Laws in plain Lean. Conditions: none. -/
import Derived.Test.YtdinakfmablagaaGreatDoorMachT
set_option linter.unusedVariables false
namespace Go.Mach
theorem afM {n:Int} (h1 : -9223372036854775808 ≤ n:=by omega) (h2:n ≤ 9223372036854775807:=by omega):af .i64 n=true:=ab h1 h2
theorem afN {n:Int} {m:Nat} (h1:0 ≤ n:=by omega) (h2:n<(m:Int):=by omega):inR n m=true:=ah h1 h2
def aD:List Int->Nat
 | []=>0
 | x::r=>x.toNat+4294967296*aD r
def InW (m:List Int):Prop:=∀ x ∈ m,0<=x/\x<4294967296
def aj (n:Nat):List Int:=if h:n=0 then[]else((n%4294967296:Nat):Int)::aj (n / 4294967296)
termination_by n
decreasing_by omega
theorem aZ:aj 0=[]:=by rw[aj]; simp
theorem cj {n:Nat} (h:n ≠ 0):aj n=((n%4294967296:Nat):Int)::aj (n / 4294967296):=by rw[aj]; simp[h]
theorem bf:∀ n,InW (aj n):=by
 intro n;induction n using Nat.strongRecOn with
 | ind n ih=>
  by_cases h:n=0
  ·subst h; rw[aZ]; intro x hx; cases hx
  ·rw[cj h];intro x hx;rcases List.mem_cons.1 hx with rfl | hx
   ·omega
   ·exact ih (n / 4294967296) (by omega) x hx
theorem aL:∀ n,aD (aj n)=n:=by
 intro n;induction n using Nat.strongRecOn with
 | ind n ih=>
  by_cases h:n=0
  ·subst h; rw[aZ]; rfl
  ·rw[cj h,aD,ih (n / 4294967296) (by omega),afV];omega
theorem sN (a b:List Int):aD (a++b)=aD a+4294967296 ^ a.length*aD b:=by
 induction a with
 | nil=>simp[aD]
 | cons x r ih=>
  rw[ahA,aD,ih,aD,ags,af2,af6,afS (4294967296 ^ r.length) 4294967296,af0];omega
theorem InW.take {m:List Int} (h:InW m) (n:Nat):InW (m.take n):=λx hx=>h x (aiC hx)
theorem InW.drop {m:List Int} (h:InW m) (n:Nat):InW (m.drop n):=λx hx=>h x (aiB hx)
theorem InW.cons {x:Int} {m:List Int} (h:InW (x::m)):(0<=x/\x<4294967296)/\InW m:=⟨h x (by simp),λy hy=>h y (by simp[hy])⟩
theorem InW.at {m:List Int} (h:InW m) {i:Nat}:0<=m.getD i 0/\m.getD i 0<4294967296:=by
 rw[List.getD_eq_getElem?_getD];by_cases hi:i<m.length
 ·rw[List.getElem?_eq_getElem hi]; exact h _ (ag1 hi)
 ·rw[List.getElem?_eq_none (by omega)]; exact⟨by decide,by decide⟩
theorem eQ:∀{m:List Int},InW m->aD m<4294967296 ^ m.length
 | [],_=>by simp[aD]
 | x::r,h=>by have ih:=eQ h.cons.2;have hx:=h.cons.1;rw[aD,ags,af2];have:aD r+1<=4294967296 ^ r.length:=ih;have:=afT 4294967296 this;omega
theorem xp:∀{m:List Int},InW m->(∀ x,m.getLast? = some x->x ≠ 0)->aj (aD m)=m
 | [],_,_=>aZ
 | [x],h,hl=>by
  have hx:=h.cons.1;have h0:x ≠ 0:=hl x rfl;have e:aD [x]=x.toNat:=by simp[aD]
  rw[e,cj (by omega),agm (by omega),aZ,afZ (by omega),aic hx.1]
 | x::y::r,h,hl=>by
  have hx:=h.cons.1;have ih:=xp h.cons.2 (λz hz=>hl z (by rw[List.getLast?_cons_cons]; exact hz));have hne:aD (y::r) ≠ 0:=by intro h0;rw[h0,aZ]at ih; cases ih
  have e1:aD (x::y::r)=x.toNat+4294967296*aD (y::r):=rfl;rw[e1,cj (by omega)];have e2:(x.toNat+4294967296*aD (y::r))%4294967296=x.toNat:=by omega
  have e3:(x.toNat+4294967296*aD (y::r)) / 4294967296=aD (y::r):=by omega
  rw[e2,e3,ih,aic hx.1]
theorem Bh {m:List Int} {i:Nat} (hi:i<m.length):aD (m.take (i+1))=aD (m.take i)+4294967296 ^ i*(m.getD i 0).toNat:=by rw[ag8 hi,sN,agv,ahf (by omega),List.getD_eq_getElem?_getD,List.getElem?_eq_getElem hi];simp[aD]
def dl (S:Nat):Nat->List Int
 | 0=>[]
 | n+1=>dl S n++[((S / 4294967296 ^ n%4294967296:Nat):Int)]
theorem al (S:Nat):∀ n,(dl S n).length=n
 | 0=>rfl
 | n+1=>by simp[dl,al S n]
theorem jt (S:Nat):∀ n,InW (dl S n)
 | 0=>λx hx=>by cases hx
 | n+1=>λx hx=>by
  rcases List.mem_append.1 hx with h | h
  ·exact jt S n x h
  ·simp only[aiQ]at h;subst h;omega
theorem qM (S:Nat):∀ n,aD (dl S n)=S%4294967296 ^ n
 | 0=>by simp[dl,aD,aiF]
 | n+1=>by rw[dl,sN,al,qM S n,af2,aiG];simp only[aD,afV,ahb,agn]
theorem At (S n m:Nat) (h:n<m):(dl S n++List.replicate (m - n) 0).set n ((S / 4294967296 ^ n%4294967296:Nat):Int)=dl S (n+1)++List.replicate (m - (n+1)) 0:=by
 rw[ahZ _ _ (by rw[al]; exact af1 _),al,agq];have:m - n=(m - (n+1))+1:=by omega
 rw[this,agA];simp[dl]
theorem qt {S n:Nat} (h:S<4294967296 ^ n):aj (aD (dl S n))=aj S:=by rw[qM,afZ h]
end Go.Mach
