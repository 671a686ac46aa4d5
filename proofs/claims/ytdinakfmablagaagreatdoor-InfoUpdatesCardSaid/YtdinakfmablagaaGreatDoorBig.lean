/- Laws in plain Lean. Conditions: none. -/
import Derived.Test.YtdinakfmablagaaGreatDoorMachT
set_option linter.unusedVariables false
namespace Go.Mach
theorem Z5 {n:Int} (h1 : -9223372036854775808 ≤ n:=by omega) (h2:n ≤ 9223372036854775807:=by omega):af .i64 n=true:=ab h1 h2
theorem Z6 {n:Int} {m:Nat} (h1:0 ≤ n:=by omega) (h2:n<(m:Int):=by omega):inR n m=true:=ah h1 h2
def aE:List Int->Nat
 | []=>0
 | x::r=>x.toNat+4294967296*aE r
def InW (m:List Int):Prop:=∀ x ∈ m,0<=x/\x<4294967296
def ai (n:Nat):List Int:=if h:n=0 then[]else((n%4294967296:Nat):Int)::ai (n / 4294967296)
termination_by n
decreasing_by omega
theorem bb:ai 0=[]:=by rw[ai]; simp
theorem ci {n:Nat} (h:n ≠ 0):ai n=((n%4294967296:Nat):Int)::ai (n / 4294967296):=by rw[ai]; simp[h]
theorem bh:∀ n,InW (ai n):=by
 intro n;induction n using Nat.strongRecOn with
 | ind n ih=>
  by_cases h:n=0
  ·subst h; rw[bb]; intro x hx; cases hx
  ·rw[ci h];intro x hx;rcases List.mem_cons.1 hx with rfl | hx
   ·omega
   ·exact ih (n / 4294967296) (by omega) x hx
theorem aM:∀ n,aE (ai n)=n:=by
 intro n;induction n using Nat.strongRecOn with
 | ind n ih=>
  by_cases h:n=0
  ·subst h; rw[bb]; rfl
  ·rw[ci h,aE,ih (n / 4294967296) (by omega),aac];omega
theorem qx (a b:List Int):aE (a++b)=aE a+4294967296 ^ a.length*aE b:=by
 induction a with
 | nil=>simp[aE]
 | cons x r ih=>
  rw[ab0,aE,ih,aE,aaK,aaj,aap,aab (4294967296 ^ r.length) 4294967296,aah];omega
theorem InW.take {m:List Int} (h:InW m) (n:Nat):InW (m.take n):=λx hx=>h x (acX hx)
theorem InW.drop {m:List Int} (h:InW m) (n:Nat):InW (m.drop n):=λx hx=>h x (acW hx)
theorem InW.cons {x:Int} {m:List Int} (h:InW (x::m)):(0<=x/\x<4294967296)/\InW m:=⟨h x (by simp),λy hy=>h y (by simp[hy])⟩
theorem InW.at {m:List Int} (h:InW m) {i:Nat}:0<=m.getD i 0/\m.getD i 0<4294967296:=by
 rw[List.getD_eq_getElem?_getD];by_cases hi:i<m.length
 ·rw[List.getElem?_eq_getElem hi]; exact h _ (abi hi)
 ·rw[List.getElem?_eq_none (by omega)]; exact⟨by decide,by decide⟩
theorem eI:∀{m:List Int},InW m->aE m<4294967296 ^ m.length
 | [],_=>by simp[aE]
 | x::r,h=>by have ih:=eI h.cons.2;have hx:=h.cons.1;rw[aE,aaK,aaj];have:aE r+1<=4294967296 ^ r.length:=ih;have:=aaa 4294967296 this;omega
theorem uX:∀{m:List Int},InW m->(∀ x,m.getLast? = some x->x ≠ 0)->ai (aE m)=m
 | [],_,_=>bb
 | [x],h,hl=>by
  have hx:=h.cons.1;have h0:x ≠ 0:=hl x rfl;have e:aE [x]=x.toNat:=by simp[aE]
  rw[e,ci (by omega),aaC (by omega),bb,aai (by omega),acx hx.1]
 | x::y::r,h,hl=>by
  have hx:=h.cons.1;have ih:=uX h.cons.2 (λz hz=>hl z (by rw[List.getLast?_cons_cons]; exact hz));have hne:aE (y::r) ≠ 0:=by intro h0;rw[h0,bb]at ih; cases ih
  have e1:aE (x::y::r)=x.toNat+4294967296*aE (y::r):=rfl;rw[e1,ci (by omega)];have e2:(x.toNat+4294967296*aE (y::r))%4294967296=x.toNat:=by omega
  have e3:(x.toNat+4294967296*aE (y::r)) / 4294967296=aE (y::r):=by omega
  rw[e2,e3,ih,acx hx.1]
theorem yY {m:List Int} {i:Nat} (hi:i<m.length):aE (m.take (i+1))=aE (m.take i)+4294967296 ^ i*(m.getD i 0).toNat:=by rw[abq hi,qx,aaO,abm (by omega),List.getD_eq_getElem?_getD,List.getElem?_eq_getElem hi];simp[aE]
def dl (S:Nat):Nat->List Int
 | 0=>[]
 | n+1=>dl S n++[((S / 4294967296 ^ n%4294967296:Nat):Int)]
theorem al (S:Nat):∀ n,(dl S n).length=n
 | 0=>rfl
 | n+1=>by simp[dl,al S n]
theorem iD (S:Nat):∀ n,InW (dl S n)
 | 0=>λx hx=>by cases hx
 | n+1=>λx hx=>by
  rcases List.mem_append.1 hx with h | h
  ·exact iD S n x h
  ·simp only[adf]at h;subst h;omega
theorem oR (S:Nat):∀ n,aE (dl S n)=S%4294967296 ^ n
 | 0=>by simp[dl,aE,acJ]
 | n+1=>by rw[dl,qx,al,oR S n,aaj,ac5];simp only[aE,aac,abt,aaF]
theorem yc (S n m:Nat) (h:n<m):(dl S n++List.replicate (m - n) 0).set n ((S / 4294967296 ^ n%4294967296:Nat):Int)=dl S (n+1)++List.replicate (m - (n+1)) 0:=by
 rw[acl _ _ (by rw[al]; exact aak _),al,aaH];have:m - n=(m - (n+1))+1:=by omega
 rw[this,aaT];simp[dl]
theorem ou {S n:Nat} (h:S<4294967296 ^ n):ai (aE (dl S n))=ai S:=by rw[oR,aai h]
end Go.Mach
