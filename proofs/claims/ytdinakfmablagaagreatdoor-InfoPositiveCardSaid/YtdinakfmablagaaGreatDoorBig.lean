/- Laws in plain Lean. Conditions: none. -/
import Derived.Test.YtdinakfmablagaaGreatDoorMachT
set_option linter.unusedVariables false
namespace Go.Mach
theorem afg {n:Int} (h1 : -9223372036854775808 ≤ n:=by omega) (h2:n ≤ 9223372036854775807:=by omega):af .i64 n=true:=ab h1 h2
theorem afh {n:Int} {m:Nat} (h1:0 ≤ n:=by omega) (h2:n<(m:Int):=by omega):inR n m=true:=ai h1 h2
def aG:List Int->Nat
 | []=>0
 | x::r=>x.toNat+4294967296*aG r
def InW (m:List Int):Prop:=∀ x ∈ m,0<=x/\x<4294967296
def aj (n:Nat):List Int:=if h:n=0 then[]else((n%4294967296:Nat):Int)::aj (n / 4294967296)
termination_by n
decreasing_by omega
theorem be:aj 0=[]:=by rw[aj]; simp
theorem cI {n:Nat} (h:n ≠ 0):aj n=((n%4294967296:Nat):Int)::aj (n / 4294967296):=by rw[aj]; simp[h]
theorem bv:∀ n,InW (aj n):=by
 intro n;induction n using Nat.strongRecOn with
 | ind n ih=>
  by_cases h:n=0
  ·subst h; rw[be]; intro x hx; cases hx
  ·rw[cI h];intro x hx;rcases List.mem_cons.1 hx with rfl | hx
   ·omega
   ·exact ih (n / 4294967296) (by omega) x hx
theorem aM:∀ n,aG (aj n)=n:=by
 intro n;induction n using Nat.strongRecOn with
 | ind n ih=>
  by_cases h:n=0
  ·subst h; rw[be]; rfl
  ·rw[cI h,aG,ih (n / 4294967296) (by omega),afo];omega
theorem sK (a b:List Int):aG (a++b)=aG a+4294967296 ^ a.length*aG b:=by
 induction a with
 | nil=>simp[aG]
 | cons x r ih=>
  rw[ahb,aG,ih,aG,afW,afv,afB,afn (4294967296 ^ r.length) 4294967296,aft];omega
theorem InW.take {m:List Int} (h:InW m) (n:Nat):InW (m.take n):=λx hx=>h x (ah9 hx)
theorem InW.drop {m:List Int} (h:InW m) (n:Nat):InW (m.drop n):=λx hx=>h x (ah8 hx)
theorem InW.cons {x:Int} {m:List Int} (h:InW (x::m)):(0<=x/\x<4294967296)/\InW m:=⟨h x (by simp),λy hy=>h y (by simp[hy])⟩
theorem InW.at {m:List Int} (h:InW m) {i:Nat}:0<=m.getD i 0/\m.getD i 0<4294967296:=by
 rw[List.getD_eq_getElem?_getD];by_cases hi:i<m.length
 ·rw[List.getElem?_eq_getElem hi]; exact h _ (agv hi)
 ·rw[List.getElem?_eq_none (by omega)]; exact⟨by decide,by decide⟩
theorem fz:∀{m:List Int},InW m->aG m<4294967296 ^ m.length
 | [],_=>by simp[aG]
 | x::r,h=>by have ih:=fz h.cons.2;have hx:=h.cons.1;rw[aG,afW,afv];have:aG r+1<=4294967296 ^ r.length:=ih;have:=afm 4294967296 this;omega
theorem xG:∀{m:List Int},InW m->(∀ x,m.getLast? = some x->x ≠ 0)->aj (aG m)=m
 | [],_,_=>be
 | [x],h,hl=>by
  have hx:=h.cons.1;have h0:x ≠ 0:=hl x rfl;have e:aG [x]=x.toNat:=by simp[aG]
  rw[e,cI (by omega),afO (by omega),be,afu (by omega),ahJ hx.1]
 | x::y::r,h,hl=>by
  have hx:=h.cons.1;have ih:=xG h.cons.2 (λz hz=>hl z (by rw[List.getLast?_cons_cons]; exact hz));have hne:aG (y::r) ≠ 0:=by intro h0;rw[h0,be]at ih; cases ih
  have e1:aG (x::y::r)=x.toNat+4294967296*aG (y::r):=rfl;rw[e1,cI (by omega)];have e2:(x.toNat+4294967296*aG (y::r))%4294967296=x.toNat:=by omega
  have e3:(x.toNat+4294967296*aG (y::r)) / 4294967296=aG (y::r):=by omega
  rw[e2,e3,ih,ahJ hx.1]
theorem Bf {m:List Int} {i:Nat} (hi:i<m.length):aG (m.take (i+1))=aG (m.take i)+4294967296 ^ i*(m.getD i 0).toNat:=by rw[agD hi,sK,af0,agz (by omega),List.getD_eq_getElem?_getD,List.getElem?_eq_getElem hi];simp[aG]
def dl (S:Nat):Nat->List Int
 | 0=>[]
 | n+1=>dl S n++[((S / 4294967296 ^ n%4294967296:Nat):Int)]
theorem al (S:Nat):∀ n,(dl S n).length=n
 | 0=>rfl
 | n+1=>by simp[dl,al S n]
theorem jk (S:Nat):∀ n,InW (dl S n)
 | 0=>λx hx=>by cases hx
 | n+1=>λx hx=>by
  rcases List.mem_append.1 hx with h | h
  ·exact jk S n x h
  ·simp only[ain]at h;subst h;omega
theorem qS (S:Nat):∀ n,aG (dl S n)=S%4294967296 ^ n
 | 0=>by simp[dl,aG,ahV]
 | n+1=>by rw[dl,sK,al,qS S n,afv,aid];simp only[aG,afo,agF,afR]
theorem Aq (S n m:Nat) (h:n<m):(dl S n++List.replicate (m - n) 0).set n ((S / 4294967296 ^ n%4294967296:Nat):Int)=dl S (n+1)++List.replicate (m - (n+1)) 0:=by
 rw[ahw _ _ (by rw[al]; exact afw _),al,afT];have:m - n=(m - (n+1))+1:=by omega
 rw[this,af5];simp[dl]
theorem qx {S n:Nat} (h:S<4294967296 ^ n):aj (aG (dl S n))=aj S:=by rw[qS,afu h]
end Go.Mach
