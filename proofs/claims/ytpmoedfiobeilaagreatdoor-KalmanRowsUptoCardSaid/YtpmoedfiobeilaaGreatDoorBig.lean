/- Laws in plain Lean. Conditions: none. -/
import Derived.Test.YtpmoedfiobeilaaGreatDoorMachT
set_option linter.defProp false
set_option linter.unusedVariables false
namespace Go.Mach
def adi {n:Int} (h1 : -9223372036854775808 ≤ n:=by omega) (h2:n ≤ 9223372036854775807:=by omega):ah .i64 n=true:=ab h1 h2
def adj {n:Int} {m:Nat} (h1:0 ≤ n:=by omega) (h2:n<(m:Int):=by omega):inR n m=true:=af h1 h2
def aC:List Int->Nat
 | []=>0
 | x::r=>x.toNat+4294967296*aC r
def InW (m:List Int):Prop:=∀ x ∈ m,0<=x/\x<4294967296
def aj (n:Nat):List Int:=if h:n=0 then[]else((n%4294967296:Nat):Int)::aj (n / 4294967296)
termination_by n
decreasing_by omega
def aU:aj 0=[]:=by rw[aj]; simp
def b_ {n:Nat} (h:n ≠ 0):aj n=((n%4294967296:Nat):Int)::aj (n / 4294967296):=by rw[aj]; simp[h]
def aY:∀ n,InW (aj n):=by
 intro n;induction n using Nat.strongRecOn with
 | ind n ih=>
  by_cases h:n=0
  ·subst h; rw[aU]; intro x hx; cases hx
  ·rw[b_ h];intro x hx;rcases List.mem_cons.1 hx with rfl | hx
   ·omega
   ·exact ih (n / 4294967296) (by omega) x hx
def aI:∀ n,aC (aj n)=n:=by
 intro n;induction n using Nat.strongRecOn with
 | ind n ih=>
  by_cases h:n=0
  ·subst h; rw[aU]; rfl
  ·rw[b_ h,aC,ih (n / 4294967296) (by omega),adr];omega
def qZ (a b:List Int):aC (a++b)=aC a+4294967296 ^ a.length*aC b:=by
 induction a with
 | nil=>simp[aC]
 | cons x r ih=>
  rw[ae8,aC,ih,aC,adZ,ady,adC,ado (4294967296 ^ r.length) 4294967296,adw];omega
def InW.take {m:List Int} (h:InW m) (n:Nat):InW (m.take n):=λx hx=>h x (af8 hx)
def InW.drop {m:List Int} (h:InW m) (n:Nat):InW (m.drop n):=λx hx=>h x (af7 hx)
def InW.cons {x:Int} {m:List Int} (h:InW (x::m)):(0<=x/\x<4294967296)/\InW m:=⟨h x (by simp),λy hy=>h y (by simp[hy])⟩
def InW.at {m:List Int} (h:InW m) {i:Nat}:0<=m.getD i 0/\m.getD i 0<4294967296:=by
 rw[List.getD_eq_getElem?_getD];by_cases hi:i<m.length
 ·rw[List.getElem?_eq_getElem hi]; exact h _ (aey hi)
 ·rw[List.getElem?_eq_none (by omega)]; exact⟨by decide,by decide⟩
def eS:∀{m:List Int},InW m->aC m<4294967296 ^ m.length
 | [],_=>by simp[aC]
 | x::r,h=>by have ih:=eS h.cons.2;have hx:=h.cons.1;rw[aC,adZ,ady];have:aC r+1<=4294967296 ^ r.length:=ih;have:=adp 4294967296 this;omega
def vC:∀{m:List Int},InW m->(∀ x,m.getLast? = some x->x ≠ 0)->aj (aC m)=m
 | [],_,_=>aU
 | [x],h,hl=>by
  have hx:=h.cons.1;have h0:x ≠ 0:=hl x rfl;have e:aC [x]=x.toNat:=by simp[aC]
  rw[e,b_ (by omega),adS (by omega),aU,adv (by omega),afJ hx.1]
 | x::y::r,h,hl=>by
  have hx:=h.cons.1;have ih:=vC h.cons.2 (λz hz=>hl z (by rw[List.getLast?_cons_cons]; exact hz));have hne:aC (y::r) ≠ 0:=by intro h0;rw[h0,aU]at ih; cases ih
  have e1:aC (x::y::r)=x.toNat+4294967296*aC (y::r):=rfl;rw[e1,b_ (by omega)];have e2:(x.toNat+4294967296*aC (y::r))%4294967296=x.toNat:=by omega
  have e3:(x.toNat+4294967296*aC (y::r)) / 4294967296=aC (y::r):=by omega
  rw[e2,e3,ih,afJ hx.1]
def zh {m:List Int} {i:Nat} (hi:i<m.length):aC (m.take (i+1))=aC (m.take i)+4294967296 ^ i*(m.getD i 0).toNat:=by rw[aeG hi,qZ,ad3,aeO (by omega),List.getD_eq_getElem?_getD,List.getElem?_eq_getElem hi];simp[aC]
def dl (S:Nat):Nat->List Int
 | 0=>[]
 | n+1=>dl S n++[((S / 4294967296 ^ n%4294967296:Nat):Int)]
def al (S:Nat):∀ n,(dl S n).length=n
 | 0=>rfl
 | n+1=>by simp[dl,al S n]
def iN (S:Nat):∀ n,InW (dl S n)
 | 0=>λx hx=>by cases hx
 | n+1=>λx hx=>by
  rcases List.mem_append.1 hx with h | h
  ·exact iN S n x h
  ·simp only[agq]at h;subst h;omega
def pp (S:Nat):∀ n,aC (dl S n)=S%4294967296 ^ n
 | 0=>by simp[dl,aC,age]
 | n+1=>by rw[dl,qZ,al,pp S n,ady,agf];simp only[aC,adr,aeK,adU]
def yq (S n m:Nat) (h:n<m):(dl S n++List.replicate (m - n) 0).set n ((S / 4294967296 ^ n%4294967296:Nat):Int)=dl S (n+1)++List.replicate (m - (n+1)) 0:=by
 rw[afw _ _ (by rw[al]; exact adx _),al,adX];have:m - n=(m - (n+1))+1:=by omega
 rw[this,ad8];simp[dl]
def oX {S n:Nat} (h:S<4294967296 ^ n):aj (aC (dl S n))=aj S:=by rw[pp,adv h]
end Go.Mach
