/- The machine. Conditions: none. -/
import Derived.Test.YtbiingchhnlcnaaGreatDoorMachT
set_option linter.defProp false
set_option linter.unusedVariables false
namespace Go.Mach
open Go.ChangeShapes Go.WideShapes Go.ChangeAt Go.RowKit
section
variable {H:Type} {enc:TypeId × Value->H} {P:Program} {w:World}
def KB {ok:Nat->Prop} {w:World} {ρ:Rho}:RepL ok w ρ [] []:=⟨rfl,λi u v hu _=>by simp at hu⟩
def mD {ok:Nat->Prop} {w:World} {ρ:Rho} {a:V} {x:Value} {us:List V} {xs:List Value} (h1:Rep ok w ρ a x) (h2:RepL ok w ρ us xs):RepL ok w ρ (a::us) (x::xs):=by
 refine⟨by simp[h2.1],λi u v hu hv=>?_⟩;cases i with
 | zero=>simp at hu hv; subst hu; subst hv; exact h1
 | succ i=>exact h2.2 i u v (by simpa using hu) (by simpa using hv)
def AF (P:Program) (t:Nat):Bool:=match P.underlying t with
 | some (.struct _)=>true
 | some (.array _ _)=>true
 | _=>false
def EB (P:Program) (t:Nat) (rt:RT) (x:rt.Ty):V:=cond (AF P t) (.agg (rt.cells x)) ((rt.cells x).headD .any)
def Ps {r:Reach} {b0:Nat} {t:TypeId} {v:Value} (ht:AF P t=false) (hval:Value.okWide P w r b0 t v):v.cells = #[v]:=by
 cases v with
 | agg cs=>
  exfalso;unfold AF at ht;unfold Value.okWide at hval;revert ht hval;cases hu:P.underlying t with
  | none=>intro _ hval; simp[Cell.okWide,Cell.ok,hu]at hval
  | some d=>cases d <;> simp[Cell.okWide,Cell.ok,hu]
 | _=>rfl
def qs {r:Reach} {b0 base:Nat} {held:Bool} {t d:Nat} {rt:RT} {v:Value} {y:DataW H} {ps:List MemPlace} (hrt:Bd P d t=some rt) (hl:HQ P d t=true)
  (hval:Value.okWide P w r b0 t v) (hd:DataW.Trod enc P w base (λ_=>true) held t v y ps) (hw:∀ n ∈ y.weights P t,n<=reachBytes) :
  ∃ x:rt.Ty,(rt.wf x/\rt.meas x<=fY y) /\ ∀ ok:Nat->Prop,(∀ b,ok b) -> ∀ ρ,Rep ok w ρ (EB P t rt x) v:=by
 obtain⟨fuel,hf⟩:=hd;obtain⟨x,x1,x2,x3⟩:=zM d t rt hrt hl fuel _ _ hf hw;refine⟨x,x1,λok hok ρ=>?_⟩;have hx:=x2 ok hok ρ;unfold EB;cases ha:AF P t with
 | true=>
  rw[aiw];have:∃ cs:Array Value,v=.agg cs:=by
   unfold AF at ha;unfold Value.okWide at hval;split at ha
   ·rename_i e; rw[e]at hval; obtain⟨cs,h,-⟩:=hval; exact⟨cs,h⟩
   ·rename_i e; rw[e]at hval; obtain⟨cs,h,-⟩:=hval; exact⟨cs,h⟩
   ·cases ha
  obtain⟨cs,rfl⟩:=this;have e:(Value.cells (.agg cs))=cs:=rfl;rw[e]at hx x3;have:=Rep.agg (ok:=ok) (w:=w) (ρ:=ρ) (rt.cells x) cs.toList hx.1 (λv hv=>x3 v hv) hx.2;simpa using this
 | false=>
  rw[aiv];rw[Ps ha hval]at hx;have hl1:(rt.cells x).length=1:=hx.1
  match hc:rt.cells x,hl1 with
  | [c],_=>
   rw[hc]at hx;exact hx.2 0 c v rfl rfl
def oj {ts:List TypeId} {ds:List (DataW H)} (h:(DataW.weightsEach P ts ds).all (· <= reachBytes)=true) {j:Nat} {t:TypeId} {d:DataW H} (ht:ts[j]? = some t) (hd:ds[j]? = some d):∀ n ∈ d.weights P t,n<=reachBytes:=
 λn hn=>by simpa using List.all_eq_true.1 h n (DataW.weights_mem_each ht hd n hn)
end
end Go.Mach
