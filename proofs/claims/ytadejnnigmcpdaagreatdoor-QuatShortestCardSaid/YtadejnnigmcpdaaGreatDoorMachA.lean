/-
  THE MACHINE, first part: what is proved: nothing yet; here stand the abstract values, blocks and the evaluator, a Bool-valued function over the model's Code.
  Conditions: none (definitions).
-/
import Derived.WalkKit
import Derived.Laws.FloatArith
import Derived.KernelRfl
import Derived.Test.YtadejnnigmcpdaaGreatDoorTab
set_option linter.unusedVariables false
section
namespace Go.Mach
abbrev ap0:=@of_decide_eq_true
abbrev ap1:=@Nat.le_refl
abbrev ap2:=@Nat.le_trans
abbrev ap3:=@Nat.pow_add
abbrev ap4:=@Nat.mul_le_mul_right
abbrev ap5:=@Option.some.injEq
abbrev ap6:=@Nat.lt_of_lt_of_le
abbrev ap7:=@Nat.two_pow_pos
abbrev ap8:=@cond_true
abbrev ap9:=@List.eq_nil_of_length_eq_zero
abbrev ap_:=@cond_false
abbrev aqa:=@if_false
abbrev aqb:=@Nat.zero_add
abbrev aqc:=@Option.map_eq_some_iff
abbrev aqd:=@Nat.mul_assoc
abbrev aqe:=@List.append_assoc
abbrev aqf:=@Nat.pow_le_pow_right
abbrev aqg:=@Bool.false_eq_true
abbrev aqh:=@Option.map_some
abbrev aqi:=@Nat.mod_eq_of_lt
abbrev aqj:=@Bool.and_eq_true
abbrev aqk:=@List.map_cons
abbrev aql:=@List.mem_append_right
abbrev aqm:=@Nat.pos_of_ne_zero
abbrev aqn:=@List.size_toArray
abbrev aqo:=@List.getElem_of_mem
abbrev aqp:=@Nat.min_eq_left
abbrev aqq:=@List.length_cons
abbrev aqr:=@List.getElem_mem
abbrev aqs:=@Option.getD_some
abbrev aqt:=@Nat.add_assoc
abbrev aqu:=@BitVec.toNat_ofNat
abbrev aqv:=@Nat.pow_succ
abbrev aqw:=@Nat.mul_comm
abbrev aqx:=@decide_eq_true
abbrev aqy:=@Nat.add_zero
abbrev aqz:=@Nat.and_two_pow_sub_one_eq_mod
abbrev aqA:=@decide_eq_false_iff_not
abbrev aqB:=@if_true
abbrev aqC:=@decide_eq_true_iff
abbrev aqD:=@Nat.add_mul
abbrev aqE:=@decide_eq_false
abbrev aqF:=@Bool.or_eq_true
abbrev aqG:=@Nat.mul_lt_mul_of_pos_right
abbrev aqH:=@Nat.testBit_two_pow_mul_add
abbrev aqI:=@Nat.one_mul
abbrev aqJ:=@Std.Legacy.Range.forIn_eq_forIn_range'
abbrev aqK:=@List.mem_append_left
abbrev aqL:=@BitVec.ofInt_natCast
abbrev aqM:=@List.length_take
abbrev aqN:=@Nat.le_add_right
abbrev aqO:=@List.replicate_succ
abbrev aqP:=@Array.ext'
abbrev aqQ:=@Nat.lt_or_ge
abbrev aqR:=@Nat.mul_div_cancel
abbrev aqS:=@Nat.le_mul_of_pos_right
abbrev aqT:=@Int.natAbs_natCast
abbrev aqU:=@Nat.mul_one
abbrev aqV:=@Nat.sub_self
abbrev aqW:=@Nat.le_div_iff_mul_le
abbrev aqX:=@List.map_toArray
abbrev aqY:=@beq_self_eq_true
abbrev aqZ:=@Nat.div_eq_of_lt
abbrev aq0:=@List.mem_cons_of_mem
abbrev aq1:=@List.mem_cons
abbrev aq2:=@List.length_nil
abbrev aq3:=@Bool.eq_iff_iff
abbrev aq4:=@Nat.mul_pos
abbrev aq5:=@List.length_append
abbrev aq6:=@Nat.lt_or_gt_of_ne
abbrev aq7:=@Nat.zero_mul
abbrev aq8:=@Nat.mod_lt
abbrev aq9:=@List.flatten_cons
abbrev aq_:=@Array.size_append
abbrev ara:=@Bool.not_eq_true'
abbrev arb:=@decide_eq_true_eq
abbrev arc:=@List.length_drop
abbrev ard:=@List.cons_append
abbrev arf:=@Option.bind_some
abbrev arg:=@BitVec.toNat_and
abbrev arh:=@Nat.div_add_mod
abbrev arj:=@Nat.testBit_and
abbrev ark:=@Nat.mul_ne_zero
abbrev arl:=@beq_iff_eq
abbrev arm:=@Nat.div_one
def ile:Int->Int->Bool
 | .ofNat a,.ofNat b=>Nat.ble a b
 | .negSucc _,.ofNat _=>true
 | .ofNat _,.negSucc _=>false
 | .negSucc a,.negSucc b=>Nat.ble b a
theorem KG (a b:Int):ile a b=true↔a<=b:=by cases a <;> cases b <;> simp only[ile,Nat.ble_eq,Int.ofNat_eq_natCast,reduceCtorEq,true_iff,false_iff] <;> omega
theorem abb (a b:Int):(!ile b a)=true↔a<b:=by have:=KG b a;cases h:ile b a <;> simp[h]at this ⊢ <;> omega
def RE {p:Prop}:(b:Bool)->(b=true↔p)->Decidable p
 | true,h=>.isTrue (h.1 rfl)
 | false,h=>.isFalse λhp=>by simpa using h.2 hp
instance (priority:=10000) decIntLe (a b:Int):Decidable (a<=b):=RE (ile a b) (KG a b)
instance (priority:=10000) decIntLt (a b:Int):Decidable (a<b):=RE (!ile b a) (abb a b)
abbrev Fl:=Option Nat
def isNaN (b:Nat):Bool:=(Ieee.double.read b).isNaN
def cP (b:Nat):Fl:=cond (isNaN b) none (some b)
def BC (f:Nat->Nat->Option Nat):Fl->Fl->Fl
 | some a,some b=>f a b
 | _,_=>none
def ai (x y:Fl):Fl:=BC Ieee.double.add x y
def co (x y:Fl):Fl:=BC Ieee.double.sub x y
def af (x y:Fl):Fl:=BC Ieee.double.mul x y
def fdiv (x y:Fl):Fl:=BC Ieee.double.div x y
def dm:Fl->Fl
 | some a=>Ieee.double.sqrt a
 | none=>none
def afG:Fl->Fl
 | some a=>some (Op.negFloat .f64 a)
 | none=>none
def lU:Fl->Fl->Option Ordering
 | some a,some b=>Ieee.double.order a b
 | _,_=>none
def feq (x y:Fl):Bool:=lU x y==some .eq
def flt (x y:Fl):Bool:=lU x y==some .lt
def fgt (x y:Fl):Bool:=lU x y==some .gt
def fle (x y:Fl):Bool:=lU x y==some .lt||lU x y==some .eq
def fge (x y:Fl):Bool:=lU x y==some .gt||lU x y==some .eq
def fmm (mx:Bool):Fl->Fl->Fl
 | some x,some y=>match Ieee.double.order x y with
  | none=>none
  | some .lt=>some (cond mx y x)
  | some .gt=>some (cond mx x y)
  | some .eq=>some (cond (Ieee.double.read x).neg (cond mx y x) (cond mx x y))
 | _,_=>none
def imm (mx:Bool) (x y:Int):Int:=cond mx (cond (decide (y>x)) y x) (cond (decide (y<x)) y x)
inductive V where
 | any
 | nil
 | bool (b:Bool)
 | int (k:IntKind) (n:Int)
 | flt (x:Fl)
 | val (v:Value)
 | fn (f:Nat) (caps:List V)
 | ptr (n o:Nat)
 | slw (n:Nat)
 | sl (n o len:Nat)
 | rof (xs:List Fl)
 | roi (k:IntKind) (xs:List Int)
 | ro (sz:Nat) (cs:List V)
 | pf (xs:List Fl) (i:Nat)
 | pi (k:IntKind) (xs:List Int) (i:Nat)
 | rp (cs:List V) (i:Nat)
 | agg (cs:List V)
 | tup (vs:List V)
 deriving Inhabited
def V.one:V->Bool
 | .any | .agg _ | .tup _=>false
 | .val v=>v.oneCell'
 | _=>true
inductive Body where
 | flts (xs:List Fl)
 | ints (k:IntKind) (xs:List Int)
 | cells (cs:List V)
 deriving Inhabited
def Body.size:Body->Nat
 | .flts xs=>xs.length
 | .ints _ xs=>xs.length
 | .cells cs=>cs.length
structure Blk where
 e:Nat
 sz:Nat
 c:Body
 deriving Inhabited
abbrev bh:=List (Option Blk)
def aE (M:bh) (n:Nat):Option Blk:=
 match M[n]? with
 | some (some b)=>some b
 | _=>none
def xM:Value->V
 | .bool b=>.bool b
 | .int k n=>.int k n
 | .float .f64 b=>.flt (cP b)
 | .slice none 0 0=>.nil
 | .agg cs=>.val (.agg cs)
 | v=>.val v
def akX (v:Value):V:=xM v
def ev (F:List V):Operand->V
 | .tmp t=>F.getD t .any
 | .const v=>akX v
 | .global g=>.val (.pointer (some ⟨g,0,none⟩))
 | .func f=>.fn f []
def w4 (P:Program) (t:Nat):Option Nat:=
 match P.underlying t with
 | some (.slice e)=>some e
 | _=>none
def fO (P:Program) (t:Nat):Option Nat:=(P.info? t).map (·.size)
def wd (P:Program) (t:Nat):Option Nat:=(P.info? t).map (·.bytes)
def ma (P:Program) (t:Nat):Option Bool:=
 match P.underlying t with
 | some (.struct _) | some (.array _ _)=>some true
 | some _=>some false
 | none=>none
def bX (P:Program) (t:Nat):Option (List V):=
 match P.info? t with
 | some i=>i.zero.map λv=>v.cells.toList.map xM
 | none=>none
def uP:V->Option (List V)
 | .agg cs=>some cs
 | v=>cond v.one (some [v]) none
def wD:List V->Option (List Fl)
 | []=>some []
 | .flt x::r=>(wD r).map (x :: ·)
 | _=>none
def pr (k:IntKind):List V->Option (List Int)
 | []=>some []
 | .int k' n::r=>cond (decide (k'=k)) ((pr k r).map (n :: ·)) none
 | _=>none
def BV (P:Program) (e:Nat) (cs:List V):Option Body:=
 match P.underlying e with
 | some (.float .f64)=>(wD cs).map .flts
 | some (.int k)=>(pr k cs).map (.ints k)
 | some _=>cond (cs.all V.one) (some (.cells cs)) none
 | none=>none
def qN (P:Program) (t:Nat) (cs:List V):Body:=
 match P.underlying t with
 | some (.array _ e)=>match BV P e cs with
  | some c=>c
  | none=>.cells cs
 | _=>.cells cs
def gX (P:Program) (e n:Nat):Option Body:=
 match P.underlying e,bX P e with
 | some (.float .f64),some [.flt x]=>some (.flts (List.replicate n x))
 | some (.int k),some [.int k' x]=>cond (decide (k'=k)) (some (.ints k (List.replicate n x))) none
 | some _,some z=>some (.cells ((List.replicate n z).flatten))
 | _,_=>none
def Body.get (b:Body) (o:Nat) (k:V->Bool):Bool:=
 match b with
 | .flts xs=>decide (o<xs.length)&&k (.flt (xs.getD o none))
 | .ints q xs=>decide (o<xs.length)&&k (.int q (xs.getD o 0))
 | .cells cs=>match cs[o]? with
  | some v=>k v
  | none=>false
def Body.set (b:Body) (o:Nat) (v:V) (k:Body->Bool):Bool:=
 match b,v with
 | .flts xs,.flt x=>decide (o<xs.length)&&k (.flts (xs.set o x))
 | .ints q xs,.int q' n=>decide (q=q')&&(decide (o<xs.length)&&k (.ints q (xs.set o n)))
 | .cells cs,v=>match cs[o]? with
  | some _=>v.one&&k (.cells (cs.set o v))
  | none=>false
 | _,_=>false
def Body.part (b:Body) (o s:Nat) (k:List V->Bool):Bool:=
 match b with
 | .cells cs=>decide (o+s<=cs.length)&&k ((cs.drop o).take s)
 | .flts xs=>decide (o+s<=xs.length)&&k (((xs.drop o).take s).map .flt)
 | .ints q xs=>decide (o+s<=xs.length)&&k (((xs.drop o).take s).map (.int q))
def setFrom {α:Type}:List α->Nat->List α->List α
 | cs,_,[]=>cs
 | cs,o,v::r=>setFrom (cs.set o v) (o+1) r
def Body.setPart (b:Body) (o:Nat) (vs:List V) (k:Body->Bool):Bool:=
 match b with
 | .cells cs=>decide (o+vs.length<=cs.length)&&(vs.all V.one&&k (.cells (setFrom cs o vs)))
 | .flts xs=>match wD vs with
  | some ys=>decide (o+vs.length<=xs.length)&&k (.flts (setFrom xs o ys))
  | none=>false
 | .ints q xs=>match pr q vs with
  | some ys=>decide (o+vs.length<=xs.length)&&k (.ints q (setFrom xs o ys))
  | none=>false
mutual
def V.ren (f:Nat->Option Nat):V->V
 | .ptr n o=>match f n with
  | some m=>.ptr m o
  | none=>.any
 | .slw n=>match f n with
  | some m=>.slw m
  | none=>.any
 | .sl n o l=>match f n with
  | some m=>.sl m o l
  | none=>.any
 | .fn g caps=>.fn g (mP f caps)
 | .ro sz cs=>.ro sz (mP f cs)
 | .rp cs i=>.rp (mP f cs) i
 | .agg cs=>.agg (mP f cs)
 | .tup vs=>.tup (mP f vs)
 | .any=>.any
 | .nil=>.nil
 | .bool b=>.bool b
 | .int k n=>.int k n
 | .flt x=>.flt x
 | .val v=>.val v
 | .rof xs=>.rof xs
 | .roi k xs=>.roi k xs
 | .pf xs i=>.pf xs i
 | .pi k xs i=>.pi k xs i
def mP (f:Nat->Option Nat):List V->List V
 | []=>[]
 | v::r=>V.ren f v::mP f r
end
mutual
def V.refs:V->List Nat
 | .ptr n _=>[n]
 | .slw n=>[n]
 | .sl n _ _=>[n]
 | .fn _ caps=>kq caps
 | .ro _ cs=>kq cs
 | .rp cs _=>kq cs
 | .agg cs=>kq cs
 | .tup vs=>kq vs
 | _=>[]
def kq:List V->List Nat
 | []=>[]
 | v::r=>V.refs v++kq r
end
mutual
def V.free:V->Bool
 | .rof _=>false
 | .roi _ _=>false
 | .ro _ _=>false
 | .pf _ _=>false
 | .pi _ _ _=>false
 | .rp _ _=>false
 | .fn _ caps=>vi caps
 | .agg cs=>vi cs
 | .tup vs=>vi vs
 | .val v=>v.oneCell'
 | .any=>false
 | _=>true
def vi:List V->Bool
 | []=>true
 | v::r=>V.free v&&vi r
end
def Body.ren (f:Nat->Option Nat):Body->Body
 | .cells cs=>.cells (mP f cs)
 | b=>b
def Blk.ren (f:Nat->Option Nat) (b:Blk):Blk:={ b with c:=b.c.ren f }
def Body.refs:Body->List Nat
 | .cells cs=>kq cs
 | _=>[]
def Body.free:Body->Bool
 | .cells cs=>vi cs
 | _=>true
def Body.cut (c:Body) (o n:Nat):Option Body:=
 match c with
 | .flts xs=>cond (decide (o+n<=xs.length)) (some (.flts ((xs.drop o).take n))) none
 | .ints k xs=>cond (decide (o+n<=xs.length)) (some (.ints k ((xs.drop o).take n))) none
 | .cells cs=>cond (decide (o+n<=cs.length)) (some (.cells ((cs.drop o).take n))) none
def dO (i s:Nat):Nat:=match s with
 | 1=>i
 | s=>i*s
def rD (M:bh):Nat->V->Option V
 | 0,_=>none
 | d+1,.slw n=>match aE M n with
  | some ⟨_,sz,.flts xs⟩=>cond (sz==1) (some (.rof xs)) none
  | some ⟨_,sz,.ints k xs⟩=>cond (sz==1) (some (.roi k xs)) none
  | some ⟨_,sz,.cells cs⟩=>(cs.mapM (rD M d)).map (.ro sz)
  | none=>none
 | d+1,.sl n o len=>match aE M n with
  | some b=>match b.c.cut o (dO len b.sz)with
   | some (.flts xs)=>cond (b.sz==1) (some (.rof xs)) none
   | some (.ints k xs)=>cond (b.sz==1) (some (.roi k xs)) none
   | some (.cells cs)=>(cs.mapM (rD M d)).map (.ro b.sz)
   | none=>none
  | none=>none
 | d+1,.agg cs=>(cs.mapM (rD M d)).map .agg
 | _+1,v=>some v
def pQ (M:bh):Nat->V->List Nat
 | 0,_=>[]
 | d+1,.slw n=>match aE M n with
  | some ⟨_,_,.cells cs⟩=>n::(cs.map (pQ M d)).flatten
  | _=>[n]
 | d+1,.sl n o len=>match aE M n with
  | some b=>match b.c.cut o (dO len b.sz)with
   | some (.cells cs)=>n::(cs.map (pQ M d)).flatten
   | _=>[n]
  | none=>[n]
 | d+1,.agg cs=>(cs.map (pQ M d)).flatten
 | _+1,_=>[]
def kI:List Nat->Bool
 | []=>true
 | n::r=>!r.contains n&&kI r
def kinds (P:Program):Nat->Nat->List Nat
 | 0,t=>[t]
 | d+1,t=>match P.underlying t with
  | some (.struct fs)=>(fs.toList.map λf=>kinds P d f.type).flatten
  | some (.array n e)=>(List.replicate n (kinds P d e)).flatten
  | _=>[t]
def KR (P:Program) (t:Nat):V->V
 | .nil=>match P.underlying t with
  | some (.slice e)=>match P.underlying e with
   | some (.float .f64)=>.rof []
   | some (.int k)=>.roi k []
   | _=>.ro ((fO P e).getD 1) []
  | _=>.nil
 | v=>v
def iq (P:Program):List Nat->List V->List V
 | t::ts,v::vs=>KR P t v::iq P ts vs
 | _,vs=>vs
def BZ (P:Program) (t:Nat):V->V
 | .agg cs=>.agg (iq P (kinds P 4 t) cs)
 | v=>KR P t v
def fD (P:Program):List Nat->List V->List V
 | t::ts,v::vs=>BZ P t v::fD P ts vs
 | _,vs=>vs
abbrev Er:=Nat->List V->List Blk->(V->List Blk->Bool)->Bool
structure Cx where
 P:Program
 O:Er
 ref:Nat->Bool
 N:Nat
structure St where
 F:List V
 M:bh
abbrev Upd:=List (Nat × Option Blk)
def vt (M:bh) (n:Nat) (b:Option Blk):bh:=
 cond (decide (n<M.length)) (M.set n b) (M++List.replicate (n - M.length) none++[b])
def kQ:bh->Upd->bh
 | M,[]=>M
 | M,(n,b)::r=>kQ (vt M n b) r
def aw (k:IntKind) (n:Int):Bool:=decide (k.min<=n/\n<=k.max)
def rG (q:IntKind) (r:Int) (k:V->Bool):Bool:=
 match q with
 | .i64=>aw .i64 r&&k (.int .i64 r)
 | q=>k (.int q (q.wrap r))
def jV (op:BinOp) (k:IntKind) (x y:Int):Option Int:=
 let a:=BitVec.ofInt k.bits x
 let b:=BitVec.ofInt k.bits y
 match op with
 | .and=>some (k.wrap (a &&& b).toNat)
 | .or=>some (k.wrap (a ||| b).toNat)
 | .xor=>some (k.wrap (a ^^^ b).toNat)
 | .andNot=>some (k.wrap (a &&& ~~~b).toNat)
 | _=>none
def TM (op:BinOp) (q:IntKind) (a b:Int) (k:V->Bool):Bool:=
 match op with
 | .add=>rG q (a+b) k
 | .sub=>rG q (a - b) k
 | .mul=>rG q (a*b) k
 | .quo=>!decide (b=0)&&rG q (a.tdiv b) k
 | .rem=>!decide (b=0)&&k (.int q (a.tmod b))
 | .eql=>k (.bool (a==b))
 | .neq=>k (.bool (a != b))
 | .lss=>k (.bool (decide (a<b)))
 | .leq=>k (.bool (decide (a<=b)))
 | .gtr=>k (.bool (decide (a>b)))
 | .geq=>k (.bool (decide (a>=b)))
 | op=>match jV op q a b with
  | some r=>k (.int q r)
  | none=>false
def RR (op:BinOp) (x y:Fl) (k:V->Bool):Bool:=
 match op with
 | .add=>k (.flt (ai x y))
 | .sub=>k (.flt (co x y))
 | .mul=>k (.flt (af x y))
 | .quo=>k (.flt (fdiv x y))
 | .eql=>k (.bool (feq x y))
 | .neq=>k (.bool (!feq x y))
 | .lss=>k (.bool (flt x y))
 | .leq=>k (.bool (fle x y))
 | .gtr=>k (.bool (fgt x y))
 | .geq=>k (.bool (fge x y))
 | _=>false
def wh (P:Program) (t:Nat):Bool:=
 match P.underlying t with
 | some .bool=>true
 | _=>false
def Pn (P:Program) (n t:Nat):Bool:=match P.underlying t with
 | some (.array m e)=>(m==n)&&match P.underlying e,fO P e,ma P e with
  | some (.float .f64),some 1,some false=>!P.eqGuardType P.depth t
  | _,_,_=>false
 | _=>false
def aff (op:BinOp) (isB isV isW:Bool) (x y:V) (k:V->Bool):Bool:=
 match op,x,y with
 | .shl,.int q a,.int _ b=>decide (0<=b)&&rG q (a*2 ^ (min b.toNat q.bits)) k
 | .shr,.int q a,.int _ b=>decide (0<=b)&&k (.int q (a.fdiv (2 ^ (min b.toNat q.bits))))
 | op,.int q a,.int q' b=>decide (q=q')&&TM op q a b k
 | op,.flt a,.flt b=>RR op a b k
 | .eql,.bool a,.bool b=>isB&&k (.bool (a==b))
 | .neq,.bool a,.bool b=>isB&&k (.bool (a != b))
 | .eql,.agg [.flt a,.flt b,.flt c],.agg [.flt d,.flt e,.flt f]=>isV&&k (.bool (feq a d&&(feq b e&&feq c f)))
 | .eql,.agg [.flt a,.flt b,.flt c,.flt d],.agg [.flt e,.flt f,.flt g,.flt h]=>isW&&k (.bool (feq a e&&(feq b f&&(feq c g&&feq d h))))
 | _,_,_=>false
def unV (op:UnOp) (x:V) (k:V->Bool):Bool:=
 match op,x with
 | .not,.bool b=>k (.bool (!b))
 | .neg,.int q n=>rG q (0 - n) k
 | .neg,.flt x=>k (.flt (afG x))
 | .xor,.int q n=>match jV .xor q (if q.signed then -1 else q.max) n with
  | some r=>k (.int q r)
  | none=>false
 | _,_=>false
def Rd (P:Program) (src dst:Nat) (x:V) (k:V->Bool):Bool:=
 match P.underlying src,P.underlying dst,x with
 | some _,some (.int q),.int _ n=>rG q n k
 | some _,some (.float .f64),.int _ n=>k (.flt (some (FloatKind.f64.nearest n)))
 | some _,some (.float .f64),.flt x=>k (.flt x)
 | some _,some (.int q),.flt (some b)=>match(Ieee.double.read b).toInt .zero with
  | some n=>decide (q.min<=n/\n<=q.max)&&k (.int q n)
  | none=>false
 | _,_,_=>false
def Blk.count (b:Blk):Nat:=match b.sz with
 | 1=>b.c.size
 | s=>b.c.size / s
def inR (i:Int) (n:Nat):Bool:=decide (0<=i/\i<(n:Int))
def agd (P:Program) (M:bh) (t:Nat) (x:V) (i:Int) (k:V->Bool):Bool:=
 match P.underlying t with
 | some (.slice e)=>match fO P e with
  | some s=>match x with
   | .rof xs=>s==1&&(inR i xs.length&&k (.pf xs i.toNat))
   | .roi q xs=>s==1&&(inR i xs.length&&k (.pi q xs i.toNat))
   | .ro sz cs=>s==sz&&(!(s==0)&&(inR i (cs.length / sz)&&k (.rp cs (dO i.toNat s))))
   | .slw n=>match aE M n with
    | some b=>s==b.sz&&(inR i b.count&&k (.ptr n (dO i.toNat s)))
    | none=>false
   | .sl n o len=>match aE M n with
    | some b=>s==b.sz&&(inR i len&&k (.ptr n (o+dO i.toNat s)))
    | none=>false
   | _=>false
  | none=>false
 | some (.array len e)=>match fO P e with
  | some s=>match x with
   | .ptr n o=>inR i len&&k (.ptr n (o+dO i.toNat s))
   | .rp cs o=>inR i len&&k (.rp cs (o+dO i.toNat s))
   | .val (.pointer (some ⟨b,0,none⟩))=>match y6 b with
    | some zs=>(s==1)&&(decide (zs.length=len)&&(inR i len&&k (.pi .u8 zs i.toNat)))
    | none=>false
   | _=>false
  | none=>false
 | _=>false
def agN (P:Program) (M:bh) (t:Nat) (x:V) (k:V->Bool):Bool:=
 match P.underlying t,x with
 | some (.slice _),.nil=>k (.int .i64 0)
 | some (.slice _),.rof xs=>k (.int .i64 xs.length)
 | some (.slice _),.roi _ xs=>k (.int .i64 xs.length)
 | some (.slice _),.ro sz cs=>!(sz==0)&&k (.int .i64 (cs.length / sz:Nat))
 | some (.slice _),.slw n=>match aE M n with
  | some b=>!(b.sz==0)&&k (.int .i64 b.count)
  | none=>false
 | some (.slice _),.sl _ _ len=>k (.int .i64 len)
 | some (.array n _),_=>k (.int .i64 n)
 | some .string,.val (.string s)=>k (.int .i64 s.size)
 | _,_=>false
def B_ (M:bh) (sz:Nat) (x:V):Option Body:=
 match x with
 | .nil=>some (.cells [])
 | .rof xs=>cond (sz==1) (some (.flts xs)) none
 | .roi q xs=>cond (sz==1) (some (.ints q xs)) none
 | .ro s cs=>cond (s==sz) (some (.cells cs)) none
 | .slw n=>match aE M n with
  | some b=>cond (b.sz==sz) (some b.c) none
  | none=>none
 | .sl n o len=>match aE M n with
  | some b=>cond (b.sz==sz) (b.c.cut o (dO len b.sz)) none
  | none=>none
 | _=>none
def Body.app:Body->Body->Option Body
 | .flts xs,.flts ys=>some (.flts (xs++ys))
 | .ints q xs,.ints q' ys=>cond (decide (q=q')) (some (.ints q (xs++ys))) none
 | .cells xs,.cells ys=>cond (ys.all V.one) (some (.cells (xs++ys))) none
 | b,.cells []=>some b
 | _,_=>none
def Ky (L:List Nat):List Nat:=L.foldl (λacc n=>cond (acc.contains n) acc (acc++[n])) []
def KW (M:bh):Nat->List Nat->List Nat
 | 0,L=>L
 | d+1,L=>KW M d (Ky (L++(L.map λn=>match aE M n with
  | some b=>b.c.refs
  | none=>[]).flatten))
def ji (L:List Nat) (n:Nat):Option Nat:=L.idxOf? n
def w9 (place:Nat->Option (Nat × Nat)):List V->List (Nat × V)->(List V->Bool)->Bool
 | cs,[],k=>k cs
 | cs,(i,v)::r,k=>match place i,uP v with
  | some (off,s),some vs=>(vs.length==s)&&(decide (off+s<=cs.length)&&w9 place (setFrom cs off vs) r k)
  | _,_=>false
def places (P:Program) (fs:List Field):Option (List (Nat × Nat)):=fs.mapM λf=>(fO P f.type).map λs=>(f.offset,s)
def mw (nm:Nat):List Blk->Upd
 | []=>[]
 | b::r=>(nm,some b)::mw (nm+1) r
def nT:List Nat->List Blk->Upd
 | n::ns,b::bs=>(n,some b)::nT ns bs
 | _,_=>[]
abbrev KOp:=V->Upd->List Nat->Bool
def px (F:List V) (lo hi:Option Operand) (n:Nat) (k:Nat->Nat->Bool):Bool:=
 match lo.map (ev F),hi.map (ev F)with
 | none,none=>k 0 n
 | none,some (.int _ h)=>decide (0<=h/\h<=(n:Int))&&k 0 h.toNat
 | some (.int _ l),none=>decide (0<=l/\l<=(n:Int))&&k l.toNat n
 | some (.int _ l),some (.int _ h)=>decide (0<=l/\l<=h/\h<=(n:Int))&&k l.toNat h.toNat
 | _,_=>false
def Kv (cx:Cx) (M:bh) (g:Nat) (vs:List V) (k:KOp):Bool:=
 match cx.P.funcs[g]? with
 | none=>false
 | some fn=>
  match cond (cx.ref g) (some vs) (vs.mapM (rD M 4))with
  | none=>false
  | some vs1=>
   let vs2:=fD cx.P fn.params.toList vs1
   let B:=cond (cx.ref g) [] ((vs.map (pQ M 4)).flatten)
   let L:=KW M 3 (Ky (kq vs2))
   match L.mapM (aE M)with
   | none=>false
   | some bs=>kI L&&(B.all (λn=>!L.contains n) &&
    cx.O g (mP (ji L) vs2) (bs.map (Blk.ren (ji L))) λr H=>
     let f2:Nat->Option Nat:=λi=>cond (decide (i<L.length)) (L[i]?) (some (M.length+(i - L.length)))
     let H':=H.map (Blk.ren f2)
     let r':=r.ren f2
     (decide (L.length<=H.length)&&((B.isEmpty||(r'.free&&H'.all (·.c.free))) &&
      k r' (nT L (H'.take L.length)++mw M.length (H'.drop L.length)) (L++B))))
def wU (M:bh):List Nat->bh
 | []=>M
 | n::r=>wU (M.set n none) r
def Q6 (cx:Cx) (base:Nat) (M:bh) (g:Nat) (vs:List V) (k:KOp):Bool:=
 match vs.mapM (rD M 4)with
 | none=>false
 | some vs1=>
  let B:=(vs.map (pQ M 4)).flatten
  B.all (λn=>decide (base<=n))&&Kv cx (wU M B) g vs1 λv U T=>k v (B.map (λn=>(n,none))++U) (B++T)
def mmV (mx:Bool):V->List V->(V->Bool)->Bool
 | .flt x,.flt y::r,k=>mmV mx (.flt (fmm mx x y)) r k
 | .int q x,.int q' y::r,k=>decide (q=q')&&mmV mx (.int q (imm mx x y)) r k
 | .flt x,[],k=>k (.flt x)
 | .int q x,[],k=>k (.int q x)
 | _,_,_=>false
def opV (cx:Cx) (base:Nat) (F:List V) (M:bh) (o:Op) (k:KOp):Bool:=
 let P:=cx.P
 match o with
 | .move x=>k (ev F x) [] []
 | .assign x=>k (ev F x) [] []
 | .pick c a b=>match ev F c with
  | .bool t=>cond t (k (ev F a) [] []) (k (ev F b) [] [])
  | _=>false
 | .alloc t=>match bX P t with
  | some cs=>decide (cs.length<=16777216)&&(cs.all V.one&&k (.ptr M.length 0) [(M.length,some ⟨t,1,qN P t cs⟩)] [])
  | none=>false
 | .box t x=>match uP (ev F x)with
  | some cs=>decide (cs.length<=16777216)&&(cs.all V.one&&k (.ptr M.length 0) [(M.length,some ⟨t,1,qN P t cs⟩)] [])
  | none=>false
 | .build t parts=>match bX P t,P.underlying t with
  | some z,some (.struct fs)=>match places P fs.toList with
   | some pl=>w9 (pl[·]?) z (parts.toList.map λp=>(p.1,ev F p.2)) λcs=>cs.all V.one&&k (.agg cs) [] []
   | none=>false
  | some z,some (.array _ e)=>match fO P e with
   | some s=>w9 (λi=>some (dO i s,s)) z (parts.toList.map λp=>(p.1,ev F p.2)) λcs=>cs.all V.one&&k (.agg cs) [] []
   | none=>false
  | _,_=>false
 | .buildSlice t len parts=>match w4 P t with
  | some e=>match fO P e,bX P e with
   | some s,some z=>decide (len*s<=16777216)&&((z.length==s)&&(!(s==0)&&w9 (λi=>some (dO i s,s)) ((List.replicate len z).flatten) (parts.toList.map λp=>(p.1,ev F p.2)) λcs=>
     match BV P e cs with
     | some c=>k (.slw M.length) [(M.length,some ⟨e,s,c⟩)] []
     | none=>false))
   | _,_=>false
  | none=>false
 | .load t x=>match ma P t,fO P t with
  | some ag,some s=>match ev F x with
   | .ptr n p=>match aE M n with
    | some b=>cond ag (b.c.part p s λcs=>k (.agg cs) [] [n]) (b.c.get p λv=>k v [] [n])
    | none=>false
   | .pf xs i=>!ag&&k (.flt (xs.getD i none)) [] []
   | .pi q xs i=>!ag&&k (.int q (xs.getD i 0)) [] []
   | .rp cs i=>cond ag (decide (i+s<=cs.length)&&k (.agg ((cs.drop i).take s)) [] []) (match cs[i]? with
    | some v=>k v [] []
    | none=>false)
   | _=>false
  | _,_=>false
 | .store t x y=>match fO P t,ev F x,ev F y with
  | some s,.ptr n p,.agg vs=>match aE M n with
   | some b=>(vs.length==s)&&b.c.setPart p vs λc=>k .any [(n,some { b with c:=c })] [n]
   | none=>false
  | some s,.ptr n p,v=>match aE M n with
   | some b=>(s==1)&&(v.one&&b.c.set p v λc=>k .any [(n,some { b with c:=c })] [n])
   | none=>false
  | _,_,_=>false
 | .nilCheck x=>match ev F x with
  | .ptr n p=>k (.ptr n p) [] []
  | .pf xs i=>k (.pf xs i) [] []
  | .pi q xs i=>k (.pi q xs i) [] []
  | .rp cs i=>k (.rp cs i) [] []
  | .fn g caps=>k (.fn g caps) [] []
  | _=>false
 | .binOp op t x y _=>aff op (wh P t) (Pn P 3 t) (Pn P 4 t) (ev F x) (ev F y) λv=>k v [] []
 | .unOp op _ x=>unV op (ev F x) λv=>k v [] []
 | .convert s d x=>Rd P s d (ev F x) λv=>k v [] []
 | .makeFunc (.func g) first caps=>first.isEmpty&&k (.fn g (caps.toList.map (ev F))) [] []
 | .makeSlice t l c=>match w4 P t with
  | some e=>match fO P e,wd P e with
   | some s,some by'=>match ev F l,ev F c with
    | .int _ l,.int _ c=>decide (0<=l/\l<=c/\c<=9223372036854775807/\(by':Int)*c<=140737488355328)&&((match bX P e with | some z=>z.length==s&&z.all V.one | none=>false)&&match gX P e l.toNat with
     | some body=>k (.slw M.length) [(M.length,some ⟨e,s,body⟩)] []
     | none=>false)
    | _,_=>false
   | _,_=>false
  | none=>false
 | .slice t x lo hi none=>match P.underlying t with
  | some (.slice e)=>match fO P e with
   | some s=>
    match ev F x with
    | .rof xs=>s==1&&px F lo hi xs.length λl h=>k (.rof ((xs.take h).drop l)) [] []
    | .roi q xs=>s==1&&px F lo hi xs.length λl h=>k (.roi q ((xs.take h).drop l)) [] []
    | .slw n=>match aE M n with
     | some b=>s==b.sz&&(!(s==0)&&px F lo hi b.count λl h=>k (.sl n (dO l s) (h - l)) [] [n])
     | none=>false
    | .sl n o len=>match aE M n with
     | some b=>s==b.sz&&(!(s==0)&&px F lo hi len λl h=>k (.sl n (o+dO l s) (h - l)) [] [n])
     | none=>false
    | _=>false
   | none=>false
  | some (.array len e)=>match fO P e with
   | some s=>
    match ev F x with
    | .ptr n o=>match aE M n with
     | some b=>s==b.sz&&(s==1&&px F lo hi len λl h=>k (.sl n (o+dO l s) (h - l)) [] [n])
     | none=>false
    | _=>false
   | none=>false
  | _=>false
 | .fieldAddr s x f=>match P.underlying s with
  | some (.struct fs)=>match fs[f]? with
   | some fd=>match fO P fd.type with
    | some z=>!(z==0)&&(match ev F x with
     | .ptr n p=>k (.ptr n (p+fd.offset)) [] []
     | .rp cs i=>k (.rp cs (i+fd.offset)) [] []
     | _=>false)
    | none=>false
   | none=>false
  | _=>false
 | .field t x f=>match P.underlying t with
  | some (.struct fs)=>match fs[f]? with
   | some fd=>match ma P fd.type,fO P fd.type,ev F x with
    | some ag,some s,.agg cs=>cond ag (decide (fd.offset+s<=cs.length)&&k (.agg ((cs.drop fd.offset).take s)) [] []) (match cs[fd.offset]? with
     | some v=>k v [] []
     | none=>false)
    | _,_,_=>false
   | none=>false
  | _=>false
 | .indexAddr t x i=>match ev F i with
  | .int _ i=>agd P M t (ev F x) i λv=>k v [] (ev F x).refs
  | _=>false
 | .index t x i=>match P.underlying t,ev F i,ev F x with
  | some (.array len e),.int _ i,.agg cs=>match ma P e,fO P e with
   | some ag,some s=>inR i len&&cond ag (decide (dO i.toNat s+s<=cs.length)&&k (.agg ((cs.drop (dO i.toNat s)).take s)) [] []) (match cs[dO i.toNat s]? with
     | some v=>k v [] []
     | none=>false)
   | _,_=>false
  | some .string,.int _ i,.val (.string s)=>inR i s.size&&k (.int .u8 ((s.data.toList.map λb=>(b.toNat:Int)).getD i.toNat 0)) [] []
  | _,_,_=>false
 | .extract x i=>match ev F x with
  | .tup vs=>match vs[i]? with
   | some v=>k v [] []
   | none=>false
  | _=>false
 | .call c=>match c.callee with
  | .builtin .len=>match c.argTypes.toList,c.args.toList with
   | [t],[x]=>agN P M t (ev F x) λv=>k v [] (ev F x).refs
   | _,_=>false
  | .builtin .max=>match c.args.toList with
   | x::r=>mmV true (ev F x) (r.map (ev F)) λv=>k v [] []
   | _=>false
  | .builtin .min=>match c.args.toList with
   | x::r=>mmV false (ev F x) (r.map (ev F)) λv=>k v [] []
   | _=>false
  | .builtin .append=>match c.args.toList,c.argTypes.toList with
   | [s,x],[t,t']=>(t==t')&&(match w4 P t with
    | some e=>match fO P e,wd P e,bX P e,gX P e 0 with
     | some sz,some by',some z,some nb=>(z.length==sz)&&(!(sz==0||by'==0)&&(match B_ M sz (ev F x)with
      | some src=>match ev F s with
       | .nil=>match nb.app src with
        | some c=>decide ((Blk.count ⟨e,sz,c⟩)*by'<=140737488355328)&&k (.slw M.length) [(M.length,some ⟨e,sz,c⟩)] (ev F x).refs
        | none=>false
       | .slw n=>match aE M n with
        | some b=>match b.c.app src with
         | some c=>decide (base<=n)&&(b.e==e&&(b.sz==sz&&(!((ev F x).refs.contains n) &&
           (decide ((Blk.count ⟨e,sz,c⟩)*by'<=140737488355328)&&k (.slw M.length) [(n,none),(M.length,some ⟨e,sz,c⟩)] (n::(ev F x).refs)))))
         | none=>false
        | none=>false
       | _=>false
      | none=>false))
     | _,_,_,_=>false
    | none=>false)
   | _,_=>false
  | .value f=>match ev F f with
   | .fn g caps=>cond (cx.ref (g+1000000)) (Q6 cx base M g (c.args.toList.map (ev F)++caps) k) (Kv cx M g (c.args.toList.map (ev F)++caps) k)
   | _=>false
  | _=>false
 | _=>false
def iO (F:List V) (d:Option Nat) (v:V):List V:=match d with
 | some t=>F.set t v
 | none=>F
def dU (all:Array Oper) (j:Nat):Option Nat:=(all[j]?).bind (·.dst)
def BJ:Value->Bool
 | .bool _=>true
 | _=>false
def DF (cx:Cx) (base:Nat) (all:Array Oper):List Oper->St->(St->Bool)->Bool
 | [],s,k=>k s
 | o::r,s,k=>match o.guard with
  | none=>opV cx base s.F s.M o.op λv U _=>DF cx base all r ⟨iO s.F o.dst v,kQ s.M U⟩ k
  | some (j,want)=>match dU all j with
   | some t=>match s.F.getD t .any with
    | .bool b=>cond (b==want)
      (opV cx base (s.F.set t (.bool want)) s.M o.op λv U _=>DF cx base all r ⟨iO (s.F.set t (.bool want)) o.dst v,kQ s.M U⟩ k)
      (DF cx base all r ⟨iO (s.F.set t (.bool (!want))) o.dst (.val undef),s.M⟩ k)
    | .val v=>cond (BJ v) false (DF cx base all r ⟨iO s.F o.dst (.val undef),s.M⟩ k)
    | _=>false
   | none=>false
structure Did where
 dst:Option Nat
 reads:List Nat
 writes:List Nat
 touch:List Nat
def X5 (ops:Array Operand):List Nat:=ops.toList.filterMap λx=>match x with
 | .tmp t=>some t
 | _=>none
def Oper.reads (all:Array Oper) (o:Oper):List Nat:=X5 o.op.operands++(match o.guard with
 | some (j,_)=>match dU all j with
  | some t=>[t]
  | none=>[]
 | none=>[])
def gG:List Oper->List (List Nat)->List (List Nat)
 | [],acc=>acc
 | o::r,acc=>gG r (acc++[(o.after.toList.map λe=>cond (Region.binds .any e) (e.on::acc.getD e.on []) []).flatten])
def meets (a b:List Nat):Bool:=a.any (b.contains ·)
def apart (x y:Did):Bool:=
 !(match x.dst with | some t=>y.reads.contains t||y.dst==some t | none=>false) &&
 (!(match y.dst with | some t=>x.reads.contains t | none=>false) &&
 (!(meets x.writes y.touch||(meets x.writes y.writes||meets x.touch y.writes))))
def ju (clo:List (List Nat)):Nat->List Did->Nat->List Did->Bool
 | _,_,_,[]=>true
 | i,pre,j,y::r=>(pre.zipIdx.all λ(x,i)=>(clo.getD j []).contains i||apart x y)&&ju clo i (pre++[y]) (j+1) r
def lR:Nat->List Oper->Bool
 | _,[]=>true
 | i,o::r=>(o.after.toList.all λe=>!Region.binds .any e||decide (e.on<i))&&lR (i+1) r
def KM:List Oper->List Nat->List Nat
 | [],acc=>acc
 | o::r,acc=>KM r (acc++[o.after.toList.foldl (λm e=>cond (Region.binds .any e) (m ||| (1 <<< e.on ||| acc.getD e.on 0)) m) 0])
def rK (clo:List Nat):Nat->List Did->Nat->List Did->Bool
 | _,_,_,[]=>true
 | i,pre,j,y::r=>(pre.zipIdx.all λ(x,i)=>(clo.getD j 0).testBit i||apart x y)&&rK clo i (pre++[y]) (j+1) r
def q8 (cx:Cx) (base:Nat) (all:Array Oper):List Oper->St->List Did->(St->Bool)->Bool
 | [],s,tr,k=>(rK (KM all.toList []) 0 [] 0 tr&&lR 0 all.toList)&&k s
 | o::r,s,tr,k=>match o.guard with
  | none=>opV cx base s.F s.M o.op λv U T=>q8 cx base all r ⟨iO s.F o.dst v,kQ s.M U⟩ (tr++[⟨o.dst,Oper.reads all o,U.map (·.1),T⟩]) k
  | some (j,want)=>match dU all j with
   | some t=>match s.F.getD t .any with
    | .bool b=>cond (b==want)
      (opV cx base (s.F.set t (.bool want)) s.M o.op λv U T=>q8 cx base all r ⟨iO (s.F.set t (.bool want)) o.dst v,kQ s.M U⟩ (tr++[⟨o.dst,Oper.reads all o,U.map (·.1),T⟩]) k)
      (q8 cx base all r ⟨iO (s.F.set t (.bool (!want))) o.dst .any,s.M⟩ (tr++[⟨o.dst,Oper.reads all o,[],[]⟩]) k)
    | _=>false
   | none=>false
structure K where
 nrm:St->Bool
 ext:Nat->St->Bool
 ret:St->Bool
structure Nrm where
 keep:List Nat
 virt:List (Nat × Option Nat × Nat)
 den:List (Nat × Nat × Option IntKind)
structure Ann where
 head:Nrm
 exits:List (Nat × Nrm)
 ret:Option Nrm
 hook:Option (St->K->Bool)
def eQ (P:Program):List (Nat × Option Nat × Nat)->St->St
 | [],s=>s
 | (t,none,e)::r,s=>match s.F.getD t .any,fO P e,gX P e 0 with
  | .nil,some sz,some b=>eQ P r ⟨s.F.set t (.slw s.M.length),s.M++[some ⟨e,sz,b⟩]⟩
  | _,_,_=>eQ P r s
 | (t,some i,e)::r,s=>match s.F.getD t .any,fO P e,gX P e 0 with
  | .ptr n o,some sz,some z=>match aE s.M n with
   | some ⟨e0,s0,.cells cs⟩=>match cs[o+i]? with
    | some .nil=>eQ P r ⟨s.F,s.M.set n (some ⟨e0,s0,.cells (cs.set (o+i) (.slw s.M.length))⟩)++[some ⟨e,sz,z⟩]⟩
    | _=>eQ P r s
   | _=>eQ P r s
  | .slw n,_,_=>match aE s.M n with
   | some b=>cond (b.sz==1) (eQ P r ⟨s.F.set t (.sl n 0 b.c.size),s.M⟩) (eQ P r s)
   | none=>eQ P r s
  | _,_,_=>eQ P r s
def Ga:Option IntKind->V
 | some k=>.roi k []
 | none=>.rof []
def BA:List (Nat × Nat × Option IntKind)->bh->bh
 | [],M=>M
 | (n,i,k)::r,M=>match aE M n with
  | some ⟨e,s,.cells cs⟩=>match cs[i]? with
   | some .nil=>BA r (M.set n (some ⟨e,s,.cells (cs.set i (Ga k))⟩))
   | _=>BA r M
  | _=>BA r M
def pa (keep:List Nat) (f:Nat->Option Nat):Nat->List V->List V
 | _,[]=>[]
 | i,v::r=>cond (keep.contains i) (v.ren f) .any::pa keep f (i+1) r
def xz (keep:List Nat):Nat->List V->List Nat
 | _,[]=>[]
 | i,v::r=>cond (keep.contains i) v.refs []++xz keep (i+1) r
def renum (base:Nat) (L:List Nat):Nat->Option Nat:=λn=>cond (decide (n<base)) (some n) ((ji L n).map (base + ·))
def eH (base:Nat) (L:List Nat) (M:bh):bh:=
 (M.take base).map (·.map (Blk.ren (renum base L)))++L.map λn=>(aE M n).map (Blk.ren (renum base L))
def gI (base:Nat) (M:bh) (roots:List Nat):List Nat:=
 (KW M 3 (Ky (roots++((M.take base).map λb=>match b with
  | some b=>b.c.refs
  | none=>[]).flatten))).filter λn=>decide (base<=n)
def nB (P:Program) (base:Nat):Option Nrm->St->St
 | none,s=>s
 | some a,s=>
  let s:=eQ P a.virt s
  let L:=gI base s.M (xz a.keep 0 s.F)
  cond (kI L) ⟨pa a.keep (renum base L) 0 s.F,BA a.den (eH base L s.M)⟩ s
def vK:Nat->(St->(St->Bool)->Bool)->St->Bool
 | 0,_,_=>false
 | n+1,step,s=>step s (vK n step)
def pF:Option Ann->Option Nrm
 | some a=>some a.head
 | none=>none
def RM:Option Ann->Nat->Option Nrm
 | some a,i=>a.exits.lookup i
 | none,_=>none
def acI:Option Ann->Option Nrm
 | some a=>a.ret
 | none=>none
def dJ:Option Ann->Option (St->K->Bool)
 | some a=>a.hook
 | none=>none
def uH (P:Program) (base:Nat) (a:Option Ann) (κ:K) (k:St->Bool):K:=
 ⟨λs=>k (nB P base (pF a) s),λi s=>κ.ext i (nB P base (RM a i) s),λs=>κ.ret (nB P base (acI a) s)⟩
def db (cx:Cx) (base:Nat) (an:Nat->Option Ann):Code->Nat->St->K->Bool
 | .skip,_,s,κ=>κ.nrm s
 | .region _ ops false,_,s,κ=>DF cx base ops ops.toList s κ.nrm
 | .region _ ops true,_,s,κ=>cx.P.follows .mixedOrders&&q8 cx base ops ops.toList s [] κ.nrm
 | .seq a b,bid,s,κ=>db cx base an a bid s { κ with nrm:=λs'=>db cx base an b bid s' κ }
 | .cond (.tmp t) a b,bid,s,κ=>match s.F.getD t .any with
  | .bool c=>cond c (db cx base an a bid ⟨s.F.set t (.bool true),s.M⟩ κ) (db cx base an b bid ⟨s.F.set t (.bool false),s.M⟩ κ)
  | _=>false
 | .cond (.const (.bool c)) a b,bid,s,κ=>cond c (db cx base an a bid s κ) (db cx base an b bid s κ)
 | .block id b,_,s,κ=>db cx base an b id s { κ with ext:=λi s'=>cond (i==id) (κ.nrm s') (κ.ext i s') }
 | .loop b,bid,s,κ=>match dJ (an bid)with
  | some hk=>hk (nB cx.P base (pF (an bid)) s) κ
  | none=>vK cx.N (λs k=>db cx base an b bid s (uH cx.P base (an bid) κ k)) (nB cx.P base (pF (an bid)) s)
 | .exit id,_,s,κ=>κ.ext id s
 | .ret,_,s,κ=>κ.ret s
 | _,_,_,_=>false
def fQ (cx:Cx) (base:Nat) (an:Nat->Option Ann):Code->Nat->Prop
 | .seq a b,bid=>fQ cx base an a bid/\fQ cx base an b bid
 | .cond _ a b,bid=>fQ cx base an a bid/\fQ cx base an b bid
 | .block id b,_=>fQ cx base an b id
 | .loop b,bid=>fQ cx base an b bid /\ ∀ hk,dJ (an bid)=some hk -> ∀ s κ,hk s κ=true->vK cx.N (λs k=>db cx base an b bid s (uH cx.P base (an bid) κ k)) s=true
 | _,_=>True
def ag0 (P:Program) (s:St) (r:ResultVar) (k:V->Bool):Bool:=
 match r with
 | .tmp t=>k (s.F.getD t .any)
 | .cell t ty=>match ma P ty,fO P ty,s.F.getD t .any with
  | some ag,some z,.ptr n p=>match aE s.M n with
   | some b=>cond ag (b.c.part p z λcs=>k (.agg cs)) (b.c.get p k)
   | none=>false
  | _,_,_=>false
def KY (P:Program) (s:St):List ResultVar->(List V->Bool)->Bool
 | [],k=>k []
 | r::rs,k=>ag0 P s r λv=>KY P s rs λvs=>k (v::vs)
def nZ:bh->Option (List Blk)
 | []=>some []
 | some b::r=>(nZ r).map (b :: ·)
 | none::_=>none
def Fc (P:Program) (base:Nat) (rs:List ResultVar) (s:St) (k:V->List Blk->Bool):Bool:=
 KY P s rs λvs=>
  let L:=gI base s.M (kq vs)
  kI L&&match nZ (eH base L s.M)with
  | some H=>match mP (renum base L) vs with
   | [v]=>k v H
   | vs=>k (.tup vs) H
  | none=>false
def gm (cx:Cx) (an:Nat->Option Ann) (f:Nat) (args:List V) (H:List Blk) (k:V->List Blk->Bool):Bool:=
 match cx.P.funcs[f]? with
 | some fn=>match fn.body with
  | some c=>
   let fin:=λs=>Fc cx.P H.length fn.results.toList s k
   !(fn.name == "runtime.NumGoroutine")&&db cx H.length an c 0 ⟨args++List.replicate (fn.ntmps - args.length) .any,H.map some⟩ ⟨fin,λ_ _=>false,fin⟩
  | none=>false
 | none=>false
structure Place where
 b:Nat
 len:Nat
 cap:Nat
abbrev Rho:=Nat->Option (Option Place)
def FRep:Fl->Value->Prop
 | some b,v=>v=.float .f64 b
 | none,v=>∃ b,v=.float .f64 b/\isNaN b=true
inductive Rep (ok:Nat->Prop) (w:World) (ρ:Rho):V->Value->Prop
 | any (v:Value):Rep ok w ρ .any v
 | nil:Rep ok w ρ .nil (.slice none 0 0)
 | bool (b:Bool):Rep ok w ρ (.bool b) (.bool b)
 | int (k:IntKind) (n:Int):Rep ok w ρ (.int k n) (.int k n)
 | flt (x:Fl) (v:Value):FRep x v->Rep ok w ρ (.flt x) v
 | val (v:Value):Rep ok w ρ (.val v) v
 | fn (g:Nat) (caps:List V) (vs:List Value):caps.length=vs.length->(∀(i:Nat) c v,caps[i]? = some c->vs[i]? = some v->Rep ok w ρ c v)->Rep ok w ρ (.fn g caps) (.func (.func g) #[] vs.toArray)
 | ptr (n o:Nat) (p:Place):ρ n=some (some p)->Rep ok w ρ (.ptr n o) (.pointer (some ⟨p.b,o,none⟩))
 | slw (n:Nat) (p:Place):ρ n=some (some p)->Rep ok w ρ (.slw n) (.slice (some ⟨p.b,0,none⟩) p.len p.cap)
 | slv (n:Nat):ρ n=some none->Rep ok w ρ (.slw n) (.slice none 0 0)
 | sl (n o len cap o':Nat) (p:Place):ρ n=some (some p)->len<=cap->(o'=o\/len=0)->Rep ok w ρ (.sl n o len) (.slice (some ⟨p.b,o',none⟩) len cap)
 | slvp (n o:Nat):ρ n=some none->Rep ok w ρ (.sl n o 0) (.slice none 0 0)
 | rofn:Rep ok w ρ (.rof []) (.slice none 0 0)
 | rof (xs:List Fl) (b o cap:Nat) (g:Nat->Value):ok b->b<w.heap.size->xs.length<=cap->(∀ i,i<xs.length->w.cell? ⟨b,o+i,none⟩=some (g i))->(∀(i:Nat) x,xs[i]? = some x->FRep x (g i)) ->
   Rep ok w ρ (.rof xs) (.slice (some ⟨b,o,none⟩) xs.length cap)
 | roin (k:IntKind):Rep ok w ρ (.roi k []) (.slice none 0 0)
 | roi (k:IntKind) (xs:List Int) (b o cap:Nat):ok b->b<w.heap.size->xs.length<=cap->(∀(i:Nat) x,xs[i]? = some x->w.cell? ⟨b,o+i,none⟩=some (.int k x)) ->
   Rep ok w ρ (.roi k xs) (.slice (some ⟨b,o,none⟩) xs.length cap)
 | ron (sz:Nat):Rep ok w ρ (.ro sz []) (.slice none 0 0)
 | ro (sz:Nat) (cs:List V) (b o len cap:Nat) (g:Nat->Value):ok b->b<w.heap.size->len*sz=cs.length->len<=cap->(∀ i,i<cs.length->w.cell? ⟨b,o+i,none⟩=some (g i))->(∀ i,i<cs.length->(g i).oneCell'=true) ->
   (∀(i:Nat) c,cs[i]? = some c->Rep ok w ρ c (g i))->Rep ok w ρ (.ro sz cs) (.slice (some ⟨b,o,none⟩) len cap)
 | pf (xs:List Fl) (i b o:Nat) (v:Value):w.cell? ⟨b,o,none⟩=some v->FRep (xs.getD i none) v->ok b->b<w.heap.size->Rep ok w ρ (.pf xs i) (.pointer (some ⟨b,o,none⟩))
 | pi (k:IntKind) (xs:List Int) (i b o:Nat):w.cell? ⟨b,o,none⟩=some (.int k (xs.getD i 0))->ok b->b<w.heap.size->Rep ok w ρ (.pi k xs i) (.pointer (some ⟨b,o,none⟩))
 | rp (cs:List V) (i b o:Nat) (g:Nat->Value):ok b->b<w.heap.size->(∀ j,i+j<cs.length->w.cell? ⟨b,o+j,none⟩=some (g (i+j)))->(∀ j,j<cs.length->(g j).oneCell'=true) ->
   (∀(j:Nat) c,cs[j]? = some c->Rep ok w ρ c (g j))->Rep ok w ρ (.rp cs i) (.pointer (some ⟨b,o,none⟩))
 | agg (cs:List V) (vs:List Value):cs.length=vs.length->(∀ v ∈ vs,v.oneCell'=true)->(∀(i:Nat) c v,cs[i]? = some c->vs[i]? = some v->Rep ok w ρ c v)->Rep ok w ρ (.agg cs) (.agg vs.toArray)
 | tup (cs:List V) (vs:List Value):cs.length=vs.length->(∀(i:Nat) c v,cs[i]? = some c->vs[i]? = some v->Rep ok w ρ c v)->Rep ok w ρ (.tup cs) (.tuple vs.toArray)
structure Keeps (ok:Nat->Prop) (w:World) (ρ:Rho) (ok':Nat->Prop) (w':World) (ρ':Rho):Prop where
 rho:∀ n q,ρ n=some q->ρ' n=some q
 blk:∀ b,b<w.heap.size->ok b->ok' b/\w'.heap[b]? = w.heap[b]?
 size:w.heap.size<=w'.heap.size
theorem Keeps.refl (ok:Nat->Prop) (w:World) (ρ:Rho):Keeps ok w ρ ok w ρ:=⟨λ_ _ h=>h,λ_ _ h=>⟨h,rfl⟩,ap1 _⟩
theorem Keeps.trans {ok ok' ok'':Nat->Prop} {w w' w'':World} {ρ ρ' ρ'':Rho} (h:Keeps ok w ρ ok' w' ρ') (k:Keeps ok' w' ρ' ok'' w'' ρ''):Keeps ok w ρ ok'' w'' ρ'':=
 ⟨λn q e=>k.rho n q (h.rho n q e),λb hb ho=>by obtain⟨h1,h2⟩:=h.blk b hb ho;obtain⟨k1,k2⟩:=k.blk b (ap6 hb h.size) h1;exact⟨k1,k2.trans h2⟩,ap2 h.size k.size⟩
theorem cell?_of {w w':World} {b o:Nat} {v:Value} (h:w'.heap[b]? = w.heap[b]?) (hc:w.cell? ⟨b,o,none⟩=some v):w'.cell? ⟨b,o,none⟩=some v:=by rw[<- hc]; simp only[World.cell?,h]
theorem Rep.mono {ok ok':Nat->Prop} {w w':World} {ρ ρ':Rho} (hk:Keeps ok w ρ ok' w' ρ') {x:V} {v:Value} (h:Rep ok w ρ x v):Rep ok' w' ρ' x v:=by
 induction h with
 | any v=>exact .any v
 | nil=>exact .nil
 | bool b=>exact .bool b
 | int k n=>exact .int k n
 | flt x v h=>exact .flt x v h
 | val v=>exact .val v
 | fn g caps vs hl _ ih=>exact .fn g caps vs hl ih
 | ptr n o p h=>exact .ptr n o p (hk.rho _ _ h)
 | slw n p h=>exact .slw n p (hk.rho _ _ h)
 | slv n h=>exact .slv n (hk.rho _ _ h)
 | sl n o len cap o' p h hl ho=>exact .sl n o len cap o' p (hk.rho _ _ h) hl ho
 | slvp n o h=>exact .slvp n o (hk.rho _ _ h)
 | rofn=>exact .rofn
 | rof xs b o cap g ho hb hcap hc hr=>exact .rof xs b o cap g (hk.blk b hb ho).1 (ap6 hb hk.size) hcap (λi hi=>cell?_of (hk.blk b hb ho).2 (hc i hi)) hr
 | roin k=>exact .roin k
 | roi k xs b o cap ho hb hcap hc=>exact .roi k xs b o cap (hk.blk b hb ho).1 (ap6 hb hk.size) hcap (λi x hi=>cell?_of (hk.blk b hb ho).2 (hc i x hi))
 | ron sz=>exact .ron sz
 | ro sz cs b o len cap g ho hb hl hcap hc h1 _ ih=>exact .ro sz cs b o len cap g (hk.blk b hb ho).1 (ap6 hb hk.size) hl hcap (λi hi=>cell?_of (hk.blk b hb ho).2 (hc i hi)) h1 ih
 | pf xs i b o v hc hf ho hb=>exact .pf xs i b o v (cell?_of (hk.blk b hb ho).2 hc) hf (hk.blk b hb ho).1 (ap6 hb hk.size)
 | pi k xs i b o hc ho hb=>exact .pi k xs i b o (cell?_of (hk.blk b hb ho).2 hc) (hk.blk b hb ho).1 (ap6 hb hk.size)
 | rp cs i b o g ho hb hc h1 _ ih=>exact .rp cs i b o g (hk.blk b hb ho).1 (ap6 hb hk.size) (λj hj=>cell?_of (hk.blk b hb ho).2 (hc j hj)) h1 ih
 | agg cs vs hl h1 _ ih=>exact .agg cs vs hl h1 ih
 | tup cs vs hl _ ih=>exact .tup cs vs hl ih
def Body.at:Body->Nat->Option V
 | .flts xs,i=>(xs[i]?).map .flt
 | .ints k xs,i=>(xs[i]?).map (.int k)
 | .cells cs,i=>cs[i]?
theorem Body.at_lt {c:Body} {i:Nat} {x:V} (h:c.at i=some x):i<c.size:=by
 cases c <;> simp only[Body.at,Body.size,aqc]at h ⊢
 ·obtain⟨y,hy,_⟩:=h; exact(List.getElem?_eq_some_iff.1 hy).1
 ·obtain⟨y,hy,_⟩:=h; exact(List.getElem?_eq_some_iff.1 hy).1
 ·exact(List.getElem?_eq_some_iff.1 h).1
theorem Body.at_some {c:Body} {i:Nat} (h:i<c.size):∃ x,c.at i=some x:=by cases c <;> simp only[Body.at,Body.size]at h ⊢ <;> simp[h]
def BodyRep (ok:Nat->Prop) (w:World) (ρ:Rho) (c:Body) (cur:Array Value):Prop:=
 ∀ i x,c.at i=some x -> ∃ v,cur[i]? = some v/\v.oneCell'=true/\Rep ok w ρ x v
theorem BodyRep.mono {ok ok':Nat->Prop} {w w':World} {ρ ρ':Rho} (hk:Keeps ok w ρ ok' w' ρ') {c:Body} {cur:Array Value} (h:BodyRep ok w ρ c cur):BodyRep ok' w' ρ' c cur:=
 λi x hx=>let ⟨v,h1,h2,h3⟩:=h i x hx; ⟨v,h1,h2,h3.mono hk⟩
def ahK (ok:Nat->Prop) (w:World) (ρ:Rho) (q:Option Place) (blk:Blk):Prop:=match q with
 | none=>blk.c.size=0
 | some p=>∃ cur,w.heap[p.b]? = some (.cells cur blk.e (0,0))/\cur.size=p.cap*blk.sz/\p.len*blk.sz=blk.c.size/\p.len<=p.cap/\p.cap<=maxLen/\BodyRep ok w ρ blk.c cur
abbrev LK:=Nat->Option Blk
structure Gh where
 B:Nat
 base:Nat
 w0:World
 ok0:Nat->Prop
def okc (G:Gh) (ρ:Rho) (L:LK) (b:Nat):Prop:=(G.ok0 b\/G.B<=b) /\ ∀ n blk p,L n=some blk->ρ n=some (some p)->p.b ≠ b
def TabAt (w:World) (b:Nat) (zs:List Int):Prop:=b<w.heap.size /\ ∀ i,i<zs.length->w.cell? ⟨b,i,none⟩=some (.int .u8 (zs.getD i 0))
theorem TabAt.of {w w':World} {b:Nat} {zs:List Int} (h:TabAt w b zs) (hh:w'.heap[b]? = w.heap[b]?):TabAt w' b zs:=by refine⟨?_,λi hi=>cell?_of hh (h.2 i hi)⟩;have h1:=h.1;rw[Array.getElem?_eq_getElem h1]at hh;exact(Array.getElem?_eq_some_iff.1 hh).1
structure SimW (G:Gh) (w:World) (ρ:Rho) (L:LK):Prop where
 blks:∀ n blk,L n=some blk -> ∃ q,ρ n=some q/\ahK (okc G ρ L) w ρ q blk
 inj:∀ n m bn bm p q,L n=some bn->L m=some bm->ρ n=some (some p)->ρ m=some (some q)->p.b=q.b->n=m
 own:∀ n p,G.base<=n->ρ n=some (some p)->G.B<=p.b
 size:G.B<=w.heap.size
 os:w.os=G.w0.os
 tape:w.tape=G.w0.tape
 output:w.output=G.w0.output
 old:∀ b,b<G.B->(∀ n p,n<G.base->ρ n=some (some p)->p.b ≠ b)->w.heap[b]? = G.w0.heap[b]?
 tab:∀ b zs,y6 b=some zs->G.ok0 b/\TabAt w b zs
 high:∀ n p,ρ n=some (some p)->y6 p.b=none
theorem SimW.tabs {G:Gh} {w w':World} {ρ:Rho} {L:LK} (h:SimW G w ρ L) (hb:∀ b zs,y6 b=some zs->w'.heap[b]? = w.heap[b]?):∀ b zs,y6 b=some zs->G.ok0 b/\TabAt w' b zs:=
 λb zs e=>⟨(h.tab b zs e).1,(h.tab b zs e).2.of (hb b zs e)⟩
theorem SimW.apart {G:Gh} {w:World} {ρ:Rho} {L:LK} (h:SimW G w ρ L) {n:Nat} {p:Place} (hp:ρ n=some (some p)) {b:Nat} {zs:List Int} (e:y6 b=some zs):b ≠ p.b:=by intro he;have:=h.high n p hp;rw[<- he,e]at this; cases this
def cp (L:LK) (n:Nat) (b:Option Blk):LK:=λm=>if m=n then b else L m
def bP (ρ:Rho) (n:Nat) (q:Option Place):Rho:=λm=>if m=n then some q else ρ m
theorem SimW.lt {G:Gh} {w:World} {ρ:Rho} {L:LK} (h:SimW G w ρ L) {n:Nat} {blk:Blk} {p:Place} (hL:L n=some blk) (hp:ρ n=some (some p)):p.b<w.heap.size:=by obtain⟨q,hq,hb⟩:=h.blks n blk hL;rw[hp]at hq; cases hq;obtain⟨cur,hc,_⟩:=hb;exact(Array.getElem?_eq_some_iff.1 hc).1
theorem SimW.drew {G:Gh} {w:World} {ρ:Rho} {L:LK} (h:SimW G w ρ L):SimW G w.drew ρ L/\Keeps (okc G ρ L) w ρ (okc G ρ L) w.drew ρ:=by
 have hk:Keeps (okc G ρ L) w ρ (okc G ρ L) w.drew ρ:=⟨λ_ _ h=>h,λ_ _ h=>⟨h,rfl⟩,ap1 _⟩
 refine⟨⟨?_,h.inj,h.own,h.size,h.os,h.tape,h.output,h.old,h.tab,h.high⟩,hk⟩;intro n blk hn;obtain⟨q,hq,hb⟩:=h.blks n blk hn;refine⟨q,hq,?_⟩;cases q with
 | none=>exact hb
 | some p=>obtain⟨cur,h1,h2,h3,h4,h5,h6⟩:=hb; exact⟨cur,h1,h2,h3,h4,h5,h6.mono hk⟩
theorem SimW.same {G:Gh} {w w':World} {ρ:Rho} {L:LK} (h:SimW G w ρ L) (hb:∀ b,b<w.heap.size->w'.heap[b]? = w.heap[b]?) (hs:w.heap.size<=w'.heap.size)
  (h1:w'.os=w.os) (h2:w'.tape=w.tape) (h3:w'.output=w.output):SimW G w' ρ L/\Keeps (okc G ρ L) w ρ (okc G ρ L) w' ρ:=by
 have hk:Keeps (okc G ρ L) w ρ (okc G ρ L) w' ρ:=⟨λ_ _ h=>h,λb hlt h=>⟨h,hb b hlt⟩,hs⟩
 refine⟨⟨?_,h.inj,h.own,ap2 h.size hs,h1.trans h.os,h2.trans h.tape,h3.trans h.output,?_,h.tabs λb zs e=>hb b (h.tab b zs e).2.1,h.high⟩,hk⟩
 ·intro n blk hn;obtain⟨q,hq,hbb⟩:=h.blks n blk hn;refine⟨q,hq,?_⟩;cases q with
  | none=>exact hbb
  | some p=>obtain⟨cur,h1,h2,h3,h4,h5,h6⟩:=hbb; exact⟨cur,(hb _ (h.lt hn hq)).trans h1,h2,h3,h4,h5,h6.mono hk⟩
 ·intro b hlt hno;exact(hb b (ap6 hlt h.size)).trans (h.old b hlt hno)
theorem SimW.alloc {G:Gh} {w:World} {ρ:Rho} {L:LK} (h:SimW G w ρ L) (nm:Nat) (hnm:ρ nm=none) (hbase:G.base<=nm) (blk:Blk) (cur:Array Value) (len cap:Nat)
  (h1:cur.size=cap*blk.sz) (h2:len*blk.sz=blk.c.size) (h3:len<=cap) (h4:cap<=maxLen) (h5:BodyRep (okc G ρ L) w ρ blk.c cur) :
  SimW G (w.alloc (.cells cur blk.e (0,0))) (bP ρ nm (some ⟨w.heap.size,len,cap⟩)) (cp L nm (some blk)) /\
  Keeps (okc G ρ L) w ρ (okc G (bP ρ nm (some ⟨w.heap.size,len,cap⟩)) (cp L nm (some blk))) (w.alloc (.cells cur blk.e (0,0))) (bP ρ nm (some ⟨w.heap.size,len,cap⟩)):=by
 have hLnm:L nm=none:=by
  cases e:L nm with
  | none=>rfl
  | some b=>obtain⟨q,hq,_⟩:=h.blks nm b e; rw[hnm]at hq; cases hq
 have hold:∀ b,b<w.heap.size->(w.alloc (.cells cur blk.e (0,0))).heap[b]? = w.heap[b]?:=λb hb=>heap_alloc_old _ _ hb
 have hk:Keeps (okc G ρ L) w ρ (okc G (bP ρ nm (some ⟨w.heap.size,len,cap⟩)) (cp L nm (some blk))) (w.alloc (.cells cur blk.e (0,0))) (bP ρ nm (some ⟨w.heap.size,len,cap⟩)):=by
  refine⟨?_,?_,by simp⟩
  ·intro n q hq;unfold bP;by_cases e:n=nm
   ·subst e; rw[hnm]at hq; cases hq
   ·simp[e,hq]
  ·intro b hb ho;refine⟨⟨ho.1,?_⟩,hold b hb⟩;intro n bl p hn hp;unfold cp at hn; unfold bP at hp;by_cases e:n=nm
   ·subst e; simp at hp; subst hp; simp; omega
   ·simp only[e,aqa]at hn hp; exact ho.2 n bl p hn hp
 refine⟨⟨?_,?_,?_,?_,h.os,h.tape,h.output,?_,h.tabs λb zs e=>hold b (h.tab b zs e).2.1,?_⟩,hk⟩
 ·intro n bl hn;unfold cp at hn;by_cases e:n=nm
  ·subst e;simp only[aqB,ap5]at hn;subst hn;refine⟨some ⟨w.heap.size,len,cap⟩,by simp[bP],?_⟩;exact⟨cur,heap_alloc_new _ _,h1,h2,h3,h4,h5.mono hk⟩
  ·simp only[e,aqa]at hn;obtain⟨q,hq,hb⟩:=h.blks n bl hn;refine⟨q,by simp[bP,e,hq],?_⟩;cases q with
   | none=>exact hb
   | some p=>
    obtain⟨c2,g1,g2,g3,g4,g5,g6⟩:=hb;exact⟨c2,(hold _ (h.lt hn hq)).trans g1,g2,g3,g4,g5,g6.mono hk⟩
 ·intro n m bn bm p q hn hm hp hq e;unfold cp at hn hm; unfold bP at hp hq;by_cases en:n=nm <;> by_cases em:m=nm
  ·rw[en,em]
  ·simp only[en,em,aqB,aqa,ap5]at hn hm hp hq;subst hp;have:=h.lt hm hq;simp at e; omega
  ·simp only[en,em,aqB,aqa,ap5]at hn hm hp hq;subst hq;have:=h.lt hn hp;simp at e; omega
  ·simp only[en,em,aqa]at hn hm hp hq;exact h.inj n m bn bm p q hn hm hp hq e
 ·intro n p hn hp;unfold bP at hp;by_cases e:n=nm
  ·simp only[e,aqB,ap5]at hp; subst hp; exact h.size
  ·simp only[e,aqa]at hp; exact h.own n p hn hp
 ·simp only[World.size_alloc]; exact Nat.le_succ_of_le h.size
 ·intro b hb hno;rw[hold b (ap6 hb h.size)];refine h.old b hb λn p hn hp=>hno n p hn ?_
  unfold bP;have:n ≠ nm:=by omega
  simp[this,hp]
 ·intro n p hp;unfold bP at hp;by_cases e:n=nm
  ·simp only[e,aqB,ap5]at hp;subst hp;cases e':y6 w.heap.size with
   | none=>rfl
   | some zs=>exact absurd (h.tab _ zs e').2.1 (Nat.lt_irrefl _)
  ·simp only[e,aqa]at hp; exact h.high n p hp
theorem SimW.write {G:Gh} {w:World} {ρ:Rho} {L:LK} (h:SimW G w ρ L) (n:Nat) (blk:Blk) (p:Place) (hn:L n=some blk) (hp:ρ n=some (some p)) (cur cur':Array Value) (hc:w.heap[p.b]? = some (.cells cur blk.e (0,0)))
  (c':Body) (hsz:cur'.size=cur.size) (hcs:c'.size=blk.c.size) (hr:BodyRep (okc G ρ L) w ρ c' cur') :
  SimW G (w.setRow p.b cur') ρ (cp L n (some { blk with c:=c' }))/\Keeps (okc G ρ L) w ρ (okc G ρ (cp L n (some { blk with c:=c' }))) (w.setRow p.b cur') ρ:=by
 have hlive:∀ m,(cp L n (some { blk with c:=c' }) m).isSome=true↔(L m).isSome=true:=by
  intro m; unfold cp; by_cases e:m=n
  ·subst e; simp[hn]
  ·simp[e]
 have hok:∀ b,okc G ρ L b->okc G ρ (cp L n (some { blk with c:=c' })) b:=by intro b ho;refine⟨ho.1,λm bl q hm hq=>?_⟩;have:(L m).isSome=true:=(hlive m).1 (by simp[hm]);obtain⟨bl',hb'⟩:=Option.isSome_iff_exists.1 this;exact ho.2 m bl' q hb' hq
 have hoth:∀ b,b ≠ p.b->(w.setRow p.b cur').heap[b]? = w.heap[b]?:=λb hb=>setRow_other w p.b b cur' hb
 have hk:Keeps (okc G ρ L) w ρ (okc G ρ (cp L n (some { blk with c:=c' }))) (w.setRow p.b cur') ρ:=
  ⟨λ_ _ h=>h,λb _ ho=>⟨hok b ho,hoth b λe=>ho.2 n blk p hn hp e.symm⟩,by simp⟩
 refine⟨⟨?_,?_,h.own,by simpa using h.size,h.os,h.tape,h.output,?_,h.tabs λb zs e=>hoth b (h.apart hp e),h.high⟩,hk⟩
 ·intro m bl hm;unfold cp at hm;by_cases e:m=n
  ·subst e;simp only[aqB,ap5]at hm;subst hm;obtain⟨q,hq,hb⟩:=h.blks m blk hn;rw[hp]at hq; cases hq;obtain⟨c2,g1,g2,g3,g4,g5,_⟩:=hb;rw[hc]at g1; cases g1;exact⟨some p,hp,cur',setRow_heap w p.b cur cur' _ _ hc,hsz.trans g2,g3.trans hcs.symm,g4,g5,hr.mono hk⟩
  ·simp only[e,aqa]at hm;obtain⟨q,hq,hb⟩:=h.blks m bl hm;refine⟨q,hq,?_⟩;cases q with
   | none=>exact hb
   | some p'=>
    obtain⟨c2,g1,g2,g3,g4,g5,g6⟩:=hb;exact⟨c2,(hoth _ λe'=>e (h.inj m n bl blk p' p hm hn hq hp e')).trans g1,g2,g3,g4,g5,g6.mono hk⟩
 ·intro m m' bn bm q q' hm hm' hq hq' e;obtain⟨b1,hb1⟩:=Option.isSome_iff_exists.1 ((hlive m).1 (by simp[hm]));obtain⟨b2,hb2⟩:=Option.isSome_iff_exists.1 ((hlive m').1 (by simp[hm']));exact h.inj m m' b1 b2 q q' hb1 hb2 hq hq' e
 ·intro b hb hno;by_cases e:b=p.b
  ·subst e;by_cases hlt:n<G.base
   ·exact absurd rfl (hno n p hlt hp)
   ·have:=h.own n p (by omega) hp; omega
  ·rw[hoth b e]; exact h.old b hb hno
theorem SimW.drop {G:Gh} {w:World} {ρ:Rho} {L:LK} (h:SimW G w ρ L) (n:Nat) :
  SimW G w ρ (cp L n none)/\Keeps (okc G ρ L) w ρ (okc G ρ (cp L n none)) w ρ:=by
 have hsub:∀ m bl,cp L n none m=some bl->L m=some bl:=by
  intro m bl hm; unfold cp at hm; by_cases e:m=n
  ·simp[e]at hm
  ·simpa [e]using hm
 have hk:Keeps (okc G ρ L) w ρ (okc G ρ (cp L n none)) w ρ:=
  ⟨λ_ _ h=>h,λb _ ho=>⟨⟨ho.1,λm bl q hm hq=>ho.2 m bl q (hsub m bl hm) hq⟩,rfl⟩,ap1 _⟩
 refine⟨⟨?_,?_,h.own,h.size,h.os,h.tape,h.output,h.old,h.tab,h.high⟩,hk⟩
 ·intro m bl hm;obtain⟨q,hq,hb⟩:=h.blks m bl (hsub m bl hm);refine⟨q,hq,?_⟩;cases q with
  | none=>exact hb
  | some p=>obtain⟨c2,g1,g2,g3,g4,g5,g6⟩:=hb; exact⟨c2,g1,g2,g3,g4,g5,g6.mono hk⟩
 ·intro m m' bn bm q q' hm hm' hq hq' e;exact h.inj m m' bn bm q q' (hsub _ _ hm) (hsub _ _ hm') hq hq' e
theorem SimW.regrow {G:Gh} {w:World} {ρ:Rho} {L:LK} (h:SimW G w ρ L) (n nm:Nat) (hnm:ρ nm=none) (hbase:G.base<=n) (blk:Blk) (p:Place) (hn:L n=some blk) (hp:ρ n=some (some p)) (cur cur':Array Value)
  (hc:w.heap[p.b]? = some (.cells cur blk.e (0,0))) (c':Body) (len:Nat) (hsz:cur'.size=cur.size) (hl:len*blk.sz=c'.size) (hcap:len<=p.cap) (hr:BodyRep (okc G ρ L) w ρ c' cur') :
  SimW G (w.setRow p.b cur') (bP ρ nm (some ⟨p.b,len,p.cap⟩)) (cp (cp L n none) nm (some { blk with c:=c' })) /\
  Keeps (okc G ρ L) w ρ (okc G (bP ρ nm (some ⟨p.b,len,p.cap⟩)) (cp (cp L n none) nm (some { blk with c:=c' }))) (w.setRow p.b cur') (bP ρ nm (some ⟨p.b,len,p.cap⟩)):=by
 have hne:n ≠ nm:=by intro e; subst e; rw[hnm]at hp; cases hp
 have hoth:∀ b,b ≠ p.b->(w.setRow p.b cur').heap[b]? = w.heap[b]?:=λb hb=>setRow_other w p.b b cur' hb
 have hL:∀ m bl,m ≠ nm->cp (cp L n none) nm (some { blk with c:=c' }) m=some bl->m ≠ n/\L m=some bl:=by
  intro m bl hm e;unfold cp at e;rw[if_neg hm]at e;by_cases e2:m=n
  ·rw[if_pos e2]at e; cases e
  ·rw[if_neg e2]at e; exact⟨e2,e⟩
 have hok:∀ b,okc G ρ L b->okc G (bP ρ nm (some ⟨p.b,len,p.cap⟩)) (cp (cp L n none) nm (some { blk with c:=c' })) b:=by
  intro b ho;refine⟨ho.1,λm bl q hm hq=>?_⟩;by_cases e:m=nm
  ·subst e; simp[bP]at hq; subst hq; exact ho.2 n blk p hn hp
  ·simp only[bP,e,aqa]at hq;exact ho.2 m bl q (hL m bl e hm).2 hq
 have hk:Keeps (okc G ρ L) w ρ (okc G (bP ρ nm (some ⟨p.b,len,p.cap⟩)) (cp (cp L n none) nm (some { blk with c:=c' }))) (w.setRow p.b cur') (bP ρ nm (some ⟨p.b,len,p.cap⟩)):=by
  refine⟨?_,λb _ ho=>⟨hok b ho,hoth b λe=>ho.2 n blk p hn hp e.symm⟩,by simp⟩;intro m q hq;unfold bP;by_cases e:m=nm
  ·subst e; rw[hnm]at hq; cases hq
  ·simp[e,hq]
 obtain⟨cur0,g1,g2,g3,g4,g5,g6⟩:∃ cur,w.heap[p.b]? = some (.cells cur blk.e (0,0))/\cur.size=p.cap*blk.sz/\p.len*blk.sz=blk.c.size/\p.len<=p.cap/\p.cap<=maxLen/\BodyRep (okc G ρ L) w ρ blk.c cur:=by obtain⟨q,hq,hb⟩:=h.blks n blk hn;rw[hp]at hq; cases hq; exact hb
 rw[hc]at g1; cases g1;refine⟨⟨?_,?_,?_,by simpa using h.size,h.os,h.tape,h.output,?_,h.tabs λb zs e=>hoth b (h.apart hp e),?_⟩,hk⟩
 ·intro m bl hm;by_cases e:m=nm
  ·subst e;simp only[cp,aqB,ap5]at hm;subst hm;exact⟨some ⟨p.b,len,p.cap⟩,by simp[bP],cur',setRow_heap w p.b cur cur' _ _ hc,hsz.trans g2,hl,hcap,g5,hr.mono hk⟩
  ·obtain⟨e2,hLm⟩:=hL m bl e hm;obtain⟨q,hq,hb⟩:=h.blks m bl hLm;refine⟨q,by simp[bP,e,hq],?_⟩;cases q with
   | none=>exact hb
   | some p'=>
    obtain⟨c2,k1,k2,k3,k4,k5,k6⟩:=hb;exact⟨c2,(hoth _ λe'=>e2 (h.inj m n bl blk p' p hLm hn hq hp e')).trans k1,k2,k3,k4,k5,k6.mono hk⟩
 ·intro m m' bn bm q q' hm hm' hq hq' e;by_cases e1:m=nm <;> by_cases e2:m'=nm
  ·rw[e1,e2]
  ·subst e1;simp[bP]at hq; subst hq;simp only[bP,e2,aqa]at hq';obtain⟨e3,hL'⟩:=hL m' bm e2 hm';exact absurd (h.inj n m' blk bm p q' hn hL' hp hq' e).symm e3
  ·subst e2;simp[bP]at hq'; subst hq';simp only[bP,e1,aqa]at hq;obtain⟨e3,hL'⟩:=hL m bn e1 hm;exact absurd (h.inj m n bn blk q p hL' hn hq hp e) e3
  ·simp only[bP,e1,e2,aqa]at hq hq';exact h.inj m m' bn bm q q' (hL m bn e1 hm).2 (hL m' bm e2 hm').2 hq hq' e
 ·intro m q hm hq;by_cases e:m=nm
  ·subst e; simp[bP]at hq; subst hq; exact h.own n p hbase hp
  ·simp only[bP,e,aqa]at hq; exact h.own m q hm hq
 ·intro b hb hno;have hb':b ≠ p.b:=by have:=h.own n p hbase hp; omega
  rw[hoth b hb'];refine h.old b hb λm q hm hq=>hno m q hm ?_
  unfold bP;by_cases e:m=nm
  ·subst e; rw[hnm]at hq; cases hq
  ·simp[e,hq]
 ·intro m q hq;by_cases e:m=nm
  ·subst e; simp[bP]at hq; subst hq; exact h.high n p hp
  ·simp only[bP,e,aqa]at hq; exact h.high m q hq
theorem SimW.virt {G:Gh} {w:World} {ρ:Rho} {L:LK} (h:SimW G w ρ L) (nm:Nat) (hnm:ρ nm=none) (blk:Blk) (h0:blk.c.size=0) :
  SimW G w (bP ρ nm none) (cp L nm (some blk))/\Keeps (okc G ρ L) w ρ (okc G (bP ρ nm none) (cp L nm (some blk))) w (bP ρ nm none):=by
 have hk:Keeps (okc G ρ L) w ρ (okc G (bP ρ nm none) (cp L nm (some blk))) w (bP ρ nm none):=by
  refine⟨?_,?_,ap1 _⟩
  ·intro n q hq; unfold bP; by_cases e:n=nm
   ·subst e; rw[hnm]at hq; cases hq
   ·simp[e,hq]
  ·intro b hb ho;refine⟨⟨ho.1,?_⟩,rfl⟩;intro n bl p hn hp;unfold cp at hn; unfold bP at hp;by_cases e:n=nm
   ·simp[e]at hp
   ·simp only[e,aqa]at hn hp; exact ho.2 n bl p hn hp
 refine⟨⟨?_,?_,?_,h.size,h.os,h.tape,h.output,?_,h.tab,?_⟩,hk⟩
 ·intro n bl hn;unfold cp at hn;by_cases e:n=nm
  ·subst e; simp only[aqB,ap5]at hn; subst hn;exact⟨none,by simp[bP],h0⟩
  ·simp only[e,aqa]at hn;obtain⟨q,hq,hb⟩:=h.blks n bl hn;refine⟨q,by simp[bP,e,hq],?_⟩;cases q with
   | none=>exact hb
   | some p=>obtain⟨c2,g1,g2,g3,g4,g5,g6⟩:=hb; exact⟨c2,g1,g2,g3,g4,g5,g6.mono hk⟩
 ·intro n m bn bm p q hn hm hp hq e;unfold cp at hn hm; unfold bP at hp hq;by_cases en:n=nm
  ·simp[en]at hp
  ·by_cases em:m=nm
   ·simp[em]at hq
   ·simp only[en,em,aqa]at hn hm hp hq; exact h.inj n m bn bm p q hn hm hp hq e
 ·intro n p hn hp;unfold bP at hp;by_cases e:n=nm
  ·simp[e]at hp
  ·simp only[e,aqa]at hp; exact h.own n p hn hp
 ·intro b hb hno;refine h.old b hb λn p hn hp=>hno n p hn ?_
  unfold bP;by_cases e:n=nm
  ·subst e; rw[hnm]at hp; cases hp
  ·simp[e,hp]
 ·intro n p hp;unfold bP at hp;by_cases e:n=nm
  ·simp[e]at hp
  ·simp only[e,aqa]at hp; exact h.high n p hp
def dc:LK->Upd->LK
 | L,[]=>L
 | L,(n,b)::r=>dc (cp L n b) r
def bC (P:Program) (base:Nat) (F:List V) (M:bh) (o:Op) (x:V) (U:Upd) (T:List Nat):Prop:=
 ∀(G:Gh) (w:World) (ρ:Rho) (L:LK) (a:Act) (o':Oper),o'.op=o->G.base=base->SimW G w ρ L ->
  (∀ y,y ∈ o.operands->Rep (okc G ρ L) w ρ (ev F y) (a.eval y)) ->
  (∀ n,n ∈ T->L n=aE M n)->(∀ n b,(n,b) ∈ U->M.length<=n->ρ n=none/\base<=n) ->
  ∀(N:Act->World->Prop) (Q:Exit->Act->World->Prop),
   (∀ v w' ρ',SimW G w' ρ' (dc L U)->Rep (okc G ρ' (dc L U)) w' ρ' x v->Keeps (okc G ρ L) w ρ (okc G ρ' (dc L U)) w' ρ' ->
    (∀ n,ρ' n ≠ ρ n->n ∈ U.map (·.1))->N (a.put o'.dst v) w')->o'.wp P a w N Q
theorem gr {P:Program} {o:Oper} {a:Act} {w w':World} {v:Value} {N:Act->World->Prop} {Q:Exit->Act->World->Prop}
  (h:(execOp a.eval o).run P w=.ok (.value v) w') (hn:N (a.put o.dst v) w'):o.wp P a w N Q:=by
 unfold Oper.wp; rw[h]; exact hn
theorem aT {P:Program} {base:Nat} {F:List V} {M:bh} {o:Op} {x:V} {T:List Nat}
  (h:∀(G:Gh) (w:World) (ρ:Rho) (L:LK) (a:Act) (o':Oper),o'.op=o->SimW G w ρ L->(∀ y,y ∈ o.operands->Rep (okc G ρ L) w ρ (ev F y) (a.eval y))->(∀ n,n ∈ T->L n=aE M n) ->
   ∃ v w',(execOp a.eval o').run P w=.ok (.value v) w'/\(w'=w\/w'=w.drew)/\Rep (okc G ρ L) w ρ x v):bC P base F M o x [] T:=by
 intro G w ρ L a o' ho _ hs hops hT _ N Q hn;obtain⟨v,w',hr,hw,hx⟩:=h G w ρ L a o' ho hs hops hT;refine gr hr ?_;rcases hw with rfl | rfl
 ·exact hn v _ ρ hs hx (Keeps.refl _ _ _) (λn hne=>absurd rfl hne)
 ·obtain⟨h1,h2⟩:=hs.drew;exact hn v _ ρ h1 (hx.mono h2) h2 (λn hne=>absurd rfl hne)
section
variable {ok:Nat->Prop} {w:World} {ρ:Rho} {v:Value}
theorem Rep.bool_inv {b:Bool} (h:Rep ok w ρ (.bool b) v):v=.bool b:=by cases h; rfl
theorem Rep.int_inv {k:IntKind} {n:Int} (h:Rep ok w ρ (.int k n) v):v=.int k n:=by cases h; rfl
theorem Rep.flt_inv {x:Fl} (h:Rep ok w ρ (.flt x) v):FRep x v:=by cases h; assumption
theorem Rep.val_inv {u:Value} (h:Rep ok w ρ (.val u) v):v=u:=by cases h; rfl
theorem Rep.nil_inv (h:Rep ok w ρ .nil v):v=.slice none 0 0:=by cases h; rfl
theorem Rep.ptr_inv {n o:Nat} (h:Rep ok w ρ (.ptr n o) v):∃ p,ρ n=some (some p)/\v=.pointer (some ⟨p.b,o,none⟩):=by cases h; exact⟨_,by assumption,rfl⟩
theorem FRep.float {x:Fl} (h:FRep x v):∃ b,v=.float .f64 b:=by
 cases x with
 | none=>obtain⟨b,h,_⟩:=h; exact⟨b,h⟩
 | some b=>exact⟨b,h⟩
theorem Fi (b:Nat):FRep (cP b) (.float .f64 b):=by
 unfold cP;cases h:isNaN b with
 | true=>exact⟨b,rfl,h⟩
 | false=>rfl
theorem pW (u:Value):Rep ok w ρ (xM u) u:=by
 unfold xM;split <;> first
  | exact .bool _
  | exact .int _ _
  | exact .flt _ _ (Fi _)
  | exact .nil
  | exact .val _
theorem Rep.one {x:V} (h:Rep ok w ρ x v) (h1:x.one=true):v.oneCell'=true:=by
 cases h <;> simp[V.one]at h1 <;> try rfl
 ·rename_i hf; obtain⟨b,rfl⟩:=hf.float; rfl
 ·exact h1
theorem RW {x:Fl} (h:FRep x v):v.oneCell'=true:=by obtain⟨b,rfl⟩:=h.float; rfl
end
theorem nE {b:Nat} (h:isNaN b=true):∃ s f,Ieee.double.read b=.nan s f:=by
 unfold isNaN Ieee.Datum.isNaN at h;cases e:Ieee.double.read b <;> simp[e]at h
 exact⟨_,_,rfl⟩
theorem T9 (f:Nat->Nat->Option Nat) (hf:f=Ieee.double.add\/f=Ieee.double.sub\/f=Ieee.double.mul\/f=Ieee.double.div) {a:Nat} (b:Nat) (h:isNaN a=true):f a b=none:=by obtain⟨s,g,e⟩:=nE h;rcases hf with rfl | rfl | rfl | rfl <;> simp[Ieee.Format.add,Ieee.Format.sub,Ieee.Format.mul,Ieee.Format.div,e,Ieee.Datum.sum,Ieee.Datum.product,Ieee.Datum.quotient]
theorem ON (f:Nat->Nat->Option Nat) (hf:f=Ieee.double.add\/f=Ieee.double.sub\/f=Ieee.double.mul\/f=Ieee.double.div) (a:Nat) {b:Nat} (h:isNaN b=true):f a b=none:=by obtain⟨s,g,e⟩:=nE h;rcases hf with rfl | rfl | rfl | rfl <;> simp only[Ieee.Format.add,Ieee.Format.sub,Ieee.Format.mul,Ieee.Format.div,e] <;> cases Ieee.double.read a <;> simp[Ieee.Datum.sum,Ieee.Datum.product,Ieee.Datum.quotient,Ieee.Datum.opposite]
theorem gJ {a:Nat} (b:Nat) (h:isNaN a=true):Ieee.double.order a b=none:=by obtain⟨s,g,e⟩:=nE h;simp[Ieee.Format.order,e,Ieee.Datum.order]
theorem mI (a:Nat) {b:Nat} (h:isNaN b=true):Ieee.double.order a b=none:=by obtain⟨s,g,e⟩:=nE h;simp only[Ieee.Format.order,e];cases Ieee.double.read a <;> simp[Ieee.Datum.order]
theorem Oe (f:Nat->Nat->Option Nat) (hf:f=Ieee.double.add\/f=Ieee.double.sub\/f=Ieee.double.mul\/f=Ieee.double.div) {x y:Fl} {a b:Nat} (hx:FRep x (.float .f64 a)) (hy:FRep y (.float .f64 b)):f a b=BC f x y:=by
 cases x with
 | none=>obtain⟨a',e,h⟩:=hx; cases e; rw[T9 f hf b h]; rfl
 | some a'=>cases hx; cases y with
  | none=>obtain⟨b',e,h⟩:=hy; cases e; rw[ON f hf _ h]; rfl
  | some b'=>cases hy; rfl
theorem ul {x y:Fl} {a b:Nat} (hx:FRep x (.float .f64 a)) (hy:FRep y (.float .f64 b)):Ieee.double.order a b=lU x y:=by
 cases x with
 | none=>obtain⟨a',e,h⟩:=hx; cases e; rw[gJ b h]; rfl
 | some a'=>cases hx; cases y with
  | none=>obtain⟨b',e,h⟩:=hy; cases e; rw[mI _ h]; rfl
  | some b'=>cases hy; rfl
theorem fA (b:Nat):isNaN b=true↔9218868437227405312<b%9223372036854775808:=by
 have e1:Ieee.double.signWeight=9223372036854775808:=by decide
 have e2:Ieee.double.binade=4503599627370496:=by decide
 have e3:Ieee.double.infRung=9218868437227405312:=by decide
 unfold isNaN Ieee.Format.read;simp only[e1,e2,e3];generalize b%9223372036854775808=r;by_cases h1:r<4503599627370496
 ·simp[h1,Ieee.Datum.isNaN]; omega
 ·by_cases h2:r<9218868437227405312
  ·simp[h1,h2,Ieee.Datum.isNaN]; omega
  ·by_cases h3:r=9218868437227405312
   ·simp[h3,Ieee.Datum.isNaN]
   ·simp[h1,h2,h3,Ieee.Datum.isNaN]; omega
theorem ut (x y t:Nat):isNaN ((Question.nanBits .f64 x y).cut t)=true:=by
 rw[fA];simp only[Question.cut];have h1:t / 2%(2 ^ 52 - 1)<2 ^ 52 - 1:=aq8 _ (by decide);have h2:t%2=0\/t%2=1:=by omega
 generalize t / 2%(2 ^ 52 - 1)=r at *;rcases h2 with h2 | h2 <;> rw[h2] <;> omega
theorem Ut {P:Program} {w:World} (op:BinOp) (f:Nat->Nat->Option Nat) (t:TypeId) {x y:Fl} {u v:Value} (hx:FRep x u) (hy:FRep y v)
  (hf:f=Ieee.double.add/\op=.add\/f=Ieee.double.sub/\op=.sub\/f=Ieee.double.mul/\op=.mul\/f=Ieee.double.div/\op=.quo) :
  ∃ r w',(binOp op t u v).run P w=.ok r w'/\(w'=w\/w'=w.drew)/\FRep (BC f x y) r:=by
 obtain⟨a,rfl⟩:=hx.float;obtain⟨b,rfl⟩:=hy.float;have hf':f=Ieee.double.add\/f=Ieee.double.sub\/f=Ieee.double.mul\/f=Ieee.double.div:=by rcases hf with h | h | h | h <;> simp[h.1]
 have e:=Oe f hf' hx hy;rw[<- e];cases hr:f a b with
 | some r=>
  refine⟨.float .f64 r,w,?_,.inl rfl,rfl⟩;rcases hf with⟨rfl,rfl⟩ | ⟨rfl,rfl⟩ | ⟨rfl,rfl⟩ | ⟨rfl,rfl⟩ <;> simp[binOp,Op.floatArith,FloatKind.format,hr]
 | none=>
  refine⟨.float .f64 ((Question.nanBits .f64 a b).cut (w.tape w.drawn (.nanBits .f64 a b))),w.drew,?_,.inr rfl,_,rfl,ut _ _ _⟩;rcases hf with⟨rfl,rfl⟩ | ⟨rfl,rfl⟩ | ⟨rfl,rfl⟩ | ⟨rfl,rfl⟩ <;> simp[binOp,Op.floatArith,FloatKind.format,hr,Question.forced]
theorem RV {x:Fl} {a:Nat} (h:FRep x (.float .f64 a)):FRep (afG x) (.float .f64 (Op.negFloat .f64 a)):=by
 cases x with
 | some b=>cases h; rfl
 | none=>
  obtain⟨b,e,hn⟩:=h;cases e;refine⟨_,rfl,?_⟩;rw[fA]at hn ⊢;have hx:∀(n:Nat),(n ^^^ 2 ^ 63)%2 ^ 63=n%2 ^ 63:=by
   intro n;apply Nat.eq_of_testBit_eq;intro i;simp only[Nat.testBit_mod_two_pow,Nat.testBit_xor];by_cases hi:i<63
   ·have:(2 ^ 63:Nat).testBit i=false:=by rw[Nat.testBit_two_pow]; simp; omega
    simp[hi,this]
   ·simp[hi]
  have e:(2:Nat) ^ 63=9223372036854775808:=by decide
  rw[<- e]at hn ⊢;show _<(a ^^^ 2 ^ 63)%2 ^ 63;rw[hx]; exact hn
theorem and_true {a b:Bool} (h:(a&&b)=true):a=true/\b=true:=by simpa using h
theorem Pp {n:Int} (h:aw .i64 n=true):IntKind.i64.wrap n=n:=by have h':IntKind.i64.min<=n/\n<=IntKind.i64.max:=ap0 h;have h1:(-9223372036854775808:Int)<=n:=h'.1;have h2:n<=(9223372036854775807:Int):=h'.2;rw[IntKind.wrap_i64]; omega
theorem eZ {q:IntKind} {r:Int} {k:V->Bool} (h:rG q r k=true):∃ n,q.wrap r=n/\k (.int q n)=true:=by
 unfold rG at h;split at h
 ·obtain⟨h1,h2⟩:=and_true h;exact⟨r,Pp h1,h2⟩
 ·exact⟨_,rfl,h⟩
def lg (P:Program) (op:BinOp) (t:TypeId) (x y z:V):Prop:=
 ∀(ok:Nat->Prop) (w:World) (ρ:Rho) (u v:Value),Rep ok w ρ x u->Rep ok w ρ y v ->
  ∃ r w',(binOp op t u v).run P w=.ok r w'/\(w'=w\/w'=w.drew)/\Rep ok w ρ z r/\(∀ a b,(eqGuard op t a b u v).run P w=.ok () w)
theorem um {P:Program} {w:World} (op:BinOp) (t:TypeId) (a b:Operand) (k k':IntKind) (n m:Int):(eqGuard op t a b (.int k n) (.int k' m)).run P w=.ok () w:=by unfold eqGuard; cases op <;> rfl
theorem Dl {P:Program} {w:World} (op:BinOp) (t:TypeId) (a b:Operand) (k k':FloatKind) (n m:Nat):(eqGuard op t a b (.float k n) (.float k' m)).run P w=.ok () w:=by unfold eqGuard; cases op <;> rfl
theorem xf {P:Program} {w:World} (op:BinOp) (t:TypeId) (a b:Operand) (n m:Bool):(eqGuard op t a b (.bool n) (.bool m)).run P w=.ok () w:=by unfold eqGuard; cases op <;> rfl
theorem fR {P:Program} {op:BinOp} {t:TypeId} {q:IntKind} {a b:Int} {z:V} {c:Value}
  (h:∀(w:World),(binOp op t (.int q a) (.int q b)).run P w=.ok c w) (hz:∀ ok w ρ,Rep ok w ρ z c):lg P op t (.int q a) (.int q b) z:=by
 intro ok w ρ u v hu hv;obtain rfl:=hu.int_inv; obtain rfl:=hv.int_inv;exact⟨c,w,h w,.inl rfl,hz _ _ _,λa b=>um _ _ _ _ _ _ _ _⟩
theorem An {op:BinOp} {q:IntKind} {a b r:Int} (h:jV op q a b=some r) (P:Program) (w:World):(Op.intBits op q a b).run P w=.ok (.int q r) w:=by unfold jV at h;unfold Op.intBits;cases op <;> simp only[reduceCtorEq,ap5]at h <;> subst h <;> rfl
theorem Dn {P:Program} {op:BinOp} {t:TypeId} {q:IntKind} {a b:Int} {k:V->Bool} (hs:op ≠ .shl/\op ≠ .shr) (h:TM op q a b k=true) :
  ∃ z,lg P op t (.int q a) (.int q b) z/\k z=true:=by
 cases op <;> simp only[TM]at h
 case shl=>exact absurd rfl hs.1
 case shr=>exact absurd rfl hs.2
 case add=>obtain⟨n,e,h⟩:=eZ h; exact⟨_,fR (c:=.int q n) (λw=>by simp[binOp,Op.intArith,e]) (λ_ _ _=>.int _ _),h⟩
 case sub=>obtain⟨n,e,h⟩:=eZ h; exact⟨_,fR (c:=.int q n) (λw=>by simp[binOp,Op.intArith,e]) (λ_ _ _=>.int _ _),h⟩
 case mul=>obtain⟨n,e,h⟩:=eZ h; exact⟨_,fR (c:=.int q n) (λw=>by simp[binOp,Op.intArith,e]) (λ_ _ _=>.int _ _),h⟩
 case quo=>
  obtain⟨h0,h⟩:=and_true h;have hb:¬ b=0:=by simpa using h0
  obtain⟨n,e,h⟩:=eZ h;exact⟨_,fR (c:=.int q n) (λw=>by simp[binOp,Op.intDiv,hb,e]) (λ_ _ _=>.int _ _),h⟩
 case rem=>
  obtain⟨h0,h⟩:=and_true h;have hb:¬ b=0:=by simpa using h0
  exact⟨_,fR (c:=.int q (a.tmod b)) (λw=>by simp[binOp,Op.intDiv,hb]) (λ_ _ _=>.int _ _),h⟩
 case eql=>exact⟨_,fR (c:=.bool (a==b)) (λw=>by simp[binOp,Op.intCmp]) (λ_ _ _=>.bool _),h⟩
 case neq=>exact⟨_,fR (c:=.bool (a != b)) (λw=>by simp[binOp,Op.intCmp]) (λ_ _ _=>.bool _),h⟩
 case lss=>exact⟨_,fR (c:=.bool (decide (a<b))) (λw=>by simp[binOp,Op.intCmp]) (λ_ _ _=>.bool _),h⟩
 case leq=>exact⟨_,fR (c:=.bool (decide (a<=b))) (λw=>by simp[binOp,Op.intCmp]) (λ_ _ _=>.bool _),h⟩
 case gtr=>exact⟨_,fR (c:=.bool (decide (a>b))) (λw=>by simp[binOp,Op.intCmp]) (λ_ _ _=>.bool _),h⟩
 case geq=>exact⟨_,fR (c:=.bool (decide (a>=b))) (λw=>by simp[binOp,Op.intCmp]) (λ_ _ _=>.bool _),h⟩
 all_goals
  split at h
  ·rename_i r e;refine⟨_,fR (c:=.int q r) (λw=>?_) (λ_ _ _=>.int _ _),h⟩;have:=An e P w;simpa [binOp]using this
  ·cases h
theorem Ku {P:Program} {op:BinOp} {t:TypeId} {x y:Fl} {z:V}
  (h:∀(ok:Nat->Prop) (w:World) (ρ:Rho) (u v:Value),FRep x u->FRep y v -> ∃ r w',(binOp op t u v).run P w=.ok r w'/\(w'=w\/w'=w.drew)/\Rep ok w ρ z r):lg P op t (.flt x) (.flt y) z:=by
 intro ok w ρ u v hu hv;obtain⟨r,w',h1,h2,h3⟩:=h ok w ρ u v hu.flt_inv hv.flt_inv;obtain⟨a,rfl⟩:=hu.flt_inv.float;obtain⟨b,rfl⟩:=hv.flt_inv.float;exact⟨r,w',h1,h2,h3,λ_ _=>Dl _ _ _ _ _ _ _ _⟩
theorem De {P:Program} {op:BinOp} {t:TypeId} {x y:Fl} {k:V->Bool} (h:RR op x y k=true) :
  ∃ z,lg P op t (.flt x) (.flt y) z/\k z=true:=by
 have cmp:∀{op:BinOp} {z:Bool},(∀(w:World) (a b:Nat),Ieee.double.order a b=lU x y->(binOp op t (.float .f64 a) (.float .f64 b)).run P w=.ok (.bool z) w) ->
   lg P op t (.flt x) (.flt y) (.bool z):=by
  intro op z hc;refine Ku λok w ρ u v hu hv=>?_
  obtain⟨a,rfl⟩:=hu.float;obtain⟨b,rfl⟩:=hv.float;exact⟨_,w,hc w a b (ul hu hv),.inl rfl,.bool _⟩
 have ari:∀{op:BinOp} {f:Nat->Nat->Option Nat},(f=Ieee.double.add/\op=.add\/f=Ieee.double.sub/\op=.sub\/f=Ieee.double.mul/\op=.mul\/f=Ieee.double.div/\op=.quo) ->
   lg P op t (.flt x) (.flt y) (.flt (BC f x y)):=by
  intro op f hf;refine Ku λok w ρ u v hu hv=>?_
  obtain⟨r,w',h1,h2,h3⟩:=Ut (P:=P) (w:=w) op f t hu hv hf;exact⟨r,w',h1,h2,.flt _ _ h3⟩
 cases op <;> simp only[RR]at h <;> first
  | (cases h; done)
  | exact⟨_,ari (.inl ⟨rfl,rfl⟩),h⟩
  | exact⟨_,ari (.inr (.inl ⟨rfl,rfl⟩)),h⟩
  | exact⟨_,ari (.inr (.inr (.inl ⟨rfl,rfl⟩))),h⟩
  | exact⟨_,ari (.inr (.inr (.inr ⟨rfl,rfl⟩))),h⟩
  | exact⟨_,cmp (λw a b e=>by simp[binOp,Op.floatCmp,FloatKind.format,e,feq,flt,fgt,fle,fge,bne]),h⟩
theorem abz {P:Program} {w:World} {t:TypeId} (ht:P.underlying t=some .bool) (a b:Bool):(binOp .eql t (.bool a) (.bool b)).run P w=.ok (.bool (a==b)) w:=by
 have h:(Op.equal t (.bool a) (.bool b)).run P w=.ok (a==b) w:=by rw[Op.equal,Op.maxDepth,Op.equalIn,Sem.run_bind,run_underlying ht]; rfl
 show((Op.equal t (.bool a) (.bool b)) >>= λr=>pure (Value.bool r)).run P w=_;rw[Sem.run_bind,h]; rfl
theorem abA {P:Program} {w:World} {t:TypeId} (ht:P.underlying t=some .bool) (a b:Bool):(binOp .neq t (.bool a) (.bool b)).run P w=.ok (.bool (a != b)) w:=by
 have h:(Op.equal t (.bool a) (.bool b)).run P w=.ok (a==b) w:=by rw[Op.equal,Op.maxDepth,Op.equalIn,Sem.run_bind,run_underlying ht]; rfl
 show((Op.equal t (.bool a) (.bool b)) >>= λr=>pure (Value.bool (!r))).run P w=_;rw[Sem.run_bind,h]; rfl
theorem rr {P:Program} {t:TypeId} (h:wh P t=true):P.underlying t=some .bool:=by
 unfold wh at h; split at h
 ·assumption
 ·cases h
theorem dM {P:Program} {t s:Nat} (h:fO P t=some s) (w:World):(sizeOf t).run P w=.ok s w:=by unfold fO at h;obtain⟨i,hi,rfl⟩:=Option.map_eq_some_iff.1 h;simp[sizeOf,typeInfo,hi]
theorem uN {P:Program} {t s:Nat} (h:fO P t=some s):∃ i,P.info? t=some i/\i.size=s:=by unfold fO at h;obtain⟨i,hi,rfl⟩:=Option.map_eq_some_iff.1 h;exact⟨i,hi,rfl⟩
theorem Br {ok:Nat->Prop} {w:World} {ρ:Rho} {cs:List V} {u:Value} (h:Rep ok w ρ (.agg cs) u):∃ us:List Value,u=.agg us.toArray/\us.length=cs.length /\ ∀(i:Nat) c v,cs[i]? = some c->us[i]? = some v->Rep ok w ρ c v:=by
 cases h with
 | agg _ us hl ho hr=>exact⟨us,rfl,hl.symm,hr⟩
theorem Bl {P:Program} {n:Nat} {t:TypeId} (h:Pn P n t=true):∃ e,P.underlying t=some (.array n e)/\P.underlying e=some (.float .f64)/\fO P e=some 1/\P.eqGuardType P.depth t=false:=by
 unfold Pn at h;split at h
 ·rename_i m e he;obtain⟨h0,h5⟩:=and_true h;have hmn:m=n:=by simpa using h0
  clear h h0;subst hmn;split at h5
  ·rename_i h1 h2 h3;exact⟨e,he,h1,h2,by simpa using h5⟩
  ·cases h5
 ·cases h
theorem AC {P:Program} {w:World} {t:TypeId} (hq:P.eqGuardType P.depth t=false) {a b:Operand} (xs ys:Array Value):(eqGuard .eql t a b (.agg xs) (.agg ys)).run P w=.ok () w:=by unfold eqGuard;simp[hq]
theorem abx {P:Program} {w:World} {t e:TypeId} (ht:P.underlying t=some (.array 3 e)) (he:P.underlying e=some (.float .f64)) (hs:fO P e=some 1) (a0 a1 a2 b0 b1 b2:Nat) :
  (binOp .eql t (.agg #[.float .f64 a0,.float .f64 a1,.float .f64 a2]) (.agg #[.float .f64 b0,.float .f64 b1,.float .f64 b2])).run P w=.ok (.bool (Op.floatEq .f64 a0 b0&&(Op.floatEq .f64 a1 b1&&Op.floatEq .f64 a2 b2))) w:=by
 have step:∀ d a b,(Op.equalIn (d+1) e (.float .f64 a) (.float .f64 b)).run P w=.ok (Op.floatEq .f64 a b) w:=by intro d a b;rw[Op.equalIn,Sem.run_bind,run_underlying he]; rfl
 have pt:∀(xs:Array Value) (i:Nat) v,xs[i]? = some v->(part e xs i).run P w=.ok v w:=by
  intro xs i v hi;have hA:(isAgg e).run P w=.ok false w:=by unfold isAgg; rw[Sem.run_bind,run_underlying he]; rfl
  simp[part,hA,hi]
 have h:(Op.equal t (.agg #[.float .f64 a0,.float .f64 a1,.float .f64 a2]) (.agg #[.float .f64 b0,.float .f64 b1,.float .f64 b2])).run P w=.ok (Op.floatEq .f64 a0 b0&&(Op.floatEq .f64 a1 b1&&Op.floatEq .f64 a2 b2)) w:=by rw[Op.equal,Op.maxDepth,Op.equalIn,Sem.run_bind,run_underlying ht];simp only[Result.andThen_ok,aqJ,Std.Legacy.Range.size,Nat.sub_zero,Nat.add_one_sub_one,arm,Sem.run_bind,dM hs];simp[List.range',Sem.run_bind,pt,step];cases Op.floatEq .f64 a0 b0 <;> cases Op.floatEq .f64 a1 b1 <;> cases Op.floatEq .f64 a2 b2 <;> simp
 show((Op.equal t _ _) >>= λr=>pure (Value.bool r)).run P w=_;rw[Sem.run_bind,h]; rfl
theorem aby {P:Program} {w:World} {t e:TypeId} (ht:P.underlying t=some (.array 4 e)) (he:P.underlying e=some (.float .f64)) (hs:fO P e=some 1) (a0 a1 a2 a3 b0 b1 b2 b3:Nat) :
  (binOp .eql t (.agg #[.float .f64 a0,.float .f64 a1,.float .f64 a2,.float .f64 a3]) (.agg #[.float .f64 b0,.float .f64 b1,.float .f64 b2,.float .f64 b3])).run P w=.ok (.bool (Op.floatEq .f64 a0 b0&&(Op.floatEq .f64 a1 b1&&(Op.floatEq .f64 a2 b2&&Op.floatEq .f64 a3 b3)))) w:=by
 have step:∀ d a b,(Op.equalIn (d+1) e (.float .f64 a) (.float .f64 b)).run P w=.ok (Op.floatEq .f64 a b) w:=by intro d a b;rw[Op.equalIn,Sem.run_bind,run_underlying he]; rfl
 have pt:∀(xs:Array Value) (i:Nat) v,xs[i]? = some v->(part e xs i).run P w=.ok v w:=by
  intro xs i v hi;have hA:(isAgg e).run P w=.ok false w:=by unfold isAgg; rw[Sem.run_bind,run_underlying he]; rfl
  simp[part,hA,hi]
 have h:(Op.equal t (.agg #[.float .f64 a0,.float .f64 a1,.float .f64 a2,.float .f64 a3]) (.agg #[.float .f64 b0,.float .f64 b1,.float .f64 b2,.float .f64 b3])).run P w=.ok (Op.floatEq .f64 a0 b0&&(Op.floatEq .f64 a1 b1&&(Op.floatEq .f64 a2 b2&&Op.floatEq .f64 a3 b3))) w:=by rw[Op.equal,Op.maxDepth,Op.equalIn,Sem.run_bind,run_underlying ht];simp only[Result.andThen_ok,aqJ,Std.Legacy.Range.size,Nat.sub_zero,Nat.add_one_sub_one,arm,Sem.run_bind,dM hs];simp[List.range',Sem.run_bind,pt,step];cases Op.floatEq .f64 a0 b0 <;> cases Op.floatEq .f64 a1 b1 <;> cases Op.floatEq .f64 a2 b2 <;> cases Op.floatEq .f64 a3 b3 <;> simp
 show((Op.equal t _ _) >>= λr=>pure (Value.bool r)).run P w=_;rw[Sem.run_bind,h]; rfl
theorem EX {P:Program} {op:BinOp} {t:TypeId} {x y:V} {k:V->Bool} (h:aff op (wh P t) (Pn P 3 t) (Pn P 4 t) x y k=true):∃ z,lg P op t x y z/\k z=true:=by
 unfold aff at h;split at h
 ·rename_i q a k' b;obtain⟨h0,h1⟩:=and_true h;have hb:¬ b<0:=by have:=ap0 h0; omega
  obtain⟨n,e,h2⟩:=eZ h1;refine⟨_,?_,h2⟩;intro ok w ρ u v hu hv;obtain rfl:=hu.int_inv; obtain rfl:=hv.int_inv;exact⟨.int q n,w,by simp[binOp,Op.shift,hb,e],.inl rfl,.int _ _,λa b=>um _ _ _ _ _ _ _ _⟩
 ·rename_i q a k' b;obtain⟨h0,h1⟩:=and_true h;have hb:¬ b<0:=by have:=ap0 h0; omega
  refine⟨_,?_,h1⟩;intro ok w ρ u v hu hv;obtain rfl:=hu.int_inv; obtain rfl:=hv.int_inv;exact⟨.int q (a.fdiv (2 ^ (min b.toNat q.bits))),w,by simp[binOp,Op.shift,hb],.inl rfl,.int _ _,λa b=>um _ _ _ _ _ _ _ _⟩
 ·rename_i q a q' b hl hr;obtain⟨h0,h1⟩:=and_true h;clear h;obtain rfl:=ap0 h0;exact Dn ⟨λe=>hl e,λe=>hr e⟩ h1
 ·exact De h
 ·obtain⟨h0,h1⟩:=and_true h;refine⟨_,?_,h1⟩;intro ok w ρ u v hu hv;obtain rfl:=hu.bool_inv; obtain rfl:=hv.bool_inv;exact⟨_,w,abz (rr h0) _ _,.inl rfl,.bool _,λa b=>xf _ _ _ _ _ _⟩
 ·obtain⟨h0,h1⟩:=and_true h;refine⟨_,?_,h1⟩;intro ok w ρ u v hu hv;obtain rfl:=hu.bool_inv; obtain rfl:=hv.bool_inv;exact⟨_,w,abA (rr h0) _ _,.inl rfl,.bool _,λa b=>xf _ _ _ _ _ _⟩
 ·rename_i x0 x1 x2 y0 y1 y2;obtain⟨h0,h1⟩:=and_true h;refine⟨_,?_,h1⟩;obtain⟨e,ht,he,hs,hq⟩:=Bl h0;intro ok w ρ u v hu hv;obtain⟨us,rfl,hl,hur⟩:=Br hu;obtain⟨vs,rfl,hl',hvr⟩:=Br hv
  match us,hl,vs,hl' with
  | [u0,u1,u2],_,[v0,v1,v2],_=>
   have f0:=(hur 0 _ _ rfl rfl).flt_inv; have f1:=(hur 1 _ _ rfl rfl).flt_inv; have f2:=(hur 2 _ _ rfl rfl).flt_inv;have g0:=(hvr 0 _ _ rfl rfl).flt_inv; have g1:=(hvr 1 _ _ rfl rfl).flt_inv; have g2:=(hvr 2 _ _ rfl rfl).flt_inv;obtain⟨a0,rfl⟩:=f0.float; obtain⟨a1,rfl⟩:=f1.float; obtain⟨a2,rfl⟩:=f2.float;obtain⟨b0,rfl⟩:=g0.float; obtain⟨b1,rfl⟩:=g1.float; obtain⟨b2,rfl⟩:=g2.float;refine⟨_,w,abx ht he hs _ _ _ _ _ _,.inl rfl,?_,λa b=>AC hq _ _⟩;have q:∀{x y:Fl} {a b:Nat},FRep x (.float .f64 a)->FRep y (.float .f64 b)->Op.floatEq .f64 a b=feq x y:=by intro x y a b hx hy;show(Ieee.double.order a b==some .eq)=(lU x y==some .eq);rw[ul hx hy]
   rw[q f0 g0,q f1 g1,q f2 g2];exact .bool _
 ·rename_i x0 x1 x2 x3 y0 y1 y2 y3;obtain⟨h0,h1⟩:=and_true h;refine⟨_,?_,h1⟩;obtain⟨e,ht,he,hs,hq⟩:=Bl h0;intro ok w ρ u v hu hv;obtain⟨us,rfl,hl,hur⟩:=Br hu;obtain⟨vs,rfl,hl',hvr⟩:=Br hv
  match us,hl,vs,hl' with
  | [u0,u1,u2,u3],_,[v0,v1,v2,v3],_=>
   have f0:=(hur 0 _ _ rfl rfl).flt_inv; have f1:=(hur 1 _ _ rfl rfl).flt_inv; have f2:=(hur 2 _ _ rfl rfl).flt_inv; have f3:=(hur 3 _ _ rfl rfl).flt_inv;have g0:=(hvr 0 _ _ rfl rfl).flt_inv; have g1:=(hvr 1 _ _ rfl rfl).flt_inv; have g2:=(hvr 2 _ _ rfl rfl).flt_inv; have g3:=(hvr 3 _ _ rfl rfl).flt_inv;obtain⟨a0,rfl⟩:=f0.float; obtain⟨a1,rfl⟩:=f1.float; obtain⟨a2,rfl⟩:=f2.float; obtain⟨a3,rfl⟩:=f3.float;obtain⟨b0,rfl⟩:=g0.float; obtain⟨b1,rfl⟩:=g1.float; obtain⟨b2,rfl⟩:=g2.float; obtain⟨b3,rfl⟩:=g3.float;refine⟨_,w,aby ht he hs _ _ _ _ _ _ _ _,.inl rfl,?_,λa b=>AC hq _ _⟩;have q:∀{x y:Fl} {a b:Nat},FRep x (.float .f64 a)->FRep y (.float .f64 b)->Op.floatEq .f64 a b=feq x y:=by intro x y a b hx hy;show(Ieee.double.order a b==some .eq)=(lU x y==some .eq);rw[ul hx hy]
   rw[q f0 g0,q f1 g1,q f2 g2,q f3 g3];exact .bool _
 ·cases h
def ad8 (P:Program) (op:UnOp) (x z:V):Prop:=
 ∀(ok:Nat->Prop) (w:World) (ρ:Rho) (u:Value),Rep ok w ρ x u -> ∃ r,(Op.unary op u).run P w=.ok r w/\Rep ok w ρ z r
theorem Pk {P:Program} {op:UnOp} {x:V} {k:V->Bool} (h:unV op x k=true):∃ z,ad8 P op x z/\k z=true:=by
 unfold unV at h;split at h
 ·refine⟨_,?_,h⟩;intro ok w ρ u hu;obtain rfl:=hu.bool_inv;exact⟨_,rfl,.bool _⟩
 ·obtain⟨m,e,h⟩:=eZ h;refine⟨_,?_,h⟩;intro ok w ρ u hu;obtain rfl:=hu.int_inv;rw[Int.zero_sub]at e;exact⟨.int _ m,by simp[Op.unary,Op.intArith,e],.int _ _⟩
 ·refine⟨_,?_,h⟩;intro ok w ρ u hu;obtain⟨a,rfl⟩:=hu.flt_inv.float;exact⟨_,rfl,.flt _ _ (RV hu.flt_inv)⟩
 ·split at h
  ·rename_i r e;refine⟨_,?_,h⟩;intro ok w ρ u hu;obtain rfl:=hu.int_inv;exact⟨.int _ r,An e P w,.int _ _⟩
  ·cases h
 ·cases h
def Pu (P:Program) (s d:TypeId) (x z:V):Prop:=
 ∀(ok:Nat->Prop) (w:World) (ρ:Rho) (u:Value),Rep ok w ρ x u -> ∃ r,(convert s d u).run P w=.ok r w/\Rep ok w ρ z r
theorem CZ {P:Program} {s d:TypeId} {x:V} {k:V->Bool} (h:Rd P s d x k=true):∃ z,Pu P s d x z/\k z=true:=by
 unfold Rd at h;split at h
 ·rename_i D q k' n hs hd;obtain⟨m,e,h⟩:=eZ h;refine⟨_,?_,h⟩;intro ok w ρ u hu;obtain rfl:=hu.int_inv;exact⟨.int q m,by cases D <;> simp[convert,run_underlying hs,run_underlying hd,Conv.intToInt,e],.int _ _⟩
 ·rename_i D k' n hs hd;refine⟨_,?_,h⟩;intro ok w ρ u hu;obtain rfl:=hu.int_inv;exact⟨.float .f64 (FloatKind.f64.nearest n),by cases D <;> simp[convert,run_underlying hs,run_underlying hd,Conv.intToFloat],.flt _ _ rfl⟩
 ·rename_i D x hs hd;refine⟨_,?_,h⟩;intro ok w ρ u hu;obtain⟨a,rfl⟩:=hu.flt_inv.float;exact⟨.float .f64 a,by cases D <;> simp[convert,run_underlying hs,run_underlying hd,Conv.floatToFloat],.flt _ _ hu.flt_inv⟩
 ·rename_i D q b hs hd;split at h
  ·rename_i n e;obtain⟨h0,h⟩:=and_true h;have hb:=ap0 h0;refine⟨_,?_,h⟩;intro ok w ρ u hu;obtain rfl:u=.float .f64 b:=hu.flt_inv;exact⟨.int q n,by cases D <;> simp[convert,run_underlying hs,run_underlying hd,Conv.floatToInt,FloatKind.decode,FloatKind.format,e,hb.1,hb.2],.int _ _⟩
  ·cases h
 ·cases h
theorem mb {P:Program} {t:Nat} {g:Bool} (h:ma P t=some g) (w:World):(isAgg t).run P w=.ok g w:=by
 unfold ma at h;unfold isAgg;split at h
 ·rename_i e; cases h; simp[run_underlying e]
 ·rename_i e; cases h; simp[run_underlying e]
 ·rename_i d e1 e2 e; cases h;rw[Sem.run_bind,run_underlying e];cases d <;> first | rfl | (exact absurd rfl (e1 _)) | (exact absurd rfl (e2 _ _))
 ·cases h
theorem eU (b o n:Nat):(⟨b,o,none⟩:Addr).add n=⟨b,o+n,none⟩:=by
 unfold Addr.add; split
 ·subst_vars; rfl
 ·rfl
section
variable {ok:Nat->Prop} {w:World} {ρ:Rho} {v:Value}
theorem Rep.agg_inv {cs:List V} (h:Rep ok w ρ (.agg cs) v):∃ vs:List Value,v=.agg vs.toArray/\cs.length=vs.length/\(∀ u ∈ vs,u.oneCell'=true) /\ ∀(i:Nat) c u,cs[i]? = some c->vs[i]? = some u->Rep ok w ρ c u:=by
 cases h with
 | agg cs vs hl h1 h=>exact⟨vs,rfl,hl,h1,h⟩
theorem Rep.tup_inv {cs:List V} (h:Rep ok w ρ (.tup cs) v):∃ vs:List Value,v=.tuple vs.toArray/\cs.length=vs.length /\ ∀(i:Nat) c u,cs[i]? = some c->vs[i]? = some u->Rep ok w ρ c u:=by
 cases h with
 | tup cs vs hl h=>exact⟨vs,rfl,hl,h⟩
theorem Rep.fn_inv {g:Nat} {caps:List V} (h:Rep ok w ρ (.fn g caps) v):∃ vs:List Value,v=.func (.func g) #[] vs.toArray/\caps.length=vs.length /\ ∀(i:Nat) c u,caps[i]? = some c->vs[i]? = some u->Rep ok w ρ c u:=by
 cases h with
 | fn g caps vs hl h=>exact⟨vs,rfl,hl,h⟩
end
theorem Rep.rp_inv {ok:Nat->Prop} {w:World} {ρ:Rho} {v:Value} {cs:List V} {i:Nat} (h:Rep ok w ρ (.rp cs i) v):∃(b o:Nat) (g:Nat->Value),v=.pointer (some ⟨b,o,none⟩)/\ok b/\b<w.heap.size/\(∀ j,i+j<cs.length->w.cell? ⟨b,o+j,none⟩=some (g (i+j))) /\
  (∀ j,j<cs.length->(g j).oneCell'=true) /\ ∀(j:Nat) c,cs[j]? = some c->Rep ok w ρ c (g j):=by
 cases h with
 | rp cs i b o g hok hb hc h1 hr=>exact⟨b,o,g,rfl,hok,hb,hc,h1,hr⟩
theorem DG {P:Program} {ok:Nat->Prop} {w:World} {ρ:Rho} {t s off:Nat} {g:Bool} {cs:List V} {vs:List Value} {x:V}
  (hg:ma P t=some g) (hs:fO P t=some s) (hl:cs.length=vs.length) (h1:∀ u ∈ vs,u.oneCell'=true) (h:∀(i:Nat) c u,cs[i]? = some c->vs[i]? = some u->Rep ok w ρ c u)
  (hx:(g=true/\off+s<=cs.length/\x=.agg ((cs.drop off).take s))\/(g=false/\cs[off]? = some x)) :
  ∃ v,(part t vs.toArray off).run P w=.ok v w/\Rep ok w ρ x v:=by
 rcases hx with⟨rfl,hle,rfl⟩ | ⟨rfl,hc⟩
 ·refine⟨.agg ((vs.drop off).take s).toArray,?_,.agg _ _ ?_ ?_ ?_⟩
  ·simp only[part,Sem.run_bind,mb hg,Result.andThen_ok,aqB,dM hs,Sem.run_pure];congr 2;apply aqP;simp[List.extract_eq_take_drop]
  ·simp only[aqM,arc]; omega
  ·intro u hu; exact h1 u (List.mem_of_mem_drop (List.mem_of_mem_take hu))
  ·intro i c u hc hu;simp only[List.getElem?_take,List.getElem?_drop]at hc hu;split at hc
   ·rename_i hi; simp only[hi,aqB]at hu; exact h _ c u hc hu
   ·cases hc
 ·have hlt:off<vs.length:=by rw[<- hl]; exact(List.getElem?_eq_some_iff.1 hc).1
  refine⟨vs[off],?_,h off x _ hc (by simp[hlt])⟩;simp only[part,Sem.run_bind,mb hg,Result.andThen_ok,aqg,aqa];simp[hlt]
section
variable {cx:Cx} {base:Nat} {F:List V} {M:bh} {k:KOp}
theorem GA {x:Operand} (h:opV cx base F M (.move x) k=true):∃ y U T,bC cx.P base F M (.move x) y U T/\k y U T=true:=by simp only[opV]at h;exact⟨_,_,_,aT (λG w ρ L a o' ho hs hops _=>⟨a.eval x,w,by simp[execOp,ho],.inl rfl,hops x (by simp[Op.operands])⟩),h⟩
theorem B9 {x:Operand} (h:opV cx base F M (.assign x) k=true):∃ y U T,bC cx.P base F M (.assign x) y U T/\k y U T=true:=by simp only[opV]at h;exact⟨_,_,_,aT (λG w ρ L a o' ho hs hops _=>⟨a.eval x,w,by simp[execOp,ho],.inl rfl,hops x (by simp[Op.operands])⟩),h⟩
theorem GB {c x y:Operand} (h:opV cx base F M (.pick c x y) k=true):∃ z U T,bC cx.P base F M (.pick c x y) z U T/\k z U T=true:=by
 simp only[opV]at h;split at h
 ·rename_i t e;cases t
  ·exact⟨_,_,_,aT (λG w ρ L a o' ho hs hops _=>⟨a.eval y,w,by have hc:=hops c (by simp[Op.operands]); rw[e]at hc; have:=hc.bool_inv;simp[execOp,ho,this,asBool],.inl rfl,hops y (by simp[Op.operands])⟩),h⟩
  ·exact⟨_,_,_,aT (λG w ρ L a o' ho hs hops _=>⟨a.eval x,w,by have hc:=hops c (by simp[Op.operands]); rw[e]at hc; have:=hc.bool_inv;simp[execOp,ho,this,asBool],.inl rfl,hops x (by simp[Op.operands])⟩),h⟩
 ·cases h
theorem yh {x:Operand} (h:opV cx base F M (.nilCheck x) k=true):∃ y U T,bC cx.P base F M (.nilCheck x) y U T/\k y U T=true:=by
 simp only[opV]at h;have main:∀ y,ev F x=y->(∀ ok w ρ v,Rep ok w ρ y v->(∃ b,v=.pointer (some b)) \/ ∃ g vs,v=.func (.func g) #[] vs)->bC cx.P base F M (.nilCheck x) y [] []:=by intro y e hy;refine aT (λG w ρ L a o' ho hs hops _=>⟨a.eval x,w,?_,.inl rfl,e ▸ hops x (by simp[Op.operands])⟩);have hv:=hops x (by simp[Op.operands]);rw[e]at hv;rcases hy _ _ _ _ hv with⟨b,hb⟩ | ⟨g,vs,hb⟩ <;> simp[execOp,ho,hb]
 split at h <;> first
  | (cases h; done)
  | (rename_i e; exact⟨_,_,_,main _ e (λok w ρ v hv=>by cases hv <;> first | exact .inl ⟨_,rfl⟩ | exact .inr ⟨_,_,rfl⟩),h⟩)
theorem D_ {op:BinOp} {t t':TypeId} {x y:Operand} (h:opV cx base F M (.binOp op t x y t') k=true):∃ z U T,bC cx.P base F M (.binOp op t x y t') z U T/\k z U T=true:=by simp only[opV]at h;obtain⟨z,hz,hk⟩:=EX h;refine⟨z,_,_,aT (λG w ρ L a o' ho hs hops _=>?_),hk⟩;obtain⟨r,w',h1,h2,h3,h4⟩:=hz (okc G ρ L) w ρ _ _ (hops x (by simp[Op.operands])) (hops y (by simp[Op.operands]));exact⟨r,w',by simp[execOp,ho,h4,h1],h2,h3⟩
theorem GC {op:UnOp} {t:TypeId} {x:Operand} (h:opV cx base F M (.unOp op t x) k=true):∃ z U T,bC cx.P base F M (.unOp op t x) z U T/\k z U T=true:=by simp only[opV]at h;obtain⟨z,hz,hk⟩:=Pk (P:=cx.P) h;refine⟨z,_,_,aT (λG w ρ L a o' ho hs hops _=>?_),hk⟩;obtain⟨r,h1,h3⟩:=hz (okc G ρ L) w ρ _ (hops x (by simp[Op.operands]));exact⟨r,w,by simp[execOp,ho,h1],.inl rfl,h3⟩
theorem yZ {s d:TypeId} {x:Operand} (h:opV cx base F M (.convert s d x) k=true):∃ z U T,bC cx.P base F M (.convert s d x) z U T/\k z U T=true:=by simp only[opV]at h;obtain⟨z,hz,hk⟩:=CZ h;refine⟨z,_,_,aT (λG w ρ L a o' ho hs hops _=>?_),hk⟩;obtain⟨r,h1,h3⟩:=hz (okc G ρ L) w ρ _ (hops x (by simp[Op.operands]));exact⟨r,w,by simp[execOp,ho,h1],.inl rfl,h3⟩
theorem y4 {x:Operand} {i:Nat} (h:opV cx base F M (.extract x i) k=true):∃ z U T,bC cx.P base F M (.extract x i) z U T/\k z U T=true:=by
 simp only[opV]at h;split at h
 ·rename_i vs e;split at h
  ·rename_i v hv;refine⟨_,_,_,aT (λG w ρ L a o' ho hs hops _=>?_),h⟩;have hx:=hops x (by simp[Op.operands]); rw[e]at hx;obtain⟨us,hu,hl,hr⟩:=hx.tup_inv;have hlt:i<us.length:=by rw[<- hl]; exact(List.getElem?_eq_some_iff.1 hv).1
   exact⟨us[i],w,by simp[execOp,ho,hu,Instr.extract,hlt],.inl rfl,hr i v _ hv (by simp[hlt])⟩
  ·cases h
 ·cases h
theorem yg {f:Fn} {first caps:Array Operand} (h:opV cx base F M (.makeFunc f first caps) k=true):∃ z U T,bC cx.P base F M (.makeFunc f first caps) z U T/\k z U T=true:=by
 cases f <;> simp only[opV]at h <;> try (cases h; done)
 rename_i g;obtain⟨h0,h1⟩:=and_true h;obtain rfl:first = #[]:=by simpa using h0
 refine⟨_,_,_,aT (λG w ρ L a o' ho hs hops _=>⟨.func (.func g) #[] (caps.map a.eval),w,by simp[execOp,ho,Instr.makeFunc],.inl rfl,?_⟩),h1⟩;have e:caps.map a.eval=(caps.toList.map a.eval).toArray:=by apply aqP; simp
 rw[e];refine .fn g _ _ (by simp) ?_;intro i c u hc hu;rw[List.getElem?_map]at hc hu;obtain⟨y,hy,rfl⟩:=Option.map_eq_some_iff.1 hc;obtain⟨y',hy',rfl⟩:=Option.map_eq_some_iff.1 hu;rw[hy]at hy'; cases hy';refine hops y ?_;have:=List.mem_of_getElem? hy;simp[Op.operands];simpa using this
theorem Eb {t:TypeId} {x:Operand} {f:Nat} (h:opV cx base F M (.field t x f) k=true):∃ z U T,bC cx.P base F M (.field t x f) z U T/\k z U T=true:=by
 simp only[opV]at h;split at h
 ·rename_i fs hu;split at h
  ·rename_i fd hf;split at h
   ·rename_i ag s cs hag hsz e;have main:∀ y,(ag=true/\fd.offset+s<=cs.length/\y=.agg ((cs.drop fd.offset).take s))\/(ag=false/\cs[fd.offset]? = some y)->bC cx.P base F M (.field t x f) y [] []:=by intro y hy;refine aT (λG w ρ L a o' ho hs hops _=>?_);have hx:=hops x (by simp[Op.operands]); rw[e]at hx;obtain⟨us,hu',hl,h1,hr⟩:=hx.agg_inv;obtain⟨v,hv,hrep⟩:=DG hag hsz hl h1 hr hy;exact⟨v,w,by simp[execOp,ho,Instr.field,run_underlying hu,hf,hu',asAgg,hv],.inl rfl,hrep⟩
    cases ag
    ·simp only[ap_]at h;split at h
     ·rename_i v hv; exact⟨_,_,_,main _ (.inr ⟨rfl,hv⟩),h⟩
     ·cases h
    ·simp only[ap8]at h;obtain⟨h0,h1⟩:=and_true h;exact⟨_,_,_,main _ (.inl ⟨rfl,ap0 h0,rfl⟩),h1⟩
   ·cases h
  ·cases h
 ·cases h
theorem dL (i s:Nat):dO i s=i*s:=by unfold dO; split <;> simp
theorem iy {i:Int} {n:Nat} (h:inR i n=true):0<=i/\i<(n:Int):=ap0 h
theorem Ec {t:TypeId} {x j:Operand} (h:opV cx base F M (.index t x j) k=true):∃ z U T,bC cx.P base F M (.index t x j) z U T/\k z U T=true:=by
 simp only[opV]at h;split at h
 ·rename_i len e q i cs hu ei ex;split at h
  ·rename_i ag s hag hsz;obtain⟨hin,h⟩:=and_true h;have hi:=iy hin;have main:∀ y,(ag=true/\dO i.toNat s+s<=cs.length/\y=.agg ((cs.drop (dO i.toNat s)).take s))\/(ag=false/\cs[dO i.toNat s]? = some y)->bC cx.P base F M (.index t x j) y [] []:=by intro y hy;refine aT (λG w ρ L a o' ho hs hops _=>?_);have hx:=hops x (by simp[Op.operands]); rw[ex]at hx;have hj:=hops j (by simp[Op.operands]); rw[ei]at hj;obtain⟨us,hu',hl,h1,hr⟩:=hx.agg_inv;obtain⟨v,hv,hrep⟩:=DG hag hsz hl h1 hr hy;rw[dL]at hv;exact⟨v,w,by simp[execOp,ho,Instr.index,run_underlying hu,hu',hj.int_inv,asIntOf,hi.1,hi.2,dM hsz,hv],.inl rfl,hrep⟩
   cases ag
   ·simp only[ap_]at h;split at h
    ·rename_i v hv; exact⟨_,_,_,main _ (.inr ⟨rfl,hv⟩),h⟩
    ·cases h
   ·simp only[ap8]at h;obtain⟨h0,h1⟩:=and_true h;exact⟨_,_,_,main _ (.inl ⟨rfl,ap0 h0,rfl⟩),h1⟩
  ·cases h
 ·rename_i q i s hu ei ex;obtain⟨hin,h⟩:=and_true h;have hi:=iy hin;refine⟨_,_,_,aT (λG w ρ L a o' ho hs hops _=>?_),h⟩;have hx:=hops x (by simp[Op.operands]); rw[ex]at hx;have hj:=hops j (by simp[Op.operands]); rw[ei]at hj;have hlt:i.toNat<s.size:=by omega
  have hb:s[i.toNat]? = some s[i.toNat]:=getElem?_pos s i.toNat hlt;have he:(s.data.toList.map λb=>(b.toNat:Int)).getD i.toNat 0=((s[i.toNat].toNat:Nat):Int):=by
   have hl:i.toNat<s.data.toList.length:=by simpa using hlt
   rw[List.getD_eq_getElem?_getD,List.getElem?_map,List.getElem?_eq_getElem hl];rfl
  rw[he];exact⟨_,w,by simp[execOp,ho,Instr.index,run_underlying hu,hx.val_inv,hj.int_inv,asIntOf,hi.1,hb],.inl rfl,.int _ _⟩
 ·cases h
theorem vU {s:TypeId} {x:Operand} {f:Nat} (h:opV cx base F M (.fieldAddr s x f) k=true):∃ z U T,bC cx.P base F M (.fieldAddr s x f) z U T/\k z U T=true:=by
 simp only[opV]at h;split at h
 ·rename_i fs hu;split at h
  ·rename_i fd hf;split at h
   ·rename_i z hz;obtain⟨h0,h⟩:=and_true h;have hz0:¬ z=0:=by simpa using h0
    have run:∀(b o:Nat) (w:World) (v:Value),v=.pointer (some ⟨b,o,none⟩)->(Instr.fieldAt s v f).run cx.P w=.ok (.pointer (some ⟨b,o+fd.offset,none⟩)) w:=by intro b o w v hv;subst hv;simp[Instr.fieldAt,run_underlying hu,hf,Instr.sureAddr,fieldPlace,dM hz,hz0,eU]
    split at h
    ·rename_i n p e;refine⟨_,_,_,aT (λG w ρ L a o' ho hs hops _=>?_),h⟩;have hx:=hops x (by simp[Op.operands]); rw[e]at hx;obtain⟨pl,hp,hv⟩:=hx.ptr_inv;exact⟨_,w,by simp[execOp,ho,run _ _ w _ hv],.inl rfl,.ptr n _ pl hp⟩
    ·rename_i cs i e;refine⟨_,_,_,aT (λG w ρ L a o' ho hs hops _=>?_),h⟩;have hx:=hops x (by simp[Op.operands]); rw[e]at hx;obtain⟨b,o,g,hv,hok,hb,hc,h1,hr⟩:=hx.rp_inv;refine⟨.pointer (some ⟨b,o+fd.offset,none⟩),w,by simp[execOp,ho,run _ _ w _ hv],.inl rfl,.rp cs _ b (o+fd.offset) g hok hb ?_ h1 hr⟩;intro j hj;have:=hc (fd.offset+j) (by omega);rw[<- aqt,<- aqt]at this;exact this
    ·cases h
   ·cases h
  ·cases h
 ·cases h
end
theorem Body.get_sound {c:Body} {o:Nat} {k:V->Bool} (h:c.get o k=true):∃ z,c.at o=some z/\k z=true:=by
 cases c with
 | flts xs=>
  simp only[Body.get]at h;obtain⟨h0,h1⟩:=and_true h;have hl:=ap0 h0;exact⟨_,by simp[Body.at,hl]; rfl,by simpa [hl]using h1⟩
 | ints q xs=>
  simp only[Body.get]at h;obtain⟨h0,h1⟩:=and_true h;have hl:=ap0 h0;exact⟨_,by simp[Body.at,hl]; rfl,by simpa [hl]using h1⟩
 | cells cs=>
  simp only[Body.get]at h;split at h
  ·rename_i v e; exact⟨v,e,h⟩
  ·cases h
theorem Body.part_sound {c:Body} {o s:Nat} {k:List V->Bool} (h:c.part o s k=true):∃ zs,zs.length=s/\(∀(i:Nat) z,zs[i]? = some z->c.at (o+i)=some z)/\k zs=true:=by
 cases c with
 | flts xs=>
  simp only[Body.part]at h;obtain⟨h0,h1⟩:=and_true h;have hl:=ap0 h0;refine⟨_,by simp; omega,?_,h1⟩;intro i z hz;simp only[List.getElem?_map,List.getElem?_take,List.getElem?_drop]at hz;split at hz
  ·exact hz
  ·simp at hz
 | ints q xs=>
  simp only[Body.part]at h;obtain⟨h0,h1⟩:=and_true h;have hl:=ap0 h0;refine⟨_,by simp; omega,?_,h1⟩;intro i z hz;simp only[List.getElem?_map,List.getElem?_take,List.getElem?_drop]at hz;split at hz
  ·exact hz
  ·simp at hz
 | cells cs=>
  simp only[Body.part]at h;obtain⟨h0,h1⟩:=and_true h;have hl:=ap0 h0;refine⟨_,by simp; omega,?_,h1⟩;intro i z hz;simp only[List.getElem?_take,List.getElem?_drop]at hz;split at hz
  ·exact hz
  ·simp at hz
theorem dp {α:Type}:∀(vs cs:List α) (o:Nat),(setFrom cs o vs).length=cs.length
 | [],_,_=>rfl
 | v::r,cs,o=>by simp[setFrom,dp r]
theorem gq {α:Type}:∀(vs cs:List α) (o i:Nat),o+vs.length<=cs.length->(setFrom cs o vs)[i]? = if o<=i/\i<o+vs.length then vs[i - o]? else cs[i]?
 | [],cs,o,i,_=>by
  rw[if_neg (by simp only[aq2]; omega)]; rfl
 | v::r,cs,o,i,h=>by
  simp only[aqq]at h;rw[setFrom,gq r (cs.set o v) (o+1) i (by simp; omega)];simp only[aqq];by_cases e:i=o
  ·subst e;rw[if_neg (by omega),if_pos (by omega),List.getElem?_set];simp; try omega
  ·by_cases h1:o+1<=i/\i<o+1+r.length
   ·rw[if_pos h1,if_pos (by omega),show i - o=(i - (o+1))+1 from by omega];rfl
   ·rw[if_neg h1,if_neg (by omega),List.getElem?_set_ne (by omega)]
theorem Body.set_sound {c:Body} {o:Nat} {v:V} {k:Body->Bool} (h:c.set o v k=true) :
  ∃ c',k c'=true/\c'.size=c.size/\o<c.size/\v.one=true /\ ∀ i z,c'.at i=some z->(i=o/\z=v)\/(i ≠ o/\c.at i=some z):=by
 unfold Body.set at h;split at h
 ·rename_i xs x;obtain⟨h0,h1⟩:=and_true h;have hl:=ap0 h0;refine⟨_,h1,by simp[Body.size],hl,rfl,?_⟩;intro i z hz;simp only[Body.at,List.getElem?_set]at hz ⊢;by_cases e:o=i
  ·subst e; simp[hl]at hz; exact .inl ⟨rfl,hz.symm⟩
  ·simp only[e,aqa]at hz; exact .inr ⟨λe'=>e e'.symm,hz⟩
 ·rename_i q xs q' n;obtain⟨h0,h1⟩:=and_true h;obtain⟨h1,h2⟩:=and_true h1;obtain rfl:=ap0 h0;have hl:=ap0 h1;refine⟨_,h2,by simp[Body.size],hl,rfl,?_⟩;intro i z hz;simp only[Body.at,List.getElem?_set]at hz ⊢;by_cases e:o=i
  ·subst e; simp[hl]at hz; exact .inl ⟨rfl,hz.symm⟩
  ·simp only[e,aqa]at hz; exact .inr ⟨λe'=>e e'.symm,hz⟩
 ·rename_i cs;split at h
  ·rename_i u e;obtain⟨h0,h1⟩:=and_true h;have hl:o<cs.length:=(List.getElem?_eq_some_iff.1 e).1;refine⟨_,h1,by simp[Body.size],hl,h0,?_⟩;intro i z hz;simp only[Body.at,List.getElem?_set]at hz ⊢;by_cases e:o=i
   ·subst e; simp[hl]at hz; exact .inl ⟨rfl,hz.symm⟩
   ·simp only[e,aqa]at hz; exact .inr ⟨λe'=>e e'.symm,hz⟩
  ·cases h
 ·cases h
theorem uc:∀{cs:List V} {xs:List Fl},wD cs=some xs->cs=xs.map V.flt
 | [],xs,h=>by simp[wD]at h; subst h; rfl
 | .flt x::r,xs,h=>by
  simp only[wD,aqc]at h;obtain⟨ys,hy,rfl⟩:=h;simp[uc hy]
 | .any::_,_,h | .nil::_,_,h | .bool _::_,_,h | .int _ _::_,_,h | .val _::_,_,h | .fn _ _::_,_,h | .ptr _ _::_,_,h | .slw _::_,_,h | .sl _ _ _::_,_,h | .rof _::_,_,h | .roi _ _::_,_,h
 | .ro _ _::_,_,h | .pf _ _::_,_,h | .pi _ _ _::_,_,h | .rp _ _::_,_,h | .agg _::_,_,h | .tup _::_,_,h=>by simp[wD]at h
theorem pu {q:IntKind}:∀{cs:List V} {xs:List Int},pr q cs=some xs->cs=xs.map (V.int q)
 | [],xs,h=>by simp[pr]at h; subst h; rfl
 | .int q' n::r,xs,h=>by
  simp only[pr]at h;by_cases e:q'=q
  ·subst e;simp only[decide_true,ap8,aqc]at h;obtain⟨ys,hy,rfl⟩:=h;simp[pu hy]
  ·simp[e]at h
 | .any::_,_,h | .nil::_,_,h | .bool _::_,_,h | .flt _::_,_,h | .val _::_,_,h | .fn _ _::_,_,h | .ptr _ _::_,_,h | .slw _::_,_,h | .sl _ _ _::_,_,h | .rof _::_,_,h | .roi _ _::_,_,h
 | .ro _ _::_,_,h | .pf _ _::_,_,h | .pi _ _ _::_,_,h | .rp _ _::_,_,h | .agg _::_,_,h | .tup _::_,_,h=>by simp[pr]at h
theorem Body.setPart_sound {c:Body} {o:Nat} {vs:List V} {k:Body->Bool} (h:c.setPart o vs k=true) :
  ∃ c',k c'=true/\c'.size=c.size/\o+vs.length<=c.size/\vs.all V.one=true /\ ∀ i z,c'.at i=some z->(o<=i/\i<o+vs.length/\vs[i - o]? = some z)\/(¬(o<=i/\i<o+vs.length)/\c.at i=some z):=by
 unfold Body.setPart at h;split at h
 ·rename_i cs;obtain⟨h0,h1⟩:=and_true h;obtain⟨h1,h2⟩:=and_true h1;have hl:=ap0 h0;refine⟨_,h2,dp _ _ _,hl,h1,?_⟩;intro i z hz;simp only[Body.at,gq _ _ _ _ hl]at hz ⊢;by_cases e:o<=i/\i<o+vs.length
  ·rw[if_pos e]at hz; exact .inl ⟨e.1,e.2,hz⟩
  ·rw[if_neg e]at hz; exact .inr ⟨e,hz⟩
 ·rename_i xs;split at h
  ·rename_i ys hys;obtain rfl:=uc hys;obtain⟨h0,h1⟩:=and_true h;have hl:=ap0 h0;rw[List.length_map]at hl ⊢;refine⟨_,h1,dp _ _ _,hl,by simp[V.one],?_⟩;intro i z hz;simp only[Body.at,gq _ _ _ _ hl,List.getElem?_map]at hz ⊢;by_cases e:o<=i/\i<o+ys.length
   ·rw[if_pos e]at hz; exact .inl ⟨e.1,e.2,hz⟩
   ·rw[if_neg e]at hz; exact .inr ⟨e,hz⟩
  ·cases h
 ·rename_i q xs;split at h
  ·rename_i ys hys;obtain rfl:=pu hys;obtain⟨h0,h1⟩:=and_true h;have hl:=ap0 h0;rw[List.length_map]at hl ⊢;refine⟨_,h1,dp _ _ _,hl,by simp[V.one],?_⟩;intro i z hz;simp only[Body.at,gq _ _ _ _ hl,List.getElem?_map]at hz ⊢;by_cases e:o<=i/\i<o+ys.length
   ·rw[if_pos e]at hz; exact .inl ⟨e.1,e.2,hz⟩
   ·rw[if_neg e]at hz; exact .inr ⟨e,hz⟩
  ·cases h
theorem Re {blk:Blk} {len:Nat} (h:len*blk.sz=blk.c.size):blk.count<=len:=by
 unfold Blk.count;split
 ·rename_i e; rw[e]at h; omega
 ·rw[<- h];by_cases h0:blk.sz=0
  ·simp[h0]
  ·rw[aqR _ (by omega)]; omega
theorem qU {blk:Blk} {len:Nat} (h:len*blk.sz=blk.c.size) (h0:¬ blk.sz=0):blk.count=len:=by
 unfold Blk.count;split
 ·rename_i e; rw[e]at h; omega
 ·rw[<- h,aqR _ (by omega)]
section
variable {ok:Nat->Prop} {w:World} {ρ:Rho} {v:Value}
theorem Rep.slw_inv {n:Nat} (h:Rep ok w ρ (.slw n) v):(∃ p,ρ n=some (some p)/\v=.slice (some ⟨p.b,0,none⟩) p.len p.cap)\/(ρ n=some none/\v=.slice none 0 0):=by
 cases h with
 | slw n p h=>exact .inl ⟨p,h,rfl⟩
 | slv n h=>exact .inr ⟨h,rfl⟩
theorem Rep.sl_inv {n o len:Nat} (h:Rep ok w ρ (.sl n o len) v):(∃ p cap o',ρ n=some (some p)/\len<=cap/\(o'=o\/len=0)/\v=.slice (some ⟨p.b,o',none⟩) len cap)\/(ρ n=some none/\len=0/\v=.slice none 0 0):=by
 cases h with
 | sl n o len cap o' p h hl ho=>exact .inl ⟨p,cap,o',h,hl,ho,rfl⟩
 | slvp n o h=>exact .inr ⟨h,rfl,rfl⟩
theorem Rep.rof_inv {xs:List Fl} (h:Rep ok w ρ (.rof xs) v):(xs=[]/\v=.slice none 0 0) \/ ∃(b o cap:Nat) (g:Nat->Value),v=.slice (some ⟨b,o,none⟩) xs.length cap/\ok b/\b<w.heap.size/\xs.length<=cap /\
  (∀ i,i<xs.length->w.cell? ⟨b,o+i,none⟩=some (g i))/\(∀(i:Nat) x,xs[i]? = some x->FRep x (g i)):=by
 cases h with
 | rofn=>exact .inl ⟨rfl,rfl⟩
 | rof xs b o cap g h1 h2 h3 h4 h5=>exact .inr ⟨b,o,cap,g,rfl,h1,h2,h3,h4,h5⟩
theorem Rep.roi_inv {k:IntKind} {xs:List Int} (h:Rep ok w ρ (.roi k xs) v):(xs=[]/\v=.slice none 0 0) \/ ∃(b o cap:Nat),v=.slice (some ⟨b,o,none⟩) xs.length cap/\ok b/\b<w.heap.size/\xs.length<=cap /\
  (∀(i:Nat) x,xs[i]? = some x->w.cell? ⟨b,o+i,none⟩=some (.int k x)):=by
 cases h with
 | roin=>exact .inl ⟨rfl,rfl⟩
 | roi k xs b o cap h1 h2 h3 h4=>exact .inr ⟨b,o,cap,rfl,h1,h2,h3,h4⟩
theorem Rep.ro_inv {sz:Nat} {cs:List V} (h:Rep ok w ρ (.ro sz cs) v):(cs=[]/\v=.slice none 0 0) \/ ∃(b o len cap:Nat) (g:Nat->Value),v=.slice (some ⟨b,o,none⟩) len cap/\ok b/\b<w.heap.size/\len*sz=cs.length/\len<=cap /\
  (∀ i,i<cs.length->w.cell? ⟨b,o+i,none⟩=some (g i))/\(∀ i,i<cs.length->(g i).oneCell'=true)/\(∀(i:Nat) c,cs[i]? = some c->Rep ok w ρ c (g i)):=by
 cases h with
 | ron=>exact .inl ⟨rfl,rfl⟩
 | ro sz cs b o len cap g h1 h2 h3 h4 h5 h6 h7=>exact .inr ⟨b,o,len,cap,g,rfl,h1,h2,h3,h4,h5,h6,h7⟩
end
theorem nf {P:Program} {t e:Nat} (h:w4 P t=some e):P.underlying t=some (.slice e):=by
 unfold w4 at h; split at h
 ·cases h; assumption
 ·cases h
theorem SimW.place {G:Gh} {w:World} {ρ:Rho} {L:LK} (hs:SimW G w ρ L) {n:Nat} {blk:Blk} {p:Place} (hL:L n=some blk) (hp:ρ n=some (some p)) :
  ∃ cur,w.heap[p.b]? = some (.cells cur blk.e (0,0))/\cur.size=p.cap*blk.sz/\p.len*blk.sz=blk.c.size/\p.len<=p.cap/\p.cap<=maxLen/\BodyRep (okc G ρ L) w ρ blk.c cur:=by
 obtain⟨q,hq,hb⟩:=hs.blks n blk hL;rw[hp]at hq; cases hq;exact hb
theorem SimW.empty {G:Gh} {w:World} {ρ:Rho} {L:LK} (hs:SimW G w ρ L) {n:Nat} {blk:Blk} (hL:L n=some blk) (hp:ρ n=some none):blk.c.size=0:=by obtain⟨q,hq,hb⟩:=hs.blks n blk hL;rw[hp]at hq; cases hq;exact hb
theorem pA {blk:Blk} (h:blk.c.size=0):blk.count=0:=by unfold Blk.count; split <;> simp[h]
theorem rq {P:Program} {w:World} {t e s b o len cap:Nat} {q:IntKind} {i:Int} (ht:P.underlying t=some (.slice e)) (hs:fO P e=some s) (h0:0<=i) (h1:i<(len:Int)) :
  (Instr.indexAt t (.slice (some ⟨b,o,none⟩) len cap) (.int q i)).run P w=.ok (.pointer (some ⟨b,o+i.toNat*s,none⟩)) w:=by
 simp[Instr.indexAt,asIntOf,run_underlying ht,h0,h1,dM hs,eU]
theorem np {P:Program} {w:World} {t e s b o len:Nat} {q:IntKind} {i:Int} (ht:P.underlying t=some (.array len e)) (hs:fO P e=some s) (h0:0<=i) (h1:i<(len:Int)) :
  (Instr.indexAt t (.pointer (some ⟨b,o,none⟩)) (.int q i)).run P w=.ok (.pointer (some ⟨b,o+i.toNat*s,none⟩)) w:=by
 simp[Instr.indexAt,asIntOf,run_underlying ht,Instr.sureAddr,h0,h1,dM hs,eU]
theorem Fx {P:Program} {M:bh} {t:TypeId} {x:V} {q:IntKind} {i:Int} {k:V->Bool} (h:agd P M t x i k=true) :
  ∃ z,k z=true /\ ∀(G:Gh) (w:World) (ρ:Rho) (L:LK) (v:Value),SimW G w ρ L->(∀ n,n ∈ x.refs->L n=aE M n)->Rep (okc G ρ L) w ρ x v ->
   ∃ r,(Instr.indexAt t v (.int q i)).run P w=.ok r w/\Rep (okc G ρ L) w ρ z r:=by
 unfold agd at h;split at h
 ·rename_i e ht;split at h
  ·rename_i s hs;split at h
   ·rename_i xs;obtain⟨h1,h'⟩:=and_true h;obtain⟨h2,h''⟩:=and_true h';clear h h';obtain rfl:s=1:=by simpa using h1
    have hi:=iy h2;refine⟨_,h'',λG w ρ L v _ _ hx=>?_⟩;rcases hx.rof_inv with⟨rfl,_⟩ | ⟨b,o,cap,g,rfl,ho,hb,hc,hcell,hrep⟩
    ·simp at hi; omega
    ·have hlt:i.toNat<xs.length:=by omega
     exact⟨_,rq ht hs hi.1 hi.2,.pf xs _ b _ (g i.toNat) (by rw[aqU]; exact hcell _ hlt) (by simpa [hlt]using hrep i.toNat _ (by simp[hlt])) ho hb⟩
   ·rename_i q' xs;obtain⟨h1,h'⟩:=and_true h;obtain⟨h2,h''⟩:=and_true h';clear h h';obtain rfl:s=1:=by simpa using h1
    have hi:=iy h2;refine⟨_,h'',λG w ρ L v _ _ hx=>?_⟩;rcases hx.roi_inv with⟨rfl,_⟩ | ⟨b,o,cap,rfl,ho,hb,hc,hcell⟩
    ·simp at hi; omega
    ·have hlt:i.toNat<xs.length:=by omega
     exact⟨_,rq ht hs hi.1 hi.2,.pi q' xs _ b _ (by rw[aqU]; simpa [hlt]using hcell i.toNat _ (by simp[hlt])) ho hb⟩
   ·rename_i sz cs;obtain⟨h1,h'⟩:=and_true h;obtain⟨h2,h'⟩:=and_true h';obtain⟨h3,h''⟩:=and_true h';clear h h';obtain rfl:s=sz:=by simpa using h1
    have hs0:¬ s=0:=by simpa using h2
    have hi:=iy h3;refine⟨_,h'',λG w ρ L v _ _ hx=>?_⟩;rcases hx.ro_inv with⟨rfl,_⟩ | ⟨b,o,len,cap,g,rfl,ho,hb,hl,hc,hcell,h1,hrep⟩
    ·simp at hi; omega
    ·have hlen:cs.length / s=len:=by rw[<- hl,aqR _ (by omega)]
     rw[hlen]at hi;refine⟨_,rq ht hs hi.1 hi.2,.rp cs _ b _ g ho hb ?_ h1 hrep⟩;intro j hj;rw[dL]at hj ⊢;have:=hcell (i.toNat*s+j) hj;rw[<- aqt]at this;exact this
   ·rename_i n;split at h
    ·rename_i blk hM;obtain⟨h1,h⟩:=and_true h;obtain⟨h2,h⟩:=and_true h;obtain rfl:s=blk.sz:=by simpa using h1
     have hi:=iy h2;refine⟨_,h,λG w ρ L v hsim hagree hx=>?_⟩;have hL:L n=some blk:=by rw[hagree n (by simp[V.refs]),hM]
     rcases hx.slw_inv with⟨p,hp,rfl⟩ | ⟨hp,rfl⟩
     ·obtain⟨cur,c1,c2,c3,c4,c5,c6⟩:=hsim.place hL hp;have:=Re c3;refine⟨_,rq ht hs hi.1 (by omega),?_⟩;rw[dL,aqb];exact .ptr n _ p hp
     ·have:=pA (hsim.empty hL hp); omega
    ·cases h
   ·rename_i n o len;split at h
    ·rename_i blk hM;obtain⟨h1,h⟩:=and_true h;obtain⟨h2,h⟩:=and_true h;have hi:=iy h2;refine⟨_,h,λG w ρ L v hsim hagree hx=>?_⟩;rcases hx.sl_inv with⟨p,cap,o',hp,hcap,ho',rfl⟩ | ⟨hp,rfl,_⟩
     ·obtain rfl:o'=o:=ho'.resolve_right (by omega);refine⟨_,rq ht hs hi.1 hi.2,?_⟩;rw[dL];exact .ptr n _ p hp
     ·simp at hi; omega
    ·cases h
   ·cases h
  ·cases h
 ·rename_i len e ht;split at h
  ·rename_i s hs;split at h
   ·rename_i n o;obtain⟨h1,h⟩:=and_true h;have hi:=iy h1;refine⟨_,h,λG w ρ L v hsim hagree hx=>?_⟩;obtain⟨p,hp,rfl⟩:=hx.ptr_inv;refine⟨_,np ht hs hi.1 hi.2,?_⟩;rw[dL];exact .ptr n _ p hp
   ·rename_i cs o;obtain⟨h1,h⟩:=and_true h;have hi:=iy h1;refine⟨_,h,λG w ρ L v hsim hagree hx=>?_⟩;obtain⟨b,o',g,rfl,ho,hb,hc,hone,hr⟩:=hx.rp_inv;refine⟨_,np ht hs hi.1 hi.2,.rp cs _ b _ g ho hb ?_ hone hr⟩;intro j hj;rw[dL]at hj ⊢;have:=hc (i.toNat*s+j) (by omega);rw[<- aqt,<- aqt]at this;exact this
   ·rename_i b;split at h
    ·rename_i zs hz;obtain⟨h1,h5⟩:=and_true h;obtain⟨h2,h6⟩:=and_true h5;obtain⟨h3,h7⟩:=and_true h6;clear h h5 h6;obtain rfl:s=1:=by simpa using h1
     have hlen:zs.length=len:=ap0 h2;have hi:=iy h3;refine⟨_,h7,λG w ρ L v hsim hagree hx=>?_⟩;obtain rfl:=hx.val_inv;obtain⟨t1,t2,t3⟩:=hsim.tab b zs hz;refine⟨_,np ht hs hi.1 hi.2,.pi .u8 zs _ b _ ?_ ⟨.inl t1,λn blk p _ hp he=>hsim.apart hp hz he.symm⟩ t2⟩;rw[aqU,aqb];exact t3 _ (by omega)
    ·cases h
   ·cases h
  ·cases h
 ·cases h
theorem FI {P:Program} {M:bh} {t:TypeId} {x:V} {k:V->Bool} (h:agN P M t x k=true) :
  ∃ z,k z=true /\ ∀(G:Gh) (w:World) (ρ:Rho) (L:LK) (v:Value) (ty:TypeId),SimW G w ρ L->(∀ n,n ∈ x.refs->L n=aE M n)->Rep (okc G ρ L) w ρ x v ->
   ∃ r,(Builtin.len_ #[t] ty #[v]).run P w=.ok r w/\Rep (okc G ρ L) w ρ z r:=by
 have sl:∀{e:Nat} {w:World} (a:Option Addr) (n c:Nat) (ty:TypeId),P.underlying t=some (.slice e)->(Builtin.len_ #[t] ty #[.slice a n c]).run P w=.ok (.int .i64 n) w:=by intro e w a n c ty ht;simp[Builtin.len_,run_underlying ht,goInt]
 unfold agN at h;split at h
 ·rename_i e ht;exact⟨_,h,λG w ρ L v ty _ _ hx=>by obtain rfl:=hx.nil_inv; exact⟨_,sl _ _ _ _ ht,.int _ _⟩⟩
 ·rename_i e xs ht;refine⟨_,h,λG w ρ L v ty _ _ hx=>?_⟩;rcases hx.rof_inv with⟨rfl,rfl⟩ | ⟨b,o,cap,g,rfl,_⟩
  ·exact⟨_,sl _ _ _ _ ht,.int _ _⟩
  ·exact⟨_,sl _ _ _ _ ht,.int _ _⟩
 ·rename_i e q xs ht;refine⟨_,h,λG w ρ L v ty _ _ hx=>?_⟩;rcases hx.roi_inv with⟨rfl,rfl⟩ | ⟨b,o,cap,rfl,_⟩
  ·exact⟨_,sl _ _ _ _ ht,.int _ _⟩
  ·exact⟨_,sl _ _ _ _ ht,.int _ _⟩
 ·rename_i e sz cs ht;obtain⟨h1,h⟩:=and_true h;have hs0:¬ sz=0:=by simpa using h1
  refine⟨_,h,λG w ρ L v ty _ _ hx=>?_⟩;rcases hx.ro_inv with⟨rfl,rfl⟩ | ⟨b,o,len,cap,g,rfl,_,_,hl,_⟩
  ·refine⟨_,sl _ _ _ _ ht,?_⟩; simp; exact .int _ _
  ·refine⟨_,sl _ _ _ _ ht,?_⟩; rw[<- hl,aqR _ (by omega)]; exact .int _ _
 ·rename_i e n ht;split at h
  ·rename_i blk hM;obtain⟨h1,h⟩:=and_true h;have hs0:¬ blk.sz=0:=by simpa using h1
   refine⟨_,h,λG w ρ L v ty hsim hagree hx=>?_⟩;have hL:L n=some blk:=by rw[hagree n (by simp[V.refs]),hM]
   rcases hx.slw_inv with⟨p,hp,rfl⟩ | ⟨hp,rfl⟩
   ·obtain⟨cur,c1,c2,c3,c4,c5,c6⟩:=hsim.place hL hp;refine⟨_,sl _ _ _ _ ht,?_⟩;rw[qU c3 hs0]; exact .int _ _
   ·refine⟨_,sl _ _ _ _ ht,?_⟩;rw[pA (hsim.empty hL hp)]; exact .int _ _
  ·cases h
 ·rename_i e n o len ht;refine⟨_,h,λG w ρ L v ty _ _ hx=>?_⟩;rcases hx.sl_inv with⟨p,cap,o',hp,hcap,_,rfl⟩ | ⟨hp,rfl,rfl⟩
  ·exact⟨_,sl _ _ _ _ ht,.int _ _⟩
  ·exact⟨_,sl _ _ _ _ ht,.int _ _⟩
 ·rename_i n e ht;refine⟨_,h,λG w ρ L v ty _ _ hx=>⟨.int .i64 n,?_,.int _ _⟩⟩;cases v <;> simp[Builtin.len_,run_underlying ht,goInt]
 ·rename_i s ht;refine⟨_,h,λG w ρ L v ty _ _ hx=>?_⟩;obtain rfl:=hx.val_inv;exact⟨.int .i64 s.size,by simp[Builtin.len_,run_underlying ht,goInt],.int _ _⟩
 ·cases h
section
variable {cx:Cx} {base:Nat} {F:List V} {M:bh} {k:KOp}
theorem vV {t:TypeId} {x j:Operand} (h:opV cx base F M (.indexAddr t x j) k=true):∃ z U T,bC cx.P base F M (.indexAddr t x j) z U T/\k z U T=true:=by
 simp only[opV]at h;split at h
 ·rename_i q i e;obtain⟨z,hk,hz⟩:=Fx (q:=q) h;refine⟨z,_,_,aT (λG w ρ L a o' ho hs hops hT=>?_),hk⟩;have hj:=hops j (by simp[Op.operands]); rw[e]at hj;obtain⟨r,hr,hrep⟩:=hz G w ρ L _ hs hT (hops x (by simp[Op.operands]));exact⟨r,w,by simp[execOp,ho,hj.int_inv,hr],.inl rfl,hrep⟩
 ·cases h
theorem nw {P:Program} {ok:Nat->Prop} {w:World} {ρ:Rho} {t s:Nat} {g:Bool} {b o:Nat} (hg:ma P t=some g) (hs:fO P t=some s) {z:V}
  (h:(g=true /\ ∃ zs,z=.agg zs/\zs.length=s /\ ∀(i:Nat) c,zs[i]? = some c -> ∃ v,w.cell? ⟨b,o+i,none⟩=some v/\v.oneCell'=true/\Rep ok w ρ c v) \/
   (g=false /\ ∃ v,w.cell? ⟨b,o,none⟩=some v/\Rep ok w ρ z v)) :
  ∃ v,(Instr.loadAt t (.pointer (some ⟨b,o,none⟩))).run P w=.ok v w/\Rep ok w ρ z v:=by
 rcases h with⟨rfl,zs,rfl,hl,h⟩ | ⟨rfl,v,hc,hv⟩
 ·have hf:∀ i,∃ u:Value,i<zs.length->(w.cell? ⟨b,o+i,none⟩=some u/\u.oneCell'=true /\ ∀ c,zs[i]? = some c->Rep ok w ρ c u):=by
   intro i;by_cases hi:i<zs.length
   ·obtain⟨u,h1,h2,h3⟩:=h i zs[i] (by simp[hi]);exact⟨u,λ_=>⟨h1,h2,λc hc=>by simp[hi]at hc; subst hc; exact h3⟩⟩
   ·exact⟨.bool false,λh=>absurd h hi⟩
  have hf':=Classical.skolem.1 hf;obtain⟨f,hf⟩:=hf';have hr:(loadCells ⟨b,o,none⟩ s).run P w=.ok ((List.range s).map f).toArray w:=
   run_loadCells w _ s f λj hj=>by rw[eU]; exact(hf j (by omega)).1
  refine⟨.agg ((List.range s).map f).toArray,by simp only[Instr.loadAt,Instr.sureAddr,Sem.run_bind,Sem.run_pure,Result.andThen_ok,loadVar,mb hg,aqB,dM hs,hr],.agg _ _ (by simp[hl]) ?_ ?_⟩
  ·intro u hu;obtain⟨i,hi,rfl⟩:=List.mem_map.1 hu;exact(hf i (by rw[hl]; exact List.mem_range.1 hi)).2.1
  ·intro i c u hc hu;have hi:i<zs.length:=(List.getElem?_eq_some_iff.1 hc).1;rw[List.getElem?_map,List.getElem?_range (by omega)]at hu;cases hu;exact(hf i hi).2.2 c hc
 ·exact⟨v,by simp[Instr.loadAt,Instr.sureAddr,loadVar,mb hg,hc],hv⟩
theorem cU {w:World} {b o:Nat} {cur:Array Value} {e:Nat} {v:Value} (h:w.heap[b]? = some (.cells cur e (0,0))) (hv:cur[o]? = some v):w.cell? ⟨b,o,none⟩=some v:=by simp[World.cell?,h,hv]
theorem Gz {t:TypeId} {x:Operand} (h:opV cx base F M (.load t x) k=true):∃ z U T,bC cx.P base F M (.load t x) z U T/\k z U T=true:=by
 simp only[opV]at h;split at h
 ·rename_i ag s hag hsz;split at h
  ·rename_i n p e;split at h
   ·rename_i blk hM;have main:∀ z,((ag=true /\ ∃ zs,z=.agg zs/\zs.length=s /\ ∀(i:Nat) c,zs[i]? = some c->blk.c.at (p+i)=some c)\/(ag=false/\blk.c.at p=some z))->bC cx.P base F M (.load t x) z [] [n]:=by
     intro z hz;refine aT (λG w ρ L a o' ho hs hops hT=>?_);have hx:=hops x (by simp[Op.operands]); rw[e]at hx;obtain⟨pl,hp,hv⟩:=hx.ptr_inv;have hL:L n=some blk:=by rw[hT n (by simp),hM]
     obtain⟨cur,c1,c2,c3,c4,c5,c6⟩:=hs.place hL hp;have key:∃ v,(Instr.loadAt t (.pointer (some ⟨pl.b,p,none⟩))).run cx.P w=.ok v w/\Rep (okc G ρ L) w ρ z v:=by
      refine nw hag hsz ?_;rcases hz with⟨h1,zs,h2,h3,h4⟩ | ⟨h1,h2⟩
      ·refine .inl ⟨h1,zs,h2,h3,λi c hc=>?_⟩;obtain⟨v,g1,g2,g3⟩:=c6 _ _ (h4 i c hc);exact⟨v,cU c1 g1,g2,g3⟩
      ·obtain⟨v,g1,g2,g3⟩:=c6 _ _ h2;exact .inr ⟨h1,v,cU c1 g1,g3⟩
     obtain⟨v,h1,h2⟩:=key;exact⟨v,w,by simp[execOp,ho,hv,h1],.inl rfl,h2⟩
    cases ag
    ·simp only[ap_]at h;obtain⟨z,hz,hk⟩:=Body.get_sound h;exact⟨_,_,_,main z (.inr ⟨rfl,hz⟩),hk⟩
    ·simp only[ap8]at h;obtain⟨zs,hl,hz,hk⟩:=Body.part_sound h;exact⟨_,_,_,main _ (.inl ⟨rfl,zs,rfl,hl,hz⟩),hk⟩
   ·cases h
  ·rename_i xs i e;obtain⟨h0,h⟩:=and_true h;obtain rfl:ag=false:=by simpa using h0
   refine⟨_,_,_,aT (λG w ρ L a o' ho hs hops hT=>?_),h⟩;have hx:=hops x (by simp[Op.operands]); rw[e]at hx;generalize hv:a.eval x=v at hx;cases hx with
   | pf xs i b o u hc hf hok hb=>
    obtain⟨r,h1,h2⟩:=nw (P:=cx.P) (w:=w) (ρ:=ρ) (ok:=okc G ρ L) (b:=b) (o:=o) (z:=.flt (xs.getD i none)) hag hsz (.inr ⟨rfl,u,hc,.flt _ _ hf⟩);exact⟨r,w,by simp[execOp,ho,hv,h1],.inl rfl,h2⟩
  ·rename_i q xs i e;obtain⟨h0,h⟩:=and_true h;obtain rfl:ag=false:=by simpa using h0
   refine⟨_,_,_,aT (λG w ρ L a o' ho hs hops hT=>?_),h⟩;have hx:=hops x (by simp[Op.operands]); rw[e]at hx;generalize hv:a.eval x=v at hx;cases hx with
   | pi q xs i b o hc hok hb=>
    obtain⟨r,h1,h2⟩:=nw (P:=cx.P) (w:=w) (ρ:=ρ) (ok:=okc G ρ L) (b:=b) (o:=o) (z:=.int q (xs.getD i 0)) hag hsz (.inr ⟨rfl,_,hc,.int _ _⟩);exact⟨r,w,by simp[execOp,ho,hv,h1],.inl rfl,h2⟩
  ·rename_i cs i e;have main:∀ z,((ag=true/\i+s<=cs.length/\z=.agg ((cs.drop i).take s))\/(ag=false/\cs[i]? = some z))->bC cx.P base F M (.load t x) z [] []:=by
    intro z hz;refine aT (λG w ρ L a o' ho hs hops hT=>?_);have hx:=hops x (by simp[Op.operands]); rw[e]at hx;obtain⟨b,o,g,hv,hok,hb,hc,hone,hr⟩:=hx.rp_inv;have key:∃ v,(Instr.loadAt t (.pointer (some ⟨b,o,none⟩))).run cx.P w=.ok v w/\Rep (okc G ρ L) w ρ z v:=by
     refine nw hag hsz ?_;rcases hz with⟨h1,h2,h3⟩ | ⟨h1,h2⟩
     ·refine .inl ⟨h1,_,h3,by simp; omega,λj c hcj=>?_⟩;simp only[List.getElem?_take,List.getElem?_drop]at hcj;split at hcj
      ·rename_i hj;exact⟨g (i+j),hc j (by omega),hone _ (by omega),hr _ _ hcj⟩
      ·cases hcj
     ·have hlt:=(List.getElem?_eq_some_iff.1 h2).1;exact .inr ⟨h1,g i,by simpa using hc 0 (by omega),hr _ _ h2⟩
    obtain⟨v,h1,h2⟩:=key;exact⟨v,w,by simp[execOp,ho,hv,h1],.inl rfl,h2⟩
   cases ag
   ·simp only[ap_]at h;split at h
    ·rename_i z hz; exact⟨_,_,_,main z (.inr ⟨rfl,hz⟩),h⟩
    ·cases h
   ·simp only[ap8]at h;obtain⟨h0,h⟩:=and_true h;exact⟨_,_,_,main _ (.inl ⟨rfl,ap0 h0,rfl⟩),h⟩
  ·cases h
 ·cases h
end
end Go.Mach
end
