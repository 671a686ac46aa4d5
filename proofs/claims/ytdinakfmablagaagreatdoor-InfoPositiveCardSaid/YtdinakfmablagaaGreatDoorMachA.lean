/- The machine. Conditions: none. -/
import Derived.WalkKit
import Derived.Laws.FloatArith
import Derived.KernelRfl
import Derived.Test.YtdinakfmablagaaGreatDoorTab
set_option linter.unusedVariables false
section
namespace Go.Mach
abbrev afi:=@decide_eq_true
abbrev afj:=@decide_eq_false
abbrev afk:=@cond_false
abbrev afl:=@cond_true
abbrev afm:=@Nat.mul_le_mul_right
abbrev afn:=@Nat.mul_comm
abbrev afo:=@Int.toNat_natCast
abbrev afp:=@of_decide_eq_true
abbrev afq:=@Nat.mul_le_mul_left
abbrev afr:=@Nat.div_div_eq_div_mul
abbrev afs:=@Nat.div_lt_iff_lt_mul
abbrev aft:=@Nat.mul_assoc
abbrev afu:=@Nat.mod_eq_of_lt
abbrev afv:=@Nat.pow_succ
abbrev afw:=@Nat.le_refl
abbrev afx:=@Nat.pow_add
abbrev afy:=@Nat.two_pow_pos
abbrev afz:=@Nat.pow_le_pow_right
abbrev afA:=@Nat.mod_lt
abbrev afB:=@Nat.mul_add
abbrev afC:=@List.append_assoc
abbrev afD:=@Nat.lt_of_lt_of_le
abbrev afE:=@List.mem_cons_of_mem
abbrev afF:=@Int.natCast_mul
abbrev afG:=@Nat.le_trans
abbrev afH:=@List.take_of_length_le
abbrev afI:=@List.eq_nil_of_length_eq_zero
abbrev afJ:=@Nat.dvd_mul_left_of_dvd
abbrev afK:=@Bool.and_eq_true
abbrev afL:=@Nat.zero_add
abbrev afM:=@Nat.add_mul
abbrev afN:=@Option.some.injEq
abbrev afO:=@Nat.div_eq_of_lt
abbrev afP:=@Nat.mul_left_comm
abbrev afQ:=@Option.map_eq_some_iff
abbrev afR:=@Nat.add_zero
abbrev afS:=@if_false
abbrev afT:=@Nat.sub_self
abbrev afU:=@List.append_nil
abbrev afV:=@Nat.mul_div_cancel_left
abbrev afW:=@List.length_cons
abbrev afX:=@List.replicate_zero
abbrev afY:=@Nat.add_assoc
abbrev afZ:=@Nat.add_sub_cancel_left
abbrev af0:=@List.length_take
abbrev af1:=@Bool.not_false
abbrev af2:=@Nat.mul_lt_mul_of_pos_right
abbrev af3:=@List.take_length
abbrev af4:=@Nat.mul_lt_mul_of_lt_of_le
abbrev af5:=@List.replicate_succ
abbrev af6:=@List.drop_of_length_le
abbrev af7:=@Nat.mul_le_mul
abbrev af8:=@Option.getD_some
abbrev af9:=@Bool.false_eq_true
abbrev af_:=@Nat.div_add_mod
abbrev aga:=@List.nil_append
abbrev agb:=@Nat.lt_or_ge
abbrev agc:=@Nat.gcd_dvd_left
abbrev agd:=@Bool.not_true
abbrev age:=@Int.tmod_eq_emod_of_nonneg
abbrev agf:=@Int.natAbs_natCast
abbrev agh:=@Nat.add_mul_div_left
abbrev agi:=@Nat.div_add_mod'
abbrev agj:=@Nat.le_mul_of_pos_right
abbrev agk:=@List.mem_append_right
abbrev agl:=@List.map_cons
abbrev agm:=@List.drop_append_of_le_length
abbrev agn:=@List.take_append_of_le_length
abbrev ago:=@Int.tdiv_eq_ediv_of_nonneg
abbrev agp:=@Nat.mul_lt_mul_of_lt_of_lt
abbrev agq:=@Bool.true_and
abbrev agr:=@Nat.gcd_pos_of_pos_right
abbrev ags:=@BitVec.ofInt_natCast
abbrev agt:=@Nat.pow_pos
abbrev agu:=@Nat.mul_lt_mul_of_pos_left
abbrev agv:=@List.getElem_mem
abbrev agw:=@List.size_toArray
abbrev agx:=@Nat.gcd_dvd_right
abbrev agy:=@List.length_append
abbrev agz:=@Nat.min_eq_left
abbrev agA:=@BitVec.toNat_ofNat
abbrev agB:=@Nat.gcd_comm
abbrev agC:=@Nat.add_mul_mod_self_left
abbrev agD:=@List.take_succ_eq_append_getElem
abbrev agE:=@Nat.zero_mul
abbrev agF:=@Nat.mul_zero
abbrev agG:=@List.mem_append_left
abbrev agH:=@Nat.eq_zero_or_pos
abbrev agI:=@List.length_replicate
abbrev agJ:=@List.mem_cons
abbrev agK:=@decide_eq_true_iff
abbrev agL:=@Option.map_some
abbrev agM:=@Int.natCast_pow
abbrev agN:=@List.drop_zero
abbrev agO:=@Nat.eq_of_mul_eq_mul_right
abbrev agP:=@Int.fdiv_eq_ediv_of_nonneg
abbrev agQ:=@Nat.one_mul
abbrev agR:=@Bool.eq_iff_iff
abbrev agS:=@Nat.succ_mul
abbrev agT:=@Nat.le_div_iff_mul_le
abbrev agU:=@if_true
abbrev agV:=@Nat.lt_of_le_of_lt
abbrev agW:=@Nat.div_le_self
abbrev agX:=@beq_iff_eq
abbrev agY:=@List.replicate_succ'
abbrev agZ:=@List.length_drop
abbrev ag0:=@Nat.lt_trans
abbrev ag1:=@Nat.le_add_right
abbrev ag2:=@List.getElem_of_mem
abbrev ag3:=@decide_eq_true_eq
abbrev ag4:=@List.replicate_append_replicate
abbrev ag5:=@Nat.le.dest
abbrev ag6:=@List.map_append
abbrev ag7:=@Nat.pow_zero
abbrev ag8:=@Nat.mul_div_cancel
abbrev ag9:=@Nat.mul_one
abbrev ag_:=@Nat.div_one
abbrev aha:=@beq_self_eq_true
abbrev ahb:=@List.cons_append
abbrev ahc:=@Nat.mul_mod_mul_left
abbrev ahd:=@decide_eq_false_iff_not
abbrev ahe:=@List.map_map
abbrev ahf:=@Int.natAbs_mul
abbrev ahg:=@Nat.testBit_two_pow
abbrev ahh:=@Nat.le_of_ble_eq_true
abbrev ahi:=@Nat.add_comm
abbrev ahj:=@Nat.mul_pos
abbrev ahk:=@Nat.div_lt_of_lt_mul
abbrev ahl:=@List.flatten_cons
abbrev ahm:=@List.length_map
abbrev ahn:=@Int.mul_ediv_cancel_left
abbrev aho:=@List.not_mem_nil
abbrev ahp:=@Nat.gcd_le_right
abbrev ahq:=@Array.ext'
abbrev ahr:=@List.mem_cons_self
abbrev ahs:=@Nat.pos_of_ne_zero
abbrev aht:=@Nat.sub_zero
abbrev ahu:=@List.length_nil
abbrev ahv:=@Nat.le_of_eq
abbrev ahw:=@List.set_append_right
abbrev ahx:=@Nat.mod_add_div
abbrev ahy:=@Nat.mul_add_mod
abbrev ahz:=@Std.Legacy.Range.forIn_eq_forIn_range'
abbrev ahA:=@Array.size_append
abbrev ahB:=@Bool.and_true
abbrev ahC:=@Nat.eq_of_testBit_eq
abbrev ahD:=@Nat.div_le_div_right
abbrev ahE:=@Nat.le_sub_one_of_lt
abbrev ahF:=@List.take_zero
abbrev ahG:=@Nat.lt_of_mul_lt_mul_left
abbrev ahH:=@Array.length_toList
abbrev ahI:=@List.map_congr_left
abbrev ahJ:=@Int.toNat_of_nonneg
abbrev ahK:=@Int.mul_sub
abbrev ahL:=@Nat.div_pos
abbrev ahM:=@Nat.lt_mul_div_succ
abbrev ahN:=@Nat.dvd_sub
abbrev ahO:=@Nat.add_sub_cancel
abbrev ahP:=@List.length_set
abbrev ahQ:=@List.mem_append
abbrev ahR:=@Nat.lt_or_gt_of_ne
abbrev ahS:=@Nat.gcd_zero_right
abbrev ahT:=@Nat.mul_ne_zero
abbrev ahU:=@Nat.lt_succ_of_le
abbrev ahV:=@Nat.mod_one
abbrev ahW:=@Nat.lt_trichotomy
abbrev ahX:=@Bool.eq_false_iff
abbrev ahY:=@Bool.false_and
abbrev ahZ:=@Int.natAbs_neg
abbrev ah0:=@Nat.and_two_pow_sub_one_eq_mod
abbrev ah1:=@List.take_append_drop
abbrev ah2:=@Nat.mul_div_mul_right
abbrev ah3:=@Nat.mul_mod_mul_right
abbrev ah4:=@List.map_toArray
abbrev ah5:=@BitVec.toNat_and
abbrev ah6:=@Nat.testBit_zero
abbrev ah7:=@Nat.testBit_succ
abbrev ah8:=@List.mem_of_mem_drop
abbrev ah9:=@List.mem_of_mem_take
abbrev ah_:=@Nat.testBit_two_pow_sub_succ
abbrev aia:=@Nat.zero_le
abbrev aib:=@List.take_succ_cons
abbrev aic:=@Bool.or_eq_true
abbrev aid:=@Nat.mod_mul
abbrev aie:=@Nat.two_pow_add_eq_or_of_lt
abbrev aif:=@Nat.pow_mul
abbrev aig:=@Int.mul_neg
abbrev aih:=@Nat.testBit_and
abbrev aii:=@Nat.testBit_two_pow_mul_add
abbrev aij:=@Nat.mul_add_div
abbrev aik:=@Nat.pow_one
abbrev ail:=@Nat.gcd_rec
abbrev aim:=@decide_false
abbrev ain:=@List.mem_singleton
abbrev aio:=@congrArg
abbrev aip:=@Nat.mul_right_comm
abbrev aiq:=@Option.map_map
abbrev air:=@List.take_take
abbrev ais:=@Bool.not_eq_true'
abbrev ait:=@Nat.mul_mod_right
abbrev aiu:=@decide_true
abbrev aiv:=@Bool.false_or
abbrev aiw:=@Int.neg_mul
abbrev aix:=@Rat.num_mkRat
abbrev aiy:=@Rat.den_mkRat
abbrev aiz:=@Option.bind_some
abbrev aiA:=@Nat.mul_lt_mul''
abbrev aiB:=@Nat.min_le_right
abbrev aiC:=@List.cons.injEq
abbrev aiD:=@Nat.mul_succ
def ile:Int->Int->Bool
 | .ofNat a,.ofNat b=>Nat.ble a b
 | .negSucc _,.ofNat _=>true
 | .ofNat _,.negSucc _=>false
 | .negSucc a,.negSucc b=>Nat.ble b a
theorem Jw (a b:Int):ile a b=true↔a<=b:=by cases a <;> cases b <;> simp only[ile,Nat.ble_eq,Int.ofNat_eq_natCast,reduceCtorEq,true_iff,false_iff] <;> omega
theorem Q3 (a b:Int):(!ile b a)=true↔a<b:=by have:=Jw b a;cases h:ile b a <;> simp[h]at this ⊢ <;> omega
def N5 {p:Prop}:(b:Bool)->(b=true↔p)->Decidable p
 | true,h=>.isTrue (h.1 rfl)
 | false,h=>.isFalse λhp=>by simpa using h.2 hp
instance (priority:=10000) decIntLe (a b:Int):Decidable (a<=b):=N5 (ile a b) (Jw a b)
instance (priority:=10000) decIntLt (a b:Int):Decidable (a<b):=N5 (!ile b a) (Q3 a b)
abbrev Fl:=Option Nat
def isNaN (b:Nat):Bool:=(Ieee.double.read b).isNaN
def fp (b:Nat):Fl:=cond (isNaN b) none (some b)
def Fz (f:Nat->Nat->Option Nat):Fl->Fl->Fl
 | some a,some b=>f a b
 | _,_=>none
def kl (x y:Fl):Fl:=Fz Ieee.double.add x y
def wN (x y:Fl):Fl:=Fz Ieee.double.sub x y
def dq (x y:Fl):Fl:=Fz Ieee.double.mul x y
def fdiv (x y:Fl):Fl:=Fz Ieee.double.div x y
def ba:Fl->Fl
 | some a=>Ieee.double.sqrt a
 | none=>none
def VE:Fl->Fl
 | some a=>some (Op.negFloat .f64 a)
 | none=>none
def wL:Fl->Fl->Option Ordering
 | some a,some b=>Ieee.double.order a b
 | _,_=>none
def feq (x y:Fl):Bool:=wL x y==some .eq
def flt (x y:Fl):Bool:=wL x y==some .lt
def fgt (x y:Fl):Bool:=wL x y==some .gt
def fle (x y:Fl):Bool:=wL x y==some .lt||wL x y==some .eq
def fge (x y:Fl):Bool:=wL x y==some .gt||wL x y==some .eq
def fmm (mx:Bool):Fl->Fl->Fl
 | some x,some y=>match Ieee.double.order x y with
  | none=>none
  | some .lt=>some (cond mx y x)
  | some .gt=>some (cond mx x y)
  | some .eq=>some (cond (Ieee.double.read x).neg (cond mx y x) (cond mx x y))
 | _,_=>none
def imm (mx:Bool) (x y:Int):Int:=cond mx (cond (decide (y>x)) y x) (cond (decide (y<x)) y x)
inductive RT where
 | flt
 | int (k:IntKind)
 | bool
 | fls
 | ints (k:IntKind)
 | pair (a b:RT)
 | rows (a:RT)
 | ptr (a:RT)
 deriving Inhabited
@[reducible] def RT.Ty:RT->Type
 | .flt=>Fl
 | .int _=>Int
 | .bool=>Bool
 | .fls=>List Fl
 | .ints _=>List Int
 | .pair a b=>a.Ty × b.Ty
 | .rows a=>List a.Ty
 | .ptr a=>a.Ty
def RT.dflt:(t:RT)->t.Ty
 | .flt=>(none:Option Nat)
 | .int _=>(0:Int)
 | .bool=>false
 | .fls=>([]:List Fl)
 | .ints _=>([]:List Int)
 | .pair a b=>(a.dflt,b.dflt)
 | .rows a=>([]:List a.Ty)
 | .ptr a=>a.dflt
def RT.sz:RT->Nat
 | .pair a b=>a.sz+b.sz
 | _=>1
def RT.beq:RT->RT->Bool
 | .flt,.flt=>true
 | .int k,.int k'=>decide (k=k')
 | .bool,.bool=>true
 | .fls,.fls=>true
 | .ints k,.ints k'=>decide (k=k')
 | .pair a b,.pair c d=>RT.beq a c&&RT.beq b d
 | .rows a,.rows c=>RT.beq a c
 | .ptr a,.ptr c=>RT.beq a c
 | _,_=>false
theorem RT.eq_of_beq:∀{a b:RT},RT.beq a b=true->a=b
 | .flt,b,h=>by cases b <;> simp[RT.beq]at h; rfl
 | .int k,b,h=>by cases b <;> simp[RT.beq]at h; subst h; rfl
 | .bool,b,h=>by cases b <;> simp[RT.beq]at h; rfl
 | .fls,b,h=>by cases b <;> simp[RT.beq]at h; rfl
 | .ints k,b,h=>by cases b <;> simp[RT.beq]at h; subst h; rfl
 | .pair a c,b,h=>by
  cases b <;> simp[RT.beq]at h
  rw[RT.eq_of_beq h.1,RT.eq_of_beq h.2]
 | .rows a,b,h=>by cases b <;> simp[RT.beq]at h; rw[RT.eq_of_beq h]
 | .ptr a,b,h=>by cases b <;> simp[RT.beq]at h; rw[RT.eq_of_beq h]
def RT.cast {β:Type} (t t':RT) (xs:List t'.Ty) (k:List t.Ty->β) (d:β):β:=
 match h:RT.beq t' t with
 | true=>k ((RT.eq_of_beq h) ▸ xs)
 | false=>d
theorem RT.cast_inv {β:Type} {t t':RT} {xs:List t'.Ty} {k:List t.Ty->β} {d r:β} (h:RT.cast t t' xs k d=r) (hd:d ≠ r):∃ e:t'=t,k (e ▸ xs)=r:=by
 unfold RT.cast at h;split at h
 ·exact⟨_,h⟩
 ·exact absurd h hd
def RT.plain:RT->Bool
 | .flt=>true
 | .int _=>true
 | .bool=>true
 | .pair a b=>a.plain&&b.plain
 | _=>false
inductive V where
 | any
 | nil
 | bool (b:Bool)
 | int (k:IntKind) (n:Int)
 | flt (x:Fl)
 | val (v:Value)
 | fn (f:Nat) (caps:List V)
 | ptr (n o:Nat)
 | slw (n:Nat)
 | sl (n o len:Nat)
 | rof (xs:List Fl)
 | roi (k:IntKind) (xs:List Int)
 | ro (sz:Nat) (cs:List V)
 | pf (xs:List Fl) (i:Nat)
 | pi (k:IntKind) (xs:List Int) (i:Nat)
 | rp (cs:List V) (i:Nat)
 | agg (cs:List V)
 | tup (vs:List V)
 | rl (t:RT) (xs:List t.Ty)
 | opt (n e o:Nat)
 deriving Inhabited
def V.one:V->Bool
 | .any | .agg _ | .tup _=>false
 | .val v=>v.oneCell'
 | _=>true
inductive Body where
 | flts (xs:List Fl)
 | ints (k:IntKind) (xs:List Int)
 | cells (cs:List V)
 | recs (t:RT) (xs:List t.Ty)
 | own (t:Nat) (a:RT) (xs:List a.Ty) (hs:List Nat)
 deriving Inhabited
def RT.cells:(t:RT)->t.Ty->List V
 | .flt,x=>[.flt x]
 | .int k,n=>[.int k n]
 | .bool,b=>[.bool b]
 | .fls,xs=>[.rof xs]
 | .ints k,xs=>[.roi k xs]
 | .pair a b,p=>a.cells p.1++b.cells p.2
 | .rows a,xs=>[.rl a xs]
 | .ptr a,x=>[.rp (a.cells x) 0]
def RT.flat (t:RT) (xs:List t.Ty):List V:=(xs.map t.cells).flatten
def RT.parse:(t:RT)->List V->Option (t.Ty × List V)
 | .flt,.flt x::r=>some (x,r)
 | .int k,.int k' n::r=>cond (decide (k=k')) (some (n,r)) none
 | .bool,.bool b::r=>some (b,r)
 | .fls,.rof xs::r=>some (xs,r)
 | .fls,.nil::r=>some ([],r)
 | .ints k,.roi k' xs::r=>cond (decide (k=k')) (some (xs,r)) none
 | .ints _,.nil::r=>some ([],r)
 | .pair a b,cs=>match a.parse cs with
  | some (x,r)=>match b.parse r with
   | some (y,r')=>some ((x,y),r')
   | none=>none
  | none=>none
 | .rows a,.rl t xs::r=>RT.cast a t xs (λys=>some (ys,r)) none
 | .rows _,.nil::r=>some ([],r)
 | .ptr a,.rp cs i::r=>cond (i==0) (match a.parse cs with
  | some (x,[])=>some (x,r)
  | _=>none) none
 | _,_=>none
def RT.parses (t:RT):Nat->List V->Option (List t.Ty)
 | _,[]=>some []
 | 0,_=>none
 | n+1,cs=>match t.parse cs with
  | some (x,r)=>(RT.parses t n r).map (x :: ·)
  | none=>none
def cY (i s:Nat):Nat:=match s with
 | 1=>i
 | s=>i*s
def Body.size:Body->Nat
 | .flts xs=>xs.length
 | .ints _ xs=>xs.length
 | .cells cs=>cs.length
 | .recs t xs=>cY xs.length t.sz
 | .own _ _ xs _=>xs.length
def Body.isOwn:Body->Bool
 | .own _ _ _ _=>true
 | _=>false
def Body.holes:Body->List Nat
 | .own _ _ _ hs=>hs
 | _=>[]
structure Blk where
 e:Nat
 sz:Nat
 c:Body
 deriving Inhabited
abbrev aL:=List (Option Blk)
def aq (M:aL) (n:Nat):Option Blk:=
 match M[n]? with
 | some (some b)=>some b
 | _=>none
def Bj:Value->V
 | .bool b=>.bool b
 | .int k n=>.int k n
 | .float .f64 b=>.flt (fp b)
 | .slice none 0 0=>.nil
 | .agg cs=>.val (.agg cs)
 | v=>.val v
def Xv (v:Value):V:=Bj v
def ev (F:List V):Operand->V
 | .tmp t=>F.getD t .any
 | .const v=>Xv v
 | .global g=>.val (.pointer (some ⟨g,0,none⟩))
 | .func f=>cond (Nat.ble f 999999) (.fn f []) .any
def xI (P:Program) (t:Nat):Option Nat:=
 match P.underlying t with
 | some (.slice e)=>some e
 | _=>none
def iP (P:Program) (t:Nat):Option Nat:=(P.info? t).map (·.size)
def bytesOf (P:Program) (t:Nat):Option Nat:=(P.info? t).map (·.bytes)
def pp (P:Program) (t:Nat):Option Bool:=
 match P.underlying t with
 | some (.struct _) | some (.array _ _)=>some true
 | some _=>some false
 | none=>none
def cH (P:Program) (t:Nat):Option (List V):=
 match P.info? t with
 | some i=>i.zero.map λv=>v.cells.toList.map Bj
 | none=>none
def tK:V->Option (List V)
 | .agg cs=>some cs
 | v=>cond v.one (some [v]) none
def z_:List V->Option (List Fl)
 | []=>some []
 | .flt x::r=>(z_ r).map (x :: ·)
 | _=>none
def vv (k:IntKind):List V->Option (List Int)
 | []=>some []
 | .int k' n::r=>cond (decide (k'=k)) ((vv k r).map (n :: ·)) none
 | _=>none
def yd (P:Program) (e:Nat) (cs:List V):Option Body:=
 match P.underlying e with
 | some (.float .f64)=>(z_ cs).map .flts
 | some (.int k)=>(vv k cs).map (.ints k)
 | some _=>cond (cs.all V.one) (some (.cells cs)) none
 | none=>none
def qs (P:Program) (t:Nat) (cs:List V):Body:=
 match P.underlying t with
 | some (.array _ e)=>match yd P e cs with
  | some c=>c
  | none=>.cells cs
 | _=>.cells cs
def jH (P:Program) (e n:Nat):Option Body:=
 match P.underlying e,cH P e with
 | some (.float .f64),some [.flt x]=>some (.flts (List.replicate n x))
 | some (.int k),some [.int k' x]=>cond (decide (k'=k)) (some (.ints k (List.replicate n x))) none
 | some _,some z=>some (.cells ((List.replicate n z).flatten))
 | _,_=>none
def Body.get (b:Body) (o:Nat) (k:V->Bool):Bool:=
 match b with
 | .flts xs=>decide (o<xs.length)&&k (.flt (xs.getD o none))
 | .ints q xs=>decide (o<xs.length)&&k (.int q (xs.getD o 0))
 | .cells cs=>match cs[o]? with
  | some v=>k v
  | none=>false
 | .recs t xs=>t.sz==1&&(decide (o<xs.length)&&match t.cells (xs.getD o t.dflt)with
  | [v]=>k v
  | _=>false)
 | .own _ _ _ _=>false
def Body.set (b:Body) (o:Nat) (v:V) (k:Body->Bool):Bool:=
 match b,v with
 | .flts xs,.flt x=>decide (o<xs.length)&&k (.flts (xs.set o x))
 | .ints q xs,.int q' n=>decide (q=q')&&(decide (o<xs.length)&&k (.ints q (xs.set o n)))
 | .cells cs,v=>match cs[o]? with
  | some _=>v.one&&k (.cells (cs.set o v))
  | none=>false
 | .recs t xs,v=>(t.sz==1&&v.one)&&(decide (o<xs.length)&&match t.parse [v]with
  | some (x,[])=>k (.recs t (xs.set o x))
  | _=>false)
 | _,_=>false
def Body.part (b:Body) (o s:Nat) (k:List V->Bool):Bool:=
 match b with
 | .cells cs=>decide (o+s<=cs.length)&&k ((cs.drop o).take s)
 | .flts xs=>decide (o+s<=xs.length)&&k (((xs.drop o).take s).map .flt)
 | .ints q xs=>decide (o+s<=xs.length)&&k (((xs.drop o).take s).map (.int q))
 | .recs t xs=>(t.sz==1&&s==1)&&(decide (o<xs.length)&&k (t.cells (xs.getD o t.dflt)))
 | .own _ _ _ _=>false
def setFrom {α:Type}:List α->Nat->List α->List α
 | cs,_,[]=>cs
 | cs,o,v::r=>setFrom (cs.set o v) (o+1) r
def Body.setPart (b:Body) (o:Nat) (vs:List V) (k:Body->Bool):Bool:=
 match b with
 | .cells cs=>decide (o+vs.length<=cs.length)&&(vs.all V.one&&k (.cells (setFrom cs o vs)))
 | .flts xs=>match z_ vs with
  | some ys=>decide (o+vs.length<=xs.length)&&k (.flts (setFrom xs o ys))
  | none=>false
 | .ints q xs=>match vv q vs with
  | some ys=>decide (o+vs.length<=xs.length)&&k (.ints q (setFrom xs o ys))
  | none=>false
 | .recs t xs=>(t.sz==1&&(vs.length==1&&vs.all V.one))&&(decide (o<xs.length)&&match t.parse vs with
  | some (x,[])=>k (.recs t (xs.set o x))
  | _=>false)
 | .own _ _ _ _=>false
mutual
def V.ren (f:Nat->Option Nat):V->V
 | .ptr n o=>match f n with
  | some m=>.ptr m o
  | none=>.any
 | .slw n=>match f n with
  | some m=>.slw m
  | none=>.any
 | .sl n o l=>match f n with
  | some m=>.sl m o l
  | none=>.any
 | .opt n e o=>match f n with
  | some m=>.opt m e o
  | none=>.any
 | .fn g caps=>.fn g (ik f caps)
 | .ro sz cs=>.ro sz (ik f cs)
 | .rp cs i=>.rp (ik f cs) i
 | .agg cs=>.agg (ik f cs)
 | .tup vs=>.tup (ik f vs)
 | .any=>.any
 | .nil=>.nil
 | .bool b=>.bool b
 | .int k n=>.int k n
 | .flt x=>.flt x
 | .val v=>.val v
 | .rof xs=>.rof xs
 | .roi k xs=>.roi k xs
 | .pf xs i=>.pf xs i
 | .pi k xs i=>.pi k xs i
 | .rl t xs=>.rl t xs
def ik (f:Nat->Option Nat):List V->List V
 | []=>[]
 | v::r=>V.ren f v::ik f r
end
mutual
def V.refs:V->List Nat
 | .ptr n _=>[n]
 | .slw n=>[n]
 | .sl n _ _=>[n]
 | .opt n _ _=>[n]
 | .fn _ caps=>mD caps
 | .ro _ cs=>mD cs
 | .rp cs _=>mD cs
 | .agg cs=>mD cs
 | .tup vs=>mD vs
 | _=>[]
def mD:List V->List Nat
 | []=>[]
 | v::r=>V.refs v++mD r
end
mutual
def V.free:V->Bool
 | .rof _=>false
 | .roi _ _=>false
 | .ro _ _=>false
 | .pf _ _=>false
 | .pi _ _ _=>false
 | .rp _ _=>false
 | .rl _ _=>false
 | .fn _ caps=>yQ caps
 | .agg cs=>yQ cs
 | .tup vs=>yQ vs
 | .val v=>v.oneCell'
 | .any=>false
 | _=>true
def yQ:List V->Bool
 | []=>true
 | v::r=>V.free v&&yQ r
end
def Body.ren (f:Nat->Option Nat):Body->Body
 | .cells cs=>.cells (ik f cs)
 | b=>b
def Blk.ren (f:Nat->Option Nat) (b:Blk):Blk:={ b with c:=b.c.ren f }
def Body.refs:Body->List Nat
 | .cells cs=>mD cs
 | _=>[]
def Body.free:Body->Bool
 | .cells cs=>yQ cs
 | .recs t _=>t.plain
 | .own _ a _ _=>a.plain
 | _=>true
def Body.cut (c:Body) (o n:Nat):Option Body:=
 match c with
 | .flts xs=>cond (decide (o+n<=xs.length)) (some (.flts ((xs.drop o).take n))) none
 | .ints k xs=>cond (decide (o+n<=xs.length)) (some (.ints k ((xs.drop o).take n))) none
 | .cells cs=>cond (decide (o+n<=cs.length)) (some (.cells ((cs.drop o).take n))) none
 | .recs t xs=>cond (t.sz==1) (cond (decide (o+n<=xs.length)) (some (.recs t ((xs.drop o).take n))) none) none
 | .own _ _ _ _=>none
def Body.cutK (c:Body) (o n:Nat) (k:Body->Bool):Bool:=
 match c with
 | .flts xs=>decide (o+n<=xs.length)&&k (.flts ((xs.drop o).take n))
 | .ints q xs=>decide (o+n<=xs.length)&&k (.ints q ((xs.drop o).take n))
 | .cells cs=>decide (o+n<=cs.length)&&k (.cells ((cs.drop o).take n))
 | .recs t xs=>t.sz==1&&(decide (o+n<=xs.length)&&k (.recs t ((xs.drop o).take n)))
 | .own _ _ _ _=>false
def jS (M:aL):Nat->V->Option V
 | 0,_=>none
 | d+1,.slw n=>match aq M n with
  | some ⟨_,sz,.flts xs⟩=>cond (sz==1) (some (.rof xs)) none
  | some ⟨_,sz,.ints k xs⟩=>cond (sz==1) (some (.roi k xs)) none
  | some ⟨_,sz,.cells cs⟩=>(cs.mapM (jS M d)).map (.ro sz)
  | some ⟨_,sz,.recs t xs⟩=>cond (sz==t.sz) (some (.rl t xs)) none
  | some ⟨_,sz,.own _ a xs []⟩=>cond (sz==1) (some (.rl (.ptr a) xs)) none
  | some ⟨_,_,.own _ _ _ (_::_)⟩=>none
  | none=>none
 | _+1,.opt n e o=>match aq M n with
  | some ⟨_,_,.own _ a xs []⟩=>some (.rp (a.cells (xs.getD e a.dflt)) o)
  | _=>none
 | d+1,.sl n o len=>match aq M n with
  | some b=>match b.c.cut o (cY len b.sz)with
   | some (.flts xs)=>cond (b.sz==1) (some (.rof xs)) none
   | some (.ints k xs)=>cond (b.sz==1) (some (.roi k xs)) none
   | some (.cells cs)=>(cs.mapM (jS M d)).map (.ro b.sz)
   | some (.recs t xs)=>cond (b.sz==t.sz) (some (.rl t xs)) none
   | some (.own _ _ _ _)=>none
   | none=>none
  | none=>none
 | d+1,.agg cs=>(cs.mapM (jS M d)).map .agg
 | _+1,v=>some v
def Ba (f:V->(V->Bool)->Bool):List V->(List V->Bool)->Bool
 | [],k=>k []
 | v::r,k=>f v λv'=>Ba f r λr'=>k (v'::r')
def Gf (M:aL):Nat->V->(V->Bool)->Bool
 | 0,_,_=>false
 | d+1,.sl n o len,k=>match aq M n with
  | some ⟨_,1,.flts xs⟩=>decide (o+len<=xs.length)&&k (.rof ((xs.drop o).take len))
  | some ⟨_,1,.ints q xs⟩=>decide (o+len<=xs.length)&&k (.roi q ((xs.drop o).take len))
  | _=>match jS M (d+1) (.sl n o len)with
   | some v'=>k v'
   | none=>false
 | d+1,.agg cs,k=>Ba (Gf M d) cs λcs'=>k (.agg cs')
 | d+1,v,k=>match jS M (d+1) v with
  | some v'=>k v'
  | none=>false
@[simp] def Body.isCells:Body->Bool
 | .cells _=>true
 | _=>false
theorem Body.cut_cells {c:Body} {o n:Nat} {cs:List V} (h:c.cut o n=some (.cells cs)):c.isCells=true:=by
 cases c with
 | cells _=>rfl
 | flts xs=>unfold Body.cut at h; cases hd:decide (o+n<=xs.length) <;> simp[hd]at h
 | ints k xs=>unfold Body.cut at h; cases hd:decide (o+n<=xs.length) <;> simp[hd]at h
 | recs t xs=>unfold Body.cut at h; cases hz:(t.sz==1) <;> cases hd:decide (o+n<=xs.length) <;> simp[hz,hd]at h
 | own _ _ _ _=>cases h
def mP (M:aL):Nat->V->List Nat
 | 0,_=>[]
 | d+1,.slw n=>match aq M n with
  | some ⟨_,_,.cells cs⟩=>n::(cs.map (mP M d)).flatten
  | _=>[n]
 | d+1,.sl n o len=>match aq M n with
  | some b=>cond b.c.isCells (match b.c.cut o (cY len b.sz)with
   | some (.cells cs)=>n::(cs.map (mP M d)).flatten
   | _=>[n]) [n]
  | none=>[n]
 | _+1,.opt n _ _=>[n]
 | d+1,.agg cs=>(cs.map (mP M d)).flatten
 | _+1,_=>[]
def kI:List Nat->Bool
 | []=>true
 | n::r=>!r.contains n&&kI r
def kinds (P:Program):Nat->Nat->List Nat
 | 0,t=>[t]
 | d+1,t=>match P.underlying t with
  | some (.struct fs)=>(fs.toList.map λf=>kinds P d f.type).flatten
  | some (.array n e)=>(List.replicate n (kinds P d e)).flatten
  | _=>[t]
def Gt:List RT->Option RT
 | []=>none
 | [t]=>some t
 | t::r=>(Gt r).map (.pair t)
def Bt (P:Program):Nat->Nat->Option RT
 | 0,_=>none
 | d+1,t=>match P.underlying t with
  | some (.float .f64)=>some .flt
  | some (.int k)=>some (.int k)
  | some .bool=>some .bool
  | some (.slice e)=>match P.underlying e with
   | some (.float .f64)=>some .fls
   | some (.int k)=>some (.ints k)
   | _=>(Bt P d e).map .rows
  | some (.pointer e)=>(Bt P d e).map .ptr
  | some (.struct fs)=>(fs.toList.mapM λf=>Bt P d f.type).bind Gt
  | some (.array n e)=>(Bt P d e).bind λx=>Gt (List.replicate n x)
  | _=>none
def xK (P:Program) (e:Nat):Option Body:=match jH P e 0 with
 | some (.cells cs)=>match Bt P 6 e with
  | some t=>some (.recs t [])
  | none=>some (.cells cs)
 | b=>b
def Fv (P:Program) (e:Nat):Option Body:=match P.underlying e with
 | some (.pointer t)=>(Bt P 6 t).map λa=>.own t a [] []
 | _=>none
def JO (P:Program) (t:Nat):V->V
 | .nil=>match P.underlying t with
  | some (.slice e)=>match P.underlying e with
   | some (.float .f64)=>.rof []
   | some (.int k)=>.roi k []
   | _=>match Bt P 6 e with
    | some t=>.rl t []
    | none=>.ro ((iP P e).getD 1) []
  | _=>.nil
 | v=>v
def lJ (P:Program):List Nat->List V->List V
 | t::ts,v::vs=>JO P t v::lJ P ts vs
 | _,vs=>vs
def D0 (P:Program) (t:Nat):V->V
 | .agg cs=>.agg (lJ P (kinds P 4 t) cs)
 | v=>JO P t v
def iX (P:Program):List Nat->List V->List V
 | t::ts,v::vs=>D0 P t v::iX P ts vs
 | _,vs=>vs
abbrev Dr:=Nat->List V->List Blk->(V->List Blk->Bool)->Bool
structure Cx where
 P:Program
 O:Dr
 ref:Nat->Bool
 N:Nat
structure St where
 F:List V
 M:aL
abbrev Upd:=List (Nat × Option Blk)
def za (M:aL) (n:Nat) (b:Option Blk):aL:=
 cond (decide (n<M.length)) (M.set n b) (M++List.replicate (n - M.length) none++[b])
def nj:aL->Upd->aL
 | M,[]=>M
 | M,(n,b)::r=>nj (za M n b) r
def af (k:IntKind) (n:Int):Bool:=decide (k.min<=n/\n<=k.max)
def w7 (q:IntKind) (r:Int) (k:V->Bool):Bool:=
 match q with
 | .i64=>af .i64 r&&k (.int .i64 r)
 | q=>k (.int q (q.wrap r))
def rq (op:BinOp) (k:IntKind) (x y:Int):Option Int:=
 let a:=BitVec.ofInt k.bits x
 let b:=BitVec.ofInt k.bits y
 match op with
 | .and=>some (k.wrap (a &&& b).toNat)
 | .or=>some (k.wrap (a ||| b).toNat)
 | .xor=>some (k.wrap (a ^^^ b).toNat)
 | .andNot=>some (k.wrap (a &&& ~~~b).toNat)
 | _=>none
def OD (op:BinOp) (q:IntKind) (a b:Int) (k:V->Bool):Bool:=
 match op with
 | .add=>w7 q (a+b) k
 | .sub=>w7 q (a - b) k
 | .mul=>w7 q (a*b) k
 | .quo=>!decide (b=0)&&w7 q (a.tdiv b) k
 | .rem=>!decide (b=0)&&k (.int q (a.tmod b))
 | .eql=>k (.bool (a==b))
 | .neq=>k (.bool (a != b))
 | .lss=>k (.bool (decide (a<b)))
 | .leq=>k (.bool (decide (a<=b)))
 | .gtr=>k (.bool (decide (a>b)))
 | .geq=>k (.bool (decide (a>=b)))
 | op=>match rq op q a b with
  | some r=>k (.int q r)
  | none=>false
def Ot (op:BinOp) (x y:Fl) (k:V->Bool):Bool:=
 match op with
 | .add=>k (.flt (kl x y))
 | .sub=>k (.flt (wN x y))
 | .mul=>k (.flt (dq x y))
 | .quo=>k (.flt (fdiv x y))
 | .eql=>k (.bool (feq x y))
 | .neq=>k (.bool (!feq x y))
 | .lss=>k (.bool (flt x y))
 | .leq=>k (.bool (fle x y))
 | .gtr=>k (.bool (fgt x y))
 | .geq=>k (.bool (fge x y))
 | _=>false
def zN (P:Program) (t:Nat):Bool:=
 match P.underlying t with
 | some .bool=>true
 | _=>false
def MD (P:Program) (n t:Nat):Bool:=match P.underlying t with
 | some (.array m e)=>(m==n)&&match P.underlying e,iP P e,pp P e with
  | some (.float .f64),some 1,some false=>!P.eqGuardType P.depth t
  | _,_,_=>false
 | _=>false
def RH (P:Program) (t:Nat):Bool:=match P.underlying t with
 | some (.pointer _)=>true
 | _=>false
def Ek (P:Program) (t:Nat):Bool:=match P.underlying t with
 | some (.slice _)=>true
 | _=>false
def Vw (op:BinOp) (isB isV isW isP isS:Bool) (x y:V) (k:V->Bool):Bool:=
 match op,x,y with
 | .shl,.int q a,.int _ b=>decide (0<=b)&&w7 q (a*2 ^ (min b.toNat q.bits)) k
 | .shr,.int q a,.int _ b=>decide (0<=b)&&k (.int q (a.fdiv (2 ^ (min b.toNat q.bits))))
 | op,.int q a,.int q' b=>decide (q=q')&&OD op q a b k
 | op,.flt a,.flt b=>Ot op a b k
 | .eql,.bool a,.bool b=>isB&&k (.bool (a==b))
 | .neq,.bool a,.bool b=>isB&&k (.bool (a != b))
 | .neq,.ptr _ _,.val (.pointer none)=>isP&&k (.bool true)
 | .neq,.val (.pointer none),.val (.pointer none)=>isP&&k (.bool false)
 | .eql,.ptr _ _,.val (.pointer none)=>isP&&k (.bool false)
 | .eql,.val (.pointer none),.val (.pointer none)=>isP&&k (.bool true)
 | .eql,.rof (_::_),.nil=>isS&&k (.bool false)
 | .eql,.val (.slice none _ _),.nil=>isS&&k (.bool true)
 | .eql,.val (.slice (some _) _ _),.nil=>isS&&k (.bool false)
 | .eql,.nil,.nil=>isS&&k (.bool true)
 | .eql,.agg [.flt a,.flt b,.flt c],.agg [.flt d,.flt e,.flt f]=>isV&&k (.bool (feq a d&&(feq b e&&feq c f)))
 | .eql,.agg [.flt a,.flt b,.flt c,.flt d],.agg [.flt e,.flt f,.flt g,.flt h]=>isW&&k (.bool (feq a e&&(feq b f&&(feq c g&&feq d h))))
 | _,_,_=>false
def unV (op:UnOp) (x:V) (k:V->Bool):Bool:=
 match op,x with
 | .not,.bool b=>k (.bool (!b))
 | .neg,.int q n=>w7 q (0 - n) k
 | .neg,.flt x=>k (.flt (VE x))
 | .xor,.int q n=>match rq .xor q (if q.signed then -1 else q.max) n with
  | some r=>k (.int q r)
  | none=>false
 | _,_=>false
def NZ (P:Program) (src dst:Nat) (x:V) (k:V->Bool):Bool:=
 match P.underlying src,P.underlying dst,x with
 | some _,some (.int q),.int _ n=>w7 q n k
 | some _,some (.float .f64),.int _ n=>k (.flt (some (FloatKind.f64.nearest n)))
 | some _,some (.float .f64),.flt x=>k (.flt x)
 | some _,some (.int q),.flt (some b)=>match(Ieee.double.read b).toInt .zero with
  | some n=>decide (q.min<=n/\n<=q.max)&&k (.int q n)
  | none=>false
 | _,_,_=>false
def sm (c:Body) (s:Nat):Nat:=match s with
 | 1=>c.size
 | s=>c.size / s
def Blk.count (b:Blk):Nat:=match b.c with
 | .recs t xs=>cond (b.sz==t.sz) xs.length (sm (.recs t xs) b.sz)
 | c=>sm c b.sz
def inR (i:Int) (n:Nat):Bool:=decide (0<=i/\i<(n:Int))
def VJ (P:Program) (M:aL) (t:Nat) (x:V) (i:Int) (k:V->Bool):Bool:=
 match P.underlying t with
 | some (.slice e)=>match iP P e with
  | some s=>match x with
   | .rof xs=>s==1&&(inR i xs.length&&k (.pf xs i.toNat))
   | .roi q xs=>s==1&&(inR i xs.length&&k (.pi q xs i.toNat))
   | .ro sz cs=>s==sz&&(!(s==0)&&(inR i (cs.length / sz)&&k (.rp cs (cY i.toNat s))))
   | .rl t xs=>s==t.sz&&(inR i xs.length&&k (.rp (t.cells (xs.getD i.toNat t.dflt)) 0))
   | .slw n=>match aq M n with
    | some b=>s==b.sz&&(inR i b.count&&k (.ptr n (cY i.toNat s)))
    | none=>false
   | .sl n o len=>match aq M n with
    | some b=>s==b.sz&&(inR i len&&k (.ptr n (o+cY i.toNat s)))
    | none=>false
   | _=>false
  | none=>false
 | some (.array len e)=>match iP P e with
  | some s=>match x with
   | .ptr n o=>inR i len&&k (.ptr n (o+cY i.toNat s))
   | .rp cs o=>inR i len&&k (.rp cs (o+cY i.toNat s))
   | .val (.pointer (some ⟨b,0,none⟩))=>match zI b with
    | some zs=>(s==1)&&(decide (zs.length=len)&&(inR i len&&k (.pi .u8 zs i.toNat)))
    | none=>false
   | _=>false
  | none=>false
 | _=>false
def VQ (P:Program) (M:aL) (t:Nat) (x:V) (k:V->Bool):Bool:=
 match P.underlying t,x with
 | some (.slice _),.nil=>k (.int .i64 0)
 | some (.slice _),.rof xs=>k (.int .i64 xs.length)
 | some (.slice _),.roi _ xs=>k (.int .i64 xs.length)
 | some (.slice _),.rl _ xs=>k (.int .i64 xs.length)
 | some (.slice _),.ro sz cs=>!(sz==0)&&k (.int .i64 (cs.length / sz:Nat))
 | some (.slice _),.slw n=>match aq M n with
  | some b=>!(b.sz==0)&&k (.int .i64 b.count)
  | none=>false
 | some (.slice _),.sl _ _ len=>k (.int .i64 len)
 | some (.array n _),_=>k (.int .i64 n)
 | some .string,.val (.string s)=>k (.int .i64 s.size)
 | _,_=>false
def Eo (M:aL) (sz:Nat) (x:V):Option Body:=
 match x with
 | .nil=>some (.cells [])
 | .val (.slice _ 0 _)=>some (.cells [])
 | .rof xs=>cond (sz==1) (some (.flts xs)) none
 | .roi q xs=>cond (sz==1) (some (.ints q xs)) none
 | .ro s cs=>cond (s==sz) (some (.cells cs)) none
 | .rl t xs=>cond (t.sz==sz) (some (.recs t xs)) none
 | .slw n=>match aq M n with
  | some b=>cond (b.sz==sz) (some b.c) none
  | none=>none
 | .sl n o len=>match aq M n with
  | some b=>cond (b.sz==sz) (b.c.cut o (cY len b.sz)) none
  | none=>none
 | _=>none
def Body.app:Body->Body->Option Body
 | .own _ _ _ _,_=>none
 | .flts xs,.flts ys=>some (.flts (xs++ys))
 | .ints q xs,.ints q' ys=>cond (decide (q=q')) (some (.ints q (xs++ys))) none
 | .cells xs,.cells ys=>cond (ys.all V.one) (some (.cells (xs++ys))) none
 | .recs t xs,.recs t' ys=>RT.cast t t' ys (λys=>some (.recs t (xs++ys))) none
 | .recs t xs,.cells cs=>(t.parses cs.length cs).map λys=>.recs t (xs++ys)
 | .cells [],.recs t ys=>some (.recs t ys)
 | b,.cells []=>some b
 | _,_=>none
def Jn (L:List Nat):List Nat:=L.foldl (λacc n=>cond (acc.contains n) acc (acc++[n])) []
def Da (M:aL):Nat->List Nat->List Nat
 | 0,L=>L
 | d+1,L=>Da M d (Jn (L++(L.map λn=>match aq M n with
  | some b=>b.c.refs
  | none=>[]).flatten))
def lz (L:List Nat) (n:Nat):Option Nat:=L.idxOf? n
def Aw (place:Nat->Option (Nat × Nat)):List V->List (Nat × V)->(List V->Bool)->Bool
 | cs,[],k=>k cs
 | cs,(i,v)::r,k=>match place i,tK v with
  | some (off,s),some vs=>(vs.length==s)&&(decide (off+s<=cs.length)&&Aw place (setFrom cs off vs) r k)
  | _,_=>false
def places (P:Program) (fs:List Field):Option (List (Nat × Nat)):=fs.mapM λf=>(iP P f.type).map λs=>(f.offset,s)
def jm (nm:Nat):List Blk->Upd
 | []=>[]
 | b::r=>(nm,some b)::jm (nm+1) r
def fX:List Nat->List Blk->Upd
 | n::ns,b::bs=>(n,some b)::fX ns bs
 | _,_=>[]
abbrev KOp:=V->Upd->List Nat->Bool
def sj (F:List V) (lo hi:Option Operand) (n:Nat) (k:Nat->Nat->Bool):Bool:=
 match lo.map (ev F),hi.map (ev F)with
 | none,none=>k 0 n
 | none,some (.int _ h)=>decide (0<=h/\h<=(n:Int))&&k 0 h.toNat
 | some (.int _ l),none=>decide (0<=l/\l<=(n:Int))&&k l.toNat n
 | some (.int _ l),some (.int _ h)=>decide (0<=l/\l<=h/\h<=(n:Int))&&k l.toNat h.toNat
 | _,_=>false
def nZ (cx:Cx) (g:Nat):Nat:=cond (cx.ref (3000000+g)) 1 (cond (cx.ref (4000000+g)) 2 (cond (cx.ref (6000000+g)) 4 (cond (cx.ref (7000000+g)) 5 (cond (cx.ref (8000000+g)) 6 (cond (cx.ref (9000000+g)) 7 (cond (cx.ref (10000000+g)) 8 (cond (cx.ref (11000000+g)) 9 (cond (cx.ref (12000000+g)) 10 0))))))))
def FI (b b':Blk):Blk:=match b.c,b'.c with
 | .cells (_::r),.cells (v::_)=>{ b with c:=.cells (v::r) }
 | _,_=>b
def Iz (md:Nat) (L:List Nat) (bs H':List Blk):Upd:=match md with
 | 0=>fX L (H'.take L.length)
 | 1=>match L,bs,H' with
  | n::_,b::_,b'::_=>[(n,some (FI b b'))]
  | _,_,_=>[]
 | 2=>[]
 | p+3=>match L.drop p,H'.drop p with
  | n::_,b::_=>[(n,some b)]
  | _,_=>[]
def Jj (cx:Cx) (M:aL) (g:Nat) (fn:Func) (B:List Nat) (vs1:List V) (k:KOp):Bool:=
 let vs2:=iX cx.P fn.params.toList vs1
 let L:=Da M 3 (Jn (mD vs2))
 match L.mapM (aq M)with
 | none=>false
 | some bs=>((kI L&&bs.all λb=>b.c.holes.isEmpty)&&(nZ cx g==0||bs.all λb=>b.c.refs.all λn=>L.contains n))&&(B.all (λn=>!L.contains n) &&
  cx.O g (ik (lz L) vs2) (bs.map (Blk.ren (lz L))) λr H=>
   let f2:Nat->Option Nat:=λi=>cond (decide (i<L.length)) (L[i]?) (some (M.length+(i - L.length)))
   let H':=H.map (Blk.ren f2)
   let r':=r.ren f2
   (decide (L.length<=H.length)&&((B.isEmpty||(r'.free&&H'.all (·.c.free))) &&
    k r' (Iz (nZ cx g) L bs H'++jm M.length (H'.drop L.length)) (L++B))))
def Af (cx:Cx) (M:aL) (g:Nat) (vs:List V) (k:KOp):Bool:=
 match cx.P.funcs[g]? with
 | none=>false
 | some fn=>cond (cx.ref g) (Jj cx M g fn [] vs k) (Ba (Gf M 4) vs λvs1=>Jj cx M g fn ((vs.map (mP M 4)).flatten) vs1 k)
def Hv (cx:Cx) (M:aL) (g:Nat) (vs:List V) (k:KOp):Bool:=
 match cx.P.funcs[g]? with
 | none=>false
 | some fn=>
  match cond (cx.ref g) (some vs) (vs.mapM (jS M 4))with
  | none=>false
  | some vs1=>Jj cx M g fn (cond (cx.ref g) [] ((vs.map (mP M 4)).flatten)) vs1 k
def yN (M:aL):List Nat->aL
 | []=>M
 | n::r=>yN (M.set n none) r
def NQ (cx:Cx) (base:Nat) (M:aL) (g:Nat) (vs:List V) (k:KOp):Bool:=
 match vs.mapM (jS M 4)with
 | none=>false
 | some vs1=>
  let B:=(vs.map (mP M 4)).flatten
  B.all (λn=>decide (base<=n))&&Af cx (yN M B) g vs1 λv U T=>k v (B.map (λn=>(n,none))++U) (B++T)
def NP (cx:Cx) (base:Nat) (M:aL) (g:Nat) (vs:List V) (k:KOp):Bool:=
 match vs with
 | []=>false
 | v::r=>match jS M 4 v with
  | none=>false
  | some v1=>
   let B:=mP M 4 v
   B.all (λn=>decide (base<=n))&&Af cx (yN M B) g (v1::r) λv U T=>k v (B.map (λn=>(n,none))++U) (B++T)
def V.isOpt:V->Bool
 | .opt _ _ _=>true
 | _=>false
structure Lent where
 n:Nat
 e:Nat
 m:Nat
def u9 (nm:Nat):Bool->List V->List Lent->(List V->List Lent->Bool)->Bool
 | _,[],acc,k=>k [] acc
 | fst,.opt n e o::r,acc,k=>match acc with
  | []=>u9 nm fst r [⟨n,e,nm⟩] λvs ls=>k (.ptr nm o::vs) ls
  | l::acc'=>cond (fst&&l.n==n)
    (decide (e=l.e)&&u9 nm fst r (l::acc') λvs ls=>k (.ptr l.m o::vs) ls)
    ((l::acc').all (λq=>!(q.n==n) || !decide (e=q.e))&&u9 nm fst r (l::acc'++[⟨n,e,nm+(acc'.length+1)⟩]) λvs ls=>k (.ptr (nm+(acc'.length+1)) o::vs) ls)
 | fst,v::r,acc,k=>u9 nm (fst && !acc.isEmpty) r acc λvs ls=>k (v::vs) ls
def DH (M:aL):List Lent->(aL->List (Option Blk)->Bool)->Bool
 | [],k=>k M []
 | l::r,k=>match aq M l.n with
  | some ⟨t,sz,.own tt a xs hs⟩=>decide (a.sz<=64)&&DH (M.set l.n (some ⟨t,sz,.own tt a xs (l.e::hs)⟩)) r λM' bs=>k M' (some ⟨tt,1,.cells (a.cells (xs.getD l.e a.dflt))⟩::bs)
  | _=>false
def Ej (M N:aL):List Lent->(aL->Bool)->Bool
 | [],k=>k M
 | l::r,k=>match aq M l.n,aq N l.m with
  | some ⟨t,sz,.own tt a xs hs⟩,some ⟨tt',1,.cells cs⟩=>(tt'==tt)&&(cs.all V.one&&match a.parse cs with
   | some (x,[])=>Ej (M.set l.n (some ⟨t,sz,.own tt a (xs.set l.e x) hs.tail⟩)) N r k
   | _=>false)
  | _,_=>false
def Gk (ls:List Lent) (n:Nat):Bool:=ls.any (·.m==n)
def sU (ls:List Lent):Nat->Option Nat:=λn=>cond (Gk ls n) none (some n)
def SB (ls:List Lent):V->V
 | .ptr n o=>match ls.find? (·.m==n)with
  | some l=>.opt l.n l.e o
  | none=>.ptr n o
 | v=>v.ren (sU ls)
def NO (cx:Cx) (M:aL) (g:Nat) (vs:List V) (k:KOp):Bool:=
 u9 M.length true vs [] λvs1 ls=>(ls.all λl=>match aq M l.n with | some b=>b.c.holes.isEmpty | none=>false)&&DH M ls λM1 bs=>
  Af cx (M1++bs) g vs1 λv U T=>
   (ls.all λl=>!(U.map (·.1)).contains l.n)&&Ej M1 (nj (M1++bs) U) ls.reverse λM2=>
    k (SB ls v) (U.map (λp=>(p.1,p.2.map (Blk.ren (sU ls))))++(ls.map λl=>(l.m,none))++(ls.map λl=>(l.n,(aq M2 l.n).map (Blk.ren (sU ls))))) ((ls.map (·.n))++T.filter λn=>!Gk ls n)
def Ji (cx:Cx) (base:Nat) (M:aL) (g:Nat) (vs:List V) (k:KOp):Bool:=
 cond (cx.ref g&&vs.any V.isOpt) (nZ cx g==0&&NO cx M g vs k) (cond (cx.ref (g+1000000)) (nZ cx g==0&&NQ cx base M g vs k) (cond (cx.ref (g+5000000)) (nZ cx g==0&&NP cx base M g vs k) (Af cx M g vs k)))
def mmV (mx:Bool):V->List V->(V->Bool)->Bool
 | .flt x,.flt y::r,k=>mmV mx (.flt (fmm mx x y)) r k
 | .int q x,.int q' y::r,k=>decide (q=q')&&mmV mx (.int q (imm mx x y)) r k
 | .flt x,[],k=>k (.flt x)
 | .int q x,[],k=>k (.int q x)
 | _,_,_=>false
def OE (M:aL):V->Bool
 | .slw n=>match aq M n with
  | some b=>b.c.isOwn
  | none=>false
 | _=>false
def Hr (base:Nat) (M:aL) (e sz by':Nat) (s x:V) (k:KOp):Bool:=
 match s,x with
 | .slw n,.slw v=>match aq M n,aq M v with
  | some ⟨e',sz',.own tt a xs []⟩,some ⟨_,svz,.cells [.ptr m 0]⟩=>match aq M m with
   | some ⟨tt',smz,.cells cs⟩=>((((sz==1&&svz==1)&&(sz'==1&&smz==1))&&((tt'==tt&&e'==e)&&(decide (base<=n)&&decide (base<=m))))&&(!(m==n)&&(!(v==n) && !(v==m))))&&(decide ((xs.length+1)*by'<=140737488355328)&&(cs.all V.one&&match a.parse cs with
    | some (x',[])=>k (.slw M.length) [(n,none),(m,none),(M.length,some ⟨e,1,.own tt a (xs++[x']) []⟩)] [n,v,m]
    | _=>false))
   | _=>false
  | _,_=>false
 | _,_=>false
def opV (cx:Cx) (base:Nat) (F:List V) (M:aL) (o:Op) (k:KOp):Bool:=
 let P:=cx.P
 match o with
 | .move x=>k (ev F x) [] []
 | .assign x=>k (ev F x) [] []
 | .pick c a b=>match ev F c with
  | .bool t=>cond t (k (ev F a) [] []) (k (ev F b) [] [])
  | _=>false
 | .alloc t=>match cH P t with
  | some cs=>decide (cs.length<=16777216)&&(cs.all V.one&&k (.ptr M.length 0) [(M.length,some ⟨t,1,qs P t cs⟩)] [])
  | none=>false
 | .box t x=>match tK (ev F x)with
  | some cs=>decide (cs.length<=16777216)&&(cs.all V.one&&k (.ptr M.length 0) [(M.length,some ⟨t,1,qs P t cs⟩)] [])
  | none=>false
 | .build t parts=>match cH P t,P.underlying t with
  | some z,some (.struct fs)=>match places P fs.toList with
   | some pl=>Aw (pl[·]?) z (parts.toList.map λp=>(p.1,ev F p.2)) λcs=>cs.all V.one&&k (.agg cs) [] []
   | none=>false
  | some z,some (.array _ e)=>match iP P e with
   | some s=>Aw (λi=>some (cY i s,s)) z (parts.toList.map λp=>(p.1,ev F p.2)) λcs=>cs.all V.one&&k (.agg cs) [] []
   | none=>false
  | _,_=>false
 | .buildSlice t len parts=>match xI P t with
  | some e=>match iP P e,cH P e with
   | some s,some z=>decide (len*s<=16777216)&&((z.length==s)&&(!(s==0)&&Aw (λi=>some (cY i s,s)) ((List.replicate len z).flatten) (parts.toList.map λp=>(p.1,ev F p.2)) λcs=>
     match yd P e cs with
     | some c=>k (.slw M.length) [(M.length,some ⟨e,s,c⟩)] []
     | none=>false))
   | _,_=>false
  | none=>false
 | .load t x=>match pp P t,iP P t with
  | some ag,some s=>match ev F x with
   | .ptr n p=>match aq M n with
    | some b=>match b.c with
     | .own _ _ xs []=>!ag&&(decide (p<xs.length)&&k (.opt n p 0) [] [n])
     | c=>cond ag (c.part p s λcs=>k (.agg cs) [] [n]) (c.get p λv=>k v [] [n])
    | none=>false
   | .opt n e o=>match aq M n with
    | some ⟨_,_,.own _ a xs []⟩=>cond ag (decide (o+s<=a.sz)&&k (.agg (((a.cells (xs.getD e a.dflt)).drop o).take s)) [] [n]) (match(a.cells (xs.getD e a.dflt))[o]? with
     | some v=>k v [] [n]
     | none=>false)
    | _=>false
   | .pf xs i=>!ag&&k (.flt (xs.getD i none)) [] []
   | .pi q xs i=>!ag&&k (.int q (xs.getD i 0)) [] []
   | .rp cs i=>cond ag (decide (i+s<=cs.length)&&k (.agg ((cs.drop i).take s)) [] []) (match cs[i]? with
    | some v=>k v [] []
    | none=>false)
   | _=>false
  | _,_=>false
 | .store t x y=>match iP P t,ev F x,ev F y with
  | some s,.ptr n p,.agg vs=>match aq M n with
   | some b=>(vs.length==s)&&b.c.setPart p vs λc=>k .any [(n,some { b with c:=c })] [n]
   | none=>false
  | some s,.ptr n p,v=>match aq M n with
   | some b=>(s==1)&&(v.one&&b.c.set p v λc=>k .any [(n,some { b with c:=c })] [n])
   | none=>false
  | some s,.opt n e o,.agg vs=>match aq M n with
   | some ⟨t',sz,.own tt a xs []⟩=>(vs.length==s)&&(vs.all V.one&&(decide (o+s<=a.sz)&&match a.parse (setFrom (a.cells (xs.getD e a.dflt)) o vs)with
    | some (x,[])=>k .any [(n,some ⟨t',sz,.own tt a (xs.set e x) []⟩)] [n]
    | _=>false))
   | _=>false
  | some s,.opt n e o,v=>match aq M n with
   | some ⟨t',sz,.own tt a xs []⟩=>(s==1)&&(v.one&&(decide (o<a.sz)&&match a.parse ((a.cells (xs.getD e a.dflt)).set o v)with
    | some (x,[])=>k .any [(n,some ⟨t',sz,.own tt a (xs.set e x) []⟩)] [n]
    | _=>false))
   | _=>false
  | _,_,_=>false
 | .nilCheck x=>match ev F x with
  | .ptr n p=>k (.ptr n p) [] []
  | .pf xs i=>k (.pf xs i) [] []
  | .pi q xs i=>k (.pi q xs i) [] []
  | .rp cs i=>k (.rp cs i) [] []
  | .opt n e o=>k (.opt n e o) [] []
  | .fn g caps=>k (.fn g caps) [] []
  | _=>false
 | .binOp op t x y _=>Vw op (zN P t) (MD P 3 t) (MD P 4 t) (RH P t) (Ek P t) (ev F x) (ev F y) λv=>k v [] []
 | .unOp op _ x=>unV op (ev F x) λv=>k v [] []
 | .convert s d x=>NZ P s d (ev F x) λv=>k v [] []
 | .makeFunc (.func g) first caps=>Nat.ble g 999999&&cond first.isEmpty (k (.fn g (caps.toList.map (ev F))) [] []) (caps.isEmpty&&k (.fn (g+1000000) (first.toList.map (ev F))) [] [])
 | .makeSlice t l c=>match xI P t with
  | some e=>match iP P e,bytesOf P e with
   | some s,some by'=>match ev F l,ev F c with
    | .int _ l,.int _ c=>decide (0<=l/\l<=c/\c<=9223372036854775807/\(by':Int)*c<=140737488355328)&&((match cH P e with | some z=>z.length==s&&z.all V.one | none=>false)&&match jH P e l.toNat with
     | some body=>k (.slw M.length) [(M.length,some ⟨e,s,body⟩)] []
     | none=>false)
    | _,_=>false
   | _,_=>false
  | none=>false
 | .slice t x lo hi none=>match P.underlying t with
  | some (.slice e)=>match iP P e with
   | some s=>
    match ev F x with
    | .rof xs=>s==1&&sj F lo hi xs.length λl h=>k (.rof ((xs.take h).drop l)) [] []
    | .roi q xs=>s==1&&sj F lo hi xs.length λl h=>k (.roi q ((xs.take h).drop l)) [] []
    | .rl t xs=>s==t.sz&&(!(s==0)&&sj F lo hi xs.length λl h=>k (.rl t ((xs.take h).drop l)) [] [])
    | .slw n=>match aq M n with
     | some b=>s==b.sz&&(!(s==0)&&sj F lo hi b.count λl h=>k (.sl n (cY l s) (h - l)) [] [n])
     | none=>false
    | .sl n o len=>match aq M n with
     | some b=>s==b.sz&&(!(s==0)&&sj F lo hi len λl h=>k (.sl n (o+cY l s) (h - l)) [] [n])
     | none=>false
    | _=>false
   | none=>false
  | some (.array len e)=>match iP P e with
   | some s=>
    match ev F x with
    | .ptr n o=>match aq M n with
     | some b=>s==b.sz&&((s==1&&decide (len<=b.c.size))&&sj F lo hi len λl h=>k (.sl n (o+cY l s) (h - l)) [] [n])
     | none=>false
    | _=>false
   | none=>false
  | _=>false
 | .fieldAddr s x f=>match P.underlying s with
  | some (.struct fs)=>match fs[f]? with
   | some fd=>match iP P fd.type with
    | some z=>!(z==0)&&(match ev F x with
     | .ptr n p=>k (.ptr n (p+fd.offset)) [] []
     | .rp cs i=>k (.rp cs (i+fd.offset)) [] []
     | .opt n e o=>k (.opt n e (o+fd.offset)) [] []
     | _=>false)
    | none=>false
   | none=>false
  | _=>false
 | .field t x f=>match P.underlying t with
  | some (.struct fs)=>match fs[f]? with
   | some fd=>match pp P fd.type,iP P fd.type,ev F x with
    | some ag,some s,.agg cs=>cond ag (decide (fd.offset+s<=cs.length)&&k (.agg ((cs.drop fd.offset).take s)) [] []) (match cs[fd.offset]? with
     | some v=>k v [] []
     | none=>false)
    | _,_,_=>false
   | none=>false
  | _=>false
 | .indexAddr t x i=>match ev F i with
  | .int _ i=>VJ P M t (ev F x) i λv=>k v [] (ev F x).refs
  | _=>false
 | .index t x i=>match P.underlying t,ev F i,ev F x with
  | some (.array len e),.int _ i,.agg cs=>match pp P e,iP P e with
   | some ag,some s=>inR i len&&cond ag (decide (cY i.toNat s+s<=cs.length)&&k (.agg ((cs.drop (cY i.toNat s)).take s)) [] []) (match cs[cY i.toNat s]? with
     | some v=>k v [] []
     | none=>false)
   | _,_=>false
  | some .string,.int _ i,.val (.string s)=>inR i s.size&&k (.int .u8 ((s.data.toList.map λb=>(b.toNat:Int)).getD i.toNat 0)) [] []
  | _,_,_=>false
 | .extract x i=>match ev F x with
  | .tup vs=>match vs[i]? with
   | some v=>k v [] []
   | none=>false
  | _=>false
 | .call c=>match c.callee with
  | .builtin .len=>match c.argTypes.toList,c.args.toList with
   | [t],[x]=>VQ P M t (ev F x) λv=>k v [] (ev F x).refs
   | _,_=>false
  | .builtin .max=>match c.args.toList with
   | x::r=>mmV true (ev F x) (r.map (ev F)) λv=>k v [] []
   | _=>false
  | .builtin .min=>match c.args.toList with
   | x::r=>mmV false (ev F x) (r.map (ev F)) λv=>k v [] []
   | _=>false
  | .builtin .append=>match c.args.toList,c.argTypes.toList with
   | [s,x],[t,t']=>(t==t')&&(match xI P t with
    | some e=>match iP P e,bytesOf P e,cH P e,jH P e 0 with
     | some sz,some by',some z,some nb=>(z.length==sz)&&(!(sz==0||by'==0)&&cond (OE M (ev F s)) (Hr base M e sz by' (ev F s) (ev F x) k) (match Eo M sz (ev F x)with
      | some src=>match ev F s with
       | .nil=>match nb.app src with
        | some c=>decide ((Blk.count ⟨e,sz,c⟩)*by'<=140737488355328)&&k (.slw M.length) [(M.length,some ⟨e,sz,c⟩)] (ev F x).refs
        | none=>false
       | .slw n=>match aq M n with
        | some b=>match b.c.app src with
         | some c=>decide (base<=n)&&(b.e==e&&(b.sz==sz&&(!((ev F x).refs.contains n) &&
           (decide ((Blk.count ⟨e,sz,c⟩)*by'<=140737488355328)&&k (.slw M.length) [(n,none),(M.length,some ⟨e,sz,c⟩)] (n::(ev F x).refs)))))
         | none=>false
        | none=>false
       | .sl n o len=>match aq M n with
        | some b=>b.c.cutK 0 (cY len sz) λc0=>match c0.app src with
         | some c=>(o==0&&decide (base<=n))&&(b.e==e&&(b.sz==sz&&(!((ev F x).refs.contains n) &&
           (decide ((Blk.count ⟨e,sz,c⟩)*by'<=140737488355328)&&k (.slw M.length) [(n,none),(M.length,some ⟨e,sz,c⟩)] (n::(ev F x).refs)))))
         | none=>false
        | none=>false
       | _=>false
      | none=>false))
     | _,_,_,_=>false
    | none=>false)
   | _,_=>false
  | .value f=>match ev F f with
   | .fn g caps=>cond (Nat.ble g 999999) (Ji cx base M g (c.args.toList.map (ev F)++caps) k) (Ji cx base M (g - 1000000) (caps++c.args.toList.map (ev F)) k)
   | _=>false
  | _=>false
 | _=>false
def kS (F:List V) (d:Option Nat) (v:V):List V:=match d with
 | some t=>F.set t v
 | none=>F
def fE (all:Array Oper) (j:Nat):Option Nat:=(all[j]?).bind (·.dst)
def DI:Value->Bool
 | .bool _=>true
 | _=>false
def Gs (cx:Cx) (base:Nat) (all:Array Oper):List Oper->St->(St->Bool)->Bool
 | [],s,k=>k s
 | o::r,s,k=>match o.guard with
  | none=>opV cx base s.F s.M o.op λv U _=>Gs cx base all r ⟨kS s.F o.dst v,nj s.M U⟩ k
  | some (j,want)=>match fE all j with
   | some t=>match s.F.getD t .any with
    | .bool b=>cond (b==want)
      (opV cx base (s.F.set t (.bool want)) s.M o.op λv U _=>Gs cx base all r ⟨kS (s.F.set t (.bool want)) o.dst v,nj s.M U⟩ k)
      (Gs cx base all r ⟨kS (s.F.set t (.bool (!want))) o.dst (.val undef),s.M⟩ k)
    | .val v=>cond (DI v) false (Gs cx base all r ⟨kS s.F o.dst (.val undef),s.M⟩ k)
    | _=>false
   | none=>false
structure Did where
 dst:Option Nat
 reads:List Nat
 writes:List Nat
 touch:List Nat
 tails:List Nat:=[]
 heads:List Nat:=[]
def Qg (ops:Array Operand):List Nat:=ops.toList.filterMap λx=>match x with
 | .tmp t=>some t
 | _=>none
def Oper.reads (all:Array Oper) (o:Oper):List Nat:=Qg o.op.operands++(match o.guard with
 | some (j,_)=>match fE all j with
  | some t=>[t]
  | none=>[]
 | none=>[])
def jv:List Oper->List (List Nat)->List (List Nat)
 | [],acc=>acc
 | o::r,acc=>jv r (acc++[(o.after.toList.map λe=>cond (Region.binds .any e) (e.on::acc.getD e.on []) []).flatten])
def meets (a b:List Nat):Bool:=a.any (b.contains ·)
def apart (x y:Did):Bool:=
 !(match x.dst with | some t=>y.reads.contains t||y.dst==some t | none=>false) &&
 (!(match y.dst with | some t=>x.reads.contains t | none=>false) &&
 ((!(meets x.writes y.touch||(meets x.writes y.writes||meets x.touch y.writes))) &&
 ((x.tails.all λn=>!y.writes.contains n||y.heads.contains n)&&(y.tails.all λn=>!x.writes.contains n||x.heads.contains n))))
def lY (clo:List (List Nat)):Nat->List Did->Nat->List Did->Bool
 | _,_,_,[]=>true
 | i,pre,j,y::r=>(pre.zipIdx.all λ(x,i)=>(clo.getD j []).contains i||apart x y)&&lY clo i (pre++[y]) (j+1) r
def oG:Nat->List Oper->Bool
 | _,[]=>true
 | i,o::r=>(o.after.toList.all λe=>!Region.binds .any e||decide (e.on<i))&&oG (i+1) r
def JJ:List Oper->List Nat->List Nat
 | [],acc=>acc
 | o::r,acc=>JJ r (acc++[o.after.toList.foldl (λm e=>cond (Region.binds .any e) (m ||| (1 <<< e.on ||| acc.getD e.on 0)) m) 0])
def xa (clo:List Nat):Nat->List Did->Nat->List Did->Bool
 | _,_,_,[]=>true
 | i,pre,j,y::r=>(pre.zipIdx.all λ(x,i)=>(clo.getD j 0).testBit i||apart x y)&&xa clo i (pre++[y]) (j+1) r
def ED (F:List V) (M:aL) (o:Op):Option Nat:=match o with
 | .load _ x=>match ev F x with
  | .ptr n p=>match aq M n with
   | some ⟨_,_,.cells _⟩=>match p with
    | _+1=>some n
    | 0=>none
   | _=>none
  | _=>none
 | _=>none
def nn (cx:Cx) (F:List V) (M:aL) (o:Op):List Nat:=match o with
 | .call c=>match c.callee with
  | .value f=>match ev F f,c.args.toList.map (ev F)with
   | .fn g _,.ptr n o::_=>cond (Nat.ble g 999999&&(nZ cx g==1&&(o==0&&decide (n<M.length)))) [n] []
   | _,_=>[]
  | _=>[]
 | _=>[]
def Ak (cx:Cx) (F:List V) (M:aL) (all:Array Oper) (o:Oper) (U:Upd) (T:List Nat):Did:=match ED F M o.op with
 | some n=>⟨o.dst,Oper.reads all o,U.map (·.1),[],[n],[]⟩
 | none=>⟨o.dst,Oper.reads all o,U.map (·.1),T,[],nn cx F M o.op⟩
def uR (cx:Cx) (base:Nat) (all:Array Oper):List Oper->St->List Did->(St->Bool)->Bool
 | [],s,tr,k=>(xa (JJ all.toList []) 0 [] 0 tr&&oG 0 all.toList)&&k s
 | o::r,s,tr,k=>match o.guard with
  | none=>opV cx base s.F s.M o.op λv U T=>uR cx base all r ⟨kS s.F o.dst v,nj s.M U⟩ (tr++[Ak cx s.F s.M all o U T]) k
  | some (j,want)=>match fE all j with
   | some t=>match s.F.getD t .any with
    | .bool b=>cond (b==want)
      (opV cx base (s.F.set t (.bool want)) s.M o.op λv U T=>uR cx base all r ⟨kS (s.F.set t (.bool want)) o.dst v,nj s.M U⟩ (tr++[Ak cx (s.F.set t (.bool want)) s.M all o U T]) k)
      (uR cx base all r ⟨kS (s.F.set t (.bool (!want))) o.dst .any,s.M⟩ (tr++[⟨o.dst,Oper.reads all o,[],[],[],[]⟩]) k)
    | _=>false
   | none=>false
structure K where
 nrm:St->Bool
 ext:Nat->St->Bool
 ret:St->Bool
structure Nrm where
 keep:List Nat
 virt:List (Nat × Option Nat × Nat)
 den:List (Nat × Nat × Option IntKind)
 frz:List Nat:=[]
structure Ann where
 head:Nrm
 exits:List (Nat × Nrm)
 ret:Option Nrm
 hook:Option (St->K->Bool)
def vE (e:Nat):Nat:=e / 2
def Kg (P:Program) (e:Nat):Option Body:=match e%2 with
 | 0=>xK P (e / 2)
 | _=>Fv P (e / 2)
def ij (P:Program):List (Nat × Option Nat × Nat)->St->St
 | [],s=>s
 | (t,none,e)::r,s=>match s.F.getD t .any,iP P (vE e),Kg P e with
  | .nil,some sz,some b=>ij P r ⟨s.F.set t (.slw s.M.length),s.M++[some ⟨vE e,sz,b⟩]⟩
  | _,_,_=>ij P r s
 | (t,some i,e)::r,s=>match s.F.getD t .any,iP P (vE e),Kg P e with
  | .ptr n o,some sz,some z=>match aq s.M n with
   | some ⟨e0,s0,.cells cs⟩=>match cs[o+i]? with
    | some .nil=>ij P r ⟨s.F,s.M.set n (some ⟨e0,s0,.cells (cs.set (o+i) (.slw s.M.length))⟩)++[some ⟨vE e,sz,z⟩]⟩
    | _=>ij P r s
   | _=>ij P r s
  | .slw n,_,_=>match aq s.M n with
   | some b=>cond (b.sz==1) (ij P r ⟨s.F.set t (.sl n 0 b.c.size),s.M⟩) (ij P r s)
   | none=>ij P r s
  | _,_,_=>ij P r s
def Iw:Option IntKind->V
 | some k=>.roi k []
 | none=>.rof []
def Dz:List (Nat × Nat × Option IntKind)->aL->aL
 | [],M=>M
 | (n,i,k)::r,M=>match aq M n with
  | some ⟨e,s,.cells cs⟩=>match cs[i]? with
   | some .nil=>Dz r (M.set n (some ⟨e,s,.cells (cs.set i (Iw k))⟩))
   | _=>Dz r M
  | _=>Dz r M
def uU (keep:List Nat) (f:Nat->Option Nat):Nat->List V->List V
 | _,[]=>[]
 | i,v::r=>cond (keep.contains i) (v.ren f) .any::uU keep f (i+1) r
def AQ (keep:List Nat):Nat->List V->List Nat
 | _,[]=>[]
 | i,v::r=>cond (keep.contains i) v.refs []++AQ keep (i+1) r
def renum (base:Nat) (L:List Nat):Nat->Option Nat:=λn=>cond (decide (n<base)) (some n) ((lz L n).map (base + ·))
def h_ (base:Nat) (L:List Nat) (M:aL):aL:=
 (M.take base).map (·.map (Blk.ren (renum base L)))++L.map λn=>(aq M n).map (Blk.ren (renum base L))
def kH (base:Nat) (M:aL) (roots:List Nat):List Nat:=
 (Da M 3 (Jn (roots++((M.take base).map λb=>match b with
  | some b=>b.c.refs
  | none=>[]).flatten))).filter λn=>decide (base<=n)
mutual
def V.cold (g:Nat->Option V):V->V
 | .slw n=>match g n with
  | some v=>v
  | none=>.slw n
 | .sl n o l=>match g n with
  | some _=>.any
  | none=>.sl n o l
 | .ptr n o=>match g n with
  | some _=>.any
  | none=>.ptr n o
 | .opt n e o=>match g n with
  | some _=>.any
  | none=>.opt n e o
 | .agg cs=>.agg (oD g cs)
 | .tup cs=>.tup (oD g cs)
 | v=>v
def oD (g:Nat->Option V):List V->List V
 | []=>[]
 | v::r=>V.cold g v::oD g r
end
def Body.cold (g:Nat->Option V):Body->Body
 | .cells cs=>.cells (oD g cs)
 | b=>b
def rA (g:Nat->Option V):Nat->aL->aL
 | _,[]=>[]
 | n,b::r=>(match g n with
  | some _=>none
  | none=>b.map λb=>{ b with c:=b.c.cold g })::rA g (n+1) r
def NX (base:Nat) (M:aL) (L:List Nat) (n:Nat):Option V:=cond (L.contains n&&decide (base<=n)) (jS M 1 (.slw n)) none
def Fa (base:Nat):List Nat->St->St
 | [],s=>s
 | ts,s=>let g:=NX base s.M (Da s.M 2 ((ts.map λt=>(s.F.getD t .any).refs).flatten))
  ⟨oD g s.F,rA g 0 s.M⟩
def sS (P:Program) (base:Nat):Option Nrm->St->St
 | none,s=>s
 | some a,s=>
  let s:=ij P a.virt (Fa base a.frz s)
  let L:=kH base s.M (AQ a.keep 0 s.F)
  cond (kI L) ⟨uU a.keep (renum base L) 0 s.F,Dz a.den (h_ base L s.M)⟩ s
def zy:Nat->(St->(St->Bool)->Bool)->St->Bool
 | 0,_,_=>false
 | n+1,step,s=>step s (zy n step)
def vJ:Option Ann->Option Nrm
 | some a=>some a.head
 | none=>none
def Og:Option Ann->Nat->Option Nrm
 | some a,i=>a.exits.lookup i
 | none,_=>none
def SQ:Option Ann->Option Nrm
 | some a=>a.ret
 | none=>none
def xP:Option Ann->Option (St->K->Bool)
 | some a=>a.hook
 | none=>none
def tc (P:Program) (base:Nat) (a:Option Ann) (κ:K) (k:St->Bool):K:=
 ⟨λs=>k (sS P base (vJ a) s),λi s=>κ.ext i (sS P base (Og a i) s),λs=>κ.ret (sS P base (SQ a) s)⟩
def cS (cx:Cx) (base:Nat) (an:Nat->Option Ann):Code->Nat->St->K->Bool
 | .skip,_,s,κ=>κ.nrm s
 | .region _ ops false,_,s,κ=>Gs cx base ops ops.toList s κ.nrm
 | .region _ ops true,_,s,κ=>cx.P.follows .mixedOrders&&uR cx base ops ops.toList s [] κ.nrm
 | .seq a b,bid,s,κ=>cS cx base an a bid s { κ with nrm:=λs'=>cS cx base an b bid s' κ }
 | .cond (.tmp t) a b,bid,s,κ=>match s.F.getD t .any with
  | .bool c=>cond c (cS cx base an a bid ⟨s.F.set t (.bool true),s.M⟩ κ) (cS cx base an b bid ⟨s.F.set t (.bool false),s.M⟩ κ)
  | _=>false
 | .cond (.const (.bool c)) a b,bid,s,κ=>cond c (cS cx base an a bid s κ) (cS cx base an b bid s κ)
 | .block id b,_,s,κ=>cS cx base an b id s { κ with ext:=λi s'=>cond (i==id) (κ.nrm s') (κ.ext i s') }
 | .loop b,bid,s,κ=>match xP (an bid)with
  | some hk=>hk (sS cx.P base (vJ (an bid)) s) κ
  | none=>zy cx.N (λs k=>cS cx base an b bid s (tc cx.P base (an bid) κ k)) (sS cx.P base (vJ (an bid)) s)
 | .exit id,_,s,κ=>κ.ext id s
 | .ret,_,s,κ=>κ.ret s
 | .scope b,bid,s,κ=>cS cx base an b bid s κ
 | .label _,_,s,κ=>κ.nrm s
 | _,_,_,_=>false
def gP (cx:Cx) (base:Nat) (an:Nat->Option Ann):Code->Nat->Prop
 | .seq a b,bid=>gP cx base an a bid/\gP cx base an b bid
 | .cond _ a b,bid=>gP cx base an a bid/\gP cx base an b bid
 | .block id b,_=>gP cx base an b id
 | .scope b,bid=>gP cx base an b bid
 | .loop b,bid=>gP cx base an b bid /\ ∀ hk,xP (an bid)=some hk -> ∀ s κ,hk s κ=true->zy cx.N (λs k=>cS cx base an b bid s (tc cx.P base (an bid) κ k)) s=true
 | _,_=>True
def VZ (P:Program) (s:St) (r:ResultVar) (k:V->Bool):Bool:=
 match r with
 | .tmp t=>k (s.F.getD t .any)
 | .cell t ty=>match pp P ty,iP P ty,s.F.getD t .any with
  | some ag,some z,.ptr n p=>match aq s.M n with
   | some b=>cond ag (b.c.part p z λcs=>k (.agg cs)) (b.c.get p k)
   | none=>false
  | some ag,some z,.rp cs i=>cond ag (decide (i+z<=cs.length)&&k (.agg ((cs.drop i).take z))) (match cs[i]? with
   | some v=>k v
   | none=>false)
  | _,_,_=>false
def JU (P:Program) (s:St):List ResultVar->(List V->Bool)->Bool
 | [],k=>k []
 | r::rs,k=>VZ P s r λv=>JU P s rs λvs=>k (v::vs)
def tU:aL->Option (List Blk)
 | []=>some []
 | some b::r=>(tU r).map (b :: ·)
 | none::_=>none
def Fw (P:Program) (base:Nat) (rs:List ResultVar) (s:St) (k:V->List Blk->Bool):Bool:=
 JU P s rs λvs=>
  let L:=kH base s.M (mD vs)
  kI L&&match tU (h_ base L s.M)with
  | some H=>match ik (renum base L) vs with
   | [v]=>k v H
   | vs=>k (.tup vs) H
  | none=>false
def kh (cx:Cx) (an:Nat->Option Ann) (f:Nat) (args:List V) (H:List Blk) (k:V->List Blk->Bool):Bool:=
 match cx.P.funcs[f]? with
 | some fn=>match fn.body with
  | some c=>
   let fin:=λs=>Fw cx.P H.length fn.results.toList s k
   !(fn.name == "runtime.NumGoroutine")&&cS cx H.length an c 0 ⟨args++List.replicate (fn.ntmps - args.length) .any,H.map some⟩ ⟨fin,λ_ _=>false,fin⟩
  | none=>false
 | none=>false
structure Place where
 b:Nat
 len:Nat
 cap:Nat
 subs:List Nat
def Place.has (p:Place) (b:Nat):Prop:=p.b=b\/b ∈ p.subs
def hasB (p:Place) (c:Body) (b:Nat):Prop:=p.b=b \/ ∃ i,p.subs[i]? = some b/\i ∉ c.holes
theorem hasB.has {p:Place} {c:Body} {b:Nat} (h:hasB p c b):p.has b:=by
 rcases h with h | ⟨i,h,-⟩
 ·exact .inl h
 ·exact .inr (List.mem_of_getElem? h)
theorem Q0 {p:Place} {c:Body} {b:Nat} (hc:c.holes=[]) (h:p.has b):hasB p c b:=by
 rcases h with h | h
 ·exact .inl h
 ·obtain⟨i,hi⟩:=List.getElem?_of_mem h;exact .inr ⟨i,hi,by rw[hc]; simp⟩
theorem bY (p:Place) (c:Body):hasB p c p.b:=.inl rfl
abbrev Rho:=Nat->Option (Option Place)
def FRep:Fl->Value->Prop
 | some b,v=>v=.float .f64 b
 | none,v=>∃ b,v=.float .f64 b/\isNaN b=true
def FnV (g:Nat) (vs:List Value) (v:Value):Prop:=
 (g<1000000/\v=.func (.func g) #[] vs.toArray)\/(1000000<=g/\v=.func (.func (g - 1000000)) vs.toArray #[])
theorem FnV.cells {g:Nat} {vs:List Value} {v:Value} (h:FnV g vs v):v.oneCell'=true:=by rcases h with⟨_,rfl⟩ | ⟨_,rfl⟩ <;> rfl
inductive Rep (ok:Nat->Prop) (w:World) (ρ:Rho):V->Value->Prop
 | any (v:Value):Rep ok w ρ .any v
 | nil:Rep ok w ρ .nil (.slice none 0 0)
 | bool (b:Bool):Rep ok w ρ (.bool b) (.bool b)
 | int (k:IntKind) (n:Int):Rep ok w ρ (.int k n) (.int k n)
 | flt (x:Fl) (v:Value):FRep x v->Rep ok w ρ (.flt x) v
 | val (v:Value):Rep ok w ρ (.val v) v
 | fn (g:Nat) (caps:List V) (vs:List Value) (v:Value):caps.length=vs.length->(∀(i:Nat) c v,caps[i]? = some c->vs[i]? = some v->Rep ok w ρ c v)->FnV g vs v->Rep ok w ρ (.fn g caps) v
 | ptr (n o:Nat) (p:Place):ρ n=some (some p)->Rep ok w ρ (.ptr n o) (.pointer (some ⟨p.b,o,none⟩))
 | slw (n:Nat) (p:Place):ρ n=some (some p)->Rep ok w ρ (.slw n) (.slice (some ⟨p.b,0,none⟩) p.len p.cap)
 | slv (n:Nat):ρ n=some none->Rep ok w ρ (.slw n) (.slice none 0 0)
 | sl (n o len cap o':Nat) (p:Place):ρ n=some (some p)->len<=cap->(o'=o\/len=0)->(o=0->o'=0/\cap<=p.cap)->Rep ok w ρ (.sl n o len) (.slice (some ⟨p.b,o',none⟩) len cap)
 | slvp (n o:Nat):ρ n=some none->Rep ok w ρ (.sl n o 0) (.slice none 0 0)
 | rofn {a:Option Addr} {cap:Nat}:Rep ok w ρ (.rof []) (.slice a 0 cap)
 | rof (xs:List Fl) (b o cap:Nat) (g:Nat->Value):ok b->b<w.heap.size->xs.length<=cap->(∀ i,i<xs.length->w.cell? ⟨b,o+i,none⟩=some (g i))->(∀(i:Nat) x,xs[i]? = some x->FRep x (g i)) ->
   Rep ok w ρ (.rof xs) (.slice (some ⟨b,o,none⟩) xs.length cap)
 | roin (k:IntKind) {a:Option Addr} {cap:Nat}:Rep ok w ρ (.roi k []) (.slice a 0 cap)
 | roi (k:IntKind) (xs:List Int) (b o cap:Nat):ok b->b<w.heap.size->xs.length<=cap->(∀(i:Nat) x,xs[i]? = some x->w.cell? ⟨b,o+i,none⟩=some (.int k x)) ->
   Rep ok w ρ (.roi k xs) (.slice (some ⟨b,o,none⟩) xs.length cap)
 | ron (sz:Nat) {a:Option Addr} {cap:Nat}:Rep ok w ρ (.ro sz []) (.slice a 0 cap)
 | ro (sz:Nat) (cs:List V) (b o len cap:Nat) (g:Nat->Value):ok b->b<w.heap.size->len*sz=cs.length->len<=cap->(∀ i,i<cs.length->w.cell? ⟨b,o+i,none⟩=some (g i))->(∀ i,i<cs.length->(g i).oneCell'=true) ->
   (∀(i:Nat) c,cs[i]? = some c->Rep ok w ρ c (g i))->Rep ok w ρ (.ro sz cs) (.slice (some ⟨b,o,none⟩) len cap)
 | rl (t:RT) (xs:List t.Ty) (v:Value):Rep ok w ρ (.ro t.sz (t.flat xs)) v->Rep ok w ρ (.rl t xs) v
 | pf (xs:List Fl) (i b o:Nat) (v:Value):w.cell? ⟨b,o,none⟩=some v->FRep (xs.getD i none) v->ok b->b<w.heap.size->Rep ok w ρ (.pf xs i) (.pointer (some ⟨b,o,none⟩))
 | pi (k:IntKind) (xs:List Int) (i b o:Nat):w.cell? ⟨b,o,none⟩=some (.int k (xs.getD i 0))->ok b->b<w.heap.size->Rep ok w ρ (.pi k xs i) (.pointer (some ⟨b,o,none⟩))
 | rp (cs:List V) (i b o:Nat) (g:Nat->Value):ok b->b<w.heap.size->(∀ j,i+j<cs.length->w.cell? ⟨b,o+j,none⟩=some (g (i+j)))->(∀ j,j<cs.length->(g j).oneCell'=true) ->
   (∀(j:Nat) c,cs[j]? = some c->Rep ok w ρ c (g j))->Rep ok w ρ (.rp cs i) (.pointer (some ⟨b,o,none⟩))
 | opt (n e o b:Nat) (p:Place):ρ n=some (some p)->p.subs[e]? = some b->Rep ok w ρ (.opt n e o) (.pointer (some ⟨b,o,none⟩))
 | agg (cs:List V) (vs:List Value):cs.length=vs.length->(∀ v ∈ vs,v.oneCell'=true)->(∀(i:Nat) c v,cs[i]? = some c->vs[i]? = some v->Rep ok w ρ c v)->Rep ok w ρ (.agg cs) (.agg vs.toArray)
 | tup (cs:List V) (vs:List Value):cs.length=vs.length->(∀(i:Nat) c v,cs[i]? = some c->vs[i]? = some v->Rep ok w ρ c v)->Rep ok w ρ (.tup cs) (.tuple vs.toArray)
structure Keeps (ok:Nat->Prop) (w:World) (ρ:Rho) (ok':Nat->Prop) (w':World) (ρ':Rho):Prop where
 rho:∀ n q,ρ n=some q->ρ' n=some q
 blk:∀ b,b<w.heap.size->ok b->ok' b/\w'.heap[b]? = w.heap[b]?
 size:w.heap.size<=w'.heap.size
theorem Keeps.refl (ok:Nat->Prop) (w:World) (ρ:Rho):Keeps ok w ρ ok w ρ:=⟨λ_ _ h=>h,λ_ _ h=>⟨h,rfl⟩,afw _⟩
theorem Keeps.trans {ok ok' ok'':Nat->Prop} {w w' w'':World} {ρ ρ' ρ'':Rho} (h:Keeps ok w ρ ok' w' ρ') (k:Keeps ok' w' ρ' ok'' w'' ρ''):Keeps ok w ρ ok'' w'' ρ'':=
 ⟨λn q e=>k.rho n q (h.rho n q e),λb hb ho=>by obtain⟨h1,h2⟩:=h.blk b hb ho;obtain⟨k1,k2⟩:=k.blk b (afD hb h.size) h1;exact⟨k1,k2.trans h2⟩,afG h.size k.size⟩
theorem cell?_of {w w':World} {b o:Nat} {v:Value} (h:w'.heap[b]? = w.heap[b]?) (hc:w.cell? ⟨b,o,none⟩=some v):w'.cell? ⟨b,o,none⟩=some v:=by rw[<- hc]; simp only[World.cell?,h]
theorem Rep.mono {ok ok':Nat->Prop} {w w':World} {ρ ρ':Rho} (hk:Keeps ok w ρ ok' w' ρ') {x:V} {v:Value} (h:Rep ok w ρ x v):Rep ok' w' ρ' x v:=by
 induction h with
 | any v=>exact .any v
 | nil=>exact .nil
 | bool b=>exact .bool b
 | int k n=>exact .int k n
 | flt x v h=>exact .flt x v h
 | val v=>exact .val v
 | fn g caps vs v hl _ hv ih=>exact .fn g caps vs v hl ih hv
 | ptr n o p h=>exact .ptr n o p (hk.rho _ _ h)
 | slw n p h=>exact .slw n p (hk.rho _ _ h)
 | slv n h=>exact .slv n (hk.rho _ _ h)
 | sl n o len cap o' p h hl ho hc=>exact .sl n o len cap o' p (hk.rho _ _ h) hl ho hc
 | rl t xs v _ ih=>exact .rl t xs v ih
 | slvp n o h=>exact .slvp n o (hk.rho _ _ h)
 | rofn=>exact .rofn
 | rof xs b o cap g ho hb hcap hc hr=>exact .rof xs b o cap g (hk.blk b hb ho).1 (afD hb hk.size) hcap (λi hi=>cell?_of (hk.blk b hb ho).2 (hc i hi)) hr
 | roin k=>exact .roin k
 | roi k xs b o cap ho hb hcap hc=>exact .roi k xs b o cap (hk.blk b hb ho).1 (afD hb hk.size) hcap (λi x hi=>cell?_of (hk.blk b hb ho).2 (hc i x hi))
 | ron sz=>exact .ron sz
 | ro sz cs b o len cap g ho hb hl hcap hc h1 _ ih=>exact .ro sz cs b o len cap g (hk.blk b hb ho).1 (afD hb hk.size) hl hcap (λi hi=>cell?_of (hk.blk b hb ho).2 (hc i hi)) h1 ih
 | pf xs i b o v hc hf ho hb=>exact .pf xs i b o v (cell?_of (hk.blk b hb ho).2 hc) hf (hk.blk b hb ho).1 (afD hb hk.size)
 | pi k xs i b o hc ho hb=>exact .pi k xs i b o (cell?_of (hk.blk b hb ho).2 hc) (hk.blk b hb ho).1 (afD hb hk.size)
 | rp cs i b o g ho hb hc h1 _ ih=>exact .rp cs i b o g (hk.blk b hb ho).1 (afD hb hk.size) (λj hj=>cell?_of (hk.blk b hb ho).2 (hc j hj)) h1 ih
 | opt n e o b p h he=>exact .opt n e o b p (hk.rho _ _ h) he
 | agg cs vs hl h1 _ ih=>exact .agg cs vs hl h1 ih
 | tup cs vs hl _ ih=>exact .tup cs vs hl ih
def Body.at:Body->Nat->Option V
 | .flts xs,i=>(xs[i]?).map .flt
 | .ints k xs,i=>(xs[i]?).map (.int k)
 | .cells cs,i=>cs[i]?
 | .recs t xs,i=>(t.flat xs)[i]?
 | .own _ _ xs _,i=>(xs[i]?).map λ_=>.any
theorem RT.cells_length:∀(t:RT) (x:t.Ty),(t.cells x).length=t.sz
 | .flt,_ | .int _,_ | .bool,_ | .fls,_ | .ints _,_ | .rows _,_ | .ptr _,_=>rfl
 | .pair a b,p=>by simp[RT.cells,RT.sz,RT.cells_length a p.1,RT.cells_length b p.2]
theorem RT.flat_length (t:RT) (xs:List t.Ty):(t.flat xs).length=xs.length*t.sz:=by
 unfold RT.flat;induction xs with
 | nil=>simp
 | cons x r ih=>simp only[agl,ahl,agy,ih,t.cells_length,afW,afM,agQ]; omega
theorem RT.flat_append (t:RT) (xs ys:List t.Ty):t.flat (xs++ys)=t.flat xs++t.flat ys:=by simp[RT.flat]
theorem RT.sz_pos:∀ t:RT,0<t.sz
 | .flt | .int _ | .bool | .fls | .ints _ | .rows _ | .ptr _=>Nat.one_pos
 | .pair a b=>by have:=RT.sz_pos a; simp only[RT.sz]; omega
theorem RT.flat_get (t:RT):∀(xs:List t.Ty) (i j:Nat),j<t.sz->(t.flat xs)[i*t.sz+j]? = (xs[i]?).bind λx=>(t.cells x)[j]?
 | [],i,j,_=>by simp[RT.flat]
 | x::r,0,j,h=>by
  show(t.cells x++t.flat r)[0*t.sz+j]? = _;rw[agE,afL,List.getElem?_append_left (by rw[t.cells_length]; exact h)];simp
 | x::r,i+1,j,h=>by show(t.cells x++t.flat r)[(i+1)*t.sz+j]? = _;rw[afM,agQ,List.getElem?_append_right (by rw[t.cells_length]; omega),t.cells_length,show i*t.sz+t.sz+j - t.sz=i*t.sz+j by omega,RT.flat_get t r i j h];simp
theorem RT.flat_get1 (t:RT) (h:t.sz=1) (xs:List t.Ty) (i:Nat):(t.flat xs)[i]? = (xs[i]?).bind λx=>(t.cells x)[0]?:=by
 have:=t.flat_get xs i 0 (by omega)
 rwa [h,ag9,afR]at this
theorem aQ (i s:Nat):cY i s=i*s:=by unfold cY; split <;> simp
theorem Body.at_lt {c:Body} {i:Nat} {x:V} (h:c.at i=some x):i<c.size:=by
 cases c <;> simp only[Body.at,Body.size,afQ]at h ⊢
 ·obtain⟨y,hy,_⟩:=h; exact(List.getElem?_eq_some_iff.1 hy).1
 ·obtain⟨y,hy,_⟩:=h; exact(List.getElem?_eq_some_iff.1 hy).1
 ·exact(List.getElem?_eq_some_iff.1 h).1
 ·rename_i t xs; rw[aQ,<- t.flat_length]; exact(List.getElem?_eq_some_iff.1 h).1
 ·obtain⟨y,hy,_⟩:=h; exact(List.getElem?_eq_some_iff.1 hy).1
theorem Body.at_some {c:Body} {i:Nat} (h:i<c.size):∃ x,c.at i=some x:=by
 cases c <;> simp only[Body.at,Body.size]at h ⊢
 ·simp[h]
 ·simp[h]
 ·simp[h]
 ·rename_i t xs; rw[aQ,<- t.flat_length]at h; simp[h]
 ·simp[h]
def BodyRep (ok:Nat->Prop) (w:World) (ρ:Rho) (c:Body) (cur:Array Value):Prop:=
 ∀ i x,c.at i=some x -> ∃ v,cur[i]? = some v/\v.oneCell'=true/\Rep ok w ρ x v
theorem BodyRep.mono {ok ok':Nat->Prop} {w w':World} {ρ ρ':Rho} (hk:Keeps ok w ρ ok' w' ρ') {c:Body} {cur:Array Value} (h:BodyRep ok w ρ c cur):BodyRep ok' w' ρ' c cur:=
 λi x hx=>let ⟨v,h1,h2,h3⟩:=h i x hx; ⟨v,h1,h2,h3.mono hk⟩
def SubsAt (ok:Nat->Prop) (w:World) (ρ:Rho) (p:Place) (c:Body) (cur:Array Value):Prop:=match c with
 | .own t a xs hs=>p.subs.length=xs.length/\p.b ∉ p.subs/\p.subs.Nodup /\ ∀(i:Nat) x,xs[i]? = some x -> ∃ b,p.subs[i]? = some b/\cur[i]? = some (.pointer (some ⟨b,0,none⟩)) /\
   (i ∉ hs -> ∃ cur',w.heap[b]? = some (.cells cur' t (0,0))/\a.sz<=cur'.size/\BodyRep ok w ρ (.cells (a.cells x)) cur')
 | _=>p.subs=[]
theorem SubsAt.plain {ok:Nat->Prop} {w:World} {ρ:Rho} {p:Place} {c:Body} {cur:Array Value} (h:c.isOwn=false):SubsAt ok w ρ p c cur↔p.subs=[]:=by cases c <;> simp_all [SubsAt,Body.isOwn]
theorem SubsAt.of {ok ok':Nat->Prop} {w w':World} {ρ ρ':Rho} {p:Place} {c:Body} {cur:Array Value} (hk:Keeps ok w ρ ok' w' ρ') (hh:∀ b,hasB p c b->w'.heap[b]? = w.heap[b]?) (h:SubsAt ok w ρ p c cur):SubsAt ok' w' ρ' p c cur:=by
 cases hc:c.isOwn with
 | false=>exact(SubsAt.plain hc).2 ((SubsAt.plain hc).1 h)
 | true=>
  cases c with
  | own t a xs hs=>
   obtain⟨h1,h2,h3,h4⟩:=h;refine⟨h1,h2,h3,λi x hx=>?_⟩;obtain⟨b,b1,b2,b3⟩:=h4 i x hx;refine⟨b,b1,b2,λhi=>?_⟩;obtain⟨cur',c1,c2,c3⟩:=b3 hi;exact⟨cur',(hh b (.inr ⟨i,b1,hi⟩)).trans c1,c2,c3.mono hk⟩
  | _=>cases hc
def BlkAt (ok:Nat->Prop) (w:World) (ρ:Rho) (q:Option Place) (blk:Blk):Prop:=match q with
 | none=>blk.c.size=0
 | some p=>∃ cur,w.heap[p.b]? = some (.cells cur blk.e (0,0))/\p.cap*blk.sz<=cur.size/\p.len*blk.sz=blk.c.size/\p.len<=p.cap/\p.cap<=maxLen/\BodyRep ok w ρ blk.c cur/\SubsAt ok w ρ p blk.c cur
theorem BlkAt.of {ok ok':Nat->Prop} {w w':World} {ρ ρ':Rho} {q:Option Place} {blk:Blk} (h:BlkAt ok w ρ q blk) (hk:Keeps ok w ρ ok' w' ρ') (hh:∀ p b,q=some p->hasB p blk.c b->w'.heap[b]? = w.heap[b]?):BlkAt ok' w' ρ' q blk:=by
 cases q with
 | none=>exact h
 | some p=>
  obtain⟨cur,g1,g2,g3,g4,g5,g6,g7⟩:=h;exact⟨cur,(hh p _ rfl (bY _ _)).trans g1,g2,g3,g4,g5,g6.mono hk,g7.of hk λb hb=>hh p b rfl hb⟩
theorem xO {p:Place} {b:Nat} (hs:p.subs=[]):p.has b↔p.b=b:=by
 refine⟨λh=>?_,.inl⟩;rcases h with h | h
 ·exact h
 ·rw[hs]at h; simp at h
abbrev LK:=Nat->Option Blk
structure Gh where
 B:Nat
 base:Nat
 w0:World
 ok0:Nat->Prop
 ex:Nat->Prop
 ds:List Deferred:=[]
 dt:Option Nat:=none
 dv:Value:=undef
def NC (G:Gh) (d:Option Nat):Prop:=∀ t,G.dt=some t->d ≠ some t
def z7 (G:Gh) (l:List Oper):Prop:=∀ o,o ∈ l->NC G o.dst
def lQ (t:Nat):Code->Bool
 | .region _ ops _=>ops.toList.all λo=>!(o.dst==some t)
 | .seq a b=>lQ t a&&lQ t b
 | .cond _ a b=>lQ t a&&lQ t b
 | .block _ b=>lQ t b
 | .scope b=>lQ t b
 | .loop b=>lQ t b
 | _=>true
def SpareC (G:Gh) (c:Code):Prop:=∀ t,G.dt=some t->lQ t c=true
theorem SpareC.region {G:Gh} {id:Nat} {ops:Array Oper} {b:Bool} (h:SpareC G (.region id ops b)):z7 G ops.toList:=by intro o ho t ht;have:=List.all_eq_true.1 (h t ht) o ho;simpa using this
theorem SpareC.seq {G:Gh} {a b:Code} (h:SpareC G (.seq a b)):SpareC G a/\SpareC G b:=
 ⟨λt ht=>by have:=h t ht; simp only[lQ,afK]at this; exact this.1,λt ht=>by have:=h t ht; simp only[lQ,afK]at this; exact this.2⟩
theorem SpareC.cond {G:Gh} {x:Operand} {a b:Code} (h:SpareC G (.cond x a b)):SpareC G a/\SpareC G b:=
 ⟨λt ht=>by have:=h t ht; simp only[lQ,afK]at this; exact this.1,λt ht=>by have:=h t ht; simp only[lQ,afK]at this; exact this.2⟩
theorem SpareC.block {G:Gh} {i:Nat} {b:Code} (h:SpareC G (.block i b)):SpareC G b:=h
theorem SpareC.scope {G:Gh} {b:Code} (h:SpareC G (.scope b)):SpareC G b:=h
theorem SpareC.loop {G:Gh} {b:Code} (h:SpareC G (.loop b)):SpareC G b:=h
theorem SpareC.none {G:Gh} {c:Code} (h:G.dt=none):SpareC G c:=λt ht=>by rw[h]at ht; cases ht
def okc (G:Gh) (ρ:Rho) (L:LK) (b:Nat):Prop:=(G.ok0 b\/G.B<=b) /\ ∀ n blk p,L n=some blk->ρ n=some (some p)->¬ hasB p blk.c b
def TabAt (w:World) (b:Nat) (zs:List Int):Prop:=b<w.heap.size /\ ∀ i,i<zs.length->w.cell? ⟨b,i,none⟩=some (.int .u8 (zs.getD i 0))
theorem TabAt.of {w w':World} {b:Nat} {zs:List Int} (h:TabAt w b zs) (hh:w'.heap[b]? = w.heap[b]?):TabAt w' b zs:=by refine⟨?_,λi hi=>cell?_of hh (h.2 i hi)⟩;have h1:=h.1;rw[Array.getElem?_eq_getElem h1]at hh;exact(Array.getElem?_eq_some_iff.1 hh).1
structure SimW (G:Gh) (w:World) (ρ:Rho) (L:LK):Prop where
 blks:∀ n blk,L n=some blk -> ∃ q,ρ n=some q/\BlkAt (okc G ρ L) w ρ q blk
 inj:∀ n m bn bm p q,L n=some bn->L m=some bm->ρ n=some (some p)->ρ m=some (some q) -> ∀ b,hasB p bn.c b->hasB q bm.c b->n=m
 own:∀ n p,G.base<=n->ρ n=some (some p) -> ∀ b,p.has b->G.B<=b\/G.ex b
 size:G.B<=w.heap.size
 os:w.os=G.w0.os
 tape:w.tape=G.w0.tape
 output:w.output=G.w0.output
 old:∀ b,b<G.B->¬ G.ex b->(∀ n p,n<G.base->ρ n=some (some p)->¬ p.has b)->w.heap[b]? = G.w0.heap[b]?
 tab:∀ b zs,zI b=some zs->G.ok0 b/\TabAt w b zs
 high:∀ n p,ρ n=some (some p) -> ∀ b,p.has b->zI b=none
theorem SimW.tabs {G:Gh} {w w':World} {ρ:Rho} {L:LK} (h:SimW G w ρ L) (hb:∀ b zs,zI b=some zs->w'.heap[b]? = w.heap[b]?):∀ b zs,zI b=some zs->G.ok0 b/\TabAt w' b zs:=
 λb zs e=>⟨(h.tab b zs e).1,(h.tab b zs e).2.of (hb b zs e)⟩
theorem SimW.apart {G:Gh} {w:World} {ρ:Rho} {L:LK} (h:SimW G w ρ L) {n:Nat} {p:Place} (hp:ρ n=some (some p)) {b:Nat} {zs:List Int} (e:zI b=some zs):b ≠ p.b:=by intro he;have:=h.high n p hp p.b (.inl rfl);rw[<- he,e]at this; cases this
theorem SimW.apartB {G:Gh} {w:World} {ρ:Rho} {L:LK} (h:SimW G w ρ L) {n:Nat} {p:Place} (hp:ρ n=some (some p)) {b:Nat} {zs:List Int} (e:zI b=some zs):¬ p.has b:=by intro he;have:=h.high n p hp b he;rw[e]at this; cases this
def aI (L:LK) (n:Nat) (b:Option Blk):LK:=λm=>if m=n then b else L m
def aK (ρ:Rho) (n:Nat) (q:Option Place):Rho:=λm=>if m=n then some q else ρ m
theorem SimW.ltB {G:Gh} {w:World} {ρ:Rho} {L:LK} (h:SimW G w ρ L) {n:Nat} {blk:Blk} {p:Place} (hL:L n=some blk) (hp:ρ n=some (some p)) {b:Nat} (hb:hasB p blk.c b):b<w.heap.size:=by
 obtain⟨q,hq,hbb⟩:=h.blks n blk hL;rw[hp]at hq; cases hq;obtain⟨cur,hc,-,-,-,-,-,hs⟩:=hbb;rcases hb with rfl | ⟨i,hi,hn⟩
 ·exact(Array.getElem?_eq_some_iff.1 hc).1
 ·cases ho:blk.c.isOwn with
  | false=>rw[(SubsAt.plain ho).1 hs]at hi; simp at hi
  | true=>
   obtain⟨e,sz,c⟩:=blk;cases c with
   | own t a xs hss=>
    obtain⟨h1,h2,h3,h4⟩:=hs;have hil:i<xs.length:=by rw[<- h1]; exact(List.getElem?_eq_some_iff.1 hi).1
    obtain⟨b',b1,-,b3⟩:=h4 i xs[i] (List.getElem?_eq_getElem hil);rw[hi]at b1; cases b1;obtain⟨cur',c1,-,-⟩:=b3 hn;exact(Array.getElem?_eq_some_iff.1 c1).1
   | _=>cases ho
theorem SimW.lt {G:Gh} {w:World} {ρ:Rho} {L:LK} (h:SimW G w ρ L) {n:Nat} {blk:Blk} {p:Place} (hL:L n=some blk) (hp:ρ n=some (some p)):p.b<w.heap.size:=h.ltB hL hp (bY _ _)
theorem SimW.subs {G:Gh} {w:World} {ρ:Rho} {L:LK} (h:SimW G w ρ L) {n:Nat} {blk:Blk} {p:Place} (hL:L n=some blk) (hp:ρ n=some (some p)) (ho:blk.c.isOwn=false):p.subs=[]:=by obtain⟨q,hq,hbb⟩:=h.blks n blk hL;rw[hp]at hq; cases hq;obtain⟨cur,-,-,-,-,-,-,hs⟩:=hbb;exact(SubsAt.plain ho).1 hs
theorem SimW.drew {G:Gh} {w:World} {ρ:Rho} {L:LK} (h:SimW G w ρ L):SimW G w.drew ρ L/\Keeps (okc G ρ L) w ρ (okc G ρ L) w.drew ρ:=by
 have hk:Keeps (okc G ρ L) w ρ (okc G ρ L) w.drew ρ:=⟨λ_ _ h=>h,λ_ _ h=>⟨h,rfl⟩,afw _⟩
 refine⟨⟨?_,h.inj,h.own,h.size,h.os,h.tape,h.output,h.old,h.tab,h.high⟩,hk⟩;intro n blk hn;obtain⟨q,hq,hb⟩:=h.blks n blk hn;exact⟨q,hq,hb.of hk λ_ _ _ _=>rfl⟩
theorem SimW.same {G:Gh} {w w':World} {ρ:Rho} {L:LK} (h:SimW G w ρ L) (hb:∀ b,b<w.heap.size->w'.heap[b]? = w.heap[b]?) (hs:w.heap.size<=w'.heap.size)
  (h1:w'.os=w.os) (h2:w'.tape=w.tape) (h3:w'.output=w.output):SimW G w' ρ L/\Keeps (okc G ρ L) w ρ (okc G ρ L) w' ρ:=by
 have hk:Keeps (okc G ρ L) w ρ (okc G ρ L) w' ρ:=⟨λ_ _ h=>h,λb hlt h=>⟨h,hb b hlt⟩,hs⟩
 refine⟨⟨?_,h.inj,h.own,afG h.size hs,h1.trans h.os,h2.trans h.tape,h3.trans h.output,?_,h.tabs λb zs e=>hb b (h.tab b zs e).2.1,h.high⟩,hk⟩
 ·intro n blk hn;obtain⟨q,hq,hbb⟩:=h.blks n blk hn;exact⟨q,hq,hbb.of hk λp b hp hh=>hb b (h.ltB hn (by rw[hq,hp]) hh)⟩
 ·intro b hlt hex hno;exact(hb b (afD hlt h.size)).trans (h.old b hlt hex hno)
theorem SimW.alloc {G:Gh} {w:World} {ρ:Rho} {L:LK} (h:SimW G w ρ L) (nm:Nat) (hnm:ρ nm=none) (hbase:G.base<=nm) (blk:Blk) (cur:Array Value) (len cap:Nat) (ho:blk.c.isOwn=false)
  (h1:cap*blk.sz<=cur.size) (h2:len*blk.sz=blk.c.size) (h3:len<=cap) (h4:cap<=maxLen) (h5:BodyRep (okc G ρ L) w ρ blk.c cur) :
  SimW G (w.alloc (.cells cur blk.e (0,0))) (aK ρ nm (some ⟨w.heap.size,len,cap,[]⟩)) (aI L nm (some blk)) /\
  Keeps (okc G ρ L) w ρ (okc G (aK ρ nm (some ⟨w.heap.size,len,cap,[]⟩)) (aI L nm (some blk))) (w.alloc (.cells cur blk.e (0,0))) (aK ρ nm (some ⟨w.heap.size,len,cap,[]⟩)):=by
 have hLnm:L nm=none:=by
  cases e:L nm with
  | none=>rfl
  | some b=>obtain⟨q,hq,_⟩:=h.blks nm b e; rw[hnm]at hq; cases hq
 have hold:∀ b,b<w.heap.size->(w.alloc (.cells cur blk.e (0,0))).heap[b]? = w.heap[b]?:=λb hb=>heap_alloc_old _ _ hb
 have hnew:∀ b,Place.has ⟨w.heap.size,len,cap,[]⟩ b->w.heap.size=b:=λb hb=>(xO rfl).1 hb
 have hk:Keeps (okc G ρ L) w ρ (okc G (aK ρ nm (some ⟨w.heap.size,len,cap,[]⟩)) (aI L nm (some blk))) (w.alloc (.cells cur blk.e (0,0))) (aK ρ nm (some ⟨w.heap.size,len,cap,[]⟩)):=by
  refine⟨?_,?_,by simp⟩
  ·intro n q hq;unfold aK;by_cases e:n=nm
   ·subst e; rw[hnm]at hq; cases hq
   ·simp[e,hq]
  ·intro b hb ho;refine⟨⟨ho.1,?_⟩,hold b hb⟩;intro n bl p hn hp hh;unfold aI at hn; unfold aK at hp;by_cases e:n=nm
   ·subst e; simp at hp; subst hp; have:=hnew b hh.has; omega
   ·simp only[e,afS]at hn hp; exact ho.2 n bl p hn hp hh
 refine⟨⟨?_,?_,?_,?_,h.os,h.tape,h.output,?_,h.tabs λb zs e=>hold b (h.tab b zs e).2.1,?_⟩,hk⟩
 ·intro n bl hn;unfold aI at hn;by_cases e:n=nm
  ·subst e;simp only[agU,afN]at hn;subst hn;refine⟨some ⟨w.heap.size,len,cap,[]⟩,by simp[aK],?_⟩;exact⟨cur,heap_alloc_new _ _,h1,h2,h3,h4,h5.mono hk,(SubsAt.plain ho).2 rfl⟩
  ·simp only[e,afS]at hn;obtain⟨q,hq,hb⟩:=h.blks n bl hn;exact⟨q,by simp[aK,e,hq],hb.of hk λp b hp hh=>hold _ (h.ltB hn (by rw[hq,hp]) hh)⟩
 ·intro n m bn bm p q hn hm hp hq b hb1 hb2;unfold aI at hn hm; unfold aK at hp hq;by_cases en:n=nm <;> by_cases em:m=nm
  ·rw[en,em]
  ·simp only[en,em,agU,afS,afN]at hn hm hp hq;subst hp;have:=h.ltB hm hq hb2;have:=hnew b hb1.has; omega
  ·simp only[en,em,agU,afS,afN]at hn hm hp hq;subst hq;have:=h.ltB hn hp hb1;have:=hnew b hb2.has; omega
  ·simp only[en,em,afS]at hn hm hp hq;exact h.inj n m bn bm p q hn hm hp hq b hb1 hb2
 ·intro n p hn hp b hb;unfold aK at hp;by_cases e:n=nm
  ·simp only[e,agU,afN]at hp; subst hp; have:=hnew b hb; have:=h.size; left; omega
  ·simp only[e,afS]at hp; exact h.own n p hn hp b hb
 ·simp only[World.size_alloc]; exact Nat.le_succ_of_le h.size
 ·intro b hb hex hno;rw[hold b (afD hb h.size)];refine h.old b hb hex λn p hn hp=>hno n p hn ?_
  unfold aK;have:n ≠ nm:=by omega
  simp[this,hp]
 ·intro n p hp b hb;unfold aK at hp;by_cases e:n=nm
  ·simp only[e,agU,afN]at hp;subst hp;have:=hnew b hb; subst this;cases e':zI w.heap.size with
   | none=>rfl
   | some zs=>exact absurd (h.tab _ zs e').2.1 (Nat.lt_irrefl _)
  ·simp only[e,afS]at hp; exact h.high n p hp b hb
theorem JQ {G:Gh} {ρ:Rho} {L:LK} {n:Nat} {blk blk':Blk} (hn:L n=some blk) (hh:blk'.c.holes=blk.c.holes) {b:Nat} (h:okc G ρ L b):okc G ρ (aI L n (some blk')) b:=by
 refine⟨h.1,λm bl q hm hq hb=>?_⟩;unfold aI at hm;by_cases e:m=n
 ·subst e;simp only[agU,afN]at hm;subst hm;refine h.2 m blk q hn hq ?_;rcases hb with hb | ⟨i,hi,hx⟩
  ·exact .inl hb
  ·exact .inr ⟨i,hi,by rw[<- hh]; exact hx⟩
 ·simp only[e,afS]at hm;exact h.2 m bl q hm hq hb
theorem oK {c:Body} (h:c.isOwn=false):c.holes=[]:=by cases c <;> simp_all [Body.isOwn,Body.holes]
theorem SimW.write' {G:Gh} {w:World} {ρ:Rho} {L:LK} (h:SimW G w ρ L) (n:Nat) (blk:Blk) (p:Place) (hn:L n=some blk) (hp:ρ n=some (some p)) (b0:Nat) (hb0:hasB p blk.c b0) (cur':Array Value)
  (c':Body) (hho:c'.holes=blk.c.holes) (hat:Keeps (okc G ρ L) w ρ (okc G ρ (aI L n (some { blk with c:=c' }))) (w.setRow b0 cur') ρ->BlkAt (okc G ρ (aI L n (some { blk with c:=c' }))) (w.setRow b0 cur') ρ (some p) { blk with c:=c' }) :
  SimW G (w.setRow b0 cur') ρ (aI L n (some { blk with c:=c' }))/\Keeps (okc G ρ L) w ρ (okc G ρ (aI L n (some { blk with c:=c' }))) (w.setRow b0 cur') ρ:=by
 have hoth:∀ b,b ≠ b0->(w.setRow b0 cur').heap[b]? = w.heap[b]?:=λb hb=>setRow_other w b0 b cur' hb
 have hk:Keeps (okc G ρ L) w ρ (okc G ρ (aI L n (some { blk with c:=c' }))) (w.setRow b0 cur') ρ:=
  ⟨λ_ _ h=>h,λb _ ho=>⟨JQ hn hho ho,hoth b λe=>ho.2 n blk p hn hp (e ▸ hb0)⟩,by simp⟩
 have hsame:∀ m bl,aI L n (some { blk with c:=c' }) m=some bl -> ∃ bl',L m=some bl'/\bl.c.holes=bl'.c.holes:=by
  intro m bl hm;unfold aI at hm;by_cases e:m=n
  ·subst e; simp only[agU,afN]at hm; subst hm; exact⟨blk,hn,hho⟩
  ·simp only[e,afS]at hm; exact⟨bl,hm,rfl⟩
 refine⟨⟨?_,?_,h.own,by simpa using h.size,h.os,h.tape,h.output,?_,h.tabs λb zs e=>hoth b λhe=>?_,h.high⟩,hk⟩
 ·intro m bl hm;by_cases e:m=n
  ·subst e;simp only[aI,agU,afN]at hm;subst hm;exact⟨some p,hp,hat hk⟩
  ·have hm':=hm;simp only[aI,e,afS]at hm';obtain⟨q,hq,hb⟩:=h.blks m bl hm';refine⟨q,hq,hb.of hk λp' b hp' hh=>hoth _ λe'=>?_⟩;subst e';exact e (h.inj m n bl blk p' p hm' hn (by rw[hq,hp']) hp _ hh hb0)
 ·intro m m' bn bm q q' hm hm' hq hq' b hb1 hb2;obtain⟨b1,h1,e1⟩:=hsame m bn hm;obtain⟨b2,h2,e2⟩:=hsame m' bm hm';refine h.inj m m' b1 b2 q q' h1 h2 hq hq' b ?_ ?_
  ·rcases hb1 with hb | ⟨i,hi,hx⟩
   ·exact .inl hb
   ·exact .inr ⟨i,hi,by rw[<- e1]; exact hx⟩
  ·rcases hb2 with hb | ⟨i,hi,hx⟩
   ·exact .inl hb
   ·exact .inr ⟨i,hi,by rw[<- e2]; exact hx⟩
 ·intro b hb hex hno;by_cases e:b=b0
  ·subst e;by_cases hlt:n<G.base
   ·exact absurd hb0.has (hno n p hlt hp)
   ·rcases h.own n p (by omega) hp _ hb0.has with h1 | h1
    ·omega
    ·exact absurd h1 hex
  ·rw[hoth b e]; exact h.old b hb hex hno
 ·subst he;have:=h.high n p hp _ hb0.has;rw[e]at this; cases this
theorem SimW.write {G:Gh} {w:World} {ρ:Rho} {L:LK} (h:SimW G w ρ L) (n:Nat) (blk:Blk) (p:Place) (hn:L n=some blk) (hp:ρ n=some (some p)) (cur cur':Array Value) (hc:w.heap[p.b]? = some (.cells cur blk.e (0,0)))
  (c':Body) (ho:blk.c.isOwn=false) (ho':c'.isOwn=false) (hsz:cur'.size=cur.size) (hcs:c'.size=blk.c.size) (hr:BodyRep (okc G ρ L) w ρ c' cur') :
  SimW G (w.setRow p.b cur') ρ (aI L n (some { blk with c:=c' }))/\Keeps (okc G ρ L) w ρ (okc G ρ (aI L n (some { blk with c:=c' }))) (w.setRow p.b cur') ρ:=by
 refine h.write' n blk p hn hp p.b (bY _ _) cur' c' (by rw[oK ho,oK ho']) λhk=>?_
 obtain⟨q,hq,hb⟩:=h.blks n blk hn;rw[hp]at hq; cases hq;obtain⟨c2,g1,g2,g3,g4,g5,_,g7⟩:=hb;rw[hc]at g1; cases g1;exact⟨cur',setRow_heap w p.b cur cur' _ _ hc,hsz ▸ g2,g3.trans hcs.symm,g4,g5,hr.mono hk,(SubsAt.plain ho').2 ((SubsAt.plain ho).1 g7)⟩
theorem SimW.drop {G:Gh} {w:World} {ρ:Rho} {L:LK} (h:SimW G w ρ L) (n:Nat) :
  SimW G w ρ (aI L n none)/\Keeps (okc G ρ L) w ρ (okc G ρ (aI L n none)) w ρ:=by
 have hsub:∀ m bl,aI L n none m=some bl->L m=some bl:=by
  intro m bl hm; unfold aI at hm; by_cases e:m=n
  ·simp[e]at hm
  ·simpa [e]using hm
 have hk:Keeps (okc G ρ L) w ρ (okc G ρ (aI L n none)) w ρ:=
  ⟨λ_ _ h=>h,λb _ ho=>⟨⟨ho.1,λm bl q hm hq=>ho.2 m bl q (hsub m bl hm) hq⟩,rfl⟩,afw _⟩
 refine⟨⟨?_,?_,h.own,h.size,h.os,h.tape,h.output,h.old,h.tab,h.high⟩,hk⟩
 ·intro m bl hm;obtain⟨q,hq,hb⟩:=h.blks m bl (hsub m bl hm);exact⟨q,hq,hb.of hk λ_ _ _ _=>rfl⟩
 ·intro m m' bn bm q q' hm hm' hq hq' e;exact h.inj m m' bn bm q q' (hsub _ _ hm) (hsub _ _ hm') hq hq' e
theorem SimW.regrow {G:Gh} {w:World} {ρ:Rho} {L:LK} (h:SimW G w ρ L) (n nm:Nat) (hnm:ρ nm=none) (hbase:G.base<=n) (blk:Blk) (p:Place) (hn:L n=some blk) (hp:ρ n=some (some p)) (cur cur':Array Value)
  (hc:w.heap[p.b]? = some (.cells cur blk.e (0,0))) (c':Body) (hoc:c'.isOwn=false) (len:Nat) (hsz:cur'.size=cur.size) (hl:len*blk.sz=c'.size) (cp:Nat) (hcap:len<=cp) (hcp:cp<=p.cap) (hr:BodyRep (okc G ρ L) w ρ c' cur') :
  SimW G (w.setRow p.b cur') (aK ρ nm (some ⟨p.b,len,cp,[]⟩)) (aI (aI L n none) nm (some { blk with c:=c' })) /\
  Keeps (okc G ρ L) w ρ (okc G (aK ρ nm (some ⟨p.b,len,cp,[]⟩)) (aI (aI L n none) nm (some { blk with c:=c' }))) (w.setRow p.b cur') (aK ρ nm (some ⟨p.b,len,cp,[]⟩)):=by
 have hne:n ≠ nm:=by intro e; subst e; rw[hnm]at hp; cases hp
 have hoth:∀ b,b ≠ p.b->(w.setRow p.b cur').heap[b]? = w.heap[b]?:=λb hb=>setRow_other w p.b b cur' hb
 have hnew:∀ b,Place.has ⟨p.b,len,cp,[]⟩ b->p.b=b:=λb hb=>(xO (p:=⟨p.b,len,cp,[]⟩) rfl).1 hb
 have hL:∀ m bl,m ≠ nm->aI (aI L n none) nm (some { blk with c:=c' }) m=some bl->m ≠ n/\L m=some bl:=by
  intro m bl hm e;unfold aI at e;rw[if_neg hm]at e;by_cases e2:m=n
  ·rw[if_pos e2]at e; cases e
  ·rw[if_neg e2]at e; exact⟨e2,e⟩
 have hok:∀ b,okc G ρ L b->okc G (aK ρ nm (some ⟨p.b,len,cp,[]⟩)) (aI (aI L n none) nm (some { blk with c:=c' })) b:=by
  intro b ho;refine⟨ho.1,λm bl q hm hq hh=>?_⟩;by_cases e:m=nm
  ·subst e; simp[aK]at hq; subst hq;have:=hnew b hh.has; subst this;exact ho.2 n blk p hn hp (bY _ _)
  ·simp only[aK,e,afS]at hq;exact ho.2 m bl q (hL m bl e hm).2 hq hh
 have hk:Keeps (okc G ρ L) w ρ (okc G (aK ρ nm (some ⟨p.b,len,cp,[]⟩)) (aI (aI L n none) nm (some { blk with c:=c' }))) (w.setRow p.b cur') (aK ρ nm (some ⟨p.b,len,cp,[]⟩)):=by
  refine⟨?_,λb _ ho=>⟨hok b ho,hoth b λe=>ho.2 n blk p hn hp (e ▸ bY _ _)⟩,by simp⟩;intro m q hq;unfold aK;by_cases e:m=nm
  ·subst e; rw[hnm]at hq; cases hq
  ·simp[e,hq]
 obtain⟨cur0,g1,g2,g3,g4,g5,g6⟩:∃ cur,w.heap[p.b]? = some (.cells cur blk.e (0,0))/\p.cap*blk.sz<=cur.size/\p.len*blk.sz=blk.c.size/\p.len<=p.cap/\p.cap<=maxLen/\BodyRep (okc G ρ L) w ρ blk.c cur/\SubsAt (okc G ρ L) w ρ p blk.c cur:=by obtain⟨q,hq,hb⟩:=h.blks n blk hn;rw[hp]at hq; cases hq; exact hb
 rw[hc]at g1; cases g1;refine⟨⟨?_,?_,?_,by simpa using h.size,h.os,h.tape,h.output,?_,h.tabs λb zs e=>hoth b (h.apart hp e),?_⟩,hk⟩
 ·intro m bl hm;by_cases e:m=nm
  ·subst e;simp only[aI,agU,afN]at hm;subst hm;exact⟨some ⟨p.b,len,cp,[]⟩,by simp[aK],cur',setRow_heap w p.b cur cur' _ _ hc,afG (afm _ hcp) (hsz ▸ g2),hl,hcap,afG hcp g5,hr.mono hk,(SubsAt.plain hoc).2 rfl⟩
  ·obtain⟨e2,hLm⟩:=hL m bl e hm;obtain⟨q,hq,hb⟩:=h.blks m bl hLm;refine⟨q,by simp[aK,e,hq],hb.of hk λp' b hp' hh=>hoth _ λe'=>e2 ?_⟩;subst e';exact h.inj m n bl blk p' p hLm hn (by rw[hq,hp']) hp _ hh (bY _ _)
 ·intro m m' bn bm q q' hm hm' hq hq' b hb1 hb2;by_cases e1:m=nm <;> by_cases e2:m'=nm
  ·rw[e1,e2]
  ·subst e1;simp[aK]at hq; subst hq;simp only[aK,e2,afS]at hq';obtain⟨e3,hL'⟩:=hL m' bm e2 hm';have:=hnew b hb1.has; subst this;exact absurd (h.inj n m' blk bm p q' hn hL' hp hq' _ (bY _ _) hb2).symm e3
  ·subst e2;simp[aK]at hq'; subst hq';simp only[aK,e1,afS]at hq;obtain⟨e3,hL'⟩:=hL m bn e1 hm;have:=hnew b hb2.has; subst this;exact absurd (h.inj m n bn blk q p hL' hn hq hp _ hb1 (bY _ _)) e3
  ·simp only[aK,e1,e2,afS]at hq hq';exact h.inj m m' bn bm q q' (hL m bn e1 hm).2 (hL m' bm e2 hm').2 hq hq' b hb1 hb2
 ·intro m q hm hq b hb;by_cases e:m=nm
  ·subst e; simp[aK]at hq; subst hq;have:=hnew b hb; subst this;exact h.own n p hbase hp _ (.inl rfl)
  ·simp only[aK,e,afS]at hq; exact h.own m q hm hq b hb
 ·intro b hb hex hno;have hb':b ≠ p.b:=by
   intro e; subst e;rcases h.own n p hbase hp _ (.inl rfl)with h1 | h1
   ·omega
   ·exact hex h1
  rw[hoth b hb'];refine h.old b hb hex λm q hm hq=>hno m q hm ?_
  unfold aK;by_cases e:m=nm
  ·subst e; rw[hnm]at hq; cases hq
  ·simp[e,hq]
 ·intro m q hq b hb;by_cases e:m=nm
  ·subst e; simp[aK]at hq; subst hq;have:=hnew b hb; subst this;exact h.high n p hp _ (.inl rfl)
  ·simp only[aK,e,afS]at hq; exact h.high m q hq b hb
theorem SimW.virt {G:Gh} {w:World} {ρ:Rho} {L:LK} (h:SimW G w ρ L) (nm:Nat) (hnm:ρ nm=none) (blk:Blk) (h0:blk.c.size=0) :
  SimW G w (aK ρ nm none) (aI L nm (some blk))/\Keeps (okc G ρ L) w ρ (okc G (aK ρ nm none) (aI L nm (some blk))) w (aK ρ nm none):=by
 have hk:Keeps (okc G ρ L) w ρ (okc G (aK ρ nm none) (aI L nm (some blk))) w (aK ρ nm none):=by
  refine⟨?_,?_,afw _⟩
  ·intro n q hq; unfold aK; by_cases e:n=nm
   ·subst e; rw[hnm]at hq; cases hq
   ·simp[e,hq]
  ·intro b hb ho;refine⟨⟨ho.1,?_⟩,rfl⟩;intro n bl p hn hp;unfold aI at hn; unfold aK at hp;by_cases e:n=nm
   ·simp[e]at hp
   ·simp only[e,afS]at hn hp; exact ho.2 n bl p hn hp
 refine⟨⟨?_,?_,?_,h.size,h.os,h.tape,h.output,?_,h.tab,?_⟩,hk⟩
 ·intro n bl hn;unfold aI at hn;by_cases e:n=nm
  ·subst e; simp only[agU,afN]at hn; subst hn;exact⟨none,by simp[aK],h0⟩
  ·simp only[e,afS]at hn;obtain⟨q,hq,hb⟩:=h.blks n bl hn;exact⟨q,by simp[aK,e,hq],hb.of hk λ_ _ _ _=>rfl⟩
 ·intro n m bn bm p q hn hm hp hq e;unfold aI at hn hm; unfold aK at hp hq;by_cases en:n=nm
  ·simp[en]at hp
  ·by_cases em:m=nm
   ·simp[em]at hq
   ·simp only[en,em,afS]at hn hm hp hq; exact h.inj n m bn bm p q hn hm hp hq e
 ·intro n p hn hp;unfold aK at hp;by_cases e:n=nm
  ·simp[e]at hp
  ·simp only[e,afS]at hp; exact h.own n p hn hp
 ·intro b hb hex hno;refine h.old b hb hex λn p hn hp=>hno n p hn ?_
  unfold aK;by_cases e:n=nm
  ·subst e; rw[hnm]at hp; cases hp
  ·simp[e,hp]
 ·intro n p hp;unfold aK at hp;by_cases e:n=nm
  ·simp[e]at hp
  ·simp only[e,afS]at hp; exact h.high n p hp
def bg:LK->Upd->LK
 | L,[]=>L
 | L,(n,b)::r=>bg (aI L n b) r
def bG (P:Program) (base:Nat) (F:List V) (M:aL) (o:Op) (x:V) (U:Upd) (T:List Nat):Prop:=
 ∀(G:Gh) (w:World) (ρ:Rho) (L:LK) (a:Act) (o':Oper),o'.op=o->G.base=base->(∀ b,¬ G.ex b)->SimW G w ρ L ->
  (∀ y,y ∈ o.operands->Rep (okc G ρ L) w ρ (ev F y) (a.eval y)) ->
  (∀ n,n ∈ T->L n=aq M n)->(∀ n b,(n,b) ∈ U->M.length<=n->ρ n=none/\base<=n) ->
  ∀(N:Act->World->Prop) (Q:Exit->Act->World->Prop),
   (∀ v w' ρ',SimW G w' ρ' (bg L U)->Rep (okc G ρ' (bg L U)) w' ρ' x v->Keeps (okc G ρ L) w ρ (okc G ρ' (bg L U)) w' ρ' ->
    (∀ n,ρ' n ≠ ρ n->n ∈ U.map (·.1))->N (a.put o'.dst v) w')->o'.wp P a w N Q
theorem dY {P:Program} {o:Oper} {a:Act} {w w':World} {v:Value} {N:Act->World->Prop} {Q:Exit->Act->World->Prop}
  (h:(execOp a.eval o).run P w=.ok (.value v) w') (hn:N (a.put o.dst v) w'):o.wp P a w N Q:=by
 unfold Oper.wp; rw[h]; exact hn
theorem aS {P:Program} {base:Nat} {F:List V} {M:aL} {o:Op} {x:V} {T:List Nat}
  (h:∀(G:Gh) (w:World) (ρ:Rho) (L:LK) (a:Act) (o':Oper),o'.op=o->SimW G w ρ L->(∀ y,y ∈ o.operands->Rep (okc G ρ L) w ρ (ev F y) (a.eval y))->(∀ n,n ∈ T->L n=aq M n) ->
   ∃ v w',(execOp a.eval o').run P w=.ok (.value v) w'/\(w'=w\/w'=w.drew)/\Rep (okc G ρ L) w ρ x v):bG P base F M o x [] T:=by
 intro G w ρ L a o' ho _ _ hs hops hT _ N Q hn;obtain⟨v,w',hr,hw,hx⟩:=h G w ρ L a o' ho hs hops hT;refine dY hr ?_;rcases hw with rfl | rfl
 ·exact hn v _ ρ hs hx (Keeps.refl _ _ _) (λn hne=>absurd rfl hne)
 ·obtain⟨h1,h2⟩:=hs.drew;exact hn v _ ρ h1 (hx.mono h2) h2 (λn hne=>absurd rfl hne)
section
variable {ok:Nat->Prop} {w:World} {ρ:Rho} {v:Value}
theorem Rep.bool_inv {b:Bool} (h:Rep ok w ρ (.bool b) v):v=.bool b:=by cases h; rfl
theorem Rep.int_inv {k:IntKind} {n:Int} (h:Rep ok w ρ (.int k n) v):v=.int k n:=by cases h; rfl
theorem Rep.flt_inv {x:Fl} (h:Rep ok w ρ (.flt x) v):FRep x v:=by cases h; assumption
theorem Rep.val_inv {u:Value} (h:Rep ok w ρ (.val u) v):v=u:=by cases h; rfl
theorem Rep.nil_inv (h:Rep ok w ρ .nil v):v=.slice none 0 0:=by cases h; rfl
theorem Rep.ptr_inv {n o:Nat} (h:Rep ok w ρ (.ptr n o) v):∃ p,ρ n=some (some p)/\v=.pointer (some ⟨p.b,o,none⟩):=by cases h; exact⟨_,by assumption,rfl⟩
theorem FRep.float {x:Fl} (h:FRep x v):∃ b,v=.float .f64 b:=by
 cases x with
 | none=>obtain⟨b,h,_⟩:=h; exact⟨b,h⟩
 | some b=>exact⟨b,h⟩
theorem Az (b:Nat):FRep (fp b) (.float .f64 b):=by
 unfold fp;cases h:isNaN b with
 | true=>exact⟨b,rfl,h⟩
 | false=>rfl
theorem vY (u:Value):Rep ok w ρ (Bj u) u:=by
 unfold Bj;split <;> first
  | exact .bool _
  | exact .int _ _
  | exact .flt _ _ (Az _)
  | exact .nil
  | exact .val _
theorem Rep.one {x:V} (h:Rep ok w ρ x v) (h1:x.one=true):v.oneCell'=true:=by
 cases h <;> simp[V.one]at h1 <;> try rfl
 ·rename_i hf; obtain⟨b,rfl⟩:=hf.float; rfl
 ·exact h1
 ·rename_i hfv; exact hfv.cells
 ·rename_i t xs h; generalize t.flat xs=cs at h; cases h <;> rfl
theorem Ow {x:Fl} (h:FRep x v):v.oneCell'=true:=by obtain⟨b,rfl⟩:=h.float; rfl
end
theorem s_ {b:Nat} (h:isNaN b=true):∃ s f,Ieee.double.read b=.nan s f:=by
 unfold isNaN Ieee.Datum.isNaN at h;cases e:Ieee.double.read b <;> simp[e]at h
 exact⟨_,_,rfl⟩
theorem Ps (f:Nat->Nat->Option Nat) (hf:f=Ieee.double.add\/f=Ieee.double.sub\/f=Ieee.double.mul\/f=Ieee.double.div) {a:Nat} (b:Nat) (h:isNaN a=true):f a b=none:=by obtain⟨s,g,e⟩:=s_ h;rcases hf with rfl | rfl | rfl | rfl <;> simp[Ieee.Format.add,Ieee.Format.sub,Ieee.Format.mul,Ieee.Format.div,e,Ieee.Datum.sum,Ieee.Datum.product,Ieee.Datum.quotient]
theorem LQ (f:Nat->Nat->Option Nat) (hf:f=Ieee.double.add\/f=Ieee.double.sub\/f=Ieee.double.mul\/f=Ieee.double.div) (a:Nat) {b:Nat} (h:isNaN b=true):f a b=none:=by obtain⟨s,g,e⟩:=s_ h;rcases hf with rfl | rfl | rfl | rfl <;> simp only[Ieee.Format.add,Ieee.Format.sub,Ieee.Format.mul,Ieee.Format.div,e] <;> cases Ieee.double.read a <;> simp[Ieee.Datum.sum,Ieee.Datum.product,Ieee.Datum.quotient,Ieee.Datum.opposite]
theorem oa {a:Nat} (b:Nat) (h:isNaN a=true):Ieee.double.order a b=none:=by obtain⟨s,g,e⟩:=s_ h;simp[Ieee.Format.order,e,Ieee.Datum.order]
theorem rF (a:Nat) {b:Nat} (h:isNaN b=true):Ieee.double.order a b=none:=by obtain⟨s,g,e⟩:=s_ h;simp only[Ieee.Format.order,e];cases Ieee.double.read a <;> simp[Ieee.Datum.order]
theorem KT (f:Nat->Nat->Option Nat) (hf:f=Ieee.double.add\/f=Ieee.double.sub\/f=Ieee.double.mul\/f=Ieee.double.div) {x y:Fl} {a b:Nat} (hx:FRep x (.float .f64 a)) (hy:FRep y (.float .f64 b)):f a b=Fz f x y:=by
 cases x with
 | none=>obtain⟨a',e,h⟩:=hx; cases e; rw[Ps f hf b h]; rfl
 | some a'=>cases hx; cases y with
  | none=>obtain⟨b',e,h⟩:=hy; cases e; rw[LQ f hf _ h]; rfl
  | some b'=>cases hy; rfl
theorem xL {x y:Fl} {a b:Nat} (hx:FRep x (.float .f64 a)) (hy:FRep y (.float .f64 b)):Ieee.double.order a b=wL x y:=by
 cases x with
 | none=>obtain⟨a',e,h⟩:=hx; cases e; rw[oa b h]; rfl
 | some a'=>cases hx; cases y with
  | none=>obtain⟨b',e,h⟩:=hy; cases e; rw[rF _ h]; rfl
  | some b'=>cases hy; rfl
theorem fK (b:Nat):isNaN b=true↔9218868437227405312<b%9223372036854775808:=by
 have e1:Ieee.double.signWeight=9223372036854775808:=by decide
 have e2:Ieee.double.binade=4503599627370496:=by decide
 have e3:Ieee.double.infRung=9218868437227405312:=by decide
 unfold isNaN Ieee.Format.read;simp only[e1,e2,e3];generalize b%9223372036854775808=r;by_cases h1:r<4503599627370496
 ·simp[h1,Ieee.Datum.isNaN]; omega
 ·by_cases h2:r<9218868437227405312
  ·simp[h1,h2,Ieee.Datum.isNaN]; omega
  ·by_cases h3:r=9218868437227405312
   ·simp[h3,Ieee.Datum.isNaN]
   ·simp[h1,h2,h3,Ieee.Datum.isNaN]; omega
theorem xR (x y t:Nat):isNaN ((Question.nanBits .f64 x y).cut t)=true:=by
 rw[fK];simp only[Question.cut];have h1:t / 2%(2 ^ 52 - 1)<2 ^ 52 - 1:=afA _ (by decide);have h2:t%2=0\/t%2=1:=by omega
 generalize t / 2%(2 ^ 52 - 1)=r at *;rcases h2 with h2 | h2 <;> rw[h2] <;> omega
theorem PE {P:Program} {w:World} (op:BinOp) (f:Nat->Nat->Option Nat) (t:TypeId) {x y:Fl} {u v:Value} (hx:FRep x u) (hy:FRep y v)
  (hf:f=Ieee.double.add/\op=.add\/f=Ieee.double.sub/\op=.sub\/f=Ieee.double.mul/\op=.mul\/f=Ieee.double.div/\op=.quo) :
  ∃ r w',(binOp op t u v).run P w=.ok r w'/\(w'=w\/w'=w.drew)/\FRep (Fz f x y) r:=by
 obtain⟨a,rfl⟩:=hx.float;obtain⟨b,rfl⟩:=hy.float;have hf':f=Ieee.double.add\/f=Ieee.double.sub\/f=Ieee.double.mul\/f=Ieee.double.div:=by rcases hf with h | h | h | h <;> simp[h.1]
 have e:=KT f hf' hx hy;rw[<- e];cases hr:f a b with
 | some r=>
  refine⟨.float .f64 r,w,?_,.inl rfl,rfl⟩;rcases hf with⟨rfl,rfl⟩ | ⟨rfl,rfl⟩ | ⟨rfl,rfl⟩ | ⟨rfl,rfl⟩ <;> simp[binOp,Op.floatArith,FloatKind.format,hr]
 | none=>
  refine⟨.float .f64 ((Question.nanBits .f64 a b).cut (w.tape w.drawn (.nanBits .f64 a b))),w.drew,?_,.inr rfl,_,rfl,xR _ _ _⟩;rcases hf with⟨rfl,rfl⟩ | ⟨rfl,rfl⟩ | ⟨rfl,rfl⟩ | ⟨rfl,rfl⟩ <;> simp[binOp,Op.floatArith,FloatKind.format,hr,Question.forced]
theorem Ov {x:Fl} {a:Nat} (h:FRep x (.float .f64 a)):FRep (VE x) (.float .f64 (Op.negFloat .f64 a)):=by
 cases x with
 | some b=>cases h; rfl
 | none=>
  obtain⟨b,e,hn⟩:=h;cases e;refine⟨_,rfl,?_⟩;rw[fK]at hn ⊢;have hx:∀(n:Nat),(n ^^^ 2 ^ 63)%2 ^ 63=n%2 ^ 63:=by
   intro n;apply ahC;intro i;simp only[Nat.testBit_mod_two_pow,Nat.testBit_xor];by_cases hi:i<63
   ·have:(2 ^ 63:Nat).testBit i=false:=by rw[ahg]; simp; omega
    simp[hi,this]
   ·simp[hi]
  have e:(2:Nat) ^ 63=9223372036854775808:=by decide
  rw[<- e]at hn ⊢;show _<(a ^^^ 2 ^ 63)%2 ^ 63;rw[hx]; exact hn
theorem and_true {a b:Bool} (h:(a&&b)=true):a=true/\b=true:=by simpa using h
theorem ME {n:Int} (h:af .i64 n=true):IntKind.i64.wrap n=n:=by have h':IntKind.i64.min<=n/\n<=IntKind.i64.max:=afp h;have h1:(-9223372036854775808:Int)<=n:=h'.1;have h2:n<=(9223372036854775807:Int):=h'.2;rw[IntKind.wrap_i64]; omega
theorem iK {q:IntKind} {r:Int} {k:V->Bool} (h:w7 q r k=true):∃ n,q.wrap r=n/\k (.int q n)=true:=by
 unfold w7 at h;split at h
 ·obtain⟨h1,h2⟩:=and_true h;exact⟨r,ME h1,h2⟩
 ·exact⟨_,rfl,h⟩
def qa (P:Program) (op:BinOp) (t:TypeId) (x y z:V):Prop:=
 ∀(ok:Nat->Prop) (w:World) (ρ:Rho) (u v:Value),Rep ok w ρ x u->Rep ok w ρ y v ->
  ∃ r w',(binOp op t u v).run P w=.ok r w'/\(w'=w\/w'=w.drew)/\Rep ok w ρ z r/\(∀ a b,(eqGuard op t a b u v).run P w=.ok () w)
theorem xN {P:Program} {w:World} (op:BinOp) (t:TypeId) (a b:Operand) (k k':IntKind) (n m:Int):(eqGuard op t a b (.int k n) (.int k' m)).run P w=.ok () w:=by unfold eqGuard; cases op <;> rfl
theorem FH {P:Program} {w:World} (op:BinOp) (t:TypeId) (a b:Operand) (k k':FloatKind) (n m:Nat):(eqGuard op t a b (.float k n) (.float k' m)).run P w=.ok () w:=by unfold eqGuard; cases op <;> rfl
theorem AF {P:Program} {w:World} (op:BinOp) (t:TypeId) (a b:Operand) (n m:Bool):(eqGuard op t a b (.bool n) (.bool m)).run P w=.ok () w:=by unfold eqGuard; cases op <;> rfl
theorem jI {P:Program} {op:BinOp} {t:TypeId} {q:IntKind} {a b:Int} {z:V} {c:Value}
  (h:∀(w:World),(binOp op t (.int q a) (.int q b)).run P w=.ok c w) (hz:∀ ok w ρ,Rep ok w ρ z c):qa P op t (.int q a) (.int q b) z:=by
 intro ok w ρ u v hu hv;obtain rfl:=hu.int_inv; obtain rfl:=hv.int_inv;exact⟨c,w,h w,.inl rfl,hz _ _ _,λa b=>xN _ _ _ _ _ _ _ _⟩
theorem Cr {op:BinOp} {q:IntKind} {a b r:Int} (h:rq op q a b=some r) (P:Program) (w:World):(Op.intBits op q a b).run P w=.ok (.int q r) w:=by unfold rq at h;unfold Op.intBits;cases op <;> simp only[reduceCtorEq,afN]at h <;> subst h <;> rfl
theorem FK {P:Program} {op:BinOp} {t:TypeId} {q:IntKind} {a b:Int} {k:V->Bool} (hs:op ≠ .shl/\op ≠ .shr) (h:OD op q a b k=true) :
  ∃ z,qa P op t (.int q a) (.int q b) z/\k z=true:=by
 cases op <;> simp only[OD]at h
 case shl=>exact absurd rfl hs.1
 case shr=>exact absurd rfl hs.2
 case add=>obtain⟨n,e,h⟩:=iK h; exact⟨_,jI (c:=.int q n) (λw=>by simp[binOp,Op.intArith,e]) (λ_ _ _=>.int _ _),h⟩
 case sub=>obtain⟨n,e,h⟩:=iK h; exact⟨_,jI (c:=.int q n) (λw=>by simp[binOp,Op.intArith,e]) (λ_ _ _=>.int _ _),h⟩
 case mul=>obtain⟨n,e,h⟩:=iK h; exact⟨_,jI (c:=.int q n) (λw=>by simp[binOp,Op.intArith,e]) (λ_ _ _=>.int _ _),h⟩
 case quo=>
  obtain⟨h0,h⟩:=and_true h;have hb:¬ b=0:=by simpa using h0
  obtain⟨n,e,h⟩:=iK h;exact⟨_,jI (c:=.int q n) (λw=>by simp[binOp,Op.intDiv,hb,e]) (λ_ _ _=>.int _ _),h⟩
 case rem=>
  obtain⟨h0,h⟩:=and_true h;have hb:¬ b=0:=by simpa using h0
  exact⟨_,jI (c:=.int q (a.tmod b)) (λw=>by simp[binOp,Op.intDiv,hb]) (λ_ _ _=>.int _ _),h⟩
 case eql=>exact⟨_,jI (c:=.bool (a==b)) (λw=>by simp[binOp,Op.intCmp]) (λ_ _ _=>.bool _),h⟩
 case neq=>exact⟨_,jI (c:=.bool (a != b)) (λw=>by simp[binOp,Op.intCmp]) (λ_ _ _=>.bool _),h⟩
 case lss=>exact⟨_,jI (c:=.bool (decide (a<b))) (λw=>by simp[binOp,Op.intCmp]) (λ_ _ _=>.bool _),h⟩
 case leq=>exact⟨_,jI (c:=.bool (decide (a<=b))) (λw=>by simp[binOp,Op.intCmp]) (λ_ _ _=>.bool _),h⟩
 case gtr=>exact⟨_,jI (c:=.bool (decide (a>b))) (λw=>by simp[binOp,Op.intCmp]) (λ_ _ _=>.bool _),h⟩
 case geq=>exact⟨_,jI (c:=.bool (decide (a>=b))) (λw=>by simp[binOp,Op.intCmp]) (λ_ _ _=>.bool _),h⟩
 all_goals
  split at h
  ·rename_i r e;refine⟨_,jI (c:=.int q r) (λw=>?_) (λ_ _ _=>.int _ _),h⟩;have:=Cr e P w;simpa [binOp]using this
  ·cases h
theorem Je {P:Program} {op:BinOp} {t:TypeId} {x y:Fl} {z:V}
  (h:∀(ok:Nat->Prop) (w:World) (ρ:Rho) (u v:Value),FRep x u->FRep y v -> ∃ r w',(binOp op t u v).run P w=.ok r w'/\(w'=w\/w'=w.drew)/\Rep ok w ρ z r):qa P op t (.flt x) (.flt y) z:=by
 intro ok w ρ u v hu hv;obtain⟨r,w',h1,h2,h3⟩:=h ok w ρ u v hu.flt_inv hv.flt_inv;obtain⟨a,rfl⟩:=hu.flt_inv.float;obtain⟨b,rfl⟩:=hv.flt_inv.float;exact⟨r,w',h1,h2,h3,λ_ _=>FH _ _ _ _ _ _ _ _⟩
theorem FD {P:Program} {op:BinOp} {t:TypeId} {x y:Fl} {k:V->Bool} (h:Ot op x y k=true) :
  ∃ z,qa P op t (.flt x) (.flt y) z/\k z=true:=by
 have cmp:∀{op:BinOp} {z:Bool},(∀(w:World) (a b:Nat),Ieee.double.order a b=wL x y->(binOp op t (.float .f64 a) (.float .f64 b)).run P w=.ok (.bool z) w) ->
   qa P op t (.flt x) (.flt y) (.bool z):=by
  intro op z hc;refine Je λok w ρ u v hu hv=>?_
  obtain⟨a,rfl⟩:=hu.float;obtain⟨b,rfl⟩:=hv.float;exact⟨_,w,hc w a b (xL hu hv),.inl rfl,.bool _⟩
 have ari:∀{op:BinOp} {f:Nat->Nat->Option Nat},(f=Ieee.double.add/\op=.add\/f=Ieee.double.sub/\op=.sub\/f=Ieee.double.mul/\op=.mul\/f=Ieee.double.div/\op=.quo) ->
   qa P op t (.flt x) (.flt y) (.flt (Fz f x y)):=by
  intro op f hf;refine Je λok w ρ u v hu hv=>?_
  obtain⟨r,w',h1,h2,h3⟩:=PE (P:=P) (w:=w) op f t hu hv hf;exact⟨r,w',h1,h2,.flt _ _ h3⟩
 cases op <;> simp only[Ot]at h <;> first
  | (cases h; done)
  | exact⟨_,ari (.inl ⟨rfl,rfl⟩),h⟩
  | exact⟨_,ari (.inr (.inl ⟨rfl,rfl⟩)),h⟩
  | exact⟨_,ari (.inr (.inr (.inl ⟨rfl,rfl⟩))),h⟩
  | exact⟨_,ari (.inr (.inr (.inr ⟨rfl,rfl⟩))),h⟩
  | exact⟨_,cmp (λw a b e=>by simp[binOp,Op.floatCmp,FloatKind.format,e,feq,flt,fgt,fle,fge,bne]),h⟩
theorem RM {P:Program} {w:World} {t:TypeId} (ht:P.underlying t=some .bool) (a b:Bool):(binOp .eql t (.bool a) (.bool b)).run P w=.ok (.bool (a==b)) w:=by
 have h:(Op.equal t (.bool a) (.bool b)).run P w=.ok (a==b) w:=by rw[Op.equal,Op.maxDepth,Op.equalIn,Sem.run_bind,run_underlying ht]; rfl
 show((Op.equal t (.bool a) (.bool b)) >>= λr=>pure (Value.bool r)).run P w=_;rw[Sem.run_bind,h]; rfl
theorem RN {P:Program} {w:World} {t:TypeId} (ht:P.underlying t=some .bool) (a b:Bool):(binOp .neq t (.bool a) (.bool b)).run P w=.ok (.bool (a != b)) w:=by
 have h:(Op.equal t (.bool a) (.bool b)).run P w=.ok (a==b) w:=by rw[Op.equal,Op.maxDepth,Op.equalIn,Sem.run_bind,run_underlying ht]; rfl
 show((Op.equal t (.bool a) (.bool b)) >>= λr=>pure (Value.bool (!r))).run P w=_;rw[Sem.run_bind,h]; rfl
theorem wS {P:Program} {t:TypeId} (h:zN P t=true):P.underlying t=some .bool:=by
 unfold zN at h; split at h
 ·assumption
 ·cases h
theorem eu {P:Program} {t s:Nat} (h:iP P t=some s) (w:World):(sizeOf t).run P w=.ok s w:=by unfold iP at h;obtain⟨i,hi,rfl⟩:=Option.map_eq_some_iff.1 h;simp[sizeOf,typeInfo,hi]
theorem uE {P:Program} {t s:Nat} (h:iP P t=some s):∃ i,P.info? t=some i/\i.size=s:=by unfold iP at h;obtain⟨i,hi,rfl⟩:=Option.map_eq_some_iff.1 h;exact⟨i,hi,rfl⟩
theorem Ds {ok:Nat->Prop} {w:World} {ρ:Rho} {cs:List V} {u:Value} (h:Rep ok w ρ (.agg cs) u):∃ us:List Value,u=.agg us.toArray/\us.length=cs.length /\ ∀(i:Nat) c v,cs[i]? = some c->us[i]? = some v->Rep ok w ρ c v:=by
 cases h with
 | agg _ us hl ho hr=>exact⟨us,rfl,hl.symm,hr⟩
theorem Dm {P:Program} {n:Nat} {t:TypeId} (h:MD P n t=true):∃ e,P.underlying t=some (.array n e)/\P.underlying e=some (.float .f64)/\iP P e=some 1/\P.eqGuardType P.depth t=false:=by
 unfold MD at h;split at h
 ·rename_i m e he;obtain⟨h0,h5⟩:=and_true h;have hmn:m=n:=by simpa using h0
  clear h h0;subst hmn;split at h5
  ·rename_i h1 h2 h3;exact⟨e,he,h1,h2,by simpa using h5⟩
  ·cases h5
 ·cases h
theorem CH {P:Program} {w:World} {t:TypeId} (hq:P.eqGuardType P.depth t=false) {a b:Operand} (xs ys:Array Value):(eqGuard .eql t a b (.agg xs) (.agg ys)).run P w=.ok () w:=by unfold eqGuard;simp[hq]
theorem RK {P:Program} {w:World} {t e:TypeId} (ht:P.underlying t=some (.array 3 e)) (he:P.underlying e=some (.float .f64)) (hs:iP P e=some 1) (a0 a1 a2 b0 b1 b2:Nat) :
  (binOp .eql t (.agg #[.float .f64 a0,.float .f64 a1,.float .f64 a2]) (.agg #[.float .f64 b0,.float .f64 b1,.float .f64 b2])).run P w=.ok (.bool (Op.floatEq .f64 a0 b0&&(Op.floatEq .f64 a1 b1&&Op.floatEq .f64 a2 b2))) w:=by
 have step:∀ d a b,(Op.equalIn (d+1) e (.float .f64 a) (.float .f64 b)).run P w=.ok (Op.floatEq .f64 a b) w:=by intro d a b;rw[Op.equalIn,Sem.run_bind,run_underlying he]; rfl
 have pt:∀(xs:Array Value) (i:Nat) v,xs[i]? = some v->(part e xs i).run P w=.ok v w:=by
  intro xs i v hi;have hA:(isAgg e).run P w=.ok false w:=by unfold isAgg; rw[Sem.run_bind,run_underlying he]; rfl
  simp[part,hA,hi]
 have h:(Op.equal t (.agg #[.float .f64 a0,.float .f64 a1,.float .f64 a2]) (.agg #[.float .f64 b0,.float .f64 b1,.float .f64 b2])).run P w=.ok (Op.floatEq .f64 a0 b0&&(Op.floatEq .f64 a1 b1&&Op.floatEq .f64 a2 b2)) w:=by rw[Op.equal,Op.maxDepth,Op.equalIn,Sem.run_bind,run_underlying ht];simp only[Result.andThen_ok,ahz,Std.Legacy.Range.size,aht,Nat.add_one_sub_one,ag_,Sem.run_bind,eu hs];simp[List.range',Sem.run_bind,pt,step];cases Op.floatEq .f64 a0 b0 <;> cases Op.floatEq .f64 a1 b1 <;> cases Op.floatEq .f64 a2 b2 <;> simp
 show((Op.equal t _ _) >>= λr=>pure (Value.bool r)).run P w=_;rw[Sem.run_bind,h]; rfl
theorem RL {P:Program} {w:World} {t e:TypeId} (ht:P.underlying t=some (.array 4 e)) (he:P.underlying e=some (.float .f64)) (hs:iP P e=some 1) (a0 a1 a2 a3 b0 b1 b2 b3:Nat) :
  (binOp .eql t (.agg #[.float .f64 a0,.float .f64 a1,.float .f64 a2,.float .f64 a3]) (.agg #[.float .f64 b0,.float .f64 b1,.float .f64 b2,.float .f64 b3])).run P w=.ok (.bool (Op.floatEq .f64 a0 b0&&(Op.floatEq .f64 a1 b1&&(Op.floatEq .f64 a2 b2&&Op.floatEq .f64 a3 b3)))) w:=by
 have step:∀ d a b,(Op.equalIn (d+1) e (.float .f64 a) (.float .f64 b)).run P w=.ok (Op.floatEq .f64 a b) w:=by intro d a b;rw[Op.equalIn,Sem.run_bind,run_underlying he]; rfl
 have pt:∀(xs:Array Value) (i:Nat) v,xs[i]? = some v->(part e xs i).run P w=.ok v w:=by
  intro xs i v hi;have hA:(isAgg e).run P w=.ok false w:=by unfold isAgg; rw[Sem.run_bind,run_underlying he]; rfl
  simp[part,hA,hi]
 have h:(Op.equal t (.agg #[.float .f64 a0,.float .f64 a1,.float .f64 a2,.float .f64 a3]) (.agg #[.float .f64 b0,.float .f64 b1,.float .f64 b2,.float .f64 b3])).run P w=.ok (Op.floatEq .f64 a0 b0&&(Op.floatEq .f64 a1 b1&&(Op.floatEq .f64 a2 b2&&Op.floatEq .f64 a3 b3))) w:=by rw[Op.equal,Op.maxDepth,Op.equalIn,Sem.run_bind,run_underlying ht];simp only[Result.andThen_ok,ahz,Std.Legacy.Range.size,aht,Nat.add_one_sub_one,ag_,Sem.run_bind,eu hs];simp[List.range',Sem.run_bind,pt,step];cases Op.floatEq .f64 a0 b0 <;> cases Op.floatEq .f64 a1 b1 <;> cases Op.floatEq .f64 a2 b2 <;> cases Op.floatEq .f64 a3 b3 <;> simp
 show((Op.equal t _ _) >>= λr=>pure (Value.bool r)).run P w=_;rw[Sem.run_bind,h]; rfl
theorem uz {P:Program} {t:TypeId} (h:RH P t=true):∃ e,P.underlying t=some (.pointer e):=by
 unfold RH at h;split at h
 ·rename_i e he; exact⟨e,he⟩
 ·cases h
theorem JV {P:Program} {w:World} {t e:TypeId} (ht:P.underlying t=some (.pointer e)) (p q:Option Addr) (hq:q=none):(binOp .eql t (.pointer p) (.pointer q)).run P w=.ok (.bool (p==q)) w:=by
 subst hq;have h:(Op.equal t (.pointer p) (.pointer none)).run P w=.ok (p==none) w:=by rw[Op.equal,Op.maxDepth,Op.equalIn,Sem.run_bind,run_underlying ht];cases p <;> rfl
 show((Op.equal t _ _) >>= λr=>pure (Value.bool r)).run P w=_;rw[Sem.run_bind,h]; rfl
theorem JW {P:Program} {w:World} {t e:TypeId} (ht:P.underlying t=some (.pointer e)) (p q:Option Addr) (hq:q=none):(binOp .neq t (.pointer p) (.pointer q)).run P w=.ok (.bool (!(p==q))) w:=by
 subst hq;have h:(Op.equal t (.pointer p) (.pointer none)).run P w=.ok (p==none) w:=by rw[Op.equal,Op.maxDepth,Op.equalIn,Sem.run_bind,run_underlying ht];cases p <;> rfl
 show((Op.equal t _ _) >>= λr=>pure (Value.bool (!r))).run P w=_;rw[Sem.run_bind,h]; rfl
theorem uf {P:Program} {w:World} {op:BinOp} {t:TypeId} (p q:Option Addr) (a b:Operand):(eqGuard op t a b (.pointer p) (.pointer q)).run P w=.ok () w:=by unfold eqGuard;split <;> rfl
theorem pd {P:Program} {t:TypeId} (h:Ek P t=true):∃ e,P.underlying t=some (.slice e):=by
 unfold Ek at h;split at h
 ·rename_i e he; exact⟨e,he⟩
 ·cases h
theorem zS {P:Program} {w:World} {t e:TypeId} (ht:P.underlying t=some (.slice e)) (a:Option Addr) (l c:Nat):(binOp .eql t (.slice a l c) (.slice none 0 0)).run P w=.ok (.bool a.isNone) w:=by
 have h:(Op.equal t (.slice a l c) (.slice none 0 0)).run P w=.ok a.isNone w:=by rw[Op.equal,Op.maxDepth,Op.equalIn,Sem.run_bind,run_underlying ht];cases a <;> rfl
 show((Op.equal t _ _) >>= λr=>pure (Value.bool r)).run P w=_;rw[Sem.run_bind,h]; rfl
theorem oJ {P:Program} {w:World} {op:BinOp} {t:TypeId} (p q:Option Addr) (l c l' c':Nat) (a b:Operand):(eqGuard op t a b (.slice p l c) (.slice q l' c')).run P w=.ok () w:=by unfold eqGuard;split <;> rfl
theorem Hs {P:Program} {op:BinOp} {t:TypeId} {x y:V} {k:V->Bool} (h:Vw op (zN P t) (MD P 3 t) (MD P 4 t) (RH P t) (Ek P t) x y k=true):∃ z,qa P op t x y z/\k z=true:=by
 unfold Vw at h;split at h
 ·rename_i q a k' b;obtain⟨h0,h1⟩:=and_true h;have hb:¬ b<0:=by have:=afp h0; omega
  obtain⟨n,e,h2⟩:=iK h1;refine⟨_,?_,h2⟩;intro ok w ρ u v hu hv;obtain rfl:=hu.int_inv; obtain rfl:=hv.int_inv;exact⟨.int q n,w,by simp[binOp,Op.shift,hb,e],.inl rfl,.int _ _,λa b=>xN _ _ _ _ _ _ _ _⟩
 ·rename_i q a k' b;obtain⟨h0,h1⟩:=and_true h;have hb:¬ b<0:=by have:=afp h0; omega
  refine⟨_,?_,h1⟩;intro ok w ρ u v hu hv;obtain rfl:=hu.int_inv; obtain rfl:=hv.int_inv;exact⟨.int q (a.fdiv (2 ^ (min b.toNat q.bits))),w,by simp[binOp,Op.shift,hb],.inl rfl,.int _ _,λa b=>xN _ _ _ _ _ _ _ _⟩
 ·rename_i q a q' b hl hr;obtain⟨h0,h1⟩:=and_true h;clear h;obtain rfl:=afp h0;exact FK ⟨λe=>hl e,λe=>hr e⟩ h1
 ·exact FD h
 ·obtain⟨h0,h1⟩:=and_true h;refine⟨_,?_,h1⟩;intro ok w ρ u v hu hv;obtain rfl:=hu.bool_inv; obtain rfl:=hv.bool_inv;exact⟨_,w,RM (wS h0) _ _,.inl rfl,.bool _,λa b=>AF _ _ _ _ _ _⟩
 ·obtain⟨h0,h1⟩:=and_true h;refine⟨_,?_,h1⟩;intro ok w ρ u v hu hv;obtain rfl:=hu.bool_inv; obtain rfl:=hv.bool_inv;exact⟨_,w,RN (wS h0) _ _,.inl rfl,.bool _,λa b=>AF _ _ _ _ _ _⟩
 ·obtain⟨h0,h1⟩:=and_true h;refine⟨_,?_,h1⟩;intro ok w ρ u v hu hv;obtain⟨p,_,rfl⟩:=hu.ptr_inv; obtain rfl:=hv.val_inv;obtain⟨e,he⟩:=uz h0;exact⟨_,w,JW he _ _ rfl,.inl rfl,.bool _,λa b=>uf _ _ _ _⟩
 ·obtain⟨h0,h1⟩:=and_true h;refine⟨_,?_,h1⟩;intro ok w ρ u v hu hv;obtain rfl:=hu.val_inv; obtain rfl:=hv.val_inv;obtain⟨e,he⟩:=uz h0;exact⟨_,w,JW he _ _ rfl,.inl rfl,.bool _,λa b=>uf _ _ _ _⟩
 ·obtain⟨h0,h1⟩:=and_true h;refine⟨_,?_,h1⟩;intro ok w ρ u v hu hv;obtain⟨p,_,rfl⟩:=hu.ptr_inv; obtain rfl:=hv.val_inv;obtain⟨e,he⟩:=uz h0;exact⟨_,w,JV he _ _ rfl,.inl rfl,.bool _,λa b=>uf _ _ _ _⟩
 ·obtain⟨h0,h1⟩:=and_true h;refine⟨_,?_,h1⟩;intro ok w ρ u v hu hv;obtain rfl:=hu.val_inv; obtain rfl:=hv.val_inv;obtain⟨e,he⟩:=uz h0;exact⟨_,w,JV he _ _ rfl,.inl rfl,.bool _,λa b=>uf _ _ _ _⟩
 ·obtain⟨h0,h1⟩:=and_true h;refine⟨_,?_,h1⟩;intro ok w ρ u v hu hv;obtain rfl:=hv.nil_inv;obtain⟨e,he⟩:=pd h0;cases hu with
  | rof xs b o cap g h1 h2 h3 h4 h5=>exact⟨_,w,zS he _ _ _,.inl rfl,.bool _,λa b=>oJ _ _ _ _ _ _ _ _⟩
 ·obtain⟨h0,h1⟩:=and_true h;refine⟨_,?_,h1⟩;intro ok w ρ u v hu hv;obtain rfl:=hv.nil_inv; obtain rfl:=hu.val_inv;obtain⟨e,he⟩:=pd h0;exact⟨_,w,zS he _ _ _,.inl rfl,.bool _,λa b=>oJ _ _ _ _ _ _ _ _⟩
 ·obtain⟨h0,h1⟩:=and_true h;refine⟨_,?_,h1⟩;intro ok w ρ u v hu hv;obtain rfl:=hv.nil_inv; obtain rfl:=hu.val_inv;obtain⟨e,he⟩:=pd h0;exact⟨_,w,zS he _ _ _,.inl rfl,.bool _,λa b=>oJ _ _ _ _ _ _ _ _⟩
 ·obtain⟨h0,h1⟩:=and_true h;refine⟨_,?_,h1⟩;intro ok w ρ u v hu hv;obtain rfl:=hv.nil_inv; obtain rfl:=hu.nil_inv;obtain⟨e,he⟩:=pd h0;exact⟨_,w,zS he _ _ _,.inl rfl,.bool _,λa b=>oJ _ _ _ _ _ _ _ _⟩
 ·rename_i x0 x1 x2 y0 y1 y2;obtain⟨h0,h1⟩:=and_true h;refine⟨_,?_,h1⟩;obtain⟨e,ht,he,hs,hq⟩:=Dm h0;intro ok w ρ u v hu hv;obtain⟨us,rfl,hl,hur⟩:=Ds hu;obtain⟨vs,rfl,hl',hvr⟩:=Ds hv
  match us,hl,vs,hl' with
  | [u0,u1,u2],_,[v0,v1,v2],_=>
   have f0:=(hur 0 _ _ rfl rfl).flt_inv; have f1:=(hur 1 _ _ rfl rfl).flt_inv; have f2:=(hur 2 _ _ rfl rfl).flt_inv;have g0:=(hvr 0 _ _ rfl rfl).flt_inv; have g1:=(hvr 1 _ _ rfl rfl).flt_inv; have g2:=(hvr 2 _ _ rfl rfl).flt_inv;obtain⟨a0,rfl⟩:=f0.float; obtain⟨a1,rfl⟩:=f1.float; obtain⟨a2,rfl⟩:=f2.float;obtain⟨b0,rfl⟩:=g0.float; obtain⟨b1,rfl⟩:=g1.float; obtain⟨b2,rfl⟩:=g2.float;refine⟨_,w,RK ht he hs _ _ _ _ _ _,.inl rfl,?_,λa b=>CH hq _ _⟩;have q:∀{x y:Fl} {a b:Nat},FRep x (.float .f64 a)->FRep y (.float .f64 b)->Op.floatEq .f64 a b=feq x y:=by intro x y a b hx hy;show(Ieee.double.order a b==some .eq)=(wL x y==some .eq);rw[xL hx hy]
   rw[q f0 g0,q f1 g1,q f2 g2];exact .bool _
 ·rename_i x0 x1 x2 x3 y0 y1 y2 y3;obtain⟨h0,h1⟩:=and_true h;refine⟨_,?_,h1⟩;obtain⟨e,ht,he,hs,hq⟩:=Dm h0;intro ok w ρ u v hu hv;obtain⟨us,rfl,hl,hur⟩:=Ds hu;obtain⟨vs,rfl,hl',hvr⟩:=Ds hv
  match us,hl,vs,hl' with
  | [u0,u1,u2,u3],_,[v0,v1,v2,v3],_=>
   have f0:=(hur 0 _ _ rfl rfl).flt_inv; have f1:=(hur 1 _ _ rfl rfl).flt_inv; have f2:=(hur 2 _ _ rfl rfl).flt_inv; have f3:=(hur 3 _ _ rfl rfl).flt_inv;have g0:=(hvr 0 _ _ rfl rfl).flt_inv; have g1:=(hvr 1 _ _ rfl rfl).flt_inv; have g2:=(hvr 2 _ _ rfl rfl).flt_inv; have g3:=(hvr 3 _ _ rfl rfl).flt_inv;obtain⟨a0,rfl⟩:=f0.float; obtain⟨a1,rfl⟩:=f1.float; obtain⟨a2,rfl⟩:=f2.float; obtain⟨a3,rfl⟩:=f3.float;obtain⟨b0,rfl⟩:=g0.float; obtain⟨b1,rfl⟩:=g1.float; obtain⟨b2,rfl⟩:=g2.float; obtain⟨b3,rfl⟩:=g3.float;refine⟨_,w,RL ht he hs _ _ _ _ _ _ _ _,.inl rfl,?_,λa b=>CH hq _ _⟩;have q:∀{x y:Fl} {a b:Nat},FRep x (.float .f64 a)->FRep y (.float .f64 b)->Op.floatEq .f64 a b=feq x y:=by intro x y a b hx hy;show(Ieee.double.order a b==some .eq)=(wL x y==some .eq);rw[xL hx hy]
   rw[q f0 g0,q f1 g1,q f2 g2,q f3 g3];exact .bool _
 ·cases h
def Vv (P:Program) (op:UnOp) (x z:V):Prop:=
 ∀(ok:Nat->Prop) (w:World) (ρ:Rho) (u:Value),Rep ok w ρ x u -> ∃ r,(Op.unary op u).run P w=.ok r w/\Rep ok w ρ z r
theorem MB {P:Program} {op:UnOp} {x:V} {k:V->Bool} (h:unV op x k=true):∃ z,Vv P op x z/\k z=true:=by
 unfold unV at h;split at h
 ·refine⟨_,?_,h⟩;intro ok w ρ u hu;obtain rfl:=hu.bool_inv;exact⟨_,rfl,.bool _⟩
 ·obtain⟨m,e,h⟩:=iK h;refine⟨_,?_,h⟩;intro ok w ρ u hu;obtain rfl:=hu.int_inv;rw[Int.zero_sub]at e;exact⟨.int _ m,by simp[Op.unary,Op.intArith,e],.int _ _⟩
 ·refine⟨_,?_,h⟩;intro ok w ρ u hu;obtain⟨a,rfl⟩:=hu.flt_inv.float;exact⟨_,rfl,.flt _ _ (Ov hu.flt_inv)⟩
 ·split at h
  ·rename_i r e;refine⟨_,?_,h⟩;intro ok w ρ u hu;obtain rfl:=hu.int_inv;exact⟨.int _ r,Cr e P w,.int _ _⟩
  ·cases h
 ·cases h
def MI (P:Program) (s d:TypeId) (x z:V):Prop:=
 ∀(ok:Nat->Prop) (w:World) (ρ:Rho) (u:Value),Rep ok w ρ x u -> ∃ r,(convert s d u).run P w=.ok r w/\Rep ok w ρ z r
theorem Ff {P:Program} {s d:TypeId} {x:V} {k:V->Bool} (h:NZ P s d x k=true):∃ z,MI P s d x z/\k z=true:=by
 unfold NZ at h;split at h
 ·rename_i D q k' n hs hd;obtain⟨m,e,h⟩:=iK h;refine⟨_,?_,h⟩;intro ok w ρ u hu;obtain rfl:=hu.int_inv;exact⟨.int q m,by cases D <;> simp[convert,run_underlying hs,run_underlying hd,Conv.intToInt,e],.int _ _⟩
 ·rename_i D k' n hs hd;refine⟨_,?_,h⟩;intro ok w ρ u hu;obtain rfl:=hu.int_inv;exact⟨.float .f64 (FloatKind.f64.nearest n),by cases D <;> simp[convert,run_underlying hs,run_underlying hd,Conv.intToFloat],.flt _ _ rfl⟩
 ·rename_i D x hs hd;refine⟨_,?_,h⟩;intro ok w ρ u hu;obtain⟨a,rfl⟩:=hu.flt_inv.float;exact⟨.float .f64 a,by cases D <;> simp[convert,run_underlying hs,run_underlying hd,Conv.floatToFloat],.flt _ _ hu.flt_inv⟩
 ·rename_i D q b hs hd;split at h
  ·rename_i n e;obtain⟨h0,h⟩:=and_true h;have hb:=afp h0;refine⟨_,?_,h⟩;intro ok w ρ u hu;obtain rfl:u=.float .f64 b:=hu.flt_inv;exact⟨.int q n,by cases D <;> simp[convert,run_underlying hs,run_underlying hd,Conv.floatToInt,FloatKind.decode,FloatKind.format,e,hb.1,hb.2],.int _ _⟩
  ·cases h
 ·cases h
theorem qG {P:Program} {t:Nat} {g:Bool} (h:pp P t=some g) (w:World):(isAgg t).run P w=.ok g w:=by
 unfold pp at h;unfold isAgg;split at h
 ·rename_i e; cases h; simp[run_underlying e]
 ·rename_i e; cases h; simp[run_underlying e]
 ·rename_i d e1 e2 e; cases h;rw[Sem.run_bind,run_underlying e];cases d <;> first | rfl | (exact absurd rfl (e1 _)) | (exact absurd rfl (e2 _ _))
 ·cases h
theorem eK (b o n:Nat):(⟨b,o,none⟩:Addr).add n=⟨b,o+n,none⟩:=by
 unfold Addr.add; split
 ·subst_vars; rfl
 ·rfl
section
variable {ok:Nat->Prop} {w:World} {ρ:Rho} {v:Value}
theorem Rep.agg_inv {cs:List V} (h:Rep ok w ρ (.agg cs) v):∃ vs:List Value,v=.agg vs.toArray/\cs.length=vs.length/\(∀ u ∈ vs,u.oneCell'=true) /\ ∀(i:Nat) c u,cs[i]? = some c->vs[i]? = some u->Rep ok w ρ c u:=by
 cases h with
 | agg cs vs hl h1 h=>exact⟨vs,rfl,hl,h1,h⟩
theorem Rep.tup_inv {cs:List V} (h:Rep ok w ρ (.tup cs) v):∃ vs:List Value,v=.tuple vs.toArray/\cs.length=vs.length /\ ∀(i:Nat) c u,cs[i]? = some c->vs[i]? = some u->Rep ok w ρ c u:=by
 cases h with
 | tup cs vs hl h=>exact⟨vs,rfl,hl,h⟩
theorem Rep.fn_inv {g:Nat} {caps:List V} (h:Rep ok w ρ (.fn g caps) v):∃ vs:List Value,FnV g vs v/\caps.length=vs.length /\ ∀(i:Nat) c u,caps[i]? = some c->vs[i]? = some u->Rep ok w ρ c u:=by
 cases h with
 | fn g caps vs v hl h hv=>exact⟨vs,hv,hl,h⟩
end
theorem Rep.rp_inv {ok:Nat->Prop} {w:World} {ρ:Rho} {v:Value} {cs:List V} {i:Nat} (h:Rep ok w ρ (.rp cs i) v):∃(b o:Nat) (g:Nat->Value),v=.pointer (some ⟨b,o,none⟩)/\ok b/\b<w.heap.size/\(∀ j,i+j<cs.length->w.cell? ⟨b,o+j,none⟩=some (g (i+j))) /\
  (∀ j,j<cs.length->(g j).oneCell'=true) /\ ∀(j:Nat) c,cs[j]? = some c->Rep ok w ρ c (g j):=by
 cases h with
 | rp cs i b o g hok hb hc h1 hr=>exact⟨b,o,g,rfl,hok,hb,hc,h1,hr⟩
theorem Rep.opt_inv {ok:Nat->Prop} {w:World} {ρ:Rho} {v:Value} {n j i:Nat} (h:Rep ok w ρ (.opt n j i) v):∃ p b,ρ n=some (some p)/\p.subs[j]? = some b/\v=.pointer (some ⟨b,i,none⟩):=by
 cases h with
 | opt _ _ _ b p h1 h2=>exact⟨p,b,h1,h2,rfl⟩
theorem Gu {P:Program} {ok:Nat->Prop} {w:World} {ρ:Rho} {t s off:Nat} {g:Bool} {cs:List V} {vs:List Value} {x:V}
  (hg:pp P t=some g) (hs:iP P t=some s) (hl:cs.length=vs.length) (h1:∀ u ∈ vs,u.oneCell'=true) (h:∀(i:Nat) c u,cs[i]? = some c->vs[i]? = some u->Rep ok w ρ c u)
  (hx:(g=true/\off+s<=cs.length/\x=.agg ((cs.drop off).take s))\/(g=false/\cs[off]? = some x)) :
  ∃ v,(part t vs.toArray off).run P w=.ok v w/\Rep ok w ρ x v:=by
 rcases hx with⟨rfl,hle,rfl⟩ | ⟨rfl,hc⟩
 ·refine⟨.agg ((vs.drop off).take s).toArray,?_,.agg _ _ ?_ ?_ ?_⟩
  ·simp only[part,Sem.run_bind,qG hg,Result.andThen_ok,agU,eu hs,Sem.run_pure];congr 2;apply ahq;simp[List.extract_eq_take_drop]
  ·simp only[af0,agZ]; omega
  ·intro u hu; exact h1 u (ah8 (ah9 hu))
  ·intro i c u hc hu;simp only[List.getElem?_take,List.getElem?_drop]at hc hu;split at hc
   ·rename_i hi; simp only[hi,agU]at hu; exact h _ c u hc hu
   ·cases hc
 ·have hlt:off<vs.length:=by rw[<- hl]; exact(List.getElem?_eq_some_iff.1 hc).1
  refine⟨vs[off],?_,h off x _ hc (by simp[hlt])⟩;simp only[part,Sem.run_bind,qG hg,Result.andThen_ok,af9,afS];simp[hlt]
section
variable {cx:Cx} {base:Nat} {F:List V} {M:aL} {k:KOp}
theorem IP {x:Operand} (h:opV cx base F M (.move x) k=true):∃ y U T,bG cx.P base F M (.move x) y U T/\k y U T=true:=by simp only[opV]at h;exact⟨_,_,_,aS (λG w ρ L a o' ho hs hops _=>⟨a.eval x,w,by simp[execOp,ho],.inl rfl,hops x (by simp[Op.operands])⟩),h⟩
theorem En {x:Operand} (h:opV cx base F M (.assign x) k=true):∃ y U T,bG cx.P base F M (.assign x) y U T/\k y U T=true:=by simp only[opV]at h;exact⟨_,_,_,aS (λG w ρ L a o' ho hs hops _=>⟨a.eval x,w,by simp[execOp,ho],.inl rfl,hops x (by simp[Op.operands])⟩),h⟩
theorem IQ {c x y:Operand} (h:opV cx base F M (.pick c x y) k=true):∃ z U T,bG cx.P base F M (.pick c x y) z U T/\k z U T=true:=by
 simp only[opV]at h;split at h
 ·rename_i t e;cases t
  ·exact⟨_,_,_,aS (λG w ρ L a o' ho hs hops _=>⟨a.eval y,w,by have hc:=hops c (by simp[Op.operands]); rw[e]at hc; have:=hc.bool_inv;simp[execOp,ho,this,asBool],.inl rfl,hops y (by simp[Op.operands])⟩),h⟩
  ·exact⟨_,_,_,aS (λG w ρ L a o' ho hs hops _=>⟨a.eval x,w,by have hc:=hops c (by simp[Op.operands]); rw[e]at hc; have:=hc.bool_inv;simp[execOp,ho,this,asBool],.inl rfl,hops x (by simp[Op.operands])⟩),h⟩
 ·cases h
theorem BE {x:Operand} (h:opV cx base F M (.nilCheck x) k=true):∃ y U T,bG cx.P base F M (.nilCheck x) y U T/\k y U T=true:=by
 simp only[opV]at h;have main:∀ y,ev F x=y->(∀ ok w ρ v,Rep ok w ρ y v->(∃ b,v=.pointer (some b)) \/ ∃ g us vs,v=.func (.func g) us vs)->bG cx.P base F M (.nilCheck x) y [] []:=by intro y e hy;refine aS (λG w ρ L a o' ho hs hops _=>⟨a.eval x,w,?_,.inl rfl,e ▸ hops x (by simp[Op.operands])⟩);have hv:=hops x (by simp[Op.operands]);rw[e]at hv;rcases hy _ _ _ _ hv with⟨b,hb⟩ | ⟨g,us,vs,hb⟩ <;> simp[execOp,ho,hb]
 split at h <;> first
  | (cases h; done)
  | (rename_i e; exact⟨_,_,_,main _ e (λok w ρ v hv=>by cases hv <;> first | exact .inl ⟨_,rfl⟩ | (rename_i hfv; exact .inr (by rcases hfv with⟨_,h⟩ | ⟨_,h⟩ <;> exact⟨_,_,_,h⟩))),h⟩)
theorem GR {op:BinOp} {t t':TypeId} {x y:Operand} (h:opV cx base F M (.binOp op t x y t') k=true):∃ z U T,bG cx.P base F M (.binOp op t x y t') z U T/\k z U T=true:=by simp only[opV]at h;obtain⟨z,hz,hk⟩:=Hs h;refine⟨z,_,_,aS (λG w ρ L a o' ho hs hops _=>?_),hk⟩;obtain⟨r,w',h1,h2,h3,h4⟩:=hz (okc G ρ L) w ρ _ _ (hops x (by simp[Op.operands])) (hops y (by simp[Op.operands]));exact⟨r,w',by simp[execOp,ho,h4,h1],h2,h3⟩
theorem IU {op:UnOp} {t:TypeId} {x:Operand} (h:opV cx base F M (.unOp op t x) k=true):∃ z U T,bG cx.P base F M (.unOp op t x) z U T/\k z U T=true:=by simp only[opV]at h;obtain⟨z,hz,hk⟩:=MB (P:=cx.P) h;refine⟨z,_,_,aS (λG w ρ L a o' ho hs hops _=>?_),hk⟩;obtain⟨r,h1,h3⟩:=hz (okc G ρ L) w ρ _ (hops x (by simp[Op.operands]));exact⟨r,w,by simp[execOp,ho,h1],.inl rfl,h3⟩
theorem Ch {s d:TypeId} {x:Operand} (h:opV cx base F M (.convert s d x) k=true):∃ z U T,bG cx.P base F M (.convert s d x) z U T/\k z U T=true:=by simp only[opV]at h;obtain⟨z,hz,hk⟩:=Ff h;refine⟨z,_,_,aS (λG w ρ L a o' ho hs hops _=>?_),hk⟩;obtain⟨r,h1,h3⟩:=hz (okc G ρ L) w ρ _ (hops x (by simp[Op.operands]));exact⟨r,w,by simp[execOp,ho,h1],.inl rfl,h3⟩
theorem Ci {x:Operand} {i:Nat} (h:opV cx base F M (.extract x i) k=true):∃ z U T,bG cx.P base F M (.extract x i) z U T/\k z U T=true:=by
 simp only[opV]at h;split at h
 ·rename_i vs e;split at h
  ·rename_i v hv;refine⟨_,_,_,aS (λG w ρ L a o' ho hs hops _=>?_),h⟩;have hx:=hops x (by simp[Op.operands]); rw[e]at hx;obtain⟨us,hu,hl,hr⟩:=hx.tup_inv;have hlt:i<us.length:=by rw[<- hl]; exact(List.getElem?_eq_some_iff.1 hv).1
   exact⟨us[i],w,by simp[execOp,ho,hu,Instr.extract,hlt],.inl rfl,hr i v _ hv (by simp[hlt])⟩
  ·cases h
 ·cases h
theorem BD {f:Fn} {first caps:Array Operand} (h:opV cx base F M (.makeFunc f first caps) k=true):∃ z U T,bG cx.P base F M (.makeFunc f first caps) z U T/\k z U T=true:=by
 cases f <;> simp only[opV]at h <;> try (cases h; done)
 rename_i g;obtain⟨h00,h⟩:=and_true h;have hg:g<1000000:=ahU (ahh h00);cases h0:first.isEmpty with
 | false=>
  rw[h0,afk]at h;obtain⟨hc,h1⟩:=and_true h;obtain rfl:caps = #[]:=by simpa using hc
  refine⟨_,_,_,aS (λG w ρ L a o' ho hs hops _=>⟨.func (.func g) (first.map a.eval) #[],w,by simp[execOp,ho,Instr.makeFunc],.inl rfl,?_⟩),h1⟩;refine .fn (g+1000000) _ (first.toList.map a.eval) _ (by simp) ?_ (.inr ⟨by omega,by rw[ahO]; congr 1; apply ahq; simp⟩)
  intro i c u hc hu;rw[List.getElem?_map]at hc hu;obtain⟨y,hy,rfl⟩:=Option.map_eq_some_iff.1 hc;obtain⟨y',hy',rfl⟩:=Option.map_eq_some_iff.1 hu;rw[hy]at hy'; cases hy';refine hops y ?_;have:=List.mem_of_getElem? hy;simp only[Op.operands];simp at this ⊢
  first
   | exact this
   | exact .inl this
 | true=>
 rw[h0,afl]at h;have h1:=h;obtain rfl:first = #[]:=by simpa using h0
 refine⟨_,_,_,aS (λG w ρ L a o' ho hs hops _=>⟨.func (.func g) #[] (caps.map a.eval),w,by simp[execOp,ho,Instr.makeFunc],.inl rfl,?_⟩),h1⟩;have e:caps.map a.eval=(caps.toList.map a.eval).toArray:=by apply ahq; simp
 rw[e];refine .fn g _ _ _ (by simp) ?_ (.inl ⟨hg,rfl⟩);intro i c u hc hu;rw[List.getElem?_map]at hc hu;obtain⟨y,hy,rfl⟩:=Option.map_eq_some_iff.1 hc;obtain⟨y',hy',rfl⟩:=Option.map_eq_some_iff.1 hu;rw[hy]at hy'; cases hy';refine hops y ?_;have:=List.mem_of_getElem? hy;simp[Op.operands];simpa using this
theorem GT {t:TypeId} {x:Operand} {f:Nat} (h:opV cx base F M (.field t x f) k=true):∃ z U T,bG cx.P base F M (.field t x f) z U T/\k z U T=true:=by
 simp only[opV]at h;split at h
 ·rename_i fs hu;split at h
  ·rename_i fd hf;split at h
   ·rename_i ag s cs hag hsz e;have main:∀ y,(ag=true/\fd.offset+s<=cs.length/\y=.agg ((cs.drop fd.offset).take s))\/(ag=false/\cs[fd.offset]? = some y)->bG cx.P base F M (.field t x f) y [] []:=by intro y hy;refine aS (λG w ρ L a o' ho hs hops _=>?_);have hx:=hops x (by simp[Op.operands]); rw[e]at hx;obtain⟨us,hu',hl,h1,hr⟩:=hx.agg_inv;obtain⟨v,hv,hrep⟩:=Gu hag hsz hl h1 hr hy;exact⟨v,w,by simp[execOp,ho,Instr.field,run_underlying hu,hf,hu',asAgg,hv],.inl rfl,hrep⟩
    cases ag
    ·simp only[afk]at h;split at h
     ·rename_i v hv; exact⟨_,_,_,main _ (.inr ⟨rfl,hv⟩),h⟩
     ·cases h
    ·simp only[afl]at h;obtain⟨h0,h1⟩:=and_true h;exact⟨_,_,_,main _ (.inl ⟨rfl,afp h0,rfl⟩),h1⟩
   ·cases h
  ·cases h
 ·cases h
theorem kx {i:Int} {n:Nat} (h:inR i n=true):0<=i/\i<(n:Int):=afp h
theorem GU {t:TypeId} {x j:Operand} (h:opV cx base F M (.index t x j) k=true):∃ z U T,bG cx.P base F M (.index t x j) z U T/\k z U T=true:=by
 simp only[opV]at h;split at h
 ·rename_i len e q i cs hu ei ex;split at h
  ·rename_i ag s hag hsz;obtain⟨hin,h⟩:=and_true h;have hi:=kx hin;have main:∀ y,(ag=true/\cY i.toNat s+s<=cs.length/\y=.agg ((cs.drop (cY i.toNat s)).take s))\/(ag=false/\cs[cY i.toNat s]? = some y)->bG cx.P base F M (.index t x j) y [] []:=by intro y hy;refine aS (λG w ρ L a o' ho hs hops _=>?_);have hx:=hops x (by simp[Op.operands]); rw[ex]at hx;have hj:=hops j (by simp[Op.operands]); rw[ei]at hj;obtain⟨us,hu',hl,h1,hr⟩:=hx.agg_inv;obtain⟨v,hv,hrep⟩:=Gu hag hsz hl h1 hr hy;rw[aQ]at hv;exact⟨v,w,by simp[execOp,ho,Instr.index,run_underlying hu,hu',hj.int_inv,asIntOf,hi.1,hi.2,eu hsz,hv],.inl rfl,hrep⟩
   cases ag
   ·simp only[afk]at h;split at h
    ·rename_i v hv; exact⟨_,_,_,main _ (.inr ⟨rfl,hv⟩),h⟩
    ·cases h
   ·simp only[afl]at h;obtain⟨h0,h1⟩:=and_true h;exact⟨_,_,_,main _ (.inl ⟨rfl,afp h0,rfl⟩),h1⟩
  ·cases h
 ·rename_i q i s hu ei ex;obtain⟨hin,h⟩:=and_true h;have hi:=kx hin;refine⟨_,_,_,aS (λG w ρ L a o' ho hs hops _=>?_),h⟩;have hx:=hops x (by simp[Op.operands]); rw[ex]at hx;have hj:=hops j (by simp[Op.operands]); rw[ei]at hj;have hlt:i.toNat<s.size:=by omega
  have hb:s[i.toNat]? = some s[i.toNat]:=getElem?_pos s i.toNat hlt;have he:(s.data.toList.map λb=>(b.toNat:Int)).getD i.toNat 0=((s[i.toNat].toNat:Nat):Int):=by
   have hl:i.toNat<s.data.toList.length:=by simpa using hlt
   rw[List.getD_eq_getElem?_getD,List.getElem?_map,List.getElem?_eq_getElem hl];rfl
  rw[he];exact⟨_,w,by simp[execOp,ho,Instr.index,run_underlying hu,hx.val_inv,hj.int_inv,asIntOf,hi.1,hb],.inl rfl,.int _ _⟩
 ·cases h
theorem zF {s:TypeId} {x:Operand} {f:Nat} (h:opV cx base F M (.fieldAddr s x f) k=true):∃ z U T,bG cx.P base F M (.fieldAddr s x f) z U T/\k z U T=true:=by
 simp only[opV]at h;split at h
 ·rename_i fs hu;split at h
  ·rename_i fd hf;split at h
   ·rename_i z hz;obtain⟨h0,h⟩:=and_true h;have hz0:¬ z=0:=by simpa using h0
    have run:∀(b o:Nat) (w:World) (v:Value),v=.pointer (some ⟨b,o,none⟩)->(Instr.fieldAt s v f).run cx.P w=.ok (.pointer (some ⟨b,o+fd.offset,none⟩)) w:=by intro b o w v hv;subst hv;simp[Instr.fieldAt,run_underlying hu,hf,Instr.sureAddr,fieldPlace,eu hz,hz0,eK]
    split at h
    ·rename_i n p e;refine⟨_,_,_,aS (λG w ρ L a o' ho hs hops _=>?_),h⟩;have hx:=hops x (by simp[Op.operands]); rw[e]at hx;obtain⟨pl,hp,hv⟩:=hx.ptr_inv;exact⟨_,w,by simp[execOp,ho,run _ _ w _ hv],.inl rfl,.ptr n _ pl hp⟩
    ·rename_i cs i e;refine⟨_,_,_,aS (λG w ρ L a o' ho hs hops _=>?_),h⟩;have hx:=hops x (by simp[Op.operands]); rw[e]at hx;obtain⟨b,o,g,hv,hok,hb,hc,h1,hr⟩:=hx.rp_inv;refine⟨.pointer (some ⟨b,o+fd.offset,none⟩),w,by simp[execOp,ho,run _ _ w _ hv],.inl rfl,.rp cs _ b (o+fd.offset) g hok hb ?_ h1 hr⟩;intro j hj;have:=hc (fd.offset+j) (by omega);rw[<- afY,<- afY]at this;exact this
    ·rename_i n j i e;refine⟨_,_,_,aS (λG w ρ L a o' ho hs hops _=>?_),h⟩;have hx:=hops x (by simp[Op.operands]); rw[e]at hx;obtain⟨p,b,hp,hb,hv⟩:=hx.opt_inv;exact⟨_,w,by simp[execOp,ho,run _ _ w _ hv],.inl rfl,.opt n j _ b p hp hb⟩
    ·cases h
   ·cases h
  ·cases h
 ·cases h
end
end Go.Mach
end
