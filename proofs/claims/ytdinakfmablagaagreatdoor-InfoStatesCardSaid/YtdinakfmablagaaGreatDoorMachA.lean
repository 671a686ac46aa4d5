/- The machine. Conditions: none. -/
import Derived.WalkKit
import Derived.Laws.FloatArith
import Derived.KernelRfl
import Derived.Test.YtdinakfmablagaaGreatDoorTab
set_option linter.unusedVariables false
section
namespace Go.Mach
abbrev afO:=@decide_eq_true
abbrev afP:=@decide_eq_false
abbrev afQ:=@cond_false
abbrev afR:=@cond_true
abbrev afS:=@Nat.mul_comm
abbrev afT:=@Nat.mul_le_mul_right
abbrev afU:=@of_decide_eq_true
abbrev afV:=@Int.toNat_natCast
abbrev afW:=@Nat.mul_le_mul_left
abbrev afX:=@Nat.div_div_eq_div_mul
abbrev afY:=@Nat.div_lt_iff_lt_mul
abbrev afZ:=@Nat.mod_eq_of_lt
abbrev af0:=@Nat.mul_assoc
abbrev af1:=@Nat.le_refl
abbrev af2:=@Nat.pow_succ
abbrev af3:=@Nat.two_pow_pos
abbrev af4:=@Nat.mod_lt
abbrev af5:=@Nat.pow_le_pow_right
abbrev af6:=@Nat.mul_add
abbrev af7:=@List.append_assoc
abbrev af8:=@Nat.pow_add
abbrev af9:=@Nat.lt_of_lt_of_le
abbrev af_:=@List.mem_cons_of_mem
abbrev aga:=@Int.natCast_mul
abbrev agb:=@List.take_of_length_le
abbrev agc:=@List.eq_nil_of_length_eq_zero
abbrev agd:=@Nat.dvd_mul_left_of_dvd
abbrev age:=@Nat.le_trans
abbrev agf:=@Option.some.injEq
abbrev agh:=@Bool.and_eq_true
abbrev agi:=@Nat.mul_left_comm
abbrev agj:=@Option.map_eq_some_iff
abbrev agk:=@Nat.add_mul
abbrev agl:=@Nat.zero_add
abbrev agm:=@Nat.div_eq_of_lt
abbrev agn:=@Nat.add_zero
abbrev ago:=@if_false
abbrev agp:=@List.append_nil
abbrev agq:=@Nat.sub_self
abbrev agr:=@Nat.mul_div_cancel_left
abbrev ags:=@List.length_cons
abbrev agt:=@List.replicate_zero
abbrev agu:=@Nat.add_sub_cancel_left
abbrev agv:=@List.length_take
abbrev agw:=@Bool.not_false
abbrev agx:=@Nat.add_assoc
abbrev agy:=@List.take_length
abbrev agz:=@Nat.mul_lt_mul_of_lt_of_le
abbrev agA:=@List.replicate_succ
abbrev agB:=@List.drop_of_length_le
abbrev agC:=@Option.getD_some
abbrev agD:=@List.nil_append
abbrev agE:=@Nat.mul_lt_mul_of_pos_right
abbrev agF:=@Nat.gcd_dvd_left
abbrev agG:=@Nat.mul_le_mul
abbrev agH:=@Bool.not_true
abbrev agI:=@Int.tmod_eq_emod_of_nonneg
abbrev agJ:=@Nat.div_add_mod
abbrev agK:=@Int.natAbs_natCast
abbrev agL:=@Nat.add_mul_div_left
abbrev agM:=@Nat.div_add_mod'
abbrev agN:=@Nat.le_mul_of_pos_right
abbrev agO:=@List.mem_append_right
abbrev agP:=@Nat.lt_or_ge
abbrev agQ:=@List.map_cons
abbrev agR:=@Bool.false_eq_true
abbrev agS:=@List.drop_append_of_le_length
abbrev agT:=@List.take_append_of_le_length
abbrev agU:=@Int.tdiv_eq_ediv_of_nonneg
abbrev agV:=@Nat.mul_lt_mul_of_lt_of_lt
abbrev agW:=@Bool.true_and
abbrev agX:=@Nat.gcd_pos_of_pos_right
abbrev agY:=@BitVec.ofInt_natCast
abbrev agZ:=@Nat.pow_pos
abbrev ag0:=@Nat.mul_lt_mul_of_pos_left
abbrev ag1:=@List.getElem_mem
abbrev ag2:=@List.size_toArray
abbrev ag3:=@Nat.gcd_dvd_right
abbrev ag4:=@List.length_append
abbrev ag5:=@BitVec.toNat_ofNat
abbrev ag6:=@Nat.gcd_comm
abbrev ag7:=@Nat.add_mul_mod_self_left
abbrev ag8:=@List.take_succ_eq_append_getElem
abbrev ag9:=@List.mem_append_left
abbrev ag_:=@Nat.eq_zero_or_pos
abbrev aha:=@List.length_replicate
abbrev ahb:=@Nat.mul_zero
abbrev ahc:=@List.mem_cons
abbrev ahd:=@decide_eq_true_iff
abbrev ahe:=@Nat.zero_mul
abbrev ahf:=@Nat.min_eq_left
abbrev ahg:=@Int.natCast_pow
abbrev ahh:=@List.drop_zero
abbrev ahi:=@Nat.eq_of_mul_eq_mul_right
abbrev ahj:=@Int.fdiv_eq_ediv_of_nonneg
abbrev ahk:=@Option.map_some
abbrev ahl:=@Bool.eq_iff_iff
abbrev ahm:=@Nat.succ_mul
abbrev ahn:=@Nat.lt_of_le_of_lt
abbrev aho:=@Nat.div_le_self
abbrev ahp:=@List.replicate_succ'
abbrev ahq:=@List.length_drop
abbrev ahr:=@if_true
abbrev ahs:=@List.getElem_of_mem
abbrev aht:=@beq_iff_eq
abbrev ahu:=@List.replicate_append_replicate
abbrev ahv:=@Nat.le.dest
abbrev ahw:=@List.map_append
abbrev ahx:=@Nat.le_div_iff_mul_le
abbrev ahy:=@Nat.mul_div_cancel
abbrev ahz:=@beq_self_eq_true
abbrev ahA:=@List.cons_append
abbrev ahB:=@Nat.mul_mod_mul_left
abbrev ahC:=@List.map_map
abbrev ahD:=@Nat.lt_trans
abbrev ahE:=@Int.natAbs_mul
abbrev ahF:=@decide_eq_true_eq
abbrev ahG:=@Nat.mul_one
abbrev ahH:=@Nat.testBit_two_pow
abbrev ahI:=@Nat.div_one
abbrev ahJ:=@Nat.le_of_ble_eq_true
abbrev ahK:=@Nat.add_comm
abbrev ahL:=@Nat.pow_zero
abbrev ahM:=@Nat.div_lt_of_lt_mul
abbrev ahN:=@List.flatten_cons
abbrev ahO:=@List.length_map
abbrev ahP:=@Int.mul_ediv_cancel_left
abbrev ahQ:=@Nat.one_mul
abbrev ahR:=@Nat.mul_pos
abbrev ahS:=@List.not_mem_nil
abbrev ahT:=@Nat.gcd_le_right
abbrev ahU:=@Array.ext'
abbrev ahV:=@List.mem_cons_self
abbrev ahW:=@Nat.sub_zero
abbrev ahX:=@List.length_nil
abbrev ahY:=@Nat.le_of_eq
abbrev ahZ:=@List.set_append_right
abbrev ah0:=@Nat.mod_add_div
abbrev ah1:=@Nat.mul_add_mod
abbrev ah2:=@Std.Legacy.Range.forIn_eq_forIn_range'
abbrev ah3:=@Array.size_append
abbrev ah4:=@Bool.and_true
abbrev ah5:=@Nat.eq_of_testBit_eq
abbrev ah6:=@Nat.div_le_div_right
abbrev ah7:=@Nat.le_sub_one_of_lt
abbrev ah8:=@List.take_zero
abbrev ah9:=@Nat.lt_of_mul_lt_mul_left
abbrev ah_:=@Nat.le_add_right
abbrev aia:=@Array.length_toList
abbrev aib:=@List.map_congr_left
abbrev aic:=@Int.toNat_of_nonneg
abbrev aid:=@Int.mul_sub
abbrev aie:=@Nat.div_pos
abbrev aif:=@Nat.lt_mul_div_succ
abbrev aig:=@Nat.dvd_sub
abbrev aih:=@Nat.add_sub_cancel
abbrev aii:=@decide_eq_false_iff_not
abbrev aij:=@List.length_set
abbrev aik:=@List.mem_append
abbrev ail:=@Nat.lt_or_gt_of_ne
abbrev aim:=@Nat.gcd_zero_right
abbrev ain:=@Nat.pos_of_ne_zero
abbrev aio:=@Nat.lt_succ_of_le
abbrev aip:=@Nat.lt_trichotomy
abbrev aiq:=@Bool.eq_false_iff
abbrev air:=@Bool.false_and
abbrev ais:=@Int.natAbs_neg
abbrev ait:=@Nat.and_two_pow_sub_one_eq_mod
abbrev aiu:=@List.take_append_drop
abbrev aiv:=@Nat.mul_div_mul_right
abbrev aiw:=@Nat.mul_mod_mul_right
abbrev aix:=@List.map_toArray
abbrev aiy:=@BitVec.toNat_and
abbrev aiz:=@Nat.testBit_zero
abbrev aiA:=@Nat.testBit_succ
abbrev aiB:=@List.mem_of_mem_drop
abbrev aiC:=@List.mem_of_mem_take
abbrev aiD:=@Nat.testBit_two_pow_sub_succ
abbrev aiE:=@List.take_succ_cons
abbrev aiF:=@Nat.mod_one
abbrev aiG:=@Nat.mod_mul
abbrev aiH:=@Nat.two_pow_add_eq_or_of_lt
abbrev aiI:=@Nat.pow_mul
abbrev aiJ:=@Int.mul_neg
abbrev aiK:=@Nat.testBit_and
abbrev aiL:=@Nat.testBit_two_pow_mul_add
abbrev aiM:=@Nat.mul_add_div
abbrev aiN:=@Nat.pow_one
abbrev aiO:=@Nat.gcd_rec
abbrev aiP:=@decide_false
abbrev aiQ:=@List.mem_singleton
abbrev aiR:=@Nat.mul_right_comm
abbrev aiS:=@Option.map_map
abbrev aiT:=@List.take_take
abbrev aiU:=@Bool.not_eq_true'
abbrev aiV:=@Nat.mul_mod_right
abbrev aiW:=@decide_true
abbrev aiX:=@Bool.false_or
abbrev aiY:=@congrArg
abbrev aiZ:=@Int.neg_mul
abbrev ai0:=@Rat.num_mkRat
abbrev ai1:=@Rat.den_mkRat
abbrev ai2:=@Option.bind_some
abbrev ai3:=@Nat.mul_lt_mul''
abbrev ai4:=@Nat.min_le_right
abbrev ai5:=@List.cons.injEq
abbrev ai6:=@Bool.or_eq_true
abbrev ai7:=@Nat.mul_succ
abbrev ai8:=@Nat.mul_ne_zero
abbrev ai9:=@Nat.zero_le
def ile:Int->Int->Bool
 | .ofNat a,.ofNat b=>Nat.ble a b
 | .negSucc _,.ofNat _=>true
 | .ofNat _,.negSucc _=>false
 | .negSucc a,.negSucc b=>Nat.ble b a
theorem Jf (a b:Int):ile a b=true↔a<=b:=by cases a <;> cases b <;> simp only[ile,Nat.ble_eq,Int.ofNat_eq_natCast,reduceCtorEq,true_iff,false_iff] <;> omega
theorem Qq (a b:Int):(!ile b a)=true↔a<b:=by have:=Jf b a;cases h:ile b a <;> simp[h]at this ⊢ <;> omega
def NH {p:Prop}:(b:Bool)->(b=true↔p)->Decidable p
 | true,h=>.isTrue (h.1 rfl)
 | false,h=>.isFalse λhp=>by simpa using h.2 hp
instance (priority:=10000) decIntLe (a b:Int):Decidable (a<=b):=NH (ile a b) (Jf a b)
instance (priority:=10000) decIntLt (a b:Int):Decidable (a<b):=NH (!ile b a) (Qq a b)
abbrev Fl:=Option Nat
def isNaN (b:Nat):Bool:=(Ieee.double.read b).isNaN
def jF (b:Nat):Fl:=cond (isNaN b) none (some b)
def Fr (f:Nat->Nat->Option Nat):Fl->Fl->Fl
 | some a,some b=>f a b
 | _,_=>none
def nl (x y:Fl):Fl:=Fr Ieee.double.add x y
def qz (x y:Fl):Fl:=Fr Ieee.double.sub x y
def dU (x y:Fl):Fl:=Fr Ieee.double.mul x y
def fdiv (x y:Fl):Fl:=Fr Ieee.double.div x y
def uJ:Fl->Fl
 | some a=>Ieee.double.sqrt a
 | none=>none
def Ve:Fl->Fl
 | some a=>some (Op.negFloat .f64 a)
 | none=>none
def wr:Fl->Fl->Option Ordering
 | some a,some b=>Ieee.double.order a b
 | _,_=>none
def feq (x y:Fl):Bool:=wr x y==some .eq
def flt (x y:Fl):Bool:=wr x y==some .lt
def fgt (x y:Fl):Bool:=wr x y==some .gt
def fle (x y:Fl):Bool:=wr x y==some .lt||wr x y==some .eq
def fge (x y:Fl):Bool:=wr x y==some .gt||wr x y==some .eq
def fmm (mx:Bool):Fl->Fl->Fl
 | some x,some y=>match Ieee.double.order x y with
  | none=>none
  | some .lt=>some (cond mx y x)
  | some .gt=>some (cond mx x y)
  | some .eq=>some (cond (Ieee.double.read x).neg (cond mx y x) (cond mx x y))
 | _,_=>none
def imm (mx:Bool) (x y:Int):Int:=cond mx (cond (decide (y>x)) y x) (cond (decide (y<x)) y x)
inductive RT where
 | flt
 | int (k:IntKind)
 | bool
 | fls
 | ints (k:IntKind)
 | pair (a b:RT)
 | rows (a:RT)
 | ptr (a:RT)
 deriving Inhabited
@[reducible] def RT.Ty:RT->Type
 | .flt=>Fl
 | .int _=>Int
 | .bool=>Bool
 | .fls=>List Fl
 | .ints _=>List Int
 | .pair a b=>a.Ty × b.Ty
 | .rows a=>List a.Ty
 | .ptr a=>a.Ty
def RT.dflt:(t:RT)->t.Ty
 | .flt=>(none:Option Nat)
 | .int _=>(0:Int)
 | .bool=>false
 | .fls=>([]:List Fl)
 | .ints _=>([]:List Int)
 | .pair a b=>(a.dflt,b.dflt)
 | .rows a=>([]:List a.Ty)
 | .ptr a=>a.dflt
def RT.sz:RT->Nat
 | .pair a b=>a.sz+b.sz
 | _=>1
def RT.beq:RT->RT->Bool
 | .flt,.flt=>true
 | .int k,.int k'=>decide (k=k')
 | .bool,.bool=>true
 | .fls,.fls=>true
 | .ints k,.ints k'=>decide (k=k')
 | .pair a b,.pair c d=>RT.beq a c&&RT.beq b d
 | .rows a,.rows c=>RT.beq a c
 | .ptr a,.ptr c=>RT.beq a c
 | _,_=>false
theorem RT.eq_of_beq:∀{a b:RT},RT.beq a b=true->a=b
 | .flt,b,h=>by cases b <;> simp[RT.beq]at h; rfl
 | .int k,b,h=>by cases b <;> simp[RT.beq]at h; subst h; rfl
 | .bool,b,h=>by cases b <;> simp[RT.beq]at h; rfl
 | .fls,b,h=>by cases b <;> simp[RT.beq]at h; rfl
 | .ints k,b,h=>by cases b <;> simp[RT.beq]at h; subst h; rfl
 | .pair a c,b,h=>by
  cases b <;> simp[RT.beq]at h
  rw[RT.eq_of_beq h.1,RT.eq_of_beq h.2]
 | .rows a,b,h=>by cases b <;> simp[RT.beq]at h; rw[RT.eq_of_beq h]
 | .ptr a,b,h=>by cases b <;> simp[RT.beq]at h; rw[RT.eq_of_beq h]
def RT.cast {β:Type} (t t':RT) (xs:List t'.Ty) (k:List t.Ty->β) (d:β):β:=
 match h:RT.beq t' t with
 | true=>k ((RT.eq_of_beq h) ▸ xs)
 | false=>d
theorem RT.cast_inv {β:Type} {t t':RT} {xs:List t'.Ty} {k:List t.Ty->β} {d r:β} (h:RT.cast t t' xs k d=r) (hd:d ≠ r):∃ e:t'=t,k (e ▸ xs)=r:=by
 unfold RT.cast at h;split at h
 ·exact⟨_,h⟩
 ·exact absurd h hd
def RT.plain:RT->Bool
 | .flt=>true
 | .int _=>true
 | .bool=>true
 | .pair a b=>a.plain&&b.plain
 | _=>false
inductive V where
 | any
 | nil
 | bool (b:Bool)
 | int (k:IntKind) (n:Int)
 | flt (x:Fl)
 | val (v:Value)
 | fn (f:Nat) (caps:List V)
 | ptr (n o:Nat)
 | slw (n:Nat)
 | sl (n o len:Nat)
 | rof (xs:List Fl)
 | roi (k:IntKind) (xs:List Int)
 | ro (sz:Nat) (cs:List V)
 | pf (xs:List Fl) (i:Nat)
 | pi (k:IntKind) (xs:List Int) (i:Nat)
 | rp (cs:List V) (i:Nat)
 | agg (cs:List V)
 | tup (vs:List V)
 | rl (t:RT) (xs:List t.Ty)
 | opt (n e o:Nat)
 deriving Inhabited
def V.one:V->Bool
 | .any | .agg _ | .tup _=>false
 | .val v=>v.oneCell'
 | _=>true
inductive Body where
 | flts (xs:List Fl)
 | ints (k:IntKind) (xs:List Int)
 | cells (cs:List V)
 | recs (t:RT) (xs:List t.Ty)
 | own (t:Nat) (a:RT) (xs:List a.Ty) (hs:List Nat)
 deriving Inhabited
def RT.cells:(t:RT)->t.Ty->List V
 | .flt,x=>[.flt x]
 | .int k,n=>[.int k n]
 | .bool,b=>[.bool b]
 | .fls,xs=>[.rof xs]
 | .ints k,xs=>[.roi k xs]
 | .pair a b,p=>a.cells p.1++b.cells p.2
 | .rows a,xs=>[.rl a xs]
 | .ptr a,x=>[.rp (a.cells x) 0]
def RT.flat (t:RT) (xs:List t.Ty):List V:=(xs.map t.cells).flatten
def RT.parse:(t:RT)->List V->Option (t.Ty × List V)
 | .flt,.flt x::r=>some (x,r)
 | .int k,.int k' n::r=>cond (decide (k=k')) (some (n,r)) none
 | .bool,.bool b::r=>some (b,r)
 | .fls,.rof xs::r=>some (xs,r)
 | .fls,.nil::r=>some ([],r)
 | .ints k,.roi k' xs::r=>cond (decide (k=k')) (some (xs,r)) none
 | .ints _,.nil::r=>some ([],r)
 | .pair a b,cs=>match a.parse cs with
  | some (x,r)=>match b.parse r with
   | some (y,r')=>some ((x,y),r')
   | none=>none
  | none=>none
 | .rows a,.rl t xs::r=>RT.cast a t xs (λys=>some (ys,r)) none
 | .rows _,.nil::r=>some ([],r)
 | .ptr a,.rp cs i::r=>cond (i==0) (match a.parse cs with
  | some (x,[])=>some (x,r)
  | _=>none) none
 | _,_=>none
def RT.parses (t:RT):Nat->List V->Option (List t.Ty)
 | _,[]=>some []
 | 0,_=>none
 | n+1,cs=>match t.parse cs with
  | some (x,r)=>(RT.parses t n r).map (x :: ·)
  | none=>none
def cz (i s:Nat):Nat:=match s with
 | 1=>i
 | s=>i*s
def Body.size:Body->Nat
 | .flts xs=>xs.length
 | .ints _ xs=>xs.length
 | .cells cs=>cs.length
 | .recs t xs=>cz xs.length t.sz
 | .own _ _ xs _=>xs.length
def Body.isOwn:Body->Bool
 | .own _ _ _ _=>true
 | _=>false
def Body.holes:Body->List Nat
 | .own _ _ _ hs=>hs
 | _=>[]
structure Blk where
 e:Nat
 sz:Nat
 c:Body
 deriving Inhabited
abbrev aJ:=List (Option Blk)
def ar (M:aJ) (n:Nat):Option Blk:=
 match M[n]? with
 | some (some b)=>some b
 | _=>none
def Bn:Value->V
 | .bool b=>.bool b
 | .int k n=>.int k n
 | .float .f64 b=>.flt (jF b)
 | .slice none 0 0=>.nil
 | .agg cs=>.val (.agg cs)
 | v=>.val v
def W0 (v:Value):V:=Bn v
def ev (F:List V):Operand->V
 | .tmp t=>F.getD t .any
 | .const v=>W0 v
 | .global g=>.val (.pointer (some ⟨g,0,none⟩))
 | .func f=>cond (Nat.ble f 999999) (.fn f []) .any
def xt (P:Program) (t:Nat):Option Nat:=
 match P.underlying t with
 | some (.slice e)=>some e
 | _=>none
def iP (P:Program) (t:Nat):Option Nat:=(P.info? t).map (·.size)
def bytesOf (P:Program) (t:Nat):Option Nat:=(P.info? t).map (·.bytes)
def pg (P:Program) (t:Nat):Option Bool:=
 match P.underlying t with
 | some (.struct _) | some (.array _ _)=>some true
 | some _=>some false
 | none=>none
def ci (P:Program) (t:Nat):Option (List V):=
 match P.info? t with
 | some i=>i.zero.map λv=>v.cells.toList.map Bn
 | none=>none
def tM:V->Option (List V)
 | .agg cs=>some cs
 | v=>cond v.one (some [v]) none
def Aa:List V->Option (List Fl)
 | []=>some []
 | .flt x::r=>(Aa r).map (x :: ·)
 | _=>none
def vi (k:IntKind):List V->Option (List Int)
 | []=>some []
 | .int k' n::r=>cond (decide (k'=k)) ((vi k r).map (n :: ·)) none
 | _=>none
def xP (P:Program) (e:Nat) (cs:List V):Option Body:=
 match P.underlying e with
 | some (.float .f64)=>(Aa cs).map .flts
 | some (.int k)=>(vi k cs).map (.ints k)
 | some _=>cond (cs.all V.one) (some (.cells cs)) none
 | none=>none
def qm (P:Program) (t:Nat) (cs:List V):Body:=
 match P.underlying t with
 | some (.array _ e)=>match xP P e cs with
  | some c=>c
  | none=>.cells cs
 | _=>.cells cs
def jX (P:Program) (e n:Nat):Option Body:=
 match P.underlying e,ci P e with
 | some (.float .f64),some [.flt x]=>some (.flts (List.replicate n x))
 | some (.int k),some [.int k' x]=>cond (decide (k'=k)) (some (.ints k (List.replicate n x))) none
 | some _,some z=>some (.cells ((List.replicate n z).flatten))
 | _,_=>none
def Body.get (b:Body) (o:Nat) (k:V->Bool):Bool:=
 match b with
 | .flts xs=>decide (o<xs.length)&&k (.flt (xs.getD o none))
 | .ints q xs=>decide (o<xs.length)&&k (.int q (xs.getD o 0))
 | .cells cs=>match cs[o]? with
  | some v=>k v
  | none=>false
 | .recs t xs=>t.sz==1&&(decide (o<xs.length)&&match t.cells (xs.getD o t.dflt)with
  | [v]=>k v
  | _=>false)
 | .own _ _ _ _=>false
def Body.set (b:Body) (o:Nat) (v:V) (k:Body->Bool):Bool:=
 match b,v with
 | .flts xs,.flt x=>decide (o<xs.length)&&k (.flts (xs.set o x))
 | .ints q xs,.int q' n=>decide (q=q')&&(decide (o<xs.length)&&k (.ints q (xs.set o n)))
 | .cells cs,v=>match cs[o]? with
  | some _=>v.one&&k (.cells (cs.set o v))
  | none=>false
 | .recs t xs,v=>(t.sz==1&&v.one)&&(decide (o<xs.length)&&match t.parse [v]with
  | some (x,[])=>k (.recs t (xs.set o x))
  | _=>false)
 | _,_=>false
def Body.part (b:Body) (o s:Nat) (k:List V->Bool):Bool:=
 match b with
 | .cells cs=>decide (o+s<=cs.length)&&k ((cs.drop o).take s)
 | .flts xs=>decide (o+s<=xs.length)&&k (((xs.drop o).take s).map .flt)
 | .ints q xs=>decide (o+s<=xs.length)&&k (((xs.drop o).take s).map (.int q))
 | .recs t xs=>(t.sz==1&&s==1)&&(decide (o<xs.length)&&k (t.cells (xs.getD o t.dflt)))
 | .own _ _ _ _=>false
def setFrom {α:Type}:List α->Nat->List α->List α
 | cs,_,[]=>cs
 | cs,o,v::r=>setFrom (cs.set o v) (o+1) r
def Body.setPart (b:Body) (o:Nat) (vs:List V) (k:Body->Bool):Bool:=
 match b with
 | .cells cs=>decide (o+vs.length<=cs.length)&&(vs.all V.one&&k (.cells (setFrom cs o vs)))
 | .flts xs=>match Aa vs with
  | some ys=>decide (o+vs.length<=xs.length)&&k (.flts (setFrom xs o ys))
  | none=>false
 | .ints q xs=>match vi q vs with
  | some ys=>decide (o+vs.length<=xs.length)&&k (.ints q (setFrom xs o ys))
  | none=>false
 | .recs t xs=>(t.sz==1&&(vs.length==1&&vs.all V.one))&&(decide (o<xs.length)&&match t.parse vs with
  | some (x,[])=>k (.recs t (xs.set o x))
  | _=>false)
 | .own _ _ _ _=>false
mutual
def V.ren (f:Nat->Option Nat):V->V
 | .ptr n o=>match f n with
  | some m=>.ptr m o
  | none=>.any
 | .slw n=>match f n with
  | some m=>.slw m
  | none=>.any
 | .sl n o l=>match f n with
  | some m=>.sl m o l
  | none=>.any
 | .opt n e o=>match f n with
  | some m=>.opt m e o
  | none=>.any
 | .fn g caps=>.fn g (ii f caps)
 | .ro sz cs=>.ro sz (ii f cs)
 | .rp cs i=>.rp (ii f cs) i
 | .agg cs=>.agg (ii f cs)
 | .tup vs=>.tup (ii f vs)
 | .any=>.any
 | .nil=>.nil
 | .bool b=>.bool b
 | .int k n=>.int k n
 | .flt x=>.flt x
 | .val v=>.val v
 | .rof xs=>.rof xs
 | .roi k xs=>.roi k xs
 | .pf xs i=>.pf xs i
 | .pi k xs i=>.pi k xs i
 | .rl t xs=>.rl t xs
def ii (f:Nat->Option Nat):List V->List V
 | []=>[]
 | v::r=>V.ren f v::ii f r
end
mutual
def V.refs:V->List Nat
 | .ptr n _=>[n]
 | .slw n=>[n]
 | .sl n _ _=>[n]
 | .opt n _ _=>[n]
 | .fn _ caps=>mK caps
 | .ro _ cs=>mK cs
 | .rp cs _=>mK cs
 | .agg cs=>mK cs
 | .tup vs=>mK vs
 | _=>[]
def mK:List V->List Nat
 | []=>[]
 | v::r=>V.refs v++mK r
end
mutual
def V.free:V->Bool
 | .rof _=>false
 | .roi _ _=>false
 | .ro _ _=>false
 | .pf _ _=>false
 | .pi _ _ _=>false
 | .rp _ _=>false
 | .rl _ _=>false
 | .fn _ caps=>yE caps
 | .agg cs=>yE cs
 | .tup vs=>yE vs
 | .val v=>v.oneCell'
 | .any=>false
 | _=>true
def yE:List V->Bool
 | []=>true
 | v::r=>V.free v&&yE r
end
def Body.ren (f:Nat->Option Nat):Body->Body
 | .cells cs=>.cells (ii f cs)
 | b=>b
def Blk.ren (f:Nat->Option Nat) (b:Blk):Blk:={ b with c:=b.c.ren f }
def Body.refs:Body->List Nat
 | .cells cs=>mK cs
 | _=>[]
def Body.free:Body->Bool
 | .cells cs=>yE cs
 | .recs t _=>t.plain
 | .own _ a _ _=>a.plain
 | _=>true
def Body.cut (c:Body) (o n:Nat):Option Body:=
 match c with
 | .flts xs=>cond (decide (o+n<=xs.length)) (some (.flts ((xs.drop o).take n))) none
 | .ints k xs=>cond (decide (o+n<=xs.length)) (some (.ints k ((xs.drop o).take n))) none
 | .cells cs=>cond (decide (o+n<=cs.length)) (some (.cells ((cs.drop o).take n))) none
 | .recs t xs=>cond (t.sz==1) (cond (decide (o+n<=xs.length)) (some (.recs t ((xs.drop o).take n))) none) none
 | .own _ _ _ _=>none
def Body.cutK (c:Body) (o n:Nat) (k:Body->Bool):Bool:=
 match c with
 | .flts xs=>decide (o+n<=xs.length)&&k (.flts ((xs.drop o).take n))
 | .ints q xs=>decide (o+n<=xs.length)&&k (.ints q ((xs.drop o).take n))
 | .cells cs=>decide (o+n<=cs.length)&&k (.cells ((cs.drop o).take n))
 | .recs t xs=>t.sz==1&&(decide (o+n<=xs.length)&&k (.recs t ((xs.drop o).take n)))
 | .own _ _ _ _=>false
def ka (M:aJ):Nat->V->Option V
 | 0,_=>none
 | d+1,.slw n=>match ar M n with
  | some ⟨_,sz,.flts xs⟩=>cond (sz==1) (some (.rof xs)) none
  | some ⟨_,sz,.ints k xs⟩=>cond (sz==1) (some (.roi k xs)) none
  | some ⟨_,sz,.cells cs⟩=>(cs.mapM (ka M d)).map (.ro sz)
  | some ⟨_,sz,.recs t xs⟩=>cond (sz==t.sz) (some (.rl t xs)) none
  | some ⟨_,sz,.own _ a xs []⟩=>cond (sz==1) (some (.rl (.ptr a) xs)) none
  | some ⟨_,_,.own _ _ _ (_::_)⟩=>none
  | none=>none
 | _+1,.opt n e o=>match ar M n with
  | some ⟨_,_,.own _ a xs []⟩=>some (.rp (a.cells (xs.getD e a.dflt)) o)
  | _=>none
 | d+1,.sl n o len=>match ar M n with
  | some b=>match b.c.cut o (cz len b.sz)with
   | some (.flts xs)=>cond (b.sz==1) (some (.rof xs)) none
   | some (.ints k xs)=>cond (b.sz==1) (some (.roi k xs)) none
   | some (.cells cs)=>(cs.mapM (ka M d)).map (.ro b.sz)
   | some (.recs t xs)=>cond (b.sz==t.sz) (some (.rl t xs)) none
   | some (.own _ _ _ _)=>none
   | none=>none
  | none=>none
 | d+1,.agg cs=>(cs.mapM (ka M d)).map .agg
 | _+1,v=>some v
def Be (f:V->(V->Bool)->Bool):List V->(List V->Bool)->Bool
 | [],k=>k []
 | v::r,k=>f v λv'=>Be f r λr'=>k (v'::r')
def F2 (M:aJ):Nat->V->(V->Bool)->Bool
 | 0,_,_=>false
 | d+1,.sl n o len,k=>match ar M n with
  | some ⟨_,1,.flts xs⟩=>decide (o+len<=xs.length)&&k (.rof ((xs.drop o).take len))
  | some ⟨_,1,.ints q xs⟩=>decide (o+len<=xs.length)&&k (.roi q ((xs.drop o).take len))
  | _=>match ka M (d+1) (.sl n o len)with
   | some v'=>k v'
   | none=>false
 | d+1,.agg cs,k=>Be (F2 M d) cs λcs'=>k (.agg cs')
 | d+1,v,k=>match ka M (d+1) v with
  | some v'=>k v'
  | none=>false
@[simp] def Body.isCells:Body->Bool
 | .cells _=>true
 | _=>false
theorem Body.cut_cells {c:Body} {o n:Nat} {cs:List V} (h:c.cut o n=some (.cells cs)):c.isCells=true:=by
 cases c with
 | cells _=>rfl
 | flts xs=>unfold Body.cut at h; cases hd:decide (o+n<=xs.length) <;> simp[hd]at h
 | ints k xs=>unfold Body.cut at h; cases hd:decide (o+n<=xs.length) <;> simp[hd]at h
 | recs t xs=>unfold Body.cut at h; cases hz:(t.sz==1) <;> cases hd:decide (o+n<=xs.length) <;> simp[hz,hd]at h
 | own _ _ _ _=>cases h
def mW (M:aJ):Nat->V->List Nat
 | 0,_=>[]
 | d+1,.slw n=>match ar M n with
  | some ⟨_,_,.cells cs⟩=>n::(cs.map (mW M d)).flatten
  | _=>[n]
 | d+1,.sl n o len=>match ar M n with
  | some b=>cond b.c.isCells (match b.c.cut o (cz len b.sz)with
   | some (.cells cs)=>n::(cs.map (mW M d)).flatten
   | _=>[n]) [n]
  | none=>[n]
 | _+1,.opt n _ _=>[n]
 | d+1,.agg cs=>(cs.map (mW M d)).flatten
 | _+1,_=>[]
def kK:List Nat->Bool
 | []=>true
 | n::r=>!r.contains n&&kK r
def kinds (P:Program):Nat->Nat->List Nat
 | 0,t=>[t]
 | d+1,t=>match P.underlying t with
  | some (.struct fs)=>(fs.toList.map λf=>kinds P d f.type).flatten
  | some (.array n e)=>(List.replicate n (kinds P d e)).flatten
  | _=>[t]
def Ge:List RT->Option RT
 | []=>none
 | [t]=>some t
 | t::r=>(Ge r).map (.pair t)
def Bt (P:Program):Nat->Nat->Option RT
 | 0,_=>none
 | d+1,t=>match P.underlying t with
  | some (.float .f64)=>some .flt
  | some (.int k)=>some (.int k)
  | some .bool=>some .bool
  | some (.slice e)=>match P.underlying e with
   | some (.float .f64)=>some .fls
   | some (.int k)=>some (.ints k)
   | _=>(Bt P d e).map .rows
  | some (.pointer e)=>(Bt P d e).map .ptr
  | some (.struct fs)=>(fs.toList.mapM λf=>Bt P d f.type).bind Ge
  | some (.array n e)=>(Bt P d e).bind λx=>Ge (List.replicate n x)
  | _=>none
def xv (P:Program) (e:Nat):Option Body:=match jX P e 0 with
 | some (.cells cs)=>match Bt P 6 e with
  | some t=>some (.recs t [])
  | none=>some (.cells cs)
 | b=>b
def Fm (P:Program) (e:Nat):Option Body:=match P.underlying e with
 | some (.pointer t)=>(Bt P 6 t).map λa=>.own t a [] []
 | _=>none
def Jy (P:Program) (t:Nat):V->V
 | .nil=>match P.underlying t with
  | some (.slice e)=>match P.underlying e with
   | some (.float .f64)=>.rof []
   | some (.int k)=>.roi k []
   | _=>match Bt P 6 e with
    | some t=>.rl t []
    | none=>.ro ((iP P e).getD 1) []
  | _=>.nil
 | v=>v
def lT (P:Program):List Nat->List V->List V
 | t::ts,v::vs=>Jy P t v::lT P ts vs
 | _,vs=>vs
def D6 (P:Program) (t:Nat):V->V
 | .agg cs=>.agg (lT P (kinds P 4 t) cs)
 | v=>Jy P t v
def iW (P:Program):List Nat->List V->List V
 | t::ts,v::vs=>D6 P t v::iW P ts vs
 | _,vs=>vs
abbrev Dt:=Nat->List V->List Blk->(V->List Blk->Bool)->Bool
structure Cx where
 P:Program
 O:Dt
 ref:Nat->Bool
 N:Nat
structure St where
 F:List V
 M:aJ
abbrev Upd:=List (Nat × Option Blk)
def yT (M:aJ) (n:Nat) (b:Option Blk):aJ:=
 cond (decide (n<M.length)) (M.set n b) (M++List.replicate (n - M.length) none++[b])
def nh:aJ->Upd->aJ
 | M,[]=>M
 | M,(n,b)::r=>nh (yT M n b) r
def af (k:IntKind) (n:Int):Bool:=decide (k.min<=n/\n<=k.max)
def wM (q:IntKind) (r:Int) (k:V->Bool):Bool:=
 match q with
 | .i64=>af .i64 r&&k (.int .i64 r)
 | q=>k (.int q (q.wrap r))
def rn (op:BinOp) (k:IntKind) (x y:Int):Option Int:=
 let a:=BitVec.ofInt k.bits x
 let b:=BitVec.ofInt k.bits y
 match op with
 | .and=>some (k.wrap (a &&& b).toNat)
 | .or=>some (k.wrap (a ||| b).toNat)
 | .xor=>some (k.wrap (a ^^^ b).toNat)
 | .andNot=>some (k.wrap (a &&& ~~~b).toNat)
 | _=>none
def N9 (op:BinOp) (q:IntKind) (a b:Int) (k:V->Bool):Bool:=
 match op with
 | .add=>wM q (a+b) k
 | .sub=>wM q (a - b) k
 | .mul=>wM q (a*b) k
 | .quo=>!decide (b=0)&&wM q (a.tdiv b) k
 | .rem=>!decide (b=0)&&k (.int q (a.tmod b))
 | .eql=>k (.bool (a==b))
 | .neq=>k (.bool (a != b))
 | .lss=>k (.bool (decide (a<b)))
 | .leq=>k (.bool (decide (a<=b)))
 | .gtr=>k (.bool (decide (a>b)))
 | .geq=>k (.bool (decide (a>=b)))
 | op=>match rn op q a b with
  | some r=>k (.int q r)
  | none=>false
def N0 (op:BinOp) (x y:Fl) (k:V->Bool):Bool:=
 match op with
 | .add=>k (.flt (nl x y))
 | .sub=>k (.flt (qz x y))
 | .mul=>k (.flt (dU x y))
 | .quo=>k (.flt (fdiv x y))
 | .eql=>k (.bool (feq x y))
 | .neq=>k (.bool (!feq x y))
 | .lss=>k (.bool (flt x y))
 | .leq=>k (.bool (fle x y))
 | .gtr=>k (.bool (fgt x y))
 | .geq=>k (.bool (fge x y))
 | _=>false
def zH (P:Program) (t:Nat):Bool:=
 match P.underlying t with
 | some .bool=>true
 | _=>false
def Ma (P:Program) (n t:Nat):Bool:=match P.underlying t with
 | some (.array m e)=>(m==n)&&match P.underlying e,iP P e,pg P e with
  | some (.float .f64),some 1,some false=>!P.eqGuardType P.depth t
  | _,_,_=>false
 | _=>false
def Q9 (P:Program) (t:Nat):Bool:=match P.underlying t with
 | some (.pointer _)=>true
 | _=>false
def Ej (P:Program) (t:Nat):Bool:=match P.underlying t with
 | some (.slice _)=>true
 | _=>false
def Vb (op:BinOp) (isB isV isW isP isS:Bool) (x y:V) (k:V->Bool):Bool:=
 match op,x,y with
 | .shl,.int q a,.int _ b=>decide (0<=b)&&wM q (a*2 ^ (min b.toNat q.bits)) k
 | .shr,.int q a,.int _ b=>decide (0<=b)&&k (.int q (a.fdiv (2 ^ (min b.toNat q.bits))))
 | op,.int q a,.int q' b=>decide (q=q')&&N9 op q a b k
 | op,.flt a,.flt b=>N0 op a b k
 | .eql,.bool a,.bool b=>isB&&k (.bool (a==b))
 | .neq,.bool a,.bool b=>isB&&k (.bool (a != b))
 | .neq,.ptr _ _,.val (.pointer none)=>isP&&k (.bool true)
 | .neq,.val (.pointer none),.val (.pointer none)=>isP&&k (.bool false)
 | .eql,.ptr _ _,.val (.pointer none)=>isP&&k (.bool false)
 | .eql,.val (.pointer none),.val (.pointer none)=>isP&&k (.bool true)
 | .eql,.rof (_::_),.nil=>isS&&k (.bool false)
 | .eql,.val (.slice none _ _),.nil=>isS&&k (.bool true)
 | .eql,.val (.slice (some _) _ _),.nil=>isS&&k (.bool false)
 | .eql,.nil,.nil=>isS&&k (.bool true)
 | .eql,.agg [.flt a,.flt b,.flt c],.agg [.flt d,.flt e,.flt f]=>isV&&k (.bool (feq a d&&(feq b e&&feq c f)))
 | .eql,.agg [.flt a,.flt b,.flt c,.flt d],.agg [.flt e,.flt f,.flt g,.flt h]=>isW&&k (.bool (feq a e&&(feq b f&&(feq c g&&feq d h))))
 | _,_,_=>false
def unV (op:UnOp) (x:V) (k:V->Bool):Bool:=
 match op,x with
 | .not,.bool b=>k (.bool (!b))
 | .neg,.int q n=>wM q (0 - n) k
 | .neg,.flt x=>k (.flt (Ve x))
 | .xor,.int q n=>match rn .xor q (if q.signed then -1 else q.max) n with
  | some r=>k (.int q r)
  | none=>false
 | _,_=>false
def NE (P:Program) (src dst:Nat) (x:V) (k:V->Bool):Bool:=
 match P.underlying src,P.underlying dst,x with
 | some _,some (.int q),.int _ n=>wM q n k
 | some _,some (.float .f64),.int _ n=>k (.flt (some (FloatKind.f64.nearest n)))
 | some _,some (.float .f64),.flt x=>k (.flt x)
 | some _,some (.int q),.flt (some b)=>match(Ieee.double.read b).toInt .zero with
  | some n=>decide (q.min<=n/\n<=q.max)&&k (.int q n)
  | none=>false
 | _,_,_=>false
def su (c:Body) (s:Nat):Nat:=match s with
 | 1=>c.size
 | s=>c.size / s
def Blk.count (b:Blk):Nat:=match b.c with
 | .recs t xs=>cond (b.sz==t.sz) xs.length (su (.recs t xs) b.sz)
 | c=>su c b.sz
def inR (i:Int) (n:Nat):Bool:=decide (0<=i/\i<(n:Int))
def Vi (P:Program) (M:aJ) (t:Nat) (x:V) (i:Int) (k:V->Bool):Bool:=
 match P.underlying t with
 | some (.slice e)=>match iP P e with
  | some s=>match x with
   | .rof xs=>s==1&&(inR i xs.length&&k (.pf xs i.toNat))
   | .roi q xs=>s==1&&(inR i xs.length&&k (.pi q xs i.toNat))
   | .ro sz cs=>s==sz&&(!(s==0)&&(inR i (cs.length / sz)&&k (.rp cs (cz i.toNat s))))
   | .rl t xs=>s==t.sz&&(inR i xs.length&&k (.rp (t.cells (xs.getD i.toNat t.dflt)) 0))
   | .slw n=>match ar M n with
    | some b=>s==b.sz&&(inR i b.count&&k (.ptr n (cz i.toNat s)))
    | none=>false
   | .sl n o len=>match ar M n with
    | some b=>s==b.sz&&(inR i len&&k (.ptr n (o+cz i.toNat s)))
    | none=>false
   | _=>false
  | none=>false
 | some (.array len e)=>match iP P e with
  | some s=>match x with
   | .ptr n o=>inR i len&&k (.ptr n (o+cz i.toNat s))
   | .rp cs o=>inR i len&&k (.rp cs (o+cz i.toNat s))
   | .val (.pointer (some ⟨b,0,none⟩))=>match zA b with
    | some zs=>(s==1)&&(decide (zs.length=len)&&(inR i len&&k (.pi .u8 zs i.toNat)))
    | none=>false
   | _=>false
  | none=>false
 | _=>false
def Vo (P:Program) (M:aJ) (t:Nat) (x:V) (k:V->Bool):Bool:=
 match P.underlying t,x with
 | some (.slice _),.nil=>k (.int .i64 0)
 | some (.slice _),.rof xs=>k (.int .i64 xs.length)
 | some (.slice _),.roi _ xs=>k (.int .i64 xs.length)
 | some (.slice _),.rl _ xs=>k (.int .i64 xs.length)
 | some (.slice _),.ro sz cs=>!(sz==0)&&k (.int .i64 (cs.length / sz:Nat))
 | some (.slice _),.slw n=>match ar M n with
  | some b=>!(b.sz==0)&&k (.int .i64 b.count)
  | none=>false
 | some (.slice _),.sl _ _ len=>k (.int .i64 len)
 | some (.array n _),_=>k (.int .i64 n)
 | some .string,.val (.string s)=>k (.int .i64 s.size)
 | _,_=>false
def En (M:aJ) (sz:Nat) (x:V):Option Body:=
 match x with
 | .nil=>some (.cells [])
 | .val (.slice _ 0 _)=>some (.cells [])
 | .rof xs=>cond (sz==1) (some (.flts xs)) none
 | .roi q xs=>cond (sz==1) (some (.ints q xs)) none
 | .ro s cs=>cond (s==sz) (some (.cells cs)) none
 | .rl t xs=>cond (t.sz==sz) (some (.recs t xs)) none
 | .slw n=>match ar M n with
  | some b=>cond (b.sz==sz) (some b.c) none
  | none=>none
 | .sl n o len=>match ar M n with
  | some b=>cond (b.sz==sz) (b.c.cut o (cz len b.sz)) none
  | none=>none
 | _=>none
def Body.app:Body->Body->Option Body
 | .own _ _ _ _,_=>none
 | .flts xs,.flts ys=>some (.flts (xs++ys))
 | .ints q xs,.ints q' ys=>cond (decide (q=q')) (some (.ints q (xs++ys))) none
 | .cells xs,.cells ys=>cond (ys.all V.one) (some (.cells (xs++ys))) none
 | .recs t xs,.recs t' ys=>RT.cast t t' ys (λys=>some (.recs t (xs++ys))) none
 | .recs t xs,.cells cs=>(t.parses cs.length cs).map λys=>.recs t (xs++ys)
 | .cells [],.recs t ys=>some (.recs t ys)
 | b,.cells []=>some b
 | _,_=>none
def I6 (L:List Nat):List Nat:=L.foldl (λacc n=>cond (acc.contains n) acc (acc++[n])) []
def Db (M:aJ):Nat->List Nat->List Nat
 | 0,L=>L
 | d+1,L=>Db M d (I6 (L++(L.map λn=>match ar M n with
  | some b=>b.c.refs
  | none=>[]).flatten))
def lF (L:List Nat) (n:Nat):Option Nat:=L.idxOf? n
def Az (place:Nat->Option (Nat × Nat)):List V->List (Nat × V)->(List V->Bool)->Bool
 | cs,[],k=>k cs
 | cs,(i,v)::r,k=>match place i,tM v with
  | some (off,s),some vs=>(vs.length==s)&&(decide (off+s<=cs.length)&&Az place (setFrom cs off vs) r k)
  | _,_=>false
def places (P:Program) (fs:List Field):Option (List (Nat × Nat)):=fs.mapM λf=>(iP P f.type).map λs=>(f.offset,s)
def jx (nm:Nat):List Blk->Upd
 | []=>[]
 | b::r=>(nm,some b)::jx (nm+1) r
def fI:List Nat->List Blk->Upd
 | n::ns,b::bs=>(n,some b)::fI ns bs
 | _,_=>[]
abbrev KOp:=V->Upd->List Nat->Bool
def sq (F:List V) (lo hi:Option Operand) (n:Nat) (k:Nat->Nat->Bool):Bool:=
 match lo.map (ev F),hi.map (ev F)with
 | none,none=>k 0 n
 | none,some (.int _ h)=>decide (0<=h/\h<=(n:Int))&&k 0 h.toNat
 | some (.int _ l),none=>decide (0<=l/\l<=(n:Int))&&k l.toNat n
 | some (.int _ l),some (.int _ h)=>decide (0<=l/\l<=h/\h<=(n:Int))&&k l.toNat h.toNat
 | _,_=>false
def oh (cx:Cx) (g:Nat):Nat:=cond (cx.ref (3000000+g)) 1 (cond (cx.ref (4000000+g)) 2 (cond (cx.ref (6000000+g)) 4 (cond (cx.ref (7000000+g)) 5 (cond (cx.ref (8000000+g)) 6 (cond (cx.ref (9000000+g)) 7 (cond (cx.ref (10000000+g)) 8 (cond (cx.ref (11000000+g)) 9 (cond (cx.ref (12000000+g)) 10 0))))))))
def FC (b b':Blk):Blk:=match b.c,b'.c with
 | .cells (_::r),.cells (v::_)=>{ b with c:=.cells (v::r) }
 | _,_=>b
def Im (md:Nat) (L:List Nat) (bs H':List Blk):Upd:=match md with
 | 0=>fI L (H'.take L.length)
 | 1=>match L,bs,H' with
  | n::_,b::_,b'::_=>[(n,some (FC b b'))]
  | _,_,_=>[]
 | 2=>[]
 | p+3=>match L.drop p,H'.drop p with
  | n::_,b::_=>[(n,some b)]
  | _,_=>[]
def I3 (cx:Cx) (M:aJ) (g:Nat) (fn:Func) (B:List Nat) (vs1:List V) (k:KOp):Bool:=
 let vs2:=iW cx.P fn.params.toList vs1
 let L:=Db M 3 (I6 (mK vs2))
 match L.mapM (ar M)with
 | none=>false
 | some bs=>((kK L&&bs.all λb=>b.c.holes.isEmpty)&&(oh cx g==0||bs.all λb=>b.c.refs.all λn=>L.contains n))&&(B.all (λn=>!L.contains n) &&
  cx.O g (ii (lF L) vs2) (bs.map (Blk.ren (lF L))) λr H=>
   let f2:Nat->Option Nat:=λi=>cond (decide (i<L.length)) (L[i]?) (some (M.length+(i - L.length)))
   let H':=H.map (Blk.ren f2)
   let r':=r.ren f2
   (decide (L.length<=H.length)&&((B.isEmpty||(r'.free&&H'.all (·.c.free))) &&
    k r' (Im (oh cx g) L bs H'++jx M.length (H'.drop L.length)) (L++B))))
def Ah (cx:Cx) (M:aJ) (g:Nat) (vs:List V) (k:KOp):Bool:=
 match cx.P.funcs[g]? with
 | none=>false
 | some fn=>cond (cx.ref g) (I3 cx M g fn [] vs k) (Be (F2 M 4) vs λvs1=>I3 cx M g fn ((vs.map (mW M 4)).flatten) vs1 k)
def Hl (cx:Cx) (M:aJ) (g:Nat) (vs:List V) (k:KOp):Bool:=
 match cx.P.funcs[g]? with
 | none=>false
 | some fn=>
  match cond (cx.ref g) (some vs) (vs.mapM (ka M 4))with
  | none=>false
  | some vs1=>I3 cx M g fn (cond (cx.ref g) [] ((vs.map (mW M 4)).flatten)) vs1 k
def yB (M:aJ):List Nat->aJ
 | []=>M
 | n::r=>yB (M.set n none) r
def Nv (cx:Cx) (base:Nat) (M:aJ) (g:Nat) (vs:List V) (k:KOp):Bool:=
 match vs.mapM (ka M 4)with
 | none=>false
 | some vs1=>
  let B:=(vs.map (mW M 4)).flatten
  B.all (λn=>decide (base<=n))&&Ah cx (yB M B) g vs1 λv U T=>k v (B.map (λn=>(n,none))++U) (B++T)
def Nu (cx:Cx) (base:Nat) (M:aJ) (g:Nat) (vs:List V) (k:KOp):Bool:=
 match vs with
 | []=>false
 | v::r=>match ka M 4 v with
  | none=>false
  | some v1=>
   let B:=mW M 4 v
   B.all (λn=>decide (base<=n))&&Ah cx (yB M B) g (v1::r) λv U T=>k v (B.map (λn=>(n,none))++U) (B++T)
def V.isOpt:V->Bool
 | .opt _ _ _=>true
 | _=>false
structure Lent where
 n:Nat
 e:Nat
 m:Nat
def uO (nm:Nat):Bool->List V->List Lent->(List V->List Lent->Bool)->Bool
 | _,[],acc,k=>k [] acc
 | fst,.opt n e o::r,acc,k=>match acc with
  | []=>uO nm fst r [⟨n,e,nm⟩] λvs ls=>k (.ptr nm o::vs) ls
  | l::acc'=>cond (fst&&l.n==n)
    (decide (e=l.e)&&uO nm fst r (l::acc') λvs ls=>k (.ptr l.m o::vs) ls)
    ((l::acc').all (λq=>!(q.n==n) || !decide (e=q.e))&&uO nm fst r (l::acc'++[⟨n,e,nm+(acc'.length+1)⟩]) λvs ls=>k (.ptr (nm+(acc'.length+1)) o::vs) ls)
 | fst,v::r,acc,k=>uO nm (fst && !acc.isEmpty) r acc λvs ls=>k (v::vs) ls
def DL (M:aJ):List Lent->(aJ->List (Option Blk)->Bool)->Bool
 | [],k=>k M []
 | l::r,k=>match ar M l.n with
  | some ⟨t,sz,.own tt a xs hs⟩=>decide (a.sz<=64)&&DL (M.set l.n (some ⟨t,sz,.own tt a xs (l.e::hs)⟩)) r λM' bs=>k M' (some ⟨tt,1,.cells (a.cells (xs.getD l.e a.dflt))⟩::bs)
  | _=>false
def Ei (M N:aJ):List Lent->(aJ->Bool)->Bool
 | [],k=>k M
 | l::r,k=>match ar M l.n,ar N l.m with
  | some ⟨t,sz,.own tt a xs hs⟩,some ⟨tt',1,.cells cs⟩=>(tt'==tt)&&(cs.all V.one&&match a.parse cs with
   | some (x,[])=>Ei (M.set l.n (some ⟨t,sz,.own tt a (xs.set l.e x) hs.tail⟩)) N r k
   | _=>false)
  | _,_=>false
def F6 (ls:List Lent) (n:Nat):Bool:=ls.any (·.m==n)
def sZ (ls:List Lent):Nat->Option Nat:=λn=>cond (F6 ls n) none (some n)
def RY (ls:List Lent):V->V
 | .ptr n o=>match ls.find? (·.m==n)with
  | some l=>.opt l.n l.e o
  | none=>.ptr n o
 | v=>v.ren (sZ ls)
def Nt (cx:Cx) (M:aJ) (g:Nat) (vs:List V) (k:KOp):Bool:=
 uO M.length true vs [] λvs1 ls=>(ls.all λl=>match ar M l.n with | some b=>b.c.holes.isEmpty | none=>false)&&DL M ls λM1 bs=>
  Ah cx (M1++bs) g vs1 λv U T=>
   (ls.all λl=>!(U.map (·.1)).contains l.n)&&Ei M1 (nh (M1++bs) U) ls.reverse λM2=>
    k (RY ls v) (U.map (λp=>(p.1,p.2.map (Blk.ren (sZ ls))))++(ls.map λl=>(l.m,none))++(ls.map λl=>(l.n,(ar M2 l.n).map (Blk.ren (sZ ls))))) ((ls.map (·.n))++T.filter λn=>!F6 ls n)
def I2 (cx:Cx) (base:Nat) (M:aJ) (g:Nat) (vs:List V) (k:KOp):Bool:=
 cond (cx.ref g&&vs.any V.isOpt) (oh cx g==0&&Nt cx M g vs k) (cond (cx.ref (g+1000000)) (oh cx g==0&&Nv cx base M g vs k) (cond (cx.ref (g+5000000)) (oh cx g==0&&Nu cx base M g vs k) (Ah cx M g vs k)))
def mmV (mx:Bool):V->List V->(V->Bool)->Bool
 | .flt x,.flt y::r,k=>mmV mx (.flt (fmm mx x y)) r k
 | .int q x,.int q' y::r,k=>decide (q=q')&&mmV mx (.int q (imm mx x y)) r k
 | .flt x,[],k=>k (.flt x)
 | .int q x,[],k=>k (.int q x)
 | _,_,_=>false
def Oa (M:aJ):V->Bool
 | .slw n=>match ar M n with
  | some b=>b.c.isOwn
  | none=>false
 | _=>false
def He (base:Nat) (M:aJ) (e sz by':Nat) (s x:V) (k:KOp):Bool:=
 match s,x with
 | .slw n,.slw v=>match ar M n,ar M v with
  | some ⟨e',sz',.own tt a xs []⟩,some ⟨_,svz,.cells [.ptr m 0]⟩=>match ar M m with
   | some ⟨tt',smz,.cells cs⟩=>((((sz==1&&svz==1)&&(sz'==1&&smz==1))&&((tt'==tt&&e'==e)&&(decide (base<=n)&&decide (base<=m))))&&(!(m==n)&&(!(v==n) && !(v==m))))&&(decide ((xs.length+1)*by'<=140737488355328)&&(cs.all V.one&&match a.parse cs with
    | some (x',[])=>k (.slw M.length) [(n,none),(m,none),(M.length,some ⟨e,1,.own tt a (xs++[x']) []⟩)] [n,v,m]
    | _=>false))
   | _=>false
  | _,_=>false
 | _,_=>false
def opV (cx:Cx) (base:Nat) (F:List V) (M:aJ) (o:Op) (k:KOp):Bool:=
 let P:=cx.P
 match o with
 | .move x=>k (ev F x) [] []
 | .assign x=>k (ev F x) [] []
 | .pick c a b=>match ev F c with
  | .bool t=>cond t (k (ev F a) [] []) (k (ev F b) [] [])
  | _=>false
 | .alloc t=>match ci P t with
  | some cs=>decide (cs.length<=16777216)&&(cs.all V.one&&k (.ptr M.length 0) [(M.length,some ⟨t,1,qm P t cs⟩)] [])
  | none=>false
 | .box t x=>match tM (ev F x)with
  | some cs=>decide (cs.length<=16777216)&&(cs.all V.one&&k (.ptr M.length 0) [(M.length,some ⟨t,1,qm P t cs⟩)] [])
  | none=>false
 | .build t parts=>match ci P t,P.underlying t with
  | some z,some (.struct fs)=>match places P fs.toList with
   | some pl=>Az (pl[·]?) z (parts.toList.map λp=>(p.1,ev F p.2)) λcs=>cs.all V.one&&k (.agg cs) [] []
   | none=>false
  | some z,some (.array _ e)=>match iP P e with
   | some s=>Az (λi=>some (cz i s,s)) z (parts.toList.map λp=>(p.1,ev F p.2)) λcs=>cs.all V.one&&k (.agg cs) [] []
   | none=>false
  | _,_=>false
 | .buildSlice t len parts=>match xt P t with
  | some e=>match iP P e,ci P e with
   | some s,some z=>decide (len*s<=16777216)&&((z.length==s)&&(!(s==0)&&Az (λi=>some (cz i s,s)) ((List.replicate len z).flatten) (parts.toList.map λp=>(p.1,ev F p.2)) λcs=>
     match xP P e cs with
     | some c=>k (.slw M.length) [(M.length,some ⟨e,s,c⟩)] []
     | none=>false))
   | _,_=>false
  | none=>false
 | .load t x=>match pg P t,iP P t with
  | some ag,some s=>match ev F x with
   | .ptr n p=>match ar M n with
    | some b=>match b.c with
     | .own _ _ xs []=>!ag&&(decide (p<xs.length)&&k (.opt n p 0) [] [n])
     | c=>cond ag (c.part p s λcs=>k (.agg cs) [] [n]) (c.get p λv=>k v [] [n])
    | none=>false
   | .opt n e o=>match ar M n with
    | some ⟨_,_,.own _ a xs []⟩=>cond ag (decide (o+s<=a.sz)&&k (.agg (((a.cells (xs.getD e a.dflt)).drop o).take s)) [] [n]) (match(a.cells (xs.getD e a.dflt))[o]? with
     | some v=>k v [] [n]
     | none=>false)
    | _=>false
   | .pf xs i=>!ag&&k (.flt (xs.getD i none)) [] []
   | .pi q xs i=>!ag&&k (.int q (xs.getD i 0)) [] []
   | .rp cs i=>cond ag (decide (i+s<=cs.length)&&k (.agg ((cs.drop i).take s)) [] []) (match cs[i]? with
    | some v=>k v [] []
    | none=>false)
   | _=>false
  | _,_=>false
 | .store t x y=>match iP P t,ev F x,ev F y with
  | some s,.ptr n p,.agg vs=>match ar M n with
   | some b=>(vs.length==s)&&b.c.setPart p vs λc=>k .any [(n,some { b with c:=c })] [n]
   | none=>false
  | some s,.ptr n p,v=>match ar M n with
   | some b=>(s==1)&&(v.one&&b.c.set p v λc=>k .any [(n,some { b with c:=c })] [n])
   | none=>false
  | some s,.opt n e o,.agg vs=>match ar M n with
   | some ⟨t',sz,.own tt a xs []⟩=>(vs.length==s)&&(vs.all V.one&&(decide (o+s<=a.sz)&&match a.parse (setFrom (a.cells (xs.getD e a.dflt)) o vs)with
    | some (x,[])=>k .any [(n,some ⟨t',sz,.own tt a (xs.set e x) []⟩)] [n]
    | _=>false))
   | _=>false
  | some s,.opt n e o,v=>match ar M n with
   | some ⟨t',sz,.own tt a xs []⟩=>(s==1)&&(v.one&&(decide (o<a.sz)&&match a.parse ((a.cells (xs.getD e a.dflt)).set o v)with
    | some (x,[])=>k .any [(n,some ⟨t',sz,.own tt a (xs.set e x) []⟩)] [n]
    | _=>false))
   | _=>false
  | _,_,_=>false
 | .nilCheck x=>match ev F x with
  | .ptr n p=>k (.ptr n p) [] []
  | .pf xs i=>k (.pf xs i) [] []
  | .pi q xs i=>k (.pi q xs i) [] []
  | .rp cs i=>k (.rp cs i) [] []
  | .opt n e o=>k (.opt n e o) [] []
  | .fn g caps=>k (.fn g caps) [] []
  | _=>false
 | .binOp op t x y _=>Vb op (zH P t) (Ma P 3 t) (Ma P 4 t) (Q9 P t) (Ej P t) (ev F x) (ev F y) λv=>k v [] []
 | .unOp op _ x=>unV op (ev F x) λv=>k v [] []
 | .convert s d x=>NE P s d (ev F x) λv=>k v [] []
 | .makeFunc (.func g) first caps=>Nat.ble g 999999&&cond first.isEmpty (k (.fn g (caps.toList.map (ev F))) [] []) (caps.isEmpty&&k (.fn (g+1000000) (first.toList.map (ev F))) [] [])
 | .makeSlice t l c=>match xt P t with
  | some e=>match iP P e,bytesOf P e with
   | some s,some by'=>match ev F l,ev F c with
    | .int _ l,.int _ c=>decide (0<=l/\l<=c/\c<=9223372036854775807/\(by':Int)*c<=140737488355328)&&((match ci P e with | some z=>z.length==s&&z.all V.one | none=>false)&&match jX P e l.toNat with
     | some body=>k (.slw M.length) [(M.length,some ⟨e,s,body⟩)] []
     | none=>false)
    | _,_=>false
   | _,_=>false
  | none=>false
 | .slice t x lo hi none=>match P.underlying t with
  | some (.slice e)=>match iP P e with
   | some s=>
    match ev F x with
    | .rof xs=>s==1&&sq F lo hi xs.length λl h=>k (.rof ((xs.take h).drop l)) [] []
    | .roi q xs=>s==1&&sq F lo hi xs.length λl h=>k (.roi q ((xs.take h).drop l)) [] []
    | .rl t xs=>s==t.sz&&(!(s==0)&&sq F lo hi xs.length λl h=>k (.rl t ((xs.take h).drop l)) [] [])
    | .slw n=>match ar M n with
     | some b=>s==b.sz&&(!(s==0)&&sq F lo hi b.count λl h=>k (.sl n (cz l s) (h - l)) [] [n])
     | none=>false
    | .sl n o len=>match ar M n with
     | some b=>s==b.sz&&(!(s==0)&&sq F lo hi len λl h=>k (.sl n (o+cz l s) (h - l)) [] [n])
     | none=>false
    | _=>false
   | none=>false
  | some (.array len e)=>match iP P e with
   | some s=>
    match ev F x with
    | .ptr n o=>match ar M n with
     | some b=>s==b.sz&&((s==1&&decide (len<=b.c.size))&&sq F lo hi len λl h=>k (.sl n (o+cz l s) (h - l)) [] [n])
     | none=>false
    | _=>false
   | none=>false
  | _=>false
 | .fieldAddr s x f=>match P.underlying s with
  | some (.struct fs)=>match fs[f]? with
   | some fd=>match iP P fd.type with
    | some z=>!(z==0)&&(match ev F x with
     | .ptr n p=>k (.ptr n (p+fd.offset)) [] []
     | .rp cs i=>k (.rp cs (i+fd.offset)) [] []
     | .opt n e o=>k (.opt n e (o+fd.offset)) [] []
     | _=>false)
    | none=>false
   | none=>false
  | _=>false
 | .field t x f=>match P.underlying t with
  | some (.struct fs)=>match fs[f]? with
   | some fd=>match pg P fd.type,iP P fd.type,ev F x with
    | some ag,some s,.agg cs=>cond ag (decide (fd.offset+s<=cs.length)&&k (.agg ((cs.drop fd.offset).take s)) [] []) (match cs[fd.offset]? with
     | some v=>k v [] []
     | none=>false)
    | _,_,_=>false
   | none=>false
  | _=>false
 | .indexAddr t x i=>match ev F i with
  | .int _ i=>Vi P M t (ev F x) i λv=>k v [] (ev F x).refs
  | _=>false
 | .index t x i=>match P.underlying t,ev F i,ev F x with
  | some (.array len e),.int _ i,.agg cs=>match pg P e,iP P e with
   | some ag,some s=>inR i len&&cond ag (decide (cz i.toNat s+s<=cs.length)&&k (.agg ((cs.drop (cz i.toNat s)).take s)) [] []) (match cs[cz i.toNat s]? with
     | some v=>k v [] []
     | none=>false)
   | _,_=>false
  | some .string,.int _ i,.val (.string s)=>inR i s.size&&k (.int .u8 ((s.data.toList.map λb=>(b.toNat:Int)).getD i.toNat 0)) [] []
  | _,_,_=>false
 | .extract x i=>match ev F x with
  | .tup vs=>match vs[i]? with
   | some v=>k v [] []
   | none=>false
  | _=>false
 | .call c=>match c.callee with
  | .builtin .len=>match c.argTypes.toList,c.args.toList with
   | [t],[x]=>Vo P M t (ev F x) λv=>k v [] (ev F x).refs
   | _,_=>false
  | .builtin .max=>match c.args.toList with
   | x::r=>mmV true (ev F x) (r.map (ev F)) λv=>k v [] []
   | _=>false
  | .builtin .min=>match c.args.toList with
   | x::r=>mmV false (ev F x) (r.map (ev F)) λv=>k v [] []
   | _=>false
  | .builtin .append=>match c.args.toList,c.argTypes.toList with
   | [s,x],[t,t']=>(t==t')&&(match xt P t with
    | some e=>match iP P e,bytesOf P e,ci P e,jX P e 0 with
     | some sz,some by',some z,some nb=>(z.length==sz)&&(!(sz==0||by'==0)&&cond (Oa M (ev F s)) (He base M e sz by' (ev F s) (ev F x) k) (match En M sz (ev F x)with
      | some src=>match ev F s with
       | .nil=>match nb.app src with
        | some c=>decide ((Blk.count ⟨e,sz,c⟩)*by'<=140737488355328)&&k (.slw M.length) [(M.length,some ⟨e,sz,c⟩)] (ev F x).refs
        | none=>false
       | .slw n=>match ar M n with
        | some b=>match b.c.app src with
         | some c=>decide (base<=n)&&(b.e==e&&(b.sz==sz&&(!((ev F x).refs.contains n) &&
           (decide ((Blk.count ⟨e,sz,c⟩)*by'<=140737488355328)&&k (.slw M.length) [(n,none),(M.length,some ⟨e,sz,c⟩)] (n::(ev F x).refs)))))
         | none=>false
        | none=>false
       | .sl n o len=>match ar M n with
        | some b=>b.c.cutK 0 (cz len sz) λc0=>match c0.app src with
         | some c=>(o==0&&decide (base<=n))&&(b.e==e&&(b.sz==sz&&(!((ev F x).refs.contains n) &&
           (decide ((Blk.count ⟨e,sz,c⟩)*by'<=140737488355328)&&k (.slw M.length) [(n,none),(M.length,some ⟨e,sz,c⟩)] (n::(ev F x).refs)))))
         | none=>false
        | none=>false
       | _=>false
      | none=>false))
     | _,_,_,_=>false
    | none=>false)
   | _,_=>false
  | .value f=>match ev F f with
   | .fn g caps=>cond (Nat.ble g 999999) (I2 cx base M g (c.args.toList.map (ev F)++caps) k) (I2 cx base M (g - 1000000) (caps++c.args.toList.map (ev F)) k)
   | _=>false
  | _=>false
 | _=>false
def kZ (F:List V) (d:Option Nat) (v:V):List V:=match d with
 | some t=>F.set t v
 | none=>F
def eX (all:Array Oper) (j:Nat):Option Nat:=(all[j]?).bind (·.dst)
def DM:Value->Bool
 | .bool _=>true
 | _=>false
def Gc (cx:Cx) (base:Nat) (all:Array Oper):List Oper->St->(St->Bool)->Bool
 | [],s,k=>k s
 | o::r,s,k=>match o.guard with
  | none=>opV cx base s.F s.M o.op λv U _=>Gc cx base all r ⟨kZ s.F o.dst v,nh s.M U⟩ k
  | some (j,want)=>match eX all j with
   | some t=>match s.F.getD t .any with
    | .bool b=>cond (b==want)
      (opV cx base (s.F.set t (.bool want)) s.M o.op λv U _=>Gc cx base all r ⟨kZ (s.F.set t (.bool want)) o.dst v,nh s.M U⟩ k)
      (Gc cx base all r ⟨kZ (s.F.set t (.bool (!want))) o.dst (.val undef),s.M⟩ k)
    | .val v=>cond (DM v) false (Gc cx base all r ⟨kZ s.F o.dst (.val undef),s.M⟩ k)
    | _=>false
   | none=>false
structure Did where
 dst:Option Nat
 reads:List Nat
 writes:List Nat
 touch:List Nat
 tails:List Nat:=[]
 heads:List Nat:=[]
def PI (ops:Array Operand):List Nat:=ops.toList.filterMap λx=>match x with
 | .tmp t=>some t
 | _=>none
def Oper.reads (all:Array Oper) (o:Oper):List Nat:=PI o.op.operands++(match o.guard with
 | some (j,_)=>match eX all j with
  | some t=>[t]
  | none=>[]
 | none=>[])
def jG:List Oper->List (List Nat)->List (List Nat)
 | [],acc=>acc
 | o::r,acc=>jG r (acc++[(o.after.toList.map λe=>cond (Region.binds .any e) (e.on::acc.getD e.on []) []).flatten])
def meets (a b:List Nat):Bool:=a.any (b.contains ·)
def apart (x y:Did):Bool:=
 !(match x.dst with | some t=>y.reads.contains t||y.dst==some t | none=>false) &&
 (!(match y.dst with | some t=>x.reads.contains t | none=>false) &&
 ((!(meets x.writes y.touch||(meets x.writes y.writes||meets x.touch y.writes))) &&
 ((x.tails.all λn=>!y.writes.contains n||y.heads.contains n)&&(y.tails.all λn=>!x.writes.contains n||x.heads.contains n))))
def me (clo:List (List Nat)):Nat->List Did->Nat->List Did->Bool
 | _,_,_,[]=>true
 | i,pre,j,y::r=>(pre.zipIdx.all λ(x,i)=>(clo.getD j []).contains i||apart x y)&&me clo i (pre++[y]) (j+1) r
def oI:Nat->List Oper->Bool
 | _,[]=>true
 | i,o::r=>(o.after.toList.all λe=>!Region.binds .any e||decide (e.on<i))&&oI (i+1) r
def Jt:List Oper->List Nat->List Nat
 | [],acc=>acc
 | o::r,acc=>Jt r (acc++[o.after.toList.foldl (λm e=>cond (Region.binds .any e) (m ||| (1 <<< e.on ||| acc.getD e.on 0)) m) 0])
def wR (clo:List Nat):Nat->List Did->Nat->List Did->Bool
 | _,_,_,[]=>true
 | i,pre,j,y::r=>(pre.zipIdx.all λ(x,i)=>(clo.getD j 0).testBit i||apart x y)&&wR clo i (pre++[y]) (j+1) r
def EB (F:List V) (M:aJ) (o:Op):Option Nat:=match o with
 | .load _ x=>match ev F x with
  | .ptr n p=>match ar M n with
   | some ⟨_,_,.cells _⟩=>match p with
    | _+1=>some n
    | 0=>none
   | _=>none
  | _=>none
 | _=>none
def nn (cx:Cx) (F:List V) (M:aJ) (o:Op):List Nat:=match o with
 | .call c=>match c.callee with
  | .value f=>match ev F f,c.args.toList.map (ev F)with
   | .fn g _,.ptr n o::_=>cond (Nat.ble g 999999&&(oh cx g==1&&(o==0&&decide (n<M.length)))) [n] []
   | _,_=>[]
  | _=>[]
 | _=>[]
def An (cx:Cx) (F:List V) (M:aJ) (all:Array Oper) (o:Oper) (U:Upd) (T:List Nat):Did:=match EB F M o.op with
 | some n=>⟨o.dst,Oper.reads all o,U.map (·.1),[],[n],[]⟩
 | none=>⟨o.dst,Oper.reads all o,U.map (·.1),T,[],nn cx F M o.op⟩
def uH (cx:Cx) (base:Nat) (all:Array Oper):List Oper->St->List Did->(St->Bool)->Bool
 | [],s,tr,k=>(wR (Jt all.toList []) 0 [] 0 tr&&oI 0 all.toList)&&k s
 | o::r,s,tr,k=>match o.guard with
  | none=>opV cx base s.F s.M o.op λv U T=>uH cx base all r ⟨kZ s.F o.dst v,nh s.M U⟩ (tr++[An cx s.F s.M all o U T]) k
  | some (j,want)=>match eX all j with
   | some t=>match s.F.getD t .any with
    | .bool b=>cond (b==want)
      (opV cx base (s.F.set t (.bool want)) s.M o.op λv U T=>uH cx base all r ⟨kZ (s.F.set t (.bool want)) o.dst v,nh s.M U⟩ (tr++[An cx (s.F.set t (.bool want)) s.M all o U T]) k)
      (uH cx base all r ⟨kZ (s.F.set t (.bool (!want))) o.dst .any,s.M⟩ (tr++[⟨o.dst,Oper.reads all o,[],[],[],[]⟩]) k)
    | _=>false
   | none=>false
structure K where
 nrm:St->Bool
 ext:Nat->St->Bool
 ret:St->Bool
structure Nrm where
 keep:List Nat
 virt:List (Nat × Option Nat × Nat)
 den:List (Nat × Nat × Option IntKind)
 frz:List Nat:=[]
structure Ann where
 head:Nrm
 exits:List (Nat × Nrm)
 ret:Option Nrm
 hook:Option (St->K->Bool)
def vE (e:Nat):Nat:=e / 2
def J4 (P:Program) (e:Nat):Option Body:=match e%2 with
 | 0=>xv P (e / 2)
 | _=>Fm P (e / 2)
def ig (P:Program):List (Nat × Option Nat × Nat)->St->St
 | [],s=>s
 | (t,none,e)::r,s=>match s.F.getD t .any,iP P (vE e),J4 P e with
  | .nil,some sz,some b=>ig P r ⟨s.F.set t (.slw s.M.length),s.M++[some ⟨vE e,sz,b⟩]⟩
  | _,_,_=>ig P r s
 | (t,some i,e)::r,s=>match s.F.getD t .any,iP P (vE e),J4 P e with
  | .ptr n o,some sz,some z=>match ar s.M n with
   | some ⟨e0,s0,.cells cs⟩=>match cs[o+i]? with
    | some .nil=>ig P r ⟨s.F,s.M.set n (some ⟨e0,s0,.cells (cs.set (o+i) (.slw s.M.length))⟩)++[some ⟨vE e,sz,z⟩]⟩
    | _=>ig P r s
   | _=>ig P r s
  | .slw n,_,_=>match ar s.M n with
   | some b=>cond (b.sz==1) (ig P r ⟨s.F.set t (.sl n 0 b.c.size),s.M⟩) (ig P r s)
   | none=>ig P r s
  | _,_,_=>ig P r s
def Ii:Option IntKind->V
 | some k=>.roi k []
 | none=>.rof []
def DB:List (Nat × Nat × Option IntKind)->aJ->aJ
 | [],M=>M
 | (n,i,k)::r,M=>match ar M n with
  | some ⟨e,s,.cells cs⟩=>match cs[i]? with
   | some .nil=>DB r (M.set n (some ⟨e,s,.cells (cs.set i (Ii k))⟩))
   | _=>DB r M
  | _=>DB r M
def uK (keep:List Nat) (f:Nat->Option Nat):Nat->List V->List V
 | _,[]=>[]
 | i,v::r=>cond (keep.contains i) (v.ren f) .any::uK keep f (i+1) r
def AV (keep:List Nat):Nat->List V->List Nat
 | _,[]=>[]
 | i,v::r=>cond (keep.contains i) v.refs []++AV keep (i+1) r
def renum (base:Nat) (L:List Nat):Nat->Option Nat:=λn=>cond (decide (n<base)) (some n) ((lF L n).map (base + ·))
def gY (base:Nat) (L:List Nat) (M:aJ):aJ:=
 (M.take base).map (·.map (Blk.ren (renum base L)))++L.map λn=>(ar M n).map (Blk.ren (renum base L))
def kJ (base:Nat) (M:aJ) (roots:List Nat):List Nat:=
 (Db M 3 (I6 (roots++((M.take base).map λb=>match b with
  | some b=>b.c.refs
  | none=>[]).flatten))).filter λn=>decide (base<=n)
mutual
def V.cold (g:Nat->Option V):V->V
 | .slw n=>match g n with
  | some v=>v
  | none=>.slw n
 | .sl n o l=>match g n with
  | some _=>.any
  | none=>.sl n o l
 | .ptr n o=>match g n with
  | some _=>.any
  | none=>.ptr n o
 | .opt n e o=>match g n with
  | some _=>.any
  | none=>.opt n e o
 | .agg cs=>.agg (oF g cs)
 | .tup cs=>.tup (oF g cs)
 | v=>v
def oF (g:Nat->Option V):List V->List V
 | []=>[]
 | v::r=>V.cold g v::oF g r
end
def Body.cold (g:Nat->Option V):Body->Body
 | .cells cs=>.cells (oF g cs)
 | b=>b
def rv (g:Nat->Option V):Nat->aJ->aJ
 | _,[]=>[]
 | n,b::r=>(match g n with
  | some _=>none
  | none=>b.map λb=>{ b with c:=b.c.cold g })::rv g (n+1) r
def NC (base:Nat) (M:aJ) (L:List Nat) (n:Nat):Option V:=cond (L.contains n&&decide (base<=n)) (ka M 1 (.slw n)) none
def E5 (base:Nat):List Nat->St->St
 | [],s=>s
 | ts,s=>let g:=NC base s.M (Db s.M 2 ((ts.map λt=>(s.F.getD t .any).refs).flatten))
  ⟨oF g s.F,rv g 0 s.M⟩
def sU (P:Program) (base:Nat):Option Nrm->St->St
 | none,s=>s
 | some a,s=>
  let s:=ig P a.virt (E5 base a.frz s)
  let L:=kJ base s.M (AV a.keep 0 s.F)
  cond (kK L) ⟨uK a.keep (renum base L) 0 s.F,DB a.den (gY base L s.M)⟩ s
def zo:Nat->(St->(St->Bool)->Bool)->St->Bool
 | 0,_,_=>false
 | n+1,step,s=>step s (zo n step)
def vx:Option Ann->Option Nrm
 | some a=>some a.head
 | none=>none
def NS:Option Ann->Nat->Option Nrm
 | some a,i=>a.exits.lookup i
 | none,_=>none
def Sf:Option Ann->Option Nrm
 | some a=>a.ret
 | none=>none
def xA:Option Ann->Option (St->K->Bool)
 | some a=>a.hook
 | none=>none
def tf (P:Program) (base:Nat) (a:Option Ann) (κ:K) (k:St->Bool):K:=
 ⟨λs=>k (sU P base (vx a) s),λi s=>κ.ext i (sU P base (NS a i) s),λs=>κ.ret (sU P base (Sf a) s)⟩
def ct (cx:Cx) (base:Nat) (an:Nat->Option Ann):Code->Nat->St->K->Bool
 | .skip,_,s,κ=>κ.nrm s
 | .region _ ops false,_,s,κ=>Gc cx base ops ops.toList s κ.nrm
 | .region _ ops true,_,s,κ=>cx.P.follows .mixedOrders&&uH cx base ops ops.toList s [] κ.nrm
 | .seq a b,bid,s,κ=>ct cx base an a bid s { κ with nrm:=λs'=>ct cx base an b bid s' κ }
 | .cond (.tmp t) a b,bid,s,κ=>match s.F.getD t .any with
  | .bool c=>cond c (ct cx base an a bid ⟨s.F.set t (.bool true),s.M⟩ κ) (ct cx base an b bid ⟨s.F.set t (.bool false),s.M⟩ κ)
  | _=>false
 | .cond (.const (.bool c)) a b,bid,s,κ=>cond c (ct cx base an a bid s κ) (ct cx base an b bid s κ)
 | .block id b,_,s,κ=>ct cx base an b id s { κ with ext:=λi s'=>cond (i==id) (κ.nrm s') (κ.ext i s') }
 | .loop b,bid,s,κ=>match xA (an bid)with
  | some hk=>hk (sU cx.P base (vx (an bid)) s) κ
  | none=>zo cx.N (λs k=>ct cx base an b bid s (tf cx.P base (an bid) κ k)) (sU cx.P base (vx (an bid)) s)
 | .exit id,_,s,κ=>κ.ext id s
 | .ret,_,s,κ=>κ.ret s
 | .scope b,bid,s,κ=>ct cx base an b bid s κ
 | .label _,_,s,κ=>κ.nrm s
 | _,_,_,_=>false
def gL (cx:Cx) (base:Nat) (an:Nat->Option Ann):Code->Nat->Prop
 | .seq a b,bid=>gL cx base an a bid/\gL cx base an b bid
 | .cond _ a b,bid=>gL cx base an a bid/\gL cx base an b bid
 | .block id b,_=>gL cx base an b id
 | .scope b,bid=>gL cx base an b bid
 | .loop b,bid=>gL cx base an b bid /\ ∀ hk,xA (an bid)=some hk -> ∀ s κ,hk s κ=true->zo cx.N (λs k=>ct cx base an b bid s (tf cx.P base (an bid) κ k)) s=true
 | _,_=>True
def VC (P:Program) (s:St) (r:ResultVar) (k:V->Bool):Bool:=
 match r with
 | .tmp t=>k (s.F.getD t .any)
 | .cell t ty=>match pg P ty,iP P ty,s.F.getD t .any with
  | some ag,some z,.ptr n p=>match ar s.M n with
   | some b=>cond ag (b.c.part p z λcs=>k (.agg cs)) (b.c.get p k)
   | none=>false
  | some ag,some z,.rp cs i=>cond ag (decide (i+z<=cs.length)&&k (.agg ((cs.drop i).take z))) (match cs[i]? with
   | some v=>k v
   | none=>false)
  | _,_,_=>false
def JE (P:Program) (s:St):List ResultVar->(List V->Bool)->Bool
 | [],k=>k []
 | r::rs,k=>VC P s r λv=>JE P s rs λvs=>k (v::vs)
def tV:aJ->Option (List Blk)
 | []=>some []
 | some b::r=>(tV r).map (b :: ·)
 | none::_=>none
def Fo (P:Program) (base:Nat) (rs:List ResultVar) (s:St) (k:V->List Blk->Bool):Bool:=
 JE P s rs λvs=>
  let L:=kJ base s.M (mK vs)
  kK L&&match tV (gY base L s.M)with
  | some H=>match ii (renum base L) vs with
   | [v]=>k v H
   | vs=>k (.tup vs) H
  | none=>false
def mZ (cx:Cx) (an:Nat->Option Ann) (f:Nat) (args:List V) (H:List Blk) (k:V->List Blk->Bool):Bool:=
 match cx.P.funcs[f]? with
 | some fn=>match fn.body with
  | some c=>
   let fin:=λs=>Fo cx.P H.length fn.results.toList s k
   !(fn.name == "runtime.NumGoroutine")&&ct cx H.length an c 0 ⟨args++List.replicate (fn.ntmps - args.length) .any,H.map some⟩ ⟨fin,λ_ _=>false,fin⟩
  | none=>false
 | none=>false
structure Place where
 b:Nat
 len:Nat
 cap:Nat
 subs:List Nat
def Place.has (p:Place) (b:Nat):Prop:=p.b=b\/b ∈ p.subs
def hasB (p:Place) (c:Body) (b:Nat):Prop:=p.b=b \/ ∃ i,p.subs[i]? = some b/\i ∉ c.holes
theorem hasB.has {p:Place} {c:Body} {b:Nat} (h:hasB p c b):p.has b:=by
 rcases h with h | ⟨i,h,-⟩
 ·exact .inl h
 ·exact .inr (List.mem_of_getElem? h)
theorem Qp {p:Place} {c:Body} {b:Nat} (hc:c.holes=[]) (h:p.has b):hasB p c b:=by
 rcases h with h | h
 ·exact .inl h
 ·obtain⟨i,hi⟩:=List.getElem?_of_mem h;exact .inr ⟨i,hi,by rw[hc]; simp⟩
theorem bL (p:Place) (c:Body):hasB p c p.b:=.inl rfl
abbrev Rho:=Nat->Option (Option Place)
def FRep:Fl->Value->Prop
 | some b,v=>v=.float .f64 b
 | none,v=>∃ b,v=.float .f64 b/\isNaN b=true
def FnV (g:Nat) (vs:List Value) (v:Value):Prop:=
 (g<1000000/\v=.func (.func g) #[] vs.toArray)\/(1000000<=g/\v=.func (.func (g - 1000000)) vs.toArray #[])
theorem FnV.cells {g:Nat} {vs:List Value} {v:Value} (h:FnV g vs v):v.oneCell'=true:=by rcases h with⟨_,rfl⟩ | ⟨_,rfl⟩ <;> rfl
inductive Rep (ok:Nat->Prop) (w:World) (ρ:Rho):V->Value->Prop
 | any (v:Value):Rep ok w ρ .any v
 | nil:Rep ok w ρ .nil (.slice none 0 0)
 | bool (b:Bool):Rep ok w ρ (.bool b) (.bool b)
 | int (k:IntKind) (n:Int):Rep ok w ρ (.int k n) (.int k n)
 | flt (x:Fl) (v:Value):FRep x v->Rep ok w ρ (.flt x) v
 | val (v:Value):Rep ok w ρ (.val v) v
 | fn (g:Nat) (caps:List V) (vs:List Value) (v:Value):caps.length=vs.length->(∀(i:Nat) c v,caps[i]? = some c->vs[i]? = some v->Rep ok w ρ c v)->FnV g vs v->Rep ok w ρ (.fn g caps) v
 | ptr (n o:Nat) (p:Place):ρ n=some (some p)->Rep ok w ρ (.ptr n o) (.pointer (some ⟨p.b,o,none⟩))
 | slw (n:Nat) (p:Place):ρ n=some (some p)->Rep ok w ρ (.slw n) (.slice (some ⟨p.b,0,none⟩) p.len p.cap)
 | slv (n:Nat):ρ n=some none->Rep ok w ρ (.slw n) (.slice none 0 0)
 | sl (n o len cap o':Nat) (p:Place):ρ n=some (some p)->len<=cap->(o'=o\/len=0)->(o=0->o'=0/\cap<=p.cap)->Rep ok w ρ (.sl n o len) (.slice (some ⟨p.b,o',none⟩) len cap)
 | slvp (n o:Nat):ρ n=some none->Rep ok w ρ (.sl n o 0) (.slice none 0 0)
 | rofn {a:Option Addr} {cap:Nat}:Rep ok w ρ (.rof []) (.slice a 0 cap)
 | rof (xs:List Fl) (b o cap:Nat) (g:Nat->Value):ok b->b<w.heap.size->xs.length<=cap->(∀ i,i<xs.length->w.cell? ⟨b,o+i,none⟩=some (g i))->(∀(i:Nat) x,xs[i]? = some x->FRep x (g i)) ->
   Rep ok w ρ (.rof xs) (.slice (some ⟨b,o,none⟩) xs.length cap)
 | roin (k:IntKind) {a:Option Addr} {cap:Nat}:Rep ok w ρ (.roi k []) (.slice a 0 cap)
 | roi (k:IntKind) (xs:List Int) (b o cap:Nat):ok b->b<w.heap.size->xs.length<=cap->(∀(i:Nat) x,xs[i]? = some x->w.cell? ⟨b,o+i,none⟩=some (.int k x)) ->
   Rep ok w ρ (.roi k xs) (.slice (some ⟨b,o,none⟩) xs.length cap)
 | ron (sz:Nat) {a:Option Addr} {cap:Nat}:Rep ok w ρ (.ro sz []) (.slice a 0 cap)
 | ro (sz:Nat) (cs:List V) (b o len cap:Nat) (g:Nat->Value):ok b->b<w.heap.size->len*sz=cs.length->len<=cap->(∀ i,i<cs.length->w.cell? ⟨b,o+i,none⟩=some (g i))->(∀ i,i<cs.length->(g i).oneCell'=true) ->
   (∀(i:Nat) c,cs[i]? = some c->Rep ok w ρ c (g i))->Rep ok w ρ (.ro sz cs) (.slice (some ⟨b,o,none⟩) len cap)
 | rl (t:RT) (xs:List t.Ty) (v:Value):Rep ok w ρ (.ro t.sz (t.flat xs)) v->Rep ok w ρ (.rl t xs) v
 | pf (xs:List Fl) (i b o:Nat) (v:Value):w.cell? ⟨b,o,none⟩=some v->FRep (xs.getD i none) v->ok b->b<w.heap.size->Rep ok w ρ (.pf xs i) (.pointer (some ⟨b,o,none⟩))
 | pi (k:IntKind) (xs:List Int) (i b o:Nat):w.cell? ⟨b,o,none⟩=some (.int k (xs.getD i 0))->ok b->b<w.heap.size->Rep ok w ρ (.pi k xs i) (.pointer (some ⟨b,o,none⟩))
 | rp (cs:List V) (i b o:Nat) (g:Nat->Value):ok b->b<w.heap.size->(∀ j,i+j<cs.length->w.cell? ⟨b,o+j,none⟩=some (g (i+j)))->(∀ j,j<cs.length->(g j).oneCell'=true) ->
   (∀(j:Nat) c,cs[j]? = some c->Rep ok w ρ c (g j))->Rep ok w ρ (.rp cs i) (.pointer (some ⟨b,o,none⟩))
 | opt (n e o b:Nat) (p:Place):ρ n=some (some p)->p.subs[e]? = some b->Rep ok w ρ (.opt n e o) (.pointer (some ⟨b,o,none⟩))
 | agg (cs:List V) (vs:List Value):cs.length=vs.length->(∀ v ∈ vs,v.oneCell'=true)->(∀(i:Nat) c v,cs[i]? = some c->vs[i]? = some v->Rep ok w ρ c v)->Rep ok w ρ (.agg cs) (.agg vs.toArray)
 | tup (cs:List V) (vs:List Value):cs.length=vs.length->(∀(i:Nat) c v,cs[i]? = some c->vs[i]? = some v->Rep ok w ρ c v)->Rep ok w ρ (.tup cs) (.tuple vs.toArray)
structure Keeps (ok:Nat->Prop) (w:World) (ρ:Rho) (ok':Nat->Prop) (w':World) (ρ':Rho):Prop where
 rho:∀ n q,ρ n=some q->ρ' n=some q
 blk:∀ b,b<w.heap.size->ok b->ok' b/\w'.heap[b]? = w.heap[b]?
 size:w.heap.size<=w'.heap.size
theorem Keeps.refl (ok:Nat->Prop) (w:World) (ρ:Rho):Keeps ok w ρ ok w ρ:=⟨λ_ _ h=>h,λ_ _ h=>⟨h,rfl⟩,af1 _⟩
theorem Keeps.trans {ok ok' ok'':Nat->Prop} {w w' w'':World} {ρ ρ' ρ'':Rho} (h:Keeps ok w ρ ok' w' ρ') (k:Keeps ok' w' ρ' ok'' w'' ρ''):Keeps ok w ρ ok'' w'' ρ'':=
 ⟨λn q e=>k.rho n q (h.rho n q e),λb hb ho=>by obtain⟨h1,h2⟩:=h.blk b hb ho;obtain⟨k1,k2⟩:=k.blk b (af9 hb h.size) h1;exact⟨k1,k2.trans h2⟩,age h.size k.size⟩
theorem cell?_of {w w':World} {b o:Nat} {v:Value} (h:w'.heap[b]? = w.heap[b]?) (hc:w.cell? ⟨b,o,none⟩=some v):w'.cell? ⟨b,o,none⟩=some v:=by rw[<- hc]; simp only[World.cell?,h]
theorem Rep.mono {ok ok':Nat->Prop} {w w':World} {ρ ρ':Rho} (hk:Keeps ok w ρ ok' w' ρ') {x:V} {v:Value} (h:Rep ok w ρ x v):Rep ok' w' ρ' x v:=by
 induction h with
 | any v=>exact .any v
 | nil=>exact .nil
 | bool b=>exact .bool b
 | int k n=>exact .int k n
 | flt x v h=>exact .flt x v h
 | val v=>exact .val v
 | fn g caps vs v hl _ hv ih=>exact .fn g caps vs v hl ih hv
 | ptr n o p h=>exact .ptr n o p (hk.rho _ _ h)
 | slw n p h=>exact .slw n p (hk.rho _ _ h)
 | slv n h=>exact .slv n (hk.rho _ _ h)
 | sl n o len cap o' p h hl ho hc=>exact .sl n o len cap o' p (hk.rho _ _ h) hl ho hc
 | rl t xs v _ ih=>exact .rl t xs v ih
 | slvp n o h=>exact .slvp n o (hk.rho _ _ h)
 | rofn=>exact .rofn
 | rof xs b o cap g ho hb hcap hc hr=>exact .rof xs b o cap g (hk.blk b hb ho).1 (af9 hb hk.size) hcap (λi hi=>cell?_of (hk.blk b hb ho).2 (hc i hi)) hr
 | roin k=>exact .roin k
 | roi k xs b o cap ho hb hcap hc=>exact .roi k xs b o cap (hk.blk b hb ho).1 (af9 hb hk.size) hcap (λi x hi=>cell?_of (hk.blk b hb ho).2 (hc i x hi))
 | ron sz=>exact .ron sz
 | ro sz cs b o len cap g ho hb hl hcap hc h1 _ ih=>exact .ro sz cs b o len cap g (hk.blk b hb ho).1 (af9 hb hk.size) hl hcap (λi hi=>cell?_of (hk.blk b hb ho).2 (hc i hi)) h1 ih
 | pf xs i b o v hc hf ho hb=>exact .pf xs i b o v (cell?_of (hk.blk b hb ho).2 hc) hf (hk.blk b hb ho).1 (af9 hb hk.size)
 | pi k xs i b o hc ho hb=>exact .pi k xs i b o (cell?_of (hk.blk b hb ho).2 hc) (hk.blk b hb ho).1 (af9 hb hk.size)
 | rp cs i b o g ho hb hc h1 _ ih=>exact .rp cs i b o g (hk.blk b hb ho).1 (af9 hb hk.size) (λj hj=>cell?_of (hk.blk b hb ho).2 (hc j hj)) h1 ih
 | opt n e o b p h he=>exact .opt n e o b p (hk.rho _ _ h) he
 | agg cs vs hl h1 _ ih=>exact .agg cs vs hl h1 ih
 | tup cs vs hl _ ih=>exact .tup cs vs hl ih
def Body.at:Body->Nat->Option V
 | .flts xs,i=>(xs[i]?).map .flt
 | .ints k xs,i=>(xs[i]?).map (.int k)
 | .cells cs,i=>cs[i]?
 | .recs t xs,i=>(t.flat xs)[i]?
 | .own _ _ xs _,i=>(xs[i]?).map λ_=>.any
theorem RT.cells_length:∀(t:RT) (x:t.Ty),(t.cells x).length=t.sz
 | .flt,_ | .int _,_ | .bool,_ | .fls,_ | .ints _,_ | .rows _,_ | .ptr _,_=>rfl
 | .pair a b,p=>by simp[RT.cells,RT.sz,RT.cells_length a p.1,RT.cells_length b p.2]
theorem RT.flat_length (t:RT) (xs:List t.Ty):(t.flat xs).length=xs.length*t.sz:=by
 unfold RT.flat;induction xs with
 | nil=>simp
 | cons x r ih=>simp only[agQ,ahN,ag4,ih,t.cells_length,ags,agk,ahQ]; omega
theorem RT.flat_append (t:RT) (xs ys:List t.Ty):t.flat (xs++ys)=t.flat xs++t.flat ys:=by simp[RT.flat]
theorem RT.sz_pos:∀ t:RT,0<t.sz
 | .flt | .int _ | .bool | .fls | .ints _ | .rows _ | .ptr _=>Nat.one_pos
 | .pair a b=>by have:=RT.sz_pos a; simp only[RT.sz]; omega
theorem RT.flat_get (t:RT):∀(xs:List t.Ty) (i j:Nat),j<t.sz->(t.flat xs)[i*t.sz+j]? = (xs[i]?).bind λx=>(t.cells x)[j]?
 | [],i,j,_=>by simp[RT.flat]
 | x::r,0,j,h=>by
  show(t.cells x++t.flat r)[0*t.sz+j]? = _;rw[ahe,agl,List.getElem?_append_left (by rw[t.cells_length]; exact h)];simp
 | x::r,i+1,j,h=>by show(t.cells x++t.flat r)[(i+1)*t.sz+j]? = _;rw[agk,ahQ,List.getElem?_append_right (by rw[t.cells_length]; omega),t.cells_length,show i*t.sz+t.sz+j - t.sz=i*t.sz+j by omega,RT.flat_get t r i j h];simp
theorem RT.flat_get1 (t:RT) (h:t.sz=1) (xs:List t.Ty) (i:Nat):(t.flat xs)[i]? = (xs[i]?).bind λx=>(t.cells x)[0]?:=by
 have:=t.flat_get xs i 0 (by omega)
 rwa [h,ahG,agn]at this
theorem aN (i s:Nat):cz i s=i*s:=by unfold cz; split <;> simp
theorem Body.at_lt {c:Body} {i:Nat} {x:V} (h:c.at i=some x):i<c.size:=by
 cases c <;> simp only[Body.at,Body.size,agj]at h ⊢
 ·obtain⟨y,hy,_⟩:=h; exact(List.getElem?_eq_some_iff.1 hy).1
 ·obtain⟨y,hy,_⟩:=h; exact(List.getElem?_eq_some_iff.1 hy).1
 ·exact(List.getElem?_eq_some_iff.1 h).1
 ·rename_i t xs; rw[aN,<- t.flat_length]; exact(List.getElem?_eq_some_iff.1 h).1
 ·obtain⟨y,hy,_⟩:=h; exact(List.getElem?_eq_some_iff.1 hy).1
theorem Body.at_some {c:Body} {i:Nat} (h:i<c.size):∃ x,c.at i=some x:=by
 cases c <;> simp only[Body.at,Body.size]at h ⊢
 ·simp[h]
 ·simp[h]
 ·simp[h]
 ·rename_i t xs; rw[aN,<- t.flat_length]at h; simp[h]
 ·simp[h]
def BodyRep (ok:Nat->Prop) (w:World) (ρ:Rho) (c:Body) (cur:Array Value):Prop:=
 ∀ i x,c.at i=some x -> ∃ v,cur[i]? = some v/\v.oneCell'=true/\Rep ok w ρ x v
theorem BodyRep.mono {ok ok':Nat->Prop} {w w':World} {ρ ρ':Rho} (hk:Keeps ok w ρ ok' w' ρ') {c:Body} {cur:Array Value} (h:BodyRep ok w ρ c cur):BodyRep ok' w' ρ' c cur:=
 λi x hx=>let ⟨v,h1,h2,h3⟩:=h i x hx; ⟨v,h1,h2,h3.mono hk⟩
def SubsAt (ok:Nat->Prop) (w:World) (ρ:Rho) (p:Place) (c:Body) (cur:Array Value):Prop:=match c with
 | .own t a xs hs=>p.subs.length=xs.length/\p.b ∉ p.subs/\p.subs.Nodup /\ ∀(i:Nat) x,xs[i]? = some x -> ∃ b,p.subs[i]? = some b/\cur[i]? = some (.pointer (some ⟨b,0,none⟩)) /\
   (i ∉ hs -> ∃ cur',w.heap[b]? = some (.cells cur' t (0,0))/\a.sz<=cur'.size/\BodyRep ok w ρ (.cells (a.cells x)) cur')
 | _=>p.subs=[]
theorem SubsAt.plain {ok:Nat->Prop} {w:World} {ρ:Rho} {p:Place} {c:Body} {cur:Array Value} (h:c.isOwn=false):SubsAt ok w ρ p c cur↔p.subs=[]:=by cases c <;> simp_all [SubsAt,Body.isOwn]
theorem SubsAt.of {ok ok':Nat->Prop} {w w':World} {ρ ρ':Rho} {p:Place} {c:Body} {cur:Array Value} (hk:Keeps ok w ρ ok' w' ρ') (hh:∀ b,hasB p c b->w'.heap[b]? = w.heap[b]?) (h:SubsAt ok w ρ p c cur):SubsAt ok' w' ρ' p c cur:=by
 cases hc:c.isOwn with
 | false=>exact(SubsAt.plain hc).2 ((SubsAt.plain hc).1 h)
 | true=>
  cases c with
  | own t a xs hs=>
   obtain⟨h1,h2,h3,h4⟩:=h;refine⟨h1,h2,h3,λi x hx=>?_⟩;obtain⟨b,b1,b2,b3⟩:=h4 i x hx;refine⟨b,b1,b2,λhi=>?_⟩;obtain⟨cur',c1,c2,c3⟩:=b3 hi;exact⟨cur',(hh b (.inr ⟨i,b1,hi⟩)).trans c1,c2,c3.mono hk⟩
  | _=>cases hc
def BlkAt (ok:Nat->Prop) (w:World) (ρ:Rho) (q:Option Place) (blk:Blk):Prop:=match q with
 | none=>blk.c.size=0
 | some p=>∃ cur,w.heap[p.b]? = some (.cells cur blk.e (0,0))/\p.cap*blk.sz<=cur.size/\p.len*blk.sz=blk.c.size/\p.len<=p.cap/\p.cap<=maxLen/\BodyRep ok w ρ blk.c cur/\SubsAt ok w ρ p blk.c cur
theorem BlkAt.of {ok ok':Nat->Prop} {w w':World} {ρ ρ':Rho} {q:Option Place} {blk:Blk} (h:BlkAt ok w ρ q blk) (hk:Keeps ok w ρ ok' w' ρ') (hh:∀ p b,q=some p->hasB p blk.c b->w'.heap[b]? = w.heap[b]?):BlkAt ok' w' ρ' q blk:=by
 cases q with
 | none=>exact h
 | some p=>
  obtain⟨cur,g1,g2,g3,g4,g5,g6,g7⟩:=h;exact⟨cur,(hh p _ rfl (bL _ _)).trans g1,g2,g3,g4,g5,g6.mono hk,g7.of hk λb hb=>hh p b rfl hb⟩
theorem xz {p:Place} {b:Nat} (hs:p.subs=[]):p.has b↔p.b=b:=by
 refine⟨λh=>?_,.inl⟩;rcases h with h | h
 ·exact h
 ·rw[hs]at h; simp at h
abbrev LK:=Nat->Option Blk
structure Gh where
 B:Nat
 base:Nat
 w0:World
 ok0:Nat->Prop
 ex:Nat->Prop
 ds:List Deferred:=[]
 dt:Option Nat:=none
 dv:Value:=undef
def Ng (G:Gh) (d:Option Nat):Prop:=∀ t,G.dt=some t->d ≠ some t
def z8 (G:Gh) (l:List Oper):Prop:=∀ o,o ∈ l->Ng G o.dst
def l6 (t:Nat):Code->Bool
 | .region _ ops _=>ops.toList.all λo=>!(o.dst==some t)
 | .seq a b=>l6 t a&&l6 t b
 | .cond _ a b=>l6 t a&&l6 t b
 | .block _ b=>l6 t b
 | .scope b=>l6 t b
 | .loop b=>l6 t b
 | _=>true
def SpareC (G:Gh) (c:Code):Prop:=∀ t,G.dt=some t->l6 t c=true
theorem SpareC.region {G:Gh} {id:Nat} {ops:Array Oper} {b:Bool} (h:SpareC G (.region id ops b)):z8 G ops.toList:=by intro o ho t ht;have:=List.all_eq_true.1 (h t ht) o ho;simpa using this
theorem SpareC.seq {G:Gh} {a b:Code} (h:SpareC G (.seq a b)):SpareC G a/\SpareC G b:=
 ⟨λt ht=>by have:=h t ht; simp only[l6,agh]at this; exact this.1,λt ht=>by have:=h t ht; simp only[l6,agh]at this; exact this.2⟩
theorem SpareC.cond {G:Gh} {x:Operand} {a b:Code} (h:SpareC G (.cond x a b)):SpareC G a/\SpareC G b:=
 ⟨λt ht=>by have:=h t ht; simp only[l6,agh]at this; exact this.1,λt ht=>by have:=h t ht; simp only[l6,agh]at this; exact this.2⟩
theorem SpareC.block {G:Gh} {i:Nat} {b:Code} (h:SpareC G (.block i b)):SpareC G b:=h
theorem SpareC.scope {G:Gh} {b:Code} (h:SpareC G (.scope b)):SpareC G b:=h
theorem SpareC.loop {G:Gh} {b:Code} (h:SpareC G (.loop b)):SpareC G b:=h
theorem SpareC.none {G:Gh} {c:Code} (h:G.dt=none):SpareC G c:=λt ht=>by rw[h]at ht; cases ht
def okc (G:Gh) (ρ:Rho) (L:LK) (b:Nat):Prop:=(G.ok0 b\/G.B<=b) /\ ∀ n blk p,L n=some blk->ρ n=some (some p)->¬ hasB p blk.c b
def TabAt (w:World) (b:Nat) (zs:List Int):Prop:=b<w.heap.size /\ ∀ i,i<zs.length->w.cell? ⟨b,i,none⟩=some (.int .u8 (zs.getD i 0))
theorem TabAt.of {w w':World} {b:Nat} {zs:List Int} (h:TabAt w b zs) (hh:w'.heap[b]? = w.heap[b]?):TabAt w' b zs:=by refine⟨?_,λi hi=>cell?_of hh (h.2 i hi)⟩;have h1:=h.1;rw[Array.getElem?_eq_getElem h1]at hh;exact(Array.getElem?_eq_some_iff.1 hh).1
structure SimW (G:Gh) (w:World) (ρ:Rho) (L:LK):Prop where
 blks:∀ n blk,L n=some blk -> ∃ q,ρ n=some q/\BlkAt (okc G ρ L) w ρ q blk
 inj:∀ n m bn bm p q,L n=some bn->L m=some bm->ρ n=some (some p)->ρ m=some (some q) -> ∀ b,hasB p bn.c b->hasB q bm.c b->n=m
 own:∀ n p,G.base<=n->ρ n=some (some p) -> ∀ b,p.has b->G.B<=b\/G.ex b
 size:G.B<=w.heap.size
 os:w.os=G.w0.os
 tape:w.tape=G.w0.tape
 output:w.output=G.w0.output
 old:∀ b,b<G.B->¬ G.ex b->(∀ n p,n<G.base->ρ n=some (some p)->¬ p.has b)->w.heap[b]? = G.w0.heap[b]?
 tab:∀ b zs,zA b=some zs->G.ok0 b/\TabAt w b zs
 high:∀ n p,ρ n=some (some p) -> ∀ b,p.has b->zA b=none
theorem SimW.tabs {G:Gh} {w w':World} {ρ:Rho} {L:LK} (h:SimW G w ρ L) (hb:∀ b zs,zA b=some zs->w'.heap[b]? = w.heap[b]?):∀ b zs,zA b=some zs->G.ok0 b/\TabAt w' b zs:=
 λb zs e=>⟨(h.tab b zs e).1,(h.tab b zs e).2.of (hb b zs e)⟩
theorem SimW.apart {G:Gh} {w:World} {ρ:Rho} {L:LK} (h:SimW G w ρ L) {n:Nat} {p:Place} (hp:ρ n=some (some p)) {b:Nat} {zs:List Int} (e:zA b=some zs):b ≠ p.b:=by intro he;have:=h.high n p hp p.b (.inl rfl);rw[<- he,e]at this; cases this
theorem SimW.apartB {G:Gh} {w:World} {ρ:Rho} {L:LK} (h:SimW G w ρ L) {n:Nat} {p:Place} (hp:ρ n=some (some p)) {b:Nat} {zs:List Int} (e:zA b=some zs):¬ p.has b:=by intro he;have:=h.high n p hp b he;rw[e]at this; cases this
def aI (L:LK) (n:Nat) (b:Option Blk):LK:=λm=>if m=n then b else L m
def aK (ρ:Rho) (n:Nat) (q:Option Place):Rho:=λm=>if m=n then some q else ρ m
theorem SimW.ltB {G:Gh} {w:World} {ρ:Rho} {L:LK} (h:SimW G w ρ L) {n:Nat} {blk:Blk} {p:Place} (hL:L n=some blk) (hp:ρ n=some (some p)) {b:Nat} (hb:hasB p blk.c b):b<w.heap.size:=by
 obtain⟨q,hq,hbb⟩:=h.blks n blk hL;rw[hp]at hq; cases hq;obtain⟨cur,hc,-,-,-,-,-,hs⟩:=hbb;rcases hb with rfl | ⟨i,hi,hn⟩
 ·exact(Array.getElem?_eq_some_iff.1 hc).1
 ·cases ho:blk.c.isOwn with
  | false=>rw[(SubsAt.plain ho).1 hs]at hi; simp at hi
  | true=>
   obtain⟨e,sz,c⟩:=blk;cases c with
   | own t a xs hss=>
    obtain⟨h1,h2,h3,h4⟩:=hs;have hil:i<xs.length:=by rw[<- h1]; exact(List.getElem?_eq_some_iff.1 hi).1
    obtain⟨b',b1,-,b3⟩:=h4 i xs[i] (List.getElem?_eq_getElem hil);rw[hi]at b1; cases b1;obtain⟨cur',c1,-,-⟩:=b3 hn;exact(Array.getElem?_eq_some_iff.1 c1).1
   | _=>cases ho
theorem SimW.lt {G:Gh} {w:World} {ρ:Rho} {L:LK} (h:SimW G w ρ L) {n:Nat} {blk:Blk} {p:Place} (hL:L n=some blk) (hp:ρ n=some (some p)):p.b<w.heap.size:=h.ltB hL hp (bL _ _)
theorem SimW.subs {G:Gh} {w:World} {ρ:Rho} {L:LK} (h:SimW G w ρ L) {n:Nat} {blk:Blk} {p:Place} (hL:L n=some blk) (hp:ρ n=some (some p)) (ho:blk.c.isOwn=false):p.subs=[]:=by obtain⟨q,hq,hbb⟩:=h.blks n blk hL;rw[hp]at hq; cases hq;obtain⟨cur,-,-,-,-,-,-,hs⟩:=hbb;exact(SubsAt.plain ho).1 hs
theorem SimW.drew {G:Gh} {w:World} {ρ:Rho} {L:LK} (h:SimW G w ρ L):SimW G w.drew ρ L/\Keeps (okc G ρ L) w ρ (okc G ρ L) w.drew ρ:=by
 have hk:Keeps (okc G ρ L) w ρ (okc G ρ L) w.drew ρ:=⟨λ_ _ h=>h,λ_ _ h=>⟨h,rfl⟩,af1 _⟩
 refine⟨⟨?_,h.inj,h.own,h.size,h.os,h.tape,h.output,h.old,h.tab,h.high⟩,hk⟩;intro n blk hn;obtain⟨q,hq,hb⟩:=h.blks n blk hn;exact⟨q,hq,hb.of hk λ_ _ _ _=>rfl⟩
theorem SimW.same {G:Gh} {w w':World} {ρ:Rho} {L:LK} (h:SimW G w ρ L) (hb:∀ b,b<w.heap.size->w'.heap[b]? = w.heap[b]?) (hs:w.heap.size<=w'.heap.size)
  (h1:w'.os=w.os) (h2:w'.tape=w.tape) (h3:w'.output=w.output):SimW G w' ρ L/\Keeps (okc G ρ L) w ρ (okc G ρ L) w' ρ:=by
 have hk:Keeps (okc G ρ L) w ρ (okc G ρ L) w' ρ:=⟨λ_ _ h=>h,λb hlt h=>⟨h,hb b hlt⟩,hs⟩
 refine⟨⟨?_,h.inj,h.own,age h.size hs,h1.trans h.os,h2.trans h.tape,h3.trans h.output,?_,h.tabs λb zs e=>hb b (h.tab b zs e).2.1,h.high⟩,hk⟩
 ·intro n blk hn;obtain⟨q,hq,hbb⟩:=h.blks n blk hn;exact⟨q,hq,hbb.of hk λp b hp hh=>hb b (h.ltB hn (by rw[hq,hp]) hh)⟩
 ·intro b hlt hex hno;exact(hb b (af9 hlt h.size)).trans (h.old b hlt hex hno)
theorem SimW.alloc {G:Gh} {w:World} {ρ:Rho} {L:LK} (h:SimW G w ρ L) (nm:Nat) (hnm:ρ nm=none) (hbase:G.base<=nm) (blk:Blk) (cur:Array Value) (len cap:Nat) (ho:blk.c.isOwn=false)
  (h1:cap*blk.sz<=cur.size) (h2:len*blk.sz=blk.c.size) (h3:len<=cap) (h4:cap<=maxLen) (h5:BodyRep (okc G ρ L) w ρ blk.c cur) :
  SimW G (w.alloc (.cells cur blk.e (0,0))) (aK ρ nm (some ⟨w.heap.size,len,cap,[]⟩)) (aI L nm (some blk)) /\
  Keeps (okc G ρ L) w ρ (okc G (aK ρ nm (some ⟨w.heap.size,len,cap,[]⟩)) (aI L nm (some blk))) (w.alloc (.cells cur blk.e (0,0))) (aK ρ nm (some ⟨w.heap.size,len,cap,[]⟩)):=by
 have hLnm:L nm=none:=by
  cases e:L nm with
  | none=>rfl
  | some b=>obtain⟨q,hq,_⟩:=h.blks nm b e; rw[hnm]at hq; cases hq
 have hold:∀ b,b<w.heap.size->(w.alloc (.cells cur blk.e (0,0))).heap[b]? = w.heap[b]?:=λb hb=>heap_alloc_old _ _ hb
 have hnew:∀ b,Place.has ⟨w.heap.size,len,cap,[]⟩ b->w.heap.size=b:=λb hb=>(xz rfl).1 hb
 have hk:Keeps (okc G ρ L) w ρ (okc G (aK ρ nm (some ⟨w.heap.size,len,cap,[]⟩)) (aI L nm (some blk))) (w.alloc (.cells cur blk.e (0,0))) (aK ρ nm (some ⟨w.heap.size,len,cap,[]⟩)):=by
  refine⟨?_,?_,by simp⟩
  ·intro n q hq;unfold aK;by_cases e:n=nm
   ·subst e; rw[hnm]at hq; cases hq
   ·simp[e,hq]
  ·intro b hb ho;refine⟨⟨ho.1,?_⟩,hold b hb⟩;intro n bl p hn hp hh;unfold aI at hn; unfold aK at hp;by_cases e:n=nm
   ·subst e; simp at hp; subst hp; have:=hnew b hh.has; omega
   ·simp only[e,ago]at hn hp; exact ho.2 n bl p hn hp hh
 refine⟨⟨?_,?_,?_,?_,h.os,h.tape,h.output,?_,h.tabs λb zs e=>hold b (h.tab b zs e).2.1,?_⟩,hk⟩
 ·intro n bl hn;unfold aI at hn;by_cases e:n=nm
  ·subst e;simp only[ahr,agf]at hn;subst hn;refine⟨some ⟨w.heap.size,len,cap,[]⟩,by simp[aK],?_⟩;exact⟨cur,heap_alloc_new _ _,h1,h2,h3,h4,h5.mono hk,(SubsAt.plain ho).2 rfl⟩
  ·simp only[e,ago]at hn;obtain⟨q,hq,hb⟩:=h.blks n bl hn;exact⟨q,by simp[aK,e,hq],hb.of hk λp b hp hh=>hold _ (h.ltB hn (by rw[hq,hp]) hh)⟩
 ·intro n m bn bm p q hn hm hp hq b hb1 hb2;unfold aI at hn hm; unfold aK at hp hq;by_cases en:n=nm <;> by_cases em:m=nm
  ·rw[en,em]
  ·simp only[en,em,ahr,ago,agf]at hn hm hp hq;subst hp;have:=h.ltB hm hq hb2;have:=hnew b hb1.has; omega
  ·simp only[en,em,ahr,ago,agf]at hn hm hp hq;subst hq;have:=h.ltB hn hp hb1;have:=hnew b hb2.has; omega
  ·simp only[en,em,ago]at hn hm hp hq;exact h.inj n m bn bm p q hn hm hp hq b hb1 hb2
 ·intro n p hn hp b hb;unfold aK at hp;by_cases e:n=nm
  ·simp only[e,ahr,agf]at hp; subst hp; have:=hnew b hb; have:=h.size; left; omega
  ·simp only[e,ago]at hp; exact h.own n p hn hp b hb
 ·simp only[World.size_alloc]; exact Nat.le_succ_of_le h.size
 ·intro b hb hex hno;rw[hold b (af9 hb h.size)];refine h.old b hb hex λn p hn hp=>hno n p hn ?_
  unfold aK;have:n ≠ nm:=by omega
  simp[this,hp]
 ·intro n p hp b hb;unfold aK at hp;by_cases e:n=nm
  ·simp only[e,ahr,agf]at hp;subst hp;have:=hnew b hb; subst this;cases e':zA w.heap.size with
   | none=>rfl
   | some zs=>exact absurd (h.tab _ zs e').2.1 (Nat.lt_irrefl _)
  ·simp only[e,ago]at hp; exact h.high n p hp b hb
theorem JA {G:Gh} {ρ:Rho} {L:LK} {n:Nat} {blk blk':Blk} (hn:L n=some blk) (hh:blk'.c.holes=blk.c.holes) {b:Nat} (h:okc G ρ L b):okc G ρ (aI L n (some blk')) b:=by
 refine⟨h.1,λm bl q hm hq hb=>?_⟩;unfold aI at hm;by_cases e:m=n
 ·subst e;simp only[ahr,agf]at hm;subst hm;refine h.2 m blk q hn hq ?_;rcases hb with hb | ⟨i,hi,hx⟩
  ·exact .inl hb
  ·exact .inr ⟨i,hi,by rw[<- hh]; exact hx⟩
 ·simp only[e,ago]at hm;exact h.2 m bl q hm hq hb
theorem oM {c:Body} (h:c.isOwn=false):c.holes=[]:=by cases c <;> simp_all [Body.isOwn,Body.holes]
theorem SimW.write' {G:Gh} {w:World} {ρ:Rho} {L:LK} (h:SimW G w ρ L) (n:Nat) (blk:Blk) (p:Place) (hn:L n=some blk) (hp:ρ n=some (some p)) (b0:Nat) (hb0:hasB p blk.c b0) (cur':Array Value)
  (c':Body) (hho:c'.holes=blk.c.holes) (hat:Keeps (okc G ρ L) w ρ (okc G ρ (aI L n (some { blk with c:=c' }))) (w.setRow b0 cur') ρ->BlkAt (okc G ρ (aI L n (some { blk with c:=c' }))) (w.setRow b0 cur') ρ (some p) { blk with c:=c' }) :
  SimW G (w.setRow b0 cur') ρ (aI L n (some { blk with c:=c' }))/\Keeps (okc G ρ L) w ρ (okc G ρ (aI L n (some { blk with c:=c' }))) (w.setRow b0 cur') ρ:=by
 have hoth:∀ b,b ≠ b0->(w.setRow b0 cur').heap[b]? = w.heap[b]?:=λb hb=>setRow_other w b0 b cur' hb
 have hk:Keeps (okc G ρ L) w ρ (okc G ρ (aI L n (some { blk with c:=c' }))) (w.setRow b0 cur') ρ:=
  ⟨λ_ _ h=>h,λb _ ho=>⟨JA hn hho ho,hoth b λe=>ho.2 n blk p hn hp (e ▸ hb0)⟩,by simp⟩
 have hsame:∀ m bl,aI L n (some { blk with c:=c' }) m=some bl -> ∃ bl',L m=some bl'/\bl.c.holes=bl'.c.holes:=by
  intro m bl hm;unfold aI at hm;by_cases e:m=n
  ·subst e; simp only[ahr,agf]at hm; subst hm; exact⟨blk,hn,hho⟩
  ·simp only[e,ago]at hm; exact⟨bl,hm,rfl⟩
 refine⟨⟨?_,?_,h.own,by simpa using h.size,h.os,h.tape,h.output,?_,h.tabs λb zs e=>hoth b λhe=>?_,h.high⟩,hk⟩
 ·intro m bl hm;by_cases e:m=n
  ·subst e;simp only[aI,ahr,agf]at hm;subst hm;exact⟨some p,hp,hat hk⟩
  ·have hm':=hm;simp only[aI,e,ago]at hm';obtain⟨q,hq,hb⟩:=h.blks m bl hm';refine⟨q,hq,hb.of hk λp' b hp' hh=>hoth _ λe'=>?_⟩;subst e';exact e (h.inj m n bl blk p' p hm' hn (by rw[hq,hp']) hp _ hh hb0)
 ·intro m m' bn bm q q' hm hm' hq hq' b hb1 hb2;obtain⟨b1,h1,e1⟩:=hsame m bn hm;obtain⟨b2,h2,e2⟩:=hsame m' bm hm';refine h.inj m m' b1 b2 q q' h1 h2 hq hq' b ?_ ?_
  ·rcases hb1 with hb | ⟨i,hi,hx⟩
   ·exact .inl hb
   ·exact .inr ⟨i,hi,by rw[<- e1]; exact hx⟩
  ·rcases hb2 with hb | ⟨i,hi,hx⟩
   ·exact .inl hb
   ·exact .inr ⟨i,hi,by rw[<- e2]; exact hx⟩
 ·intro b hb hex hno;by_cases e:b=b0
  ·subst e;by_cases hlt:n<G.base
   ·exact absurd hb0.has (hno n p hlt hp)
   ·rcases h.own n p (by omega) hp _ hb0.has with h1 | h1
    ·omega
    ·exact absurd h1 hex
  ·rw[hoth b e]; exact h.old b hb hex hno
 ·subst he;have:=h.high n p hp _ hb0.has;rw[e]at this; cases this
theorem SimW.write {G:Gh} {w:World} {ρ:Rho} {L:LK} (h:SimW G w ρ L) (n:Nat) (blk:Blk) (p:Place) (hn:L n=some blk) (hp:ρ n=some (some p)) (cur cur':Array Value) (hc:w.heap[p.b]? = some (.cells cur blk.e (0,0)))
  (c':Body) (ho:blk.c.isOwn=false) (ho':c'.isOwn=false) (hsz:cur'.size=cur.size) (hcs:c'.size=blk.c.size) (hr:BodyRep (okc G ρ L) w ρ c' cur') :
  SimW G (w.setRow p.b cur') ρ (aI L n (some { blk with c:=c' }))/\Keeps (okc G ρ L) w ρ (okc G ρ (aI L n (some { blk with c:=c' }))) (w.setRow p.b cur') ρ:=by
 refine h.write' n blk p hn hp p.b (bL _ _) cur' c' (by rw[oM ho,oM ho']) λhk=>?_
 obtain⟨q,hq,hb⟩:=h.blks n blk hn;rw[hp]at hq; cases hq;obtain⟨c2,g1,g2,g3,g4,g5,_,g7⟩:=hb;rw[hc]at g1; cases g1;exact⟨cur',setRow_heap w p.b cur cur' _ _ hc,hsz ▸ g2,g3.trans hcs.symm,g4,g5,hr.mono hk,(SubsAt.plain ho').2 ((SubsAt.plain ho).1 g7)⟩
theorem SimW.drop {G:Gh} {w:World} {ρ:Rho} {L:LK} (h:SimW G w ρ L) (n:Nat) :
  SimW G w ρ (aI L n none)/\Keeps (okc G ρ L) w ρ (okc G ρ (aI L n none)) w ρ:=by
 have hsub:∀ m bl,aI L n none m=some bl->L m=some bl:=by
  intro m bl hm; unfold aI at hm; by_cases e:m=n
  ·simp[e]at hm
  ·simpa [e]using hm
 have hk:Keeps (okc G ρ L) w ρ (okc G ρ (aI L n none)) w ρ:=
  ⟨λ_ _ h=>h,λb _ ho=>⟨⟨ho.1,λm bl q hm hq=>ho.2 m bl q (hsub m bl hm) hq⟩,rfl⟩,af1 _⟩
 refine⟨⟨?_,?_,h.own,h.size,h.os,h.tape,h.output,h.old,h.tab,h.high⟩,hk⟩
 ·intro m bl hm;obtain⟨q,hq,hb⟩:=h.blks m bl (hsub m bl hm);exact⟨q,hq,hb.of hk λ_ _ _ _=>rfl⟩
 ·intro m m' bn bm q q' hm hm' hq hq' e;exact h.inj m m' bn bm q q' (hsub _ _ hm) (hsub _ _ hm') hq hq' e
theorem SimW.regrow {G:Gh} {w:World} {ρ:Rho} {L:LK} (h:SimW G w ρ L) (n nm:Nat) (hnm:ρ nm=none) (hbase:G.base<=n) (blk:Blk) (p:Place) (hn:L n=some blk) (hp:ρ n=some (some p)) (cur cur':Array Value)
  (hc:w.heap[p.b]? = some (.cells cur blk.e (0,0))) (c':Body) (hoc:c'.isOwn=false) (len:Nat) (hsz:cur'.size=cur.size) (hl:len*blk.sz=c'.size) (cp:Nat) (hcap:len<=cp) (hcp:cp<=p.cap) (hr:BodyRep (okc G ρ L) w ρ c' cur') :
  SimW G (w.setRow p.b cur') (aK ρ nm (some ⟨p.b,len,cp,[]⟩)) (aI (aI L n none) nm (some { blk with c:=c' })) /\
  Keeps (okc G ρ L) w ρ (okc G (aK ρ nm (some ⟨p.b,len,cp,[]⟩)) (aI (aI L n none) nm (some { blk with c:=c' }))) (w.setRow p.b cur') (aK ρ nm (some ⟨p.b,len,cp,[]⟩)):=by
 have hne:n ≠ nm:=by intro e; subst e; rw[hnm]at hp; cases hp
 have hoth:∀ b,b ≠ p.b->(w.setRow p.b cur').heap[b]? = w.heap[b]?:=λb hb=>setRow_other w p.b b cur' hb
 have hnew:∀ b,Place.has ⟨p.b,len,cp,[]⟩ b->p.b=b:=λb hb=>(xz (p:=⟨p.b,len,cp,[]⟩) rfl).1 hb
 have hL:∀ m bl,m ≠ nm->aI (aI L n none) nm (some { blk with c:=c' }) m=some bl->m ≠ n/\L m=some bl:=by
  intro m bl hm e;unfold aI at e;rw[if_neg hm]at e;by_cases e2:m=n
  ·rw[if_pos e2]at e; cases e
  ·rw[if_neg e2]at e; exact⟨e2,e⟩
 have hok:∀ b,okc G ρ L b->okc G (aK ρ nm (some ⟨p.b,len,cp,[]⟩)) (aI (aI L n none) nm (some { blk with c:=c' })) b:=by
  intro b ho;refine⟨ho.1,λm bl q hm hq hh=>?_⟩;by_cases e:m=nm
  ·subst e; simp[aK]at hq; subst hq;have:=hnew b hh.has; subst this;exact ho.2 n blk p hn hp (bL _ _)
  ·simp only[aK,e,ago]at hq;exact ho.2 m bl q (hL m bl e hm).2 hq hh
 have hk:Keeps (okc G ρ L) w ρ (okc G (aK ρ nm (some ⟨p.b,len,cp,[]⟩)) (aI (aI L n none) nm (some { blk with c:=c' }))) (w.setRow p.b cur') (aK ρ nm (some ⟨p.b,len,cp,[]⟩)):=by
  refine⟨?_,λb _ ho=>⟨hok b ho,hoth b λe=>ho.2 n blk p hn hp (e ▸ bL _ _)⟩,by simp⟩;intro m q hq;unfold aK;by_cases e:m=nm
  ·subst e; rw[hnm]at hq; cases hq
  ·simp[e,hq]
 obtain⟨cur0,g1,g2,g3,g4,g5,g6⟩:∃ cur,w.heap[p.b]? = some (.cells cur blk.e (0,0))/\p.cap*blk.sz<=cur.size/\p.len*blk.sz=blk.c.size/\p.len<=p.cap/\p.cap<=maxLen/\BodyRep (okc G ρ L) w ρ blk.c cur/\SubsAt (okc G ρ L) w ρ p blk.c cur:=by obtain⟨q,hq,hb⟩:=h.blks n blk hn;rw[hp]at hq; cases hq; exact hb
 rw[hc]at g1; cases g1;refine⟨⟨?_,?_,?_,by simpa using h.size,h.os,h.tape,h.output,?_,h.tabs λb zs e=>hoth b (h.apart hp e),?_⟩,hk⟩
 ·intro m bl hm;by_cases e:m=nm
  ·subst e;simp only[aI,ahr,agf]at hm;subst hm;exact⟨some ⟨p.b,len,cp,[]⟩,by simp[aK],cur',setRow_heap w p.b cur cur' _ _ hc,age (afT _ hcp) (hsz ▸ g2),hl,hcap,age hcp g5,hr.mono hk,(SubsAt.plain hoc).2 rfl⟩
  ·obtain⟨e2,hLm⟩:=hL m bl e hm;obtain⟨q,hq,hb⟩:=h.blks m bl hLm;refine⟨q,by simp[aK,e,hq],hb.of hk λp' b hp' hh=>hoth _ λe'=>e2 ?_⟩;subst e';exact h.inj m n bl blk p' p hLm hn (by rw[hq,hp']) hp _ hh (bL _ _)
 ·intro m m' bn bm q q' hm hm' hq hq' b hb1 hb2;by_cases e1:m=nm <;> by_cases e2:m'=nm
  ·rw[e1,e2]
  ·subst e1;simp[aK]at hq; subst hq;simp only[aK,e2,ago]at hq';obtain⟨e3,hL'⟩:=hL m' bm e2 hm';have:=hnew b hb1.has; subst this;exact absurd (h.inj n m' blk bm p q' hn hL' hp hq' _ (bL _ _) hb2).symm e3
  ·subst e2;simp[aK]at hq'; subst hq';simp only[aK,e1,ago]at hq;obtain⟨e3,hL'⟩:=hL m bn e1 hm;have:=hnew b hb2.has; subst this;exact absurd (h.inj m n bn blk q p hL' hn hq hp _ hb1 (bL _ _)) e3
  ·simp only[aK,e1,e2,ago]at hq hq';exact h.inj m m' bn bm q q' (hL m bn e1 hm).2 (hL m' bm e2 hm').2 hq hq' b hb1 hb2
 ·intro m q hm hq b hb;by_cases e:m=nm
  ·subst e; simp[aK]at hq; subst hq;have:=hnew b hb; subst this;exact h.own n p hbase hp _ (.inl rfl)
  ·simp only[aK,e,ago]at hq; exact h.own m q hm hq b hb
 ·intro b hb hex hno;have hb':b ≠ p.b:=by
   intro e; subst e;rcases h.own n p hbase hp _ (.inl rfl)with h1 | h1
   ·omega
   ·exact hex h1
  rw[hoth b hb'];refine h.old b hb hex λm q hm hq=>hno m q hm ?_
  unfold aK;by_cases e:m=nm
  ·subst e; rw[hnm]at hq; cases hq
  ·simp[e,hq]
 ·intro m q hq b hb;by_cases e:m=nm
  ·subst e; simp[aK]at hq; subst hq;have:=hnew b hb; subst this;exact h.high n p hp _ (.inl rfl)
  ·simp only[aK,e,ago]at hq; exact h.high m q hq b hb
theorem SimW.virt {G:Gh} {w:World} {ρ:Rho} {L:LK} (h:SimW G w ρ L) (nm:Nat) (hnm:ρ nm=none) (blk:Blk) (h0:blk.c.size=0) :
  SimW G w (aK ρ nm none) (aI L nm (some blk))/\Keeps (okc G ρ L) w ρ (okc G (aK ρ nm none) (aI L nm (some blk))) w (aK ρ nm none):=by
 have hk:Keeps (okc G ρ L) w ρ (okc G (aK ρ nm none) (aI L nm (some blk))) w (aK ρ nm none):=by
  refine⟨?_,?_,af1 _⟩
  ·intro n q hq; unfold aK; by_cases e:n=nm
   ·subst e; rw[hnm]at hq; cases hq
   ·simp[e,hq]
  ·intro b hb ho;refine⟨⟨ho.1,?_⟩,rfl⟩;intro n bl p hn hp;unfold aI at hn; unfold aK at hp;by_cases e:n=nm
   ·simp[e]at hp
   ·simp only[e,ago]at hn hp; exact ho.2 n bl p hn hp
 refine⟨⟨?_,?_,?_,h.size,h.os,h.tape,h.output,?_,h.tab,?_⟩,hk⟩
 ·intro n bl hn;unfold aI at hn;by_cases e:n=nm
  ·subst e; simp only[ahr,agf]at hn; subst hn;exact⟨none,by simp[aK],h0⟩
  ·simp only[e,ago]at hn;obtain⟨q,hq,hb⟩:=h.blks n bl hn;exact⟨q,by simp[aK,e,hq],hb.of hk λ_ _ _ _=>rfl⟩
 ·intro n m bn bm p q hn hm hp hq e;unfold aI at hn hm; unfold aK at hp hq;by_cases en:n=nm
  ·simp[en]at hp
  ·by_cases em:m=nm
   ·simp[em]at hq
   ·simp only[en,em,ago]at hn hm hp hq; exact h.inj n m bn bm p q hn hm hp hq e
 ·intro n p hn hp;unfold aK at hp;by_cases e:n=nm
  ·simp[e]at hp
  ·simp only[e,ago]at hp; exact h.own n p hn hp
 ·intro b hb hex hno;refine h.old b hb hex λn p hn hp=>hno n p hn ?_
  unfold aK;by_cases e:n=nm
  ·subst e; rw[hnm]at hp; cases hp
  ·simp[e,hp]
 ·intro n p hp;unfold aK at hp;by_cases e:n=nm
  ·simp[e]at hp
  ·simp only[e,ago]at hp; exact h.high n p hp
def bb:LK->Upd->LK
 | L,[]=>L
 | L,(n,b)::r=>bb (aI L n b) r
def bB (P:Program) (base:Nat) (F:List V) (M:aJ) (o:Op) (x:V) (U:Upd) (T:List Nat):Prop:=
 ∀(G:Gh) (w:World) (ρ:Rho) (L:LK) (a:Act) (o':Oper),o'.op=o->G.base=base->(∀ b,¬ G.ex b)->SimW G w ρ L ->
  (∀ y,y ∈ o.operands->Rep (okc G ρ L) w ρ (ev F y) (a.eval y)) ->
  (∀ n,n ∈ T->L n=ar M n)->(∀ n b,(n,b) ∈ U->M.length<=n->ρ n=none/\base<=n) ->
  ∀(N:Act->World->Prop) (Q:Exit->Act->World->Prop),
   (∀ v w' ρ',SimW G w' ρ' (bb L U)->Rep (okc G ρ' (bb L U)) w' ρ' x v->Keeps (okc G ρ L) w ρ (okc G ρ' (bb L U)) w' ρ' ->
    (∀ n,ρ' n ≠ ρ n->n ∈ U.map (·.1))->N (a.put o'.dst v) w')->o'.wp P a w N Q
theorem du {P:Program} {o:Oper} {a:Act} {w w':World} {v:Value} {N:Act->World->Prop} {Q:Exit->Act->World->Prop}
  (h:(execOp a.eval o).run P w=.ok (.value v) w') (hn:N (a.put o.dst v) w'):o.wp P a w N Q:=by
 unfold Oper.wp; rw[h]; exact hn
theorem aP {P:Program} {base:Nat} {F:List V} {M:aJ} {o:Op} {x:V} {T:List Nat}
  (h:∀(G:Gh) (w:World) (ρ:Rho) (L:LK) (a:Act) (o':Oper),o'.op=o->SimW G w ρ L->(∀ y,y ∈ o.operands->Rep (okc G ρ L) w ρ (ev F y) (a.eval y))->(∀ n,n ∈ T->L n=ar M n) ->
   ∃ v w',(execOp a.eval o').run P w=.ok (.value v) w'/\(w'=w\/w'=w.drew)/\Rep (okc G ρ L) w ρ x v):bB P base F M o x [] T:=by
 intro G w ρ L a o' ho _ _ hs hops hT _ N Q hn;obtain⟨v,w',hr,hw,hx⟩:=h G w ρ L a o' ho hs hops hT;refine du hr ?_;rcases hw with rfl | rfl
 ·exact hn v _ ρ hs hx (Keeps.refl _ _ _) (λn hne=>absurd rfl hne)
 ·obtain⟨h1,h2⟩:=hs.drew;exact hn v _ ρ h1 (hx.mono h2) h2 (λn hne=>absurd rfl hne)
section
variable {ok:Nat->Prop} {w:World} {ρ:Rho} {v:Value}
theorem Rep.bool_inv {b:Bool} (h:Rep ok w ρ (.bool b) v):v=.bool b:=by cases h; rfl
theorem Rep.int_inv {k:IntKind} {n:Int} (h:Rep ok w ρ (.int k n) v):v=.int k n:=by cases h; rfl
theorem Rep.flt_inv {x:Fl} (h:Rep ok w ρ (.flt x) v):FRep x v:=by cases h; assumption
theorem Rep.val_inv {u:Value} (h:Rep ok w ρ (.val u) v):v=u:=by cases h; rfl
theorem Rep.nil_inv (h:Rep ok w ρ .nil v):v=.slice none 0 0:=by cases h; rfl
theorem Rep.ptr_inv {n o:Nat} (h:Rep ok w ρ (.ptr n o) v):∃ p,ρ n=some (some p)/\v=.pointer (some ⟨p.b,o,none⟩):=by cases h; exact⟨_,by assumption,rfl⟩
theorem FRep.float {x:Fl} (h:FRep x v):∃ b,v=.float .f64 b:=by
 cases x with
 | none=>obtain⟨b,h,_⟩:=h; exact⟨b,h⟩
 | some b=>exact⟨b,h⟩
theorem AC (b:Nat):FRep (jF b) (.float .f64 b):=by
 unfold jF;cases h:isNaN b with
 | true=>exact⟨b,rfl,h⟩
 | false=>rfl
theorem vJ (u:Value):Rep ok w ρ (Bn u) u:=by
 unfold Bn;split <;> first
  | exact .bool _
  | exact .int _ _
  | exact .flt _ _ (AC _)
  | exact .nil
  | exact .val _
theorem Rep.one {x:V} (h:Rep ok w ρ x v) (h1:x.one=true):v.oneCell'=true:=by
 cases h <;> simp[V.one]at h1 <;> try rfl
 ·rename_i hf; obtain⟨b,rfl⟩:=hf.float; rfl
 ·exact h1
 ·rename_i hfv; exact hfv.cells
 ·rename_i t xs h; generalize t.flat xs=cs at h; cases h <;> rfl
theorem N3 {x:Fl} (h:FRep x v):v.oneCell'=true:=by obtain⟨b,rfl⟩:=h.float; rfl
end
theorem tc {b:Nat} (h:isNaN b=true):∃ s f,Ieee.double.read b=.nan s f:=by
 unfold isNaN Ieee.Datum.isNaN at h;cases e:Ieee.double.read b <;> simp[e]at h
 exact⟨_,_,rfl⟩
theorem OV (f:Nat->Nat->Option Nat) (hf:f=Ieee.double.add\/f=Ieee.double.sub\/f=Ieee.double.mul\/f=Ieee.double.div) {a:Nat} (b:Nat) (h:isNaN a=true):f a b=none:=by obtain⟨s,g,e⟩:=tc h;rcases hf with rfl | rfl | rfl | rfl <;> simp[Ieee.Format.add,Ieee.Format.sub,Ieee.Format.mul,Ieee.Format.div,e,Ieee.Datum.sum,Ieee.Datum.product,Ieee.Datum.quotient]
theorem Lt (f:Nat->Nat->Option Nat) (hf:f=Ieee.double.add\/f=Ieee.double.sub\/f=Ieee.double.mul\/f=Ieee.double.div) (a:Nat) {b:Nat} (h:isNaN b=true):f a b=none:=by obtain⟨s,g,e⟩:=tc h;rcases hf with rfl | rfl | rfl | rfl <;> simp only[Ieee.Format.add,Ieee.Format.sub,Ieee.Format.mul,Ieee.Format.div,e] <;> cases Ieee.double.read a <;> simp[Ieee.Datum.sum,Ieee.Datum.product,Ieee.Datum.quotient,Ieee.Datum.opposite]
theorem oi {a:Nat} (b:Nat) (h:isNaN a=true):Ieee.double.order a b=none:=by obtain⟨s,g,e⟩:=tc h;simp[Ieee.Format.order,e,Ieee.Datum.order]
theorem rF (a:Nat) {b:Nat} (h:isNaN b=true):Ieee.double.order a b=none:=by obtain⟨s,g,e⟩:=tc h;simp only[Ieee.Format.order,e];cases Ieee.double.read a <;> simp[Ieee.Datum.order]
theorem Kv (f:Nat->Nat->Option Nat) (hf:f=Ieee.double.add\/f=Ieee.double.sub\/f=Ieee.double.mul\/f=Ieee.double.div) {x y:Fl} {a b:Nat} (hx:FRep x (.float .f64 a)) (hy:FRep y (.float .f64 b)):f a b=Fr f x y:=by
 cases x with
 | none=>obtain⟨a',e,h⟩:=hx; cases e; rw[OV f hf b h]; rfl
 | some a'=>cases hx; cases y with
  | none=>obtain⟨b',e,h⟩:=hy; cases e; rw[Lt f hf _ h]; rfl
  | some b'=>cases hy; rfl
theorem xw {x y:Fl} {a b:Nat} (hx:FRep x (.float .f64 a)) (hy:FRep y (.float .f64 b)):Ieee.double.order a b=wr x y:=by
 cases x with
 | none=>obtain⟨a',e,h⟩:=hx; cases e; rw[oi b h]; rfl
 | some a'=>cases hx; cases y with
  | none=>obtain⟨b',e,h⟩:=hy; cases e; rw[rF _ h]; rfl
  | some b'=>cases hy; rfl
theorem fv (b:Nat):isNaN b=true↔9218868437227405312<b%9223372036854775808:=by
 have e1:Ieee.double.signWeight=9223372036854775808:=by decide
 have e2:Ieee.double.binade=4503599627370496:=by decide
 have e3:Ieee.double.infRung=9218868437227405312:=by decide
 unfold isNaN Ieee.Format.read;simp only[e1,e2,e3];generalize b%9223372036854775808=r;by_cases h1:r<4503599627370496
 ·simp[h1,Ieee.Datum.isNaN]; omega
 ·by_cases h2:r<9218868437227405312
  ·simp[h1,h2,Ieee.Datum.isNaN]; omega
  ·by_cases h3:r=9218868437227405312
   ·simp[h3,Ieee.Datum.isNaN]
   ·simp[h1,h2,h3,Ieee.Datum.isNaN]; omega
theorem xB (x y t:Nat):isNaN ((Question.nanBits .f64 x y).cut t)=true:=by
 rw[fv];simp only[Question.cut];have h1:t / 2%(2 ^ 52 - 1)<2 ^ 52 - 1:=af4 _ (by decide);have h2:t%2=0\/t%2=1:=by omega
 generalize t / 2%(2 ^ 52 - 1)=r at *;rcases h2 with h2 | h2 <;> rw[h2] <;> omega
theorem O3 {P:Program} {w:World} (op:BinOp) (f:Nat->Nat->Option Nat) (t:TypeId) {x y:Fl} {u v:Value} (hx:FRep x u) (hy:FRep y v)
  (hf:f=Ieee.double.add/\op=.add\/f=Ieee.double.sub/\op=.sub\/f=Ieee.double.mul/\op=.mul\/f=Ieee.double.div/\op=.quo) :
  ∃ r w',(binOp op t u v).run P w=.ok r w'/\(w'=w\/w'=w.drew)/\FRep (Fr f x y) r:=by
 obtain⟨a,rfl⟩:=hx.float;obtain⟨b,rfl⟩:=hy.float;have hf':f=Ieee.double.add\/f=Ieee.double.sub\/f=Ieee.double.mul\/f=Ieee.double.div:=by rcases hf with h | h | h | h <;> simp[h.1]
 have e:=Kv f hf' hx hy;rw[<- e];cases hr:f a b with
 | some r=>
  refine⟨.float .f64 r,w,?_,.inl rfl,rfl⟩;rcases hf with⟨rfl,rfl⟩ | ⟨rfl,rfl⟩ | ⟨rfl,rfl⟩ | ⟨rfl,rfl⟩ <;> simp[binOp,Op.floatArith,FloatKind.format,hr]
 | none=>
  refine⟨.float .f64 ((Question.nanBits .f64 a b).cut (w.tape w.drawn (.nanBits .f64 a b))),w.drew,?_,.inr rfl,_,rfl,xB _ _ _⟩;rcases hf with⟨rfl,rfl⟩ | ⟨rfl,rfl⟩ | ⟨rfl,rfl⟩ | ⟨rfl,rfl⟩ <;> simp[binOp,Op.floatArith,FloatKind.format,hr,Question.forced]
theorem N2 {x:Fl} {a:Nat} (h:FRep x (.float .f64 a)):FRep (Ve x) (.float .f64 (Op.negFloat .f64 a)):=by
 cases x with
 | some b=>cases h; rfl
 | none=>
  obtain⟨b,e,hn⟩:=h;cases e;refine⟨_,rfl,?_⟩;rw[fv]at hn ⊢;have hx:∀(n:Nat),(n ^^^ 2 ^ 63)%2 ^ 63=n%2 ^ 63:=by
   intro n;apply ah5;intro i;simp only[Nat.testBit_mod_two_pow,Nat.testBit_xor];by_cases hi:i<63
   ·have:(2 ^ 63:Nat).testBit i=false:=by rw[ahH]; simp; omega
    simp[hi,this]
   ·simp[hi]
  have e:(2:Nat) ^ 63=9223372036854775808:=by decide
  rw[<- e]at hn ⊢;show _<(a ^^^ 2 ^ 63)%2 ^ 63;rw[hx]; exact hn
theorem and_true {a b:Bool} (h:(a&&b)=true):a=true/\b=true:=by simpa using h
theorem Mb {n:Int} (h:af .i64 n=true):IntKind.i64.wrap n=n:=by have h':IntKind.i64.min<=n/\n<=IntKind.i64.max:=afU h;have h1:(-9223372036854775808:Int)<=n:=h'.1;have h2:n<=(9223372036854775807:Int):=h'.2;rw[IntKind.wrap_i64]; omega
theorem iL {q:IntKind} {r:Int} {k:V->Bool} (h:wM q r k=true):∃ n,q.wrap r=n/\k (.int q n)=true:=by
 unfold wM at h;split at h
 ·obtain⟨h1,h2⟩:=and_true h;exact⟨r,Mb h1,h2⟩
 ·exact⟨_,rfl,h⟩
def pY (P:Program) (op:BinOp) (t:TypeId) (x y z:V):Prop:=
 ∀(ok:Nat->Prop) (w:World) (ρ:Rho) (u v:Value),Rep ok w ρ x u->Rep ok w ρ y v ->
  ∃ r w',(binOp op t u v).run P w=.ok r w'/\(w'=w\/w'=w.drew)/\Rep ok w ρ z r/\(∀ a b,(eqGuard op t a b u v).run P w=.ok () w)
theorem xy {P:Program} {w:World} (op:BinOp) (t:TypeId) (a b:Operand) (k k':IntKind) (n m:Int):(eqGuard op t a b (.int k n) (.int k' m)).run P w=.ok () w:=by unfold eqGuard; cases op <;> rfl
theorem FB {P:Program} {w:World} (op:BinOp) (t:TypeId) (a b:Operand) (k k':FloatKind) (n m:Nat):(eqGuard op t a b (.float k n) (.float k' m)).run P w=.ok () w:=by unfold eqGuard; cases op <;> rfl
theorem AH {P:Program} {w:World} (op:BinOp) (t:TypeId) (a b:Operand) (n m:Bool):(eqGuard op t a b (.bool n) (.bool m)).run P w=.ok () w:=by unfold eqGuard; cases op <;> rfl
theorem jY {P:Program} {op:BinOp} {t:TypeId} {q:IntKind} {a b:Int} {z:V} {c:Value}
  (h:∀(w:World),(binOp op t (.int q a) (.int q b)).run P w=.ok c w) (hz:∀ ok w ρ,Rep ok w ρ z c):pY P op t (.int q a) (.int q b) z:=by
 intro ok w ρ u v hu hv;obtain rfl:=hu.int_inv; obtain rfl:=hv.int_inv;exact⟨c,w,h w,.inl rfl,hz _ _ _,λa b=>xy _ _ _ _ _ _ _ _⟩
theorem Cu {op:BinOp} {q:IntKind} {a b r:Int} (h:rn op q a b=some r) (P:Program) (w:World):(Op.intBits op q a b).run P w=.ok (.int q r) w:=by unfold rn at h;unfold Op.intBits;cases op <;> simp only[reduceCtorEq,agf]at h <;> subst h <;> rfl
theorem FE {P:Program} {op:BinOp} {t:TypeId} {q:IntKind} {a b:Int} {k:V->Bool} (hs:op ≠ .shl/\op ≠ .shr) (h:N9 op q a b k=true) :
  ∃ z,pY P op t (.int q a) (.int q b) z/\k z=true:=by
 cases op <;> simp only[N9]at h
 case shl=>exact absurd rfl hs.1
 case shr=>exact absurd rfl hs.2
 case add=>obtain⟨n,e,h⟩:=iL h; exact⟨_,jY (c:=.int q n) (λw=>by simp[binOp,Op.intArith,e]) (λ_ _ _=>.int _ _),h⟩
 case sub=>obtain⟨n,e,h⟩:=iL h; exact⟨_,jY (c:=.int q n) (λw=>by simp[binOp,Op.intArith,e]) (λ_ _ _=>.int _ _),h⟩
 case mul=>obtain⟨n,e,h⟩:=iL h; exact⟨_,jY (c:=.int q n) (λw=>by simp[binOp,Op.intArith,e]) (λ_ _ _=>.int _ _),h⟩
 case quo=>
  obtain⟨h0,h⟩:=and_true h;have hb:¬ b=0:=by simpa using h0
  obtain⟨n,e,h⟩:=iL h;exact⟨_,jY (c:=.int q n) (λw=>by simp[binOp,Op.intDiv,hb,e]) (λ_ _ _=>.int _ _),h⟩
 case rem=>
  obtain⟨h0,h⟩:=and_true h;have hb:¬ b=0:=by simpa using h0
  exact⟨_,jY (c:=.int q (a.tmod b)) (λw=>by simp[binOp,Op.intDiv,hb]) (λ_ _ _=>.int _ _),h⟩
 case eql=>exact⟨_,jY (c:=.bool (a==b)) (λw=>by simp[binOp,Op.intCmp]) (λ_ _ _=>.bool _),h⟩
 case neq=>exact⟨_,jY (c:=.bool (a != b)) (λw=>by simp[binOp,Op.intCmp]) (λ_ _ _=>.bool _),h⟩
 case lss=>exact⟨_,jY (c:=.bool (decide (a<b))) (λw=>by simp[binOp,Op.intCmp]) (λ_ _ _=>.bool _),h⟩
 case leq=>exact⟨_,jY (c:=.bool (decide (a<=b))) (λw=>by simp[binOp,Op.intCmp]) (λ_ _ _=>.bool _),h⟩
 case gtr=>exact⟨_,jY (c:=.bool (decide (a>b))) (λw=>by simp[binOp,Op.intCmp]) (λ_ _ _=>.bool _),h⟩
 case geq=>exact⟨_,jY (c:=.bool (decide (a>=b))) (λw=>by simp[binOp,Op.intCmp]) (λ_ _ _=>.bool _),h⟩
 all_goals
  split at h
  ·rename_i r e;refine⟨_,jY (c:=.int q r) (λw=>?_) (λ_ _ _=>.int _ _),h⟩;have:=Cu e P w;simpa [binOp]using this
  ·cases h
theorem IY {P:Program} {op:BinOp} {t:TypeId} {x y:Fl} {z:V}
  (h:∀(ok:Nat->Prop) (w:World) (ρ:Rho) (u v:Value),FRep x u->FRep y v -> ∃ r w',(binOp op t u v).run P w=.ok r w'/\(w'=w\/w'=w.drew)/\Rep ok w ρ z r):pY P op t (.flt x) (.flt y) z:=by
 intro ok w ρ u v hu hv;obtain⟨r,w',h1,h2,h3⟩:=h ok w ρ u v hu.flt_inv hv.flt_inv;obtain⟨a,rfl⟩:=hu.flt_inv.float;obtain⟨b,rfl⟩:=hv.flt_inv.float;exact⟨r,w',h1,h2,h3,λ_ _=>FB _ _ _ _ _ _ _ _⟩
theorem Fw {P:Program} {op:BinOp} {t:TypeId} {x y:Fl} {k:V->Bool} (h:N0 op x y k=true) :
  ∃ z,pY P op t (.flt x) (.flt y) z/\k z=true:=by
 have cmp:∀{op:BinOp} {z:Bool},(∀(w:World) (a b:Nat),Ieee.double.order a b=wr x y->(binOp op t (.float .f64 a) (.float .f64 b)).run P w=.ok (.bool z) w) ->
   pY P op t (.flt x) (.flt y) (.bool z):=by
  intro op z hc;refine IY λok w ρ u v hu hv=>?_
  obtain⟨a,rfl⟩:=hu.float;obtain⟨b,rfl⟩:=hv.float;exact⟨_,w,hc w a b (xw hu hv),.inl rfl,.bool _⟩
 have ari:∀{op:BinOp} {f:Nat->Nat->Option Nat},(f=Ieee.double.add/\op=.add\/f=Ieee.double.sub/\op=.sub\/f=Ieee.double.mul/\op=.mul\/f=Ieee.double.div/\op=.quo) ->
   pY P op t (.flt x) (.flt y) (.flt (Fr f x y)):=by
  intro op f hf;refine IY λok w ρ u v hu hv=>?_
  obtain⟨r,w',h1,h2,h3⟩:=O3 (P:=P) (w:=w) op f t hu hv hf;exact⟨r,w',h1,h2,.flt _ _ h3⟩
 cases op <;> simp only[N0]at h <;> first
  | (cases h; done)
  | exact⟨_,ari (.inl ⟨rfl,rfl⟩),h⟩
  | exact⟨_,ari (.inr (.inl ⟨rfl,rfl⟩)),h⟩
  | exact⟨_,ari (.inr (.inr (.inl ⟨rfl,rfl⟩))),h⟩
  | exact⟨_,ari (.inr (.inr (.inr ⟨rfl,rfl⟩))),h⟩
  | exact⟨_,cmp (λw a b e=>by simp[binOp,Op.floatCmp,FloatKind.format,e,feq,flt,fgt,fle,fge,bne]),h⟩
theorem Ri {P:Program} {w:World} {t:TypeId} (ht:P.underlying t=some .bool) (a b:Bool):(binOp .eql t (.bool a) (.bool b)).run P w=.ok (.bool (a==b)) w:=by
 have h:(Op.equal t (.bool a) (.bool b)).run P w=.ok (a==b) w:=by rw[Op.equal,Op.maxDepth,Op.equalIn,Sem.run_bind,run_underlying ht]; rfl
 show((Op.equal t (.bool a) (.bool b)) >>= λr=>pure (Value.bool r)).run P w=_;rw[Sem.run_bind,h]; rfl
theorem Rj {P:Program} {w:World} {t:TypeId} (ht:P.underlying t=some .bool) (a b:Bool):(binOp .neq t (.bool a) (.bool b)).run P w=.ok (.bool (a != b)) w:=by
 have h:(Op.equal t (.bool a) (.bool b)).run P w=.ok (a==b) w:=by rw[Op.equal,Op.maxDepth,Op.equalIn,Sem.run_bind,run_underlying ht]; rfl
 show((Op.equal t (.bool a) (.bool b)) >>= λr=>pure (Value.bool (!r))).run P w=_;rw[Sem.run_bind,h]; rfl
theorem wA {P:Program} {t:TypeId} (h:zH P t=true):P.underlying t=some .bool:=by
 unfold zH at h; split at h
 ·assumption
 ·cases h
theorem dI {P:Program} {t s:Nat} (h:iP P t=some s) (w:World):(sizeOf t).run P w=.ok s w:=by unfold iP at h;obtain⟨i,hi,rfl⟩:=Option.map_eq_some_iff.1 h;simp[sizeOf,typeInfo,hi]
theorem uz {P:Program} {t s:Nat} (h:iP P t=some s):∃ i,P.info? t=some i/\i.size=s:=by unfold iP at h;obtain⟨i,hi,rfl⟩:=Option.map_eq_some_iff.1 h;exact⟨i,hi,rfl⟩
theorem Du {ok:Nat->Prop} {w:World} {ρ:Rho} {cs:List V} {u:Value} (h:Rep ok w ρ (.agg cs) u):∃ us:List Value,u=.agg us.toArray/\us.length=cs.length /\ ∀(i:Nat) c v,cs[i]? = some c->us[i]? = some v->Rep ok w ρ c v:=by
 cases h with
 | agg _ us hl ho hr=>exact⟨us,rfl,hl.symm,hr⟩
theorem Dn {P:Program} {n:Nat} {t:TypeId} (h:Ma P n t=true):∃ e,P.underlying t=some (.array n e)/\P.underlying e=some (.float .f64)/\iP P e=some 1/\P.eqGuardType P.depth t=false:=by
 unfold Ma at h;split at h
 ·rename_i m e he;obtain⟨h0,h5⟩:=and_true h;have hmn:m=n:=by simpa using h0
  clear h h0;subst hmn;split at h5
  ·rename_i h1 h2 h3;exact⟨e,he,h1,h2,by simpa using h5⟩
  ·cases h5
 ·cases h
theorem CK {P:Program} {w:World} {t:TypeId} (hq:P.eqGuardType P.depth t=false) {a b:Operand} (xs ys:Array Value):(eqGuard .eql t a b (.agg xs) (.agg ys)).run P w=.ok () w:=by unfold eqGuard;simp[hq]
theorem Rg {P:Program} {w:World} {t e:TypeId} (ht:P.underlying t=some (.array 3 e)) (he:P.underlying e=some (.float .f64)) (hs:iP P e=some 1) (a0 a1 a2 b0 b1 b2:Nat) :
  (binOp .eql t (.agg #[.float .f64 a0,.float .f64 a1,.float .f64 a2]) (.agg #[.float .f64 b0,.float .f64 b1,.float .f64 b2])).run P w=.ok (.bool (Op.floatEq .f64 a0 b0&&(Op.floatEq .f64 a1 b1&&Op.floatEq .f64 a2 b2))) w:=by
 have step:∀ d a b,(Op.equalIn (d+1) e (.float .f64 a) (.float .f64 b)).run P w=.ok (Op.floatEq .f64 a b) w:=by intro d a b;rw[Op.equalIn,Sem.run_bind,run_underlying he]; rfl
 have pt:∀(xs:Array Value) (i:Nat) v,xs[i]? = some v->(part e xs i).run P w=.ok v w:=by
  intro xs i v hi;have hA:(isAgg e).run P w=.ok false w:=by unfold isAgg; rw[Sem.run_bind,run_underlying he]; rfl
  simp[part,hA,hi]
 have h:(Op.equal t (.agg #[.float .f64 a0,.float .f64 a1,.float .f64 a2]) (.agg #[.float .f64 b0,.float .f64 b1,.float .f64 b2])).run P w=.ok (Op.floatEq .f64 a0 b0&&(Op.floatEq .f64 a1 b1&&Op.floatEq .f64 a2 b2)) w:=by rw[Op.equal,Op.maxDepth,Op.equalIn,Sem.run_bind,run_underlying ht];simp only[Result.andThen_ok,ah2,Std.Legacy.Range.size,ahW,Nat.add_one_sub_one,ahI,Sem.run_bind,dI hs];simp[List.range',Sem.run_bind,pt,step];cases Op.floatEq .f64 a0 b0 <;> cases Op.floatEq .f64 a1 b1 <;> cases Op.floatEq .f64 a2 b2 <;> simp
 show((Op.equal t _ _) >>= λr=>pure (Value.bool r)).run P w=_;rw[Sem.run_bind,h]; rfl
theorem Rh {P:Program} {w:World} {t e:TypeId} (ht:P.underlying t=some (.array 4 e)) (he:P.underlying e=some (.float .f64)) (hs:iP P e=some 1) (a0 a1 a2 a3 b0 b1 b2 b3:Nat) :
  (binOp .eql t (.agg #[.float .f64 a0,.float .f64 a1,.float .f64 a2,.float .f64 a3]) (.agg #[.float .f64 b0,.float .f64 b1,.float .f64 b2,.float .f64 b3])).run P w=.ok (.bool (Op.floatEq .f64 a0 b0&&(Op.floatEq .f64 a1 b1&&(Op.floatEq .f64 a2 b2&&Op.floatEq .f64 a3 b3)))) w:=by
 have step:∀ d a b,(Op.equalIn (d+1) e (.float .f64 a) (.float .f64 b)).run P w=.ok (Op.floatEq .f64 a b) w:=by intro d a b;rw[Op.equalIn,Sem.run_bind,run_underlying he]; rfl
 have pt:∀(xs:Array Value) (i:Nat) v,xs[i]? = some v->(part e xs i).run P w=.ok v w:=by
  intro xs i v hi;have hA:(isAgg e).run P w=.ok false w:=by unfold isAgg; rw[Sem.run_bind,run_underlying he]; rfl
  simp[part,hA,hi]
 have h:(Op.equal t (.agg #[.float .f64 a0,.float .f64 a1,.float .f64 a2,.float .f64 a3]) (.agg #[.float .f64 b0,.float .f64 b1,.float .f64 b2,.float .f64 b3])).run P w=.ok (Op.floatEq .f64 a0 b0&&(Op.floatEq .f64 a1 b1&&(Op.floatEq .f64 a2 b2&&Op.floatEq .f64 a3 b3))) w:=by rw[Op.equal,Op.maxDepth,Op.equalIn,Sem.run_bind,run_underlying ht];simp only[Result.andThen_ok,ah2,Std.Legacy.Range.size,ahW,Nat.add_one_sub_one,ahI,Sem.run_bind,dI hs];simp[List.range',Sem.run_bind,pt,step];cases Op.floatEq .f64 a0 b0 <;> cases Op.floatEq .f64 a1 b1 <;> cases Op.floatEq .f64 a2 b2 <;> cases Op.floatEq .f64 a3 b3 <;> simp
 show((Op.equal t _ _) >>= λr=>pure (Value.bool r)).run P w=_;rw[Sem.run_bind,h]; rfl
theorem ut {P:Program} {t:TypeId} (h:Q9 P t=true):∃ e,P.underlying t=some (.pointer e):=by
 unfold Q9 at h;split at h
 ·rename_i e he; exact⟨e,he⟩
 ·cases h
theorem JG {P:Program} {w:World} {t e:TypeId} (ht:P.underlying t=some (.pointer e)) (p q:Option Addr) (hq:q=none):(binOp .eql t (.pointer p) (.pointer q)).run P w=.ok (.bool (p==q)) w:=by
 subst hq;have h:(Op.equal t (.pointer p) (.pointer none)).run P w=.ok (p==none) w:=by rw[Op.equal,Op.maxDepth,Op.equalIn,Sem.run_bind,run_underlying ht];cases p <;> rfl
 show((Op.equal t _ _) >>= λr=>pure (Value.bool r)).run P w=_;rw[Sem.run_bind,h]; rfl
theorem JH {P:Program} {w:World} {t e:TypeId} (ht:P.underlying t=some (.pointer e)) (p q:Option Addr) (hq:q=none):(binOp .neq t (.pointer p) (.pointer q)).run P w=.ok (.bool (!(p==q))) w:=by
 subst hq;have h:(Op.equal t (.pointer p) (.pointer none)).run P w=.ok (p==none) w:=by rw[Op.equal,Op.maxDepth,Op.equalIn,Sem.run_bind,run_underlying ht];cases p <;> rfl
 show((Op.equal t _ _) >>= λr=>pure (Value.bool (!r))).run P w=_;rw[Sem.run_bind,h]; rfl
theorem ue {P:Program} {w:World} {op:BinOp} {t:TypeId} (p q:Option Addr) (a b:Operand):(eqGuard op t a b (.pointer p) (.pointer q)).run P w=.ok () w:=by unfold eqGuard;split <;> rfl
theorem pa {P:Program} {t:TypeId} (h:Ej P t=true):∃ e,P.underlying t=some (.slice e):=by
 unfold Ej at h;split at h
 ·rename_i e he; exact⟨e,he⟩
 ·cases h
theorem zT {P:Program} {w:World} {t e:TypeId} (ht:P.underlying t=some (.slice e)) (a:Option Addr) (l c:Nat):(binOp .eql t (.slice a l c) (.slice none 0 0)).run P w=.ok (.bool a.isNone) w:=by
 have h:(Op.equal t (.slice a l c) (.slice none 0 0)).run P w=.ok a.isNone w:=by rw[Op.equal,Op.maxDepth,Op.equalIn,Sem.run_bind,run_underlying ht];cases a <;> rfl
 show((Op.equal t _ _) >>= λr=>pure (Value.bool r)).run P w=_;rw[Sem.run_bind,h]; rfl
theorem oL {P:Program} {w:World} {op:BinOp} {t:TypeId} (p q:Option Addr) (l c l' c':Nat) (a b:Operand):(eqGuard op t a b (.slice p l c) (.slice q l' c')).run P w=.ok () w:=by unfold eqGuard;split <;> rfl
theorem Hg {P:Program} {op:BinOp} {t:TypeId} {x y:V} {k:V->Bool} (h:Vb op (zH P t) (Ma P 3 t) (Ma P 4 t) (Q9 P t) (Ej P t) x y k=true):∃ z,pY P op t x y z/\k z=true:=by
 unfold Vb at h;split at h
 ·rename_i q a k' b;obtain⟨h0,h1⟩:=and_true h;have hb:¬ b<0:=by have:=afU h0; omega
  obtain⟨n,e,h2⟩:=iL h1;refine⟨_,?_,h2⟩;intro ok w ρ u v hu hv;obtain rfl:=hu.int_inv; obtain rfl:=hv.int_inv;exact⟨.int q n,w,by simp[binOp,Op.shift,hb,e],.inl rfl,.int _ _,λa b=>xy _ _ _ _ _ _ _ _⟩
 ·rename_i q a k' b;obtain⟨h0,h1⟩:=and_true h;have hb:¬ b<0:=by have:=afU h0; omega
  refine⟨_,?_,h1⟩;intro ok w ρ u v hu hv;obtain rfl:=hu.int_inv; obtain rfl:=hv.int_inv;exact⟨.int q (a.fdiv (2 ^ (min b.toNat q.bits))),w,by simp[binOp,Op.shift,hb],.inl rfl,.int _ _,λa b=>xy _ _ _ _ _ _ _ _⟩
 ·rename_i q a q' b hl hr;obtain⟨h0,h1⟩:=and_true h;clear h;obtain rfl:=afU h0;exact FE ⟨λe=>hl e,λe=>hr e⟩ h1
 ·exact Fw h
 ·obtain⟨h0,h1⟩:=and_true h;refine⟨_,?_,h1⟩;intro ok w ρ u v hu hv;obtain rfl:=hu.bool_inv; obtain rfl:=hv.bool_inv;exact⟨_,w,Ri (wA h0) _ _,.inl rfl,.bool _,λa b=>AH _ _ _ _ _ _⟩
 ·obtain⟨h0,h1⟩:=and_true h;refine⟨_,?_,h1⟩;intro ok w ρ u v hu hv;obtain rfl:=hu.bool_inv; obtain rfl:=hv.bool_inv;exact⟨_,w,Rj (wA h0) _ _,.inl rfl,.bool _,λa b=>AH _ _ _ _ _ _⟩
 ·obtain⟨h0,h1⟩:=and_true h;refine⟨_,?_,h1⟩;intro ok w ρ u v hu hv;obtain⟨p,_,rfl⟩:=hu.ptr_inv; obtain rfl:=hv.val_inv;obtain⟨e,he⟩:=ut h0;exact⟨_,w,JH he _ _ rfl,.inl rfl,.bool _,λa b=>ue _ _ _ _⟩
 ·obtain⟨h0,h1⟩:=and_true h;refine⟨_,?_,h1⟩;intro ok w ρ u v hu hv;obtain rfl:=hu.val_inv; obtain rfl:=hv.val_inv;obtain⟨e,he⟩:=ut h0;exact⟨_,w,JH he _ _ rfl,.inl rfl,.bool _,λa b=>ue _ _ _ _⟩
 ·obtain⟨h0,h1⟩:=and_true h;refine⟨_,?_,h1⟩;intro ok w ρ u v hu hv;obtain⟨p,_,rfl⟩:=hu.ptr_inv; obtain rfl:=hv.val_inv;obtain⟨e,he⟩:=ut h0;exact⟨_,w,JG he _ _ rfl,.inl rfl,.bool _,λa b=>ue _ _ _ _⟩
 ·obtain⟨h0,h1⟩:=and_true h;refine⟨_,?_,h1⟩;intro ok w ρ u v hu hv;obtain rfl:=hu.val_inv; obtain rfl:=hv.val_inv;obtain⟨e,he⟩:=ut h0;exact⟨_,w,JG he _ _ rfl,.inl rfl,.bool _,λa b=>ue _ _ _ _⟩
 ·obtain⟨h0,h1⟩:=and_true h;refine⟨_,?_,h1⟩;intro ok w ρ u v hu hv;obtain rfl:=hv.nil_inv;obtain⟨e,he⟩:=pa h0;cases hu with
  | rof xs b o cap g h1 h2 h3 h4 h5=>exact⟨_,w,zT he _ _ _,.inl rfl,.bool _,λa b=>oL _ _ _ _ _ _ _ _⟩
 ·obtain⟨h0,h1⟩:=and_true h;refine⟨_,?_,h1⟩;intro ok w ρ u v hu hv;obtain rfl:=hv.nil_inv; obtain rfl:=hu.val_inv;obtain⟨e,he⟩:=pa h0;exact⟨_,w,zT he _ _ _,.inl rfl,.bool _,λa b=>oL _ _ _ _ _ _ _ _⟩
 ·obtain⟨h0,h1⟩:=and_true h;refine⟨_,?_,h1⟩;intro ok w ρ u v hu hv;obtain rfl:=hv.nil_inv; obtain rfl:=hu.val_inv;obtain⟨e,he⟩:=pa h0;exact⟨_,w,zT he _ _ _,.inl rfl,.bool _,λa b=>oL _ _ _ _ _ _ _ _⟩
 ·obtain⟨h0,h1⟩:=and_true h;refine⟨_,?_,h1⟩;intro ok w ρ u v hu hv;obtain rfl:=hv.nil_inv; obtain rfl:=hu.nil_inv;obtain⟨e,he⟩:=pa h0;exact⟨_,w,zT he _ _ _,.inl rfl,.bool _,λa b=>oL _ _ _ _ _ _ _ _⟩
 ·rename_i x0 x1 x2 y0 y1 y2;obtain⟨h0,h1⟩:=and_true h;refine⟨_,?_,h1⟩;obtain⟨e,ht,he,hs,hq⟩:=Dn h0;intro ok w ρ u v hu hv;obtain⟨us,rfl,hl,hur⟩:=Du hu;obtain⟨vs,rfl,hl',hvr⟩:=Du hv
  match us,hl,vs,hl' with
  | [u0,u1,u2],_,[v0,v1,v2],_=>
   have f0:=(hur 0 _ _ rfl rfl).flt_inv; have f1:=(hur 1 _ _ rfl rfl).flt_inv; have f2:=(hur 2 _ _ rfl rfl).flt_inv;have g0:=(hvr 0 _ _ rfl rfl).flt_inv; have g1:=(hvr 1 _ _ rfl rfl).flt_inv; have g2:=(hvr 2 _ _ rfl rfl).flt_inv;obtain⟨a0,rfl⟩:=f0.float; obtain⟨a1,rfl⟩:=f1.float; obtain⟨a2,rfl⟩:=f2.float;obtain⟨b0,rfl⟩:=g0.float; obtain⟨b1,rfl⟩:=g1.float; obtain⟨b2,rfl⟩:=g2.float;refine⟨_,w,Rg ht he hs _ _ _ _ _ _,.inl rfl,?_,λa b=>CK hq _ _⟩;have q:∀{x y:Fl} {a b:Nat},FRep x (.float .f64 a)->FRep y (.float .f64 b)->Op.floatEq .f64 a b=feq x y:=by intro x y a b hx hy;show(Ieee.double.order a b==some .eq)=(wr x y==some .eq);rw[xw hx hy]
   rw[q f0 g0,q f1 g1,q f2 g2];exact .bool _
 ·rename_i x0 x1 x2 x3 y0 y1 y2 y3;obtain⟨h0,h1⟩:=and_true h;refine⟨_,?_,h1⟩;obtain⟨e,ht,he,hs,hq⟩:=Dn h0;intro ok w ρ u v hu hv;obtain⟨us,rfl,hl,hur⟩:=Du hu;obtain⟨vs,rfl,hl',hvr⟩:=Du hv
  match us,hl,vs,hl' with
  | [u0,u1,u2,u3],_,[v0,v1,v2,v3],_=>
   have f0:=(hur 0 _ _ rfl rfl).flt_inv; have f1:=(hur 1 _ _ rfl rfl).flt_inv; have f2:=(hur 2 _ _ rfl rfl).flt_inv; have f3:=(hur 3 _ _ rfl rfl).flt_inv;have g0:=(hvr 0 _ _ rfl rfl).flt_inv; have g1:=(hvr 1 _ _ rfl rfl).flt_inv; have g2:=(hvr 2 _ _ rfl rfl).flt_inv; have g3:=(hvr 3 _ _ rfl rfl).flt_inv;obtain⟨a0,rfl⟩:=f0.float; obtain⟨a1,rfl⟩:=f1.float; obtain⟨a2,rfl⟩:=f2.float; obtain⟨a3,rfl⟩:=f3.float;obtain⟨b0,rfl⟩:=g0.float; obtain⟨b1,rfl⟩:=g1.float; obtain⟨b2,rfl⟩:=g2.float; obtain⟨b3,rfl⟩:=g3.float;refine⟨_,w,Rh ht he hs _ _ _ _ _ _ _ _,.inl rfl,?_,λa b=>CK hq _ _⟩;have q:∀{x y:Fl} {a b:Nat},FRep x (.float .f64 a)->FRep y (.float .f64 b)->Op.floatEq .f64 a b=feq x y:=by intro x y a b hx hy;show(Ieee.double.order a b==some .eq)=(wr x y==some .eq);rw[xw hx hy]
   rw[q f0 g0,q f1 g1,q f2 g2,q f3 g3];exact .bool _
 ·cases h
def Va (P:Program) (op:UnOp) (x z:V):Prop:=
 ∀(ok:Nat->Prop) (w:World) (ρ:Rho) (u:Value),Rep ok w ρ x u -> ∃ r,(Op.unary op u).run P w=.ok r w/\Rep ok w ρ z r
theorem LZ {P:Program} {op:UnOp} {x:V} {k:V->Bool} (h:unV op x k=true):∃ z,Va P op x z/\k z=true:=by
 unfold unV at h;split at h
 ·refine⟨_,?_,h⟩;intro ok w ρ u hu;obtain rfl:=hu.bool_inv;exact⟨_,rfl,.bool _⟩
 ·obtain⟨m,e,h⟩:=iL h;refine⟨_,?_,h⟩;intro ok w ρ u hu;obtain rfl:=hu.int_inv;rw[Int.zero_sub]at e;exact⟨.int _ m,by simp[Op.unary,Op.intArith,e],.int _ _⟩
 ·refine⟨_,?_,h⟩;intro ok w ρ u hu;obtain⟨a,rfl⟩:=hu.flt_inv.float;exact⟨_,rfl,.flt _ _ (N2 hu.flt_inv)⟩
 ·split at h
  ·rename_i r e;refine⟨_,?_,h⟩;intro ok w ρ u hu;obtain rfl:=hu.int_inv;exact⟨.int _ r,Cu e P w,.int _ _⟩
  ·cases h
 ·cases h
def Mf (P:Program) (s d:TypeId) (x z:V):Prop:=
 ∀(ok:Nat->Prop) (w:World) (ρ:Rho) (u:Value),Rep ok w ρ x u -> ∃ r,(convert s d u).run P w=.ok r w/\Rep ok w ρ z r
theorem E9 {P:Program} {s d:TypeId} {x:V} {k:V->Bool} (h:NE P s d x k=true):∃ z,Mf P s d x z/\k z=true:=by
 unfold NE at h;split at h
 ·rename_i D q k' n hs hd;obtain⟨m,e,h⟩:=iL h;refine⟨_,?_,h⟩;intro ok w ρ u hu;obtain rfl:=hu.int_inv;exact⟨.int q m,by cases D <;> simp[convert,run_underlying hs,run_underlying hd,Conv.intToInt,e],.int _ _⟩
 ·rename_i D k' n hs hd;refine⟨_,?_,h⟩;intro ok w ρ u hu;obtain rfl:=hu.int_inv;exact⟨.float .f64 (FloatKind.f64.nearest n),by cases D <;> simp[convert,run_underlying hs,run_underlying hd,Conv.intToFloat],.flt _ _ rfl⟩
 ·rename_i D x hs hd;refine⟨_,?_,h⟩;intro ok w ρ u hu;obtain⟨a,rfl⟩:=hu.flt_inv.float;exact⟨.float .f64 a,by cases D <;> simp[convert,run_underlying hs,run_underlying hd,Conv.floatToFloat],.flt _ _ hu.flt_inv⟩
 ·rename_i D q b hs hd;split at h
  ·rename_i n e;obtain⟨h0,h⟩:=and_true h;have hb:=afU h0;refine⟨_,?_,h⟩;intro ok w ρ u hu;obtain rfl:u=.float .f64 b:=hu.flt_inv;exact⟨.int q n,by cases D <;> simp[convert,run_underlying hs,run_underlying hd,Conv.floatToInt,FloatKind.decode,FloatKind.format,e,hb.1,hb.2],.int _ _⟩
  ·cases h
 ·cases h
theorem qB {P:Program} {t:Nat} {g:Bool} (h:pg P t=some g) (w:World):(isAgg t).run P w=.ok g w:=by
 unfold pg at h;unfold isAgg;split at h
 ·rename_i e; cases h; simp[run_underlying e]
 ·rename_i e; cases h; simp[run_underlying e]
 ·rename_i d e1 e2 e; cases h;rw[Sem.run_bind,run_underlying e];cases d <;> first | rfl | (exact absurd rfl (e1 _)) | (exact absurd rfl (e2 _ _))
 ·cases h
theorem dR (b o n:Nat):(⟨b,o,none⟩:Addr).add n=⟨b,o+n,none⟩:=by
 unfold Addr.add; split
 ·subst_vars; rfl
 ·rfl
section
variable {ok:Nat->Prop} {w:World} {ρ:Rho} {v:Value}
theorem Rep.agg_inv {cs:List V} (h:Rep ok w ρ (.agg cs) v):∃ vs:List Value,v=.agg vs.toArray/\cs.length=vs.length/\(∀ u ∈ vs,u.oneCell'=true) /\ ∀(i:Nat) c u,cs[i]? = some c->vs[i]? = some u->Rep ok w ρ c u:=by
 cases h with
 | agg cs vs hl h1 h=>exact⟨vs,rfl,hl,h1,h⟩
theorem Rep.tup_inv {cs:List V} (h:Rep ok w ρ (.tup cs) v):∃ vs:List Value,v=.tuple vs.toArray/\cs.length=vs.length /\ ∀(i:Nat) c u,cs[i]? = some c->vs[i]? = some u->Rep ok w ρ c u:=by
 cases h with
 | tup cs vs hl h=>exact⟨vs,rfl,hl,h⟩
theorem Rep.fn_inv {g:Nat} {caps:List V} (h:Rep ok w ρ (.fn g caps) v):∃ vs:List Value,FnV g vs v/\caps.length=vs.length /\ ∀(i:Nat) c u,caps[i]? = some c->vs[i]? = some u->Rep ok w ρ c u:=by
 cases h with
 | fn g caps vs v hl h hv=>exact⟨vs,hv,hl,h⟩
end
theorem Rep.rp_inv {ok:Nat->Prop} {w:World} {ρ:Rho} {v:Value} {cs:List V} {i:Nat} (h:Rep ok w ρ (.rp cs i) v):∃(b o:Nat) (g:Nat->Value),v=.pointer (some ⟨b,o,none⟩)/\ok b/\b<w.heap.size/\(∀ j,i+j<cs.length->w.cell? ⟨b,o+j,none⟩=some (g (i+j))) /\
  (∀ j,j<cs.length->(g j).oneCell'=true) /\ ∀(j:Nat) c,cs[j]? = some c->Rep ok w ρ c (g j):=by
 cases h with
 | rp cs i b o g hok hb hc h1 hr=>exact⟨b,o,g,rfl,hok,hb,hc,h1,hr⟩
theorem Rep.opt_inv {ok:Nat->Prop} {w:World} {ρ:Rho} {v:Value} {n j i:Nat} (h:Rep ok w ρ (.opt n j i) v):∃ p b,ρ n=some (some p)/\p.subs[j]? = some b/\v=.pointer (some ⟨b,i,none⟩):=by
 cases h with
 | opt _ _ _ b p h1 h2=>exact⟨p,b,h1,h2,rfl⟩
theorem Gf {P:Program} {ok:Nat->Prop} {w:World} {ρ:Rho} {t s off:Nat} {g:Bool} {cs:List V} {vs:List Value} {x:V}
  (hg:pg P t=some g) (hs:iP P t=some s) (hl:cs.length=vs.length) (h1:∀ u ∈ vs,u.oneCell'=true) (h:∀(i:Nat) c u,cs[i]? = some c->vs[i]? = some u->Rep ok w ρ c u)
  (hx:(g=true/\off+s<=cs.length/\x=.agg ((cs.drop off).take s))\/(g=false/\cs[off]? = some x)) :
  ∃ v,(part t vs.toArray off).run P w=.ok v w/\Rep ok w ρ x v:=by
 rcases hx with⟨rfl,hle,rfl⟩ | ⟨rfl,hc⟩
 ·refine⟨.agg ((vs.drop off).take s).toArray,?_,.agg _ _ ?_ ?_ ?_⟩
  ·simp only[part,Sem.run_bind,qB hg,Result.andThen_ok,ahr,dI hs,Sem.run_pure];congr 2;apply ahU;simp[List.extract_eq_take_drop]
  ·simp only[agv,ahq]; omega
  ·intro u hu; exact h1 u (aiB (aiC hu))
  ·intro i c u hc hu;simp only[List.getElem?_take,List.getElem?_drop]at hc hu;split at hc
   ·rename_i hi; simp only[hi,ahr]at hu; exact h _ c u hc hu
   ·cases hc
 ·have hlt:off<vs.length:=by rw[<- hl]; exact(List.getElem?_eq_some_iff.1 hc).1
  refine⟨vs[off],?_,h off x _ hc (by simp[hlt])⟩;simp only[part,Sem.run_bind,qB hg,Result.andThen_ok,agR,ago];simp[hlt]
section
variable {cx:Cx} {base:Nat} {F:List V} {M:aJ} {k:KOp}
theorem Iy {x:Operand} (h:opV cx base F M (.move x) k=true):∃ y U T,bB cx.P base F M (.move x) y U T/\k y U T=true:=by simp only[opV]at h;exact⟨_,_,_,aP (λG w ρ L a o' ho hs hops _=>⟨a.eval x,w,by simp[execOp,ho],.inl rfl,hops x (by simp[Op.operands])⟩),h⟩
theorem Em {x:Operand} (h:opV cx base F M (.assign x) k=true):∃ y U T,bB cx.P base F M (.assign x) y U T/\k y U T=true:=by simp only[opV]at h;exact⟨_,_,_,aP (λG w ρ L a o' ho hs hops _=>⟨a.eval x,w,by simp[execOp,ho],.inl rfl,hops x (by simp[Op.operands])⟩),h⟩
theorem Iz {c x y:Operand} (h:opV cx base F M (.pick c x y) k=true):∃ z U T,bB cx.P base F M (.pick c x y) z U T/\k z U T=true:=by
 simp only[opV]at h;split at h
 ·rename_i t e;cases t
  ·exact⟨_,_,_,aP (λG w ρ L a o' ho hs hops _=>⟨a.eval y,w,by have hc:=hops c (by simp[Op.operands]); rw[e]at hc; have:=hc.bool_inv;simp[execOp,ho,this,asBool],.inl rfl,hops y (by simp[Op.operands])⟩),h⟩
  ·exact⟨_,_,_,aP (λG w ρ L a o' ho hs hops _=>⟨a.eval x,w,by have hc:=hops c (by simp[Op.operands]); rw[e]at hc; have:=hc.bool_inv;simp[execOp,ho,this,asBool],.inl rfl,hops x (by simp[Op.operands])⟩),h⟩
 ·cases h
theorem BF {x:Operand} (h:opV cx base F M (.nilCheck x) k=true):∃ y U T,bB cx.P base F M (.nilCheck x) y U T/\k y U T=true:=by
 simp only[opV]at h;have main:∀ y,ev F x=y->(∀ ok w ρ v,Rep ok w ρ y v->(∃ b,v=.pointer (some b)) \/ ∃ g us vs,v=.func (.func g) us vs)->bB cx.P base F M (.nilCheck x) y [] []:=by intro y e hy;refine aP (λG w ρ L a o' ho hs hops _=>⟨a.eval x,w,?_,.inl rfl,e ▸ hops x (by simp[Op.operands])⟩);have hv:=hops x (by simp[Op.operands]);rw[e]at hv;rcases hy _ _ _ _ hv with⟨b,hb⟩ | ⟨g,us,vs,hb⟩ <;> simp[execOp,ho,hb]
 split at h <;> first
  | (cases h; done)
  | (rename_i e; exact⟨_,_,_,main _ e (λok w ρ v hv=>by cases hv <;> first | exact .inl ⟨_,rfl⟩ | (rename_i hfv; exact .inr (by rcases hfv with⟨_,h⟩ | ⟨_,h⟩ <;> exact⟨_,_,_,h⟩))),h⟩)
theorem GG {op:BinOp} {t t':TypeId} {x y:Operand} (h:opV cx base F M (.binOp op t x y t') k=true):∃ z U T,bB cx.P base F M (.binOp op t x y t') z U T/\k z U T=true:=by simp only[opV]at h;obtain⟨z,hz,hk⟩:=Hg h;refine⟨z,_,_,aP (λG w ρ L a o' ho hs hops _=>?_),hk⟩;obtain⟨r,w',h1,h2,h3,h4⟩:=hz (okc G ρ L) w ρ _ _ (hops x (by simp[Op.operands])) (hops y (by simp[Op.operands]));exact⟨r,w',by simp[execOp,ho,h4,h1],h2,h3⟩
theorem IB {op:UnOp} {t:TypeId} {x:Operand} (h:opV cx base F M (.unOp op t x) k=true):∃ z U T,bB cx.P base F M (.unOp op t x) z U T/\k z U T=true:=by simp only[opV]at h;obtain⟨z,hz,hk⟩:=LZ (P:=cx.P) h;refine⟨z,_,_,aP (λG w ρ L a o' ho hs hops _=>?_),hk⟩;obtain⟨r,h1,h3⟩:=hz (okc G ρ L) w ρ _ (hops x (by simp[Op.operands]));exact⟨r,w,by simp[execOp,ho,h1],.inl rfl,h3⟩
theorem Ck {s d:TypeId} {x:Operand} (h:opV cx base F M (.convert s d x) k=true):∃ z U T,bB cx.P base F M (.convert s d x) z U T/\k z U T=true:=by simp only[opV]at h;obtain⟨z,hz,hk⟩:=E9 h;refine⟨z,_,_,aP (λG w ρ L a o' ho hs hops _=>?_),hk⟩;obtain⟨r,h1,h3⟩:=hz (okc G ρ L) w ρ _ (hops x (by simp[Op.operands]));exact⟨r,w,by simp[execOp,ho,h1],.inl rfl,h3⟩
theorem Cl {x:Operand} {i:Nat} (h:opV cx base F M (.extract x i) k=true):∃ z U T,bB cx.P base F M (.extract x i) z U T/\k z U T=true:=by
 simp only[opV]at h;split at h
 ·rename_i vs e;split at h
  ·rename_i v hv;refine⟨_,_,_,aP (λG w ρ L a o' ho hs hops _=>?_),h⟩;have hx:=hops x (by simp[Op.operands]); rw[e]at hx;obtain⟨us,hu,hl,hr⟩:=hx.tup_inv;have hlt:i<us.length:=by rw[<- hl]; exact(List.getElem?_eq_some_iff.1 hv).1
   exact⟨us[i],w,by simp[execOp,ho,hu,Instr.extract,hlt],.inl rfl,hr i v _ hv (by simp[hlt])⟩
  ·cases h
 ·cases h
theorem BE {f:Fn} {first caps:Array Operand} (h:opV cx base F M (.makeFunc f first caps) k=true):∃ z U T,bB cx.P base F M (.makeFunc f first caps) z U T/\k z U T=true:=by
 cases f <;> simp only[opV]at h <;> try (cases h; done)
 rename_i g;obtain⟨h00,h⟩:=and_true h;have hg:g<1000000:=aio (ahJ h00);cases h0:first.isEmpty with
 | false=>
  rw[h0,afQ]at h;obtain⟨hc,h1⟩:=and_true h;obtain rfl:caps = #[]:=by simpa using hc
  refine⟨_,_,_,aP (λG w ρ L a o' ho hs hops _=>⟨.func (.func g) (first.map a.eval) #[],w,by simp[execOp,ho,Instr.makeFunc],.inl rfl,?_⟩),h1⟩;refine .fn (g+1000000) _ (first.toList.map a.eval) _ (by simp) ?_ (.inr ⟨by omega,by rw[aih]; congr 1; apply ahU; simp⟩)
  intro i c u hc hu;rw[List.getElem?_map]at hc hu;obtain⟨y,hy,rfl⟩:=Option.map_eq_some_iff.1 hc;obtain⟨y',hy',rfl⟩:=Option.map_eq_some_iff.1 hu;rw[hy]at hy'; cases hy';refine hops y ?_;have:=List.mem_of_getElem? hy;simp only[Op.operands];simp at this ⊢
  first
   | exact this
   | exact .inl this
 | true=>
 rw[h0,afR]at h;have h1:=h;obtain rfl:first = #[]:=by simpa using h0
 refine⟨_,_,_,aP (λG w ρ L a o' ho hs hops _=>⟨.func (.func g) #[] (caps.map a.eval),w,by simp[execOp,ho,Instr.makeFunc],.inl rfl,?_⟩),h1⟩;have e:caps.map a.eval=(caps.toList.map a.eval).toArray:=by apply ahU; simp
 rw[e];refine .fn g _ _ _ (by simp) ?_ (.inl ⟨hg,rfl⟩);intro i c u hc hu;rw[List.getElem?_map]at hc hu;obtain⟨y,hy,rfl⟩:=Option.map_eq_some_iff.1 hc;obtain⟨y',hy',rfl⟩:=Option.map_eq_some_iff.1 hu;rw[hy]at hy'; cases hy';refine hops y ?_;have:=List.mem_of_getElem? hy;simp[Op.operands];simpa using this
theorem GI {t:TypeId} {x:Operand} {f:Nat} (h:opV cx base F M (.field t x f) k=true):∃ z U T,bB cx.P base F M (.field t x f) z U T/\k z U T=true:=by
 simp only[opV]at h;split at h
 ·rename_i fs hu;split at h
  ·rename_i fd hf;split at h
   ·rename_i ag s cs hag hsz e;have main:∀ y,(ag=true/\fd.offset+s<=cs.length/\y=.agg ((cs.drop fd.offset).take s))\/(ag=false/\cs[fd.offset]? = some y)->bB cx.P base F M (.field t x f) y [] []:=by intro y hy;refine aP (λG w ρ L a o' ho hs hops _=>?_);have hx:=hops x (by simp[Op.operands]); rw[e]at hx;obtain⟨us,hu',hl,h1,hr⟩:=hx.agg_inv;obtain⟨v,hv,hrep⟩:=Gf hag hsz hl h1 hr hy;exact⟨v,w,by simp[execOp,ho,Instr.field,run_underlying hu,hf,hu',asAgg,hv],.inl rfl,hrep⟩
    cases ag
    ·simp only[afQ]at h;split at h
     ·rename_i v hv; exact⟨_,_,_,main _ (.inr ⟨rfl,hv⟩),h⟩
     ·cases h
    ·simp only[afR]at h;obtain⟨h0,h1⟩:=and_true h;exact⟨_,_,_,main _ (.inl ⟨rfl,afU h0,rfl⟩),h1⟩
   ·cases h
  ·cases h
 ·cases h
theorem kD {i:Int} {n:Nat} (h:inR i n=true):0<=i/\i<(n:Int):=afU h
theorem GJ {t:TypeId} {x j:Operand} (h:opV cx base F M (.index t x j) k=true):∃ z U T,bB cx.P base F M (.index t x j) z U T/\k z U T=true:=by
 simp only[opV]at h;split at h
 ·rename_i len e q i cs hu ei ex;split at h
  ·rename_i ag s hag hsz;obtain⟨hin,h⟩:=and_true h;have hi:=kD hin;have main:∀ y,(ag=true/\cz i.toNat s+s<=cs.length/\y=.agg ((cs.drop (cz i.toNat s)).take s))\/(ag=false/\cs[cz i.toNat s]? = some y)->bB cx.P base F M (.index t x j) y [] []:=by intro y hy;refine aP (λG w ρ L a o' ho hs hops _=>?_);have hx:=hops x (by simp[Op.operands]); rw[ex]at hx;have hj:=hops j (by simp[Op.operands]); rw[ei]at hj;obtain⟨us,hu',hl,h1,hr⟩:=hx.agg_inv;obtain⟨v,hv,hrep⟩:=Gf hag hsz hl h1 hr hy;rw[aN]at hv;exact⟨v,w,by simp[execOp,ho,Instr.index,run_underlying hu,hu',hj.int_inv,asIntOf,hi.1,hi.2,dI hsz,hv],.inl rfl,hrep⟩
   cases ag
   ·simp only[afQ]at h;split at h
    ·rename_i v hv; exact⟨_,_,_,main _ (.inr ⟨rfl,hv⟩),h⟩
    ·cases h
   ·simp only[afR]at h;obtain⟨h0,h1⟩:=and_true h;exact⟨_,_,_,main _ (.inl ⟨rfl,afU h0,rfl⟩),h1⟩
  ·cases h
 ·rename_i q i s hu ei ex;obtain⟨hin,h⟩:=and_true h;have hi:=kD hin;refine⟨_,_,_,aP (λG w ρ L a o' ho hs hops _=>?_),h⟩;have hx:=hops x (by simp[Op.operands]); rw[ex]at hx;have hj:=hops j (by simp[Op.operands]); rw[ei]at hj;have hlt:i.toNat<s.size:=by omega
  have hb:s[i.toNat]? = some s[i.toNat]:=getElem?_pos s i.toNat hlt;have he:(s.data.toList.map λb=>(b.toNat:Int)).getD i.toNat 0=((s[i.toNat].toNat:Nat):Int):=by
   have hl:i.toNat<s.data.toList.length:=by simpa using hlt
   rw[List.getD_eq_getElem?_getD,List.getElem?_map,List.getElem?_eq_getElem hl];rfl
  rw[he];exact⟨_,w,by simp[execOp,ho,Instr.index,run_underlying hu,hx.val_inv,hj.int_inv,asIntOf,hi.1,hb],.inl rfl,.int _ _⟩
 ·cases h
theorem zx {s:TypeId} {x:Operand} {f:Nat} (h:opV cx base F M (.fieldAddr s x f) k=true):∃ z U T,bB cx.P base F M (.fieldAddr s x f) z U T/\k z U T=true:=by
 simp only[opV]at h;split at h
 ·rename_i fs hu;split at h
  ·rename_i fd hf;split at h
   ·rename_i z hz;obtain⟨h0,h⟩:=and_true h;have hz0:¬ z=0:=by simpa using h0
    have run:∀(b o:Nat) (w:World) (v:Value),v=.pointer (some ⟨b,o,none⟩)->(Instr.fieldAt s v f).run cx.P w=.ok (.pointer (some ⟨b,o+fd.offset,none⟩)) w:=by intro b o w v hv;subst hv;simp[Instr.fieldAt,run_underlying hu,hf,Instr.sureAddr,fieldPlace,dI hz,hz0,dR]
    split at h
    ·rename_i n p e;refine⟨_,_,_,aP (λG w ρ L a o' ho hs hops _=>?_),h⟩;have hx:=hops x (by simp[Op.operands]); rw[e]at hx;obtain⟨pl,hp,hv⟩:=hx.ptr_inv;exact⟨_,w,by simp[execOp,ho,run _ _ w _ hv],.inl rfl,.ptr n _ pl hp⟩
    ·rename_i cs i e;refine⟨_,_,_,aP (λG w ρ L a o' ho hs hops _=>?_),h⟩;have hx:=hops x (by simp[Op.operands]); rw[e]at hx;obtain⟨b,o,g,hv,hok,hb,hc,h1,hr⟩:=hx.rp_inv;refine⟨.pointer (some ⟨b,o+fd.offset,none⟩),w,by simp[execOp,ho,run _ _ w _ hv],.inl rfl,.rp cs _ b (o+fd.offset) g hok hb ?_ h1 hr⟩;intro j hj;have:=hc (fd.offset+j) (by omega);rw[<- agx,<- agx]at this;exact this
    ·rename_i n j i e;refine⟨_,_,_,aP (λG w ρ L a o' ho hs hops _=>?_),h⟩;have hx:=hops x (by simp[Op.operands]); rw[e]at hx;obtain⟨p,b,hp,hb,hv⟩:=hx.opt_inv;exact⟨_,w,by simp[execOp,ho,run _ _ w _ hv],.inl rfl,.opt n j _ b p hp hb⟩
    ·cases h
   ·cases h
  ·cases h
 ·cases h
end
end Go.Mach
end
