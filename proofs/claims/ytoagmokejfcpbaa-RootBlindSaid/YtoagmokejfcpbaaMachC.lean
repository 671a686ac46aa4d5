/-
  THE MACHINE, third part: the evaluator over operations and code. What is proved: nothing (definitions).
  Conditions: none.
-/
import Derived.Test.YtoagmokejfcpbaaMachB
namespace Go.Mach

def dedup (L : List Nat) : List Nat := L.foldl (fun acc n => cond (acc.contains n) acc (acc ++ [n])) []
def reach (M : Heap) : Nat → List Nat → List Nat
  | 0, L => L
  | d + 1, L => reach M d (dedup (L ++ (L.map fun n => match look M n with
    | some b => b.c.refs
    | none => []).flatten))
def idxIn (L : List Nat) (n : Nat) : Option Nat := L.idxOf? n

/-- the cells of a struct or array, with parts put in -/
def fillV (place : Nat → Option (Nat × Nat)) : List V → List (Nat × V) → (List V → Bool) → Bool
  | cs, [], k => k cs
  | cs, (i, v) :: r, k => match place i, vcells v with
    | some (off, s), some vs => (vs.length == s) && (decide (off + s ≤ cs.length) && fillV place (setFrom cs off vs) r k)
    | _, _ => false
def places (P : Program) (fs : List Field) : Option (List (Nat × Nat)) := fs.mapM fun f => (szOf P f.type).map fun s => (f.offset, s)

def zipNew (nm : Nat) : List Blk → Upd
  | [] => []
  | b :: r => (nm, some b) :: zipNew (nm + 1) r
def zipOld : List Nat → List Blk → Upd
  | n :: ns, b :: bs => (n, some b) :: zipOld ns bs
  | _, _ => []

abbrev KOp := V → Upd → List Nat → Bool

/-- the bounds of a slice expression over n elements -/
def boundV (F : List V) (lo hi : Option Operand) (n : Nat) (k : Nat → Nat → Bool) : Bool :=
  match lo.map (ev F), hi.map (ev F) with
  | none, none => k 0 n
  | none, some (.int _ h) => decide (0 ≤ h ∧ h ≤ (n : Int)) && k 0 h.toNat
  | some (.int _ l), none => decide (0 ≤ l ∧ l ≤ (n : Int)) && k l.toNat n
  | some (.int _ l), some (.int _ h) => decide (0 ≤ l ∧ l ≤ h ∧ h ≤ (n : Int)) && k l.toNat h.toNat
  | _, _ => false

def callV (cx : Cx) (M : Heap) (g : Nat) (vs : List V) (k : KOp) : Bool :=
  match cx.P.funcs[g]? with
  | none => false
  | some fn =>
    match cond (cx.ref g) (some vs) (vs.mapM (lend M 4)) with
    | none => false
    | some vs1 =>
      let vs2 := nilArgs cx.P fn.params.toList vs1
      let B := cond (cx.ref g) [] ((vs.map (lent M 4)).flatten)
      let L := reach M 3 (dedup (refsL vs2))
      match L.mapM (look M) with
      | none => false
      | some bs => nodupB L && (B.all (fun n => !L.contains n) &&
        cx.O g (renL (idxIn L) vs2) (bs.map (Blk.ren (idxIn L))) fun r H =>
          let f2 : Nat → Option Nat := fun i => cond (decide (i < L.length)) (L[i]?) (some (M.length + (i - L.length)))
          let H' := H.map (Blk.ren f2)
          let r' := r.ren f2
          (decide (L.length ≤ H.length) && ((B.isEmpty || (r'.free && H'.all (·.c.free))) &&
            k r' (zipOld L (H'.take L.length) ++ zipNew M.length (H'.drop L.length)) (L ++ B))))

def opV (cx : Cx) (base : Nat) (F : List V) (M : Heap) (o : Op) (k : KOp) : Bool :=
  let P := cx.P
  match o with
  | .move x => k (ev F x) [] []
  | .assign x => k (ev F x) [] []
  | .pick c a b => match ev F c with
    | .bool t => cond t (k (ev F a) [] []) (k (ev F b) [] [])
    | _ => false
  | .alloc t => match zeroCellsOf P t with
    | some cs => decide (cs.length ≤ 16777216) && (cs.all V.one && k (.ptr M.length 0) [(M.length, some ⟨t, 1, .cells cs⟩)] [])
    | none => false
  | .box t x => match vcells (ev F x) with
    | some cs => decide (cs.length ≤ 16777216) && (cs.all V.one && k (.ptr M.length 0) [(M.length, some ⟨t, 1, .cells cs⟩)] [])
    | none => false
  | .build t parts => match zeroCellsOf P t, P.underlying t with
    | some z, some (.struct fs) => match places P fs.toList with
      | some pl => fillV (pl[·]?) z (parts.toList.map fun p => (p.1, ev F p.2)) fun cs => cs.all V.one && k (.agg cs) [] []
      | none => false
    | some z, some (.array _ e) => match szOf P e with
      | some s => fillV (fun i => some (scale i s, s)) z (parts.toList.map fun p => (p.1, ev F p.2)) fun cs => cs.all V.one && k (.agg cs) [] []
      | none => false
    | _, _ => false
  | .buildSlice t len parts => match elemOf P t with
    | some e => match szOf P e, zeroCellsOf P e with
      | some s, some z => decide (len * s ≤ 16777216) && ((z.length == s) && (!(s == 0) && fillV (fun i => some (scale i s, s)) ((List.replicate len z).flatten) (parts.toList.map fun p => (p.1, ev F p.2)) fun cs =>
          match mkBody P e cs with
          | some c => k (.slw M.length) [(M.length, some ⟨e, s, c⟩)] []
          | none => false))
      | _, _ => false
    | none => false
  | .load t x => match isAggT P t, szOf P t with
    | some ag, some s => match ev F x with
      | .ptr n p => match look M n with
        | some b => cond ag (b.c.part p s fun cs => k (.agg cs) [] [n]) (b.c.get p fun v => k v [] [n])
        | none => false
      | .pf xs i => !ag && k (.flt (xs.getD i none)) [] []
      | .pi q xs i => !ag && k (.int q (xs.getD i 0)) [] []
      | .rp cs i => cond ag (decide (i + s ≤ cs.length) && k (.agg ((cs.drop i).take s)) [] []) (match cs[i]? with
        | some v => k v [] []
        | none => false)
      | _ => false
    | _, _ => false
  | .store t x y => match szOf P t, ev F x, ev F y with
    | some s, .ptr n p, .agg vs => match look M n with
      | some b => (vs.length == s) && b.c.setPart p vs fun c => k .any [(n, some { b with c := c })] [n]
      | none => false
    | some s, .ptr n p, v => match look M n with
      | some b => (s == 1) && (v.one && b.c.set p v fun c => k .any [(n, some { b with c := c })] [n])
      | none => false
    | _, _, _ => false
  | .nilCheck x => match ev F x with
    | .ptr n p => k (.ptr n p) [] []
    | .pf xs i => k (.pf xs i) [] []
    | .pi q xs i => k (.pi q xs i) [] []
    | .rp cs i => k (.rp cs i) [] []
    | .fn g caps => k (.fn g caps) [] []
    | _ => false
  | .binOp op t x y _ => binV op (isBoolT P t) (ev F x) (ev F y) fun v => k v [] []
  | .unOp op _ x => unV op (ev F x) fun v => k v [] []
  | .convert s d x => convV P s d (ev F x) fun v => k v [] []
  | .makeFunc (.func g) first caps => first.isEmpty && k (.fn g (caps.toList.map (ev F))) [] []
  | .makeSlice t l c => match elemOf P t with
    | some e => match szOf P e, bytesOf P e with
      | some s, some by' => match ev F l, ev F c with
        | .int _ l, .int _ c => decide (0 ≤ l ∧ l ≤ c ∧ c ≤ 9223372036854775807 ∧ (by' : Int) * c ≤ 140737488355328) && ((match zeroCellsOf P e with | some z => z.length == s && z.all V.one | none => false) && match zeroBody P e l.toNat with
          | some body => k (.slw M.length) [(M.length, some ⟨e, s, body⟩)] []
          | none => false)
        | _, _ => false
      | _, _ => false
    | none => false
  | .slice t x lo hi none => match P.underlying t with
    | some (.slice e) => match szOf P e with
      | some s =>
        match ev F x with
        | .rof xs => s == 1 && boundV F lo hi xs.length fun l h => k (.rof ((xs.take h).drop l)) [] []
        | .roi q xs => s == 1 && boundV F lo hi xs.length fun l h => k (.roi q ((xs.take h).drop l)) [] []
        | .slw n => match look M n with
          | some b => s == b.sz && (!(s == 0) && boundV F lo hi b.count fun l h => k (.sl n (scale l s) (h - l)) [] [n])
          | none => false
        | .sl n o len => match look M n with
          | some b => s == b.sz && (!(s == 0) && boundV F lo hi len fun l h => k (.sl n (o + scale l s) (h - l)) [] [n])
          | none => false
        | _ => false
      | none => false
    | some (.array len e) => match szOf P e with
      | some s =>
        match ev F x with
        | .ptr n o => match look M n with
          | some b => s == b.sz && (s == 1 && boundV F lo hi len fun l h => k (.sl n (o + scale l s) (h - l)) [] [n])
          | none => false
        | _ => false
      | none => false
    | _ => false
  | .fieldAddr s x f => match P.underlying s with
    | some (.struct fs) => match fs[f]? with
      | some fd => match szOf P fd.type with
        | some z => !(z == 0) && (match ev F x with
          | .ptr n p => k (.ptr n (p + fd.offset)) [] []
          | .rp cs i => k (.rp cs (i + fd.offset)) [] []
          | _ => false)
        | none => false
      | none => false
    | _ => false
  | .field t x f => match P.underlying t with
    | some (.struct fs) => match fs[f]? with
      | some fd => match isAggT P fd.type, szOf P fd.type, ev F x with
        | some ag, some s, .agg cs => cond ag (decide (fd.offset + s ≤ cs.length) && k (.agg ((cs.drop fd.offset).take s)) [] []) (match cs[fd.offset]? with
          | some v => k v [] []
          | none => false)
        | _, _, _ => false
      | none => false
    | _ => false
  | .indexAddr t x i => match ev F i with
    | .int _ i => idxV P M t (ev F x) i fun v => k v [] (ev F x).refs
    | _ => false
  | .index t x i => match P.underlying t, ev F i, ev F x with
    | some (.array len e), .int _ i, .agg cs => match isAggT P e, szOf P e with
      | some ag, some s => inR i len && cond ag (decide (scale i.toNat s + s ≤ cs.length) && k (.agg ((cs.drop (scale i.toNat s)).take s)) [] []) (match cs[scale i.toNat s]? with
          | some v => k v [] []
          | none => false)
      | _, _ => false
    | _, _, _ => false
  | .extract x i => match ev F x with
    | .tup vs => match vs[i]? with
      | some v => k v [] []
      | none => false
    | _ => false
  | .call c => match c.callee with
    | .builtin .len => match c.argTypes.toList, c.args.toList with
      | [t], [x] => lenV P M t (ev F x) fun v => k v [] (ev F x).refs
      | _, _ => false
    | .builtin .append => match c.args.toList, c.argTypes.toList with
      | [s, x], [t, t'] => (t == t') && (match elemOf P t with
        | some e => match szOf P e, bytesOf P e, zeroCellsOf P e, zeroBody P e 0 with
          | some sz, some by', some z, some nb => (z.length == sz) && (!(sz == 0 || by' == 0) && (match srcBody M sz (ev F x) with
            | some src => match ev F s with
              | .nil => match nb.app src with
                | some c => decide ((Blk.count ⟨e, sz, c⟩) * by' ≤ 140737488355328) && k (.slw M.length) [(M.length, some ⟨e, sz, c⟩)] (ev F x).refs
                | none => false
              | .slw n => match look M n with
                | some b => match b.c.app src with
                  | some c => decide (base ≤ n) && (b.e == e && (b.sz == sz && (!((ev F x).refs.contains n) &&
                      (decide ((Blk.count ⟨e, sz, c⟩) * by' ≤ 140737488355328) && k (.slw M.length) [(n, none), (M.length, some ⟨e, sz, c⟩)] (n :: (ev F x).refs)))))
                  | none => false
                | none => false
              | _ => false
            | none => false))
          | _, _, _, _ => false
        | none => false)
      | _, _ => false
    | .value f => match ev F f with
      | .fn g caps => callV cx M g (c.args.toList.map (ev F) ++ caps) k
      | _ => false
    | _ => false
  | _ => false

/-! ### regions -/
def setF (F : List V) (d : Option Nat) (v : V) : List V := match d with
  | some t => F.set t v
  | none => F
def guardTmp (all : Array Oper) (j : Nat) : Option Nat := (all[j]?).bind (·.dst)

def opsV (cx : Cx) (base : Nat) (all : Array Oper) : List Oper → St → (St → Bool) → Bool
  | [], s, k => k s
  | o :: r, s, k => match o.guard with
    | none => opV cx base s.F s.M o.op fun v U _ => opsV cx base all r ⟨setF s.F o.dst v, appU s.M U⟩ k
    | some (j, want) => match guardTmp all j with
      | some t => match s.F.getD t .any with
        | .bool b => cond (b == want)
            (opV cx base (s.F.set t (.bool want)) s.M o.op fun v U _ => opsV cx base all r ⟨setF (s.F.set t (.bool want)) o.dst v, appU s.M U⟩ k)
            (opsV cx base all r ⟨setF (s.F.set t (.bool (!want))) o.dst .any, s.M⟩ k)
        | _ => false
      | none => false

/-- what an operation of a region that draws has done: its slot, the slots that it reads, the names that it writes, the names that it looks at -/
structure Did where
  dst : Option Nat
  reads : List Nat
  writes : List Nat
  touch : List Nat
def tmpsOf (ops : Array Operand) : List Nat := ops.toList.filterMap fun x => match x with
  | .tmp t => some t
  | _ => none
def Oper.reads (all : Array Oper) (o : Oper) : List Nat := tmpsOf o.op.operands ++ (match o.guard with
  | some (j, _) => match guardTmp all j with
    | some t => [t]
    | none => []
  | none => [])
/-- the operations that stand before one, whatever order is drawn -/
def closures : List Oper → List (List Nat) → List (List Nat)
  | [], acc => acc
  | o :: r, acc => closures r (acc ++ [(o.after.toList.map fun e => cond (Region.binds .any e) (e.on :: acc.getD e.on []) []).flatten])
def meets (a b : List Nat) : Bool := a.any (b.contains ·)
def apart (x y : Did) : Bool :=
  !(match x.dst with | some t => y.reads.contains t || y.dst == some t | none => false) &&
  (!(match y.dst with | some t => x.reads.contains t | none => false) &&
  (!(meets x.writes y.touch || (meets x.writes y.writes || meets x.touch y.writes))))
/-- each two that are not apart are ordered -/
def orderly (clo : List (List Nat)) : Nat → List Did → Nat → List Did → Bool
  | _, _, _, [] => true
  | i, pre, j, y :: r => (pre.zipIdx.all fun (x, i) => (clo.getD j []).contains i || apart x y) && orderly clo i (pre ++ [y]) (j + 1) r

/-- what an operation waits for stands ahead of it -/
def edgesOk : Nat → List Oper → Bool
  | _, [] => true
  | i, o :: r => (o.after.toList.all fun e => !Region.binds .any e || decide (e.on < i)) && edgesOk (i + 1) r

def drawV (cx : Cx) (base : Nat) (all : Array Oper) : List Oper → St → List Did → (St → Bool) → Bool
  | [], s, tr, k => (orderly (closures all.toList []) 0 [] 0 tr && edgesOk 0 all.toList) && k s
  | o :: r, s, tr, k => match o.guard with
    | none => opV cx base s.F s.M o.op fun v U T => drawV cx base all r ⟨setF s.F o.dst v, appU s.M U⟩ (tr ++ [⟨o.dst, Oper.reads all o, U.map (·.1), T⟩]) k
    | some (j, want) => match guardTmp all j with
      | some t => match s.F.getD t .any with
        | .bool b => cond (b == want)
            (opV cx base (s.F.set t (.bool want)) s.M o.op fun v U T => drawV cx base all r ⟨setF (s.F.set t (.bool want)) o.dst v, appU s.M U⟩ (tr ++ [⟨o.dst, Oper.reads all o, U.map (·.1), T⟩]) k)
            (drawV cx base all r ⟨setF (s.F.set t (.bool (!want))) o.dst .any, s.M⟩ (tr ++ [⟨o.dst, Oper.reads all o, [], []⟩]) k)
        | _ => false
      | none => false

/-! ### code -/
structure K where
  nrm : St → Bool
  ext : Nat → St → Bool
  ret : St → Bool

/-- what a state is brought to: the slots that are kept; the nil slices that become empty rows of the call's own: a slot, or a cell of the block that a slot points to; the element type -/
structure Nrm where
  keep : List Nat
  virt : List (Nat × Option Nat × Nat)
/-- at a loop: the state at its head, at its exits, at a return; what is said in its stead -/
structure Ann where
  head : Nrm
  exits : List (Nat × Nrm)
  ret : Option Nrm
  hook : Option (St → K → Bool)

def virtS (P : Program) : List (Nat × Option Nat × Nat) → St → St
  | [], s => s
  | (t, none, e) :: r, s => match s.F.getD t .any, szOf P e, zeroBody P e 0 with
    | .nil, some sz, some b => virtS P r ⟨s.F.set t (.slw s.M.length), s.M ++ [some ⟨e, sz, b⟩]⟩
    | _, _, _ => virtS P r s
  | (t, some i, e) :: r, s => match s.F.getD t .any, szOf P e, zeroBody P e 0 with
    | .ptr n o, some sz, some z => match look s.M n with
      | some ⟨e0, s0, .cells cs⟩ => match cs[o + i]? with
        | some .nil => virtS P r ⟨s.F, s.M.set n (some ⟨e0, s0, .cells (cs.set (o + i) (.slw s.M.length))⟩) ++ [some ⟨e, sz, z⟩]⟩
        | _ => virtS P r s
      | _ => virtS P r s
    | _, _, _ => virtS P r s
def keepF (keep : List Nat) (f : Nat → Option Nat) : Nat → List V → List V
  | _, [] => []
  | i, v :: r => cond (keep.contains i) (v.ren f) .any :: keepF keep f (i + 1) r
def keepRefs (keep : List Nat) : Nat → List V → List Nat
  | _, [] => []
  | i, v :: r => cond (keep.contains i) v.refs [] ++ keepRefs keep (i + 1) r
/-- names from base on are numbered anew, in the order in which they are met; what is not met is let go -/
def renum (base : Nat) (L : List Nat) : Nat → Option Nat := fun n => cond (decide (n < base)) (some n) ((idxIn L n).map (base + ·))
def renHeap (base : Nat) (L : List Nat) (M : Heap) : Heap :=
  (M.take base).map (·.map (Blk.ren (renum base L))) ++ L.map fun n => (look M n).map (Blk.ren (renum base L))
def newNames (base : Nat) (M : Heap) (roots : List Nat) : List Nat :=
  (reach M 3 (dedup (roots ++ ((M.take base).map fun b => match b with
    | some b => b.c.refs
    | none => []).flatten))).filter fun n => decide (base ≤ n)
def normS (P : Program) (base : Nat) : Option Nrm → St → St
  | none, s => s
  | some a, s =>
    let s := virtS P a.virt s
    let L := newNames base s.M (keepRefs a.keep 0 s.F)
    cond (nodupB L) ⟨keepF a.keep (renum base L) 0 s.F, renHeap base L s.M⟩ s

def iter : Nat → (St → (St → Bool) → Bool) → St → Bool
  | 0, _, _ => false
  | n + 1, step, s => step s (iter n step)
def headOf : Option Ann → Option Nrm
  | some a => some a.head
  | none => none
def exitOf : Option Ann → Nat → Option Nrm
  | some a, i => a.exits.lookup i
  | none, _ => none
def retOf : Option Ann → Option Nrm
  | some a => a.ret
  | none => none
def hookOf : Option Ann → Option (St → K → Bool)
  | some a => a.hook
  | none => none
/-- what follows a round of a loop -/
def roundK (P : Program) (base : Nat) (a : Option Ann) (κ : K) (k : St → Bool) : K :=
  ⟨fun s => k (normS P base (headOf a) s), fun i s => κ.ext i (normS P base (exitOf a i) s), fun s => κ.ret (normS P base (retOf a) s)⟩

def codeV (cx : Cx) (base : Nat) (an : Nat → Option Ann) : Code → Nat → St → K → Bool
  | .skip, _, s, κ => κ.nrm s
  | .region _ ops false, _, s, κ => opsV cx base ops ops.toList s κ.nrm
  | .region _ ops true, _, s, κ => cx.P.follows .mixedOrders && drawV cx base ops ops.toList s [] κ.nrm
  | .seq a b, bid, s, κ => codeV cx base an a bid s { κ with nrm := fun s' => codeV cx base an b bid s' κ }
  | .cond (.tmp t) a b, bid, s, κ => match s.F.getD t .any with
    | .bool c => cond c (codeV cx base an a bid ⟨s.F.set t (.bool true), s.M⟩ κ) (codeV cx base an b bid ⟨s.F.set t (.bool false), s.M⟩ κ)
    | _ => false
  | .block id b, _, s, κ => codeV cx base an b id s { κ with ext := fun i s' => cond (i == id) (κ.nrm s') (κ.ext i s') }
  | .loop b, bid, s, κ => match hookOf (an bid) with
    | some hk => hk (normS cx.P base (headOf (an bid)) s) κ
    | none => iter cx.N (fun s k => codeV cx base an b bid s (roundK cx.P base (an bid) κ k)) (normS cx.P base (headOf (an bid)) s)
  | .exit id, _, s, κ => κ.ext id s
  | .ret, _, s, κ => κ.ret s
  | _, _, _, _ => false

/-- what is said in the stead of a loop leads to the loop -/
def HooksOk (cx : Cx) (base : Nat) (an : Nat → Option Ann) : Code → Nat → Prop
  | .seq a b, bid => HooksOk cx base an a bid ∧ HooksOk cx base an b bid
  | .cond _ a b, bid => HooksOk cx base an a bid ∧ HooksOk cx base an b bid
  | .block id b, _ => HooksOk cx base an b id
  | .loop b, bid => HooksOk cx base an b bid ∧ ∀ hk, hookOf (an bid) = some hk → ∀ s κ, hk s κ = true → iter cx.N (fun s k => codeV cx base an b bid s (roundK cx.P base (an bid) κ k)) s = true
  | _, _ => True

/-! ### functions -/
def resV (P : Program) (s : St) (r : ResultVar) (k : V → Bool) : Bool :=
  match r with
  | .tmp t => k (s.F.getD t .any)
  | .cell t ty => match isAggT P ty, szOf P ty, s.F.getD t .any with
    | some ag, some z, .ptr n p => match look s.M n with
      | some b => cond ag (b.c.part p z fun cs => k (.agg cs)) (b.c.get p k)
      | none => false
    | _, _, _ => false
def ressV (P : Program) (s : St) : List ResultVar → (List V → Bool) → Bool
  | [], k => k []
  | r :: rs, k => resV P s r fun v => ressV P s rs fun vs => k (v :: vs)
def allLive : Heap → Option (List Blk)
  | [] => some []
  | some b :: r => (allLive r).map (b :: ·)
  | none :: _ => none
def endV (P : Program) (base : Nat) (rs : List ResultVar) (s : St) (k : V → List Blk → Bool) : Bool :=
  ressV P s rs fun vs =>
    let L := newNames base s.M (refsL vs)
    nodupB L && match allLive (renHeap base L s.M) with
    | some H => match renL (renum base L) vs with
      | [v] => k v H
      | vs => k (.tup vs) H
    | none => false
def bodyV (cx : Cx) (an : Nat → Option Ann) (f : Nat) (args : List V) (H : List Blk) (k : V → List Blk → Bool) : Bool :=
  match cx.P.funcs[f]? with
  | some fn => match fn.body with
    | some c =>
      let fin := fun s => endV cx.P H.length fn.results.toList s k
      !(fn.name == "runtime.NumGoroutine") && codeV cx H.length an c 0 ⟨args ++ List.replicate (fn.ntmps - args.length) .any, H.map some⟩ ⟨fin, fun _ _ => false, fin⟩
    | none => false
  | none => false

end Go.Mach
