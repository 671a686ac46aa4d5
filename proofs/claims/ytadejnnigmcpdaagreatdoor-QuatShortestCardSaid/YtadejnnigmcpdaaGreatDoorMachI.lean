/-
  THE MACHINE, ninth part: new memory, structs built, stores do as the machine says.
  Conditions: none.
-/
import Derived.Test.YtadejnnigmcpdaaGreatDoorMachA
set_option linter.unusedVariables false
section
namespace Go.Mach
def RepL (ok:Nat->Prop) (w:World) (ρ:Rho) (cs:List V) (us:List Value):Prop:=cs.length=us.length /\ ∀(i:Nat) c u,cs[i]? = some c->us[i]? = some u->Rep ok w ρ c u
theorem RepL.mono {ok ok':Nat->Prop} {w w':World} {ρ ρ':Rho} (hk:Keeps ok w ρ ok' w' ρ') {cs:List V} {us:List Value} (h:RepL ok w ρ cs us):RepL ok' w' ρ' cs us:=
 ⟨h.1,λi c u hc hu=>(h.2 i c u hc hu).mono hk⟩
theorem RepL.one {ok:Nat->Prop} {w:World} {ρ:Rho} {cs:List V} {us:List Value} (h:RepL ok w ρ cs us) (h1:cs.all V.one=true):∀ u ∈ us,u.oneCell'=true:=by
 intro u hu;obtain⟨i,hi,rfl⟩:=aqo hu;have hic:i<cs.length:=by rw[h.1]; exact hi
 exact(h.2 i cs[i] us[i] (by simp[hic]) (by simp[hi])).one (List.all_eq_true.1 h1 _ (aqr hic))
theorem RepL.body {ok:Nat->Prop} {w:World} {ρ:Rho} {cs:List V} {us:List Value} (h:RepL ok w ρ cs us) (h1:cs.all V.one=true):BodyRep ok w ρ (.cells cs) us.toArray:=by
 intro i x hx;have hi:i<cs.length:=(List.getElem?_eq_some_iff.1 hx).1;have hiu:i<us.length:=by rw[<- h.1]; exact hi
 exact⟨us[i],by simp[hiu],h.one h1 _ (aqr hiu),h.2 i x _ hx (by simp[hiu])⟩
theorem qi {ok:Nat->Prop} {w:World} {ρ:Rho} {x:V} {v:Value} {cs:List V} (h:uP x=some cs) (hx:Rep ok w ρ x v):RepL ok w ρ cs v.cells.toList:=by
 unfold uP at h;split at h
 ·cases h;obtain⟨us,rfl,hl,_,hr⟩:=hx.agg_inv;exact⟨hl,hr⟩
 ·cases h1:x.one with
  | false=>simp[h1]at h
  | true=>
   simp[h1]at h;subst h;have ho:=hx.one h1;have hc:v.cells = #[v]:=by cases v <;> first | rfl | (simp[Value.oneCell']at ho)
   rw[hc];refine⟨rfl,λi c u hc hu=>?_⟩;cases i with
   | zero=>simp at hc hu; subst hc; subst hu; exact hx
   | succ i=>simp at hc
theorem fP {P:Program} {t:Nat} {cs:List V} (h:bX P t=some cs):∃ i v,P.info? t=some i/\i.zero=some v/\cs=v.cells.toList.map xM /\ ∀ ok w ρ,RepL ok w ρ cs v.cells.toList:=by
 unfold bX at h;split at h
 ·rename_i i hi;obtain⟨v,hv,rfl⟩:=Option.map_eq_some_iff.1 h;refine⟨i,v,hi,hv,rfl,λok w ρ=>⟨by simp,λj c u hc hu=>?_⟩⟩;rw[List.getElem?_map,hu]at hc;cases hc;exact pW u
 ·cases h
theorem Df {α:Type} (off:Nat):∀(vs:List α) (j:Nat) (cells:List α),(vs.zipIdx j).foldl (λcs (p:α × Nat)=>cs.setIfInBounds (off+p.2) p.1) cells.toArray=(setFrom cells (off+j) vs).toArray
 | [],_,_=>rfl
 | v::r,j,cells=>by simp only[List.zipIdx_cons,List.foldl_cons,List.setIfInBounds_toArray,Df off r,setFrom];rw[aqt]
theorem BF {α:Type} (off:Nat) (vs:Array α) (cells:List α):vs.zipIdx.foldl (λcs (x:α × Nat)=>match x with | (c,j)=>cs.setIfInBounds (off+j) c) cells.toArray=(setFrom cells off vs.toList).toArray:=by have:=Df off vs.toList 0 cells;rw[aqy]at this;rw[<- this,<- Array.foldl_toList,Array.toList_zipIdx]
theorem RepL.setFrom {ok:Nat->Prop} {w:World} {ρ:Rho} {cs vs:List V} {us xs:List Value} (h:RepL ok w ρ cs us) (hv:RepL ok w ρ vs xs) {off:Nat} (hle:off+vs.length<=cs.length) :
  RepL ok w ρ (setFrom cs off vs) (setFrom us off xs):=by
 refine⟨by rw[dp,dp]; exact h.1,λi c u hc hu=>?_⟩;rw[gq _ _ _ _ hle]at hc;rw[gq _ _ _ _ (by rw[<- hv.1,<- h.1]; exact hle),<- hv.1]at hu;split at hc
 ·rename_i e; rw[if_pos e]at hu; exact hv.2 _ c u hc hu
 ·rename_i e; rw[if_neg e]at hu; exact h.2 _ c u hc hu
theorem pC (place:Nat->Option (Nat × Nat)) (f:Operand->V):∀(L:List (Nat × Operand)) (cs:List V) (k:List V->Bool),w9 place cs (L.map λp=>(p.1,f p.2)) k=true ->
  ∃ cs',k cs'=true/\cs'.length=cs.length /\ ∀(ok:Nat->Prop) (w:World) (ρ:Rho) (g:Operand->Value) (us:List Value),RepL ok w ρ cs us->(∀ p,p ∈ L->Rep ok w ρ (f p.2) (g p.2)) ->
   ∃ us',Instr.fill place us.toArray (L.map λp=>(p.1,g p.2))=some us'.toArray/\RepL ok w ρ cs' us'
 | [],cs,k,h=>⟨cs,h,rfl,λok w ρ g us hr _=>⟨us,rfl,hr⟩⟩
 | (i,x)::r,cs,k,h=>by
  simp only[aqk,w9]at h;split at h
  ·rename_i off s vs hp hv;obtain⟨h0,h1⟩:=and_true h;obtain⟨h2,h3⟩:=and_true h1;have hs:vs.length=s:=by simpa using h0
   have hle:=ap0 h2;obtain⟨cs',hk,hl,hf⟩:=pC place f r _ k h3;refine⟨cs',hk,by rw[hl,dp],λok w ρ g us hr hops=>?_⟩;have hx:=qi hv (hops (i,x) (by simp));have hsz:(g x).cells.size=s:=by rw[<- hs,hx.1]; simp
   obtain⟨us',h4,h5⟩:=hf ok w ρ g _ (hr.setFrom hx (by rw[hs]; exact hle)) (λp hp=>hops p (by simp[hp]));refine⟨us',?_,h5⟩;simp only[aqk,Instr.fill,hp];rw[if_neg (by simp[hsz]; rw[<- hr.1]; omega),BF];exact h4
  ·cases h
theorem lW {P:Program} {base:Nat} {F:List V} {M:bh} {o:Op} {x:V} {nm:Nat} {blk:Blk} (hlen:M.length<=nm)
  (h:∀(G:Gh) (w:World) (ρ:Rho) (L:LK) (a:Act) (o':Oper),o'.op=o->SimW G w ρ L->(∀ y,y ∈ o.operands->Rep (okc G ρ L) w ρ (ev F y) (a.eval y)) ->
   ∃ cur len cap v,(execOp a.eval o').run P w=.ok (.value v) (w.alloc (.cells cur blk.e (0,0)))/\cur.size=cap*blk.sz/\len*blk.sz=blk.c.size/\len<=cap/\cap<=maxLen/\BodyRep (okc G ρ L) w ρ blk.c cur /\
    ∀ ok w' ρ',ρ' nm=some (some ⟨w.heap.size,len,cap⟩)->Rep ok w' ρ' x v):bC P base F M o x [(nm,some blk)] []:=by
 intro G w ρ L a o' ho hb hs hops _ hnew N Q hn;obtain⟨hnm,hbase⟩:=hnew nm (some blk) (by simp) hlen;obtain⟨cur,len,cap,v,hr,h1,h2,h3,h4,h5,h6⟩:=h G w ρ L a o' ho hs hops;obtain⟨s1,s2⟩:=hs.alloc nm hnm (by omega) blk cur len cap h1 h2 h3 h4 h5;refine gr hr (hn v _ _ s1 (h6 _ _ _ (by simp[bP])) s2 ?_);intro n hne;by_cases e:n=nm
 ·simp[e]
 ·simp[bP,e]at hne
section
variable {cx:Cx} {base:Nat} {F:List V} {M:bh} {k:KOp}
theorem AU {P:Program} {e:Nat} {cs:List V} {c:Body} (h:BV P e cs=some c):c.size=cs.length/\(∀ i,c.at i=cs[i]?)/\cs.all V.one=true:=by
 unfold BV at h;split at h
 ·obtain⟨xs,hx,rfl⟩:=Option.map_eq_some_iff.1 h;obtain rfl:=uc hx;exact⟨by simp[Body.size],λi=>by simp[Body.at],by simp[V.one]⟩
 ·obtain⟨xs,hx,rfl⟩:=Option.map_eq_some_iff.1 h;obtain rfl:=pu hx;exact⟨by simp[Body.size],λi=>by simp[Body.at],by simp[V.one]⟩
 ·cases h1:cs.all V.one with
  | false=>simp[h1]at h
  | true=>simp[h1]at h; subst h; exact⟨rfl,λi=>rfl,rfl⟩
 ·cases h
theorem BodyRep.of_at {ok:Nat->Prop} {w:World} {ρ:Rho} {c c':Body} {cur:Array Value} (h:∀ i,c.at i=c'.at i) (hb:BodyRep ok w ρ c' cur):BodyRep ok w ρ c cur:=
 λi x hx=>hb i x (by rw[<- h i]; exact hx)
theorem lN (P:Program) (t:Nat) (cs:List V):(qN P t cs).size=cs.length /\ ∀ i,(qN P t cs).at i=(Body.cells cs).at i:=by
 unfold qN;split
 ·split
  ·rename_i c hc;obtain⟨h1,h2,-⟩:=AU hc;exact⟨h1,h2⟩
  ·exact⟨rfl,λ_=>rfl⟩
 ·exact⟨rfl,λ_=>rfl⟩
theorem D9 {t:TypeId} (h:opV cx base F M (.alloc t) k=true):∃ z U T,bC cx.P base F M (.alloc t) z U T/\k z U T=true:=by
 simp only[opV]at h;split at h
 ·rename_i cs hz;obtain⟨h0,h1⟩:=and_true h;obtain⟨h2,h3⟩:=and_true h1;have hlen:=ap0 h0;obtain⟨i,v,hi,hv,_,hrep⟩:=fP hz;refine⟨_,_,_,lW (ap1 _) (λG w ρ L a o' ho hs hops=>?_),h3⟩;have hr:=hrep (okc G ρ L) w ρ;refine⟨v.cells,cs.length,cs.length,.pointer (some ⟨w.heap.size,0,none⟩),?_,?_,?_,ap1 _,?_,?_,?_⟩
  ·simp[execOp,ho,Instr.alloc,zeroValue,typeInfo,hi,hv,newVar,newRow]
  ·have:=hr.1; simp at this ⊢; exact this.symm
  ·simp[(lN _ _ _).1]
  ·unfold maxLen; omega
  ·have:=hr.body h2; exact BodyRep.of_at (lN _ _ _).2 (by simpa using this)
  ·intro ok w' ρ' hp; exact .ptr _ 0 _ hp
 ·cases h
theorem Pb {t:TypeId} {x:Operand} (h:opV cx base F M (.box t x) k=true):∃ z U T,bC cx.P base F M (.box t x) z U T/\k z U T=true:=by
 simp only[opV]at h;split at h
 ·rename_i cs hz;obtain⟨h0,h1⟩:=and_true h;obtain⟨h2,h3⟩:=and_true h1;have hlen:=ap0 h0;refine⟨_,_,_,lW (ap1 _) (λG w ρ L a o' ho hs hops=>?_),h3⟩;have hr:=qi hz (hops x (by simp[Op.operands]));refine⟨(a.eval x).cells,cs.length,cs.length,.pointer (some ⟨w.heap.size,0,none⟩),?_,?_,?_,ap1 _,?_,?_,?_⟩
  ·simp[execOp,ho,Instr.box,newVar,newRow]
  ·have:=hr.1; simp at this ⊢; exact this.symm
  ·simp[(lN _ _ _).1]
  ·unfold maxLen; omega
  ·have:=hr.body h2; exact BodyRep.of_at (lN _ _ _).2 (by simpa using this)
  ·intro ok w' ρ' hp; exact .ptr _ 0 _ hp
 ·cases h
theorem Gc {P:Program} {fs:List Field} {pl:List (Nat × Nat)} (h:places P fs=some pl):fs.mapM (λf=>(P.info? f.type).map λi=>(f.offset,i.size))=some pl:=by unfold places fO at h;simpa [Option.map_map,Function.comp_def]using h
theorem Ea {t:TypeId} {parts:Array (Nat × Operand)} (h:opV cx base F M (.build t parts) k=true):∃ z U T,bC cx.P base F M (.build t parts) z U T/\k z U T=true:=by
 simp only[opV]at h;have fin:∀(pl:Nat->Option (Nat × Nat)) (z:List V),bX cx.P t=some z->(∀ v (rs:List (Nat × Value)),(∃ i,cx.P.info? t=some i/\i.zero=some v)->cx.P.built t rs=Instr.fill pl v.cells rs) ->
   w9 pl z (parts.toList.map λp=>(p.1,ev F p.2)) (λcs=>cs.all V.one&&k (.agg cs) [] [])=true -> ∃ z U T,bC cx.P base F M (.build t parts) z U T/\k z U T=true:=by
  intro pl z hz hb hf;obtain⟨i,v,hi,hv,_,hrep⟩:=fP hz;obtain⟨cs',hk,_,hfill⟩:=pC pl (ev F) parts.toList z _ hf;obtain⟨h1,h2⟩:=and_true hk;refine⟨_,_,_,aT (λG w ρ L a o' ho hs hops _=>?_),h2⟩;obtain⟨us',hu,hr⟩:=hfill (okc G ρ L) w ρ a.eval v.cells.toList (hrep _ _ _) (λp hp=>hops p.2 (by simp only[Op.operands];exact Array.mem_def.2 (by simpa using ⟨p.1,by simpa using hp⟩)))
  refine⟨.agg us'.toArray,w,?_,.inl rfl,.agg _ _ hr.1 (hr.one h1) hr.2⟩;have hbuilt:cx.P.built t (parts.map λ(i,x)=>(i,a.eval x)).toList=some us'.toArray:=by rw[hb v _ ⟨i,hi,hv⟩];rw[<- hu];simp
  simp[execOp,ho,run_build w t _ _ hbuilt]
 split at h
 ·rename_i z fs hz hu;split at h
  ·rename_i pl hp;refine fin _ z hz ?_ h;rintro v rs ⟨i,hi,hv⟩;simp[Program.built,hi,hu,hv,Gc hp]
  ·cases h
 ·rename_i z n e hz hu;split at h
  ·rename_i s hs;refine fin _ z hz ?_ h;rintro v rs ⟨i,hi,hv⟩;obtain⟨j,hj,rfl⟩:=uN hs;simp only[Program.built,hi,hu,hv,hj];congr 1;funext i;rw[dL]
  ·cases h
 ·cases h
theorem iW {α:Type}:∀(n:Nat) (z:List α) (i:Nat),0<z.length->i<n*z.length->((List.replicate n z).flatten)[i]? = z[i%z.length]?
 | 0,z,i,h0,h=>by simp at h
 | n+1,z,i,h0,h=>by
  rw[aqO,aq9,List.getElem?_append];split
  ·rename_i hi; rw[aqi hi]
  ·rename_i hi;have hn:i - z.length<n*z.length:=by rw[aqD]at h; omega
   rw[iW n z _ h0 hn];congr 1
   conv=>rhs; rw[show i=(i - z.length)+z.length from by omega,Nat.add_mod_right]
theorem Ps {ok:Nat->Prop} {w:World} {ρ:Rho} {z:List V} {u:Array Value} (n s:Nat) (h:RepL ok w ρ z u.toList) (hs:z.length=s) (h0:¬ s=0) :
  RepL ok w ρ ((List.replicate n z).flatten) ((Array.range (n*s)).map (u[· % u.size]!)).toList:=by
 have hus:u.size=s:=by have:=h.1; simp at this; omega
 refine⟨by simp[hs],λi c x hc hx=>?_⟩;have hi:i<n*s:=by have:=(List.getElem?_eq_some_iff.1 hc).1; simp[hs]at this; exact this
 rw[iW n z i (by omega) (by rw[hs]; exact hi),hs]at hc;have hm:i%s<u.size:=by rw[hus]; exact aq8 _ (by omega)
 refine h.2 (i%s) c x hc ?_;simp[hi,hus]at hx;rw[<- hx];simp[hm]
theorem uK {t:TypeId} {len:Nat} {parts:Array (Nat × Operand)} (h:opV cx base F M (.buildSlice t len parts) k=true):∃ z U T,bC cx.P base F M (.buildSlice t len parts) z U T/\k z U T=true:=by
 simp only[opV]at h;split at h
 ·rename_i e he;split at h
  ·rename_i s z hs hz;obtain⟨h0,h1⟩:=and_true h;obtain⟨h2,h3⟩:=and_true h1;obtain⟨h4,h5⟩:=and_true h3;have hle:=ap0 h0;have hzl:z.length=s:=by simpa using h2
   have hs0:¬ s=0:=by simpa using h4
   obtain⟨i,v,hi,hv,_,hrep⟩:=fP hz;obtain⟨cs',hk,hl,hfill⟩:=pC _ (ev F) parts.toList _ _ h5;have ht:=nf he;split at hk
   ·rename_i c hc;obtain⟨c1,c2,c3⟩:=AU hc;have hl':cs'.length=len*s:=by rw[hl]; simp[hzl]
    refine⟨_,_,_,lW (ap1 _) (λG w ρ L a o' ho hs' hops=>?_),hk⟩;obtain⟨us',hu,hr⟩:=hfill (okc G ρ L) w ρ a.eval _ (Ps len s (hrep (okc G ρ L) w ρ) hzl hs0) (λp hp=>hops p.2 (by simp only[Op.operands];exact Array.mem_def.2 (by simpa using ⟨p.1,by simpa using hp⟩)))
    refine⟨us'.toArray,len,len,.slice (some ⟨w.heap.size,0,none⟩) len len,?_,?_,?_,ap1 _,?_,?_,?_⟩
    ·have hfill':Instr.fill (λi=>some (i*s,s)) ((Array.range (len*s)).map (v.cells[· % v.cells.size]!)) (parts.map λ(i,x)=>(i,a.eval x)).toList=some us'.toArray:=by rw[<- hu,Array.toArray_toList,Array.toList_map];simp only[dL]
     have hrun:(Instr.buildSlice t len (parts.map λ(i,x)=>(i,a.eval x))).run cx.P w=.ok (.slice (some ⟨w.heap.size,0,none⟩) len len) (w.alloc (.cells us'.toArray e (0,0))):=by
      have hng:¬(len*s>2 ^ 24):=by omega
      by_cases hn:len*s=0
      ·have hz0:(Array.range (len*s)).map (v.cells[· % v.cells.size]!)=(Array.range (len*s)).map ((#[]:Array Value)[· % (#[]:Array Value).size]!):=by rw[hn]; apply aqP; simp
       rw[hz0]at hfill';simp only[Instr.buildSlice,Sem.run_bind,run_underlying ht,Result.andThen_ok,dM hs,if_neg hng,if_pos hn,Sem.run_pure,hfill',newRow,run_newObj];rfl
      ·simp only[Instr.buildSlice,Sem.run_bind,run_underlying ht,Result.andThen_ok,dM hs,if_neg hng,if_neg hn,Sem.run_pure,zeroValue,typeInfo,run_program,hi,hv,hfill',newRow,run_newObj];rfl
     simp only[execOp,ho,Sem.run_bind,hrun,Result.andThen_ok,Sem.run_pure]
    ·have:=hr.1; simp; omega
    ·rw[c1,hl']
    ·have:len<=len*s:=aqS _ (by omega);unfold maxLen; omega
    ·exact BodyRep.of_at (c':=.cells cs') (λi=>c2 i) (hr.body c3)
    ·intro ok w' ρ' hp; exact .slw _ _ hp
   ·cases hk
  ·cases h
 ·cases h
end
theorem yl {α:Type} (cur vs:List α) (o i:Nat) (h:o+vs.length<=cur.length):(cur.take o++vs++cur.drop (o+vs.length))[i]? = if o<=i/\i<o+vs.length then vs[i - o]? else cur[i]?:=by
 rw[aqe,List.getElem?_append];simp only[aqM,aqp (show o<=cur.length by omega)];by_cases h1:i<o
 ·rw[if_pos h1,if_neg (by omega),List.getElem?_take,if_pos h1]
 ·rw[if_neg h1,List.getElem?_append];by_cases h2:i - o<vs.length
  ·rw[if_pos h2,if_pos (by omega)]
  ·rw[if_neg h2,if_neg (by omega),List.getElem?_drop];congr 1; omega
section
variable {cx:Cx} {base:Nat} {F:List V} {M:bh} {k:KOp}
theorem xe {P:Program} {t s:TypeId} {x y:Operand} {n p:Nat} {blk:Blk} {vs:List V} {c':Body} (hM:aE M n=some blk) (hs:fO P t=some s) (ex:ev F x=.ptr n p) (hl:vs.length=s) (hvc:uP (ev F y)=some vs)
  (hone:vs.all V.one=true) (hle:p+vs.length<=blk.c.size) (hc:c'.size=blk.c.size) (hat:∀ i z,c'.at i=some z->(p<=i/\i<p+vs.length/\vs[i - p]? = some z)\/(¬(p<=i/\i<p+vs.length)/\blk.c.at i=some z)) :
  bC P base F M (.store t x y) .any [(n,some { blk with c:=c' })] [n]:=by
 intro G w ρ L a o' ho hb hsim hops hT _ N Q hn;have hx:=hops x (by simp[Op.operands]); rw[ex]at hx;have hy:=hops y (by simp[Op.operands]);obtain⟨pl,hp,hv⟩:=hx.ptr_inv;have hL:L n=some blk:=by rw[hT n (by simp),hM]
 obtain⟨cur,c1,c2,c3,c4,c5,c6⟩:=hsim.place hL hp;have hrep:=qi hvc hy;have hones:=hrep.one hone;have hfit:p+(a.eval y).cells.toList.length<=cur.size:=by
  rw[<- hrep.1];have:blk.c.size<=cur.size:=by rw[<- c3,c2]; exact ap4 _ c4
  omega
 have hst:=run_storeCells_at P pl.b p blk.e (a.eval y).cells.toList 0 cur w c1 (by simpa using hfit) hones;simp only[aqy]at hst;have hsz:(a.eval y).cells.size=s:=by rw[<- hl,hrep.1]; simp
 have hrun:(Instr.storeAt t (a.eval x) (a.eval y)).run P w=.ok () (w.setRow pl.b (cur.toList.take p++(a.eval y).cells.toList++cur.toList.drop (p+(a.eval y).cells.toList.length)).toArray):=by rw[hv];simp only[Instr.storeAt,Instr.sureAddr,Sem.run_bind,Sem.run_pure,Result.andThen_ok,storeVar,dM hs,hsz,ne_eq,not_true_eq_false,aqa,hst]
 have hlen:p+(a.eval y).cells.toList.length<=cur.toList.length:=by simpa using hfit
 obtain⟨s1,s2⟩:=hsim.write n blk pl hL hp cur (cur.toList.take p++(a.eval y).cells.toList++cur.toList.drop (p+(a.eval y).cells.toList.length)).toArray c1 c' (by
  simp only[aqn,aq5,aqM,arc,Array.length_toList]at hlen ⊢; omega) hc (by
  intro i z hz;have hg:(cur.toList.take p++(a.eval y).cells.toList++cur.toList.drop (p+(a.eval y).cells.toList.length)).toArray[i]? = if p<=i/\i<p+(a.eval y).cells.toList.length then(a.eval y).cells.toList[i - p]? else cur.toList[i]?:=by rw[List.getElem?_toArray]; exact yl _ _ _ _ hlen
  rcases hat i z hz with⟨g1,g2,g3⟩ | ⟨g1,g2⟩
  ·rw[hrep.1]at g2;have hi:i - p<(a.eval y).cells.toList.length:=by omega
   refine⟨(a.eval y).cells.toList[i - p],?_,hones _ (aqr hi),hrep.2 _ z _ g3 (by simp only[List.getElem?_eq_getElem hi])⟩;rw[hg,if_pos ⟨g1,g2⟩,List.getElem?_eq_getElem hi]
  ·rw[hrep.1]at g1;obtain⟨v,v1,v2,v3⟩:=c6 i z g2;refine⟨v,?_,v2,v3⟩;rw[hg,if_neg g1]; simpa using v1)
 unfold Oper.wp;simp only[execOp,ho,Sem.run_bind,hrun,Result.andThen_ok,Sem.run_pure,Oper.upon_skip];exact hn undef _ ρ s1 (.any _) s2 (λm hm=>absurd rfl hm)
theorem Ef {t:TypeId} {x y:Operand} (h:opV cx base F M (.store t x y) k=true):∃ z U T,bC cx.P base F M (.store t x y) z U T/\k z U T=true:=by
 simp only[opV]at h;split at h
 ·rename_i s n p vs hs ex ey;split at h
  ·rename_i blk hM;obtain⟨h0,h1⟩:=and_true h;have hl:vs.length=s:=by simpa using h0
   obtain⟨c',hk,g1,g2,g3,g4⟩:=Body.setPart_sound h1;exact⟨_,_,_,xe hM hs ex hl (by rw[ey]; rfl) g3 g2 g1 g4,hk⟩
  ·cases h
 ·rename_i s n p hs ex hno;split at h
  ·rename_i blk hM;obtain⟨h0,h1⟩:=and_true h;obtain⟨h2,h3⟩:=and_true h1;have hl:s=1:=by simpa using h0
   obtain⟨c',hk,g1,g2,g3,g4⟩:=Body.set_sound h3;refine⟨_,_,_,xe (vs:=[ev F y]) hM hs ex (by simp[hl]) ?_ (by simp[g3]) (by simp only[aqq,aq2]; omega) g1 ?_,hk⟩
   ·unfold uP;split
    ·rename_i cs e; rw[e]at g3; simp[V.one]at g3
    ·simp[g3]
   ·intro i z hz;rcases g4 i z hz with⟨rfl,rfl⟩ | ⟨e,hz⟩
    ·exact .inl ⟨ap1 _,by simp,by simp⟩
    ·exact .inr ⟨by simp; omega,hz⟩
  ·cases h
 ·cases h
theorem sf {P:Program} {e n:Nat} {z:List V} {c:Body} (hz:bX P e=some z) (h:gX P e n=some c):c.size=((List.replicate n z).flatten).length /\ ∀ i,c.at i=((List.replicate n z).flatten)[i]?:=by
 have fl:∀{α:Type} (x:α) (f:α->V) (m:Nat),(List.replicate m [f x]).flatten=(List.replicate m x).map f:=by
  intro α x f m;induction m with
  | zero=>rfl
  | succ m ih=>rw[aqO,aq9,ih,aqO]; rfl
 unfold gX at h;rw[hz]at h;split at h
 ·rename_i x e1 e2;cases h; cases e2;rw[fl x V.flt n];exact⟨by simp[Body.size],λi=>by simp only[Body.at,List.getElem?_map]⟩
 ·rename_i q q' x e1 e2;cases e2;by_cases e:q'=q
  ·subst e;simp at h; subst h;rw[fl x (V.int q') n];exact⟨by simp[Body.size],λi=>by simp only[Body.at,List.getElem?_map]⟩
  ·simp[e]at h
 ·rename_i e1 e2;cases h; cases e2;exact⟨rfl,λi=>rfl⟩
 ·cases h
theorem qS {P:Program} {t s:Nat} (h:wd P t=some s):∃ i,P.info? t=some i/\i.bytes=s:=by unfold wd at h;obtain⟨i,hi,rfl⟩:=Option.map_eq_some_iff.1 h;exact⟨i,hi,rfl⟩
theorem vW {t:TypeId} {l c:Operand} (h:opV cx base F M (.makeSlice t l c) k=true):∃ z U T,bC cx.P base F M (.makeSlice t l c) z U T/\k z U T=true:=by
 simp only[opV]at h;split at h
 ·rename_i e he;split at h
  ·rename_i s by' hs hby;split at h
   ·rename_i ql l' qc c' el ec;obtain⟨h0,h1⟩:=and_true h;obtain⟨h2,h3⟩:=and_true h1;have hb:=ap0 h0;split at h2
    ·rename_i z hz;obtain⟨h2a,h2b⟩:=and_true h2;have hzl:z.length=s:=by simpa using h2a
     split at h3
     ·rename_i body hbody;obtain⟨b1,b2⟩:=sf hz hbody;obtain⟨i,v,hi,hv,_,hrep⟩:=fP hz;obtain⟨i2,hi2,hsz⟩:=uN hs;rw[hi]at hi2; cases hi2;obtain⟨i3,hi3,hbz⟩:=qS hby;rw[hi]at hi3; cases hi3;refine⟨_,_,_,lW (ap1 _) (λG w ρ L a o' ho hs' hops=>?_),h3⟩;have hl:=hops l (by simp[Op.operands]); rw[el]at hl;have hc:=hops c (by simp[Op.operands]); rw[ec]at hc;have hrun:=run_make (P:=cx.P) w t e i v (nf he) hi hv ql qc l' c' hb.1 hb.2.1 (by rw[hbz]; omega) hb.2.2.1;refine⟨madeCells v.cells (c'.toNat*i.size),l'.toNat,c'.toNat,.slice (some ⟨w.heap.size,0,none⟩) l'.toNat c'.toNat,?_,?_,?_,by omega,?_,?_,?_⟩
      ·simp[execOp,ho,hl.int_inv,hc.int_inv,hrun]
      ·rw[size_madeCells,hsz]
      ·rw[b1]; simp[hzl]
      ·unfold maxLen; omega
      ·have hsub:∀ j x,body.at j=some x -> ∃ u,(madeCells v.cells (c'.toNat*i.size))[j]? = some u/\u.oneCell'=true/\Rep (okc G ρ L) w ρ x u:=by
        intro j x hx;rw[b2]at hx;have hj:j<l'.toNat*s:=by have:=(List.getElem?_eq_some_iff.1 hx).1; simp[hzl]at this; exact this
        have hs0:¬ s=0:=by intro e; simp[e]at hj
        have hjc:j<c'.toNat*s:=ap6 hj (ap4 _ (by omega));rw[iW _ _ _ (by omega) (by rw[hzl]; exact hj),hzl]at hx;have hr:=hrep (okc G ρ L) w ρ;have hvs:v.cells.size=s:=by have:=hr.1; simp at this; omega
        have hm:j%s<v.cells.size:=by rw[hvs]; exact aq8 _ (by omega)
        refine⟨v.cells[j%s],?_,?_,hr.2 (j%s) x _ hx (by simp[hm])⟩
        ·unfold madeCells;rw[hsz,hvs];simp[hjc,hm]
        ·have hxo:x.one=true:=List.all_eq_true.1 h2b _ (List.mem_of_getElem? hx);exact(hr.2 (j%s) x _ hx (by simp[hm])).one hxo
       exact hsub
      ·intro ok w' ρ' hp; exact .slw _ _ hp
     ·cases h3
    ·cases h2
   ·cases h
  ·cases h
 ·cases h
end
theorem gF {F:List V} {lo hi:Option Operand} {n:Nat} {k:Nat->Nat->Bool} (h:px F lo hi n k=true) :
  ∃ l u,l<=u/\u<=n/\k l u=true /\ ∀(P:Program) (ok:Nat->Prop) (w:World) (ρ:Rho) (g:Operand->Value) (isS:Bool) (cap:Nat),n<=cap->(∀ x,lo=some x->Rep ok w ρ (ev F x) (g x))->(∀ x,hi=some x->Rep ok w ρ (ev F x) (g x)) ->
   (Instr.sliceBounds isS n cap (lo.map g) (hi.map g) none).run P w=.ok (l,u,cap) w:=by
 unfold px at h;split at h
 ·rename_i e1 e2;obtain rfl:=Option.map_eq_none_iff.1 e1;obtain rfl:=Option.map_eq_none_iff.1 e2;exact⟨0,n,by omega,ap1 _,h,λP ok w ρ g isS cap hc _ _=>by simp[Instr.sliceBounds]⟩
 ·rename_i q u e1 e2;obtain rfl:=Option.map_eq_none_iff.1 e1;obtain⟨y,rfl,hy⟩:=Option.map_eq_some_iff.1 e2;obtain⟨h0,h1⟩:=and_true h;have hb:=ap0 h0;refine⟨0,u.toNat,by omega,by omega,h1,λP ok w ρ g isS cap hc _ hh=>?_⟩;have:=hh y rfl; rw[hy]at this;have hle:0<=u/\u<=(cap:Int):=by omega
  simp[Instr.sliceBounds,this.int_inv,Instr.sliceBound,asIntOf,hle]
 ·rename_i q l e1 e2;obtain rfl:=Option.map_eq_none_iff.1 e2;obtain⟨y,rfl,hy⟩:=Option.map_eq_some_iff.1 e1;obtain⟨h0,h1⟩:=and_true h;have hb:=ap0 h0;refine⟨l.toNat,n,by omega,by omega,h1,λP ok w ρ g isS cap hc hl _=>?_⟩;have:=hl y rfl; rw[hy]at this;simp[Instr.sliceBounds,this.int_inv,Instr.sliceBound,asIntOf,hb]
 ·rename_i q l q' u e1 e2;obtain⟨y,rfl,hy⟩:=Option.map_eq_some_iff.1 e1;obtain⟨z,rfl,hz⟩:=Option.map_eq_some_iff.1 e2;obtain⟨h0,h1⟩:=and_true h;have hb:=ap0 h0;refine⟨l.toNat,u.toNat,by omega,by omega,h1,λP ok w ρ g isS cap hc hl hh=>?_⟩;have t1:=hl y rfl; rw[hy]at t1;have t2:=hh z rfl; rw[hz]at t2;have hle:0<=u/\u<=(cap:Int):=by omega
  have hle2:0<=l/\l<=(u.toNat:Int):=by omega
  simp only[Instr.sliceBounds,aqh,t1.int_inv,t2.int_inv,Instr.sliceBound,asIntOf,Sem.run_bind,Sem.run_pure,Result.andThen_ok,Sem.run_ite,if_pos hle,if_pos hle2]
 ·cases h
section
variable {cx:Cx} {base:Nat} {F:List V} {M:bh} {k:KOp}
theorem cT {t:TypeId} {x:Operand} {lo hi:Option Operand}:(∀ y,lo=some y->y ∈ (Op.slice t x lo hi none).operands)/\(∀ y,hi=some y->y ∈ (Op.slice t x lo hi none).operands)/\x ∈ (Op.slice t x lo hi none).operands:=by
 refine⟨?_,?_,?_⟩
 ·rintro y rfl; simp[Op.operands]
 ·rintro y rfl; simp[Op.operands]
 ·simp[Op.operands]
theorem Ee {t:TypeId} {x:Operand} {lo hi mx:Option Operand} (h:opV cx base F M (.slice t x lo hi mx) k=true):∃ z U T,bC cx.P base F M (.slice t x lo hi mx) z U T/\k z U T=true:=by
 cases mx with
 | some m=>simp only[opV]at h; cases h
 | none=>
 simp only[opV]at h;split at h
 ·rename_i e ht;split at h
  ·rename_i s hs;have run:∀(G:Gh) (w:World) (ρ:Rho) (L:LK) (a:Act) (o':Oper) (l u n cap:Nat) (b:Option Addr),o'.op=.slice t x lo hi none->a.eval x=.slice b n cap ->
     (Instr.sliceBounds true n cap (lo.map a.eval) (hi.map a.eval) none).run cx.P w=.ok (l,u,cap) w->(execOp a.eval o').run cx.P w=.ok (.value (.slice (if cap=l then b else b.map (·.add (l*s))) (u - l) (cap - l))) w:=by
    intro G w ρ L a o' l u n cap b ho hx hb;simp only[execOp,ho,hx,Option.map_none,Sem.run_bind,Instr.sliceAt,run_underlying ht,Result.andThen_ok,Instr.slice,hb,dM hs,Sem.run_pure]
   split at h
   ·rename_i xs ex;obtain⟨h0,h1⟩:=and_true h;obtain rfl:s=1:=by simpa using h0
    obtain⟨l,u,hlu,hun,hk,hb⟩:=gF h1;refine⟨_,_,_,aT (λG w ρ L a o' ho hsim hops hT=>?_),hk⟩;have hx:=hops x cT.2.2; rw[ex]at hx;have hl:=λy hy=>hops y (cT.1 y hy)
    have hu:=λy hy=>hops y (cT.2.1 y hy)
    rcases hx.rof_inv with⟨rfl,hv⟩ | ⟨b,o,cap,g,hv,hok,hb',hcap,hcell,hrep⟩
    ·obtain rfl:u=0:=by simp at hun; omega
     obtain rfl:l=0:=by omega
     refine⟨_,w,run G w ρ L a o' 0 0 0 0 none ho hv (hb _ _ _ _ _ _ _ (by simp) hl hu),.inl rfl,?_⟩;simp; exact .rofn
    ·refine⟨_,w,run G w ρ L a o' l u _ cap _ ho hv (hb _ _ _ _ _ _ _ hcap hl hu),.inl rfl,?_⟩;have hlen:u - l=((xs.take u).drop l).length:=by simp; omega
     by_cases e:cap=l
     ·subst e;have he:(xs.take u).drop cap=[]:=ap9 (by rw[<- hlen]; omega);rw[if_pos rfl,he,show u - cap=([]:List Fl).length from by simp; omega];exact .rof [] b o _ g hok hb' (by simp) (by simp) (by simp)
     ·rw[if_neg e,hlen,aqU];simp only[aqh,eU];refine .rof _ b (o+l) _ (λi=>g (l+i)) hok hb' (by rw[<- hlen]; omega) ?_ ?_
      ·intro i hi;rw[<- hlen]at hi;rw[aqt]; exact hcell (l+i) (by omega)
      ·intro i y hy;rw[List.getElem?_drop,List.getElem?_take]at hy;split at hy
       ·exact hrep _ _ hy
       ·cases hy
   ·rename_i q xs ex;obtain⟨h0,h1⟩:=and_true h;obtain rfl:s=1:=by simpa using h0
    obtain⟨l,u,hlu,hun,hk,hb⟩:=gF h1;refine⟨_,_,_,aT (λG w ρ L a o' ho hsim hops hT=>?_),hk⟩;have hx:=hops x cT.2.2; rw[ex]at hx;have hl:=λy hy=>hops y (cT.1 y hy)
    have hu:=λy hy=>hops y (cT.2.1 y hy)
    rcases hx.roi_inv with⟨rfl,hv⟩ | ⟨b,o,cap,hv,hok,hb',hcap,hcell⟩
    ·obtain rfl:u=0:=by simp at hun; omega
     obtain rfl:l=0:=by omega
     refine⟨_,w,run G w ρ L a o' 0 0 0 0 none ho hv (hb _ _ _ _ _ _ _ (by simp) hl hu),.inl rfl,?_⟩;simp; exact .roin _
    ·refine⟨_,w,run G w ρ L a o' l u _ cap _ ho hv (hb _ _ _ _ _ _ _ hcap hl hu),.inl rfl,?_⟩;have hlen:u - l=((xs.take u).drop l).length:=by simp; omega
     by_cases e:cap=l
     ·subst e;have he:(xs.take u).drop cap=[]:=ap9 (by rw[<- hlen]; omega);rw[if_pos rfl,he,show u - cap=([]:List Int).length from by simp; omega];exact .roi q [] b o _ hok hb' (by simp) (by simp)
     ·rw[if_neg e,hlen,aqU];simp only[aqh,eU];refine .roi q _ b (o+l) _ hok hb' (by rw[<- hlen]; omega) ?_;intro i y hy;rw[List.getElem?_drop,List.getElem?_take]at hy;split at hy
      ·rw[aqt]; exact hcell _ _ hy
      ·cases hy
   ·rename_i n ex;split at h
    ·rename_i blk hM;obtain⟨h0,h1⟩:=and_true h;obtain⟨h2,h3⟩:=and_true h1;obtain rfl:s=blk.sz:=by simpa using h0
     have hs0:¬ blk.sz=0:=by simpa using h2
     obtain⟨l,u,hlu,hun,hk,hb⟩:=gF h3;refine⟨_,_,_,aT (λG w ρ L a o' ho hsim hops hT=>?_),hk⟩;have hx:=hops x cT.2.2; rw[ex]at hx;have hl:=λy hy=>hops y (cT.1 y hy)
     have hu:=λy hy=>hops y (cT.2.1 y hy)
     have hL:L n=some blk:=by rw[hT n (by simp),hM]
     rcases hx.slw_inv with⟨p,hp,hv⟩ | ⟨hp,hv⟩
     ·obtain⟨cur,c1,c2,c3,c4,c5,c6⟩:=hsim.place hL hp;rw[qU c3 hs0]at hb hun;refine⟨_,w,run G w ρ L a o' l u _ p.cap _ ho hv (hb _ _ _ _ _ _ _ c4 hl hu),.inl rfl,?_⟩;by_cases e:p.cap=l
      ·rw[if_pos e]; exact .sl n _ _ _ 0 p hp (by omega) (.inr (by omega))
      ·rw[if_neg e];simp only[aqh,eU,aqb];exact .sl n _ _ _ _ p hp (by omega) (.inl (dL _ _).symm)
     ·rw[pA (hsim.empty hL hp)]at hb hun;obtain rfl:u=0:=by omega
      obtain rfl:l=0:=by omega
      refine⟨_,w,run G w ρ L a o' 0 0 0 0 none ho hv (hb _ _ _ _ _ _ _ (by simp) hl hu),.inl rfl,?_⟩;simp; exact .slvp _ _ hp
    ·cases h
   ·rename_i n o len ex;split at h
    ·rename_i blk hM;obtain⟨h0,h1⟩:=and_true h;obtain⟨h2,h3⟩:=and_true h1;obtain rfl:s=blk.sz:=by simpa using h0
     obtain⟨l,u,hlu,hun,hk,hb⟩:=gF h3;refine⟨_,_,_,aT (λG w ρ L a o' ho hsim hops hT=>?_),hk⟩;have hx:=hops x cT.2.2; rw[ex]at hx;have hl:=λy hy=>hops y (cT.1 y hy)
     have hu:=λy hy=>hops y (cT.2.1 y hy)
     rcases hx.sl_inv with⟨p,cap,of,hp,hcap,ho',hv⟩ | ⟨hp,rfl,hv⟩
     ·refine⟨_,w,run G w ρ L a o' l u _ cap _ ho hv (hb _ _ _ _ _ _ _ hcap hl hu),.inl rfl,?_⟩;by_cases e:cap=l
      ·rw[if_pos e]; exact .sl n _ _ _ _ p hp (by omega) (.inr (by omega))
      ·rw[if_neg e];simp only[aqh,eU];refine .sl n _ _ _ _ p hp (by omega) ?_;rcases ho' with rfl | h0
       ·exact .inl (by rw[dL])
       ·exact .inr (by omega)
     ·obtain rfl:u=0:=by omega
      obtain rfl:l=0:=by omega
      refine⟨_,w,run G w ρ L a o' 0 0 0 0 none ho hv (hb _ _ _ _ _ _ _ (by simp) hl hu),.inl rfl,?_⟩;simp; exact .slvp _ _ hp
    ·cases h
   ·cases h
  ·cases h
 ·rename_i len e ht;split at h
  ·rename_i s hs;split at h
   ·rename_i n o ex;split at h
    ·rename_i blk hM;obtain⟨h0,h1⟩:=and_true h;obtain⟨h2,h3⟩:=and_true h1;obtain rfl:s=1:=by simpa using h2
     obtain⟨l,u,hlu,hun,hk,hb⟩:=gF h3;refine⟨_,_,_,aT (λG w ρ L a o' ho hsim hops hT=>?_),hk⟩;have hx:=hops x cT.2.2; rw[ex]at hx;have hl:=λy hy=>hops y (cT.1 y hy)
     have hu:=λy hy=>hops y (cT.2.1 y hy)
     obtain⟨p,hp,hv⟩:=hx.ptr_inv;have hbb:=hb cx.P (okc G ρ L) w ρ a.eval false len (ap1 _) hl hu;refine⟨.slice (some (if len=l then⟨p.b,o,none⟩else⟨p.b,o+l*1,none⟩)) (u - l) (len - l),w,?_,.inl rfl,?_⟩
     ·simp only[execOp,ho,hv,Option.map_none,Sem.run_bind,Instr.sliceAt,run_underlying ht,Result.andThen_ok,Instr.sureAddr,Sem.run_pure,hbb,dM hs,eU]
     ·by_cases e:len=l
      ·rw[if_pos e]; exact .sl n _ _ _ _ p hp (by omega) (.inr (by omega))
      ·rw[if_neg e]; exact .sl n _ _ _ _ p hp (by omega) (.inl (by rw[dL]))
    ·cases h
   ·cases h
  ·cases h
 ·cases h
theorem Body.cut_sound {c c':Body} {o n:Nat} (h:c.cut o n=some c'):c'.size=n/\o+n<=c.size /\ ∀ i,i<n->c'.at i=c.at (o+i):=by
 cases c with
 | flts xs=>
  simp only[Body.cut]at h;by_cases e:o+n<=xs.length
  ·rw[aqx e,ap8]at h; cases h;exact⟨by simp[Body.size]; omega,e,λi hi=>by simp[Body.at,hi]⟩
  ·rw[aqE e,ap_]at h; cases h
 | ints q xs=>
  simp only[Body.cut]at h;by_cases e:o+n<=xs.length
  ·rw[aqx e,ap8]at h; cases h;exact⟨by simp[Body.size]; omega,e,λi hi=>by simp[Body.at,hi]⟩
  ·rw[aqE e,ap_]at h; cases h
 | cells cs=>
  simp only[Body.cut]at h;by_cases e:o+n<=cs.length
  ·rw[aqx e,ap8]at h; cases h;exact⟨by simp[Body.size]; omega,e,λi hi=>by simp[Body.at,hi]⟩
  ·rw[aqE e,ap_]at h; cases h
theorem cR {α:Type} {b:Bool} {x:Option α} {y:α} (h:cond b x none=some y):b=true/\x=some y:=by
 cases b
 ·cases h
 ·exact⟨rfl,h⟩
theorem y5 {M:bh} {sz:Nat} {x:V} {src:Body} (hsz:¬ sz=0) (h:B_ M sz x=some src) :
    ∀(G:Gh) (w:World) (ρ:Rho) (L:LK) (v:Value),SimW G w ρ L->(∀ n,n ∈ x.refs->L n=aE M n)->Rep (okc G ρ L) w ρ x v ->
      ∃(m c:Nat) (a:Option Addr) (news:List Value),v=.slice a m c/\m*sz=src.size/\news.length=src.size/\(∀ u ∈ news,u.oneCell'=true)/\(∀(j:Nat) z u,src.at j=some z->news[j]? = some u->Rep (okc G ρ L) w ρ z u) /\
        (¬ m=0 -> ∃ b,a=some b /\ ∀(j:Nat) u,news[j]? = some u->w.cell? (b.add j)=some u):=by
  intro G w ρ L v hsim hagree hx;have pick:∀(b o n:Nat) (c:Body),(∀ i z,i<n->c.at i=some z -> ∃ u,w.cell? ⟨b,o+i,none⟩=some u/\u.oneCell'=true/\Rep (okc G ρ L) w ρ z u)->c.size=n ->
      ∃ news:List Value,news.length=c.size/\(∀ u ∈ news,u.oneCell'=true)/\(∀(j:Nat) z u,c.at j=some z->news[j]? = some u->Rep (okc G ρ L) w ρ z u) /\ ∀(j:Nat) u,news[j]? = some u->w.cell? ((⟨b,o,none⟩:Addr).add j)=some u:=by
    intro b o n c hc hn;have hf:∀ i,∃ u:Value,i<n->(w.cell? ⟨b,o+i,none⟩=some u/\u.oneCell'=true /\ ∀ z,c.at i=some z->Rep (okc G ρ L) w ρ z u):=by
      intro i;by_cases hi:i<n
      · obtain⟨z,hz⟩:=Body.at_some (c:=c) (i:=i) (by omega)
        obtain⟨u,h1,h2,h3⟩:=hc i z hi hz;exact⟨u,λ_=>⟨h1,h2,λz' hz'=>by rw[hz]at hz'; cases hz'; exact h3⟩⟩
      · exact⟨.bool false,λh=>absurd h hi⟩
    obtain⟨f,hf⟩:=Classical.skolem.1 hf;refine⟨(List.range n).map f,by simp[hn],?_,?_,?_⟩
    · intro u hu
      obtain⟨i,hi,rfl⟩:=List.mem_map.1 hu;exact(hf i (List.mem_range.1 hi)).2.1
    · intro j z u hz hu
      have hj:j<n:=by have:=Body.at_lt hz; omega
      rw[List.getElem?_map,List.getElem?_range hj]at hu;cases hu;exact(hf j hj).2.2 z hz
    · intro j u hu
      have hj:j<n:=by have:=(List.getElem?_eq_some_iff.1 hu).1; simpa using this
      rw[List.getElem?_map,List.getElem?_range hj]at hu;cases hu;rw[eU]; exact(hf j hj).1
  have empty:∀(c:Body) (a:Option Addr) (cap:Nat),c.size=0 -> ∃(m c':Nat) (a':Option Addr) (news:List Value),Value.slice a 0 cap=.slice a' m c'/\m*sz=c.size/\news.length=c.size/\(∀ u ∈ news,u.oneCell'=true)/\(∀(j:Nat) z u,c.at j=some z->news[j]? = some u->Rep (okc G ρ L) w ρ z u) /\
        (¬ m=0 -> ∃ b,a'=some b /\ ∀(j:Nat) u,news[j]? = some u->w.cell? (b.add j)=some u):=by
    intro c a cap hc;exact⟨0,cap,a,[],rfl,by simp[hc],by simp[hc],by simp,by simp,by simp⟩
  unfold B_ at h;split at h
  · cases h
    obtain rfl:=hx.nil_inv;exact empty _ _ _ rfl
  · rename_i xs
    obtain⟨e,h'⟩:=cR h;clear h;obtain rfl:sz=1:=by simpa using e
    cases h';rcases hx.rof_inv with⟨rfl,rfl⟩ | ⟨b,o,cap,g,rfl,hok,hb,hcap,hcell,hrep⟩
    · exact empty _ _ _ rfl
    · obtain⟨news,n1,n2,n3,n4⟩:=pick b o xs.length (.flts xs) (λi z hi hz=>by simp only[Body.at,aqc]at hz;obtain⟨y,hy,rfl⟩:=hz;exact⟨g i,hcell i hi,RW (hrep i y hy),.flt _ _ (hrep i y hy)⟩) rfl
      exact⟨_,_,_,news,rfl,by simp[Body.size],n1,n2,n3,λ_=>⟨_,rfl,n4⟩⟩
  · rename_i q xs
    obtain⟨e,h'⟩:=cR h;clear h;obtain rfl:sz=1:=by simpa using e
    cases h';rcases hx.roi_inv with⟨rfl,rfl⟩ | ⟨b,o,cap,rfl,hok,hb,hcap,hcell⟩
    · exact empty _ _ _ rfl
    · obtain⟨news,n1,n2,n3,n4⟩:=pick b o xs.length (.ints q xs) (λi z hi hz=>by simp only[Body.at,aqc]at hz;obtain⟨y,hy,rfl⟩:=hz;exact⟨_,hcell i y hy,rfl,.int _ _⟩) rfl
      exact⟨_,_,_,news,rfl,by simp[Body.size],n1,n2,n3,λ_=>⟨_,rfl,n4⟩⟩
  · rename_i s cs
    obtain⟨e,h'⟩:=cR h;clear h;obtain rfl:s=sz:=by simpa using e
    cases h';rcases hx.ro_inv with⟨rfl,rfl⟩ | ⟨b,o,len,cap,g,rfl,hok,hb,hl,hcap,hcell,hone,hrep⟩
    · exact empty _ _ _ rfl
    · obtain⟨news,n1,n2,n3,n4⟩:=pick b o cs.length (.cells cs) (λi z hi hz=>⟨g i,hcell i hi,hone i hi,hrep i z hz⟩) rfl
      exact⟨_,_,_,news,rfl,by simp[Body.size,hl],n1,n2,n3,λ_=>⟨_,rfl,n4⟩⟩
  · rename_i n
    split at h
    · rename_i blk hM
      obtain⟨e,h'⟩:=cR h;clear h;obtain rfl:blk.sz=sz:=by simpa using e
      cases h';have hL:L n=some blk:=by rw[hagree n (by simp[V.refs]),hM]
      rcases hx.slw_inv with⟨p,hp,rfl⟩ | ⟨hp,rfl⟩
      · obtain⟨cur,c1,c2,c3,c4,c5,c6⟩:=hsim.place hL hp
        obtain⟨news,n1,n2,n3,n4⟩:=pick p.b 0 blk.c.size blk.c (λi z hi hz=>by obtain⟨u,u1,u2,u3⟩:=c6 i z hz;exact⟨u,by rw[aqb]; exact cU c1 u1,u2,u3⟩) rfl
        exact⟨_,_,_,news,rfl,c3,n1,n2,n3,λ_=>⟨_,rfl,n4⟩⟩
      · exact empty _ _ _ (hsim.empty hL hp)
    · cases h
  · rename_i n o len
    split at h
    · rename_i blk hM
      obtain⟨e,h'⟩:=cR h;clear h;obtain rfl:blk.sz=sz:=by simpa using e
      obtain⟨hcs,hle,hat⟩:=Body.cut_sound h';rw[dL]at hcs hle hat;have hL:L n=some blk:=by rw[hagree n (by simp[V.refs]),hM]
      rcases hx.sl_inv with⟨p,cap,o',hp,hcap,ho',rfl⟩ | ⟨hp,rfl,rfl⟩
      · rcases ho' with rfl | rfl
        · obtain⟨cur,c1,c2,c3,c4,c5,c6⟩:=hsim.place hL hp
          obtain⟨news,n1,n2,n3,n4⟩:=pick p.b o' (len*blk.sz) src (λi z hi hz=>by rw[hat i hi]at hz;obtain⟨u,u1,u2,u3⟩:=c6 _ z hz;exact⟨u,cU c1 u1,u2,u3⟩) hcs
          exact⟨_,_,_,news,rfl,hcs.symm,n1,n2,n3,λ_=>⟨_,rfl,n4⟩⟩
        · exact empty _ _ _ (by simpa using hcs)
      · exact empty _ _ _ (by simpa using hcs)
    · cases h
  · cases h
end
theorem Al {b src c:Body} (h:b.app src=some c):c.size=b.size+src.size /\ ∀ i z,c.at i=some z->(i<b.size/\b.at i=some z)\/(b.size<=i/\src.at (i - b.size)=some z):=by
 have ap:∀{α:Type} (xs ys:List α) (f:α->V) i z,((xs++ys)[i]?).map f=some z->(i<xs.length/\(xs[i]?).map f=some z)\/(xs.length<=i/\(ys[i - xs.length]?).map f=some z):=by
  intro α xs ys f i z h;rw[List.getElem?_append]at h;split at h
  ·exact .inl ⟨by assumption,h⟩
  ·exact .inr ⟨by omega,h⟩
 unfold Body.app at h;split at h
 ·cases h; exact⟨by simp[Body.size],λi z hz=>ap _ _ _ i z hz⟩
 ·obtain⟨h1,h2⟩:=cR h;obtain rfl:=ap0 h1;cases h2; exact⟨by simp[Body.size],λi z hz=>ap _ _ _ i z hz⟩
 ·obtain⟨h1,h2⟩:=cR h;cases h2;refine⟨by simp[Body.size],λi z hz=>?_⟩;rename_i xs ys;have:=ap xs ys id i z (by simpa [Body.at]using hz);simpa [Body.at,Body.size]using this
 ·cases h;refine⟨by simp[Body.size],λi z hz=>.inl ⟨Body.at_lt hz,hz⟩⟩
 ·cases h
theorem u6 {P:Program} {w:World} {t e:TypeId} {i:TypeInfo} (ty:TypeId) (ht:P.underlying t=some (.slice e)) (hi:P.info? e=some i) (b:Option Addr) (n cap:Nat) (a:Option Addr) (c:Nat) (hn:n<=cap) :
  (Builtin.append_ #[t,t] ty #[.slice b n cap,.slice a 0 c]).run P w=.ok (.slice b n cap) w:=by
 cases a <;> cases b <;> simp[Builtin.append_,run_underlying ht,sizeOf,typeInfo,hi,Builtin.lenOf,Builtin.firstCells,loadCells,loadCellsFrom,hn,storeCells]
theorem kM {P:Program} {e:Nat} {z:List V} {c:Body} (hz:bX P e=some z) (h:gX P e 0=some c):c.size=0:=by have:=(sf hz h).1;simpa using this
section
variable {cx:Cx} {base:Nat} {F:List V} {M:bh} {k:KOp}
theorem iF {P:Program} {w w':World} {a:Act} {o:Oper} {c:Call} {s x:Operand} {t:TypeId} {v:Value} (ho:o.op=.call c) (hc:c.callee=.builtin .append) (ha:c.args = #[s,x]) (ht:c.argTypes = #[t,t])
  (h:(Builtin.append_ #[t,t] o.type #[a.eval s,a.eval x]).run P w=.ok v w'):(execOp a.eval o).run P w=.ok (.value v) w':=by
 unfold execOp;simp only[ho,resolve,hc,ha,ht,invoke,builtin,Sem.run_bind,Sem.run_pure,Result.andThen_ok,aqX,aqk,List.map_nil,h]
theorem B8 {c:Call} (hc:c.callee=.builtin .append) (h:opV cx base F M (.call c) k=true):∃ z U T,bC cx.P base F M (.call c) z U T/\k z U T=true:=by
  obtain⟨callee,args,argTypes⟩:=c;simp only at hc;subst hc;simp only[opV]at h;split at h
  · rename_i s x t t' ha hts
    obtain⟨h0,hh⟩:=and_true h;clear h;obtain rfl:t=t':=by simpa using h0
    have ha':args = #[s,x]:=by apply aqP; simpa using ha
    have ht':argTypes = #[t,t]:=by apply aqP; simpa using hts
    subst ha'; subst ht';split at hh
    · rename_i e he
      split at hh
      · rename_i sz by' z nb hsz hby hz hnb
        obtain⟨g1,g⟩:=and_true hh;obtain⟨g2,g3⟩:=and_true g;have hzl:z.length=sz:=by simpa using g1
        have hsz0:¬ sz=0:=by intro e; simp[e]at g2
        have hby0:¬ by'=0:=by intro e; simp[e]at g2
        clear hh h0 g1 g2 g;have ht:=nf he;obtain⟨i,hi,hisz⟩:=uN hsz;obtain⟨i2,hi2,hiby⟩:=qS hby;rw[hi]at hi2; cases hi2;obtain⟨i3,zv,hi3,hzv,_,hzrep⟩:=fP hz;rw[hi]at hi3; cases hi3;have hzsz:zv.cells.size=sz:=by have:=(hzrep (λ_=>True) default (λ_=>none)).1;simp at this; omega
        have hnb0:=kM hz hnb;split at g3
        · rename_i src hsrc
          have hsrc':=y5 (M:=M) hsz0 hsrc;have fresh:∀(G:Gh) (w:World) (ρ:Rho) (L:LK) (a:Act) (o':Oper) (c:Body) (nm:Nat),o'.op=.call { callee:=.builtin .append,args:=#[s,x],argTypes:=#[t,t] } -> SimW G w ρ L->ρ nm=none->G.base<=nm ->
              (∀ n,n ∈ (ev F x).refs->L n=aE M n)->Rep (okc G ρ L) w ρ (ev F x) (a.eval x)->a.eval s=.slice none 0 0->c.size=src.size->(∀ i z,c.at i=some z->src.at i=some z)->(Blk.count ⟨e,sz,c⟩)*by'<=140737488355328 ->
              ∃ v w' ρ',(execOp a.eval o').run cx.P w=.ok (.value v) w'/\SimW G w' ρ' (cp L nm (some ⟨e,sz,c⟩))/\Rep (okc G ρ' (cp L nm (some ⟨e,sz,c⟩))) w' ρ' (.slw nm) v/\Keeps (okc G ρ L) w ρ (okc G ρ' (cp L nm (some ⟨e,sz,c⟩))) w' ρ'/\(∀ n,ρ' n ≠ ρ n->n=nm):=by
            intro G w ρ L a o' c nm ho hsim hnm hbase hagree hx hs hcs hcat hbd;obtain⟨m,cc,ad,news,hv,hm,hnl,hn1,hnr,hcell⟩:=hsrc' G w ρ L _ hsim hagree hx;have hcount:Blk.count ⟨e,sz,c⟩=m:=qU (blk:=⟨e,sz,c⟩) (by show m*sz=c.size; rw[hcs,hm]) hsz0;rw[hcount]at hbd;have hrho:∀(q:Option Place) n,bP ρ nm q n ≠ ρ n->n=nm:=by
              intro q n hne;by_cases e:n=nm
              · exact e
              · simp[bP,e]at hne
            by_cases hm0:m=0
            · subst hm0
              have hr:=u6 (P:=cx.P) (w:=w) o'.type ht hi none 0 0 ad cc (ap1 _);obtain⟨s1,s2⟩:=hsim.virt nm hnm ⟨e,sz,c⟩ (by show c.size=0; rw[hcs,<- hm]; simp);exact⟨_,w,_,iF ho rfl rfl rfl (by rw[hs,hv]; exact hr),s1,.slv nm (by simp[bP]),s2,hrho _⟩
            · obtain⟨b,hab,hcell2⟩:=hcell hm0; clear hcell; subst hab
              have hmle:m<=140737488355328:=ap2 (aqS m (by omega)) hbd;have hr:=run_append_nil (P:=cx.P) w t o'.type e i zv ht hi hzv b m cc news (by rw[hnl,hisz]; omega) hcell2 (by omega) (by omega) (by rw[hiby]; omega);obtain⟨d1,d2⟩:=hsim.drew;have hge:=grownCap_ge w m 0 e;obtain⟨s1,s2⟩:=d1.alloc nm hnm hbase ⟨e,sz,c⟩ (news.toArray++Builtin.zeroCells zv.cells (grownCap w m 0 e - m)) m (grownCap w m 0 e)
                (by simp only[aq_,aqn,size_zeroCells,hzsz,hnl,<- hm,<- aqD]; congr 1; omega) (by show m*sz=c.size; rw[hcs,hm]) hge (grownCap_le_maxLen w m 0 e (by unfold maxLen; omega)) (by
                  intro j y hy;have hj:j<news.length:=by rw[hnl,<- hcs]; exact Body.at_lt hy
                  refine⟨news[j],by simp[Array.getElem?_append,hj],hn1 _ (aqr hj),(hnr j y _ (hcat j y hy) (by simp[hj])).mono d2⟩)
              exact⟨_,_,_,iF ho rfl rfl rfl (by rw[hs,hv]; exact hr),s1,.slw nm ⟨w.heap.size,m,grownCap w m 0 e⟩ (by simp[bP]),d2.trans s2,hrho _⟩
          split at g3
          · rename_i es
            split at g3
            · rename_i c hc
              obtain⟨a1,a2⟩:=and_true g3;have hbd:=ap0 a1;obtain⟨p1,p2⟩:=Al hc;refine⟨_,_,_,?_,a2⟩;intro G w ρ L a o' ho hb hsim hops hT hnew N Q hn;have hx:=hops x (by simp[Op.operands,Call.operands]);have hs:=hops s (by simp[Op.operands,Call.operands]); rw[es]at hs;obtain⟨hnm,hbase⟩:=hnew M.length (some ⟨e,sz,c⟩) (by simp) (ap1 _);obtain⟨v,w',ρ',r1,r2,r3,r4,r5⟩:=fresh G w ρ L a o' c M.length ho hsim hnm (by omega) hT hx hs.nil_inv (by omega) (λi y hy=>by
                rcases p2 i y hy with⟨q1,_⟩ | ⟨_,q2⟩
                · omega
                · simpa [hnb0]using q2) hbd
              exact gr r1 (hn v w' ρ' r2 r3 r4 (λn hne=>by simp[r5 n hne]))
            · cases g3
          · rename_i n es
            split at g3
            · rename_i blk hM
              split at g3
              · rename_i c hc
                obtain⟨a1,a2⟩:=and_true g3;obtain⟨a3,a4⟩:=and_true a2;obtain⟨a5,a6⟩:=and_true a4;obtain⟨a7,a8⟩:=and_true a6;obtain⟨a9,a10⟩:=and_true a8;have hbn:=ap0 a1;have hbe:blk.e=e:=by simpa using a3
                have hbs:blk.sz=sz:=by simpa using a5
                have hnx:n ∉ (ev F x).refs:=by simpa using a7
                have hbd:=ap0 a9;obtain⟨p1,p2⟩:=Al hc;refine⟨_,_,_,?_,a10⟩;intro G w ρ L a o' ho hb hsim hops hT hnew N Q hn;have hx:=hops x (by simp[Op.operands,Call.operands]);have hs:=hops s (by simp[Op.operands,Call.operands]); rw[es]at hs;obtain⟨hnm,hbase⟩:=hnew M.length (some ⟨e,sz,c⟩) (by simp) (ap1 _);have hL:L n=some blk:=by rw[hT n (by simp),hM]
                have hagree:∀ m,m ∈ (ev F x).refs->L m=aE M m:=λm hm=>hT m (by simp[hm])
                rcases hs.slw_inv with⟨p,hp,hsv⟩ | ⟨hp,hsv⟩
                · obtain⟨cur,c1,c2,c3,c4,c5,c6⟩:=hsim.place hL hp
                  obtain⟨m,cc,ad,news,hv,hm,hnl,hn1,hnr,hcell⟩:=hsrc' G w ρ L _ hsim hagree hx;have hmul:(p.len+m)*sz=c.size:=by rw[aqD,p1,<- hm,<- hbs,c3]
                  have hcount:Blk.count ⟨e,sz,c⟩=p.len+m:=qU (blk:=⟨e,sz,c⟩) hmul hsz0;rw[hcount]at hbd;have hmle:p.len+m<=140737488355328:=ap2 (aqS _ (by omega)) hbd;have hrho:∀(q:Option Place) n',bP ρ M.length q n' ≠ ρ n'->n' ∈ [(n,(none:Option Blk)),(M.length,some ⟨e,sz,c⟩)].map (·.1):=by
                    intro q n' hne;by_cases e':n'=M.length
                    · simp[e']
                    · simp[bP,e']at hne
                  by_cases hm0:m=0
                  · subst hm0
                    have hr:=u6 (P:=cx.P) (w:=w) o'.type ht hi (some ⟨p.b,0,none⟩) p.len p.cap ad cc c4;have hself:w.setRow p.b cur=w:=setRow_self w p.b cur _ _ c1;obtain⟨s1,s2⟩:=hsim.regrow n M.length hnm (by omega) blk p hL hp cur cur c1 c p.len rfl (by rw[hbs]; simpa using hmul) c4 (λj y hy=>by
                      rcases p2 j y hy with⟨_,q2⟩ | ⟨q1,q2⟩
                      · exact c6 j y q2
                      · have:=Body.at_lt q2; rw[<- hm]at this; simp at this)
                    rw[hself]at s1 s2;rw[show({ blk with c:=c }:Blk)=⟨e,sz,c⟩ by rw[<- hbe,<- hbs]]at s1 s2;refine gr (iF ho rfl rfl rfl (by rw[hsv,hv]; exact hr)) (hn _ w _ s1 (.slw M.length ⟨p.b,p.len,p.cap⟩ (by simp[bP])) s2 (hrho _))
                  · obtain⟨b,hab,hcell2⟩:=hcell hm0; clear hcell; subst hab
                    by_cases hroom:p.len+m<=p.cap
                    · have hfit:p.len*i.size+news.length<=cur.size:=by rw[hisz,hnl,<- hm,<- aqD,c2,hbs]; exact ap4 _ hroom
                      rw[hbe]at c1;have hr:=run_append_room (P:=cx.P) w t o'.type e i ht hi p.b p.len p.cap cur c1 b m cc news (by rw[hnl,hisz]; omega) hcell2 hn1 hroom hfit;rw[<- hbe]at c1;have hlen:p.len*i.size+news.length<=cur.toList.length:=by simpa using hfit
                      obtain⟨s1,s2⟩:=hsim.regrow n M.length hnm (by omega) blk p hL hp cur (cur.toList.take (p.len*i.size)++news++cur.toList.drop (p.len*i.size+news.length)).toArray c1 c (p.len+m) (by simp only[aqn,aq5,aqM,arc,Array.length_toList]at hlen ⊢; omega) (by rw[hbs]; exact hmul) hroom (λj y hy=>by
                        have hg:(cur.toList.take (p.len*i.size)++news++cur.toList.drop (p.len*i.size+news.length)).toArray[j]? = if p.len*i.size<=j/\j<p.len*i.size+news.length then news[j - p.len*i.size]? else cur.toList[j]?:=by rw[List.getElem?_toArray]; exact yl _ _ _ _ hlen
                        have hb':p.len*i.size=blk.c.size:=by rw[hisz,<- hbs,c3]
                        rw[hb']at hg ⊢;rcases p2 j y hy with⟨q1,q2⟩ | ⟨q1,q2⟩
                        · obtain⟨u,u1,u2,u3⟩:=c6 j y q2
                          exact⟨u,by rw[hg,if_neg (by omega)]; simpa using u1,u2,u3⟩
                        · have hj:j - blk.c.size<news.length:=by rw[hnl]; exact Body.at_lt q2
                          exact⟨news[j - blk.c.size],by rw[hg,if_pos ⟨q1,by omega⟩,List.getElem?_eq_getElem hj],hn1 _ (aqr hj),hnr _ y _ q2 (by rw[List.getElem?_eq_getElem hj])⟩)
                      rw[show({ blk with c:=c }:Blk)=⟨e,sz,c⟩ by rw[<- hbe,<- hbs]]at s1 s2;exact gr (iF ho rfl rfl rfl (by rw[hsv,hv]; exact hr)) (hn _ _ _ s1 (.slw M.length ⟨p.b,p.len+m,p.cap⟩ (by simp[bP])) s2 (hrho _))
                    · have hfits:blk.c.size<=cur.size:=by rw[<- c3,c2]; exact ap4 _ c4
                      have hcurl:(cur.toList.take blk.c.size).length=blk.c.size:=by simp; omega
                      have holds:∀(j:Nat) u,(cur.toList.take blk.c.size)[j]? = some u->w.cell? ((⟨p.b,0,none⟩:Addr).add j)=some u:=by
                        intro j u hu;rw[eU,aqb];rw[List.getElem?_take]at hu;split at hu
                        · exact cU c1 (by simpa using hu)
                        · cases hu
                      have hr:=run_append_grow (P:=cx.P) w t o'.type e i zv ht hi hzv ⟨p.b,0,none⟩ p.len p.cap (cur.toList.take blk.c.size) (by rw[hcurl,hisz,<- hbs,c3]) holds b m cc news (by rw[hnl,hisz]; omega) hcell2 (by omega) (by omega) (growslice_fits (by omega) (by rw[hiby]; exact hbd));obtain⟨d1,d2⟩:=hsim.drew;obtain⟨e1,e2⟩:=d1.drop n;have hge:=grownCap_ge w (p.len+m) p.cap e;obtain⟨s1,s2⟩:=e1.alloc M.length hnm (by omega) ⟨e,sz,c⟩ ((cur.toList.take blk.c.size).toArray++news.toArray++Builtin.zeroCells zv.cells (grownCap w (p.len+m) p.cap e - (p.len+m))) (p.len+m) (grownCap w (p.len+m) p.cap e)
                        (by
                          simp only[aq_,aqn,size_zeroCells,hzsz,hnl,hcurl];rw[<- p1,<- hmul,<- aqD]; congr 1; omega) hmul hge (grownCap_le_maxLen w (p.len+m) p.cap e (by unfold maxLen; omega)) (by
                          intro j y hy;rcases p2 j y hy with⟨q1,q2⟩ | ⟨q1,q2⟩
                          · obtain⟨u,u1,u2,u3⟩:=c6 j y q2
                            refine⟨u,?_,u2,(u3.mono d2).mono e2⟩;rw[Array.getElem?_append,if_pos (by simp[hcurl]; omega),Array.getElem?_append,if_pos (by simp[hcurl]; omega)];simp[q1]; simpa using u1
                          · have hj:j - blk.c.size<news.length:=by rw[hnl]; exact Body.at_lt q2
                            refine⟨news[j - blk.c.size],?_,hn1 _ (aqr hj),((hnr _ y _ q2 (by rw[List.getElem?_eq_getElem hj])).mono d2).mono e2⟩;rw[Array.getElem?_append,if_pos (by simp only[aq_,aqn,hcurl]; omega),Array.getElem?_append,if_neg (by simp only[aqn,hcurl]; omega)];simp only[aqn,hcurl,List.getElem?_toArray];rw[List.getElem?_eq_getElem hj])
                      exact gr (iF ho rfl rfl rfl (by rw[hsv,hv]; exact hr)) (hn _ _ _ s1 (.slw M.length ⟨w.heap.size,p.len+m,grownCap w (p.len+m) p.cap e⟩ (by simp[bP])) ((d2.trans e2).trans s2) (hrho _))
                · have hsz':=hsim.empty hL hp
                  obtain⟨e1,e2⟩:=hsim.drop n;obtain⟨v,w',ρ',r1,r2,r3,r4,r5⟩:=fresh G w ρ (cp L n none) a o' c M.length ho e1 hnm (by omega) (λm' hm'=>by
                    have hne:m' ≠ n:=λe=>hnx (e ▸ hm')
                    simp only[cp,hne,aqa]; exact hagree m' hm') (hx.mono e2) hsv (by omega) (λj y hy=>by
                    rcases p2 j y hy with⟨q1,_⟩ | ⟨_,q2⟩
                    · omega
                    · simpa [hsz']using q2) hbd
                  exact gr r1 (hn v w' ρ' r2 r3 (e2.trans r4) (λn' hne=>by simp[r5 n' hne]))
              · cases g3
            · cases g3
          · cases g3
        · cases g3
      · cases hh
    · cases hh
  · cases h
end
theorem iN (f:Nat->Option Nat):∀(cs:List V) (i:Nat),(mP f cs)[i]? = (cs[i]?).map (V.ren f)
 | [],i=>by simp[mP]
 | c::r,0=>by simp[mP]
 | c::r,i+1=>by simp[mP,iN f r i]
theorem cY (f:Nat->Option Nat):∀(cs:List V),(mP f cs).length=cs.length
 | []=>rfl
 | c::r=>by simp[mP,cY f r]
theorem k9 {ok:Nat->Prop} {w:World} {ρ ρ':Rho} {f:Nat->Option Nat} (hf:∀ n m q,f n=some m->ρ n=some q->ρ' m=some q) {x:V} {v:Value} (h:Rep ok w ρ x v):Rep ok w ρ' (x.ren f) v:=by
 induction h with
 | any v=>exact .any v
 | nil=>exact .nil
 | bool b=>exact .bool b
 | int k n=>exact .int k n
 | flt x v h=>exact .flt x v h
 | val v=>exact .val v
 | fn g caps vs hl _ ih=>
  refine .fn g _ vs (by rw[cY]; exact hl) λi c u hc hu=>?_
  rw[iN]at hc;obtain⟨c0,h0,rfl⟩:=Option.map_eq_some_iff.1 hc;exact ih i c0 u h0 hu
 | ptr n o p h=>
  simp only[V.ren];cases e:f n with
  | none=>exact .any _
  | some m=>exact .ptr m o p (hf n m _ e h)
 | slw n p h=>
  simp only[V.ren];cases e:f n with
  | none=>exact .any _
  | some m=>exact .slw m p (hf n m _ e h)
 | slv n h=>
  simp only[V.ren];cases e:f n with
  | none=>exact .any _
  | some m=>exact .slv m (hf n m _ e h)
 | sl n o len cap o' p h hl ho=>
  simp only[V.ren];cases e:f n with
  | none=>exact .any _
  | some m=>exact .sl m o len cap o' p (hf n m _ e h) hl ho
 | slvp n o h=>
  simp only[V.ren];cases e:f n with
  | none=>exact .any _
  | some m=>exact .slvp m o (hf n m _ e h)
 | rofn=>exact .rofn
 | rof xs b o cap g h1 h2 h3 h4 h5=>exact .rof xs b o cap g h1 h2 h3 h4 h5
 | roin k=>exact .roin k
 | roi k xs b o cap h1 h2 h3 h4=>exact .roi k xs b o cap h1 h2 h3 h4
 | ron sz=>exact .ron sz
 | ro sz cs b o len cap g h1 h2 h3 h4 h5 h6 _ ih=>
  refine .ro sz _ b o len cap g h1 h2 (by rw[cY]; exact h3) h4 (λi hi=>h5 i (by rwa [cY]at hi)) (λi hi=>h6 i (by rwa [cY]at hi)) λi c hc=>?_
  rw[iN]at hc;obtain⟨c0,h0,rfl⟩:=Option.map_eq_some_iff.1 hc;exact ih i c0 h0
 | pf xs i b o v h1 h2 h3 h4=>exact .pf xs i b o v h1 h2 h3 h4
 | pi k xs i b o h1 h2 h3=>exact .pi k xs i b o h1 h2 h3
 | rp cs i b o g h1 h2 h3 h4 _ ih=>
  refine .rp _ i b o g h1 h2 (λj hj=>h3 j (by rwa [cY]at hj)) (λj hj=>h4 j (by rwa [cY]at hj)) λj c hc=>?_
  rw[iN]at hc;obtain⟨c0,h0,rfl⟩:=Option.map_eq_some_iff.1 hc;exact ih j c0 h0
 | agg cs vs hl h1 _ ih=>
  refine .agg _ vs (by rw[cY]; exact hl) h1 λi c u hc hu=>?_
  rw[iN]at hc;obtain⟨c0,h0,rfl⟩:=Option.map_eq_some_iff.1 hc;exact ih i c0 u h0 hu
 | tup cs vs hl _ ih=>
  refine .tup _ vs (by rw[cY]; exact hl) λi c u hc hu=>?_
  rw[iN]at hc;obtain⟨c0,h0,rfl⟩:=Option.map_eq_some_iff.1 hc;exact ih i c0 u h0 hu
theorem RepL.ren {ok:Nat->Prop} {w:World} {ρ ρ':Rho} {f:Nat->Option Nat} (hf:∀ n m q,f n=some m->ρ n=some q->ρ' m=some q) {cs:List V} {us:List Value} (h:RepL ok w ρ cs us):RepL ok w ρ' (mP f cs) us:=by refine⟨by rw[cY]; exact h.1,λi c u hc hu=>?_⟩;rw[iN]at hc;obtain⟨c0,h0,rfl⟩:=Option.map_eq_some_iff.1 hc;exact k9 hf (h.2 i c0 u h0 hu)
theorem Body.ren_at (f:Nat->Option Nat) (c:Body) (i:Nat):(c.ren f).at i=(c.at i).map (V.ren f):=by
 cases c with
 | flts xs=>simp only[Body.ren,Body.at,Option.map_map]; rfl
 | ints q xs=>simp only[Body.ren,Body.at,Option.map_map]; rfl
 | cells cs=>exact iN f cs i
theorem Body.ren_size (f:Nat->Option Nat) (c:Body):(c.ren f).size=c.size:=by
 cases c with
 | flts xs=>rfl
 | ints q xs=>rfl
 | cells cs=>exact cY f cs
theorem BodyRep.ren {ok:Nat->Prop} {w:World} {ρ ρ':Rho} {f:Nat->Option Nat} (hf:∀ n m q,f n=some m->ρ n=some q->ρ' m=some q) {c:Body} {cur:Array Value} (h:BodyRep ok w ρ c cur):BodyRep ok w ρ' (c.ren f) cur:=by intro i x hx;rw[Body.ren_at]at hx;obtain⟨y,hy,rfl⟩:=Option.map_eq_some_iff.1 hx;obtain⟨v,h1,h2,h3⟩:=h i y hy;exact⟨v,h1,h2,k9 hf h3⟩
theorem kT:∀{cs:List V},vi cs=true -> ∀(i:Nat) c,cs[i]? = some c->c.free=true
 | [],_,i,c,h=>by simp at h
 | x::r,hf,0,c,h=>by simp[vi]at hf h; subst h; exact hf.1
 | x::r,hf,i+1,c,h=>by simp[vi]at hf h; exact kT hf.2 i c h
theorem Dg {ok ok':Nat->Prop} {w w':World} {ρ:Rho} {x:V} {v:Value} (h:Rep ok w ρ x v) (hx:x.free=true):Rep ok' w' ρ x v:=by
 induction h with
 | any v=>simp[V.free]at hx
 | nil=>exact .nil
 | bool b=>exact .bool b
 | int k n=>exact .int k n
 | flt x v h=>exact .flt x v h
 | val v=>exact .val v
 | fn g caps vs hl _ ih=>exact .fn g caps vs hl λi c u hc hu=>ih i c u hc hu (kT (by simpa [V.free]using hx) i c hc)
 | ptr n o p h=>exact .ptr n o p h
 | slw n p h=>exact .slw n p h
 | slv n h=>exact .slv n h
 | sl n o len cap o' p h hl ho=>exact .sl n o len cap o' p h hl ho
 | slvp n o h=>exact .slvp n o h
 | rofn=>simp[V.free]at hx
 | rof xs b o cap g h1 h2 h3 h4 h5=>simp[V.free]at hx
 | roin k=>simp[V.free]at hx
 | roi k xs b o cap h1 h2 h3 h4=>simp[V.free]at hx
 | ron sz=>simp[V.free]at hx
 | ro sz cs b o len cap g h1 h2 h3 h4 h5 h6 _ ih=>simp[V.free]at hx
 | pf xs i b o v h1 h2 h3 h4=>simp[V.free]at hx
 | pi k xs i b o h1 h2 h3=>simp[V.free]at hx
 | rp cs i b o g h1 h2 h3 h4 _ ih=>simp[V.free]at hx
 | agg cs vs hl h1 _ ih=>exact .agg cs vs hl h1 λi c u hc hu=>ih i c u hc hu (kT (by simpa [V.free]using hx) i c hc)
 | tup cs vs hl _ ih=>exact .tup cs vs hl λi c u hc hu=>ih i c u hc hu (kT (by simpa [V.free]using hx) i c hc)
theorem BodyRep.free {ok ok':Nat->Prop} {w w':World} {ρ:Rho} {c:Body} {cur:Array Value} (h:BodyRep ok w ρ c cur) (hx:c.free=true):BodyRep ok' w' ρ c cur:=by
 intro i x hc;obtain⟨v,h1,h2,h3⟩:=h i x hc;refine⟨v,h1,h2,?_⟩;cases c with
 | flts xs=>simp only[Body.at,aqc]at hc; obtain⟨y,_,rfl⟩:=hc; exact .flt _ _ h3.flt_inv
 | ints q xs=>simp only[Body.at,aqc]at hc; obtain⟨y,_,rfl⟩:=hc; obtain rfl:=h3.int_inv; exact .int _ _
 | cells cs=>exact Dg h3 (kT (by simpa [Body.free]using hx) i x hc)
theorem k7 {α β:Type} {f:α->Option β}:∀{l:List α} {r:List β},l.mapM f=some r->l.length=r.length /\ ∀(i:Nat) b,r[i]? = some b -> ∃ a,l[i]? = some a/\f a=some b
 | [],r,h=>by simp at h; subst h; simp
 | a::l,r,h=>by
  simp only[List.mapM_cons,Option.bind_eq_bind,Option.pure_def]at h;cases ha:f a with
  | none=>simp[ha]at h
  | some b=>
   cases hl:l.mapM f with
   | none=>simp[ha,hl]at h
   | some r'=>
    simp[ha,hl]at h;subst h;obtain⟨h1,h2⟩:=k7 hl;refine⟨by simp[h1],λi c hc=>?_⟩;cases i with
    | zero=>simp at hc; subst hc; exact⟨a,rfl,ha⟩
    | succ i=>exact h2 i c (by simpa using hc)
def okL (ok:Nat->Prop) (ρ:Rho) (L:LK) (B:List Nat) (b:Nat):Prop:=ok b \/ ∃ n p blk,n ∈ B/\L n=some blk/\ρ n=some (some p)/\p.b=b
theorem ux {ok:Nat->Prop} {w:World} {ρ:Rho} {L:LK} (B:List Nat):Keeps ok w ρ (okL ok ρ L B) w ρ:=⟨λ_ _ h=>h,λ_ _ h=>⟨.inl h,rfl⟩,ap1 _⟩
theorem dV {α β:Type} {f:α->List β} {l:List α} {a:α} {b:β} (ha:a ∈ l) (hb:b ∈ f a):b ∈ (l.map f).flatten:=
 List.mem_flatten.2 ⟨f a,List.mem_map.2 ⟨a,ha,rfl⟩,hb⟩
theorem pP {G:Gh} {w:World} {ρ:Rho} {L:LK} {M:bh} (hs:SimW G w ρ L) (B:List Nat) (hB:∀ n,n ∈ B->L n=aE M n) :
  ∀(d:Nat) (x y:V) (v:Value),rD M d x=some y->(∀ n,n ∈ pQ M d x->n ∈ B)->Rep (okc G ρ L) w ρ x v->Rep (okL (okc G ρ L) ρ L B) w ρ y v:=by
 intro d;induction d with
 | zero=>intro x y v h; simp[rD]at h
 | succ d ih=>
  have cells:∀(n o m cap s:Nat) (p:Place) (cur:Array Value) (blk:Blk) (cs cs':List V),n ∈ B->L n=some blk->ρ n=some (some p)->w.heap[p.b]? = some (.cells cur blk.e (0,0))->BodyRep (okc G ρ L) w ρ blk.c cur ->
    cs.mapM (rD M d)=some cs'->(∀ z,z ∈ cs -> ∀ n,n ∈ pQ M d z->n ∈ B)->(∀ i,i<cs.length->blk.c.at (o+i)=cs[i]?)->m*s=cs.length->m<=cap->Rep (okL (okc G ρ L) ρ L B) w ρ (.ro s cs') (.slice (some ⟨p.b,o,none⟩) m cap):=by
   intro n o m cap s p cur blk cs cs' hn hLn hp hc hb hm hl hat hms hcap;obtain⟨m1,m2⟩:=k7 hm;have hlt:p.b<w.heap.size:=(Array.getElem?_eq_some_iff.1 hc).1;have hf:∀ i,∃ u:Value,i<cs.length->(w.cell? ⟨p.b,o+i,none⟩=some u/\u.oneCell'=true /\ ∀ z,cs[i]? = some z->Rep (okc G ρ L) w ρ z u):=by
    intro i;by_cases hi:i<cs.length
    ·obtain⟨u,u1,u2,u3⟩:=hb (o+i) cs[i] (by rw[hat i hi]; simp[hi]);exact⟨u,λ_=>⟨cU hc u1,u2,λz hz=>by simp[hi]at hz; subst hz; exact u3⟩⟩
    ·exact⟨.bool false,λh=>absurd h hi⟩
   obtain⟨g,hg⟩:=Classical.skolem.1 hf;refine .ro s cs' p.b o m cap g (.inr ⟨n,p,blk,hn,hLn,hp,rfl⟩) hlt (by rw[hms,m1]) hcap (λi hi=>(hg i (by omega)).1) (λi hi=>(hg i (by omega)).2.1) λi c hc=>?_
   obtain⟨a,ha,hla⟩:=m2 i c hc;have hi:i<cs.length:=(List.getElem?_eq_some_iff.1 ha).1;exact ih a c _ hla (hl a (List.mem_of_getElem? ha)) ((hg i hi).2.2 a ha)
  have fls:∀(n o m cap:Nat) (p:Place) (cur:Array Value) (blk:Blk) (xs:List Fl),n ∈ B->L n=some blk->ρ n=some (some p)->w.heap[p.b]? = some (.cells cur blk.e (0,0))->BodyRep (okc G ρ L) w ρ blk.c cur ->
    (∀ i,i<xs.length->blk.c.at (o+i)=(xs[i]?).map .flt)->m=xs.length->m<=cap->Rep (okL (okc G ρ L) ρ L B) w ρ (.rof xs) (.slice (some ⟨p.b,o,none⟩) m cap):=by
   intro n o m cap p cur blk xs hn hLn hp hc hb hat hms hcap;have hlt:p.b<w.heap.size:=(Array.getElem?_eq_some_iff.1 hc).1;have hf:∀ i,∃ u:Value,i<xs.length->(w.cell? ⟨p.b,o+i,none⟩=some u /\ ∀ z,xs[i]? = some z->FRep z u):=by
    intro i;by_cases hi:i<xs.length
    ·obtain⟨u,u1,u2,u3⟩:=hb (o+i) (.flt xs[i]) (by rw[hat i hi]; simp[hi]);exact⟨u,λ_=>⟨cU hc u1,λz hz=>by simp[hi]at hz; subst hz; exact u3.flt_inv⟩⟩
    ·exact⟨.bool false,λh=>absurd h hi⟩
   obtain⟨g,hg⟩:=Classical.skolem.1 hf;subst hms;exact .rof xs p.b o cap g (.inr ⟨n,p,blk,hn,hLn,hp,rfl⟩) hlt hcap (λi hi=>(hg i hi).1) (λi x hx=>(hg i (List.getElem?_eq_some_iff.1 hx).1).2 x hx)
  have ins:∀(n o m cap:Nat) (p:Place) (cur:Array Value) (blk:Blk) (q:IntKind) (xs:List Int),n ∈ B->L n=some blk->ρ n=some (some p)->w.heap[p.b]? = some (.cells cur blk.e (0,0))->BodyRep (okc G ρ L) w ρ blk.c cur ->
    (∀ i,i<xs.length->blk.c.at (o+i)=(xs[i]?).map (.int q))->m=xs.length->m<=cap->Rep (okL (okc G ρ L) ρ L B) w ρ (.roi q xs) (.slice (some ⟨p.b,o,none⟩) m cap):=by
   intro n o m cap p cur blk q xs hn hLn hp hc hb hat hms hcap;have hlt:p.b<w.heap.size:=(Array.getElem?_eq_some_iff.1 hc).1;subst hms;refine .roi q xs p.b o cap (.inr ⟨n,p,blk,hn,hLn,hp,rfl⟩) hlt hcap λi x hx=>?_
   have hi:=(List.getElem?_eq_some_iff.1 hx).1;obtain⟨u,u1,u2,u3⟩:=hb (o+i) (.int q x) (by rw[hat i hi,hx]; rfl);obtain rfl:=u3.int_inv;exact cU hc u1
  intro x y v h hl hx;cases x <;> simp only[rD,pQ]at h hl
  case slw n=>
   cases hM:aE M n with
   | none=>simp[hM]at h
   | some blk=>
    obtain⟨e,s,c⟩:=blk;simp only[hM]at h hl;have hnB:n ∈ B:=by cases c <;> exact hl n (by simp)
    have hL:L n=some ⟨e,s,c⟩:=by rw[hB n hnB,hM]
    rcases hx.slw_inv with⟨p,hp,rfl⟩ | ⟨hp,rfl⟩
    ·obtain⟨cur,c1,c2,c3,c4,c5,c6⟩:=hs.place hL hp;cases c with
     | flts xs=>
      simp only at h hl;obtain⟨e1,e2⟩:=cR h;obtain rfl:s=1:=by simpa using e1
      cases e2;exact fls n 0 p.len p.cap p cur _ xs hnB hL hp c1 c6 (λi hi=>by simp[Body.at]) (by simpa [Body.size]using c3) c4
     | ints q xs=>
      simp only at h hl;obtain⟨e1,e2⟩:=cR h;obtain rfl:s=1:=by simpa using e1
      cases e2;exact ins n 0 p.len p.cap p cur _ q xs hnB hL hp c1 c6 (λi hi=>by simp[Body.at]) (by simpa [Body.size]using c3) c4
     | cells cs=>
      simp only at h hl;obtain⟨cs',h1,rfl⟩:=Option.map_eq_some_iff.1 h;exact cells n 0 p.len p.cap s p cur _ cs cs' hnB hL hp c1 c6 h1 (λz hz m hm=>hl m (aq0 _ (dV hz hm))) (λi hi=>by simp[Body.at]) (by simpa [Body.size]using c3) c4
    ·have h0:=hs.empty hL hp;cases c with
     | flts xs=>
      simp only at h;obtain⟨e1,e2⟩:=cR h;obtain rfl:xs=[]:=ap9 h0;cases e2; exact .rofn
     | ints q xs=>
      simp only at h;obtain⟨e1,e2⟩:=cR h;obtain rfl:xs=[]:=ap9 h0;cases e2; exact .roin _
     | cells cs=>
      simp only at h;obtain rfl:cs=[]:=ap9 h0;simp at h; subst h; exact .ron _
  case sl n o len=>
   cases hM:aE M n with
   | none=>simp[hM]at h
   | some blk=>
    simp only[hM]at h hl;cases hcut:blk.c.cut o (dO len blk.sz)with
    | none=>simp[hcut]at h
    | some c=>
     simp only[hcut]at h hl;have hnB:n ∈ B:=by cases c <;> exact hl n (by simp)
     have hL:L n=some blk:=by rw[hB n hnB,hM]
     obtain⟨k1,k2,k3⟩:=Body.cut_sound hcut;rw[dL]at k1 k2 k3;rcases hx.sl_inv with⟨p,cap,o',hp,hcap,ho',rfl⟩ | ⟨hp,rfl,rfl⟩
     ·obtain⟨cur,c1,c2,c3,c4,c5,c6⟩:=hs.place hL hp;have hoff:∀ i,i<c.size->c.at i=blk.c.at (o'+i):=by
       intro i hi;rcases ho' with rfl | rfl
       ·exact k3 i (by omega)
       ·simp at k1; omega
      cases c with
      | flts xs=>
       simp only at h;obtain⟨e1,e2⟩:=cR h;have hs1:blk.sz=1:=by simpa using e1
       cases e2;exact fls n o' len cap p cur blk xs hnB hL hp c1 c6 (λi hi=>by rw[<- hoff i hi]; rfl) (by simpa [Body.size,hs1]using k1.symm) hcap
      | ints q xs=>
       simp only at h;obtain⟨e1,e2⟩:=cR h;have hs1:blk.sz=1:=by simpa using e1
       cases e2;exact ins n o' len cap p cur blk q xs hnB hL hp c1 c6 (λi hi=>by rw[<- hoff i hi]; rfl) (by simpa [Body.size,hs1]using k1.symm) hcap
      | cells cs=>
       simp only at h;obtain⟨cs',h1,rfl⟩:=Option.map_eq_some_iff.1 h;exact cells n o' len cap blk.sz p cur blk cs cs' hnB hL hp c1 c6 h1 (λz hz m hm=>hl m (aq0 _ (dV hz hm))) (λi hi=>by rw[<- hoff i hi]; rfl) (by simpa [Body.size]using k1.symm) hcap
     ·simp at k1;cases c with
      | flts xs=>
       simp only at h;obtain⟨e1,e2⟩:=cR h;obtain rfl:xs=[]:=ap9 k1;cases e2; exact .rofn
      | ints q xs=>
       simp only at h;obtain⟨e1,e2⟩:=cR h;obtain rfl:xs=[]:=ap9 k1;cases e2; exact .roin _
      | cells cs=>
       simp only at h;obtain rfl:cs=[]:=ap9 k1;simp at h; subst h; exact .ron _
  case agg cs=>
   obtain⟨cs',h1,rfl⟩:=Option.map_eq_some_iff.1 h;obtain⟨us,rfl,hul,hone,hrep⟩:=hx.agg_inv;obtain⟨m1,m2⟩:=k7 h1;refine .agg cs' us (by omega) hone λi c u hc hu=>?_
   obtain⟨a,ha,hla⟩:=m2 i c hc;exact ih a c u hla (λm hm=>hl m (dV (List.mem_of_getElem? ha) hm)) (hrep i a u ha hu)
  all_goals (cases h; exact hx.mono (ux B))
theorem vq {P:Program} {ok:Nat->Prop} {w:World} {ρ:Rho} (t:Nat) {x:V} {v:Value} (h:Rep ok w ρ x v):Rep ok w ρ (KR P t x) v:=by
 unfold KR;split
 ·obtain rfl:=h.nil_inv;split
  ·split <;> first | exact .rofn | exact .roin _ | exact .ron _
  ·exact .nil
 ·exact h
theorem iB (P:Program):∀(ts:List Nat) (cs:List V),(iq P ts cs).length=cs.length
 | [],cs=>by simp[iq]
 | t::ts,[]=>by simp[iq]
 | t::ts,c::cs=>by simp[iq,iB P ts cs]
theorem pV {P:Program} {ok:Nat->Prop} {w:World} {ρ:Rho}:∀(ts:List Nat) (cs:List V) (us:List Value),RepL ok w ρ cs us->RepL ok w ρ (iq P ts cs) us
 | [],cs,us,h=>by simpa [iq]using h
 | t::ts,[],us,h=>by simpa [iq]using h
 | t::ts,c::cs,us,h=>by
  refine⟨by rw[iB]; exact h.1,λi x u hx hu=>?_⟩;cases us with
  | nil=>simp at hu
  | cons u0 us=>
   have ih:=pV (P:=P) ts cs us ⟨by have:=h.1; simp at this; exact this,λi c u hc hu=>h.2 (i+1) c u (by simpa using hc) (by simpa using hu)⟩;cases i with
   | zero=>simp[iq]at hx hu; subst hx; subst hu; exact vq t (h.2 0 c u0 (by simp) (by simp))
   | succ i=>exact ih.2 i x u (by simpa [iq]using hx) (by simpa using hu)
theorem rI {P:Program} {ok:Nat->Prop} {w:World} {ρ:Rho} (t:Nat) {x:V} {v:Value} (h:Rep ok w ρ x v):Rep ok w ρ (BZ P t x) v:=by
 unfold BZ;split
 ·obtain⟨us,rfl,hl,h1,hr⟩:=h.agg_inv;have:=pV (P:=P) (kinds P 4 t) _ us ⟨hl,hr⟩;exact .agg _ us this.1 h1 this.2
 ·exact vq t h
theorem nz (P:Program):∀(ts:List Nat) (cs:List V),(fD P ts cs).length=cs.length
 | [],cs=>by simp[fD]
 | t::ts,[]=>by simp[fD]
 | t::ts,c::cs=>by simp[fD,nz P ts cs]
theorem nA {P:Program} {ok:Nat->Prop} {w:World} {ρ:Rho}:∀(ts:List Nat) (cs:List V) (us:List Value),RepL ok w ρ cs us->RepL ok w ρ (fD P ts cs) us
 | [],cs,us,h=>by simpa [fD]using h
 | t::ts,[],us,h=>by simpa [fD]using h
 | t::ts,c::cs,us,h=>by
  refine⟨by rw[nz]; exact h.1,λi x u hx hu=>?_⟩;cases us with
  | nil=>simp at hu
  | cons u0 us=>
   have ih:=nA (P:=P) ts cs us ⟨by have:=h.1; simp at this; exact this,λi c u hc hu=>h.2 (i+1) c u (by simpa using hc) (by simpa using hu)⟩;cases i with
   | zero=>simp[fD]at hx hu; subst hx; subst hu; exact rI t (h.2 0 c u0 (by simp) (by simp))
   | succ i=>exact ih.2 i x u (by simpa [fD]using hx) (by simpa using hu)
def Qu (P:Program) (f:FuncId) (args:Array Value) (w:World) (R:Value->World->Prop):Prop:=
 ∀(o:Oper) (a:Act) (N:Act->World->Prop) (Q:Exit->Act->World->Prop),(∀ v w',R v w'->N (a.put o.dst v) w')->o.upon P a N Q ((callFunc f args).run P w)
def gh (w:World) (n:Nat) (ok:Nat->Prop):Gh:=⟨w.heap.size,n,w,ok⟩
def eX (H:List Blk):LK:=aE (H.map some)
def Ok (P:Program) (f:FuncId) (args:List V) (H:List Blk) (r:V) (H':List Blk):Prop:=
 ∀(w:World) (ρ:Rho) (ok:Nat->Prop) (vs:List Value),SimW (gh w H.length ok) w ρ (eX H)->(∀ n,H.length<=n->ρ n=none)->RepL (okc (gh w H.length ok) ρ (eX H)) w ρ args vs ->
  Qu P f vs.toArray w λv w'=>∃ ρ',(∀ n,n<H.length->ρ' n=ρ n)/\(∀ n,H'.length<=n->ρ' n=none)/\SimW (gh w H.length ok) w' ρ' (eX H')/\Rep (okc (gh w H.length ok) ρ' (eX H')) w' ρ' r v
def ek (P:Program) (O:Er):Prop:=∀ f args H k,O f args H k=true -> ∃ r H',Ok P f args H r H'/\k r H'=true
theorem mf:∀{L:List Nat},kI L=true -> ∀(i j:Nat) n,L[i]? = some n->L[j]? = some n->i=j
 | [],_,i,j,n,hi,_=>by simp at hi
 | x::r,h,i,j,n,hi,hj=>by
  simp only[kI,aqj,ara,List.contains_eq_mem,aqA]at h;cases i with
  | zero=>
   cases j with
   | zero=>rfl
   | succ j=>
    simp at hi hj; subst hi;exact absurd (List.mem_of_getElem? hj) h.1
  | succ i=>
   cases j with
   | zero=>
    simp at hi hj; subst hj;exact absurd (List.mem_of_getElem? hi) h.1
   | succ j=>simp at hi hj; rw[mf h.2 i j n hi hj]
theorem xp {L:List Nat} {n i:Nat} (h:ji L n=some i):L[i]? = some n:=by unfold ji at h;rw[List.idxOf?_eq_some_iff]at h;obtain⟨hi,h1,_⟩:=h;simp[hi]; simpa using h1
theorem BQ {M:bh} {n:Nat} {b:Blk} (h:aE M n=some b):n<M.length:=by
 unfold aE at h;split at h
 ·rename_i e; exact(List.getElem?_eq_some_iff.1 e).1
 ·cases h
theorem kZ {H:List Blk} {i:Nat} {b:Blk}:eX H i=some b↔H[i]? = some b:=by unfold eX aE;simp only[List.getElem?_map];cases H[i]? <;> simp
theorem iR:∀(U:Upd) (L:LK) (n:Nat),n ∉ U.map (·.1)->dc L U n=L n
 | [],_,_,_=>rfl
 | (m,b)::r,L,n,h=>by simp only[aqk,aq1,not_or]at h;rw[dc,iR r _ n h.2];simp[cp,h.1]
theorem sd:∀(U U':Upd) (L:LK),dc L (U++U')=dc (dc L U) U'
 | [],_,_=>rfl
 | (m,b)::r,U',L=>by rw[ard,dc,dc,sd r]
theorem qk:∀(L:List Nat) (H:List Blk),L.length<=H.length->(nT L H).map (·.1)=L
 | [],_,_=>by simp[nT]
 | n::r,[],h=>by simp at h
 | n::r,b::H,h=>by simp[nT,qk r H (by simpa using h)]
theorem yv:∀(L:List Nat) (H:List Blk) (LK0:LK),kI L=true->L.length<=H.length -> ∀(i:Nat) n,L[i]? = some n->dc LK0 (nT L H) n=H[i]?
 | [],_,_,_,_,i,n,h=>by simp at h
 | x::r,[],_,_,h,_,_,_=>by simp at h
 | x::r,b::H,LK0,hn,hl,i,n,h=>by
  have hn':=hn;simp only[kI,aqj,ara,List.contains_eq_mem,aqA]at hn;simp only[nT,dc];cases i with
  | zero=>
   simp at h; subst h;rw[iR _ _ _ (by rw[qk r H (by simpa using hl)]; exact hn.1)];simp[cp]
  | succ i=>
   rw[yv r H _ hn.2 (by simpa using hl) i n (by simpa using h)];simp
theorem my:∀(nm:Nat) (H:List Blk) (n:Nat),n ∈ (mw nm H).map (·.1)↔nm<=n/\n<nm+H.length
 | nm,[],n=>by simp only[mw,List.map_nil,List.not_mem_nil,aq2,false_iff]; omega
 | nm,b::H,n=>by simp only[mw,aqk,aq1,my (nm+1) H n,aqq];omega
theorem yu:∀(H:List Blk) (nm:Nat) (LK0:LK) (j:Nat),j<H.length->dc LK0 (mw nm H) (nm+j)=H[j]?
 | [],nm,LK0,j,h=>by simp at h
 | b::H,nm,LK0,0,_=>by
  simp only[mw,dc,aqy];rw[iR _ _ _ (by rw[my]; omega)];simp[cp]
 | b::H,nm,LK0,j+1,h=>by simp only[mw,dc];rw[show nm+(j+1)=nm+1+j from by omega,yu H (nm+1) _ j (by simpa using h)];simp
def ka (L:List Nat) (ρ:Rho):Rho:=λi=>match L[i]? with
 | some n=>ρ n
 | none=>none
def gc (nm cnt len:Nat) (ρ ρ':Rho):Rho:=λn=>if nm<=n/\n<nm+cnt then ρ' (len+(n - nm))else ρ n
theorem vd {cx:Cx} (hO:ek cx.P cx.O) {base:Nat} {M:bh} {g:Nat} {vs:List V} {k:KOp} (h:Kv cx M g vs k=true) :
  ∃ x U T,k x U T=true /\ ∀(G:Gh) (w:World) (ρ:Rho) (L:LK) (us:List Value),G.base=base->base<=M.length->SimW G w ρ L->RepL (okc G ρ L) w ρ vs us->(∀ n,n ∈ T->L n=aE M n)->(∀ n b,(n,b) ∈ U->M.length<=n->ρ n=none/\base<=n) ->
   Qu cx.P g us.toArray w λv w'=>∃ ρ',SimW G w' ρ' (dc L U)/\Rep (okc G ρ' (dc L U)) w' ρ' x v/\Keeps (okc G ρ L) w ρ (okc G ρ' (dc L U)) w' ρ'/\(∀ n,ρ' n ≠ ρ n->n ∈ U.map (·.1)):=by
 unfold Kv at h;split at h
 ·cases h
 ·rename_i fn hfn;split at h
  ·cases h
  ·rename_i vs1 hvs1;simp only at h;generalize hB:cond (cx.ref g) [] ((vs.map (pQ M 4)).flatten)=B at h;generalize hvs2:fD cx.P fn.params.toList vs1=vs2 at h;generalize hLL:KW M 3 (Ky (kq vs2))=LL at h;split at h
   ·cases h
   ·rename_i bs hbs;obtain⟨hnd,h1⟩:=and_true h;obtain⟨hdis,h2⟩:=and_true h1;obtain⟨r,H,hok,h3⟩:=hO _ _ _ _ h2;obtain⟨h4,h5⟩:=and_true h3;obtain⟨h6,h7⟩:=and_true h5;clear h h1 h2 h3 h5;have hlen:LL.length<=H.length:=ap0 h4;have hdis':∀ n,n ∈ B->n ∉ LL:=by intro n hn;have:=List.all_eq_true.1 hdis n hn;simpa using this
    obtain⟨hbl,hbg⟩:=k7 hbs;refine⟨_,_,_,h7,?_⟩;intro G w ρ L us hbase hbM hsim hargs hagree hnew;have hLL':∀(i:Nat) n,LL[i]? = some n -> ∃ b,bs[i]? = some b/\L n=some b/\aE M n=some b:=by
     intro i n hi;have hlt:i<bs.length:=by rw[<- hbl]; exact(List.getElem?_eq_some_iff.1 hi).1
     obtain⟨n',h1,h2⟩:=hbg i bs[i] (by simp[hlt]);rw[hi]at h1; cases h1;exact⟨bs[i],by simp[hlt],by rw[hagree n (by simp[List.mem_of_getElem? hi]),h2],h2⟩
    have hvs2r:RepL (okL (okc G ρ L) ρ L B) w ρ vs2 us:=by
     rw[<- hvs2];refine nA _ _ _ ?_;cases hr:cx.ref g with
     | true=>
      simp only[hr,ap8,ap5]at hvs1;rw[<- hvs1]; exact hargs.mono (ux B)
     | false=>
      simp only[hr,ap_]at hvs1 hB;obtain⟨m1,m2⟩:=k7 hvs1;refine⟨by rw[<- m1]; exact hargs.1,λi c u hc hu=>?_⟩;obtain⟨a,ha,hla⟩:=m2 i c hc;exact pP hsim B (λn hn=>hagree n (by simp[hn])) 4 a c u hla (λn hn=>by rw[<- hB]; exact dV (List.mem_of_getElem? ha) hn) (hargs.2 i a u ha hu)
    have hin:∀ n m q,ji LL n=some m->ρ n=some q->ka LL ρ m=some q:=by intro n m q hm hq;simp[ka,xp hm,hq]
    have hliveIn:∀ i b,eX (bs.map (Blk.ren (ji LL))) i=some b -> ∃ n b0,LL[i]? = some n/\L n=some b0/\bs[i]? = some b0/\b=b0.ren (ji LL):=by
     intro i b hb;rw[kZ,List.getElem?_map]at hb;obtain⟨b0,hb0,rfl⟩:=Option.map_eq_some_iff.1 hb;have hi:i<LL.length:=by rw[hbl]; exact(List.getElem?_eq_some_iff.1 hb0).1
     obtain⟨b1,g1,g2,g3⟩:=hLL' i LL[i] (by simp[hi]);rw[hb0]at g1; cases g1;exact⟨LL[i],b0,by simp[hi],g2,hb0,rfl⟩
    have hlenIn:(bs.map (Blk.ren (ji LL))).length=LL.length:=by simp[hbl]
    have hplace:∀ i n p,LL[i]? = some n->(ka LL ρ i=some (some p)↔ρ n=some (some p)):=by intro i n p hi; simp[ka,hi]
    have hokin:∀ b,okL (okc G ρ L) ρ L B b->okc (gh w LL.length (okL (okc G ρ L) ρ L B)) (ka LL ρ) (eX (bs.map (Blk.ren (ji LL)))) b:=by
     intro b hb;refine⟨.inl hb,λi bl p hi hp=>?_⟩;obtain⟨n,b0,e1,e2,e3,_⟩:=hliveIn i bl hi;have hp':=(hplace i n p e1).1 hp;rcases hb with hb | ⟨m,q,bm,hm,hlm,hq,rfl⟩
     ·exact hb.2 n b0 p e2 hp'
     ·intro he;have:=hsim.inj n m b0 bm p q e2 hlm hp' hq he;subst this;exact hdis' n hm (List.mem_of_getElem? e1)
    have hkin:Keeps (okL (okc G ρ L) ρ L B) w ρ (okc (gh w LL.length (okL (okc G ρ L) ρ L B)) (ka LL ρ) (eX (bs.map (Blk.ren (ji LL))))) w ρ:=
     ⟨λ_ _ h=>h,λb _ hb=>⟨hokin b hb,rfl⟩,ap1 _⟩
    have hsimIn:SimW (gh w (bs.map (Blk.ren (ji LL))).length (okL (okc G ρ L) ρ L B)) w (ka LL ρ) (eX (bs.map (Blk.ren (ji LL)))):=by
     rw[hlenIn];refine⟨?_,?_,?_,ap1 _,rfl,rfl,rfl,λ_ _ _=>rfl,λb zs e=>⟨.inl ⟨.inl (hsim.tab b zs e).1,λn bl p _ hp he=>hsim.apart hp e he.symm⟩,(hsim.tab b zs e).2⟩,?_⟩
     ·intro i bl hi;obtain⟨n,b0,e1,e2,e3,rfl⟩:=hliveIn i bl hi;obtain⟨q,hq,hb⟩:=hsim.blks n b0 e2;refine⟨q,by simp[ka,e1,hq],?_⟩;cases q with
      | none=>show(b0.c.ren _).size=0; rw[Body.ren_size]; exact hb
      | some p=>
       obtain⟨cur,c1,c2,c3,c4,c5,c6⟩:=hb;exact⟨cur,c1,c2,by show _=(b0.c.ren _).size; rw[Body.ren_size]; exact c3,c4,c5,BodyRep.ren hin ((c6.mono (ux B)).mono hkin)⟩
     ·intro i j bi bj p q hi hj hp hq e;obtain⟨n,b0,e1,e2,_,_⟩:=hliveIn i bi hi;obtain⟨m,b1,e3,e4,_,_⟩:=hliveIn j bj hj;have:=hsim.inj n m b0 b1 p q e2 e4 ((hplace i n p e1).1 hp) ((hplace j m q e3).1 hq) e;subst this;exact mf hnd i j n e1 e3
     ·intro i p hi hp;have hi:LL.length<=i:=hi;simp[ka,hi]at hp
     ·intro i p hp;unfold ka at hp;split at hp
      ·rename_i n hn;exact hsim.high n p hp
      ·cases hp
    have hargsIn:RepL (okc (gh w (bs.map (Blk.ren (ji LL))).length (okL (okc G ρ L) ρ L B)) (ka LL ρ) (eX (bs.map (Blk.ren (ji LL))))) w (ka LL ρ) (mP (ji LL) vs2) us:=by rw[hlenIn]; exact(hvs2r.mono hkin).ren hin
    have hcall:=hok w (ka LL ρ) (okL (okc G ρ L) ρ L B) us hsimIn (λn hn=>by rw[hlenIn]at hn; simp[ka,hn]) hargsIn;intro o a N Q hN;refine hcall o a N Q λv w' hR=>hN v w' ?_
    obtain⟨ρ',hρ1,hρ2,hsim',hrep'⟩:=hR;rw[hlenIn]at hρ1 hsim' hrep';generalize hf2:(λi=>cond (decide (i<LL.length)) (LL[i]?) (some (M.length+(i - LL.length))))=f2 at h6 hnew ⊢;have hf2lt:∀ i,i<LL.length->f2 i=LL[i]?:=λi hi=>by rw[<- hf2]; simp[hi]
    have hf2ge:∀ i,LL.length<=i->f2 i=some (M.length+(i - LL.length)):=λi hi=>by rw[<- hf2]; simp[show ¬ i<LL.length by omega]
    generalize hU:nT LL ((H.map (Blk.ren f2)).take LL.length)++mw M.length ((H.map (Blk.ren f2)).drop LL.length)=U at hnew ⊢;have htake:LL.length<=((H.map (Blk.ren f2)).take LL.length).length:=by simp; omega
    have hdl:((H.map (Blk.ren f2)).drop LL.length).length=H.length - LL.length:=by simp
    have hmemU:∀ n,n ∈ U.map (·.1)↔n ∈ LL\/(M.length<=n/\n<M.length+(H.length - LL.length)):=by intro n;rw[<- hU,List.map_append,List.mem_append,qk _ _ htake,my,hdl]
    have hLLlt:∀ n,n ∈ LL->n<M.length:=by intro n hn;obtain⟨i,hi,rfl⟩:=aqo hn;obtain⟨b,_,_,hb⟩:=hLL' i LL[i] (by simp[hi]);exact BQ hb
    have hnone:∀ n,M.length<=n->n<M.length+(H.length - LL.length)->ρ n=none:=by intro n h1 h2;have hm:n ∈ U.map (·.1):=(hmemU n).2 (.inr ⟨h1,h2⟩);obtain⟨⟨m,b⟩,hmb,hme⟩:=List.mem_map.1 hm;subst hme;exact(hnew m b hmb h1).1
    have hout:∀ n,¬(M.length<=n/\n<M.length+(H.length - LL.length))->gc M.length (H.length - LL.length) LL.length ρ ρ' n=ρ n:=λn hn=>if_neg hn
    have houtN:∀ j,j<H.length - LL.length->gc M.length (H.length - LL.length) LL.length ρ ρ' (M.length+j)=ρ' (LL.length+j):=by intro j hj;unfold gc;rw[if_pos (by omega),show M.length+j - M.length=j from by omega]
    have hρin:∀(i:Nat) n,LL[i]? = some n->ρ' i=ρ n:=by intro i n hi;have hlt:=(List.getElem?_eq_some_iff.1 hi).1;rw[hρ1 i hlt];simp[ka,hi]
    have hff:∀ i m q,f2 i=some m->ρ' i=some q->gc M.length (H.length - LL.length) LL.length ρ ρ' m=some q:=by
     intro i m q hm hq;by_cases hi:i<LL.length
     ·rw[hf2lt i hi]at hm;rw[hout m (by have:=hLLlt m (List.mem_of_getElem? hm); omega),<- hρin i m hm,hq]
     ·rw[hf2ge i (by omega)]at hm;cases hm;have hiH:i<H.length:=by
       rcases aqQ i H.length with h | h
       ·exact h
       ·rw[hρ2 i h]at hq; cases hq
      rw[houtN _ (by omega),show LL.length+(i - LL.length)=i from by omega,hq]
    have hmono:∀ n q,ρ n=some q->gc M.length (H.length - LL.length) LL.length ρ ρ' n=some q:=by intro n q hq;rw[hout n (λh=>by rw[hnone n h.1 h.2]at hq; cases hq),hq]
    have hcls:∀ n bl,dc L U n=some bl->(∃ i b0,eX H i=some b0/\f2 i=some n/\bl=b0.ren f2/\gc M.length (H.length - LL.length) LL.length ρ ρ' n=ρ' i) \/
      (n ∉ LL/\¬(M.length<=n/\n<M.length+(H.length - LL.length))/\L n=some bl/\gc M.length (H.length - LL.length) LL.length ρ ρ' n=ρ n):=by
     intro n bl hn;by_cases h1:M.length<=n/\n<M.length+(H.length - LL.length)
     ·left;obtain⟨j,rfl⟩:∃ j,n=M.length+j:=⟨n - M.length,by omega⟩
      have hj:j<H.length - LL.length:=by omega
      rw[<- hU,sd,yu _ _ _ _ (by rw[hdl]; exact hj),List.getElem?_drop,List.getElem?_map]at hn;obtain⟨b0,hb0,rfl⟩:=Option.map_eq_some_iff.1 hn;exact⟨LL.length+j,b0,kZ.2 hb0,by rw[hf2ge _ (by omega)]; congr 1; omega,rfl,houtN j hj⟩
     ·by_cases h2:n ∈ LL
      ·left;obtain⟨i,hi,rfl⟩:=aqo h2;have hii:LL[i]? = some LL[i]:=by simp[hi]
       rw[<- hU,sd,iR _ _ _ (by rw[my,hdl]; exact h1),yv _ _ _ hnd htake i _ hii,List.getElem?_take,if_pos hi,List.getElem?_map]at hn;obtain⟨b0,hb0,rfl⟩:=Option.map_eq_some_iff.1 hn;exact⟨i,b0,kZ.2 hb0,by rw[hf2lt i hi,hii],rfl,by rw[hout _ h1,hρin i _ hii]⟩
      ·right;rw[iR _ _ _ (λhm=>by rcases (hmemU n).1 hm with h | h; exact h2 h; exact h1 h)]at hn;exact⟨h2,h1,hn,hout n h1⟩
    have hplaceLL:∀(i:Nat) p,i<LL.length->ρ' i=some (some p) -> ∃ b,L LL[i]! = some b/\ρ LL[i]! = some (some p)/\LL[i]? = some LL[i]!:=by
     intro i p hi hp;have hii:LL[i]? = some LL[i]:=by simp[hi]
     obtain⟨b,_,hb,_⟩:=hLL' i LL[i] hii;have e:LL[i]! = LL[i]:=by simp[hi]
     rw[e];exact⟨b,hb,by rw[<- hρin i _ hii]; exact hp,hii⟩
    have hnotlive:∀ b,b<w.heap.size->okc G ρ L b->okc G (gc M.length (H.length - LL.length) LL.length ρ ρ') (dc L U) b:=by
     intro b hb ho;refine⟨ho.1,λn bl p hn hp=>?_⟩;rcases hcls n bl hn with⟨i,b0,h1,h2,_,h4⟩ | ⟨h1,h2,h3,h4⟩
     ·rw[h4]at hp;by_cases hi:i<LL.length
      ·obtain⟨b',hb',hp',_⟩:=hplaceLL i p hi hp;exact ho.2 _ b' p hb' hp'
      ·have h5:=hsim'.own i p (show LL.length<=i by omega) hp;have h5:w.heap.size<=p.b:=h5;omega
     ·rw[h4]at hp; exact ho.2 n bl p h3 hp
    have hheap:∀ b,b<w.heap.size->(∀(i:Nat) p,i<LL.length->ρ' i=some (some p)->p.b ≠ b)->w'.heap[b]? = w.heap[b]?:=λb hb hno=>hsim'.old b hb hno
    have hkeep:Keeps (okc G ρ L) w ρ (okc G (gc M.length (H.length - LL.length) LL.length ρ ρ') (dc L U)) w' (gc M.length (H.length - LL.length) LL.length ρ ρ'):=by refine⟨hmono,λb hb ho=>⟨hnotlive b hb ho,hheap b hb λi p hi hp=>?_⟩,hsim'.size⟩;obtain⟨b',hb',hp',_⟩:=hplaceLL i p hi hp;exact ho.2 _ b' p hb' hp'
    have hback:B=[]->Keeps (okc (gh w LL.length (okL (okc G ρ L) ρ L B)) ρ' (eX H)) w' ρ' (okc G (gc M.length (H.length - LL.length) LL.length ρ ρ') (dc L U)) w' ρ':=by
     intro hBn;refine⟨λ_ _ h=>h,λb _ ho=>⟨?_,rfl⟩,ap1 _⟩;have hC:okc G ρ L b\/w.heap.size<=b:=by
      rcases ho.1 with h | h
      ·rcases h with h | ⟨n,p,bl,hn,_⟩
       ·exact .inl h
       ·rw[hBn]at hn; cases hn
      ·exact .inr h
     refine⟨?_,λn bl p hn hp=>?_⟩
     ·rcases hC with h | h
      ·exact h.1
      ·exact .inr (ap2 hsim.size h)
     ·rcases hcls n bl hn with⟨i,b0,h1,h2,_,h4⟩ | ⟨h1,h2,h3,h4⟩
      ·rw[h4]at hp; exact ho.2 i b0 p h1 hp
      ·rw[h4]at hp;rcases hC with h | h
       ·exact h.2 n bl p h3 hp
       ·have:=hsim.lt h3 hp; omega
    have hbody:∀(i:Nat) (b0:Blk) cur,H[i]? = some b0->BodyRep (okc (gh w LL.length (okL (okc G ρ L) ρ L B)) ρ' (eX H)) w' ρ' b0.c cur->BodyRep (okc G (gc M.length (H.length - LL.length) LL.length ρ ρ') (dc L U)) w' (gc M.length (H.length - LL.length) LL.length ρ ρ') (b0.c.ren f2) cur:=by
     intro i b0 cur hi hb;cases hBe:B.isEmpty with
     | true=>exact BodyRep.ren hff (hb.mono (hback (List.isEmpty_iff.1 hBe)))
     | false=>
      rw[hBe,Bool.false_or]at h6;have h7:=(and_true h6).2;have h8:=List.all_eq_true.1 h7 (b0.ren f2) (List.mem_map.2 ⟨b0,List.mem_of_getElem? hi,rfl⟩);have h9:BodyRep (okc (gh w LL.length (okL (okc G ρ L) ρ L B)) ρ' (eX H)) w' (gc M.length (H.length - LL.length) LL.length ρ ρ') (b0.c.ren f2) cur:=BodyRep.ren hff hb;exact h9.free h8
    refine⟨gc M.length (H.length - LL.length) LL.length ρ ρ',⟨?_,?_,?_,ap2 hsim.size hsim'.size,hsim'.os.trans hsim.os,hsim'.tape.trans hsim.tape,hsim'.output.trans hsim.output,?_,λb zs e=>⟨(hsim.tab b zs e).1,(hsim'.tab b zs e).2⟩,?_⟩,?_,hkeep,?_⟩
    ·intro n bl hn;rcases hcls n bl hn with⟨i,b0,g1,g2,rfl,g4⟩ | ⟨g1,g2,g3,g4⟩
     ·obtain⟨q,hq,hb⟩:=hsim'.blks i b0 g1;refine⟨q,by rw[g4]; exact hq,?_⟩;cases q with
      | none=>show(b0.c.ren f2).size=0; rw[Body.ren_size]; exact hb
      | some p=>
       obtain⟨cur,c1,c2,c3,c4,c5,c6⟩:=hb;exact⟨cur,c1,c2,by show _=(b0.c.ren f2).size; rw[Body.ren_size]; exact c3,c4,c5,hbody i b0 cur (kZ.1 g1) c6⟩
     ·obtain⟨q,hq,hb⟩:=hsim.blks n bl g3;refine⟨q,by rw[g4]; exact hq,?_⟩;cases q with
      | none=>exact hb
      | some p=>
       obtain⟨cur,c1,c2,c3,c4,c5,c6⟩:=hb;refine⟨cur,?_,c2,c3,c4,c5,c6.mono hkeep⟩;rw[hheap p.b (hsim.lt g3 hq) λi p' hi hp' he=>?_]
       ·exact c1
       ·obtain⟨b',hb',hp'',hii⟩:=hplaceLL i p' hi hp';have:=hsim.inj _ n b' bl p' p hb' g3 hp'' hq he;exact g1 (this ▸ List.mem_of_getElem? hii)
    ·intro n m bn bm p q hn hm hp hq e;have mixed:∀ i (b0:Blk) m bm p q,eX H i=some b0->ρ' i=some (some p)->m ∉ LL->L m=some bm->ρ m=some (some q)->p.b ≠ q.b:=by
      intro i b0 m bm p q h1 h2 h3 h4 h5 he;by_cases hi:i<LL.length
      ·obtain⟨b',hb',hp',hii⟩:=hplaceLL i p hi h2;have:=hsim.inj _ m b' bm p q hb' h4 hp' h5 he;exact h3 (this ▸ List.mem_of_getElem? hii)
      ·have h6:w.heap.size<=p.b:=hsim'.own i p (show LL.length<=i by omega) h2;have:=hsim.lt h4 h5; omega
     rcases hcls n bn hn with⟨i,b0,g1,g2,_,g4⟩ | ⟨g1,g2,g3,g4⟩ <;> rcases hcls m bm hm with⟨j,b1,k1,k2,_,k4⟩ | ⟨k1,k2,k3,k4⟩
     ·rw[g4]at hp; rw[k4]at hq;have:=hsim'.inj i j b0 b1 p q g1 k1 hp hq e;subst this;rw[g2]at k2; exact Option.some.inj k2
     ·rw[g4]at hp; rw[k4]at hq;exact absurd e (mixed i b0 m bm p q g1 hp k1 k3 hq)
     ·rw[g4]at hp; rw[k4]at hq;exact absurd e.symm (mixed j b1 n bn q p k1 hq g1 g3 hp)
     ·rw[g4]at hp; rw[k4]at hq;exact hsim.inj n m bn bm p q g3 k3 hp hq e
    ·intro n p hn hp;by_cases h1:M.length<=n/\n<M.length+(H.length - LL.length)
     ·obtain⟨j,rfl⟩:∃ j,n=M.length+j:=⟨n - M.length,by omega⟩
      rw[houtN j (by omega)]at hp;have h5:w.heap.size<=p.b:=hsim'.own _ p (show LL.length<=LL.length+j by omega) hp;exact ap2 hsim.size h5
     ·rw[hout n h1]at hp; exact hsim.own n p hn hp
    ·intro b hb hno;rw[hheap b (ap6 hb hsim.size) λi p hi hp=>?_]
     ·exact hsim.old b hb λn p hn hp=>hno n p hn (hmono n _ hp)
     ·obtain⟨b',hb',hp',hii⟩:=hplaceLL i p hi hp;by_cases hlt:LL[i]! < G.base
      ·exact hno _ p hlt (hmono _ _ hp')
      ·have:=hsim.own _ p (by omega) hp'; omega
    ·intro n p hp;by_cases h1:M.length<=n/\n<M.length+(H.length - LL.length)
     ·obtain⟨j,rfl⟩:∃ j,n=M.length+j:=⟨n - M.length,by omega⟩
      rw[houtN j (by omega)]at hp;exact hsim'.high _ p hp
     ·rw[hout n h1]at hp; exact hsim.high n p hp
    ·cases hBe:B.isEmpty with
     | true=>exact k9 hff (hrep'.mono (hback (List.isEmpty_iff.1 hBe)))
     | false=>
      rw[hBe,Bool.false_or]at h6;exact Dg (k9 hff hrep') (and_true h6).1
    ·intro n hne;rw[hmemU];by_cases h1:M.length<=n/\n<M.length+(H.length - LL.length)
     ·exact .inr h1
     ·exact absurd (hout n h1) hne
section
variable {cx:Cx} {base:Nat} {F:List V} {M:bh} {k:KOp}
theorem Pc {c:Call} (hc:c.callee=.builtin .len) (h:opV cx base F M (.call c) k=true):∃ z U T,bC cx.P base F M (.call c) z U T/\k z U T=true:=by
 obtain⟨callee,args,argTypes⟩:=c;simp only at hc;subst hc;simp only[opV]at h;split at h
 ·rename_i t x ht hx;have ht':argTypes = #[t]:=by apply aqP; simpa using ht
  have hx':args = #[x]:=by apply aqP; simpa using hx
  subst ht'; subst hx';obtain⟨z,hk,hz⟩:=FI h;refine⟨z,_,_,aT (λG w ρ L a o' ho hs hops hT=>?_),hk⟩;obtain⟨r,hr,hrep⟩:=hz G w ρ L _ o'.type hs hT (hops x (by simp[Op.operands,Call.operands]));refine⟨r,w,?_,.inl rfl,hrep⟩;unfold execOp;simp only[ho,resolve,invoke,builtin,Sem.run_bind,Sem.run_pure,Result.andThen_ok,aqX,aqk,List.map_nil,hr]
 ·cases h
def drewN:Nat->World->World
 | 0,w=>w
 | n+1,w=>drewN n w.drew
theorem SimW.drewN {G:Gh} {ρ:Rho} {L:LK}:∀(n:Nat) {w:World},SimW G w ρ L->SimW G (drewN n w) ρ L/\Keeps (okc G ρ L) w ρ (okc G ρ L) (drewN n w) ρ
 | 0,_,h=>⟨h,Keeps.refl _ _ _⟩
 | n+1,_,h=>by obtain⟨h1,h2⟩:=h.drew;obtain⟨h3,h4⟩:=SimW.drewN n h1;exact⟨h3,⟨λm q hq=>h4.rho m q (h2.rho m q hq),λb hb ho=>⟨(h4.blk b (ap6 hb h2.size) (h2.blk b hb ho).1).1,((h4.blk b (ap6 hb h2.size) (h2.blk b hb ho).1).2).trans (h2.blk b hb ho).2⟩,ap2 h2.size h4.size⟩⟩
def mm2 (mx:Bool):Value->Value->Sem Value:=cond mx Builtin.max2 Builtin.min2
theorem OM (mx:Bool) (a b:Nat):mm2 mx (.float .f64 a) (.float .f64 b)=(match Ieee.double.order a b with
  | none=>do pure (.float .f64 (<- choose (.nanMinMax .f64 mx a b)))
  | some .lt=>pure (.float .f64 (cond mx b a))
  | some .gt=>pure (.float .f64 (cond mx a b))
  | some .eq=>pure (.float .f64 (cond (Ieee.double.read a).neg (cond mx b a) (cond mx a b)))):=by
 cases mx
 ·rw[show mm2 false=Builtin.min2 from rfl];simp only[Builtin.min2,ap_];have e:FloatKind.f64.format=Ieee.double:=rfl;rw[e];cases Ieee.double.order a b with
  | none=>rfl
  | some o=>
   cases o with
   | lt=>rfl
   | gt=>rfl
   | eq=>simp only[FloatKind.decode,e]; cases (Ieee.double.read a).neg <;> rfl
 ·rw[show mm2 true=Builtin.max2 from rfl];simp only[Builtin.max2,ap8];have e:FloatKind.f64.format=Ieee.double:=rfl;rw[e];cases Ieee.double.order a b with
  | none=>rfl
  | some o=>
   cases o with
   | lt=>rfl
   | gt=>rfl
   | eq=>simp only[FloatKind.decode,e]; cases (Ieee.double.read a).neg <;> rfl
theorem abn {P:Program} {mx:Bool} {x y:Fl} {u v:Value} (hx:FRep x u) (hy:FRep y v) (w:World):∃ r n,(mm2 mx u v).run P w=.ok r (drewN n w)/\FRep (fmm mx x y) r:=by
 obtain⟨a,rfl⟩:=hx.float;obtain⟨b,rfl⟩:=hy.float;rw[OM];have hnone:Ieee.double.order a b=none -> ∃ r n,((do pure (.float .f64 (<- choose (.nanMinMax .f64 mx a b)))):Sem Value).run P w=.ok r (drewN n w)/\FRep none r:=λ_=>
  ⟨.float .f64 ((Question.nanBits .f64 a b).cut (w.tape w.drawn (.nanMinMax .f64 mx a b))),1,by simp[Question.forced,drewN,Question.cut],_,rfl,ut _ _ _⟩
 have hcase:(fmm mx x y=none/\Ieee.double.order a b=none)\/(x=some a/\y=some b):=by
  cases x with
  | none=>obtain⟨a',e,hn⟩:=hx; cases e; exact .inl ⟨by cases y <;> rfl,gJ b hn⟩
  | some a'=>
   cases hx;cases y with
   | none=>obtain⟨b',e,hn⟩:=hy; cases e; exact .inl ⟨rfl,mI a hn⟩
   | some b'=>cases hy; exact .inr ⟨rfl,rfl⟩
 rcases hcase with⟨h1,h2⟩ | ⟨rfl,rfl⟩
 ·rw[h1,h2]; exact hnone h2
 ·have e:fmm mx (some a) (some b)=(match Ieee.double.order a b with
   | none=>none
   | some .lt=>some (cond mx b a)
   | some .gt=>some (cond mx a b)
   | some .eq=>some (cond (Ieee.double.read a).neg (cond mx b a) (cond mx a b))):=rfl
  rw[e];generalize Ieee.double.order a b=oo at hnone;cases oo with
  | none=>exact hnone rfl
  | some o=>cases o <;> exact⟨_,0,rfl,rfl⟩
theorem abo {mx:Bool} {q:IntKind} {x y:Int}:mm2 mx (.int q x) (.int q y)=pure (.int q (imm mx x y)):=by
 cases mx
 ·rw[show mm2 false=Builtin.min2 from rfl];simp only[Builtin.min2,imm,ap_];by_cases h:y<x <;> simp[h]
 ·rw[show mm2 true=Builtin.max2 from rfl];simp only[Builtin.max2,imm,ap8];by_cases h:y>x <;> simp[h]
theorem Au:∀(n m:Nat) (w:World),drewN m (drewN n w)=drewN (n+m) w
 | 0,m,w=>by simp[drewN]
 | n+1,m,w=>by rw[show n+1+m=(n+m)+1 by omega]; exact Au n m w.drew
theorem AV {P:Program} {mx:Bool}:∀(xs:List V) (x:V) (k:V->Bool),mmV mx x xs k=true -> ∃ z,k z=true /\ ∀(ok:Nat->Prop) (w:World) (ρ:Rho) (u:Value) (us:List Value),Rep ok w ρ x u->RepL ok w ρ xs us ->
  ∀ w1,∃ r n,(us.foldlM (mm2 mx) u).run P w1=.ok r (drewN n w1)/\Rep ok w ρ z r
 | [],x,k,h=>by
  cases x <;> simp only[mmV,aqg]at h
  ·exact⟨_,h,λok w ρ u us hx hl w1=>by
    have:us=[]:=by have:=hl.1; cases us <;> simp_all
    subst this;exact⟨u,0,rfl,hx⟩⟩
  ·exact⟨_,h,λok w ρ u us hx hl w1=>by
    have:us=[]:=by have:=hl.1; cases us <;> simp_all
    subst this;exact⟨u,0,rfl,hx⟩⟩
 | y::r,x,k,h=>by
  have key:∀(z':V),mmV mx z' r k=true->(∀(ok:Nat->Prop) (w:World) (ρ:Rho) (u v:Value),Rep ok w ρ x u->Rep ok w ρ y v -> ∀ w1,∃ q n,(mm2 mx u v).run P w1=.ok q (drewN n w1)/\Rep ok w ρ z' q) ->
    ∃ z,k z=true /\ ∀(ok:Nat->Prop) (w:World) (ρ:Rho) (u:Value) (us:List Value),Rep ok w ρ x u->RepL ok w ρ (y::r) us -> ∀ w1,∃ q n,(us.foldlM (mm2 mx) u).run P w1=.ok q (drewN n w1)/\Rep ok w ρ z q:=by
   intro z' hz' hstep;obtain⟨z,hk,hz⟩:=AV (P:=P) r z' k hz';refine⟨z,hk,λok w ρ u us hx hl w1=>?_⟩;cases us with
   | nil=>have:=hl.1; simp at this
   | cons v us=>
    have hv:Rep ok w ρ y v:=hl.2 0 y v rfl rfl;have hr:RepL ok w ρ r us:=⟨by have:=hl.1; simpa using this,λi c e hc he=>hl.2 (i+1) c e (by simpa using hc) (by simpa using he)⟩
    obtain⟨q,n,h1,h2⟩:=hstep ok w ρ u v hx hv w1;obtain⟨q',n',h3,h4⟩:=hz ok w ρ q us h2 hr (drewN n w1);refine⟨q',n+n',?_,h4⟩;rw[List.foldlM_cons,Sem.run_bind,h1,Result.andThen_ok,h3,Au]
  cases x <;> cases y <;> simp only[mmV,aqg]at h
  ·obtain⟨e,h'⟩:=and_true h;have e:=ap0 e;subst e;exact key _ h' λok w ρ u v hu hv w1=>by obtain rfl:=hu.int_inv;obtain rfl:=hv.int_inv;exact⟨_,0,by rw[abo]; rfl,.int _ _⟩
  ·exact key _ h λok w ρ u v hu hv w1=>by obtain⟨q,n,h1,h2⟩:=abn (P:=P) (mx:=mx) hu.flt_inv hv.flt_inv w1;exact⟨q,n,h1,.flt _ _ h2⟩
theorem Ed (mx:Bool) {c:Call} (hc:c.callee=.builtin (cond mx .max .min)) (h:(match c.args.toList with
      | x::r=>mmV mx (ev F x) (r.map (ev F)) λv=>k v [] []
      | _=>false)=true):∃ z U T,bC cx.P base F M (.call c) z U T/\k z U T=true:=by
  obtain⟨callee,args,argTypes⟩:=c;simp only at hc h;subst hc;split at h
  · rename_i x r hx
    have hx':args=(x::r).toArray:=by apply aqP; simpa using hx
    subst hx';obtain⟨z,hk,hz⟩:=AV (P:=cx.P) _ _ _ h;refine⟨z,_,_,?_,hk⟩;intro G w ρ L a o' ho _ hs hops hT _ N Q hn;have hrl:RepL (okc G ρ L) w ρ (r.map (ev F)) (r.map a.eval):=by
      refine⟨by simp,λi c u hc hu=>?_⟩;rw[List.getElem?_map]at hc hu;cases hi:r[i]? with
      | none=>rw[hi]at hc; cases hc
      | some y=>
        rw[hi]at hc hu; cases hc; cases hu;exact hops y (by simp[Op.operands,Call.operands]; exact .inr (List.mem_of_getElem? hi))
    obtain⟨v,n,h1,h2⟩:=hz (okc G ρ L) w ρ _ _ (hops x (by simp[Op.operands,Call.operands])) hrl w;have hrun:(execOp a.eval o').run cx.P w=.ok (.value v) (drewN n w):=by
      unfold execOp;cases mx
      · have h1:(Builtin.min_ argTypes o'.type ((x::r).toArray.map a.eval)).run cx.P w=.ok v (drewN n w):=by simp only[Builtin.min_,aqX,aqk]; exact h1
        simp only[ho,resolve,invoke,builtin,Sem.run_bind,Sem.run_pure,Result.andThen_ok,ap_,h1]
      · have h1:(Builtin.max_ argTypes o'.type ((x::r).toArray.map a.eval)).run cx.P w=.ok v (drewN n w):=by simp only[Builtin.max_,aqX,aqk]; exact h1
        simp only[ho,resolve,invoke,builtin,Sem.run_bind,Sem.run_pure,Result.andThen_ok,ap8,h1]
    refine gr hrun ?_;obtain⟨g1,g2⟩:=SimW.drewN n hs;exact hn v _ ρ g1 (h2.mono g2) g2 (λn hne=>absurd rfl hne)
  · cases h
theorem RepL.append {ok:Nat->Prop} {w:World} {ρ:Rho} {cs ds:List V} {us vs:List Value} (h:RepL ok w ρ cs us) (h':RepL ok w ρ ds vs):RepL ok w ρ (cs++ds) (us++vs):=by
 refine⟨by simp[h.1,h'.1],λi c u hc hu=>?_⟩;rw[List.getElem?_append]at hc hu;rw[<- h.1]at hu;split at hc
 ·rename_i e; rw[if_pos e]at hu; exact h.2 i c u hc hu
 ·rename_i e; rw[if_neg e]at hu; exact h'.2 _ c u hc hu
theorem lQ:∀(B:List Nat) (M:bh),(wU M B).length=M.length
 | [],M=>rfl
 | n::r,M=>by rw[wU,lQ r,List.length_set]
theorem yU (M:bh) (n m:Nat):aE (M.set n none) m=if m=n then none else aE M m:=by
 unfold aE;rw[List.getElem?_set];by_cases e:n=m
 ·subst e;simp only[aqB];split <;> rename_i h <;> split at h <;> simp_all
 ·rw[if_neg e,if_neg (λh=>e h.symm)]
theorem wV:∀(B:List Nat) (M:bh) (m:Nat),aE (wU M B) m=if m ∈ B then none else aE M m
 | [],M,m=>by simp[wU]
 | n::r,M,m=>by
  rw[wU,wV r,yU];by_cases h1:m ∈ r
  ·simp[h1]
  ·by_cases h2:m=n <;> simp[h1,h2]
def without (L:LK) (B:List Nat):LK:=λn=>if n ∈ B then none else L n
theorem Bj:∀(B:List Nat) (L:LK),dc L (B.map λn=>(n,none))=without L B
 | [],L=>by funext n; simp[dc,without]
 | m::r,L=>by
  have e:dc L ((m::r).map λn=>(n,none))=dc (cp L m none) (r.map λn=>(n,none)):=rfl;rw[e,Bj r];funext n;unfold without cp;by_cases h1:n ∈ r
  ·simp[h1]
  ·by_cases h2:n=m <;> simp[h1,h2]
theorem nC {G:Gh} {ρ:Rho} {L:LK} (B:List Nat) {b:Nat} (h:okc G ρ L b):okc G ρ (without L B) b:=by
 refine⟨h.1,λn blk p hn hp=>h.2 n blk p ?_ hp⟩;unfold without at hn;split at hn
 ·cases hn
 ·exact hn
theorem yQ {G:Gh} {w:World} {ρ:Rho} {L:LK} (B:List Nat):Keeps (okc G ρ L) w ρ (okc G ρ (without L B)) w ρ:=
 ⟨λ_ _ h=>h,λ_ _ h=>⟨nC B h,rfl⟩,ap1 _⟩
theorem SimW.without {G:Gh} {w:World} {ρ:Rho} {L:LK} (h:SimW G w ρ L) (B:List Nat):SimW G w ρ (without L B):=by
 have hl:∀ n b,Mach.without L B n=some b->L n=some b:=by
  intro n b hn;unfold Mach.without at hn;split at hn
  ·cases hn
  ·exact hn
 refine⟨λn b hn=>?_,λn m bn bm p q hn hm hp hq e=>h.inj n m bn bm p q (hl n bn hn) (hl m bm hm) hp hq e,h.own,h.size,h.os,h.tape,h.output,h.old,h.tab,h.high⟩;obtain⟨q,hq,hb⟩:=h.blks n b (hl n b hn);refine⟨q,hq,?_⟩;cases q with
 | none=>exact hb
 | some p=>
  obtain⟨cur,c1,c2,c3,c4,c5,c6⟩:=hb;exact⟨cur,c1,c2,c3,c4,c5,c6.mono (yQ B)⟩
theorem CV {cx:Cx} (hO:ek cx.P cx.O) {base:Nat} {M:bh} {g:Nat} {vs:List V} {k:KOp} (h:Q6 cx base M g vs k=true) :
  ∃ x U T,k x U T=true /\ ∀(G:Gh) (w:World) (ρ:Rho) (L:LK) (us:List Value),G.base=base->base<=M.length->SimW G w ρ L->RepL (okc G ρ L) w ρ vs us->(∀ n,n ∈ T->L n=aE M n)->(∀ n b,(n,b) ∈ U->M.length<=n->ρ n=none/\base<=n) ->
   Qu cx.P g us.toArray w λv w'=>∃ ρ',SimW G w' ρ' (dc L U)/\Rep (okc G ρ' (dc L U)) w' ρ' x v/\Keeps (okc G ρ L) w ρ (okc G ρ' (dc L U)) w' ρ'/\(∀ n,ρ' n ≠ ρ n->n ∈ U.map (·.1)):=by
 unfold Q6 at h;split at h
 ·cases h
 ·rename_i vs1 hvs1;simp only at h;generalize hB:(vs.map (pQ M 4)).flatten=B at h;obtain⟨hbase,h⟩:=and_true h;obtain⟨x,U,T,hk,hg⟩:=vd hO (base:=base) h;refine⟨x,_,_,hk,λG w ρ L us hG hb hs hr hT hU=>?_⟩;have hBL:∀ n,n ∈ B->L n=aE M n:=λn hn=>hT n (aqK _ hn)
  have hokL:∀ b,okL (okc G ρ L) ρ L B b->okc G ρ (without L B) b:=by
   intro b hb';rcases hb' with hb' | ⟨n,p,blk,hn,hLn,hp,rfl⟩
   ·exact nC B hb'
   ·have hbn:G.base<=n:=by have:=List.all_eq_true.1 hbase n hn;rw[hG]; simpa using this
    refine⟨.inr (hs.own n p hbn hp),λm bm q hm hq e=>?_⟩;unfold without at hm;split at hm
    ·cases hm
    ·rename_i hmB;have:=hs.inj m n bm blk q p hm hLn hq hp e;subst this;exact hmB hn
  have hr1:RepL (okc G ρ (without L B)) w ρ vs1 us:=by obtain⟨m1,m2⟩:=k7 hvs1;refine⟨by rw[<- m1]; exact hr.1,λi c u hc hu=>?_⟩;obtain⟨a,ha,hla⟩:=m2 i c hc;have hl:=pP hs B hBL 4 a c u hla (λn hn=>by rw[<- hB]; exact dV (List.mem_of_getElem? ha) hn) (hr.2 i a u ha hu);exact hl.mono ⟨λ_ _ h=>h,λb _ hb=>⟨hokL b hb,rfl⟩,ap1 _⟩
  have hcall:=hg G w ρ (without L B) us hG (by rw[lQ]; exact hb) (hs.without B) hr1 (λn hn=>by
   rw[wV];unfold without;split
   ·rfl
   ·exact hT n (aql _ hn)) (λn b hn hlen=>hU n b (aql _ hn) (by rw[lQ]at hlen; exact hlen))
  have e:dc L (B.map (λn=>(n,none))++U)=dc (without L B) U:=by rw[sd,Bj]
  rw[e];intro o a N Q hN;refine hcall o a N Q λv w' hq=>hN v w' ?_
  obtain⟨ρ',h1,h2,h3,h4⟩:=hq;refine⟨ρ',h1,h2,⟨h3.rho,λb hb ho=>h3.blk b hb (nC B ho),h3.size⟩,λn hn=>?_⟩;rw[List.map_append];exact aql _ (h4 n hn)
theorem Gy (hO:ek cx.P cx.O) (hb:base<=M.length) {c:Call} {f:Operand} (hc:c.callee=.value f) (h:opV cx base F M (.call c) k=true):∃ z U T,bC cx.P base F M (.call c) z U T/\k z U T=true:=by
 obtain⟨callee,args,argTypes⟩:=c;simp only at hc;subst hc;simp only[opV]at h;split at h
 ·rename_i g caps ef;have hboth:∃ x U T,k x U T=true /\ ∀(G:Gh) (w:World) (ρ:Rho) (L:LK) (us:List Value),G.base=base->base<=M.length->SimW G w ρ L->RepL (okc G ρ L) w ρ (args.toList.map (ev F)++caps) us->(∀ n,n ∈ T->L n=aE M n)->(∀ n b,(n,b) ∈ U->M.length<=n->ρ n=none/\base<=n) ->
    Qu cx.P g us.toArray w λv w'=>∃ ρ',SimW G w' ρ' (dc L U)/\Rep (okc G ρ' (dc L U)) w' ρ' x v/\Keeps (okc G ρ L) w ρ (okc G ρ' (dc L U)) w' ρ'/\(∀ n,ρ' n ≠ ρ n->n ∈ U.map (·.1)):=by
   cases hz:cx.ref (g+1000000)with
   | true=>rw[hz,ap8]at h; exact CV hO h
   | false=>rw[hz,ap_]at h; exact vd hO h
  obtain⟨x,U,T,hk,hg⟩:=hboth;refine⟨x,U,T,?_,hk⟩;intro G w ρ L a o' ho hbase hsim hops hT hnew N Q hn;have hf:=hops f (by simp[Op.operands,Call.operands]); rw[ef]at hf;obtain⟨us,hv,hl,hr⟩:=hf.fn_inv;have hargs:RepL (okc G ρ L) w ρ (args.toList.map (ev F)) (args.toList.map a.eval):=by refine⟨by simp,λi c u hc hu=>?_⟩;rw[List.getElem?_map]at hc hu;obtain⟨y,hy,rfl⟩:=Option.map_eq_some_iff.1 hc;obtain⟨y',hy',rfl⟩:=Option.map_eq_some_iff.1 hu;rw[hy]at hy'; cases hy';have:=List.mem_of_getElem? hy;exact hops y (by simp only[Op.operands,Call.operands]; simp at this ⊢; exact .inr this)
  have hcall:=hg G w ρ L _ hbase hb hsim (hargs.append ⟨hl,hr⟩) hT hnew;have hrun:(execOp a.eval o').run cx.P w=(callFunc g (args.toList.map a.eval++us).toArray).run cx.P w:=by
   unfold execOp;simp only[ho,resolve,hv,Deferred.ofValue,Sem.run_bind,Sem.run_pure,Result.andThen_ok,invoke];have e : #[]++args.map a.eval++us.toArray=(args.toList.map a.eval++us).toArray:=by apply aqP; simp
   rw[e]
  unfold Oper.wp;rw[hrun];exact hcall o' a N Q λv w' ⟨ρ',h1,h2,h3,h4⟩=>hn v w' ρ' h1 h2 h3 h4
 ·cases h
theorem ot (hO:ek cx.P cx.O) (hb:base<=M.length) {o:Op} (h:opV cx base F M o k=true):∃ z U T,bC cx.P base F M o z U T/\k z U T=true:=by
 cases o with
 | move x=>exact GA h
 | assign x=>exact B9 h
 | pick c a b=>exact GB h
 | alloc t=>exact D9 h
 | box t v=>exact Pb h
 | build t ps=>exact Ea h
 | buildSlice t n ps=>exact uK h
 | load t x=>exact Gz h
 | store t x y=>exact Ef h
 | nilCheck x=>exact yh h
 | binOp op t x y yt=>exact D_ h
 | unOp op t x=>exact GC h
 | convert s d x=>exact yZ h
 | makeFunc f a b=>exact yg h
 | makeSlice t l c=>exact vW h
 | slice t x l u m=>exact Ee h
 | fieldAddr t x f=>exact vU h
 | field t x f=>exact Eb h
 | indexAddr t x i=>exact vV h
 | index t x i=>exact Ec h
 | extract x i=>exact y4 h
 | call c=>
  cases hc:c.callee with
  | value f=>exact Gy hO hb hc h
  | invoke r m=>simp[opV,hc]at h
  | builtin b=>
   cases b <;> first
    | exact Pc hc h
    | exact B8 hc h
    | exact Ed true hc (by have h':=h; simp only[opV,hc]at h'; exact h')
    | exact Ed false hc (by have h':=h; simp only[opV,hc]at h'; exact h')
    | (simp[opV,hc]at h)
 | _=>simp[opV]at h
end
structure Sim (G:Gh) (w:World) (ρ:Rho) (s:St) (a:Act):Prop where
 sim:SimW G w ρ (aE s.M)
 dom:∀ n,s.M.length<=n->ρ n=none
 defers:a.defers=[]
 fr:∀ t,Rep (okc G ρ (aE s.M)) w ρ (s.F.getD t .any) (a.tmps.getD t undef)
 size:a.tmps.size=s.F.length
 base:G.base<=s.M.length
theorem agZ {ok:Nat->Prop} {w:World} {ρ:Rho} {F:List V} {a:Act} (h:∀ t,Rep ok w ρ (F.getD t .any) (a.tmps.getD t undef)) (y:Operand):Rep ok w ρ (ev F y) (a.eval y):=by
 cases y with
 | tmp t=>exact h t
 | const v=>exact pW v
 | global g=>exact .val _
 | func f=>exact .fn f [] [] rfl (by simp)
theorem B2 (M:bh) (n:Nat) (b:Option Blk):(vt M n b).length=max M.length (n+1):=by
 unfold vt;by_cases h:n<M.length
 ·simp only[h,decide_true,ap8,List.length_set]; omega
 ·simp only[h,decide_false,ap_,aq5,List.length_replicate,aqq,aq2]; omega
theorem pS (M:bh) (n:Nat) (b:Option Blk):aE (vt M n b)=cp (aE M) n b:=by
 funext m;unfold vt aE cp;by_cases h:n<M.length
 ·simp only[h,decide_true,ap8,List.getElem?_set];by_cases e:n=m
  ·subst e; simp; cases b <;> rfl
  ·simp[e,show ¬ m=n from λh=>e h.symm]
 ·simp only[h,decide_false,ap_];by_cases e:m=n
  ·subst e;rw[List.getElem?_append_right (by simp; omega)];simp[show m - (M.length+(m - M.length))=0 by omega];cases b <;> rfl
  ·simp only[e,aqa];by_cases h1:m<M.length
   ·rw[aqe,List.getElem?_append_left h1]
   ·rw[aqe,List.getElem?_append_right (by omega),List.getElem?_eq_none (by omega:M.length<=m)];by_cases h2:m - M.length<n - M.length
    ·rw[List.getElem?_append_left (by simpa using h2),List.getElem?_replicate,if_pos h2]
    ·rw[List.getElem?_append_right (by simp; omega)];have h3:¬ m - M.length - (List.replicate (n - M.length) (none:Option Blk)).length=0:=by simp; omega
     cases h4:m - M.length - (List.replicate (n - M.length) (none:Option Blk)).length with
     | zero=>exact absurd h4 h3
     | succ z=>simp
theorem kR:∀(U:Upd) (M:bh),aE (kQ M U)=dc (aE M) U/\M.length<=(kQ M U).length /\ ∀ n,n ∈ U.map (·.1)->n<(kQ M U).length
 | [],M=>⟨rfl,ap1 _,by simp⟩
 | (m,b)::r,M=>by
  obtain⟨h1,h2,h3⟩:=kR r (vt M m b);rw[B2]at h2;refine⟨by rw[kQ,h1,pS]; rfl,by simp only[kQ]; omega,λn hn=>?_⟩;simp only[aqk,aq1]at hn;rcases hn with rfl | hn
  ·simp only[kQ]; omega
  ·exact h3 n hn
theorem jM (F:List V) (d:Option Nat) (x:V) (t:Nat):(iO F d x).getD t .any=if d=some t/\t<F.length then x else F.getD t .any:=by
 cases d with
 | none=>simp[iO]
 | some u=>
  simp only[iO,List.getD,List.getElem?_set,ap5];by_cases e:u=t
  ·subst e;by_cases h:u<F.length
   ·simp[h]
   ·simp[h]
  ·simp[e]
theorem vB (F:List V) (d:Option Nat) (x:V):(iO F d x).length=F.length:=by cases d <;> simp[iO]
theorem DH (a:Act) (d:Option Nat) (v:Value) (t:Nat):(a.put d v).tmps.getD t undef=if d=some t/\t<a.tmps.size then v else a.tmps.getD t undef:=by
 cases d with
 | none=>simp[Act.put]
 | some u=>
  simp only[Act.put,Array.getD_eq_getD_getElem?,Array.getElem?_setIfInBounds,ap5];by_cases e:u=t
  ·subst e;by_cases h:u<a.tmps.size
   ·simp[h]
   ·simp[h]
  ·simp[e]
theorem DI (a:Act) (d:Option Nat) (v:Value):(a.put d v).tmps.size=a.tmps.size:=by cases d <;> simp[Act.put]
theorem xQ (a:Act) (d:Option Nat) (v:Value):(a.put d v).defers=a.defers:=by cases d <;> rfl
theorem Sim.put {G:Gh} {w w':World} {ρ ρ':Rho} {s:St} {a:Act} (h:Sim G w ρ s a) {U:Upd} {d:Option Nat} {x:V} {v:Value} (h1:SimW G w' ρ' (dc (aE s.M) U)) (h2:Rep (okc G ρ' (dc (aE s.M) U)) w' ρ' x v)
  (h3:Keeps (okc G ρ (aE s.M)) w ρ (okc G ρ' (dc (aE s.M) U)) w' ρ') (h4:∀ n,ρ' n ≠ ρ n->n ∈ U.map (·.1)):Sim G w' ρ' ⟨iO s.F d x,kQ s.M U⟩ (a.put d v):=by
 obtain⟨u1,u2,u3⟩:=kR U s.M;refine⟨by rw[u1]; exact h1,λn hn=>?_,by rw[xQ]; exact h.defers,λt=>?_,by rw[DI,vB]; exact h.size,ap2 h.base u2⟩
 ·by_cases e:ρ' n=ρ n
  ·rw[e]; exact h.dom n (by have hn:(kQ s.M U).length<=n:=hn; omega)
  ·have hn:(kQ s.M U).length<=n:=hn;have:=u3 n (h4 n e); omega
 ·show Rep (okc G ρ' (aE (kQ s.M U))) w' ρ' ((iO s.F d x).getD t .any) ((a.put d v).tmps.getD t undef);rw[u1,jM,DH,h.size];split
  ·exact h2
  ·exact(h.fr t).mono h3
theorem yr {G:Gh} {w:World} {ρ:Rho} {s:St} {a:Act} (h:Sim G w ρ s a) {all:Array Oper} {j t:Nat} {b:Bool} (hg:dU all j=some t) (hb:s.F.getD t .any=.bool b):yielded all a.tmps j=some b/\t<s.F.length:=by
 have hr:=h.fr t;rw[hb]at hr;have hv:=hr.bool_inv;have hlt:t<s.F.length:=by
  rcases aqQ t s.F.length with h1 | h1
  ·exact h1
  ·rw[List.getD,List.getElem?_eq_none h1]at hb; cases hb
 refine⟨?_,hlt⟩;unfold dU at hg;unfold yielded;rw[hg];have hs:t<a.tmps.size:=by rw[h.size]; exact hlt
 simp only[arf];rw[Array.getD_eq_getD_getElem?]at hv;rw[Array.getElem?_eq_getElem hs]at hv ⊢;simp only[aqs]at hv;rw[hv]
theorem lb {F:List V} {t:Nat} {x:V} (h:F.getD t .any=x):F.set t x=F:=by
 apply List.ext_getElem?;intro i;rw[List.getElem?_set];split
 ·rename_i e;subst e;split
  ·rename_i h1; rw[List.getD,List.getElem?_eq_getElem h1]at h; simp at h; rw[<- h,List.getElem?_eq_getElem h1]
  ·rename_i h1; rw[List.getElem?_eq_none (by omega)]
 ·rfl
theorem Eo {G:Gh} {w:World} {ρ:Rho} {s:St} {a:Act} (h:Sim G w ρ s a) {all:Array Oper} {j t:Nat} {v:Value} (hg:dU all j=some t) (hb:s.F.getD t .any=.val v) (hv:BJ v=false):yielded all a.tmps j=none:=by
 have hr:=h.fr t;rw[hb]at hr;have hu:=hr.val_inv;unfold dU at hg;unfold yielded;rw[hg];have ht:t<s.F.length:=by
  rcases aqQ t s.F.length with h | h
  ·exact h
  ·rw[List.getD_eq_getElem?_getD,List.getElem?_eq_none h]at hb; cases hb
 have hts:t<a.tmps.size:=by rw[h.size]; exact ht
 have e:a.tmps[t]? = some v:=by rw[Array.getD_eq_getD_getElem?,Array.getElem?_eq_getElem hts]at hu;rw[Array.getElem?_eq_getElem hts];exact congrArg some hu
 simp only[arf,e];cases v <;> first | rfl | cases hv
theorem mm {cx:Cx} (hO:ek cx.P cx.O) {base:Nat} {all:Array Oper}:∀(l:List Oper) (s:St) (k:St->Bool),base<=s.M.length->DF cx base all l s k=true ->
  ∃ s',k s'=true/\base<=s'.M.length /\ ∀(G:Gh) (w:World) (ρ:Rho) (a:Act),G.base=base->Sim G w ρ s a -> ∀(Q:Exit->Act->World->Prop),
   (∀ w' ρ' a',Sim G w' ρ' s' a'->(∀ n q,n<base->ρ n=some q->ρ' n=some q)->Q .normal a' w')->wpList cx.P all Q l a w
 | [],s,k,hb,h=>⟨s,h,hb,λG w ρ a _ hs Q hq=>hq w ρ a hs λ_ _ _ h=>h⟩
 | o::r,s,k,hb,h=>by
  have step:∀(x:V) (U:Upd) (T:List Nat),bC cx.P base s.F s.M o.op x U T->DF cx base all r ⟨iO s.F o.dst x,kQ s.M U⟩ k=true ->
    ∃ s',k s'=true/\base<=s'.M.length /\ ∀(G:Gh) (w:World) (ρ:Rho) (a:Act),G.base=base->Sim G w ρ s a->Region.wanted o (yielded all a.tmps)=true -> ∀(Q:Exit->Act->World->Prop),
     (∀ w' ρ' a',Sim G w' ρ' s' a'->(∀ n q,n<base->ρ n=some q->ρ' n=some q)->Q .normal a' w')->wpList cx.P all Q (o::r) a w:=by
   intro x U T hgood hr;obtain⟨u1,u2,u3⟩:=kR U s.M;obtain⟨s',hk,hb',hs'⟩:=mm hO r ⟨iO s.F o.dst x,kQ s.M U⟩ k (ap2 hb u2) hr;refine⟨s',hk,hb',λG w ρ a hG hs hw Q hq=>?_⟩;unfold wpList;rw[if_pos hw];refine .inl (hgood G w ρ (aE s.M) a o rfl hG hs.sim (λy _=>agZ hs.fr y) (λ_ _=>rfl) (λn b _ hn=>⟨hs.dom n hn,by omega⟩) _ _ λv w' ρ' h1 h2 h3 h4=>?_);exact hs' G w' ρ' _ hG (hs.put h1 h2 h3 h4) Q λw'' ρ'' a' hsim hrho=>hq w'' ρ'' a' hsim λn q hn hq'=>hrho n q hn (h3.rho n q hq')
  simp only[DF]at h;split at h
  ·rename_i hg;obtain⟨x,U,T,hgood,hr⟩:=ot hO hb h;obtain⟨s',hk,hb',hs'⟩:=step x U T hgood hr;exact⟨s',hk,hb',λG w ρ a hG hs Q hq=>hs' G w ρ a hG hs (by simp[Region.wanted,hg]) Q hq⟩
  ·rename_i j want hg;split at h
   ·rename_i t ht;split at h
    ·rename_i b hb0;cases e:(b==want)with
     | true=>
      obtain rfl:b=want:=by simpa using e
      rw[e,ap8,lb hb0]at h;obtain⟨x,U,T,hgood,hr⟩:=ot hO hb h;obtain⟨s',hk,hb',hs'⟩:=step x U T hgood hr;exact⟨s',hk,hb',λG w ρ a hG hs Q hq=>hs' G w ρ a hG hs (by simp[Region.wanted,hg,(yr hs ht hb0).1]) Q hq⟩
     | false=>
      have hbw:b = !want:=by cases b <;> cases want <;> simp at e ⊢
      rw[e,ap_,<- hbw,lb hb0]at h;obtain⟨s',hk,hb',hs'⟩:=mm hO r ⟨iO s.F o.dst (.val undef),s.M⟩ k hb h;refine⟨s',hk,hb',λG w ρ a hG hs Q hq=>?_⟩;unfold wpList;rw[if_neg (by simp[Region.wanted,hg,(yr hs ht hb0).1]; intro e'; rw[e']at e; simp at e)];refine hs' G w ρ _ hG ?_ Q hq;have:=hs.put (U:=[]) (d:=o.dst) (x:=.val undef) (v:=undef) hs.sim (.val _) (Keeps.refl _ _ _) (λn hn=>absurd rfl hn);exact this
    ·rename_i v hv0;cases hbv:BJ v with
     | true=>rw[hbv,ap8]at h; cases h
     | false=>
      rw[hbv,ap_]at h;obtain⟨s',hk,hb',hs'⟩:=mm hO r ⟨iO s.F o.dst (.val undef),s.M⟩ k hb h;refine⟨s',hk,hb',λG w ρ a hG hs Q hq=>?_⟩;unfold wpList;rw[if_neg (by simp[Region.wanted,hg,Eo hs ht hv0 hbv])];refine hs' G w ρ _ hG ?_ Q hq;have:=hs.put (U:=[]) (d:=o.dst) (x:=.val undef) (v:=undef) hs.sim (.val _) (Keeps.refl _ _ _) (λn hn=>absurd rfl hn);exact this
    ·cases h
   ·cases h
end Go.Mach
end
