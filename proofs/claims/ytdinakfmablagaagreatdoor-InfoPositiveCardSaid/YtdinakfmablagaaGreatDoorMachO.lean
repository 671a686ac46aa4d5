/- The machine. Conditions: none. -/
import Derived.Test.YtdinakfmablagaaGreatDoorMachM
import Derived.Orders
import Derived.LoopN
set_option linter.unusedVariables false
section
namespace Go.Mach
section
variable {cx:Cx} {base:Nat} {F:List V} {M:aL} {k:KOp}
theorem Mt {c:Call} (hc:c.callee=.builtin .len) (h:opV cx base F M (.call c) k=true):∃ z U T,bG cx.P base F M (.call c) z U T/\k z U T=true:=by
 obtain⟨callee,args,argTypes⟩:=c;simp only at hc;subst hc;simp only[opV]at h;split at h
 ·rename_i t x ht hx;have ht':argTypes = #[t]:=by apply ahq; simpa using ht
  have hx':args = #[x]:=by apply ahq; simpa using hx
  subst ht'; subst hx';obtain⟨z,hk,hz⟩:=Iq h;refine⟨z,_,_,aS (λG w ρ L a o' ho hs hops hT=>?_),hk⟩;obtain⟨r,hr,hrep⟩:=hz G w ρ L _ o'.type hs hT (hops x (by simp[Op.operands,Call.operands]));refine⟨r,w,?_,.inl rfl,hrep⟩;unfold execOp;simp only[ho,resolve,invoke,builtin,Sem.run_bind,Sem.run_pure,Result.andThen_ok,ah4,agl,List.map_nil,hr]
 ·cases h
def drewN:Nat->World->World
 | 0,w=>w
 | n+1,w=>drewN n w.drew
theorem SimW.drewN {G:Gh} {ρ:Rho} {L:LK}:∀(n:Nat) {w:World},SimW G w ρ L->SimW G (drewN n w) ρ L/\Keeps (okc G ρ L) w ρ (okc G ρ L) (drewN n w) ρ
 | 0,_,h=>⟨h,Keeps.refl _ _ _⟩
 | n+1,_,h=>by obtain⟨h1,h2⟩:=h.drew;obtain⟨h3,h4⟩:=SimW.drewN n h1;exact⟨h3,⟨λm q hq=>h4.rho m q (h2.rho m q hq),λb hb ho=>⟨(h4.blk b (afD hb h2.size) (h2.blk b hb ho).1).1,((h4.blk b (afD hb h2.size) (h2.blk b hb ho).1).2).trans (h2.blk b hb ho).2⟩,afG h2.size h4.size⟩⟩
def mm2 (mx:Bool):Value->Value->Sem Value:=cond mx Builtin.max2 Builtin.min2
theorem LN (mx:Bool) (a b:Nat):mm2 mx (.float .f64 a) (.float .f64 b)=(match Ieee.double.order a b with
  | none=>do pure (.float .f64 (<- choose (.nanMinMax .f64 mx a b)))
  | some .lt=>pure (.float .f64 (cond mx b a))
  | some .gt=>pure (.float .f64 (cond mx a b))
  | some .eq=>pure (.float .f64 (cond (Ieee.double.read a).neg (cond mx b a) (cond mx a b)))):=by
 cases mx
 ·rw[show mm2 false=Builtin.min2 from rfl];simp only[Builtin.min2,afk];have e:FloatKind.f64.format=Ieee.double:=rfl;rw[e];cases Ieee.double.order a b with
  | none=>rfl
  | some o=>
   cases o with
   | lt=>rfl
   | gt=>rfl
   | eq=>simp only[FloatKind.decode,e]; cases (Ieee.double.read a).neg <;> rfl
 ·rw[show mm2 true=Builtin.max2 from rfl];simp only[Builtin.max2,afl];have e:FloatKind.f64.format=Ieee.double:=rfl;rw[e];cases Ieee.double.order a b with
  | none=>rfl
  | some o=>
   cases o with
   | lt=>rfl
   | gt=>rfl
   | eq=>simp only[FloatKind.decode,e]; cases (Ieee.double.read a).neg <;> rfl
theorem Rr {P:Program} {mx:Bool} {x y:Fl} {u v:Value} (hx:FRep x u) (hy:FRep y v) (w:World):∃ r n,(mm2 mx u v).run P w=.ok r (drewN n w)/\FRep (fmm mx x y) r:=by
 obtain⟨a,rfl⟩:=hx.float;obtain⟨b,rfl⟩:=hy.float;rw[LN];have hnone:Ieee.double.order a b=none -> ∃ r n,((do pure (.float .f64 (<- choose (.nanMinMax .f64 mx a b)))):Sem Value).run P w=.ok r (drewN n w)/\FRep none r:=λ_=>
  ⟨.float .f64 ((Question.nanBits .f64 a b).cut (w.tape w.drawn (.nanMinMax .f64 mx a b))),1,by simp[Question.forced,drewN,Question.cut],_,rfl,xR _ _ _⟩
 have hcase:(fmm mx x y=none/\Ieee.double.order a b=none)\/(x=some a/\y=some b):=by
  cases x with
  | none=>obtain⟨a',e,hn⟩:=hx; cases e; exact .inl ⟨by cases y <;> rfl,oa b hn⟩
  | some a'=>
   cases hx;cases y with
   | none=>obtain⟨b',e,hn⟩:=hy; cases e; exact .inl ⟨rfl,rF a hn⟩
   | some b'=>cases hy; exact .inr ⟨rfl,rfl⟩
 rcases hcase with⟨h1,h2⟩ | ⟨rfl,rfl⟩
 ·rw[h1,h2]; exact hnone h2
 ·have e:fmm mx (some a) (some b)=(match Ieee.double.order a b with
   | none=>none
   | some .lt=>some (cond mx b a)
   | some .gt=>some (cond mx a b)
   | some .eq=>some (cond (Ieee.double.read a).neg (cond mx b a) (cond mx a b))):=rfl
  rw[e];generalize Ieee.double.order a b=oo at hnone;cases oo with
  | none=>exact hnone rfl
  | some o=>cases o <;> exact⟨_,0,rfl,rfl⟩
theorem Rs {mx:Bool} {q:IntKind} {x y:Int}:mm2 mx (.int q x) (.int q y)=pure (.int q (imm mx x y)):=by
 cases mx
 ·rw[show mm2 false=Builtin.min2 from rfl];simp only[Builtin.min2,imm,afk];by_cases h:y<x <;> simp[h]
 ·rw[show mm2 true=Builtin.max2 from rfl];simp only[Builtin.max2,imm,afl];by_cases h:y>x <;> simp[h]
theorem CB:∀(n m:Nat) (w:World),drewN m (drewN n w)=drewN (n+m) w
 | 0,m,w=>by simp[drewN]
 | n+1,m,w=>by rw[show n+1+m=(n+m)+1 by omega]; exact CB n m w.drew
theorem C4 {P:Program} {mx:Bool}:∀(xs:List V) (x:V) (k:V->Bool),mmV mx x xs k=true -> ∃ z,k z=true /\ ∀(ok:Nat->Prop) (w:World) (ρ:Rho) (u:Value) (us:List Value),Rep ok w ρ x u->RepL ok w ρ xs us ->
  ∀ w1,∃ r n,(us.foldlM (mm2 mx) u).run P w1=.ok r (drewN n w1)/\Rep ok w ρ z r
 | [],x,k,h=>by
  cases x <;> simp only[mmV,af9]at h
  ·exact⟨_,h,λok w ρ u us hx hl w1=>by
    have:us=[]:=by have:=hl.1; cases us <;> simp_all
    subst this;exact⟨u,0,rfl,hx⟩⟩
  ·exact⟨_,h,λok w ρ u us hx hl w1=>by
    have:us=[]:=by have:=hl.1; cases us <;> simp_all
    subst this;exact⟨u,0,rfl,hx⟩⟩
 | y::r,x,k,h=>by
  have key:∀(z':V),mmV mx z' r k=true->(∀(ok:Nat->Prop) (w:World) (ρ:Rho) (u v:Value),Rep ok w ρ x u->Rep ok w ρ y v -> ∀ w1,∃ q n,(mm2 mx u v).run P w1=.ok q (drewN n w1)/\Rep ok w ρ z' q) ->
    ∃ z,k z=true /\ ∀(ok:Nat->Prop) (w:World) (ρ:Rho) (u:Value) (us:List Value),Rep ok w ρ x u->RepL ok w ρ (y::r) us -> ∀ w1,∃ q n,(us.foldlM (mm2 mx) u).run P w1=.ok q (drewN n w1)/\Rep ok w ρ z q:=by
   intro z' hz' hstep;obtain⟨z,hk,hz⟩:=C4 (P:=P) r z' k hz';refine⟨z,hk,λok w ρ u us hx hl w1=>?_⟩;cases us with
   | nil=>have:=hl.1; simp at this
   | cons v us=>
    have hv:Rep ok w ρ y v:=hl.2 0 y v rfl rfl;have hr:RepL ok w ρ r us:=⟨by have:=hl.1; simpa using this,λi c e hc he=>hl.2 (i+1) c e (by simpa using hc) (by simpa using he)⟩
    obtain⟨q,n,h1,h2⟩:=hstep ok w ρ u v hx hv w1;obtain⟨q',n',h3,h4⟩:=hz ok w ρ q us h2 hr (drewN n w1);refine⟨q',n+n',?_,h4⟩;rw[List.foldlM_cons,Sem.run_bind,h1,Result.andThen_ok,h3,CB]
  cases x <;> cases y <;> simp only[mmV,af9]at h
  ·obtain⟨e,h'⟩:=and_true h;have e:=afp e;subst e;exact key _ h' λok w ρ u v hu hv w1=>by obtain rfl:=hu.int_inv;obtain rfl:=hv.int_inv;exact⟨_,0,by rw[Rs]; rfl,.int _ _⟩
  ·exact key _ h λok w ρ u v hu hv w1=>by obtain⟨q,n,h1,h2⟩:=Rr (P:=P) (mx:=mx) hu.flt_inv hv.flt_inv w1;exact⟨q,n,h1,.flt _ _ h2⟩
theorem GV (mx:Bool) {c:Call} (hc:c.callee=.builtin (cond mx .max .min)) (h:(match c.args.toList with
      | x::r=>mmV mx (ev F x) (r.map (ev F)) λv=>k v [] []
      | _=>false)=true):∃ z U T,bG cx.P base F M (.call c) z U T/\k z U T=true:=by
  obtain⟨callee,args,argTypes⟩:=c;simp only at hc h;subst hc;split at h
  · rename_i x r hx
    have hx':args=(x::r).toArray:=by apply ahq; simpa using hx
    subst hx';obtain⟨z,hk,hz⟩:=C4 (P:=cx.P) _ _ _ h;refine⟨z,_,_,?_,hk⟩;intro G w ρ L a o' ho _ _ hs hops hT _ N Q hn;have hrl:RepL (okc G ρ L) w ρ (r.map (ev F)) (r.map a.eval):=by
      refine⟨by simp,λi c u hc hu=>?_⟩;rw[List.getElem?_map]at hc hu;cases hi:r[i]? with
      | none=>rw[hi]at hc; cases hc
      | some y=>
        rw[hi]at hc hu; cases hc; cases hu;exact hops y (by simp[Op.operands,Call.operands]; exact .inr (List.mem_of_getElem? hi))
    obtain⟨v,n,h1,h2⟩:=hz (okc G ρ L) w ρ _ _ (hops x (by simp[Op.operands,Call.operands])) hrl w;have hrun:(execOp a.eval o').run cx.P w=.ok (.value v) (drewN n w):=by
      unfold execOp;cases mx
      · have h1:(Builtin.min_ argTypes o'.type ((x::r).toArray.map a.eval)).run cx.P w=.ok v (drewN n w):=by simp only[Builtin.min_,ah4,agl]; exact h1
        simp only[ho,resolve,invoke,builtin,Sem.run_bind,Sem.run_pure,Result.andThen_ok,afk,h1]
      · have h1:(Builtin.max_ argTypes o'.type ((x::r).toArray.map a.eval)).run cx.P w=.ok v (drewN n w):=by simp only[Builtin.max_,ah4,agl]; exact h1
        simp only[ho,resolve,invoke,builtin,Sem.run_bind,Sem.run_pure,Result.andThen_ok,afl,h1]
    refine dY hrun ?_;obtain⟨g1,g2⟩:=SimW.drewN n hs;exact hn v _ ρ g1 (h2.mono g2) g2 (λn hne=>absurd rfl hne)
  · cases h
theorem RepL.append {ok:Nat->Prop} {w:World} {ρ:Rho} {cs ds:List V} {us vs:List Value} (h:RepL ok w ρ cs us) (h':RepL ok w ρ ds vs):RepL ok w ρ (cs++ds) (us++vs):=by
 refine⟨by simp[h.1,h'.1],λi c u hc hu=>?_⟩;rw[List.getElem?_append]at hc hu;rw[<- h.1]at hu;split at hc
 ·rename_i e; rw[if_pos e]at hu; exact h.2 i c u hc hu
 ·rename_i e; rw[if_neg e]at hu; exact h'.2 _ c u hc hu
theorem kj:∀(B:List Nat) (M:aL),(yN M B).length=M.length
 | [],M=>rfl
 | n::r,M=>by rw[yN,kj r,ahP]
theorem Cb (M:aL) (n m:Nat):aq (M.set n none) m=if m=n then none else aq M m:=by
 unfold aq;rw[List.getElem?_set];by_cases e:n=m
 ·subst e;simp only[agU];split <;> rename_i h <;> split at h <;> simp_all
 ·rw[if_neg e,if_neg (λh=>e h.symm)]
theorem vD:∀(B:List Nat) (M:aL) (m:Nat),aq (yN M B) m=if m ∈ B then none else aq M m
 | [],M,m=>by simp[yN]
 | n::r,M,m=>by
  rw[yN,vD r,Cb];by_cases h1:m ∈ r
  ·simp[h1]
  ·by_cases h2:m=n <;> simp[h1,h2]
def without (L:LK) (B:List Nat):LK:=λn=>if n ∈ B then none else L n
theorem yu:∀(B:List Nat) (L:LK),bg L (B.map λn=>(n,none))=without L B
 | [],L=>by funext n; simp[bg,without]
 | m::r,L=>by
  have e:bg L ((m::r).map λn=>(n,none))=bg (aI L m none) (r.map λn=>(n,none)):=rfl;rw[e,yu r];funext n;unfold without aI;by_cases h1:n ∈ r
  ·simp[h1]
  ·by_cases h2:n=m <;> simp[h1,h2]
theorem mA {G:Gh} {ρ:Rho} {L:LK} (B:List Nat) {b:Nat} (h:okc G ρ L b):okc G ρ (without L B) b:=by
 refine⟨h.1,λn blk p hn hp=>h.2 n blk p ?_ hp⟩;unfold without at hn;split at hn
 ·cases hn
 ·exact hn
theorem uV {G:Gh} {w:World} {ρ:Rho} {L:LK} (B:List Nat):Keeps (okc G ρ L) w ρ (okc G ρ (without L B)) w ρ:=
 ⟨λ_ _ h=>h,λ_ _ h=>⟨mA B h,rfl⟩,afw _⟩
theorem SimW.without {G:Gh} {w:World} {ρ:Rho} {L:LK} (h:SimW G w ρ L) (B:List Nat):SimW G w ρ (without L B):=by
 have hl:∀ n b,Mach.without L B n=some b->L n=some b:=by
  intro n b hn;unfold Mach.without at hn;split at hn
  ·cases hn
  ·exact hn
 refine⟨λn b hn=>?_,λn m bn bm p q hn hm hp hq e=>h.inj n m bn bm p q (hl n bn hn) (hl m bm hm) hp hq e,h.own,h.size,h.os,h.tape,h.output,h.old,h.tab,h.high⟩;obtain⟨q,hq,hb⟩:=h.blks n b (hl n b hn);exact⟨q,hq,hb.of (uV B) λ_ _ _ _=>rfl⟩
theorem E4 {cx:Cx} (hO:OS cx) {base:Nat} {M:aL} {g:Nat} {vs:List V} {k:KOp} (h:NQ cx base M g vs k=true) :
  ∃ x U T,k x U T=true /\ ∀(G:Gh) (w:World) (ρ:Rho) (L:LK) (us:List Value),G.base=base->(∀ b,¬ G.ex b)->base<=M.length->SimW G w ρ L->RepL (okc G ρ L) w ρ vs us->(∀ n,n ∈ T->L n=aq M n)->(∀ n b,(n,b) ∈ U->M.length<=n->ρ n=none/\base<=n) ->
   EM cx.P g us.toArray w λv w'=>∃ ρ',SimW G w' ρ' (bg L U)/\Rep (okc G ρ' (bg L U)) w' ρ' x v/\Keeps (okc G ρ L) w ρ (okc G ρ' (bg L U)) w' ρ'/\(∀ n,ρ' n ≠ ρ n->n ∈ U.map (·.1)):=by
 unfold NQ at h;split at h
 ·cases h
 ·rename_i vs1 hvs1;simp only at h;generalize hB:(vs.map (mP M 4)).flatten=B at h;obtain⟨hbase,h⟩:=and_true h;obtain⟨x,U,T,hk,-,hg⟩:=oC hO (base:=base) h;refine⟨x,_,_,hk,λG w ρ L us hG hex hb hs hr hT hU=>?_⟩;have hBL:∀ n,n ∈ B->L n=aq M n:=λn hn=>hT n (agG _ hn)
  have hokL:∀ b,okL (okc G ρ L) ρ L B b->okc G ρ (without L B) b:=by
   intro b hb';rcases hb' with hb' | ⟨n,p,blk,hn,hLn,hp,hpb⟩
   ·exact mA B hb'
   ·have hbn:G.base<=n:=by have:=List.all_eq_true.1 hbase n hn;rw[hG]; simpa using this
    refine⟨(hs.own n p hbn hp b hpb.has).imp (λh=>h) (λh=>absurd h (hex b)) |>.elim .inr (λh=>absurd h (hex b)),λm bm q hm hq e=>?_⟩;unfold without at hm;split at hm
    ·cases hm
    ·rename_i hmB;have:=hs.inj m n bm blk q p hm hLn hq hp b e hpb;subst this;exact hmB hn
  have hr1:RepL (okc G ρ (without L B)) w ρ vs1 us:=by obtain⟨m1,m2⟩:=pU hvs1;refine⟨by rw[<- m1]; exact hr.1,λi c u hc hu=>?_⟩;obtain⟨a,ha,hla⟩:=m2 i c hc;have hl:=nW hs B hBL 4 a c u hla (λn hn=>by rw[<- hB]; exact gD (List.mem_of_getElem? ha) hn) (hr.2 i a u ha hu);exact hl.mono ⟨λ_ _ h=>h,λb _ hb=>⟨hokL b hb,rfl⟩,afw _⟩
  have hcall:=hg G w ρ (without L B) us hG (by rw[kj]; exact hb) (hs.without B) hr1 (λn hn=>by
   rw[vD];unfold without;split
   ·rfl
   ·exact hT n (agk _ hn)) (λn b hn hlen=>hU n b (agk _ hn) (by rw[kj]at hlen; exact hlen))
  have e:bg L (B.map (λn=>(n,none))++U)=bg (without L B) U:=by rw[fW,yu]
  rw[e];intro o a N Q hN;refine hcall o a N Q λv w' hq=>hN v w' ?_
  obtain⟨ρ',h1,h2,h3,h4,-⟩:=hq;refine⟨ρ',h1,h2,⟨h3.rho,λb hb ho=>h3.blk b hb (mA B ho),h3.size⟩,λn hn=>?_⟩;rw[ag6];exact agk _ (h4 n hn)
theorem E3 {cx:Cx} (hO:OS cx) {base:Nat} {M:aL} {g:Nat} {vs:List V} {k:KOp} (h:NP cx base M g vs k=true) :
  ∃ x U T,k x U T=true /\ ∀(G:Gh) (w:World) (ρ:Rho) (L:LK) (us:List Value),G.base=base->(∀ b,¬ G.ex b)->base<=M.length->SimW G w ρ L->RepL (okc G ρ L) w ρ vs us->(∀ n,n ∈ T->L n=aq M n)->(∀ n b,(n,b) ∈ U->M.length<=n->ρ n=none/\base<=n) ->
   EM cx.P g us.toArray w λv w'=>∃ ρ',SimW G w' ρ' (bg L U)/\Rep (okc G ρ' (bg L U)) w' ρ' x v/\Keeps (okc G ρ L) w ρ (okc G ρ' (bg L U)) w' ρ'/\(∀ n,ρ' n ≠ ρ n->n ∈ U.map (·.1)):=by
 unfold NP at h;cases vs with
 | nil=>cases h
 | cons v0 r0=>
 simp only at h;split at h
 ·cases h
 ·rename_i v1 hv1;generalize hB:mP M 4 v0=B at h;obtain⟨hbase,h⟩:=and_true h;obtain⟨x,U,T,hk,-,hg⟩:=oC hO (base:=base) h;refine⟨x,_,_,hk,λG w ρ L us hG hex hb hs hr hT hU=>?_⟩;have hBL:∀ n,n ∈ B->L n=aq M n:=λn hn=>hT n (agG _ hn)
  have hokL:∀ b,okL (okc G ρ L) ρ L B b->okc G ρ (without L B) b:=by
   intro b hb';rcases hb' with hb' | ⟨n,p,blk,hn,hLn,hp,hpb⟩
   ·exact mA B hb'
   ·have hbn:G.base<=n:=by have:=List.all_eq_true.1 hbase n hn;rw[hG]; simpa using this
    refine⟨(hs.own n p hbn hp b hpb.has).imp (λh=>h) (λh=>absurd h (hex b)) |>.elim .inr (λh=>absurd h (hex b)),λm bm q hm hq e=>?_⟩;unfold without at hm;split at hm
    ·cases hm
    ·rename_i hmB;have:=hs.inj m n bm blk q p hm hLn hq hp b e hpb;subst this;exact hmB hn
  have hr1:RepL (okc G ρ (without L B)) w ρ (v1::r0) us:=by
   refine⟨hr.1,λi c u hc hu=>?_⟩;cases i with
   | zero=>
    cases hc;have hl:=nW hs B hBL 4 v0 v1 u hv1 (λn hn=>by rw[<- hB]; exact hn) (hr.2 0 v0 u rfl hu);exact hl.mono ⟨λ_ _ h=>h,λb _ hb=>⟨hokL b hb,rfl⟩,afw _⟩
   | succ i=>exact(hr.2 (i+1) c u hc hu).mono (uV B)
  have hcall:=hg G w ρ (without L B) us hG (by rw[kj]; exact hb) (hs.without B) hr1 (λn hn=>by
   rw[vD];unfold without;split
   ·rfl
   ·exact hT n (agk _ hn)) (λn b hn hlen=>hU n b (agk _ hn) (by rw[kj]at hlen; exact hlen))
  have e:bg L (B.map (λn=>(n,none))++U)=bg (without L B) U:=by rw[fW,yu]
  rw[e];intro o a N Q hN;refine hcall o a N Q λv w' hq=>hN v w' ?_
  obtain⟨ρ',h1,h2,h3,h4,-⟩:=hq;refine⟨ρ',h1,h2,⟨h3.rho,λb hb ho=>h3.blk b hb (mA B ho),h3.size⟩,λn hn=>?_⟩;rw[ag6];exact agk _ (h4 n hn)
theorem yH (hO:OS cx) {g:Nat} {vs:List V} (h:Ji cx base M g vs k=true):∃ x U T,k x U T=true/\(nZ cx g=1 -> ∀ n,n<M.length->Tail (aq M n) (bg (aq M) U n)) /\ ∀(G:Gh) (w:World) (ρ:Rho) (L:LK) (us:List Value),G.base=base->(∀ b,¬ G.ex b)->base<=M.length->SimW G w ρ L->RepL (okc G ρ L) w ρ vs us->(∀ n,n ∈ T->L n=aq M n)->(∀ n b,(n,b) ∈ U->M.length<=n->ρ n=none/\base<=n) ->
        EM cx.P g us.toArray w λv w'=>∃ ρ',SimW G w' ρ' (bg L U)/\Rep (okc G ρ' (bg L U)) w' ρ' x v/\Keeps (okc G ρ L) w ρ (okc G ρ' (bg L U)) w' ρ'/\(∀ n,ρ' n ≠ ρ n->n ∈ U.map (·.1)):=by
  unfold Ji at h;cases ho:(cx.ref g&&vs.any V.isOpt)with
  | true=>
    rw[ho,afl]at h;obtain⟨h0,h⟩:=and_true h;have h0:nZ cx g=0:=by simpa using h0
    obtain⟨x,U,T,hk,hg⟩:=E0 hO h0 h;exact⟨x,U,T,hk,λh1=>by omega,hg⟩
  | false=>
    rw[ho,afk]at h;cases hz:cx.ref (g+1000000)with
    | true=>
      rw[hz,afl]at h;obtain⟨h0,h⟩:=and_true h;have h0:nZ cx g=0:=by simpa using h0
      obtain⟨x,U,T,hk,hg⟩:=E4 hO h;exact⟨x,U,T,hk,λh1=>by omega,hg⟩
    | false=>
      rw[hz,afk]at h;cases hy:cx.ref (g+5000000)with
      | true=>
        rw[hy,afl]at h;obtain⟨h0,h⟩:=and_true h;have h0:nZ cx g=0:=by simpa using h0
        obtain⟨x,U,T,hk,hg⟩:=E3 hO h;exact⟨x,U,T,hk,λh1=>by omega,hg⟩
      | false=>
        rw[hy,afk]at h;obtain⟨x,U,T,hk,htl,hg⟩:=oC hO (base:=base) h;exact⟨x,U,T,hk,htl,λG w ρ L us hG _ hb hs hr hT hU=>by intro o a N Q hN;exact hg G w ρ L us hG hb hs hr hT hU o a N Q λv w' ⟨ρ',h1,h2,h3,h4,_⟩=>hN v w' ⟨ρ',h1,h2,h3,h4⟩⟩
theorem BC (hO:OS cx) (hb:base<=M.length) {c:Call} {f:Operand} (hc:c.callee=.value f) (h:opV cx base F M (.call c) k=true):∃ z U T,(bG cx.P base F M (.call c) z U T/\k z U T=true) /\ ∀ n,n ∈ nn cx F M (.call c)->Tail (aq M n) (bg (aq M) U n):=by
 obtain⟨callee,args,argTypes⟩:=c;simp only at hc;subst hc;simp only[opV]at h;split at h
 ·rename_i g caps ef;have hops':∀{G:Gh} {w:World} {ρ:Rho} {L:LK} {a:Act},(∀ y,y ∈ (Op.call ⟨.value f,args,argTypes⟩).operands->Rep (okc G ρ L) w ρ (ev F y) (a.eval y))->RepL (okc G ρ L) w ρ (args.toList.map (ev F)) (args.toList.map a.eval)/\Rep (okc G ρ L) w ρ (.fn g caps) (a.eval f):=by intro G w ρ L a hops;have hf:=hops f (by simp[Op.operands,Call.operands]); rw[ef]at hf;refine⟨⟨by simp,λi c u hc hu=>?_⟩,hf⟩;rw[List.getElem?_map]at hc hu;obtain⟨y,hy,rfl⟩:=Option.map_eq_some_iff.1 hc;obtain⟨y',hy',rfl⟩:=Option.map_eq_some_iff.1 hu;rw[hy]at hy'; cases hy';have:=List.mem_of_getElem? hy;exact hops y (by simp only[Op.operands,Call.operands]; simp at this ⊢; exact .inr this)
  cases hm:Nat.ble g 999999 with
  | false=>
   rw[hm,afk]at h;have hge:1000000<=g:=by
    rcases agb 999999 g with h | h
    ·exact h
    ·rw[Nat.ble_eq_true_of_le h]at hm; cases hm
   obtain⟨gm,hgm⟩:∃ m,m=g - 1000000:=⟨_,rfl⟩
   rw[<- hgm]at h;obtain⟨x,U,T,hk,htl,hg⟩:=yH hO h;refine⟨x,U,T,⟨?_,hk⟩,λn hn=>?_⟩
   rotate_left
   ·exfalso;simp only[nn,ef]at hn;split at hn
    ·rename_i g0 c0 n' o0 r0 e1 e2;cases e1;rw[hm,ahY,afk]at hn;cases hn
    ·cases hn
   intro G w ρ L a o' ho hbase hex hsim hops hT hnew N Q hn;obtain⟨hargs,hf⟩:=hops' hops;obtain⟨us,hv,hl,hr⟩:=hf.fn_inv;have hv:a.eval f=.func (.func gm) us.toArray #[]:=by rw[hgm];exact hv.elim (λq=>absurd q.1 (Nat.not_lt.2 hge)) (λq=>q.2)
   have hcall:=hg G w ρ L _ hbase hex hb hsim (RepL.append ⟨hl,hr⟩ hargs) hT hnew;have hrun:(execOp a.eval o').run cx.P w=(callFunc gm (us++args.toList.map a.eval).toArray).run cx.P w:=by
    unfold execOp;simp only[ho,resolve,hv,Deferred.ofValue,Sem.run_bind,Sem.run_pure,Result.andThen_ok,invoke];have e:us.toArray++args.map a.eval ++ #[]=(us++args.toList.map a.eval).toArray:=by apply ahq; simp
    rw[e]
   unfold Oper.wp;rw[hrun];exact hcall o' a N Q λv w' ⟨ρ',h1,h2,h3,h4⟩=>hn v w' ρ' h1 h2 h3 h4
  | true=>
  rw[hm,afl]at h;have hlt:g<1000000:=ahU (ahh hm);obtain⟨x,U,T,hk,htl,hg⟩:=yH hO h;refine⟨x,U,T,⟨?_,hk⟩,λn hn=>?_⟩
  rotate_left
  ·simp only[nn,ef]at hn;split at hn
   ·rename_i g0 c0 n' o0 r0 e1 e2;cases e1;rw[hm,agq]at hn;cases hq:(nZ cx g==1&&(o0==0&&decide (n'<M.length)))with
    | false=>rw[hq,afk]at hn; cases hn
    | true=>
     rw[hq,afl]at hn;obtain⟨q1,q2⟩:=and_true hq;obtain⟨_,q2⟩:=and_true q2;simp only[ain]at hn;subst hn;exact htl (by simpa using q1) _ (afp q2)
   ·cases hn
  intro G w ρ L a o' ho hbase hex hsim hops hT hnew N Q hn;obtain⟨hargs,hf⟩:=hops' hops;obtain⟨us,hv,hl,hr⟩:=hf.fn_inv;have hv:a.eval f=.func (.func g) #[] us.toArray:=by exact hv.elim (λq=>q.2) (λq=>absurd hlt (Nat.not_lt.2 q.1))
  have hcall:=hg G w ρ L _ hbase hex hb hsim (hargs.append ⟨hl,hr⟩) hT hnew;have hrun:(execOp a.eval o').run cx.P w=(callFunc g (args.toList.map a.eval++us).toArray).run cx.P w:=by
   unfold execOp;simp only[ho,resolve,hv,Deferred.ofValue,Sem.run_bind,Sem.run_pure,Result.andThen_ok,invoke];have e : #[]++args.map a.eval++us.toArray=(args.toList.map a.eval++us).toArray:=by apply ahq; simp
   rw[e]
  unfold Oper.wp;rw[hrun];exact hcall o' a N Q λv w' ⟨ρ',h1,h2,h3,h4⟩=>hn v w' ρ' h1 h2 h3 h4
 ·cases h
theorem ux (hO:OS cx) (hb:base<=M.length) {o:Op} (h:opV cx base F M o k=true):∃ z U T,bG cx.P base F M o z U T/\k z U T=true:=by
 cases o with
 | move x=>exact IP h
 | assign x=>exact En h
 | pick c a b=>exact IQ h
 | alloc t=>exact GQ h
 | box t v=>exact Ms h
 | build t ps=>exact GS h
 | buildSlice t n ps=>exact yn h
 | load t x=>exact IM h
 | store t x y=>exact GX h
 | nilCheck x=>exact BE h
 | binOp op t x y yt=>exact GR h
 | unOp op t x=>exact IU h
 | convert s d x=>exact Ch h
 | makeFunc f a b=>exact BD h
 | makeSlice t l c=>exact zH h
 | slice t x l u m=>exact GW h
 | fieldAddr t x f=>exact zF h
 | field t x f=>exact GT h
 | indexAddr t x i=>exact zG h
 | index t x i=>exact GU h
 | extract x i=>exact Ci h
 | call c=>
  cases hc:c.callee with
  | value f=>
   obtain⟨z,U,T,h1,_⟩:=BC hO hb hc h;exact⟨z,U,T,h1⟩
  | invoke r m=>simp[opV,hc]at h
  | builtin b=>
   cases b <;> first
    | exact Mt hc h
    | exact Em hc h
    | exact GV true hc (by have h':=h; simp only[opV,hc]at h'; exact h')
    | exact GV false hc (by have h':=h; simp only[opV,hc]at h'; exact h')
    | (simp[opV,hc]at h)
 | _=>simp[opV]at h
theorem IA (hO:OS cx) (hb:base<=M.length) {o:Op} (h:opV cx base F M o k=true):∃ z U T,(bG cx.P base F M o z U T/\k z U T=true) /\ ∀ n,n ∈ nn cx F M o->Tail (aq M n) (bg (aq M) U n):=by
 have plain:nn cx F M o=[] -> ∃ z U T,(bG cx.P base F M o z U T/\k z U T=true) /\ ∀ n,n ∈ nn cx F M o->Tail (aq M n) (bg (aq M) U n):=by intro e;obtain⟨z,U,T,h1⟩:=ux hO hb h;exact⟨z,U,T,h1,λn hn=>by rw[e]at hn; cases hn⟩
 cases o with
 | call c=>
  cases hc:c.callee with
  | value f=>exact BC hO hb hc h
  | _=>exact plain (by simp[nn,hc])
 | _=>exact plain rfl
def Dq (P:Program) (base:Nat) (F:List V) (M:aL) (o:Op) (x:V) (n:Nat):Prop:=
 ∀(G:Gh) (w:World) (ρ:Rho) (L:LK) (a:Act) (o':Oper),o'.op=o->G.base=base->(∀ b,¬ G.ex b)->SimW G w ρ L ->
  (∀ y,y ∈ o.operands->Rep (okc G ρ L) w ρ (ev F y) (a.eval y))->Tail (L n) (aq M n) ->
  ∀(N:Act->World->Prop) (Q:Exit->Act->World->Prop),(∀ v,Rep (okc G ρ L) w ρ x v->N (a.put o'.dst v) w)->o'.wp P a w N Q
theorem IR {o:Op} {n:Nat} (ht:ED F M o=some n) (h:opV cx base F M o k=true):∃ z T,Dq cx.P base F M o z n/\k z [] T=true:=by
 unfold ED at ht;split at ht
 ·rename_i t x;split at ht
  ·rename_i n' p0 e;split at ht
   ·rename_i eb sz cs hM;cases p0 with
    | zero=>cases ht
    | succ p=>
    cases ht;simp only[opV]at h;split at h
    ·rename_i ag s hag hsz;rw[e]at h;simp only[hM]at h;have main:∀ z,((ag=true /\ ∃ zs,z=.agg zs/\zs.length=s /\ ∀(i:Nat) c,zs[i]? = some c->cs[p+1+i]? = some c)\/(ag=false/\cs[p+1]? = some z))->Dq cx.P base F M (.load t x) z n:=by
      intro z hz G w ρ L a o' ho hG hex hs hops hT N Q hn;have hx:=hops x (by simp[Op.operands]); rw[e]at hx;obtain⟨pl,hp,hv⟩:=hx.ptr_inv;obtain⟨cs',hL,hat⟩:∃ cs',L n=some ⟨eb,sz,.cells cs'⟩ /\ ∀ i,cs'[i+1]? = cs[i+1]?:=by
       rcases hT with h1 | ⟨e1,s1,v,v',r,h1,h2⟩
       ·exact⟨cs,by rw[h1,hM],λ_=>rfl⟩
       ·rw[hM]at h2;simp only[afN,Blk.mk.injEq,Body.cells.injEq]at h2;obtain⟨rfl,rfl,rfl⟩:=h2;exact⟨v::r,h1,λi=>by simp⟩
      obtain⟨cur,c1,c2,c3,c4,c5,c6⟩:=hs.place hL hp;have key:∃ v,(Instr.loadAt t (.pointer (some ⟨pl.b,p+1,none⟩))).run cx.P w=.ok v w/\Rep (okc G ρ L) w ρ z v:=by
       refine jA hag hsz ?_;rcases hz with⟨h1,zs,h2,h3,h4⟩ | ⟨h1,h2⟩
       ·refine .inl ⟨h1,zs,h2,h3,λi c hc=>?_⟩;have h5:=h4 i c hc;rw[show p+1+i=p+i+1 from by omega,<- hat]at h5;obtain⟨v,g1,g2,g3⟩:=c6 _ _ h5;exact⟨v,by rw[show p+1+i=p+i+1 from by omega]; exact aW c1 g1,g2,g3⟩
       ·rw[<- hat]at h2;obtain⟨v,g1,g2,g3⟩:=c6 _ _ h2;exact .inr ⟨h1,v,aW c1 g1,g3⟩
      obtain⟨v,h1,h2⟩:=key;exact dY (by simp[execOp,ho,hv,h1]) (hn v h2)
     cases ag
     ·simp only[afk]at h;obtain⟨z,hz,hk⟩:=Body.get_sound h;exact⟨_,_,main z (.inr ⟨rfl,hz⟩),hk⟩
     ·simp only[afl]at h;obtain⟨zs,hl,hz,hk⟩:=Body.part_sound h;exact⟨_,_,main _ (.inl ⟨rfl,zs,rfl,hl,hz⟩),hk⟩
    ·cases h
   ·cases ht
  ·cases ht
 ·cases ht
end
def Dfs (G:Gh) (a:Act):Prop:=a.defers=G.ds /\ ∀ t,G.dt=some t->a.tmps.getD t undef=G.dv
structure Sim (G:Gh) (w:World) (ρ:Rho) (s:St) (a:Act):Prop where
 sim:SimW G w ρ (aq s.M)
 noex:∀ b,¬ G.ex b
 dom:∀ n,s.M.length<=n->ρ n=none
 defers:Dfs G a
 fr:∀ t,Rep (okc G ρ (aq s.M)) w ρ (s.F.getD t .any) (a.tmps.getD t undef)
 size:a.tmps.size=s.F.length
 base:G.base<=s.M.length
theorem IE {ok:Nat->Prop} {w:World} {ρ:Rho} {F:List V} {a:Act} (h:∀ t,Rep ok w ρ (F.getD t .any) (a.tmps.getD t undef)) (y:Operand):Rep ok w ρ (ev F y) (a.eval y):=by
 cases y with
 | tmp t=>exact h t
 | const v=>exact vY v
 | global g=>exact .val _
 | func f=>
  show Rep ok w ρ (cond (Nat.ble f 999999) (.fn f []) .any) _;cases hm:Nat.ble f 999999 with
  | false=>exact .any _
  | true=>exact .fn f [] [] _ rfl (by simp) (.inl ⟨ahU (ahh hm),rfl⟩)
theorem nF (F:List V) (d:Option Nat) (x:V) (t:Nat):(kS F d x).getD t .any=if d=some t/\t<F.length then x else F.getD t .any:=by
 cases d with
 | none=>simp[kS]
 | some u=>
  simp only[kS,List.getD,List.getElem?_set,afN];by_cases e:u=t
  ·subst e;by_cases h:u<F.length
   ·simp[h]
   ·simp[h]
  ·simp[e]
theorem zm (F:List V) (d:Option Nat) (x:V):(kS F d x).length=F.length:=by cases d <;> simp[kS]
theorem pX (a:Act) (d:Option Nat) (v:Value) (t:Nat):(a.put d v).tmps.getD t undef=if d=some t/\t<a.tmps.size then v else a.tmps.getD t undef:=by
 cases d with
 | none=>simp[Act.put]
 | some u=>
  simp only[Act.put,Array.getD_eq_getD_getElem?,Array.getElem?_setIfInBounds,afN];by_cases e:u=t
  ·subst e;by_cases h:u<a.tmps.size
   ·simp[h]
   ·simp[h]
  ·simp[e]
theorem fM (a:Act) (d:Option Nat) (v:Value):(a.put d v).tmps.size=a.tmps.size:=by cases d <;> simp[Act.put]
theorem da (a:Act) (d:Option Nat) (v:Value):(a.put d v).defers=a.defers:=by cases d <;> rfl
theorem Dfs.put {G:Gh} {a:Act} (h:Dfs G a) {d:Option Nat} (hd:NC G d) (v:Value):Dfs G (a.put d v):=
 ⟨by rw[da]; exact h.1,λt ht=>by rw[pX,if_neg (λe=>hd t ht e.1)]; exact h.2 t ht⟩
theorem Sim.put {G:Gh} {w w':World} {ρ ρ':Rho} {s:St} {a:Act} (h:Sim G w ρ s a) {U:Upd} {d:Option Nat} {x:V} {v:Value} (h1:SimW G w' ρ' (bg (aq s.M) U)) (h2:Rep (okc G ρ' (bg (aq s.M) U)) w' ρ' x v)
  (h3:Keeps (okc G ρ (aq s.M)) w ρ (okc G ρ' (bg (aq s.M) U)) w' ρ') (h4:∀ n,ρ' n ≠ ρ n->n ∈ U.map (·.1)) (hd:NC G d):Sim G w' ρ' ⟨kS s.F d x,nj s.M U⟩ (a.put d v):=by
 obtain⟨u1,u2,u3⟩:=lF U s.M;refine⟨by rw[u1]; exact h1,h.noex,λn hn=>?_,h.defers.put hd v,λt=>?_,by rw[fM,zm]; exact h.size,afG h.base u2⟩
 ·by_cases e:ρ' n=ρ n
  ·rw[e]; exact h.dom n (by have hn:(nj s.M U).length<=n:=hn; omega)
  ·have hn:(nj s.M U).length<=n:=hn;have:=u3 n (h4 n e); omega
 ·show Rep (okc G ρ' (aq (nj s.M U))) w' ρ' ((kS s.F d x).getD t .any) ((a.put d v).tmps.getD t undef);rw[u1,nF,pX,h.size];split
  ·exact h2
  ·exact(h.fr t).mono h3
theorem B0 {G:Gh} {w:World} {ρ:Rho} {s:St} {a:Act} (h:Sim G w ρ s a) {all:Array Oper} {j t:Nat} {b:Bool} (hg:fE all j=some t) (hb:s.F.getD t .any=.bool b):yielded all a.tmps j=some b/\t<s.F.length:=by
 have hr:=h.fr t;rw[hb]at hr;have hv:=hr.bool_inv;have hlt:t<s.F.length:=by
  rcases agb t s.F.length with h1 | h1
  ·exact h1
  ·rw[List.getD,List.getElem?_eq_none h1]at hb; cases hb
 refine⟨?_,hlt⟩;unfold fE at hg;unfold yielded;rw[hg];have hs:t<a.tmps.size:=by rw[h.size]; exact hlt
 simp only[aiz];rw[Array.getD_eq_getD_getElem?]at hv;rw[Array.getElem?_eq_getElem hs]at hv ⊢;simp only[af8]at hv;rw[hv]
theorem p7 {F:List V} {t:Nat} {x:V} (h:F.getD t .any=x):F.set t x=F:=by
 apply List.ext_getElem?;intro i;rw[List.getElem?_set];split
 ·rename_i e;subst e;split
  ·rename_i h1; rw[List.getD,List.getElem?_eq_getElem h1]at h; simp at h; rw[<- h,List.getElem?_eq_getElem h1]
  ·rename_i h1; rw[List.getElem?_eq_none (by omega)]
 ·rfl
theorem Hg {G:Gh} {w:World} {ρ:Rho} {s:St} {a:Act} (h:Sim G w ρ s a) {all:Array Oper} {j t:Nat} {v:Value} (hg:fE all j=some t) (hb:s.F.getD t .any=.val v) (hv:DI v=false):yielded all a.tmps j=none:=by
 have hr:=h.fr t;rw[hb]at hr;have hu:=hr.val_inv;unfold fE at hg;unfold yielded;rw[hg];have ht:t<s.F.length:=by
  rcases agb t s.F.length with h | h
  ·exact h
  ·rw[List.getD_eq_getElem?_getD,List.getElem?_eq_none h]at hb; cases hb
 have hts:t<a.tmps.size:=by rw[h.size]; exact ht
 have e:a.tmps[t]? = some v:=by rw[Array.getD_eq_getD_getElem?,Array.getElem?_eq_getElem hts]at hu;rw[Array.getElem?_eq_getElem hts];exact aio some hu
 simp only[aiz,e];cases v <;> first | rfl | cases hv
theorem qU {cx:Cx} (hO:OS cx) {base:Nat} {all:Array Oper}:∀(l:List Oper) (s:St) (k:St->Bool),base<=s.M.length->Gs cx base all l s k=true ->
  ∃ s',k s'=true/\base<=s'.M.length /\ ∀(G:Gh) (w:World) (ρ:Rho) (a:Act),G.base=base/\z7 G l->Sim G w ρ s a -> ∀(Q:Exit->Act->World->Prop),
   (∀ w' ρ' a',Sim G w' ρ' s' a'->(∀ n q,n<base->ρ n=some q->ρ' n=some q)->Q .normal a' w')->wpList cx.P all Q l a w
 | [],s,k,hb,h=>⟨s,h,hb,λG w ρ a _ hs Q hq=>hq w ρ a hs λ_ _ _ h=>h⟩
 | o::r,s,k,hb,h=>by
  have step:∀(x:V) (U:Upd) (T:List Nat),bG cx.P base s.F s.M o.op x U T->Gs cx base all r ⟨kS s.F o.dst x,nj s.M U⟩ k=true ->
    ∃ s',k s'=true/\base<=s'.M.length /\ ∀(G:Gh) (w:World) (ρ:Rho) (a:Act),G.base=base/\z7 G (o::r)->Sim G w ρ s a->Region.wanted o (yielded all a.tmps)=true -> ∀(Q:Exit->Act->World->Prop),
     (∀ w' ρ' a',Sim G w' ρ' s' a'->(∀ n q,n<base->ρ n=some q->ρ' n=some q)->Q .normal a' w')->wpList cx.P all Q (o::r) a w:=by
   intro x U T hgood hr;obtain⟨u1,u2,u3⟩:=lF U s.M;obtain⟨s',hk,hb',hs'⟩:=qU hO r ⟨kS s.F o.dst x,nj s.M U⟩ k (afG hb u2) hr;refine⟨s',hk,hb',λG w ρ a hG hs hw Q hq=>?_⟩;unfold wpList;rw[if_pos hw];refine .inl (hgood G w ρ (aq s.M) a o rfl hG.1 hs.noex hs.sim (λy _=>IE hs.fr y) (λ_ _=>rfl) (λn b _ hn=>⟨hs.dom n hn,by have:=hG.1; omega⟩) _ _ λv w' ρ' h1 h2 h3 h4=>?_);exact hs' G w' ρ' _ ⟨hG.1,λo' ho'=>hG.2 o' (afE _ ho')⟩ (hs.put h1 h2 h3 h4 (hG.2 o (ahr ..))) Q λw'' ρ'' a' hsim hrho=>hq w'' ρ'' a' hsim λn q hn hq'=>hrho n q hn (h3.rho n q hq')
  simp only[Gs]at h;split at h
  ·rename_i hg;obtain⟨x,U,T,hgood,hr⟩:=ux hO hb h;obtain⟨s',hk,hb',hs'⟩:=step x U T hgood hr;exact⟨s',hk,hb',λG w ρ a hG hs Q hq=>hs' G w ρ a hG hs (by simp[Region.wanted,hg]) Q hq⟩
  ·rename_i j want hg;split at h
   ·rename_i t ht;split at h
    ·rename_i b hb0;cases e:(b==want)with
     | true=>
      obtain rfl:b=want:=by simpa using e
      rw[e,afl,p7 hb0]at h;obtain⟨x,U,T,hgood,hr⟩:=ux hO hb h;obtain⟨s',hk,hb',hs'⟩:=step x U T hgood hr;exact⟨s',hk,hb',λG w ρ a hG hs Q hq=>hs' G w ρ a hG hs (by simp[Region.wanted,hg,(B0 hs ht hb0).1]) Q hq⟩
     | false=>
      have hbw:b = !want:=by cases b <;> cases want <;> simp at e ⊢
      rw[e,afk,<- hbw,p7 hb0]at h;obtain⟨s',hk,hb',hs'⟩:=qU hO r ⟨kS s.F o.dst (.val undef),s.M⟩ k hb h;refine⟨s',hk,hb',λG w ρ a hG hs Q hq=>?_⟩;unfold wpList;rw[if_neg (by simp[Region.wanted,hg,(B0 hs ht hb0).1]; intro e'; rw[e']at e; simp at e)];refine hs' G w ρ _ ⟨hG.1,λo' ho'=>hG.2 o' (afE _ ho')⟩ ?_ Q hq;have:=hs.put (U:=[]) (d:=o.dst) (x:=.val undef) (v:=undef) hs.sim (.val _) (Keeps.refl _ _ _) (λn hn=>absurd rfl hn) (hG.2 o (ahr ..));exact this
    ·rename_i v hv0;cases hbv:DI v with
     | true=>rw[hbv,afl]at h; cases h
     | false=>
      rw[hbv,afk]at h;obtain⟨s',hk,hb',hs'⟩:=qU hO r ⟨kS s.F o.dst (.val undef),s.M⟩ k hb h;refine⟨s',hk,hb',λG w ρ a hG hs Q hq=>?_⟩;unfold wpList;rw[if_neg (by simp[Region.wanted,hg,Hg hs ht hv0 hbv])];refine hs' G w ρ _ ⟨hG.1,λo' ho'=>hG.2 o' (afE _ ho')⟩ ?_ Q hq;have:=hs.put (U:=[]) (d:=o.dst) (x:=.val undef) (v:=undef) hs.sim (.val _) (Keeps.refl _ _ _) (λn hn=>absurd rfl hn) (hG.2 o (ahr ..));exact this
    ·cases h
   ·cases h
structure Tr where
 o:Oper
 F:List V
 M:aL
 x:V
 U:Upd
 T:List Nat
 C:List Nat
 Hd:List Nat
def Tr.did (all:Array Oper) (t:Tr):Did:=⟨t.o.dst,Oper.reads all t.o,t.U.map (·.1),t.T,t.C,t.Hd⟩
def Tr.good (P:Program) (base:Nat) (t:Tr):Prop:=
 (bG P base t.F t.M t.o.op t.x t.U t.T/\t.C=[] /\ ∀ n,n ∈ t.Hd->Tail (aq t.M n) (bg (aq t.M) t.U n)) \/
 (∃ n,t.C=[n]/\t.U=[]/\t.T=[]/\t.Hd=[]/\Dq P base t.F t.M t.o.op t.x n)
def Tr.ok (P:Program) (base:Nat) (all:Array Oper) (t:Tr):Prop:=
 ((t.o.guard=none \/ ∃ j want g,t.o.guard=some (j,want)/\fE all j=some g/\t.F.getD g .any=.bool want)/\t.good P base) \/
 (∃ j want g b,t.o.guard=some (j,want)/\fE all j=some g/\t.F.getD g .any=.bool b/\b ≠ want/\t.x=.any/\t.U=[]/\t.T=[]/\t.C=[]/\t.Hd=[])
def EG (P:Program) (base:Nat) (all:Array Oper):List Oper->St->List Tr->St->Prop
 | [],s,[],s'=>s=s'
 | o::r,s,t::ts,s'=>t.o=o/\t.F=s.F/\t.M=s.M/\base<=s.M.length/\t.ok P base all/\EG P base all r ⟨kS s.F o.dst t.x,nj s.M t.U⟩ ts s'
 | _,_,_,_=>False
def xC (m:Nat) (l:List Nat):Prop:=∀ i,m.testBit i=true->i ∈ l
theorem C2 (accM:List Nat) (acc:List (List Nat)) (hacc:∀ j,xC (accM.getD j 0) (acc.getD j [])):∀(es:List Edge) (m:Nat) (l:List Nat),xC m l ->
  xC (es.foldl (λm e=>cond (Region.binds .any e) (m ||| (1 <<< e.on ||| accM.getD e.on 0)) m) m) (l++(es.map λe=>cond (Region.binds .any e) (e.on::acc.getD e.on []) []).flatten)
 | [],m,l,h=>by simpa using h
 | e::es,m,l,h=>by
  rw[List.foldl_cons,agl,ahl,<- afC];refine C2 accM acc hacc es _ _ ?_;intro i hi;cases hb:Region.binds .any e with
  | false=>
   rw[hb,afk]at hi;exact agG _ (h i hi)
  | true=>
   rw[hb,afl,Nat.testBit_or,Nat.testBit_or]at hi;simp only[aic]at hi;rcases hi with hi | hi | hi
   ·exact agG _ (h i hi)
   ·refine agk _ ?_;rw[afl];have:i=e.on:=by rw[Nat.one_shiftLeft,ahg]at hi;have:=afp hi;exact this.symm
    subst this;exact ahr
   ·refine agk _ ?_;rw[afl];exact afE _ (hacc e.on i hi)
theorem yY:∀(ops:List Oper) (accM:List Nat) (acc:List (List Nat)),accM.length=acc.length->(∀ j,xC (accM.getD j 0) (acc.getD j [])) -> ∀ j,xC ((JJ ops accM).getD j 0) ((jv ops acc).getD j [])
 | [],accM,acc,_,h=>h
 | o::r,accM,acc,hl,h=>by
  simp only[JJ,jv];refine yY r _ _ (by simp[hl]) λj=>?_
  have hnew:=C2 accM acc h o.after.toList 0 [] (λi hi=>by simp at hi);rw[aga]at hnew;rw[List.getD_eq_getElem?_getD,List.getD_eq_getElem?_getD];by_cases hj:j<accM.length
  ·rw[List.getElem?_append_left hj,List.getElem?_append_left (by omega),<- List.getD_eq_getElem?_getD,<- List.getD_eq_getElem?_getD];exact h j
  ·by_cases hj':j=accM.length
   ·subst hj';rw[List.getElem?_append_right (afw _),afT,hl,List.getElem?_append_right (afw _),afT];exact hnew
   ·rw[List.getElem?_append_right (by omega),List.getElem?_append_right (by omega),List.getElem?_eq_none (by simp; omega),List.getElem?_eq_none (by simp; omega)];intro i hi;simp at hi
theorem sW {cloM:List Nat} {clo:List (List Nat)} (hc:∀ j,xC (cloM.getD j 0) (clo.getD j [])):∀(rest:List Did) (i:Nat) (pre:List Did) (j:Nat),xa cloM i pre j rest=true->lY clo i pre j rest=true
 | [],_,_,_,_=>rfl
 | y::r,i,pre,j,h=>by
  simp only[xa]at h;obtain⟨h1,h2⟩:=and_true h;simp only[lY];rw[sW hc r i _ _ h2,ahB];refine List.all_eq_true.2 λp hp=>?_
  have:=List.all_eq_true.1 h1 p hp;simp only[aic]at this ⊢;rcases this with h3 | h3
  ·exact .inl (List.contains_iff_mem.2 (hc j p.2 h3))
  ·exact .inr h3
theorem yM {cx:Cx} (hO:OS cx) {base:Nat} {all:Array Oper}:∀(l:List Oper) (s:St) (tr:List Did) (k:St->Bool),base<=s.M.length->uR cx base all l s tr k=true ->
  ∃ ts s',EG cx.P base all l s ts s'/\lY (jv all.toList []) 0 [] 0 (tr++ts.map (Tr.did all))=true/\oG 0 all.toList=true/\k s'=true
 | [],s,tr,k,hb,h=>by
  simp only[uR]at h;obtain⟨h1,h2⟩:=and_true h;obtain⟨h3,h4⟩:=and_true h1;have h3:=sW (yY all.toList [] [] rfl (λj i hi=>by simp at hi)) _ _ _ _ h3;exact⟨[],s,rfl,by simpa using h3,h4,h2⟩
 | o::r,s,tr,k,hb,h=>by
  have step:∀(x:V) (U:Upd) (T C Hd:List Nat),Tr.ok cx.P base all ⟨o,s.F,s.M,x,U,T,C,Hd⟩->uR cx base all r ⟨kS s.F o.dst x,nj s.M U⟩ (tr++[⟨o.dst,Oper.reads all o,U.map (·.1),T,C,Hd⟩]) k=true ->
    ∃ ts s',EG cx.P base all (o::r) s ts s'/\lY (jv all.toList []) 0 [] 0 (tr++ts.map (Tr.did all))=true/\oG 0 all.toList=true/\k s'=true:=by
   intro x U T C Hd hok hr;obtain⟨_,u2,_⟩:=lF U s.M;obtain⟨ts,s',h1,h2,h3,h4⟩:=yM hO r _ _ k (afG hb u2) hr;refine⟨⟨o,s.F,s.M,x,U,T,C,Hd⟩::ts,s',⟨rfl,rfl,rfl,hb,hok,h1⟩,?_,h3,h4⟩;rw[afC]at h2;exact h2
  have one:∀(hgd:o.guard=none \/ ∃ j want g,o.guard=some (j,want)/\fE all j=some g/\s.F.getD g .any=.bool want),opV cx base s.F s.M o.op (λv U T=>uR cx base all r ⟨kS s.F o.dst v,nj s.M U⟩ (tr++[Ak cx s.F s.M all o U T]) k)=true ->
    ∃ ts s',EG cx.P base all (o::r) s ts s'/\lY (jv all.toList []) 0 [] 0 (tr++ts.map (Tr.did all))=true/\oG 0 all.toList=true/\k s'=true:=by
   intro hgd h;cases ht:ED s.F s.M o.op with
   | some n=>
    obtain⟨x,T,hgood,hr⟩:=IR ht h;have e:Ak cx s.F s.M all o [] T=⟨o.dst,Oper.reads all o,[],[],[n],[]⟩:=by unfold Ak; rw[ht]; rfl
    rw[e]at hr;exact step x [] [] [n] [] (.inl ⟨hgd,.inr ⟨n,rfl,rfl,rfl,rfl,hgood⟩⟩) hr
   | none=>
    obtain⟨x,U,T,⟨hgood,hr⟩,hhd⟩:=IA hO hb h;have e:Ak cx s.F s.M all o U T=⟨o.dst,Oper.reads all o,U.map (·.1),T,[],nn cx s.F s.M o.op⟩:=by unfold Ak; rw[ht]
    rw[e]at hr;exact step x U T [] _ (.inl ⟨hgd,.inl ⟨hgood,rfl,hhd⟩⟩) hr
  simp only[uR]at h;split at h
  ·rename_i hg;exact one (.inl hg) h
  ·rename_i j want hg;split at h
   ·rename_i t ht;split at h
    ·rename_i b hb0;cases e:(b==want)with
     | true=>
      obtain rfl:b=want:=by simpa using e
      rw[e,afl,p7 hb0]at h;exact one (.inr ⟨j,b,t,hg,ht,hb0⟩) h
     | false=>
      have hbw:b = !want:=by cases b <;> cases want <;> simp at e ⊢
      rw[e,afk,<- hbw,p7 hb0]at h;refine step .any [] [] [] [] (.inr ⟨j,want,t,b,hg,ht,hb0,?_,rfl,rfl,rfl,rfl,rfl⟩) h;intro e'; rw[e']at e; simp at e
    ·cases h
   ·cases h
def qq (S:Nat->Bool):Nat->List Tr->(Nat->V)->Nat->V
 | _,[],f=>f
 | i,t::ts,f=>qq S (i+1) ts (if S i=true then λu=>if t.o.dst=some u/\u<t.F.length then t.x else f u else f)
def ju (S:Nat->Bool):Nat->List Tr->LK->LK
 | _,[],L=>L
 | i,t::ts,L=>ju S (i+1) ts (if S i=true then bg L t.U else L)
theorem BV:∀(U:Upd) (L L':LK) (m:Nat),m ∈ U.map (·.1)->bg L U m=bg L' U m
 | [],_,_,_,h=>by simp at h
 | (n,b)::r,L,L',m,h=>by
  by_cases h1:m ∈ r.map (·.1)
  ·exact BV r _ _ m h1
  ·simp only[agl,agJ]at h;have e:m=n:=h.resolve_right h1;subst e;simp only[bg,cM r _ _ h1];simp[aI]
theorem lD {S S':Nat->Bool} {u:Nat}:∀(ts:List Tr) (i:Nat) (f f':Nat->V),(∀(j:Nat) t,ts[j]? = some t->t.o.dst=some u->S (i+j)=S' (i+j))->f u=f' u->qq S i ts f u=qq S' i ts f' u
 | [],i,f,f',_,h=>h
 | t::ts,i,f,f',hag,h=>by
  simp only[qq];refine lD ts (i+1) _ _ (λj t' hj hd=>by have:=hag (j+1) t' (by simpa using hj) hd; rwa [show i+(j+1)=i+1+j from by omega]at this) ?_;by_cases hd:t.o.dst=some u
  ·have:=hag 0 t (by simp) hd;rw[afR]at this;rw[this];cases S' i <;> simp[h]
  ·cases S i <;> cases S' i <;> simp[hd,h]
theorem lE {S S':Nat->Bool} {m:Nat}:∀(ts:List Tr) (i:Nat) (L L':LK),(∀(j:Nat) t,ts[j]? = some t->m ∈ t.U.map (·.1)->S (i+j)=S' (i+j))->L m=L' m->ju S i ts L m=ju S' i ts L' m
 | [],i,f,f',_,h=>h
 | t::ts,i,L,L',hag,h=>by
  simp only[ju];refine lE ts (i+1) _ _ (λj t' hj hd=>by have:=hag (j+1) t' (by simpa using hj) hd; rwa [show i+(j+1)=i+1+j from by omega]at this) ?_;by_cases hd:m ∈ t.U.map (·.1)
  ·have:=hag 0 t (by simp) hd;rw[afR]at this;rw[this];cases S' i
   ·simpa using h
   ·simpa using BV t.U L L' m hd
  ·cases S i <;> cases S' i <;> simp[cM _ _ _ hd,h]
theorem tS {S:Nat->Bool}:∀(ts:List Tr) (i:Nat) (f:Nat->V),(∀ j,i<=j->S j=false)->qq S i ts f=f
 | [],i,f,_=>rfl
 | t::ts,i,f,h=>by simp only[qq,h i (afw _),af9,afS];exact tS ts (i+1) f λj hj=>h j (by omega)
theorem tT {S:Nat->Bool}:∀(ts:List Tr) (i:Nat) (L:LK),(∀ j,i<=j->S j=false)->ju S i ts L=L
 | [],i,f,_=>rfl
 | t::ts,i,f,h=>by simp only[ju,h i (afw _),af9,afS];exact tT ts (i+1) f λj hj=>h j (by omega)
structure LexAt (P:Program) (base:Nat) (all:Array Oper) (l:List Oper) (s:St) (ts:List Tr) (i0 i:Nat) (t:Tr):Prop where
 op:l[i]? = some t.o
 len:t.F.length=s.F.length
 ok:t.ok P base all
 base:base<=t.M.length
 mono:s.M.length<=t.M.length
 keys:∀(j:Nat) t',j<i->ts[j]? = some t' -> ∀ m,m ∈ t'.U.map (·.1)->m<t.M.length
 fr:∀ u,t.F.getD u .any=qq (λj=>decide (j<i0+i)) i0 ts (λu=>s.F.getD u .any) u
 fr':∀ u,(kS t.F t.o.dst t.x).getD u .any=qq (λj=>decide (j<i0+i+1)) i0 ts (λu=>s.F.getD u .any) u
 lk:aq t.M=ju (λj=>decide (j<i0+i)) i0 ts (aq s.M)
 lk':bg (aq t.M) t.U=ju (λj=>decide (j<i0+i+1)) i0 ts (aq s.M)
structure Lex (P:Program) (base:Nat) (all:Array Oper) (l:List Oper) (s:St) (ts:List Tr) (s':St) (i0:Nat):Prop where
 len:l.length=ts.length
 each:∀(i:Nat) t,ts[i]? = some t->LexAt P base all l s ts i0 i t
 flen:s'.F.length=s.F.length
 mono:s.M.length<=s'.M.length
 keys:∀(j:Nat) t',ts[j]? = some t' -> ∀ m,m ∈ t'.U.map (·.1)->m<s'.M.length
 fr:∀ u,s'.F.getD u .any=qq (λ_=>true) i0 ts (λu=>s.F.getD u .any) u
 lk:aq s'.M=ju (λ_=>true) i0 ts (aq s.M)
theorem Cu {P:Program} {base:Nat} {all:Array Oper}:∀(l:List Oper) (s:St) (ts:List Tr) (s':St),EG P base all l s ts s' -> ∀ i0,Lex P base all l s ts s' i0
 | [],s,[],s',h,i0=>by
  obtain rfl:s=s':=h;exact⟨rfl,by simp,rfl,afw _,by simp,λu=>rfl,rfl⟩
 | [],s,t::ts,s',h,i0=>h.elim
 | o::r,s,[],s',h,i0=>h.elim
 | o::r,s,t::ts,s',h,i0=>by
  obtain⟨h1,h2,h3,h4,h5,h6⟩:=h;subst h1;obtain⟨e1,e2,e3,e4,e5,e6,e7⟩:=Cu r _ ts s' h6 (i0+1);obtain⟨u1,u2,u3⟩:=lF t.U s.M;have hf:(λu=>(kS s.F t.o.dst t.x).getD u .any)=λu=>if t.o.dst=some u/\u<t.F.length then t.x else s.F.getD u .any:=by funext u; rw[nF,h2]
  have hl:aq (nj s.M t.U)=bg (aq s.M) t.U:=u1;have hlen1:(kS s.F t.o.dst t.x).length=s.F.length:=zm _ _ _;refine⟨by simp[e1],?_,e3.trans hlen1,afG u2 e4,?_,?_,?_⟩
  ·intro i t' ht';cases i with
   | zero=>
    simp only[List.getElem?_cons_zero,afN]at ht';subst ht';have hn:∀ j,i0+1<=j->(λj=>decide (j<i0+0+1)) j=false:=by intro j hj; simp; omega
    refine⟨by simp,by rw[h2],h5,by rw[h3]; exact h4,by rw[h3]; exact afw _,by intro j t' hj; omega,?_,?_,?_,?_⟩
    ·intro u; rw[tS _ _ _ (λj hj=>by simp; omega),h2]
    ·intro u;rw[qq,tS _ _ _ hn,if_pos (by simp),nF,h2]
    ·rw[tT _ _ _ (λj hj=>by simp; omega),h3]
    ·rw[ju,tT _ _ _ hn,if_pos (by simp),h3]
   | succ i=>
    have hti:ts[i]? = some t':=by simpa using ht'
    obtain⟨a1,a2,a3,a4,a5,a6,a7,a8,a9,a10⟩:=e2 i t' hti;have eN:∀ k,i0+1+i+k=i0+(i+1)+k:=by intro k; omega
    have eN0:i0+1+i=i0+(i+1):=by omega
    refine⟨by simpa using a1,a2.trans hlen1,a3,a4,afG u2 a5,?_,?_,?_,?_,?_⟩
    ·intro j tj hj htj m hm;cases j with
     | zero=>
      simp only[List.getElem?_cons_zero,afN]at htj;subst htj;exact afD (u3 m hm) a5
     | succ j=>exact a6 j tj (by omega) (by simpa using htj) m hm
    ·intro u;rw[qq,if_pos (by simp),<- hf,<- eN0];exact a7 u
    ·intro u;rw[qq,if_pos (by simp; omega),<- hf,<- eN0];exact a8 u
    ·rw[ju,if_pos (by simp),<- hl,<- eN0];exact a9
    ·rw[ju,if_pos (by simp; omega),<- hl,<- eN0];exact a10
  ·intro j tj htj m hm;cases j with
   | zero=>
    simp only[List.getElem?_cons_zero,afN]at htj;subst htj;exact afD (u3 m hm) e4
   | succ j=>exact e5 j tj (by simpa using htj) m hm
  ·intro u;rw[qq,if_pos rfl,<- hf];exact e6 u
  ·rw[ju,if_pos rfl,<- hl];exact e7
theorem lZ {clo:List (List Nat)}:∀(rest pre:List Did) (i0:Nat),lY clo i0 pre pre.length rest=true -> ∀(i j:Nat) x y,i<j->pre.length<=j->(pre++rest)[i]? = some x->(pre++rest)[j]? = some y->i ∈ clo.getD j []\/apart x y=true
 | [],pre,i0,_,i,j,x,y,_,hj,_,h2=>by
  rw[afU]at h2;have:=(List.getElem?_eq_some_iff.1 h2).1; omega
 | d::r,pre,i0,h,i,j,x,y,hij,hj,h1,h2=>by
  simp only[lY]at h;obtain⟨g1,g2⟩:=and_true h;by_cases e:j=pre.length
  ·subst e;rw[List.getElem?_append_right (afw _)]at h2;simp at h2; subst h2;rw[List.getElem?_append_left hij]at h1;have hmem:(x,i) ∈ pre.zipIdx:=by rw[List.mem_zipIdx_iff_getElem?]; exact h1
   have:=List.all_eq_true.1 g1 _ hmem;simpa using this
  ·have hlen:(pre++[d]).length=pre.length+1:=by simp
   have h':lY clo i0 (pre++[d]) (pre++[d]).length r=true:=by rw[hlen]; exact g2
   refine lZ r (pre++[d]) i0 h' i j x y hij (by rw[hlen]; omega) ?_ ?_
   ·rw[afC]; exact h1
   ·rw[afC]; exact h2
theorem sk {S:Nat->Bool}:∀(rest done:List Oper) (acc:List (List Nat)),acc.length=done.length ->
  (∀ i o,(done++rest)[i]? = some o->S i=true -> ∀ e,e ∈ o.after->Region.binds .any e=true->S e.on=true) ->
  (∀(i:Nat) o,done[i]? = some o->(∀ e,e ∈ o.after->Region.binds .any e=true->S e.on=true) -> ∀ j,j ∈ acc.getD i []->S j=true) ->
  ∀(i:Nat) o,(done++rest)[i]? = some o->(∀ e,e ∈ o.after->Region.binds .any e=true->S e.on=true) -> ∀ j,j ∈ (jv rest acc).getD i []->S j=true
 | [],done,acc,_,_,h,i,o,ho,he,j,hj=>h i o (by simpa using ho) he j hj
 | o::r,done,acc,hlen,hcl,h,i,o',ho,he,j,hj=>by
  simp only[jv]at hj;refine sk r (done++[o]) _ (by simp[hlen]) (by rw[afC]; exact hcl) ?_ i o' (by rw[afC]; exact ho) he j hj;intro i o'' ho'' he'' j hj;by_cases hi:i<done.length
  ·rw[List.getElem?_append_left hi]at ho'';rw[List.getD,List.getElem?_append_left (by omega)]at hj;exact h i o'' ho'' he'' j hj
  ·rw[List.getElem?_append_right (by omega)]at ho'';have hi0:i=done.length:=by have:=(List.getElem?_eq_some_iff.1 ho'').1; simp at this; omega
   subst hi0;simp at ho''; subst ho'';rw[List.getD,List.getElem?_append_right (by omega)]at hj;simp only[hlen,afT,List.getElem?_cons_zero,af8]at hj;obtain⟨lst,hl,hj⟩:=List.mem_flatten.1 hj;obtain⟨e,heo,rfl⟩:=List.mem_map.1 hl;have heo':e ∈ o.after:=Array.mem_def.2 heo;cases hb:Region.binds .any e with
   | false=>simp[hb]at hj
   | true=>
    simp only[hb,afl,agJ]at hj;have hon:=he'' e heo' hb;rcases hj with rfl | hj
    ·exact hon
    ·-- what stands ahead of an operation that is done
     by_cases hlt:e.on<done.length
     ·have hd:done[e.on]? = some done[e.on]:=by simp[hlt]
      exact h e.on _ hd (hcl e.on _ (by rw[List.getElem?_append_left hlt]; exact hd) hon) j hj
     ·rw[List.getD,List.getElem?_eq_none (by omega)]at hj;simp at hj
theorem uS:∀(l:List Oper) (i0:Nat),oG i0 l=true -> ∀(i:Nat) o,l[i]? = some o -> ∀ e,e ∈ o.after->Region.binds .any e=true->e.on<i0+i
 | [],i0,_,i,o,h,_,_,_=>by simp at h
 | o::r,i0,h,i,o',ho,e,he,hb=>by
  simp only[oG]at h;obtain⟨g1,g2⟩:=and_true h;cases i with
  | zero=>
   simp at ho; subst ho;have:=List.all_eq_true.1 g1 e (Array.mem_def.1 he);simp[hb]at this;omega
  | succ i=>
   have:=uS r (i0+1) g2 i o' (by simpa using ho) e he hb;omega
theorem ip {x y:Did} (h:apart x y=true):(∀ t,x.dst=some t->t ∉ y.reads/\y.dst ≠ some t)/\(∀ t,y.dst=some t->t ∉ x.reads)/\(∀ m,m ∈ x.writes->m ∉ y.touch/\m ∉ y.writes)/\(∀ m,m ∈ y.writes->m ∉ x.touch)/\(∀ n,n ∈ x.tails->n ∈ y.writes->n ∈ y.heads)/\(∀ n,n ∈ y.tails->n ∈ x.writes->n ∈ x.heads):=by
 unfold apart at h;obtain⟨h1,h2⟩:=and_true h;obtain⟨h3,h4⟩:=and_true h2;obtain⟨h4,h8⟩:=and_true h4;obtain⟨h9,h10⟩:=and_true h8;simp only[ais,Bool.or_eq_false_iff]at h4;obtain⟨h5,h6,h7⟩:=h4;have meet:∀{a b:List Nat},meets a b=false -> ∀ m,m ∈ a->m ∉ b:=by intro a b hm m ha hb;unfold meets at hm;have:=List.any_eq_false.1 hm m ha;simp[hb]at this
 refine⟨λt ht=>?_,λt ht=>?_,λm hm=>⟨meet h5 m hm,meet h6 m hm⟩,λm hm hx=>meet h7 m hx hm,λn hn hw=>?_,λn hn hw=>?_⟩
 ·rw[ht]at h1;simp at h1;exact⟨h1.1,h1.2⟩
 ·rw[ht]at h3;simpa using h3
 ·have:=List.all_eq_true.1 h9 n hn;simpa [hw]using this
 ·have:=List.all_eq_true.1 h10 n hn;simpa [hw]using this
def cnt (S:Nat->Bool):Nat->Nat
 | 0=>0
 | n+1=>cnt S n+(if S n=true then 0 else 1)
theorem E_ {S:Nat->Bool}:∀ n,cnt S n=0 -> ∀ i,i<n->S i=true
 | 0,_,i,h=>by omega
 | n+1,h,i,hi=>by
  simp only[cnt]at h;by_cases e:i=n
  ·subst e;by_cases hs:S i=true
   ·exact hs
   ·simp[hs]at h
  ·exact E_ n (by omega) i (by omega)
theorem Cv {S S':Nat->Bool}:∀ n,(∀ i,i<n->S i=S' i)->cnt S n=cnt S' n
 | 0,_=>rfl
 | n+1,h=>by simp only[cnt,Cv n (λi hi=>h i (by omega)),h n (by omega)]
theorem Jl {S S':Nat->Bool} {i:Nat} (hi:S i=false) (hi':S' i=true) (ho:∀ j,j ≠ i->S' j=S j):∀ n,i<n->cnt S' n+1=cnt S n
 | 0,h=>by omega
 | n+1,h=>by
  simp only[cnt];by_cases e:i=n
  ·subst e;rw[Cv i (S:=S') (S':=S) (λj hj=>ho j (by omega))];simp[hi,hi']
  ·have:=Jl hi hi' ho n (by omega);rw[ho n (λh=>e h.symm)];omega
theorem BZ {all:Array Oper} {tmps:Array Value} {j g:Nat} {b:Bool} (hg:fE all j=some g) (h:tmps.getD g undef=.bool b):yielded all tmps j=some b:=by
 unfold fE at hg;unfold yielded;rw[hg,aiz];rw[Array.getD_eq_getD_getElem?]at h;cases e:tmps[g]? with
 | none=>rw[e]at h; simp[undef]at h
 | some v=>rw[e]at h; simp at h; rw[h]
theorem Ma {all:Array Oper} {o:Oper} {t:Nat} (h:Operand.tmp t ∈ o.op.operands):t ∈ Oper.reads all o:=by unfold Oper.reads Qg;refine agG _ (List.mem_filterMap.2 ⟨.tmp t,Array.mem_def.1 h,rfl⟩)
theorem zb {all:Array Oper} {o:Oper} {j g:Nat} {want:Bool} (h:o.guard=some (j,want)) (hg:fE all j=some g):g ∈ Oper.reads all o:=by unfold Oper.reads;refine agk _ ?_;rw[h]; simp[hg]
structure Inv (G:Gh) (s:St) (ts:List Tr) (ρ0:Rho) (S:Nat->Bool) (a:Act) (w:World) (ρ:Rho):Prop where
 sim:SimW G w ρ (ju S 0 ts (aq s.M))
 fr:∀ u,Rep (okc G ρ (ju S 0 ts (aq s.M))) w ρ (qq S 0 ts (λu=>s.F.getD u .any) u) (a.tmps.getD u undef)
 defers:Dfs G a
 size:a.tmps.size=s.F.length
 dom:∀ m,s.M.length<=m->(∀(j:Nat) t,ts[j]? = some t->S j=true->m ∉ t.U.map (·.1))->ρ m=none
 rho:∀ m q,ρ0 m=some q->ρ m=some q
theorem Oa {P:Program} {base:Nat} {all:Array Oper} {s s':St} {ts:List Tr} (hlex:Lex P base all all.toList s ts s' 0) (hord:lY (jv all.toList []) 0 [] 0 (ts.map (Tr.did all))=true) (hedge:oG 0 all.toList=true) (hb':base<=s'.M.length)
    {G:Gh} (hG:G.base=base) (hsp:z7 G all.toList) (hnex:∀ b,¬ G.ex b) {ρ0:Rho} {Q:Exit->Act->World->Prop} (hQ:∀ w' ρ' a',Sim G w' ρ' s' a'->(∀ n q,n<base->ρ0 n=some q->ρ' n=some q)->Q .normal a' w') :
    ∀(fuel:Nat) (listed:Array Bool) (a:Act) (w:World) (ρ:Rho),listed.size=all.size->(∀(i:Nat) o,all[i]? = some o->listed.getD i false=true -> ∀ e,e ∈ o.after->Region.binds .any e=true->listed.getD e.on false=true) ->
      Inv G s ts ρ0 (λi=>listed.getD i false) a w ρ->cnt (λi=>listed.getD i false) all.size<=fuel->wpAny P .any all Q fuel listed a w:=by
  have hlen:all.size=ts.length:=by rw[<- hlex.len]; simp
  have hget:∀(i:Nat) o,all[i]? = some o↔all.toList[i]? = some o:=by intro i o; simp
  have fin:∀(listed:Array Bool) (a:Act) (w:World) (ρ:Rho),listed.size=all.size->Inv G s ts ρ0 (λi=>listed.getD i false) a w ρ->Region.ready .any all listed=[]->Q .normal a w:=by
    intro listed a w ρ hls hinv hready;have hall:∀ i,i<all.size->listed.getD i false=true:=by
      intro i;induction i using Nat.strongRecOn with
      | _ i ih=>
        intro hi;by_cases hs:listed.getD i false=true
        · exact hs
        · exfalso
          have hmem:i ∈ Region.ready .any all listed:=by
            unfold Region.ready;refine List.mem_filter.2 ⟨List.mem_range.2 hi,?_⟩;have h1:listed.getD i true=false:=by rw[Array.getD_eq_getD_getElem?,Array.getElem?_eq_getElem (by omega)]at hs ⊢;simp at hs ⊢; exact hs
            rw[h1];simp only[af1,agq];rw[Array.getElem?_eq_getElem hi];simp only[agL,af8];rw[Array.all_eq_true'];intro e he;cases hbn:Region.binds .any e with
            | false=>rfl
            | true=>
              have:=uS _ 0 hedge i all[i] (by simp[hi]) e he hbn;simp only[agd,aiv];exact ih e.on (by omega) (by omega)
          rw[hready]at hmem; cases hmem
    have hS:∀(j:Nat) t,ts[j]? = some t->(λi=>listed.getD i false) (0+j)=(λ_=>true) (0+j):=by intro j t hj;have:=(List.getElem?_eq_some_iff.1 hj).1;simp only[afL];exact hall j (by omega)
    have hL:ju (λi=>listed.getD i false) 0 ts (aq s.M)=aq s'.M:=by rw[hlex.lk]; funext m;exact lE ts 0 _ _ (λj t hj _=>hS j t hj) rfl
    refine hQ w ρ a ⟨by rw[<- hL]; exact hinv.sim,hnex,λn hn=>?_,hinv.defers,λu=>?_,by rw[hinv.size,hlex.flen],by rw[hG]; exact hb'⟩ λn q _ h=>hinv.rho n q h
    · refine hinv.dom n (afG hlex.mono hn) λj t hj _ hm=>?_
      have:=hlex.keys j t hj n hm; omega
    · have he:=lD (S:=λi=>listed.getD i false) (S':=λ_=>true) (u:=u) ts 0 (λu=>s.F.getD u .any) (λu=>s.F.getD u .any) (λj t hj _=>hS j t hj) rfl
      rw[<- hL,hlex.fr u,<- he];exact hinv.fr u
  intro fuel;induction fuel with
  | zero=>
    intro listed a w ρ hls hcl hinv hcnt;have hall:=E_ all.size (by omega) (S:=λi=>listed.getD i false);have hr:Region.ready .any all listed=[]:=by
      unfold Region.ready;rw[List.filter_eq_nil_iff];intro i hi;have hi:=List.mem_range.1 hi;have h1:listed.getD i false=true:=hall i hi;have h2:listed.getD i true=true:=by rw[Array.getD_eq_getD_getElem?,Array.getElem?_eq_getElem (by omega)]at h1 ⊢;simpa using h1
      simp[h2]
    exact⟨hr,fin listed a w ρ hls hinv hr⟩
  | succ fuel ih=>
    intro listed a w ρ hls hcl hinv hcnt;refine⟨fin listed a w ρ hls hinv,λi hi=>?_⟩;unfold Region.ready at hi;obtain⟨hi1,hi2⟩:=List.mem_filter.1 hi;have hin:=List.mem_range.1 hi1;obtain⟨hi3,hi4⟩:=and_true hi2;have hSi:listed.getD i false=false:=by rw[Array.getD_eq_getD_getElem?,Array.getElem?_eq_getElem (by omega)]at hi3 ⊢;simpa using hi3
    have hti:ts[i]? = some ts[i]:=by simp[show i<ts.length by omega]
    generalize ts[i]=t at hti;obtain⟨x1,x2,x3,x4,x5,x6,x7,x8,x9,x10⟩:=hlex.each i t hti;simp only[afL]at x7 x8 x9 x10;have hoi:all[i]? = some t.o:=(hget i t.o).2 x1;rw[hoi]at hi4;simp only[agL,af8,Array.all_eq_true']at hi4;have hedges:∀ e,e ∈ t.o.after->Region.binds .any e=true->listed.getD e.on false=true:=by intro e he hbn;have:=hi4 e he;simpa [hbn]using this
    have hclo:∀(i:Nat) o,all.toList[i]? = some o->(∀ e,e ∈ o.after->Region.binds .any e=true->listed.getD e.on false=true) -> ∀ j,j ∈ (jv all.toList []).getD i []->listed.getD j false=true:=
      λi o ho he j hj=>sk (S:=λi=>listed.getD i false) all.toList [] [] rfl (λi o ho=>hcl i o ((hget i o).2 (by simpa using ho))) (by intro i o h; simp at h) i o (by simpa using ho) he j hj
    have meetS:∀(j:Nat) tj,ts[j]? = some tj->j ≠ i->(¬(j<i->apart (tj.did all) (t.did all)=true)\/¬(i<j->apart (t.did all) (tj.did all)=true))->listed.getD j false=decide (j<i):=by
      intro j tj hj hne hno;obtain⟨y1,_⟩:=hlex.each j tj hj;rcases ahR hne with hlt | hgt
      · have hna:¬ apart (tj.did all) (t.did all)=true:=by
          rcases hno with h | h
          · exact λh'=>h λ_=>h'
          · exact absurd (λh2:i<j=>by omega) h
        have:=(lZ _ [] 0 hord j i _ _ hlt (aia _) (by simp[hj]) (by simp[hti])).resolve_right hna;rw[hclo i t.o x1 hedges j this]; simp[hlt]
      · have hna:¬ apart (t.did all) (tj.did all)=true:=by
          rcases hno with h | h
          · exact absurd (λh2:j<i=>by omega) h
          · exact λh'=>h λ_=>h'
        have hcj:=(lZ _ [] 0 hord i j _ _ hgt (aia _) (by simp[hti]) (by simp[hj])).resolve_right hna;cases hs:listed.getD j false with
        | false=>simp; omega
        | true=>
          have:=hclo j tj.o y1 (hcl j tj.o ((hget j tj.o).2 y1) hs) i hcj;rw[hSi]at this; cases this
    have meetF:∀(j:Nat) tj u,ts[j]? = some tj->j ≠ i->tj.o.dst=some u->(u ∈ Oper.reads all t.o\/t.o.dst=some u)->listed.getD j false=decide (j<i):=by
      intro j tj u hj hne hd hu;refine meetS j tj hj hne ?_;rcases ahR hne with hlt | hgt
      · left; intro h
        have:=(ip (h hlt)).1 u hd;rcases hu with hu | hu
        · exact this.1 hu
        · exact this.2 hu
      · right; intro h
        have hap:=ip (h hgt);rcases hu with hu | hu
        · exact hap.2.1 u hd hu
        · exact(hap.1 u hu).2 hd
    have meetL:∀(j:Nat) tj m,ts[j]? = some tj->j ≠ i->m ∈ tj.U.map (·.1)->(m ∈ t.T\/m ∈ t.U.map (·.1))->listed.getD j false=decide (j<i):=by
      intro j tj m hj hne hd hu;refine meetS j tj hj hne ?_;rcases ahR hne with hlt | hgt
      · left; intro h
        have:=(ip (h hlt)).2.2.1 m hd;rcases hu with hu | hu
        · exact this.1 hu
        · exact this.2 hu
      · right; intro h
        have hap:=ip (h hgt);rcases hu with hu | hu
        · exact hap.2.2.2.1 m hd hu
        · exact(hap.2.2.1 m hu).2 hd
    have hreads:∀ u,u ∈ Oper.reads all t.o->qq (λi=>listed.getD i false) 0 ts (λu=>s.F.getD u .any) u=t.F.getD u .any:=by
      intro u hu;rw[x7 u];refine lD ts 0 _ _ (λj tj hj hd=>?_) rfl;simp only[afL];by_cases e:j=i
      · subst e; rw[hSi]; simp
      · exact meetF j tj u hj e hd (.inl hu)
    have htouch:∀ m,m ∈ t.T->ju (λi=>listed.getD i false) 0 ts (aq s.M) m=aq t.M m:=by
      intro m hm;rw[x9];refine lE ts 0 _ _ (λj tj hj hd=>?_) rfl;simp only[afL];by_cases e:j=i
      · subst e; rw[hSi]; simp
      · exact meetL j tj m hj e hd (.inl hm)
    have htail:∀ n,n ∈ t.C->n ∉ t.U.map (·.1)->Tail (ju (λi=>listed.getD i false) 0 ts (aq s.M) n) (aq t.M n):=by
      intro n hnC hnU;have hord2:∀(j j':Nat) tj tj',j<j'->ts[j]? = some tj->ts[j']? = some tj'->n ∈ tj.U.map (·.1)->n ∈ tj'.U.map (·.1)->listed.getD j' false=true->listed.getD j false=true:=by
        intro j j' tj tj' hlt hj hj' hw hw' hs;obtain⟨y1,_⟩:=hlex.each j' tj' hj';have hna:¬ apart (tj.did all) (tj'.did all)=true:=λh=>((ip h).2.2.1 n hw).2 hw'
        have:=(lZ _ [] 0 hord j j' _ _ hlt (aia _) (by simp[hj]) (by simp[hj'])).resolve_right hna;exact hclo j' tj'.o y1 (hcl j' tj'.o ((hget j' tj'.o).2 y1) hs) j this
      have hfull:∀(j:Nat) tj,ts[j]? = some tj->j ≠ i->n ∈ tj.U.map (·.1)->n ∉ tj.Hd->listed.getD j false=decide (j<i):=by
        intro j tj hj hne hw hh;refine meetS j tj hj hne ?_;rcases ahR hne with hlt | hgt
        · left; intro h
          exact hh ((ip (h hlt)).2.2.2.2.2 n hnC hw)
        · right; intro h
          exact hh ((ip (h hgt)).2.2.2.2.1 n hnC hw)
      have hstep:∀(q:Nat) tq,ts[q]? = some tq->(n ∈ tq.U.map (·.1)->n ∈ tq.Hd)->Tail (ju (λj=>decide (j<q)) 0 ts (aq s.M) n) (ju (λj=>decide (j<q+1)) 0 ts (aq s.M) n):=by
        intro q tq hq hh;obtain⟨y1,y2,y3,y4,y5,y6,y7,y8,y9,y10⟩:=hlex.each q tq hq;simp only[afL]at y9 y10;rw[<- y9,<- y10];by_cases hw:n ∈ tq.U.map (·.1)
        · rcases y3 with⟨_,hg | ⟨m,_,hU,_⟩⟩ | ⟨_,_,_,_,_,_,_,_,_,hU,_⟩
          · exact hg.2.2 n (hh hw)
          · rw[hU]at hw; cases hw
          · rw[hU]at hw; cases hw
        · rw[cM _ _ _ hw]; exact .inl rfl
      have hchain:∀(d a:Nat),a+d<=ts.length->(∀(q:Nat) tq,a<=q->q<a+d->ts[q]? = some tq->n ∈ tq.U.map (·.1)->n ∈ tq.Hd)->Tail (ju (λj=>decide (j<a)) 0 ts (aq s.M) n) (ju (λj=>decide (j<a+d)) 0 ts (aq s.M) n):=by
        intro d;induction d with
        | zero=>intro a _ _; exact .inl rfl
        | succ d ihd=>
          intro a hlen' hq;refine(ihd a (by omega) λq tq h1 h2=>hq q tq h1 (by omega)).trans ?_;have hlt:a+d<ts.length:=by omega
          exact hstep (a+d) ts[a+d] (by simp[hlt]) λhw=>hq (a+d) _ (by omega) (by omega) (by simp[hlt]) hw
      obtain⟨p,hpl,hp1,hp2⟩:∃ p,p<=ts.length/\(∀(j:Nat) tj,p<=j->ts[j]? = some tj->n ∈ tj.U.map (·.1)->listed.getD j false=false)/\(p=0 \/ ∃ tj,ts[p - 1]? = some tj/\n ∈ tj.U.map (·.1)/\listed.getD (p - 1) false=true):=by
        have:∀ m,m<=ts.length -> ∃ p,p<=m/\(∀(j:Nat) tj,p<=j->j<m->ts[j]? = some tj->n ∈ tj.U.map (·.1)->listed.getD j false=false)/\(p=0 \/ ∃ tj,ts[p - 1]? = some tj/\n ∈ tj.U.map (·.1)/\listed.getD (p - 1) false=true):=by
          intro m;induction m with
          | zero=>intro _; exact⟨0,afw _,λj tj _ h=>by omega,.inl rfl⟩
          | succ m ihm=>
            intro hm;have hlt:m<ts.length:=by omega
            by_cases hc:n ∈ ts[m].U.map (·.1)/\listed.getD m false=true
            · exact⟨m+1,afw _,λj tj h1 h2=>by omega,.inr ⟨ts[m],by simp[hlt],hc.1,hc.2⟩⟩
            · obtain⟨p,q1,q2,q3⟩:=ihm (by omega)
              refine⟨p,by omega,λj tj h1 h2 hj hw=>?_,q3⟩;by_cases e:j=m
              · subst e
                simp[hlt]at hj; subst hj;cases hs:listed.getD j false with
                | false=>rfl
                | true=>exact absurd ⟨hw,hs⟩ hc
              · exact q2 j tj h1 (by omega) hj hw
        obtain⟨p,q1,q2,q3⟩:=this ts.length (afw _);exact⟨p,q1,λj tj h1 hj hw=>q2 j tj h1 (List.getElem?_eq_some_iff.1 hj).1 hj hw,q3⟩
      have hbelow:∀(j:Nat) tj,j<p->ts[j]? = some tj->n ∈ tj.U.map (·.1)->listed.getD j false=true:=by
        intro j tj hlt hj hw;rcases hp2 with rfl | ⟨tp,h1,h2,h3⟩
        · omega
        · by_cases e:j=p - 1
          · subst e; exact h3
          · exact hord2 j (p - 1) tj tp (by omega) hj h1 hw h2 h3
      have hpre:ju (λi=>listed.getD i false) 0 ts (aq s.M) n=ju (λj=>decide (j<p)) 0 ts (aq s.M) n:=by
        refine lE ts 0 _ _ (λj tj hj hw=>?_) rfl;simp only[afL];by_cases hlt:j<p
        · rw[hbelow j tj hlt hj hw]; simp[hlt]
        · rw[hp1 j tj (by omega) hj hw]; simp[hlt]
      rw[hpre,x9];have hilen:i<ts.length:=(List.getElem?_eq_some_iff.1 hti).1;rcases Nat.le_total p i with hpi | hpi
      · have:=hchain (i - p) p (by omega) λq tq h1 h2 hq hw=>by
          by_cases hh:n ∈ tq.Hd
          · exact hh
          · have h3:=hfull q tq hq (by omega) hw hh
            rw[hp1 q tq h1 hq hw]at h3;have:decide (q<i)=true:=by simp; omega
            rw[this]at h3; cases h3
        rwa [show p+(i - p)=i from by omega]at this
      · have:=hchain (p - i) i (by omega) λq tq h1 h2 hq hw=>by
          by_cases hh:n ∈ tq.Hd
          · exact hh
          · by_cases e:q=i
            · subst e; rw[hti]at hq; cases hq; exact absurd hw hnU
            · have h3:=hfull q tq hq e hw hh
              rw[hbelow q tq (by omega) hq hw]at h3;have:decide (q<i)=false:=by simp; omega
              rw[this]at h3; cases h3
        rw[show i+(p - i)=p from by omega]at this;exact this.symm
    have hsz:i<listed.size:=by omega
    have hS':∀ j,(listed.setIfInBounds i true).getD j false=if j=i then true else listed.getD j false:=by
      intro j;simp only[Array.getD_eq_getD_getElem?,Array.getElem?_setIfInBounds];by_cases e:i=j
      · subst e; simp[hsz]
      · simp[e,show ¬ j=i from λh=>e h.symm]
    have hLs:ju (λj=>(listed.setIfInBounds i true).getD j false) 0 ts (aq s.M)=bg (ju (λi=>listed.getD i false) 0 ts (aq s.M)) t.U:=by
      funext m;by_cases hm:m ∈ t.U.map (·.1)
      · rw[BV t.U _ (aq t.M) m hm,x10]
        refine lE ts 0 _ _ (λj tj hj hd=>?_) rfl;simp only[afL,hS'];by_cases e:j=i
        · subst e; simp
        · rw[if_neg e,meetL j tj m hj e hd (.inr hm)]
          simp; omega
      · rw[cM _ _ _ hm]
        refine lE ts 0 _ _ (λj tj hj hd=>?_) rfl;simp only[afL,hS'];by_cases e:j=i
        · subst e; rw[hti]at hj; cases hj; exact absurd hd hm
        · rw[if_neg e]
    have hFs:∀ u,qq (λj=>(listed.setIfInBounds i true).getD j false) 0 ts (λu=>s.F.getD u .any) u=if t.o.dst=some u/\u<s.F.length then t.x else qq (λi=>listed.getD i false) 0 ts (λu=>s.F.getD u .any) u:=by
      intro u;by_cases hu:t.o.dst=some u
      · have h1:qq (λj=>(listed.setIfInBounds i true).getD j false) 0 ts (λu=>s.F.getD u .any) u=(kS t.F t.o.dst t.x).getD u .any:=by
          rw[x8 u];refine lD ts 0 _ _ (λj tj hj hd=>?_) rfl;simp only[afL,hS'];by_cases e:j=i
          · subst e; simp
          · rw[if_neg e,meetF j tj u hj e hd (.inr hu)]
            simp; omega
        rw[h1,nF,x2];by_cases hlt:u<s.F.length
        · rw[if_pos ⟨hu,hlt⟩,if_pos ⟨hu,hlt⟩]
        · rw[if_neg (λh=>hlt h.2),if_neg (λh=>hlt h.2)]
          rw[x7 u];refine lD ts 0 _ _ (λj tj hj hd=>?_) rfl;simp only[afL];by_cases e:j=i
          · subst e; rw[hSi]; simp
          · exact(meetF j tj u hj e hd (.inr hu)).symm
      · rw[if_neg (λh=>hu h.1)]
        refine lD ts 0 _ _ (λj tj hj hd=>?_) rfl;simp only[afL,hS'];by_cases e:j=i
        · subst e; rw[hti]at hj; cases hj; exact absurd hd hu
        · rw[if_neg e]
    have hcl':∀(j:Nat) o,all[j]? = some o->(listed.setIfInBounds i true).getD j false=true -> ∀ e,e ∈ o.after->Region.binds .any e=true->(listed.setIfInBounds i true).getD e.on false=true:=by
      intro j o ho hj e he hbn;rw[hS']at hj ⊢;split
      · rfl
      · by_cases e1:j=i
        · subst e1; rw[hoi]at ho; cases ho; exact hedges e he hbn
        · rw[if_neg e1]at hj; exact hcl j o ho hj e he hbn
    have hcnt':cnt (λj=>(listed.setIfInBounds i true).getD j false) all.size<=fuel:=by have:=Jl (S:=λj=>listed.getD j false) (S':=λj=>(listed.setIfInBounds i true).getD j false) (i:=i) hSi (by simp only[hS']; simp) (λj hj=>by simp only[hS',if_neg hj]) all.size hin;omega
    have next:∀ v w' ρ',SimW G w' ρ' (bg (ju (λi=>listed.getD i false) 0 ts (aq s.M)) t.U)->Rep (okc G ρ' (bg (ju (λi=>listed.getD i false) 0 ts (aq s.M)) t.U)) w' ρ' t.x v ->
        Keeps (okc G ρ (ju (λi=>listed.getD i false) 0 ts (aq s.M))) w ρ (okc G ρ' (bg (ju (λi=>listed.getD i false) 0 ts (aq s.M)) t.U)) w' ρ'->(∀ n,ρ' n ≠ ρ n->n ∈ t.U.map (·.1)) ->
        wpAny P .any all Q fuel (listed.setIfInBounds i true) (a.put t.o.dst v) w':=by
      intro v w' ρ' h1 h2 h3 h4;refine ih _ _ w' ρ' (by simpa using hls) hcl' ⟨by rw[hLs]; exact h1,λu=>?_,hinv.defers.put (hsp t.o (List.mem_of_getElem? ((hget i _).1 hoi))) v,by rw[fM]; exact hinv.size,λm hm hno=>?_,λm q hq=>h3.rho m q (hinv.rho m q hq)⟩ hcnt'
      · rw[hLs,hFs u,pX,hinv.size]
        split
        · exact h2
        · exact(hinv.fr u).mono h3
      · by_cases e:ρ' m=ρ m
        · rw[e]
          refine hinv.dom m hm λj tj hj hs=>hno j tj hj ?_
          rw[hS']; split
          · rfl
          · exact hs
        · exact absurd (h4 m e) (hno i t hti (by rw[hS']; simp))
    unfold wpOp;rw[hoi];simp only;rcases x3 with⟨hgd,hgood⟩ | ⟨j,want,g,b,g1,g2,g3,g4,g5,g6,g7,-,-⟩
    · have hw:Region.wanted t.o (yielded all a.tmps)=true:=by
        rcases hgd with hg | ⟨j,want,g,g1,g2,g3⟩
        · simp[Region.wanted,hg]
        · have hr:=hinv.fr g
          rw[hreads g (zb g1 g2),g3]at hr;simp[Region.wanted,g1,BZ g2 hr.bool_inv]
      rw[if_pos hw];have hopsr:∀ y,y ∈ t.o.op.operands->Rep (okc G ρ (ju (λi=>listed.getD i false) 0 ts (aq s.M))) w ρ (ev t.F y) (a.eval y):=by
        intro y hy;cases y with
        | tmp u=>
          have hr:=hinv.fr u;rw[hreads u (Ma hy)]at hr;exact hr
        | const v=>exact vY v
        | global g=>exact .val _
        | func f=>exact IE (F:=[]) (a:=a) (λt=>.any _) (.func f)
      rcases hgood with⟨hgood,-,-⟩ | ⟨n,hC,hU,hT,-,hgood⟩
      rotate_left
      · refine .inl (hgood G w ρ _ a t.o rfl hG hnex hinv.sim hopsr (htail n (by rw[hC]; simp) (by rw[hU]; simp)) _ _ λv hv=>?_)
        exact next v w ρ (by rw[hU]; exact hinv.sim) (by rw[hU]; exact hv) (by rw[hU]; exact Keeps.refl _ _ _) (λn hn=>absurd rfl hn)
      · refine .inl (hgood G w ρ _ a t.o rfl hG hnex hinv.sim hopsr htouch (λn b hn hM=>?_) _ _ λv w' ρ' h1 h2 h3 h4=>next v w' ρ' h1 h2 h3 h4)
        have hnk:n ∈ t.U.map (·.1):=List.mem_map.2 ⟨(n,b),hn,rfl⟩;refine⟨hinv.dom n (by omega) λj tj hj hs hm=>?_,by omega⟩;by_cases e:j=i
        · subst e; rw[hSi]at hs; cases hs
        · have h1:=meetL j tj n hj e hm (.inr hnk)
          rw[hs]at h1;have hlt:j<i:=by simpa using h1.symm
          have:=x6 j tj hlt hj n hm;omega
    · have hr:=hinv.fr g
      rw[hreads g (zb g1 g2),g3]at hr;have hw:¬ Region.wanted t.o (yielded all a.tmps)=true:=by simp[Region.wanted,g1,BZ g2 hr.bool_inv,g4]
      rw[if_neg hw];have h0:=next undef w ρ (by rw[g6]; exact hinv.sim) (by rw[g5]; exact .any _) (by rw[g6]; exact Keeps.refl _ _ _) (λn hn=>absurd rfl hn);exact h0
theorem Fu {cx:Cx} (hO:OS cx) {base id:Nat} {all:Array Oper} {s:St} {k:St->Bool} (hb:base<=s.M.length) (hmix:cx.P.follows .mixedOrders=true) (h:uR cx base all all.toList s [] k=true) :
  ∃ s',k s'=true/\base<=s'.M.length /\ ∀(G:Gh) (w:World) (ρ:Rho) (a:Act),G.base=base/\z7 G all.toList->Sim G w ρ s a -> ∀(Q:Exit->Act->World->Prop),
   (∀ w' ρ' a',Sim G w' ρ' s' a'->(∀ n q,n<base->ρ n=some q->ρ' n=some q)->Q .normal a' w')->(Code.region id all true).wp cx.P Q a w:=by
 obtain⟨ts,s',h1,h2,h3,h4⟩:=yM hO all.toList s [] k hb h;have hlex:=Cu _ _ _ _ h1 0;have hb':base<=s'.M.length:=afG hb hlex.mono;refine⟨s',h4,hb',λG w ρ a hG hs Q hQ=>wp_region_any hmix ?_⟩;obtain⟨d1,d2⟩:=hs.sim.drew;have hz:∀ i,(Array.replicate all.size false).getD i false=false:=by intro i;simp only[Array.getD_eq_getD_getElem?,Array.getElem?_replicate];split <;> rfl
 have hL0:ju (λi=>(Array.replicate all.size false).getD i false) 0 ts (aq s.M)=aq s.M:=tT _ _ _ λj _=>hz j
 have hF0:qq (λi=>(Array.replicate all.size false).getD i false) 0 ts (λu=>s.F.getD u .any)=λu=>s.F.getD u .any:=tS _ _ _ λj _=>hz j
 refine Oa hlex (by simpa using h2) h3 hb' hG.1 hG.2 hs.noex hQ all.size _ a w.drew ρ (by simp) ?_ ⟨by rw[hL0]; exact d1,λu=>?_,hs.defers,hs.size,λm hm _=>hs.dom m hm,λ_ _ h=>h⟩ ?_
 ·intro i o _ hi; rw[hz]at hi; cases hi
 ·rw[hL0,hF0]; exact(hs.fr u).mono d2
 ·have:∀ n S,cnt S n<=n:=by
   intro n S;induction n with
   | zero=>exact afw _
   | succ n ih=>simp only[cnt]; split <;> omega
  exact this _ _
def gO (base:Nat) (L:List Nat) (ρ:Rho):Rho:=λn=>if n<base then ρ n else match L[n - base]? with
 | some m=>ρ m
 | none=>none
theorem ta {base:Nat} {L:List Nat} {ρ:Rho}:∀ n m q,renum base L n=some m->ρ n=some q->gO base L ρ m=some q:=by
 intro n m q hm hq;unfold renum at hm;by_cases h:n<base
 ·simp[h]at hm; subst hm; simp[gO,h,hq]
 ·simp only[h,aim,afk]at hm;obtain⟨i,hi,rfl⟩:=Option.map_eq_some_iff.1 hm;have:=vK hi;simp[gO,show ¬ base+i<base by omega,this,hq]
theorem DT {base:Nat} {L:List Nat} {M:aL} (hb:base<=M.length) (n:Nat) :
  aq (h_ base L M) n=if n<base then(aq M n).map (Blk.ren (renum base L))else match L[n - base]? with
   | some m=>(aq M m).map (Blk.ren (renum base L))
   | none=>none:=by
 have hl:((M.take base).map (·.map (Blk.ren (renum base L)))).length=base:=by simp; omega
 unfold h_;by_cases h:n<base
 ·rw[if_pos h];unfold aq;rw[List.getElem?_append_left (by rw[hl]; exact h),List.getElem?_map,List.getElem?_take,if_pos h];cases M[n]? with
  | none=>rfl
  | some b=>cases b <;> rfl
 ·rw[if_neg h];unfold aq;rw[List.getElem?_append_right (by rw[hl]; omega),hl,List.getElem?_map];cases L[n - base]? with
  | none=>rfl
  | some m=>
   have key:∀(x:Option Blk),(match(some x:Option (Option Blk))with | some (some b)=>some b | _=>none)=x:=by intro x; cases x <;> rfl
   exact key _
theorem kN {base:Nat} {L:List Nat} {M:aL} (hb:base<=M.length):(h_ base L M).length=base+L.length:=by unfold h_; simp; omega
theorem SimW.renum {G:Gh} {w:World} {ρ:Rho} {M:aL} (h:SimW G w ρ (aq M)) (hb:G.base<=M.length) {L:List Nat} (hn:kI L=true) (hL:∀ n,n ∈ L->G.base<=n) :
  SimW G w (gO G.base L ρ) (aq (h_ G.base L M))/\Keeps (okc G ρ (aq M)) w ρ (okc G (gO G.base L ρ) (aq (h_ G.base L M))) w ρ:=by
 have hold:∀ n bl,aq (h_ G.base L M) n=some bl -> ∃ m b0,aq M m=some b0/\bl=b0.ren (Go.Mach.renum G.base L)/\gO G.base L ρ n=ρ m/\((n<G.base/\m=n)\/(G.base<=n/\L[n - G.base]? = some m)):=by
  intro n bl hnb;rw[DT hb]at hnb;by_cases h1:n<G.base
  ·rw[if_pos h1]at hnb;obtain⟨b0,hb0,rfl⟩:=Option.map_eq_some_iff.1 hnb;exact⟨n,b0,hb0,rfl,by simp[gO,h1],.inl ⟨h1,rfl⟩⟩
  ·rw[if_neg h1]at hnb;split at hnb
   ·rename_i m hm;obtain⟨b0,hb0,rfl⟩:=Option.map_eq_some_iff.1 hnb;exact⟨m,b0,hb0,rfl,by simp[gO,h1,hm],.inr ⟨by omega,hm⟩⟩
   ·cases hnb
 have hk:Keeps (okc G ρ (aq M)) w ρ (okc G (gO G.base L ρ) (aq (h_ G.base L M))) w ρ:=by refine⟨λ_ _ h=>h,λb _ ho=>⟨⟨ho.1,λn bl p hnb hp hh=>?_⟩,rfl⟩,afw _⟩;obtain⟨m,b0,h1,rfl,h3,_⟩:=hold n bl hnb;rw[h3]at hp;exact ho.2 m b0 p h1 hp ((iv _).1 hh)
 refine⟨⟨?_,?_,?_,h.size,h.os,h.tape,h.output,?_,h.tab,?_⟩,hk⟩
 ·intro n bl hnb;obtain⟨m,b0,h1,rfl,h3,_⟩:=hold n bl hnb;obtain⟨q,hq,hbb⟩:=h.blks m b0 h1;exact⟨q,by rw[h3]; exact hq,BlkAt.ren ta (hbb.of hk λ_ _ _ _=>rfl)⟩
 ·intro n n' bn bn' p q hn1 hn2 hp hq x hx1 hx2;obtain⟨m,b0,h1,rfl,h3,h4⟩:=hold n bn hn1;obtain⟨m',b1,k1,rfl,k3,k4⟩:=hold n' bn' hn2;rw[h3]at hp; rw[k3]at hq;have:=h.inj m m' b0 b1 p q h1 k1 hp hq x ((iv _).1 hx1) ((iv _).1 hx2);subst this;rcases h4 with⟨a1,a2⟩ | ⟨a1,a2⟩ <;> rcases k4 with⟨c1,c2⟩ | ⟨c1,c2⟩
  ·omega
  ·have:=hL m (List.mem_of_getElem? c2); omega
  ·have:=hL m (List.mem_of_getElem? a2); omega
  ·have:=kJ hn _ _ m a2 c2; omega
 ·intro n p hn' hp;unfold gO at hp;rw[if_neg (by omega)]at hp;split at hp
  ·rename_i m hm;exact h.own m p (hL m (List.mem_of_getElem? hm)) hp
  ·cases hp
 ·intro b hb' hex hno;refine h.old b hb' hex λn p hn' hp=>hno n p hn' ?_
  simp[gO,hn',hp]
 ·intro n p hp;unfold gO at hp;split at hp
  ·exact h.high n p hp
  ·split at hp
   ·rename_i m hm;exact h.high m p hp
   ·cases hp
theorem yZ {base:Nat} {M:aL} {r:List Nat}:∀ n,n ∈ kH base M r->base<=n:=by intro n hn;unfold kH at hn;simpa using (List.mem_filter.1 hn).2
theorem AP (keep:List Nat) (f:Nat->Option Nat):∀(F:List V) (i t:Nat),(uU keep f i F).getD t .any=cond (keep.contains (i+t)) ((F.getD t .any).ren f) .any
 | [],i,t=>by simp[uU]; cases keep.contains (i+t) <;> simp[V.ren]
 | v::r,i,0=>by simp[uU]
 | v::r,i,t+1=>by have:=AP keep f r (i+1) t;simp only[uU,List.getD_cons_succ];rw[this,show i+1+t=i+(t+1) from by omega]
theorem wU (keep:List Nat) (f:Nat->Option Nat):∀(F:List V) (i:Nat),(uU keep f i F).length=F.length
 | [],_=>rfl
 | v::r,i=>by simp[uU,wU keep f r]
theorem SimW.rebody {G:Gh} {w:World} {ρ:Rho} {L:LK} (h:SimW G w ρ L) (n:Nat) (blk:Blk) (hn:L n=some blk) (c':Body) (ho:blk.c.isOwn=false) (ho':c'.isOwn=false) (hcs:c'.size=blk.c.size)
  (hr:∀ cur,BodyRep (okc G ρ L) w ρ blk.c cur->BodyRep (okc G ρ L) w ρ c' cur) :
  SimW G w ρ (aI L n (some { blk with c:=c' }))/\Keeps (okc G ρ L) w ρ (okc G ρ (aI L n (some { blk with c:=c' }))) w ρ:=by
 have hho:({ blk with c:=c' }:Blk).c.holes=blk.c.holes:=by rw[oK ho,oK ho']
 have hk:Keeps (okc G ρ L) w ρ (okc G ρ (aI L n (some { blk with c:=c' }))) w ρ:=
  ⟨λ_ _ h=>h,λb _ ho=>⟨JQ hn hho ho,rfl⟩,afw _⟩
 have hsame:∀ m bl,aI L n (some { blk with c:=c' }) m=some bl -> ∃ bl',L m=some bl'/\bl.c.holes=bl'.c.holes:=by
  intro m bl hm;unfold aI at hm;by_cases e:m=n
  ·subst e; simp only[agU,afN]at hm; subst hm; exact⟨blk,hn,hho⟩
  ·simp only[e,afS]at hm; exact⟨bl,hm,rfl⟩
 have hhas:∀(p:Place) (c c':Body) x,c.holes=c'.holes->hasB p c x->hasB p c' x:=by
  intro p c c' x e h;rcases h with h | ⟨i,h1,h2⟩
  ·exact .inl h
  ·exact .inr ⟨i,h1,by rw[<- e]; exact h2⟩
 refine⟨⟨?_,?_,h.own,h.size,h.os,h.tape,h.output,h.old,h.tab,h.high⟩,hk⟩
 ·intro m bl hm;unfold aI at hm;by_cases e:m=n
  ·subst e;simp only[agU,afN]at hm;subst hm;obtain⟨q,hq,hb⟩:=h.blks m blk hn;refine⟨q,hq,?_⟩;cases q with
   | none=>exact hcs.trans hb
   | some p=>
    obtain⟨c2,g1,g2,g3,g4,g5,g6,g7⟩:=hb;exact⟨c2,g1,g2,g3.trans hcs.symm,g4,g5,(hr _ g6).mono hk,(SubsAt.plain ho').2 ((SubsAt.plain ho).1 g7)⟩
  ·simp only[e,afS]at hm;obtain⟨q,hq,hb⟩:=h.blks m bl hm;exact⟨q,hq,hb.of hk λ_ _ _ _=>rfl⟩
 ·intro m m' bn bm q q' hm hm' hq hq' x hx1 hx2;obtain⟨b1,hb1,e1⟩:=hsame m bn hm;obtain⟨b2,hb2,e2⟩:=hsame m' bm hm';exact h.inj m m' b1 b2 q q' hb1 hb2 hq hq' x (hhas q _ _ x e1 hx1) (hhas q' _ _ x e2 hx2)
theorem uw {M:aL} {b:Option Blk}:aq (M++[b])=aI (aq M) M.length b:=by have:=vQ M M.length b;unfold za at this;simpa using this
theorem CZ {M:aL} {n:Nat} {b:Option Blk} (hn:n<M.length):aq (M.set n b)=aI (aq M) n b:=by have:=vQ M n b;unfold za at this;simpa [hn]using this
theorem Sim.push {G:Gh} {w:World} {ρ:Rho} {s:St} {a:Act} (h:Sim G w ρ s a) (blk:Blk) (h0:blk.c.size=0) :
  Sim G w (aK ρ s.M.length none) ⟨s.F,s.M++[some blk]⟩ a/\Keeps (okc G ρ (aq s.M)) w ρ (okc G (aK ρ s.M.length none) (aq (s.M++[some blk]))) w (aK ρ s.M.length none):=by
 obtain⟨h1,h2⟩:=h.sim.virt s.M.length (h.dom _ (afw _)) blk h0;rw[uw];refine⟨⟨by rw[uw]; exact h1,h.noex,λn hn=>?_,h.defers,λu=>?_,h.size,?_⟩,h2⟩
 ·simp at hn;have:n ≠ s.M.length:=by omega
  simp[aK,this,h.dom n (by omega)]
 ·show Rep (okc G _ (aq (s.M++[some blk]))) w _ _ _;rw[uw]; exact(h.fr u).mono h2
 ·have:=h.base; show _<=(s.M++[some blk]).length; simp; omega
theorem At {P:Program} {e:Nat} {b:Body} (h:xK P e=some b):b.size=0:=by
 have h0:∀ c,jH P e 0=some c->c.size=0:=by
  intro c hz;cases hzc:cH P e with
  | none=>simp only[jH,hzc]at hz; split at hz <;> simp_all
  | some z=>exact vh hzc hz
 unfold xK at h;split at h
 ·rename_i cs hz;split at h
  ·cases h; rename_i t _; show cY 0 t.sz=0; rw[aQ,agE]
  ·cases h; exact h0 _ hz
 ·exact h0 _ h
theorem BW {P:Program} {e:Nat} {b:Body} (h:Kg P e=some b):b.size=0:=by
 unfold Kg at h;split at h
 ·exact At h
 ·unfold Fv at h;split at h
  ·obtain⟨a,ha,rfl⟩:=Option.map_eq_some_iff.1 h; rfl
  ·cases h
theorem dp {P:Program}:∀(vs:List (Nat × Option Nat × Nat)) (s:St) (G:Gh) (w:World) (ρ:Rho) (a:Act),Sim G w ρ s a->s.M.length<=(ij P vs s).M.length /\ ∃ ρ',Sim G w ρ' (ij P vs s) a /\ ∀ n q,ρ n=some q->ρ' n=some q
 | [],s,G,w,ρ,a,h=>⟨afw _,ρ,h,λ_ _ h=>h⟩
 | (t,none,e)::r,s,G,w,ρ,a,h=>by
  simp only[ij];split
  ·rename_i sz b hF hsz hz;have hb0:b.size=0:=BW hz;obtain⟨h1,h2⟩:=h.push ⟨vE e,sz,b⟩ hb0;have hsim:Sim G w (aK ρ s.M.length none) ⟨s.F.set t (.slw s.M.length),s.M++[some ⟨vE e,sz,b⟩]⟩ a:=by
    refine⟨h1.sim,h.noex,h1.dom,h.defers,λu=>?_,by simp[h.size],h1.base⟩;show Rep (okc G _ (aq (s.M++[some ⟨vE e,sz,b⟩]))) w _ ((s.F.set t (.slw s.M.length)).getD u .any) _;have hs:=nF s.F (some t) (.slw s.M.length) u;simp only[kS]at hs;rw[hs];split
    ·rename_i hu;obtain⟨hu1,hu2⟩:=hu;cases hu1;have hr:=h.fr t;rw[hF]at hr;rw[hr.nil_inv];exact .slv _ (by simp[aK])
    ·exact(h.fr u).mono h2
   obtain⟨g1,ρ',g2,g3⟩:=dp r _ G w _ a hsim;refine⟨afG (by simp) g1,ρ',g2,λn q hq=>g3 n q (h2.rho n q hq)⟩
  ·exact dp r s G w ρ a h
 | (t,some i,e)::r,s,G,w,ρ,a,h=>by
  simp only[ij];split
  ·rename_i n o sz z hF hsz hz;split
   ·rename_i e0 s0 cs hlk;split
    ·rename_i hcell;have hb0:z.size=0:=BW hz;obtain⟨h1,h2⟩:=h.push ⟨vE e,sz,z⟩ hb0;have hn:n<s.M.length:=qP hlk;have hlk':aq (s.M++[some ⟨vE e,sz,z⟩]) n=some ⟨e0,s0,.cells cs⟩:=by rw[uw]; unfold aI; rw[if_neg (by omega)]; exact hlk
     obtain⟨k1,k2⟩:=h1.sim.rebody n _ hlk' (.cells (cs.set (o+i) (.slw s.M.length))) rfl rfl (by simp[Body.size]) (by
      intro cur hb j x hx;have hx:(cs.set (o+i) (.slw s.M.length))[j]? = some x:=hx;by_cases e:j=o+i
      ·subst e;have hlt:o+i<cs.length:=by
        rcases agb (o+i) cs.length with h | h
        ·exact h
        ·rw[List.getElem?_eq_none h]at hcell; cases hcell
       rw[List.getElem?_set_self hlt]at hx;cases hx;obtain⟨v,g1,g2,g3⟩:=hb (o+i) .nil hcell;refine⟨v,g1,g2,?_⟩;rw[g3.nil_inv];exact .slv _ (by simp[aK])
      ·rw[List.getElem?_set_ne (Ne.symm e)]at hx;exact hb j x hx)
     have hM:s.M.set n (some ⟨e0,s0,.cells (cs.set (o+i) (.slw s.M.length))⟩)++[(some ⟨vE e,sz,z⟩:Option Blk)]=(s.M++[(some ⟨vE e,sz,z⟩:Option Blk)]).set n (some ⟨e0,s0,.cells (cs.set (o+i) (.slw s.M.length))⟩):=by rw[List.set_append_left _ _ hn]
     have hlM:aq (s.M.set n (some ⟨e0,s0,.cells (cs.set (o+i) (.slw s.M.length))⟩)++[(some ⟨vE e,sz,z⟩:Option Blk)])=aI (aq (s.M++[(some ⟨vE e,sz,z⟩:Option Blk)])) n (some ⟨e0,s0,.cells (cs.set (o+i) (.slw s.M.length))⟩):=by rw[hM,CZ (by simp; omega)]
     have hsim:Sim G w (aK ρ s.M.length none) ⟨s.F,s.M.set n (some ⟨e0,s0,.cells (cs.set (o+i) (.slw s.M.length))⟩)++[some ⟨vE e,sz,z⟩]⟩ a:=by refine⟨by rw[hlM]; exact k1,h.noex,λm hm=>h1.dom m (by simpa using hm),h.defers,λu=>?_,h.size,by have:=h1.base; simpa using this⟩;show Rep (okc G _ (aq (s.M.set n _++[some ⟨vE e,sz,z⟩]))) w _ _ _;rw[hlM];exact(h1.fr u).mono k2
     obtain⟨g1,ρ',g2,g3⟩:=dp r _ G w _ a hsim;refine⟨afG (by simp) g1,ρ',g2,λn q hq=>g3 n q (h2.rho n q hq)⟩
    ·exact dp r s G w ρ a h
   ·exact dp r s G w ρ a h
  ·rename_i n hF;split
   ·rename_i b hlk;cases hz1:b.sz==1 with
    | false=>rw[afk]; exact dp r s G w ρ a h
    | true=>
     rw[afl];have hz1:b.sz=1:=by simpa using hz1
     have hsim:Sim G w ρ ⟨s.F.set t (.sl n 0 b.c.size),s.M⟩ a:=by
      refine⟨h.sim,h.noex,h.dom,h.defers,λu=>?_,by simp[h.size],h.base⟩;have hs:=nF s.F (some t) (.sl n 0 b.c.size) u;simp only[kS]at hs;rw[hs];split
      ·rename_i hu;obtain⟨hu1,hu2⟩:=hu;cases hu1;have hr:=h.fr t;rw[hF]at hr;obtain⟨q,hq,hb⟩:=h.sim.blks n b hlk;generalize a.tmps.getD t undef=v at hr;cases hr with
       | slw _ p hp=>
        rw[hq]at hp; cases hp;obtain⟨cur,c1,c2,c3,c4,c5,c6⟩:=hb;rw[hz1,ag9]at c3;rw[<- c3];exact .sl n 0 p.len p.cap 0 p hq c4 (.inl rfl) (λ_=>⟨rfl,afw _⟩)
       | slv _ hp=>
        rw[hq]at hp; cases hp;have hb:b.c.size=0:=hb;rw[hb];exact .slvp n 0 hq
      ·exact h.fr u
     exact dp r _ G w ρ a hsim
   ·exact dp r s G w ρ a h
  ·exact dp r s G w ρ a h
theorem oF:∀(ds:List (Nat × Nat × Option IntKind)) (M:aL),(Dz ds M).length=M.length
 | [],_=>rfl
 | (n,i,k)::r,M=>by
  simp only[Dz];split
  ·split
   ·rw[oF r]; simp
   ·exact oF r M
  ·exact oF r M
theorem qw {G:Gh} {w:World} {ρ:Rho} {a:Act}:∀(ds:List (Nat × Nat × Option IntKind)) (s:St),Sim G w ρ s a->Sim G w ρ ⟨s.F,Dz ds s.M⟩ a
 | [],s,h=>h
 | (n,i,k)::r,s,h=>by
  simp only[Dz];split
  ·rename_i e0 s0 cs hlk;split
   ·rename_i hcell;have hzr:∀ ok,Rep ok w ρ (Iw k) (.slice none 0 0):=by
     intro ok;cases k with
     | none=>exact .rofn
     | some k=>exact .roin k
    generalize Iw k=z at hzr ⊢;have hn:n<s.M.length:=qP hlk;obtain⟨k1,k2⟩:=h.sim.rebody n _ hlk (.cells (cs.set i z)) rfl rfl (by simp[Body.size]) (by
     intro cur hb j x hx;have hx:(cs.set i z)[j]? = some x:=hx;by_cases e:j=i
     ·subst e;have hlt:j<cs.length:=by
       rcases agb j cs.length with h | h
       ·exact h
       ·rw[List.getElem?_eq_none h]at hcell; cases hcell
      rw[List.getElem?_set_self hlt]at hx;cases hx;obtain⟨v,g1,g2,g3⟩:=hb j .nil hcell;refine⟨v,g1,g2,?_⟩;rw[g3.nil_inv];exact hzr _
     ·rw[List.getElem?_set_ne (Ne.symm e)]at hx;exact hb j x hx)
    have hlM:aq (s.M.set n (some ⟨e0,s0,.cells (cs.set i z)⟩))=aI (aq s.M) n (some ⟨e0,s0,.cells (cs.set i z)⟩):=by rw[CZ hn]
    have hsim:Sim G w ρ ⟨s.F,s.M.set n (some ⟨e0,s0,.cells (cs.set i z)⟩)⟩ a:=by refine⟨by rw[hlM]; exact k1,h.noex,λm hm=>h.dom m (by simpa using hm),h.defers,λu=>?_,h.size,by have:=h.base; simpa using this⟩;show Rep (okc G _ (aq (s.M.set n _))) w _ _ _;rw[hlM];exact(h.fr u).mono k2
    exact qw r _ hsim
   ·exact qw r s h
  ·exact qw r s h
def EP (M:aL) (g:Nat->Option V) (L':LK):Prop:=∀ m bl,L' m=some bl -> ∃ bl0,aq M m=some bl0/\bl.c.holes=bl0.c.holes/\g m=none
theorem iu {p:Place} {c c':Body} {x:Nat} (e:c.holes=c'.holes) (h:hasB p c x):hasB p c' x:=by
 rcases h with h | ⟨i,h1,h2⟩
 ·exact .inl h
 ·exact .inr ⟨i,h1,by rw[<- e]; exact h2⟩
theorem C6 {G:Gh} {ρ:Rho} {M:aL} {g:Nat->Option V} {L':LK} (hL:EP M g L') {b:Nat} (h:okc G ρ (aq M) b):okc G ρ L' b:=by refine⟨h.1,λn blk p hn hp hh=>?_⟩;obtain⟨blk',hb,he,-⟩:=hL n blk hn;exact h.2 n blk' p hb hp (iu he hh)
theorem di {G:Gh} {w:World} {ρ:Rho} {M:aL} {g:Nat->Option V} {L':LK} (hL:EP M g L'):Keeps (okc G ρ (aq M)) w ρ (okc G ρ L') w ρ:=
 ⟨λ_ _ h=>h,λ_ _ h=>⟨C6 hL h,rfl⟩,afw _⟩
theorem LW {G:Gh} {w:World} {ρ:Rho} {M:aL} {g:Nat->Option V} {L':LK} (hs:SimW G w ρ (aq M)) (hex:∀ b,¬ G.ex b) (hL:EP M g L') {n:Nat} (hb:G.base<=n) (hg:(g n).isSome=true):Keeps (okL (okc G ρ (aq M)) ρ (aq M) [n]) w ρ (okc G ρ L') w ρ:=by
 refine⟨λ_ _ h=>h,λb _ h=>⟨?_,rfl⟩,afw _⟩;rcases h with h | ⟨m,p,blk,hm,hb',hp,hpb⟩
 ·exact C6 hL h
 ·simp at hm; subst hm;refine⟨(hs.own m p hb hp b hpb.has).elim .inr (λh=>absurd h (hex b)),λk blk' p' hk hp' heq=>?_⟩;obtain⟨blk'',hb'',he,h2⟩:=hL k blk' hk;have:=hs.inj k m blk'' blk p' p hb'' hb' hp' hp b (iu he heq) hpb;subst this;rw[h2]at hg; cases hg
theorem pJ (g:Nat->Option V):∀(cs:List V) (i:Nat),(oD g cs)[i]? = (cs[i]?).map (V.cold g)
 | [],i=>by simp[oD]
 | c::r,0=>by simp[oD]
 | c::r,i+1=>by simp[oD,pJ g r i]
theorem iR (g:Nat->Option V):∀(cs:List V),(oD g cs).length=cs.length
 | []=>rfl
 | c::r=>by simp[oD,iR g r]
theorem Ai {G:Gh} {w:World} {ρ:Rho} {M:aL} {g:Nat->Option V} {L':LK} (hs:SimW G w ρ (aq M)) (hex:∀ b,¬ G.ex b) (hL:EP M g L') (hg:∀ n v,g n=some v->G.base<=n/\jS M 1 (.slw n)=some v) {x:V} {v:Value} (h:Rep (okc G ρ (aq M)) w ρ x v):Rep (okc G ρ L') w ρ (x.cold g) v:=by
 have slw:∀ n u,Rep (okc G ρ (aq M)) w ρ (.slw n) u->Rep (okc G ρ L') w ρ ((V.slw n).cold g) u:=by
  intro n u h;simp only[V.cold];split
  ·rename_i v' e;obtain⟨h1,h2⟩:=hg n v' e;have:=nW hs [n] (λ_ _=>rfl) 1 (.slw n) v' u h2 (λm hm=>by
    have h2':=h2;simp only[jS]at h2';simp only[mP]at hm;revert hm h2';cases aq M n with
    | none=>intro hm h2'; cases h2'
    | some b=>
     obtain⟨e,sz,c⟩:=b;cases c with
     | cells cs=>
      intro hm h2';cases cs with
      | nil=>simpa using hm
      | cons c r=>simp at h2'
     | own t a xs hh=>intro hm h2'; simpa using hm
     | _=>intro hm h2'; simpa using hm) h
   exact this.mono (LW hs hex hL h1 (by rw[e]; rfl))
  ·exact h.mono (di hL)
 induction h with
 | any v=>exact .any v
 | nil=>exact .nil
 | bool b=>exact .bool b
 | int k n=>exact .int k n
 | flt x v h=>exact .flt x v h
 | val v=>exact .val v
 | fn g0 caps vs v hl h hv ih=>exact(Rep.fn g0 caps vs v hl h hv).mono (di hL)
 | ptr n o p h=>
  simp only[V.cold];split
  ·exact .any _
  ·exact .ptr n o p h
 | slw n p h=>exact slw n _ (.slw n p h)
 | slv n h=>exact slw n _ (.slv n h)
 | sl n o len cap o' p h hl ho hc=>
  simp only[V.cold];split
  ·exact .any _
  ·exact .sl n o len cap o' p h hl ho hc
 | slvp n o h=>
  simp only[V.cold];split
  ·exact .any _
  ·exact .slvp n o h
 | opt n e o b p h he=>
  simp only[V.cold];split
  ·exact .any _
  ·exact .opt n e o b p h he
 | rofn=>exact .rofn
 | rof xs b o cap g0 h1 h2 h3 h4 h5=>exact(Rep.rof xs b o cap g0 h1 h2 h3 h4 h5).mono (di hL)
 | roin k=>exact .roin k
 | roi k xs b o cap h1 h2 h3 h4=>exact(Rep.roi k xs b o cap h1 h2 h3 h4).mono (di hL)
 | ron sz=>exact .ron sz
 | ro sz cs b o len cap g0 h1 h2 h3 h4 h5 h6 h7 ih=>exact(Rep.ro sz cs b o len cap g0 h1 h2 h3 h4 h5 h6 h7).mono (di hL)
 | rl t xs v h ih=>exact(Rep.rl t xs v h).mono (di hL)
 | pf xs i b o v h1 h2 h3 h4=>exact(Rep.pf xs i b o v h1 h2 h3 h4).mono (di hL)
 | pi k xs i b o h1 h2 h3=>exact(Rep.pi k xs i b o h1 h2 h3).mono (di hL)
 | rp cs i b o g0 h1 h2 h3 h4 h5 ih=>exact(Rep.rp cs i b o g0 h1 h2 h3 h4 h5).mono (di hL)
 | agg cs vs hl h1 _ ih=>
  refine .agg _ vs (by rw[iR]; exact hl) h1 λi c u hc hu=>?_
  rw[pJ]at hc;obtain⟨c0,h0,rfl⟩:=Option.map_eq_some_iff.1 hc;exact ih i c0 u h0 hu
 | tup cs vs hl _ ih=>
  refine .tup _ vs (by rw[iR]; exact hl) λi c u hc hu=>?_
  rw[pJ]at hc;obtain⟨c0,h0,rfl⟩:=Option.map_eq_some_iff.1 hc;exact ih i c0 u h0 hu
theorem vz (g:Nat->Option V) (c:Body):(c.cold g).holes=c.holes:=by cases c <;> rfl
theorem nk (g:Nat->Option V):∀(l:aL) (n:Nat),(rA g n l).length=l.length
 | [],_=>rfl
 | b::r,n=>by simp[rA,nk g r]
theorem pK (g:Nat->Option V):∀(l:aL) (n i:Nat) (b':Blk),(rA g n l)[i]? = some (some b')->g (n+i)=none /\ ∃ b,l[i]? = some (some b)/\b' = { b with c:=b.c.cold g }
 | [],n,i,b',h=>by simp[rA]at h
 | b::r,n,0,b',h=>by
  simp only[rA,List.getElem?_cons_zero,afN]at h;split at h
  ·cases h
  ·rename_i e;obtain⟨b0,rfl,rfl⟩:=Option.map_eq_some_iff.1 h;exact⟨e,b0,rfl,rfl⟩
 | b::r,n,i+1,b',h=>by obtain⟨h1,b0,h2,h3⟩:=pK g r (n+1) i b' (by simpa [rA]using h);exact⟨by rw[show n+(i+1)=n+1+i by omega]; exact h1,b0,by simpa using h2,h3⟩
theorem dG {M:aL} {n:Nat} {b:Blk}:aq M n=some b↔M[n]? = some (some b):=by
 unfold aq;split
 ·rename_i b' h; simp[h]
 ·rename_i h;constructor
  ·intro h'; cases h'
  ·intro h'; exact absurd h' (h b)
theorem Fb (base:Nat) (ts:List Nat) (s:St):(Fa base ts s).M.length=s.M.length /\ ∀(G:Gh) (w:World) (ρ:Rho) (a:Act),G.base=base->Sim G w ρ s a->Sim G w ρ (Fa base ts s) a:=by
 cases ts with
 | nil=>exact⟨rfl,λG w ρ a _ h=>h⟩
 | cons t0 ts=>
  simp only[Fa];generalize hgg:NX base s.M (Da s.M 2 (((t0::ts).map λt=>(s.F.getD t .any).refs).flatten))=g;have hg0:∀ n v,g n=some v->base<=n/\jS s.M 1 (.slw n)=some v:=by intro n v h;rw[<- hgg]at h;unfold NX at h;obtain⟨h1,h2⟩:=bA h;simp at h1;exact⟨h1.2,h2⟩
  refine⟨nk g _ _,λG w ρ a hG hs=>?_⟩;subst hG;have hL:EP s.M g (aq (rA g 0 s.M)):=by intro m b' hb';obtain⟨g1,b,g2,rfl⟩:=pK g s.M 0 m b' (dG.1 hb');exact⟨b,dG.2 g2,vz g b.c,by simpa using g1⟩
  have hbody:∀(c:Body) cur,BodyRep (okc G ρ (aq s.M)) w ρ c cur->BodyRep (okc G ρ (aq (rA g 0 s.M))) w ρ (c.cold g) cur/\(c.cold g).size=c.size:=by
   intro c cur hb;cases c with
   | cells cs=>
    refine⟨λi x hx=>?_,iR g cs⟩;have hx:(oD g cs)[i]? = some x:=hx;rw[pJ]at hx;obtain⟨y,hy,rfl⟩:=Option.map_eq_some_iff.1 hx;obtain⟨v,v1,v2,v3⟩:=hb i y hy;exact⟨v,v1,v2,Ai hs.sim hs.noex hL hg0 v3⟩
   | _=>exact⟨hb.mono (di hL),rfl⟩
  refine⟨⟨λn b' hb'=>?_,λn m bn bm p q hn hm hp hq=>?_,hs.sim.own,hs.sim.size,hs.sim.os,hs.sim.tape,hs.sim.output,hs.sim.old,hs.sim.tab,hs.sim.high⟩,hs.noex,λn hn=>hs.dom n (by have hn:(rA g 0 s.M).length<=n:=hn; rwa [nk]at hn),hs.defers,λt=>?_,by show _=(oD g s.F).length; rw[iR]; exact hs.size,by show _<=(rA g 0 s.M).length; rw[nk]; exact hs.base⟩
  ·obtain⟨-,b,hb,rfl⟩:=pK g s.M 0 n b' (dG.1 hb');obtain⟨q,hq,hat⟩:=hs.sim.blks n b (dG.2 hb);refine⟨q,hq,?_⟩;have hsz:∀ c:Body,(c.cold g).size=c.size:=λc=>by cases c <;> first | rfl | exact iR g _
   cases q with
   | none=>show(b.c.cold g).size=0; rw[hsz]; exact hat
   | some p=>
    obtain⟨cur,g1,g2,g3,g4,g5,g6,g7⟩:=hat;refine⟨cur,g1,g2,by show _=(b.c.cold g).size; rw[hsz]; exact g3,g4,g5,(hbody b.c cur g6).1,?_⟩;obtain⟨e0,z0,c0⟩:=b;cases c0 with
    | own t a xs hh=>exact SubsAt.of (di hL) (λ_ _=>rfl) g7
    | _=>exact g7
  ·obtain⟨-,b1,hb1,rfl⟩:=pK g s.M 0 n bn (dG.1 hn);obtain⟨-,b2,hb2,rfl⟩:=pK g s.M 0 m bm (dG.1 hm);exact λx hx1 hx2=>hs.sim.inj n m b1 b2 p q (dG.2 hb1) (dG.2 hb2) hp hq x (iu (vz g b1.c) hx1) (iu (vz g b2.c) hx2)
  ·show Rep _ w ρ ((oD g s.F).getD t .any) _;rw[List.getD_eq_getElem?_getD,pJ];have:=hs.fr t;rw[List.getD_eq_getElem?_getD]at this;cases e:s.F[t]? with
   | none=>exact .any _
   | some v=>rw[e]at this; exact Ai hs.sim hs.noex hL hg0 this
theorem mz {P:Program} (an:Option Nrm) (s:St) (base:Nat) (hb:base<=s.M.length):base<=(sS P base an s).M.length /\ ∀(G:Gh) (w:World) (ρ:Rho) (a:Act),G.base=base->Sim G w ρ s a -> ∃ ρ',Sim G w ρ' (sS P base an s) a /\ ∀ n q,n<base->ρ n=some q->ρ' n=some q:=by
 cases an with
 | none=>exact⟨hb,λG w ρ a _ h=>⟨ρ,h,λ_ _ _ h=>h⟩⟩
 | some an=>
  obtain⟨hcl,hcs⟩:=Fb base an.frz s;generalize hs0:Fa base an.frz s=s0 at hcl hcs;have hb:base<=s0.M.length:=by rw[hcl]; exact hb
  have hvl:s0.M.length<=(ij P an.virt s0).M.length:=by
   have:∀(vs:List (Nat × Option Nat × Nat)) (s:St),s.M.length<=(ij P vs s).M.length:=by
    intro vs;induction vs with
    | nil=>intro s; exact afw _
    | cons x r ih=>
     intro s;obtain⟨t,x,e⟩:=x;cases x with
     | none=>
      simp only[ij];split
      ·exact afG (by simp) (ih _)
      ·exact ih s
     | some i=>
      simp only[ij];split
      ·split
       ·split
        ·exact afG (by simp) (ih _)
        ·exact ih s
       ·exact ih s
      ·split
       ·rename_i b _;cases b.sz==1
        ·exact ih s
        ·exact ih ⟨s.F.set t (.sl _ 0 b.c.size),s.M⟩
       ·exact ih s
      ·exact ih s
   exact this _ _
  simp only[sS,hs0];generalize hL:kH base (ij P an.virt s0).M (AQ an.keep 0 (ij P an.virt s0).F)=L;have hLge:∀ n,n ∈ L->base<=n:=λn hn=>yZ n (by rw[hL]; exact hn)
  cases hnd:kI L with
  | false=>
   simp only[afk];refine⟨afG hb hvl,λG w ρ a hG h=>?_⟩;obtain⟨_,ρ',h1,h2⟩:=dp an.virt s0 G w ρ a (hcs G w ρ a hG h);exact⟨ρ',h1,λn q _ hq=>h2 n q hq⟩
  | true=>
   simp only[afl];refine⟨by show base<=(Dz an.den _).length; rw[oF,kN (afG hb hvl)]; omega,λG w ρ a hG h=>?_⟩;obtain⟨_,ρ',h1,h2⟩:=dp an.virt s0 G w ρ a (hcs G w ρ a hG h);subst hG;obtain⟨h3,h4⟩:=h1.sim.renum h1.base hnd hLge;refine⟨gO G.base L ρ',qw an.den ⟨uU an.keep (renum G.base L) 0 (ij P an.virt s0).F,h_ G.base L (ij P an.virt s0).M⟩ ⟨h3,h1.noex,λn hn=>?_,h1.defers,λt=>?_,by rw[wU]; exact h1.size,by show G.base<=(h_ G.base L _).length; rw[kN h1.base]; omega⟩,λn q hn hq=>by simp[gO,hn,h2 n q hq]⟩
   ·have hn:(h_ G.base L (ij P an.virt s0).M).length<=n:=hn;rw[kN h1.base]at hn;unfold gO;rw[if_neg (by omega),List.getElem?_eq_none (by omega)]
   ·show Rep _ w _ ((uU an.keep (renum G.base L) 0 (ij P an.virt s0).F).getD t .any) _;rw[AP];cases an.keep.contains (0+t)with
    | false=>exact .any _
    | true=>exact nC ta ((h1.fr t).mono h4)
def K.of (κ:K):Exit->St->Bool
 | .normal,s=>κ.nrm s
 | .exit i,s=>κ.ext i s
 | .ret,s=>κ.ret s
 | _,_=>false
def W0 (cx:Cx) (base:Nat) (c:Code) (s:St) (e:Exit) (s':St):Prop:=
 ∀(G:Gh) (w:World) (ρ:Rho) (a:Act),G.base=base/\SpareC G c->Sim G w ρ s a -> ∀(Q:Exit->Act->World->Prop),
  (∀ w' ρ' a',Sim G w' ρ' s' a'->(∀ n q,n<base->ρ n=some q->ρ' n=some q)->Q e a' w')->c.wp cx.P Q a w
theorem oq {P:Program} {b:Frame} {a:Act} {k:List Item} {cs:List Frame} {w:World} {c:Code} :
  step P (lone (b.at a (.code (.scope c)::k)) cs w)=.next (lone (b.at a (.code c :: .inScope c::k)) cs w):=
 step_lone_go (by simp[stepG,stepG.exec,Frame.at])
theorem EB {P:Program} {b:Frame} {a:Act} {k:List Item} {cs:List Frame} {w:World} {c:Code} :
  step P (lone (b.at a (.inScope c::k)) cs w)=.next (lone (b.at a k) cs w):=
 step_lone_go (by simp[stepG,stepG.exec,Frame.at])
theorem Qp {P:Program} {Q:Exit->Act->World->Prop} {a:Act} {w:World} {c:Code} (h:c.wp P (λe a w=>Q e a w /\ ∀ l,e ≠ .goto l) a w):(Code.scope c).wp P Q a w:=by
 intro b k cs;obtain⟨e,a₁,w₁,⟨hq,hg⟩,harr⟩:=h b (.inScope c::k) cs;cases e with
 | normal=>exact⟨.normal,a₁,w₁,hq,.head oq (Steps.trans harr (.one EB))⟩
 | exit id'=>exact⟨.exit id',a₁,w₁,hq,λk' hk=>.head oq (harr k' (by simp[exitTo,hk]))⟩
 | goto l=>exact absurd rfl (hg l)
 | ret=>exact⟨_,a₁,w₁,hq,.of_steps (.one oq) harr⟩
 | panic ch=>exact⟨_,a₁,w₁,hq,.of_steps (.one oq) harr⟩
 | outgrown=>exact⟨_,a₁,w₁,hq,.of_steps (b:=b) (k:=k) (cs:=cs) (e:=.outgrown) (.one oq) harr⟩
theorem cD {cx:Cx} (hO:OS cx) {base:Nat} {an:Nat->Option Ann}:∀(c:Code) (bid:Nat) (s:St) (κ:K),gP cx base an c bid->base<=s.M.length->cS cx base an c bid s κ=true ->
  ∃ e s',κ.of e s'=true/\base<=s'.M.length/\W0 cx base c s e s'
 | .skip,bid,s,κ,hk,hb,h=>⟨.normal,s,h,hb,λG w ρ a _ hs Q hQ=>wp_skip (hQ w ρ a hs λ_ _ _ h=>h)⟩
 | .region id ops false,bid,s,κ,hk,hb,h=>by
  simp only[cS]at h;obtain⟨s',h1,h2,h3⟩:=qU hO ops.toList s κ.nrm hb h;exact⟨.normal,s',h1,h2,λG w ρ a hG hs Q hQ=>wp_region_list (h3 G w ρ a ⟨hG.1,hG.2.region⟩ hs Q hQ)⟩
 | .region id ops true,bid,s,κ,hk,hb,h=>by
  simp only[cS]at h;obtain⟨g1,g2⟩:=and_true h;obtain⟨s',h1,h2,h3⟩:=Fu (id:=id) hO hb g1 g2;exact⟨.normal,s',h1,h2,λG w ρ a hG hs Q hQ=>h3 G w ρ a ⟨hG.1,hG.2.region⟩ hs Q hQ⟩
 | .seq c d,bid,s,κ,hk,hb,h=>by
  simp only[cS]at h;obtain⟨e,s1,h1,h2,h3⟩:=cD hO c bid s _ hk.1 hb h;cases e with
  | normal=>
   obtain⟨e2,s2,k1,k2,k3⟩:=cD hO d bid s1 κ hk.2 h2 h1;exact⟨e2,s2,k1,k2,λG w ρ a hG hs Q hQ=>wp_seq (h3 G w ρ a ⟨hG.1,hG.2.seq.1⟩ hs _ λw' ρ' a' hs' hr=>k3 G w' ρ' a' ⟨hG.1,hG.2.seq.2⟩ hs' Q λw'' ρ'' a'' hs'' hr'=>hQ w'' ρ'' a'' hs'' λn q hn hq=>hr' n q hn (hr n q hn hq))⟩
  | exit i=>exact⟨.exit i,s1,h1,h2,λG w ρ a hG hs Q hQ=>wp_seq (h3 G w ρ a ⟨hG.1,hG.2.seq.1⟩ hs _ λw' ρ' a' hs' hr=>hQ w' ρ' a' hs' hr)⟩
  | ret=>exact⟨.ret,s1,h1,h2,λG w ρ a hG hs Q hQ=>wp_seq (h3 G w ρ a ⟨hG.1,hG.2.seq.1⟩ hs _ λw' ρ' a' hs' hr=>hQ w' ρ' a' hs' hr)⟩
  | goto l=>simp[K.of]at h1
  | panic p=>simp[K.of]at h1
  | outgrown=>simp[K.of]at h1
 | .cond (.tmp t) c d,bid,s,κ,hk,hb,h=>by
  simp only[cS]at h;split at h
  ·rename_i b hF;have hev:∀{G:Gh} {w:World} {ρ:Rho} {a:Act},Sim G w ρ s a->a.eval (.tmp t)=.bool b:=by intro G w ρ a hs;have hr:=hs.fr t;rw[hF]at hr;exact hr.bool_inv
   cases b with
   | true=>
    rw[afl,p7 hF]at h;obtain⟨e,s1,h1,h2,h3⟩:=cD hO c bid s κ hk.1 hb h;exact⟨e,s1,h1,h2,λG w ρ a hG hs Q hQ=>wp_cond_true (hev hs) (h3 G w ρ a ⟨hG.1,hG.2.cond.1⟩ hs Q hQ)⟩
   | false=>
    rw[afk,p7 hF]at h;obtain⟨e,s1,h1,h2,h3⟩:=cD hO d bid s κ hk.2 hb h;exact⟨e,s1,h1,h2,λG w ρ a hG hs Q hQ=>wp_cond_false (hev hs) (h3 G w ρ a ⟨hG.1,hG.2.cond.2⟩ hs Q hQ)⟩
  ·cases h
 | .block id c,bid,s,κ,hk,hb,h=>by
  simp only[cS]at h;obtain⟨e,s1,h1,h2,h3⟩:=cD hO c id s _ hk hb h;cases e with
  | normal=>exact⟨.normal,s1,h1,h2,λG w ρ a hG hs Q hQ=>wp_block (h3 G w ρ a ⟨hG.1,hG.2.block⟩ hs _ λw' ρ' a' hs' hr=>hQ w' ρ' a' hs' hr)⟩
  | exit i=>
   simp only[K.of]at h1;cases e:(i==id)with
   | true=>
    rw[e,afl]at h1;obtain rfl:i=id:=by simpa using e
    exact⟨.normal,s1,h1,h2,λG w ρ a hG hs Q hQ=>wp_block (h3 G w ρ a ⟨hG.1,hG.2.block⟩ hs _ λw' ρ' a' hs' hr=>by simp only[Exit.inBlock,agU]; exact hQ w' ρ' a' hs' hr)⟩
   | false=>
    rw[e,afk]at h1;have hne:¬ i=id:=by simpa using e
    exact⟨.exit i,s1,h1,h2,λG w ρ a hG hs Q hQ=>wp_block (h3 G w ρ a ⟨hG.1,hG.2.block⟩ hs _ λw' ρ' a' hs' hr=>by simp only[Exit.inBlock,hne,afS]; exact hQ w' ρ' a' hs' hr)⟩
  | ret=>exact⟨.ret,s1,h1,h2,λG w ρ a hG hs Q hQ=>wp_block (h3 G w ρ a ⟨hG.1,hG.2.block⟩ hs _ λw' ρ' a' hs' hr=>hQ w' ρ' a' hs' hr)⟩
  | goto l=>simp[K.of]at h1
  | panic p=>simp[K.of]at h1
  | outgrown=>simp[K.of]at h1
 | .loop c,bid,s,κ,hk,hb,h=>by
  obtain⟨n1,n2⟩:=mz (P:=cx.P) (vJ (an bid)) s base hb;have h:zy cx.N (λs k=>cS cx base an c bid s (tc cx.P base (an bid) κ k)) (sS cx.P base (vJ (an bid)) s)=true:=by
   simp only[cS]at h;split at h
   ·rename_i hk' hkk;exact hk.2 hk' hkk _ κ h
   ·exact h
  have main:∀(N:Nat) (s:St),base<=s.M.length->zy N (λs k=>cS cx base an c bid s (tc cx.P base (an bid) κ k)) s=true ->
    ∃ e s',κ.of e s'=true/\base<=s'.M.length /\ ∀(G:Gh) (w:World) (ρ:Rho) (a:Act),G.base=base/\SpareC G c->Sim G w ρ s a -> ∀(Q:Exit->Act->World->Prop),
     (∀ w' ρ' a',Sim G w' ρ' s' a'->(∀ n q,n<base->ρ n=some q->ρ' n=some q)->Q e a' w')->Code.rounds cx.P c Q N a w:=by
   intro N;induction N with
   | zero=>intro s _ h; simp[zy]at h
   | succ N ih=>
    intro s hb h;simp only[zy]at h;obtain⟨e,s1,h1,h2,h3⟩:=cD hO c bid _ _ hk.1 hb h;have go:∀(e':Exit) (s':St),(∀(G:Gh) (w:World) (ρ:Rho) (a:Act),G.base=base/\SpareC G c->Sim G w ρ s1 a -> ∀(Q:Exit->Act->World->Prop),
      (∀ w' ρ' a',Sim G w' ρ' s' a'->(∀ n q,n<base->ρ n=some q->ρ' n=some q)->Q e' a' w')->Exit.then (Code.rounds cx.P c Q N) Q e a w) ->
      ∀(G:Gh) (w:World) (ρ:Rho) (a:Act),G.base=base/\SpareC G c->Sim G w ρ s a -> ∀(Q:Exit->Act->World->Prop),
     (∀ w' ρ' a',Sim G w' ρ' s' a'->(∀ n q,n<base->ρ n=some q->ρ' n=some q)->Q e' a' w')->Code.rounds cx.P c Q (N+1) a w:=by
     intro e' s' hgo G w ρ a hG hs Q hQ;rw[rounds_succ];exact h3 G w ρ a hG hs _ λw' ρ' a' hs' hr=>hgo G w' ρ' a' hG hs' Q λw'' ρ'' a'' hs'' hr'=>hQ w'' ρ'' a'' hs'' λn q hn hq=>hr' n q hn (hr n q hn hq)
    cases e with
    | normal=>
     have h1:zy N _ (sS cx.P base (vJ (an bid)) s1)=true:=h1;obtain⟨m1,m2⟩:=mz (P:=cx.P) (vJ (an bid)) s1 base h2;obtain⟨e2,s2,k1,k2,k3⟩:=ih _ m1 h1;refine⟨e2,s2,k1,k2,go e2 s2 λG w ρ a hG hs Q hQ=>?_⟩;obtain⟨ρ1,hs1,hr1⟩:=m2 G w ρ a hG.1 hs;exact k3 G w ρ1 a hG hs1 Q λw' ρ' a' hs' hr=>hQ w' ρ' a' hs' λn q hn hq=>hr n q hn (hr1 n q hn hq)
    | exit i=>
     obtain⟨m1,m2⟩:=mz (P:=cx.P) (Og (an bid) i) s1 base h2;refine⟨.exit i,_,h1,m1,go (.exit i) _ λG w ρ a hG hs Q hQ=>?_⟩;obtain⟨ρ1,hs1,hr1⟩:=m2 G w ρ a hG.1 hs;exact hQ w ρ1 a hs1 hr1
    | ret=>
     obtain⟨m1,m2⟩:=mz (P:=cx.P) (SQ (an bid)) s1 base h2;refine⟨.ret,_,h1,m1,go .ret _ λG w ρ a hG hs Q hQ=>?_⟩;obtain⟨ρ1,hs1,hr1⟩:=m2 G w ρ a hG.1 hs;exact hQ w ρ1 a hs1 hr1
    | goto l=>simp[K.of]at h1
    | panic p=>simp[K.of]at h1
    | outgrown=>simp[K.of]at h1
  obtain⟨e,s',h1,h2,h3⟩:=main cx.N _ n1 h;refine⟨e,s',h1,h2,λG w ρ a hG hs Q hQ=>wp_loop_rounds cx.N ?_⟩;obtain⟨ρ1,hs1,hr1⟩:=n2 G w ρ a hG.1 hs;exact h3 G w ρ1 a ⟨hG.1,hG.2.loop⟩ hs1 Q λw' ρ' a' hs' hr=>hQ w' ρ' a' hs' λn q hn hq=>hr n q hn (hr1 n q hn hq)
 | .exit id,bid,s,κ,hk,hb,h=>⟨.exit id,s,h,hb,λG w ρ a _ hs Q hQ=>wp_exit (hQ w ρ a hs λ_ _ _ h=>h)⟩
 | .ret,bid,s,κ,hk,hb,h=>⟨.ret,s,h,hb,λG w ρ a _ hs Q hQ=>wp_ret (hQ w ρ a hs λ_ _ _ h=>h)⟩
 | .cond (.const v) c d,bid,s,κ,hk,hb,h=>by
  cases v with
  | bool b=>
   simp only[cS]at h;cases b with
   | true=>
    rw[afl]at h;obtain⟨e,s1,h1,h2,h3⟩:=cD hO c bid s κ hk.1 hb h;exact⟨e,s1,h1,h2,λG w ρ a hG hs Q hQ=>wp_cond_true rfl (h3 G w ρ a ⟨hG.1,hG.2.cond.1⟩ hs Q hQ)⟩
   | false=>
    rw[afk]at h;obtain⟨e,s1,h1,h2,h3⟩:=cD hO d bid s κ hk.2 hb h;exact⟨e,s1,h1,h2,λG w ρ a hG hs Q hQ=>wp_cond_false rfl (h3 G w ρ a ⟨hG.1,hG.2.cond.2⟩ hs Q hQ)⟩
  | _=>simp[cS]at h
 | .cond (.global _) _ _,_,_,_,_,_,h=>by simp[cS]at h
 | .cond (.func _) _ _,_,_,_,_,_,h=>by simp[cS]at h
 | .rangeFunc ..,_,_,_,_,_,h=>by simp[cS]at h
 | .scope c,bid,s,κ,hk,hb,h=>by
  simp only[cS]at h;obtain⟨e,s1,h1,h2,h3⟩:=cD hO c bid s κ hk hb h;have hg:∀ l,e ≠ .goto l:=by intro l he; subst he; simp[K.of]at h1
  exact⟨e,s1,h1,h2,λG w ρ a hG hs Q hQ=>Qp (h3 G w ρ a ⟨hG.1,hG.2.scope⟩ hs (λe a w=>Q e a w /\ ∀ l,e ≠ .goto l) λw' ρ' a' hs' hr=>⟨hQ w' ρ' a' hs' hr,hg⟩)⟩
 | .label _,bid,s,κ,hk,hb,h=>⟨.normal,s,h,hb,λG w ρ a _ hs Q hQ=>wp_label (hQ w ρ a hs λ_ _ _ h=>h)⟩
 | .goto _,_,_,_,_,_,h=>by simp[cS]at h
 | .refuse _,_,_,_,_,_,h=>by simp[cS]at h
def qW (tmps:Array Value) (r:ResultVar):Sem Value:=match r with
 | .tmp t=>pure (tmps.getD t undef)
 | .cell a t=>do loadVar t (<- asAddr (tmps.getD a undef))
theorem IF {P:Program} {s:St} {r:ResultVar} {k:V->Bool} (h:VZ P s r k=true) :
    ∃ x,k x=true /\ ∀(G:Gh) (w:World) (ρ:Rho) (a:Act),Sim G w ρ s a -> ∃ v,(qW a.tmps r).run P w=.ok v w/\Rep (okc G ρ (aq s.M)) w ρ x v:=by
  cases r with
  | tmp t=>exact⟨_,h,λG w ρ a hs=>⟨_,rfl,hs.fr t⟩⟩
  | cell t ty=>
    simp only[VZ]at h;split at h
    · rename_i ag z n p hag hz hF
      split at h
      · rename_i b hM
        have main:∀ y,((ag=true /\ ∃ zs,y=.agg zs/\zs.length=z /\ ∀(i:Nat) c,zs[i]? = some c->b.c.at (p+i)=some c)\/(ag=false/\b.c.at p=some y)) -> ∀(G:Gh) (w:World) (ρ:Rho) (a:Act),Sim G w ρ s a ->
            ∃ v,(qW a.tmps (.cell t ty)).run P w=.ok v w/\Rep (okc G ρ (aq s.M)) w ρ y v:=by
          intro y hy G w ρ a hs;have hx:=hs.fr t; rw[hF]at hx;obtain⟨pl,hp,hv⟩:=hx.ptr_inv;obtain⟨cur,c1,c2,c3,c4,c5,c6⟩:=hs.sim.place hM hp;have key:∃ v,(Instr.loadAt ty (.pointer (some ⟨pl.b,p,none⟩))).run P w=.ok v w/\Rep (okc G ρ (aq s.M)) w ρ y v:=by
            refine jA hag hz ?_;rcases hy with⟨h1,zs,h2,h3,h4⟩ | ⟨h1,h2⟩
            · refine .inl ⟨h1,zs,h2,h3,λi c hc=>?_⟩
              obtain⟨v,g1,g2,g3⟩:=c6 _ _ (h4 i c hc);exact⟨v,aW c1 g1,g2,g3⟩
            · obtain⟨v,g1,g2,g3⟩:=c6 _ _ h2
              exact .inr ⟨h1,v,aW c1 g1,g3⟩
          obtain⟨v,h1,h2⟩:=key;refine⟨v,?_,h2⟩;simp only[Instr.loadAt,Instr.sureAddr,Sem.run_bind,Sem.run_pure,Result.andThen_ok]at h1;simp only[qW,hv,asAddr,Sem.run_bind,Sem.run_pure,Result.andThen_ok,h1]
        cases ag
        · simp only[afk]at h
          obtain⟨y,hy,hk⟩:=Body.get_sound h;exact⟨y,hk,main y (.inr ⟨rfl,hy⟩)⟩
        · simp only[afl]at h
          obtain⟨zs,hl,hy,hk⟩:=Body.part_sound h;exact⟨_,hk,main _ (.inl ⟨rfl,zs,rfl,hl,hy⟩)⟩
      · cases h
    · rename_i ag z cs i hag hz hF
      have main:∀ y,((ag=true/\i+z<=cs.length/\y=.agg ((cs.drop i).take z))\/(ag=false/\cs[i]? = some y)) -> ∀(G:Gh) (w:World) (ρ:Rho) (a:Act),Sim G w ρ s a ->
            ∃ v,(qW a.tmps (.cell t ty)).run P w=.ok v w/\Rep (okc G ρ (aq s.M)) w ρ y v:=by
        intro y hy G w ρ a hs;have hx:=hs.fr t; rw[hF]at hx;obtain⟨b,o,g,hv,hok,hb,hc,hone,hr⟩:=hx.rp_inv;have key:∃ v,(Instr.loadAt ty (.pointer (some ⟨b,o,none⟩))).run P w=.ok v w/\Rep (okc G ρ (aq s.M)) w ρ y v:=by
          refine jA hag hz ?_;rcases hy with⟨h1,h2,h3⟩ | ⟨h1,h2⟩
          · refine .inl ⟨h1,_,h3,by simp; omega,λj c hcj=>?_⟩
            simp only[List.getElem?_take,List.getElem?_drop]at hcj;split at hcj
            · rename_i hj
              exact⟨g (i+j),hc j (by omega),hone _ (by omega),hr _ _ hcj⟩
            · cases hcj
          · have hlt:=(List.getElem?_eq_some_iff.1 h2).1
            exact .inr ⟨h1,g i,by simpa using hc 0 (by omega),hr _ _ h2⟩
        obtain⟨v,h1,h2⟩:=key;refine⟨v,?_,h2⟩;simp only[Instr.loadAt,Instr.sureAddr,Sem.run_bind,Sem.run_pure,Result.andThen_ok]at h1;simp only[qW,hv,asAddr,Sem.run_bind,Sem.run_pure,Result.andThen_ok,h1]
      cases ag
      · simp only[afk]at h
        split at h
        · rename_i y hy; exact⟨_,h,main y (.inr ⟨rfl,hy⟩)⟩
        · cases h
      · simp only[afl]at h
        obtain⟨h0,h⟩:=and_true h;exact⟨_,h,main _ (.inl ⟨rfl,afp h0,rfl⟩)⟩
    · cases h
theorem zc {P:Program} {s:St}:∀(rs:List ResultVar) (k:List V->Bool),JU P s rs k=true ->
  ∃ xs,k xs=true /\ ∀(G:Gh) (w:World) (ρ:Rho) (a:Act),Sim G w ρ s a -> ∃ vs,(rs.mapM (qW a.tmps)).run P w=.ok vs w/\RepL (okc G ρ (aq s.M)) w ρ xs vs
 | [],k,h=>⟨[],h,λG w ρ a _=>⟨[],by simp,rfl,by simp⟩⟩
 | r::rs,k,h=>by
  simp only[JU]at h;obtain⟨x,h1,h2⟩:=IF h;obtain⟨xs,h3,h4⟩:=zc rs _ h1;refine⟨x::xs,h3,λG w ρ a hs=>?_⟩;obtain⟨v,g1,g2⟩:=h2 G w ρ a hs;obtain⟨vs,g3,g4⟩:=h4 G w ρ a hs;refine⟨v::vs,by simp[List.mapM_cons,g1,g3],by simp[g4.1],λi c u hc hu=>?_⟩;cases i with
  | zero=>simp at hc hu; subst hc; subst hu; exact g2
  | succ i=>exact g4.2 i c u (by simpa using hc) (by simpa using hu)
theorem yA:∀{M:aL} {H:List Blk},tU M=some H->M=H.map some
 | [],H,h=>by simp[tU]at h; subst h; rfl
 | some b::r,H,h=>by
  simp only[tU,afQ]at h;obtain⟨H',h1,rfl⟩:=h;simp[yA h1]
 | none::_,_,h=>by simp[tU]at h
theorem vF {P:Program} {base:Nat} {fn:Func} {s:St} {k:V->List Blk->Bool} (hb:base<=s.M.length) (h:Fw P base fn.results.toList s k=true) :
  ∃ r H',k r H'=true /\ ∀(G:Gh) (w:World) (ρ:Rho) (a:Act),G.base=base->Sim G w ρ s a -> ∃ v ρ',(results fn a.tmps).run P w=.ok v w/\(∀ n q,n<base->ρ n=some q->ρ' n=some q)/\(∀ n,H'.length<=n->ρ' n=none) /\
   SimW G w ρ' (eB H')/\Rep (okc G ρ' (eB H')) w ρ' r v:=by
 unfold Fw at h;obtain⟨xs,h1,h2⟩:=zc _ _ h;obtain⟨hnd,h3⟩:=and_true h1;split at h3
 ·rename_i H hH;have hM:=yA hH;have hfin:∀(G:Gh) (w:World) (ρ:Rho) (a:Act),G.base=base->Sim G w ρ s a -> ∃ vs ρ',(fn.results.mapM (qW a.tmps)).run P w=.ok vs.toArray w/\(∀ n q,n<base->ρ n=some q->ρ' n=some q)/\(∀ n,H.length<=n->ρ' n=none) /\
    SimW G w ρ' (eB H)/\RepL (okc G ρ' (eB H)) w ρ' (ik (renum base (kH base s.M (mD xs))) xs) vs:=by
   intro G w ρ a hG hs;obtain⟨vs,g1,g2⟩:=h2 G w ρ a hs;subst hG;obtain⟨g3,g4⟩:=hs.sim.renum hs.base hnd (λn hn=>yZ n hn);have hl:aq (h_ G.base (kH G.base s.M (mD xs)) s.M)=eB H:=by rw[hM]; rfl
   rw[hl]at g3 g4;have hlen:H.length=G.base+(kH G.base s.M (mD xs)).length:=by rw[<- kN (M:=s.M) hs.base,hM]; simp
   refine⟨vs,gO G.base (kH G.base s.M (mD xs)) ρ,?_,λn q hn hq=>by simp[gO,hn,hq],λn hn=>?_,g3,RepL.ren ta (g2.mono g4)⟩
   ·rw[Array.mapM_eq_mapM_toList];simp[g1]
   ·unfold gO;rw[if_neg (by omega),List.getElem?_eq_none (by omega)]
  have hres:∀(tmps:Array Value) (w:World) (vs:Array Value),(fn.results.mapM (qW tmps)).run P w=.ok vs w->(results fn tmps).run P w=.ok (if h:vs.size=1 then vs[0]else .tuple vs) w:=by
   intro tmps w vs hr;have:results fn tmps=(fn.results.mapM (qW tmps)) >>= λvs=>pure (if h:vs.size=1 then vs[0]else .tuple vs):=rfl
   rw[this,Sem.run_bind,hr];rfl
  split at h3
  ·rename_i v hv;refine⟨v,H,h3,λG w ρ a hG hs=>?_⟩;obtain⟨vs,ρ',g1,g2,g3,g4,g5⟩:=hfin G w ρ a hG hs;rw[hv]at g5;have hl:=g5.1
   match vs,hl with
   | [u],_=>
    refine⟨u,ρ',?_,g2,g3,g4,g5.2 0 v u (by simp) (by simp)⟩;rw[hres _ _ _ g1]; rfl
  ·rename_i hne;refine⟨_,H,h3,λG w ρ a hG hs=>?_⟩;obtain⟨vs,ρ',g1,g2,g3,g4,g5⟩:=hfin G w ρ a hG hs;refine⟨.tuple vs.toArray,ρ',?_,g2,g3,g4,.tup _ _ g5.1 g5.2⟩;rw[hres _ _ _ g1,dif_neg];intro h1;have hl:=g5.1;have:vs.length=1:=by simpa using h1
   rw[this]at hl;obtain⟨y,hy⟩:=List.length_eq_one_iff.1 hl;exact hne y hy
 ·cases h3
def OkC (P:Program) (f:FuncId) (args:List V) (H:List Blk) (r:V) (H':List Blk):Prop:=
 ∀(w:World) (ρ:Rho) (ok:Nat->Prop) (vs:List Value),SimW (gh w H.length ok) w ρ (eB H)->(∀ n,H.length<=n->ρ n=none)->RepL (okc (gh w H.length ok) ρ (eB H)) w ρ args vs ->
  Calls P f vs.toArray w λe' w'=>∃ v,e'=.returned v /\ ∃ ρ',(∀ n,n<H.length->ρ' n=ρ n)/\(∀ n,H'.length<=n->ρ' n=none)/\SimW (gh w H.length ok) w' ρ' (eB H')/\Rep (okc (gh w H.length ok) ρ' (eB H')) w' ρ' r v
theorem si {cx:Cx} (hO:OS cx) {an:Nat->Option Ann} {f:Nat} {args:List V} {H:List Blk} {k:V->List Blk->Bool} (hk:∀ fn c,cx.P.funcs[f]? = some fn->fn.body=some c->gP cx H.length an c 0) (h:kh cx an f args H k=true) :
  ∃ r H',(Ok cx.P f args H r H'/\OkC cx.P f args H r H')/\k r H'=true:=by
 unfold kh at h;split at h
 ·rename_i fn hfn;split at h
  ·rename_i c hc;simp only at h;obtain⟨hname,h'⟩:=and_true h;have hname':¬ fn.name = "runtime.NumGoroutine":=by simpa using hname
   have hb0:H.length<=(H.map some).length:=by simp
   obtain⟨e,s',h1,h2,h3⟩:=cD hO c 0 _ _ (hk fn c hfn hc) hb0 h';have hend:Fw cx.P H.length fn.results.toList s' k=true/\(e=.normal\/e=.ret):=by
    cases e <;> simp[K.of]at h1
    ·exact⟨h1,.inl rfl⟩
    ·exact⟨h1,.inr rfl⟩
   obtain⟨r,H',hk,hfin⟩:=vF h2 hend.1;refine⟨r,H',?_,hk⟩;have hok:OkC cx.P f args H r H':=by
    intro w ρ ok vs hsim hdom hargs;refine calls_of_wp hfn hc ?_;have hS:Sim (gh w H.length ok) w ρ ⟨args++List.replicate (fn.ntmps - args.length) .any,H.map some⟩ { tmps:=vs.toArray++Array.replicate (fn.ntmps - vs.toArray.size) undef,defers:=[] }:=by
     refine⟨hsim,λ_ h=>h,λn hn=>hdom n (by simpa using hn),⟨rfl,λ_ h=>by cases h⟩,λt=>?_,by simp[hargs.1],by simp[gh]⟩;show Rep _ w ρ ((args++List.replicate (fn.ntmps - args.length) V.any).getD t .any) _;by_cases ht:t<args.length
     ·have htv:t<vs.length:=by rw[<- hargs.1]; exact ht
      have e1:(args++List.replicate (fn.ntmps - args.length) V.any).getD t .any=args[t]:=by rw[List.getD,List.getElem?_append_left ht]; simp[ht]
      have e2:(vs.toArray++Array.replicate (fn.ntmps - vs.toArray.size) undef).getD t undef=vs[t]:=by rw[Array.getD_eq_getD_getElem?,Array.getElem?_append_left (by simpa using htv)]; simp[htv]
      rw[e1,e2];exact hargs.2 t _ _ (by simp[ht]) (by simp[htv])
     ·have e1:(args++List.replicate (fn.ntmps - args.length) V.any).getD t .any=.any:=by rw[List.getD,List.getElem?_append_right (by omega),List.getElem?_replicate];split <;> rfl
      rw[e1]; exact .any _
    refine h3 (gh w H.length ok) w ρ _ ⟨rfl,.none rfl⟩ hS _ λw' ρ' a' hs' hr=>?_
    obtain⟨v,ρ'',g1,g2,g3,g4,g5⟩:=hfin (gh w H.length ok) w' ρ' a' rfl hs';have hpost:a'.defers=[] /\ ∃ v,(results fn a'.tmps).run cx.P w'=.ok v w' /\ ∃ v',Ending.returned v=.returned v' /\ ∃ ρ',(∀ n,n<H.length->ρ' n=ρ n)/\(∀ n,H'.length<=n->ρ' n=none)/\SimW (gh w H.length ok) w' ρ' (eB H')/\Rep (okc (gh w H.length ok) ρ' (eB H')) w' ρ' r v':=by refine⟨hs'.defers.1,v,g1,v,rfl,ρ'',λn hn=>?_,g3,g4,g5⟩;obtain⟨q,hq,_⟩:=hsim.blks n H[n] (nX.2 (by simp[hn]));rw[hq,g2 n q hn (hr n q hn hq)]
    rcases hend.2 with rfl | rfl
    ·exact hpost
    ·exact hpost
   refine⟨?_,hok⟩;intro w ρ ok vs hsim hdom hargs o a N Q hN;have hrun:(callFunc f vs.toArray).run cx.P w=.ok (.enter f vs.toArray) w:=by simp[callFunc,hfn,hname',hc]
   rw[hrun,Oper.upon_enter];have hcalls:=hok w ρ ok vs hsim hdom hargs;refine hcalls.mono λe' w' he=>?_
   obtain⟨v,rfl,hv⟩:=he;exact hN v w' hv
  ·cases h
 ·cases h
theorem EY {cx:Cx} (hO:OS cx) {an:Nat->Option Ann} {f:Nat} {args:List V} {H:List Blk} {k:V->List Blk->Bool} (hk:∀ fn c,cx.P.funcs[f]? = some fn->fn.body=some c->gP cx H.length an c 0) (h:kh cx an f args H k=true) :
  ∃ r H',Ok cx.P f args H r H'/\k r H'=true:=by
 obtain⟨r,H',h1,h2⟩:=si hO hk h;exact⟨r,H',h1.1,h2⟩
abbrev Fs:=List V->List Blk->(V->List Blk->Bool)->Bool
def bO (P:Program) (f:Nat) (S:Fs):Prop:=∀ args H k,S args H k=true -> ∃ r H',Ok P f args H r H'/\k r H'=true
def dH:List (Nat × Fs)->Dr
 | []=>λ_ _ _ _=>false
 | (g,S)::r=>λf=>cond (f==g) S (dH r f)
theorem vW (P:Program):mM P (dH []):=λf args H k h=>by simp[dH]at h
theorem iM {P:Program} {g:Nat} {S:Fs} {r:List (Nat × Fs)} (h:bO P g S) (hr:mM P (dH r)):mM P (dH ((g,S)::r)):=by
 intro f args H k hk;simp only[dH]at hk;cases e:(f==g)with
 | true=>
  obtain rfl:f=g:=by simpa using e
  rw[e,afl]at hk;exact h args H k hk
 | false=>
  rw[e,afk]at hk;exact hr f args H k hk
def mdR (ref:Nat->Bool) (g:Nat):Nat:=cond (ref (3000000+g)) 1 (cond (ref (4000000+g)) 2 (cond (ref (6000000+g)) 4 (cond (ref (7000000+g)) 5 (cond (ref (8000000+g)) 6 (cond (ref (9000000+g)) 7 (cond (ref (10000000+g)) 8 (cond (ref (11000000+g)) 9 (cond (ref (12000000+g)) 10 0))))))))
def FrL (ref:Nat->Bool):List (Nat × Fs)->Prop
 | []=>True
 | (g,S)::r=>FrF (mdR ref g) S/\FrL ref r
theorem KX (md:Nat):FrF md (λ_ _ _=>false):=λ_ _ _ h=>by cases h
theorem Ax {ref:Nat->Bool}:∀(l:List (Nat × Fs)),FrL ref l -> ∀ g,FrF (mdR ref g) (dH l g)
 | [],_,g=>KX _
 | (g',S)::r,h,g=>by
  simp only[dH];cases e:(g==g')with
  | true=>
   obtain rfl:g=g':=by simpa using e
   rw[afl]; exact h.1
  | false=>rw[afk]; exact Ax r h.2 g
theorem Ay {ref:Nat->Bool}:∀(l:List (Nat × Fs)),(l.all λp=>mdR ref p.1==0)=true->FrL ref l
 | [],_=>trivial
 | (g,S)::r,h=>by
  simp only[List.all_cons,afK]at h;refine⟨?_,Ay r h.2⟩;have:mdR ref g=0:=by simpa using h.1
  rw[this]; exact VF S
theorem JR {P:Program} {l:List (Nat × Fs)} {ref:Nat->Bool} {N:Nat} (h:mM P (dH l)) (hf:FrL ref l):OS ⟨P,dH l,ref,N⟩:=⟨h,λg=>Ax l hf g⟩
theorem RB {P:Program} {l:List (Nat × Fs)} {ref:Nat->Bool} {N:Nat} (h:mM P (dH l)) (h0:(l.all λp=>mdR ref p.1==0)=true):OS ⟨P,dH l,ref,N⟩:=JR h (Ay l h0)
theorem Jv {ref:Nat->Bool} {g md:Nat} {S:Fs} (h:mdR ref g=md) (hf:FrF md S):FrF (mdR ref g) S:=by rw[h]; exact hf
theorem QP {ref:Nat->Bool} {g:Nat} {S:Fs} (h:mdR ref g=0):FrF (mdR ref g) S:=by rw[h]; exact VF S
def lA:Code->Nat->List (Nat × Code)
 | .seq a b,bid=>lA a bid++lA b bid
 | .cond _ a b,bid=>lA a bid++lA b bid
 | .block id b,_=>lA b id
 | .scope b,bid=>lA b bid
 | .loop b,bid=>(bid,b)::lA b bid
 | _,_=>[]
def lps (P:Program) (f:Nat):List (Nat × Code):=
 match P.funcs[f]? with
 | some fn=>match fn.body with
  | some c=>lA c 0
  | none=>[]
 | none=>[]
def lp (P:Program) (f i:Nat):Nat × Code:=(lps P f).getD i (0,.skip)
def qn (cx:Cx) (base:Nat) (an:Nat->Option Ann) (p:Nat × Code):Prop:=
 ∀ hk,xP (an p.1)=some hk -> ∀ s κ,hk s κ=true->zy cx.N (λs k=>cS cx base an p.2 p.1 s (tc cx.P base (an p.1) κ k)) s=true
theorem dE {cx:Cx} {base:Nat} {an:Nat->Option Ann}:∀(c:Code) (bid:Nat),(∀ p,p ∈ lA c bid->qn cx base an p)->gP cx base an c bid
 | .seq a b,bid,h=>⟨dE a bid λp hp=>h p (by simp[lA,hp]),dE b bid λp hp=>h p (by simp[lA,hp])⟩
 | .cond _ a b,bid,h=>⟨dE a bid λp hp=>h p (by simp[lA,hp]),dE b bid λp hp=>h p (by simp[lA,hp])⟩
 | .block id b,_,h=>dE b id h
 | .loop b,bid,h=>⟨dE b bid λp hp=>h p (by simp[lA,hp]),h (bid,b) (by simp[lA])⟩
 | .skip,_,_=>trivial
 | .region ..,_,_=>trivial
 | .exit _,_,_=>trivial
 | .ret,_,_=>trivial
 | .rangeFunc ..,_,_=>trivial
 | .scope b,bid,h=>dE b bid h
 | .label _,_,_=>trivial
 | .goto _,_,_=>trivial
 | .refuse _,_,_=>trivial
theorem xM {cx:Cx} (hO:OS cx) {f:Nat} {S:Fs} (n:Nat) (hn:(lps cx.P f).length=n) (h:∀ args H k,S args H k=true -> ∃ an,(∀ i,i<n->qn cx H.length an (lp cx.P f i))/\kh cx an f args H k=true):bO cx.P f S:=
 λargs H k hs=>by
  obtain⟨an,hk,hb⟩:=h args H k hs;refine EY hO (λfn c hfn hc=>dE c 0 λp hp=>?_) hb;have e:lps cx.P f=lA c 0:=by simp[lps,hfn,hc]
  rw[<- e]at hp;obtain⟨i,hi,rfl⟩:=ag2 hp;have:=hk i (by omega);unfold lp at this
  rwa [List.getD_eq_getElem?_getD,List.getElem?_eq_getElem hi]at this
theorem K6 {P:Program} {f:FuncId} {args:Array Value} {w w':World} {v:Value} {R:Value->World->Prop} (h:(callFunc f args).run P w=.ok (.value v) w') (hR:R v w'):EM P f args w R:=by intro o a N Q hN;rw[h]; exact hN v w' hR
theorem FG {P:Program} {f:Nat} {S:Fs} (h:∀ args H k,S args H k=true -> ∃ r,k r H=true /\ ∀(ok:Nat->Prop) (w:World) (ρ:Rho) (vs:List Value),RepL ok w ρ args vs -> ∃ v w',(callFunc f vs.toArray).run P w=.ok (.value v) w'/\(w'=w\/w'=w.drew)/\Rep ok w ρ r v):bO P f S:=by
 intro args H k hk;obtain⟨r,h1,h2⟩:=h args H k hk;refine⟨r,H,λw ρ ok vs hsim hdom hargs=>?_,h1⟩;obtain⟨v,w',g1,g2,g3⟩:=h2 _ w ρ vs hargs;refine K6 g1 ⟨ρ,λ_ _=>rfl,hdom,?_⟩;rcases g2 with rfl | rfl
 ·exact⟨hsim,g3⟩
 ·obtain⟨k1,k2⟩:=hsim.drew;exact⟨k1,g3.mono k2⟩
end Go.Mach
end
