/-
  THE TIES: each printed meaning is what the program does (written by program).
  Conditions: none.
-/
import Derived.Test.YtadejnnigmcpdaaGreatDoorGs
set_option linter.unusedVariables false
namespace Go.Proofs.YtadejnnigmcpdaaGreatDoor
open Go Go.Mach Go.Proofs
set_option maxRecDepth 50000
def Q0 (N:Nat):Nat->Option Ann:=λb_=>none
theorem Ft (N:Nat):ac Pg 155 (nU (v5 N)):=by
 refine am (cx:=⟨Pg,ah [],aj,N⟩) (ae _) Bc (yi (v5 N)) (Q0 N) 0 0 (by kernel_rfl) (λi_ hi_=>by omega) ?_;intro a k h;unfold yi at h;split at h;exact⟨[],rfl,rfl,.trans (by kernel_rfl) h⟩;cases h
def aeZ (N:Nat):Nat->Option Ann:=λb_=>none
theorem Tu (N:Nat):ac Pg 190 (zp (Qh N)):=by
 refine am (cx:=⟨Pg,ah [],aj,N⟩) (ae _) MX (H0 (Qh N)) (aeZ N) 0 0 (by kernel_rfl) (λi_ hi_=>by omega) ?_;intro a k h;unfold H0 at h;split at h;exact⟨[],rfl,rfl,.trans (by kernel_rfl) h⟩;cases h
def aej (N:Nat):Nat->Option Ann:=λb_=>none
theorem Sl (N:Nat):ac Pg 209 (y8 (PO N)):=by
 refine am (cx:=⟨Pg,ah [],aj,N⟩) (ae _) LW (GR (PO N)) (aej N) 0 0 (by kernel_rfl) (λi_ hi_=>by omega) ?_;intro a k h;unfold GR at h;split at h;exact⟨[],rfl,rfl,.trans (by kernel_rfl) h⟩;cases h
def aei (N:Nat) (SZ186:lI) (SZ115:lj):Nat->Option Ann:=λb_=>none
theorem Sk (N:Nat) (SZ186:lI) (SZ115:lj) (hZ186:ac Pg 190 (zp SZ186)) (hZ115:ac Pg 209 (y8 SZ115)):ac Pg 201 (IB (JJ N SZ186 SZ115)):=by
 refine am (cx:=⟨Pg,ah [(190,(zp SZ186)),(209,(y8 SZ115))],aj,N⟩) (aa hZ186 (aa hZ115 (ae _))) LV (GQ (JJ N SZ186 SZ115)) (aei N SZ186 SZ115) 0 0 (by kernel_rfl) (λi_ hi_=>by omega) ?_;intro a k h;unfold GQ at h;split at h;exact⟨[],rfl,rfl,.trans (by kernel_rfl) h⟩;cases h
def aiX (N:Nat):Nat->Option Ann:=λb_=>none
theorem aa1 (N:Nat):ac Pg 179 (Cm (ad1 N)):=by
 refine am (cx:=⟨Pg,ah [],aj,N⟩) (ae _) V8 (XD (ad1 N)) (aiX N) 0 0 (by kernel_rfl) (λi_ hi_=>by omega) ?_;intro a k h;unfold XD at h;split at h;exact⟨[],rfl,rfl,.trans (by kernel_rfl) h⟩;cases h
def ae9 (N:Nat) (SZ115:lj) (SZ90:kO):Nat->Option Ann:=λb_=>none
theorem TH (N:Nat) (SZ115:lj) (SZ90:kO) (hZ115:ac Pg 209 (y8 SZ115)) (hZ90:ac Pg 179 (Cm SZ90)):ac Pg 202 (Jz (Ke N SZ115 SZ90)):=by
 refine am (cx:=⟨Pg,ah [(209,(y8 SZ115)),(179,(Cm SZ90))],aj,N⟩) (aa hZ115 (aa hZ90 (ae _))) Nb (Ie (Ke N SZ115 SZ90)) (ae9 N SZ115 SZ90) 0 0 (by kernel_rfl) (λi_ hi_=>by omega) ?_;intro a k h;unfold Ie at h;split at h;exact⟨[],rfl,rfl,.trans (by kernel_rfl) h⟩;cases h
def aiZ (N:Nat) (SZ114:sG) (SZ200:tU):Nat->Option Ann:=λb_=>none
theorem aa3 (N:Nat) (SZ114:sG) (SZ200:tU) (hZ114:ac Pg 201 (IB SZ114)) (hZ200:ac Pg 202 (Jz SZ200)):ac Pg 189 (YH (Zg N SZ114 SZ200)):=by
 refine am (cx:=⟨Pg,ah [(201,(IB SZ114)),(202,(Jz SZ200))],aj,N⟩) (aa hZ114 (aa hZ200 (ae _))) V_ (XF (Zg N SZ114 SZ200)) (aiZ N SZ114 SZ200) 0 0 (by kernel_rfl) (λi_ hi_=>by omega) ?_;intro a k h;unfold XF at h;split at h;exact⟨[],rfl,rfl,.trans (by kernel_rfl) h⟩;cases h
def aik (N:Nat) (SZ92:Af) (SZ186:lI) (SZ90:kO):Nat->Option Ann:=λb_=>none
theorem aaf (N:Nat) (SZ92:Af) (SZ186:lI) (SZ90:kO) (hZ92:ac Pg 189 (YH SZ92)) (hZ186:ac Pg 190 (zp SZ186)) (hZ90:ac Pg 179 (Cm SZ90)):ac Pg 176 (Nw (Y0 N SZ92 SZ186 SZ90)):=by
 refine am (cx:=⟨Pg,ah [(189,(YH SZ92)),(190,(zp SZ186)),(179,(Cm SZ90))],aj,N⟩) (aa hZ92 (aa hZ186 (aa hZ90 (ae _)))) Vn (WP (Y0 N SZ92 SZ186 SZ90)) (aik N SZ92 SZ186 SZ90) 0 0 (by kernel_rfl) (λi_ hi_=>by omega) ?_;intro a k h;unfold WP at h;split at h;exact⟨[],rfl,rfl,.trans (by kernel_rfl) h⟩;cases h
def aij (N:Nat) (SZ39:oT):Nat->Option Ann:=λb_=>none
theorem aae (N:Nat) (SZ39:oT) (hZ39:ac Pg 176 (Nw SZ39)):ac Pg 154 (Nv (YZ N SZ39)):=by
 refine am (cx:=⟨Pg,ah [(176,(Nw SZ39))],aj,N⟩) (aa hZ39 (ae _)) Vm (WO (YZ N SZ39)) (aij N SZ39) 0 0 (by kernel_rfl) (λi_ hi_=>by omega) ?_;intro a k h;unfold WO at h;split at h;exact⟨[],rfl,rfl,.trans (by kernel_rfl) h⟩;cases h
def ae6 (N:Nat) (SZ185:lH) (anm:gE) (SZ38:oS):Nat->Option Ann:=λb_=>none
theorem TC (N:Nat) (SZ185:lH) (anm:gE) (SZ38:oS) (hZ185:ac Pg 95 (Cg SZ185)) (aoS:ac Pg 155 (nU anm)) (hZ38:ac Pg 154 (Nv SZ38)):ac Pg 126 (Ju (Kc N SZ185 anm SZ38)):=by
 refine am (cx:=⟨Pg,ah [(95,(Cg SZ185)),(155,(nU anm)),(154,(Nv SZ38))],aj,N⟩) (aa hZ185 (aa aoS (aa hZ38 (ae _)))) M8 (H9 (Kc N SZ185 anm SZ38)) (ae6 N SZ185 anm SZ38) 0 0 (by kernel_rfl) (λi_ hi_=>by omega) ?_;intro a k h;unfold H9 at h;split at h;exact⟨[],rfl,rfl,.trans (by kernel_rfl) h⟩;cases h
def afc (N:Nat) (SZ185:lH) (SZ108:cV):Nat->Option Ann:=λb_=>none
theorem TL (N:Nat) (SZ185:lH) (SZ108:cV) (hZ185:ac Pg 95 (Cg SZ185)) (hZ108:ac Pg 82 (jO SZ108)):ac Pg 47 (JD (Kg N SZ185 SZ108)):=by
 refine am (cx:=⟨Pg,ah [(95,(Cg SZ185)),(82,(jO SZ108))],aj,N⟩) (aa hZ185 (aa hZ108 (ae _))) Ng (Ij (Kg N SZ185 SZ108)) (afc N SZ185 SZ108) 0 0 (by kernel_rfl) (λi_ hi_=>by omega) ?_;intro a k h;unfold Ij at h;split at h;exact⟨[],rfl,rfl,.trans (by kernel_rfl) h⟩;cases h
def dH:StSh:=⟨(.rof::sqs 4 (.int .i64::.int .i64::sqs 13 [])),[]⟩
def nO:StSh:=⟨(.any::.any::.bool::sqs 17 []),[]⟩
def nQ:StSh:=⟨(sqs 20 []),[]⟩
def dF (N:Nat):List Atom->K->Bool:=λa_ κ=>match a_ with
 | [.fls l_1,.int t5,.int t6]=>aH N (fI N l_1 t5 (λr0=>κ.ret (nO.build [.bool r0])) (κ.ext 0 (nQ.build []))) t6
 | _=>false
def QS (N:Nat):Nat->Option Ann:=λb_=>cond (b_==0) (some ⟨⟨[0,5,6],[],[]⟩,[(0,⟨[],[],[]⟩)],some ⟨[2],[],[]⟩,some (aR [(dH,dF N)])⟩) (none)
theorem no (N:Nat):aV ⟨Pg,ah [],aj,N⟩ 0 (QS N) (lp Pg 48 0) (dH,dF N):=by
 intro a κ h;simp only at h;unfold dF at h;split at h
 ·rename_i l_1 t5 t6;exact .trans (aW (λv_=>dH.build [.fls l_1,.int t5,.int v_]) (λv_ K_=>by kernel_rfl) N t6) h
 ·cases h
theorem ur (N:Nat):be ⟨Pg,ah [],aj,N⟩ 0 (QS N) (lp Pg 48 0):=
 aN [(dH,dF N)] (by kernel_rfl) ⟨no _,trivial⟩
theorem Z5 (N:Nat):ac Pg 48 (mQ (YW N)):=by
 refine am (cx:=⟨Pg,ah [],aj,N⟩) (ae _) Vd (WE (YW N)) (QS N) 1 0 (by kernel_rfl) (aM (ur _)) ?_;intro a k h;unfold WE at h;split at h;exact⟨[],rfl,rfl,.trans (by kernel_rfl) h⟩;cases h
def aca (N:Nat) (SZ28:ge):Nat->Option Ann:=λb_=>none
theorem ZV (N:Nat) (SZ28:ge) (hZ28:ac Pg 48 (mQ SZ28)):ac Pg 42 (yx (YS (N+24) SZ28)):=by
 refine am (cx:=⟨Pg,ah [(48,(mQ SZ28))],aj,(N+24)⟩) (aa hZ28 (ae _)) U6 (Ws (YS (N+24) SZ28)) (aca (N+24) SZ28) 1 0 (by kernel_rfl) (aM ((λhk e=>by rw[show dJ ((aca (N+24) SZ28) (lp Pg 42 0).1)=none from by kernel_rfl]at e; cases e))) ?_;intro a k h;unfold Ws at h;split at h;exact⟨[],rfl,rfl,.trans (by kernel_rfl) h⟩;cases h
def aii (N:Nat):Nat->Option Ann:=λb_=>none
theorem aad (N:Nat):ac Pg 43 (si (NK N)):=by
 refine am (cx:=⟨Pg,ah [],aj,N⟩) (ae _) Vl (WN (NK N)) (aii N) 0 0 (by kernel_rfl) (λi_ hi_=>by omega) ?_;intro a k h;unfold WN at h;split at h;exact⟨[],rfl,rfl,.trans (by kernel_rfl) h⟩;cases h
def aeG (N:Nat) (amQ:aU):Nat->Option Ann:=λb_=>none
theorem SZ (N:Nat) (amQ:aU) (anE:ac Pg 47 (bE amQ)):ac Pg 110 (zi (Cs N amQ)):=by
 refine am (cx:=⟨Pg,ah [(47,(bE amQ))],aj,N⟩) (aa anE (ae _)) Mw (Hv (Cs N amQ)) (aeG N amQ) 0 0 (by kernel_rfl) (λi_ hi_=>by omega) ?_;intro a k h;unfold Hv at h;split at h;exact⟨[],rfl,rfl,.trans (by kernel_rfl) h⟩;cases h
def aeM (N:Nat):Nat->Option Ann:=λb_=>none
theorem S6 (N:Nat):ac Pg 111 (zm (P7 N)):=by
 refine am (cx:=⟨Pg,ah [],aj,N⟩) (ae _) MC (HC (P7 N)) (aeM N) 0 0 (by kernel_rfl) (λi_ hi_=>by omega) ?_;intro a k h;unfold HC at h;split at h;exact⟨[],rfl,rfl,.trans (by kernel_rfl) h⟩;cases h
def aiS (N:Nat) (amQ:aU):Nat->Option Ann:=λb_=>none
theorem aaT (N:Nat) (amQ:aU) (anE:ac Pg 47 (bE amQ)):ac Pg 112 (NG (Qq N amQ)):=by
 refine am (cx:=⟨Pg,ah [(47,(bE amQ))],aj,N⟩) (aa anE (ae _)) V2 (Xv (Qq N amQ)) (aiS N amQ) 0 0 (by kernel_rfl) (λi_ hi_=>by omega) ?_;intro a k h;unfold Xv at h;split at h;exact⟨[],rfl,rfl,.trans (by kernel_rfl) h⟩;cases h
def afa (N:Nat) (SZ154:kw) (SZ161:kx) (SZ80:oX) (SZ129:du) (SZ108:cV):Nat->Option Ann:=λb_=>none
theorem TJ (N:Nat) (SZ154:kw) (SZ161:kx) (SZ80:oX) (SZ129:du) (SZ108:cV) (hZ154:ac Pg 110 (zi SZ154)) (hZ161:ac Pg 111 (zm SZ161)) (hZ80:ac Pg 112 (NG SZ80)) (hZ129:ac Pg 95 (kN SZ129)) (hZ108:ac Pg 82 (jO SZ108)):ac Pg 123 (JB (Kf N SZ154 SZ161 SZ80 SZ129 SZ108)):=by
 refine am (cx:=⟨Pg,ah [(110,(zi SZ154)),(111,(zm SZ161)),(112,(NG SZ80)),(95,(kN SZ129)),(82,(jO SZ108))],aj,N⟩) (aa hZ154 (aa hZ161 (aa hZ80 (aa hZ129 (aa hZ108 (ae _)))))) Nd (Ih (Kf N SZ154 SZ161 SZ80 SZ129 SZ108)) (afa N SZ154 SZ161 SZ80 SZ129 SZ108) 0 0 (by kernel_rfl) (λi_ hi_=>by omega) ?_;intro a k h;unfold Ih at h;split at h;exact⟨[],rfl,rfl,.trans (by kernel_rfl) h⟩;cases h
def aeg (N:Nat) (SZ202:t_):Nat->Option Ann:=λb_=>none
theorem Sg (N:Nat) (SZ202:t_) (hZ202:ac Pg 123 (JB SZ202)):ac Pg 75 (uR (JH N SZ202)):=by
 refine am (cx:=⟨Pg,ah [(123,(JB SZ202))],aj,N⟩) (aa hZ202 (ae _)) LR (GN (JH N SZ202)) (aeg N SZ202) 0 0 (by kernel_rfl) (λi_ hi_=>by omega) ?_;intro a k h;unfold GN at h;split at h;exact⟨[],rfl,rfl,.trans (by kernel_rfl) h⟩;cases h
def aet (N:Nat) (SZ129:du) (SZ108:cV):Nat->Option Ann:=λb_=>none
theorem Sz (N:Nat) (SZ129:du) (SZ108:cV) (hZ129:ac Pg 95 (kN SZ129)) (hZ108:ac Pg 82 (jO SZ108)):ac Pg 113 (IH (JR N SZ129 SZ108)):=by
 refine am (cx:=⟨Pg,ah [(95,(kN SZ129)),(82,(jO SZ108))],aj,N⟩) (aa hZ129 (aa hZ108 (ae _))) Ma (G7 (JR N SZ129 SZ108)) (aet N SZ129 SZ108) 0 0 (by kernel_rfl) (λi_ hi_=>by omega) ?_;intro a k h;unfold G7 at h;split at h;exact⟨[],rfl,rfl,.trans (by kernel_rfl) h⟩;cases h
section
variable (N:Nat) (SZ108:cV)
noncomputable abbrev RA:Cx:=⟨Pg,ah [(82,(jO SZ108))],aj,N⟩
def m7 (N:Nat) (SZ108:cV):Nat->Option Ann:=λb_=>none
def pT (d_:List V) (u_:List (Option Blk)) (sign v:Int):St:=⟨(dqs d_ 0 3 (vwu v::dqs d_ 3 4 [])),[]⟩
theorem Fz (d_:List V) (u_:List (Option Blk)) (sign v:Int) (c_:KV):aB (RA N SZ108) 0 (m7 N SZ108) ((cds Pg 114).drop 4) 0 (pT d_ u_ sign v) (bR Pg 114 0 c_)=sn N SZ108 sign v (λr0=>c_ (.flt r0) []):=by kernel_rfl
theorem Fw (sign:Int) (c_:KV) (κn_:St->Bool):aB (RA N SZ108) 0 (m7 N SZ108) (sg Pg 114 0 4) 0 (st0 Pg 114 (lc.args [.int sign]) []) { (bR Pg 114 0 c_)with nrm:=κn_ } = (cond (decide (sign>=0)) (κn_ (pT [vwi sign,.any,.flt (some 0),vwi sign,.bool true,.any,.any] [] sign 9218868437227405312)) (κn_ (pT [vwi sign,.any,.flt (some 0),vwi sign,.bool false,.any,.any] [] sign 18442240474082181120))):=by kernel_rfl
theorem FA (sign:Int) (c_:KV):aB (RA N SZ108) 0 (m7 N SZ108) ((cds Pg 114).drop 0) 0 (st0 Pg 114 (lc.args [.int sign]) []) (bR Pg 114 0 c_)=lh N SZ108 sign (λr0=>c_ (.flt r0) []):=by rw[aP 0 4 4 rfl];refine(Fw N SZ108 sign c_ _).trans ?_;simp only[Fz];kernel_rfl
theorem RL (sign:Int) (c_:KV):gm (RA N SZ108) (m7 N SZ108) 114 (lc.args [.int sign]) [] c_=lh N SZ108 sign (λr0=>c_ (.flt r0) []):=
 (cX (by kernel_rfl)).trans (FA N SZ108 sign c_)
theorem Fu (hZ108:ac Pg 82 (jO SZ108)):ac Pg 114 (vY (lh N SZ108)):=by
 refine am (cx:=(RA N SZ108)) (aa hZ108 (ae _)) lc (yk (lh N SZ108)) (m7 N SZ108) 0 0 (by kernel_rfl) (λi_ hi_=>by omega) ?_;intro a k h;unfold yk at h;split at h;exact⟨[],rfl,rfl,(RL _ _ _ _).trans h⟩;cases h
end
section
variable (N:Nat) (SZ154:kw) (SZ161:kx) (SZ80:oX) (SZ129:du) (SZ128:pp) (am4:jS) (SZ108:cV)
noncomputable abbrev RB:Cx:=⟨Pg,ah [(110,(zi SZ154)),(111,(zm SZ161)),(112,(NG SZ80)),(95,(kN SZ129)),(113,(IH SZ128)),(114,(vY am4)),(82,(jO SZ108))],aj,N⟩
def wI (N:Nat) (SZ154:kw) (SZ161:kx) (SZ80:oX) (SZ129:du) (SZ128:pp) (am4:jS) (SZ108:cV):Nat->Option Ann:=λb_=>none
def F6 (d_:List V) (u_:List (Option Blk)) (frac:Fl) (exp aow x:Int) (m:Fl):St:=⟨((dq d_ 0)::vwi aow::dqs d_ 1 4 (vwu x::.flt m::dqs d_ 5 55 [])),[]⟩
theorem agH (d_:List V) (u_:List (Option Blk)) (frac:Fl) (exp aow x:Int) (m:Fl) (c_:KV):aB (RB N SZ154 SZ161 SZ80 SZ129 SZ128 am4 SZ108) 0 (wI N SZ154 SZ161 SZ80 SZ129 SZ128 am4 SZ108) ((cds Pg 64).drop 13) 0 (F6 d_ u_ frac exp aow x m) (bR Pg 64 0 c_)=CF N SZ154 SZ161 SZ80 SZ129 SZ128 am4 SZ108 frac exp aow x m (λr0=>c_ (.flt r0) []):=by kernel_rfl
theorem BH (frac:Fl) (exp:Int) (c_:KV) (κn_:St->Bool):aB (RB N SZ154 SZ161 SZ80 SZ129 SZ128 am4 SZ108) 0 (wI N SZ154 SZ161 SZ80 SZ129 SZ128 am4 SZ108) (sg Pg 64 0 13) 0 (st0 Pg 64 (rX.args [.fl frac,.int exp]) []) { (bR Pg 64 0 c_)with nrm:=κn_ } = (cond (feq frac (some 0)) (c_ (.flt frac) []) (SZ154 frac 0 (λcr=>cond (cr==false) (SZ161 frac (λam1=>cond am1 (c_ (.flt frac) []) (SZ80 frac (λxr nr=>aw .i64 (exp+nr)&&SZ129 xr (λamU=>aw .i64 (Int.fdiv amU (2 ^ 52))&&(aw .i64 ((av .and .i64 (Int.fdiv amU (2 ^ 52)) 2047) - 1023)&&(aw .i64 ((exp+nr)+((av .and .i64 (Int.fdiv amU (2 ^ 52)) 2047) - 1023))&&cond (decide (((exp+nr)+((av .and .i64 (Int.fdiv amU (2 ^ 52)) 2047) - 1023))<(-1075))) (SZ128 (some 0) xr (λamO=>c_ (.flt amO) [])) (cond (decide (((exp+nr)+((av .and .i64 (Int.fdiv amU (2 ^ 52)) 2047) - 1023))>1023)) (cond (flt xr (some 0)) (am4 (-1) (λamR=>c_ (.flt amR) [])) (am4 1 (λamS=>c_ (.flt amS) []))) (cond (decide (((exp+nr)+((av .and .i64 (Int.fdiv amU (2 ^ 52)) 2047) - 1023))<(-1022))) (aw .i64 (((exp+nr)+((av .and .i64 (Int.fdiv amU (2 ^ 52)) 2047) - 1023))+53)&&κn_ (F6 (.flt xr::.any::.any::.flt (some 0)::vwi nr::.bool false::.flt frac::.bool (feq frac (some 0))::.any::.bool false::.flt frac::.bool cr::.bool false::.flt frac::.bool am1::.bool am1::.any::.tup [.flt xr,vwi nr]::.flt frac::.tup [.flt xr,vwi nr]::.flt xr::vwi nr::vwi exp::vwi nr::vwi (exp+nr)::.flt xr::vwu amU::vwi (exp+nr)::vwu amU::vwu (Int.fdiv amU (2 ^ 52))::vwi (Int.fdiv amU (2 ^ 52))::vwi (av .and .i64 (Int.fdiv amU (2 ^ 52)) 2047)::vwi ((av .and .i64 (Int.fdiv amU (2 ^ 52)) 2047) - 1023)::vwi ((exp+nr)+((av .and .i64 (Int.fdiv amU (2 ^ 52)) 2047) - 1023))::vwi ((exp+nr)+((av .and .i64 (Int.fdiv amU (2 ^ 52)) 2047) - 1023))::.bool false::.any::.any::vwi ((exp+nr)+((av .and .i64 (Int.fdiv amU (2 ^ 52)) 2047) - 1023))::.bool false::vqs 4 (vwi ((exp+nr)+((av .and .i64 (Int.fdiv amU (2 ^ 52)) 2047) - 1023))::.bool true::vwi ((exp+nr)+((av .and .i64 (Int.fdiv amU (2 ^ 52)) 2047) - 1023))::vwi (((exp+nr)+((av .and .i64 (Int.fdiv amU (2 ^ 52)) 2047) - 1023))+53)::vqs 12 [])) [] frac exp (((exp+nr)+((av .and .i64 (Int.fdiv amU (2 ^ 52)) 2047) - 1023))+53) amU (some 4368491638549381120))) (κn_ (F6 (.flt xr::.any::.any::.flt (some 0)::vwi nr::.bool false::.flt frac::.bool (feq frac (some 0))::.any::.bool false::.flt frac::.bool cr::.bool false::.flt frac::.bool am1::.bool am1::.any::.tup [.flt xr,vwi nr]::.flt frac::.tup [.flt xr,vwi nr]::.flt xr::vwi nr::vwi exp::vwi nr::vwi (exp+nr)::.flt xr::vwu amU::vwi (exp+nr)::vwu amU::vwu (Int.fdiv amU (2 ^ 52))::vwi (Int.fdiv amU (2 ^ 52))::vwi (av .and .i64 (Int.fdiv amU (2 ^ 52)) 2047)::vwi ((av .and .i64 (Int.fdiv amU (2 ^ 52)) 2047) - 1023)::vwi ((exp+nr)+((av .and .i64 (Int.fdiv amU (2 ^ 52)) 2047) - 1023))::vwi ((exp+nr)+((av .and .i64 (Int.fdiv amU (2 ^ 52)) 2047) - 1023))::.bool false::.any::.any::vwi ((exp+nr)+((av .and .i64 (Int.fdiv amU (2 ^ 52)) 2047) - 1023))::.bool false::vqs 4 (vwi ((exp+nr)+((av .and .i64 (Int.fdiv amU (2 ^ 52)) 2047) - 1023))::.bool false::vqs 14 [])) [] frac exp ((exp+nr)+((av .and .i64 (Int.fdiv amU (2 ^ 52)) 2047) - 1023)) amU (some 4607182418800017408)))))))))))) (c_ (.flt frac) [])))):=by kernel_rfl
theorem BK (frac:Fl) (exp:Int) (c_:KV):aB (RB N SZ154 SZ161 SZ80 SZ129 SZ128 am4 SZ108) 0 (wI N SZ154 SZ161 SZ80 SZ129 SZ128 am4 SZ108) ((cds Pg 64).drop 0) 0 (st0 Pg 64 (rX.args [.fl frac,.int exp]) []) (bR Pg 64 0 c_)=wA N SZ154 SZ161 SZ80 SZ129 SZ128 am4 SZ108 frac exp (λr0=>c_ (.flt r0) []):=by rw[aP 0 13 13 rfl];refine(BH N SZ154 SZ161 SZ80 SZ129 SZ128 am4 SZ108 frac exp c_ _).trans ?_;simp only[agH];kernel_rfl
theorem afw (frac:Fl) (exp:Int) (c_:KV):gm (RB N SZ154 SZ161 SZ80 SZ129 SZ128 am4 SZ108) (wI N SZ154 SZ161 SZ80 SZ129 SZ128 am4 SZ108) 64 (rX.args [.fl frac,.int exp]) [] c_=wA N SZ154 SZ161 SZ80 SZ129 SZ128 am4 SZ108 frac exp (λr0=>c_ (.flt r0) []):=
 (cX (by kernel_rfl)).trans (BK N SZ154 SZ161 SZ80 SZ129 SZ128 am4 SZ108 frac exp c_)
theorem TF (hZ154:ac Pg 110 (zi SZ154)) (hZ161:ac Pg 111 (zm SZ161)) (hZ80:ac Pg 112 (NG SZ80)) (hZ129:ac Pg 95 (kN SZ129)) (hZ128:ac Pg 113 (IH SZ128)) (apr:ac Pg 114 (vY am4)) (hZ108:ac Pg 82 (jO SZ108)):ac Pg 64 (Jx (wA N SZ154 SZ161 SZ80 SZ129 SZ128 am4 SZ108)):=by
 refine am (cx:=(RB N SZ154 SZ161 SZ80 SZ129 SZ128 am4 SZ108)) (aa hZ154 (aa hZ161 (aa hZ80 (aa hZ129 (aa hZ128 (aa apr (aa hZ108 (ae _)))))))) rX (Ib (wA N SZ154 SZ161 SZ80 SZ129 SZ128 am4 SZ108)) (wI N SZ154 SZ161 SZ80 SZ129 SZ128 am4 SZ108) 0 0 (by kernel_rfl) (λi_ hi_=>by omega) ?_;intro a k h;unfold Ib at h;split at h;exact⟨[],rfl,rfl,(afw _ _ _ _ _ _ _ _ _ _ _).trans h⟩;cases h
end
def aiR (N:Nat) (SZ198:tR):Nat->Option Ann:=λb_=>none
theorem aaS (N:Nat) (SZ198:tR) (hZ198:ac Pg 64 (Jx SZ198)):ac Pg 26 (sk (Qp N SZ198)):=by
 refine am (cx:=⟨Pg,ah [(64,(Jx SZ198))],aj,N⟩) (aa hZ198 (ae _)) V1 (Xu (Qp N SZ198)) (aiR N SZ198) 0 0 (by kernel_rfl) (λi_ hi_=>by omega) ?_;intro a k h;unfold Xu at h;split at h;exact⟨[],rfl,rfl,.trans (by kernel_rfl) h⟩;cases h
def aew (N:Nat) (SZ214:ub):Nat->Option Ann:=λb_=>none
theorem SD (N:Nat) (SZ214:ub) (hZ214:ac Pg 124 (PC SZ214)):ac Pg 76 (oK (PU N SZ214)):=by
 refine am (cx:=⟨Pg,ah [(124,(PC SZ214))],aj,N⟩) (aa hZ214 (ae _)) Me (Ha (PU N SZ214)) (aew N SZ214) 0 0 (by kernel_rfl) (λi_ hi_=>by omega) ?_;intro a k h;unfold Ha at h;split at h;exact⟨[],rfl,rfl,.trans (by kernel_rfl) h⟩;cases h
def aeS (N:Nat):Nat->Option Ann:=λb_=>none
theorem Th (N:Nat):ac Pg 77 (Jf (Qb N)):=by
 refine am (cx:=⟨Pg,ah [],aj,N⟩) (ae _) MM (HP (Qb N)) (aeS N) 0 0 (by kernel_rfl) (λi_ hi_=>by omega) ?_;intro a k h;unfold HP at h;split at h;exact⟨[],rfl,rfl,.trans (by kernel_rfl) h⟩;cases h
def Kt (N:Nat) (SZ18:gD) (SZ37:hI) (amQ:aU) (SZ111:iS) (SZ79:hJ) (SZ133:f6) (SZ174:tz):Nat->Option Ann:=λb_=>none
theorem aaU (N:Nat) (SZ18:gD) (SZ37:hI) (amQ:aU) (SZ111:iS) (SZ79:hJ) (SZ133:f6) (SZ174:tz) (hZ18:ac Pg 42 (yx SZ18)) (hZ37:ac Pg 43 (si SZ37)) (anE:ac Pg 47 (bE amQ)) (hZ111:ac Pg 75 (uR SZ111)) (hZ79:ac Pg 26 (sk SZ79)) (hZ133:ac Pg 76 (oK SZ133)) (hZ174:ac Pg 77 (Jf SZ174)):ac Pg 35 (wu (NL (N+24) SZ18 SZ37 amQ SZ111 SZ79 SZ133 SZ174)):=by
 refine am (cx:=⟨Pg,ah [(42,(yx SZ18)),(43,(si SZ37)),(47,(bE amQ)),(75,(uR SZ111)),(26,(sk SZ79)),(76,(oK SZ133)),(77,(Jf SZ174))],aj,(N+24)⟩) (aa hZ18 (aa hZ37 (aa anE (aa hZ111 (aa hZ79 (aa hZ133 (aa hZ174 (ae _)))))))) V3 (Xw (NL (N+24) SZ18 SZ37 amQ SZ111 SZ79 SZ133 SZ174)) (Kt (N+24) SZ18 SZ37 amQ SZ111 SZ79 SZ133 SZ174) 3 0 (by kernel_rfl) (λi_ hi_=>by
  match i_,hi_ with
  | 0,_=>exact(λhk e=>by rw[show dJ ((Kt (N+24) SZ18 SZ37 amQ SZ111 SZ79 SZ133 SZ174) (lp Pg 35 0).1)=none from by kernel_rfl]at e; cases e)
  | 1,_=>exact(λhk e=>by rw[show dJ ((Kt (N+24) SZ18 SZ37 amQ SZ111 SZ79 SZ133 SZ174) (lp Pg 35 1).1)=none from by kernel_rfl]at e; cases e)
  | 2,_=>exact(λhk e=>by rw[show dJ ((Kt (N+24) SZ18 SZ37 amQ SZ111 SZ79 SZ133 SZ174) (lp Pg 35 2).1)=none from by kernel_rfl]at e; cases e)
  | (q+3),h=>omega) ?_
 intro a k h;unfold Xw at h;split at h;exact⟨[],rfl,rfl,.trans (by kernel_rfl) h⟩;cases h
def aiK (N:Nat):Nat->Option Ann:=λb_=>none
theorem aaK (N:Nat):ac Pg 49 (wt (adV N)):=by
 refine am (cx:=⟨Pg,ah [],aj,N⟩) (ae _) VT (Xm (adV N)) (aiK N) 0 0 (by kernel_rfl) (λi_ hi_=>by omega) ?_;intro a k h;unfold Xm at h;split at h;exact⟨[],rfl,rfl,.trans (by kernel_rfl) h⟩;cases h
def ae0 (N:Nat) (SZ28:ge):Nat->Option Ann:=λb_=>none
theorem Tw (N:Nat) (SZ28:ge) (hZ28:ac Pg 48 (mQ SZ28)):ac Pg 50 (Jp (Ka N SZ28)):=by
 refine am (cx:=⟨Pg,ah [(48,(mQ SZ28))],aj,N⟩) (aa hZ28 (ae _)) MZ (H3 (Ka N SZ28)) (ae0 N SZ28) 0 0 (by kernel_rfl) (λi_ hi_=>by omega) ?_;intro a k h;unfold H3 at h;split at h;exact⟨[],rfl,rfl,.trans (by kernel_rfl) h⟩;cases h
def ED (N:Nat) (SZ18:gD) (SZ28:ge) (SZ71:mZ) (SZ188:tJ):Nat->Option Ann:=λb_=>none
theorem Sr (N:Nat) (SZ18:gD) (SZ28:ge) (SZ71:mZ) (SZ188:tJ) (hZ18:ac Pg 42 (yx SZ18)) (hZ28:ac Pg 48 (mQ SZ28)) (hZ71:ac Pg 49 (wt SZ71)) (hZ188:ac Pg 50 (Jp SZ188)):ac Pg 13 (wo (JM (N+24) SZ18 SZ28 SZ71 SZ188)):=by
 refine am (cx:=⟨Pg,ah [(42,(yx SZ18)),(48,(mQ SZ28)),(49,(wt SZ71)),(50,(Jp SZ188))],aj,(N+24)⟩) (aa hZ18 (aa hZ28 (aa hZ71 (aa hZ188 (ae _))))) L5 (GW (JM (N+24) SZ18 SZ28 SZ71 SZ188)) (ED (N+24) SZ18 SZ28 SZ71 SZ188) 2 0 (by kernel_rfl) (jN ((λhk e=>by rw[show dJ ((ED (N+24) SZ18 SZ28 SZ71 SZ188) (lp Pg 13 0).1)=none from by kernel_rfl]at e; cases e)) ((λhk e=>by rw[show dJ ((ED (N+24) SZ18 SZ28 SZ71 SZ188) (lp Pg 13 1).1)=none from by kernel_rfl]at e; cases e))) ?_;intro a k h;unfold GW at h;split at h;exact⟨[],rfl,rfl,.trans (by kernel_rfl) h⟩;cases h
def QP (N:Nat) (SZ28:ge):Nat->Option Ann:=λb_=>none
theorem SE (N:Nat) (SZ28:ge) (hZ28:ac Pg 48 (mQ SZ28)):ac Pg 42 (IK (JS (N+24) SZ28)):=by
 refine am (cx:=⟨Pg,ah [(48,(mQ SZ28))],aj,(N+24)⟩) (aa hZ28 (ae _)) Mf (Hb (JS (N+24) SZ28)) (QP (N+24) SZ28) 1 0 (by kernel_rfl) (aM ((λhk e=>by rw[show dJ ((QP (N+24) SZ28) (lp Pg 42 0).1)=none from by kernel_rfl]at e; cases e))) ?_;intro a k h;unfold Hb at h;split at h;exact⟨[],rfl,rfl,.trans (by kernel_rfl) h⟩;cases h
def ae7 (N:Nat):Nat->Option Ann:=λb_=>none
theorem TD (N:Nat):ac Pg 83 (Jv (Qm N)):=by
 refine am (cx:=⟨Pg,ah [],aj,N⟩) (ae _) M9 (H_ (Qm N)) (ae7 N) 0 0 (by kernel_rfl) (λi_ hi_=>by omega) ?_;intro a k h;unfold H_ at h;split at h;exact⟨[],rfl,rfl,.trans (by kernel_rfl) h⟩;cases h
def aeT (N:Nat) (SZ18:gD):Nat->Option Ann:=λb_=>none
theorem Ti (N:Nat) (SZ18:gD) (hZ18:ac Pg 42 (yx SZ18)):ac Pg 72 (Jg (Qc N SZ18)):=by
 refine am (cx:=⟨Pg,ah [(42,(yx SZ18))],aj,N⟩) (aa hZ18 (ae _)) MN (HQ (Qc N SZ18)) (aeT N SZ18) 0 0 (by kernel_rfl) (λi_ hi_=>by omega) ?_;intro a k h;unfold HQ at h;split at h;exact⟨[],rfl,rfl,.trans (by kernel_rfl) h⟩;cases h
def ae4 (N:Nat) (SZ134:sN) (SZ195:tP) (SZ175:tA):Nat->Option Ann:=λb_=>none
theorem TA (N:Nat) (SZ134:sN) (SZ195:tP) (SZ175:tA) (hZ134:ac Pg 42 (IK SZ134)) (hZ195:ac Pg 83 (Jv SZ195)) (hZ175:ac Pg 72 (Jg SZ175)):ac Pg 40 (Js (Ql N SZ134 SZ195 SZ175)):=by
 refine am (cx:=⟨Pg,ah [(42,(IK SZ134)),(83,(Jv SZ195)),(72,(Jg SZ175))],aj,N⟩) (aa hZ134 (aa hZ195 (aa hZ175 (ae _)))) M6 (H7 (Ql N SZ134 SZ195 SZ175)) (ae4 N SZ134 SZ195 SZ175) 0 0 (by kernel_rfl) (λi_ hi_=>by omega) ?_;intro a k h;unfold H7 at h;split at h;exact⟨[],rfl,rfl,.trans (by kernel_rfl) h⟩;cases h
def dh:StSh:=⟨(sqs 6 (.rof::.int .i64::.int .i64::sqs 12 [])),[]⟩
def ld:StSh:=⟨(.any::.any::.bool::sqs 18 []),[]⟩
def lf:StSh:=⟨(sqs 21 []),[]⟩
section
variable (N:Nat) (SZ172:tu)
noncomputable abbrev afn:Cx:=⟨Pg,ah [(126,(Jd SZ172))],aj,N⟩
def de:List Atom->K->Bool:=λa_ κ=>match a_ with
 | [.fls t6,.int t7,.int t8]=>aH N (gN N SZ172 t6 t7 (λr0=>κ.ret (ld.build [.bool r0])) (κ.ext 0 (lf.build []))) t8
 | _=>false
def EB:Nat->Option Ann:=λb_=>cond (b_==0) (some ⟨⟨[6,7,8],[],[]⟩,[(0,⟨[],[],[]⟩)],some ⟨[2],[],[]⟩,some (aR [(dh,de N SZ172)])⟩) (none)
theorem kU:aV (afn N SZ172) 0 (EB N SZ172) (lp Pg 84 0) (dh,de N SZ172):=by
 intro a κ h;simp only at h;unfold de at h;split at h
 ·rename_i t6 t7 t8;exact .trans (aW (λv_=>dh.build [.fls t6,.int t7,.int v_]) (λv_ K_=>by kernel_rfl) N t8) h
 ·cases h
theorem oF:be (afn N SZ172) 0 (EB N SZ172) (lp Pg 84 0):=
 aN [(dh,de N SZ172)] (by kernel_rfl) ⟨kU _ _,trivial⟩
theorem Se (hZ172:ac Pg 126 (Jd SZ172)):ac Pg 84 (y7 (JG N SZ172)):=by
 refine am (cx:=(afn N SZ172)) (aa hZ172 (ae _)) LP (GL (JG N SZ172)) (EB N SZ172) 1 0 (by kernel_rfl) (aM (oF _ _)) ?_;intro a k h;unfold GL at h;split at h;exact⟨[],rfl,rfl,.trans (by kernel_rfl) h⟩;cases h
end
def afe (N:Nat):Nat->Option Ann:=λb_=>none
theorem alV (N:Nat) (x:Int) (c_:KV):gm ⟨Pg,ah [],aj,N⟩ (afe N) 180 (Nh.args [.int x]) [] c_=GZ8 N x (λr0=>c_ (vwi r0) []):=by
 have key:∀ L_:Int,aB ⟨Pg,ah [],aj,N⟩ 0 (afe N) (((cds Pg 180).drop 0).map (Pe 285870213051353865 L_)) 0 (st0 Pg 180 (Nh.args [.int x]) []) (bR Pg 180 0 c_)=(λ(k0:Kz1)=>cond (x==0) (k0 64) (inR (Int.fdiv (IntKind.wrap .u64 ((av .and .u64 x (IntKind.wrap .u64 (0 - x)))*L_)) (2 ^ 58)) 64&&(aw .i64 (yn.getD (Int.toNat (Int.fdiv (IntKind.wrap .u64 ((av .and .u64 x (IntKind.wrap .u64 (0 - x)))*L_)) (2 ^ 58))) 0)&&k0 (yn.getD (Int.toNat (Int.fdiv (IntKind.wrap .u64 ((av .and .u64 x (IntKind.wrap .u64 (0 - x)))*L_)) (2 ^ 58))) 0)))) (λr0=>c_ (vwi r0) []):=λL_=>by kernel_rfl
 have hc:(cds Pg 180).drop 0=((cds Pg 180).drop 0).map (Pe 285870213051353865 285870213051353865):=by kernel_rfl
 refine(cX (by kernel_rfl)).trans ?_;rw[hc];exact key 285870213051353865
theorem afZ (N:Nat):ac Pg 180 (FZ8 (GZ8 N)):=by
 refine am (cx:=⟨Pg,ah [],aj,N⟩) (ae _) Nh (aht (GZ8 N)) (afe N) 0 0 (by kernel_rfl) (λi_ hi_=>by omega) ?_;intro a k h;unfold aht at h;split at h;exact⟨[],rfl,rfl,(alV _ _ _).trans h⟩;cases h
section
variable (N:Nat) (SZ39:oT) (SZ38:oS) (SZ90:kO) (SZ8:yD)
noncomputable abbrev RC:Cx:=⟨Pg,ah [(176,(Nw SZ39)),(154,(Nv SZ38)),(179,(Cm SZ90)),(180,(FZ8 SZ8))],aj,N⟩
def CO (N:Nat) (SZ39:oT) (SZ38:oS) (SZ90:kO) (SZ8:yD):Nat->Option Ann:=λb_=>none
def FJ (d_:List V) (u_:List (Option Blk)) (b f_0 f_1 f_2:Int) (p:Bool) (p_1 p_2:Int):St:=⟨(dqs d_ 0 4 (.ptr 1 0::dqs d_ 4 4 (.ptr 2 0::dqs d_ 8 52 []))),[(u_.getD 0 none),some ⟨108,1,.cells [.bool false,vwu 0,vwi 0]⟩,some ⟨108,1,.cells [.bool p,vwu p_1,vwi p_2]⟩]⟩
theorem agf (d_:List V) (u_:List (Option Blk)) (b f_0 f_1 f_2:Int) (p:Bool) (p_1 p_2:Int) (c_:KV):aB (RC N SZ39 SZ38 SZ90 SZ8) 0 (CO N SZ39 SZ38 SZ90 SZ8) ((cds Pg 157).drop 5) 0 (FJ d_ u_ b f_0 f_1 f_2 p p_1 p_2) (bR Pg 157 0 c_)=Qv N SZ39 SZ38 SZ90 SZ8 b f_0 f_1 f_2 p p_1 p_2 (λr0 r1 r2 r3=>c_ (.tup [.agg [.bool r0,vwu r1,vwi r2],vwi r3]) []):=by kernel_rfl
theorem mN (b f_0 f_1 f_2:Int) (c_:KV) (κn_:St->Bool):aB (RC N SZ39 SZ38 SZ90 SZ8) 0 (CO N SZ39 SZ38 SZ90 SZ8) (sg Pg 157 0 5) 0 (st0 Pg 157 (yd.args [.int b,.int f_0,.int f_1,.int f_2]) []) { (bR Pg 157 0 c_)with nrm:=κn_ } = (SZ39 b f_0 f_1 f_2 (λcr nr amU=>aw .i64 (nr - f_2)&&SZ38 b f_0 f_1 f_2 (λam3=>cond (am3==1) (c_ (.tup [.agg [.bool false,vwu 0,vwi 0],vwi 4]) []) (cond (am3==2) (c_ (.tup [.agg [.bool false,vwu 0,vwi 0],vwi 4]) []) (cond (am3==3) (c_ (.tup [.agg [.bool cr,vwu 0,vwi 0],vwi 0]) []) (cond (am3==4) (aw .i64 ((nr - f_2)+1)&&κn_ (FJ (vwu b::.agg [vwu f_0,vwi f_1,vwi f_2]::.any::.ptr 0 0::vwi 0::.bool cr::vwi nr::vwu amU::.any::.tup [.bool cr,vwi nr,vwu amU]::vwu b::.agg [vwu f_0,vwi f_1,vwi f_2]::.tup [.bool cr,vwi nr,vwu amU]::.bool cr::vwi nr::vwu amU::.bool cr::vwu amU::vwi nr::.ptr 0 2::vwi f_2::vwi (nr - f_2)::.agg [.bool cr,vwu amU,vwi (nr - f_2)]::vwu b::.agg [vwu f_0,vwi f_1,vwi f_2]::vwi am3::vqs 6 (.bool false::.bool (am3==1)::.bool (am3==2)::.any::.bool false::.bool (am3==3)::.any::.any::.bool true::.bool (am3==4)::.ptr 2 2::vwi (nr - f_2)::vwi ((nr - f_2)+1)::.ptr 2 2::vqs 14 [])) [some ⟨185,1,.cells [vwu f_0,vwi f_1,vwi f_2]⟩] b f_0 f_1 f_2 cr amU ((nr - f_2)+1))) (SZ90 f_0 f_1 f_2 (λane=>κn_ (FJ (vwu b::.agg [vwu f_0,vwi f_1,vwi f_2]::.any::.ptr 0 0::vwi 0::.bool cr::vwi nr::vwu amU::.any::.tup [.bool cr,vwi nr,vwu amU]::vwu b::.agg [vwu f_0,vwi f_1,vwi f_2]::.tup [.bool cr,vwi nr,vwu amU]::.bool cr::vwi nr::vwu amU::.bool cr::vwu amU::vwi nr::.ptr 0 2::vwi f_2::vwi (nr - f_2)::.agg [.bool cr,vwu amU,vwi (nr - f_2)]::vwu b::.agg [vwu f_0,vwi f_1,vwi f_2]::vwi am3::.ptr 2 1::vwu amU::.agg [vwu f_0,vwi f_1,vwi f_2]::vwu ane::vwu (av .or .u64 amU ane)::.ptr 2 1::.bool false::.bool (am3==1)::.bool (am3==2)::.any::.bool false::.bool (am3==3)::.any::.any::.bool false::.bool (am3==4)::vqs 18 []) [some ⟨185,1,.cells [vwu f_0,vwi f_1,vwi f_2]⟩] b f_0 f_1 f_2 cr (av .or .u64 amU ane) (nr - f_2)))))))))):=by kernel_rfl
theorem mO (b f_0 f_1 f_2:Int) (c_:KV):aB (RC N SZ39 SZ38 SZ90 SZ8) 0 (CO N SZ39 SZ38 SZ90 SZ8) ((cds Pg 157).drop 0) 0 (st0 Pg 157 (yd.args [.int b,.int f_0,.int f_1,.int f_2]) []) (bR Pg 157 0 c_)=Qr N SZ39 SZ38 SZ90 SZ8 b f_0 f_1 f_2 (λr0 r1 r2 r3=>c_ (.tup [.agg [.bool r0,vwu r1,vwi r2],vwi r3]) []):=by rw[aP 0 5 5 rfl];refine(mN N SZ39 SZ38 SZ90 SZ8 b f_0 f_1 f_2 c_ _).trans ?_;simp only[agf];kernel_rfl
theorem ajc (b f_0 f_1 f_2:Int) (c_:KV):gm (RC N SZ39 SZ38 SZ90 SZ8) (CO N SZ39 SZ38 SZ90 SZ8) 157 (yd.args [.int b,.int f_0,.int f_1,.int f_2]) [] c_=Qr N SZ39 SZ38 SZ90 SZ8 b f_0 f_1 f_2 (λr0 r1 r2 r3=>c_ (.tup [.agg [.bool r0,vwu r1,vwi r2],vwi r3]) []):=
 (cX (by kernel_rfl)).trans (mO N SZ39 SZ38 SZ90 SZ8 b f_0 f_1 f_2 c_)
theorem aaV (hZ39:ac Pg 176 (Nw SZ39)) (hZ38:ac Pg 154 (Nv SZ38)) (hZ90:ac Pg 179 (Cm SZ90)) (hZ8:ac Pg 180 (FZ8 SZ8)):ac Pg 157 (YF (Qr N SZ39 SZ38 SZ90 SZ8)):=by
 refine am (cx:=(RC N SZ39 SZ38 SZ90 SZ8)) (aa hZ39 (aa hZ38 (aa hZ90 (aa hZ8 (ae _))))) yd (Xx (Qr N SZ39 SZ38 SZ90 SZ8)) (CO N SZ39 SZ38 SZ90 SZ8) 0 0 (by kernel_rfl) (λi_ hi_=>by omega) ?_;intro a k h;unfold Xx at h;split at h;exact⟨[],rfl,rfl,(ajc _ _ _ _ _ _ _ _ _ _).trans h⟩;cases h
end
def ae2 (N:Nat) (SZ129:du) (anm:gE) (SZ82:Ac):Nat->Option Ann:=λb_=>none
theorem Ty (N:Nat) (SZ129:du) (anm:gE) (SZ82:Ac) (hZ129:ac Pg 95 (kN SZ129)) (aoS:ac Pg 155 (nU anm)) (hZ82:ac Pg 157 (YF SZ82)):ac Pg 129 (Jq (Qk N SZ129 anm SZ82)):=by
 refine am (cx:=⟨Pg,ah [(95,(kN SZ129)),(155,(nU anm)),(157,(YF SZ82))],aj,N⟩) (aa hZ129 (aa aoS (aa hZ82 (ae _)))) M4 (H5 (Qk N SZ129 anm SZ82)) (ae2 N SZ129 anm SZ82) 0 0 (by kernel_rfl) (λi_ hi_=>by omega) ?_;intro a k h;unfold H5 at h;split at h;exact⟨[],rfl,rfl,.trans (by kernel_rfl) h⟩;cases h
def dR:StSh:=⟨(.slw 0::.any::.any::.int .i64::sqs 17 []),[some (22,1,.ints .u64)]⟩
def oH:StSh:=⟨(.slw 0::.any::.any::.int .i64::sqs 17 []),[some (22,1,.ints .u64)]⟩
def dP (N:Nat):List Atom->K->Bool:=λa_ κ=>match a_ with
 | [.int n,.ints x]=>aH N (XV N x (λr0=>κ.ext 0 (oH.build [.int r0,.ints x]))) n
 | _=>false
def afd (N:Nat):Nat->Option Ann:=λb_=>cond (b_==0) (some ⟨⟨[0,3],[],[]⟩,[(0,⟨[0,3],[],[]⟩)],some ⟨[2],[],[]⟩,some (aR [(dR,dP N)])⟩) (none)
theorem oE (N:Nat):aV ⟨Pg,ah [],aj,N⟩ 1 (afd N) (lp Pg 167 0) (dR,dP N):=by
 intro a κ h;simp only at h;unfold dP at h;split at h
 ·rename_i n x;exact .trans (aW (λv_=>dR.build [.int v_,.ints x]) (λv_ K_=>by kernel_rfl) N n) h
 ·cases h
theorem vJ (N:Nat):be ⟨Pg,ah [],aj,N⟩ 1 (afd N) (lp Pg 167 0):=
 aN [(dR,dP N)] (by kernel_rfl) ⟨oE _,trivial⟩
theorem afU (N:Nat):ac Pg 167 (FZ3 (GZ3 N)):=by
 refine au (cx:=⟨Pg,ah [],aj,N⟩) (ae _) ade (aho (GZ3 N)) (afd N) 1 1 (by kernel_rfl) (aM (vJ _)) ?_;intro a k h;unfold aho at h;split at h;exact⟨[_],rfl,rfl,.trans (by kernel_rfl) h⟩;cases h
def aeJ (N:Nat) (SZ3:gY):Nat->Option Ann:=λb_=>none
theorem S2 (N:Nat) (SZ3:gY) (hZ3:ac Pg 167 (FZ3 SZ3)):ac Pg 158 (zl (P5 N SZ3)):=by
 refine au (cx:=⟨Pg,ah [(167,(FZ3 SZ3))],aj,N⟩) (aa hZ3 (ae _)) Mz (Hy (P5 N SZ3)) (aeJ N SZ3) 0 0 (by kernel_rfl) (λi_ hi_=>by omega) ?_;intro a k h;unfold Hy at h;split at h;exact⟨[],rfl,rfl,.trans (by kernel_rfl) h⟩;cases h
def alP (N:Nat):Nat->Option Ann:=λb_=>none
theorem afT (N:Nat):ac Pg 139 (FZ2 (GZ2 N)):=by
 refine au (cx:=⟨Pg,ah [],aj,N⟩) (ae _) adc (ahn (GZ2 N)) (alP N) 0 1 (by kernel_rfl) (λi_ hi_=>by omega) ?_;intro a k h;unfold ahn at h;split at h;exact⟨[_],rfl,rfl,.trans (by kernel_rfl) h⟩;cases h
def aiD (N:Nat) (SZ157:lD) (SZ2:gu):Nat->Option Ann:=λb_=>none
theorem aaC (N:Nat) (SZ157:lD) (SZ2:gu) (hZ157:ac Pg 158 (zl SZ157)) (hZ2:ac Pg 139 (FZ2 SZ2)):ac Pg 130 (Yx (adQ N SZ157 SZ2)):=by
 refine au (cx:=⟨Pg,ah [(158,(zl SZ157)),(139,(FZ2 SZ2))],aj,N⟩) (aa hZ157 (aa hZ2 (ae _))) VL (Xe (adQ N SZ157 SZ2)) (aiD N SZ157 SZ2) 0 1 (by kernel_rfl) (λi_ hi_=>by omega) ?_;intro a k h;unfold Xe at h;split at h;exact⟨[_],rfl,rfl,.trans (by kernel_rfl) h⟩;cases h
def aiY (N:Nat):Nat->Option Ann:=λb_=>none
theorem aa2 (N:Nat):ac Pg 140 (yA (ad2 N)):=by
 refine au (cx:=⟨Pg,ah [],aj,N⟩) (ae _) V9 (XE (ad2 N)) (aiY N) 0 0 (by kernel_rfl) (λi_ hi_=>by omega) ?_;intro a k h;unfold XE at h;split at h;exact⟨[],rfl,rfl,.trans (by kernel_rfl) h⟩;cases h
def aim (N:Nat):Nat->Option Ann:=λb_=>none
theorem aai (N:Nat):ac Pg 139 (Ch (adC N)):=by
 refine au (cx:=⟨Pg,ah [],aj,N⟩) (ae _) Vq (WS (adC N)) (aim N) 0 1 (by kernel_rfl) (λi_ hi_=>by omega) ?_;intro a k h;unfold WS at h;split at h;exact⟨[_],rfl,rfl,.trans (by kernel_rfl) h⟩;cases h
def aif (N:Nat) (SZ91:jR) (SZ42:mA):Nat->Option Ann:=λb_=>none
theorem aaa (N:Nat) (SZ91:jR) (SZ42:mA) (hZ91:ac Pg 140 (yA SZ91)) (hZ42:ac Pg 139 (Ch SZ42)):ac Pg 91 (Nt (adz N SZ91 SZ42)):=by
 refine au (cx:=⟨Pg,ah [(140,(yA SZ91)),(139,(Ch SZ42))],aj,N⟩) (aa hZ91 (aa hZ42 (ae _))) Vi (WK (adz N SZ91 SZ42)) (aif N SZ91 SZ42) 0 1 (by kernel_rfl) (λi_ hi_=>by omega) ?_;intro a k h;unfold WK at h;split at h;exact⟨[_],rfl,rfl,.trans (by kernel_rfl) h⟩;cases h
def aeY (N:Nat) (SZ190:tK) (SZ63:z7) (SZ34:qA):Nat->Option Ann:=λb_=>none
theorem Tt (N:Nat) (SZ190:tK) (SZ63:z7) (SZ34:qA) (hZ190:ac Pg 129 (Jq SZ190)) (hZ63:ac Pg 130 (Yx SZ63)) (hZ34:ac Pg 91 (Nt SZ34)):ac Pg 86 (Jn (Qg N SZ190 SZ63 SZ34)):=by
 refine am (cx:=⟨Pg,ah [(129,(Jq SZ190)),(130,(Yx SZ63)),(91,(Nt SZ34))],aj,N⟩) (aa hZ190 (aa hZ63 (aa hZ34 (ae _)))) MW (HZ (Qg N SZ190 SZ63 SZ34)) (aeY N SZ190 SZ63 SZ34) 0 0 (by kernel_rfl) (λi_ hi_=>by omega) ?_;intro a k h;unfold HZ at h;split at h;exact⟨[],rfl,rfl,.trans (by kernel_rfl) h⟩;cases h
def aey (N:Nat):Nat->Option Ann:=λb_=>none
theorem SI (N:Nat):ac Pg 192 (IM (PV N)):=by
 refine am (cx:=⟨Pg,ah [],aj,N⟩) (ae _) Mj (Hf (PV N)) (aey N) 0 0 (by kernel_rfl) (λi_ hi_=>by omega) ?_;intro a k h;unfold Hf at h;split at h;exact⟨[],rfl,rfl,.trans (by kernel_rfl) h⟩;cases h
def aeu (N:Nat) (SZ138:sP) (SZ86:qK):Nat->Option Ann:=λb_=>none
theorem SA (N:Nat) (SZ138:sP) (SZ86:qK) (hZ138:ac Pg 192 (IM SZ138)) (hZ86:ac Pg 183 (PH SZ86)):ac Pg 181 (II (PR N SZ138 SZ86)):=by
 refine au (cx:=⟨Pg,ah [(192,(IM SZ138)),(183,(PH SZ86))],aj,N⟩) (aa hZ138 (aa hZ86 (ae _))) Mb (G8 (PR N SZ138 SZ86)) (aeu N SZ138 SZ86) 0 0 (by kernel_rfl) (λi_ hi_=>by omega) ?_;intro a k h;unfold G8 at h;split at h;exact⟨[],rfl,rfl,.trans (by kernel_rfl) h⟩;cases h
def eM:StSh:=⟨(.any::.roi .u64::.any::.any::.any::.slw 0::.int .i64::.int .u64::.int .u64::sqs 16 (.roi .u64::.int .i64::.int .i64::sqs 4 (.roi .u64::.int .i64::.int .i64::sqs 33 []))),[some (22,1,.ints .u64)]⟩
def qd:StSh:=⟨(.any::.roi .u64::.any::.any::.any::.slw 0::.int .i64::.any::.int .u64::sqs 16 (.roi .u64::.int .i64::.int .i64::sqs 40 [])),[some (22,1,.ints .u64)]⟩
section
variable (N:Nat) (SZ130:sM) (SZ3:gY)
noncomputable abbrev RD:Cx:=⟨Pg,ah [(181,(II SZ130)),(167,(FZ3 SZ3))],aj,N⟩
def eD:List Atom->K->Bool:=λa_ κ=>match a_ with
 | [.ints y_2,.int i,.int a,.int carry,.ints ao5,.int an6,.int aoc,.ints t32,.int t33,.int t34,.ints z_1]=>aH N (nK N SZ130 SZ3 y_2 i a ao5 an6 aoc t32 t33 (λr2 r6=>κ.ext 2 (qd.build [.ints y_2,.int i,.int r2,.ints ao5,.int an6,.int aoc,.ints r6]))) (carry,t34,z_1)
 | _=>false
def eK:StSh:=⟨(.any::.roi .u64::.any::.any::.any::.slw 0::sqs 19 (.roi .u64::.int .i64::.int .i64::sqs 40 [])),[some (22,1,.ints .u64)]⟩
def qb:StSh:=⟨(sqs 5 (.slw 0::sqs 62 [])),[some (22,1,.ints .u64)]⟩
def eC:List Atom->K->Bool:=λa_ κ=>match a_ with
 | [.ints y_1,.ints t25,.int t26,.int t27,.ints z]=>aH N (nJ N SZ130 SZ3 y_1 t25 t26 (λr0=>κ.ext 0 (qb.build [.ints r0]))) (t27,z)
 | _=>false
def wG:Nat->Option Ann:=λb_=>cond (b_==2) (some ⟨⟨[1,5,6,7,8,25,26,27,32,33,34],[],[]⟩,[(2,⟨[1,5,6,8,25,26,27],[],[]⟩)],some ⟨[4],[],[]⟩,some (aR [(eM,eD N SZ130 SZ3)])⟩) (cond (b_==0) (some ⟨⟨[1,5,25,26,27],[],[]⟩,[(0,⟨[5],[],[]⟩)],some ⟨[4],[],[]⟩,some (aR [(eK,eC N SZ130 SZ3)])⟩) (none))
theorem pJ:aV (RD N SZ130 SZ3) 0 (wG N SZ130 SZ3) (lp Pg 159 1) (eM,eD N SZ130 SZ3):=by
 intro a κ h;simp only at h;unfold eD at h;split at h
 ·rename_i y_2 i a carry ao5 an6 aoc t32 t33 t34 z_1;exact .trans (aW (λ(v_:Int × Int × LI)=>eM.build [.ints y_2,.int i,.int a,.int v_.1,.ints ao5,.int an6,.int aoc,.ints t32,.int t33,.int v_.2.1,.ints v_.2.2]) (λv_ K_=>by obtain⟨carry,t34,z_1⟩:=v_; kernel_rfl) N (carry,t34,z_1)) h
 ·cases h
theorem pI:aV (RD N SZ130 SZ3) 0 (wG N SZ130 SZ3) (lp Pg 159 0) (eK,eC N SZ130 SZ3):=by
 intro a κ h;simp only at h;unfold eC at h;split at h
 ·rename_i y_1 t25 t26 t27 z;exact .trans (aW (λ(v_:Int × LI)=>eK.build [.ints y_1,.ints t25,.int t26,.int v_.1,.ints v_.2]) (λv_ K_=>by obtain⟨t27,z⟩:=v_; kernel_rfl) N (t27,z)) h
 ·cases h
theorem xm:be (RD N SZ130 SZ3) 0 (wG N SZ130 SZ3) (lp Pg 159 1):=
 aN [(eM,eD N SZ130 SZ3)] (by kernel_rfl) ⟨pJ _ _ _,trivial⟩
theorem xl:be (RD N SZ130 SZ3) 0 (wG N SZ130 SZ3) (lp Pg 159 0):=
 aN [(eK,eC N SZ130 SZ3)] (by kernel_rfl) ⟨pI _ _ _,trivial⟩
theorem Tb (hZ130:ac Pg 181 (II SZ130)) (hZ3:ac Pg 167 (FZ3 SZ3)):ac Pg 159 (I9 (Qa N SZ130 SZ3)):=by
 refine au (cx:=(RD N SZ130 SZ3)) (aa hZ130 (aa hZ3 (ae _))) MH (HI (Qa N SZ130 SZ3)) (wG N SZ130 SZ3) 2 0 (by kernel_rfl) (jN (xl _ _ _) (xm _ _ _)) ?_;intro a k h;unfold HI at h;split at h;exact⟨[],rfl,rfl,.trans (by kernel_rfl) h⟩;cases h
end
def aiF (N:Nat) (SZ167:tm) (SZ2:gu):Nat->Option Ann:=λb_=>none
theorem aaF (N:Nat) (SZ167:tm) (SZ2:gu) (hZ167:ac Pg 159 (I9 SZ167)) (hZ2:ac Pg 139 (FZ2 SZ2)):ac Pg 131 (Yy (adR N SZ167 SZ2)):=by
 refine au (cx:=⟨Pg,ah [(159,(I9 SZ167)),(139,(FZ2 SZ2))],aj,N⟩) (aa hZ167 (aa hZ2 (ae _))) VO (Xh (adR N SZ167 SZ2)) (aiF N SZ167 SZ2) 0 3 (by kernel_rfl) (λi_ hi_=>by omega) ?_;intro a k h;unfold Xh at h;split at h;exact⟨[_,_,_],rfl,rfl,.trans (by kernel_rfl) h⟩;cases h
def ah7 (N:Nat) (SZ66:z8):Nat->Option Ann:=λb_=>none
theorem ZZ (N:Nat) (SZ66:z8) (hZ66:ac Pg 131 (Yy SZ66)):ac Pg 87 (Yf (adq N SZ66)):=by
 refine am (cx:=⟨Pg,ah [(131,(Yy SZ66))],aj,N⟩) (aa hZ66 (ae _)) U_ (Wy (adq N SZ66)) (ah7 N SZ66) 0 2 (by kernel_rfl) (λi_ hi_=>by omega) ?_;intro a k h;unfold Wy at h;split at h;exact⟨[_,_],rfl,rfl,.trans (by kernel_rfl) h⟩;cases h
def ai3 (N:Nat):Nat->Option Ann:=λb_=>none
theorem aa7 (N:Nat):ac Pg 94 (YL (ad3 N)):=by
 refine au (cx:=⟨Pg,ah [],aj,N⟩) (ae _) Gu (XJ (ad3 N)) (ai3 N) 0 1 (by kernel_rfl) (λi_ hi_=>by omega) ?_;intro a k h;unfold XJ at h;split at h;exact⟨[_],rfl,rfl,.trans (by kernel_rfl) h⟩;cases h
def alR (N:Nat):Nat->Option Ann:=λb_=>none
theorem afW (N:Nat):ac Pg 94 (FZ5 (GZ5 N)):=by
 refine au (cx:=⟨Pg,ah [],aj,N⟩) (ae _) adg (ahq (GZ5 N)) (alR N) 0 1 (by kernel_rfl) (λi_ hi_=>by omega) ?_;intro a k h;unfold ahq at h;split at h;exact⟨[_],rfl,rfl,.trans (by kernel_rfl) h⟩;cases h
def fE:StSh:=⟨(sqs 5 (.int .i64::.int .u64::.slw 0::sqs 16 (.roi .u64::.int .i64::.int .i64::sqs 28 []))),[some (22,1,.ints .u64)]⟩
def r7:StSh:=⟨(sqs 7 (.slw 0::sqs 47 [])),[some (22,1,.ints .u64)]⟩
section
variable (N:Nat) (SZ3:gY)
noncomputable abbrev afo:Cx:=⟨Pg,ah [(167,(FZ3 SZ3))],aj,N⟩
def fi:List Atom->K->Bool:=λa_ κ=>match a_ with
 | [.int words,.int rest,.ints t24,.int t25,.int t26,.ints z]=>aH N (pk N SZ3 words rest t24 t25 (λr0=>κ.ext 0 (r7.build [.ints r0]))) (t26,z)
 | _=>false
def EE:Nat->Option Ann:=λb_=>cond (b_==0) (some ⟨⟨[5,6,7,24,25,26],[],[]⟩,[(0,⟨[7],[],[]⟩)],some ⟨[4],[],[]⟩,some (aR [(fE,fi N SZ3)])⟩) (none)
theorem rg:aV (afo N SZ3) 0 (EE N SZ3) (lp Pg 169 0) (fE,fi N SZ3):=by
 intro a κ h;simp only at h;unfold fi at h;split at h
 ·rename_i words rest t24 t25 t26 z;exact .trans (aW (λ(v_:Int × LI)=>fE.build [.int words,.int rest,.ints t24,.int t25,.int v_.1,.ints v_.2]) (λv_ K_=>by obtain⟨t26,z⟩:=v_; kernel_rfl) N (t26,z)) h
 ·cases h
theorem yL:be (afo N SZ3) 0 (EE N SZ3) (lp Pg 169 0):=
 aN [(fE,fi N SZ3)] (by kernel_rfl) ⟨rg _ _,trivial⟩
theorem SB (hZ3:ac Pg 167 (FZ3 SZ3)):ac Pg 169 (uT (PS N SZ3)):=by
 refine au (cx:=(afo N SZ3)) (aa hZ3 (ae _)) Mc (G9 (PS N SZ3)) (EE N SZ3) 1 0 (by kernel_rfl) (aM (yL _ _)) ?_;intro a k h;unfold G9 at h;split at h;exact⟨[],rfl,rfl,.trans (by kernel_rfl) h⟩;cases h
end
def aiP (N:Nat) (SZ131:iU) (SZ2:gu):Nat->Option Ann:=λb_=>none
theorem aaP (N:Nat) (SZ131:iU) (SZ2:gu) (hZ131:ac Pg 169 (uT SZ131)) (hZ2:ac Pg 139 (FZ2 SZ2)):ac Pg 141 (YE (adZ N SZ131 SZ2)):=by
 refine au (cx:=⟨Pg,ah [(169,(uT SZ131)),(139,(FZ2 SZ2))],aj,N⟩) (aa hZ131 (aa hZ2 (ae _))) VY (Xr (adZ N SZ131 SZ2)) (aiP N SZ131 SZ2) 0 2 (by kernel_rfl) (λi_ hi_=>by omega) ?_;intro a k h;unfold Xr at h;split at h;exact⟨[_,_],rfl,rfl,.trans (by kernel_rfl) h⟩;cases h
def ain (N:Nat) (SZ76:Ab):Nat->Option Ann:=λb_=>none
theorem aaj (N:Nat) (SZ76:Ab) (hZ76:ac Pg 141 (YE SZ76)):ac Pg 128 (Ny (adD N SZ76)):=by
 refine am (cx:=⟨Pg,ah [(141,(YE SZ76))],aj,N⟩) (aa hZ76 (ae _)) Vr (WT (adD N SZ76)) (ain N SZ76) 0 1 (by kernel_rfl) (λi_ hi_=>by omega) ?_;intro a k h;unfold WT at h;split at h;exact⟨[_],rfl,rfl,.trans (by kernel_rfl) h⟩;cases h
def ah9 (N:Nat):Nat->Option Ann:=λb_=>none
theorem Z1 (N:Nat):ac Pg 170 (qu (ads N)):=by
 refine au (cx:=⟨Pg,ah [],aj,N⟩) (ae _) Va (WA (ads N)) (ah9 N) 0 0 (by kernel_rfl) (λi_ hi_=>by omega) ?_;intro a k h;unfold WA at h;split at h;exact⟨[],rfl,rfl,.trans (by kernel_rfl) h⟩;cases h
def fU:StSh:=⟨(.roi .u64::.roi .u64::.any::.any::.any::.int .i64::.slw 0::.int .u64::sqs 9 (.int .i64::.int .i64::sqs 23 [])),[some (22,1,.ints .u64)]⟩
def uM:StSh:=⟨(sqs 5 (.int .i64::.slw 0::.int .u64::sqs 34 [])),[some (22,1,.ints .u64)]⟩
section
variable (N:Nat) (SZ24:fL) (SZ86:qK) (SZ3:gY)
noncomputable abbrev Rk:Cx:=⟨Pg,ah [(170,(qu SZ24)),(183,(PH SZ86)),(167,(FZ3 SZ3))],aj,N⟩
def fT:List Atom->K->Bool:=λa_ κ=>match a_ with
 | [.ints x_1,.ints y_1,.int n,.int carry,.int t17,.int t18,.ints z]=>aH N (rZ N SZ24 SZ86 SZ3 x_1 y_1 n t17 (λr1 r2=>κ.ext 0 (uM.build [.int n,.int r1,.ints r2]))) (carry,t18,z)
 | _=>false
def EQ:Nat->Option Ann:=λb_=>cond (b_==0) (some ⟨⟨[0,1,5,6,7,17,18],[],[]⟩,[(0,⟨[5,6,7],[],[]⟩)],some ⟨[4],[],[]⟩,some (aR [(fU,fT N SZ24 SZ86 SZ3)])⟩) (none)
theorem uo:aV (Rk N SZ24 SZ86 SZ3) 0 (EQ N SZ24 SZ86 SZ3) (lp Pg 166 0) (fU,fT N SZ24 SZ86 SZ3):=by
 intro a κ h;simp only at h;unfold fT at h;split at h
 ·rename_i x_1 y_1 n carry t17 t18 z;exact .trans (aW (λ(v_:Int × Int × LI)=>fU.build [.ints x_1,.ints y_1,.int n,.int v_.1,.int t17,.int v_.2.1,.ints v_.2.2]) (λv_ K_=>by obtain⟨carry,t18,z⟩:=v_; kernel_rfl) N (carry,t18,z)) h
 ·cases h
theorem BI:be (Rk N SZ24 SZ86 SZ3) 0 (EQ N SZ24 SZ86 SZ3) (lp Pg 166 0):=
 aN [(fU,fT N SZ24 SZ86 SZ3)] (by kernel_rfl) ⟨uo _ _ _ _,trivial⟩
theorem Tp (hZ24:ac Pg 170 (qu SZ24)) (hZ86:ac Pg 183 (PH SZ86)) (hZ3:ac Pg 167 (FZ3 SZ3)):ac Pg 166 (zn (Qe N SZ24 SZ86 SZ3)):=by
 refine au (cx:=(Rk N SZ24 SZ86 SZ3)) (aa hZ24 (aa hZ86 (aa hZ3 (ae _)))) MT (HW (Qe N SZ24 SZ86 SZ3)) (EQ N SZ24 SZ86 SZ3) 1 0 (by kernel_rfl) (aM (BI _ _ _ _)) ?_;intro a k h;unfold HW at h;split at h;exact⟨[],rfl,rfl,.trans (by kernel_rfl) h⟩;cases h
def dG:StSh:=⟨(.roi .u64::.roi .u64::.any::.any::.any::.int .i64::sqs 35 []),[]⟩
def nN:StSh:=⟨(sqs 4 (.int .i64::sqs 36 [])),[]⟩
def nP:StSh:=⟨(sqs 41 []),[]⟩
end
def dE (N:Nat):List Atom->K->Bool:=λa_ κ=>match a_ with
 | [.ints x_1,.ints y_1,.int i]=>aH N (XU N x_1 y_1 (λr0=>κ.ret (nN.build [.int r0])) (κ.ext 0 (nP.build []))) i
 | _=>false
def EJ (N:Nat):Nat->Option Ann:=λb_=>cond (b_==0) (some ⟨⟨[0,1,5],[],[]⟩,[(0,⟨[],[],[]⟩)],some ⟨[4],[],[]⟩,some (aR [(dG,dE N)])⟩) (none)
theorem nl (N:Nat):aV ⟨Pg,ah [],aj,N⟩ 0 (EJ N) (lp Pg 177 0) (dG,dE N):=by
 intro a κ h;simp only at h;unfold dE at h;split at h
 ·rename_i x_1 y_1 i;exact .trans (aW (λv_=>dG.build [.ints x_1,.ints y_1,.int v_]) (λv_ K_=>by kernel_rfl) N i) h
 ·cases h
theorem uq (N:Nat):be ⟨Pg,ah [],aj,N⟩ 0 (EJ N) (lp Pg 177 0):=
 aN [(dG,dE N)] (by kernel_rfl) ⟨nl _,trivial⟩
theorem SQ (N:Nat):ac Pg 177 (IV (PX N)):=by
 refine au (cx:=⟨Pg,ah [],aj,N⟩) (ae _) Mr (Hn (PX N)) (EJ N) 1 0 (by kernel_rfl) (aM (uq _)) ?_;intro a k h;unfold Hn at h;split at h;exact⟨[],rfl,rfl,.trans (by kernel_rfl) h⟩;cases h
def fF:StSh:=⟨(.roi .u64::.roi .u64::.any::.any::.any::.slw 0::.int .u64::sqs 5 (.int .i64::.int .i64::sqs 20 [])),[some (22,1,.ints .u64)]⟩
def r8:StSh:=⟨(sqs 5 (.slw 0::sqs 28 [])),[some (22,1,.ints .u64)]⟩
section
variable (N:Nat) (SZ24:fL) (SZ122:sI) (SZ3:gY)
noncomputable abbrev Rl:Cx:=⟨Pg,ah [(170,(qu SZ24)),(191,(PA SZ122)),(167,(FZ3 SZ3))],aj,N⟩
def fj:List Atom->K->Bool:=λa_ κ=>match a_ with
 | [.ints x_1,.ints y_1,.int borrow,.int t12,.int t13,.ints z]=>aH N (pm N SZ24 SZ122 SZ3 x_1 y_1 t12 (λr0=>κ.ext 0 (r8.build [.ints r0]))) (borrow,t13,z)
 | _=>false
def ES:Nat->Option Ann:=λb_=>cond (b_==0) (some ⟨⟨[0,1,5,6,12,13],[],[]⟩,[(0,⟨[5],[],[]⟩)],some ⟨[4],[],[]⟩,some (aR [(fF,fj N SZ24 SZ122 SZ3)])⟩) (none)
theorem ri:aV (Rl N SZ24 SZ122 SZ3) 0 (ES N SZ24 SZ122 SZ3) (lp Pg 178 0) (fF,fj N SZ24 SZ122 SZ3):=by
 intro a κ h;simp only at h;unfold fj at h;split at h
 ·rename_i x_1 y_1 borrow t12 t13 z;exact .trans (aW (λ(v_:Int × Int × LI)=>fF.build [.ints x_1,.ints y_1,.int v_.1,.int t12,.int v_.2.1,.ints v_.2.2]) (λv_ K_=>by obtain⟨borrow,t13,z⟩:=v_; kernel_rfl) N (borrow,t13,z)) h
 ·cases h
theorem yM:be (Rl N SZ24 SZ122 SZ3) 0 (ES N SZ24 SZ122 SZ3) (lp Pg 178 0):=
 aN [(fF,fj N SZ24 SZ122 SZ3)] (by kernel_rfl) ⟨ri _ _ _ _,trivial⟩
theorem Tv (hZ24:ac Pg 170 (qu SZ24)) (hZ122:ac Pg 191 (PA SZ122)) (hZ3:ac Pg 167 (FZ3 SZ3)):ac Pg 178 (Jo (Qi N SZ24 SZ122 SZ3)):=by
 refine au (cx:=(Rl N SZ24 SZ122 SZ3)) (aa hZ24 (aa hZ122 (aa hZ3 (ae _)))) MY (H1 (Qi N SZ24 SZ122 SZ3)) (ES N SZ24 SZ122 SZ3) 1 0 (by kernel_rfl) (aM (yM _ _ _ _)) ?_;intro a k h;unfold H1 at h;split at h;exact⟨[],rfl,rfl,.trans (by kernel_rfl) h⟩;cases h
end
def aiN (N:Nat) (SZ181:lF) (SZ2:gu) (SZ146:sU) (SZ187:tI):Nat->Option Ann:=λb_=>none
theorem aaN (N:Nat) (SZ181:lF) (SZ2:gu) (SZ146:sU) (SZ187:tI) (hZ181:ac Pg 166 (zn SZ181)) (hZ2:ac Pg 139 (FZ2 SZ2)) (hZ146:ac Pg 177 (IV SZ146)) (hZ187:ac Pg 178 (Jo SZ187)):ac Pg 156 (YD (adY N SZ181 SZ2 SZ146 SZ187)):=by
 refine au (cx:=⟨Pg,ah [(166,(zn SZ181)),(139,(FZ2 SZ2)),(177,(IV SZ146)),(178,(Jo SZ187))],aj,N⟩) (aa hZ181 (aa hZ2 (aa hZ146 (aa hZ187 (ae _))))) VW (Xp (adY N SZ181 SZ2 SZ146 SZ187)) (aiN N SZ181 SZ2 SZ146 SZ187) 0 2 (by kernel_rfl) (λi_ hi_=>by omega) ?_;intro a k h;unfold Xp at h;split at h;exact⟨[_,_],rfl,rfl,.trans (by kernel_rfl) h⟩;cases h
def aig (N:Nat) (SZ74:Aa):Nat->Option Ann:=λb_=>none
theorem aab (N:Nat) (SZ74:Aa) (hZ74:ac Pg 156 (YD SZ74)):ac Pg 127 (Nu (adA N SZ74)):=by
 refine au (cx:=⟨Pg,ah [(156,(YD SZ74))],aj,N⟩) (aa hZ74 (ae _)) Vj (WL (adA N SZ74)) (aig N SZ74) 0 3 (by kernel_rfl) (λi_ hi_=>by omega) ?_;intro a k h;unfold WL at h;split at h;exact⟨[_,_,_],rfl,rfl,.trans (by kernel_rfl) h⟩;cases h
def ah_ (N:Nat) (SZ96:Aj) (SZ5:mL) (SZ43:qD) (SZ35:qB):Nat->Option Ann:=λb_=>none
theorem Z2 (N:Nat) (SZ96:Aj) (SZ5:mL) (SZ43:qD) (SZ35:qB) (hZ96:ac Pg 94 (YL SZ96)) (hZ5:ac Pg 94 (FZ5 SZ5)) (hZ43:ac Pg 128 (Ny SZ43)) (hZ35:ac Pg 127 (Nu SZ35)):ac Pg 85 (Yg (adt N SZ96 SZ5 SZ43 SZ35)):=by
 refine am (cx:=⟨Pg,ah [(94,(xO (YL SZ96) (FZ5 SZ5) Gu)),(128,(Ny SZ43)),(127,(Nu SZ35))],aj,N⟩) (aa (jo hZ96 hZ5) (aa hZ43 (aa hZ35 (ae _)))) Gp (WB (adt N SZ96 SZ5 SZ43 SZ35)) (ah_ N SZ96 SZ5 SZ43 SZ35) 0 2 (by kernel_rfl) (λi_ hi_=>by omega) ?_;intro a k h;unfold WB at h;split at h;exact⟨[_,_],rfl,rfl,.trans (by kernel_rfl) h⟩;cases h
def alS (N:Nat) (SZ5:mL) (SZ43:qD) (SZ35:qB):Nat->Option Ann:=λb_=>none
theorem afX (N:Nat) (SZ5:mL) (SZ43:qD) (SZ35:qB) (hZ5:ac Pg 94 (FZ5 SZ5)) (hZ43:ac Pg 128 (Ny SZ43)) (hZ35:ac Pg 127 (Nu SZ35)):ac Pg 85 (FZ6 (GZ6 N SZ5 SZ43 SZ35)):=by
 refine am (cx:=⟨Pg,ah [(94,(FZ5 SZ5)),(128,(Ny SZ43)),(127,(Nu SZ35))],aj,N⟩) (aa hZ5 (aa hZ43 (aa hZ35 (ae _)))) adh (ahr (GZ6 N SZ5 SZ43 SZ35)) (alS N SZ5 SZ43 SZ35) 0 2 (by kernel_rfl) (λi_ hi_=>by omega) ?_;intro a k h;unfold ahr at h;split at h;exact⟨[_,_],rfl,rfl,.trans (by kernel_rfl) h⟩;cases h
def aip (N:Nat) (SZ91:jR) (SZ2:gu):Nat->Option Ann:=λb_=>none
theorem aam (N:Nat) (SZ91:jR) (SZ2:gu) (hZ91:ac Pg 140 (yA SZ91)) (hZ2:ac Pg 139 (FZ2 SZ2)):ac Pg 160 (Yo (adE N SZ91 SZ2)):=by
 refine au (cx:=⟨Pg,ah [(140,(yA SZ91)),(139,(FZ2 SZ2))],aj,N⟩) (aa hZ91 (aa hZ2 (ae _))) Vu (WW (adE N SZ91 SZ2)) (aip N SZ91 SZ2) 0 2 (by kernel_rfl) (λi_ hi_=>by omega) ?_;intro a k h;unfold WW at h;split at h;exact⟨[_,_],rfl,rfl,.trans (by kernel_rfl) h⟩;cases h
def aiG (N:Nat) (SZ24:fL):Nat->Option Ann:=λb_=>none
theorem aaG (N:Nat) (SZ24:fL) (hZ24:ac Pg 170 (qu SZ24)):ac Pg 161 (Yz (adS N SZ24)):=by
 refine au (cx:=⟨Pg,ah [(170,(qu SZ24))],aj,N⟩) (aa hZ24 (ae _)) VP (Xi (adS N SZ24)) (aiG N SZ24) 0 1 (by kernel_rfl) (λi_ hi_=>by omega) ?_;intro a k h;unfold Xi at h;split at h;exact⟨[_],rfl,rfl,.trans (by kernel_rfl) h⟩;cases h
def aZ:StSh:=⟨(sqs 8 (.roi .u64::.int .i64::.int .i64::sqs 13 [])),[some (126,1,.cells [.bool,.roi .u64])]⟩
def fJ:StSh:=⟨(.any::.any::.int .u64::sqs 21 []),[some (126,1,.cells [.bool,.roi .u64])]⟩
def fK:StSh:=⟨(sqs 24 []),[some (126,1,.cells [.bool,.roi .u64])]⟩
section
variable (N:Nat) (SZ8:yD)
noncomputable abbrev Rm:Cx:=⟨Pg,ah [(180,(FZ8 SZ8))],aj,N⟩
def aY:List Atom->K->Bool:=λa_ κ=>match a_ with
 | [.ints t8,.int t9,.int t10,.bool b0,.ints an2]=>aH N (XQ N SZ8 t8 t9 b0 an2 (λr0=>κ.ret (fJ.build [.int r0,.bool b0,.ints an2])) (κ.ext 0 (fK.build [.bool b0,.ints an2]))) t10
 | _=>false
def QO:Nat->Option Ann:=λb_=>cond (b_==0) (some ⟨⟨[8,9,10],[],[]⟩,[(0,⟨[],[],[]⟩)],some ⟨[2],[],[]⟩,some (aR [(aZ,aY N SZ8)])⟩) (none)
theorem fh:aV (Rm N SZ8) 1 (QO N SZ8) (lp Pg 162 0) (aZ,aY N SZ8):=by
 intro a κ h;simp only at h;unfold aY at h;split at h
 ·rename_i t8 t9 t10 b0 an2;exact .trans (aW (λv_=>aZ.build [.ints t8,.int t9,.int v_,.bool b0,.ints an2]) (λv_ K_=>by kernel_rfl) N t10) h
 ·cases h
theorem gv:be (Rm N SZ8) 1 (QO N SZ8) (lp Pg 162 0):=
 aN [(aZ,aY N SZ8)] (by kernel_rfl) ⟨fh _ _,trivial⟩
theorem ZP (hZ8:ac Pg 180 (FZ8 SZ8)):ac Pg 162 (Yc (adn N SZ8)):=by
 refine au (cx:=(Rm N SZ8)) (aa hZ8 (ae _)) UW (Wj (adn N SZ8)) (QO N SZ8) 1 1 (by kernel_rfl) (aM (gv _ _)) ?_;intro a k h;unfold Wj at h;split at h;exact⟨[_],rfl,rfl,.trans (by kernel_rfl) h⟩;cases h
def eI:StSh:=⟨(.roi .u64::sqs 5 (.int .i64::.int .u64::.int .u64::sqs 28 (.roi .u64::.int .i64::.int .i64::sqs 42 []))),[]⟩
def p_:StSh:=⟨(.roi .u64::sqs 5 (.int .i64::.int .u64::.int .u64::sqs 73 [])),[]⟩
end
section
variable (N:Nat) (SZ24:fL) (SZ3:gY)
noncomputable abbrev C8:Cx:=⟨Pg,ah [(170,(qu SZ24)),(167,(FZ3 SZ3))],aj,N⟩
def eA:List Atom->K->Bool:=λa_ κ=>match a_ with
 | [.ints x_1,.int words,.int rest,.int lost,.ints t37,.int t38,.int t39]=>aH N (nH N SZ24 SZ3 x_1 words rest t37 t38 (λr3=>κ.ext 0 (p_.build [.ints x_1,.int words,.int rest,.int r3]))) (lost,t39)
 | _=>false
def eJ:StSh:=⟨(.roi .u64::sqs 5 (.int .i64::.int .u64::.int .u64::.any::.any::.slw 0::sqs 41 (.int .i64::.int .i64::sqs 27 []))),[some (22,1,.ints .u64)]⟩
def qa:StSh:=⟨(sqs 8 (.int .u64::.any::.any::.slw 0::sqs 70 [])),[some (22,1,.ints .u64)]⟩
def eB:List Atom->K->Bool:=λa_ κ=>match a_ with
 | [.ints x_2,.int anS,.int aob,.int aox,.int t53,.int t54,.ints z]=>aH N (nI N SZ24 SZ3 x_2 anS aob aox t53 (λr1=>κ.ext 2 (qa.build [.int aox,.ints r1]))) (t54,z)
 | _=>false
def wF:Nat->Option Ann:=λb_=>cond (b_==0) (some ⟨⟨[0,6,7,8,37,38,39],[],[]⟩,[(0,⟨[0,6,7,8],[],[]⟩)],some ⟨[4,5],[],[]⟩,some (aR [(eI,eA N SZ24 SZ3)])⟩) (cond (b_==2) (some ⟨⟨[0,6,7,8,11,53,54],[],[]⟩,[(2,⟨[8,11],[],[]⟩)],some ⟨[4,5],[],[]⟩,some (aR [(eJ,eB N SZ24 SZ3)])⟩) (none))
theorem pG:aV (C8 N SZ24 SZ3) 0 (wF N SZ24 SZ3) (lp Pg 165 0) (eI,eA N SZ24 SZ3):=by
 intro a κ h;simp only at h;unfold eA at h;split at h
 ·rename_i x_1 words rest lost t37 t38 t39;exact .trans (aW (λ(v_:Int × Int)=>eI.build [.ints x_1,.int words,.int rest,.int v_.1,.ints t37,.int t38,.int v_.2]) (λv_ K_=>by obtain⟨lost,t39⟩:=v_; kernel_rfl) N (lost,t39)) h
 ·cases h
theorem pH:aV (C8 N SZ24 SZ3) 0 (wF N SZ24 SZ3) (lp Pg 165 1) (eJ,eB N SZ24 SZ3):=by
 intro a κ h;simp only at h;unfold eB at h;split at h
 ·rename_i x_2 anS aob aox t53 t54 z;exact .trans (aW (λ(v_:Int × LI)=>eJ.build [.ints x_2,.int anS,.int aob,.int aox,.int t53,.int v_.1,.ints v_.2]) (λv_ K_=>by obtain⟨t54,z⟩:=v_; kernel_rfl) N (t54,z)) h
 ·cases h
theorem xj:be (C8 N SZ24 SZ3) 0 (wF N SZ24 SZ3) (lp Pg 165 0):=
 aN [(eI,eA N SZ24 SZ3)] (by kernel_rfl) ⟨pG _ _ _,trivial⟩
theorem xk:be (C8 N SZ24 SZ3) 0 (wF N SZ24 SZ3) (lp Pg 165 1):=
 aN [(eJ,eB N SZ24 SZ3)] (by kernel_rfl) ⟨pH _ _ _,trivial⟩
theorem S8 (hZ24:ac Pg 170 (qu SZ24)) (hZ3:ac Pg 167 (FZ3 SZ3)):ac Pg 165 (I5 (P9 N SZ24 SZ3)):=by
 refine au (cx:=(C8 N SZ24 SZ3)) (aa hZ24 (aa hZ3 (ae _))) ME (HE (P9 N SZ24 SZ3)) (wF N SZ24 SZ3) 2 0 (by kernel_rfl) (jN (xj _ _ _) (xk _ _ _)) ?_;intro a k h;unfold HE at h;split at h;exact⟨[],rfl,rfl,.trans (by kernel_rfl) h⟩;cases h
end
def ah5 (N:Nat) (SZ163:tg) (SZ181:lF) (SZ42:mA):Nat->Option Ann:=λb_=>none
theorem ZX (N:Nat) (SZ163:tg) (SZ181:lF) (SZ42:mA) (hZ163:ac Pg 165 (I5 SZ163)) (hZ181:ac Pg 166 (zn SZ181)) (hZ42:ac Pg 139 (Ch SZ42)):ac Pg 136 (Nr (adp N SZ163 SZ181 SZ42)):=by
 refine au (cx:=⟨Pg,ah [(165,(I5 SZ163)),(166,(zn SZ181)),(139,(Ch SZ42))],aj,N⟩) (aa hZ163 (aa hZ181 (aa hZ42 (ae _)))) U8 (Wv (adp N SZ163 SZ181 SZ42)) (ah5 N SZ163 SZ181 SZ42) 0 1 (by kernel_rfl) (λi_ hi_=>by omega) ?_;intro a k h;unfold Wv at h;split at h;exact⟨[_],rfl,rfl,.trans (by kernel_rfl) h⟩;cases h
def bK:StSh:=⟨(.any::.any::.ptr 1 0::.ptr 2 0::.int .i64::sqs 28 []),[some (126,1,.cells [.bool,.roi .u64]),some (128,1,.cells [.val,.int .i64]),some (126,1,.cells [.bool,.roi .u64])]⟩
def g_:StSh:=⟨(.any::.any::.ptr 1 0::.ptr 2 0::.int .i64::sqs 28 []),[some (126,1,.cells [.bool,.roi .u64]),some (128,1,.cells [.val,.int .i64]),some (126,1,.cells [.bool,.roi .u64])]⟩
section
variable (N:Nat) (SZ46:zS) (SZ5:mL) (SZ67:z9) (SZ12:zH) (SZ20:qy)
noncomputable abbrev Rn:Cx:=⟨Pg,ah [(160,(Yo SZ46)),(94,(FZ5 SZ5)),(161,(Yz SZ67)),(162,(Yc SZ12)),(136,(Nr SZ20))],aj,N⟩
def bJ:List Atom->K->Bool:=λa_ κ=>match a_ with
 | [.int e,.bool b0,.ints an2,.val t2,.int apn,.bool n,.ints n_1]=>aH N (XP N SZ46 SZ5 SZ67 SZ12 SZ20 b0 an2 t2 apn (λr0 r5 r6=>κ.ext 0 (g_.build [.int r0,.bool b0,.ints an2,.val t2,.int apn,.bool r5,.ints r6]))) (e,n,n_1)
 | _=>false
def QR:Nat->Option Ann:=λb_=>cond (b_==0) (some ⟨⟨[2,3,4],[],[]⟩,[(0,⟨[2,3,4],[],[]⟩)],some ⟨[2],[],[]⟩,some (aR [(bK,bJ N SZ46 SZ5 SZ67 SZ12 SZ20)])⟩) (none)
theorem gZ:aV (Rn N SZ46 SZ5 SZ67 SZ12 SZ20) 1 (QR N SZ46 SZ5 SZ67 SZ12 SZ20) (lp Pg 132 0) (bK,bJ N SZ46 SZ5 SZ67 SZ12 SZ20):=by
 intro a κ h;simp only at h;unfold bJ at h;split at h
 ·rename_i e b0 an2 t2 apn n n_1;exact .trans (aW (λ(v_:Int × Bool × LI)=>bK.build [.int v_.1,.bool b0,.ints an2,.val t2,.int apn,.bool v_.2.1,.ints v_.2.2]) (λv_ K_=>by obtain⟨e,n,n_1⟩:=v_; kernel_rfl) N (e,n,n_1)) h
 ·cases h
theorem js:be (Rn N SZ46 SZ5 SZ67 SZ12 SZ20) 1 (QR N SZ46 SZ5 SZ67 SZ12 SZ20) (lp Pg 132 0):=
 aN [(bK,bJ N SZ46 SZ5 SZ67 SZ12 SZ20)] (by kernel_rfl) ⟨gZ _ _ _ _ _ _,trivial⟩
theorem Z4 (hZ46:ac Pg 160 (Yo SZ46)) (hZ5:ac Pg 94 (FZ5 SZ5)) (hZ67:ac Pg 161 (Yz SZ67)) (hZ12:ac Pg 162 (Yc SZ12)) (hZ20:ac Pg 136 (Nr SZ20)):ac Pg 132 (Yh (adu N SZ46 SZ5 SZ67 SZ12 SZ20)):=by
 refine am (cx:=(Rn N SZ46 SZ5 SZ67 SZ12 SZ20)) (aa hZ46 (aa hZ5 (aa hZ67 (aa hZ12 (aa hZ20 (ae _)))))) Vc (WD (adu N SZ46 SZ5 SZ67 SZ12 SZ20)) (QR N SZ46 SZ5 SZ67 SZ12 SZ20) 1 1 (by kernel_rfl) (aM (js _ _ _ _ _ _)) ?_;intro a k h;unfold WD at h;split at h;exact⟨[_],rfl,rfl,.trans (by kernel_rfl) h⟩;cases h
end
def pv (N:Nat):Nat->Option Ann:=λb_=>none
def FK (d_:List V) (u_:List (Option Blk)) (x x_2 n_1:Int):St:=⟨(vwu x_2::(dq d_ 0)::vwi n_1::dqs d_ 1 22 []),[]⟩
def BS (d_:List V) (u_:List (Option Blk)) (x x_1 n:Int):St:=⟨(vwu x_1::(dq d_ 0)::vwi n::dqs d_ 1 22 []),[]⟩
theorem agk (N:Nat) (d_:List V) (u_:List (Option Blk)) (x x_2 n_1:Int) (c_:KV):aB ⟨Pg,ah [],aj,N⟩ 0 (pv N) ((cds Pg 182).drop 5) 0 (FK d_ u_ x x_2 n_1) (bR Pg 182 0 c_)=Qx N x x_2 n_1 (λr0=>c_ (vwi r0) []):=by kernel_rfl
theorem af1 (N:Nat) (d_:List V) (u_:List (Option Blk)) (x x_1 n:Int) (c_:KV) (κn_:St->Bool):aB ⟨Pg,ah [],aj,N⟩ 0 (pv N) (sg Pg 182 3 2) 0 (BS d_ u_ x x_1 n) { (bR Pg 182 0 c_)with nrm:=κn_ } = (cond (decide (x_1>=65536)) (aw .i64 (n+16)&&κn_ (FK (dqs d_ 0 5 (vwu x_1::.bool true::vwu x_1::vwu (Int.fdiv x_1 (2 ^ 16))::vwi n::vwi (n+16)::dqs d_ 11 12 [])) [] x (Int.fdiv x_1 (2 ^ 16)) (n+16))) (κn_ (FK (dqs d_ 0 5 (vwu x_1::.bool false::dqs d_ 7 16 [])) [] x x_1 n))):=by kernel_rfl
theorem agh (N:Nat) (d_:List V) (u_:List (Option Blk)) (x x_1 n:Int) (c_:KV):aB ⟨Pg,ah [],aj,N⟩ 0 (pv N) ((cds Pg 182).drop 3) 0 (BS d_ u_ x x_1 n) (bR Pg 182 0 c_)=Qw N x x_1 n (λr0=>c_ (vwi r0) []):=by rw[aP 3 2 5 rfl];refine(af1 N d_ u_ x x_1 n c_ _).trans ?_;simp only[agk];kernel_rfl
theorem re (N:Nat) (x:Int) (c_:KV) (κn_:St->Bool):aB ⟨Pg,ah [],aj,N⟩ 0 (pv N) (sg Pg 182 0 3) 0 (st0 Pg 182 (rR.args [.int x]) []) { (bR Pg 182 0 c_)with nrm:=κn_ } = (cond (decide (x>=4294967296)) (κn_ (BS (.any::vwu x::.bool true::vwu x::vwu (Int.fdiv x (2 ^ 32))::vqs 18 []) [] x (Int.fdiv x (2 ^ 32)) 32)) (κn_ (BS (.any::vwu x::.bool false::vqs 20 []) [] x x 0))):=by kernel_rfl
theorem rt (N:Nat) (x:Int) (c_:KV):aB ⟨Pg,ah [],aj,N⟩ 0 (pv N) ((cds Pg 182).drop 0) 0 (st0 Pg 182 (rR.args [.int x]) []) (bR Pg 182 0 c_)=Cp N x (λr0=>c_ (vwi r0) []):=by rw[aP 0 3 3 rfl];refine(re N x c_ _).trans ?_;simp only[agh];kernel_rfl
theorem afq (N:Nat) (x:Int) (c_:KV):gm ⟨Pg,ah [],aj,N⟩ (pv N) 182 (rR.args [.int x]) [] c_=Cp N x (λr0=>c_ (vwi r0) []):=
 (cX (by kernel_rfl)).trans (rt N x c_)
theorem Ss (N:Nat):ac Pg 182 (IC (Cp N)):=by
 refine am (cx:=⟨Pg,ah [],aj,N⟩) (ae _) rR (GX (Cp N)) (pv N) 0 0 (by kernel_rfl) (λi_ hi_=>by omega) ?_;intro a k h;unfold GX at h;split at h;exact⟨[],rfl,rfl,(afq _ _ _).trans h⟩;cases h
def aeO (N:Nat) (SZ121:sH):Nat->Option Ann:=λb_=>none
theorem S_ (N:Nat) (SZ121:sH) (hZ121:ac Pg 182 (IC SZ121)):ac Pg 163 (I7 (P_ N SZ121)):=by
 refine au (cx:=⟨Pg,ah [(182,(IC SZ121))],aj,N⟩) (aa hZ121 (ae _)) MF (HG (P_ N SZ121)) (aeO N SZ121) 0 0 (by kernel_rfl) (λi_ hi_=>by omega) ?_;intro a k h;unfold HG at h;split at h;exact⟨[],rfl,rfl,.trans (by kernel_rfl) h⟩;cases h
def air (N:Nat) (SZ165:ti):Nat->Option Ann:=λb_=>none
theorem aao (N:Nat) (SZ165:ti) (hZ165:ac Pg 163 (I7 SZ165)):ac Pg 133 (Yq (adG N SZ165)):=by
 refine au (cx:=⟨Pg,ah [(163,(I7 SZ165))],aj,N⟩) (aa hZ165 (ae _)) Vw (WY (adG N SZ165)) (air N SZ165) 0 1 (by kernel_rfl) (λi_ hi_=>by omega) ?_;intro a k h;unfold WY at h;split at h;exact⟨[_],rfl,rfl,.trans (by kernel_rfl) h⟩;cases h
def aiH (N:Nat) (SZ157:lD) (SZ2:gu):Nat->Option Ann:=λb_=>none
theorem aaH (N:Nat) (SZ157:lD) (SZ2:gu) (hZ157:ac Pg 158 (zl SZ157)) (hZ2:ac Pg 139 (FZ2 SZ2)):ac Pg 164 (YA (adT N SZ157 SZ2)):=by
 refine au (cx:=⟨Pg,ah [(158,(zl SZ157)),(139,(FZ2 SZ2))],aj,N⟩) (aa hZ157 (aa hZ2 (ae _))) VQ (Xj (adT N SZ157 SZ2)) (aiH N SZ157 SZ2) 0 1 (by kernel_rfl) (λi_ hi_=>by omega) ?_;intro a k h;unfold Xj at h;split at h;exact⟨[_],rfl,rfl,.trans (by kernel_rfl) h⟩;cases h
def aiM (N:Nat) (SZ68:z_):Nat->Option Ann:=λb_=>none
theorem aaM (N:Nat) (SZ68:z_) (hZ68:ac Pg 164 (YA SZ68)):ac Pg 134 (NF (adX N SZ68)):=by
 refine au (cx:=⟨Pg,ah [(164,(YA SZ68))],aj,N⟩) (aa hZ68 (ae _)) VV (Xo (adX N SZ68)) (aiM N SZ68) 0 0 (by kernel_rfl) (λi_ hi_=>by omega) ?_;intro a k h;unfold Xo at h;split at h;exact⟨[],rfl,rfl,.trans (by kernel_rfl) h⟩;cases h
def aiq (N:Nat) (SZ91:jR) (SZ2:gu):Nat->Option Ann:=λb_=>none
theorem aan (N:Nat) (SZ91:jR) (SZ2:gu) (hZ91:ac Pg 140 (yA SZ91)) (hZ2:ac Pg 139 (FZ2 SZ2)):ac Pg 135 (Yp (adF N SZ91 SZ2)):=by
 refine au (cx:=⟨Pg,ah [(140,(yA SZ91)),(139,(FZ2 SZ2))],aj,N⟩) (aa hZ91 (aa hZ2 (ae _))) Vv (WX (adF N SZ91 SZ2)) (aiq N SZ91 SZ2) 0 2 (by kernel_rfl) (λi_ hi_=>by omega) ?_;intro a k h;unfold WX at h;split at h;exact⟨[_,_],rfl,rfl,.trans (by kernel_rfl) h⟩;cases h
def aiv (N:Nat):Nat->Option Ann:=λb_=>none
theorem aas (N:Nat):ac Pg 139 (Yt (adK N)):=by
 refine au (cx:=⟨Pg,ah [],aj,N⟩) (ae _) VD (W5 (adK N)) (aiv N) 0 2 (by kernel_rfl) (λi_ hi_=>by omega) ?_;intro a k h;unfold W5 at h;split at h;exact⟨[_,_],rfl,rfl,.trans (by kernel_rfl) h⟩;cases h
def bN:StSh:=⟨(.ptr 0 0::.ptr 1 0::.ptr 2 0::sqs 4 (.slw 3::sqs 14 (.int .i64::.int .i64::sqs 25 []))),[some (126,1,.cells [.bool,.nil]),some (126,1,.cells [.bool,.roi .u64]),some (126,1,.cells [.bool,.roi .u64]),some (22,1,.ints .u64)]⟩
def iv:StSh:=⟨(.ptr 0 0::sqs 6 (.slw 3::sqs 41 [])),[some (126,1,.cells [.bool,.nil]),some (126,1,.cells [.bool,.roi .u64]),some (126,1,.cells [.bool,.roi .u64]),some (22,1,.ints .u64)]⟩
section
variable (N:Nat) (SZ3:gY) (SZ52:zW)
noncomputable abbrev Ro:Cx:=⟨Pg,ah [(167,(FZ3 SZ3)),(139,(Yt SZ52))],aj,N⟩
def bL:List Atom->K->Bool:=λa_ κ=>match a_ with
 | [.int t22,.int t23,.bool z,.bool x,.ints x_1,.bool y,.ints y_1,.ints r]=>aH N (XR N SZ3 SZ52 t22 z x x_1 y y_1 (λr5=>κ.ext 0 (iv.build [.bool z,.bool x,.ints x_1,.bool y,.ints y_1,.ints r5]))) (t23,r)
 | _=>false
def QT:Nat->Option Ann:=λb_=>cond (b_==0) (some ⟨⟨[0,1,2,7,22,23],[],[]⟩,[(0,⟨[0,7],[],[]⟩)],some ⟨[6],[],[]⟩,some (aR [(bN,bL N SZ3 SZ52)])⟩) (none)
theorem ie:aV (Ro N SZ3 SZ52) 3 (QT N SZ3 SZ52) (lp Pg 137 0) (bN,bL N SZ3 SZ52):=by
 intro a κ h;simp only at h;unfold bL at h;split at h
 ·rename_i t22 t23 z x x_1 y y_1 r;exact .trans (aW (λ(v_:Int × LI)=>bN.build [.int t22,.int v_.1,.bool z,.bool x,.ints x_1,.bool y,.ints y_1,.ints v_.2]) (λv_ K_=>by obtain⟨t23,r⟩:=v_; kernel_rfl) N (t23,r)) h
 ·cases h
theorem j2:be (Ro N SZ3 SZ52) 3 (QT N SZ3 SZ52) (lp Pg 137 0):=
 aN [(bN,bL N SZ3 SZ52)] (by kernel_rfl) ⟨ie _ _ _,trivial⟩
theorem Z8 (hZ3:ac Pg 167 (FZ3 SZ3)) (hZ52:ac Pg 139 (Yt SZ52)):ac Pg 137 (Yk (adw N SZ3 SZ52)):=by
 refine au (cx:=(Ro N SZ3 SZ52)) (aa hZ3 (aa hZ52 (ae _))) Vf (WH (adw N SZ3 SZ52)) (QT N SZ3 SZ52) 1 3 (by kernel_rfl) (aM (j2 _ _ _)) ?_;intro a k h;unfold WH at h;split at h;exact⟨[_,_,_],rfl,rfl,.trans (by kernel_rfl) h⟩;cases h
end
def ae_ (N:Nat) (SZ24:fL):Nat->Option Ann:=λb_=>none
theorem TI (N:Nat) (SZ24:fL) (hZ24:ac Pg 170 (qu SZ24)):ac Pg 168 (JA (Qn N SZ24)):=by
 refine au (cx:=⟨Pg,ah [(170,(qu SZ24))],aj,N⟩) (aa hZ24 (ae _)) Nc (Ig (Qn N SZ24)) (ae_ N SZ24) 0 0 (by kernel_rfl) (λi_ hi_=>by omega) ?_;intro a k h;unfold Ig at h;split at h;exact⟨[],rfl,rfl,.trans (by kernel_rfl) h⟩;cases h
def ais (N:Nat) (SZ201:tV):Nat->Option Ann:=λb_=>none
theorem aap (N:Nat) (SZ201:tV) (hZ201:ac Pg 168 (JA SZ201)):ac Pg 138 (Yr (adH N SZ201)):=by
 refine au (cx:=⟨Pg,ah [(168,(JA SZ201))],aj,N⟩) (aa hZ201 (ae _)) VA (WZ (adH N SZ201)) (ais N SZ201) 0 1 (by kernel_rfl) (λi_ hi_=>by omega) ?_;intro a k h;unfold WZ at h;split at h;exact⟨[_],rfl,rfl,.trans (by kernel_rfl) h⟩;cases h
def bW:StSh:=⟨(.any::.any::.ptr 1 0::.any::.ptr 2 0::.ptr 3 0::.ptr 4 0::sqs 52 []),[some (126,1,.cells [.bool,.roi .u64]),some (84,1,.cells [.bool,.nil,.int .i64]),some (84,1,.cells [.bool,.slw 5,.int .i64]),some (126,1,.cells [.bool,.roi .u64]),some (126,1,.cells [.bool,.roi .u64]),some (87,1,.ints .u32)]⟩
def iQ:StSh:=⟨(.any::.any::.ptr 1 0::.any::.ptr 2 0::sqs 54 []),[some (126,1,.cells [.bool,.roi .u64]),some (84,1,.cells [.bool,.nil,.int .i64]),some (84,1,.cells [.bool,.slw 3,.int .i64]),some (87,1,.ints .u32)]⟩
section
variable (N:Nat) (SZ27:zL) (SZ5:mL) (SZ48:zU) (SZ73:qI) (SZ47:zT) (SZ31:zN) (SZ49:zV) (SZ20:qy)
noncomputable abbrev Rp:Cx:=⟨Pg,ah [(132,(Yh SZ27)),(94,(FZ5 SZ5)),(133,(Yq SZ48)),(134,(NF SZ73)),(135,(Yp SZ47)),(137,(Yk SZ31)),(138,(Yr SZ49)),(136,(Nr SZ20))],aj,N⟩
def bT:List Atom->K->Bool:=λa_ κ=>match a_ with
 | [.bool aou,.ints api,.bool aoG,.int aoH,.bool d_2,.int d_3,.bool aoy,.ints aoz,.bool m_2,.ints m_3,.ints b5]=>aH N (XS N SZ27 SZ5 SZ48 SZ73 SZ47 SZ31 SZ49 SZ20 aou api aoG aoH d_2 d_3 aoy aoz (λr6=>κ.ext 0 (iQ.build [.bool aou,.ints api,.bool aoG,.int aoH,.bool d_2,.int d_3,.ints r6]))) (m_2,m_3,b5)
 | _=>false
def QQ:Nat->Option Ann:=λb_=>cond (b_==0) (some ⟨⟨[2,4,5,6],[(4,some 1,87)],[]⟩,[(0,⟨[2,4],[],[]⟩)],some ⟨[2,3],[],[]⟩,some (aR [(bW,bT N SZ27 SZ5 SZ48 SZ73 SZ47 SZ31 SZ49 SZ20)])⟩) (none)
theorem iJ:aV (Rp N SZ27 SZ5 SZ48 SZ73 SZ47 SZ31 SZ49 SZ20) 1 (QQ N SZ27 SZ5 SZ48 SZ73 SZ47 SZ31 SZ49 SZ20) (lp Pg 88 0) (bW,bT N SZ27 SZ5 SZ48 SZ73 SZ47 SZ31 SZ49 SZ20):=by
 intro a κ h;simp only at h;unfold bT at h;split at h
 ·rename_i aou api aoG aoH d_2 d_3 aoy aoz m_2 m_3 b5;exact .trans (aW (λ(v_:Bool × LI × LI)=>bW.build [.bool aou,.ints api,.bool aoG,.int aoH,.bool d_2,.int d_3,.bool aoy,.ints aoz,.bool v_.1,.ints v_.2.1,.ints v_.2.2]) (λv_ K_=>by obtain⟨m_2,m_3,b5⟩:=v_; kernel_rfl) N (m_2,m_3,b5)) h
 ·cases h
theorem ki:be (Rp N SZ27 SZ5 SZ48 SZ73 SZ47 SZ31 SZ49 SZ20) 1 (QQ N SZ27 SZ5 SZ48 SZ73 SZ47 SZ31 SZ49 SZ20) (lp Pg 88 0):=
 aN [(bW,bT N SZ27 SZ5 SZ48 SZ73 SZ47 SZ31 SZ49 SZ20)] (by kernel_rfl) ⟨iJ _ _ _ _ _ _ _ _ _,trivial⟩
theorem ZU (hZ27:ac Pg 132 (Yh SZ27)) (hZ5:ac Pg 94 (FZ5 SZ5)) (hZ48:ac Pg 133 (Yq SZ48)) (hZ73:ac Pg 134 (NF SZ73)) (hZ47:ac Pg 135 (Yp SZ47)) (hZ31:ac Pg 137 (Yk SZ31)) (hZ49:ac Pg 138 (Yr SZ49)) (hZ20:ac Pg 136 (Nr SZ20)):ac Pg 88 (Nm (ado N SZ27 SZ5 SZ48 SZ73 SZ47 SZ31 SZ49 SZ20)):=by
 refine am (cx:=(Rp N SZ27 SZ5 SZ48 SZ73 SZ47 SZ31 SZ49 SZ20)) (aa hZ27 (aa hZ5 (aa hZ48 (aa hZ73 (aa hZ47 (aa hZ31 (aa hZ49 (aa hZ20 (ae _))))))))) U5 (Wr (ado N SZ27 SZ5 SZ48 SZ73 SZ47 SZ31 SZ49 SZ20)) (QQ N SZ27 SZ5 SZ48 SZ73 SZ47 SZ31 SZ49 SZ20) 1 1 (by kernel_rfl) (aM (ki _ _ _ _ _ _ _ _ _)) ?_;intro a k h;unfold Wr at h;split at h;exact⟨[_],rfl,rfl,.trans (by kernel_rfl) h⟩;cases h
def fG:StSh:=⟨(.any::.rof::.any::.any::.ptr 0 0::.any::.ptr 1 0::sqs 19 (.rof::.int .i64::.int .i64::sqs 19 [])),[some (84,1,.cells [.bool,.nil,.int .i64]),some (128,1,.cells [.ptr 2 0,.int .i64]),some (126,1,.cells [.bool,.roi .u64])]⟩
def r9:StSh:=⟨(sqs 4 (.ptr 0 0::.any::.ptr 1 0::sqs 41 [])),[some (84,1,.cells [.bool,.nil,.int .i64]),some (128,1,.cells [.ptr 2 0,.int .i64]),some (126,1,.cells [.bool,.roi .u64])]⟩
end
section
variable (N:Nat) (SZ109:li) (SZ184:tH) (SZ22:zJ) (SZ25:zK) (SZ6:vF) (SZ17:qw)
noncomputable abbrev Rq:Cx:=⟨Pg,ah [(84,(y7 SZ109)),(86,(Jn SZ184)),(87,(Yf SZ22)),(85,(xO (Yg SZ25) (FZ6 SZ6) Gp)),(88,(Nm SZ17))],aj,N⟩
def fk:List Atom->K->Bool:=λa_ κ=>match a_ with
 | [.fls b_2,.fls an6,.int aoc,.int anR,.bool aoI,.int aoJ,.int s_1,.bool an9,.ints an_]=>aH N (pn N SZ109 SZ184 SZ22 SZ25 SZ6 SZ17 b_2 an6 aoc aoI aoJ (λr2 r3 r4=>κ.ext 0 (r9.build [.bool aoI,.int aoJ,.int r2,.bool r3,.ints r4]))) (anR,s_1,an9,an_)
 | _=>false
def EA:Nat->Option Ann:=λb_=>cond (b_==0) (some ⟨⟨[1,4,6,26,27,28],[],[(2,1,some .u64)]⟩,[(0,⟨[4,6],[],[]⟩)],some ⟨[4,5],[],[]⟩,some (aR [(fG,fk N SZ109 SZ184 SZ22 SZ25 SZ6 SZ17)])⟩) (none)
theorem rk:aV (Rq N SZ109 SZ184 SZ22 SZ25 SZ6 SZ17) 0 (EA N SZ109 SZ184 SZ22 SZ25 SZ6 SZ17) (lp Pg 44 0) (fG,fk N SZ109 SZ184 SZ22 SZ25 SZ6 SZ17):=by
 intro a κ h;simp only at h;unfold fk at h;split at h
 ·rename_i b_2 an6 aoc anR aoI aoJ s_1 an9 an_;exact .trans (aW (λ(v_:Int × Int × Bool × LI)=>fG.build [.fls b_2,.fls an6,.int aoc,.int v_.1,.bool aoI,.int aoJ,.int v_.2.1,.bool v_.2.2.1,.ints v_.2.2.2]) (λv_ K_=>by obtain⟨anR,s_1,an9,an_⟩:=v_; kernel_rfl) N (anR,s_1,an9,an_)) h
 ·cases h
theorem yN:be (Rq N SZ109 SZ184 SZ22 SZ25 SZ6 SZ17) 0 (EA N SZ109 SZ184 SZ22 SZ25 SZ6 SZ17) (lp Pg 44 0):=
 aN [(fG,fk N SZ109 SZ184 SZ22 SZ25 SZ6 SZ17)] (by kernel_rfl) ⟨rk _ _ _ _ _ _ _,trivial⟩
theorem R8 (hZ109:ac Pg 84 (y7 SZ109)) (hZ184:ac Pg 86 (Jn SZ184)) (hZ22:ac Pg 87 (Yf SZ22)) (hZ25:ac Pg 85 (Yg SZ25)) (hZ6:ac Pg 85 (FZ6 SZ6)) (hZ17:ac Pg 88 (Nm SZ17)):ac Pg 44 (Iu (PJ N SZ109 SZ184 SZ22 SZ25 SZ6 SZ17)):=by
 refine am (cx:=(Rq N SZ109 SZ184 SZ22 SZ25 SZ6 SZ17)) (aa hZ109 (aa hZ184 (aa hZ22 (aa (jo hZ25 hZ6) (aa hZ17 (ae _)))))) LH (GF (PJ N SZ109 SZ184 SZ22 SZ25 SZ6 SZ17)) (EA N SZ109 SZ184 SZ22 SZ25 SZ6 SZ17) 1 0 (by kernel_rfl) (aM (yN _ _ _ _ _ _ _)) ?_;intro a k h;unfold GF at h;split at h;exact⟨[],rfl,rfl,.trans (by kernel_rfl) h⟩;cases h
end
def aeI (N:Nat):Nat->Option Ann:=λb_=>none
theorem S1 (N:Nat):ac Pg 92 (zk (P4 N)):=by
 refine am (cx:=⟨Pg,ah [],aj,N⟩) (ae _) My (Hx (P4 N)) (aeI N) 0 0 (by kernel_rfl) (λi_ hi_=>by omega) ?_;intro a k h;unfold Hx at h;split at h;exact⟨[],rfl,rfl,.trans (by kernel_rfl) h⟩;cases h
def aix (N:Nat) (SZ131:iU) (SZ2:gu):Nat->Option Ann:=λb_=>none
theorem aau (N:Nat) (SZ131:iU) (SZ2:gu) (hZ131:ac Pg 169 (uT SZ131)) (hZ2:ac Pg 139 (FZ2 SZ2)):ac Pg 141 (Yv (adM N SZ131 SZ2)):=by
 refine au (cx:=⟨Pg,ah [(169,(uT SZ131)),(139,(FZ2 SZ2))],aj,N⟩) (aa hZ131 (aa hZ2 (ae _))) Gs (W7 (adM N SZ131 SZ2)) (aix N SZ131 SZ2) 0 1 (by kernel_rfl) (λi_ hi_=>by omega) ?_;intro a k h;unfold W7 at h;split at h;exact⟨[_],rfl,rfl,.trans (by kernel_rfl) h⟩;cases h
def aiw (N:Nat):Nat->Option Ann:=λb_=>none
theorem aat (N:Nat):ac Pg 139 (Yu (adL N)):=by
 refine au (cx:=⟨Pg,ah [],aj,N⟩) (ae _) VE (W6 (adL N)) (aiw N) 0 2 (by kernel_rfl) (λi_ hi_=>by omega) ?_;intro a k h;unfold W6 at h;split at h;exact⟨[_,_],rfl,rfl,.trans (by kernel_rfl) h⟩;cases h
def cf:StSh:=⟨(.ptr 0 0::.ptr 0 0::.ptr 1 0::sqs 4 (.slw 2::sqs 14 (.int .i64::.int .i64::sqs 23 []))),[some (126,1,.cells [.bool,.roi .u64]),some (126,1,.cells [.bool,.roi .u64]),some (22,1,.ints .u64)]⟩
def i9:StSh:=⟨(.ptr 0 0::sqs 6 (.slw 2::sqs 39 [])),[some (126,1,.cells [.bool,.roi .u64]),some (126,1,.cells [.bool,.roi .u64]),some (22,1,.ints .u64)]⟩
section
variable (N:Nat) (SZ24:fL) (SZ3:gY) (SZ53:zX)
noncomputable abbrev Rr:Cx:=⟨Pg,ah [(170,(qu SZ24)),(167,(FZ3 SZ3)),(139,(Yu SZ53))],aj,N⟩
def bZ:List Atom->K->Bool:=λa_ κ=>match a_ with
 | [.int t22,.int t23,.bool z,.ints z_1,.bool y,.ints y_1,.ints r]=>aH N (XT N SZ24 SZ3 SZ53 t22 z z_1 y y_1 (λr4=>κ.ext 0 (i9.build [.bool z,.ints z_1,.bool y,.ints y_1,.ints r4]))) (t23,r)
 | _=>false
def QU:Nat->Option Ann:=λb_=>cond (b_==0) (some ⟨⟨[0,1,2,7,22,23],[],[]⟩,[(0,⟨[0,7],[],[]⟩)],some ⟨[6],[],[]⟩,some (aR [(cf,bZ N SZ24 SZ3 SZ53)])⟩) (none)
theorem iX:aV (Rr N SZ24 SZ3 SZ53) 2 (QU N SZ24 SZ3 SZ53) (lp Pg 142 0) (cf,bZ N SZ24 SZ3 SZ53):=by
 intro a κ h;simp only at h;unfold bZ at h;split at h
 ·rename_i t22 t23 z z_1 y y_1 r;exact .trans (aW (λ(v_:Int × LI)=>cf.build [.int t22,.int v_.1,.bool z,.ints z_1,.bool y,.ints y_1,.ints v_.2]) (λv_ K_=>by obtain⟨t23,r⟩:=v_; kernel_rfl) N (t23,r)) h
 ·cases h
theorem kB:be (Rr N SZ24 SZ3 SZ53) 2 (QU N SZ24 SZ3 SZ53) (lp Pg 142 0):=
 aN [(cf,bZ N SZ24 SZ3 SZ53)] (by kernel_rfl) ⟨iX _ _ _ _,trivial⟩
theorem aag (hZ24:ac Pg 170 (qu SZ24)) (hZ3:ac Pg 167 (FZ3 SZ3)) (hZ53:ac Pg 139 (Yu SZ53)):ac Pg 142 (Yn (adB N SZ24 SZ3 SZ53)):=by
 refine au (cx:=(Rr N SZ24 SZ3 SZ53)) (aa hZ24 (aa hZ3 (aa hZ53 (ae _)))) Vo (WQ (adB N SZ24 SZ3 SZ53)) (QU N SZ24 SZ3 SZ53) 1 2 (by kernel_rfl) (aM (kB _ _ _ _)) ?_;intro a k h;unfold WQ at h;split at h;exact⟨[_,_],rfl,rfl,.trans (by kernel_rfl) h⟩;cases h
end
def aiy (N:Nat) (SZ131:iU) (SZ42:mA):Nat->Option Ann:=λb_=>none
theorem aav (N:Nat) (SZ131:iU) (SZ42:mA) (hZ131:ac Pg 169 (uT SZ131)) (hZ42:ac Pg 139 (Ch SZ42)):ac Pg 141 (Yw (adN N SZ131 SZ42)):=by
 refine au (cx:=⟨Pg,ah [(169,(uT SZ131)),(139,(Ch SZ42))],aj,N⟩) (aa hZ131 (aa hZ42 (ae _))) VF (W8 (adN N SZ131 SZ42)) (aiy N SZ131 SZ42) 0 1 (by kernel_rfl) (λi_ hi_=>by omega) ?_;intro a k h;unfold W8 at h;split at h;exact⟨[_],rfl,rfl,.trans (by kernel_rfl) h⟩;cases h
def eO:StSh:=⟨(.any::.ptr 0 0::.ptr 1 0::.ptr 2 0::.int .i64::sqs 31 []),[some (84,1,.cells [.bool,.roi .u32,.int .i64]),some (128,1,.cells [.val,.int .i64]),some (126,1,.cells [.bool,.roi .u64])]⟩
def qe:StSh:=⟨(.any::.ptr 0 0::.ptr 1 0::.ptr 2 0::sqs 32 []),[some (84,1,.cells [.bool,.roi .u32,.int .i64]),some (128,1,.cells [.val,.int .i64]),some (126,1,.cells [.bool,.roi .u64])]⟩
section
variable (N:Nat) (SZ54:zY) (SZ73:qI) (SZ40:zQ) (SZ55:zZ) (SZ34:qA)
noncomputable abbrev Rs:Cx:=⟨Pg,ah [(141,(xO (Yv SZ54) (Yw SZ55) Gs)),(134,(NF SZ73)),(142,(Yn SZ40)),(91,(Nt SZ34))],aj,N⟩
def eF:List Atom->K->Bool:=λa_ κ=>match a_ with
 | [.int i_1,.bool d_3,.ints d_4,.int d_5,.val aoG,.int aoH,.bool n_1,.ints n_2]=>aH N (nL N SZ54 SZ73 SZ40 SZ55 SZ34 d_3 d_4 d_5 aoG aoH (λr5 r6=>κ.ext 0 (qe.build [.bool d_3,.ints d_4,.int d_5,.val aoG,.int aoH,.bool r5,.ints r6]))) (i_1,n_1,n_2)
 | _=>false
def EG:Nat->Option Ann:=λb_=>cond (b_==0) (some ⟨⟨[1,2,3,4],[],[(2,1,some .u64)]⟩,[(0,⟨[1,2,3],[],[]⟩)],some ⟨[2],[],[]⟩,some (aR [(eO,eF N SZ54 SZ73 SZ40 SZ55 SZ34)])⟩) (none)
theorem pK:aV (Rs N SZ54 SZ73 SZ40 SZ55 SZ34) 0 (EG N SZ54 SZ73 SZ40 SZ55 SZ34) (lp Pg 93 0) (eO,eF N SZ54 SZ73 SZ40 SZ55 SZ34):=by
 intro a κ h;simp only at h;unfold eF at h;split at h
 ·rename_i i_1 d_3 d_4 d_5 aoG aoH n_1 n_2;exact .trans (aW (λ(v_:Int × Bool × LI)=>eO.build [.int v_.1,.bool d_3,.ints d_4,.int d_5,.val aoG,.int aoH,.bool v_.2.1,.ints v_.2.2]) (λv_ K_=>by obtain⟨i_1,n_1,n_2⟩:=v_; kernel_rfl) N (i_1,n_1,n_2)) h
 ·cases h
theorem xn:be (Rs N SZ54 SZ73 SZ40 SZ55 SZ34) 0 (EG N SZ54 SZ73 SZ40 SZ55 SZ34) (lp Pg 93 0):=
 aN [(eO,eF N SZ54 SZ73 SZ40 SZ55 SZ34)] (by kernel_rfl) ⟨pK _ _ _ _ _ _,trivial⟩
theorem SK (hZ54:ac Pg 141 (Yv SZ54)) (hZ73:ac Pg 134 (NF SZ73)) (hZ40:ac Pg 142 (Yn SZ40)) (hZ55:ac Pg 141 (Yw SZ55)) (hZ34:ac Pg 91 (Nt SZ34)):ac Pg 93 (zf (PW N SZ54 SZ73 SZ40 SZ55 SZ34)):=by
 refine am (cx:=(Rs N SZ54 SZ73 SZ40 SZ55 SZ34)) (aa (jo hZ54 hZ55) (aa hZ73 (aa hZ40 (aa hZ34 (ae _))))) Ml (Hh (PW N SZ54 SZ73 SZ40 SZ55 SZ34)) (EG N SZ54 SZ73 SZ40 SZ55 SZ34) 1 0 (by kernel_rfl) (aM (xn _ _ _ _ _ _)) ?_;intro a k h;unfold Hh at h;split at h;exact⟨[],rfl,rfl,.trans (by kernel_rfl) h⟩;cases h
end
def aiu (N:Nat) (SZ91:jR) (SZ2:gu):Nat->Option Ann:=λb_=>none
theorem aar (N:Nat) (SZ91:jR) (SZ2:gu) (hZ91:ac Pg 140 (yA SZ91)) (hZ2:ac Pg 139 (FZ2 SZ2)):ac Pg 91 (Nz (adJ N SZ91 SZ2)):=by
 refine au (cx:=⟨Pg,ah [(140,(yA SZ91)),(139,(FZ2 SZ2))],aj,N⟩) (aa hZ91 (aa hZ2 (ae _))) VC (W4 (adJ N SZ91 SZ2)) (aiu N SZ91 SZ2) 0 2 (by kernel_rfl) (λi_ hi_=>by omega) ?_;intro a k h;unfold W4 at h;split at h;exact⟨[_,_],rfl,rfl,.trans (by kernel_rfl) h⟩;cases h
def aiW (N:Nat) (SZ51:qE) (SZ6:vF):Nat->Option Ann:=λb_=>none
theorem aaZ (N:Nat) (SZ51:qE) (SZ6:vF) (hZ51:ac Pg 91 (Nz SZ51)) (hZ6:ac Pg 85 (FZ6 SZ6)):ac Pg 90 (YG (ad0 N SZ51 SZ6)):=by
 refine am (cx:=⟨Pg,ah [(91,(Nz SZ51)),(85,(FZ6 SZ6))],aj,N⟩) (aa hZ51 (aa hZ6 (ae _))) V7 (XB (ad0 N SZ51 SZ6)) (aiW N SZ51 SZ6) 0 2 (by kernel_rfl) (λi_ hi_=>by omega) ?_;intro a k h;unfold XB at h;split at h;exact⟨[_,_],rfl,rfl,.trans (by kernel_rfl) h⟩;cases h
def aeD (N:Nat) (SZ156:lC) (SZ140:lw) (SZ87:Ad) (SZ17:qw):Nat->Option Ann:=λb_=>none
theorem SU (N:Nat) (SZ156:lC) (SZ140:lw) (SZ87:Ad) (SZ17:qw) (hZ156:ac Pg 92 (zk SZ156)) (hZ140:ac Pg 93 (zf SZ140)) (hZ87:ac Pg 90 (YG SZ87)) (hZ17:ac Pg 88 (Nm SZ17)):ac Pg 89 (IY (PY N SZ156 SZ140 SZ87 SZ17)):=by
 refine am (cx:=⟨Pg,ah [(92,(zk SZ156)),(93,(zf SZ140)),(90,(YG SZ87)),(88,(Nm SZ17))],aj,N⟩) (aa hZ156 (aa hZ140 (aa hZ87 (aa hZ17 (ae _))))) Ms (Hq (PY N SZ156 SZ140 SZ87 SZ17)) (aeD N SZ156 SZ140 SZ87 SZ17) 0 0 (by kernel_rfl) (λi_ hi_=>by omega) ?_;intro a k h;unfold Hq at h;split at h;exact⟨[],rfl,rfl,.trans (by kernel_rfl) h⟩;cases h
def aed (N:Nat) (SZ149:sY):Nat->Option Ann:=λb_=>none
theorem R_ (N:Nat) (SZ149:sY) (hZ149:ac Pg 89 (IY SZ149)):ac Pg 45 (Iw (PL N SZ149)):=by
 refine am (cx:=⟨Pg,ah [(89,(IY SZ149))],aj,N⟩) (aa hZ149 (ae _)) LM (GH (PL N SZ149)) (aed N SZ149) 0 0 (by kernel_rfl) (λi_ hi_=>by omega) ?_;intro a k h;unfold GH at h;split at h;exact⟨[],rfl,rfl,.trans (by kernel_rfl) h⟩;cases h
def ait (N:Nat) (SZ156:lC) (SZ140:lw) (SZ51:qE) (SZ6:vF) (SZ5:mL):Nat->Option Ann:=λb_=>none
theorem aaq (N:Nat) (SZ156:lC) (SZ140:lw) (SZ51:qE) (SZ6:vF) (SZ5:mL) (hZ156:ac Pg 92 (zk SZ156)) (hZ140:ac Pg 93 (zf SZ140)) (hZ51:ac Pg 91 (Nz SZ51)) (hZ6:ac Pg 85 (FZ6 SZ6)) (hZ5:ac Pg 94 (FZ5 SZ5)):ac Pg 46 (Ys (adI N SZ156 SZ140 SZ51 SZ6 SZ5)):=by
 refine am (cx:=⟨Pg,ah [(92,(zk SZ156)),(93,(zf SZ140)),(91,(Nz SZ51)),(85,(FZ6 SZ6)),(94,(FZ5 SZ5))],aj,N⟩) (aa hZ156 (aa hZ140 (aa hZ51 (aa hZ6 (aa hZ5 (ae _)))))) VB (W3 (adI N SZ156 SZ140 SZ51 SZ6 SZ5)) (ait N SZ156 SZ140 SZ51 SZ6 SZ5) 0 0 (by kernel_rfl) (λi_ hi_=>by omega) ?_;intro a k h;unfold W3 at h;split at h;exact⟨[],rfl,rfl,.trans (by kernel_rfl) h⟩;cases h
section
variable (N:Nat) (SZ18:gD) (SZ37:hI) (SZ102:kt) (SZ104:ku) (SZ50:oU)
noncomputable abbrev mE:Cx:=⟨Pg,ah [(42,(yx SZ18)),(43,(si SZ37)),(44,(Iu SZ102)),(45,(Iw SZ104)),(46,(Ys SZ50))],aj,N⟩
def iV (N:Nat) (SZ18:gD) (SZ37:hI) (SZ102:kt) (SZ104:ku) (SZ50:oU):Nat->Option Ann:=λb_=>none
def T5 (d_:List V) (u_:List (Option Blk)) (q_0 q_1 q_2 q_3:Fl) (b7:LI) (ao4:Bool) (aoP:Int):St:=⟨(dqs d_ 0 7 (.ptr 8 0::dqs d_ 7 39 [])),[(u_.getD 0 none),(u_.getD 1 none),(u_.getD 2 none),(u_.getD 3 none),(u_.getD 4 none),(u_.getD 5 none),(u_.getD 6 none),some ⟨87,1,.ints .u32 b7⟩,some ⟨84,1,.cells [.bool ao4,.slw 7,vwi aoP]⟩]⟩
def T4 (d_:List V) (u_:List (Option Blk)) (q_0 q_1 q_2 q_3:Fl) (ao3:Bool) (aoO:Int):St:=⟨(dqs d_ 0 7 (.ptr 7 0::dqs d_ 7 39 [])),[(u_.getD 0 none),(u_.getD 1 none),(u_.getD 2 none),(u_.getD 3 none),(u_.getD 4 none),(u_.getD 5 none),(u_.getD 6 none),some ⟨84,1,.cells [.bool ao3,.nil,vwi aoO]⟩]⟩
def FR (d_:List V) (u_:List (Option Blk)) (q_0 q_1 q_2 q_3:Fl) (b3:LI) (n_2:Bool) (n_3:Int):St:=⟨(dqs d_ 0 4 (.ptr 4 0::dqs d_ 4 42 [])),[(u_.getD 0 none),(u_.getD 1 none),(u_.getD 2 none),some ⟨87,1,.ints .u32 b3⟩,some ⟨84,1,.cells [.bool n_2,.slw 3,vwi n_3]⟩]⟩
def T3 (d_:List V) (u_:List (Option Blk)) (q_0 q_1 q_2 q_3:Fl) (b6:LI) (ao2:Bool) (aoN:Int):St:=⟨(dqs d_ 0 7 (.ptr 7 0::dqs d_ 7 39 [])),[(u_.getD 0 none),(u_.getD 1 none),(u_.getD 2 none),(u_.getD 3 none),(u_.getD 4 none),(u_.getD 5 none),some ⟨87,1,.ints .u32 b6⟩,some ⟨84,1,.cells [.bool ao2,.slw 6,vwi aoN]⟩]⟩
def T2 (d_:List V) (u_:List (Option Blk)) (q_0 q_1 q_2 q_3:Fl) (off:Bool) (aoM:Int):St:=⟨(dqs d_ 0 7 (.ptr 6 0::dqs d_ 7 39 [])),[(u_.getD 0 none),(u_.getD 1 none),(u_.getD 2 none),(u_.getD 3 none),(u_.getD 4 none),(u_.getD 5 none),some ⟨84,1,.cells [.bool off,.nil,vwi aoM]⟩]⟩
def FQ (d_:List V) (u_:List (Option Blk)) (q_0 q_1 q_2 q_3:Fl) (n:Bool) (n_1:Int):St:=⟨(dqs d_ 0 4 (.ptr 3 0::dqs d_ 4 42 [])),[(u_.getD 0 none),(u_.getD 1 none),(u_.getD 2 none),some ⟨84,1,.cells [.bool n,.nil,vwi n_1]⟩]⟩
theorem agL (d_:List V) (u_:List (Option Blk)) (q_0 q_1 q_2 q_3:Fl) (b7:LI) (ao4:Bool) (aoP:Int) (c_:KV):aB (mE N SZ18 SZ37 SZ102 SZ104 SZ50) 0 (iV N SZ18 SZ37 SZ102 SZ104 SZ50) ((cds Pg 11).drop 11) 0 (T5 d_ u_ q_0 q_1 q_2 q_3 b7 ao4 aoP) (bR Pg 11 0 c_)=ab8 N SZ18 SZ37 SZ102 SZ104 SZ50 q_0 q_1 q_2 q_3 b7 ao4 aoP (λr0=>c_ (.bool r0) []):=by kernel_rfl
theorem agK (d_:List V) (u_:List (Option Blk)) (q_0 q_1 q_2 q_3:Fl) (ao3:Bool) (aoO:Int) (c_:KV):aB (mE N SZ18 SZ37 SZ102 SZ104 SZ50) 0 (iV N SZ18 SZ37 SZ102 SZ104 SZ50) ((cds Pg 11).drop 11) 0 (T4 d_ u_ q_0 q_1 q_2 q_3 ao3 aoO) (bR Pg 11 0 c_)=ab7 N SZ18 SZ37 SZ102 SZ104 SZ50 q_0 q_1 q_2 q_3 ao3 aoO (λr0=>c_ (.bool r0) []):=by kernel_rfl
theorem af7 (d_:List V) (u_:List (Option Blk)) (q_0 q_1 q_2 q_3:Fl) (b3:LI) (n_2:Bool) (n_3:Int) (c_:KV) (κn_:St->Bool):aB (mE N SZ18 SZ37 SZ102 SZ104 SZ50) 0 (iV N SZ18 SZ37 SZ102 SZ104 SZ50) (sg Pg 11 7 4) 0 (FR d_ u_ q_0 q_1 q_2 q_3 b3 n_2 n_3) { (bR Pg 11 0 c_)with nrm:=κn_ } = (SZ104 n_2 b3 n_3 false [1] 0 (λanz anX n13=>cond (n13 != 0) (c_ (.bool false) []) (κn_ (T4 (dqs d_ 0 4 (.ptr 4 0::vwi n13::.ptr 6 0::dqs d_ 7 15 (.slw 5::.agg [.bool false,.slw 5,vwi 0]::.tup [.agg [.bool anz,.nil,vwi anX],vwi n13]::.agg [.bool n_2,.slw 3,vwi n_3]::.agg [.bool false,.slw 5,vwi 0]::.tup [.agg [.bool anz,.nil,vwi anX],vwi n13]::.agg [.bool anz,.nil,vwi anX]::vwi n13::vwi n13::.bool false::dqs d_ 32 14 []))) [(u_.getD 0 none),(u_.getD 1 none),(u_.getD 2 none),some ⟨87,1,.ints .u32 b3⟩,some ⟨84,1,.cells [.bool n_2,.slw 3,vwi n_3]⟩,some ⟨87,1,.ints .u32 [1]⟩,some ⟨84,1,.cells [.bool false,.slw 5,vwi 0]⟩] q_0 q_1 q_2 q_3 anz anX))) (λanG n14 n15 am6=>cond (n15 != 0) (c_ (.bool false) []) (κn_ (T5 (dqs d_ 0 4 (.ptr 4 0::vwi n15::.ptr 6 0::dqs d_ 7 15 (.slw 5::.agg [.bool false,.slw 5,vwi 0]::.tup [.agg [.bool anG,.slw 7,vwi n14],vwi n15]::.agg [.bool n_2,.slw 3,vwi n_3]::.agg [.bool false,.slw 5,vwi 0]::.tup [.agg [.bool anG,.slw 7,vwi n14],vwi n15]::.agg [.bool anG,.slw 7,vwi n14]::vwi n15::vwi n15::.bool false::dqs d_ 32 14 []))) [(u_.getD 0 none),(u_.getD 1 none),(u_.getD 2 none),some ⟨87,1,.ints .u32 b3⟩,some ⟨84,1,.cells [.bool n_2,.slw 3,vwi n_3]⟩,some ⟨87,1,.ints .u32 [1]⟩,some ⟨84,1,.cells [.bool false,.slw 5,vwi 0]⟩] q_0 q_1 q_2 q_3 am6 anG n14)))):=by kernel_rfl
theorem agu (d_:List V) (u_:List (Option Blk)) (q_0 q_1 q_2 q_3:Fl) (b3:LI) (n_2:Bool) (n_3:Int) (c_:KV):aB (mE N SZ18 SZ37 SZ102 SZ104 SZ50) 0 (iV N SZ18 SZ37 SZ102 SZ104 SZ50) ((cds Pg 11).drop 7) 0 (FR d_ u_ q_0 q_1 q_2 q_3 b3 n_2 n_3) (bR Pg 11 0 c_)=ab3 N SZ18 SZ37 SZ102 SZ104 SZ50 q_0 q_1 q_2 q_3 b3 n_2 n_3 (λr0=>c_ (.bool r0) []):=by rw[aP 7 4 11 rfl];refine(af7 N SZ18 SZ37 SZ102 SZ104 SZ50 d_ u_ q_0 q_1 q_2 q_3 b3 n_2 n_3 c_ _).trans ?_;simp only[agK,agL];kernel_rfl
theorem agJ (d_:List V) (u_:List (Option Blk)) (q_0 q_1 q_2 q_3:Fl) (b6:LI) (ao2:Bool) (aoN:Int) (c_:KV):aB (mE N SZ18 SZ37 SZ102 SZ104 SZ50) 0 (iV N SZ18 SZ37 SZ102 SZ104 SZ50) ((cds Pg 11).drop 11) 0 (T3 d_ u_ q_0 q_1 q_2 q_3 b6 ao2 aoN) (bR Pg 11 0 c_)=ab6 N SZ18 SZ37 SZ102 SZ104 SZ50 q_0 q_1 q_2 q_3 b6 ao2 aoN (λr0=>c_ (.bool r0) []):=by kernel_rfl
theorem agI (d_:List V) (u_:List (Option Blk)) (q_0 q_1 q_2 q_3:Fl) (off:Bool) (aoM:Int) (c_:KV):aB (mE N SZ18 SZ37 SZ102 SZ104 SZ50) 0 (iV N SZ18 SZ37 SZ102 SZ104 SZ50) ((cds Pg 11).drop 11) 0 (T2 d_ u_ q_0 q_1 q_2 q_3 off aoM) (bR Pg 11 0 c_)=ab5 N SZ18 SZ37 SZ102 SZ104 SZ50 q_0 q_1 q_2 q_3 off aoM (λr0=>c_ (.bool r0) []):=by kernel_rfl
theorem af6 (d_:List V) (u_:List (Option Blk)) (q_0 q_1 q_2 q_3:Fl) (n:Bool) (n_1:Int) (c_:KV) (κn_:St->Bool):aB (mE N SZ18 SZ37 SZ102 SZ104 SZ50) 0 (iV N SZ18 SZ37 SZ102 SZ104 SZ50) (sg Pg 11 7 4) 0 (FQ d_ u_ q_0 q_1 q_2 q_3 n n_1) { (bR Pg 11 0 c_)with nrm:=κn_ } = (SZ104 n [] n_1 false [1] 0 (λanq anw n5=>cond (n5 != 0) (c_ (.bool false) []) (κn_ (T2 (dqs d_ 0 4 (.ptr 3 0::vwi n5::.ptr 5 0::dqs d_ 7 15 (.slw 4::.agg [.bool false,.slw 4,vwi 0]::.tup [.agg [.bool anq,.nil,vwi anw],vwi n5]::.agg [.bool n,.nil,vwi n_1]::.agg [.bool false,.slw 4,vwi 0]::.tup [.agg [.bool anq,.nil,vwi anw],vwi n5]::.agg [.bool anq,.nil,vwi anw]::vwi n5::vwi n5::.bool false::dqs d_ 32 14 []))) [(u_.getD 0 none),(u_.getD 1 none),(u_.getD 2 none),some ⟨84,1,.cells [.bool n,.nil,vwi n_1]⟩,some ⟨87,1,.ints .u32 [1]⟩,some ⟨84,1,.cells [.bool false,.slw 4,vwi 0]⟩] q_0 q_1 q_2 q_3 anq anw))) (λanu n6 n7 am2=>cond (n7 != 0) (c_ (.bool false) []) (κn_ (T3 (dqs d_ 0 4 (.ptr 3 0::vwi n7::.ptr 5 0::dqs d_ 7 15 (.slw 4::.agg [.bool false,.slw 4,vwi 0]::.tup [.agg [.bool anu,.slw 6,vwi n6],vwi n7]::.agg [.bool n,.nil,vwi n_1]::.agg [.bool false,.slw 4,vwi 0]::.tup [.agg [.bool anu,.slw 6,vwi n6],vwi n7]::.agg [.bool anu,.slw 6,vwi n6]::vwi n7::vwi n7::.bool false::dqs d_ 32 14 []))) [(u_.getD 0 none),(u_.getD 1 none),(u_.getD 2 none),some ⟨84,1,.cells [.bool n,.nil,vwi n_1]⟩,some ⟨87,1,.ints .u32 [1]⟩,some ⟨84,1,.cells [.bool false,.slw 4,vwi 0]⟩] q_0 q_1 q_2 q_3 am2 anu n6)))):=by kernel_rfl
theorem agt (d_:List V) (u_:List (Option Blk)) (q_0 q_1 q_2 q_3:Fl) (n:Bool) (n_1:Int) (c_:KV):aB (mE N SZ18 SZ37 SZ102 SZ104 SZ50) 0 (iV N SZ18 SZ37 SZ102 SZ104 SZ50) ((cds Pg 11).drop 7) 0 (FQ d_ u_ q_0 q_1 q_2 q_3 n n_1) (bR Pg 11 0 c_)=ab2 N SZ18 SZ37 SZ102 SZ104 SZ50 q_0 q_1 q_2 q_3 n n_1 (λr0=>c_ (.bool r0) []):=by rw[aP 7 4 11 rfl];refine(af6 N SZ18 SZ37 SZ102 SZ104 SZ50 d_ u_ q_0 q_1 q_2 q_3 n n_1 c_ _).trans ?_;simp only[agI,agJ];kernel_rfl
theorem xg (q_0 q_1 q_2 q_3:Fl) (c_:KV) (κn_:St->Bool):aB (mE N SZ18 SZ37 SZ102 SZ104 SZ50) 0 (iV N SZ18 SZ37 SZ102 SZ104 SZ50) (sg Pg 11 0 7) 0 (st0 Pg 11 (rT.args [.fl q_0,.fl q_1,.fl q_2,.fl q_3]) []) { (bR Pg 11 0 c_)with nrm:=κn_ } = (SZ18 q_0 q_1 q_2 q_3 (λcr=>cond (!cr) (c_ (.bool false) []) (SZ37 q_0 q_1 q_2 q_3 (SZ102 [q_0,q_1,q_2,q_3] [q_0,q_1,q_2,q_3] (λam1 nr amU=>cond (amU != 0) (c_ (.bool false) []) (κn_ (FQ (.agg [.flt q_0,.flt q_1,.flt q_2,.flt q_3]::.ptr 0 0::.bool false::.ptr 2 0::vwi amU::.any::.any::.any::.agg [.flt q_0,.flt q_1,.flt q_2,.flt q_3]::.slw 1::.bool cr::.bool false::.agg [.flt q_0,.flt q_1,.flt q_2,.flt q_3]::.agg [.flt q_0,.flt q_1,.flt q_2,.flt q_3]::.tup [.agg [.bool am1,.nil,vwi nr],vwi amU]::.sl 2 0 (4 - 0)::.sl 2 0 (4 - 0)::.tup [.agg [.bool am1,.nil,vwi nr],vwi amU]::.agg [.bool am1,.nil,vwi nr]::vwi amU::vwi amU::.bool false::vqs 24 []) [some ⟨30,1,.cells [.flt q_0,.flt q_1,.flt q_2,.flt q_3]⟩,some ⟨30,4,.cells [.flt q_0,.flt q_1,.flt q_2,.flt q_3]⟩,some ⟨80,1,.flts [q_0,q_1,q_2,q_3]⟩] q_0 q_1 q_2 q_3 am1 nr))) (λanl am3 ane nsr=>cond (ane != 0) (c_ (.bool false) []) (κn_ (FR (.agg [.flt q_0,.flt q_1,.flt q_2,.flt q_3]::.ptr 0 0::.bool false::.ptr 2 0::vwi ane::.any::.any::.any::.agg [.flt q_0,.flt q_1,.flt q_2,.flt q_3]::.slw 1::.bool cr::.bool false::.agg [.flt q_0,.flt q_1,.flt q_2,.flt q_3]::.agg [.flt q_0,.flt q_1,.flt q_2,.flt q_3]::.tup [.agg [.bool anl,.slw 3,vwi am3],vwi ane]::.sl 2 0 (4 - 0)::.sl 2 0 (4 - 0)::.tup [.agg [.bool anl,.slw 3,vwi am3],vwi ane]::.agg [.bool anl,.slw 3,vwi am3]::vwi ane::vwi ane::.bool false::vqs 24 []) [some ⟨30,1,.cells [.flt q_0,.flt q_1,.flt q_2,.flt q_3]⟩,some ⟨30,4,.cells [.flt q_0,.flt q_1,.flt q_2,.flt q_3]⟩,some ⟨80,1,.flts [q_0,q_1,q_2,q_3]⟩] q_0 q_1 q_2 q_3 nsr anl am3))))))):=by kernel_rfl
theorem xq (q_0 q_1 q_2 q_3:Fl) (c_:KV):aB (mE N SZ18 SZ37 SZ102 SZ104 SZ50) 0 (iV N SZ18 SZ37 SZ102 SZ104 SZ50) ((cds Pg 11).drop 0) 0 (st0 Pg 11 (rT.args [.fl q_0,.fl q_1,.fl q_2,.fl q_3]) []) (bR Pg 11 0 c_)=Cr N SZ18 SZ37 SZ102 SZ104 SZ50 q_0 q_1 q_2 q_3 (λr0=>c_ (.bool r0) []):=by rw[aP 0 7 7 rfl];refine(xg N SZ18 SZ37 SZ102 SZ104 SZ50 q_0 q_1 q_2 q_3 c_ _).trans ?_;simp only[agt,agu];kernel_rfl
theorem afs (q_0 q_1 q_2 q_3:Fl) (c_:KV):gm (mE N SZ18 SZ37 SZ102 SZ104 SZ50) (iV N SZ18 SZ37 SZ102 SZ104 SZ50) 11 (rT.args [.fl q_0,.fl q_1,.fl q_2,.fl q_3]) [] c_=Cr N SZ18 SZ37 SZ102 SZ104 SZ50 q_0 q_1 q_2 q_3 (λr0=>c_ (.bool r0) []):=
 (cX (by kernel_rfl)).trans (xq N SZ18 SZ37 SZ102 SZ104 SZ50 q_0 q_1 q_2 q_3 c_)
theorem SS (hZ18:ac Pg 42 (yx SZ18)) (hZ37:ac Pg 43 (si SZ37)) (hZ102:ac Pg 44 (Iu SZ102)) (hZ104:ac Pg 45 (Iw SZ104)) (hZ50:ac Pg 46 (Ys SZ50)):ac Pg 11 (IX (Cr N SZ18 SZ37 SZ102 SZ104 SZ50)):=by
 refine am (cx:=(mE N SZ18 SZ37 SZ102 SZ104 SZ50)) (aa hZ18 (aa hZ37 (aa hZ102 (aa hZ104 (aa hZ50 (ae _)))))) rT (Hp (Cr N SZ18 SZ37 SZ102 SZ104 SZ50)) (iV N SZ18 SZ37 SZ102 SZ104 SZ50) 0 0 (by kernel_rfl) (λi_ hi_=>by omega) ?_;intro a k h;unfold Hp at h;split at h;exact⟨[],rfl,rfl,(afs _ _ _ _ _ _ _ _ _ _ _).trans h⟩;cases h
end
def ai6 (N:Nat):Nat->Option Ann:=λb_=>none
theorem aa_ (N:Nat):ac Pg 41 (YM (ad4 N)):=by
 refine am (cx:=⟨Pg,ah [],aj,N⟩) (ae _) Wf (XM (ad4 N)) (ai6 N) 0 0 (by kernel_rfl) (λi_ hi_=>by omega) ?_;intro a k h;unfold XM at h;split at h;exact⟨[],rfl,rfl,.trans (by kernel_rfl) h⟩;cases h
def aiB (N:Nat) (SZ81:m4) (SZ120:lr) (SZ192:tM) (SZ148:sX) (SZ99:Ak):Nat->Option Ann:=λb_=>none
theorem aay (N:Nat) (SZ81:m4) (SZ120:lr) (SZ192:tM) (SZ148:sX) (SZ99:Ak) (hZ81:ac Pg 35 (wu SZ81)) (hZ120:ac Pg 13 (wo SZ120)) (hZ192:ac Pg 40 (Js SZ192)) (hZ148:ac Pg 11 (IX SZ148)) (hZ99:ac Pg 41 (YM SZ99)):ac Pg 8 (PF (adP N SZ81 SZ120 SZ192 SZ148 SZ99)):=by
 refine am (cx:=⟨Pg,ah [(35,(wu SZ81)),(13,(wo SZ120)),(40,(Js SZ192)),(11,(IX SZ148)),(41,(YM SZ99))],aj,N⟩) (aa hZ81 (aa hZ120 (aa hZ192 (aa hZ148 (aa hZ99 (ae _)))))) VI (Xa (adP N SZ81 SZ120 SZ192 SZ148 SZ99)) (aiB N SZ81 SZ120 SZ192 SZ148 SZ99) 0 0 (by kernel_rfl) (λi_ hi_=>by omega) ?_;intro a k h;unfold Xa at h;split at h;exact⟨[],rfl,rfl,.trans (by kernel_rfl) h⟩;cases h
def aec (N:Nat) (SZ108:cV):Nat->Option Ann:=λb_=>none
theorem R9 (N:Nat) (SZ108:cV) (hZ108:ac Pg 82 (jO SZ108)):ac Pg 39 (Iv (PK N SZ108)):=by
 refine am (cx:=⟨Pg,ah [(82,(jO SZ108))],aj,N⟩) (aa hZ108 (ae _)) LJ (GG (PK N SZ108)) (aec N SZ108) 0 0 (by kernel_rfl) (λi_ hi_=>by omega) ?_;intro a k h;unfold GG at h;split at h;exact⟨[],rfl,rfl,.trans (by kernel_rfl) h⟩;cases h
def aiA (N:Nat) (SZ103:sy):Nat->Option Ann:=λb_=>none
theorem aax (N:Nat) (SZ103:sy) (hZ103:ac Pg 39 (Iv SZ103)):ac Pg 10 (PE (adO N SZ103)):=by
 refine am (cx:=⟨Pg,ah [(39,(Iv SZ103))],aj,N⟩) (aa hZ103 (ae _)) VH (W_ (adO N SZ103)) (aiA N SZ103) 0 0 (by kernel_rfl) (λi_ hi_=>by omega) ?_;intro a k h;unfold W_ at h;split at h;exact⟨[],rfl,rfl,.trans (by kernel_rfl) h⟩;cases h
def acb (N:Nat) (amQ:aU) (SZ79:hJ):Nat->Option Ann:=λb_=>none
theorem aaz (N:Nat) (amQ:aU) (SZ79:hJ) (anE:ac Pg 47 (bE amQ)) (hZ79:ac Pg 26 (sk SZ79)):ac Pg 12 (PG (Y5 (N+24) amQ SZ79)):=by
 refine am (cx:=⟨Pg,ah [(47,(bE amQ)),(26,(sk SZ79))],aj,(N+24)⟩) (aa anE (aa hZ79 (ae _))) VJ (Xb (Y5 (N+24) amQ SZ79)) (acb (N+24) amQ SZ79) 1 0 (by kernel_rfl) (aM ((λhk e=>by rw[show dJ ((acb (N+24) amQ SZ79) (lp Pg 12 0).1)=none from by kernel_rfl]at e; cases e))) ?_;intro a k h;unfold Xb at h;split at h;exact⟨[],rfl,rfl,.trans (by kernel_rfl) h⟩;cases h
def ae5 (N:Nat) (SZ129:du):Nat->Option Ann:=λb_=>none
theorem TB (N:Nat) (SZ129:du) (hZ129:ac Pg 95 (kN SZ129)):ac Pg 151 (Jt (Kb N SZ129)):=by
 refine am (cx:=⟨Pg,ah [(95,(kN SZ129))],aj,N⟩) (aa hZ129 (ae _)) M7 (H8 (Kb N SZ129)) (ae5 N SZ129) 0 0 (by kernel_rfl) (λi_ hi_=>by omega) ?_;intro a k h;unfold H8 at h;split at h;exact⟨[],rfl,rfl,.trans (by kernel_rfl) h⟩;cases h
def aem (N:Nat) (SZ193:tO):Nat->Option Ann:=λb_=>none
theorem So (N:Nat) (SZ193:tO) (hZ193:ac Pg 151 (Jt SZ193)):ac Pg 115 (y_ (JL N SZ193)):=by
 refine am (cx:=⟨Pg,ah [(151,(Jt SZ193))],aj,N⟩) (aa hZ193 (ae _)) LZ (GU (JL N SZ193)) (aem N SZ193) 0 0 (by kernel_rfl) (λi_ hi_=>by omega) ?_;intro a k h;unfold GU at h;split at h;exact⟨[],rfl,rfl,.trans (by kernel_rfl) h⟩;cases h
def aeA (N:Nat):Nat->Option Ann:=λb_=>none
theorem SM (N:Nat):ac Pg 175 (IQ (JY N)):=by
 refine am (cx:=⟨Pg,ah [],aj,N⟩) (ae _) Mn (Hj (JY N)) (aeA N) 0 0 (by kernel_rfl) (λi_ hi_=>by omega) ?_;intro a k h;unfold Hj at h;split at h;exact⟨[],rfl,rfl,.trans (by kernel_rfl) h⟩;cases h
def aeU (N:Nat) (SZ118:kv) (SZ142:sR):Nat->Option Ann:=λb_=>none
theorem Tj (N:Nat) (SZ118:kv) (SZ142:sR) (hZ118:ac Pg 115 (y_ SZ118)) (hZ142:ac Pg 175 (IQ SZ142)):ac Pg 150 (Jh (J6 N SZ118 SZ142)):=by
 refine am (cx:=⟨Pg,ah [(115,(y_ SZ118)),(175,(IQ SZ142))],aj,N⟩) (aa hZ118 (aa hZ142 (ae _))) MO (HR (J6 N SZ118 SZ142)) (aeU N SZ118 SZ142) 0 0 (by kernel_rfl) (λi_ hi_=>by omega) ?_;intro a k h;unfold HR at h;split at h;exact⟨[],rfl,rfl,.trans (by kernel_rfl) h⟩;cases h
def ai4 (N:Nat) (SZ176:tB):Nat->Option Ann:=λb_=>none
theorem aa8 (N:Nat) (SZ176:tB) (hZ176:ac Pg 150 (Jh SZ176)):ac Pg 107 (NI (Zk N SZ176)):=by
 refine am (cx:=⟨Pg,ah [(150,(Jh SZ176))],aj,N⟩) (aa hZ176 (ae _)) Wd (XK (Zk N SZ176)) (ai4 N SZ176) 0 0 (by kernel_rfl) (λi_ hi_=>by omega) ?_;intro a k h;unfold XK at h;split at h;exact⟨[],rfl,rfl,.trans (by kernel_rfl) h⟩;cases h
def bG:StSh:=⟨(sqs 5 (.rof::.int .i64::.int .i64::sqs 7 [])),[]⟩
def gV:StSh:=⟨(.any::.any::.bool::sqs 12 []),[]⟩
def gW:StSh:=⟨(sqs 15 []),[]⟩
section
variable (N:Nat) (SZ97:qL)
noncomputable abbrev Rt:Cx:=⟨Pg,ah [(107,(NI SZ97))],aj,N⟩
def bF:List Atom->K->Bool:=λa_ κ=>match a_ with
 | [.fls t5,.int t6,.int t7]=>aH N (Ca N SZ97 t5 t6 (λr0=>κ.ret (gV.build [.bool r0])) (κ.ext 0 (gW.build []))) t7
 | _=>false
def QX:Nat->Option Ann:=λb_=>cond (b_==0) (some ⟨⟨[5,6,7],[],[]⟩,[(0,⟨[],[],[]⟩)],some ⟨[2],[],[]⟩,some (aR [(bG,bF N SZ97)])⟩) (none)
theorem gH:aV (Rt N SZ97) 0 (QX N SZ97) (lp Pg 102 0) (bG,bF N SZ97):=by
 intro a κ h;simp only at h;unfold bF at h;split at h
 ·rename_i t5 t6 t7;exact .trans (aW (λv_=>bG.build [.fls t5,.int t6,.int v_]) (λv_ K_=>by kernel_rfl) N t7) h
 ·cases h
theorem i8:be (Rt N SZ97) 0 (QX N SZ97) (lp Pg 102 0):=
 aN [(bG,bF N SZ97)] (by kernel_rfl) ⟨gH _ _,trivial⟩
theorem aaB (hZ97:ac Pg 107 (NI SZ97)):ac Pg 102 (Ci (Y8 N SZ97)):=by
 refine am (cx:=(Rt N SZ97)) (aa hZ97 (ae _)) VK (Xd (Y8 N SZ97)) (QX N SZ97) 1 0 (by kernel_rfl) (aM (i8 _ _)) ?_;intro a k h;unfold Xd at h;split at h;exact⟨[],rfl,rfl,.trans (by kernel_rfl) h⟩;cases h
end
end Go.Proofs.YtadejnnigmcpdaaGreatDoor
