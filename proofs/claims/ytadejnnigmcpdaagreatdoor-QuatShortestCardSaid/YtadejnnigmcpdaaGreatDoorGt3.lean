/-
  THE TIES: each printed meaning is what the program does (written by program).
  Conditions: none.
-/
import Derived.Test.YtadejnnigmcpdaaGreatDoorGs
set_option linter.unusedVariables false
namespace Go.Proofs.YtadejnnigmcpdaaGreatDoor
open Go Go.Mach Go.Proofs
set_option maxRecDepth 50000
def aiL (N:Nat) (SZ62:mB):Nat->Option Ann:=λb_=>none
theorem aaL (N:Nat) (SZ62:mB) (hZ62:ac Pg 102 (Ci SZ62)):ac Pg 59 (Bn (adW N SZ62)):=by
 refine am (cx:=⟨Pg,ah [(102,(Ci SZ62))],aj,N⟩) (aa hZ62 (ae _)) VU (Xn (adW N SZ62)) (aiL N SZ62) 0 0 (by kernel_rfl) (λi_ hi_=>by omega) ?_;intro a k h;unfold Xn at h;split at h;exact⟨[],rfl,rfl,.trans (by kernel_rfl) h⟩;cases h
def acd (N:Nat):Nat->Option Ann:=λb_=>none
theorem aaD (N:Nat):ac Pg 58 (Bm (Y9 (N+24))):=by
 refine am (cx:=⟨Pg,ah [],aj,(N+24)⟩) (ae _) VM (Xf (Y9 (N+24))) (acd (N+24)) 1 0 (by kernel_rfl) (aM ((λhk e=>by rw[show dJ ((acd (N+24)) (lp Pg 58 0).1)=none from by kernel_rfl]at e; cases e))) ?_;intro a k h;unfold Xf at h;split at h;exact⟨[],rfl,rfl,.trans (by kernel_rfl) h⟩;cases h
def ae3 (N:Nat) (SZ62:mB):Nat->Option Ann:=λb_=>none
theorem Tz (N:Nat) (SZ62:mB) (hZ62:ac Pg 102 (Ci SZ62)):ac Pg 103 (Jr (Cy N SZ62)):=by
 refine am (cx:=⟨Pg,ah [(102,(Ci SZ62))],aj,N⟩) (aa hZ62 (ae _)) M5 (H6 (Cy N SZ62)) (ae3 N SZ62) 0 0 (by kernel_rfl) (λi_ hi_=>by omega) ?_;intro a k h;unfold H6 at h;split at h;exact⟨[],rfl,rfl,.trans (by kernel_rfl) h⟩;cases h
def cm:StSh:=⟨(.rof::.any::.any::.any::.flt::.int .i64::sqs 24 []),[]⟩
def jf:StSh:=⟨(sqs 4 (.flt::sqs 25 [])),[]⟩
section
variable (N:Nat) (amQ:aU) (SZ111:iS)
noncomputable abbrev Ru:Cx:=⟨Pg,ah [(47,(bE amQ)),(75,(uR SZ111))],aj,N⟩
def ce:List Atom->K->Bool:=λa_ κ=>match a_ with
 | [.fls x_1,.fl m,.int i]=>aH N (gU N amQ SZ111 x_1 (λr0=>κ.ext 0 (jf.build [.fl r0]))) (m,i)
 | _=>false
def EF:Nat->Option Ann:=λb_=>cond (b_==0) (some ⟨⟨[0,4,5],[],[]⟩,[(0,⟨[4],[],[]⟩)],some ⟨[2,3],[],[]⟩,some (aR [(cm,ce N amQ SZ111)])⟩) (none)
theorem i7:aV (Ru N amQ SZ111) 0 (EF N amQ SZ111) (lp Pg 104 0) (cm,ce N amQ SZ111):=by
 intro a κ h;simp only at h;unfold ce at h;split at h
 ·rename_i x_1 m i;exact .trans (aW (λ(v_:Fl × Int)=>cm.build [.fls x_1,.fl v_.1,.int v_.2]) (λv_ K_=>by obtain⟨m,i⟩:=v_; kernel_rfl) N (m,i)) h
 ·cases h
theorem kH:be (Ru N amQ SZ111) 0 (EF N amQ SZ111) (lp Pg 104 0):=
 aN [(cm,ce N amQ SZ111)] (by kernel_rfl) ⟨i7 _ _ _,trivial⟩
theorem SG (anE:ac Pg 47 (bE amQ)) (hZ111:ac Pg 75 (uR SZ111)):ac Pg 104 (ze (JU N amQ SZ111)):=by
 refine am (cx:=(Ru N amQ SZ111)) (aa anE (aa hZ111 (ae _))) Mh (Hd (JU N amQ SZ111)) (EF N amQ SZ111) 1 0 (by kernel_rfl) (aM (kH _ _ _)) ?_;intro a k h;unfold Hd at h;split at h;exact⟨[],rfl,rfl,.trans (by kernel_rfl) h⟩;cases h
end
def aev (N:Nat):Nat->Option Ann:=λb_=>none
theorem SC (N:Nat):ac Pg 171 (IJ (PT N)):=by
 refine am (cx:=⟨Pg,ah [],aj,N⟩) (ae _) Md (G_ (PT N)) (aev N) 0 0 (by kernel_rfl) (λi_ hi_=>by omega) ?_;intro a k h;unfold G_ at h;split at h;exact⟨[],rfl,rfl,.trans (by kernel_rfl) h⟩;cases h
def aeh (N:Nat):Nat->Option Ann:=λb_=>none
theorem Sj (N:Nat):ac Pg 172 (IA (PN N)):=by
 refine am (cx:=⟨Pg,ah [],aj,N⟩) (ae _) LU (GP (PN N)) (aeh N) 0 0 (by kernel_rfl) (λi_ hi_=>by omega) ?_;intro a k h;unfold GP at h;split at h;exact⟨[],rfl,rfl,.trans (by kernel_rfl) h⟩;cases h
def cg:StSh:=⟨(.sl 0::sqs 20 []),[some (87,1,.ints .u32)]⟩
def ja:StSh:=⟨(.sl 0::sqs 20 []),[some (87,1,.ints .u32)]⟩
def b8 (N:Nat):List Atom->K->Bool:=λa_ κ=>match a_ with
 | [.nat m_1,.nat m_2,.ints m_3]=>aH N (p9 N m_1 m_3 (λr1=>κ.ext 0 (ja.build [.nat m_1,.nat r1,.ints m_3]))) m_2
 | _=>false
def QN (N:Nat):Nat->Option Ann:=λb_=>cond (b_==0) (some ⟨⟨[0],[(0,some 0,0)],[]⟩,[(0,⟨[0],[],[]⟩)],some ⟨[2],[],[]⟩,some (aR [(cg,b8 N)])⟩) (none)
theorem iY (N:Nat):aV ⟨Pg,ah [],aj,N⟩ 1 (QN N) (lp Pg 147 0) (cg,b8 N):=by
 intro a κ h;simp only at h;unfold b8 at h;split at h
 ·rename_i m_1 m_2 m_3;exact .trans (aW (λv_=>cg.build [.nat m_1,.nat v_,.ints m_3]) (λv_ K_=>by kernel_rfl) N m_2) h
 ·cases h
theorem kC (N:Nat):be ⟨Pg,ah [],aj,N⟩ 1 (QN N) (lp Pg 147 0):=
 aN [(cg,b8 N)] (by kernel_rfl) ⟨iY _,trivial⟩
theorem ZO (N:Nat):ac Pg 147 (oA (YO N)):=by
 refine au (cx:=⟨Pg,ah [],aj,N⟩) (ae _) UV (Wi (YO N)) (QN N) 1 1 (by kernel_rfl) (aM (kC _)) ?_;intro a k h;unfold Wi at h;split at h;exact⟨[_],rfl,rfl,.trans (by kernel_rfl) h⟩;cases h
def ael (N:Nat) (SZ11:dN):Nat->Option Ann:=λb_=>none
theorem Sn (N:Nat) (SZ11:dN) (hZ11:ac Pg 147 (oA SZ11)):ac Pg 117 (uS (JK N SZ11)):=by
 refine au (cx:=⟨Pg,ah [(147,(oA SZ11))],aj,N⟩) (aa hZ11 (ae _)) LY (GT (JK N SZ11)) (ael N SZ11) 0 0 (by kernel_rfl) (λi_ hi_=>by omega) ?_;intro a k h;unfold GT at h;split at h;exact⟨[],rfl,rfl,.trans (by kernel_rfl) h⟩;cases h
def cK:StSh:=⟨(.roi .u32::sqs 20 []),[]⟩
def kc:StSh:=⟨(.roi .u32::sqs 20 []),[]⟩
def cF (N:Nat):List Atom->K->Bool:=λa_ κ=>match a_ with
 | [.ints m_1]=>aH N (dS N (λr0=>κ.ext 0 (kc.build [.ints r0]))) m_1
 | _=>false
def ER (N:Nat):Nat->Option Ann:=λb_=>cond (b_==0) (some ⟨⟨[0],[],[]⟩,[(0,⟨[0],[],[]⟩)],some ⟨[2],[],[]⟩,some (aR [(cK,cF N)])⟩) (none)
theorem jY (N:Nat):aV ⟨Pg,ah [],aj,N⟩ 0 (ER N) (lp Pg 147 0) (cK,cF N):=by
 intro a κ h;simp only at h;unfold cF at h;split at h
 ·rename_i m_1;exact .trans (aW (λv_=>cK.build [.ints v_]) (λv_ K_=>by kernel_rfl) N m_1) h
 ·cases h
theorem lX (N:Nat):be ⟨Pg,ah [],aj,N⟩ 0 (ER N) (lp Pg 147 0):=
 aN [(cK,cF N)] (by kernel_rfl) ⟨jY _,trivial⟩
theorem Tq (N:Nat):ac Pg 147 (zo (J_ N)):=by
 refine au (cx:=⟨Pg,ah [],aj,N⟩) (ae _) MU (HX (J_ N)) (ER N) 1 0 (by kernel_rfl) (aM (lX _)) ?_;intro a k h;unfold HX at h;split at h;exact⟨[],rfl,rfl,.trans (by kernel_rfl) h⟩;cases h
def aih (N:Nat) (SZ182:lG):Nat->Option Ann:=λb_=>none
theorem aac (N:Nat) (SZ182:lG) (hZ182:ac Pg 147 (zo SZ182)):ac Pg 99 (oC (YY N SZ182)):=by
 refine au (cx:=⟨Pg,ah [(147,(zo SZ182))],aj,N⟩) (aa hZ182 (ae _)) Vk (WM (YY N SZ182)) (aih N SZ182) 0 1 (by kernel_rfl) (λi_ hi_=>by omega) ?_;intro a k h;unfold WM at h;split at h;exact⟨[_],rfl,rfl,.trans (by kernel_rfl) h⟩;cases h
def aiC (N:Nat) (SZ117:iT) (SZ36:eu):Nat->Option Ann:=λb_=>none
theorem aaA (N:Nat) (SZ117:iT) (SZ36:eu) (hZ117:ac Pg 117 (uS SZ117)) (hZ36:ac Pg 99 (oC SZ36)):ac Pg 67 (ND (Y7 N SZ117 SZ36)):=by
 refine au (cx:=⟨Pg,ah [(117,(uS SZ117)),(99,(oC SZ36))],aj,N⟩) (aa hZ117 (aa hZ36 (ae _))) Gt (Xc (Y7 N SZ117 SZ36)) (aiC N SZ117 SZ36) 0 1 (by kernel_rfl) (λi_ hi_=>by omega) ?_;intro a k h;unfold Xc at h;split at h;exact⟨[_],rfl,rfl,.trans (by kernel_rfl) h⟩;cases h
def aiO (N:Nat) (SZ182:lG):Nat->Option Ann:=λb_=>none
theorem aaO (N:Nat) (SZ182:lG) (hZ182:ac Pg 147 (zo SZ182)):ac Pg 99 (yz (Zb N SZ182)):=by
 refine au (cx:=⟨Pg,ah [(147,(zo SZ182))],aj,N⟩) (aa hZ182 (ae _)) VX (Xq (Zb N SZ182)) (aiO N SZ182) 0 1 (by kernel_rfl) (λi_ hi_=>by omega) ?_;intro a k h;unfold Xq at h;split at h;exact⟨[_],rfl,rfl,.trans (by kernel_rfl) h⟩;cases h
def ai1 (N:Nat) (SZ117:iT) (SZ75:jQ):Nat->Option Ann:=λb_=>none
theorem aa5 (N:Nat) (SZ117:iT) (SZ75:jQ) (hZ117:ac Pg 117 (uS SZ117)) (hZ75:ac Pg 99 (yz SZ75)):ac Pg 67 (YJ (Zi N SZ117 SZ75)):=by
 refine au (cx:=⟨Pg,ah [(117,(uS SZ117)),(99,(yz SZ75))],aj,N⟩) (aa hZ117 (aa hZ75 (ae _))) Wb (XH (Zi N SZ117 SZ75)) (ai1 N SZ117 SZ75) 0 1 (by kernel_rfl) (λi_ hi_=>by omega) ?_;intro a k h;unfold XH at h;split at h;exact⟨[_],rfl,rfl,.trans (by kernel_rfl) h⟩;cases h
def aeQ (N:Nat) (SZ61:qG) (SZ94:Ah):Nat->Option Ann:=λb_=>none
theorem Te (N:Nat) (SZ61:qG) (SZ94:Ah) (hZ61:ac Pg 67 (ND SZ61)) (hZ94:ac Pg 67 (YJ SZ94)):ac Pg 173 (Jb (Cv N SZ61 SZ94)):=by
 refine am (cx:=⟨Pg,ah [(67,(xO (ND SZ61) (YJ SZ94) Gt))],aj,N⟩) (aa (jo hZ61 hZ94) (ae _)) MJ (HL (Cv N SZ61 SZ94)) (aeQ N SZ61 SZ94) 0 0 (by kernel_rfl) (λi_ hi_=>by omega) ?_;intro a k h;unfold HL at h;split at h;exact⟨[],rfl,rfl,.trans (by kernel_rfl) h⟩;cases h
def ae1 (N:Nat):Nat->Option Ann:=λb_=>none
theorem Tx (N:Nat):ac Pg 184 (zq (Qj N)):=by
 refine am (cx:=⟨Pg,ah [],aj,N⟩) (ae _) M3 (H4 (Qj N)) (ae1 N) 0 0 (by kernel_rfl) (λi_ hi_=>by omega) ?_;intro a k h;unfold H4 at h;split at h;exact⟨[],rfl,rfl,.trans (by kernel_rfl) h⟩;cases h
def aeV (N:Nat) (SZ189:lJ):Nat->Option Ann:=λb_=>none
theorem Tl (N:Nat) (SZ189:lJ) (hZ189:ac Pg 184 (zq SZ189)):ac Pg 174 (Jj (Qd N SZ189)):=by
 refine am (cx:=⟨Pg,ah [(184,(zq SZ189))],aj,N⟩) (aa hZ189 (ae _)) MQ (HT (Qd N SZ189)) (aeV N SZ189) 0 1 (by kernel_rfl) (λi_ hi_=>by omega) ?_;intro a k h;unfold HT at h;split at h;exact⟨[_],rfl,rfl,.trans (by kernel_rfl) h⟩;cases h
def aiQ (N:Nat):Nat->Option Ann:=λb_=>none
theorem aaQ (N:Nat):ac Pg 193 (Cj (Zc N)):=by
 refine am (cx:=⟨Pg,ah [],aj,N⟩) (ae _) VZ (Xs (Zc N)) (aiQ N) 0 0 (by kernel_rfl) (λi_ hi_=>by omega) ?_;intro a k h;unfold Xs at h;split at h;exact⟨[],rfl,rfl,.trans (by kernel_rfl) h⟩;cases h
def aek (N:Nat) (SZ77:jh):Nat->Option Ann:=λb_=>none
theorem Sm (N:Nat) (SZ77:jh) (hZ77:ac Pg 193 (Cj SZ77)):ac Pg 185 (y9 (PP N SZ77)):=by
 refine am (cx:=⟨Pg,ah [(193,(Cj SZ77))],aj,N⟩) (aa hZ77 (ae _)) LX (GS (PP N SZ77)) (aek N SZ77) 0 0 (by kernel_rfl) (λi_ hi_=>by omega) ?_;intro a k h;unfold GS at h;split at h;exact⟨[],rfl,rfl,.trans (by kernel_rfl) h⟩;cases h
def aia (N:Nat):Nat->Option Ann:=λb_=>none
theorem Z3 (N:Nat):ac Pg 52 (oB (YV N)):=by
 refine au (cx:=⟨Pg,ah [],aj,N⟩) (ae _) Vb (WC (YV N)) (aia N) 0 1 (by kernel_rfl) (λi_ hi_=>by omega) ?_;intro a k h;unfold WC at h;split at h;exact⟨[_],rfl,rfl,.trans (by kernel_rfl) h⟩;cases h
def aeW (N:Nat) (SZ26:er):Nat->Option Ann:=λb_=>none
theorem To (N:Nat) (SZ26:er) (hZ26:ac Pg 52 (oB SZ26)):ac Pg 186 (Jl (J9 N SZ26)):=by
 refine am (cx:=⟨Pg,ah [(52,(oB SZ26))],aj,N⟩) (aa hZ26 (ae _)) MS (HV (J9 N SZ26)) (aeW N SZ26) 0 1 (by kernel_rfl) (λi_ hi_=>by omega) ?_;intro a k h;unfold HV at h;split at h;exact⟨[_],rfl,rfl,.trans (by kernel_rfl) h⟩;cases h
def aeX (N:Nat) (SZ77:jh):Nat->Option Ann:=λb_=>none
theorem Ts (N:Nat) (SZ77:jh) (hZ77:ac Pg 193 (Cj SZ77)):ac Pg 187 (Jm (Qf N SZ77)):=by
 refine am (cx:=⟨Pg,ah [(193,(Cj SZ77))],aj,N⟩) (aa hZ77 (ae _)) MV (HY (Qf N SZ77)) (aeX N SZ77) 0 0 (by kernel_rfl) (λi_ hi_=>by omega) ?_;intro a k h;unfold HY at h;split at h;exact⟨[],rfl,rfl,.trans (by kernel_rfl) h⟩;cases h
def aex (N:Nat):Nat->Option Ann:=λb_=>none
theorem SH (N:Nat):ac Pg 203 (IL (JV N)):=by
 refine am (cx:=⟨Pg,ah [],aj,N⟩) (ae _) Mi (He (JV N)) (aex N) 0 0 (by kernel_rfl) (λi_ hi_=>by omega) ?_;intro a k h;unfold He at h;split at h;exact⟨[],rfl,rfl,.trans (by kernel_rfl) h⟩;cases h
def alT (N:Nat) (SZ137:sO):Nat->Option Ann:=λb_=>none
theorem afY (N:Nat) (SZ137:sO) (hZ137:ac Pg 203 (IL SZ137)):ac Pg 194 (FZ7 (GZ7 N SZ137)):=by
 refine au (cx:=⟨Pg,ah [(203,(IL SZ137))],aj,N⟩) (aa hZ137 (ae _)) adi (ahs (GZ7 N SZ137)) (alT N SZ137) 0 1 (by kernel_rfl) (λi_ hi_=>by omega) ?_;intro a k h;unfold ahs at h;split at h;exact⟨[_],rfl,rfl,.trans (by kernel_rfl) h⟩;cases h
def ai5 (N:Nat) (SZ11:dN):Nat->Option Ann:=λb_=>none
theorem aa9 (N:Nat) (SZ11:dN) (hZ11:ac Pg 147 (oA SZ11)):ac Pg 99 (NJ (Qt N SZ11)):=by
 refine au (cx:=⟨Pg,ah [(147,(oA SZ11))],aj,N⟩) (aa hZ11 (ae _)) We (XL (Qt N SZ11)) (ai5 N SZ11) 0 2 (by kernel_rfl) (λi_ hi_=>by omega) ?_;intro a k h;unfold XL at h;split at h;exact⟨[_,_],rfl,rfl,.trans (by kernel_rfl) h⟩;cases h
def ahZ (N:Nat) (SZ98:qM):Nat->Option Ann:=λb_=>none
theorem ZN (N:Nat) (SZ98:qM) (hZ98:ac Pg 99 (NJ SZ98)):ac Pg 195 (Yb (YN N SZ98)):=by
 refine au (cx:=⟨Pg,ah [(99,(NJ SZ98))],aj,N⟩) (aa hZ98 (ae _)) UU (Wg (YN N SZ98)) (ahZ N SZ98) 0 2 (by kernel_rfl) (λi_ hi_=>by omega) ?_;intro a k h;unfold Wg at h;split at h;exact⟨[_,_],rfl,rfl,.trans (by kernel_rfl) h⟩;cases h
def cB:StSh:=⟨(.roi .u32::sqs 4 (.int .i64::.int .u64::.slw 0::.int .i64::sqs 49 [])),[some (87,1,.ints .u32)]⟩
def jC:StSh:=⟨(sqs 7 (.slw 0::sqs 50 [])),[some (87,1,.ints .u32)]⟩
section
variable (N:Nat) (SZ11:dN)
noncomputable abbrev Rv:Cx:=⟨Pg,ah [(147,(oA SZ11))],aj,N⟩
def ct:List Atom->K->Bool:=λa_ κ=>match a_ with
 | [.ints m_1,.int w,.int s,.int i,.ints out]=>aH N (iD N SZ11 m_1 w s (λr0=>κ.ext 0 (jC.build [.ints r0]))) (i,out)
 | _=>false
def EL:Nat->Option Ann:=λb_=>cond (b_==0) (some ⟨⟨[0,5,6,7,8],[],[]⟩,[(0,⟨[7],[],[]⟩)],some ⟨[4],[],[]⟩,some (aR [(cB,ct N SZ11)])⟩) (none)
theorem jp:aV (Rv N SZ11) 0 (EL N SZ11) (lp Pg 146 0) (cB,ct N SZ11):=by
 intro a κ h;simp only at h;unfold ct at h;split at h
 ·rename_i m_1 w s i out;exact .trans (aW (λ(v_:Int × LI)=>cB.build [.ints m_1,.int w,.int s,.int v_.1,.ints v_.2]) (λv_ K_=>by obtain⟨i,out⟩:=v_; kernel_rfl) N (i,out)) h
 ·cases h
theorem kV:be (Rv N SZ11) 0 (EL N SZ11) (lp Pg 146 0):=
 aN [(cB,ct N SZ11)] (by kernel_rfl) ⟨jp _ _,trivial⟩
theorem SY (hZ11:ac Pg 147 (oA SZ11)):ac Pg 146 (zh (J1 N SZ11)):=by
 refine au (cx:=(Rv N SZ11)) (aa hZ11 (ae _)) Mv (Hu (J1 N SZ11)) (EL N SZ11) 1 0 (by kernel_rfl) (aM (kV _ _)) ?_;intro a k h;unfold Hu at h;split at h;exact⟨[],rfl,rfl,.trans (by kernel_rfl) h⟩;cases h
end
def ah2 (N:Nat) (SZ153:lA) (SZ75:jQ):Nat->Option Ann:=λb_=>none
theorem ZS (N:Nat) (SZ153:lA) (SZ75:jQ) (hZ153:ac Pg 146 (zh SZ153)) (hZ75:ac Pg 99 (yz SZ75)):ac Pg 98 (Ye (YR N SZ153 SZ75)):=by
 refine au (cx:=⟨Pg,ah [(146,(zh SZ153)),(99,(yz SZ75))],aj,N⟩) (aa hZ153 (aa hZ75 (ae _))) UZ (Wo (YR N SZ153 SZ75)) (ah2 N SZ153 SZ75) 0 1 (by kernel_rfl) (λi_ hi_=>by omega) ?_;intro a k h;unfold Wo at h;split at h;exact⟨[_],rfl,rfl,.trans (by kernel_rfl) h⟩;cases h
def ci:StSh:=⟨(.roi .u32::sqs 4 (.int .i64::.int .u64::.slw 0::.int .i64::sqs 55 [])),[some (87,1,.ints .u32)]⟩
def jc:StSh:=⟨(sqs 7 (.slw 0::sqs 56 [])),[some (87,1,.ints .u32)]⟩
section
variable (N:Nat) (SZ11:dN)
noncomputable abbrev qW:Cx:=⟨Pg,ah [(147,(oA SZ11))],aj,N⟩
def ca:List Atom->K->Bool:=λa_ κ=>match a_ with
 | [.ints m_1,.int w,.int s,.int i,.ints out]=>aH N (gQ N SZ11 m_1 w s (λr0=>κ.ext 0 (jc.build [.ints r0]))) (i,out)
 | _=>false
def EH:Nat->Option Ann:=λb_=>cond (b_==0) (some ⟨⟨[0,5,6,7,8],[],[]⟩,[(0,⟨[7],[],[]⟩)],some ⟨[4],[],[]⟩,some (aR [(ci,ca N SZ11)])⟩) (none)
theorem i4:aV (qW N SZ11) 0 (EH N SZ11) (lp Pg 207 0) (ci,ca N SZ11):=by
 intro a κ h;simp only at h;unfold ca at h;split at h
 ·rename_i m_1 w s i out;exact .trans (aW (λ(v_:Int × LI)=>ci.build [.ints m_1,.int w,.int s,.int v_.1,.ints v_.2]) (λv_ K_=>by obtain⟨i,out⟩:=v_; kernel_rfl) N (i,out)) h
 ·cases h
theorem kE:be (qW N SZ11) 0 (EH N SZ11) (lp Pg 207 0):=
 aN [(ci,ca N SZ11)] (by kernel_rfl) ⟨i4 _ _,trivial⟩
theorem SL (hZ11:ac Pg 147 (oA SZ11)):ac Pg 207 (zg (JX N SZ11)):=by
 refine au (cx:=(qW N SZ11)) (aa hZ11 (ae _)) Mm (Hi (JX N SZ11)) (EH N SZ11) 1 0 (by kernel_rfl) (aM (kE _ _)) ?_;intro a k h;unfold Hi at h;split at h;exact⟨[],rfl,rfl,.trans (by kernel_rfl) h⟩;cases h
def ch:StSh:=⟨(.roi .u32::.roi .u32::.any::.any::.any::.slw 0::.int .u64::.int .i64::sqs 48 []),[some (87,1,.ints .u32)]⟩
def jb:StSh:=⟨(sqs 5 (.slw 0::sqs 50 [])),[some (87,1,.ints .u32)]⟩
def b9:List Atom->K->Bool:=λa_ κ=>match a_ with
 | [.ints a_1,.ints b_1,.int borrow,.int i,.ints out]=>aH N (gP N SZ11 a_1 b_1 (λr0=>κ.ext 0 (jb.build [.ints r0]))) (borrow,i,out)
 | _=>false
def QV:Nat->Option Ann:=λb_=>cond (b_==0) (some ⟨⟨[0,1,5,6,7],[],[]⟩,[(0,⟨[5],[],[]⟩)],some ⟨[4],[],[]⟩,some (aR [(ch,b9 N SZ11)])⟩) (none)
theorem iZ:aV (qW N SZ11) 0 (QV N SZ11) (lp Pg 145 0) (ch,b9 N SZ11):=by
 intro a κ h;simp only at h;unfold b9 at h;split at h
 ·rename_i a_1 b_1 borrow i out;exact .trans (aW (λ(v_:Int × Int × LI)=>ch.build [.ints a_1,.ints b_1,.int v_.1,.int v_.2.1,.ints v_.2.2]) (λv_ K_=>by obtain⟨borrow,i,out⟩:=v_; kernel_rfl) N (borrow,i,out)) h
 ·cases h
theorem kD:be (qW N SZ11) 0 (QV N SZ11) (lp Pg 145 0):=
 aN [(ch,b9 N SZ11)] (by kernel_rfl) ⟨iZ _ _,trivial⟩
theorem aal (hZ11:ac Pg 147 (oA SZ11)):ac Pg 145 (vD (Y3 N SZ11)):=by
 refine au (cx:=(qW N SZ11)) (aa hZ11 (ae _)) Vt (WV (Y3 N SZ11)) (QV N SZ11) 1 0 (by kernel_rfl) (aM (kD _ _)) ?_;intro a k h;unfold WV at h;split at h;exact⟨[],rfl,rfl,.trans (by kernel_rfl) h⟩;cases h
def cC:StSh:=⟨(.roi .u32::.roi .u32::sqs 4 (.slw 0::.int .u64::.int .i64::sqs 52 [])),[some (87,1,.ints .u32)]⟩
def jD:StSh:=⟨(.roi .u32::sqs 5 (.slw 0::.int .u64::sqs 53 [])),[some (87,1,.ints .u32)]⟩
def cu:List Atom->K->Bool:=λa_ κ=>match a_ with
 | [.ints a_1,.ints b_1,.int carry,.int i,.ints out]=>aH N (eh N SZ11 a_1 b_1 (λr1 r2=>κ.ext 0 (jD.build [.ints a_1,.int r1,.ints r2]))) (carry,i,out)
 | _=>false
def EC:Nat->Option Ann:=λb_=>cond (b_==0) (some ⟨⟨[0,1,6,7,8],[],[]⟩,[(0,⟨[0,6,7],[],[]⟩)],some ⟨[4],[],[]⟩,some (aR [(cC,cu N SZ11)])⟩) (none)
theorem jr:aV (qW N SZ11) 0 (EC N SZ11) (lp Pg 143 0) (cC,cu N SZ11):=by
 intro a κ h;simp only at h;unfold cu at h;split at h
 ·rename_i a_1 b_1 carry i out;exact .trans (aW (λ(v_:Int × Int × LI)=>cC.build [.ints a_1,.ints b_1,.int v_.1,.int v_.2.1,.ints v_.2.2]) (λv_ K_=>by obtain⟨carry,i,out⟩:=v_; kernel_rfl) N (carry,i,out)) h
 ·cases h
theorem kX:be (qW N SZ11) 0 (EC N SZ11) (lp Pg 143 0):=
 aN [(cC,cu N SZ11)] (by kernel_rfl) ⟨jr _ _,trivial⟩
theorem Si (hZ11:ac Pg 147 (oA SZ11)):ac Pg 143 (oJ (JI N SZ11)):=by
 refine au (cx:=(qW N SZ11)) (aa hZ11 (ae _)) LS (GO (JI N SZ11)) (EC N SZ11) 1 0 (by kernel_rfl) (aM (kX _ _)) ?_;intro a k h;unfold GO at h;split at h;exact⟨[],rfl,rfl,.trans (by kernel_rfl) h⟩;cases h
end
def aer (N:Nat) (SZ141:lz) (SZ36:eu) (SZ45:gl) (SZ112:f4):Nat->Option Ann:=λb_=>none
theorem Sx (N:Nat) (SZ141:lz) (SZ36:eu) (SZ45:gl) (SZ112:f4) (hZ141:ac Pg 207 (zg SZ141)) (hZ36:ac Pg 99 (oC SZ36)) (hZ45:ac Pg 145 (vD SZ45)) (hZ112:ac Pg 143 (oJ SZ112)):ac Pg 198 (IG (JP N SZ141 SZ36 SZ45 SZ112)):=by
 refine au (cx:=⟨Pg,ah [(207,(zg SZ141)),(99,(oC SZ36)),(145,(vD SZ45)),(143,(oJ SZ112))],aj,N⟩) (aa hZ141 (aa hZ36 (aa hZ45 (aa hZ112 (ae _))))) L8 (G5 (JP N SZ141 SZ36 SZ45 SZ112)) (aer N SZ141 SZ36 SZ45 SZ112) 0 2 (by kernel_rfl) (λi_ hi_=>by omega) ?_;intro a k h;unfold G5 at h;split at h;exact⟨[_,_],rfl,rfl,.trans (by kernel_rfl) h⟩;cases h
def aiU (N:Nat) (SZ153:lA) (SZ36:eu):Nat->Option Ann:=λb_=>none
theorem aaX (N:Nat) (SZ153:lA) (SZ36:eu) (hZ153:ac Pg 146 (zh SZ153)) (hZ36:ac Pg 99 (oC SZ36)):ac Pg 98 (NH (Ze N SZ153 SZ36)):=by
 refine au (cx:=⟨Pg,ah [(146,(zh SZ153)),(99,(oC SZ36))],aj,N⟩) (aa hZ153 (aa hZ36 (ae _))) V5 (Xz (Ze N SZ153 SZ36)) (aiU N SZ153 SZ36) 0 2 (by kernel_rfl) (λi_ hi_=>by omega) ?_;intro a k h;unfold Xz at h;split at h;exact⟨[_,_],rfl,rfl,.trans (by kernel_rfl) h⟩;cases h
def bO:StSh:=⟨(.roi .u32::.roi .u32::.any::.any::.any::.int .i64::sqs 35 []),[]⟩
def iw:StSh:=⟨(sqs 4 (.int .i64::sqs 36 [])),[]⟩
def ix:StSh:=⟨(sqs 41 []),[]⟩
def bM (N:Nat):List Atom->K->Bool:=λa_ κ=>match a_ with
 | [.ints a_1,.ints b_1,.int i]=>aH N (p7 N a_1 b_1 (λr0=>κ.ret (iw.build [.int r0])) (κ.ext 0 (ix.build []))) i
 | _=>false
def QY (N:Nat):Nat->Option Ann:=λb_=>cond (b_==0) (some ⟨⟨[0,1,5],[],[]⟩,[(0,⟨[],[],[]⟩)],some ⟨[4],[],[]⟩,some (aR [(bO,bM N)])⟩) (none)
theorem ig (N:Nat):aV ⟨Pg,ah [],aj,N⟩ 0 (QY N) (lp Pg 144 0) (bO,bM N):=by
 intro a κ h;simp only at h;unfold bM at h;split at h
 ·rename_i a_1 b_1 i;exact .trans (aW (λv_=>bO.build [.ints a_1,.ints b_1,.int v_]) (λv_ K_=>by kernel_rfl) N i) h
 ·cases h
theorem j3 (N:Nat):be ⟨Pg,ah [],aj,N⟩ 0 (QY N) (lp Pg 144 0):=
 aN [(bO,bM N)] (by kernel_rfl) ⟨ig _,trivial⟩
theorem aaR (N:Nat):ac Pg 144 (Ck (Zd N)):=by
 refine au (cx:=⟨Pg,ah [],aj,N⟩) (ae _) V0 (Xt (Zd N)) (QY N) 1 0 (by kernel_rfl) (aM (j3 _)) ?_;intro a k h;unfold Xt at h;split at h;exact⟨[],rfl,rfl,.trans (by kernel_rfl) h⟩;cases h
def aiE (N:Nat) (SZ112:f4) (SZ36:eu) (SZ78:mC) (SZ45:gl):Nat->Option Ann:=λb_=>none
theorem aaE (N:Nat) (SZ112:f4) (SZ36:eu) (SZ78:mC) (SZ45:gl) (hZ112:ac Pg 143 (oJ SZ112)) (hZ36:ac Pg 99 (oC SZ36)) (hZ78:ac Pg 144 (Ck SZ78)) (hZ45:ac Pg 145 (vD SZ45)):ac Pg 97 (NE (Y_ N SZ112 SZ36 SZ78 SZ45)):=by
 refine au (cx:=⟨Pg,ah [(143,(oJ SZ112)),(99,(oC SZ36)),(144,(Ck SZ78)),(145,(vD SZ45))],aj,N⟩) (aa hZ112 (aa hZ36 (aa hZ78 (aa hZ45 (ae _))))) VN (Xg (Y_ N SZ112 SZ36 SZ78 SZ45)) (aiE N SZ112 SZ36 SZ78 SZ45) 0 3 (by kernel_rfl) (λi_ hi_=>by omega) ?_;intro a k h;unfold Xg at h;split at h;exact⟨[_,_,_],rfl,rfl,.trans (by kernel_rfl) h⟩;cases h
def ai2 (N:Nat) (SZ65:qH):Nat->Option Ann:=λb_=>none
theorem aa6 (N:Nat) (SZ65:qH) (hZ65:ac Pg 97 (NE SZ65)):ac Pg 204 (YK (Zj N SZ65)):=by
 refine au (cx:=⟨Pg,ah [(97,(NE SZ65))],aj,N⟩) (aa hZ65 (ae _)) Wc (XI (Zj N SZ65)) (ai2 N SZ65) 0 3 (by kernel_rfl) (λi_ hi_=>by omega) ?_;intro a k h;unfold XI at h;split at h;exact⟨[_,_,_],rfl,rfl,.trans (by kernel_rfl) h⟩;cases h
def aee (N:Nat) (SZ117:iT) (SZ36:eu):Nat->Option Ann:=λb_=>none
theorem Sa (N:Nat) (SZ117:iT) (SZ36:eu) (hZ117:ac Pg 117 (uS SZ117)) (hZ36:ac Pg 99 (oC SZ36)):ac Pg 96 (Ix (JF N SZ117 SZ36)):=by
 refine au (cx:=⟨Pg,ah [(117,(uS SZ117)),(99,(oC SZ36))],aj,N⟩) (aa hZ117 (aa hZ36 (ae _))) LN (GI (JF N SZ117 SZ36)) (aee N SZ117 SZ36) 0 1 (by kernel_rfl) (λi_ hi_=>by omega) ?_;intro a k h;unfold GI at h;split at h;exact⟨[_],rfl,rfl,.trans (by kernel_rfl) h⟩;cases h
def ah1 (N:Nat) (SZ105:sC):Nat->Option Ann:=λb_=>none
theorem ZR (N:Nat) (SZ105:sC) (hZ105:ac Pg 96 (Ix SZ105)):ac Pg 51 (yw (YQ N SZ105)):=by
 refine au (cx:=⟨Pg,ah [(96,(Ix SZ105))],aj,N⟩) (aa hZ105 (ae _)) UY (Wn (YQ N SZ105)) (ah1 N SZ105) 0 0 (by kernel_rfl) (λi_ hi_=>by omega) ?_;intro a k h;unfold Wn at h;split at h;exact⟨[],rfl,rfl,.trans (by kernel_rfl) h⟩;cases h
def aep (N:Nat) (SZ78:mC):Nat->Option Ann:=λb_=>none
theorem Sv (N:Nat) (SZ78:mC) (hZ78:ac Pg 144 (Ck SZ78)):ac Pg 205 (IE (JN N SZ78)):=by
 refine au (cx:=⟨Pg,ah [(144,(Ck SZ78))],aj,N⟩) (aa hZ78 (ae _)) L6 (GZ (JN N SZ78)) (aep N SZ78) 0 2 (by kernel_rfl) (λi_ hi_=>by omega) ?_;intro a k h;unfold GZ at h;split at h;exact⟨[_,_],rfl,rfl,.trans (by kernel_rfl) h⟩;cases h
def aiJ (N:Nat) (SZ126:sL) (SZ84:qJ) (SZ95:Ai) (SZ26:er) (SZ14:gC) (SZ124:sJ):Nat->Option Ann:=λb_=>none
theorem aaJ (N:Nat) (SZ126:sL) (SZ84:qJ) (SZ95:Ai) (SZ26:er) (SZ14:gC) (SZ124:sJ) (hZ126:ac Pg 198 (IG SZ126)) (hZ84:ac Pg 98 (NH SZ84)) (hZ95:ac Pg 204 (YK SZ95)) (hZ26:ac Pg 52 (oB SZ26)) (hZ14:ac Pg 51 (yw SZ14)) (hZ124:ac Pg 205 (IE SZ124)):ac Pg 196 (YC (Za N SZ126 SZ84 SZ95 SZ26 SZ14 SZ124)):=by
 refine am (cx:=⟨Pg,ah [(198,(IG SZ126)),(98,(NH SZ84)),(204,(YK SZ95)),(52,(oB SZ26)),(51,(yw SZ14)),(205,(IE SZ124))],aj,N⟩) (aa hZ126 (aa hZ84 (aa hZ95 (aa hZ26 (aa hZ14 (aa hZ124 (ae _))))))) VS (Xl (Za N SZ126 SZ84 SZ95 SZ26 SZ14 SZ124)) (aiJ N SZ126 SZ84 SZ95 SZ26 SZ14 SZ124) 0 1 (by kernel_rfl) (λi_ hi_=>by omega) ?_;intro a k h;unfold Xl at h;split at h;exact⟨[_],rfl,rfl,.trans (by kernel_rfl) h⟩;cases h
section
variable (N:Nat) (SZ45:gl)
noncomputable abbrev oZ:Cx:=⟨Pg,ah [(145,(vD SZ45))],aj,N⟩
def ky (N:Nat) (SZ45:gl):Nat->Option Ann:=λb_=>none
def FP (d_:List V) (u_:List (Option Blk)) (i:Int) (b:Bool) (b_1:LI) (b_3:Int):St:=⟨(.ptr 0 0::dqs d_ 0 5 (vwv b_3::dqs d_ 5 34 [])),[some ⟨98,1,.cells [.bool b,vws b_1]⟩]⟩
def FN (d_:List V) (u_:List (Option Blk)) (i:Int) (b:Bool) (b_1:LI):St:=⟨(.ptr 0 0::vwi i::dqs d_ 0 3 (vws b_1::dqs d_ 3 35 [])),[some ⟨98,1,.cells [.bool b,vws b_1]⟩]⟩
def F0 (d_:List V) (u_:List (Option Blk)) (i:Int) (b:Bool) (b_1:LI) (b_2:Int):St:=⟨(.ptr 0 0::dqs d_ 0 5 (vwv b_2::dqs d_ 5 34 [])),[some ⟨98,1,.cells [.bool b,vws b_1]⟩,(u_.getD 0 none)]⟩
def FO (d_:List V) (u_:List (Option Blk)) (i:Int) (b:Bool) (b_1 m:LI):St:=⟨(.ptr 0 0::vwi i::dqs d_ 0 3 (vws m::dqs d_ 3 35 [])),[some ⟨98,1,.cells [.bool b,vws b_1]⟩,(u_.getD 0 none)]⟩
theorem ags (d_:List V) (u_:List (Option Blk)) (i:Int) (b:Bool) (b_1:LI) (b_3:Int) (c_:KV):aB (oZ N SZ45) 1 (ky N SZ45) ((cds Pg 206).drop 7) 0 (FP d_ u_ i b b_1 b_3) (uk Pg 206 1 c_)=Ki N SZ45 i b b_1 b_3 (λr0=>c_ (vwu r0) [⟨98,1,.cells [.bool b,vws b_1]⟩]):=by kernel_rfl
theorem af4 (d_:List V) (u_:List (Option Blk)) (i:Int) (b:Bool) (b_1:LI) (c_:KV) (κn_:St->Bool):aB (oZ N SZ45) 1 (ky N SZ45) (sg Pg 206 4 3) 0 (FN d_ u_ i b b_1) { (uk Pg 206 1 c_)with nrm:=κn_ } = (aw .i64 (Int.tdiv i 32)&&cond (decide ((Int.tdiv i 32)<((b_1.length:Nat):Int))) (aw .i64 (Int.tdiv i 32)&&(inR (Int.tdiv i 32) b_1.length&&(decide (0<=(IntKind.wrap .u64 (Int.tmod i 32)))&&κn_ (FP (vwi i::dqs d_ 0 3 (vws b_1::dqs d_ 4 11 (vwi i::vwi (Int.tdiv i 32)::vws b_1::vwi ((b_1.length:Nat):Int)::.bool true::vws b_1::vwi i::vwi (Int.tdiv i 32)::.pi .u32 b_1 (Int.toNat (Int.tdiv i 32))::vwv (b_1.getD (Int.toNat (Int.tdiv i 32)) 0)::vwi i::vwi (Int.tmod i 32)::vwu (IntKind.wrap .u64 (Int.tmod i 32))::vwv (Int.fdiv (b_1.getD (Int.toNat (Int.tdiv i 32)) 0) (2 ^ (min (Int.toNat (IntKind.wrap .u64 (Int.tmod i 32))) 32)))::vwv (av .and .u32 (Int.fdiv (b_1.getD (Int.toNat (Int.tdiv i 32)) 0) (2 ^ (min (Int.toNat (IntKind.wrap .u64 (Int.tmod i 32))) 32))) 1)::dqs d_ 30 8 []))) [] i b b_1 (av .and .u32 (Int.fdiv (b_1.getD (Int.toNat (Int.tdiv i 32)) 0) (2 ^ (min (Int.toNat (IntKind.wrap .u64 (Int.tmod i 32))) 32))) 1))))) (κn_ (FP (vwi i::dqs d_ 0 3 (vws b_1::dqs d_ 4 11 (vwi i::vwi (Int.tdiv i 32)::vws b_1::vwi ((b_1.length:Nat):Int)::.bool false::dqs d_ 20 18 []))) [] i b b_1 0))):=by kernel_rfl
theorem agq (d_:List V) (u_:List (Option Blk)) (i:Int) (b:Bool) (b_1:LI) (c_:KV):aB (oZ N SZ45) 1 (ky N SZ45) ((cds Pg 206).drop 4) 0 (FN d_ u_ i b b_1) (uk Pg 206 1 c_)=QA N SZ45 i b b_1 (λr0=>c_ (vwu r0) [⟨98,1,.cells [.bool b,vws b_1]⟩]):=by rw[aP 4 3 7 rfl];refine(af4 N SZ45 d_ u_ i b b_1 c_ _).trans ?_;simp only[ags];kernel_rfl
theorem agB (d_:List V) (u_:List (Option Blk)) (i:Int) (b:Bool) (b_1:LI) (b_2:Int) (c_:KV):aB (oZ N SZ45) 1 (ky N SZ45) ((cds Pg 206).drop 7) 0 (F0 d_ u_ i b b_1 b_2) (uk Pg 206 1 c_)=QB N SZ45 i b b_1 b_2 (λr0=>c_ (vwu r0) [⟨98,1,.cells [.bool b,vws b_1]⟩]):=by kernel_rfl
theorem af5 (d_:List V) (u_:List (Option Blk)) (i:Int) (b:Bool) (b_1 m:LI) (c_:KV) (κn_:St->Bool):aB (oZ N SZ45) 1 (ky N SZ45) (sg Pg 206 4 3) 0 (FO d_ u_ i b b_1 m) { (uk Pg 206 1 c_)with nrm:=κn_ } = (aw .i64 (Int.tdiv i 32)&&cond (decide ((Int.tdiv i 32)<((m.length:Nat):Int))) (aw .i64 (Int.tdiv i 32)&&(inR (Int.tdiv i 32) m.length&&(decide (0<=(IntKind.wrap .u64 (Int.tmod i 32)))&&κn_ (F0 (vwi i::dqs d_ 0 3 (vws m::dqs d_ 4 11 (vwi i::vwi (Int.tdiv i 32)::vws m::vwi ((m.length:Nat):Int)::.bool true::vws m::vwi i::vwi (Int.tdiv i 32)::.pi .u32 m (Int.toNat (Int.tdiv i 32))::vwv (m.getD (Int.toNat (Int.tdiv i 32)) 0)::vwi i::vwi (Int.tmod i 32)::vwu (IntKind.wrap .u64 (Int.tmod i 32))::vwv (Int.fdiv (m.getD (Int.toNat (Int.tdiv i 32)) 0) (2 ^ (min (Int.toNat (IntKind.wrap .u64 (Int.tmod i 32))) 32)))::vwv (av .and .u32 (Int.fdiv (m.getD (Int.toNat (Int.tdiv i 32)) 0) (2 ^ (min (Int.toNat (IntKind.wrap .u64 (Int.tmod i 32))) 32))) 1)::dqs d_ 30 8 []))) [(u_.getD 0 none)] i b b_1 (av .and .u32 (Int.fdiv (m.getD (Int.toNat (Int.tdiv i 32)) 0) (2 ^ (min (Int.toNat (IntKind.wrap .u64 (Int.tmod i 32))) 32))) 1))))) (κn_ (F0 (vwi i::dqs d_ 0 3 (vws m::dqs d_ 4 11 (vwi i::vwi (Int.tdiv i 32)::vws m::vwi ((m.length:Nat):Int)::.bool false::dqs d_ 20 18 []))) [(u_.getD 0 none)] i b b_1 0))):=by kernel_rfl
theorem agr (d_:List V) (u_:List (Option Blk)) (i:Int) (b:Bool) (b_1 m:LI) (c_:KV):aB (oZ N SZ45) 1 (ky N SZ45) ((cds Pg 206).drop 4) 0 (FO d_ u_ i b b_1 m) (uk Pg 206 1 c_)=ab1 N SZ45 i b b_1 m (λr0=>c_ (vwu r0) [⟨98,1,.cells [.bool b,vws b_1]⟩]):=by rw[aP 4 3 7 rfl];refine(af5 N SZ45 d_ u_ i b b_1 m c_ _).trans ?_;simp only[agB];kernel_rfl
theorem vI (i:Int) (b:Bool) (b_1:LI) (c_:KV) (κn_:St->Bool):aB (oZ N SZ45) 1 (ky N SZ45) (sg Pg 206 0 4) 0 (st0 Pg 206 (rS.args [.int i,.bool b,.ints b_1]) [⟨98,1,.cells [.bool b,vws b_1]⟩]) { (uk Pg 206 1 c_)with nrm:=κn_ } = (cond b (SZ45 b_1 [1] (λnsr=>κn_ (FO (.any::.any::vwu 0::.any::.ptr 0 0::.ptr 0 0::.ptr 0 1::vws b_1::.ptr 0 0::.ptr 0 0::.ptr 0 0::.bool true::vws b_1::.slw 1::vws nsr::vqs 23 []) [none] i b b_1 nsr))) (κn_ (FN (.any::.any::vwu 0::.any::.ptr 0 0::.ptr 0 0::.ptr 0 1::vws b_1::.ptr 0 0::.ptr 0 0::.ptr 0 0::.bool false::vqs 26 []) [] i b b_1))):=by kernel_rfl
theorem vL (i:Int) (b:Bool) (b_1:LI) (c_:KV):aB (oZ N SZ45) 1 (ky N SZ45) ((cds Pg 206).drop 0) 0 (st0 Pg 206 (rS.args [.int i,.bool b,.ints b_1]) [⟨98,1,.cells [.bool b,vws b_1]⟩]) (uk Pg 206 1 c_)=zw N SZ45 i b b_1 (λr0=>c_ (vwu r0) [⟨98,1,.cells [.bool b,vws b_1]⟩]):=by rw[aP 0 4 4 rfl];refine(vI N SZ45 i b b_1 c_ _).trans ?_;simp only[agr,agq];kernel_rfl
theorem afr (i:Int) (b:Bool) (b_1:LI) (c_:KV):wM (oZ N SZ45) (ky N SZ45) 206 (rS.args [.int i,.bool b,.ints b_1]) [⟨98,1,.cells [.bool b,vws b_1]⟩] c_=zw N SZ45 i b b_1 (λr0=>c_ (vwu r0) [⟨98,1,.cells [.bool b,vws b_1]⟩]):=
 (u9 (by kernel_rfl)).trans (vL N SZ45 i b b_1 c_)
theorem SR (hZ45:ac Pg 145 (vD SZ45)):ac Pg 206 (IW (zw N SZ45)):=by
 refine au (cx:=(oZ N SZ45)) (aa hZ45 (ae _)) rS (Ho (zw N SZ45)) (ky N SZ45) 0 1 (by kernel_rfl) (λi_ hi_=>by omega) ?_;intro a k h;unfold Ho at h;split at h;exact⟨[_],rfl,rfl,(afr _ _ _ _ _ _).trans h⟩;cases h
end
def aib (N:Nat) (SZ147:sV):Nat->Option Ann:=λb_=>none
theorem Z6 (N:Nat) (SZ147:sV) (hZ147:ac Pg 206 (IW SZ147)):ac Pg 197 (Yi (YX N SZ147)):=by
 refine am (cx:=⟨Pg,ah [(206,(IW SZ147))],aj,N⟩) (aa hZ147 (ae _)) Ve (WF (YX N SZ147)) (aib N SZ147) 0 1 (by kernel_rfl) (λi_ hi_=>by omega) ?_;intro a k h;unfold WF at h;split at h;exact⟨[_],rfl,rfl,.trans (by kernel_rfl) h⟩;cases h
def aeb (N:Nat) (SZ112:f4) (SZ75:jQ) (SZ78:mC) (SZ45:gl):Nat->Option Ann:=λb_=>none
theorem R7 (N:Nat) (SZ112:f4) (SZ75:jQ) (SZ78:mC) (SZ45:gl) (hZ112:ac Pg 143 (oJ SZ112)) (hZ75:ac Pg 99 (yz SZ75)) (hZ78:ac Pg 144 (Ck SZ78)) (hZ45:ac Pg 145 (vD SZ45)):ac Pg 97 (It (JE N SZ112 SZ75 SZ78 SZ45)):=by
 refine au (cx:=⟨Pg,ah [(143,(oJ SZ112)),(99,(yz SZ75)),(144,(Ck SZ78)),(145,(vD SZ45))],aj,N⟩) (aa hZ112 (aa hZ75 (aa hZ78 (aa hZ45 (ae _))))) LG (GE (JE N SZ112 SZ75 SZ78 SZ45)) (aeb N SZ112 SZ75 SZ78 SZ45) 0 2 (by kernel_rfl) (λi_ hi_=>by omega) ?_;intro a k h;unfold GE at h;split at h;exact⟨[_,_],rfl,rfl,.trans (by kernel_rfl) h⟩;cases h
def alQ (N:Nat) (SZ101:sw):Nat->Option Ann:=λb_=>none
theorem afV (N:Nat) (SZ101:sw) (hZ101:ac Pg 97 (It SZ101)):ac Pg 53 (FZ4 (GZ4 N SZ101)):=by
 refine au (cx:=⟨Pg,ah [(97,(It SZ101))],aj,N⟩) (aa hZ101 (ae _)) adf (ahp (GZ4 N SZ101)) (alQ N SZ101) 0 2 (by kernel_rfl) (λi_ hi_=>by omega) ?_;intro a k h;unfold ahp at h;split at h;exact⟨[_,_],rfl,rfl,.trans (by kernel_rfl) h⟩;cases h
def ah0 (N:Nat) (SZ141:lz) (SZ75:jQ) (SZ45:gl) (SZ112:f4):Nat->Option Ann:=λb_=>none
theorem ZQ (N:Nat) (SZ141:lz) (SZ75:jQ) (SZ45:gl) (SZ112:f4) (hZ141:ac Pg 207 (zg SZ141)) (hZ75:ac Pg 99 (yz SZ75)) (hZ45:ac Pg 145 (vD SZ45)) (hZ112:ac Pg 143 (oJ SZ112)):ac Pg 198 (Yd (YP N SZ141 SZ75 SZ45 SZ112)):=by
 refine au (cx:=⟨Pg,ah [(207,(zg SZ141)),(99,(yz SZ75)),(145,(vD SZ45)),(143,(oJ SZ112))],aj,N⟩) (aa hZ141 (aa hZ75 (aa hZ45 (aa hZ112 (ae _))))) UX (Wm (YP N SZ141 SZ75 SZ45 SZ112)) (ah0 N SZ141 SZ75 SZ45 SZ112) 0 1 (by kernel_rfl) (λi_ hi_=>by omega) ?_;intro a k h;unfold Wm at h;split at h;exact⟨[_],rfl,rfl,.trans (by kernel_rfl) h⟩;cases h
def aiI (N:Nat) (SZ116:lq):Nat->Option Ann:=λb_=>none
theorem aaI (N:Nat) (SZ116:lq) (hZ116:ac Pg 185 (y9 SZ116)):ac Pg 199 (YB (adU N SZ116)):=by
 refine am (cx:=⟨Pg,ah [(185,(y9 SZ116))],aj,N⟩) (aa hZ116 (ae _)) VR (Xk (adU N SZ116)) (aiI N SZ116) 0 0 (by kernel_rfl) (λi_ hi_=>by omega) ?_;intro a k h;unfold Xk at h;split at h;exact⟨[],rfl,rfl,.trans (by kernel_rfl) h⟩;cases h
def QZ (N:Nat):Nat->Option Ann:=λb_=>none
def FM (d_:List V) (u_:List (Option Blk)) (b:Bool) (b_1:LI) (u:Int):St:=⟨(.ptr 0 0::(dq d_ 0)::(dq d_ 1)::vwu u::dqs d_ 2 30 []),[some ⟨98,1,.cells [.bool b,vws b_1]⟩]⟩
theorem ago (N:Nat) (d_:List V) (u_:List (Option Blk)) (b:Bool) (b_1:LI) (u:Int) (c_:KV):aB ⟨Pg,ah [],aj,N⟩ 1 (QZ N) ((cds Pg 200).drop 4) 0 (FM d_ u_ b b_1 u) (uk Pg 200 1 c_)=Qz N b b_1 u (λr0=>c_ (vwu r0) [⟨98,1,.cells [.bool b,vws b_1]⟩]):=by kernel_rfl
theorem pD (N:Nat) (b:Bool) (b_1:LI) (c_:KV) (κn_:St->Bool):aB ⟨Pg,ah [],aj,N⟩ 1 (QZ N) (sg Pg 200 0 4) 0 (st0 Pg 200 (D7.args [.bool b,.ints b_1]) [⟨98,1,.cells [.bool b,vws b_1]⟩]) { (uk Pg 200 1 c_)with nrm:=κn_ } = (cond (decide (((b_1.length:Nat):Int)>0)) (inR 0 b_1.length&&κn_ (FM (.any::vwu 0::.ptr 0 0::.ptr 0 0::.ptr 0 1::vws b_1::vwi ((b_1.length:Nat):Int)::.bool true::.ptr 0 0::.ptr 0 0::.ptr 0 1::vws b_1::.pi .u32 b_1 0::vwv (b_1.getD 0 0)::vwu (IntKind.wrap .u64 (b_1.getD 0 0))::vqs 17 []) [] b b_1 (IntKind.wrap .u64 (b_1.getD 0 0)))) (κn_ (FM (.any::vwu 0::.ptr 0 0::.ptr 0 0::.ptr 0 1::vws b_1::vwi ((b_1.length:Nat):Int)::.bool false::vqs 24 []) [] b b_1 0))):=by kernel_rfl
theorem pM (N:Nat) (b:Bool) (b_1:LI) (c_:KV):aB ⟨Pg,ah [],aj,N⟩ 1 (QZ N) ((cds Pg 200).drop 0) 0 (st0 Pg 200 (D7.args [.bool b,.ints b_1]) [⟨98,1,.cells [.bool b,vws b_1]⟩]) (uk Pg 200 1 c_)=GZ9 N b b_1 (λr0=>c_ (vwu r0) [⟨98,1,.cells [.bool b,vws b_1]⟩]):=by rw[aP 0 4 4 rfl];refine(pD N b b_1 c_ _).trans ?_;simp only[ago];kernel_rfl
theorem alW (N:Nat) (b:Bool) (b_1:LI) (c_:KV):wM ⟨Pg,ah [],aj,N⟩ (QZ N) 200 (D7.args [.bool b,.ints b_1]) [⟨98,1,.cells [.bool b,vws b_1]⟩] c_=GZ9 N b b_1 (λr0=>c_ (vwu r0) [⟨98,1,.cells [.bool b,vws b_1]⟩]):=
 (u9 (by kernel_rfl)).trans (pM N b b_1 c_)
theorem af0 (N:Nat):ac Pg 200 (FZ9 (GZ9 N)):=by
 refine au (cx:=⟨Pg,ah [],aj,N⟩) (ae _) D7 (ahu (GZ9 N)) (QZ N) 0 1 (by kernel_rfl) (λi_ hi_=>by omega) ?_;intro a k h;unfold ahu at h;split at h;exact⟨[_],rfl,rfl,(alW _ _ _ _).trans h⟩;cases h
section
variable (N:Nat) (SZ7:yC) (SZ10:oO) (SZ15:oQ) (SZ70:oW) (SZ29:oR) (SZ14:gC) (SZ4:yB) (SZ13:oP) (SZ69:oV) (SZ9:yE) (SZ77:jh)
noncomputable abbrev ez:Cx:=⟨Pg,ah [(194,(FZ7 SZ7)),(195,(Yb SZ10)),(98,(Ye SZ15)),(196,(YC SZ70)),(197,(Yi SZ29)),(51,(yw SZ14)),(53,(FZ4 SZ4)),(198,(Yd SZ13)),(199,(YB SZ69)),(200,(FZ9 SZ9)),(193,(Cj SZ77))],aj,N⟩
def dd (N:Nat) (SZ7:yC) (SZ10:oO) (SZ15:oQ) (SZ70:oW) (SZ29:oR) (SZ14:gC) (SZ4:yB) (SZ13:oP) (SZ69:oV) (SZ9:yE) (SZ77:jh):Nat->Option Ann:=λb_=>none
def FT (d_:List V) (u_:List (Option Blk)) (neg:Bool) (e:Int) (b:Bool) (b_1:LI) (ans an4:Int) (aoW:Bool) (aoX:LI):St:=⟨((dq d_ 0)::.bool neg::dqs d_ 1 3 (vwi 0::.ptr 1 0::dqs d_ 4 8 (vwi ans::.ptr 3 0::(dq d_ 12)::vwi an4::dqs d_ 13 114 []))),[some ⟨98,1,.cells [.bool b,vws b_1]⟩,some ⟨202,1,.cells [vwi 53,vwi (-1022),vwi 1023,vwi 11]⟩,(u_.getD 0 none),some ⟨98,1,.cells [.bool aoW,vws aoX]⟩]⟩
def xG (d_:List V) (u_:List (Option Blk)) (neg:Bool) (e:Int) (b:Bool) (b_1:LI) (anc anI:Int) (aoq:Bool) (aor:LI):St:=⟨((dq d_ 0)::.bool neg::dqs d_ 1 3 (vwi 0::.ptr 1 0::dqs d_ 4 8 (vwi anc::.ptr 3 0::(dq d_ 12)::vwi anI::dqs d_ 13 114 []))),[some ⟨98,1,.cells [.bool b,vws b_1]⟩,some ⟨202,1,.cells [vwi 53,vwi (-1022),vwi 1023,vwi 11]⟩,(u_.getD 0 none),some ⟨98,1,.cells [.bool aoq,vws aor]⟩]⟩
def FZ (d_:List V) (u_:List (Option Blk)) (neg:Bool) (e:Int) (b:Bool) (b_1:LI) (anW anp c_2:Int) (aoo:Bool) (aop:LI):St:=⟨((dq d_ 0)::.bool neg::dqs d_ 1 3 (vwi 0::.ptr 1 0::dqs d_ 4 7 (vwi anW::vwi anp::.ptr 3 0::vwi c_2::dqs d_ 11 115 []))),[some ⟨98,1,.cells [.bool b,vws b_1]⟩,some ⟨202,1,.cells [vwi 53,vwi (-1022),vwi 1023,vwi 11]⟩,(u_.getD 0 none),some ⟨98,1,.cells [.bool aoo,vws aop]⟩]⟩
def F5 (d_:List V) (u_:List (Option Blk)) (neg:Bool) (e:Int) (b:Bool) (b_1:LI) (anC an3:Int) (aoU:Bool) (aoV:LI):St:=⟨((dq d_ 0)::.bool neg::dqs d_ 1 3 (vwi 0::.ptr 1 0::dqs d_ 4 8 (vwi anC::.ptr 3 0::(dq d_ 12)::vwi an3::dqs d_ 13 114 []))),[some ⟨98,1,.cells [.bool b,vws b_1]⟩,some ⟨202,1,.cells [vwi 53,vwi (-1022),vwi 1023,vwi 11]⟩,(u_.getD 0 none),some ⟨98,1,.cells [.bool aoU,vws aoV]⟩,(u_.getD 1 none)]⟩
def xH (d_:List V) (u_:List (Option Blk)) (neg:Bool) (e:Int) (b:Bool) (b_1:LI) (anj flags:Int) (aom:Bool) (aon:LI):St:=⟨((dq d_ 0)::.bool neg::dqs d_ 1 3 (vwi 0::.ptr 1 0::dqs d_ 4 8 (vwi anj::.ptr 3 0::(dq d_ 12)::vwi flags::dqs d_ 13 114 []))),[some ⟨98,1,.cells [.bool b,vws b_1]⟩,some ⟨202,1,.cells [vwi 53,vwi (-1022),vwi 1023,vwi 11]⟩,(u_.getD 0 none),some ⟨98,1,.cells [.bool aom,vws aon]⟩,(u_.getD 1 none)]⟩
def FY (d_:List V) (u_:List (Option Blk)) (neg:Bool) (e:Int) (b:Bool) (b_1:LI) (anV ano c_1:Int) (aok:Bool) (aol:LI):St:=⟨((dq d_ 0)::.bool neg::dqs d_ 1 3 (vwi 0::.ptr 1 0::dqs d_ 4 7 (vwi anV::vwi ano::.ptr 3 0::vwi c_1::dqs d_ 11 115 []))),[some ⟨98,1,.cells [.bool b,vws b_1]⟩,some ⟨202,1,.cells [vwi 53,vwi (-1022),vwi 1023,vwi 11]⟩,(u_.getD 0 none),some ⟨98,1,.cells [.bool aok,vws aol]⟩,(u_.getD 1 none)]⟩
def F4 (d_:List V) (u_:List (Option Blk)) (neg:Bool) (e:Int) (b:Bool) (b_1:LI) (an7 ant c:Int) (aoi:Bool) (aoj:LI):St:=⟨((dq d_ 0)::.bool neg::dqs d_ 1 3 (vwi 0::.ptr 1 0::dqs d_ 4 7 (vwi an7::vwi ant::.ptr 3 0::vwi c::dqs d_ 11 115 []))),[some ⟨98,1,.cells [.bool b,vws b_1]⟩,some ⟨202,1,.cells [vwi 53,vwi (-1022),vwi 1023,vwi 11]⟩,(u_.getD 0 none),some ⟨98,1,.cells [.bool aoi,vws aoj]⟩]⟩
def F3 (d_:List V) (u_:List (Option Blk)) (neg:Bool) (e:Int) (b:Bool) (b_1:LI) (anB:Int) (q_8:Bool) (q_9:LI):St:=⟨((dq d_ 0)::.bool neg::dqs d_ 1 3 (vwi 0::.ptr 1 0::dqs d_ 4 8 (vwi anB::.ptr 2 0::(dq d_ 12)::vwi 0::dqs d_ 13 114 []))),[some ⟨98,1,.cells [.bool b,vws b_1]⟩,some ⟨202,1,.cells [vwi 53,vwi (-1022),vwi 1023,vwi 11]⟩,some ⟨98,1,.cells [.bool q_8,vws q_9]⟩]⟩
def FX (d_:List V) (u_:List (Option Blk)) (neg:Bool) (e:Int) (b:Bool) (b_1:LI) (aoe ani:Int) (q_6:Bool) (q_7:LI):St:=⟨((dq d_ 0)::.bool neg::dqs d_ 1 3 (vwi 0::.ptr 1 0::dqs d_ 4 7 (vwi aoe::vwi ani::.ptr 2 0::vwi (-2)::dqs d_ 11 115 []))),[some ⟨98,1,.cells [.bool b,vws b_1]⟩,some ⟨202,1,.cells [vwi 53,vwi (-1022),vwi 1023,vwi 11]⟩,some ⟨98,1,.cells [.bool q_6,vws q_7]⟩]⟩
def F2 (d_:List V) (u_:List (Option Blk)) (neg:Bool) (e:Int) (b:Bool) (b_1:LI) (anA:Int) (q_4:Bool) (q_5:LI):St:=⟨((dq d_ 0)::.bool neg::dqs d_ 1 3 (vwi 0::.ptr 1 0::dqs d_ 4 8 (vwi anA::.ptr 2 0::(dq d_ 12)::vwi 0::dqs d_ 13 114 []))),[some ⟨98,1,.cells [.bool b,vws b_1]⟩,some ⟨202,1,.cells [vwi 53,vwi (-1022),vwi 1023,vwi 11]⟩,some ⟨98,1,.cells [.bool q_4,vws q_5]⟩,(u_.getD 0 none)]⟩
def FV (d_:List V) (u_:List (Option Blk)) (neg:Bool) (e:Int) (b:Bool) (b_1:LI) (aod anh:Int) (q_2:Bool) (q_3:LI):St:=⟨((dq d_ 0)::.bool neg::dqs d_ 1 3 (vwi 0::.ptr 1 0::dqs d_ 4 7 (vwi aod::vwi anh::.ptr 2 0::vwi (-2)::dqs d_ 11 115 []))),[some ⟨98,1,.cells [.bool b,vws b_1]⟩,some ⟨202,1,.cells [vwi 53,vwi (-1022),vwi 1023,vwi 11]⟩,some ⟨98,1,.cells [.bool q_2,vws q_3]⟩,(u_.getD 0 none)]⟩
def F1 (d_:List V) (u_:List (Option Blk)) (neg:Bool) (e:Int) (b:Bool) (b_1:LI) (top quantum:Int) (q:Bool) (q_1:LI):St:=⟨((dq d_ 0)::.bool neg::dqs d_ 1 3 (vwi 0::.ptr 1 0::dqs d_ 4 7 (vwi top::vwi quantum::.ptr 2 0::vwi (-2)::dqs d_ 11 115 []))),[some ⟨98,1,.cells [.bool b,vws b_1]⟩,some ⟨202,1,.cells [vwi 53,vwi (-1022),vwi 1023,vwi 11]⟩,some ⟨98,1,.cells [.bool q,vws q_1]⟩]⟩
theorem agv (d_:List V) (u_:List (Option Blk)) (neg:Bool) (e:Int) (b:Bool) (b_1:LI) (ans an4:Int) (aoW:Bool) (aoX:LI) (c_:KV):aB (ez N SZ7 SZ10 SZ15 SZ70 SZ29 SZ14 SZ4 SZ13 SZ69 SZ9 SZ77) 1 (dd N SZ7 SZ10 SZ15 SZ70 SZ29 SZ14 SZ4 SZ13 SZ69 SZ9 SZ77) ((cds Pg 188).drop 13) 0 (FT d_ u_ neg e b b_1 ans an4 aoW aoX) (bR Pg 188 1 c_)=CB N SZ7 SZ10 SZ15 SZ70 SZ29 SZ14 SZ4 SZ13 SZ69 SZ9 SZ77 neg e b b_1 ans an4 aoW aoX (λr0 r1=>c_ (.tup [vwu r0,vwi r1]) [⟨98,1,.cells [.bool b,vws b_1]⟩]):=by kernel_rfl
theorem af2 (d_:List V) (u_:List (Option Blk)) (neg:Bool) (e:Int) (b:Bool) (b_1:LI) (anc anI:Int) (aoq:Bool) (aor:LI) (c_:KV) (κn_:St->Bool):aB (ez N SZ7 SZ10 SZ15 SZ70 SZ29 SZ14 SZ4 SZ13 SZ69 SZ9 SZ77) 1 (dd N SZ7 SZ10 SZ15 SZ70 SZ29 SZ14 SZ4 SZ13 SZ69 SZ9 SZ77) (sg Pg 188 11 2) 0 (xG d_ u_ neg e b b_1 anc anI aoq aor) { (bR Pg 188 1 c_)with nrm:=κn_ } = (SZ7 aoq aor (λn26=>cond (decide (n26>53)) (SZ13 1 aoq aor (λc12 s10=>aw .i64 (anc+1)&&κn_ (FT (dqs d_ 0 71 (.ptr 3 0::vwi n26::.ptr 1 0::vwi 53::.bool true::.ptr 3 0::.ptr 3 0::.ptr 3 0::vwi anc::vwi (anc+1)::dqs d_ 81 46 [])) [(u_.getD 0 none)] neg e b b_1 (anc+1) anI c12 s10))) (κn_ (FT (dqs d_ 0 71 (.ptr 3 0::vwi n26::.ptr 1 0::vwi 53::.bool false::dqs d_ 76 51 [])) [(u_.getD 0 none)] neg e b b_1 anc anI aoq aor)))):=by kernel_rfl
theorem agj (d_:List V) (u_:List (Option Blk)) (neg:Bool) (e:Int) (b:Bool) (b_1:LI) (anc anI:Int) (aoq:Bool) (aor:LI) (c_:KV):aB (ez N SZ7 SZ10 SZ15 SZ70 SZ29 SZ14 SZ4 SZ13 SZ69 SZ9 SZ77) 1 (dd N SZ7 SZ10 SZ15 SZ70 SZ29 SZ14 SZ4 SZ13 SZ69 SZ9 SZ77) ((cds Pg 188).drop 11) 0 (xG d_ u_ neg e b b_1 anc anI aoq aor) (bR Pg 188 1 c_)=zD N SZ7 SZ10 SZ15 SZ70 SZ29 SZ14 SZ4 SZ13 SZ69 SZ9 SZ77 neg e b b_1 anc anI aoq aor (λr0 r1=>c_ (.tup [vwu r0,vwi r1]) [⟨98,1,.cells [.bool b,vws b_1]⟩]):=by rw[aP 11 2 13 rfl];refine(af2 N SZ7 SZ10 SZ15 SZ70 SZ29 SZ14 SZ4 SZ13 SZ69 SZ9 SZ77 d_ u_ neg e b b_1 anc anI aoq aor c_ _).trans ?_;simp only[agv];kernel_rfl
theorem aga (d_:List V) (u_:List (Option Blk)) (neg:Bool) (e:Int) (b:Bool) (b_1:LI) (anW anp c_2:Int) (aoo:Bool) (aop:LI) (c_:KV) (κn_:St->Bool):aB (ez N SZ7 SZ10 SZ15 SZ70 SZ29 SZ14 SZ4 SZ13 SZ69 SZ9 SZ77) 1 (dd N SZ7 SZ10 SZ15 SZ70 SZ29 SZ14 SZ4 SZ13 SZ69 SZ9 SZ77) (sg Pg 188 8 3) 0 (FZ d_ u_ neg e b b_1 anW anp c_2 aoo aop) { (bR Pg 188 1 c_)with nrm:=κn_ } = (cond (decide (c_2>(-2))) (cond (decide (anW<(-1022))) (κn_ (xG (dqs d_ 0 11 (vwi anW::vwi c_2::dqs d_ 12 50 (vwi c_2::.bool true::vwi anW::.ptr 1 1::vwi (-1022)::.bool true::vwi 1::vwi 3::dqs d_ 70 56 []))) [(u_.getD 0 none)] neg e b b_1 anp 3 aoo aop)) (κn_ (xG (dqs d_ 0 11 (vwi anW::vwi c_2::dqs d_ 12 50 (vwi c_2::.bool true::vwi anW::.ptr 1 1::vwi (-1022)::.bool false::dqs d_ 68 58 []))) [(u_.getD 0 none)] neg e b b_1 anp 1 aoo aop))) (κn_ (xG (dqs d_ 0 11 (vwi anW::vwi c_2::dqs d_ 12 50 (vwi c_2::.bool false::dqs d_ 64 62 []))) [(u_.getD 0 none)] neg e b b_1 anp 0 aoo aop))):=by kernel_rfl
theorem agA (d_:List V) (u_:List (Option Blk)) (neg:Bool) (e:Int) (b:Bool) (b_1:LI) (anW anp c_2:Int) (aoo:Bool) (aop:LI) (c_:KV):aB (ez N SZ7 SZ10 SZ15 SZ70 SZ29 SZ14 SZ4 SZ13 SZ69 SZ9 SZ77) 1 (dd N SZ7 SZ10 SZ15 SZ70 SZ29 SZ14 SZ4 SZ13 SZ69 SZ9 SZ77) ((cds Pg 188).drop 8) 0 (FZ d_ u_ neg e b b_1 anW anp c_2 aoo aop) (bR Pg 188 1 c_)=Kl N SZ7 SZ10 SZ15 SZ70 SZ29 SZ14 SZ4 SZ13 SZ69 SZ9 SZ77 neg e b b_1 anW anp c_2 aoo aop (λr0 r1=>c_ (.tup [vwu r0,vwi r1]) [⟨98,1,.cells [.bool b,vws b_1]⟩]):=by rw[aP 8 3 11 rfl];refine(aga N SZ7 SZ10 SZ15 SZ70 SZ29 SZ14 SZ4 SZ13 SZ69 SZ9 SZ77 d_ u_ neg e b b_1 anW anp c_2 aoo aop c_ _).trans ?_;simp only[agj];kernel_rfl
theorem agG (d_:List V) (u_:List (Option Blk)) (neg:Bool) (e:Int) (b:Bool) (b_1:LI) (anC an3:Int) (aoU:Bool) (aoV:LI) (c_:KV):aB (ez N SZ7 SZ10 SZ15 SZ70 SZ29 SZ14 SZ4 SZ13 SZ69 SZ9 SZ77) 1 (dd N SZ7 SZ10 SZ15 SZ70 SZ29 SZ14 SZ4 SZ13 SZ69 SZ9 SZ77) ((cds Pg 188).drop 13) 0 (F5 d_ u_ neg e b b_1 anC an3 aoU aoV) (bR Pg 188 1 c_)=CE N SZ7 SZ10 SZ15 SZ70 SZ29 SZ14 SZ4 SZ13 SZ69 SZ9 SZ77 neg e b b_1 anC an3 aoU aoV (λr0 r1=>c_ (.tup [vwu r0,vwi r1]) [⟨98,1,.cells [.bool b,vws b_1]⟩]):=by kernel_rfl
theorem af3 (d_:List V) (u_:List (Option Blk)) (neg:Bool) (e:Int) (b:Bool) (b_1:LI) (anj flags:Int) (aom:Bool) (aon:LI) (c_:KV) (κn_:St->Bool):aB (ez N SZ7 SZ10 SZ15 SZ70 SZ29 SZ14 SZ4 SZ13 SZ69 SZ9 SZ77) 1 (dd N SZ7 SZ10 SZ15 SZ70 SZ29 SZ14 SZ4 SZ13 SZ69 SZ9 SZ77) (sg Pg 188 11 2) 0 (xH d_ u_ neg e b b_1 anj flags aom aon) { (bR Pg 188 1 c_)with nrm:=κn_ } = (SZ7 aom aon (λn18=>cond (decide (n18>53)) (SZ13 1 aom aon (λc11 s9=>aw .i64 (anj+1)&&κn_ (F5 (dqs d_ 0 71 (.ptr 3 0::vwi n18::.ptr 1 0::vwi 53::.bool true::.ptr 3 0::.ptr 3 0::.ptr 3 0::vwi anj::vwi (anj+1)::dqs d_ 81 46 [])) [(u_.getD 0 none),(u_.getD 1 none)] neg e b b_1 (anj+1) flags c11 s9))) (κn_ (F5 (dqs d_ 0 71 (.ptr 3 0::vwi n18::.ptr 1 0::vwi 53::.bool false::dqs d_ 76 51 [])) [(u_.getD 0 none),(u_.getD 1 none)] neg e b b_1 anj flags aom aon)))):=by kernel_rfl
theorem agp (d_:List V) (u_:List (Option Blk)) (neg:Bool) (e:Int) (b:Bool) (b_1:LI) (anj flags:Int) (aom:Bool) (aon:LI) (c_:KV):aB (ez N SZ7 SZ10 SZ15 SZ70 SZ29 SZ14 SZ4 SZ13 SZ69 SZ9 SZ77) 1 (dd N SZ7 SZ10 SZ15 SZ70 SZ29 SZ14 SZ4 SZ13 SZ69 SZ9 SZ77) ((cds Pg 188).drop 11) 0 (xH d_ u_ neg e b b_1 anj flags aom aon) (bR Pg 188 1 c_)=zE N SZ7 SZ10 SZ15 SZ70 SZ29 SZ14 SZ4 SZ13 SZ69 SZ9 SZ77 neg e b b_1 anj flags aom aon (λr0 r1=>c_ (.tup [vwu r0,vwi r1]) [⟨98,1,.cells [.bool b,vws b_1]⟩]):=by rw[aP 11 2 13 rfl];refine(af3 N SZ7 SZ10 SZ15 SZ70 SZ29 SZ14 SZ4 SZ13 SZ69 SZ9 SZ77 d_ u_ neg e b b_1 anj flags aom aon c_ _).trans ?_;simp only[agG];kernel_rfl
theorem af_ (d_:List V) (u_:List (Option Blk)) (neg:Bool) (e:Int) (b:Bool) (b_1:LI) (anV ano c_1:Int) (aok:Bool) (aol:LI) (c_:KV) (κn_:St->Bool):aB (ez N SZ7 SZ10 SZ15 SZ70 SZ29 SZ14 SZ4 SZ13 SZ69 SZ9 SZ77) 1 (dd N SZ7 SZ10 SZ15 SZ70 SZ29 SZ14 SZ4 SZ13 SZ69 SZ9 SZ77) (sg Pg 188 8 3) 0 (FY d_ u_ neg e b b_1 anV ano c_1 aok aol) { (bR Pg 188 1 c_)with nrm:=κn_ } = (cond (decide (c_1>(-2))) (cond (decide (anV<(-1022))) (κn_ (xH (dqs d_ 0 11 (vwi anV::vwi c_1::dqs d_ 12 50 (vwi c_1::.bool true::vwi anV::.ptr 1 1::vwi (-1022)::.bool true::vwi 1::vwi 3::dqs d_ 70 56 []))) [(u_.getD 0 none),(u_.getD 1 none)] neg e b b_1 ano 3 aok aol)) (κn_ (xH (dqs d_ 0 11 (vwi anV::vwi c_1::dqs d_ 12 50 (vwi c_1::.bool true::vwi anV::.ptr 1 1::vwi (-1022)::.bool false::dqs d_ 68 58 []))) [(u_.getD 0 none),(u_.getD 1 none)] neg e b b_1 ano 1 aok aol))) (κn_ (xH (dqs d_ 0 11 (vwi anV::vwi c_1::dqs d_ 12 50 (vwi c_1::.bool false::dqs d_ 64 62 []))) [(u_.getD 0 none),(u_.getD 1 none)] neg e b b_1 ano 0 aok aol))):=by kernel_rfl
theorem agz (d_:List V) (u_:List (Option Blk)) (neg:Bool) (e:Int) (b:Bool) (b_1:LI) (anV ano c_1:Int) (aok:Bool) (aol:LI) (c_:KV):aB (ez N SZ7 SZ10 SZ15 SZ70 SZ29 SZ14 SZ4 SZ13 SZ69 SZ9 SZ77) 1 (dd N SZ7 SZ10 SZ15 SZ70 SZ29 SZ14 SZ4 SZ13 SZ69 SZ9 SZ77) ((cds Pg 188).drop 8) 0 (FY d_ u_ neg e b b_1 anV ano c_1 aok aol) (bR Pg 188 1 c_)=Kk N SZ7 SZ10 SZ15 SZ70 SZ29 SZ14 SZ4 SZ13 SZ69 SZ9 SZ77 neg e b b_1 anV ano c_1 aok aol (λr0 r1=>c_ (.tup [vwu r0,vwi r1]) [⟨98,1,.cells [.bool b,vws b_1]⟩]):=by rw[aP 8 3 11 rfl];refine(af_ N SZ7 SZ10 SZ15 SZ70 SZ29 SZ14 SZ4 SZ13 SZ69 SZ9 SZ77 d_ u_ neg e b b_1 anV ano c_1 aok aol c_ _).trans ?_;simp only[agp];kernel_rfl
theorem agc (d_:List V) (u_:List (Option Blk)) (neg:Bool) (e:Int) (b:Bool) (b_1:LI) (an7 ant c:Int) (aoi:Bool) (aoj:LI) (c_:KV) (κn_:St->Bool):aB (ez N SZ7 SZ10 SZ15 SZ70 SZ29 SZ14 SZ4 SZ13 SZ69 SZ9 SZ77) 1 (dd N SZ7 SZ10 SZ15 SZ70 SZ29 SZ14 SZ4 SZ13 SZ69 SZ9 SZ77) (sg Pg 188 6 2) 0 (F4 d_ u_ neg e b b_1 an7 ant c aoi aoj) { (bR Pg 188 1 c_)with nrm:=κn_ } = (SZ29 neg c aoi aoj (λc8=>cond c8 (SZ14 1 (λc9 s7=>SZ4 aoi aoj c9 s7 (λc10 s8=>κn_ (FY (dqs d_ 0 53 (.bool neg::.ptr 3 0::vwi c::vwi 0::.bool true::.ptr 3 0::.ptr 3 0::.ptr 4 0::.ptr 3 0::dqs d_ 62 64 [])) [(u_.getD 0 none),some ⟨98,1,.cells [.bool c9,vws s7]⟩] neg e b b_1 an7 ant c c10 s8)))) (κn_ (FZ (dqs d_ 0 53 (.bool neg::.ptr 3 0::vwi c::vwi 0::.bool false::dqs d_ 58 68 [])) [(u_.getD 0 none)] neg e b b_1 an7 ant c aoi aoj)))):=by kernel_rfl
theorem agF (d_:List V) (u_:List (Option Blk)) (neg:Bool) (e:Int) (b:Bool) (b_1:LI) (an7 ant c:Int) (aoi:Bool) (aoj:LI) (c_:KV):aB (ez N SZ7 SZ10 SZ15 SZ70 SZ29 SZ14 SZ4 SZ13 SZ69 SZ9 SZ77) 1 (dd N SZ7 SZ10 SZ15 SZ70 SZ29 SZ14 SZ4 SZ13 SZ69 SZ9 SZ77) ((cds Pg 188).drop 6) 0 (F4 d_ u_ neg e b b_1 an7 ant c aoi aoj) (bR Pg 188 1 c_)=QE N SZ7 SZ10 SZ15 SZ70 SZ29 SZ14 SZ4 SZ13 SZ69 SZ9 SZ77 neg e b b_1 an7 ant c aoi aoj (λr0 r1=>c_ (.tup [vwu r0,vwi r1]) [⟨98,1,.cells [.bool b,vws b_1]⟩]):=by rw[aP 6 2 8 rfl];refine(agc N SZ7 SZ10 SZ15 SZ70 SZ29 SZ14 SZ4 SZ13 SZ69 SZ9 SZ77 d_ u_ neg e b b_1 an7 ant c aoi aoj c_ _).trans ?_;simp only[agz,agA];kernel_rfl
theorem agE (d_:List V) (u_:List (Option Blk)) (neg:Bool) (e:Int) (b:Bool) (b_1:LI) (anB:Int) (q_8:Bool) (q_9:LI) (c_:KV):aB (ez N SZ7 SZ10 SZ15 SZ70 SZ29 SZ14 SZ4 SZ13 SZ69 SZ9 SZ77) 1 (dd N SZ7 SZ10 SZ15 SZ70 SZ29 SZ14 SZ4 SZ13 SZ69 SZ9 SZ77) ((cds Pg 188).drop 13) 0 (F3 d_ u_ neg e b b_1 anB q_8 q_9) (bR Pg 188 1 c_)=CD N SZ7 SZ10 SZ15 SZ70 SZ29 SZ14 SZ4 SZ13 SZ69 SZ9 SZ77 neg e b b_1 anB q_8 q_9 (λr0 r1=>c_ (.tup [vwu r0,vwi r1]) [⟨98,1,.cells [.bool b,vws b_1]⟩]):=by kernel_rfl
theorem af9 (d_:List V) (u_:List (Option Blk)) (neg:Bool) (e:Int) (b:Bool) (b_1:LI) (aoe ani:Int) (q_6:Bool) (q_7:LI) (c_:KV) (κn_:St->Bool):aB (ez N SZ7 SZ10 SZ15 SZ70 SZ29 SZ14 SZ4 SZ13 SZ69 SZ9 SZ77) 1 (dd N SZ7 SZ10 SZ15 SZ70 SZ29 SZ14 SZ4 SZ13 SZ69 SZ9 SZ77) (sg Pg 188 8 5) 0 (FX d_ u_ neg e b b_1 aoe ani q_6 q_7) { (bR Pg 188 1 c_)with nrm:=κn_ } = (SZ7 q_6 q_7 (λanU=>cond (decide (anU>53)) (SZ13 1 q_6 q_7 (λc7 s6=>aw .i64 (ani+1)&&κn_ (F3 (dqs d_ 0 11 (vwi aoe::vwi (-2)::dqs d_ 12 50 (vwi (-2)::.bool false::dqs d_ 64 6 (.ptr 2 0::vwi anU::.ptr 1 0::vwi 53::.bool true::.ptr 2 0::.ptr 2 0::.ptr 2 0::vwi ani::vwi (ani+1)::dqs d_ 80 46 [])))) [] neg e b b_1 (ani+1) c7 s6))) (κn_ (F3 (dqs d_ 0 11 (vwi aoe::vwi (-2)::dqs d_ 12 50 (vwi (-2)::.bool false::dqs d_ 64 6 (.ptr 2 0::vwi anU::.ptr 1 0::vwi 53::.bool false::dqs d_ 75 51 [])))) [] neg e b b_1 ani q_6 q_7)))):=by kernel_rfl
theorem agy (d_:List V) (u_:List (Option Blk)) (neg:Bool) (e:Int) (b:Bool) (b_1:LI) (aoe ani:Int) (q_6:Bool) (q_7:LI) (c_:KV):aB (ez N SZ7 SZ10 SZ15 SZ70 SZ29 SZ14 SZ4 SZ13 SZ69 SZ9 SZ77) 1 (dd N SZ7 SZ10 SZ15 SZ70 SZ29 SZ14 SZ4 SZ13 SZ69 SZ9 SZ77) ((cds Pg 188).drop 8) 0 (FX d_ u_ neg e b b_1 aoe ani q_6 q_7) (bR Pg 188 1 c_)=Kj N SZ7 SZ10 SZ15 SZ70 SZ29 SZ14 SZ4 SZ13 SZ69 SZ9 SZ77 neg e b b_1 aoe ani q_6 q_7 (λr0 r1=>c_ (.tup [vwu r0,vwi r1]) [⟨98,1,.cells [.bool b,vws b_1]⟩]):=by rw[aP 8 5 13 rfl];refine(af9 N SZ7 SZ10 SZ15 SZ70 SZ29 SZ14 SZ4 SZ13 SZ69 SZ9 SZ77 d_ u_ neg e b b_1 aoe ani q_6 q_7 c_ _).trans ?_;simp only[agE];kernel_rfl
theorem agD (d_:List V) (u_:List (Option Blk)) (neg:Bool) (e:Int) (b:Bool) (b_1:LI) (anA:Int) (q_4:Bool) (q_5:LI) (c_:KV):aB (ez N SZ7 SZ10 SZ15 SZ70 SZ29 SZ14 SZ4 SZ13 SZ69 SZ9 SZ77) 1 (dd N SZ7 SZ10 SZ15 SZ70 SZ29 SZ14 SZ4 SZ13 SZ69 SZ9 SZ77) ((cds Pg 188).drop 13) 0 (F2 d_ u_ neg e b b_1 anA q_4 q_5) (bR Pg 188 1 c_)=QD N SZ7 SZ10 SZ15 SZ70 SZ29 SZ14 SZ4 SZ13 SZ69 SZ9 SZ77 neg e b b_1 anA q_4 q_5 (λr0 r1=>c_ (.tup [vwu r0,vwi r1]) [⟨98,1,.cells [.bool b,vws b_1]⟩]):=by kernel_rfl
theorem af8 (d_:List V) (u_:List (Option Blk)) (neg:Bool) (e:Int) (b:Bool) (b_1:LI) (aod anh:Int) (q_2:Bool) (q_3:LI) (c_:KV) (κn_:St->Bool):aB (ez N SZ7 SZ10 SZ15 SZ70 SZ29 SZ14 SZ4 SZ13 SZ69 SZ9 SZ77) 1 (dd N SZ7 SZ10 SZ15 SZ70 SZ29 SZ14 SZ4 SZ13 SZ69 SZ9 SZ77) (sg Pg 188 8 5) 0 (FV d_ u_ neg e b b_1 aod anh q_2 q_3) { (bR Pg 188 1 c_)with nrm:=κn_ } = (SZ7 q_2 q_3 (λam3=>cond (decide (am3>53)) (SZ13 1 q_2 q_3 (λanG s5=>aw .i64 (anh+1)&&κn_ (F2 (dqs d_ 0 11 (vwi aod::vwi (-2)::dqs d_ 12 50 (vwi (-2)::.bool false::dqs d_ 64 6 (.ptr 2 0::vwi am3::.ptr 1 0::vwi 53::.bool true::.ptr 2 0::.ptr 2 0::.ptr 2 0::vwi anh::vwi (anh+1)::dqs d_ 80 46 [])))) [(u_.getD 0 none)] neg e b b_1 (anh+1) anG s5))) (κn_ (F2 (dqs d_ 0 11 (vwi aod::vwi (-2)::dqs d_ 12 50 (vwi (-2)::.bool false::dqs d_ 64 6 (.ptr 2 0::vwi am3::.ptr 1 0::vwi 53::.bool false::dqs d_ 75 51 [])))) [(u_.getD 0 none)] neg e b b_1 anh q_2 q_3)))):=by kernel_rfl
theorem agx (d_:List V) (u_:List (Option Blk)) (neg:Bool) (e:Int) (b:Bool) (b_1:LI) (aod anh:Int) (q_2:Bool) (q_3:LI) (c_:KV):aB (ez N SZ7 SZ10 SZ15 SZ70 SZ29 SZ14 SZ4 SZ13 SZ69 SZ9 SZ77) 1 (dd N SZ7 SZ10 SZ15 SZ70 SZ29 SZ14 SZ4 SZ13 SZ69 SZ9 SZ77) ((cds Pg 188).drop 8) 0 (FV d_ u_ neg e b b_1 aod anh q_2 q_3) (bR Pg 188 1 c_)=ab4 N SZ7 SZ10 SZ15 SZ70 SZ29 SZ14 SZ4 SZ13 SZ69 SZ9 SZ77 neg e b b_1 aod anh q_2 q_3 (λr0 r1=>c_ (.tup [vwu r0,vwi r1]) [⟨98,1,.cells [.bool b,vws b_1]⟩]):=by rw[aP 8 5 13 rfl];refine(af8 N SZ7 SZ10 SZ15 SZ70 SZ29 SZ14 SZ4 SZ13 SZ69 SZ9 SZ77 d_ u_ neg e b b_1 aod anh q_2 q_3 c_ _).trans ?_;simp only[agD];kernel_rfl
theorem agb (d_:List V) (u_:List (Option Blk)) (neg:Bool) (e:Int) (b:Bool) (b_1:LI) (top quantum:Int) (q:Bool) (q_1:LI) (c_:KV) (κn_:St->Bool):aB (ez N SZ7 SZ10 SZ15 SZ70 SZ29 SZ14 SZ4 SZ13 SZ69 SZ9 SZ77) 1 (dd N SZ7 SZ10 SZ15 SZ70 SZ29 SZ14 SZ4 SZ13 SZ69 SZ9 SZ77) (sg Pg 188 6 2) 0 (F1 d_ u_ neg e b b_1 top quantum q q_1) { (bR Pg 188 1 c_)with nrm:=κn_ } = (SZ29 neg (-2) q q_1 (λanq=>cond anq (SZ14 1 (λanu ank=>SZ4 q q_1 anu ank (λanz ann=>κn_ (FV (dqs d_ 0 53 (.bool neg::.ptr 2 0::vwi (-2)::vwi 0::.bool true::.ptr 2 0::.ptr 2 0::.ptr 3 0::.ptr 2 0::dqs d_ 62 64 [])) [some ⟨98,1,.cells [.bool anu,vws ank]⟩] neg e b b_1 top quantum anz ann)))) (κn_ (FX (dqs d_ 0 53 (.bool neg::.ptr 2 0::vwi (-2)::vwi 0::.bool false::dqs d_ 58 68 [])) [] neg e b b_1 top quantum q q_1)))):=by kernel_rfl
theorem agC (d_:List V) (u_:List (Option Blk)) (neg:Bool) (e:Int) (b:Bool) (b_1:LI) (top quantum:Int) (q:Bool) (q_1:LI) (c_:KV):aB (ez N SZ7 SZ10 SZ15 SZ70 SZ29 SZ14 SZ4 SZ13 SZ69 SZ9 SZ77) 1 (dd N SZ7 SZ10 SZ15 SZ70 SZ29 SZ14 SZ4 SZ13 SZ69 SZ9 SZ77) ((cds Pg 188).drop 6) 0 (F1 d_ u_ neg e b b_1 top quantum q q_1) (bR Pg 188 1 c_)=QC N SZ7 SZ10 SZ15 SZ70 SZ29 SZ14 SZ4 SZ13 SZ69 SZ9 SZ77 neg e b b_1 top quantum q q_1 (λr0 r1=>c_ (.tup [vwu r0,vwi r1]) [⟨98,1,.cells [.bool b,vws b_1]⟩]):=by rw[aP 6 2 8 rfl];refine(agb N SZ7 SZ10 SZ15 SZ70 SZ29 SZ14 SZ4 SZ13 SZ69 SZ9 SZ77 d_ u_ neg e b b_1 top quantum q q_1 c_ _).trans ?_;simp only[agx,agy];kernel_rfl
theorem yK (neg:Bool) (e:Int) (b:Bool) (b_1:LI) (c_:KV) (κn_:St->Bool):aB (ez N SZ7 SZ10 SZ15 SZ70 SZ29 SZ14 SZ4 SZ13 SZ69 SZ9 SZ77) 1 (dd N SZ7 SZ10 SZ15 SZ70 SZ29 SZ14 SZ4 SZ13 SZ69 SZ9 SZ77) (sg Pg 188 0 6) 0 (st0 Pg 188 (rU.args [.bool neg,.int e,.bool b,.ints b_1]) [⟨98,1,.cells [.bool b,vws b_1]⟩]) { (bR Pg 188 1 c_)with nrm:=κn_ } = (SZ7 b b_1 (λnr=>aw .i64 (e+nr)&&(aw .i64 ((e+nr) - 1)&&(aw .i64 (((e+nr) - 1) - 53)&&(aw .i64 ((((e+nr) - 1) - 53)+1)&&SZ10 false b b_1 (λcr nsr=>cond (decide (e>=(imm true ((((e+nr) - 1) - 53)+1) (-1074)))) (aw .i64 (e - (imm true ((((e+nr) - 1) - 53)+1) (-1074)))&&SZ15 (IntKind.wrap .u64 (e - (imm true ((((e+nr) - 1) - 53)+1) (-1074)))) cr nsr (λam1 am2=>κn_ (F1 (.agg [vwi 53,vwi (-1022),vwi 1023,vwi 11]::.ptr 0 0::vwi e::.bool false::vqs 5 (vwu 0::vwi 0::.any::.any::vwi e::.ptr 0 0::vwi nr::vwi (e+nr)::vwi ((e+nr) - 1)::vwi ((e+nr) - 1)::.ptr 1 0::vwi 53::vwi (((e+nr) - 1) - 53)::vwi ((((e+nr) - 1) - 53)+1)::.ptr 1 1::vwi (-1022)::.ptr 1 0::vwi 53::vwi (-1075)::vwi (-1074)::vwi (imm true ((((e+nr) - 1) - 53)+1) (-1074))::.ptr 2 0::.ptr 0 0::.ptr 2 0::vwi e::vwi (imm true ((((e+nr) - 1) - 53)+1) (-1074))::.bool true::.ptr 2 0::.ptr 2 0::vwi e::vwi (imm true ((((e+nr) - 1) - 53)+1) (-1074))::vwi (e - (imm true ((((e+nr) - 1) - 53)+1) (-1074)))::vwu (IntKind.wrap .u64 (e - (imm true ((((e+nr) - 1) - 53)+1) (-1074))))::.ptr 2 0::.bool false::vqs 82 [])) [] neg e b b_1 ((e+nr) - 1) (imm true ((((e+nr) - 1) - 53)+1) (-1074)) am1 am2))) (aw .i64 ((imm true ((((e+nr) - 1) - 53)+1) (-1074)) - e)&&SZ70 ((imm true ((((e+nr) - 1) - 53)+1) (-1074)) - e) b b_1 (λamU anl am6=>κn_ (F4 (.agg [vwi 53,vwi (-1022),vwi 1023,vwi 11]::.ptr 0 0::vwi e::.bool false::vqs 5 (vwu 0::vwi 0::.any::.any::vwi e::.ptr 0 0::vwi nr::vwi (e+nr)::vwi ((e+nr) - 1)::vwi ((e+nr) - 1)::.ptr 1 0::vwi 53::vwi (((e+nr) - 1) - 53)::vwi ((((e+nr) - 1) - 53)+1)::.ptr 1 1::vwi (-1022)::.ptr 1 0::vwi 53::vwi (-1075)::vwi (-1074)::vwi (imm true ((((e+nr) - 1) - 53)+1) (-1074))::.ptr 2 0::.ptr 0 0::.ptr 2 0::vwi e::vwi (imm true ((((e+nr) - 1) - 53)+1) (-1074))::.bool false::vqs 8 (.tup [.ptr 3 0,vwi amU]::.ptr 0 0::vwi (imm true ((((e+nr) - 1) - 53)+1) (-1074))::vwi e::vwi ((imm true ((((e+nr) - 1) - 53)+1) (-1074)) - e)::.bool false::.tup [.ptr 3 0,vwi amU]::.ptr 3 0::vwi amU::vqs 73 []))) [some ⟨98,1,.cells [.bool cr,vws nsr]⟩] neg e b b_1 ((e+nr) - 1) (imm true ((((e+nr) - 1) - 53)+1) (-1074)) amU anl am6))))))))):=by kernel_rfl
theorem yP (neg:Bool) (e:Int) (b:Bool) (b_1:LI) (c_:KV):aB (ez N SZ7 SZ10 SZ15 SZ70 SZ29 SZ14 SZ4 SZ13 SZ69 SZ9 SZ77) 1 (dd N SZ7 SZ10 SZ15 SZ70 SZ29 SZ14 SZ4 SZ13 SZ69 SZ9 SZ77) ((cds Pg 188).drop 0) 0 (st0 Pg 188 (rU.args [.bool neg,.int e,.bool b,.ints b_1]) [⟨98,1,.cells [.bool b,vws b_1]⟩]) (bR Pg 188 1 c_)=zy N SZ7 SZ10 SZ15 SZ70 SZ29 SZ14 SZ4 SZ13 SZ69 SZ9 SZ77 neg e b b_1 (λr0 r1=>c_ (.tup [vwu r0,vwi r1]) [⟨98,1,.cells [.bool b,vws b_1]⟩]):=by rw[aP 0 6 6 rfl];refine(yK N SZ7 SZ10 SZ15 SZ70 SZ29 SZ14 SZ4 SZ13 SZ69 SZ9 SZ77 neg e b b_1 c_ _).trans ?_;simp only[agC,agF];kernel_rfl
theorem aft (neg:Bool) (e:Int) (b:Bool) (b_1:LI) (c_:KV):gm (ez N SZ7 SZ10 SZ15 SZ70 SZ29 SZ14 SZ4 SZ13 SZ69 SZ9 SZ77) (dd N SZ7 SZ10 SZ15 SZ70 SZ29 SZ14 SZ4 SZ13 SZ69 SZ9 SZ77) 188 (rU.args [.bool neg,.int e,.bool b,.ints b_1]) [⟨98,1,.cells [.bool b,vws b_1]⟩] c_=zy N SZ7 SZ10 SZ15 SZ70 SZ29 SZ14 SZ4 SZ13 SZ69 SZ9 SZ77 neg e b b_1 (λr0 r1=>c_ (.tup [vwu r0,vwi r1]) [⟨98,1,.cells [.bool b,vws b_1]⟩]):=
 (cX (by kernel_rfl)).trans (yP N SZ7 SZ10 SZ15 SZ70 SZ29 SZ14 SZ4 SZ13 SZ69 SZ9 SZ77 neg e b b_1 c_)
theorem S3 (hZ7:ac Pg 194 (FZ7 SZ7)) (hZ10:ac Pg 195 (Yb SZ10)) (hZ15:ac Pg 98 (Ye SZ15)) (hZ70:ac Pg 196 (YC SZ70)) (hZ29:ac Pg 197 (Yi SZ29)) (hZ14:ac Pg 51 (yw SZ14)) (hZ4:ac Pg 53 (FZ4 SZ4)) (hZ13:ac Pg 198 (Yd SZ13)) (hZ69:ac Pg 199 (YB SZ69)) (hZ9:ac Pg 200 (FZ9 SZ9)) (hZ77:ac Pg 193 (Cj SZ77)):ac Pg 188 (I2 (zy N SZ7 SZ10 SZ15 SZ70 SZ29 SZ14 SZ4 SZ13 SZ69 SZ9 SZ77)):=by
 refine am (cx:=(ez N SZ7 SZ10 SZ15 SZ70 SZ29 SZ14 SZ4 SZ13 SZ69 SZ9 SZ77)) (aa hZ7 (aa hZ10 (aa hZ15 (aa hZ70 (aa hZ29 (aa hZ14 (aa hZ4 (aa hZ13 (aa hZ69 (aa hZ9 (aa hZ77 (ae _)))))))))))) rU (Hz (zy N SZ7 SZ10 SZ15 SZ70 SZ29 SZ14 SZ4 SZ13 SZ69 SZ9 SZ77)) (dd N SZ7 SZ10 SZ15 SZ70 SZ29 SZ14 SZ4 SZ13 SZ69 SZ9 SZ77) 0 1 (by kernel_rfl) (λi_ hi_=>by omega) ?_;intro a k h;unfold Hz at h;split at h;exact⟨[_],rfl,rfl,(aft _ _ _ _ _ _ _ _ _ _ _ _ _ _ _ _ _).trans h⟩;cases h
end
end Go.Proofs.YtadejnnigmcpdaaGreatDoor
