/- The program's functions and their ties. Conditions: none. -/
import Derived.Test.YteifemaagdeomaaGreatDoorGs
set_option linter.defProp false
set_option linter.unusedVariables false
namespace Go.Proofs.YteifemaagdeomaaGreatDoor
open Go Go.Mach Go.Proofs
set_option maxRecDepth 50000
def ga:StSh:=⟨(.roi .u32::sqs 7 (.int .u64::.nil::.slz 0::sqs 149 [])),[some (195,1,.ints .u32)]⟩
def th:StSh:=⟨(sqs 8 (.int .u64::.nil::.slz 0::sqs 149 [])),[some (195,1,.ints .u32)]⟩
section
variable (N:Nat) (aum:pK) (avf:za) (SQ8:lP) (avd:Ib) (avc:FC) (avj:De) (avk:Df) (avm:yZ) (avl:Dh)
noncomputable abbrev ww:Cx:=⟨Pg,ak [(148,(G2 aum)),(179,(ahl avf)),(150,(KJ (FQ8 SQ8) (ahm avm) al7)),(180,(agT avd)),(181,(ag0 avc)),(182,(ag2 avj)),(183,(ag3 avk)),(145,(ag8 avl))],av,N⟩
def fU:List Atom->K->Bool:=λa_ κ=>match a_ with
 | [.ints a_1,.int s,.nat u,.ints u_1]=>ah N (Kc N aum avf SQ8 avd avc avj avk avm avl a_1 s (λr1 r2=>κ.ext 0 (th.build [.int s,.nat r1,.ints r2]))) (u,u_1)
 | _=>false
def e9:StSh:=⟨(.roi .u32::sqs 7 (.int .u64::.slz 0::.slz 1::sqs 149 [])),[some (195,1,.ints .u32),some (195,1,.ints .u32)]⟩
def rn:StSh:=⟨(sqs 8 (.int .u64::.slz 0::.slz 1::sqs 149 [])),[some (195,1,.ints .u32),some (195,1,.ints .u32)]⟩
def eQ:List Atom->K->Bool:=λa_ κ=>match a_ with
 | [.ints a_2,.int s_1,.nat d,.nat u_6,.ints d_1,.ints u_7]=>ah N (v7 N aum avf SQ8 avd avc avj avk avm avl a_2 s_1 d d_1 (λr2 r4=>κ.ext 0 (rn.build [.int s_1,.nat d,.nat r2,.ints d_1,.ints r4]))) (u_6,u_7)
 | _=>false
def gc:StSh:=⟨(sqs 8 (.int .u64::.slz 0::.slz 1::.int .i64::.slw 2::.int .u64::.int .i64::.any::.int .u64::.int .u64::sqs 142 [])),[some (195,1,.ints .u32),some (195,1,.ints .u32),some (195,1,.ints .u32)]⟩
def tk:StSh:=⟨(sqs 8 (.int .u64::.slz 0::.slz 1::.int .i64::.slw 2::.int .u64::.int .i64::.any::.int .u64::sqs 143 [])),[some (195,1,.ints .u32),some (195,1,.ints .u32),some (195,1,.ints .u32)]⟩
def fW:List Atom->K->Bool:=λa_ κ=>match a_ with
 | [.int s_5,.nat d_6,.nat aCf,.int n_1,.int ay7,.int j_1,.int g,.int r,.ints d_7,.ints aBT,.ints q_1]=>ah N (v8 N aum avf SQ8 avd avc avj avk avm avl s_5 d_6 aCf n_1 ay7 j_1 d_7 aBT q_1 (λr6=>κ.ext 4 (tk.build [.int s_5,.nat d_6,.nat aCf,.int n_1,.int ay7,.int j_1,.int r6,.ints d_7,.ints aBT,.ints q_1]))) (g,r)
 | _=>false
def gb:StSh:=⟨(sqs 8 (.int .u64::.slz 0::.slz 1::.int .i64::.slw 2::.int .u64::.int .i64::sqs 145 [])),[some (195,1,.ints .u32),some (195,1,.ints .u32),some (195,1,.ints .u32)]⟩
def ti:StSh:=⟨(sqs 8 (.int .u64::.any::.slz 0::.int .i64::.slw 1::sqs 147 [])),[some (195,1,.ints .u32),some (195,1,.ints .u32)]⟩
def fV:List Atom->K->Bool:=λa_ κ=>match a_ with
 | [.int s_4,.nat d_4,.nat aAI,.int n,.int top,.int j,.ints d_5,.ints ay8,.ints q]=>ah N (nF N aum avf SQ8 avd avc avj avk avm avl s_4 d_4 aAI n top d_5 (λr3 r4=>κ.ext 2 (ti.build [.int s_4,.nat aAI,.int n,.ints r3,.ints r4]))) (j,ay8,q)
 | _=>false
def wm:Nat->Option Ann:=λb_=>cond (b_==0) (some ⟨⟨[0,8,9,10],[(10,none,390),(10,some 0,0)],[],[]⟩,[(0,⟨[8,9,10],[],[],[]⟩)],some ⟨[4,5],[],[],[]⟩,some (aA [(ga,fU N aum avf SQ8 avd avc avj avk avm avl),(e9,eQ N aum avf SQ8 avd avc avj avk avm avl)])⟩) (cond (b_==4) (some ⟨⟨[8,9,10,11,12,13,14,16,17],[],[],[]⟩,[(4,⟨[8,9,10,11,12,13,14,16],[],[],[]⟩)],some ⟨[4,5],[],[],[]⟩,some (aA [(gc,fW N aum avf SQ8 avd avc avj avk avm avl)])⟩) (cond (b_==2) (some ⟨⟨[8,9,10,11,12,13,14],[],[],[]⟩,[(2,⟨[8,10,11,12],[],[],[]⟩)],some ⟨[4,5],[],[],[]⟩,some (aA [(gb,fV N aum avf SQ8 avd avc avj avk avm avl)])⟩) (none)))
def sK:ax (ww N aum avf SQ8 avd avc avj avk avm avl) 0 (wm N aum avf SQ8 avd avc avj avk avm avl) (lp Pg 149 0) (ga,fU N aum avf SQ8 avd avc avj avk avm avl):=by
 intro a κ h;simp only at h;unfold fU at h;split at h
 ·rename_i a_1 s u u_1;exact .trans (az (λ(v_:Nat × LI)=>ga.build [.ints a_1,.int s,.nat v_.1,.ints v_.2]) (λv_ K_=>by obtain⟨u,u_1⟩:=v_; kernel_rfl) N (u,u_1)) h
 ·cases h
def qU:ax (ww N aum avf SQ8 avd avc avj avk avm avl) 0 (wm N aum avf SQ8 avd avc avj avk avm avl) (lp Pg 149 0) (e9,eQ N aum avf SQ8 avd avc avj avk avm avl):=by
 intro a κ h;simp only at h;unfold eQ at h;split at h
 ·rename_i a_2 s_1 d u_6 d_1 u_7;exact .trans (az (λ(v_:Nat × LI)=>e9.build [.ints a_2,.int s_1,.nat d,.nat v_.1,.ints d_1,.ints v_.2]) (λv_ K_=>by obtain⟨u_6,u_7⟩:=v_; kernel_rfl) N (u_6,u_7)) h
 ·cases h
def sM:ax (ww N aum avf SQ8 avd avc avj avk avm avl) 0 (wm N aum avf SQ8 avd avc avj avk avm avl) (lp Pg 149 2) (gc,fW N aum avf SQ8 avd avc avj avk avm avl):=by
 intro a κ h;simp only at h;unfold fW at h;split at h
 ·rename_i s_5 d_6 aCf n_1 ay7 j_1 g r d_7 aBT q_1;exact .trans (az (λ(v_:Int × Int)=>gc.build [.int s_5,.nat d_6,.nat aCf,.int n_1,.int ay7,.int j_1,.int v_.1,.int v_.2,.ints d_7,.ints aBT,.ints q_1]) (λv_ K_=>by obtain⟨g,r⟩:=v_; kernel_rfl) N (g,r)) h
 ·cases h
def sL:ax (ww N aum avf SQ8 avd avc avj avk avm avl) 0 (wm N aum avf SQ8 avd avc avj avk avm avl) (lp Pg 149 1) (gb,fV N aum avf SQ8 avd avc avj avk avm avl):=by
 intro a κ h;simp only at h;unfold fV at h;split at h
 ·rename_i s_4 d_4 aAI n top j d_5 ay8 q;exact .trans (az (λ(v_:Int × LI × LI)=>gb.build [.int s_4,.nat d_4,.nat aAI,.int n,.int top,.int v_.1,.ints d_5,.ints v_.2.1,.ints v_.2.2]) (λv_ K_=>by obtain⟨j,ay8,q⟩:=v_; kernel_rfl) N (j,ay8,q)) h
 ·cases h
def wP:aC (ww N aum avf SQ8 avd avc avj avk avm avl) 0 (wm N aum avf SQ8 avd avc avj avk avm avl) (lp Pg 149 0):=
 ar [(ga,fU N aum avf SQ8 avd avc avj avk avm avl),(e9,eQ N aum avf SQ8 avd avc avj avk avm avl)] (by kernel_rfl) ⟨sK _ _ _ _ _ _ _ _ _ _,qU _ _ _ _ _ _ _ _ _ _,trivial⟩
def wR:aC (ww N aum avf SQ8 avd avc avj avk avm avl) 0 (wm N aum avf SQ8 avd avc avj avk avm avl) (lp Pg 149 2):=
 ar [(gc,fW N aum avf SQ8 avd avc avj avk avm avl)] (by kernel_rfl) ⟨sM _ _ _ _ _ _ _ _ _ _,trivial⟩
def wQ:aC (ww N aum avf SQ8 avd avc avj avk avm avl) 0 (wm N aum avf SQ8 avd avc avj avk avm avl) (lp Pg 149 1):=
 ar [(gb,fV N aum avf SQ8 avd avc avj avk avm avl)] (by kernel_rfl) ⟨sL _ _ _ _ _ _ _ _ _ _,trivial⟩
def SC (d_:List V) (u_:List (Option Blk)) (a b:LI) (s_3:Int) (d_2 azp:Nat) (d_3 aCe:LI):St:=⟨(dqs d_ 0 8 (vwu s_3::.sl 0 0 d_2::.sl 1 0 azp::dqs d_ 8 149 [])),[some ⟨195,1,.ints .u32 d_3⟩,some ⟨195,1,.ints .u32 aCe⟩]⟩
def Sy (d_:List V) (u_:List (Option Blk)) (a b:LI) (s_2:Int) (aBD:Nat) (aDf:LI):St:=⟨(dqs d_ 0 8 (vwu s_2::.nil::.sl 0 0 aBD::dqs d_ 8 149 [])),[some ⟨195,1,.ints .u32 aDf⟩]⟩
def apd (d_:List V) (u_:List (Option Blk)) (a b:LI) (s_3:Int) (d_2 azp:Nat) (d_3 aCe:LI) (c_:KV):aU (ww N aum avf SQ8 avd avc avj avk avm avl) 0 (wm N aum avf SQ8 avd avc avj avk avm avl) ((cds Pg 149).drop 9) 0 (SC d_ u_ a b s_3 d_2 azp d_3 aCe) (ky false Pg 149 0 c_)=UF N aum avf SQ8 avd avc avj avk avm avl a b s_3 d_2 azp d_3 aCe (λr0 r1=>c_ (.tup [vws r0,vws r1]) []):=by kernel_rfl
def apa (d_:List V) (u_:List (Option Blk)) (a b:LI) (s_2:Int) (aBD:Nat) (aDf:LI) (c_:KV):aU (ww N aum avf SQ8 avd avc avj avk avm avl) 0 (wm N aum avf SQ8 avd avc avj avk avm avl) ((cds Pg 149).drop 9) 0 (Sy d_ u_ a b s_2 aBD aDf) (ky false Pg 149 0 c_)=aaG N aum avf SQ8 avd avc avj avk avm avl a b s_2 aBD aDf (λr0 r1=>c_ (.tup [vws r0,vws r1]) []):=by kernel_rfl
def Ky (a b:LI) (c_:KV) (κn_:St->Bool):aU (ww N aum avf SQ8 avd avc avj avk avm avl) 0 (wm N aum avf SQ8 avd avc avj avk avm avl) (sg Pg 149 0 9) 0 (st0 Pg 149 (J2.args [.ints a,.ints b]) []) { (ky false Pg 149 0 c_)with nrm:=κn_ } = (aum a b (λnr=>cond (decide (nr<0)) (decide ((List.length ([]++a))*4<=140737488355328)&&c_ (.tup [.roi .u32 [],vws ([]++a)]) []) (cond (((b.length:Nat):Int)==1) (inR 0 b.length&&avf a (b.getD 0 0) (λnsr aur=>SQ8 [aur] (λmr=>decide ((0+mr)<=(List.length [aur]))&&c_ (.tup [vws nsr,vws (List.take mr (List.drop 0 [aur]))]) []))) (aj .i64 (((b.length:Nat):Int) - 1)&&(inR (((b.length:Nat):Int) - 1) b.length&&avd (b.getD (Int.toNat (((b.length:Nat):Int) - 1)) 0) (λaut=>avc b (IntKind.wrap .u64 aut) (avc a (IntKind.wrap .u64 aut) (ah N (Kc N aum avf SQ8 avd avc avj avk avm avl a (IntKind.wrap .u64 aut) (λu_2 u_3=>κn_ (Sy (vqs 157 []) [] a b (IntKind.wrap .u64 aut) u_2 u_3))) (0,[])) (λavJ auF=>ah N (Kc N aum avf SQ8 avd avc avj avk avm avl a (IntKind.wrap .u64 aut) (λu_4 u_5=>κn_ (Sy (vqs 157 []) [] a b (IntKind.wrap .u64 aut) u_4 u_5))) (avJ,auF))) (λaww auo=>avc a (IntKind.wrap .u64 aut) (ah N (v7 N aum avf SQ8 avd avc avj avk avm avl a (IntKind.wrap .u64 aut) aww auo (λu_8 u_9=>κn_ (SC (vqs 157 []) [] a b (IntKind.wrap .u64 aut) aww u_8 auo u_9))) (0,[])) (λaBm auC=>ah N (v7 N aum avf SQ8 avd avc avj avk avm avl a (IntKind.wrap .u64 aut) aww auo (λawR axR=>κn_ (SC (vqs 157 []) [] a b (IntKind.wrap .u64 aut) aww awR auo axR))) (aBm,auC))))))))):=by kernel_rfl
def KD (a b:LI) (c_:KV):aU (ww N aum avf SQ8 avd avc avj avk avm avl) 0 (wm N aum avf SQ8 avd avc avj avk avm avl) ((cds Pg 149).drop 0) 0 (st0 Pg 149 (J2.args [.ints a,.ints b]) []) (ky false Pg 149 0 c_)=N5 N aum avf SQ8 avd avc avj avk avm avl a b (λr0 r1=>c_ (.tup [vws r0,vws r1]) []):=by rw[dC 0 9 9 rfl];refine(Ky N aum avf SQ8 avd avc avj avk avm avl a b c_ _).trans ?_;simp only[apa,apd];kernel_rfl
def aqX (a b:LI) (c_:KV):pM false (ww N aum avf SQ8 avd avc avj avk avm avl) (wm N aum avf SQ8 avd avc avj avk avm avl) 149 (J2.args [.ints a,.ints b]) [] c_=N5 N aum avf SQ8 avd avc avj avk avm avl a b (λr0 r1=>c_ (.tup [vws r0,vws r1]) []):=
 (iM (by kernel_rfl)).trans (KD N aum avf SQ8 avd avc avj avk avm avl a b c_)
def aiB (aA7:ab Pg 148 (G2 aum)) (aGo:ab Pg 179 (ahl avf)) (hQ8:ab Pg 150 (FQ8 SQ8)) (aFV:ab Pg 180 (agT avd)) (aF2:ab Pg 181 (ag0 avc)) (aF4:ab Pg 182 (ag2 avj)) (aF5:ab Pg 183 (ag3 avk)) (aGp:ab Pg 150 (ahm avm)) (aGa:ab Pg 145 (ag8 avl)):ab Pg 149 (N2 (N5 N aum avf SQ8 avd avc avj avk avm avl)):=by
 refine l3 (md:=false) (cx:=(ww N aum avf SQ8 avd avc avj avk avm avl)) (gT (aa aA7 (aa aGo (aa (ms hQ8 aGp) (aa aFV (aa aF2 (aa aF4 (aa aF5 (aa aGa (ae _))))))))) (by kernel_rfl)) J2 (agM (N5 N aum avf SQ8 avd avc avj avk avm avl)) (wm N aum avf SQ8 avd avc avj avk avm avl) 3 0 (by kernel_rfl) (λi_ hi_=>by
  match i_,hi_ with
  | 0,_=>exact wP _ _ _ _ _ _ _ _ _ _
  | 1,_=>exact wQ _ _ _ _ _ _ _ _ _ _
  | 2,_=>exact wR _ _ _ _ _ _ _ _ _ _
  | (q+3),h=>omega) ?_
 intro a k h;unfold agM at h;split at h;exact⟨[],rfl,rfl,(aqX _ _ _ _ _ _ _ _ _ _ _ _ _).trans h⟩;cases h
def fN:StSh:=⟨(.roi .u32::.roi .u32::.any::.any::.any::.slw 0::.int .i64::.int .u64::.int .i64::sqs 59 []),[some (195,1,.ints .u32)]⟩
def sc:StSh:=⟨(.roi .u32::.roi .u32::.any::.any::.any::.slw 0::.int .i64::.int .u64::sqs 60 []),[some (195,1,.ints .u32)]⟩
end
section
variable (N:Nat) (SQ8:lP)
noncomputable abbrev Ln:Cx:=⟨Pg,ak [(150,(FQ8 SQ8))],av,N⟩
def fD:List Atom->K->Bool:=λa_ κ=>match a_ with
 | [.ints a_2,.ints b_2,.int i_1,.int carry,.int k_,.ints avh]=>ah N (pd N SQ8 a_2 b_2 i_1 (λr3 r4=>κ.ext 2 (sc.build [.ints a_2,.ints b_2,.int i_1,.int r3,.ints r4]))) (carry,k_,avh)
 | _=>false
def fM:StSh:=⟨(.roi .u32::.roi .u32::.any::.any::.any::.slw 0::.int .i64::sqs 61 []),[some (195,1,.ints .u32)]⟩
def sb:StSh:=⟨(sqs 5 (.slw 0::sqs 62 [])),[some (195,1,.ints .u32)]⟩
def fC:List Atom->K->Bool:=λa_ κ=>match a_ with
 | [.ints a_1,.ints b_1,.int i,.ints out]=>ah N (pc N SQ8 a_1 b_1 (λr0=>κ.ext 0 (sb.build [.ints r0]))) (i,out)
 | _=>false
def Ir:Nat->Option Ann:=λb_=>cond (b_==2) (some ⟨⟨[0,1,5,6,7,8],[],[],[]⟩,[(2,⟨[0,1,5,6,7],[],[],[]⟩)],some ⟨[4],[],[],[]⟩,some (aA [(fN,fD N SQ8)])⟩) (cond (b_==0) (some ⟨⟨[0,1,5,6],[],[],[]⟩,[(0,⟨[5],[],[],[]⟩)],some ⟨[4],[],[],[]⟩,some (aA [(fM,fC N SQ8)])⟩) (none))
def rK:ax (Ln N SQ8) 0 (Ir N SQ8) (lp Pg 128 1) (fN,fD N SQ8):=by
 intro a κ h;simp only at h;unfold fD at h;split at h
 ·rename_i a_2 b_2 i_1 carry k_ avh;exact .trans (az (λ(v_:Int × Int × LI)=>fN.build [.ints a_2,.ints b_2,.int i_1,.int v_.1,.int v_.2.1,.ints v_.2.2]) (λv_ K_=>by obtain⟨carry,k_,avh⟩:=v_; kernel_rfl) N (carry,k_,avh)) h
 ·cases h
def rJ:ax (Ln N SQ8) 0 (Ir N SQ8) (lp Pg 128 0) (fM,fC N SQ8):=by
 intro a κ h;simp only at h;unfold fC at h;split at h
 ·rename_i a_1 b_1 i out;exact .trans (az (λ(v_:Int × LI)=>fM.build [.ints a_1,.ints b_1,.int v_.1,.ints v_.2]) (λv_ K_=>by obtain⟨i,out⟩:=v_; kernel_rfl) N (i,out)) h
 ·cases h
def vT:aC (Ln N SQ8) 0 (Ir N SQ8) (lp Pg 128 1):=
 ar [(fN,fD N SQ8)] (by kernel_rfl) ⟨rK _ _,trivial⟩
def vS:aC (Ln N SQ8) 0 (Ir N SQ8) (lp Pg 128 0):=
 ar [(fM,fC N SQ8)] (by kernel_rfl) ⟨rJ _ _,trivial⟩
def acg (hQ8:ab Pg 150 (FQ8 SQ8)):ab Pg 128 (G3 (Zt N SQ8)):=by
 refine glZ N false (Ir N SQ8) (aa hQ8 (ae _)) 2 0 (gJ (vS _ _) (vT _ _)) ?_;intro a k h;unfold afl at h;split at h;exact⟨[],rfl,rfl,.trans (by kernel_rfl) h⟩;cases h
def fI:StSh:=⟨(.roi .u32::.roi .u32::.any::.any::.any::.slw 0::.int .u64::.int .i64::sqs 48 []),[some (195,1,.ints .u32)]⟩
def rY:StSh:=⟨(sqs 5 (.slw 0::sqs 50 [])),[some (195,1,.ints .u32)]⟩
def fw:List Atom->K->Bool:=λa_ κ=>match a_ with
 | [.ints a_1,.ints b_1,.int borrow,.int i,.ints out]=>ah N (pa N SQ8 a_1 b_1 (λr0=>κ.ext 0 (rY.build [.ints r0]))) (borrow,i,out)
 | _=>false
def Rj:Nat->Option Ann:=λb_=>cond (b_==0) (some ⟨⟨[0,1,5,6,7],[],[],[]⟩,[(0,⟨[5],[],[],[]⟩)],some ⟨[4],[],[],[]⟩,some (aA [(fI,fw N SQ8)])⟩) (none)
def rF:ax (Ln N SQ8) 0 (Rj N SQ8) (lp Pg 204 0) (fI,fw N SQ8):=by
 intro a κ h;simp only at h;unfold fw at h;split at h
 ·rename_i a_1 b_1 borrow i out;exact .trans (az (λ(v_:Int × Int × LI)=>fI.build [.ints a_1,.ints b_1,.int v_.1,.int v_.2.1,.ints v_.2.2]) (λv_ K_=>by obtain⟨borrow,i,out⟩:=v_; kernel_rfl) N (borrow,i,out)) h
 ·cases h
def vO:aC (Ln N SQ8) 0 (Rj N SQ8) (lp Pg 204 0):=
 ar [(fI,fw N SQ8)] (by kernel_rfl) ⟨rF _ _,trivial⟩
def adf (hQ8:ab Pg 150 (FQ8 SQ8)):ab Pg 204 (Ub (Z9 N SQ8)):=by
 refine glZ N false (Rj N SQ8) (aa hQ8 (ae _)) 1 0 (aG (vO _ _)) ?_;intro a k h;unfold af8 at h;split at h;exact⟨[],rfl,rfl,.trans (by kernel_rfl) h⟩;cases h
end
def adp (N:Nat) (avE:sj) (av5:B8) (axG:B8) (aBi:ab Pg 202 (KR avE)) (ayX:ab Pg 128 (G3 av5)) (aCR:ab Pg 204 (Ub axG)):ab Pg 205 (YR (aai N avE av5 axG)):=by
 refine gfZ N false (aa aBi (aa ayX (aa aCR (ae _)))) 0 ?_;intro a k h;unfold agi at h;split at h;exact⟨[],rfl,rfl,.trans (by kernel_rfl) h⟩;cases h
def ac7 (N:Nat) (ayU:HN) (aFf:ab Pg 205 (YR ayU)):ab Pg 178 (T8 (Ux N ayU)):=by
 refine gfZ N false (aa aFf (ae _)) 0 ?_;intro a k h;unfold af1 at h;split at h;exact⟨[],rfl,rfl,.trans (by kernel_rfl) h⟩;cases h
def eX:StSh:=⟨(.roi .u32::.roi .u32::sqs 77 []),[]⟩
def rk:StSh:=⟨(.roi .u32::.roi .u32::sqs 77 []),[]⟩
section
variable (N:Nat) (aum:pK) (auK:y_) (avr:pU) (avu:BW) (auG:tO) (avs:HN)
noncomputable abbrev FQ:Cx:=⟨Pg,ak [(148,(G2 aum)),(146,(NY auK)),(177,(T2 avr)),(176,(TW avu)),(149,(N2 auG)),(178,(T8 avs))],av,N⟩
def eO:List Atom->K->Bool:=λa_ κ=>match a_ with
 | [.ints a_2,.ints b_2]=>ah N (Kb N aum auK avr avu auG avs (λr0 r1=>κ.ext 0 (rk.build [.ints r0,.ints r1]))) (a_2,b_2)
 | _=>false
def eZ:StSh:=⟨(.roi .u32::.roi .u32::sqs 77 []),[]⟩
def rm:StSh:=⟨(.roi .u32::sqs 78 []),[]⟩
def eP:List Atom->K->Bool:=λa_ κ=>match a_ with
 | [.ints a_4,.ints b_4]=>ah N (Fx N aum auK avr avu auG avs (λr0=>κ.ext 2 (rm.build [.ints r0]))) (a_4,b_4)
 | _=>false
def Dp:Nat->Option Ann:=λb_=>cond (b_==0) (some ⟨⟨[0,1],[],[],[]⟩,[(0,⟨[0,1],[],[],[]⟩)],some ⟨[4],[],[],[]⟩,some (aA [(eX,eO N aum auK avr avu auG avs)])⟩) (cond (b_==2) (some ⟨⟨[0,1],[],[],[]⟩,[(2,⟨[0],[],[],[]⟩)],some ⟨[4],[],[],[]⟩,some (aA [(eZ,eP N aum auK avr avu auG avs)])⟩) (none))
def qS:ax (FQ N aum auK avr avu auG avs) 0 (Dp N aum auK avr avu auG avs) (lp Pg 147 0) (eX,eO N aum auK avr avu auG avs):=by
 intro a κ h;simp only at h;unfold eO at h;split at h
 ·rename_i a_2 b_2;exact .trans (az (λ(v_:LI × LI)=>eX.build [.ints v_.1,.ints v_.2]) (λv_ K_=>by obtain⟨a_2,b_2⟩:=v_; kernel_rfl) N (a_2,b_2)) h
 ·cases h
def qT:ax (FQ N aum auK avr avu auG avs) 0 (Dp N aum auK avr avu auG avs) (lp Pg 147 1) (eZ,eP N aum auK avr avu auG avs):=by
 intro a κ h;simp only at h;unfold eP at h;split at h
 ·rename_i a_4 b_4;exact .trans (az (λ(v_:LI × LI)=>eZ.build [.ints v_.1,.ints v_.2]) (λv_ K_=>by obtain⟨a_4,b_4⟩:=v_; kernel_rfl) N (a_4,b_4)) h
 ·cases h
def uS:aC (FQ N aum auK avr avu auG avs) 0 (Dp N aum auK avr avu auG avs) (lp Pg 147 0):=
 ar [(eX,eO N aum auK avr avu auG avs)] (by kernel_rfl) ⟨qS _ _ _ _ _ _ _,trivial⟩
def uT:aC (FQ N aum auK avr avu auG avs) 0 (Dp N aum auK avr avu auG avs) (lp Pg 147 1):=
 ar [(eZ,eP N aum auK avr avu auG avs)] (by kernel_rfl) ⟨qT _ _ _ _ _ _ _,trivial⟩
def Su (d_:List V) (u_:List (Option Blk)) (a b a_1 b_1:LI):St:=⟨(vws a_1::vws b_1::dqs d_ 0 77 []),[]⟩
def ao7 (d_:List V) (u_:List (Option Blk)) (a b a_1 b_1:LI) (c_:KV):aU (FQ N aum auK avr avu auG avs) 0 (Dp N aum auK avr avu auG avs) ((cds Pg 147).drop 3) 0 (Su d_ u_ a b a_1 b_1) (ky false Pg 147 0 c_)=N_ N aum auK avr avu auG avs a b a_1 b_1 (λr0=>c_ (vws r0) []):=by kernel_rfl
def Gx (a b:LI) (c_:KV) (κn_:St->Bool):aU (FQ N aum auK avr avu auG avs) 0 (Dp N aum auK avr avu auG avs) (sg Pg 147 0 3) 0 (st0 Pg 147 (Ng.args [.ints a,.ints b]) []) { (ky false Pg 147 0 c_)with nrm:=κn_ } = (aum a b (λnr=>cond (decide (nr<0)) (κn_ (Su (.any::.any::.nil::vws a::vqs 11 (vws a::vws b::vwi nr::.bool true::vws a::vws b::vws a::vqs 55 [])) [] a b b a)) (κn_ (Su (.any::.any::.nil::vqs 12 (vws a::vws b::vwi nr::.bool false::vqs 58 [])) [] a b a b)))):=by kernel_rfl
def GE (a b:LI) (c_:KV):aU (FQ N aum auK avr avu auG avs) 0 (Dp N aum auK avr avu auG avs) ((cds Pg 147).drop 0) 0 (st0 Pg 147 (Ng.args [.ints a,.ints b]) []) (ky false Pg 147 0 c_)=aaF N aum auK avr avu auG avs a b (λr0=>c_ (vws r0) []):=by rw[dC 0 3 3 rfl];refine(Gx N aum auK avr avu auG avs a b c_ _).trans ?_;simp only[ao7];kernel_rfl
def aqZ (a b:LI) (c_:KV):pM false (FQ N aum auK avr avu auG avs) (Dp N aum auK avr avu auG avs) 147 (Ng.args [.ints a,.ints b]) [] c_=aaF N aum auK avr avu auG avs a b (λr0=>c_ (vws r0) []):=
 (iM (by kernel_rfl)).trans (GE N aum auK avr avu auG avs a b c_)
def aiT (aA7:ab Pg 148 (G2 aum)) (aCX:ab Pg 146 (NY auK)) (aES:ab Pg 177 (T2 avr)) (aEF:ab Pg 176 (TW avu)) (aC2:ab Pg 149 (N2 auG)) (aE1:ab Pg 178 (T8 avs)):ab Pg 147 (WI (aaF N aum auK avr avu auG avs)):=by
 refine glZ N false (Dp N aum auK avr avu auG avs) (aa aA7 (aa aCX (aa aES (aa aEF (aa aC2 (aa aE1 (ae _))))))) 2 0 (gJ (uS _ _ _ _ _ _ _) (uT _ _ _ _ _ _ _)) ?_;intro a k h;unfold am3 at h;split at h;exact⟨[],rfl,rfl,(aqZ _ _ _ _ _ _ _ _ _ _).trans h⟩;cases h
end
section
variable (N:Nat) (avC:BT) (auy:lT) (ave:zh) (au7:y_) (auY:HY) (auK:y_) (avn:B8) (aum:pK) (auG:tO)
noncomputable abbrev IK:Cx:=⟨Pg,ak [(140,(KJ (TS avC) (WH ave) Wi)),(143,(C9 auy)),(144,(WA au7)),(145,(Mj auY)),(146,(NY auK)),(147,(WI avn)),(148,(G2 aum)),(149,(N2 auG))],av,N⟩
def IC (N:Nat) (avC:BT) (auy:lT) (ave:zh) (au7:y_) (auY:HY) (auK:y_) (avn:B8) (aum:pK) (auG:tO):Nat->Option Ann:=λb_=>none
def MQ (d_:List V) (u_:List (Option Blk)) (neg:Bool) (a b:LI) (b_1 b_2:Bool) (a_1 b_3:LI):St:=⟨(.ptr 0 0::.bool neg::vws a_1::vws b_3::dqs d_ 0 85 []),[some ⟨153,1,.cells [.bool b_1,.nil,.bool b_2,.nil]⟩,(u_.getD 0 none),(u_.getD 1 none)]⟩
def MT (d_:List V) (u_:List (Option Blk)) (neg:Bool) (a b:LI) (b_1 b_2:Bool) (n:Int):St:=⟨(.ptr 0 0::.bool neg::vws a::vws b::dqs d_ 0 6 (.ptr 2 0::vwu n::dqs d_ 6 77 [])),[some ⟨153,1,.cells [.bool b_1,.nil,.bool b_2,.nil]⟩,(u_.getD 0 none),some ⟨151,1,.cells [.bool false,vws b]⟩]⟩
def aoZ (d_:List V) (u_:List (Option Blk)) (neg:Bool) (a b:LI) (b_1 b_2:Bool) (a_1 b_3:LI) (c_:KV):aU (IK N avC auy ave au7 auY auK avn aum auG) 1 (IC N avC auy ave au7 auY auK avn aum auG) ((cds Pg 127).drop 14) 0 (MQ d_ u_ neg a b b_1 b_2 a_1 b_3) (ky false Pg 127 1 c_)=G9 N avC auy ave au7 auY auK avn aum auG neg a b b_1 b_2 a_1 b_3 (λr0 r1 r2 r3=>c_ (.ptr 0 0) [⟨153,1,.cells [.bool r0,vws r1,.bool r2,vws r3]⟩]):=by kernel_rfl
def aoQ (d_:List V) (u_:List (Option Blk)) (neg:Bool) (a b:LI) (b_1 b_2:Bool) (n:Int) (c_:KV) (κn_:St->Bool):aU (IK N avC auy ave au7 auY auK avn aum auG) 1 (IC N avC auy ave au7 auY auK avn aum auG) (sg Pg 127 9 5) 0 (MT d_ u_ neg a b b_1 b_2 n) { (ky false Pg 127 1 c_)with nrm:=κn_ } = (auY a n (λauv=>auY b n (λauu=>au7 false auu (λaut=>aj .i64 aut&&auK false auu (λavw=>aj .i64 (avw - 1)&&cond (aut != (avw - 1)) (avn auv auu (λs6=>auy (λs7=>aum s6 s7 (λawc=>cond (awc != 0) (auG auv s6 (λs8 s9=>auG auu s6 (λs10 s11=>κn_ (MQ (dqs d_ 0 6 (.ptr 2 0::vwu n::(dq d_ 6)::vws s6::dqs d_ 8 27 (vws a::vwu n::vws auv::vws b::vwu n::vws auu::.ptr 2 0::vws auu::.ptr 2 0::.ptr 2 1::.ptr 2 0::vwu aut::vwi aut::.ptr 2 0::vwi avw::vwi (avw - 1)::.bool true::vws auv::vws auu::vws s6::vws s6::vws s7::vwi awc::.bool true::.tup [vws s8,vws s9]::vws auv::vws s6::.tup [vws s8,vws s9]::vws s8::vws s9::.tup [vws s10,vws s11]::vws auu::vws s6::.tup [vws s10,vws s11]::vws s10::vws s11::dqs d_ 71 12 []))) [(u_.getD 0 none),some ⟨151,1,.cells [.bool false,vws auu]⟩] neg a b b_1 b_2 s8 s10)))) (κn_ (MQ (dqs d_ 0 6 (.ptr 2 0::vwu n::(dq d_ 6)::vws s6::dqs d_ 8 27 (vws a::vwu n::vws auv::vws b::vwu n::vws auu::.ptr 2 0::vws auu::.ptr 2 0::.ptr 2 1::.ptr 2 0::vwu aut::vwi aut::.ptr 2 0::vwi avw::vwi (avw - 1)::.bool true::vws auv::vws auu::vws s6::vws s6::vws s7::vwi awc::.bool false::dqs d_ 59 24 []))) [(u_.getD 0 none),some ⟨151,1,.cells [.bool false,vws auu]⟩] neg a b b_1 b_2 auv auu)))))) (κn_ (MQ (dqs d_ 0 6 (.ptr 2 0::vwu n::dqs d_ 6 29 (vws a::vwu n::vws auv::vws b::vwu n::vws auu::.ptr 2 0::vws auu::.ptr 2 0::.ptr 2 1::.ptr 2 0::vwu aut::vwi aut::.ptr 2 0::vwi avw::vwi (avw - 1)::.bool false::dqs d_ 52 31 []))) [(u_.getD 0 none),some ⟨151,1,.cells [.bool false,vws auu]⟩] neg a b b_1 b_2 auv auu))))))):=by kernel_rfl
def ao2 (d_:List V) (u_:List (Option Blk)) (neg:Bool) (a b:LI) (b_1 b_2:Bool) (n:Int) (c_:KV):aU (IK N avC auy ave au7 auY auK avn aum auG) 1 (IC N avC auy ave au7 auY auK avn aum auG) ((cds Pg 127).drop 9) 0 (MT d_ u_ neg a b b_1 b_2 n) (ky false Pg 127 1 c_)=UC N avC auy ave au7 auY auK avn aum auG neg a b b_1 b_2 n (λr0 r1 r2 r3=>c_ (.ptr 0 0) [⟨153,1,.cells [.bool r0,vws r1,.bool r2,vws r3]⟩]):=by rw[dC 9 5 14 rfl];refine(aoQ N avC auy ave au7 auY auK avn aum auG d_ u_ neg a b b_1 b_2 n c_ _).trans ?_;simp only[aoZ];kernel_rfl
def aoU (neg:Bool) (a b:LI) (b_1 b_2:Bool) (c_:KV) (κn_:St->Bool):aU (IK N avC auy ave au7 auY auK avn aum auG) 1 (IC N avC auy ave au7 auY auK avn aum auG) (sg Pg 127 0 9) 0 (st0 Pg 127 (J1.args [.bool neg,.ints a,.ints b,.bool b_1,.bool b_2]) [⟨153,1,.cells [.bool b_1,.nil,.bool b_2,.nil]⟩]) { (ky false Pg 127 1 c_)with nrm:=κn_ } = (cond (((a.length:Nat):Int)==0) (avC false [] b_1 b_2 (λcr nsr auo=>auy (λauF=>ave false auF cr nsr b_2 auo (λauN auC=>c_ (.ptr 0 0) [⟨153,1,.cells [.bool cr,vws nsr,.bool auN,vws auC]⟩])))) (au7 false a (λnr=>au7 false b (λaur=>cond (decide (aur<nr)) (κn_ (MT (vqs 4 (.val (.pointer none)::.ptr 1 0::vwu aur::.any::vws a::.agg [.bool false,vws a]::.ptr 1 0::vws b::.agg [.bool false,vws b]::.ptr 2 0::vws a::vwi ((a.length:Nat):Int)::.bool false::vqs 10 (.ptr 1 0::vwu nr::.ptr 2 0::vwu aur::vwu aur::vwu nr::.bool true::vwu aur::vqs 48 []))) [some ⟨151,1,.cells [.bool false,vws a]⟩] neg a b b_1 b_2 aur)) (κn_ (MT (vqs 4 (.val (.pointer none)::.ptr 1 0::vwu aur::.any::vws a::.agg [.bool false,vws a]::.ptr 1 0::vws b::.agg [.bool false,vws b]::.ptr 2 0::vws a::vwi ((a.length:Nat):Int)::.bool false::vqs 10 (.ptr 1 0::vwu nr::.ptr 2 0::vwu aur::vwu aur::vwu nr::.bool false::vqs 49 []))) [some ⟨151,1,.cells [.bool false,vws a]⟩] neg a b b_1 b_2 nr)))))):=by kernel_rfl
def apf (neg:Bool) (a b:LI) (b_1 b_2:Bool) (c_:KV):aU (IK N avC auy ave au7 auY auK avn aum auG) 1 (IC N avC auy ave au7 auY auK avn aum auG) ((cds Pg 127).drop 0) 0 (st0 Pg 127 (J1.args [.bool neg,.ints a,.ints b,.bool b_1,.bool b_2]) [⟨153,1,.cells [.bool b_1,.nil,.bool b_2,.nil]⟩]) (ky false Pg 127 1 c_)=WJ N avC auy ave au7 auY auK avn aum auG neg a b b_1 b_2 (λr0 r1 r2 r3=>c_ (.ptr 0 0) [⟨153,1,.cells [.bool r0,vws r1,.bool r2,vws r3]⟩]):=by rw[dC 0 9 9 rfl];refine(aoU N avC auy ave au7 auY auK avn aum auG neg a b b_1 b_2 c_ _).trans ?_;simp only[ao2];kernel_rfl
def aqU (neg:Bool) (a b:LI) (b_1 b_2:Bool) (c_:KV):pM false (IK N avC auy ave au7 auY auK avn aum auG) (IC N avC auy ave au7 auY auK avn aum auG) 127 (J1.args [.bool neg,.ints a,.ints b,.bool b_1,.bool b_2]) [⟨153,1,.cells [.bool b_1,.nil,.bool b_2,.nil]⟩] c_=WJ N avC auy ave au7 auY auK avn aum auG neg a b b_1 b_2 (λr0 r1 r2 r3=>c_ (.ptr 0 0) [⟨153,1,.cells [.bool r0,vws r1,.bool r2,vws r3]⟩]):=
 (iM (by kernel_rfl)).trans (apf N avC auy ave au7 auY auK avn aum auG neg a b b_1 b_2 c_)
def aih (aEx:ab Pg 140 (TS avC)) (ayY:ab Pg 143 (C9 auy)) (aDN:ab Pg 140 (WH ave)) (aDC:ab Pg 144 (WA au7)) (aC4:ab Pg 145 (Mj auY)) (aCX:ab Pg 146 (NY auK)) (aDO:ab Pg 147 (WI avn)) (aA7:ab Pg 148 (G2 aum)) (aC2:ab Pg 149 (N2 auG)):ab Pg 127 (WF (WJ N avC auy ave au7 auY auK avn aum auG)):=by
 refine l3 (md:=false) (cx:=(IK N avC auy ave au7 auY auK avn aum auG)) (gT (aa (ms aEx aDN) (aa ayY (aa aDC (aa aC4 (aa aCX (aa aDO (aa aA7 (aa aC2 (ae _))))))))) (by kernel_rfl)) J1 (agJ (WJ N avC auy ave au7 auY auK avn aum auG)) (IC N avC auy ave au7 auY auK avn aum auG) 0 1 (by kernel_rfl) (λi_ hi_=>by omega) ?_;intro a k h;unfold agJ at h;split at h;exact⟨[_],rfl,rfl,(aqU _ _ _ _ _ _ _ _ _ _ _ _ _ _ _ _).trans h⟩;cases h
end
def ab0 (N:Nat) (auy:lT) (axv:Hk) (ayY:ab Pg 143 (C9 auy)) (aBL:ab Pg 127 (WF axv)):ab Pg 165 (Yk (Zg N auy axv)):=by
 refine gfZ N false (aa ayY (aa aBL (ae _))) 2 ?_;intro a k h;unfold ae7 at h;split at h;exact⟨[_,_],rfl,rfl,.trans (by kernel_rfl) h⟩;cases h
section
variable (N:Nat) (avE:sj) (avq:pV)
noncomputable abbrev OY:Cx:=⟨Pg,ak [(202,(KR avE)),(140,(G0 avq))],av,N⟩
def Iv (N:Nat) (avE:sj) (avq:pV):Nat->Option Ann:=λb_=>none
def Sx (d_:List V) (u_:List (Option Blk)) (n:Int) (b:Bool) (u:Int):St:=⟨(.ptr 0 0::vwi n::dqs d_ 0 3 (vwu u::dqs d_ 3 12 [])),[some ⟨151,1,.cells [.bool b,.nil]⟩]⟩
def ao_ (d_:List V) (u_:List (Option Blk)) (n:Int) (b:Bool) (u:Int) (c_:KV):aU (OY N avE avq) 1 (Iv N avE avq) ((cds Pg 200).drop 4) 0 (Sx d_ u_ n b u) (ky false Pg 200 1 c_)=UE N avE avq n b u (λr0 r1=>c_ (.ptr 0 0) [⟨151,1,.cells [.bool r0,vws r1]⟩]):=by kernel_rfl
def zD (n:Int) (b:Bool) (c_:KV) (κn_:St->Bool):aU (OY N avE avq) 1 (Iv N avE avq) (sg Pg 200 0 4) 0 (st0 Pg 200 (Eh.args [.int n,.bool b]) [⟨151,1,.cells [.bool b,.nil]⟩]) { (ky false Pg 200 1 c_)with nrm:=κn_ } = (cond (decide (n<0)) (κn_ (Sx (.any::.any::.val (.pointer none)::vwi n::vwu (IntKind.wrap .u64 n)::vwi n::.bool true::vwu (IntKind.wrap .u64 n)::vwu (IntKind.wrap .u64 (0 - (IntKind.wrap .u64 n)))::vqs 6 []) [] n b (IntKind.wrap .u64 (0 - (IntKind.wrap .u64 n))))) (κn_ (Sx (.any::.any::.val (.pointer none)::vwi n::vwu (IntKind.wrap .u64 n)::vwi n::.bool false::vqs 8 []) [] n b (IntKind.wrap .u64 n)))):=by kernel_rfl
def zP (n:Int) (b:Bool) (c_:KV):aU (OY N avE avq) 1 (Iv N avE avq) ((cds Pg 200).drop 0) 0 (st0 Pg 200 (Eh.args [.int n,.bool b]) [⟨151,1,.cells [.bool b,.nil]⟩]) (ky false Pg 200 1 c_)=KY N avE avq n b (λr0 r1=>c_ (.ptr 0 0) [⟨151,1,.cells [.bool r0,vws r1]⟩]):=by rw[dC 0 4 4 rfl];refine(zD N avE avq n b c_ _).trans ?_;simp only[ao_];kernel_rfl
def aos (n:Int) (b:Bool) (c_:KV):pM false (OY N avE avq) (Iv N avE avq) 200 (Eh.args [.int n,.bool b]) [⟨151,1,.cells [.bool b,.nil]⟩] c_=KY N avE avq n b (λr0 r1=>c_ (.ptr 0 0) [⟨151,1,.cells [.bool r0,vws r1]⟩]):=
 (iM (by kernel_rfl)).trans (zP N avE avq n b c_)
def acM (aBi:ab Pg 202 (KR avE)) (aAu:ab Pg 140 (G0 avq)):ab Pg 200 (YC (KY N avE avq)):=by
 refine l3 (md:=false) (cx:=(OY N avE avq)) (gT (aa aBi (aa aAu (ae _))) (by kernel_rfl)) Eh (Tt (KY N avE avq)) (Iv N avE avq) 0 1 (by kernel_rfl) (λi_ hi_=>by omega) ?_;intro a k h;unfold Tt at h;split at h;exact⟨[_],rfl,rfl,(aos _ _ _ _ _ _).trans h⟩;cases h
end
def ado (N:Nat) (azJ:Ie) (aEN:ab Pg 200 (YC azJ)):ab Pg 169 (YQ (aah N azJ)):=by
 refine gfZ N false (aa aEN (ae _)) 0 ?_;intro a k h;unfold agh at h;split at h;exact⟨[],rfl,rfl,.trans (by kernel_rfl) h⟩;cases h
def aiP (N:Nat) (axv:Hk) (aBL:ab Pg 127 (WF axv)):ab Pg 167 (ang (an4 N axv)):=by
 refine gfZ N false (aa aBL (ae _)) 3 ?_;intro a k h;unfold amZ at h;split at h;exact⟨[_,_,_],rfl,rfl,.trans (by kernel_rfl) h⟩;cases h
def acw (N:Nat) (azu:Hh) (ayS:Ic) (azX:xj) (axX:Ii) (aBf:Dc) (aEs:ab Pg 166 (Yn azu)) (aEf:ab Pg 165 (Yk ayS)) (aFe:ab Pg 169 (YQ azX)) (aCJ:ab Pg 168 (TX axX)) (aGg:ab Pg 167 (ang aBf)):ab Pg 138 (Yu (ZC N azu ayS azX axX aBf)):=by
 refine gfV N (aa aEs (aa aEf (aa aFe (aa aCJ (aa aGg (ae _)))))) 1 ?_;intro a k h;unfold afx at h;split at h;exact⟨[_],rfl,rfl,.trans (by kernel_rfl) h⟩;cases h
def adi (N:Nat) (aAa:H7) (azB:Ho) (aFx:ab Pg 139 (Y6 aAa)) (aEC:ab Pg 138 (Yu azB)):ab Pg 121 (Uc (aab N aAa azB)):=by
 refine gfV N (aa aFx (aa aEC (ae _))) 0 ?_;intro a k h;unfold aga at h;split at h;exact⟨[],rfl,rfl,.trans (by kernel_rfl) h⟩;cases h
def de:StSh:=⟨(.any::.any::.ptr 0 0::.ptr 1 0::sqs 8 (.rof::.int .i64::.int .i64::sqs 12 [])),[some (126,1,.cells [.int .i64,.int .i64,.nil]),some (126,1,.cells [.int .i64,.int .i64,.slw 2]),some (146,1,.own 153 RT2)]⟩
def kZ:StSh:=⟨(.any::.any::.ptr 0 0::.ptr 1 0::sqs 23 []),[some (126,1,.cells [.int .i64,.int .i64,.nil]),some (126,1,.cells [.int .i64,.int .i64,.slw 2]),some (146,1,.own 153 RT2)]⟩
section
variable (N:Nat) (awD:gi)
noncomputable abbrev abk:Cx:=⟨Pg,ak [(121,(Uc awD))],av,N⟩
def fE:List Atom->K->Bool:=λa_ κ=>match a_ with
 | [.fls axK,.int axa,.int aye,.int axz,.int axA,.int r_2,.int r_3,.recs t7_ b2]=>RT.cast RT2 t7_ b2 (λb2=>ah N (mg N awD axK axa axz axA r_2 r_3 (λr4=>κ.ext 0 (kZ.build [.int axz,.int axA,.int r_2,.int r_3,.recs RT2 r4]))) (aye,b2)) false
 | _=>false
def IA:Nat->Option Ann:=λb_=>cond (b_==0) (some ⟨⟨[2,3,12,13,14],[(3,some 2,293)],[],[]⟩,[(0,⟨[2,3],[],[],[]⟩)],some ⟨[2],[],[],[]⟩,some (aA [(de,fE N awD)])⟩) (none)
def sy (κ:K) (axK:LF) (axa aye axz axA r_2 r_3:Int) (b2:List RY2):rU N (λs k=>cZ (abk N awD) 0 (IA N awD) (lp Pg 106 0).2 (lp Pg 106 0).1 s (kH Pg 0 ((IA N awD) (lp Pg 106 0).1) κ k)) (de.build [.fls axK,.int axa,.int aye,.int axz,.int axA,.int r_2,.int r_3,.recs RT2 b2])=ah N (mg N awD axK axa axz axA r_2 r_3 (λr4=>κ.ext 0 (kZ.build [.int axz,.int axA,.int r_2,.int r_3,.recs RT2 r4]))) (aye,b2):=
 az (λ(v_:Int × List RY2)=>de.build [.fls axK,.int axa,.int v_.1,.int axz,.int axA,.int r_2,.int r_3,.recs RT2 v_.2]) (λv_ K_=>by obtain⟨aye,b2⟩:=v_; kernel_rfl) N (aye,b2)
def rL:ax (abk N awD) 0 (IA N awD) (lp Pg 106 0) (de,fE N awD):=by
 intro a κ h;simp only at h;unfold fE at h;split at h
 ·obtain⟨e_,h⟩:=RT.cast_inv h (by decide); subst e_; exact(sy _ _ _ _ _ _ _ _ _ _ _).trans h
 ·cases h
def vU:aC (abk N awD) 0 (IA N awD) (lp Pg 106 0):=
 ar [(de,fE N awD)] (by kernel_rfl) ⟨rL _ _,trivial⟩
def adu (aE_:ab Pg 121 (Uc awD)):ab Pg 106 (YU (aal N awD)):=by
 refine glV N (IA N awD) (aa aE_ (ae _)) 1 0 (aG (vU _ _)) ?_;intro a k h;unfold agm at h;split at h;exact⟨[],rfl,rfl,.trans (by kernel_rfl) h⟩;cases h
end
def adz (N:Nat) (az0:HR) (aFj:ab Pg 106 (YU az0)):ab Pg 92 (YY (aap N az0)):=by
 refine gfV N (aa aFj (ae _)) 0 ?_;intro a k h;unfold agr at h;split at h;exact⟨[],rfl,rfl,.trans (by kernel_rfl) h⟩;cases h
def cS:StSh:=⟨(.int .i64::.int .i64::.any::.any::.ptr 0 0::.ptr 1 0::.int .i64::sqs 17 []),[some (126,1,.cells [.int .i64,.int .i64,.nil]),some (126,1,.cells [.int .i64,.int .i64,.slw 2]),some (146,1,.own 153 RT2)]⟩
def ks:StSh:=⟨(sqs 4 (.ptr 0 0::.ptr 1 0::sqs 18 [])),[some (126,1,.cells [.int .i64,.int .i64,.nil]),some (126,1,.cells [.int .i64,.int .i64,.slw 2]),some (146,1,.own 153 RT2)]⟩
def eR (N:Nat):List Atom->K->Bool:=λa_ κ=>match a_ with
 | [.int ayq,.int ayn,.int i_1,.int ax7,.int ax8,.int m_2,.int m_3,.recs t7_ b2]=>RT.cast RT2 t7_ b2 (λb2=>ah N (kY N ayq ayn ax7 ax8 m_2 m_3 (λr4=>κ.ext 0 (ks.build [.int ax7,.int ax8,.int m_2,.int m_3,.recs RT2 r4]))) (i_1,b2)) false
 | _=>false
def Iw (N:Nat):Nat->Option Ann:=λb_=>cond (b_==0) (some ⟨⟨[0,1,4,5,6],[(5,some 2,293)],[],[]⟩,[(0,⟨[4,5],[],[],[]⟩)],some ⟨[4],[],[],[]⟩,some (aA [(cS,eR N)])⟩) (none)
def rv (N:Nat) (κ:K) (ayq ayn i_1 ax7 ax8 m_2 m_3:Int) (b2:List RY2):rU N (λs k=>cZ ⟨Pg,ak [],av,N⟩ 0 (Iw N) (lp Pg 122 0).2 (lp Pg 122 0).1 s (kH Pg 0 ((Iw N) (lp Pg 122 0).1) κ k)) (cS.build [.int ayq,.int ayn,.int i_1,.int ax7,.int ax8,.int m_2,.int m_3,.recs RT2 b2])=ah N (kY N ayq ayn ax7 ax8 m_2 m_3 (λr4=>κ.ext 0 (ks.build [.int ax7,.int ax8,.int m_2,.int m_3,.recs RT2 r4]))) (i_1,b2):=
 az (λ(v_:Int × List RY2)=>cS.build [.int ayq,.int ayn,.int v_.1,.int ax7,.int ax8,.int m_2,.int m_3,.recs RT2 v_.2]) (λv_ K_=>by obtain⟨i_1,b2⟩:=v_; kernel_rfl) N (i_1,b2)
def qV (N:Nat):ax ⟨Pg,ak [],av,N⟩ 0 (Iw N) (lp Pg 122 0) (cS,eR N):=by
 intro a κ h;simp only at h;unfold eR at h;split at h
 ·obtain⟨e_,h⟩:=RT.cast_inv h (by decide); subst e_; exact(rv _ _ _ _ _ _ _ _ _ _).trans h
 ·cases h
def uU (N:Nat):aC ⟨Pg,ak [],av,N⟩ 0 (Iw N) (lp Pg 122 0):=
 ar [(cS,eR N)] (by kernel_rfl) ⟨qV _,trivial⟩
def ac3 (N:Nat):ab Pg 122 (T7 (Z2 N)):=by
 refine glV N (Iw N) (ae _) 1 0 (aG (uU _)) ?_;intro a k h;unfold afZ at h;split at h;exact⟨[],rfl,rfl,.trans (by kernel_rfl) h⟩;cases h
def acT (N:Nat) (auy:lT) (ayY:ab Pg 143 (C9 auy)):ab Pg 129 (T1 (ZU N auy)):=by
 refine gfZ N false (aa ayY (ae _)) 0 ?_;intro a k h;unfold Tu at h;split at h;exact⟨[],rfl,rfl,.trans (by kernel_rfl) h⟩;cases h
def ac5 (N:Nat) (SQ8:lP) (hQ8:ab Pg 150 (FQ8 SQ8)):ab Pg 140 (YI (Z3 N SQ8)):=by
 refine gfZ N false (aa hQ8 (ae _)) 2 ?_;intro a k h;unfold af0 at h;split at h;exact⟨[_,_],rfl,rfl,.trans (by kernel_rfl) h⟩;cases h
def ac0 (N:Nat) (SQ8:lP) (hQ8:ab Pg 150 (FQ8 SQ8)):ab Pg 140 (YH (ZZ N SQ8)):=by
 refine gfZ N false (aa hQ8 (ae _)) 3 ?_;intro a k h;unfold afW at h;split at h;exact⟨[_,_,_],rfl,rfl,.trans (by kernel_rfl) h⟩;cases h
def ab4 (N:Nat) (ayj:wj) (azP:HC) (azO:HB) (aER:ab Pg 129 (T1 ayj)) (aEZ:ab Pg 140 (YI azP)) (aEV:ab Pg 140 (YH azO)):ab Pg 123 (TI (Zj N ayj azP azO)):=by
 refine ggZ N false (iZ (aa aER (aa (ms (sh:=Wk) aEZ aEV) (ae _))) ⟨(cD (by kernel_rfl) (sA ayj)),(bt (by kernel_rfl)),trivial⟩) 1 ?_;intro a k h;unfold ae_ at h;split at h;exact⟨[_],rfl,rfl,.trans (by kernel_rfl) h⟩;cases h
def bI:StSh:=⟨(.any::.ptr 0 0::.ptr 1 0::.ptr 2 0::sqs 8 (.int .i64::.int .i64::sqs 15 [])),[some (126,1,.cells [.int .i64,.int .i64,.rl RT3]),some (126,1,.cells [.int .i64,.int .i64,.nil]),some (126,1,.cells [.int .i64,.int .i64,.slw 3]),some (146,1,.own 153 RT2)]⟩
def iO:StSh:=⟨(.any::.any::.ptr 0 0::.ptr 1 0::sqs 25 []),[some (126,1,.cells [.int .i64,.int .i64,.nil]),some (126,1,.cells [.int .i64,.int .i64,.slw 2]),some (146,1,.own 153 RT2)]⟩
section
variable (N:Nat) (awC:EG) (awB:ba)
noncomputable abbrev abl:Cx:=⟨Pg,ak [(122,(T7 awC)),(123,(TI awB))],av,N⟩
def cN:List Atom->K->Bool:=λa_ κ=>match a_ with
 | [.int t12,.int t13,.int m,.int m_3,.recs t4_ m_4,.int t2,.int axy,.int t,.int t_1,.recs t9_ b3]=>RT.cast RT3 t4_ m_4 (λm_4=>RT.cast RT2 t9_ b3 (λb3=>ah N (Ke N awC awB t12 m m_3 m_4 t2 axy t t_1 (λr4=>κ.ext 0 (iO.build [.int t2,.int axy,.int t,.int t_1,.recs RT2 r4]))) (t13,b3)) false) false
 | _=>false
def On:Nat->Option Ann:=λb_=>cond (b_==0) (some ⟨⟨[1,2,3,12,13],[],[],[]⟩,[(0,⟨[2,3],[],[],[]⟩)],some ⟨[2],[],[],[]⟩,some (aA [(bI,cN N awC awB)])⟩) (none)
def nU (κ:K) (t12 t13 m m_3:Int) (m_4:List RY3) (t2 axy t t_1:Int) (b3:List RY2):rU N (λs k=>cZ (abl N awC awB) 0 (On N awC awB) (lp Pg 107 0).2 (lp Pg 107 0).1 s (kH Pg 0 ((On N awC awB) (lp Pg 107 0).1) κ k)) (bI.build [.int t12,.int t13,.int m,.int m_3,.recs RT3 m_4,.int t2,.int axy,.int t,.int t_1,.recs RT2 b3])=ah N (Ke N awC awB t12 m m_3 m_4 t2 axy t t_1 (λr4=>κ.ext 0 (iO.build [.int t2,.int axy,.int t,.int t_1,.recs RT2 r4]))) (t13,b3):=
 az (λ(v_:Int × List RY2)=>bI.build [.int t12,.int v_.1,.int m,.int m_3,.recs RT3 m_4,.int t2,.int axy,.int t,.int t_1,.recs RT2 v_.2]) (λv_ K_=>by obtain⟨t13,b3⟩:=v_; kernel_rfl) N (t13,b3)
def nx:ax (abl N awC awB) 0 (On N awC awB) (lp Pg 107 0) (bI,cN N awC awB):=by
 intro a κ h;simp only at h;unfold cN at h;split at h
 ·obtain⟨e_,h⟩:=RT.cast_inv h (by decide); subst e_; obtain⟨e_,h⟩:=RT.cast_inv h (by decide); subst e_; exact(nU _ _ _ _ _ _ _ _ _ _ _ _ _ _).trans h
 ·cases h
def pC:aC (abl N awC awB) 0 (On N awC awB) (lp Pg 107 0):=
 ar [(bI,cN N awC awB)] (by kernel_rfl) ⟨nx _ _ _,trivial⟩
def aii (aEY:ab Pg 122 (T7 awC)) (aEi:ab Pg 123 (TI awB)):ab Pg 107 (ag1 (anF N awC awB)):=by
 refine glV N (On N awC awB) (aa aEY (aa aEi (ae _))) 1 0 (aG (pC _ _ _)) ?_;intro a k h;unfold amv at h;split at h
 ·obtain⟨e_,h⟩:=RT.cast_inv h (by decide); subst e_; exact⟨[],rfl,rfl,.trans (by kernel_rfl) h⟩
 ·cases h
end
def aia (N:Nat):ab Pg 108 (WC (anz N)):=by
 refine gfV N (ae _) 1 ?_;intro a k h;unfold amp at h;split at h
 ·obtain⟨e_,h⟩:=RT.cast_inv h (by decide); subst e_; exact⟨[_],rfl,rfl,.trans (by kernel_rfl) h⟩
 ·cases h
def adJ (N:Nat):ab Pg 124 (Y5 (aay N)):=by
 refine gfZ N false (ae _) 0 ?_;intro a k h;unfold agD at h;split at h;exact⟨[],rfl,rfl,.trans (by kernel_rfl) h⟩;cases h
def aiV (N:Nat) (az_:HG) (aFw:ab Pg 124 (Y5 az_)):ab Pg 109 (ahh (an9 N az_)):=by
 refine gfZ N false (aa aFw (ae _)) 0 ?_;intro a k h;unfold am5 at h;split at h;exact⟨[],rfl,rfl,.trans (by kernel_rfl) h⟩;cases h
def aib (N:Nat) (auy:lT) (ayY:ab Pg 143 (C9 auy)):ab Pg 129 (QN (anA N auy)):=by
 refine gfZ N false (aa ayY (ae _)) 1 ?_;intro a k h;unfold agI at h;split at h;exact⟨[_],rfl,rfl,.trans (by kernel_rfl) h⟩;cases h
def ah2 (N:Nat) (awP:wj) (av5:B8) (axv:Hk) (aBJ:ab Pg 129 (QN awP)) (ayX:ab Pg 128 (G3 av5)) (aBL:ab Pg 127 (WF axv)):ab Pg 111 (agW (ans N awP av5 axv)):=by
 refine ggZ N false (iZ (aa aBJ (aa ayX (aa aBL (ae _)))) ⟨(cD (by kernel_rfl) (da awP)),(bt (by kernel_rfl)),(bt (by kernel_rfl)),trivial⟩) 3 ?_;intro a k h;unfold amh at h;split at h;exact⟨[_,_,_],rfl,rfl,.trans (by kernel_rfl) h⟩;cases h
def ain (N:Nat) (av5:B8) (awP:wj) (axv:Hk) (ayX:ab Pg 128 (G3 av5)) (aBJ:ab Pg 129 (QN awP)) (aBL:ab Pg 127 (WF axv)):ab Pg 126 (ag4 (anK N av5 awP axv)):=by
 refine ggZ N false (iZ (aa ayX (aa aBJ (aa aBL (ae _)))) ⟨(bt (by kernel_rfl)),(cD (by kernel_rfl) (da awP)),(bt (by kernel_rfl)),trivial⟩) 3 ?_;intro a k h;unfold amA at h;split at h;exact⟨[_,_,_],rfl,rfl,.trans (by kernel_rfl) h⟩;cases h
def acv (N:Nat) (awP:wj) (av5:B8) (aBJ:ab Pg 129 (QN awP)) (ayX:ab Pg 128 (G3 av5)):ab Pg 141 (Yt (ZB N awP av5)):=by
 refine ggZ N false (iZ (aa aBJ (aa ayX (ae _))) ⟨(cD (by kernel_rfl) (da awP)),(bt (by kernel_rfl)),trivial⟩) 2 ?_;intro a k h;unfold afw at h;split at h;exact⟨[_,_],rfl,rfl,.trans (by kernel_rfl) h⟩;cases h
def gd:StSh:=⟨(.roi .u32::.roi .u32::sqs 4 (.slw 0::.int .u64::.int .i64::sqs 52 [])),[some (195,1,.ints .u32)]⟩
def tm:StSh:=⟨(.roi .u32::sqs 5 (.slw 0::.int .u64::sqs 53 [])),[some (195,1,.ints .u32)]⟩
section
variable (N:Nat) (SQ8:lP)
def fX:List Atom->K->Bool:=λa_ κ=>match a_ with
 | [.ints a_1,.ints b_1,.int carry,.int i,.ints out]=>ah N (lc N SQ8 a_1 b_1 (λr1 r2=>κ.ext 0 (tm.build [.ints a_1,.int r1,.ints r2]))) (carry,i,out)
 | _=>false
def Rp:Nat->Option Ann:=λb_=>cond (b_==0) (some ⟨⟨[0,1,6,7,8],[],[],[]⟩,[(0,⟨[0,6,7],[],[],[]⟩)],some ⟨[4],[],[],[]⟩,some (aA [(gd,fX N SQ8)])⟩) (none)
def sN:ax ⟨Pg,ak [(150,(FQ8 SQ8))],av,N⟩ 0 (Rp N SQ8) (lp Pg 203 0) (gd,fX N SQ8):=by
 intro a κ h;simp only at h;unfold fX at h;split at h
 ·rename_i a_1 b_1 carry i out;exact .trans (az (λ(v_:Int × Int × LI)=>gd.build [.ints a_1,.ints b_1,.int v_.1,.int v_.2.1,.ints v_.2.2]) (λv_ K_=>by obtain⟨carry,i,out⟩:=v_; kernel_rfl) N (carry,i,out)) h
 ·cases h
def wS:aC ⟨Pg,ak [(150,(FQ8 SQ8))],av,N⟩ 0 (Rp N SQ8) (lp Pg 203 0):=
 ar [(gd,fX N SQ8)] (by kernel_rfl) ⟨sN _ _,trivial⟩
def adE (hQ8:ab Pg 150 (FQ8 SQ8)):ab Pg 203 (Y2 (aat N SQ8)):=by
 refine glZ N false (Rp N SQ8) (aa hQ8 (ae _)) 1 0 (aG (wS _ _)) ?_;intro a k h;unfold agy at h;split at h;exact⟨[],rfl,rfl,.trans (by kernel_rfl) h⟩;cases h
end
def acK (N:Nat) (az7:B8) (avq:pV) (aum:pK) (axG:B8) (aFt:ab Pg 203 (Y2 az7)) (aAu:ab Pg 140 (G0 avq)) (aA7:ab Pg 148 (G2 aum)) (aCR:ab Pg 204 (Ub axG)):ab Pg 173 (YA (ZM N az7 avq aum axG)):=by
 refine gfZ N false (aa aFt (aa aAu (aa aA7 (aa aCR (ae _))))) 3 ?_;intro a k h;unfold afJ at h;split at h;exact⟨[_,_,_],rfl,rfl,.trans (by kernel_rfl) h⟩;cases h
def acJ (N:Nat) (azH:Hu) (aEL:ab Pg 173 (YA azH)):ab Pg 142 (Yz (ZL N azH)):=by
 refine gfZ N false (aa aEL (ae _)) 3 ?_;intro a k h;unfold afI at h;split at h;exact⟨[_,_,_],rfl,rfl,.trans (by kernel_rfl) h⟩;cases h
def ab2 (N:Nat) (awH:mY) (aAx:ab Pg 150 (KS awH)):ab Pg 140 (TG (Ur N awH)):=by
 refine gfZ N false (aa aAx (ae _)) 1 ?_;intro a k h;unfold ae8 at h;split at h;exact⟨[_],rfl,rfl,.trans (by kernel_rfl) h⟩;cases h
section
variable (N:Nat) (avB:zh) (auy:lT) (ave:zh) (au7:y_) (auY:HY) (auK:y_) (avn:B8) (aum:pK) (auG:tO)
noncomputable abbrev IL:Cx:=⟨Pg,ak [(140,(KJ (TG avB) (WH ave) Wd)),(143,(C9 auy)),(144,(WA au7)),(145,(Mj auY)),(146,(NY auK)),(147,(WI avn)),(148,(G2 aum)),(149,(N2 auG))],av,N⟩
def Ch (N:Nat) (avB:zh) (auy:lT) (ave:zh) (au7:y_) (auY:HY) (auK:y_) (avn:B8) (aum:pK) (auG:tO):Nat->Option Ann:=λb_=>none
def MR (d_:List V) (u_:List (Option Blk)) (neg:Bool) (a b:LI) (b_1:Bool) (b_2:LI) (b_3:Bool) (b_4 a_1 b_5:LI):St:=⟨(.ptr 0 0::.bool neg::vws a_1::vws b_5::dqs d_ 0 85 []),[some ⟨153,1,.cells [.bool b_1,vws b_2,.bool b_3,vws b_4]⟩,(u_.getD 0 none),(u_.getD 1 none)]⟩
def MU (d_:List V) (u_:List (Option Blk)) (neg:Bool) (a b:LI) (b_1:Bool) (b_2:LI) (b_3:Bool) (b_4:LI) (n:Int):St:=⟨(.ptr 0 0::.bool neg::vws a::vws b::dqs d_ 0 6 (.ptr 2 0::vwu n::dqs d_ 6 77 [])),[some ⟨153,1,.cells [.bool b_1,vws b_2,.bool b_3,vws b_4]⟩,(u_.getD 0 none),some ⟨151,1,.cells [.bool false,vws b]⟩]⟩
def ao0 (d_:List V) (u_:List (Option Blk)) (neg:Bool) (a b:LI) (b_1:Bool) (b_2:LI) (b_3:Bool) (b_4 a_1 b_5:LI) (c_:KV):aU (IL N avB auy ave au7 auY auK avn aum auG) 1 (Ch N avB auy ave au7 auY auK avn aum auG) ((cds Pg 127).drop 14) 0 (MR d_ u_ neg a b b_1 b_2 b_3 b_4 a_1 b_5) (ky false Pg 127 1 c_)=G_ N avB auy ave au7 auY auK avn aum auG neg a b b_1 b_2 b_3 b_4 a_1 b_5 (λr0 r1 r2 r3=>c_ (.ptr 0 0) [⟨153,1,.cells [.bool r0,vws r1,.bool r2,vws r3]⟩]):=by kernel_rfl
def aoR (d_:List V) (u_:List (Option Blk)) (neg:Bool) (a b:LI) (b_1:Bool) (b_2:LI) (b_3:Bool) (b_4:LI) (n:Int) (c_:KV) (κn_:St->Bool):aU (IL N avB auy ave au7 auY auK avn aum auG) 1 (Ch N avB auy ave au7 auY auK avn aum auG) (sg Pg 127 9 5) 0 (MU d_ u_ neg a b b_1 b_2 b_3 b_4 n) { (ky false Pg 127 1 c_)with nrm:=κn_ } = (auY a n (λauC=>auY b n (λauv=>au7 false auv (λaut=>aj .i64 aut&&auK false auv (λavw=>aj .i64 (avw - 1)&&cond (aut != (avw - 1)) (avn auC auv (λauu=>auy (λs6=>aum auu s6 (λawc=>cond (awc != 0) (auG auC auu (λs7 s8=>auG auv auu (λs9 s10=>κn_ (MR (dqs d_ 0 6 (.ptr 2 0::vwu n::(dq d_ 6)::vws auu::dqs d_ 8 27 (vws a::vwu n::vws auC::vws b::vwu n::vws auv::.ptr 2 0::vws auv::.ptr 2 0::.ptr 2 1::.ptr 2 0::vwu aut::vwi aut::.ptr 2 0::vwi avw::vwi (avw - 1)::.bool true::vws auC::vws auv::vws auu::vws auu::vws s6::vwi awc::.bool true::.tup [vws s7,vws s8]::vws auC::vws auu::.tup [vws s7,vws s8]::vws s7::vws s8::.tup [vws s9,vws s10]::vws auv::vws auu::.tup [vws s9,vws s10]::vws s9::vws s10::dqs d_ 71 12 []))) [(u_.getD 0 none),some ⟨151,1,.cells [.bool false,vws auv]⟩] neg a b b_1 b_2 b_3 b_4 s7 s9)))) (κn_ (MR (dqs d_ 0 6 (.ptr 2 0::vwu n::(dq d_ 6)::vws auu::dqs d_ 8 27 (vws a::vwu n::vws auC::vws b::vwu n::vws auv::.ptr 2 0::vws auv::.ptr 2 0::.ptr 2 1::.ptr 2 0::vwu aut::vwi aut::.ptr 2 0::vwi avw::vwi (avw - 1)::.bool true::vws auC::vws auv::vws auu::vws auu::vws s6::vwi awc::.bool false::dqs d_ 59 24 []))) [(u_.getD 0 none),some ⟨151,1,.cells [.bool false,vws auv]⟩] neg a b b_1 b_2 b_3 b_4 auC auv)))))) (κn_ (MR (dqs d_ 0 6 (.ptr 2 0::vwu n::dqs d_ 6 29 (vws a::vwu n::vws auC::vws b::vwu n::vws auv::.ptr 2 0::vws auv::.ptr 2 0::.ptr 2 1::.ptr 2 0::vwu aut::vwi aut::.ptr 2 0::vwi avw::vwi (avw - 1)::.bool false::dqs d_ 52 31 []))) [(u_.getD 0 none),some ⟨151,1,.cells [.bool false,vws auv]⟩] neg a b b_1 b_2 b_3 b_4 auC auv))))))):=by kernel_rfl
def ao3 (d_:List V) (u_:List (Option Blk)) (neg:Bool) (a b:LI) (b_1:Bool) (b_2:LI) (b_3:Bool) (b_4:LI) (n:Int) (c_:KV):aU (IL N avB auy ave au7 auY auK avn aum auG) 1 (Ch N avB auy ave au7 auY auK avn aum auG) ((cds Pg 127).drop 9) 0 (MU d_ u_ neg a b b_1 b_2 b_3 b_4 n) (ky false Pg 127 1 c_)=UD N avB auy ave au7 auY auK avn aum auG neg a b b_1 b_2 b_3 b_4 n (λr0 r1 r2 r3=>c_ (.ptr 0 0) [⟨153,1,.cells [.bool r0,vws r1,.bool r2,vws r3]⟩]):=by rw[dC 9 5 14 rfl];refine(aoR N avB auy ave au7 auY auK avn aum auG d_ u_ neg a b b_1 b_2 b_3 b_4 n c_ _).trans ?_;simp only[ao0];kernel_rfl
def aoV (neg:Bool) (a b:LI) (b_1:Bool) (b_2:LI) (b_3:Bool) (b_4:LI) (c_:KV) (κn_:St->Bool):aU (IL N avB auy ave au7 auY auK avn aum auG) 1 (Ch N avB auy ave au7 auY auK avn aum auG) (sg Pg 127 0 9) 0 (st0 Pg 127 (Ed.args [.bool neg,.ints a,.ints b,.bool b_1,.ints b_2,.bool b_3,.ints b_4]) [⟨153,1,.cells [.bool b_1,vws b_2,.bool b_3,vws b_4]⟩]) { (ky false Pg 127 1 c_)with nrm:=κn_ } = (cond (((a.length:Nat):Int)==0) (avB false [] b_1 b_2 b_3 b_4 (λcr nsr=>auy (λauo=>ave false auo cr nsr b_3 b_4 (λauN auF=>c_ (.ptr 0 0) [⟨153,1,.cells [.bool cr,vws nsr,.bool auN,vws auF]⟩])))) (au7 false a (λnr=>au7 false b (λaur=>cond (decide (aur<nr)) (κn_ (MU (vqs 4 (.val (.pointer none)::.ptr 1 0::vwu aur::.any::vws a::.agg [.bool false,vws a]::.ptr 1 0::vws b::.agg [.bool false,vws b]::.ptr 2 0::vws a::vwi ((a.length:Nat):Int)::.bool false::vqs 10 (.ptr 1 0::vwu nr::.ptr 2 0::vwu aur::vwu aur::vwu nr::.bool true::vwu aur::vqs 48 []))) [some ⟨151,1,.cells [.bool false,vws a]⟩] neg a b b_1 b_2 b_3 b_4 aur)) (κn_ (MU (vqs 4 (.val (.pointer none)::.ptr 1 0::vwu aur::.any::vws a::.agg [.bool false,vws a]::.ptr 1 0::vws b::.agg [.bool false,vws b]::.ptr 2 0::vws a::vwi ((a.length:Nat):Int)::.bool false::vqs 10 (.ptr 1 0::vwu nr::.ptr 2 0::vwu aur::vwu aur::vwu nr::.bool false::vqs 49 []))) [some ⟨151,1,.cells [.bool false,vws a]⟩] neg a b b_1 b_2 b_3 b_4 nr)))))):=by kernel_rfl
def apg (neg:Bool) (a b:LI) (b_1:Bool) (b_2:LI) (b_3:Bool) (b_4:LI) (c_:KV):aU (IL N avB auy ave au7 auY auK avn aum auG) 1 (Ch N avB auy ave au7 auY auK avn aum auG) ((cds Pg 127).drop 0) 0 (st0 Pg 127 (Ed.args [.bool neg,.ints a,.ints b,.bool b_1,.ints b_2,.bool b_3,.ints b_4]) [⟨153,1,.cells [.bool b_1,vws b_2,.bool b_3,vws b_4]⟩]) (ky false Pg 127 1 c_)=KT N avB auy ave au7 auY auK avn aum auG neg a b b_1 b_2 b_3 b_4 (λr0 r1 r2 r3=>c_ (.ptr 0 0) [⟨153,1,.cells [.bool r0,vws r1,.bool r2,vws r3]⟩]):=by rw[dC 0 9 9 rfl];refine(aoV N avB auy ave au7 auY auK avn aum auG neg a b b_1 b_2 b_3 b_4 c_ _).trans ?_;simp only[ao3];kernel_rfl
def aoo (neg:Bool) (a b:LI) (b_1:Bool) (b_2:LI) (b_3:Bool) (b_4:LI) (c_:KV):pM false (IL N avB auy ave au7 auY auK avn aum auG) (Ch N avB auy ave au7 auY auK avn aum auG) 127 (Ed.args [.bool neg,.ints a,.ints b,.bool b_1,.ints b_2,.bool b_3,.ints b_4]) [⟨153,1,.cells [.bool b_1,vws b_2,.bool b_3,vws b_4]⟩] c_=KT N avB auy ave au7 auY auK avn aum auG neg a b b_1 b_2 b_3 b_4 (λr0 r1 r2 r3=>c_ (.ptr 0 0) [⟨153,1,.cells [.bool r0,vws r1,.bool r2,vws r3]⟩]):=
 (iM (by kernel_rfl)).trans (apg N avB auy ave au7 auY auK avn aum auG neg a b b_1 b_2 b_3 b_4 c_)
def acn (aEg:ab Pg 140 (TG avB)) (ayY:ab Pg 143 (C9 auy)) (aDN:ab Pg 140 (WH ave)) (aDC:ab Pg 144 (WA au7)) (aC4:ab Pg 145 (Mj auY)) (aCX:ab Pg 146 (NY auK)) (aDO:ab Pg 147 (WI avn)) (aA7:ab Pg 148 (G2 aum)) (aC2:ab Pg 149 (N2 auG)):ab Pg 127 (Yo (KT N avB auy ave au7 auY auK avn aum auG)):=by
 refine l3 (md:=false) (cx:=(IL N avB auy ave au7 auY auK avn aum auG)) (gT (aa (ms aEg aDN) (aa ayY (aa aDC (aa aC4 (aa aCX (aa aDO (aa aA7 (aa aC2 (ae _))))))))) (by kernel_rfl)) Ed (To (KT N avB auy ave au7 auY auK avn aum auG)) (Ch N avB auy ave au7 auY auK avn aum auG) 0 1 (by kernel_rfl) (λi_ hi_=>by omega) ?_;intro a k h;unfold To at h;split at h;exact⟨[_],rfl,rfl,(aoo _ _ _ _ _ _ _ _ _ _ _ _ _ _ _ _ _ _).trans h⟩;cases h
end
def aiu (N:Nat) (azA:Hn) (awP:wj) (av5:B8) (azG:Ht) (azv:Hi) (aEB:ab Pg 141 (Yt azA)) (aBJ:ab Pg 129 (QN awP)) (ayX:ab Pg 128 (G3 av5)) (aEK:ab Pg 142 (Yz azG)) (aEu:ab Pg 127 (Yo azv)):ab Pg 125 (ag7 (anP N azA awP av5 azG azv)):=by
 refine ggZ N false (iZ (aa aEB (aa aBJ (aa ayX (aa aEK (aa aEu (ae _)))))) ⟨(bt (by kernel_rfl)),(cD (by kernel_rfl) (da awP)),(bt (by kernel_rfl)),(bt (by kernel_rfl)),(bt (by kernel_rfl)),trivial⟩) 2 ?_;intro a k h;unfold amF at h;split at h;exact⟨[_,_],rfl,rfl,.trans (by kernel_rfl) h⟩;cases h
def br:StSh:=⟨(.any::.int .i64::.int .i64::.ptr 1 0::.ptr 2 0::.any::.any::.any::.int .i64::sqs 22 []),[some (146,1,.own 153 RT2),some (153,1,.cells [.bool,.roi .u32,.bool,.roi .u32]),some (126,1,.cells [.int .i64,.int .i64,.slw 0])]⟩
def gM:StSh:=⟨(sqs 31 []),[some (146,1,.own 153 RT2),some (153,1,.cells [.bool,.roi .u32,.bool,.roi .u32])]⟩
section
variable (N:Nat) (avi:Bp) (axr:HX) (axs:ba)
noncomputable abbrev abm:Cx:=⟨Pg,ak [(108,(WC avi)),(126,(ag4 axr)),(125,(ag7 axs))],av,N⟩
def bW:List Atom->K->Bool:=λa_ κ=>match a_ with
 | [.int i_1,.int ayM,.int j,.recs t3_ b0,.bool r,.ints r_1,.bool r_2,.ints r_3,.int m,.int m_2]=>RT.cast RT2 t3_ b0 (λb0=>ah N (Kd N avi axr axs i_1 ayM r r_1 r_2 r_3 m m_2 (λr0=>κ.ext 0 (gM.build [.recs RT2 r0,.bool r,.ints r_1,.bool r_2,.ints r_3]))) (j,b0)) false
 | _=>false
def Ol:Nat->Option Ann:=λb_=>cond (b_==0) (some ⟨⟨[1,2,3,4,8],[],[],[]⟩,[(0,⟨[],[],[],[]⟩)],some ⟨[],[],[],[]⟩,some (aA [(br,bW N avi axr axs)])⟩) (none)
def lW (κ:K) (i_1 ayM j:Int) (b0:List RY2) (r:Bool) (r_1:LI) (r_2:Bool) (r_3:LI) (m m_2:Int):rU N (λs k=>cZ (abm N avi axr axs) 2 (Ol N avi axr axs) (lp Pg 110 0).2 (lp Pg 110 0).1 s (kH Pg 2 ((Ol N avi axr axs) (lp Pg 110 0).1) κ k)) (br.build [.int i_1,.int ayM,.int j,.recs RT2 b0,.bool r,.ints r_1,.bool r_2,.ints r_3,.int m,.int m_2])=ah N (Kd N avi axr axs i_1 ayM r r_1 r_2 r_3 m m_2 (λr0=>κ.ext 0 (gM.build [.recs RT2 r0,.bool r,.ints r_1,.bool r_2,.ints r_3]))) (j,b0):=
 az (λ(v_:Int × List RY2)=>br.build [.int i_1,.int ayM,.int v_.1,.recs RT2 v_.2,.bool r,.ints r_1,.bool r_2,.ints r_3,.int m,.int m_2]) (λv_ K_=>by obtain⟨j,b0⟩:=v_; kernel_rfl) N (j,b0)
def lQ:ax (abm N avi axr axs) 2 (Ol N avi axr axs) (lp Pg 110 0) (br,bW N avi axr axs):=by
 intro a κ h;simp only at h;unfold bW at h;split at h
 ·obtain⟨e_,h⟩:=RT.cast_inv h (by decide); subst e_; exact(lW _ _ _ _ _ _ _ _ _ _ _ _ _ _ _).trans h
 ·cases h
def nA:aC (abm N avi axr axs) 2 (Ol N avi axr axs) (lp Pg 110 0):=
 ar [(br,bW N avi axr axs)] (by kernel_rfl) ⟨lQ _ _ _ _,trivial⟩
def ah8 (aDF:ab Pg 108 (WC avi)) (aF6:ab Pg 126 (ag4 axr)) (aF_:ab Pg 125 (ag7 axs)):ab Pg 110 (agX (anw N avi axr axs)):=by
 refine glV N (Ol N avi axr axs) (aa aDF (aa aF6 (aa aF_ (ae _)))) 1 2 (aG (nA _ _ _ _)) ?_;intro a k h;unfold amn at h;split at h
 ·obtain⟨e_,h⟩:=RT.cast_inv h (by decide); subst e_; exact⟨[_,_],rfl,rfl,.trans (by kernel_rfl) h⟩
 ·cases h
def bZ:StSh:=⟨(.any::.any::.any::.ptr 0 0::.any::.int .i64::.any::.int .i64::sqs 53 []),[some (126,1,.cells [.int .i64,.int .i64,.slw 1]),some (146,1,.own 153 RT2)]⟩
def jc:StSh:=⟨(.any::.any::.int .i64::sqs 58 []),[]⟩
def jg:StSh:=⟨(.any::.any::.any::.ptr 0 0::.any::.int .i64::sqs 55 []),[some (126,1,.cells [.int .i64,.int .i64,.slw 1]),some (146,1,.own 153 RT2)]⟩
end
section
variable (N:Nat) (av1:Ia) (avi:Bp) (avQ:HG) (avZ:HX) (av0:H8)
noncomputable abbrev Du:Cx:=⟨Pg,ak [(107,(ag1 av1)),(108,(WC avi)),(109,(ahh avQ)),(111,(agW avZ)),(110,(agX av0))],av,N⟩
def dc:List Atom->K->Bool:=λa_ κ=>match a_ with
 | [.int c_1,.int j,.int a_2,.int a_3,.recs t4_ axL]=>RT.cast RT2 t4_ axL (λaxL=>ah N (Ae N av1 avi avQ avZ av0 c_1 a_2 a_3 axL (λr0=>κ.ret (jc.build [.int r0])) (κ.ext 2 (jg.build [.int c_1,.int a_2,.int a_3,.recs RT2 axL]))) j) false
 | _=>false
def ca:StSh:=⟨(.any::.any::.any::.ptr 0 0::.int .i64::.int .i64::.opt 1 0::.any::.int .i64::sqs 52 []),[some (126,1,.cells [.int .i64,.int .i64,.slw 1]),some (146,1,.own 153 RT2)]⟩
def je:StSh:=⟨(.any::.any::.any::.ptr 0 0::.int .i64::.int .i64::sqs 55 []),[some (126,1,.cells [.int .i64,.int .i64,.slw 1]),some (146,1,.own 153 RT2)]⟩
def dd:List Atom->K->Bool:=λa_ κ=>match a_ with
 | [.int ayr,.int c_2,.nat d,.int i,.int a_4,.int a_5,.recs t6_ d_1]=>RT.cast RT2 t6_ d_1 (λd_1=>ah N (Fu N av1 avi avQ avZ av0 ayr c_2 d a_4 a_5 (λr4=>κ.ext 4 (je.build [.int ayr,.int c_2,.int a_4,.int a_5,.recs RT2 r4]))) (i,d_1)) false
 | _=>false
def bY:StSh:=⟨(.any::.any::.any::.ptr 0 0::.int .i64::.int .i64::sqs 55 []),[some (126,1,.cells [.int .i64,.int .i64,.slw 1]),some (146,1,.own 153 RT2)]⟩
def jb:StSh:=⟨(.any::.any::.int .i64::sqs 58 []),[]⟩
def jf:StSh:=⟨(sqs 4 (.int .i64::sqs 56 [])),[]⟩
def db:List Atom->K->Bool:=λa_ κ=>match a_ with
 | [.int sign,.int c,.int a,.int a_1,.recs t4_ b1]=>RT.cast RT2 t4_ b1 (λb1=>ah N (Ad N av1 avi avQ avZ av0 a a_1 (λr0=>κ.ret (jb.build [.int r0])) (λr0=>κ.ext 0 (jf.build [.int r0]))) (sign,c,b1)) false
 | _=>false
def pZ:Nat->Option Ann:=λb_=>cond (b_==2) (some ⟨⟨[3,5,7],[],[],[]⟩,[(2,⟨[3,5],[],[],[]⟩)],some ⟨[2],[],[],[]⟩,some (aA [(bZ,dc N av1 avi avQ avZ av0)])⟩) (cond (b_==4) (some ⟨⟨[3,4,5,6,8],[],[],[]⟩,[(4,⟨[3,4,5],[],[],[]⟩)],some ⟨[2],[],[],[]⟩,some (aA [(ca,dd N av1 avi avQ avZ av0)])⟩) (cond (b_==0) (some ⟨⟨[3,4,5],[],[],[]⟩,[(0,⟨[4],[],[],[]⟩)],some ⟨[2],[],[],[]⟩,some (aA [(bY,db N av1 avi avQ avZ av0)])⟩) (none)))
def oy (κ:K) (c_1 j a_2 a_3:Int) (axL:List RY2):rU N (λs k=>cZ (Du N av1 avi avQ avZ av0) 0 (pZ N av1 avi avQ avZ av0) (lp Pg 93 1).2 (lp Pg 93 1).1 s (kH Pg 0 ((pZ N av1 avi avQ avZ av0) (lp Pg 93 1).1) κ k)) (bZ.build [.int c_1,.int j,.int a_2,.int a_3,.recs RT2 axL])=ah N (Ae N av1 avi avQ avZ av0 c_1 a_2 a_3 axL (λr0=>κ.ret (jc.build [.int r0])) (κ.ext 2 (jg.build [.int c_1,.int a_2,.int a_3,.recs RT2 axL]))) j:=
 az (λv_=>bZ.build [.int c_1,.int v_,.int a_2,.int a_3,.recs RT2 axL]) (λv_ K_=>by kernel_rfl) N j
def og:ax (Du N av1 avi avQ avZ av0) 0 (pZ N av1 avi avQ avZ av0) (lp Pg 93 1) (bZ,dc N av1 avi avQ avZ av0):=by
 intro a κ h;simp only at h;unfold dc at h;split at h
 ·obtain⟨e_,h⟩:=RT.cast_inv h (by decide); subst e_; exact(oy _ _ _ _ _ _ _ _ _ _ _ _).trans h
 ·cases h
def oz (κ:K) (ayr c_2:Int) (d:Nat) (i a_4 a_5:Int) (d_1:List RY2):rU N (λs k=>cZ (Du N av1 avi avQ avZ av0) 0 (pZ N av1 avi avQ avZ av0) (lp Pg 93 2).2 (lp Pg 93 2).1 s (kH Pg 0 ((pZ N av1 avi avQ avZ av0) (lp Pg 93 2).1) κ k)) (ca.build [.int ayr,.int c_2,.nat d,.int i,.int a_4,.int a_5,.recs RT2 d_1])=ah N (Fu N av1 avi avQ avZ av0 ayr c_2 d a_4 a_5 (λr4=>κ.ext 4 (je.build [.int ayr,.int c_2,.int a_4,.int a_5,.recs RT2 r4]))) (i,d_1):=
 az (λ(v_:Int × List RY2)=>ca.build [.int ayr,.int c_2,.nat d,.int v_.1,.int a_4,.int a_5,.recs RT2 v_.2]) (λv_ K_=>by obtain⟨i,d_1⟩:=v_; kernel_rfl) N (i,d_1)
def oh:ax (Du N av1 avi avQ avZ av0) 0 (pZ N av1 avi avQ avZ av0) (lp Pg 93 2) (ca,dd N av1 avi avQ avZ av0):=by
 intro a κ h;simp only at h;unfold dd at h;split at h
 ·obtain⟨e_,h⟩:=RT.cast_inv h (by decide); subst e_; exact(oz _ _ _ _ _ _ _ _ _ _ _ _ _ _).trans h
 ·cases h
def ox (κ:K) (sign c a a_1:Int) (b1:List RY2):rU N (λs k=>cZ (Du N av1 avi avQ avZ av0) 0 (pZ N av1 avi avQ avZ av0) (lp Pg 93 0).2 (lp Pg 93 0).1 s (kH Pg 0 ((pZ N av1 avi avQ avZ av0) (lp Pg 93 0).1) κ k)) (bY.build [.int sign,.int c,.int a,.int a_1,.recs RT2 b1])=ah N (Ad N av1 avi avQ avZ av0 a a_1 (λr0=>κ.ret (jb.build [.int r0])) (λr0=>κ.ext 0 (jf.build [.int r0]))) (sign,c,b1):=
 az (λ(v_:Int × Int × List RY2)=>bY.build [.int v_.1,.int v_.2.1,.int a,.int a_1,.recs RT2 v_.2.2]) (λv_ K_=>by obtain⟨sign,c,b1⟩:=v_; kernel_rfl) N (sign,c,b1)
def oe:ax (Du N av1 avi avQ avZ av0) 0 (pZ N av1 avi avQ avZ av0) (lp Pg 93 0) (bY,db N av1 avi avQ avZ av0):=by
 intro a κ h;simp only at h;unfold db at h;split at h
 ·obtain⟨e_,h⟩:=RT.cast_inv h (by decide); subst e_; exact(ox _ _ _ _ _ _ _ _ _ _ _ _).trans h
 ·cases h
def q7:aC (Du N av1 avi avQ avZ av0) 0 (pZ N av1 avi avQ avZ av0) (lp Pg 93 1):=
 ar [(bZ,dc N av1 avi avQ avZ av0)] (by kernel_rfl) ⟨og _ _ _ _ _ _,trivial⟩
def q8:aC (Du N av1 avi avQ avZ av0) 0 (pZ N av1 avi avQ avZ av0) (lp Pg 93 2):=
 ar [(ca,dd N av1 avi avQ avZ av0)] (by kernel_rfl) ⟨oh _ _ _ _ _ _,trivial⟩
def qZ:aC (Du N av1 avi avQ avZ av0) 0 (pZ N av1 avi avQ avZ av0) (lp Pg 93 0):=
 ar [(bY,db N av1 avi avQ avZ av0)] (by kernel_rfl) ⟨oe _ _ _ _ _ _,trivial⟩
def acL (aF3:ab Pg 107 (ag1 av1)) (aDF:ab Pg 108 (WC avi)) (aGl:ab Pg 109 (ahh avQ)) (aFY:ab Pg 111 (agW avZ)) (aFZ:ab Pg 110 (agX av0)):ab Pg 93 (YB (ZN N av1 avi avQ avZ av0)):=by
 refine glV N (pZ N av1 avi avQ avZ av0) (aa aF3 (aa aDF (aa aGl (aa aFY (aa aFZ (ae _)))))) 3 0 (λi_ hi_=>by
  match i_,hi_ with
  | 0,_=>exact qZ _ _ _ _ _ _
  | 1,_=>exact q7 _ _ _ _ _ _
  | 2,_=>exact q8 _ _ _ _ _ _
  | (q+3),h=>omega) ?_
 intro a k h;unfold afK at h;split at h
 ·obtain⟨e_,h⟩:=RT.cast_inv h (by decide); subst e_; exact⟨[],rfl,rfl,.trans (by kernel_rfl) h⟩
 ·cases h
end
def acS (N:Nat) (az3:HR) (azI:Hv) (aFp:ab Pg 92 (YY az3)) (aEM:ab Pg 93 (YB azI)):ab Pg 67 (T0 (ZT N az3 azI)):=by
 refine gfV N (aa aFp (aa aEM (ae _))) 0 ?_;intro a k h;unfold afQ at h;split at h;exact⟨[],rfl,rfl,.trans (by kernel_rfl) h⟩;cases h
def ahZ (N:Nat) (az4:jk) (axZ:FB) (aFq:ab Pg 66 (YZ az4)) (aCN:ab Pg 67 (T0 axZ)):ab Pg 24 (agU (anp N az4 axZ)):=by
 refine gfV N (aa aFq (aa aCN (ae _))) 0 ?_;intro a k h;unfold ame at h;split at h;exact⟨[],rfl,rfl,.trans (by kernel_rfl) h⟩;cases h
def ah3 (N:Nat) (axq:FA) (aDD:ab Pg 29 (WB axq)):ab Pg 54 (Ez (ant N axq)):=by
 refine gfV N (aa aDD (ae _)) 1 ?_;intro a k h;unfold ami at h;split at h;exact⟨[_],rfl,rfl,.trans (by kernel_rfl) h⟩;cases h
def aoK (N:Nat) (aw2:EM) (aBl:ab Pg 40 (Ul aw2)):ab Pg 13 (FQ3 (GQ3 N aw2)):=by
 refine gfV N (aa aBl (ae _)) 0 ?_;intro a k h;unfold as1 at h;split at h;exact⟨[],rfl,rfl,.trans (by kernel_rfl) h⟩;cases h
def Gw (N:Nat):ab Pg 60 (kt (xh N)):=by
 refine gfV N (ae _) 0 ?_;intro a k h;unfold BH at h;split at h;exact⟨[],rfl,rfl,.trans (by kernel_rfl) h⟩;cases h
def ac_ (N:Nat) (axI:zj) (aDn:ab Pg 105 (Mk axI)):ab Pg 91 (Ua (Uz N axI)):=by
 refine gfV N (aa aDn (ae _)) 0 ?_;intro a k h;unfold af3 at h;split at h;exact⟨[],rfl,rfl,.trans (by kernel_rfl) h⟩;cases h
def DC (N:Nat):ab Pg 60 (tF (tH N)):=by
 refine gfV N (ae _) 1 ?_;intro a k h;unfold yB at h;split at h;exact⟨[_],rfl,rfl,.trans (by kernel_rfl) h⟩;cases h
def kQ:StSh:=⟨(.any::.int .i64::.ptr 0 0::.any::.any::.slw 1::sqs 5 (.int .i64::.int .i64::sqs 17 [])),[some (28,1,.cells [.int .i64,.int .i64,.rof]),some (33,1,.flts)]⟩
def Bn:StSh:=⟨(sqs 5 (.slw 0::sqs 24 [])),[some (33,1,.flts)]⟩
def kG (N:Nat):List Atom->K->Bool:=λa_ κ=>match a_ with
 | [.int j_1,.int t11,.int t12,.int m,.int m_3,.fls m_4,.fls out]=>ah N (nP N j_1 t11 m m_3 m_4 (λr0=>κ.ext 0 (Bn.build [.fls r0]))) (t12,out)
 | _=>false
def vC (N:Nat):Nat->Option Ann:=λb_=>cond (b_==0) (some ⟨⟨[1,2,5,11,12],[],[],[]⟩,[(0,⟨[5],[],[],[]⟩)],some ⟨[4],[],[],[]⟩,some (aA [(kQ,kG N)])⟩) (none)
def Ba (N:Nat):ax ⟨Pg,ak [],av,N⟩ 0 (vC N) (lp Pg 90 0) (kQ,kG N):=by
 intro a κ h;simp only at h;unfold kG at h;split at h
 ·rename_i j_1 t11 t12 m m_3 m_4 out;exact .trans (az (λ(v_:Int × LF)=>kQ.build [.int j_1,.int t11,.int v_.1,.int m,.int m_3,.fls m_4,.fls v_.2]) (λv_ K_=>by obtain⟨t12,out⟩:=v_; kernel_rfl) N (t12,out)) h
 ·cases h
def GD (N:Nat):aC ⟨Pg,ak [],av,N⟩ 0 (vC N) (lp Pg 90 0):=
 ar [(kQ,kG N)] (by kernel_rfl) ⟨Ba _,trivial⟩
def Gv (N:Nat):ab Pg 90 (sr (xg N)):=by
 refine glV N (vC N) (ae _) 1 0 (aG (GD _)) ?_;intro a k h;unfold BG at h;split at h;exact⟨[],rfl,rfl,.trans (by kernel_rfl) h⟩;cases h
def Ma:StSh:=⟨(sqs 4 (.fn 42 []::.ptr 0 0::sqs 4 (.ptr 1 0::.ptr 2 0::.any::.ptr 3 0::.any::.flt::.slw 4::sqs 44 (.int .i64::.int .i64::sqs 98 [])))),[some (30,1,.cells [.rof,.int .i64,.int .i64,.rof]),some (30,1,.cells [.nil,.int .i64,.int .i64,.nil]),some (42,1,.cells [.flt,.flt,.flt,.nil]),some (85,1,.cells [.bool,.rof,.int .i64,.int .i64,.rof,.rof,.flt,.flt,.slw 5,.slw 6,.flt]),some (33,1,.flts),some (33,1,.flts),some (33,1,.flts)]⟩
def ack (N:Nat) (ax1:wh) (aCU:ab Pg 83 (Ui ax1)):ab Pg 48 (TQ (Zv N ax1)):=by
 refine gfV N (aa aCU (ae _)) 0 ?_;intro a k h;unfold afo at h;split at h;exact⟨[],rfl,rfl,.trans (by kernel_rfl) h⟩;cases h
def ab_ (N:Nat):ab Pg 51 (KO (Zo N)):=by
 refine gfV N (ae _) 0 ?_;intro a k h;unfold aff at h;split at h;exact⟨[],rfl,rfl,.trans (by kernel_rfl) h⟩;cases h
def cQ:StSh:=⟨(.ptr 0 0::.rof::.rof::sqs 4 (.flt::.any::.any::.int .i64::.int .i64::sqs 19 [])),[some (89,1,.cells [.bool])]⟩
def nG:StSh:=⟨(sqs 7 (.flt::sqs 23 [])),[some (89,1,.cells [.bool])]⟩
section
variable (N:Nat) (au2:sf)
def cM:List Atom->K->Bool:=λa_ κ=>match a_ with
 | [.fls a_1,.fls b_2,.fl t,.int t10,.int t11,.bool s]=>ah N (pg N au2 a_1 b_2 t10 (λr0 r1=>κ.ext 0 (nG.build [.fl r0,.bool r1]))) (t,t11,s)
 | _=>false
def aa0:Nat->Option Ann:=λb_=>cond (b_==0) (some ⟨⟨[0,1,2,7,10,11],[],[],[]⟩,[(0,⟨[7],[],[],[]⟩)],some ⟨[6],[],[],[]⟩,some (aA [(cQ,cM N au2)])⟩) (none)
def nw:ax ⟨Pg,ak [(54,(Ez au2))],av,N⟩ 1 (aa0 N au2) (lp Pg 50 0) (cQ,cM N au2):=by
 intro a κ h;simp only at h;unfold cM at h;split at h
 ·rename_i a_1 b_2 t t10 t11 s;exact .trans (az (λ(v_:Fl × Int × Bool)=>cQ.build [.fls a_1,.fls b_2,.fl v_.1,.int t10,.int v_.2.1,.bool v_.2.2]) (λv_ K_=>by obtain⟨t,t11,s⟩:=v_; kernel_rfl) N (t,t11,s)) h
 ·cases h
def pB:aC ⟨Pg,ak [(54,(Ez au2))],av,N⟩ 1 (aa0 N au2) (lp Pg 50 0):=
 ar [(cQ,cM N au2)] (by kernel_rfl) ⟨nw _ _,trivial⟩
def aiX (aBH:ab Pg 54 (Ez au2)):ab Pg 50 (ahj (aoa N au2)):=by
 refine glV N (aa0 N au2) (aa aBH (ae _)) 1 1 (aG (pB _ _)) ?_;intro a k h;unfold am7 at h;split at h;exact⟨[_],rfl,rfl,.trans (by kernel_rfl) h⟩;cases h
end
def ahW (N:Nat):ab Pg 26 (NP (anm N)):=by
 refine gfV N (ae _) 0 ?_;intro a k h;unfold ama at h;split at h;exact⟨[],rfl,rfl,.trans (by kernel_rfl) h⟩;cases h
def fa:StSh:=⟨(.any::.int .i64::.ptr 0 0::.any::.any::.slw 1::.int .i64::sqs 14 []),[some (28,1,.cells [.int .i64,.int .i64,.rof]),some (33,1,.flts)]⟩
def rq:StSh:=⟨(sqs 5 (.slw 0::sqs 15 [])),[some (33,1,.flts)]⟩
section
variable (N:Nat) (auP:EC)
def eS:List Atom->K->Bool:=λa_ κ=>match a_ with
 | [.int j_2,.int i_1,.int m_5,.int m_6,.fls m_7,.fls l]=>ah N (nQ N auP j_2 m_5 m_6 m_7 (λr0=>κ.ext 0 (rq.build [.fls r0]))) (i_1,l)
 | _=>false
def Re:Nat->Option Ann:=λb_=>cond (b_==0) (some ⟨⟨[1,2,5,6],[(5,none,66)],[],[]⟩,[(0,⟨[5],[],[],[]⟩)],some ⟨[4],[],[],[]⟩,some (aA [(fa,eS N auP)])⟩) (none)
def qW:ax ⟨Pg,ak [(55,(G6 auP))],av,N⟩ 0 (Re N auP) (lp Pg 86 0) (fa,eS N auP):=by
 intro a κ h;simp only at h;unfold eS at h;split at h
 ·rename_i j_2 i_1 m_5 m_6 m_7 l;exact .trans (az (λ(v_:Int × LF)=>fa.build [.int j_2,.int v_.1,.int m_5,.int m_6,.fls m_7,.fls v_.2]) (λv_ K_=>by obtain⟨i_1,l⟩:=v_; kernel_rfl) N (i_1,l)) h
 ·cases h
def uV:aC ⟨Pg,ak [(55,(G6 auP))],av,N⟩ 0 (Re N auP) (lp Pg 86 0):=
 ar [(fa,eS N auP)] (by kernel_rfl) ⟨qW _ _,trivial⟩
def acE (aBO:ab Pg 55 (G6 auP)):ab Pg 86 (TY (ZH N auP)):=by
 refine glV N (Re N auP) (aa aBO (ae _)) 1 0 (aG (uV _ _)) ?_;intro a k h;unfold afD at h;split at h;exact⟨[],rfl,rfl,.trans (by kernel_rfl) h⟩;cases h
def cu:StSh:=⟨(.ptr 0 0::.rof::.slw 1::sqs 4 (.flt::.any::.any::.int .i64::.int .i64::sqs 19 [])),[some (89,1,.cells [.bool]),some (33,1,.flts)]⟩
def mV:StSh:=⟨(sqs 7 (.flt::sqs 23 [])),[some (89,1,.cells [.bool]),some (33,1,.flts)]⟩
end
section
variable (N:Nat) (au2:sf)
def co:List Atom->K->Bool:=λa_ κ=>match a_ with
 | [.fls a_1,.fl t,.int t10,.int t11,.bool s,.fls b_2]=>ah N (mT N au2 a_1 t10 b_2 (λr0 r1=>κ.ext 0 (mV.build [.fl r0,.bool r1,.fls b_2]))) (t,t11,s)
 | _=>false
def aaZ:Nat->Option Ann:=λb_=>cond (b_==0) (some ⟨⟨[0,1,2,7,10,11],[],[],[]⟩,[(0,⟨[7],[],[],[]⟩)],some ⟨[6],[],[],[]⟩,some (aA [(cu,co N au2)])⟩) (none)
def mu:ax ⟨Pg,ak [(54,(Ez au2))],av,N⟩ 2 (aaZ N au2) (lp Pg 50 0) (cu,co N au2):=by
 intro a κ h;simp only at h;unfold co at h;split at h
 ·rename_i a_1 t t10 t11 s b_2;exact .trans (az (λ(v_:Fl × Int × Bool)=>cu.build [.fls a_1,.fl v_.1,.int t10,.int v_.2.1,.bool v_.2.2,.fls b_2]) (λv_ K_=>by obtain⟨t,t11,s⟩:=v_; kernel_rfl) N (t,t11,s)) h
 ·cases h
def oj:aC ⟨Pg,ak [(54,(Ez au2))],av,N⟩ 2 (aaZ N au2) (lp Pg 50 0):=
 ar [(cu,co N au2)] (by kernel_rfl) ⟨mu _ _,trivial⟩
def aiS (aBH:ab Pg 54 (Ez au2)):ab Pg 50 (ahf (an7 N au2)):=by
 refine glV N (aaZ N au2) (aa aBH (ae _)) 1 2 (aG (oj _ _)) ?_;intro a k h;unfold am2 at h;split at h;exact⟨[_,_],rfl,rfl,.trans (by kernel_rfl) h⟩;cases h
end
def ahX (N:Nat):ab Pg 53 (NQ (ann N)):=by
 refine gfV N (ae _) 1 ?_;intro a k h;unfold amc at h;split at h;exact⟨[_],rfl,rfl,.trans (by kernel_rfl) h⟩;cases h
def dN:StSh:=⟨(.any::.any::.ptr 0 0::.ptr 1 0::.ptr 2 0::.any::.ptr 3 0::.ptr 4 0::.int .i64::.int .i64::sqs 30 []),[some (89,1,.cells [.bool]),some (28,1,.cells [.int .i64,.int .i64,.rof]),some (28,1,.cells [.int .i64,.int .i64,.rof]),some (28,1,.cells [.int .i64,.int .i64,.nil]),some (28,1,.cells [.int .i64,.int .i64,.slw 5]),some (33,1,.flts)]⟩
def pJ:StSh:=⟨(.any::.any::.ptr 0 0::.ptr 1 0::.ptr 2 0::.any::.ptr 3 0::.ptr 4 0::.int .i64::sqs 31 []),[some (89,1,.cells [.bool]),some (28,1,.cells [.int .i64,.int .i64,.rof]),some (28,1,.cells [.int .i64,.int .i64,.rof]),some (28,1,.cells [.int .i64,.int .i64,.nil]),some (28,1,.cells [.int .i64,.int .i64,.slw 5]),some (33,1,.flts)]⟩
section
variable (N:Nat) (au1:wc) (auV:eC) (awf:eC) (aw7:K8) (auZ:we)
noncomputable abbrev UQ:Cx:=⟨Pg,ak [(26,(NP au1)),(51,(KO auV)),(86,(TY awf)),(50,(ahf aw7)),(53,(NQ auZ))],av,N⟩
def dJ:List Atom->K->Bool:=λa_ κ=>match a_ with
 | [.int i_1,.int j,.bool s_1,.int a_5,.int a_6,.fls a_7,.int b_6,.int b_7,.fls b_8,.int ayw,.int ayx,.int m_2,.int m_3,.fls ayI]=>ah N (NI N au1 auV awf aw7 auZ i_1 a_5 a_6 a_7 b_6 b_7 b_8 ayw ayx m_2 m_3 (λr1 r12=>κ.ext 2 (pJ.build [.int i_1,.bool r1,.int a_5,.int a_6,.fls a_7,.int b_6,.int b_7,.fls b_8,.int ayw,.int ayx,.int m_2,.int m_3,.fls r12]))) (j,s_1,ayI)
 | _=>false
def dM:StSh:=⟨(.any::.any::.ptr 0 0::.ptr 1 0::.ptr 2 0::.any::.ptr 3 0::.ptr 4 0::.int .i64::sqs 31 []),[some (89,1,.cells [.bool]),some (28,1,.cells [.int .i64,.int .i64,.rof]),some (28,1,.cells [.int .i64,.int .i64,.rof]),some (28,1,.cells [.int .i64,.int .i64,.nil]),some (28,1,.cells [.int .i64,.int .i64,.slw 5]),some (33,1,.flts)]⟩
def pI:StSh:=⟨(sqs 6 (.ptr 1 0::.ptr 2 0::sqs 32 [])),[some (89,1,.cells [.bool]),some (28,1,.cells [.int .i64,.int .i64,.nil]),some (28,1,.cells [.int .i64,.int .i64,.slw 3]),some (33,1,.flts)]⟩
def dI:List Atom->K->Bool:=λa_ κ=>match a_ with
 | [.int i,.bool s,.int a,.int a_3,.fls a_4,.int b_3,.int b_4,.fls b_5,.int t6,.int awO,.int m,.int m_1,.fls b5]=>ah N (NH N au1 auV awf aw7 auZ a a_3 a_4 b_3 b_4 b_5 t6 awO m m_1 (λr0 r5=>κ.ext 0 (pI.build [.bool r0,.int t6,.int awO,.int m,.int m_1,.fls r5]))) (i,s,b5)
 | _=>false
def Om:Nat->Option Ann:=λb_=>cond (b_==2) (some ⟨⟨[2,3,4,6,7,8,9],[],[],[]⟩,[(2,⟨[2,3,4,6,7,8],[],[],[]⟩)],some ⟨[6],[],[],[]⟩,some (aA [(dN,dJ N au1 auV awf aw7 auZ)])⟩) (cond (b_==0) (some ⟨⟨[2,3,4,6,7,8],[],[],[]⟩,[(0,⟨[6,7],[],[],[]⟩)],some ⟨[6],[],[],[]⟩,some (aA [(dM,dI N au1 auV awf aw7 auZ)])⟩) (none))
def pA:ax (UQ N au1 auV awf aw7 auZ) 1 (Om N au1 auV awf aw7 auZ) (lp Pg 52 1) (dN,dJ N au1 auV awf aw7 auZ):=by
 intro a κ h;simp only at h;unfold dJ at h;split at h
 ·rename_i i_1 j s_1 a_5 a_6 a_7 b_6 b_7 b_8 ayw ayx m_2 m_3 ayI;exact .trans (az (λ(v_:Int × Bool × LF)=>dN.build [.int i_1,.int v_.1,.bool v_.2.1,.int a_5,.int a_6,.fls a_7,.int b_6,.int b_7,.fls b_8,.int ayw,.int ayx,.int m_2,.int m_3,.fls v_.2.2]) (λv_ K_=>by obtain⟨j,s_1,ayI⟩:=v_; kernel_rfl) N (j,s_1,ayI)) h
 ·cases h
def pz:ax (UQ N au1 auV awf aw7 auZ) 1 (Om N au1 auV awf aw7 auZ) (lp Pg 52 0) (dM,dI N au1 auV awf aw7 auZ):=by
 intro a κ h;simp only at h;unfold dI at h;split at h
 ·rename_i i s a a_3 a_4 b_3 b_4 b_5 t6 awO m m_1 b5;exact .trans (az (λ(v_:Int × Bool × LF)=>dM.build [.int v_.1,.bool v_.2.1,.int a,.int a_3,.fls a_4,.int b_3,.int b_4,.fls b_5,.int t6,.int awO,.int m,.int m_1,.fls v_.2.2]) (λv_ K_=>by obtain⟨i,s,b5⟩:=v_; kernel_rfl) N (i,s,b5)) h
 ·cases h
def sS:aC (UQ N au1 auV awf aw7 auZ) 1 (Om N au1 auV awf aw7 auZ) (lp Pg 52 1):=
 ar [(dN,dJ N au1 auV awf aw7 auZ)] (by kernel_rfl) ⟨pA _ _ _ _ _ _,trivial⟩
def sR:aC (UQ N au1 auV awf aw7 auZ) 1 (Om N au1 auV awf aw7 auZ) (lp Pg 52 0):=
 ar [(dM,dI N au1 auV awf aw7 auZ)] (by kernel_rfl) ⟨pz _ _ _ _ _ _,trivial⟩
def ah9 (aCH:ab Pg 26 (NP au1)) (aCG:ab Pg 51 (KO auV)) (aEH:ab Pg 86 (TY awf)) (aGj:ab Pg 50 (ahf aw7)) (aCK:ab Pg 53 (NQ auZ)):ab Pg 52 (agY (anx N au1 auV awf aw7 auZ)):=by
 refine glV N (Om N au1 auV awf aw7 auZ) (aa aCH (aa aCG (aa aEH (aa aGj (aa aCK (ae _)))))) 2 1 (gJ (sR _ _ _ _ _ _) (sS _ _ _ _ _ _)) ?_;intro a k h;unfold amo at h;split at h;exact⟨[_],rfl,rfl,.trans (by kernel_rfl) h⟩;cases h
end
def aix (N:Nat):ab Pg 51 (ag9 (anS N)):=by
 refine gfV N (ae _) 1 ?_;intro a k h;unfold amI at h;split at h;exact⟨[_],rfl,rfl,.trans (by kernel_rfl) h⟩;cases h
def ct:StSh:=⟨(.ptr 0 0::.sl 1::.rof::sqs 4 (.flt::.any::.any::.int .i64::.int .i64::sqs 19 [])),[some (89,1,.cells [.bool]),some (33,1,.flts)]⟩
def mU:StSh:=⟨(sqs 7 (.flt::sqs 23 [])),[some (89,1,.cells [.bool]),some (33,1,.flts)]⟩
section
variable (N:Nat) (au2:sf)
def cl:List Atom->K->Bool:=λa_ κ=>match a_ with
 | [.nat a,.nat a_2,.fls b_3,.fl t,.int t10,.int t11,.bool s,.fls a_3]=>ah N (mR N au2 a a_2 b_3 t10 a_3 (λr0 r1=>κ.ext 0 (mU.build [.fl r0,.bool r1,.fls a_3]))) (t,t11,s)
 | _=>false
def Q6:Nat->Option Ann:=λb_=>cond (b_==0) (some ⟨⟨[0,1,2,7,10,11],[],[],[]⟩,[(0,⟨[7],[],[],[]⟩)],some ⟨[6],[],[],[]⟩,some (aA [(ct,cl N au2)])⟩) (none)
def mt:ax ⟨Pg,ak [(54,(Ez au2))],av,N⟩ 2 (Q6 N au2) (lp Pg 50 0) (ct,cl N au2):=by
 intro a κ h;simp only at h;unfold cl at h;split at h
 ·rename_i a a_2 b_3 t t10 t11 s a_3;exact .trans (az (λ(v_:Fl × Int × Bool)=>ct.build [.nat a,.nat a_2,.fls b_3,.fl v_.1,.int t10,.int v_.2.1,.bool v_.2.2,.fls a_3]) (λv_ K_=>by obtain⟨t,t11,s⟩:=v_; kernel_rfl) N (t,t11,s)) h
 ·cases h
def oi:aC ⟨Pg,ak [(54,(Ez au2))],av,N⟩ 2 (Q6 N au2) (lp Pg 50 0):=
 ar [(ct,cl N au2)] (by kernel_rfl) ⟨mt _ _,trivial⟩
def ab3 (aBH:ab Pg 54 (Ez au2)):ab Pg 50 (TH (Zi N au2)):=by
 refine glV N (Q6 N au2) (aa aBH (ae _)) 1 2 (aG (oi _ _)) ?_;intro a k h;unfold ae9 at h;split at h;exact⟨[_,_],rfl,rfl,.trans (by kernel_rfl) h⟩;cases h
def fh:StSh:=⟨(.any::.ptr 0 0::.ptr 1 0::.ptr 2 0::.int .i64::.int .i64::sqs 33 []),[some (28,1,.cells [.int .i64,.int .i64,.rof]),some (28,1,.cells [.int .i64,.int .i64,.nil]),some (28,1,.cells [.int .i64,.int .i64,.slw 3]),some (33,1,.flts)]⟩
def rt:StSh:=⟨(.any::.ptr 0 0::.ptr 1 0::.ptr 2 0::.int .i64::sqs 34 []),[some (28,1,.cells [.int .i64,.int .i64,.rof]),some (28,1,.cells [.int .i64,.int .i64,.nil]),some (28,1,.cells [.int .i64,.int .i64,.slw 3]),some (33,1,.flts)]⟩
end
section
variable (N:Nat) (au1:wc) (auP:EC) (auZ:we)
noncomputable abbrev UR:Cx:=⟨Pg,ak [(26,(NP au1)),(55,(G6 auP)),(53,(NQ auZ))],av,N⟩
def eW:List Atom->K->Bool:=λa_ κ=>match a_ with
 | [.int i_1,.int j,.int m_5,.int m_6,.fls m_7,.int axz,.int axA,.int t_2,.int t_3,.fls azk]=>ah N (nS N au1 auP auZ i_1 m_5 m_6 m_7 axz axA t_2 t_3 (λr8=>κ.ext 2 (rt.build [.int i_1,.int m_5,.int m_6,.fls m_7,.int axz,.int axA,.int t_2,.int t_3,.fls r8]))) (j,azk)
 | _=>false
def fe:StSh:=⟨(.any::.ptr 0 0::.ptr 1 0::.ptr 2 0::.int .i64::sqs 34 []),[some (28,1,.cells [.int .i64,.int .i64,.rof]),some (28,1,.cells [.int .i64,.int .i64,.nil]),some (28,1,.cells [.int .i64,.int .i64,.slw 3]),some (33,1,.flts)]⟩
def rr:StSh:=⟨(.any::.any::.ptr 0 0::.ptr 1 0::sqs 35 []),[some (28,1,.cells [.int .i64,.int .i64,.nil]),some (28,1,.cells [.int .i64,.int .i64,.slw 2]),some (33,1,.flts)]⟩
def eV:List Atom->K->Bool:=λa_ κ=>match a_ with
 | [.int i,.int m,.int m_3,.fls m_4,.int t2,.int axy,.int t,.int t_1,.fls b3]=>ah N (nR N au1 auP auZ m m_3 m_4 t2 axy t t_1 (λr4=>κ.ext 0 (rr.build [.int t2,.int axy,.int t,.int t_1,.fls r4]))) (i,b3)
 | _=>false
def Iy:Nat->Option Ann:=λb_=>cond (b_==2) (some ⟨⟨[1,2,3,4,5],[],[],[]⟩,[(2,⟨[1,2,3,4],[],[],[]⟩)],some ⟨[2],[],[],[]⟩,some (aA [(fh,eW N au1 auP auZ)])⟩) (cond (b_==0) (some ⟨⟨[1,2,3,4],[],[],[]⟩,[(0,⟨[2,3],[],[],[]⟩)],some ⟨[2],[],[],[]⟩,some (aA [(fe,eV N au1 auP auZ)])⟩) (none))
def qY:ax (UR N au1 auP auZ) 0 (Iy N au1 auP auZ) (lp Pg 87 1) (fh,eW N au1 auP auZ):=by
 intro a κ h;simp only at h;unfold eW at h;split at h
 ·rename_i i_1 j m_5 m_6 m_7 axz axA t_2 t_3 azk;exact .trans (az (λ(v_:Int × LF)=>fh.build [.int i_1,.int v_.1,.int m_5,.int m_6,.fls m_7,.int axz,.int axA,.int t_2,.int t_3,.fls v_.2]) (λv_ K_=>by obtain⟨j,azk⟩:=v_; kernel_rfl) N (j,azk)) h
 ·cases h
def qX:ax (UR N au1 auP auZ) 0 (Iy N au1 auP auZ) (lp Pg 87 0) (fe,eV N au1 auP auZ):=by
 intro a κ h;simp only at h;unfold eV at h;split at h
 ·rename_i i m m_3 m_4 t2 axy t t_1 b3;exact .trans (az (λ(v_:Int × LF)=>fe.build [.int v_.1,.int m,.int m_3,.fls m_4,.int t2,.int axy,.int t,.int t_1,.fls v_.2]) (λv_ K_=>by obtain⟨i,b3⟩:=v_; kernel_rfl) N (i,b3)) h
 ·cases h
def uX:aC (UR N au1 auP auZ) 0 (Iy N au1 auP auZ) (lp Pg 87 1):=
 ar [(fh,eW N au1 auP auZ)] (by kernel_rfl) ⟨qY _ _ _ _,trivial⟩
def uW:aC (UR N au1 auP auZ) 0 (Iy N au1 auP auZ) (lp Pg 87 0):=
 ar [(fe,eV N au1 auP auZ)] (by kernel_rfl) ⟨qX _ _ _ _,trivial⟩
def adk (aCH:ab Pg 26 (NP au1)) (aBO:ab Pg 55 (G6 auP)) (aCK:ab Pg 53 (NQ auZ)):ab Pg 87 (YP (aad N au1 auP auZ)):=by
 refine glV N (Iy N au1 auP auZ) (aa aCH (aa aBO (aa aCK (ae _)))) 2 0 (gJ (uW _ _ _ _) (uX _ _ _ _)) ?_;intro a k h;unfold agc at h;split at h;exact⟨[],rfl,rfl,.trans (by kernel_rfl) h⟩;cases h
end
def ah1 (N:Nat) (azW:HL) (axZ:FB) (aFb:ab Pg 87 (YP azW)) (aCN:ab Pg 67 (T0 axZ)):ab Pg 56 (agV (anr N azW axZ)):=by
 refine gfV N (aa aFb (aa aCN (ae _))) 3 ?_;intro a k h;unfold amg at h;split at h;exact⟨[_,_,_],rfl,rfl,.trans (by kernel_rfl) h⟩;cases h
def eg:StSh:=⟨(.any::.any::.any::.ptr 0 0::.ptr 1 0::.ptr 2 0::.ptr 3 0::sqs 4 (.ptr 4 0::.slw 5::sqs 37 (.int .i64::.int .i64::sqs 59 []))),[some (30,1,.cells [.rof,.int .i64,.int .i64,.rof]),some (28,1,.cells [.int .i64,.int .i64,.rof]),some (28,1,.cells [.int .i64,.int .i64,.rof]),some (30,1,.cells [.nil,.int .i64,.int .i64,.nil]),some (89,1,.cells [.bool]),some (33,1,.flts)]⟩
def qs:StSh:=⟨(.any::.any::.any::.ptr 0 0::.ptr 1 0::.ptr 2 0::.ptr 3 0::sqs 4 (.ptr 4 0::.slw 5::sqs 98 [])),[some (30,1,.cells [.rof,.int .i64,.int .i64,.rof]),some (28,1,.cells [.int .i64,.int .i64,.rof]),some (28,1,.cells [.int .i64,.int .i64,.rof]),some (30,1,.cells [.nil,.int .i64,.int .i64,.nil]),some (89,1,.cells [.bool]),some (33,1,.flts)]⟩
section
variable (N:Nat) (awo:jk) (avx:BR) (av_:wh) (auV:eC) (aws:Il) (awq:H9) (au1:wc) (awr:kS) (avz:BL) (auP:EC) (au2:sf) (auZ:we) (awp:HP)
noncomputable abbrev IM:Cx:=⟨Pg,ak [(24,(agU awo)),(48,(TQ avx)),(49,(Y8 av_)),(51,(KJ (KO auV) (ag9 awr) We)),(50,(KJ (ahj aws) (TH avz) ae3)),(52,(agY awq)),(26,(NP au1)),(55,(G6 auP)),(54,(Ez au2)),(53,(NQ auZ)),(56,(agV awp))],av,N⟩
def dT:List Atom->K->Bool:=λa_ κ=>match a_ with
 | [.int aBy,.int ay6,.fls t_7,.int t_8,.int t_9,.fls aDe,.int f_5,.int f_6,.fls f_7,.int q_5,.int q_6,.fls q_7,.int ayw,.int ayx,.bool s_1,.fls x]=>ah N (mO N awo avx av_ auV aws awq au1 awr avz auP au2 auZ awp aBy t_7 t_8 t_9 aDe f_5 f_6 f_7 q_5 q_6 q_7 ayw ayx (λr12 r13=>κ.ext 0 (qs.build [.fls t_7,.int t_8,.int t_9,.fls aDe,.int f_5,.int f_6,.fls f_7,.int q_5,.int q_6,.fls q_7,.int ayw,.int ayx,.bool r12,.fls r13]))) (ay6,s_1,x)
 | _=>false
def ek:StSh:=⟨(sqs 4 (.ptr 0 0::.ptr 1 0::.ptr 2 0::sqs 4 (.ptr 3 0::.slw 4::.any::.ptr 5 0::.ptr 6 0::.int .i64::.int .i64::sqs 58 (.int .i64::.int .i64::sqs 33 [])))),[some (28,1,.cells [.int .i64,.int .i64,.rof]),some (28,1,.cells [.int .i64,.int .i64,.rof]),some (30,1,.cells [.nil,.int .i64,.int .i64,.nil]),some (89,1,.cells [.bool]),some (33,1,.flts),some (28,1,.cells [.int .i64,.int .i64,.slw 7]),some (28,1,.cells [.int .i64,.int .i64,.slw 8]),some (33,1,.flts),some (33,1,.flts)]⟩
def qu:StSh:=⟨(sqs 4 (.ptr 0 0::.ptr 1 0::.ptr 2 0::sqs 4 (.ptr 3 0::.slw 4::.any::.ptr 5 0::.ptr 6 0::sqs 60 (.int .i64::.int .i64::sqs 33 [])))),[some (28,1,.cells [.int .i64,.int .i64,.rof]),some (28,1,.cells [.int .i64,.int .i64,.rof]),some (30,1,.cells [.nil,.int .i64,.int .i64,.nil]),some (89,1,.cells [.bool]),some (33,1,.flts),some (28,1,.cells [.int .i64,.int .i64,.slw 7]),some (28,1,.cells [.int .i64,.int .i64,.slw 8]),some (33,1,.flts),some (33,1,.flts)]⟩
def dW:List Atom->K->Bool:=λa_ κ=>match a_ with
 | [.int i,.int j,.int aBA,.int aBB,.int aB6,.int aB7,.fls aB8,.int aB_,.int aCa,.fls aCb,.int aAn,.int aAo,.bool s_4,.fls x_3,.int m_2,.int m_3,.int p_2,.int p_3,.fls aA3,.fls aBG]=>ah N (mQ N awo avx av_ auV aws awq au1 awr avz auP au2 auZ awp i aBA aBB aB6 aB7 aB8 aB_ aCa aCb aAn aAo x_3 m_2 m_3 p_2 p_3 aA3 (λr10 r17=>κ.ext 4 (qu.build [.int aBA,.int aBB,.int aB6,.int aB7,.fls aB8,.int aB_,.int aCa,.fls aCb,.int aAn,.int aAo,.bool r10,.fls x_3,.int m_2,.int m_3,.int p_2,.int p_3,.fls aA3,.fls r17]))) (j,s_4,aBG)
 | _=>false
def eh:StSh:=⟨(sqs 4 (.ptr 0 0::.ptr 1 0::.ptr 2 0::sqs 4 (.ptr 3 0::.slw 4::.any::.ptr 5 0::.ptr 6 0::sqs 60 (.int .i64::.int .i64::sqs 33 [])))),[some (28,1,.cells [.int .i64,.int .i64,.rof]),some (28,1,.cells [.int .i64,.int .i64,.rof]),some (30,1,.cells [.nil,.int .i64,.int .i64,.nil]),some (89,1,.cells [.bool]),some (33,1,.flts),some (28,1,.cells [.int .i64,.int .i64,.slw 7]),some (28,1,.cells [.int .i64,.int .i64,.slw 8]),some (33,1,.flts),some (33,1,.flts)]⟩
def qt:StSh:=⟨(sqs 6 (.ptr 0 0::sqs 4 (.ptr 1 0::.slw 2::.any::.any::.ptr 3 0::sqs 95 []))),[some (30,1,.cells [.nil,.int .i64,.int .i64,.nil]),some (89,1,.cells [.bool]),some (33,1,.flts),some (28,1,.cells [.int .i64,.int .i64,.slw 4]),some (33,1,.flts)]⟩
def dU:List Atom->K->Bool:=λa_ κ=>match a_ with
 | [.int t76,.int t77,.int f_8,.int f_9,.fls aCC,.int q_8,.int q_9,.fls aDa,.int aAl,.int aAm,.bool s_3,.fls x_2,.int m,.int m_1,.int p,.int p_1,.fls b7,.fls b8]=>ah N (mP N awo avx av_ auV aws awq au1 awr avz auP au2 auZ awp t76 f_8 f_9 aCC q_8 q_9 aDa aAl aAm x_2 m m_1 p p_1 b7 (λr2 r6=>κ.ext 2 (qt.build [.int aAl,.int aAm,.bool r2,.fls x_2,.int p,.int p_1,.fls r6]))) (t77,s_3,b8)
 | _=>false
def Cj:Nat->Option Ann:=λb_=>cond (b_==0) (some ⟨⟨[3,4,5,6,11,12,50,51],[(12,none,66)],[],[]⟩,[(0,⟨[3,4,5,6,11,12],[],[],[]⟩)],some ⟨[6,7],[],[],[]⟩,some (aA [(eg,dT N awo avx av_ auV aws awq au1 awr avz auP au2 auZ awp)])⟩) (cond (b_==4) (some ⟨⟨[4,5,6,11,12,14,15,16,17,76,77],[],[],[]⟩,[(4,⟨[4,5,6,11,12,14,15,76,77],[],[],[]⟩)],some ⟨[6,7],[],[],[]⟩,some (aA [(ek,dW N awo avx av_ auV aws awq au1 awr avz auP au2 auZ awp)])⟩) (cond (b_==2) (some ⟨⟨[4,5,6,11,12,14,15,76,77],[],[],[]⟩,[(2,⟨[6,11,12,15],[],[],[]⟩)],some ⟨[6,7],[],[],[]⟩,some (aA [(eh,dU N awo avx av_ auV aws awq au1 awr avz auP au2 auZ awp)])⟩) (none)))
def p_:ax (IM N awo avx av_ auV aws awq au1 awr avz auP au2 auZ awp) 0 (Cj N awo avx av_ auV aws awq au1 awr avz auP au2 auZ awp) (lp Pg 21 0) (eg,dT N awo avx av_ auV aws awq au1 awr avz auP au2 auZ awp):=by
 intro a κ h;simp only at h;unfold dT at h;split at h
 ·rename_i aBy ay6 t_7 t_8 t_9 aDe f_5 f_6 f_7 q_5 q_6 q_7 ayw ayx s_1 x;exact .trans (az (λ(v_:Int × Bool × LF)=>eg.build [.int aBy,.int v_.1,.fls t_7,.int t_8,.int t_9,.fls aDe,.int f_5,.int f_6,.fls f_7,.int q_5,.int q_6,.fls q_7,.int ayw,.int ayx,.bool v_.2.1,.fls v_.2.2]) (λv_ K_=>by obtain⟨ay6,s_1,x⟩:=v_; kernel_rfl) N (ay6,s_1,x)) h
 ·cases h
def qb:ax (IM N awo avx av_ auV aws awq au1 awr avz auP au2 auZ awp) 0 (Cj N awo avx av_ auV aws awq au1 awr avz auP au2 auZ awp) (lp Pg 21 2) (ek,dW N awo avx av_ auV aws awq au1 awr avz auP au2 auZ awp):=by
 intro a κ h;simp only at h;unfold dW at h;split at h
 ·rename_i i j aBA aBB aB6 aB7 aB8 aB_ aCa aCb aAn aAo s_4 x_3 m_2 m_3 p_2 p_3 aA3 aBG;exact .trans (az (λ(v_:Int × Bool × LF)=>ek.build [.int i,.int v_.1,.int aBA,.int aBB,.int aB6,.int aB7,.fls aB8,.int aB_,.int aCa,.fls aCb,.int aAn,.int aAo,.bool v_.2.1,.fls x_3,.int m_2,.int m_3,.int p_2,.int p_3,.fls aA3,.fls v_.2.2]) (λv_ K_=>by obtain⟨j,s_4,aBG⟩:=v_; kernel_rfl) N (j,s_4,aBG)) h
 ·cases h
def qa:ax (IM N awo avx av_ auV aws awq au1 awr avz auP au2 auZ awp) 0 (Cj N awo avx av_ auV aws awq au1 awr avz auP au2 auZ awp) (lp Pg 21 1) (eh,dU N awo avx av_ auV aws awq au1 awr avz auP au2 auZ awp):=by
 intro a κ h;simp only at h;unfold dU at h;split at h
 ·rename_i t76 t77 f_8 f_9 aCC q_8 q_9 aDa aAl aAm s_3 x_2 m m_1 p p_1 b7 b8;exact .trans (az (λ(v_:Int × Bool × LF)=>eh.build [.int t76,.int v_.1,.int f_8,.int f_9,.fls aCC,.int q_8,.int q_9,.fls aDa,.int aAl,.int aAm,.bool v_.2.1,.fls x_2,.int m,.int m_1,.int p,.int p_1,.fls b7,.fls v_.2.2]) (λv_ K_=>by obtain⟨t77,s_3,b8⟩:=v_; kernel_rfl) N (t77,s_3,b8)) h
 ·cases h
def ug:aC (IM N awo avx av_ auV aws awq au1 awr avz auP au2 auZ awp) 0 (Cj N awo avx av_ auV aws awq au1 awr avz auP au2 auZ awp) (lp Pg 21 0):=
 ar [(eg,dT N awo avx av_ auV aws awq au1 awr avz auP au2 auZ awp)] (by kernel_rfl) ⟨p_ _ _ _ _ _ _ _ _ _ _ _ _ _ _,trivial⟩
def ui:aC (IM N awo avx av_ auV aws awq au1 awr avz auP au2 auZ awp) 0 (Cj N awo avx av_ auV aws awq au1 awr avz auP au2 auZ awp) (lp Pg 21 2):=
 ar [(ek,dW N awo avx av_ auV aws awq au1 awr avz auP au2 auZ awp)] (by kernel_rfl) ⟨qb _ _ _ _ _ _ _ _ _ _ _ _ _ _,trivial⟩
def uh:aC (IM N awo avx av_ auV aws awq au1 awr avz auP au2 auZ awp) 0 (Cj N awo avx av_ auV aws awq au1 awr avz auP au2 auZ awp) (lp Pg 21 1):=
 ar [(eh,dU N awo avx av_ auV aws awq au1 awr avz auP au2 auZ awp)] (by kernel_rfl) ⟨qa _ _ _ _ _ _ _ _ _ _ _ _ _ _,trivial⟩
def acW (aFW:ab Pg 24 (agU awo)) (aEr:ab Pg 48 (TQ avx)) (aDH:ab Pg 49 (Y8 av_)) (aCG:ab Pg 51 (KO auV)) (aGm:ab Pg 50 (ahj aws)) (aF0:ab Pg 52 (agY awq)) (aCH:ab Pg 26 (NP au1)) (aGb:ab Pg 51 (ag9 awr)) (aEh:ab Pg 50 (TH avz)) (aBO:ab Pg 55 (G6 auP)) (aBH:ab Pg 54 (Ez au2)) (aCK:ab Pg 53 (NQ auZ)) (aFX:ab Pg 56 (agV awp)):ab Pg 21 (T3 (Uv N awo avx av_ auV aws awq au1 awr avz auP au2 auZ awp)):=by
 refine jN (cx:=(IM N awo avx av_ auV aws awq au1 awr avz auP au2 auZ awp)) (gT (aa aFW (aa aEr (aa aDH (aa (ms aCG aGb) (aa (ms aGm aEh) (aa aF0 (aa aCH (aa aBO (aa aBH (aa aCK (aa aFX (ae _)))))))))))) (by kernel_rfl)) Wj (Tv (Uv N awo avx av_ auV aws awq au1 awr avz auP au2 auZ awp)) (Cj N awo avx av_ auV aws awq au1 awr avz auP au2 auZ awp) 3 0 (by kernel_rfl) (λi_ hi_=>by
  match i_,hi_ with
  | 0,_=>exact ug _ _ _ _ _ _ _ _ _ _ _ _ _ _
  | 1,_=>exact uh _ _ _ _ _ _ _ _ _ _ _ _ _ _
  | 2,_=>exact ui _ _ _ _ _ _ _ _ _ _ _ _ _ _
  | (q+3),h=>omega) ?_
 intro a k h;unfold Tv at h;split at h;exact⟨[],rfl,rfl,.trans (by kernel_rfl) h⟩;cases h
end
def Cy (N:Nat) (avF:wh) (aBK:ab Pg 71 (N0 avF)):ab Pg 57 (nJ (ru N avF)):=by
 refine gfV N (aa aBK (ae _)) 0 ?_;intro a k h;unfold w_ at h;split at h;exact⟨[],rfl,rfl,.trans (by kernel_rfl) h⟩;cases h
def ai0 (N:Nat) (azQ:HD) (aE4:ab Pg 91 (Ua azQ)):ab Pg 64 (G7 (aod N azQ)):=by
 refine gfV N (aa aE4 (ae _)) 1 ?_;intro a k h;unfold agN at h;split at h;exact⟨[_],rfl,rfl,.trans (by kernel_rfl) h⟩;cases h
def ab1 (N:Nat) (avg:sf) (aBa:ab Pg 64 (G7 avg)):ab Pg 79 (C8 (Zh N avg)):=by
 refine ggV N (iZ (aa aBa (ae _)) ⟨(cD (by kernel_rfl) (gF avg)),trivial⟩) 1 ?_;intro a k h;unfold Tn at h;split at h;exact⟨[_],rfl,rfl,.trans (by kernel_rfl) h⟩;cases h
def fO:StSh:=⟨(.ptr 0 0::.any::.rof::sqs 4 (.flt::.any::.any::.rof::.int .i64::.int .i64::sqs 17 [])),[some (83,1,.cells [.bool])]⟩
def se:StSh:=⟨(sqs 7 (.flt::sqs 22 [])),[some (83,1,.cells [.bool])]⟩
section
variable (N:Nat) (auW:pT) (avg:sf)
noncomputable abbrev abn:Cx:=⟨Pg,ak [(79,(C8 auW)),(64,(G7 avg))],av,N⟩
def fF:List Atom->K->Bool:=λa_ κ=>match a_ with
 | [.fls b_2,.fl t,.fls t10,.int t11,.int t12,.bool s]=>ah N (o_ N auW avg b_2 t10 t11 (λr0 r1=>κ.ext 0 (se.build [.fl r0,.bool r1]))) (t,t12,s)
 | _=>false
def Rg:Nat->Option Ann:=λb_=>cond (b_==0) (some ⟨⟨[0,2,7,10,11,12],[],[],[]⟩,[(0,⟨[7],[],[],[]⟩)],some ⟨[6],[],[],[]⟩,some (aA [(fO,fF N auW avg)])⟩) (none)
def rM:ax (abn N auW avg) 1 (Rg N auW avg) (lp Pg 59 0) (fO,fF N auW avg):=by
 intro a κ h;simp only at h;unfold fF at h;split at h
 ·rename_i b_2 t t10 t11 t12 s;exact .trans (az (λ(v_:Fl × Int × Bool)=>fO.build [.fls b_2,.fl v_.1,.fls t10,.int t11,.int v_.2.1,.bool v_.2.2]) (λv_ K_=>by obtain⟨t,t12,s⟩:=v_; kernel_rfl) N (t,t12,s)) h
 ·cases h
def vV:aC (abn N auW avg) 1 (Rg N auW avg) (lp Pg 59 0):=
 ar [(fO,fF N auW avg)] (by kernel_rfl) ⟨rM _ _ _,trivial⟩
def ac6 (aBg:ab Pg 79 (C8 auW)) (aBa:ab Pg 64 (G7 avg)):ab Pg 59 (NV (Uw N auW avg)):=by
 refine jN (cx:=(abn N auW avg)) (iZ (aa aBg (aa aBa (ae _))) ⟨(cD (by kernel_rfl) (kz auW)),(cD (by kernel_rfl) (gF avg)),trivial⟩) Wl (Np (Uw N auW avg)) (Rg N auW avg) 1 1 (by kernel_rfl) (aG (vV _ _ _)) ?_;intro a k h;unfold Np at h;split at h;exact⟨[_],rfl,rfl,.trans (by kernel_rfl) h⟩;cases h
end
def ep:StSh:=⟨(.ptr 0 0::.any::.slw 1::sqs 4 (.flt::.any::.any::.rof::.int .i64::.int .i64::sqs 17 [])),[some (83,1,.cells [.bool]),some (33,1,.flts)]⟩
def qw:StSh:=⟨(sqs 7 (.flt::sqs 22 [])),[some (83,1,.cells [.bool]),some (33,1,.flts)]⟩
section
variable (N:Nat) (auW:pT) (avg:sf)
noncomputable abbrev abo:Cx:=⟨Pg,ak [(79,(C8 auW)),(64,(G7 avg))],av,N⟩
def dY:List Atom->K->Bool:=λa_ κ=>match a_ with
 | [.fl t,.fls t10,.int t11,.int t12,.bool s,.fls b_2]=>ah N (mM N auW avg t10 t11 b_2 (λr0 r1=>κ.ext 0 (qw.build [.fl r0,.bool r1,.fls b_2]))) (t,t12,s)
 | _=>false
def Q_:Nat->Option Ann:=λb_=>cond (b_==0) (some ⟨⟨[0,2,7,10,11,12],[],[],[]⟩,[(0,⟨[7],[],[],[]⟩)],some ⟨[6],[],[],[]⟩,some (aA [(ep,dY N auW avg)])⟩) (none)
def qf:ax (abo N auW avg) 2 (Q_ N auW avg) (lp Pg 59 0) (ep,dY N auW avg):=by
 intro a κ h;simp only at h;unfold dY at h;split at h
 ·rename_i t t10 t11 t12 s b_2;exact .trans (az (λ(v_:Fl × Int × Bool)=>ep.build [.fl v_.1,.fls t10,.int t11,.int v_.2.1,.bool v_.2.2,.fls b_2]) (λv_ K_=>by obtain⟨t,t12,s⟩:=v_; kernel_rfl) N (t,t12,s)) h
 ·cases h
def uk:aC (abo N auW avg) 2 (Q_ N auW avg) (lp Pg 59 0):=
 ar [(ep,dY N auW avg)] (by kernel_rfl) ⟨qf _ _ _,trivial⟩
def aci (aBg:ab Pg 79 (C8 auW)) (aBa:ab Pg 64 (G7 avg)):ab Pg 59 (NO (Us N auW avg)):=by
 refine jN (cx:=(abo N auW avg)) (iZ (aa aBg (aa aBa (ae _))) ⟨(cD (by kernel_rfl) (kz auW)),(cD (by kernel_rfl) (gF avg)),trivial⟩) Wh (Nm (Us N auW avg)) (Q_ N auW avg) 1 2 (by kernel_rfl) (aG (uk _ _ _)) ?_;intro a k h;unfold Nm at h;split at h;exact⟨[_,_],rfl,rfl,.trans (by kernel_rfl) h⟩;cases h
def gE:StSh:=⟨(.ptr 0 0::.any::.any::.any::.ptr 1 0::.ptr 2 0::.ptr 3 0::.ptr 4 0::.int .i64::sqs 7 (.int .i64::.int .i64::.any::.any::.any::.int .i64::.int .i64::sqs 18 [])),[some (83,1,.cells [.bool]),some (28,1,.cells [.int .i64,.int .i64,.rof]),some (28,1,.cells [.int .i64,.int .i64,.rof]),some (28,1,.cells [.int .i64,.int .i64,.nil]),some (28,1,.cells [.int .i64,.int .i64,.slw 5]),some (33,1,.flts)]⟩
def uL:StSh:=⟨(.ptr 0 0::.any::.any::.any::.ptr 1 0::.ptr 2 0::.ptr 3 0::.ptr 4 0::sqs 8 (.int .i64::.int .i64::sqs 23 [])),[some (83,1,.cells [.bool]),some (28,1,.cells [.int .i64,.int .i64,.rof]),some (28,1,.cells [.int .i64,.int .i64,.rof]),some (28,1,.cells [.int .i64,.int .i64,.nil]),some (28,1,.cells [.int .i64,.int .i64,.slw 5]),some (33,1,.flts)]⟩
end
section
variable (N:Nat) (aue:eC) (auq:eC) (avV:K8)
noncomputable abbrev OZ:Cx:=⟨Pg,ak [(60,(kt aue)),(90,(sr auq)),(59,(NO avV))],av,N⟩
def gw:List Atom->K->Bool:=λa_ κ=>match a_ with
 | [.int i_1,.int aBs,.int aBt,.int axb,.int ay5,.bool ayc,.int a_8,.int a_9,.fls aB2,.int b_9,.int aym,.fls aB4,.int aAl,.int aAm,.int aBn,.int aBo,.fls b5]=>ah N (iL N aue auq avV i_1 aBs aBt axb a_8 a_9 aB2 b_9 aym aB4 aAl aAm aBn aBo (λr2 r13=>κ.ext 2 (uL.build [.int aBs,.int aBt,.bool r2,.int a_8,.int a_9,.fls aB2,.int b_9,.int aym,.fls aB4,.int aAl,.int aAm,.int aBn,.int aBo,.fls r13]))) (ay5,ayc,b5)
 | _=>false
def gD:StSh:=⟨(.ptr 0 0::.any::.any::.any::.ptr 1 0::.ptr 2 0::.ptr 3 0::.ptr 4 0::sqs 8 (.int .i64::.int .i64::sqs 23 [])),[some (83,1,.cells [.bool]),some (28,1,.cells [.int .i64,.int .i64,.rof]),some (28,1,.cells [.int .i64,.int .i64,.rof]),some (28,1,.cells [.int .i64,.int .i64,.nil]),some (28,1,.cells [.int .i64,.int .i64,.slw 5]),some (33,1,.flts)]⟩
def uK:StSh:=⟨(sqs 6 (.ptr 1 0::.ptr 2 0::sqs 33 [])),[some (83,1,.cells [.bool]),some (28,1,.cells [.int .i64,.int .i64,.nil]),some (28,1,.cells [.int .i64,.int .i64,.slw 3]),some (33,1,.flts)]⟩
def gv:List Atom->K->Bool:=λa_ κ=>match a_ with
 | [.int aAZ,.int ayH,.bool ayd,.int aCp,.int aCq,.fls aCr,.int aCz,.int aB5,.fls aCA,.int aAn,.int aAo,.int aAW,.int aAX,.fls aAq]=>ah N (iK N aue auq avV aAZ aCp aCq aCr aCz aB5 aCA aAn aAo aAW aAX (λr0 r5=>κ.ext 0 (uK.build [.bool r0,.int aAn,.int aAo,.int aAW,.int aAX,.fls r5]))) (ayH,ayd,aAq)
 | _=>false
def g8:Nat->Option Ann:=λb_=>cond (b_==2) (some ⟨⟨[0,4,5,6,7,8,16,17,21,22],[(7,some 2,66)],[],[]⟩,[(2,⟨[0,4,5,6,7,16,17],[],[],[]⟩)],some ⟨[6],[],[],[]⟩,some (aA [(gE,gw N aue auq avV)])⟩) (cond (b_==0) (some ⟨⟨[0,4,5,6,7,16,17],[(7,some 2,66)],[],[]⟩,[(0,⟨[6,7],[],[],[]⟩)],some ⟨[6],[],[],[]⟩,some (aA [(gD,gv N aue auq avV)])⟩) (none))
def ub:ax (OZ N aue auq avV) 1 (g8 N aue auq avV) (lp Pg 61 1) (gE,gw N aue auq avV):=by
 intro a κ h;simp only at h;unfold gw at h;split at h
 ·rename_i i_1 aBs aBt axb ay5 ayc a_8 a_9 aB2 b_9 aym aB4 aAl aAm aBn aBo b5;exact .trans (az (λ(v_:Int × Bool × LF)=>gE.build [.int i_1,.int aBs,.int aBt,.int axb,.int v_.1,.bool v_.2.1,.int a_8,.int a_9,.fls aB2,.int b_9,.int aym,.fls aB4,.int aAl,.int aAm,.int aBn,.int aBo,.fls v_.2.2]) (λv_ K_=>by obtain⟨ay5,ayc,b5⟩:=v_; kernel_rfl) N (ay5,ayc,b5)) h
 ·cases h
def ua:ax (OZ N aue auq avV) 1 (g8 N aue auq avV) (lp Pg 61 0) (gD,gv N aue auq avV):=by
 intro a κ h;simp only at h;unfold gv at h;split at h
 ·rename_i aAZ ayH ayd aCp aCq aCr aCz aB5 aCA aAn aAo aAW aAX aAq;exact .trans (az (λ(v_:Int × Bool × LF)=>gD.build [.int aAZ,.int v_.1,.bool v_.2.1,.int aCp,.int aCq,.fls aCr,.int aCz,.int aB5,.fls aCA,.int aAn,.int aAo,.int aAW,.int aAX,.fls v_.2.2]) (λv_ K_=>by obtain⟨ayH,ayd,aAq⟩:=v_; kernel_rfl) N (ayH,ayd,aAq)) h
 ·cases h
def xN:aC (OZ N aue auq avV) 1 (g8 N aue auq avV) (lp Pg 61 1):=
 ar [(gE,gw N aue auq avV)] (by kernel_rfl) ⟨ub _ _ _ _,trivial⟩
def xM:aC (OZ N aue auq avV) 1 (g8 N aue auq avV) (lp Pg 61 0):=
 ar [(gD,gv N aue auq avV)] (by kernel_rfl) ⟨ua _ _ _ _,trivial⟩
def xG (aw_:ab Pg 60 (kt aue)) (aBb:ab Pg 90 (sr auq)) (aEp:ab Pg 59 (NO avV)):ab Pg 61 (jK (jM N aue auq avV)):=by
 refine jN (cx:=(OZ N aue auq avV)) (iZ (aa aw_ (aa aBb (aa aEp (ae _)))) ⟨(bt (by kernel_rfl)),(bt (by kernel_rfl)),(cD (by kernel_rfl) (vG avV)),trivial⟩) pP (mc (jM N aue auq avV)) (g8 N aue auq avV) 2 1 (by kernel_rfl) (gJ (xM _ _ _ _) (xN _ _ _ _)) ?_;intro a k h;unfold mc at h;split at h;exact⟨[_],rfl,rfl,.trans (by kernel_rfl) h⟩;cases h
def eo:StSh:=⟨(.ptr 0 0::.any::.rof::sqs 4 (.flt::.any::.any::.sl 1::.int .i64::.int .i64::sqs 17 [])),[some (83,1,.cells [.bool]),some (33,1,.flts)]⟩
def qv:StSh:=⟨(sqs 7 (.flt::sqs 22 [])),[some (83,1,.cells [.bool]),some (33,1,.flts)]⟩
end
section
variable (N:Nat) (auW:pT) (avg:sf)
noncomputable abbrev abp:Cx:=⟨Pg,ak [(79,(C8 auW)),(64,(G7 avg))],av,N⟩
def dX:List Atom->K->Bool:=λa_ κ=>match a_ with
 | [.fls b_3,.fl t,.nat t10,.nat axJ,.int t11,.int t12,.bool s,.fls aAB]=>ah N (mL N auW avg b_3 t10 axJ t11 aAB (λr0 r1=>κ.ext 0 (qv.build [.fl r0,.bool r1,.fls aAB]))) (t,t12,s)
 | _=>false
def Rh:Nat->Option Ann:=λb_=>cond (b_==0) (some ⟨⟨[0,2,7,10,11,12],[],[],[]⟩,[(0,⟨[7],[],[],[]⟩)],some ⟨[6],[],[],[]⟩,some (aA [(eo,dX N auW avg)])⟩) (none)
def qe:ax (abp N auW avg) 2 (Rh N auW avg) (lp Pg 59 0) (eo,dX N auW avg):=by
 intro a κ h;simp only at h;unfold dX at h;split at h
 ·rename_i b_3 t t10 axJ t11 t12 s aAB;exact .trans (az (λ(v_:Fl × Int × Bool)=>eo.build [.fls b_3,.fl v_.1,.nat t10,.nat axJ,.int t11,.int v_.2.1,.bool v_.2.2,.fls aAB]) (λv_ K_=>by obtain⟨t,t12,s⟩:=v_; kernel_rfl) N (t,t12,s)) h
 ·cases h
def uj:aC (abp N auW avg) 2 (Rh N auW avg) (lp Pg 59 0):=
 ar [(eo,dX N auW avg)] (by kernel_rfl) ⟨qe _ _ _,trivial⟩
def ac8 (aBg:ab Pg 79 (C8 auW)) (aBa:ab Pg 64 (G7 avg)):ab Pg 59 (T9 (Uy N auW avg)):=by
 refine jN (cx:=(abp N auW avg)) (iZ (aa aBg (aa aBa (ae _))) ⟨(cD (by kernel_rfl) (kz auW)),(cD (by kernel_rfl) (gF avg)),trivial⟩) Wm (Nq (Uy N auW avg)) (Rh N auW avg) 1 2 (by kernel_rfl) (aG (uj _ _ _)) ?_;intro a k h;unfold Nq at h;split at h;exact⟨[_,_],rfl,rfl,.trans (by kernel_rfl) h⟩;cases h
end
def l4 (N:Nat) (avR:kS) (aue:eC) (ayk:BL) (avg:sf) (aAz:ab Pg 60 (tF avR)) (aw_:ab Pg 60 (kt aue)) (aE2:ab Pg 59 (T9 ayk)) (aBa:ab Pg 64 (G7 avg)):ab Pg 63 (cC (eB N avR aue ayk avg)):=by
 refine ggV N (iZ (aa (ms (sh:=w9) aAz aw_) (aa aE2 (aa aBa (ae _)))) ⟨(bt (by kernel_rfl)),(cD (by kernel_rfl) (vF ayk)),(cD (by kernel_rfl) (gF avg)),trivial⟩) 7 ?_;intro a k h;unfold iz at h;split at h;exact⟨[_,_,_,_,_,_,_],rfl,rfl,.trans (by kernel_rfl) h⟩;cases h
def dz:StSh:=⟨(.int .i64::.fn 63 [.ptr 0 0,.ptr 1 0,.ptr 2 0,.ptr 3 0,.ptr 4 0]::.any::.any::.ptr 7 0::.ptr 8 0::.int .i64::sqs 9 (.int .i64::.int .i64::.any::.any::.any::.int .i64::.int .i64::sqs 27 [])),[some (108,1,.cells [.ptr 5 0]),some (28,1,.cells [.int .i64,.int .i64,.slw 6]),some (28,1,.cells [.int .i64,.int .i64,.rof]),some (28,1,.cells [.int .i64,.int .i64,.rof]),some (3,1,.cells [.int .i64]),some (83,1,.cells [.bool]),some (33,1,.flts),some (28,1,.cells [.int .i64,.int .i64,.nil]),some (28,1,.cells [.int .i64,.int .i64,.slw 9]),some (33,1,.flts)]⟩
def po:StSh:=⟨(.int .i64::.fn 63 [.ptr 0 0,.ptr 1 0,.ptr 2 0,.ptr 3 0,.ptr 4 0]::.any::.any::.ptr 7 0::.ptr 8 0::sqs 10 (.int .i64::.int .i64::sqs 32 [])),[some (108,1,.cells [.ptr 5 0]),some (28,1,.cells [.int .i64,.int .i64,.slw 6]),some (28,1,.cells [.int .i64,.int .i64,.rof]),some (28,1,.cells [.int .i64,.int .i64,.rof]),some (3,1,.cells [.int .i64]),some (83,1,.cells [.bool]),some (33,1,.flts),some (28,1,.cells [.int .i64,.int .i64,.nil]),some (28,1,.cells [.int .i64,.int .i64,.slw 9]),some (33,1,.flts)]⟩
section
variable (N:Nat) (aua:aV)
noncomputable abbrev US:Cx:=⟨Pg,ak [(63,(cC aua))],av,N⟩
def dp:List Atom->K->Bool:=λa_ κ=>match a_ with
 | [.int n_2,.int i,.int ayu,.int ayv,.int t21,.int t22,.int aAV,.int azc,.int azd,.int aze,.fls azf,.int azg,.int azh,.fls azi,.int azj,.bool ayI,.fls aB3,.int ax7,.int ax8,.int axx,.int ay3,.fls aAr]=>ah N (fj N aua n_2 i ayu ayv t21 aAV azc azd aze azf azg azh azi azj aB3 ax7 ax8 axx ay3 (λr12 r18=>κ.ext 2 (po.build [.int n_2,.int ayu,.int ayv,.int aAV,.int azc,.int azd,.int aze,.fls azf,.int azg,.int azh,.fls azi,.int azj,.bool r12,.fls aB3,.int ax7,.int ax8,.int axx,.int ay3,.fls r18]))) (t22,ayI,aAr)
 | _=>false
def dy:StSh:=⟨(.int .i64::.fn 63 [.ptr 0 0,.ptr 1 0,.ptr 2 0,.ptr 3 0,.ptr 4 0]::.any::.any::.ptr 7 0::.ptr 8 0::sqs 10 (.int .i64::.int .i64::sqs 32 [])),[some (108,1,.cells [.ptr 5 0]),some (28,1,.cells [.int .i64,.int .i64,.slw 6]),some (28,1,.cells [.int .i64,.int .i64,.rof]),some (28,1,.cells [.int .i64,.int .i64,.rof]),some (3,1,.cells [.int .i64]),some (83,1,.cells [.bool]),some (33,1,.flts),some (28,1,.cells [.int .i64,.int .i64,.nil]),some (28,1,.cells [.int .i64,.int .i64,.slw 9]),some (33,1,.flts)]⟩
def pn:StSh:=⟨(sqs 4 (.ptr 7 0::.ptr 8 0::sqs 44 [])),[some (108,1,.cells [.ptr 5 0]),some (28,1,.cells [.int .i64,.int .i64,.slw 6]),some (28,1,.cells [.int .i64,.int .i64,.rof]),some (28,1,.cells [.int .i64,.int .i64,.rof]),some (3,1,.cells [.int .i64]),some (83,1,.cells [.bool]),some (33,1,.flts),some (28,1,.cells [.int .i64,.int .i64,.nil]),some (28,1,.cells [.int .i64,.int .i64,.slw 9]),some (33,1,.flts)]⟩
def dn:List Atom->K->Bool:=λa_ κ=>match a_ with
 | [.int n_1,.int t16,.int t17,.int at_,.int aAN,.int aAO,.int aAP,.fls aAQ,.int aAR,.int aAS,.fls aAT,.int aAU,.bool b5,.fls b6,.int t4,.int aAk,.int out,.int avh,.fls b9]=>ah N (fi N aua n_1 t16 at_ aAN aAO aAP aAQ aAR aAS aAT aAU b6 t4 aAk out avh (λr9 r15=>κ.ext 0 (pn.build [.int at_,.int aAN,.int aAO,.int aAP,.fls aAQ,.int aAR,.int aAS,.fls aAT,.int aAU,.bool r9,.fls b6,.int t4,.int aAk,.int out,.int avh,.fls r15]))) (t17,b5,b9)
 | _=>false
def dB:Nat->Option Ann:=λb_=>cond (b_==2) (some ⟨⟨[0,1,4,5,6,16,17,21,22],[],[],[]⟩,[(2,⟨[0,1,4,5,16,17],[],[],[]⟩)],some ⟨[4],[],[],[]⟩,some (aA [(dz,dp N aua)])⟩) (cond (b_==0) (some ⟨⟨[0,1,4,5,16,17],[],[],[]⟩,[(0,⟨[4,5],[],[],[]⟩)],some ⟨[4],[],[],[]⟩,some (aA [(dy,dn N aua)])⟩) (none))
def oI:ax (US N aua) 7 (dB N aua) (lp Pg 62 1) (dz,dp N aua):=by
 intro a κ h;simp only at h;unfold dp at h;split at h
 ·rename_i n_2 i ayu ayv t21 t22 aAV azc azd aze azf azg azh azi azj ayI aB3 ax7 ax8 axx ay3 aAr;exact .trans (az (λ(v_:Int × Bool × LF)=>dz.build [.int n_2,.int i,.int ayu,.int ayv,.int t21,.int v_.1,.int aAV,.int azc,.int azd,.int aze,.fls azf,.int azg,.int azh,.fls azi,.int azj,.bool v_.2.1,.fls aB3,.int ax7,.int ax8,.int axx,.int ay3,.fls v_.2.2]) (λv_ K_=>by obtain⟨t22,ayI,aAr⟩:=v_; kernel_rfl) N (t22,ayI,aAr)) h
 ·cases h
def oH:ax (US N aua) 7 (dB N aua) (lp Pg 62 0) (dy,dn N aua):=by
 intro a κ h;simp only at h;unfold dn at h;split at h
 ·rename_i n_1 t16 t17 at_ aAN aAO aAP aAQ aAR aAS aAT aAU b5 b6 t4 aAk out avh b9;exact .trans (az (λ(v_:Int × Bool × LF)=>dy.build [.int n_1,.int t16,.int v_.1,.int at_,.int aAN,.int aAO,.int aAP,.fls aAQ,.int aAR,.int aAS,.fls aAT,.int aAU,.bool v_.2.1,.fls b6,.int t4,.int aAk,.int out,.int avh,.fls v_.2.2]) (λv_ K_=>by obtain⟨t17,b5,b9⟩:=v_; kernel_rfl) N (t17,b5,b9)) h
 ·cases h
def rT:aC (US N aua) 7 (dB N aua) (lp Pg 62 1):=
 ar [(dz,dp N aua)] (by kernel_rfl) ⟨oI _ _,trivial⟩
def rR:aC (US N aua) 7 (dB N aua) (lp Pg 62 0):=
 ar [(dy,dn N aua)] (by kernel_rfl) ⟨oH _ _,trivial⟩
def rB (awQ:ab Pg 63 (cC aua)):ab Pg 62 (gp (jh N aua)):=by
 refine glV N (dB N aua) (aa awQ (ae _)) 2 7 (gJ (rR _ _) (rT _ _)) ?_;intro a k h;unfold mb at h;split at h;exact⟨[_,_,_,_,_,_,_],rfl,rfl,.trans (by kernel_rfl) h⟩;cases h
end
def adm (N:Nat):ab Pg 77 (Uf (aaf N)):=by
 refine gfV N (ae _) 1 ?_;intro a k h;unfold Tx at h;split at h;exact⟨[_],rfl,rfl,.trans (by kernel_rfl) h⟩;cases h
def uP (N:Nat) (ayl:EK) (auU:FB) (aFc:ab Pg 77 (Uf ayl)) (aw9:ab Pg 73 (jl auU)):ab Pg 65 (iC (kv N ayl auU)):=by
 refine ggV N (iZ (aa aFc (aa aw9 (ae _))) ⟨(cD (by kernel_rfl) (wC ayl)),(bt (by kernel_rfl)),trivial⟩) 3 ?_;intro a k h;unfold od at h;split at h;exact⟨[_,_,_],rfl,rfl,.trans (by kernel_rfl) h⟩;cases h
def iJ:StSh:=⟨(.any::.any::.any::.ptr 0 0::.ptr 1 0::.ptr 2 0::.ptr 3 0::.any::.any::.ptr 4 0::.any::.any::.ptr 5 0::.slw 6::sqs 35 (.int .i64::.int .i64::sqs 27 [])),[some (30,1,.cells [.rof,.int .i64,.int .i64,.rof]),some (28,1,.cells [.int .i64,.int .i64,.rof]),some (28,1,.cells [.int .i64,.int .i64,.rof]),some (30,1,.cells [.nil,.int .i64,.int .i64,.nil]),some (3,1,.cells [.int .i64]),some (108,1,.cells [.ptr 7 0]),some (33,1,.flts),some (83,1,.cells [.bool])]⟩
def xd:StSh:=⟨(.any::.any::.any::.ptr 0 0::.ptr 1 0::.ptr 2 0::.ptr 3 0::.any::.any::.ptr 4 0::.any::.any::.ptr 5 0::.slw 6::sqs 64 []),[some (30,1,.cells [.rof,.int .i64,.int .i64,.rof]),some (28,1,.cells [.int .i64,.int .i64,.rof]),some (28,1,.cells [.int .i64,.int .i64,.rof]),some (30,1,.cells [.nil,.int .i64,.int .i64,.nil]),some (3,1,.cells [.int .i64]),some (108,1,.cells [.ptr 7 0]),some (33,1,.flts),some (83,1,.cells [.bool])]⟩
section
variable (N:Nat) (auA:jk) (aus:BR) (axe:FB) (aue:eC) (awA:Il) (aun:H9) (auh:cw) (auk:dh)
noncomputable abbrev abq:Cx:=⟨Pg,ak [(32,(j8 auA)),(57,(nJ aus)),(58,(Y_ axe)),(60,(kt aue)),(59,(NV awA)),(61,(jK aun)),(62,(gp auh)),(65,(iC auk))],av,N⟩
def iF:List Atom->K->Bool:=λa_ κ=>match a_ with
 | [.int t49,.int t50,.fls s,.int s_4,.int s_5,.fls s_6,.int f,.int f_3,.fls f_4,.int q,.int q_3,.fls q_4,.int t6,.int awO,.int n,.fls x,.bool b7]=>ah N (j7 N auA aus axe aue awA aun auh auk t49 s s_4 s_5 s_6 f f_3 f_4 q q_3 q_4 t6 awO n (λr13 r14=>κ.ext 0 (xd.build [.fls s,.int s_4,.int s_5,.fls s_6,.int f,.int f_3,.fls f_4,.int q,.int q_3,.fls q_4,.int t6,.int awO,.int n,.fls r13,.bool r14]))) (t50,x,b7)
 | _=>false
def ot:Nat->Option Ann:=λb_=>cond (b_==0) (some ⟨⟨[3,4,5,6,9,12,13,49,50],[],[],[]⟩,[(0,⟨[3,4,5,6,9,12,13],[],[],[]⟩)],some ⟨[6,7],[],[],[]⟩,some (aA [(iJ,iF N auA aus axe aue awA aun auh auk)])⟩) (none)
def wL:ax (abq N auA aus axe aue awA aun auh auk) 0 (ot N auA aus axe aue awA aun auh auk) (lp Pg 22 0) (iJ,iF N auA aus axe aue awA aun auh auk):=by
 intro a κ h;simp only at h;unfold iF at h;split at h
 ·rename_i t49 t50 s s_4 s_5 s_6 f f_3 f_4 q q_3 q_4 t6 awO n x b7;exact .trans (az (λ(v_:Int × LF × Bool)=>iJ.build [.int t49,.int v_.1,.fls s,.int s_4,.int s_5,.fls s_6,.int f,.int f_3,.fls f_4,.int q,.int q_3,.fls q_4,.int t6,.int awO,.int n,.fls v_.2.1,.bool v_.2.2]) (λv_ K_=>by obtain⟨t50,x,b7⟩:=v_; kernel_rfl) N (t50,x,b7)) h
 ·cases h
def Bc:aC (abq N auA aus axe aue awA aun auh auk) 0 (ot N auA aus axe aue awA aun auh auk) (lp Pg 22 0):=
 ar [(iJ,iF N auA aus axe aue awA aun auh auk)] (by kernel_rfl) ⟨wL _ _ _ _ _ _ _ _ _,trivial⟩
def A4 (aAy:ab Pg 32 (j8 auA)) (aAi:ab Pg 57 (nJ aus)) (aDI:ab Pg 58 (Y_ axe)) (aw_:ab Pg 60 (kt aue)) (aE0:ab Pg 59 (NV awA)) (ayC:ab Pg 61 (jK aun)) (axC:ab Pg 62 (gp auh)) (aya:ab Pg 65 (iC auk)):ab Pg 22 (ml (mn N auA aus axe aue awA aun auh auk)):=by
 refine jN (cx:=(abq N auA aus axe aue awA aun auh auk)) (iZ (aa aAy (aa aAi (aa aDI (aa aw_ (aa aE0 (aa ayC (aa axC (aa aya (ae _))))))))) ⟨(bt (by kernel_rfl)),(bt (by kernel_rfl)),(bt (by kernel_rfl)),(bt (by kernel_rfl)),(cD (by kernel_rfl) (xB awA)),(bt (by kernel_rfl)),(bt (by kernel_rfl)),(bt (by kernel_rfl)),trivial⟩) uw (o5 (mn N auA aus axe aue awA aun auh auk)) (ot N auA aus axe aue awA aun auh auk) 1 0 (by kernel_rfl) (aG (Bc _ _ _ _ _ _ _ _ _)) ?_;intro a k h;unfold o5 at h;split at h;exact⟨[],rfl,rfl,.trans (by kernel_rfl) h⟩;cases h
def cj:StSh:=⟨(.any::.any::.any::.slw 1::.any::.slw 0::.int .i64::.int .i64::sqs 4 (.int .i64::.int .i64::sqs 7 [])),[some (26,1,.cells [.slw 1,.slw 2,.slw 3,.slw 4]),some (33,1,.flts),some (33,1,.flts),some (33,1,.flts),some (33,1,.flts)]⟩
def mh:StSh:=⟨(sqs 5 (.slw 0::.int .i64::.int .i64::sqs 13 [])),[some (26,1,.cells [.slw 1,.slw 2,.slw 3,.slw 4]),some (33,1,.flts),some (33,1,.flts),some (33,1,.flts),some (33,1,.flts)]⟩
end
def ci (N:Nat):List Atom->K->Bool:=λa_ κ=>match a_ with
 | [.int t6,.int t7,.int t12,.int t13,.fls l,.fls b2,.fls b3,.fls b4]=>ah N (Nv N t6 t7 t12 b2 b3 b4 (λr2=>κ.ext 2 (mh.build [.int t6,.int t7,.fls r2,.fls b2,.fls b3,.fls b4]))) (t13,l)
 | _=>false
def bR:StSh:=⟨(.any::.any::.any::.slw 2::.any::.slw 0::.int .i64::.int .i64::sqs 4 (.int .i64::.int .i64::sqs 7 [])),[some (26,1,.cells [.slw 1,.slw 2,.slw 3,.slw 4]),some (33,1,.flts),some (33,1,.flts),some (33,1,.flts),some (33,1,.flts)]⟩
def lw:StSh:=⟨(sqs 5 (.slw 0::.int .i64::.int .i64::sqs 13 [])),[some (26,1,.cells [.slw 1,.slw 2,.slw 3,.slw 4]),some (33,1,.flts),some (33,1,.flts),some (33,1,.flts),some (33,1,.flts)]⟩
def bO (N:Nat):List Atom->K->Bool:=λa_ κ=>match a_ with
 | [.int awO,.int aAD,.int axK,.int axa,.fls axL,.fls l_1,.fls azk,.fls aCw]=>ah N (Ns N awO aAD axK axL azk aCw (λr3=>κ.ext 2 (lw.build [.int awO,.int aAD,.fls axL,.fls r3,.fls azk,.fls aCw]))) (axa,l_1)
 | _=>false
def bS:StSh:=⟨(.any::.any::.any::.slw 3::.any::.slw 0::.int .i64::.int .i64::sqs 4 (.int .i64::.int .i64::sqs 7 [])),[some (26,1,.cells [.slw 1,.slw 2,.slw 3,.slw 4]),some (33,1,.flts),some (33,1,.flts),some (33,1,.flts),some (33,1,.flts)]⟩
def ly:StSh:=⟨(sqs 5 (.slw 0::.int .i64::.int .i64::sqs 13 [])),[some (26,1,.cells [.slw 1,.slw 2,.slw 3,.slw 4]),some (33,1,.flts),some (33,1,.flts),some (33,1,.flts),some (33,1,.flts)]⟩
def bP (N:Nat):List Atom->K->Bool:=λa_ κ=>match a_ with
 | [.int ayw,.int aDc,.int aBq,.int ays,.fls aBF,.fls aCt,.fls l_2,.fls aCx]=>ah N (Nt N ayw aDc aBq aBF aCt aCx (λr4=>κ.ext 2 (ly.build [.int ayw,.int aDc,.fls aBF,.fls aCt,.fls r4,.fls aCx]))) (ays,l_2)
 | _=>false
def bT:StSh:=⟨(.any::.any::.any::.slw 4::.any::.slw 0::.int .i64::.int .i64::sqs 4 (.int .i64::.int .i64::sqs 7 [])),[some (26,1,.cells [.slw 1,.slw 2,.slw 3,.slw 4]),some (33,1,.flts),some (33,1,.flts),some (33,1,.flts),some (33,1,.flts)]⟩
def lz:StSh:=⟨(sqs 5 (.slw 0::.int .i64::.int .i64::sqs 13 [])),[some (26,1,.cells [.slw 1,.slw 2,.slw 3,.slw 4]),some (33,1,.flts),some (33,1,.flts),some (33,1,.flts),some (33,1,.flts)]⟩
def bQ (N:Nat):List Atom->K->Bool:=λa_ κ=>match a_ with
 | [.int ayx,.int aDd,.int aBr,.int ayt,.fls aCs,.fls aCu,.fls aCv,.fls l_3]=>ah N (Nu N ayx aDd aBr aCs aCu aCv (λr5=>κ.ext 2 (lz.build [.int ayx,.int aDd,.fls aCs,.fls aCu,.fls aCv,.fls r5]))) (ayt,l_3)
 | _=>false
def IB (N:Nat):Nat->Option Ann:=λb_=>cond (b_==2) (some ⟨⟨[3,5,6,7,12,13],[],[],[]⟩,[(2,⟨[5,6,7],[],[],[]⟩)],some ⟨[],[],[],[]⟩,some (aA [(cj,ci N),(bR,bO N),(bS,bP N),(bT,bQ N)])⟩) (none)
def l7 (N:Nat):ax ⟨Pg,ak [],av,(N+24)⟩ 5 (IB (N+24)) (lp Pg 23 1) (cj,ci (N+24)):=by
 intro a κ h;simp only at h;unfold ci at h;split at h
 ·rename_i t6 t7 t12 t13 l b2 b3 b4;exact .trans (az (λ(v_:Int × LF)=>cj.build [.int t6,.int t7,.int t12,.int v_.1,.fls v_.2,.fls b2,.fls b3,.fls b4]) (λv_ K_=>by obtain⟨t13,l⟩:=v_; kernel_rfl) (N+24) (t13,l)) h
 ·cases h
def lh (N:Nat):ax ⟨Pg,ak [],av,(N+24)⟩ 5 (IB (N+24)) (lp Pg 23 1) (bR,bO (N+24)):=by
 intro a κ h;simp only at h;unfold bO at h;split at h
 ·rename_i awO aAD axK axa axL l_1 azk aCw;exact .trans (az (λ(v_:Int × LF)=>bR.build [.int awO,.int aAD,.int axK,.int v_.1,.fls axL,.fls v_.2,.fls azk,.fls aCw]) (λv_ K_=>by obtain⟨axa,l_1⟩:=v_; kernel_rfl) (N+24) (axa,l_1)) h
 ·cases h
def li (N:Nat):ax ⟨Pg,ak [],av,(N+24)⟩ 5 (IB (N+24)) (lp Pg 23 1) (bS,bP (N+24)):=by
 intro a κ h;simp only at h;unfold bP at h;split at h
 ·rename_i ayw aDc aBq ays aBF aCt l_2 aCx;exact .trans (az (λ(v_:Int × LF)=>bS.build [.int ayw,.int aDc,.int aBq,.int v_.1,.fls aBF,.fls aCt,.fls v_.2,.fls aCx]) (λv_ K_=>by obtain⟨ays,l_2⟩:=v_; kernel_rfl) (N+24) (ays,l_2)) h
 ·cases h
def lj (N:Nat):ax ⟨Pg,ak [],av,(N+24)⟩ 5 (IB (N+24)) (lp Pg 23 1) (bT,bQ (N+24)):=by
 intro a κ h;simp only at h;unfold bQ at h;split at h
 ·rename_i ayx aDd aBr ayt aCs aCu aCv l_3;exact .trans (az (λ(v_:Int × LF)=>bT.build [.int ayx,.int aDd,.int aBr,.int v_.1,.fls aCs,.fls aCu,.fls aCv,.fls v_.2]) (λv_ K_=>by obtain⟨ayt,l_3⟩:=v_; kernel_rfl) (N+24) (ayt,l_3)) h
 ·cases h
def nX (N:Nat):aC ⟨Pg,ak [],av,(N+24)⟩ 5 (IB (N+24)) (lp Pg 23 1):=
 ar [(cj,ci (N+24)),(bR,bO (N+24)),(bS,bP (N+24)),(bT,bQ (N+24))] (by kernel_rfl) ⟨l7 _,lh _,li _,lj _,trivial⟩
def ah_ (N:Nat):ab Pg 23 (agZ (ahr (N+24))):=by
 refine jN (cx:=⟨Pg,ak [],av,(N+24)⟩) (gT (ae _) (by kernel_rfl)) ae1 (agH (ahr (N+24))) (IB (N+24)) 2 5 (by kernel_rfl) (gJ ((λhk e=>by rw[show Je ((IB (N+24)) (lp Pg 23 0).1)=none from by kernel_rfl]at e; cases e)) (nX _)) ?_;intro a k h;unfold agH at h;split at h;exact⟨[_,_,_,_,_],rfl,rfl,.trans (by kernel_rfl) h⟩;cases h
def f8:StSh:=⟨(.rof::.rof::sqs 10 (.int .i64::.int .i64::sqs 13 [])),[]⟩
def te:StSh:=⟨(sqs 4 (.bool::sqs 22 [])),[]⟩
def tu:StSh:=⟨(sqs 27 []),[]⟩
section
variable (N:Nat) (SQ3:EL)
def fR:List Atom->K->Bool:=λa_ κ=>match a_ with
 | [.fls a_1,.fls b_1,.int t12,.int t13]=>ah N (Nx N SQ3 a_1 b_1 t12 (λr0=>κ.ret (te.build [.bool r0])) (κ.ext 0 (tu.build []))) t13
 | _=>false
def aaY:Nat->Option Ann:=λb_=>cond (b_==0) (some ⟨⟨[0,1,12,13],[],[],[]⟩,[(0,⟨[],[],[],[]⟩)],some ⟨[4],[],[],[]⟩,some (aA [(f8,fR N SQ3)])⟩) (none)
def sH:ax ⟨Pg,ak [(13,(FQ3 SQ3))],av,N⟩ 0 (aaY N SQ3) (lp Pg 45 0) (f8,fR N SQ3):=by
 intro a κ h;simp only at h;unfold fR at h;split at h
 ·rename_i a_1 b_1 t12 t13;exact .trans (az (λv_=>f8.build [.fls a_1,.fls b_1,.int t12,.int v_]) (λv_ K_=>by kernel_rfl) N t13) h
 ·cases h
def wM:aC ⟨Pg,ak [(13,(FQ3 SQ3))],av,N⟩ 0 (aaY N SQ3) (lp Pg 45 0):=
 ar [(f8,fR N SQ3)] (by kernel_rfl) ⟨sH _ _,trivial⟩
def aiQ (hQ3:ab Pg 13 (FQ3 SQ3)):ab Pg 45 (anh (an5 N SQ3)):=by
 refine glV N (aaY N SQ3) (aa hQ3 (ae _)) 1 0 (aG (wM _ _)) ?_;intro a k h;unfold am0 at h;split at h;exact⟨[],rfl,rfl,.trans (by kernel_rfl) h⟩;cases h
end
def aoM (N:Nat) (aA1:Oe) (aGh:ab Pg 45 (anh aA1)):ab Pg 16 (FQ7 (GQ7 N aA1)):=by
 refine gfV N (aa aGh (ae _)) 0 ?_;intro a k h;unfold as3 at h;split at h;exact⟨[],rfl,rfl,.trans (by kernel_rfl) h⟩;cases h
section
variable (N:Nat) (SQ4:QZ) (awx:xi) (axo:EF) (auE:EF) (ax9:K3) (SQ7:Q0) (SQ0:QU)
noncomputable abbrev alA:Cx:=⟨Pg,ak [(8,(FQ4 SQ4)),(9,(NN awx)),(21,(T3 axo)),(22,(ml auE)),(23,(agZ ax9)),(16,(FQ7 SQ7)),(20,(FQ0 SQ0))],av,N⟩
def alu (N:Nat) (SQ4:QZ) (awx:xi) (axo:EF) (auE:EF) (ax9:K3) (SQ7:Q0) (SQ0:QU):Nat->Option Ann:=λb_=>none
def aq0 (x:LI) (rows:Int) (p m q:LI) (other:Int) (c_:KV):ov (alA N SQ4 awx axo auE ax9 SQ7 SQ0) (alu N SQ4 awx axo auE ax9 SQ7 SQ0) 4 (Nh.args [.ints x,.int rows,.ints p,.ints m,.ints q,.int other]) [] c_=ahu N SQ4 awx axo auE ax9 SQ7 SQ0 x rows p m q other (λr0=>c_ (.bool r0) []):=by kernel_rfl
def aqD (hQ4:ab Pg 8 (FQ4 SQ4)) (aCD:ab Pg 9 (NN awx)) (aET:ab Pg 21 (T3 axo)) (azm:ab Pg 22 (ml auE)) (aF1:ab Pg 23 (agZ ax9)) (hQ7:ab Pg 16 (FQ7 SQ7)) (hQ0:ab Pg 20 (FQ0 SQ0)) (x:LI) (rows:Int) (p m q:LI) (other:Int) (hG:ahu N SQ4 awx axo auE ax9 SQ7 SQ0 x rows p m q other (λb=>b)=true):OkC Pg 4 (Nh.args [.ints x,.int rows,.ints p,.ints m,.ints q,.int other]) [] (.bool true) []:=
 aqE (cx:=(alA N SQ4 awx axo auE ax9 SQ7 SQ0)) (gT (aa hQ4 (aa aCD (aa aET (aa azm (aa aF1 (aa hQ7 (aa hQ0 (ae _)))))))) (by kernel_rfl)) (alu N SQ4 awx axo auE ax9 SQ7 SQ0) 0 (by kernel_rfl) (λi_ hi_=>by omega) ((aq0 N SQ4 awx axo auE ax9 SQ7 SQ0 x rows p m q other (λr H=>match r,H with | .bool b,[]=>b | _,_=>false)).trans hG)
end
end Go.Proofs.YteifemaagdeomaaGreatDoor
