/-
  THE TIES: each printed meaning is what the program does (written by program).
  Conditions: none.
-/
import Derived.Test.YtldenpmpmifnlaaGreatDoorGs
set_option linter.unusedVariables false
namespace Go.Proofs.YtldenpmpmifnlaaGreatDoor
open Go Go.Mach Go.Proofs
set_option maxRecDepth 50000
def Ul (N:Nat):Nat->Option Ann:=λb_=>none
theorem Ms (N:Nat):ab Pg 74 (sk (zP N)):=by
 refine av (cx:=⟨Pg,ah [],am,N⟩) (ai (ac _) (by kernel_rfl)) HK (FF (zP N)) (Ul N) 0 0 (by kernel_rfl) (λi_ hi_=>by omega) ?_;intro a k h;unfold FF at h;split at h;exact⟨[],rfl,rfl,.trans (by kernel_rfl) h⟩;cases h
def afD (N:Nat):Nat->Option Ann:=λb_=>none
theorem VO (N:Nat):ab Pg 87 (Gs (TP N)):=by
 refine av (cx:=⟨Pg,ah [],am,N⟩) (ai (ac _) (by kernel_rfl)) QW (N3 (TP N)) (afD N) 0 0 (by kernel_rfl) (λi_ hi_=>by omega) ?_;intro a k h;unfold N3 at h;split at h;exact⟨[],rfl,rfl,.trans (by kernel_rfl) h⟩;cases h
def aid (N:Nat):Nat->Option Ann:=λb_=>none
theorem adr (N:Nat):ab Pg 89 (RF (afi N)):=by
 refine av (cx:=⟨Pg,ah [],am,N⟩) (ai (ac _) (by kernel_rfl)) Yj (ZE (afi N)) (aid N) 0 0 (by kernel_rfl) (λi_ hi_=>by omega) ?_;intro a k h;unfold ZE at h;split at h;exact⟨[],rfl,rfl,.trans (by kernel_rfl) h⟩;cases h
def aic (N:Nat) (anN:ue) (aoS:z7):Nat->Option Ann:=λb_=>none
theorem adq (N:Nat) (anN:ue) (aoS:z7) (att:ab Pg 87 (Gs anN)) (aui:ab Pg 89 (RF aoS)):ab Pg 81 (aaA (abB N anN aoS)):=by
 refine av (cx:=⟨Pg,ah [(87,(Gs anN)),(89,(RF aoS))],am,N⟩) (ai (aa att (aa aui (ac _))) (by kernel_rfl)) Yi (ZD (abB N anN aoS)) (aic N anN aoS) 0 0 (by kernel_rfl) (λi_ hi_=>by omega) ?_;intro a k h;unfold ZD at h;split at h;exact⟨[],rfl,rfl,.trans (by kernel_rfl) h⟩;cases h
def ah0 (N:Nat):Nat->Option Ann:=λb_=>none
theorem ada (N:Nat):ab Pg 88 (I7 (afh N)):=by
 refine av (cx:=⟨Pg,ah [],am,N⟩) (ai (ac _) (by kernel_rfl)) X6 (Zp (afh N)) (ah0 N) 0 0 (by kernel_rfl) (λi_ hi_=>by omega) ?_;intro a k h;unfold Zp at h;split at h;exact⟨[],rfl,rfl,.trans (by kernel_rfl) h⟩;cases h
def afI (N:Nat) (aoS:z7) (amL:tm):Nat->Option Ann:=λb_=>none
theorem VZ (N:Nat) (aoS:z7) (amL:tm) (aui:ab Pg 89 (RF aoS)) (atA:ab Pg 88 (I7 amL)):ab Pg 82 (O1 (Px N aoS amL)):=by
 refine av (cx:=⟨Pg,ah [(89,(RF aoS)),(88,(I7 amL))],am,N⟩) (ai (aa aui (aa atA (ac _))) (by kernel_rfl)) Q6 (Od (Px N aoS amL)) (afI N aoS amL) 0 0 (by kernel_rfl) (λi_ hi_=>by omega) ?_;intro a k h;unfold Od at h;split at h;exact⟨[],rfl,rfl,.trans (by kernel_rfl) h⟩;cases h
def ahN (N:Nat) (aq9:GV) (apM:BC):Nat->Option Ann:=λb_=>none
theorem acO (N:Nat) (aq9:GV) (apM:BC) (awp:ab Pg 81 (aaA aq9)) (avg:ab Pg 82 (O1 apM)):ab Pg 75 (RA (abb N aq9 apM)):=by
 refine av (cx:=⟨Pg,ah [(81,(aaA aq9)),(82,(O1 apM))],am,N⟩) (ai (aa awp (aa avg (ac _))) (by kernel_rfl)) XP (Y6 (abb N aq9 apM)) (ahN N aq9 apM) 0 0 (by kernel_rfl) (λi_ hi_=>by omega) ?_;intro a k h;unfold Y6 at h;split at h;exact⟨[],rfl,rfl,.trans (by kernel_rfl) h⟩;cases h
def ahA (N:Nat) (aoJ:zX) (anN:ue) (amL:tm):Nat->Option Ann:=λb_=>none
theorem acs (N:Nat) (aoJ:zX) (anN:ue) (amL:tm) (auc:ab Pg 75 (RA aoJ)) (att:ab Pg 87 (Gs anN)) (atA:ab Pg 88 (I7 amL)):ab Pg 80 (Rx (aaY N aoJ anN amL)):=by
 refine av (cx:=⟨Pg,ah [(75,(RA aoJ)),(87,(Gs anN)),(88,(I7 amL))],am,N⟩) (ai (aa auc (aa att (aa atA (ac _)))) (by kernel_rfl)) Xv (YQ (aaY N aoJ anN amL)) (ahA N aoJ anN amL) 0 0 (by kernel_rfl) (λi_ hi_=>by omega) ?_;intro a k h;unfold YQ at h;split at h;exact⟨[],rfl,rfl,.trans (by kernel_rfl) h⟩;cases h
def ahz (N:Nat) (ane:yq):Nat->Option Ann:=λb_=>none
theorem acr (N:Nat) (ane:yq) (at8:ab Pg 80 (Rx ane)):ab Pg 73 (Rw (aaX N ane)):=by
 refine av (cx:=⟨Pg,ah [(80,(Rx ane))],am,N⟩) (ai (aa at8 (ac _)) (by kernel_rfl)) Xu (YP (aaX N ane)) (ahz N ane) 0 0 (by kernel_rfl) (λi_ hi_=>by omega) ?_;intro a k h;unfold YP at h;split at h;exact⟨[],rfl,rfl,.trans (by kernel_rfl) h⟩;cases h
def afG (N:Nat) (amN:pL) (al4:kt) (anc:yp):Nat->Option Ann:=λb_=>none
theorem VU (N:Nat) (amN:pL) (al4:kt) (anc:yp) (ar7:ab Pg 19 (DF amN)) (aqt:ab Pg 74 (sk al4)) (at7:ab Pg 73 (Rw anc)):ab Pg 60 (OW (Pt N amN al4 anc)):=by
 refine av (cx:=⟨Pg,ah [(19,(DF amN)),(74,(sk al4)),(73,(Rw anc))],am,N⟩) (ai (aa ar7 (aa aqt (aa at7 (ac _)))) (by kernel_rfl)) Q2 (N9 (Pt N amN al4 anc)) (afG N amN al4 anc) 0 0 (by kernel_rfl) (λi_ hi_=>by omega) ?_;intro a k h;unfold N9 at h;split at h;exact⟨[],rfl,rfl,.trans (by kernel_rfl) h⟩;cases h
def afH (N:Nat) (amN:pL) (al4:kt) (aoJ:zX):Nat->Option Ann:=λb_=>none
theorem VV (N:Nat) (amN:pL) (al4:kt) (aoJ:zX) (ar7:ab Pg 19 (DF amN)) (aqt:ab Pg 74 (sk al4)) (auc:ab Pg 75 (RA aoJ)):ab Pg 61 (OX (Pu N amN al4 aoJ)):=by
 refine av (cx:=⟨Pg,ah [(19,(DF amN)),(74,(sk al4)),(75,(RA aoJ))],am,N⟩) (ai (aa ar7 (aa aqt (aa auc (ac _)))) (by kernel_rfl)) Q3 (N_ (Pu N amN al4 aoJ)) (afH N amN al4 aoJ) 0 0 (by kernel_rfl) (λi_ hi_=>by omega) ?_;intro a k h;unfold N_ at h;split at h;exact⟨[],rfl,rfl,.trans (by kernel_rfl) h⟩;cases h
def afK (N:Nat) (amN:pL) (alL:jJ):Nat->Option Ann:=λb_=>none
theorem V3 (N:Nat) (amN:pL) (alL:jJ) (ar7:ab Pg 19 (DF amN)) (aqs:ab Pg 16 (vR alL)):ab Pg 6 (O3 (Pz N amN alL)):=by
 refine av (cx:=⟨Pg,ah [(19,(DF amN)),(16,(vR alL))],am,N⟩) (ai (aa ar7 (aa aqs (ac _))) (by kernel_rfl)) Q8 (Of (Pz N amN alL)) (afK N amN alL) 0 0 (by kernel_rfl) (λi_ hi_=>by omega) ?_;intro a k h;unfold Of at h;split at h;exact⟨[],rfl,rfl,.trans (by kernel_rfl) h⟩;cases h
def ahX (N:Nat) (alL:jJ):Nat->Option Ann:=λb_=>none
theorem ac3 (N:Nat) (alL:jJ) (aqs:ab Pg 16 (vR alL)):ab Pg 4 (aak (afg N alL)):=by
 refine av (cx:=⟨Pg,ah [(16,(vR alL))],am,N⟩) (ai (aa aqs (ac _)) (by kernel_rfl)) X0 (Zh (afg N alL)) (ahX N alL) 0 0 (by kernel_rfl) (λi_ hi_=>by omega) ?_;intro a k h;unfold Zh at h;split at h;exact⟨[],rfl,rfl,.trans (by kernel_rfl) h⟩;cases h
def aih (N:Nat) (alW:ku):Nat->Option Ann:=λb_=>none
theorem adv (N:Nat) (alW:ku) (aqv:ab Pg 6 (sm alW)):ab Pg 33 (F0 (TY N alW)):=by
 refine av (cx:=⟨Pg,ah [(6,(sm alW))],am,N⟩) (ai (aa aqv (ac _)) (by kernel_rfl)) Yn (ZI (TY N alW)) (aih N alW) 0 0 (by kernel_rfl) (λi_ hi_=>by omega) ?_;intro a k h;unfold ZI at h;split at h;exact⟨[],rfl,rfl,.trans (by kernel_rfl) h⟩;cases h
def afC (N:Nat):Nat->Option Ann:=λb_=>none
theorem VN (N:Nat):ab Pg 34 (OP (TO N)):=by
 refine av (cx:=⟨Pg,ah [],am,N⟩) (ai (ac _) (by kernel_rfl)) QV (N2 (TO N)) (afC N) 0 0 (by kernel_rfl) (λi_ hi_=>by omega) ?_;intro a k h;unfold N2 at h;split at h;exact⟨[],rfl,rfl,.trans (by kernel_rfl) h⟩;cases h
def aia (N:Nat) (alW:ku):Nat->Option Ann:=λb_=>none
theorem ado (N:Nat) (alW:ku) (aqv:ab Pg 6 (sm alW)):ab Pg 35 (aay (TX N alW)):=by
 refine av (cx:=⟨Pg,ah [(6,(sm alW))],am,N⟩) (ai (aa aqv (ac _)) (by kernel_rfl)) Yg (ZB (TX N alW)) (aia N alW) 0 0 (by kernel_rfl) (λi_ hi_=>by omega) ?_;intro a k h;unfold ZB at h;split at h;exact⟨[],rfl,rfl,.trans (by kernel_rfl) h⟩;cases h
def afr (N:Nat) (alY:mo) (alL:jJ):Nat->Option Ann:=λb_=>none
theorem Vv (N:Nat) (alY:mo) (alL:jJ) (arh:ab Pg 19 (zO alY)) (aqs:ab Pg 16 (vR alL)):ab Pg 36 (Ov (O_ N alY alL)):=by
 refine av (cx:=⟨Pg,ah [(19,(zO alY)),(16,(vR alL))],am,N⟩) (ai (aa arh (aa aqs (ac _))) (by kernel_rfl)) QE (NI (O_ N alY alL)) (afr N alY alL) 0 0 (by kernel_rfl) (λi_ hi_=>by omega) ?_;intro a k h;unfold NI at h;split at h;exact⟨[],rfl,rfl,.trans (by kernel_rfl) h⟩;cases h
section
variable (N:Nat) (alL:jJ)
noncomputable abbrev JM:Cx:=⟨Pg,ah [(16,(vR alL))],am,N⟩
def vU (N:Nat) (alL:jJ):Nat->Option Ann:=λb_=>none
def zr (d_:List V) (u_:List (Option Blk)) (sign v:Int):St:=⟨(dqs d_ 0 3 (vwu v::dqs d_ 3 4 [])),[]⟩
theorem MC (d_:List V) (u_:List (Option Blk)) (sign v:Int) (c_:KV):bc (JM N alL) 0 (vU N alL) ((cds Pg 37).drop 4) 0 (zr d_ u_ sign v) (ou Pg 37 0 c_)=A6 N alL sign v (λr0=>c_ (.flt r0) []):=by kernel_rfl
theorem Mz (sign:Int) (c_:KV) (κn_:St->Bool):bc (JM N alL) 0 (vU N alL) (sg Pg 37 0 4) 0 (st0 Pg 37 (tU.args [.int sign]) []) { (ou Pg 37 0 c_)with nrm:=κn_ } = (cond (decide (sign>=0)) (κn_ (zr [vwi sign,.any,.flt (some 0),vwi sign,.bool true,.any,.any] [] sign 9218868437227405312)) (κn_ (zr [vwi sign,.any,.flt (some 0),vwi sign,.bool false,.any,.any] [] sign 18442240474082181120))):=by kernel_rfl
theorem MD (sign:Int) (c_:KV):bc (JM N alL) 0 (vU N alL) ((cds Pg 37).drop 0) 0 (st0 Pg 37 (tU.args [.int sign]) []) (ou Pg 37 0 c_)=ub N alL sign (λr0=>c_ (.flt r0) []):=by rw[eD 0 4 4 rfl];refine(Mz N alL sign c_ _).trans ?_;simp only[MC];kernel_rfl
theorem U6 (sign:Int) (c_:KV):qg (JM N alL) (vU N alL) 37 (tU.args [.int sign]) [] c_=ub N alL sign (λr0=>c_ (.flt r0) []):=
 (ln (by kernel_rfl)).trans (MD N alL sign c_)
theorem Mu (aqs:ab Pg 16 (vR alL)):ab Pg 37 (Dr (ub N alL)):=by
 refine av (cx:=(JM N alL)) (ai (aa aqs (ac _)) (by kernel_rfl)) tU (FH (ub N alL)) (vU N alL) 0 0 (by kernel_rfl) (λi_ hi_=>by omega) ?_;intro a k h;unfold FH at h;split at h;exact⟨[],rfl,rfl,(U6 _ _ _ _).trans h⟩;cases h
end
section
variable (N:Nat) (ams:qe) (amX:yO) (anZ:D6) (alY:mo) (amU:yK) (al1:q9) (alL:jJ)
noncomputable abbrev JN:Cx:=⟨Pg,ah [(33,(F0 ams)),(34,(OP amX)),(35,(aay anZ)),(19,(zO alY)),(36,(Ov amU)),(37,(Dr al1)),(16,(vR alL))],am,N⟩
def Ed (N:Nat) (ams:qe) (amX:yO) (anZ:D6) (alY:mo) (amU:yK) (al1:q9) (alL:jJ):Nat->Option Ann:=λb_=>none
def MV (d_:List V) (u_:List (Option Blk)) (frac:Fl) (exp arg x:Int) (m:Fl):St:=⟨((dq d_ 0)::vwi arg::dqs d_ 1 4 (vwu x::.flt m::dqs d_ 5 55 [])),[]⟩
theorem agw (d_:List V) (u_:List (Option Blk)) (frac:Fl) (exp arg x:Int) (m:Fl) (c_:KV):bc (JN N ams amX anZ alY amU al1 alL) 0 (Ed N ams amX anZ alY amU al1 alL) ((cds Pg 18).drop 13) 0 (MV d_ u_ frac exp arg x m) (ou Pg 18 0 c_)=Jg N ams amX anZ alY amU al1 alL frac exp arg x m (λr0=>c_ (.flt r0) []):=by kernel_rfl
theorem Ic (frac:Fl) (exp:Int) (c_:KV) (κn_:St->Bool):bc (JN N ams amX anZ alY amU al1 alL) 0 (Ed N ams amX anZ alY amU al1 alL) (sg Pg 18 0 13) 0 (st0 Pg 18 (AU.args [.fl frac,.int exp]) []) { (ou Pg 18 0 c_)with nrm:=κn_ } = (cond (feq frac (some 0)) (c_ (.flt frac) []) (ams frac 0 (λcr=>cond (cr==false) (amX frac (λalT=>cond alT (c_ (.flt frac) []) (anZ frac (λxr nr=>au .i64 (exp+nr)&&alY xr (λaly=>au .i64 (Int.fdiv aly (2 ^ 52))&&(au .i64 ((az .and .i64 (Int.fdiv aly (2 ^ 52)) 2047) - 1023)&&(au .i64 ((exp+nr)+((az .and .i64 (Int.fdiv aly (2 ^ 52)) 2047) - 1023))&&cond (decide (((exp+nr)+((az .and .i64 (Int.fdiv aly (2 ^ 52)) 2047) - 1023))<(-1075))) (amU (some 0) xr (λanR=>c_ (.flt anR) [])) (cond (decide (((exp+nr)+((az .and .i64 (Int.fdiv aly (2 ^ 52)) 2047) - 1023))>1023)) (cond (flt xr (some 0)) (al1 (-1) (λaou=>c_ (.flt aou) [])) (al1 1 (λapr=>c_ (.flt apr) []))) (cond (decide (((exp+nr)+((az .and .i64 (Int.fdiv aly (2 ^ 52)) 2047) - 1023))<(-1022))) (au .i64 (((exp+nr)+((az .and .i64 (Int.fdiv aly (2 ^ 52)) 2047) - 1023))+53)&&κn_ (MV (.flt xr::.any::.any::.flt (some 0)::vwi nr::.bool false::.flt frac::.bool (feq frac (some 0))::.any::.bool false::.flt frac::.bool cr::.bool false::.flt frac::.bool alT::.bool alT::.any::.tup [.flt xr,vwi nr]::.flt frac::.tup [.flt xr,vwi nr]::.flt xr::vwi nr::vwi exp::vwi nr::vwi (exp+nr)::.flt xr::vwu aly::vwi (exp+nr)::vwu aly::vwu (Int.fdiv aly (2 ^ 52))::vwi (Int.fdiv aly (2 ^ 52))::vwi (az .and .i64 (Int.fdiv aly (2 ^ 52)) 2047)::vwi ((az .and .i64 (Int.fdiv aly (2 ^ 52)) 2047) - 1023)::vwi ((exp+nr)+((az .and .i64 (Int.fdiv aly (2 ^ 52)) 2047) - 1023))::vwi ((exp+nr)+((az .and .i64 (Int.fdiv aly (2 ^ 52)) 2047) - 1023))::.bool false::.any::.any::vwi ((exp+nr)+((az .and .i64 (Int.fdiv aly (2 ^ 52)) 2047) - 1023))::.bool false::vqs 4 (vwi ((exp+nr)+((az .and .i64 (Int.fdiv aly (2 ^ 52)) 2047) - 1023))::.bool true::vwi ((exp+nr)+((az .and .i64 (Int.fdiv aly (2 ^ 52)) 2047) - 1023))::vwi (((exp+nr)+((az .and .i64 (Int.fdiv aly (2 ^ 52)) 2047) - 1023))+53)::vqs 12 [])) [] frac exp (((exp+nr)+((az .and .i64 (Int.fdiv aly (2 ^ 52)) 2047) - 1023))+53) aly (some 4368491638549381120))) (κn_ (MV (.flt xr::.any::.any::.flt (some 0)::vwi nr::.bool false::.flt frac::.bool (feq frac (some 0))::.any::.bool false::.flt frac::.bool cr::.bool false::.flt frac::.bool alT::.bool alT::.any::.tup [.flt xr,vwi nr]::.flt frac::.tup [.flt xr,vwi nr]::.flt xr::vwi nr::vwi exp::vwi nr::vwi (exp+nr)::.flt xr::vwu aly::vwi (exp+nr)::vwu aly::vwu (Int.fdiv aly (2 ^ 52))::vwi (Int.fdiv aly (2 ^ 52))::vwi (az .and .i64 (Int.fdiv aly (2 ^ 52)) 2047)::vwi ((az .and .i64 (Int.fdiv aly (2 ^ 52)) 2047) - 1023)::vwi ((exp+nr)+((az .and .i64 (Int.fdiv aly (2 ^ 52)) 2047) - 1023))::vwi ((exp+nr)+((az .and .i64 (Int.fdiv aly (2 ^ 52)) 2047) - 1023))::.bool false::.any::.any::vwi ((exp+nr)+((az .and .i64 (Int.fdiv aly (2 ^ 52)) 2047) - 1023))::.bool false::vqs 4 (vwi ((exp+nr)+((az .and .i64 (Int.fdiv aly (2 ^ 52)) 2047) - 1023))::.bool false::vqs 14 [])) [] frac exp ((exp+nr)+((az .and .i64 (Int.fdiv aly (2 ^ 52)) 2047) - 1023)) aly (some 4607182418800017408)))))))))))) (c_ (.flt frac) [])))):=by kernel_rfl
theorem Ij (frac:Fl) (exp:Int) (c_:KV):bc (JN N ams amX anZ alY amU al1 alL) 0 (Ed N ams amX anZ alY amU al1 alL) ((cds Pg 18).drop 0) 0 (st0 Pg 18 (AU.args [.fl frac,.int exp]) []) (ou Pg 18 0 c_)=DG N ams amX anZ alY amU al1 alL frac exp (λr0=>c_ (.flt r0) []):=by rw[eD 0 13 13 rfl];refine(Ic N ams amX anZ alY amU al1 alL frac exp c_ _).trans ?_;simp only[agw];kernel_rfl
theorem afU (frac:Fl) (exp:Int) (c_:KV):qg (JN N ams amX anZ alY amU al1 alL) (Ed N ams amX anZ alY amU al1 alL) 18 (AU.args [.fl frac,.int exp]) [] c_=DG N ams amX anZ alY amU al1 alL frac exp (λr0=>c_ (.flt r0) []):=
 (ln (by kernel_rfl)).trans (Ij N ams amX anZ alY amU al1 alL frac exp c_)
theorem VW (asF:ab Pg 33 (F0 ams)) (au8:ab Pg 34 (OP amX)) (awn:ab Pg 35 (aay anZ)) (arh:ab Pg 19 (zO alY)) (auP:ab Pg 36 (Ov amU)) (atX:ab Pg 37 (Dr al1)) (aqs:ab Pg 16 (vR alL)):ab Pg 18 (OY (DG N ams amX anZ alY amU al1 alL)):=by
 refine av (cx:=(JN N ams amX anZ alY amU al1 alL)) (ai (aa asF (aa au8 (aa awn (aa arh (aa auP (aa atX (aa aqs (ac _)))))))) (by kernel_rfl)) AU (Oa (DG N ams amX anZ alY amU al1 alL)) (Ed N ams amX anZ alY amU al1 alL) 0 0 (by kernel_rfl) (λi_ hi_=>by omega) ?_;intro a k h;unfold Oa at h;split at h;exact⟨[],rfl,rfl,(afU _ _ _ _ _ _ _ _ _ _ _).trans h⟩;cases h
end
def afE (N:Nat) (apJ:Bz):Nat->Option Ann:=λb_=>none
theorem VS (N:Nat) (apJ:Bz) (avd:ab Pg 18 (OY apJ)):ab Pg 5 (OU (I9 N apJ)):=by
 refine av (cx:=⟨Pg,ah [(18,(OY apJ))],am,N⟩) (ai (aa avd (ac _)) (by kernel_rfl)) Q0 (N7 (I9 N apJ)) (afE N apJ) 0 0 (by kernel_rfl) (λi_ hi_=>by omega) ?_;intro a k h;unfold N7 at h;split at h;exact⟨[],rfl,rfl,.trans (by kernel_rfl) h⟩;cases h
def afw (N:Nat):Nat->Option Ann:=λb_=>none
theorem VA (N:Nat):ab Pg 59 (OA (Pe N)):=by
 refine av (cx:=⟨Pg,ah [],am,N⟩) (ai (ac _) (by kernel_rfl)) QJ (NN (Pe N)) (afw N) 0 0 (by kernel_rfl) (λi_ hi_=>by omega) ?_;intro a k h;unfold NN at h;split at h;exact⟨[],rfl,rfl,.trans (by kernel_rfl) h⟩;cases h
def io:StSh:=⟨(sqs 6 (.rof::.int .i64::.int .i64::sqs 12 [])),[]⟩
def tW:StSh:=⟨(.any::.any::.bool::sqs 18 []),[]⟩
def tZ:StSh:=⟨(sqs 21 []),[]⟩
section
variable (N:Nat) (anH:Br)
noncomputable abbrev UE:Cx:=⟨Pg,ah [(60,(OM anH))],am,N⟩
def ii:List Atom->K->Bool:=λa_ κ=>match a_ with
 | [.fls t6,.int t7,.int t8]=>al N (oe N anH t6 t7 (λr0=>κ.ret (tW.build [.bool r0])) (κ.ext 0 (tZ.build []))) t8
 | _=>false
def Ub:Nat->Option Ann:=λb_=>cond (b_==0) (some ⟨⟨[6,7,8],[],[],[]⟩,[(0,⟨[],[],[],[]⟩)],some ⟨[2],[],[],[]⟩,some (aF [(io,ii N anH)])⟩) (none)
theorem tE:aH (UE N anH) 0 (Ub N anH) (lp Pg 39 0) (io,ii N anH):=by
 intro a κ h;simp only at h;unfold ii at h;split at h
 ·rename_i t6 t7 t8;exact .trans (aJ (λv_=>io.build [.fls t6,.int t7,.int v_]) (λv_ K_=>by kernel_rfl) N t8) h
 ·cases h
theorem yg:aT (UE N anH) 0 (Ub N anH) (lp Pg 39 0):=
 aC [(io,ii N anH)] (by kernel_rfl) ⟨tE _ _,trivial⟩
theorem acx (au5:ab Pg 60 (OM anH)):ab Pg 39 (FX (aa0 N anH)):=by
 refine av (cx:=(UE N anH)) (ai (aa au5 (ac _)) (by kernel_rfl)) Xy (YU (aa0 N anH)) (Ub N anH) 1 0 (by kernel_rfl) (bK (yg _ _)) ?_;intro a k h;unfold YU at h;split at h;exact⟨[],rfl,rfl,.trans (by kernel_rfl) h⟩;cases h
end
def aho (N:Nat) (aoY:Bf) (alV:nz):Nat->Option Ann:=λb_=>none
theorem acd (N:Nat) (aoY:Bf) (alV:nz) (auU:ab Pg 59 (OA aoY)) (asC:ab Pg 39 (FX alV)):ab Pg 38 (I4 (aaN N aoY alV)):=by
 refine av (cx:=⟨Pg,ah [(59,(OA aoY)),(39,(FX alV))],am,N⟩) (ai (aa auU (aa asC (ac _))) (by kernel_rfl)) Xi (YB (aaN N aoY alV)) (aho N aoY alV) 0 0 (by kernel_rfl) (λi_ hi_=>by omega) ?_;intro a k h;unfold YB at h;split at h;exact⟨[],rfl,rfl,.trans (by kernel_rfl) h⟩;cases h
def aib (N:Nat):Nat->Option Ann:=λb_=>none
theorem adp (N:Nat):ab Pg 62 (aaz (abA N)):=by
 refine av (cx:=⟨Pg,ah [],am,N⟩) (ai (ac _) (by kernel_rfl)) Yh (ZC (abA N)) (aib N) 0 0 (by kernel_rfl) (λi_ hi_=>by omega) ?_;intro a k h;unfold ZC at h;split at h;exact⟨[],rfl,rfl,.trans (by kernel_rfl) h⟩;cases h
def gr:StSh:=⟨(.any::.ptr 0 0::.any::.int .i64::sqs 12 (.int .i64::.int .i64::.any::.any::.int .i64::.int .i64::sqs 14 [])),[some (30,1,.cells [.int .i64,.int .i64,.rof])]⟩
def sf:StSh:=⟨(.any::.any::.bool::sqs 33 []),[]⟩
def sj:StSh:=⟨(.any::.ptr 0 0::sqs 14 (.int .i64::.int .i64::sqs 18 [])),[some (30,1,.cells [.int .i64,.int .i64,.rof])]⟩
section
variable (N:Nat) (ame:uW) (anP:GU) (amO:Bn)
noncomputable abbrev JO:Cx:=⟨Pg,ah [(38,(I4 ame)),(62,(aaz anP)),(61,(OJ amO))],am,N⟩
def gg:List Atom->K->Bool:=λa_ κ=>match a_ with
 | [.int i,.int apW,.int apX,.int t20,.int t21,.int m_5,.int m_6,.fls m_7]=>al N (IR N ame anP amO i apW apX t20 m_5 m_6 m_7 (λr0=>κ.ret (sf.build [.bool r0])) (κ.ext 2 (sj.build [.int apW,.int apX,.int m_5,.int m_6,.fls m_7]))) t21
 | _=>false
def gq:StSh:=⟨(.any::.ptr 0 0::sqs 14 (.int .i64::.int .i64::sqs 18 [])),[some (30,1,.cells [.int .i64,.int .i64,.rof])]⟩
def se:StSh:=⟨(.any::.any::.bool::sqs 33 []),[]⟩
def si:StSh:=⟨(sqs 36 []),[]⟩
def gf:List Atom->K->Bool:=λa_ κ=>match a_ with
 | [.int t16,.int t17,.int m,.int m_3,.fls m_4]=>al N (IQ N ame anP amO t16 m m_3 m_4 (λr0=>κ.ret (se.build [.bool r0])) (κ.ext 0 (si.build []))) t17
 | _=>false
def Jo:Nat->Option Ann:=λb_=>cond (b_==2) (some ⟨⟨[1,3,16,17,20,21],[],[],[]⟩,[(2,⟨[1,16,17],[],[],[]⟩)],some ⟨[2],[],[],[]⟩,some (aF [(gr,gg N ame anP amO)])⟩) (cond (b_==0) (some ⟨⟨[1,16,17],[],[],[]⟩,[(0,⟨[],[],[],[]⟩)],some ⟨[2],[],[],[]⟩,some (aF [(gq,gf N ame anP amO)])⟩) (none))
theorem sc:aH (JO N ame anP amO) 0 (Jo N ame anP amO) (lp Pg 40 1) (gr,gg N ame anP amO):=by
 intro a κ h;simp only at h;unfold gg at h;split at h
 ·rename_i i apW apX t20 t21 m_5 m_6 m_7;exact .trans (aJ (λv_=>gr.build [.int i,.int apW,.int apX,.int t20,.int v_,.int m_5,.int m_6,.fls m_7]) (λv_ K_=>by kernel_rfl) N t21) h
 ·cases h
theorem sb:aH (JO N ame anP amO) 0 (Jo N ame anP amO) (lp Pg 40 0) (gq,gf N ame anP amO):=by
 intro a κ h;simp only at h;unfold gf at h;split at h
 ·rename_i t16 t17 m m_3 m_4;exact .trans (aJ (λv_=>gq.build [.int t16,.int v_,.int m,.int m_3,.fls m_4]) (λv_ K_=>by kernel_rfl) N t17) h
 ·cases h
theorem vD:aT (JO N ame anP amO) 0 (Jo N ame anP amO) (lp Pg 40 1):=
 aC [(gr,gg N ame anP amO)] (by kernel_rfl) ⟨sc _ _ _ _,trivial⟩
theorem vC:aT (JO N ame anP amO) 0 (Jo N ame anP amO) (lp Pg 40 0):=
 aC [(gq,gf N ame anP amO)] (by kernel_rfl) ⟨sb _ _ _ _,trivial⟩
theorem ac4 (atw:ab Pg 38 (I4 ame)) (awo:ab Pg 62 (aaz anP)) (au2:ab Pg 61 (OJ amO)):ab Pg 40 (aal (abm N ame anP amO)):=by
 refine av (cx:=(JO N ame anP amO)) (ai (aa atw (aa awo (aa au2 (ac _)))) (by kernel_rfl)) X1 (Zi (abm N ame anP amO)) (Jo N ame anP amO) 2 0 (by kernel_rfl) (jV (vC _ _ _ _) (vD _ _ _ _)) ?_;intro a k h;unfold Zi at h;split at h;exact⟨[],rfl,rfl,.trans (by kernel_rfl) h⟩;cases h
end
def yU (N:Nat):Nat->Option Ann:=λb_=>none
theorem ws (N:Nat):ab Pg 83 (cH (ny N)):=by
 refine av (cx:=⟨Pg,ah [],am,N⟩) (ai (ac _) (by kernel_rfl)) qj (nj (ny N)) (yU N) 0 0 (by kernel_rfl) (λi_ hi_=>by omega) ?_;intro a k h;unfold nj at h;split at h;exact⟨[],rfl,rfl,.trans (by kernel_rfl) h⟩;cases h
def T9 (N:Nat):Nat->Option Ann:=λb_=>none
theorem air (N:Nat) (x:Int) (c_:KV):qg ⟨Pg,ah [],am,N⟩ (T9 N) 120 (IG.args [.int x]) [] c_=TQ N x (λr0=>c_ (vwi r0) []):=by
 have key:∀ L_:Int,bc ⟨Pg,ah [],am,N⟩ 0 (T9 N) (((cds Pg 120).drop 0).map (Tp 285870213051353865 L_)) 0 (st0 Pg 120 (IG.args [.int x]) []) (ou Pg 120 0 c_)=(λ(k0:Ky8)=>cond (x==0) (k0 64) (inR (Int.fdiv (IntKind.wrap .u64 ((az .and .u64 x (IntKind.wrap .u64 (0 - x)))*L_)) (2 ^ 58)) 64&&(au .i64 (CY.getD (Int.toNat (Int.fdiv (IntKind.wrap .u64 ((az .and .u64 x (IntKind.wrap .u64 (0 - x)))*L_)) (2 ^ 58))) 0)&&k0 (CY.getD (Int.toNat (Int.fdiv (IntKind.wrap .u64 ((az .and .u64 x (IntKind.wrap .u64 (0 - x)))*L_)) (2 ^ 58))) 0)))) (λr0=>c_ (vwi r0) []):=λL_=>by kernel_rfl
 have hc:(cds Pg 120).drop 0=((cds Pg 120).drop 0).map (Tp 285870213051353865 285870213051353865):=by kernel_rfl
 refine(ln (by kernel_rfl)).trans ?_;rw[hc];exact key 285870213051353865
theorem acf (N:Nat):ab Pg 120 (ZV (TQ N)):=by
 refine av (cx:=⟨Pg,ah [],am,N⟩) (ai (ac _) (by kernel_rfl)) IG (YD (TQ N)) (T9 N) 0 0 (by kernel_rfl) (λi_ hi_=>by omega) ?_;intro a k h;unfold YD at h;split at h;exact⟨[],rfl,rfl,(air _ _ _).trans h⟩;cases h
section
variable (N:Nat) (ane:yq) (anc:yp) (amL:tm) (an3:DO)
noncomputable abbrev JP:Cx:=⟨Pg,ah [(80,(Rx ane)),(73,(Rw anc)),(88,(I7 amL)),(120,(ZV an3))],am,N⟩
def Jq (N:Nat) (ane:yq) (anc:yp) (amL:tm) (an3:DO):Nat->Option Ann:=λb_=>none
def MP (d_:List V) (u_:List (Option Blk)) (b f_0 f_1 f_2:Int) (p:Bool) (p_1 p_2:Int):St:=⟨(dqs d_ 0 4 (.ptr 1 0::dqs d_ 4 4 (.ptr 2 0::dqs d_ 8 52 []))),[(u_.getD 0 none),some ⟨50,1,.cells [.bool false,vwu 0,vwi 0]⟩,some ⟨50,1,.cells [.bool p,vwu p_1,vwi p_2]⟩]⟩
theorem ago (d_:List V) (u_:List (Option Blk)) (b f_0 f_1 f_2:Int) (p:Bool) (p_1 p_2:Int) (c_:KV):bc (JP N ane anc amL an3) 0 (Jq N ane anc amL an3) ((cds Pg 104).drop 5) 0 (MP d_ u_ b f_0 f_1 f_2 p p_1 p_2) (ou Pg 104 0 c_)=DI N ane anc amL an3 b f_0 f_1 f_2 p p_1 p_2 (λr0 r1 r2 r3=>c_ (.tup [.agg [.bool r0,vwu r1,vwi r2],vwi r3]) []):=by kernel_rfl
theorem vv (b f_0 f_1 f_2:Int) (c_:KV) (κn_:St->Bool):bc (JP N ane anc amL an3) 0 (Jq N ane anc amL an3) (sg Pg 104 0 5) 0 (st0 Pg 104 (Fy.args [.int b,.int f_0,.int f_1,.int f_2]) []) { (ou Pg 104 0 c_)with nrm:=κn_ } = (ane b f_0 f_1 f_2 (λcr nr aly=>au .i64 (nr - f_2)&&anc b f_0 f_1 f_2 (λalQ=>cond (alQ==1) (c_ (.tup [.agg [.bool false,vwu 0,vwi 0],vwi 4]) []) (cond (alQ==2) (c_ (.tup [.agg [.bool false,vwu 0,vwi 0],vwi 4]) []) (cond (alQ==3) (c_ (.tup [.agg [.bool cr,vwu 0,vwi 0],vwi 0]) []) (cond (alQ==4) (au .i64 ((nr - f_2)+1)&&κn_ (MP (vwu b::.agg [vwu f_0,vwi f_1,vwi f_2]::.any::.ptr 0 0::vwi 0::.bool cr::vwi nr::vwu aly::.any::.tup [.bool cr,vwi nr,vwu aly]::vwu b::.agg [vwu f_0,vwi f_1,vwi f_2]::.tup [.bool cr,vwi nr,vwu aly]::.bool cr::vwi nr::vwu aly::.bool cr::vwu aly::vwi nr::.ptr 0 2::vwi f_2::vwi (nr - f_2)::.agg [.bool cr,vwu aly,vwi (nr - f_2)]::vwu b::.agg [vwu f_0,vwi f_1,vwi f_2]::vwi alQ::vqs 6 (.bool false::.bool (alQ==1)::.bool (alQ==2)::.any::.bool false::.bool (alQ==3)::.any::.any::.bool true::.bool (alQ==4)::.ptr 2 2::vwi (nr - f_2)::vwi ((nr - f_2)+1)::.ptr 2 2::vqs 14 [])) [some ⟨113,1,.cells [vwu f_0,vwi f_1,vwi f_2]⟩] b f_0 f_1 f_2 cr aly ((nr - f_2)+1))) (amL f_0 f_1 f_2 (λamB=>κn_ (MP (vwu b::.agg [vwu f_0,vwi f_1,vwi f_2]::.any::.ptr 0 0::vwi 0::.bool cr::vwi nr::vwu aly::.any::.tup [.bool cr,vwi nr,vwu aly]::vwu b::.agg [vwu f_0,vwi f_1,vwi f_2]::.tup [.bool cr,vwi nr,vwu aly]::.bool cr::vwi nr::vwu aly::.bool cr::vwu aly::vwi nr::.ptr 0 2::vwi f_2::vwi (nr - f_2)::.agg [.bool cr,vwu aly,vwi (nr - f_2)]::vwu b::.agg [vwu f_0,vwi f_1,vwi f_2]::vwi alQ::.ptr 2 1::vwu aly::.agg [vwu f_0,vwi f_1,vwi f_2]::vwu amB::vwu (az .or .u64 aly amB)::.ptr 2 1::.bool false::.bool (alQ==1)::.bool (alQ==2)::.any::.bool false::.bool (alQ==3)::.any::.any::.bool false::.bool (alQ==4)::vqs 18 []) [some ⟨113,1,.cells [vwu f_0,vwi f_1,vwi f_2]⟩] b f_0 f_1 f_2 cr (az .or .u64 aly amB) (nr - f_2)))))))))):=by kernel_rfl
theorem vH (b f_0 f_1 f_2:Int) (c_:KV):bc (JP N ane anc amL an3) 0 (Jq N ane anc amL an3) ((cds Pg 104).drop 0) 0 (st0 Pg 104 (Fy.args [.int b,.int f_0,.int f_1,.int f_2]) []) (ou Pg 104 0 c_)=RK N ane anc amL an3 b f_0 f_1 f_2 (λr0 r1 r2 r3=>c_ (.tup [.agg [.bool r0,vwu r1,vwi r2],vwi r3]) []):=by rw[eD 0 5 5 rfl];refine(vv N ane anc amL an3 b f_0 f_1 f_2 c_ _).trans ?_;simp only[ago];kernel_rfl
theorem aiv (b f_0 f_1 f_2:Int) (c_:KV):qg (JP N ane anc amL an3) (Jq N ane anc amL an3) 104 (Fy.args [.int b,.int f_0,.int f_1,.int f_2]) [] c_=RK N ane anc amL an3 b f_0 f_1 f_2 (λr0 r1 r2 r3=>c_ (.tup [.agg [.bool r0,vwu r1,vwi r2],vwi r3]) []):=
 (ln (by kernel_rfl)).trans (vH N ane anc amL an3 b f_0 f_1 f_2 c_)
theorem ac6 (at8:ab Pg 80 (Rx ane)) (at7:ab Pg 73 (Rw anc)) (atA:ab Pg 88 (I7 amL)) (avB:ab Pg 120 (ZV an3)):ab Pg 104 (aam (RK N ane anc amL an3)):=by
 refine av (cx:=(JP N ane anc amL an3)) (ai (aa at8 (aa at7 (aa atA (aa avB (ac _))))) (by kernel_rfl)) Fy (Zk (RK N ane anc amL an3)) (Jq N ane anc amL an3) 0 0 (by kernel_rfl) (λi_ hi_=>by omega) ?_;intro a k h;unfold Zk at h;split at h;exact⟨[],rfl,rfl,(aiv _ _ _ _ _ _ _ _ _ _).trans h⟩;cases h
end
def afA (N:Nat) (alY:mo) (al4:kt) (aqZ:GJ):Nat->Option Ann:=λb_=>none
theorem VG (N:Nat) (alY:mo) (al4:kt) (aqZ:GJ) (arh:ab Pg 19 (zO alY)) (aqt:ab Pg 74 (sk al4)) (awb:ab Pg 104 (aam aqZ)):ab Pg 90 (OG (Pk N alY al4 aqZ)):=by
 refine av (cx:=⟨Pg,ah [(19,(zO alY)),(74,(sk al4)),(104,(aam aqZ))],am,N⟩) (ai (aa arh (aa aqt (aa awb (ac _)))) (by kernel_rfl)) QP (NT (Pk N alY al4 aqZ)) (afA N alY al4 aqZ) 0 0 (by kernel_rfl) (λi_ hi_=>by omega) ?_;intro a k h;unfold NT at h;split at h;exact⟨[],rfl,rfl,.trans (by kernel_rfl) h⟩;cases h
def kj:StSh:=⟨(.slw 0::.any::.any::.int .i64::sqs 17 []),[some (22,1,.ints .u64)]⟩
def yj:StSh:=⟨(.slw 0::.any::.any::.int .i64::sqs 17 []),[some (22,1,.ints .u64)]⟩
def ka (N:Nat):List Atom->K->Bool:=λa_ κ=>match a_ with
 | [.int n,.ints x]=>al N (zD N x (λr0=>κ.ext 0 (yj.build [.int r0,.ints x]))) n
 | _=>false
def afL (N:Nat):Nat->Option Ann:=λb_=>cond (b_==0) (some ⟨⟨[0,3],[],[],[]⟩,[(0,⟨[0,3],[],[],[]⟩)],some ⟨[2],[],[],[]⟩,some (aF [(kj,ka N)])⟩) (none)
theorem yb (N:Nat):aH ⟨Pg,ah [],am,N⟩ 1 (afL N) (lp Pg 121 0) (kj,ka N):=by
 intro a κ h;simp only at h;unfold ka at h;split at h
 ·rename_i n x;exact .trans (aJ (λv_=>kj.build [.int v_,.ints x]) (λv_ K_=>by kernel_rfl) N n) h
 ·cases h
theorem Db (N:Nat):aT ⟨Pg,ah [],am,N⟩ 1 (afL N) (lp Pg 121 0):=
 aC [(kj,ka N)] (by kernel_rfl) ⟨yb _,trivial⟩
theorem aga (N:Nat):ab Pg 121 (FQ2 (GQ2 N)):=by
 refine ao (md:=false) (cx:=⟨Pg,ah [],am,N⟩) (ai (ac _) (by kernel_rfl)) aeX (agV (GQ2 N)) (afL N) 1 1 (by kernel_rfl) (bK (Db _)) ?_;intro a k h;unfold agV at h;split at h;exact⟨[_],rfl,rfl,.trans (by kernel_rfl) h⟩;cases h
def ahu (N:Nat) (SQ2:kH):Nat->Option Ann:=λb_=>none
theorem ack (N:Nat) (SQ2:kH) (hQ2:ab Pg 121 (FQ2 SQ2)):ab Pg 106 (FU (aaS N SQ2)):=by
 refine ao (md:=false) (cx:=⟨Pg,ah [(121,(FQ2 SQ2))],am,N⟩) (ai (aa hQ2 (ac _)) (by kernel_rfl)) Xn (YI (aaS N SQ2)) (ahu N SQ2) 0 0 (by kernel_rfl) (λi_ hi_=>by omega) ?_;intro a k h;unfold YI at h;split at h;exact⟨[],rfl,rfl,.trans (by kernel_rfl) h⟩;cases h
def ahh (N:Nat):Nat->Option Ann:=λb_=>none
theorem ab5 (N:Nat):ab Pg 105 (C0 (aaG N)):=by
 refine ao (md:=false) (cx:=⟨Pg,ah [],am,N⟩) (ai (ac _) (by kernel_rfl)) Xb (Yu (aaG N)) (ahh N) 0 1 (by kernel_rfl) (λi_ hi_=>by omega) ?_;intro a k h;unfold Yu at h;split at h;exact⟨[_],rfl,rfl,.trans (by kernel_rfl) h⟩;cases h
def aht (N:Nat) (alI:oF) (amJ:oC):Nat->Option Ann:=λb_=>none
theorem acj (N:Nat) (alI:oF) (amJ:oC) (asA:ab Pg 106 (FU alI)) (ar0:ab Pg 105 (C0 amJ)):ab Pg 91 (ZX (aaR N alI amJ)):=by
 refine ao (md:=false) (cx:=⟨Pg,ah [(106,(FU alI)),(105,(C0 amJ))],am,N⟩) (ai (aa asA (aa ar0 (ac _))) (by kernel_rfl)) Xm (YH (aaR N alI amJ)) (aht N alI amJ) 0 1 (by kernel_rfl) (λi_ hi_=>by omega) ?_;intro a k h;unfold YH at h;split at h;exact⟨[_],rfl,rfl,.trans (by kernel_rfl) h⟩;cases h
def ahk (N:Nat):Nat->Option Ann:=λb_=>none
theorem ab8 (N:Nat):ab Pg 107 (xV (aaI N)):=by
 refine ao (md:=false) (cx:=⟨Pg,ah [],am,N⟩) (ai (ac _) (by kernel_rfl)) Xd (Yx (aaI N)) (ahk N) 0 0 (by kernel_rfl) (λi_ hi_=>by omega) ?_;intro a k h;unfold Yx at h;split at h;exact⟨[],rfl,rfl,.trans (by kernel_rfl) h⟩;cases h
def ahC (N:Nat):Nat->Option Ann:=λb_=>none
theorem acw (N:Nat):ab Pg 105 (I6 (ae8 N)):=by
 refine ao (md:=false) (cx:=⟨Pg,ah [],am,N⟩) (ai (ac _) (by kernel_rfl)) Xx (YT (ae8 N)) (ahC N) 0 1 (by kernel_rfl) (λi_ hi_=>by omega) ?_;intro a k h;unfold YT at h;split at h;exact⟨[_],rfl,rfl,.trans (by kernel_rfl) h⟩;cases h
def ahI (N:Nat) (alH:jK) (anO:uY):Nat->Option Ann:=λb_=>none
theorem acG (N:Nat) (alH:jK) (anO:uY) (aqH:ab Pg 107 (xV alH)) (aty:ab Pg 105 (I6 anO)):ab Pg 92 (Z6 (aa8 N alH anO)):=by
 refine ao (md:=false) (cx:=⟨Pg,ah [(107,(xV alH)),(105,(I6 anO))],am,N⟩) (ai (aa aqH (aa aty (ac _))) (by kernel_rfl)) XH (Y1 (aa8 N alH anO)) (ahI N alH anO) 0 1 (by kernel_rfl) (λi_ hi_=>by omega) ?_;intro a k h;unfold Y1 at h;split at h;exact⟨[_],rfl,rfl,.trans (by kernel_rfl) h⟩;cases h
def ahQ (N:Nat) (alI:oF) (amJ:oC):Nat->Option Ann:=λb_=>none
theorem acU (N:Nat) (alI:oF) (amJ:oC) (asA:ab Pg 106 (FU alI)) (ar0:ab Pg 105 (C0 amJ)):ab Pg 109 (aad (abf N alI amJ)):=by
 refine ao (md:=false) (cx:=⟨Pg,ah [(106,(FU alI)),(105,(C0 amJ))],am,N⟩) (ai (aa asA (aa ar0 (ac _))) (by kernel_rfl)) XS (Za (abf N alI amJ)) (ahQ N alI amJ) 0 1 (by kernel_rfl) (λi_ hi_=>by omega) ?_;intro a k h;unfold Za at h;split at h;exact⟨[_],rfl,rfl,.trans (by kernel_rfl) h⟩;cases h
def ah5 (N:Nat) (aqT:GC):Nat->Option Ann:=λb_=>none
theorem adh (N:Nat) (aqT:GC) (av0:ab Pg 109 (aad aqT)):ab Pg 94 (RC (abv N aqT)):=by
 refine ao (md:=false) (cx:=⟨Pg,ah [(109,(aad aqT))],am,N⟩) (ai (aa av0 (ac _)) (by kernel_rfl)) Ya (Zv (abv N aqT)) (ah5 N aqT) 0 0 (by kernel_rfl) (λi_ hi_=>by omega) ?_;intro a k h;unfold Zv at h;split at h;exact⟨[],rfl,rfl,.trans (by kernel_rfl) h⟩;cases h
def ma:StSh:=⟨(sqs 5 (.int .i64::.int .u64::.slw 0::sqs 16 (.roi .u64::.int .i64::.int .i64::sqs 28 []))),[some (22,1,.ints .u64)]⟩
def AZ:StSh:=⟨(sqs 7 (.slw 0::sqs 47 [])),[some (22,1,.ints .u64)]⟩
section
variable (N:Nat) (SQ2:kH)
noncomputable abbrev UF:Cx:=⟨Pg,ah [(121,(FQ2 SQ2))],am,N⟩
def l4:List Atom->K->Bool:=λa_ κ=>match a_ with
 | [.int words,.int rest,.ints t24,.int t25,.int t26,.ints z]=>al N (zF N SQ2 words rest t24 t25 (λr0=>κ.ext 0 (AZ.build [.ints r0]))) (t26,z)
 | _=>false
def LU:Nat->Option Ann:=λb_=>cond (b_==0) (some ⟨⟨[5,6,7,24,25,26],[],[],[]⟩,[(0,⟨[7],[],[],[]⟩)],some ⟨[4],[],[],[]⟩,some (aF [(ma,l4 N SQ2)])⟩) (none)
theorem Ap:aH (UF N SQ2) 0 (LU N SQ2) (lp Pg 108 0) (ma,l4 N SQ2):=by
 intro a κ h;simp only at h;unfold l4 at h;split at h
 ·rename_i words rest t24 t25 t26 z;exact .trans (aJ (λ(v_:Int × LI)=>ma.build [.int words,.int rest,.ints t24,.int t25,.int v_.1,.ints v_.2]) (λv_ K_=>by obtain⟨t26,z⟩:=v_; kernel_rfl) N (t26,z)) h
 ·cases h
theorem F_:aT (UF N SQ2) 0 (LU N SQ2) (lp Pg 108 0):=
 aC [(ma,l4 N SQ2)] (by kernel_rfl) ⟨Ap _ _,trivial⟩
theorem VP (hQ2:ab Pg 121 (FQ2 SQ2)):ab Pg 108 (OQ (Pp N SQ2)):=by
 refine ao (md:=false) (cx:=(UF N SQ2)) (ai (aa hQ2 (ac _)) (by kernel_rfl)) QX (N4 (Pp N SQ2)) (LU N SQ2) 1 0 (by kernel_rfl) (bK (F_ _ _)) ?_;intro a k h;unfold N4 at h;split at h;exact⟨[],rfl,rfl,.trans (by kernel_rfl) h⟩;cases h
end
def ahD (N:Nat) (apF:Bt) (amJ:oC):Nat->Option Ann:=λb_=>none
theorem acA (N:Nat) (apF:Bt) (amJ:oC) (au9:ab Pg 108 (OQ apF)) (ar0:ab Pg 105 (C0 amJ)):ab Pg 93 (Z3 (aa3 N apF amJ)):=by
 refine ao (md:=false) (cx:=⟨Pg,ah [(108,(OQ apF)),(105,(C0 amJ))],am,N⟩) (ai (aa au9 (aa ar0 (ac _))) (by kernel_rfl)) XC (YW (aa3 N apF amJ)) (ahD N apF amJ) 0 2 (by kernel_rfl) (λi_ hi_=>by omega) ?_;intro a k h;unfold YW at h;split at h;exact⟨[_,_],rfl,rfl,.trans (by kernel_rfl) h⟩;cases h
def jA:StSh:=⟨(.roi .u64::.roi .u64::.any::.any::.any::.int .i64::sqs 35 []),[]⟩
def w_:StSh:=⟨(sqs 4 (.int .i64::sqs 36 [])),[]⟩
def xk:StSh:=⟨(sqs 41 []),[]⟩
def jt (N:Nat):List Atom->K->Bool:=λa_ κ=>match a_ with
 | [.ints x_1,.ints y_1,.int i]=>al N (zA N x_1 y_1 (λr0=>κ.ret (w_.build [.int r0])) (κ.ext 0 (xk.build []))) i
 | _=>false
def afM (N:Nat):Nat->Option Ann:=λb_=>cond (b_==0) (some ⟨⟨[0,1,5],[],[],[]⟩,[(0,⟨[],[],[],[]⟩)],some ⟨[4],[],[],[]⟩,some (aF [(jA,jt N)])⟩) (none)
theorem wy (N:Nat):aH ⟨Pg,ah [],am,N⟩ 0 (afM N) (lp Pg 123 0) (jA,jt N):=by
 intro a κ h;simp only at h;unfold jt at h;split at h
 ·rename_i x_1 y_1 i;exact .trans (aJ (λv_=>jA.build [.ints x_1,.ints y_1,.int v_]) (λv_ K_=>by kernel_rfl) N i) h
 ·cases h
theorem BT (N:Nat):aT ⟨Pg,ah [],am,N⟩ 0 (afM N) (lp Pg 123 0):=
 aC [(jA,jt N)] (by kernel_rfl) ⟨wy _,trivial⟩
theorem agd (N:Nat):ab Pg 123 (FQ6 (GQ6 N)):=by
 refine ao (md:=false) (cx:=⟨Pg,ah [],am,N⟩) (ai (ac _) (by kernel_rfl)) aeZ (agX (GQ6 N)) (afM N) 1 0 (by kernel_rfl) (bK (BT _)) ?_;intro a k h;unfold agX at h;split at h;exact⟨[],rfl,rfl,.trans (by kernel_rfl) h⟩;cases h
def Eg (N:Nat):Nat->Option Ann:=λb_=>none
def MR (d_:List V) (u_:List (Option Blk)) (x x_2 n_1:Int):St:=⟨(vwu x_2::(dq d_ 0)::vwi n_1::dqs d_ 1 22 []),[]⟩
def Iq (d_:List V) (u_:List (Option Blk)) (x x_1 n:Int):St:=⟨(vwu x_1::(dq d_ 0)::vwi n::dqs d_ 1 22 []),[]⟩
theorem ags (N:Nat) (d_:List V) (u_:List (Option Blk)) (x x_2 n_1:Int) (c_:KV):bc ⟨Pg,ah [],am,N⟩ 0 (Eg N) ((cds Pg 145).drop 5) 0 (MR d_ u_ x x_2 n_1) (ou Pg 145 0 c_)=Jd N x x_2 n_1 (λr0=>c_ (vwi r0) []):=by kernel_rfl
theorem agi (N:Nat) (d_:List V) (u_:List (Option Blk)) (x x_1 n:Int) (c_:KV) (κn_:St->Bool):bc ⟨Pg,ah [],am,N⟩ 0 (Eg N) (sg Pg 145 3 2) 0 (Iq d_ u_ x x_1 n) { (ou Pg 145 0 c_)with nrm:=κn_ } = (cond (decide (x_1>=65536)) (au .i64 (n+16)&&κn_ (MR (dqs d_ 0 5 (vwu x_1::.bool true::vwu x_1::vwu (Int.fdiv x_1 (2 ^ 16))::vwi n::vwi (n+16)::dqs d_ 11 12 [])) [] x (Int.fdiv x_1 (2 ^ 16)) (n+16))) (κn_ (MR (dqs d_ 0 5 (vwu x_1::.bool false::dqs d_ 7 16 [])) [] x x_1 n))):=by kernel_rfl
theorem agq (N:Nat) (d_:List V) (u_:List (Option Blk)) (x x_1 n:Int) (c_:KV):bc ⟨Pg,ah [],am,N⟩ 0 (Eg N) ((cds Pg 145).drop 3) 0 (Iq d_ u_ x x_1 n) (ou Pg 145 0 c_)=Jc N x x_1 n (λr0=>c_ (vwi r0) []):=by rw[eD 3 2 5 rfl];refine(agi N d_ u_ x x_1 n c_ _).trans ?_;simp only[ags];kernel_rfl
theorem Ao (N:Nat) (x:Int) (c_:KV) (κn_:St->Bool):bc ⟨Pg,ah [],am,N⟩ 0 (Eg N) (sg Pg 145 0 3) 0 (st0 Pg 145 (Fz.args [.int x]) []) { (ou Pg 145 0 c_)with nrm:=κn_ } = (cond (decide (x>=4294967296)) (κn_ (Iq (.any::vwu x::.bool true::vwu x::vwu (Int.fdiv x (2 ^ 32))::vqs 18 []) [] x (Int.fdiv x (2 ^ 32)) 32)) (κn_ (Iq (.any::vwu x::.bool false::vqs 20 []) [] x x 0))):=by kernel_rfl
theorem Az (N:Nat) (x:Int) (c_:KV):bc ⟨Pg,ah [],am,N⟩ 0 (Eg N) ((cds Pg 145).drop 0) 0 (st0 Pg 145 (Fz.args [.int x]) []) (ou Pg 145 0 c_)=RL N x (λr0=>c_ (vwi r0) []):=by rw[eD 0 3 3 rfl];refine(Ao N x c_ _).trans ?_;simp only[agq];kernel_rfl
theorem aiw (N:Nat) (x:Int) (c_:KV):qg ⟨Pg,ah [],am,N⟩ (Eg N) 145 (Fz.args [.int x]) [] c_=RL N x (λr0=>c_ (vwi r0) []):=
 (ln (by kernel_rfl)).trans (Az N x c_)
theorem ac9 (N:Nat):ab Pg 145 (RB (RL N)):=by
 refine av (cx:=⟨Pg,ah [],am,N⟩) (ai (ac _) (by kernel_rfl)) Fz (Zn (RL N)) (Eg N) 0 0 (by kernel_rfl) (λi_ hi_=>by omega) ?_;intro a k h;unfold Zn at h;split at h;exact⟨[],rfl,rfl,(aiw _ _ _).trans h⟩;cases h
def ahM (N:Nat) (aoQ:zY):Nat->Option Ann:=λb_=>none
theorem acN (N:Nat) (aoQ:zY) (aue:ab Pg 145 (RB aoQ)):ab Pg 132 (Z9 (aba N aoQ)):=by
 refine ao (md:=false) (cx:=⟨Pg,ah [(145,(RB aoQ))],am,N⟩) (ai (aa aue (ac _)) (by kernel_rfl)) XO (Y5 (aba N aoQ)) (ahM N aoQ) 0 0 (by kernel_rfl) (λi_ hi_=>by omega) ?_;intro a k h;unfold Y5 at h;split at h;exact⟨[],rfl,rfl,.trans (by kernel_rfl) h⟩;cases h
def ahL (N:Nat):Nat->Option Ann:=λb_=>none
theorem acL (N:Nat):ab Pg 146 (FY (aa_ N)):=by
 refine ao (md:=false) (cx:=⟨Pg,ah [],am,N⟩) (ai (ac _) (by kernel_rfl)) XM (Y3 (aa_ N)) (ahL N) 0 0 (by kernel_rfl) (λi_ hi_=>by omega) ?_;intro a k h;unfold Y3 at h;split at h;exact⟨[],rfl,rfl,.trans (by kernel_rfl) h⟩;cases h
def aig (N:Nat) (amg:q7):Nat->Option Ann:=λb_=>none
theorem adu (N:Nat) (amg:q7) (asD:ab Pg 146 (FY amg)):ab Pg 134 (aaC (abE N amg)):=by
 refine ao (md:=false) (cx:=⟨Pg,ah [(146,(FY amg))],am,N⟩) (ai (aa asD (ac _)) (by kernel_rfl)) Ym (ZH (abE N amg)) (aig N amg) 0 0 (by kernel_rfl) (λi_ hi_=>by omega) ?_;intro a k h;unfold ZH at h;split at h;exact⟨[],rfl,rfl,.trans (by kernel_rfl) h⟩;cases h
def kZ:StSh:=⟨(.int .u64::.int .u64::.any::.any::.ptr 0 0::.ptr 1 0::.int .u64::.int .u64::sqs 49 []),[some (173,1,.cells [.int .u64,.int .u64,.int .u64,.int .u64,.bool]),some (173,1,.cells [.int .u64,.int .u64,.int .u64,.int .u64,.bool])]⟩
def zH:StSh:=⟨(sqs 4 (.ptr 0 0::.ptr 1 0::sqs 51 [])),[some (173,1,.cells [.int .u64,.int .u64,.int .u64,.int .u64,.bool]),some (173,1,.cells [.int .u64,.int .u64,.int .u64,.int .u64,.bool])]⟩
def kR (N:Nat):List Atom->K->Bool:=λa_ κ=>match a_ with
 | [.int x_1,.int y_1,.int u,.int v,.int t4,.int arc,.int arn,.int aro,.bool atI,.int w,.int w_1,.int w_2,.int w_3,.bool w_4]=>al N (rN N t4 arc arn aro atI (λr5 r6 r7 r8 r9=>κ.ext 0 (zH.build [.int t4,.int arc,.int arn,.int aro,.bool atI,.int r5,.int r6,.int r7,.int r8,.bool r9]))) (x_1,y_1,u,v,w,w_1,w_2,w_3,w_4)
 | _=>false
def Uj (N:Nat):Nat->Option Ann:=λb_=>cond (b_==0) (some ⟨⟨[0,1,4,5,6,7],[],[],[]⟩,[(0,⟨[4,5],[],[],[]⟩)],some ⟨[4],[],[],[]⟩,some (aF [(kZ,kR N)])⟩) (none)
theorem zh (N:Nat):aH ⟨Pg,ah [],am,N⟩ 0 (Uj N) (lp Pg 133 0) (kZ,kR N):=by
 intro a κ h;simp only at h;unfold kR at h;split at h
 ·rename_i x_1 y_1 u v t4 arc arn aro atI w w_1 w_2 w_3 w_4;exact .trans (aJ (λ(v_:Int × Int × Int × Int × Int × Int × Int × Int × Bool)=>kZ.build [.int v_.1,.int v_.2.1,.int v_.2.2.1,.int v_.2.2.2.1,.int t4,.int arc,.int arn,.int aro,.bool atI,.int v_.2.2.2.2.1,.int v_.2.2.2.2.2.1,.int v_.2.2.2.2.2.2.1,.int v_.2.2.2.2.2.2.2.1,.bool v_.2.2.2.2.2.2.2.2]) (λv_ K_=>by obtain⟨x_1,y_1,u,v,w,w_1,w_2,w_3,w_4⟩:=v_; kernel_rfl) N (x_1,y_1,u,v,w,w_1,w_2,w_3,w_4)) h
 ·cases h
theorem EP (N:Nat):aT ⟨Pg,ah [],am,N⟩ 0 (Uj N) (lp Pg 133 0):=
 aC [(kZ,kR N)] (by kernel_rfl) ⟨zh _,trivial⟩
theorem acW (N:Nat):ab Pg 133 (aae (aff N)):=by
 refine ao (md:=false) (cx:=⟨Pg,ah [],am,N⟩) (ai (ac _) (by kernel_rfl)) XU (Zb (aff N)) (Uj N) 1 0 (by kernel_rfl) (bK (EP _)) ?_;intro a k h;unfold Zb at h;split at h;exact⟨[],rfl,rfl,.trans (by kernel_rfl) h⟩;cases h
def ahx (N:Nat):Nat->Option Ann:=λb_=>none
theorem acn (N:Nat):ab Pg 141 (I5 (aaU N)):=by
 refine av (cx:=⟨Pg,ah [],am,N⟩) (ai (ac _) (by kernel_rfl)) Xq (YL (aaU N)) (ahx N) 0 0 (by kernel_rfl) (λi_ hi_=>by omega) ?_;intro a k h;unfold YL at h;split at h;exact⟨[],rfl,rfl,.trans (by kernel_rfl) h⟩;cases h
def ahl (N:Nat) (amH:uX) (SQ5:qZ):Nat->Option Ann:=λb_=>none
theorem ab9 (N:Nat) (amH:uX) (SQ5:qZ) (atx:ab Pg 141 (I5 amH)) (hQ5:ab Pg 142 (FQ5 SQ5)):ab Pg 125 (FR (aaJ N amH SQ5)):=by
 refine ao (md:=false) (cx:=⟨Pg,ah [(141,(I5 amH)),(142,(FQ5 SQ5))],am,N⟩) (ai (aa atx (aa hQ5 (ac _))) (by kernel_rfl)) Xe (Yy (aaJ N amH SQ5)) (ahl N amH SQ5) 0 0 (by kernel_rfl) (λi_ hi_=>by omega) ?_;intro a k h;unfold Yy at h;split at h;exact⟨[],rfl,rfl,.trans (by kernel_rfl) h⟩;cases h
def mc:StSh:=⟨(.roi .u64::.int .u64::.int .u64::sqs 4 (.slw 0::sqs 6 (.roi .u64::.int .i64::.int .i64::sqs 22 []))),[some (22,1,.ints .u64)]⟩
def A2:StSh:=⟨(.roi .u64::.any::.int .u64::sqs 4 (.slw 0::sqs 31 [])),[some (22,1,.ints .u64)]⟩
section
variable (N:Nat) (alJ:oD) (SQ2:kH)
noncomputable abbrev UG:Cx:=⟨Pg,ah [(125,(FR alJ)),(121,(FQ2 SQ2))],am,N⟩
def l6:List Atom->K->Bool:=λa_ κ=>match a_ with
 | [.ints x_1,.int d_1,.int aqc,.ints t14,.int t15,.int t16,.ints z]=>al N (pj N alJ SQ2 x_1 d_1 t14 t15 (λr1 r2=>κ.ext 0 (A2.build [.ints x_1,.int r1,.ints r2]))) (aqc,t16,z)
 | _=>false
def LS:Nat->Option Ann:=λb_=>cond (b_==0) (some ⟨⟨[0,1,2,7,14,15,16],[],[],[]⟩,[(0,⟨[0,2,7],[],[],[]⟩)],some ⟨[6],[],[],[]⟩,some (aF [(mc,l6 N alJ SQ2)])⟩) (none)
theorem Ar:aH (UG N alJ SQ2) 0 (LS N alJ SQ2) (lp Pg 148 0) (mc,l6 N alJ SQ2):=by
 intro a κ h;simp only at h;unfold l6 at h;split at h
 ·rename_i x_1 d_1 aqc t14 t15 t16 z;exact .trans (aJ (λ(v_:Int × Int × LI)=>mc.build [.ints x_1,.int d_1,.int v_.1,.ints t14,.int t15,.int v_.2.1,.ints v_.2.2]) (λv_ K_=>by obtain⟨aqc,t16,z⟩:=v_; kernel_rfl) N (aqc,t16,z)) h
 ·cases h
theorem Gb:aT (UG N alJ SQ2) 0 (LS N alJ SQ2) (lp Pg 148 0):=
 aC [(mc,l6 N alJ SQ2)] (by kernel_rfl) ⟨Ar _ _ _,trivial⟩
theorem VM (asy:ab Pg 125 (FR alJ)) (hQ2:ab Pg 121 (FQ2 SQ2)):ab Pg 148 (OO (Po N alJ SQ2)):=by
 refine ao (md:=false) (cx:=(UG N alJ SQ2)) (ai (aa asy (aa hQ2 (ac _))) (by kernel_rfl)) QU (N1 (Po N alJ SQ2)) (LS N alJ SQ2) 1 0 (by kernel_rfl) (bK (Gb _ _ _)) ?_;intro a k h;unfold N1 at h;split at h;exact⟨[],rfl,rfl,.trans (by kernel_rfl) h⟩;cases h
def mb:StSh:=⟨(.roi .u64::.roi .u64::.any::.any::.any::.slw 0::.int .u64::sqs 5 (.int .i64::.int .i64::sqs 20 [])),[some (22,1,.ints .u64)]⟩
def A0:StSh:=⟨(sqs 5 (.slw 0::sqs 28 [])),[some (22,1,.ints .u64)]⟩
end
section
variable (N:Nat) (amg:q7) (SQ9:yQ) (SQ2:kH)
noncomputable abbrev UH:Cx:=⟨Pg,ah [(146,(FY amg)),(151,(FQ9 SQ9)),(121,(FQ2 SQ2))],am,N⟩
def l5:List Atom->K->Bool:=λa_ κ=>match a_ with
 | [.ints x_1,.ints y_1,.int borrow,.int t12,.int t13,.ints z]=>al N (ph N amg SQ9 SQ2 x_1 y_1 t12 (λr0=>κ.ext 0 (A0.build [.ints r0]))) (borrow,t13,z)
 | _=>false
def LP:Nat->Option Ann:=λb_=>cond (b_==0) (some ⟨⟨[0,1,5,6,12,13],[],[],[]⟩,[(0,⟨[5],[],[],[]⟩)],some ⟨[4],[],[],[]⟩,some (aF [(mb,l5 N amg SQ9 SQ2)])⟩) (none)
theorem Aq:aH (UH N amg SQ9 SQ2) 0 (LP N amg SQ9 SQ2) (lp Pg 147 0) (mb,l5 N amg SQ9 SQ2):=by
 intro a κ h;simp only at h;unfold l5 at h;split at h
 ·rename_i x_1 y_1 borrow t12 t13 z;exact .trans (aJ (λ(v_:Int × Int × LI)=>mb.build [.ints x_1,.ints y_1,.int v_.1,.int t12,.int v_.2.1,.ints v_.2.2]) (λv_ K_=>by obtain⟨borrow,t13,z⟩:=v_; kernel_rfl) N (borrow,t13,z)) h
 ·cases h
theorem Ga:aT (UH N amg SQ9 SQ2) 0 (LP N amg SQ9 SQ2) (lp Pg 147 0):=
 aC [(mb,l5 N amg SQ9 SQ2)] (by kernel_rfl) ⟨Aq _ _ _ _,trivial⟩
theorem VE (asD:ab Pg 146 (FY amg)) (hQ9:ab Pg 151 (FQ9 SQ9)) (hQ2:ab Pg 121 (FQ2 SQ2)):ab Pg 147 (Gr (Pi N amg SQ9 SQ2)):=by
 refine ao (md:=false) (cx:=(UH N amg SQ9 SQ2)) (ai (aa asD (aa hQ9 (aa hQ2 (ac _)))) (by kernel_rfl)) QN (NR (Pi N amg SQ9 SQ2)) (LP N amg SQ9 SQ2) 1 0 (by kernel_rfl) (bK (Ga _ _ _ _)) ?_;intro a k h;unfold NR at h;split at h;exact⟨[],rfl,rfl,.trans (by kernel_rfl) h⟩;cases h
end
def vp (N:Nat) (an1:Bs) (anl:uc):Nat->Option Ann:=λb_=>none
theorem tD (N:Nat) (an1:Bs) (anl:uc) (au7:ab Pg 148 (OO an1)) (atr:ab Pg 147 (Gr anl)):ab Pg 135 (iS (gu N an1 anl)):=by
 refine ao (md:=false) (cx:=⟨Pg,ah [(148,(OO an1)),(147,(Gr anl))],am,N⟩) (ai (aa au7 (aa atr (ac _))) (by kernel_rfl)) ob (kK (gu N an1 anl)) (vp N an1 anl) 0 0 (by kernel_rfl) (λi_ hi_=>by omega) ?_;intro a k h;unfold kK at h;split at h;exact⟨[],rfl,rfl,.trans (by kernel_rfl) h⟩;cases h
def aj0 (N:Nat) (aoQ:zY):Nat->Option Ann:=λb_=>none
theorem agb (N:Nat) (aoQ:zY) (aue:ab Pg 145 (RB aoQ)):ab Pg 138 (FQ3 (GQ3 N aoQ)):=by
 refine av (cx:=⟨Pg,ah [(145,(RB aoQ))],am,N⟩) (ai (aa aue (ac _)) (by kernel_rfl)) aeY (agW (GQ3 N aoQ)) (aj0 N aoQ) 0 0 (by kernel_rfl) (λi_ hi_=>by omega) ?_;intro a k h;unfold agW at h;split at h;exact⟨[],rfl,rfl,.trans (by kernel_rfl) h⟩;cases h
def gY:StSh:=⟨(.any::.any::.int .u64::sqs 5 (.int .u64::.int .u64::.int .u64::.int .u64::.any::.int .u64::.int .u64::.int .u64::.int .u64::sqs 118 [])),[]⟩
def tg:StSh:=⟨(.any::.any::.int .u64::sqs 5 (.int .u64::.int .u64::.int .u64::.int .u64::.any::.int .u64::.int .u64::.int .u64::sqs 119 [])),[]⟩
section
variable (N:Nat) (SQ3:zU)
noncomputable abbrev JQ:Cx:=⟨Pg,ah [(138,(FQ3 SQ3))],am,N⟩
def gT:List Atom->K->Bool:=λa_ κ=>match a_ with
 | [.int y_1,.int s,.int yn1,.int yn0,.int un32,.int un1,.int un0,.int q1,.int rhat]=>al N (Cj N SQ3 y_1 s yn1 yn0 un32 un1 un0 (λr7=>κ.ext 0 (tg.build [.int y_1,.int s,.int yn1,.int yn0,.int un32,.int un1,.int un0,.int r7]))) (q1,rhat)
 | _=>false
def gZ:StSh:=⟨(.any::.any::.int .u64::sqs 5 (.int .u64::.int .u64::.int .u64::.any::.any::.any::.int .u64::.int .u64::.int .u64::.int .u64::.int .u64::sqs 116 [])),[]⟩
def th:StSh:=⟨(.any::.any::.int .u64::sqs 5 (.int .u64::sqs 5 (.int .u64::.int .u64::.any::.int .u64::.int .u64::sqs 116 []))),[]⟩
def gU:List Atom->K->Bool:=λa_ κ=>match a_ with
 | [.int y_2,.int s_1,.int aqR,.int ass,.int arX,.int atD,.int aoX,.int un21,.int q0]=>al N (Ck N SQ3 y_2 s_1 aqR ass arX atD un21 (λr5=>κ.ext 2 (th.build [.int y_2,.int s_1,.int arX,.int atD,.int un21,.int r5]))) (aoX,q0)
 | _=>false
def Jl:Nat->Option Ann:=λb_=>cond (b_==0) (some ⟨⟨[2,8,9,10,11,13,14,15,16],[],[],[]⟩,[(0,⟨[2,8,9,10,11,13,14,15],[],[],[]⟩)],some ⟨[6,7],[],[],[]⟩,some (aF [(gY,gT N SQ3)])⟩) (cond (b_==2) (some ⟨⟨[2,8,9,10,14,15,16,17,18],[],[],[]⟩,[(2,⟨[2,8,14,15,17,18],[],[],[]⟩)],some ⟨[6,7],[],[],[]⟩,some (aF [(gZ,gU N SQ3)])⟩) (none))
theorem sQ:aH (JQ N SQ3) 0 (Jl N SQ3) (lp Pg 149 0) (gY,gT N SQ3):=by
 intro a κ h;simp only at h;unfold gT at h;split at h
 ·rename_i y_1 s yn1 yn0 un32 un1 un0 q1 rhat;exact .trans (aJ (λ(v_:Int × Int)=>gY.build [.int y_1,.int s,.int yn1,.int yn0,.int un32,.int un1,.int un0,.int v_.1,.int v_.2]) (λv_ K_=>by obtain⟨q1,rhat⟩:=v_; kernel_rfl) N (q1,rhat)) h
 ·cases h
theorem sR:aH (JQ N SQ3) 0 (Jl N SQ3) (lp Pg 149 1) (gZ,gU N SQ3):=by
 intro a κ h;simp only at h;unfold gU at h;split at h
 ·rename_i y_2 s_1 aqR ass arX atD aoX un21 q0;exact .trans (aJ (λ(v_:Int × Int)=>gZ.build [.int y_2,.int s_1,.int aqR,.int ass,.int arX,.int atD,.int v_.1,.int un21,.int v_.2]) (λv_ K_=>by obtain⟨aoX,q0⟩:=v_; kernel_rfl) N (aoX,q0)) h
 ·cases h
theorem wF:aT (JQ N SQ3) 0 (Jl N SQ3) (lp Pg 149 0):=
 aC [(gY,gT N SQ3)] (by kernel_rfl) ⟨sQ _ _,trivial⟩
theorem wG:aT (JQ N SQ3) 0 (Jl N SQ3) (lp Pg 149 1):=
 aC [(gZ,gU N SQ3)] (by kernel_rfl) ⟨sR _ _,trivial⟩
theorem ab_ (hQ3:ab Pg 138 (FQ3 SQ3)):ab Pg 149 (I3 (aaK N SQ3)):=by
 refine av (cx:=(JQ N SQ3)) (ai (aa hQ3 (ac _)) (by kernel_rfl)) Xf (Yz (aaK N SQ3)) (Jl N SQ3) 2 0 (by kernel_rfl) (jV (wF _ _) (wG _ _)) ?_;intro a k h;unfold Yz at h;split at h;exact⟨[],rfl,rfl,.trans (by kernel_rfl) h⟩;cases h
def kY:StSh:=⟨(.roi .u64::.int .u64::sqs 4 (.slw 0::.int .u64::.int .i64::sqs 26 [])),[some (22,1,.ints .u64)]⟩
def zG:StSh:=⟨(sqs 6 (.slw 0::.int .u64::sqs 27 [])),[some (22,1,.ints .u64)]⟩
end
section
variable (N:Nat) (ami:uV) (SQ2:kH)
noncomputable abbrev UI:Cx:=⟨Pg,ah [(149,(I3 ami)),(121,(FQ2 SQ2))],am,N⟩
def kQ:List Atom->K->Bool:=λa_ κ=>match a_ with
 | [.ints x_1,.int d_1,.int rest,.int i,.ints q]=>al N (og N ami SQ2 x_1 d_1 (λr0 r1=>κ.ext 0 (zG.build [.int r0,.ints r1]))) (rest,i,q)
 | _=>false
def Uk:Nat->Option Ann:=λb_=>cond (b_==0) (some ⟨⟨[0,1,6,7,8],[],[],[]⟩,[(0,⟨[6,7],[],[],[]⟩)],some ⟨[4,5],[],[],[]⟩,some (aF [(kY,kQ N ami SQ2)])⟩) (none)
theorem zg:aH (UI N ami SQ2) 0 (Uk N ami SQ2) (lp Pg 137 0) (kY,kQ N ami SQ2):=by
 intro a κ h;simp only at h;unfold kQ at h;split at h
 ·rename_i x_1 d_1 rest i q;exact .trans (aJ (λ(v_:Int × Int × LI)=>kY.build [.ints x_1,.int d_1,.int v_.1,.int v_.2.1,.ints v_.2.2]) (λv_ K_=>by obtain⟨rest,i,q⟩:=v_; kernel_rfl) N (rest,i,q)) h
 ·cases h
theorem EO:aT (UI N ami SQ2) 0 (Uk N ami SQ2) (lp Pg 137 0):=
 aC [(kY,kQ N ami SQ2)] (by kernel_rfl) ⟨zg _ _ _,trivial⟩
theorem ac8 (atv:ab Pg 149 (I3 ami)) (hQ2:ab Pg 121 (FQ2 SQ2)):ab Pg 137 (aao (abp N ami SQ2)):=by
 refine ao (md:=false) (cx:=(UI N ami SQ2)) (ai (aa atv (aa hQ2 (ac _))) (by kernel_rfl)) X4 (Zm (abp N ami SQ2)) (Uk N ami SQ2) 1 0 (by kernel_rfl) (bK (EO _ _ _)) ?_;intro a k h;unfold Zm at h;split at h;exact⟨[],rfl,rfl,.trans (by kernel_rfl) h⟩;cases h
def iL:StSh:=⟨(sqs 5 (.int .i64::.int .u64::.slw 0::sqs 16 (.roi .u64::.int .i64::.int .i64::sqs 28 []))),[some (22,1,.ints .u64)]⟩
def uO:StSh:=⟨(sqs 7 (.slw 0::sqs 47 [])),[some (22,1,.ints .u64)]⟩
end
section
variable (N:Nat) (SQ2:kH)
noncomputable abbrev UJ:Cx:=⟨Pg,ah [(121,(FQ2 SQ2))],am,N⟩
def iJ:List Atom->K->Bool:=λa_ κ=>match a_ with
 | [.int words,.int rest,.ints t24,.int t25,.int t26,.ints z]=>al N (rO N SQ2 words rest t24 t25 (λr0=>κ.ext 0 (uO.build [.ints r0]))) (t26,z)
 | _=>false
def T_:Nat->Option Ann:=λb_=>cond (b_==0) (some ⟨⟨[5,6,7,24,25,26],[],[],[]⟩,[(0,⟨[7],[],[],[]⟩)],some ⟨[4],[],[],[]⟩,some (aF [(iL,iJ N SQ2)])⟩) (none)
theorem uy:aH (UJ N SQ2) 0 (T_ N SQ2) (lp Pg 108 0) (iL,iJ N SQ2):=by
 intro a κ h;simp only at h;unfold iJ at h;split at h
 ·rename_i words rest t24 t25 t26 z;exact .trans (aJ (λ(v_:Int × LI)=>iL.build [.int words,.int rest,.ints t24,.int t25,.int v_.1,.ints v_.2]) (λv_ K_=>by obtain⟨t26,z⟩:=v_; kernel_rfl) N (t26,z)) h
 ·cases h
theorem zl:aT (UJ N SQ2) 0 (T_ N SQ2) (lp Pg 108 0):=
 aC [(iL,iJ N SQ2)] (by kernel_rfl) ⟨uy _ _,trivial⟩
theorem aco (hQ2:ab Pg 121 (FQ2 SQ2)):ab Pg 108 (ZZ (aaV N SQ2)):=by
 refine av (cx:=(UJ N SQ2)) (ai (aa hQ2 (ac _)) (by kernel_rfl)) Xr (YM (aaV N SQ2)) (T_ N SQ2) 1 0 (by kernel_rfl) (bK (zl _ _)) ?_;intro a k h;unfold YM at h;split at h;exact⟨[],rfl,rfl,.trans (by kernel_rfl) h⟩;cases h
def jD:StSh:=⟨(.sl 0::.roi .u64::.any::.any::.any::.int .i64::.int .u64::.int .u64::sqs 78 []),[some (22,1,.ints .u64)]⟩
def xg:StSh:=⟨(sqs 4 (.int .u64::sqs 81 [])),[some (22,1,.ints .u64)]⟩
end
section
variable (N:Nat) (ami:uV) (amH:uX) (SQ5:qZ)
noncomputable abbrev UK:Cx:=⟨Pg,ah [(149,(I3 ami)),(141,(I5 amH)),(142,(FQ5 SQ5))],am,N⟩
def jw:List Atom->K->Bool:=λa_ κ=>match a_ with
 | [.nat u,.nat u_2,.ints v_1,.int n,.int q,.int rest,.ints u_3]=>al N (tV N ami amH SQ5 u u_2 v_1 n u_3 (λr0=>κ.ret (xg.build [.int r0,.ints u_3]))) (q,rest)
 | _=>false
def Ug:Nat->Option Ann:=λb_=>cond (b_==0) (some ⟨⟨[0,1,5,6,7],[],[],[]⟩,[],some ⟨[4],[],[],[]⟩,some (aF [(jD,jw N ami amH SQ5)])⟩) (none)
theorem wB:aH (UK N ami amH SQ5) 1 (Ug N ami amH SQ5) (lp Pg 150 0) (jD,jw N ami amH SQ5):=by
 intro a κ h;simp only at h;unfold jw at h;split at h
 ·rename_i u u_2 v_1 n q rest u_3;exact .trans (aJ (λ(v_:Int × Int)=>jD.build [.nat u,.nat u_2,.ints v_1,.int n,.int v_.1,.int v_.2,.ints u_3]) (λv_ K_=>by obtain⟨q,rest⟩:=v_; kernel_rfl) N (q,rest)) h
 ·cases h
theorem BW:aT (UK N ami amH SQ5) 1 (Ug N ami amH SQ5) (lp Pg 150 0):=
 aC [(jD,jw N ami amH SQ5)] (by kernel_rfl) ⟨wB _ _ _ _,trivial⟩
theorem acM (atv:ab Pg 149 (I3 ami)) (atx:ab Pg 141 (I5 amH)) (hQ5:ab Pg 142 (FQ5 SQ5)):ab Pg 150 (Z8 (afb N ami amH SQ5)):=by
 refine ao (md:=false) (cx:=(UK N ami amH SQ5)) (ai (aa atv (aa atx (aa hQ5 (ac _)))) (by kernel_rfl)) XN (Y4 (afb N ami amH SQ5)) (Ug N ami amH SQ5) 1 1 (by kernel_rfl) (bK (BW _ _ _ _)) ?_;intro a k h;unfold Y4 at h;split at h;exact⟨[_],rfl,rfl,.trans (by kernel_rfl) h⟩;cases h
def kl:StSh:=⟨(.sl 0::.roi .u64::.any::.any::.any::.int .i64::.int .u64::.int .u64::.int .u64::sqs 8 (.int .i64::.int .i64::sqs 80 [])),[some (22,1,.ints .u64)]⟩
def yk:StSh:=⟨(.sl 0::.roi .u64::.any::.any::.any::.int .i64::.int .u64::.int .u64::.int .u64::sqs 90 []),[some (22,1,.ints .u64)]⟩
end
section
variable (N:Nat) (am9:DY) (alJ:oD) (SQ9:yQ) (SQ5:qZ)
noncomputable abbrev En:Cx:=⟨Pg,ah [(150,(Z8 am9)),(125,(FR alJ)),(151,(FQ9 SQ9)),(142,(FQ5 SQ5))],am,N⟩
def kc:List Atom->K->Bool:=λa_ κ=>match a_ with
 | [.nat u,.nat u_2,.ints v_1,.int n,.int q,.int carry,.int borrow,.int t17,.int t18,.ints u_3]=>al N (vk N am9 alJ SQ9 SQ5 u u_2 v_1 n q t17 (λr5 r6 r7=>κ.ext 0 (yk.build [.nat u,.nat u_2,.ints v_1,.int n,.int q,.int r5,.int r6,.ints r7]))) (carry,borrow,t18,u_3)
 | _=>false
def kn:StSh:=⟨(.sl 0::.roi .u64::.any::.any::.any::.int .i64::.int .u64::.int .u64::.int .u64::sqs 51 (.int .i64::.int .i64::sqs 37 [])),[some (22,1,.ints .u64)]⟩
def ym:StSh:=⟨(.sl 0::.roi .u64::.any::.any::.any::.int .i64::.int .u64::.int .u64::.int .u64::sqs 90 []),[some (22,1,.ints .u64)]⟩
def ke:List Atom->K->Bool:=λa_ κ=>match a_ with
 | [.nat u_8,.nat u_9,.ints v_3,.int n_2,.int q_2,.int amK,.int anD,.int t60,.int t61,.ints anF]=>al N (vn N am9 alJ SQ9 SQ5 u_8 u_9 v_3 n_2 q_2 anD t60 (λr5 r7=>κ.ext 4 (ym.build [.nat u_8,.nat u_9,.ints v_3,.int n_2,.int q_2,.int r5,.int anD,.ints r7]))) (amK,t61,anF)
 | _=>false
def km:StSh:=⟨(.sl 0::.roi .u64::.any::.any::.any::.int .i64::.int .u64::.any::.int .u64::sqs 90 []),[some (22,1,.ints .u64)]⟩
def yl:StSh:=⟨(sqs 6 (.int .u64::sqs 92 [])),[some (22,1,.ints .u64)]⟩
def kd:List Atom->K->Bool:=λa_ κ=>match a_ with
 | [.nat u_5,.nat u_6,.ints v_2,.int n_1,.int q_1,.int amA,.ints u_7]=>al N (vm N am9 alJ SQ9 SQ5 u_5 u_6 v_2 n_1 (λr0 r1=>κ.ext 2 (yl.build [.int r0,.ints r1]))) (q_1,amA,u_7)
 | _=>false
def Ef:Nat->Option Ann:=λb_=>cond (b_==0) (some ⟨⟨[0,1,5,6,7,8,17,18],[],[],[]⟩,[(0,⟨[0,1,5,6,7,8],[],[],[]⟩)],some ⟨[4],[],[],[]⟩,some (aF [(kl,kc N am9 alJ SQ9 SQ5)])⟩) (cond (b_==4) (some ⟨⟨[0,1,5,6,7,8,60,61],[],[],[]⟩,[(4,⟨[0,1,5,6,7,8],[],[],[]⟩)],some ⟨[4],[],[],[]⟩,some (aF [(kn,ke N am9 alJ SQ9 SQ5)])⟩) (cond (b_==2) (some ⟨⟨[0,1,5,6,8],[],[],[]⟩,[(2,⟨[6],[],[],[]⟩)],some ⟨[4],[],[],[]⟩,some (aF [(km,kd N am9 alJ SQ9 SQ5)])⟩) (none)))
theorem yc:aH (En N am9 alJ SQ9 SQ5) 1 (Ef N am9 alJ SQ9 SQ5) (lp Pg 139 0) (kl,kc N am9 alJ SQ9 SQ5):=by
 intro a κ h;simp only at h;unfold kc at h;split at h
 ·rename_i u u_2 v_1 n q carry borrow t17 t18 u_3;exact .trans (aJ (λ(v_:Int × Int × Int × LI)=>kl.build [.nat u,.nat u_2,.ints v_1,.int n,.int q,.int v_.1,.int v_.2.1,.int t17,.int v_.2.2.1,.ints v_.2.2.2]) (λv_ K_=>by obtain⟨carry,borrow,t18,u_3⟩:=v_; kernel_rfl) N (carry,borrow,t18,u_3)) h
 ·cases h
theorem ye:aH (En N am9 alJ SQ9 SQ5) 1 (Ef N am9 alJ SQ9 SQ5) (lp Pg 139 2) (kn,ke N am9 alJ SQ9 SQ5):=by
 intro a κ h;simp only at h;unfold ke at h;split at h
 ·rename_i u_8 u_9 v_3 n_2 q_2 amK anD t60 t61 anF;exact .trans (aJ (λ(v_:Int × Int × LI)=>kn.build [.nat u_8,.nat u_9,.ints v_3,.int n_2,.int q_2,.int v_.1,.int anD,.int t60,.int v_.2.1,.ints v_.2.2]) (λv_ K_=>by obtain⟨amK,t61,anF⟩:=v_; kernel_rfl) N (amK,t61,anF)) h
 ·cases h
theorem yd:aH (En N am9 alJ SQ9 SQ5) 1 (Ef N am9 alJ SQ9 SQ5) (lp Pg 139 1) (km,kd N am9 alJ SQ9 SQ5):=by
 intro a κ h;simp only at h;unfold kd at h;split at h
 ·rename_i u_5 u_6 v_2 n_1 q_1 amA u_7;exact .trans (aJ (λ(v_:Int × Int × LI)=>km.build [.nat u_5,.nat u_6,.ints v_2,.int n_1,.int v_.1,.int v_.2.1,.ints v_.2.2]) (λv_ K_=>by obtain⟨q_1,amA,u_7⟩:=v_; kernel_rfl) N (q_1,amA,u_7)) h
 ·cases h
theorem Dc:aT (En N am9 alJ SQ9 SQ5) 1 (Ef N am9 alJ SQ9 SQ5) (lp Pg 139 0):=
 aC [(kl,kc N am9 alJ SQ9 SQ5)] (by kernel_rfl) ⟨yc _ _ _ _ _,trivial⟩
theorem De:aT (En N am9 alJ SQ9 SQ5) 1 (Ef N am9 alJ SQ9 SQ5) (lp Pg 139 2):=
 aC [(kn,ke N am9 alJ SQ9 SQ5)] (by kernel_rfl) ⟨ye _ _ _ _ _,trivial⟩
theorem Dd:aT (En N am9 alJ SQ9 SQ5) 1 (Ef N am9 alJ SQ9 SQ5) (lp Pg 139 1):=
 aC [(km,kd N am9 alJ SQ9 SQ5)] (by kernel_rfl) ⟨yd _ _ _ _ _,trivial⟩
theorem acP (avT:ab Pg 150 (Z8 am9)) (asy:ab Pg 125 (FR alJ)) (hQ9:ab Pg 151 (FQ9 SQ9)) (hQ5:ab Pg 142 (FQ5 SQ5)):ab Pg 139 (Z_ (afc N am9 alJ SQ9 SQ5)):=by
 refine ao (md:=false) (cx:=(En N am9 alJ SQ9 SQ5)) (ai (aa avT (aa asy (aa hQ9 (aa hQ5 (ac _))))) (by kernel_rfl)) Nu (Y7 (afc N am9 alJ SQ9 SQ5)) (Ef N am9 alJ SQ9 SQ5) 3 1 (by kernel_rfl) (λi_ hi_=>by
  match i_,hi_ with
  | 0,_=>exact Dc _ _ _ _ _
  | 1,_=>exact Dd _ _ _ _ _
  | 2,_=>exact De _ _ _ _ _
  | (q+3),h=>omega) ?_
 intro a k h;unfold Y7 at h;split at h;exact⟨[_],rfl,rfl,.trans (by kernel_rfl) h⟩;cases h
def iK:StSh:=⟨(.sl 0::.sl 1::.any::.any::.any::.int .i64::.int .u64::.int .u64::sqs 78 []),[some (22,1,.ints .u64),some (22,1,.ints .u64)]⟩
def uN:StSh:=⟨(sqs 4 (.int .u64::sqs 81 [])),[some (22,1,.ints .u64),some (22,1,.ints .u64)]⟩
end
section
variable (N:Nat) (ami:uV) (amH:uX) (SQ5:qZ)
noncomputable abbrev UL:Cx:=⟨Pg,ah [(149,(I3 ami)),(141,(I5 amH)),(142,(FQ5 SQ5))],am,N⟩
def iI:List Atom->K->Bool:=λa_ κ=>match a_ with
 | [.nat u,.nat u_2,.nat v,.nat v_2,.int n,.int q,.int rest,.ints u_3,.ints v_3]=>al N (rM N ami amH SQ5 u u_2 v v_2 n u_3 v_3 (λr0=>κ.ret (uN.build [.int r0,.ints u_3,.ints v_3]))) (q,rest)
 | _=>false
def Ua:Nat->Option Ann:=λb_=>cond (b_==0) (some ⟨⟨[0,1,5,6,7],[],[],[]⟩,[],some ⟨[4],[],[],[]⟩,some (aF [(iK,iI N ami amH SQ5)])⟩) (none)
theorem ux:aH (UL N ami amH SQ5) 2 (Ua N ami amH SQ5) (lp Pg 150 0) (iK,iI N ami amH SQ5):=by
 intro a κ h;simp only at h;unfold iI at h;split at h
 ·rename_i u u_2 v v_2 n q rest u_3 v_3;exact .trans (aJ (λ(v_:Int × Int)=>iK.build [.nat u,.nat u_2,.nat v,.nat v_2,.int n,.int v_.1,.int v_.2,.ints u_3,.ints v_3]) (λv_ K_=>by obtain⟨q,rest⟩:=v_; kernel_rfl) N (q,rest)) h
 ·cases h
theorem zk:aT (UL N ami amH SQ5) 2 (Ua N ami amH SQ5) (lp Pg 150 0):=
 aC [(iK,iI N ami amH SQ5)] (by kernel_rfl) ⟨ux _ _ _ _,trivial⟩
theorem acq (atv:ab Pg 149 (I3 ami)) (atx:ab Pg 141 (I5 amH)) (hQ5:ab Pg 142 (FQ5 SQ5)):ab Pg 150 (Z1 (TT N ami amH SQ5)):=by
 refine ao (md:=false) (cx:=(UL N ami amH SQ5)) (ai (aa atv (aa atx (aa hQ5 (ac _)))) (by kernel_rfl)) Xt (YO (TT N ami amH SQ5)) (Ua N ami amH SQ5) 1 2 (by kernel_rfl) (bK (zk _ _ _ _)) ?_;intro a k h;unfold YO at h;split at h;exact⟨[_,_],rfl,rfl,.trans (by kernel_rfl) h⟩;cases h
def je:StSh:=⟨(.sl 0::.sl 1::.any::.any::.any::.int .i64::.int .u64::.int .u64::.int .u64::sqs 8 (.int .i64::.int .i64::sqs 80 [])),[some (22,1,.ints .u64),some (22,1,.ints .u64)]⟩
def vN:StSh:=⟨(.sl 0::.sl 1::.any::.any::.any::.int .i64::.int .u64::.int .u64::.int .u64::sqs 90 []),[some (22,1,.ints .u64),some (22,1,.ints .u64)]⟩
end
section
variable (N:Nat) (am8:Cr) (alJ:oD) (SQ9:yQ) (SQ5:qZ)
noncomputable abbrev Eo:Cx:=⟨Pg,ah [(150,(Z1 am8)),(125,(FR alJ)),(151,(FQ9 SQ9)),(142,(FQ5 SQ5))],am,N⟩
def iV:List Atom->K->Bool:=λa_ κ=>match a_ with
 | [.nat u,.nat u_2,.nat v,.nat v_2,.int n,.int q,.int carry,.int borrow,.int t17,.int t18,.ints u_3,.ints v_3]=>al N (IU N am8 alJ SQ9 SQ5 u u_2 v v_2 n q t17 v_3 (λr6 r7 r8=>κ.ext 0 (vN.build [.nat u,.nat u_2,.nat v,.nat v_2,.int n,.int q,.int r6,.int r7,.ints r8,.ints v_3]))) (carry,borrow,t18,u_3)
 | _=>false
def jg:StSh:=⟨(.sl 0::.sl 1::.any::.any::.any::.int .i64::.int .u64::.int .u64::.int .u64::sqs 51 (.int .i64::.int .i64::sqs 37 [])),[some (22,1,.ints .u64),some (22,1,.ints .u64)]⟩
def vQ:StSh:=⟨(.sl 0::.sl 1::.any::.any::.any::.int .i64::.int .u64::.int .u64::.int .u64::sqs 90 []),[some (22,1,.ints .u64),some (22,1,.ints .u64)]⟩
def iY:List Atom->K->Bool:=λa_ κ=>match a_ with
 | [.nat u_8,.nat u_9,.nat v_7,.nat v_8,.int n_2,.int q_2,.int amK,.int anD,.int t60,.int t61,.ints anF,.ints v_9]=>al N (IV N am8 alJ SQ9 SQ5 u_8 u_9 v_7 v_8 n_2 q_2 anD t60 v_9 (λr6 r8=>κ.ext 4 (vQ.build [.nat u_8,.nat u_9,.nat v_7,.nat v_8,.int n_2,.int q_2,.int r6,.int anD,.ints r8,.ints v_9]))) (amK,t61,anF)
 | _=>false
def jf:StSh:=⟨(.sl 0::.sl 1::.any::.any::.any::.int .i64::.int .u64::.any::.int .u64::sqs 90 []),[some (22,1,.ints .u64),some (22,1,.ints .u64)]⟩
def vO:StSh:=⟨(sqs 6 (.int .u64::sqs 92 [])),[some (22,1,.ints .u64),some (22,1,.ints .u64)]⟩
def iW:List Atom->K->Bool:=λa_ κ=>match a_ with
 | [.nat u_5,.nat u_6,.nat v_4,.nat v_5,.int n_1,.int q_1,.int amA,.ints u_7,.ints v_6]=>al N (w9 N am8 alJ SQ9 SQ5 u_5 u_6 v_4 v_5 n_1 v_6 (λr0 r1=>κ.ext 2 (vO.build [.int r0,.ints r1,.ints v_6]))) (q_1,amA,u_7)
 | _=>false
def Ee:Nat->Option Ann:=λb_=>cond (b_==0) (some ⟨⟨[0,1,5,6,7,8,17,18],[],[],[]⟩,[(0,⟨[0,1,5,6,7,8],[],[],[]⟩)],some ⟨[4],[],[],[]⟩,some (aF [(je,iV N am8 alJ SQ9 SQ5)])⟩) (cond (b_==4) (some ⟨⟨[0,1,5,6,7,8,60,61],[],[],[]⟩,[(4,⟨[0,1,5,6,7,8],[],[],[]⟩)],some ⟨[4],[],[],[]⟩,some (aF [(jg,iY N am8 alJ SQ9 SQ5)])⟩) (cond (b_==2) (some ⟨⟨[0,1,5,6,8],[],[],[]⟩,[(2,⟨[6],[],[],[]⟩)],some ⟨[4],[],[],[]⟩,some (aF [(jf,iW N am8 alJ SQ9 SQ5)])⟩) (none)))
theorem vz:aH (Eo N am8 alJ SQ9 SQ5) 2 (Ee N am8 alJ SQ9 SQ5) (lp Pg 139 0) (je,iV N am8 alJ SQ9 SQ5):=by
 intro a κ h;simp only at h;unfold iV at h;split at h
 ·rename_i u u_2 v v_2 n q carry borrow t17 t18 u_3 v_3;exact .trans (aJ (λ(v_:Int × Int × Int × LI)=>je.build [.nat u,.nat u_2,.nat v,.nat v_2,.int n,.int q,.int v_.1,.int v_.2.1,.int t17,.int v_.2.2.1,.ints v_.2.2.2,.ints v_3]) (λv_ K_=>by obtain⟨carry,borrow,t18,u_3⟩:=v_; kernel_rfl) N (carry,borrow,t18,u_3)) h
 ·cases h
theorem vB:aH (Eo N am8 alJ SQ9 SQ5) 2 (Ee N am8 alJ SQ9 SQ5) (lp Pg 139 2) (jg,iY N am8 alJ SQ9 SQ5):=by
 intro a κ h;simp only at h;unfold iY at h;split at h
 ·rename_i u_8 u_9 v_7 v_8 n_2 q_2 amK anD t60 t61 anF v_9;exact .trans (aJ (λ(v_:Int × Int × LI)=>jg.build [.nat u_8,.nat u_9,.nat v_7,.nat v_8,.int n_2,.int q_2,.int v_.1,.int anD,.int t60,.int v_.2.1,.ints v_.2.2,.ints v_9]) (λv_ K_=>by obtain⟨amK,t61,anF⟩:=v_; kernel_rfl) N (amK,t61,anF)) h
 ·cases h
theorem vA:aH (Eo N am8 alJ SQ9 SQ5) 2 (Ee N am8 alJ SQ9 SQ5) (lp Pg 139 1) (jf,iW N am8 alJ SQ9 SQ5):=by
 intro a κ h;simp only at h;unfold iW at h;split at h
 ·rename_i u_5 u_6 v_4 v_5 n_1 q_1 amA u_7 v_6;exact .trans (aJ (λ(v_:Int × Int × LI)=>jf.build [.nat u_5,.nat u_6,.nat v_4,.nat v_5,.int n_1,.int v_.1,.int v_.2.1,.ints v_.2.2,.ints v_6]) (λv_ K_=>by obtain⟨q_1,amA,u_7⟩:=v_; kernel_rfl) N (q_1,amA,u_7)) h
 ·cases h
theorem At:aT (Eo N am8 alJ SQ9 SQ5) 2 (Ee N am8 alJ SQ9 SQ5) (lp Pg 139 0):=
 aC [(je,iV N am8 alJ SQ9 SQ5)] (by kernel_rfl) ⟨vz _ _ _ _ _,trivial⟩
theorem Av:aT (Eo N am8 alJ SQ9 SQ5) 2 (Ee N am8 alJ SQ9 SQ5) (lp Pg 139 2):=
 aC [(jg,iY N am8 alJ SQ9 SQ5)] (by kernel_rfl) ⟨vB _ _ _ _ _,trivial⟩
theorem Au:aT (Eo N am8 alJ SQ9 SQ5) 2 (Ee N am8 alJ SQ9 SQ5) (lp Pg 139 1):=
 aC [(jf,iW N am8 alJ SQ9 SQ5)] (by kernel_rfl) ⟨vA _ _ _ _ _,trivial⟩
theorem acz (avI:ab Pg 150 (Z1 am8)) (asy:ab Pg 125 (FR alJ)) (hQ9:ab Pg 151 (FQ9 SQ9)) (hQ5:ab Pg 142 (FQ5 SQ5)):ab Pg 139 (Z2 (aa2 N am8 alJ SQ9 SQ5)):=by
 refine ao (md:=false) (cx:=(Eo N am8 alJ SQ9 SQ5)) (ai (aa avI (aa asy (aa hQ9 (aa hQ5 (ac _))))) (by kernel_rfl)) XB (YV (aa2 N am8 alJ SQ9 SQ5)) (Ee N am8 alJ SQ9 SQ5) 3 2 (by kernel_rfl) (λi_ hi_=>by
  match i_,hi_ with
  | 0,_=>exact At _ _ _ _ _
  | 1,_=>exact Au _ _ _ _ _
  | 2,_=>exact Av _ _ _ _ _
  | (q+3),h=>omega) ?_
 intro a k h;unfold YV at h;split at h;exact⟨[_,_],rfl,rfl,.trans (by kernel_rfl) h⟩;cases h
end
def ki:StSh:=⟨(.sl 0::.any::.any::.int .i64::sqs 17 []),[some (22,1,.ints .u64)]⟩
def yi:StSh:=⟨(.sl 0::.any::.any::.int .i64::sqs 17 []),[some (22,1,.ints .u64)]⟩
def j_ (N:Nat):List Atom->K->Bool:=λa_ κ=>match a_ with
 | [.nat x,.nat x_2,.int n,.ints x_3]=>al N (zC N x x_2 x_3 (λr2=>κ.ext 0 (yi.build [.nat x,.nat x_2,.int r2,.ints x_3]))) n
 | _=>false
def Ui (N:Nat):Nat->Option Ann:=λb_=>cond (b_==0) (some ⟨⟨[0,3],[],[],[]⟩,[(0,⟨[0,3],[],[],[]⟩)],some ⟨[2],[],[],[]⟩,some (aF [(ki,j_ N)])⟩) (none)
theorem ya (N:Nat):aH ⟨Pg,ah [],am,N⟩ 1 (Ui N) (lp Pg 121 0) (ki,j_ N):=by
 intro a κ h;simp only at h;unfold j_ at h;split at h
 ·rename_i x x_2 n x_3;exact .trans (aJ (λv_=>ki.build [.nat x,.nat x_2,.int v_,.ints x_3]) (λv_ K_=>by kernel_rfl) N n) h
 ·cases h
theorem Da (N:Nat):aT ⟨Pg,ah [],am,N⟩ 1 (Ui N) (lp Pg 121 0):=
 aC [(ki,j_ N)] (by kernel_rfl) ⟨ya _,trivial⟩
theorem acR (N:Nat):ab Pg 121 (aaa (abc N)):=by
 refine ao (md:=false) (cx:=⟨Pg,ah [],am,N⟩) (ai (ac _) (by kernel_rfl)) Nw (Y8 (abc N)) (Ui N) 1 1 (by kernel_rfl) (bK (Da _)) ?_;intro a k h;unfold Y8 at h;split at h;exact⟨[_],rfl,rfl,.trans (by kernel_rfl) h⟩;cases h
def ahV (N:Nat):Nat->Option Ann:=λb_=>none
theorem ac1 (N:Nat):ab Pg 146 (aai (abk N)):=by
 refine ao (md:=false) (cx:=⟨Pg,ah [],am,N⟩) (ai (ac _) (by kernel_rfl)) XY (Zf (abk N)) (ahV N) 0 1 (by kernel_rfl) (λi_ hi_=>by omega) ?_;intro a k h;unfold Zf at h;split at h;exact⟨[_],rfl,rfl,.trans (by kernel_rfl) h⟩;cases h
def jE:StSh:=⟨(.sl 0::sqs 5 (.int .i64::.int .u64::.int .u64::sqs 28 (.sl 0::.int .i64::.int .i64::sqs 42 []))),[some (22,1,.ints .u64)]⟩
def xi:StSh:=⟨(.sl 0::sqs 5 (.int .i64::.int .u64::.int .u64::sqs 73 [])),[some (22,1,.ints .u64)]⟩
section
variable (N:Nat) (anL:D5) (SQ2:kH)
noncomputable abbrev JR:Cx:=⟨Pg,ah [(146,(aai anL)),(121,(FQ2 SQ2))],am,N⟩
def jx:List Atom->K->Bool:=λa_ κ=>match a_ with
 | [.nat x,.nat x_2,.int words,.int rest,.int lost,.nat t37,.nat asm,.int t38,.int t39,.ints x_3]=>al N (o6 N anL SQ2 x x_2 words rest t37 asm t38 x_3 (λr4=>κ.ext 0 (xi.build [.nat x,.nat x_2,.int words,.int rest,.int r4,.ints x_3]))) (lost,t39)
 | _=>false
def jF:StSh:=⟨(.sl 0::sqs 5 (.int .i64::.int .u64::.int .u64::.any::.any::.slw 1::sqs 41 (.int .i64::.int .i64::sqs 27 []))),[some (22,1,.ints .u64),some (22,1,.ints .u64)]⟩
def xj:StSh:=⟨(sqs 8 (.int .u64::.any::.any::.slw 1::sqs 70 [])),[some (22,1,.ints .u64),some (22,1,.ints .u64)]⟩
def jy:List Atom->K->Bool:=λa_ κ=>match a_ with
 | [.nat x_4,.nat x_5,.int aoC,.int aoW,.int arj,.int t53,.int t54,.ints x_6,.ints z]=>al N (me N anL SQ2 x_4 x_5 aoC aoW arj t53 x_6 (λr2=>κ.ext 2 (xj.build [.int arj,.ints x_6,.ints r2]))) (t54,z)
 | _=>false
def Jm:Nat->Option Ann:=λb_=>cond (b_==0) (some ⟨⟨[0,6,7,8,37,38,39],[],[],[]⟩,[(0,⟨[0,6,7,8],[],[],[]⟩)],some ⟨[4,5],[],[],[]⟩,some (aF [(jE,jx N anL SQ2)])⟩) (cond (b_==2) (some ⟨⟨[0,6,7,8,11,53,54],[],[],[]⟩,[(2,⟨[8,11],[],[],[]⟩)],some ⟨[4,5],[],[],[]⟩,some (aF [(jF,jy N anL SQ2)])⟩) (none))
theorem wC:aH (JR N anL SQ2) 1 (Jm N anL SQ2) (lp Pg 140 0) (jE,jx N anL SQ2):=by
 intro a κ h;simp only at h;unfold jx at h;split at h
 ·rename_i x x_2 words rest lost t37 asm t38 t39 x_3;exact .trans (aJ (λ(v_:Int × Int)=>jE.build [.nat x,.nat x_2,.int words,.int rest,.int v_.1,.nat t37,.nat asm,.int t38,.int v_.2,.ints x_3]) (λv_ K_=>by obtain⟨lost,t39⟩:=v_; kernel_rfl) N (lost,t39)) h
 ·cases h
theorem wD:aH (JR N anL SQ2) 1 (Jm N anL SQ2) (lp Pg 140 1) (jF,jy N anL SQ2):=by
 intro a κ h;simp only at h;unfold jy at h;split at h
 ·rename_i x_4 x_5 aoC aoW arj t53 t54 x_6 z;exact .trans (aJ (λ(v_:Int × LI)=>jF.build [.nat x_4,.nat x_5,.int aoC,.int aoW,.int arj,.int t53,.int v_.1,.ints x_6,.ints v_.2]) (λv_ K_=>by obtain⟨t54,z⟩:=v_; kernel_rfl) N (t54,z)) h
 ·cases h
theorem BX:aT (JR N anL SQ2) 1 (Jm N anL SQ2) (lp Pg 140 0):=
 aC [(jE,jx N anL SQ2)] (by kernel_rfl) ⟨wC _ _ _,trivial⟩
theorem BZ:aT (JR N anL SQ2) 1 (Jm N anL SQ2) (lp Pg 140 1):=
 aC [(jF,jy N anL SQ2)] (by kernel_rfl) ⟨wD _ _ _,trivial⟩
theorem acI (av8:ab Pg 146 (aai anL)) (hQ2:ab Pg 121 (FQ2 SQ2)):ab Pg 140 (Z7 (TU N anL SQ2)):=by
 refine ao (md:=false) (cx:=(JR N anL SQ2)) (ai (aa av8 (aa hQ2 (ac _))) (by kernel_rfl)) XJ (Y2 (TU N anL SQ2)) (Jm N anL SQ2) 2 1 (by kernel_rfl) (jV (BX _ _ _) (BZ _ _ _)) ?_;intro a k h;unfold Y2 at h;split at h;exact⟨[_],rfl,rfl,.trans (by kernel_rfl) h⟩;cases h
def jc:StSh:=⟨(sqs 8 (.int .u64::.nil::.sl 0::.int .i64::.slw 1::.int .i64::sqs 80 [])),[some (22,1,.ints .u64),some (22,1,.ints .u64)]⟩
def vM:StSh:=⟨(sqs 8 (.int .u64::.any::.sl 0::.any::.slw 1::sqs 81 [])),[some (22,1,.ints .u64),some (22,1,.ints .u64)]⟩
end
section
variable (N:Nat) (SQ6:uf) (alH:jK) (amu:Cw) (alI:oF) (SQ3:zU) (aml:Cq) (amy:Cu) (amw:Cs) (amz:Cv) (amx:Ct) (SQ2:kH)
noncomputable abbrev CG:Cx:=⟨Pg,ah [(123,(FQ6 SQ6)),(107,(xV alH)),(137,(aao amu)),(106,(FU alI)),(138,(FQ3 SQ3)),(108,(ZZ aml)),(139,(Cc (Z_ amy) (Z2 amw) Nu)),(121,(Cc (aaa amz) (FQ2 SQ2) Nw)),(140,(Z7 amx))],am,N⟩
def iU:List Atom->K->Bool:=λa_ κ=>match a_ with
 | [.int up,.nat u,.nat u_1,.int n,.int j,.ints u_2,.ints q]=>al N (FI N SQ6 alH amu alI SQ3 aml amy amw amz amx SQ2 up u u_1 n (λr3 r4=>κ.ext 0 (vM.build [.int up,.nat u,.nat u_1,.ints r3,.ints r4]))) (j,u_2,q)
 | _=>false
def ip:StSh:=⟨(sqs 8 (.int .u64::.sl 0::.sl 1::.int .i64::.slw 2::.int .i64::sqs 80 [])),[some (22,1,.ints .u64),some (22,1,.ints .u64),some (22,1,.ints .u64)]⟩
def tX:StSh:=⟨(sqs 8 (.int .u64::.any::.sl 0::.any::.slw 1::sqs 81 [])),[some (22,1,.ints .u64),some (22,1,.ints .u64)]⟩
def ij:List Atom->K->Bool:=λa_ κ=>match a_ with
 | [.int atP,.nat v,.nat v_1,.nat u_5,.nat u_6,.int n_1,.int j_1,.ints v_2,.ints u_7,.ints q_3]=>al N (zy N SQ6 alH amu alI SQ3 aml amy amw amz amx SQ2 atP v v_1 u_5 u_6 n_1 v_2 (λr3 r4=>κ.ext 0 (tX.build [.int atP,.nat u_5,.nat u_6,.ints r3,.ints r4]))) (j_1,u_7,q_3)
 | _=>false
def Jr:Nat->Option Ann:=λb_=>cond (b_==0) (some ⟨⟨[8,9,10,11,12,13],[],[],[]⟩,[(0,⟨[8,10,12],[],[],[]⟩)],some ⟨[4,5],[],[],[]⟩,some (aF [(jc,iU N SQ6 alH amu alI SQ3 aml amy amw amz amx SQ2),(ip,ij N SQ6 alH amu alI SQ3 aml amy amw amz amx SQ2)])⟩) (none)
theorem vy:aH (CG N SQ6 alH amu alI SQ3 aml amy amw amz amx SQ2) 0 (Jr N SQ6 alH amu alI SQ3 aml amy amw amz amx SQ2) (lp Pg 124 0) (jc,iU N SQ6 alH amu alI SQ3 aml amy amw amz amx SQ2):=by
 intro a κ h;simp only at h;unfold iU at h;split at h
 ·rename_i up u u_1 n j u_2 q;exact .trans (aJ (λ(v_:Int × LI × LI)=>jc.build [.int up,.nat u,.nat u_1,.int n,.int v_.1,.ints v_.2.1,.ints v_.2.2]) (λv_ K_=>by obtain⟨j,u_2,q⟩:=v_; kernel_rfl) N (j,u_2,q)) h
 ·cases h
theorem tF:aH (CG N SQ6 alH amu alI SQ3 aml amy amw amz amx SQ2) 0 (Jr N SQ6 alH amu alI SQ3 aml amy amw amz amx SQ2) (lp Pg 124 0) (ip,ij N SQ6 alH amu alI SQ3 aml amy amw amz amx SQ2):=by
 intro a κ h;simp only at h;unfold ij at h;split at h
 ·rename_i atP v v_1 u_5 u_6 n_1 j_1 v_2 u_7 q_3;exact .trans (aJ (λ(v_:Int × LI × LI)=>ip.build [.int atP,.nat v,.nat v_1,.nat u_5,.nat u_6,.int n_1,.int v_.1,.ints v_2,.ints v_.2.1,.ints v_.2.2]) (λv_ K_=>by obtain⟨j_1,u_7,q_3⟩:=v_; kernel_rfl) N (j_1,u_7,q_3)) h
 ·cases h
theorem As:aT (CG N SQ6 alH amu alI SQ3 aml amy amw amz amx SQ2) 0 (Jr N SQ6 alH amu alI SQ3 aml amy amw amz amx SQ2) (lp Pg 124 0):=
 aC [(jc,iU N SQ6 alH amu alI SQ3 aml amy amw amz amx SQ2),(ip,ij N SQ6 alH amu alI SQ3 aml amy amw amz amx SQ2)] (by kernel_rfl) ⟨vy _ _ _ _ _ _ _ _ _ _ _ _,tF _ _ _ _ _ _ _ _ _ _ _ _,trivial⟩
def Fa (d_:List V) (u_:List (Option Blk)) (x y:LI) (atd:Int) (anF:Nat) (aoB q_6:LI):St:=⟨(dqs d_ 0 8 (vwu atd::(dq d_ 8)::.sl 0 0 anF::(dq d_ 9)::.slw 1::dqs d_ 10 81 [])),[some ⟨22,1,.ints .u64 aoB⟩,some ⟨22,1,.ints .u64 q_6⟩]⟩
theorem agm (d_:List V) (u_:List (Option Blk)) (x y:LI) (atd:Int) (anF:Nat) (aoB q_6:LI) (c_:KV):bc (CG N SQ6 alH amu alI SQ3 aml amy amw amz amx SQ2) 0 (Jr N SQ6 alH amu alI SQ3 aml amy amw amz amx SQ2) ((cds Pg 124).drop 12) 0 (Fa d_ u_ x y atd anF aoB q_6) (r_ false Pg 124 0 c_)=Gv N SQ6 alH amu alI SQ3 aml amy amw amz amx SQ2 x y atd anF aoB q_6 (λr0 r1=>c_ (.tup [vwr r0,vwr r1]) []):=by kernel_rfl
theorem An (x y:LI) (c_:KV) (κn_:St->Bool):bc (CG N SQ6 alH amu alI SQ3 aml amy amw amz amx SQ2) 0 (Jr N SQ6 alH amu alI SQ3 aml amy amw amz amx SQ2) (sg Pg 124 0 12) 0 (st0 Pg 124 (Lh.args [.ints x,.ints y]) []) { (r_ false Pg 124 0 c_)with nrm:=κn_ } = (SQ6 x y (λnr=>cond (decide (nr<0)) (alH x (λnsr=>c_ (.tup [.roi .u64 [],vwr nsr]) [])) (cond (((y.length:Nat):Int)==1) (inR 0 y.length&&amu x (y.getD 0 0) (λalG aly=>alI aly (λal3=>c_ (.tup [vwr alG,vwr al3]) []))) (au .i64 (((y.length:Nat):Int) - 1)&&(inR (((y.length:Nat):Int) - 1) y.length&&SQ3 (y.getD (Int.toNat (((y.length:Nat):Int) - 1)) 0) (λalQ=>aml y (IntKind.wrap .u64 alQ) (aml x (IntKind.wrap .u64 alQ) (au .i64 (((x.length:Nat):Int)+1)&&(decide (0<=(((x.length:Nat):Int)+1)/\(((x.length:Nat):Int)+1)<=2)&&(au .i64 (((((Int.toNat (((x.length:Nat):Int)+1)) - 0):Nat):Int) - 0)&&(oB 8 (((((Int.toNat (((x.length:Nat):Int)+1)) - 0):Nat):Int) - 0) (((((Int.toNat (((x.length:Nat):Int)+1)) - 0):Nat):Int) - 0)&&(au .i64 (((((Int.toNat (((x.length:Nat):Int)+1)) - 0):Nat):Int) - 0)&&(au .i64 ((((((Int.toNat (((x.length:Nat):Int)+1)) - 0):Nat):Int) - 0) - 1)&&al N (FI N SQ6 alH amu alI SQ3 aml amy amw amz amx SQ2 (IntKind.wrap .u64 alQ) 0 ((Int.toNat (((x.length:Nat):Int)+1)) - 0) 0 (λu_3 q_1=>κn_ (Fa (vqs 91 []) [] x y (IntKind.wrap .u64 alQ) ((Int.toNat (((x.length:Nat):Int)+1)) - 0) u_3 q_1))) (((((((Int.toNat (((x.length:Nat):Int)+1)) - 0):Nat):Int) - 0) - 1),([]++[0,0]),(List.replicate (Int.toNat (((((Int.toNat (((x.length:Nat):Int)+1)) - 0):Nat):Int) - 0)) (0:Int))))))))) (λaoF amd=>decide ((0+aoF)<=amd.length)&&(decide ((List.length ((List.take aoF (List.drop 0 amd))++[0,0]))*8<=140737488355328)&&(au .i64 (((x.length:Nat):Int)+1)&&(decide (0<=(((x.length:Nat):Int)+1)/\(((x.length:Nat):Int)+1)<=(((List.length ((List.take aoF (List.drop 0 amd))++[0,0])):Nat):Int))&&(au .i64 (((((Int.toNat (((x.length:Nat):Int)+1)) - 0):Nat):Int) - 0)&&(oB 8 (((((Int.toNat (((x.length:Nat):Int)+1)) - 0):Nat):Int) - 0) (((((Int.toNat (((x.length:Nat):Int)+1)) - 0):Nat):Int) - 0)&&(au .i64 (((((Int.toNat (((x.length:Nat):Int)+1)) - 0):Nat):Int) - 0)&&(au .i64 ((((((Int.toNat (((x.length:Nat):Int)+1)) - 0):Nat):Int) - 0) - 1)&&al N (FI N SQ6 alH amu alI SQ3 aml amy amw amz amx SQ2 (IntKind.wrap .u64 alQ) 0 ((Int.toNat (((x.length:Nat):Int)+1)) - 0) 0 (λu_4 q_2=>κn_ (Fa (vqs 91 []) [] x y (IntKind.wrap .u64 alQ) ((Int.toNat (((x.length:Nat):Int)+1)) - 0) u_4 q_2))) (((((((Int.toNat (((x.length:Nat):Int)+1)) - 0):Nat):Int) - 0) - 1),((List.take aoF (List.drop 0 amd))++[0,0]),(List.replicate (Int.toNat (((((Int.toNat (((x.length:Nat):Int)+1)) - 0):Nat):Int) - 0)) (0:Int)))))))))))) (λmr al5=>aml x (IntKind.wrap .u64 alQ) (au .i64 (((x.length:Nat):Int)+1)&&(decide (0<=(((x.length:Nat):Int)+1)/\(((x.length:Nat):Int)+1)<=2)&&(au .i64 (((((Int.toNat (((x.length:Nat):Int)+1)) - 0):Nat):Int) - ((mr:Nat):Int))&&(oB 8 (((((Int.toNat (((x.length:Nat):Int)+1)) - 0):Nat):Int) - ((mr:Nat):Int)) (((((Int.toNat (((x.length:Nat):Int)+1)) - 0):Nat):Int) - ((mr:Nat):Int))&&(au .i64 (((((Int.toNat (((x.length:Nat):Int)+1)) - 0):Nat):Int) - ((mr:Nat):Int))&&(au .i64 ((((((Int.toNat (((x.length:Nat):Int)+1)) - 0):Nat):Int) - ((mr:Nat):Int)) - 1)&&al N (zy N SQ6 alH amu alI SQ3 aml amy amw amz amx SQ2 (IntKind.wrap .u64 alQ) 0 mr 0 ((Int.toNat (((x.length:Nat):Int)+1)) - 0) ((mr:Nat):Int) al5 (λu_8 q_4=>κn_ (Fa (vqs 91 []) [] x y (IntKind.wrap .u64 alQ) ((Int.toNat (((x.length:Nat):Int)+1)) - 0) u_8 q_4))) (((((((Int.toNat (((x.length:Nat):Int)+1)) - 0):Nat):Int) - ((mr:Nat):Int)) - 1),([]++[0,0]),(List.replicate (Int.toNat (((((Int.toNat (((x.length:Nat):Int)+1)) - 0):Nat):Int) - ((mr:Nat):Int))) (0:Int))))))))) (λaqK s5=>decide ((0+aqK)<=s5.length)&&(decide ((List.length ((List.take aqK (List.drop 0 s5))++[0,0]))*8<=140737488355328)&&(au .i64 (((x.length:Nat):Int)+1)&&(decide (0<=(((x.length:Nat):Int)+1)/\(((x.length:Nat):Int)+1)<=(((List.length ((List.take aqK (List.drop 0 s5))++[0,0])):Nat):Int))&&(au .i64 (((((Int.toNat (((x.length:Nat):Int)+1)) - 0):Nat):Int) - ((mr:Nat):Int))&&(oB 8 (((((Int.toNat (((x.length:Nat):Int)+1)) - 0):Nat):Int) - ((mr:Nat):Int)) (((((Int.toNat (((x.length:Nat):Int)+1)) - 0):Nat):Int) - ((mr:Nat):Int))&&(au .i64 (((((Int.toNat (((x.length:Nat):Int)+1)) - 0):Nat):Int) - ((mr:Nat):Int))&&(au .i64 ((((((Int.toNat (((x.length:Nat):Int)+1)) - 0):Nat):Int) - ((mr:Nat):Int)) - 1)&&al N (zy N SQ6 alH amu alI SQ3 aml amy amw amz amx SQ2 (IntKind.wrap .u64 alQ) 0 mr 0 ((Int.toNat (((x.length:Nat):Int)+1)) - 0) ((mr:Nat):Int) al5 (λu_9 q_5=>κn_ (Fa (vqs 91 []) [] x y (IntKind.wrap .u64 alQ) ((Int.toNat (((x.length:Nat):Int)+1)) - 0) u_9 q_5))) (((((((Int.toNat (((x.length:Nat):Int)+1)) - 0):Nat):Int) - ((mr:Nat):Int)) - 1),((List.take aqK (List.drop 0 s5))++[0,0]),(List.replicate (Int.toNat (((((Int.toNat (((x.length:Nat):Int)+1)) - 0):Nat):Int) - ((mr:Nat):Int))) (0:Int)))))))))))))))))):=by kernel_rfl
theorem Ay (x y:LI) (c_:KV):bc (CG N SQ6 alH amu alI SQ3 aml amy amw amz amx SQ2) 0 (Jr N SQ6 alH amu alI SQ3 aml amy amw amz amx SQ2) ((cds Pg 124).drop 0) 0 (st0 Pg 124 (Lh.args [.ints x,.ints y]) []) (r_ false Pg 124 0 c_)=GQ8 N SQ6 alH amu alI SQ3 aml amy amw amz amx SQ2 x y (λr0 r1=>c_ (.tup [vwr r0,vwr r1]) []):=by rw[eD 0 12 12 rfl];refine(An N SQ6 alH amu alI SQ3 aml amy amw amz amx SQ2 x y c_ _).trans ?_;simp only[agm];kernel_rfl
theorem aj7 (x y:LI) (c_:KV):vW false (CG N SQ6 alH amu alI SQ3 aml amy amw amz amx SQ2) (Jr N SQ6 alH amu alI SQ3 aml amy amw amz amx SQ2) 124 (Lh.args [.ints x,.ints y]) [] c_=GQ8 N SQ6 alH amu alI SQ3 aml amy amw amz amx SQ2 x y (λr0 r1=>c_ (.tup [vwr r0,vwr r1]) []):=
 (nl (by kernel_rfl)).trans (Ay N SQ6 alH amu alI SQ3 aml amy amw amz amx SQ2 x y c_)
theorem agf (hQ6:ab Pg 123 (FQ6 SQ6)) (aqH:ab Pg 107 (xV alH)) (awd:ab Pg 137 (aao amu)) (asA:ab Pg 106 (FU alI)) (hQ3:ab Pg 138 (FQ3 SQ3)) (avG:ab Pg 108 (ZZ aml)) (avV:ab Pg 139 (Z_ amy)) (avK:ab Pg 139 (Z2 amw)) (avX:ab Pg 121 (aaa amz)) (avR:ab Pg 140 (Z7 amx)) (hQ2:ab Pg 121 (FQ2 SQ2)):ab Pg 124 (FQ8 (GQ8 N SQ6 alH amu alI SQ3 aml amy amw amz amx SQ2)):=by
 refine ao (md:=false) (cx:=(CG N SQ6 alH amu alI SQ3 aml amy amw amz amx SQ2)) (ai (aa hQ6 (aa aqH (aa awd (aa asA (aa hQ3 (aa avG (aa (qw avV avK) (aa (qw avX hQ2) (aa avR (ac _)))))))))) (by kernel_rfl)) Lh (agZ (GQ8 N SQ6 alH amu alI SQ3 aml amy amw amz amx SQ2)) (Jr N SQ6 alH amu alI SQ3 aml amy amw amz amx SQ2) 1 0 (by kernel_rfl) (bK (As _ _ _ _ _ _ _ _ _ _ _ _)) ?_;intro a k h;unfold agZ at h;split at h;exact⟨[],rfl,rfl,(aj7 _ _ _ _ _ _ _ _ _ _ _ _ _ _ _).trans h⟩;cases h
end
def aif (N:Nat) (amg:q7):Nat->Option Ann:=λb_=>none
theorem adt (N:Nat) (amg:q7) (asD:ab Pg 146 (FY amg)):ab Pg 136 (aaB (abD N amg)):=by
 refine ao (md:=false) (cx:=⟨Pg,ah [(146,(FY amg))],am,N⟩) (ai (aa asD (ac _)) (by kernel_rfl)) Yl (ZG (abD N amg)) (aif N amg) 0 0 (by kernel_rfl) (λi_ hi_=>by omega) ?_;intro a k h;unfold ZG at h;split at h;exact⟨[],rfl,rfl,.trans (by kernel_rfl) h⟩;cases h
def jB:StSh:=⟨(.roi .u64::.roi .u64::sqs 80 []),[]⟩
def xe:StSh:=⟨(.roi .u64::.roi .u64::sqs 80 []),[]⟩
section
variable (N:Nat) (SQ6:uf) (amq:DZ) (amo:D8) (amr:D3) (alk:dw) (SQ8:yP) (amn:D7) (alI:oF)
noncomputable abbrev wd:Cx:=⟨Pg,ah [(123,(FQ6 SQ6)),(132,(Z9 amq)),(134,(aaC amo)),(133,(aae amr)),(135,(iS alk)),(124,(FQ8 SQ8)),(136,(aaB amn)),(106,(FU alI))],am,N⟩
def ju:List Atom->K->Bool:=λa_ κ=>match a_ with
 | [.ints x_2,.ints y_2]=>al N (Ci N SQ6 amq amo amr alk SQ8 amn alI (λr0 r1=>κ.ext 0 (xe.build [.ints r0,.ints r1]))) (x_2,y_2)
 | _=>false
def jC:StSh:=⟨(sqs 11 (.int .u64::.int .u64::sqs 69 [])),[]⟩
def xf:StSh:=⟨(sqs 11 (.int .u64::sqs 70 [])),[]⟩
def jv:List Atom->K->Bool:=λa_ κ=>match a_ with
 | [.int a,.int b]=>al N (FJ N SQ6 amq amo amr alk SQ8 amn alI (λr0=>κ.ext 2 (xf.build [.int r0]))) (a,b)
 | _=>false
def vT:Nat->Option Ann:=λb_=>cond (b_==0) (some ⟨⟨[0,1],[],[],[]⟩,[(0,⟨[0,1],[],[],[]⟩)],some ⟨[4],[],[],[]⟩,some (aF [(jB,ju N SQ6 amq amo amr alk SQ8 amn alI)])⟩) (cond (b_==2) (some ⟨⟨[11,12],[],[],[]⟩,[(2,⟨[11],[],[],[]⟩)],some ⟨[4],[],[],[]⟩,some (aF [(jC,jv N SQ6 amq amo amr alk SQ8 amn alI)])⟩) (none))
theorem wz:aH (wd N SQ6 amq amo amr alk SQ8 amn alI) 0 (vT N SQ6 amq amo amr alk SQ8 amn alI) (lp Pg 122 0) (jB,ju N SQ6 amq amo amr alk SQ8 amn alI):=by
 intro a κ h;simp only at h;unfold ju at h;split at h
 ·rename_i x_2 y_2;exact .trans (aJ (λ(v_:LI × LI)=>jB.build [.ints v_.1,.ints v_.2]) (λv_ K_=>by obtain⟨x_2,y_2⟩:=v_; kernel_rfl) N (x_2,y_2)) h
 ·cases h
theorem wA:aH (wd N SQ6 amq amo amr alk SQ8 amn alI) 0 (vT N SQ6 amq amo amr alk SQ8 amn alI) (lp Pg 122 1) (jC,jv N SQ6 amq amo amr alk SQ8 amn alI):=by
 intro a κ h;simp only at h;unfold jv at h;split at h
 ·rename_i a b;exact .trans (aJ (λ(v_:Int × Int)=>jC.build [.int v_.1,.int v_.2]) (λv_ K_=>by obtain⟨a,b⟩:=v_; kernel_rfl) N (a,b)) h
 ·cases h
theorem BU:aT (wd N SQ6 amq amo amr alk SQ8 amn alI) 0 (vT N SQ6 amq amo amr alk SQ8 amn alI) (lp Pg 122 0):=
 aC [(jB,ju N SQ6 amq amo amr alk SQ8 amn alI)] (by kernel_rfl) ⟨wz _ _ _ _ _ _ _ _ _,trivial⟩
theorem BV:aT (wd N SQ6 amq amo amr alk SQ8 amn alI) 0 (vT N SQ6 amq amo amr alk SQ8 amn alI) (lp Pg 122 1):=
 aC [(jC,jv N SQ6 amq amo amr alk SQ8 amn alI)] (by kernel_rfl) ⟨wA _ _ _ _ _ _ _ _ _,trivial⟩
def Ir (d_:List V) (u_:List (Option Blk)) (x y x_4 y_4:LI):St:=⟨(vwr x_4::vwr y_4::dqs d_ 0 80 []),[]⟩
def Ip (d_:List V) (u_:List (Option Blk)) (x y x_1 y_1:LI):St:=⟨(vwr x_1::vwr y_1::dqs d_ 0 80 []),[]⟩
theorem agr (d_:List V) (u_:List (Option Blk)) (x y x_4 y_4:LI) (c_:KV):bc (wd N SQ6 amq amo amr alk SQ8 amn alI) 0 (vT N SQ6 amq amo amr alk SQ8 amn alI) ((cds Pg 122).drop 6) 0 (Ir d_ u_ x y x_4 y_4) (r_ false Pg 122 0 c_)=zQ N SQ6 amq amo amr alk SQ8 amn alI x y x_4 y_4 (λr0=>c_ (vwr r0) []):=by kernel_rfl
theorem agh (d_:List V) (u_:List (Option Blk)) (x y x_1 y_1:LI) (c_:KV) (κn_:St->Bool):bc (wd N SQ6 amq amo amr alk SQ8 amn alI) 0 (vT N SQ6 amq amo amr alk SQ8 amn alI) (sg Pg 122 3 3) 0 (Ip d_ u_ x y x_1 y_1) { (r_ false Pg 122 0 c_)with nrm:=κn_ } = (al N (Ci N SQ6 amq amo amr alk SQ8 amn alI (λx_3 y_3=>cond ((decide (((y_3.length:Nat):Int)>0))==true) (cond (decide (((x_3.length:Nat):Int)>1)) (SQ8 x_3 y_3 (λamd s5=>κn_ (Ir (vqs 7 (vwr amd::vwr s5::vqs 39 (vwr y_3::vwi ((y_3.length:Nat):Int)::.bool (decide (((y_3.length:Nat):Int)>0))::.bool true::vwr x_3::vwi ((x_3.length:Nat):Int)::.bool (decide (((x_3.length:Nat):Int)>1))::.bool true::.tup [vwr amd,vwr s5]::vwr x_3::vwr y_3::.tup [vwr amd,vwr s5]::vwr amd::vwr s5::vwr y_3::vwr s5::vqs 16 []))) [] x y y_3 s5))) (κn_ (Ir (vqs 48 (vwr y_3::vwi ((y_3.length:Nat):Int)::.bool (decide (((y_3.length:Nat):Int)>0))::.bool true::vwr x_3::vwi ((x_3.length:Nat):Int)::.bool (decide (((x_3.length:Nat):Int)>1))::.bool false::vqs 24 [])) [] x y x_3 y_3))) (κn_ (Ir (vqs 48 (vwr y_3::vwi ((y_3.length:Nat):Int)::.bool (decide (((y_3.length:Nat):Int)>0))::.bool false::.val undef::.val undef::.val undef::.bool false::vqs 24 [])) [] x y x_3 y_3)))) (x_1,y_1)):=by kernel_rfl
theorem agn (d_:List V) (u_:List (Option Blk)) (x y x_1 y_1:LI) (c_:KV):bc (wd N SQ6 amq amo amr alk SQ8 amn alI) 0 (vT N SQ6 amq amo amr alk SQ8 amn alI) ((cds Pg 122).drop 3) 0 (Ip d_ u_ x y x_1 y_1) (r_ false Pg 122 0 c_)=Ja N SQ6 amq amo amr alk SQ8 amn alI x y x_1 y_1 (λr0=>c_ (vwr r0) []):=by rw[eD 3 3 6 rfl];refine(agh N SQ6 amq amo amr alk SQ8 amn alI d_ u_ x y x_1 y_1 c_ _).trans ?_;simp only[agr];kernel_rfl
theorem BR (x y:LI) (c_:KV) (κn_:St->Bool):bc (wd N SQ6 amq amo amr alk SQ8 amn alI) 0 (vT N SQ6 amq amo amr alk SQ8 amn alI) (sg Pg 122 0 3) 0 (st0 Pg 122 (Fw.args [.ints x,.ints y]) []) { (r_ false Pg 122 0 c_)with nrm:=κn_ } = (SQ6 x y (λnr=>cond (decide (nr<0)) (κn_ (Ip (.any::.any::.nil::vqs 8 (vwr x::vwr y::vwi nr::.bool true::vwr y::vwr x::vqs 63 [])) [] x y y x)) (κn_ (Ip (.any::.any::.nil::vqs 8 (vwr x::vwr y::vwi nr::.bool false::vqs 65 [])) [] x y x y)))):=by kernel_rfl
theorem B3 (x y:LI) (c_:KV):bc (wd N SQ6 amq amo amr alk SQ8 amn alI) 0 (vT N SQ6 amq amo amr alk SQ8 amn alI) ((cds Pg 122).drop 0) 0 (st0 Pg 122 (Fw.args [.ints x,.ints y]) []) (r_ false Pg 122 0 c_)=RI N SQ6 amq amo amr alk SQ8 amn alI x y (λr0=>c_ (vwr r0) []):=by rw[eD 0 3 3 rfl];refine(BR N SQ6 amq amo amr alk SQ8 amn alI x y c_ _).trans ?_;simp only[agn];kernel_rfl
theorem ais (x y:LI) (c_:KV):vW false (wd N SQ6 amq amo amr alk SQ8 amn alI) (vT N SQ6 amq amo amr alk SQ8 amn alI) 122 (Fw.args [.ints x,.ints y]) [] c_=RI N SQ6 amq amo amr alk SQ8 amn alI x y (λr0=>c_ (vwr r0) []):=
 (nl (by kernel_rfl)).trans (B3 N SQ6 amq amo amr alk SQ8 amn alI x y c_)
theorem acv (hQ6:ab Pg 123 (FQ6 SQ6)) (avU:ab Pg 132 (Z9 amq)) (awr:ab Pg 134 (aaC amo)) (av2:ab Pg 133 (aae amr)) (apU:ab Pg 135 (iS alk)) (hQ8:ab Pg 124 (FQ8 SQ8)) (awq:ab Pg 136 (aaB amn)) (asA:ab Pg 106 (FU alI)):ab Pg 122 (FV (RI N SQ6 amq amo amr alk SQ8 amn alI)):=by
 refine ao (md:=false) (cx:=(wd N SQ6 amq amo amr alk SQ8 amn alI)) (ai (aa hQ6 (aa avU (aa awr (aa av2 (aa apU (aa hQ8 (aa awq (aa asA (ac _))))))))) (by kernel_rfl)) Fw (YS (RI N SQ6 amq amo amr alk SQ8 amn alI)) (vT N SQ6 amq amo amr alk SQ8 amn alI) 2 0 (by kernel_rfl) (jV (BU _ _ _ _ _ _ _ _ _) (BV _ _ _ _ _ _ _ _ _)) ?_;intro a k h;unfold YS at h;split at h;exact⟨[],rfl,rfl,(ais _ _ _ _ _ _ _ _ _ _ _ _).trans h⟩;cases h
end
def ahi (N:Nat):Nat->Option Ann:=λb_=>none
theorem ab6 (N:Nat):ab Pg 105 (I2 (RH N)):=by
 refine ao (md:=false) (cx:=⟨Pg,ah [],am,N⟩) (ai (ac _) (by kernel_rfl)) Fv (Yv (RH N)) (ahi N) 0 1 (by kernel_rfl) (λi_ hi_=>by omega) ?_;intro a k h;unfold Yv at h;split at h;exact⟨[_],rfl,rfl,.trans (by kernel_rfl) h⟩;cases h
def ahw (N:Nat):Nat->Option Ann:=λb_=>none
theorem acm (N:Nat):ab Pg 105 (Rv (TS N)):=by
 refine ao (md:=false) (cx:=⟨Pg,ah [],am,N⟩) (ai (ac _) (by kernel_rfl)) Xp (YK (TS N)) (ahw N) 0 1 (by kernel_rfl) (λi_ hi_=>by omega) ?_;intro a k h;unfold YK at h;split at h;exact⟨[_],rfl,rfl,.trans (by kernel_rfl) h⟩;cases h
section
variable (N:Nat) (amj:qb) (SQ6:uf) (SQ8:yP) (alH:jK) (amP:tk) (anm:yo)
noncomputable abbrev JS:Cx:=⟨Pg,ah [(122,(FV amj)),(123,(FQ6 SQ6)),(124,(FQ8 SQ8)),(107,(xV alH)),(105,(Cc (I2 amP) (Rv anm) Fv))],am,N⟩
def Jn (N:Nat) (amj:qb) (SQ6:uf) (SQ8:yP) (alH:jK) (amP:tk) (anm:yo):Nat->Option Ann:=λb_=>none
def MQ (d_:List V) (u_:List (Option Blk)) (neg:Bool) (a b:LI) (b_1 b_2:Bool) (a_1 b_3:LI):St:=⟨(.ptr 0 0::.bool neg::vwr a_1::vwr b_3::dqs d_ 0 39 []),[some ⟨144,1,.cells [.bool b_1,.nil,.bool b_2,.nil]⟩,(u_.getD 0 none)]⟩
theorem agp (d_:List V) (u_:List (Option Blk)) (neg:Bool) (a b:LI) (b_1 b_2:Bool) (a_1 b_3:LI) (c_:KV):bc (JS N amj SQ6 SQ8 alH amP anm) 1 (Jn N amj SQ6 SQ8 alH amP anm) ((cds Pg 110).drop 4) 0 (MQ d_ u_ neg a b b_1 b_2 a_1 b_3) (r_ false Pg 110 1 c_)=Jb N amj SQ6 SQ8 alH amP anm neg a b b_1 b_2 a_1 b_3 (λr0 r1 r2 r3=>c_ (.ptr 0 0) [⟨144,1,.cells [.bool r0,vwr r1,.bool r2,vwr r3]⟩]):=by kernel_rfl
theorem agj (neg:Bool) (a b:LI) (b_1 b_2:Bool) (c_:KV) (κn_:St->Bool):bc (JS N amj SQ6 SQ8 alH amP anm) 1 (Jn N amj SQ6 SQ8 alH amP anm) (sg Pg 110 0 4) 0 (st0 Pg 110 (Fx.args [.bool neg,.ints a,.ints b,.bool b_1,.bool b_2]) [⟨144,1,.cells [.bool b_1,.nil,.bool b_2,.nil]⟩]) { (r_ false Pg 110 1 c_)with nrm:=κn_ } = (amj a b (λnsr=>SQ6 nsr [1] (λnr=>cond (nr != 0) (SQ8 a nsr (λalG al3=>SQ8 b nsr (λal5 amd=>κn_ (MQ (vqs 4 (.val (.pointer none)::vwr nsr::vwr a::vwr b::vwr nsr::vwr nsr::.slw 1::vwi nr::.bool true::.tup [vwr alG,vwr al3]::vwr a::vwr nsr::.tup [vwr alG,vwr al3]::vwr alG::vwr al3::.tup [vwr al5,vwr amd]::vwr b::vwr nsr::.tup [vwr al5,vwr amd]::vwr al5::vwr amd::vqs 14 [])) [some ⟨22,1,.ints .u64 [1]⟩] neg a b b_1 b_2 alG al5)))) (κn_ (MQ (vqs 4 (.val (.pointer none)::vwr nsr::vwr a::vwr b::vwr nsr::vwr nsr::.slw 1::vwi nr::.bool false::vqs 26 [])) [some ⟨22,1,.ints .u64 [1]⟩] neg a b b_1 b_2 a b))))):=by kernel_rfl
theorem agx (neg:Bool) (a b:LI) (b_1 b_2:Bool) (c_:KV):bc (JS N amj SQ6 SQ8 alH amP anm) 1 (Jn N amj SQ6 SQ8 alH amP anm) ((cds Pg 110).drop 0) 0 (st0 Pg 110 (Fx.args [.bool neg,.ints a,.ints b,.bool b_1,.bool b_2]) [⟨144,1,.cells [.bool b_1,.nil,.bool b_2,.nil]⟩]) (r_ false Pg 110 1 c_)=RJ N amj SQ6 SQ8 alH amP anm neg a b b_1 b_2 (λr0 r1 r2 r3=>c_ (.ptr 0 0) [⟨144,1,.cells [.bool r0,vwr r1,.bool r2,vwr r3]⟩]):=by rw[eD 0 4 4 rfl];refine(agj N amj SQ6 SQ8 alH amP anm neg a b b_1 b_2 c_ _).trans ?_;simp only[agp];kernel_rfl
theorem aiu (neg:Bool) (a b:LI) (b_1 b_2:Bool) (c_:KV):vW false (JS N amj SQ6 SQ8 alH amP anm) (Jn N amj SQ6 SQ8 alH amP anm) 110 (Fx.args [.bool neg,.ints a,.ints b,.bool b_1,.bool b_2]) [⟨144,1,.cells [.bool b_1,.nil,.bool b_2,.nil]⟩] c_=RJ N amj SQ6 SQ8 alH amP anm neg a b b_1 b_2 (λr0 r1 r2 r3=>c_ (.ptr 0 0) [⟨144,1,.cells [.bool r0,vwr r1,.bool r2,vwr r3]⟩]):=
 (nl (by kernel_rfl)).trans (agx N amj SQ6 SQ8 alH amP anm neg a b b_1 b_2 c_)
theorem acY (asB:ab Pg 122 (FV amj)) (hQ6:ab Pg 123 (FQ6 SQ6)) (hQ8:ab Pg 124 (FQ8 SQ8)) (aqH:ab Pg 107 (xV alH)) (atu:ab Pg 105 (I2 amP)) (at6:ab Pg 105 (Rv anm)):ab Pg 110 (aag (RJ N amj SQ6 SQ8 alH amP anm)):=by
 refine ao (md:=false) (cx:=(JS N amj SQ6 SQ8 alH amP anm)) (ai (aa asB (aa hQ6 (aa hQ8 (aa aqH (aa (qw atu at6) (ac _)))))) (by kernel_rfl)) Fx (Zd (RJ N amj SQ6 SQ8 alH amP anm)) (Jn N amj SQ6 SQ8 alH amP anm) 0 1 (by kernel_rfl) (λi_ hi_=>by omega) ?_;intro a k h;unfold Zd at h;split at h;exact⟨[_],rfl,rfl,(aiu _ _ _ _ _ _ _ _ _ _ _ _ _).trans h⟩;cases h
end
def aj2 (N:Nat) (aqV:GE):Nat->Option Ann:=λb_=>none
theorem age (N:Nat) (aqV:GE) (av4:ab Pg 110 (aag aqV)):ab Pg 95 (FQ7 (GQ7 N aqV)):=by
 refine ao (md:=false) (cx:=⟨Pg,ah [(110,(aag aqV))],am,N⟩) (ai (aa av4 (ac _)) (by kernel_rfl)) ae0 (agY (GQ7 N aqV)) (aj2 N aqV) 0 3 (by kernel_rfl) (λi_ hi_=>by omega) ?_;intro a k h;unfold agY at h;split at h;exact⟨[_,_,_],rfl,rfl,.trans (by kernel_rfl) h⟩;cases h
def k8:StSh:=⟨(.any::.roi .u64::.any::.any::.any::.slw 0::.int .i64::.int .u64::.int .u64::sqs 16 (.roi .u64::.int .i64::.int .i64::sqs 4 (.roi .u64::.int .i64::.int .i64::sqs 33 []))),[some (22,1,.ints .u64)]⟩
def zJ:StSh:=⟨(.any::.roi .u64::.any::.any::.any::.slw 0::.int .i64::.any::.int .u64::sqs 16 (.roi .u64::.int .i64::.int .i64::sqs 40 [])),[some (22,1,.ints .u64)]⟩
section
variable (N:Nat) (alJ:oD) (SQ2:kH)
noncomputable abbrev JT:Cx:=⟨Pg,ah [(125,(FR alJ)),(121,(FQ2 SQ2))],am,N⟩
def kT:List Atom->K->Bool:=λa_ κ=>match a_ with
 | [.ints y_2,.int i,.int a,.int carry,.ints asf,.int asg,.int ash,.ints t32,.int t33,.int t34,.ints z_1]=>al N (oi N alJ SQ2 y_2 i a asf asg ash t32 t33 (λr2 r6=>κ.ext 2 (zJ.build [.ints y_2,.int i,.int r2,.ints asf,.int asg,.int ash,.ints r6]))) (carry,t34,z_1)
 | _=>false
def k6:StSh:=⟨(.any::.roi .u64::.any::.any::.any::.slw 0::sqs 19 (.roi .u64::.int .i64::.int .i64::sqs 40 [])),[some (22,1,.ints .u64)]⟩
def zI:StSh:=⟨(sqs 5 (.slw 0::sqs 62 [])),[some (22,1,.ints .u64)]⟩
def kS:List Atom->K->Bool:=λa_ κ=>match a_ with
 | [.ints y_1,.ints t25,.int t26,.int t27,.ints z]=>al N (oh N alJ SQ2 y_1 t25 t26 (λr0=>κ.ext 0 (zI.build [.ints r0]))) (t27,z)
 | _=>false
def Jp:Nat->Option Ann:=λb_=>cond (b_==2) (some ⟨⟨[1,5,6,7,8,25,26,27,32,33,34],[],[],[]⟩,[(2,⟨[1,5,6,8,25,26,27],[],[],[]⟩)],some ⟨[4],[],[],[]⟩,some (aF [(k8,kT N alJ SQ2)])⟩) (cond (b_==0) (some ⟨⟨[1,5,25,26,27],[],[],[]⟩,[(0,⟨[5],[],[],[]⟩)],some ⟨[4],[],[],[]⟩,some (aF [(k6,kS N alJ SQ2)])⟩) (none))
theorem zj:aH (JT N alJ SQ2) 0 (Jp N alJ SQ2) (lp Pg 112 1) (k8,kT N alJ SQ2):=by
 intro a κ h;simp only at h;unfold kT at h;split at h
 ·rename_i y_2 i a carry asf asg ash t32 t33 t34 z_1;exact .trans (aJ (λ(v_:Int × Int × LI)=>k8.build [.ints y_2,.int i,.int a,.int v_.1,.ints asf,.int asg,.int ash,.ints t32,.int t33,.int v_.2.1,.ints v_.2.2]) (λv_ K_=>by obtain⟨carry,t34,z_1⟩:=v_; kernel_rfl) N (carry,t34,z_1)) h
 ·cases h
theorem zi:aH (JT N alJ SQ2) 0 (Jp N alJ SQ2) (lp Pg 112 0) (k6,kS N alJ SQ2):=by
 intro a κ h;simp only at h;unfold kS at h;split at h
 ·rename_i y_1 t25 t26 t27 z;exact .trans (aJ (λ(v_:Int × LI)=>k6.build [.ints y_1,.ints t25,.int t26,.int v_.1,.ints v_.2]) (λv_ K_=>by obtain⟨t27,z⟩:=v_; kernel_rfl) N (t27,z)) h
 ·cases h
theorem ER:aT (JT N alJ SQ2) 0 (Jp N alJ SQ2) (lp Pg 112 1):=
 aC [(k8,kT N alJ SQ2)] (by kernel_rfl) ⟨zj _ _ _,trivial⟩
theorem EQ:aT (JT N alJ SQ2) 0 (Jp N alJ SQ2) (lp Pg 112 0):=
 aC [(k6,kS N alJ SQ2)] (by kernel_rfl) ⟨zi _ _ _,trivial⟩
theorem ac5 (asy:ab Pg 125 (FR alJ)) (hQ2:ab Pg 121 (FQ2 SQ2)):ab Pg 112 (FZ (abn N alJ SQ2)):=by
 refine ao (md:=false) (cx:=(JT N alJ SQ2)) (ai (aa asy (aa hQ2 (ac _))) (by kernel_rfl)) X2 (Zj (abn N alJ SQ2)) (Jp N alJ SQ2) 2 0 (by kernel_rfl) (jV (EQ _ _ _) (ER _ _ _)) ?_;intro a k h;unfold Zj at h;split at h;exact⟨[],rfl,rfl,.trans (by kernel_rfl) h⟩;cases h
end
end Go.Proofs.YtldenpmpmifnlaaGreatDoor
