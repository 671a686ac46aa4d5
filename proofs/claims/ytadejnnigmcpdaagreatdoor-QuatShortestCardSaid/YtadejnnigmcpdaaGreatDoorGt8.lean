/-
  THE TIES: each printed meaning is what the program does (written by program).
  Conditions: none.
-/
import Derived.Test.YtadejnnigmcpdaaGreatDoorGs
set_option linter.unusedVariables false
namespace Go.Proofs.YtadejnnigmcpdaaGreatDoor
open Go Go.Mach Go.Proofs
set_option maxRecDepth 50000
def cM:StSh:=⟨(.rof::.rof::.any::.any::.ptr 0 0::.ptr 1 0::.any::.any::.any::.int .i64::.int .i64::sqs 17 []),[some (42,1,.cells [.val,.int .i64]),some (42,1,.cells [.ptr 2 0,.int .i64]),some (98,1,.cells [.bool,.roi .u32])]⟩
def ke:StSh:=⟨(sqs 4 (.ptr 0 0::.ptr 1 0::sqs 22 [])),[some (42,1,.cells [.val,.int .i64]),some (42,1,.cells [.ptr 2 0,.int .i64]),some (98,1,.cells [.bool,.roi .u32])]⟩
section
variable (N:Nat) (SZ159:te) (SZ160:lE) (SZ0:mK) (SZ30:zM) (SZ1:po)
noncomputable abbrev Rz:Cx:=⟨Pg,ah [(100,(I3 SZ159)),(28,(ws SZ160)),(19,(FZ0 SZ0)),(15,(xO (Yj SZ30) (FZ1 SZ1) Gr))],aj,N⟩
def cI:List Atom->K->Bool:=λa_ κ=>match a_ with
 | [.fls a_2,.fls b_2,.int apo,.int anQ,.val aoI,.int aoJ,.int s_1,.bool an9,.ints an_]=>aH N (jA N SZ159 SZ160 SZ0 SZ30 SZ1 a_2 b_2 apo aoI aoJ (λr2 r3 r4=>κ.ext 0 (ke.build [.val aoI,.int aoJ,.int r2,.bool r3,.ints r4]))) (anQ,s_1,an9,an_)
 | _=>false
def ET:Nat->Option Ann:=λb_=>cond (b_==0) (some ⟨⟨[0,1,4,5,9,10],[],[(2,1,some .u32)]⟩,[(0,⟨[4,5],[],[]⟩)],some ⟨[4],[],[]⟩,some (aR [(cM,cI N SZ159 SZ160 SZ0 SZ30 SZ1)])⟩) (none)
theorem j0:aV (Rz N SZ159 SZ160 SZ0 SZ30 SZ1) 0 (ET N SZ159 SZ160 SZ0 SZ30 SZ1) (lp Pg 56 0) (cM,cI N SZ159 SZ160 SZ0 SZ30 SZ1):=by
 intro a κ h;simp only at h;unfold cI at h;split at h
 ·rename_i a_2 b_2 apo anQ aoI aoJ s_1 an9 an_;exact .trans (aW (λ(v_:Int × Int × Bool × LI)=>cM.build [.fls a_2,.fls b_2,.int apo,.int v_.1,.val aoI,.int aoJ,.int v_.2.1,.bool v_.2.2.1,.ints v_.2.2.2]) (λv_ K_=>by obtain⟨anQ,s_1,an9,an_⟩:=v_; kernel_rfl) N (anQ,s_1,an9,an_)) h
 ·cases h
theorem lZ:be (Rz N SZ159 SZ160 SZ0 SZ30 SZ1) 0 (ET N SZ159 SZ160 SZ0 SZ30 SZ1) (lp Pg 56 0):=
 aN [(cM,cI N SZ159 SZ160 SZ0 SZ30 SZ1)] (by kernel_rfl) ⟨j0 _ _ _ _ _ _,trivial⟩
theorem TG (hZ159:ac Pg 100 (I3 SZ159)) (hZ160:ac Pg 28 (ws SZ160)) (hZ0:ac Pg 19 (FZ0 SZ0)) (hZ30:ac Pg 15 (Yj SZ30)) (hZ1:ac Pg 15 (FZ1 SZ1)):ac Pg 56 (Jy (Kd N SZ159 SZ160 SZ0 SZ30 SZ1)):=by
 refine am (cx:=(Rz N SZ159 SZ160 SZ0 SZ30 SZ1)) (aa hZ159 (aa hZ160 (aa hZ0 (aa (jo hZ30 hZ1) (ae _))))) Na (Ic (Kd N SZ159 SZ160 SZ0 SZ30 SZ1)) (ET N SZ159 SZ160 SZ0 SZ30 SZ1) 1 0 (by kernel_rfl) (aM (lZ _ _ _ _ _ _)) ?_;intro a k h;unfold Ic at h;split at h;exact⟨[],rfl,rfl,.trans (by kernel_rfl) h⟩;cases h
end
def aio (N:Nat) (SZ199:tT):Nat->Option Ann:=λb_=>none
theorem aak (N:Nat) (SZ199:tT) (hZ199:ac Pg 56 (Jy SZ199)):ac Pg 18 (PD (Y2 N SZ199)):=by
 refine am (cx:=⟨Pg,ah [(56,(Jy SZ199))],aj,N⟩) (aa hZ199 (ae _)) Vs (WU (Y2 N SZ199)) (aio N SZ199) 0 0 (by kernel_rfl) (λi_ hi_=>by omega) ?_;intro a k h;unfold WU at h;split at h;exact⟨[],rfl,rfl,.trans (by kernel_rfl) h⟩;cases h
def aeR (N:Nat) (SZ14:gC):Nat->Option Ann:=λb_=>none
theorem Tf (N:Nat) (SZ14:gC) (hZ14:ac Pg 51 (yw SZ14)):ac Pg 16 (Jc (J5 N SZ14)):=by
 refine am (cx:=⟨Pg,ah [(51,(yw SZ14))],aj,N⟩) (aa hZ14 (ae _)) MK (HM (J5 N SZ14)) (aeR N SZ14) 0 0 (by kernel_rfl) (λi_ hi_=>by omega) ?_;intro a k h;unfold HM at h;split at h;exact⟨[],rfl,rfl,.trans (by kernel_rfl) h⟩;cases h
def aeq (N:Nat) (SZ98:qM):Nat->Option Ann:=λb_=>none
theorem Sw (N:Nat) (SZ98:qM) (hZ98:ac Pg 99 (NJ SZ98)):ac Pg 55 (IF (JO N SZ98)):=by
 refine au (cx:=⟨Pg,ah [(99,(NJ SZ98))],aj,N⟩) (aa hZ98 (ae _)) L7 (G4 (JO N SZ98)) (aeq N SZ98) 0 2 (by kernel_rfl) (λi_ hi_=>by omega) ?_;intro a k h;unfold G4 at h;split at h;exact⟨[_,_],rfl,rfl,.trans (by kernel_rfl) h⟩;cases h
def ah3 (N:Nat) (SZ125:sK):Nat->Option Ann:=λb_=>none
theorem ZT (N:Nat) (SZ125:sK) (hZ125:ac Pg 55 (IF SZ125)):ac Pg 17 (Cf (P6 N SZ125)):=by
 refine am (cx:=⟨Pg,ah [(55,(IF SZ125))],aj,N⟩) (aa hZ125 (ae _)) U0 (Wp (P6 N SZ125)) (ah3 N SZ125) 0 1 (by kernel_rfl) (λi_ hi_=>by omega) ?_;intro a k h;unfold Wp at h;split at h;exact⟨[_],rfl,rfl,.trans (by kernel_rfl) h⟩;cases h
def aef (N:Nat) (SZ135:lu) (SZ36:eu):Nat->Option Ann:=λb_=>none
theorem Sf (N:Nat) (SZ135:lu) (SZ36:eu) (hZ135:ac Pg 101 (zd SZ135)) (hZ36:ac Pg 99 (oC SZ36)):ac Pg 57 (Iz (PM N SZ135 SZ36)):=by
 refine au (cx:=⟨Pg,ah [(101,(zd SZ135)),(99,(oC SZ36))],aj,N⟩) (aa hZ135 (aa hZ36 (ae _))) LQ (GM (PM N SZ135 SZ36)) (aef N SZ135 SZ36) 0 2 (by kernel_rfl) (λi_ hi_=>by omega) ?_;intro a k h;unfold GM at h;split at h;exact⟨[_,_],rfl,rfl,.trans (by kernel_rfl) h⟩;cases h
def ah8 (N:Nat) (SZ110:sF):Nat->Option Ann:=λb_=>none
theorem Z0 (N:Nat) (SZ110:sF) (hZ110:ac Pg 57 (Iz SZ110)):ac Pg 19 (Ns (adr N SZ110)):=by
 refine am (cx:=⟨Pg,ah [(57,(Iz SZ110))],aj,N⟩) (aa hZ110 (ae _)) B5 (Wz (adr N SZ110)) (ah8 N SZ110) 0 1 (by kernel_rfl) (λi_ hi_=>by omega) ?_;intro a k h;unfold Wz at h;split at h;exact⟨[_],rfl,rfl,.trans (by kernel_rfl) h⟩;cases h
def aes (N:Nat) (SZ14:gC):Nat->Option Ann:=λb_=>none
theorem Sy (N:Nat) (SZ14:gC) (hZ14:ac Pg 51 (yw SZ14)):ac Pg 14 (zc (JQ N SZ14)):=by
 refine am (cx:=⟨Pg,ah [(51,(yw SZ14))],aj,N⟩) (aa hZ14 (ae _)) L9 (G6 (JQ N SZ14)) (aes N SZ14) 0 0 (by kernel_rfl) (λi_ hi_=>by omega) ?_;intro a k h;unfold G6 at h;split at h;exact⟨[],rfl,rfl,.trans (by kernel_rfl) h⟩;cases h
def ah4 (N:Nat) (SZ16:mz) (SZ1:po) (SZ26:er):Nat->Option Ann:=λb_=>none
theorem ZW (N:Nat) (SZ16:mz) (SZ1:po) (SZ26:er) (hZ16:ac Pg 17 (Cf SZ16)) (hZ1:ac Pg 15 (FZ1 SZ1)) (hZ26:ac Pg 52 (oB SZ26)):ac Pg 20 (Np (YT N SZ16 SZ1 SZ26)):=by
 refine am (cx:=⟨Pg,ah [(17,(Cf SZ16)),(15,(FZ1 SZ1)),(52,(oB SZ26))],aj,N⟩) (aa hZ16 (aa hZ1 (aa hZ26 (ae _)))) U7 (Wu (YT N SZ16 SZ1 SZ26)) (ah4 N SZ16 SZ1 SZ26) 0 2 (by kernel_rfl) (λi_ hi_=>by omega) ?_;intro a k h;unfold Wu at h;split at h;exact⟨[_,_],rfl,rfl,.trans (by kernel_rfl) h⟩;cases h
def aie (N:Nat) (SZ16:mz) (SZ1:po) (SZ26:er) (SZ23:qz) (SZ0:mK) (SZ127:ls) (SZ19:qx):Nat->Option Ann:=λb_=>none
theorem Z_ (N:Nat) (SZ16:mz) (SZ1:po) (SZ26:er) (SZ23:qz) (SZ0:mK) (SZ127:ls) (SZ19:qx) (hZ16:ac Pg 17 (Cf SZ16)) (hZ1:ac Pg 15 (FZ1 SZ1)) (hZ26:ac Pg 52 (oB SZ26)) (hZ23:ac Pg 19 (Ns SZ23)) (hZ0:ac Pg 19 (FZ0 SZ0)) (hZ127:ac Pg 14 (zc SZ127)) (hZ19:ac Pg 20 (Np SZ19)):ac Pg 68 (Ym (ady N SZ16 SZ1 SZ26 SZ23 SZ0 SZ127 SZ19)):=by
 refine am (cx:=⟨Pg,ah [(17,(Cf SZ16)),(15,(FZ1 SZ1)),(52,(oB SZ26)),(19,(xO (Ns SZ23) (FZ0 SZ0) B5)),(14,(zc SZ127)),(20,(Np SZ19))],aj,N⟩) (aa hZ16 (aa hZ1 (aa hZ26 (aa (jo hZ23 hZ0) (aa hZ127 (aa hZ19 (ae _))))))) Vh (WJ (ady N SZ16 SZ1 SZ26 SZ23 SZ0 SZ127 SZ19)) (aie N SZ16 SZ1 SZ26 SZ23 SZ0 SZ127 SZ19) 0 3 (by kernel_rfl) (λi_ hi_=>by omega) ?_;intro a k h;unfold WJ at h;split at h;exact⟨[_,_,_],rfl,rfl,.trans (by kernel_rfl) h⟩;cases h
def aid (N:Nat) (SZ1:po) (SZ16:mz) (SZ26:er) (SZ23:qz) (SZ0:mK) (SZ127:ls) (SZ19:qx):Nat->Option Ann:=λb_=>none
theorem Z9 (N:Nat) (SZ1:po) (SZ16:mz) (SZ26:er) (SZ23:qz) (SZ0:mK) (SZ127:ls) (SZ19:qx) (hZ1:ac Pg 15 (FZ1 SZ1)) (hZ16:ac Pg 17 (Cf SZ16)) (hZ26:ac Pg 52 (oB SZ26)) (hZ23:ac Pg 19 (Ns SZ23)) (hZ0:ac Pg 19 (FZ0 SZ0)) (hZ127:ac Pg 14 (zc SZ127)) (hZ19:ac Pg 20 (Np SZ19)):ac Pg 69 (Yl (adx N SZ1 SZ16 SZ26 SZ23 SZ0 SZ127 SZ19)):=by
 refine am (cx:=⟨Pg,ah [(15,(FZ1 SZ1)),(17,(Cf SZ16)),(52,(oB SZ26)),(19,(xO (Ns SZ23) (FZ0 SZ0) B5)),(14,(zc SZ127)),(20,(Np SZ19))],aj,N⟩) (aa hZ1 (aa hZ16 (aa hZ26 (aa (jo hZ23 hZ0) (aa hZ127 (aa hZ19 (ae _))))))) Vg (WI (adx N SZ1 SZ16 SZ26 SZ23 SZ0 SZ127 SZ19)) (aid N SZ1 SZ16 SZ26 SZ23 SZ0 SZ127 SZ19) 0 3 (by kernel_rfl) (λi_ hi_=>by omega) ?_;intro a k h;unfold WI at h;split at h;exact⟨[_,_,_],rfl,rfl,.trans (by kernel_rfl) h⟩;cases h
def ah6 (N:Nat) (SZ171:tt) (SZ0:mK) (SZ33:zP) (SZ32:zO):Nat->Option Ann:=λb_=>none
theorem ZY (N:Nat) (SZ171:tt) (SZ0:mK) (SZ33:zP) (SZ32:zO) (hZ171:ac Pg 16 (Jc SZ171)) (hZ0:ac Pg 19 (FZ0 SZ0)) (hZ33:ac Pg 68 (Ym SZ33)) (hZ32:ac Pg 69 (Yl SZ32)):ac Pg 29 (PB (YU N SZ171 SZ0 SZ33 SZ32)):=by
 refine am (cx:=⟨Pg,ah [(16,(Jc SZ171)),(19,(FZ0 SZ0)),(68,(Ym SZ33)),(69,(Yl SZ32))],aj,N⟩) (aa hZ171 (aa hZ0 (aa hZ33 (aa hZ32 (ae _))))) U9 (Ww (YU N SZ171 SZ0 SZ33 SZ32)) (ah6 N SZ171 SZ0 SZ33 SZ32) 0 3 (by kernel_rfl) (λi_ hi_=>by omega) ?_;intro a k h;unfold Ww at h;split at h;exact⟨[_,_,_],rfl,rfl,.trans (by kernel_rfl) h⟩;cases h
section
variable (N:Nat) (SZ58:z5) (SZ57:z4) (SZ59:z6) (SZ107:sE) (SZ79:hJ) (SZ88:Ae) (SZ120:lr) (SZ44:zR) (SZ160:lE) (SZ0:mK) (SZ21:zI)
def QW (N:Nat) (SZ58:z5) (SZ57:z4) (SZ59:z6) (SZ107:sE) (SZ79:hJ) (SZ88:Ae) (SZ120:lr) (SZ44:zR) (SZ160:lE) (SZ0:mK) (SZ21:zI):Nat->Option Ann:=λb_=>none
theorem ajb (u_0 u_1 u_2 v_0 v_1 v_2:Int) (c_:KV):gm ⟨Pg,ah [(8,(PF SZ58)),(10,(PE SZ57)),(12,(PG SZ59)),(25,(Ce SZ107)),(26,(sk SZ79)),(27,(PI SZ88)),(13,(wo SZ120)),(18,(PD SZ44)),(28,(ws SZ160)),(19,(FZ0 SZ0)),(29,(PB SZ21))],aj,(N+24)⟩ (QW (N+24) SZ58 SZ57 SZ59 SZ107 SZ79 SZ88 SZ120 SZ44 SZ160 SZ0 SZ21) 5 (B6.args [.int u_0,.int u_1,.int u_2,.int v_0,.int v_1,.int v_2]) [] c_=Y6 (N+24) SZ58 SZ57 SZ59 SZ107 SZ79 SZ88 SZ120 SZ44 SZ160 SZ0 SZ21 u_0 u_1 u_2 v_0 v_1 v_2 (λr0=>c_ (.bool r0) []):=by kernel_rfl
theorem ahB (hZ58:ac Pg 8 (PF SZ58)) (hZ57:ac Pg 10 (PE SZ57)) (hZ59:ac Pg 12 (PG SZ59)) (hZ107:ac Pg 25 (Ce SZ107)) (hZ79:ac Pg 26 (sk SZ79)) (hZ88:ac Pg 27 (PI SZ88)) (hZ120:ac Pg 13 (wo SZ120)) (hZ44:ac Pg 18 (PD SZ44)) (hZ160:ac Pg 28 (ws SZ160)) (hZ0:ac Pg 19 (FZ0 SZ0)) (hZ21:ac Pg 29 (PB SZ21)) (u_0 u_1 u_2 v_0 v_1 v_2:Int) (hG:Y6 (N+24) SZ58 SZ57 SZ59 SZ107 SZ79 SZ88 SZ120 SZ44 SZ160 SZ0 SZ21 u_0 u_1 u_2 v_0 v_1 v_2 (λb=>b)=true):OkC Pg 5 (B6.args [.int u_0,.int u_1,.int u_2,.int v_0,.int v_1,.int v_2]) [] (.bool true) []:=
 ahC (cx:=⟨Pg,ah [(8,(PF SZ58)),(10,(PE SZ57)),(12,(PG SZ59)),(25,(Ce SZ107)),(26,(sk SZ79)),(27,(PI SZ88)),(13,(wo SZ120)),(18,(PD SZ44)),(28,(ws SZ160)),(19,(FZ0 SZ0)),(29,(PB SZ21))],aj,(N+24)⟩) (aa hZ58 (aa hZ57 (aa hZ59 (aa hZ107 (aa hZ79 (aa hZ88 (aa hZ120 (aa hZ44 (aa hZ160 (aa hZ0 (aa hZ21 (ae _)))))))))))) (QW (N+24) SZ58 SZ57 SZ59 SZ107 SZ79 SZ88 SZ120 SZ44 SZ160 SZ0 SZ21) 1 (by kernel_rfl) (aM ((λhk e=>by rw[show dJ ((QW (N+24) SZ58 SZ57 SZ59 SZ107 SZ79 SZ88 SZ120 SZ44 SZ160 SZ0 SZ21) (lp Pg 5 0).1)=none from by kernel_rfl]at e; cases e))) ((ajb N SZ58 SZ57 SZ59 SZ107 SZ79 SZ88 SZ120 SZ44 SZ160 SZ0 SZ21 u_0 u_1 u_2 v_0 v_1 v_2 (λr H=>match r,H with | .bool b,[]=>b | _,_=>false)).trans hG)
end
end Go.Proofs.YtadejnnigmcpdaaGreatDoor
