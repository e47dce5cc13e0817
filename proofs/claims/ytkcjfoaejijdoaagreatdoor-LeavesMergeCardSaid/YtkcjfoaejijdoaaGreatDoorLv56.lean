/- leaves: held -/
import Derived.Test.YtkcjfoaejijdoaaGreatDoorLv53
import Derived.Test.YtkcjfoaejijdoaaGreatDoorLv30
import Derived.Test.YtkcjfoaejijdoaaGreatDoorLv33
import Derived.Test.YtkcjfoaejijdoaaGreatDoorSh7
set_option linter.unusedSectionVars false
set_option linter.unusedVariables false
set_option maxRecDepth 100000
set_option maxHeartbeats 1600000
namespace Go.Proofs.YtkcjfoaejijdoaaGreatDoor
open Go.RowKit M Proofs.Tryz
variable [Inhabited SlW]
theorem OS {w:World} {a q cs sm:Nat} {val:Int} {xs:List Value} {f:Int→Bool} {F:Th} (hS:Sat w [Q8 a xs,Q8 cs [.map (some sm)],Q5 QN sm (ZF f),F]) (hv:xs[q]? =some (intV val)):
    Calls prog 132 #[ptrV a q,ptrV cs 0] w (Ret fun v w'=>Sat w' [Q8 a xs,Q8 cs [.map (some sm)],Q5 QN sm (ZF (WC f val)),F]):= by
 refine Qm func132 U ntmps132 U ?_
 have j1:=hS.drew
 refine QE [0,1,2,3,4] [4] Wa (by kernel_rfl) ?_
 refine Q4 U U U (Ql U Hq (j1.cell 1 U U)) (Q9 U U U (Xi U U U (Q4 U U U (Ql U QL (j1.cell 0 U hv)) (Xe U U U U U U ?_))))
 refine Xp (k:=val) (v:= .bool true) 2 j1 keysInt underlying83 U U U U ?_
 intro w2 j2; dsimp only[List.set]at j2; rw[YT]at j2
 refine Zu (Xj (by kernel_rfl)) ?_
 exact VC.nil (ZU (.inl U) U (⟨_,U,j2.pick [0,1,2,3] U⟩))
def QH (b:Nat) (L:LvD) (cs sm:Nat) (f:Int→Bool):Th:=starL [Q8 b [ptrV L.sp 0,.map (some L.mp),.map (some L.mt),intV L.cur,.map (some L.ms)],Q8 cs [.map (some sm)],Q5 QN sm (ZF f)]
def JH (L:LvD) (f:Int→Bool) (T:Int→Option TrD) (dn:Int×KD×Bool→Prop):Prop:=T=L.tr∧HeldI L f (fun p=> match p with | .inl _=>True | .inr q=>dn q)
theorem OR {L:LvD} {f:Int→Bool} {dn:Int×KD×Bool→Prop} (h:HeldI L f (fun p=> match p with | .inl _=>True | .inr q=>dn q)) (hcov: ∀i t k x,L.tr i=some t→t.lv k=some x→ ∀o,dn (i,k,o)):HeldI L f (fun _=>True):=h.congr fun p hp=> by
  cases p with
  | inl k=> exact⟨fun _=>trivial, fun _=>trivial⟩
  | inr q=>
    obtain⟨i,k,o⟩:=q
    refine⟨fun _=>trivial, fun _=> ?_⟩
    cases ht:L.tr i with
    | none=> exact absurd (by simp [QP,ht]) hp
    | some t=>
      cases hx:t.lv k with
      | none=> exact absurd (by simp [QP,ht,hx]) hp
      | some x=> exact hcov i t k x ht hx o
theorem lfV_at {x:LfD} {o:Bool} {q:Nat} (hq:q=(bif o then 1 else 0)):(lfV x)[q]? =some (intV (if o=true then x.own else x.base)):= by
  subst hq; cases o<;>rfl
theorem AZ {b:Nat} {L:LvD} {cs sm:Nat}:PlA 132 cs b L.mt (QH b L cs sm) (JH L) where
  ok:=cal_132
  cell:= fun i h hi=> by
    have h1:=(h.pull i hi).flat
    exact h1.cell 0 U U
  step:= by
    intro s T dn i t k x a o q hq hJ ht hx hnd ha w X hS
    have h1:=(hS.perm (List.Perm.swap _ _ _)).flat; dsimp only[Gl,Gk]at h1
    have h2:=h1.sp [3,1,2] U
    refine(OS h2 (lfV_at hq)).mono fun e w h=>h.mono fun v w h=> ?_
    obtain⟨rfl,hJ2⟩:=hJ
    have h3:=(h.join U).reorder [3,1,2,0,4] U
    have h4:=Sat.fold (As:=[Q8 b [ptrV L.sp 0,.map (some L.mp),.map (some L.mt),intV L.cur,.map (some L.ms)],Q8 cs [.map (some sm)],Q5 QN sm (ZF (WC s _))]) h3
    refine⟨WC s _,x,ha,⟨?_, ?_⟩,h4.perm (List.Perm.swap _ _ _)⟩
    · rw[show Xu t.lv k (some x)=t.lv from WU hx]
      exact WU ht
    · have h5:=hJ2.add (.inr (i,k,o))
      rw[Xt ht hx]at h5
      refine h5.congr fun p _=> ?_
      cases p with
      | inl j=> simp
      | inr z=> simp
theorem itKB (c b:Nat) (g:Int→Option Value):ItI g 136 [ptrV c 0] (starL [Q8 c [.map (some b)],Q5 QN b g]):= fun l J X w hS hY=> by
  have h1:=(hS.perm (List.Perm.swap _ _ _)).flat; dsimp only[Gl,Gk]at h1
  refine(kb_it (h1.reorder [2,0,1,3] U) hY).mono fun e w' h=>h.mono fun v w' ⟨ks,h2,h3⟩=>⟨ks,h2, ?_⟩
  exact(Sat.fold (As:=[Q8 c [.map (some b)],Q5 QN b g]) (h3.reorder [1,2,0,3] U)).perm (List.Perm.swap _ _ _)
theorem held_sp {w:World} {b c:Nat} {L:LvD} {F:Th} (hS:Sat w [XX b L,F]) (hc:SzLe L c) (hcc:c≤100000):
    Calls prog 83 #[ptrV b 0] w (Ret fun v w'=> ∃hs,HeldL L hs∧Sat w' [rowT inC v hs,XX b L,F]):= by
 replace hS:=X1 hS
 refine Qm func83 U ntmps83 U ?_
 refine Qd (Qa (Qe U U (Qf (Qc (Qd (Qa (Zi QN hS U ?_)))))))
 intro sm w1 j1; rw[←Gd]at j1
 refine Xa j1 zr_83 U U ?_
 intro cs w2 j2
 (refine QV j2 U U sz_83 (by rfl) (i:=0) U (by decide) ?_)
 intro w3 j4; dsimp only[List.set]at j4
 refine Qf (Qc (Qd (Qd (Qa (Qb U U (Qj U U (Qg U Jm U (Qr U Hf (j4.cell 2 U U) U (ZN 3 j4 underlying81 U U U ?_)))))))))
 intro RR leftZ wRRR hSRRR; dsimp only[List.set]at hSRRR
 refine Qf (Qc (Qw (Xg (fun K0 E0 W0=> ∃(dn:KD→Prop) (cur:Option KD) (left:Nat) (f:Int→Bool),K0=left∧E0=[(0,ptrV b 0),(3,ptrV cs 0),(11,ptrV RR 0)]∧Sat W0 [ZS Xr L.mp RR (XN L.pres) dn cur left,Q5 QN sm (ZF f),Q8 cs [.map (some sm)],Q8 b [ptrV L.sp 0,.map (some L.mp),.map (some L.mt),intV L.cur,.map (some L.ms)],Q5 QN L.mt (X0 TrD.ad L.tr),XW YW L.tr,Q5 QN L.ms (ZF L.sh),F]∧(HeldI L f (fun p=> ∃k,p= .inl k∧dn k))) (L0:=[(0,_),(3,_),(11,_)]) (leftZ) (Rg U U U) ⟨_,_,_, fun _=>false,rfl,rfl,hSRRR.pick [3,1,0,2,4,5,6,7] U,HeldI.nil.congr fun p _=>⟨fun h=>h.elim, fun ⟨_,_,h⟩=>h.elim⟩⟩ ?_)))
 rintro _ _ w5 ⟨dn,cur,left,f,rfl,rfl,j5,hf⟩
 refine Qd (Qa (Wp 0 j5 keysKey.inj U U U (fun hdoneA=> ?_) (fun k vA leftA wNA hleftA hgkA hndA hSNA=> ?_)))
 ·refine Qn U U U (Qf (Qc (Qd (QR U (QU (Qq (Qq (Qx (Qc (Qd (Qa (Qb U U (Z7 U U ?_)))))))))))))
  have hz:=ZA (j5.pick [0,1,2,3,4,5,6,7] U)
  have hQ:=Sat.fold (As:=[Q8 b [ptrV L.sp 0,.map (some L.mp),.map (some L.mt),intV L.cur,.map (some L.ms)],Q8 cs [.map (some sm)],Q5 QN sm (ZF f)]) (hz.pick [3,2,1,0,4,5,6,7] U)
  have hC6:=hQ.sp [2,3,0] U
  refine Qv F6 U (P5 (AZ (b:=b) (L:=L) (cs:=cs) (sm:=sm)) (Q:=QH b L cs sm) (J:=JH L) (s0:=f) hC6 ⟨rfl,hf.congr fun p hp=> by cases p with | inl k=> exact⟨fun _=>trivial, fun _=>⟨k,rfl,hdoneA k _ (show XN L.pres k=some (intV (L.pres k)) by unfold XN; exact if_neg hp)⟩⟩ | inr q=> exact⟨fun ⟨_,e,_⟩=>(by cases e), fun h=>h.elim⟩⟩) U ?_
  rintro _ w6 ⟨f2,T2,dn2,⟨rfl,hf2⟩,hcov,_,j6⟩
  replace j6:=j6.jn U U; clear hC6
  clear hQ
  have hz3:=(j6.pick [2,0,1,3,4,5] U).flat; dsimp only[Gl,Gk]at hz3
  have hf3:=OR hf2 hcov
  refine Qf (Qc (Qd (Qa (Qr U Hq (hz3.cell 1 U U) U (YG (k:=0) 2 hz3 keysInt underlying83 U U U U ?_)))))
  intro w7 j7; dsimp only[List.set]at j7; rw[boG_del]at j7
  clear hz3
  refine Qf (Qc (Qd (Qa (Qr U Hq (j7.cell 1 U U) U (Qv Sh U (OJ (j7.sp [] U) U) U ?_)))))
  rintro _ w8 ⟨ck,rfl,j8⟩
  replace j8:=j8.jn U U
  have hK:=Sat.fold (As:=[Q8 ck [.map (some sm)],Q5 QN sm (ZF (NL f2 0))]) (j8.pick [0,3,1,2,4,5,6,7,8] U)
  have hC9:=hK.sp [0] U
  refine Qv DX rfl (HG hC9 Cn (itKB ck sm (ZF (NL f2 0))) (fun ks hq=>Nat.le_trans (RA hc hq.nodup fun s hs=> by have h8:=hq.has s hs; rw[GS,NK]at h8; obtain⟨p,_,e⟩:=(hf3 s h8.1).1 h8.2; exact⟨h8.1,p,e⟩) (by omega))) rfl ?_
  rintro _ w9 ⟨ks,hks,j9⟩
  replace j9:=j9.jn U U; clear hC9
  clear hK
  exact Qe U U (Qf (Qc (Qh [2] U (Qu (QY (.inr U) U U (⟨_,U,ZL ks,OQ hf3 hks.nodup hks.mem,(QX (j9.pick [2,6,4,5,7,0,8] U)).perm (List.Perm.swap _ _ _)⟩))))))
 dsimp only[List.set]at hSNA
 obtain⟨hpk,rfl⟩:=Du hgkA
 refine Qn U U U (Qf (Qc (Qd (Xd U (Qs (Qc (Qw (Qd (Qa (ZP 0 hSNA U hgkA U U (Qn U U U (Qe U U (Qf (Qc (Qa (Qr U Hq (hSNA.cell 2 U U) U (Qb U U (Xp (k:=(L.pres k)) (v:= .bool true) 1 hSNA keysInt underlying83 U U U U ?_))))))))))))))))))
 intro w10 j10; dsimp only[List.set]at j10; rw[YT]at j10
 clear hSNA
 refine Qf (Qk ?_)
 have hp2:=Du hgkA
 exact Q3 (L1:=[(0,_),(3,_),(11,_)]) (Rg U U U) (k1:=leftA) (by omega) ⟨_,_,_,_,rfl,rfl,j10.pick [0,1,2,3,4,5,6,7] U,(hf.add (.inl k)).congr fun p _=> by
 constructor
 ·rintro(⟨j,a,b⟩ | e)
  ·exact⟨j,a,.inl b⟩
  ·exact⟨k,e,.inr U⟩
 ·rintro⟨j,a,b | b⟩
  ·exact .inl ⟨j,a,b⟩
  ·exact .inr (by rw[a,b])⟩
theorem hold0_p {w:World} {b sp mp mt ms n Fr:Nat} {a:Nat} {v0 v2 v3:Value} {cu old:Int} {f:Int→Bool} {V:VS} {F:Th} (hS:Sat w [Q8 b [ptrV sp 0,.map (some mp),.map (some mt),intV cu,.map (some ms)],Q5 QN ms (ZF f),XD sp n Fr V,Q8 a [intV old,v0,v2,v3],F]) (hn:n≤70000000000) (s:Int):
    Calls prog 73 #[ptrV b 0,ptrV a 0,intV s] w (Ret fun v w'=>v= .tuple #[]∧Sat w' [Q8 b [ptrV sp 0,.map (some mp),.map (some mt),intV cu,.map (some ms)],Q5 QN ms (ZF (JJ (refW V s) (JM f s) old)),XD sp (n+2) Fr (Zj (refW V s) old),Q8 a [intV s,v0,v2,v3],F]):= by
 refine Qm func73 U ntmps73 U ?_
 refine Qd (Qa (Qb U U (Qb U U (Qv Rb U (Ds (hS.sp [0,1,2] U) (by omega) s) U ?_))))
 rintro _ w1 ⟨rfl,j1⟩
 replace j1:=j1.jn U U
 refine Qf (Qc (Qd (Qa (Qb U U (Qb U U (Qj U U (Qr U QL (j1.cell 3 U U) U (Qv Uc U (HV (j1.sp [0,1,2] U) (by omega) old) U ?_))))))))
 rintro _ w2 ⟨rfl,j2⟩
 replace j2:=j2.jn U U
 refine Qf (Qc (Qh [2,1] U (Qa (Qb U U (Qb U U (Qj U U ?_))))))
 (refine QV j2 U U Yq (by rfl) (i:=3) U (Xv U) ?_)
 intro w3 j4; dsimp only[List.set]at j4
 exact Qf (ZU (.inl U) U (⟨_,U,U,j4.pick [0,1,2,3,4] U⟩))
theorem Lk {w:World} {b sp mp mt ms n Fr a cx cl cy:Nat} {v0 v2 v3:Value} {cu old x y:Int} {f:Int→Bool} {V:VS} {F:Th} (hS:Sat w [Q8 a [intV old,v0,v2,v3],Q8 b [ptrV sp 0,.map (some mp),.map (some mt),intV cu,.map (some ms)],Q5 QN ms (ZF f),XD sp n Fr V,Q8 cx [intV x],Q8 cl [ptrV b 0],Q8 cy [intV y],F]) (hn:n≤70000000000) (hne:old≠x):
    Calls prog 135 #[ptrV a 0,ptrV cx 0,ptrV cl 0,ptrV cy 0] w (Ret fun v w'=>Sat w' [Q8 a [intV old,v0,v2,v3],Q8 b [ptrV sp 0,.map (some mp),.map (some mt),intV cu,.map (some ms)],Q5 QN ms (ZF f),XD sp n Fr V,Q8 cx [intV x],Q8 cl [ptrV b 0],Q8 cy [intV y],F]):= by
 refine Qm func135 U ntmps135 U ?_
 refine Qd ?_
 have j1:=hS.drew
 refine QE [0,1,2,3,4] [] Wa (by kernel_rfl) ?_
 refine Q9 U U U (Xi U U U (Q4 U U U (Ql U QL (j1.cell 0 U U)) (Q4 U U U (Ql U QL (j1.cell 4 U U)) (QZ U U U (fun _=>(YM U U)) ?_))))
 refine VC.nil (Qc (Qt U (fun h2=> ?_) (fun h2=> ?_)))
 ·exact absurd h2 hne
 exact Qs (ZU (.inl U) U (⟨_,U,j1.pick [0,1,2,3,4,5,6,7] U⟩))
theorem Li {w:World} {b sp mp mt ms n Fr a cx cl cy:Nat} {v0 v2 v3:Value} {cu old x y:Int} {f:Int→Bool} {V:VS} {F:Th} (hS:Sat w [Q8 a [intV old,v0,v2,v3],Q8 b [ptrV sp 0,.map (some mp),.map (some mt),intV cu,.map (some ms)],Q5 QN ms (ZF f),XD sp n Fr V,Q8 cx [intV x],Q8 cl [ptrV b 0],Q8 cy [intV y],F]) (hn:n≤70000000000) (he:old=x):
    Calls prog 135 #[ptrV a 0,ptrV cx 0,ptrV cl 0,ptrV cy 0] w (Ret fun v w'=>Sat w' [Q8 a [intV y,v0,v2,v3],Q8 b [ptrV sp 0,.map (some mp),.map (some mt),intV cu,.map (some ms)],Q5 QN ms (ZF (JJ (refW V y) (JM f y) x)),XD sp (n+2) Fr (Zj (refW V y) x),Q8 cx [intV x],Q8 cl [ptrV b 0],Q8 cy [intV y],F]):= by
 refine Qm func135 U ntmps135 U ?_
 refine Qd ?_
 have j1:=hS.drew
 refine QE [0,1,2,3,4] [] Wa (by kernel_rfl) ?_
 refine Q9 U U U (Xi U U U (Q4 U U U (Ql U QL (j1.cell 0 U U)) (Q4 U U U (Ql U QL (j1.cell 4 U U)) (QZ U U U (fun _=>(YM U U)) ?_))))
 refine VC.nil (Qc (Qt U (fun h2=> ?_) (fun h2=> ?_)))
 ·refine Qa (Qr U Uf (j1.cell 5 U U) U (Qb U U (Qr U QL (j1.cell 6 U U) U (Qv TY U (hold0_p (j1.sp [1,2,3,0] U) (by omega) y) U ?_))))
  rintro _ w3 ⟨rfl,j3⟩
  replace j3:=j3.jn U U
  refine Qf (ZU (.inl U) U ?_)
  subst he; exact⟨_,rfl,j3.pick [3,0,1,2,4,5,6,7] U⟩
 exact absurd he h2
theorem Lj {w:World} {b sp mp mt ms n Fr a cx cl cy:Nat} {v0 v2 v3:Value} {cu old x y:Int} {f:Int→Bool} {V:VS} {F:Th} (hS:Sat w [Q8 a [v0,intV old,v2,v3],Q8 b [ptrV sp 0,.map (some mp),.map (some mt),intV cu,.map (some ms)],Q5 QN ms (ZF f),XD sp n Fr V,Q8 cx [intV x],Q8 cl [ptrV b 0],Q8 cy [intV y],F]) (hn:n≤70000000000) (hne:old≠x):
    Calls prog 135 #[ptrV a 1,ptrV cx 0,ptrV cl 0,ptrV cy 0] w (Ret fun v w'=>Sat w' [Q8 a [v0,intV old,v2,v3],Q8 b [ptrV sp 0,.map (some mp),.map (some mt),intV cu,.map (some ms)],Q5 QN ms (ZF f),XD sp n Fr V,Q8 cx [intV x],Q8 cl [ptrV b 0],Q8 cy [intV y],F]):= by
 refine Qm func135 U ntmps135 U ?_
 refine Qd ?_
 have j1:=hS.drew
 refine QE [0,1,2,3,4] [] Wa (by kernel_rfl) ?_
 refine Q9 U U U (Xi U U U (Q4 U U U (Ql U QL (j1.cell 0 U U)) (Q4 U U U (Ql U QL (j1.cell 4 U U)) (QZ U U U (fun _=>(YM U U)) ?_))))
 refine VC.nil (Qc (Qt U (fun h2=> ?_) (fun h2=> ?_)))
 ·exact absurd h2 hne
 exact Qs (ZU (.inl U) U (⟨_,U,j1.pick [0,1,2,3,4,5,6,7] U⟩))
theorem Lh {w:World} {b sp mp mt ms n Fr a cx cl cy:Nat} {v0 v2 v3:Value} {cu old x y:Int} {f:Int→Bool} {V:VS} {F:Th} (hS:Sat w [Q8 a [v0,intV old,v2,v3],Q8 b [ptrV sp 0,.map (some mp),.map (some mt),intV cu,.map (some ms)],Q5 QN ms (ZF f),XD sp n Fr V,Q8 cx [intV x],Q8 cl [ptrV b 0],Q8 cy [intV y],F]) (hn:n≤70000000000) (he:old=x):
    Calls prog 135 #[ptrV a 1,ptrV cx 0,ptrV cl 0,ptrV cy 0] w (Ret fun v w'=>Sat w' [Q8 a [v0,intV y,v2,v3],Q8 b [ptrV sp 0,.map (some mp),.map (some mt),intV cu,.map (some ms)],Q5 QN ms (ZF (JJ (refW V y) (JM f y) x)),XD sp (n+2) Fr (Zj (refW V y) x),Q8 cx [intV x],Q8 cl [ptrV b 0],Q8 cy [intV y],F]):= by
 refine Qm func135 U ntmps135 U ?_
 refine Qd ?_
 have j1:=hS.drew
 refine QE [0,1,2,3,4] [] Wa (by kernel_rfl) ?_
 refine Q9 U U U (Xi U U U (Q4 U U U (Ql U QL (j1.cell 0 U U)) (Q4 U U U (Ql U QL (j1.cell 4 U U)) (QZ U U U (fun _=>(YM U U)) ?_))))
 refine VC.nil (Qc (Qt U (fun h2=> ?_) (fun h2=> ?_)))
 ·refine Qa (Qr U Uf (j1.cell 5 U U) U (Qb U U (Qr U QL (j1.cell 6 U U) U (Qv TY U (PG (j1.sp [1,2,3,0] U) (by omega) y) U ?_))))
  rintro _ w3 ⟨rfl,j3⟩
  replace j3:=j3.jn U U
  refine Qf (ZU (.inl U) U ?_)
  subst he; exact⟨_,rfl,j3.pick [3,0,1,2,4,5,6,7] U⟩
 exact absurd he h2
structure SwS where
  f:Int→Bool
  V:VS
  q:Nat
def QS (b:Nat) (L:LvD) (n Fr:Nat) (cx cl cy:Nat) (x y:Int) (s:SwS):Th:=starL [Q8 b [ptrV L.sp 0,.map (some L.mp),.map (some L.mt),intV L.cur,.map (some L.ms)],Q5 QN L.ms (ZF s.f),XD L.sp (n+2*s.q) Fr s.V,Q8 cx [intV x],Q8 cl [ptrV b 0],Q8 cy [intV y]]
def JSw (m c:Nat) (L:LvD) (V:VS) (pr:KD→Int) (x y:Int) (s:SwS) (T:Int→Option TrD) (dn:Int×KD×Bool→Prop):Prop:=
  SwR m c L {L with pres:=pr,tr:=T,sh:=s.f} V s.V x y (fun p=> match p with | .inl _=>True | .inr z=>dn z)∧(s.q:Int)+Zm s.V x=Zm V x
theorem Dr {m:Nat} {L:LvD} {V:VS} {x:Int} (hI:LvI m L V):0≤Zm V x:= by
  cases h:V x with
  | none=> rw[YJ h];omega
  | some z=> rw[Wf h]; have :=(hI.ref.2 x z h).1;omega
theorem JSw.bound {m c:Nat} {L:LvD} {V:VS} {pr:KD→Int} {x y:Int} {s:SwS} {T:Int→Option TrD} {dn:Int×KD×Bool→Prop} (h:JSw m c L V pr x y s T dn) (hI:LvI m L V) (hc:SzLe L c) (hx0:x≠0):s.q≤3*c:= by
  have h1:=T4 hI hc hx0
  have h2:=Dr (x:=x) h.1.inv
  have h3:=h.2
  omega
theorem AY {m c b n Fr cx cl cy:Nat} {L:LvD} {V:VS} {pr:KD→Int} {x y:Int} (hI:LvI m L V) (hc:SzLe L c) (hn:n+6*c≤60000000000) (hne:y≠x) (hx0:x≠0) (hya:X5 V y) (hpg:XH V y=XH V x):PlB 135 cx cl cy b L.mt (QS b L n Fr cx cl cy x y) (JSw m c L V pr x y) where
  ok:=cal_135
  cell:= fun i h hi=> by
    have h1:=(h.pull i hi).flat
    exact h1.cell 0 U U
  step:= by
    intro s T dn i t k z a o q hq hJ ht hx hnd ha w X hS
    have hb:=hJ.bound hI hc hx0
    obtain⟨hJ1,hJ2⟩:=hJ
    have hLold:QP L (.inr (i,k,o))= if o=true then z.own else z.base:= by
      rw[←hJ1.old (.inr (i,k,o)) fun r=>hnd r.1]
      exact Xt ht hx
    have h1:=(hS.perm (List.Perm.swap _ _ _)).flat; dsimp only[Gl,Gk]at h1
    have h2:=h1.reorder [6,0,1,2,3,4,5,7] U
    by_cases hv:(if o=true then z.own else z.base)=x
    · have hax:X5 s.V x:= by
        have :=hJ1.inv.alive (.inr (i,k,o))
        rw[Xt ht hx,hv]at this
        exact this
      have hay:X5 s.V y:=hJ1.aliveY hI hne hya
      have hp2:XH s.V y=XH s.V x:= by rw[(hJ1.pgs y hay).2,(hJ1.pgs x hax).2,hpg]
      have hR:=hJ1.setL (o:=o) ht hx hv (hLold.trans hv) hay hp2 (z':= if o=true then{z with own:=y}else{z with base:=y}) U (JJ (refW s.V y) (JM s.f y) x)
      have hcnt:=MG hJ1.inv (hax.resolve_left hx0) hne
      have hfin:JSw m c L V pr x y ⟨JJ (refW s.V y) (JM s.f y) x,Zj (refW s.V y) x,s.q+1⟩ (Xu T i (some {t with lv:=Xu t.lv k (some (if o=true then{z with own:=y}else{z with base:=y}))})) (fun p=>dn p∨p=(i,k,o)):= by
        refine⟨hR.congr fun p _=> ?_, ?_⟩
        · cases p with
          | inl j=> simp
          | inr r=> simp
        · show((s.q+1:Nat):Int)+Zm (Zj (refW s.V y) x) x=_
          rw[hcnt];omega
      cases o with
      | false=>
        subst hq
        refine(Li (h2.split [0,1,2,3,4,5,6] [true,true,true,true,true,true,true,false] U) (by omega) hv).mono fun e w h=>h.mono fun v w h=> ?_
        have h3:=(h.join U).reorder [1,2,3,4,5,6,0,7] U
        have h4:=Sat.fold (As:=[Q8 b [ptrV L.sp 0,.map (some L.mp),.map (some L.mt),intV L.cur,.map (some L.ms)],Q5 QN L.ms (ZF _),XD L.sp (n+2*s.q+2) Fr _,Q8 cx [intV x],Q8 cl [ptrV b 0],Q8 cy [intV y]]) h3
        exact⟨_,{z with base:=y},ha,hfin,h4.perm (List.Perm.swap _ _ _)⟩
      | true=>
        subst hq
        refine(Lh (h2.split [0,1,2,3,4,5,6] [true,true,true,true,true,true,true,false] U) (by omega) hv).mono fun e w h=>h.mono fun v w h=> ?_
        have h3:=(h.join U).reorder [1,2,3,4,5,6,0,7] U
        have h4:=Sat.fold (As:=[Q8 b [ptrV L.sp 0,.map (some L.mp),.map (some L.mt),intV L.cur,.map (some L.ms)],Q5 QN L.ms (ZF _),XD L.sp (n+2*s.q+2) Fr _,Q8 cx [intV x],Q8 cl [ptrV b 0],Q8 cy [intV y]]) h3
        exact⟨_,{z with own:=y},ha,hfin,h4.perm (List.Perm.swap _ _ _)⟩
    · have hfin:JSw m c L V pr x y s (Xu T i (some {t with lv:=Xu t.lv k (some z)})) (fun p=>dn p∨p=(i,k,o)):= by
        rw[show Xu t.lv k (some z)=t.lv from WU hx, show Xu T i (some {t with lv:=t.lv})=T from WU ht]
        refine⟨(hJ1.skip (p:= .inr (i,k,o)) (by rw[hLold]; exact hv)).congr fun p _=> ?_,hJ2⟩
        cases p with
        | inl j=> simp
        | inr r=> simp
      cases o with
      | false=>
        subst hq
        refine(Lk (h2.split [0,1,2,3,4,5,6] [true,true,true,true,true,true,true,false] U) (by omega) hv).mono fun e w h=>h.mono fun v w h=> ?_
        have h3:=(h.join U).reorder [1,2,3,4,5,6,0,7] U
        have h4:=Sat.fold (As:=[Q8 b [ptrV L.sp 0,.map (some L.mp),.map (some L.mt),intV L.cur,.map (some L.ms)],Q5 QN L.ms (ZF _),XD L.sp (n+2*s.q) Fr _,Q8 cx [intV x],Q8 cl [ptrV b 0],Q8 cy [intV y]]) h3
        exact⟨s,z,ha,hfin,h4.perm (List.Perm.swap _ _ _)⟩
      | true=>
        subst hq
        refine(Lj (h2.split [0,1,2,3,4,5,6] [true,true,true,true,true,true,true,false] U) (by omega) hv).mono fun e w h=>h.mono fun v w h=> ?_
        have h3:=(h.join U).reorder [1,2,3,4,5,6,0,7] U
        have h4:=Sat.fold (As:=[Q8 b [ptrV L.sp 0,.map (some L.mp),.map (some L.mt),intV L.cur,.map (some L.ms)],Q5 QN L.ms (ZF _),XD L.sp (n+2*s.q) Fr _,Q8 cx [intV x],Q8 cl [ptrV b 0],Q8 cy [intV y]]) h3
        exact⟨s,z,ha,hfin,h4.perm (List.Perm.swap _ _ _)⟩
theorem Kf {w:World} {F:Th} {b:Nat} {g:KD→Option Value} (hS:Sat w [Q5 Xr b g,F]):
    Calls prog 80 #[.map (some b)] w (Ret fun v w'=> ∃b',v= .map (some b')∧Sat w' [Q5 Xr b' g,Q5 Xr b g,F]):= by
 refine Qm func80 U ntmps80 U ?_
 refine Qd (Qa (Qe U U (Qf (Qc (Qd (Qd (Qa (Qb U U (Yv underlying81 U U U (Qf (Qc (QR U (Qs (Qc (Qd (Qa (Qb U U (Yu Oq U U (Yt 0 hS func127 mc1 mc2 mc3 mc4 U U U ?_)))))))))))))))))))
 intro b9 w9 j9
 exact Ya Oq U U (Qe U U (Qf (Qc (Qu (QY (.inr U) U U (⟨_,U,_,U,j9⟩))))))
theorem Aj {m c:Nat} {L:LvD} {V V1:VS} {pr:KD→Int} {T:Int→Option TrD} {f:Int→Bool} {x y:Int} {dn:Int×KD×Bool→Prop} (h:SwR m c L {L with pres:=pr,tr:=T,sh:=f} V V1 x y (fun p=> match p with | .inl _=>True | .inr z=>dn z)) (hcov: ∀i t k x,T i=some t→t.lv k=some x→ ∀o,dn (i,k,o)) (hx0:x≠0):SwR m c L {L with pres:=pr,tr:=T,sh:=f} V V1 x y (fun _=>True):=h.congr fun p hp=> by
  cases p with
  | inl k=> exact⟨fun _=>trivial, fun _=>trivial⟩
  | inr q=>
    obtain⟨i,k,o⟩:=q
    refine⟨fun _=>trivial, fun _=>Classical.byContradiction fun hd=> ?_⟩
    have h1:=h.old (.inr (i,k,o)) fun r=>hd r.1
    rw[hp]at h1
    cases ht:T i with
    | none=> simp [QP,ht]at h1;omega
    | some t=>
      cases hx:t.lv k with
      | none=> simp [QP,ht,hx]at h1;omega
      | some z=> exact hd (hcov i t k z ht hx o)
theorem Nk {k:KD} {dn:KD→Prop} {p:Pl}:((∃j,p= .inl j∧dn j)∨p= .inl k)↔ ∃j,p= .inl j∧(dn j∨j=k):= by
  constructor
  · rintro(⟨j,a,b⟩ | e)
    · exact⟨j,a,.inl b⟩
    · exact⟨k,e,.inr U⟩
  · rintro⟨j,a,b | b⟩
    · exact .inl ⟨j,a,b⟩
    · exact .inr (by rw[a,b])
theorem Sz {w:World} {b n Fr m c:Nat} {L:LvD} {V:VS} {F:Th} (hS:Sat w [XX b L,XD L.sp n Fr V,F]) (hI:LvI m L V) (hc:SzLe L c) (hn:n+6*c≤60000000000) {x y:Int} (hne:y≠x) (hx0:x≠0) (hya:X5 V y) (hpg:XH V y=XH V x):
    Calls prog 87 #[ptrV b 0,intV x,intV y] w (Ret fun v w'=> ∃L' V',SwR m c L L' V V' x y (fun _=>True)∧Sat w' [XX b L',XD L'.sp (n+6*c) Fr V',F]):= by
 replace hS:=X1 hS
 refine Qm func87 U ntmps87 U ?_
 refine Qd (Qa (XR hS U U U ?_))
 intro cl w1 j1
 refine XR j1 U U U ?_
 intro cx w2 j2
 refine XR j2 U U U ?_
 intro cy w3 j3
 refine Qf (Qc (Qd (Qd (Qa (Qr U Uf (j3.cell 2 U U) U (Qj U U (Qg U Jm U (Qr U Hf (j3.cell 3 U U) U (Qv TW U (Kf (j3.sp [4] U)) U ?_)))))))))
 rintro _ w4 ⟨mc,rfl,j4⟩
 replace j4:=j4.jn U U
 refine ZN 0 j4 underlying81 U U U ?_
 intro RR leftZ wRRR hSRRR; dsimp only[List.set]at hSRRR
 refine Qf (Qc (Qh [3,4,5,13] U (Qw ?_)))
 refine Xg (fun K0 E0 W0=> ∃(dn:KD→Prop) (cur:Option KD) (left:Nat) (pr:KD→Int) (f:Int→Bool) (V1:VS) (q:Nat),K0=left∧E0=[(3,ptrV cl 0),(4,ptrV cx 0),(5,ptrV cy 0),(13,ptrV RR 0)]∧Sat W0 [ZS Xr mc RR (XN L.pres) dn cur left,Q5 Xr L.mp (XN pr),Q5 QN L.ms (ZF f),XD L.sp (n+2*q) Fr V1,Q8 cy [intV y],Q8 cx [intV x],Q8 cl [ptrV b 0],Q8 b [ptrV L.sp 0,.map (some L.mp),.map (some L.mt),intV L.cur,.map (some L.ms)],Q5 QN L.mt (X0 TrD.ad L.tr),XW YW L.tr,F]∧(SwR m c L {L with pres:=pr,sh:=f} V V1 x y (fun p=> ∃k,p= .inl k∧dn k))∧((q:Int)+Zm V1 x=Zm V x)) (L0:=[(3,_),(4,_),(5,_),(13,_)]) (leftZ) (HR U U U U) ⟨_,_,_,L.pres,L.sh,V,0,rfl,rfl,hSRRR.pick [0,1,8,9,2,3,4,5,6,7,10] U,(SwR.refl hI hc).congr fun p _=>⟨fun h=>h.elim, fun ⟨_,_,h⟩=>h.elim⟩, by simp⟩ ?_
 rintro _ _ w5 ⟨dn,cur,left,pr,f,V1,q,rfl,rfl,j5,hsw,hcnt⟩
 refine Qd (Qa (Wp 0 j5 keysKey.inj U U U (fun hdoneA=> ?_) (fun k vA leftA wNA hleftA hgkA hndA hSNA=> ?_)))
 ·refine Qn U U U (Qf (Qc (Qd (QR U (QU (Qq (Qq (Qx (Qc (Qa (Qr U Uf (j5.cell 6 U U) U (Z7 U U ?_))))))))))))
  have hq3:=T4 hI hc hx0; have hq4:=Dr (x:=x) hsw.inv
  have hQ:=Sat.fold (As:=[Q8 b [ptrV L.sp 0,.map (some L.mp),.map (some L.mt),intV L.cur,.map (some L.ms)],Q5 QN L.ms (ZF f),XD L.sp (n+2*q) Fr V1,Q8 cx [intV x],Q8 cl [ptrV b 0],Q8 cy [intV y]]) (j5.pick [7,2,3,5,6,4,0,1,8,9,10] U)
  have hsw1:SwR m c L {L with pres:=pr,tr:=L.tr,sh:=f} V V1 x y (fun p=> match p with | .inl _=>True | .inr z=>False):=hsw.congr fun p hp=> by
   cases p with
   | inl k=> exact⟨fun _=>trivial, fun _=>⟨k,rfl,hdoneA k _ (show XN L.pres k=some (intV (L.pres k)) by unfold XN; exact if_neg (fun e=>hx0 (hp.symm.trans e)))⟩⟩
   | inr z=> exact⟨fun ⟨_,e,_⟩=>(by cases e), fun h=>h.elim⟩
  have hC6:=hQ.sp [3,4,0] U
  refine Qv F6 U (P4 (AY (n:=n) (Fr:=Fr) (cx:=cx) (cl:=cl) (cy:=cy) (b:=b) (pr:=pr) hI hc hn hne hx0 hya hpg) (s0:=⟨f,V1,q⟩) hC6 ⟨hsw1,hcnt⟩) U ?_
  rintro _ w6 ⟨s2,T2,dn2,hJ2,hcov,hag,j6⟩
  replace j6:=j6.jn U U; clear hC6
  clear hQ
  have hz3:=(j6.pick [2,0,1,3,4,5] U).flat; dsimp only[Gl,Gk]at hz3
  rw[←hag]at hz3
  have hbd:=hJ2.bound hI hc hx0
  refine Qf (ZU (.inl U) U ?_)
  have hz4:=Xn (m:=n+6*c) (by omega) (hz3.pick [2,0,1,3,4,5,6,7,8,9,10] U)
  exact⟨_,U,{L with pres:=pr,tr:=T2,sh:=s2.f},s2.V,Aj hJ2.1 hcov hx0,QX (L:={L with pres:=pr,tr:=T2,sh:=s2.f}) (hz4.pick [1,9,6,7,2,0,10] U)⟩
 dsimp only[List.set]at hSNA
 obtain⟨hpk,rfl⟩:=Du hgkA
 refine Qn U U U (Qf (Qc (Qd (Xd U (Qs (Qc (Qw (Qd (Qa (ZP 0 hSNA U hgkA U U (Qn U U U (Qn U U U (Xa hSNA Zy U U ?_)))))))))))))
 intro kb wk7 hk7
 clear hSNA
 refine QG hk7 U U Xf U (by rfl) (i:=0) U (by decide) ?_
 intro wk8 hk8; dsimp only[List.set]at hk8
 clear hk7
 replace hk8:=X6 (k:=k) hk8
 refine Qe U U (Qf (Qc (Qh [13,5,4,3,6,7] U (Qd (Qa (Qb U U (Qr U QL (by first | exact hk8.cell 5 U U | exact hk8.cell 6 U U) U ?_)))))))
 refine Xq U U U (Qf (Qc (Qt U (fun h9=> ?_) (fun h9=> ?_))))
 ·have hkx:L.pres k=x:=h9
  have hq3:=T4 hI hc hx0; have hq4:=Dr (x:=x) hsw.inv
  refine Qd (Qa (Qr U Uf (hk8.cell 7 U U) U (Qr U QL (hk8.cell 5 U U) U ?_)))
  have hC10:=hk8.sp [8,3,4] U
  refine Qv Rb U (Ds hC10 (by omega) y) U ?_
  rintro _ w10 ⟨rfl,j10⟩
  replace j10:=j10.jn U U; clear hC10
  clear hk8
  refine Qf (Qc (Qh [13,5,4,3,6] U (Qa (Qr U Uf (j10.cell 8 U U) U (Xw U X9 Xf (j10.blk 3 U) (Xv U) U U (Qr U QL (j10.cell 6 U U) U (Qv GO U (S6 (j10.sp [0,5,1,2] U) (by omega) k y) U ?_)))))))
  rintro _ w11 ⟨rfl,j11⟩
  replace j11:=j11.jn U U
  refine Qf (Qk ?_)
  have hprk:pr k=L.pres k:=hsw.old (.inl k) (fun r=> by obtain⟨⟨j,e,hj⟩,_⟩:=r; cases e; exact hndA hj)
  have hax:X5 V1 x:= by have h9:X5 V1 (pr k):=hsw.inv.alive (.inl k);rwa [hprk,hkx]at h9
  have hay:=hsw.aliveY hI hne hya
  have hp2:XH V1 y=XH V1 x:= by rw[(hsw.pgs y hay).2,(hsw.pgs x hax).2,hpg]
  have hR:=hsw.setP (k:=k) (hprk.trans hkx) hkx hx0 hay hp2 (JJ (refW V1 y) (JM f y) (pr k))
  have hcnt2:=MG hsw.inv (hax.resolve_left hx0) hne
  exact Q3 (L1:=[(3,_),(4,_),(5,_),(13,_)]) (HR U U U U) (k1:=leftA) (by omega) ⟨_,_,_,Z6 pr k y,_,_,q+1,rfl,rfl,j11.pick [5,1,2,3,6,7,8,0,9,10,11] U,hR.congr fun p _=>Nk, by show((q+1:Nat):Int)+Zm (Zj (refW V1 y) (pr k)) x=_; rw[hprk,hkx,hcnt2];omega⟩
 have hkn:L.pres k≠x:=h9
 exact Qs (Qk (Q3 (L1:=[(3,_),(4,_),(5,_),(13,_)]) (HR U U U U) (k1:=leftA) (by omega) ⟨_,_,_,pr,f,V1,q,rfl,rfl,hk8.pick [1,2,3,4,5,6,7,8,9,10,11] U,(hsw.skip (p:= .inl k) hkn).congr fun p _=>Nk,hcnt⟩))
theorem GW: ∀{hs:List Int},hs.Pairwise (· < ·)→ ∀{q:Int} {i:Nat} {s:Int},hs[i]? =some s→(i<hs.countP (fun x=>decide (x<q))↔s<q)
  | [],_,q,i,s,hi=> by simp at hi
  | a::l,h,q,i,s,hi=> by
    obtain⟨ha,hl⟩:=List.pairwise_cons.1 h
    by_cases e:a<q
    · rw[List.countP_cons_of_pos (by simpa using e)]
      cases i with
      | zero=> simp at hi; subst hi; exact⟨fun _=>e, fun _=> by omega⟩
      | succ i=>
        have :=GW hl (q:=q) (i:=i) (s:=s) (by simpa using hi)
        omega
    · rw[List.countP_cons_of_neg (by simpa using e)]
      have h0:l.countP (fun x=>decide (x<q))=0:=List.countP_eq_zero.2 fun x hx=> by
        have :=ha x hx
        simp;omega
      rw[h0]
      have hs: ¬s<q:= by
        cases i with
        | zero=> simp at hi;omega
        | succ i=>
          have :=ha s (List.mem_of_getElem? (by simpa using hi))
          omega
      exact⟨fun h=>absurd h (by omega), fun h=>absurd h hs⟩
theorem UR {hs:List Int} (h:hs.Pairwise (· < ·)) {i j:Nat} {s t:Int} (hi:hs[i]? =some s) (hj:hs[j]? =some t):(i<j↔s<t):= by
  obtain⟨h1,e1⟩:=Zb hi
  obtain⟨h2,e2⟩:=Zb hj
  have hp:=List.pairwise_iff_getElem.1 h
  constructor
  · intro q; have :=hp i j h1 h2 q;omega
  · intro q
    rcases Nat.lt_trichotomy i j with r | r | r
    · exact r
    · subst r;omega
    · have :=hp j i h2 h1 r;omega
theorem U7 {hs:List Int} (h:hs.Pairwise (· < ·)):hs.Nodup:=h.imp fun h=> by omega
theorem UL {hs:List Int} (h:hs.Pairwise (· < ·)) {i:Nat} {x s:Int} (hi:hs[i]? =some x):s∈hs.eraseIdx i↔s∈hs∧s≠x:= by
  constructor
  · intro hm
    refine⟨List.mem_of_mem_eraseIdx hm, fun e=> ?_⟩
    subst e
    obtain⟨j,hj⟩:=List.mem_iff_getElem?.1 hm
    rw[List.getElem?_eraseIdx]at hj
    split at hj
    · have :=(UR h hj hi).1 (by assumption);omega
    · have :=(UR h hi hj).1 (by omega);omega
  · rintro⟨hm,hne⟩
    obtain⟨j,hj⟩:=List.mem_iff_getElem?.1 hm
    rw[List.mem_iff_getElem?]
    by_cases e:j<i
    · exact⟨j, by rw[List.getElem?_eraseIdx,if_pos e]; exact hj⟩
    · have e2:j≠i:= fun q=> by subst q; rw[hi]at hj; cases hj; exact hne U
      exact⟨j -1, by rw[List.getElem?_eraseIdx,if_neg (by omega), show j -1+1=j by omega]; exact hj⟩
theorem HeldL.erase {m c:Nat} {L L':LvD} {V V':VS} {hs:List Int} {i:Nat} {x y:Int} (h:HeldL L hs) (hI:LvI m L V) (hsw:SwR m c L L' V V' x y (fun _=>True)) (hne:y≠x) (hi:hs[i]? =some x) (hy:y=0∨y∈hs):HeldL L' (hs.eraseIdx i):= by
  obtain⟨h1,h2⟩:=hsw.all hne hI
  refine⟨fun s=> ?_,h.2.sublist (List.eraseIdx_sublist _ _)⟩
  rw[UL h.2 hi,h.1,←ZW hI s,←ZW hsw.inv s]
  rcases h2 s with e | e
  · rw[e]
  · subst e
    rcases hy with rfl | hy
    · rw[hI.zero,hsw.inv.zero]; simp
    · have h3:V s≠none:=(ZW hI s).2 ((h.1 s).1 hy)
      have h4:=(hsw.aliveY hI hne (.inr h3)).resolve_left ((h.1 s).1 hy).1
      exact⟨fun _=>h4, fun _=>⟨h3,hne⟩⟩
theorem HeldL.same {L L':LvD} {hs:List Int} (h:HeldL L hs) (hp:L'.pres=L.pres) (hT:L'.tr=L.tr):HeldL L' hs:= by
  have e: ∀p,QP L' p=QP L p:= fun p=> by cases p<;> simp [QP,hp,hT]
  exact⟨fun s=> by rw[h.1 s]; simp only[e],h.2⟩
def Dist (V:VS) (hs:List Int):Prop:= ∀s t,s∈hs→t∈hs→XH V s≠zer∧(t<s→XH V t≠XH V s)
structure MrI (m c:Nat) (L L1:LvD) (V V1:VS) (hs0 hs:List Int) (j:Nat):Prop where
  inv:LvI m L1 V1
  sp:L1.sp=L.sp
  ab:Q1 L1 V1=Q1 L V
  sz:SzLe L1 c
  held:HeldL L1 hs
  sub: ∀s∈hs,s∈hs0
  len:hs.length≤hs0.length
  good:(j=0∧L1.cur=L.cur)∨(1≤j∧1≤L1.cur∧L1.cur≤1152921504606846976)
  cnt:1≤j→j+(hs.length -hs.countP (fun x=>decide (x<L1.cur+1)))≤hs0.length
  dist:L.cur=0→ ∀s t,s∈hs→t∈hs→s≤L1.cur→XH V1 s≠zer∧(t<s→XH V1 t≠XH V1 s)
structure MrP (m c:Nat) (L L':LvD) (V V':VS) (N:Int):Prop where
  inv:LvI m L' V'
  sp:L'.sp=L.sp
  ab:Q1 L' V'=Q1 L V
  sz:SzLe L' c
  fin: ∃hs0 hs,HeldL L hs0∧HeldL L' hs∧(N≤hs0.length∨(L'.cur=0∧(L.cur=0→Dist V' hs)))
section
variable {m c j i:Nat} {L L1 L2 L3:LvD} {V V1 V3:VS} {hs0 hs:List Int} {x y q:Int} {N:Int}
theorem LvI.cur (hI:LvI m L V) {x:Int}:LvI m {L with cur:=x} V∧Q1 {L with cur:=x} V=Q1 L V:=LvX.same hI U U
theorem MrI.start (hI:LvI m L V) (hc:SzLe L c) (hh:HeldL L hs0):MrI m c L L V V hs0 hs0 0:= by
  refine⟨hI,rfl,rfl,hc,hh, fun _ h=>h,Nat.le_refl _,.inl ⟨rfl,rfl⟩, fun h=>absurd h (by omega), fun h0 s t hs ht hle=> ?_⟩
  rw[h0]at hle
  have :=(ZW hI s).2 ((hh.1 s).1 hs)
  obtain⟨z,hz⟩:=Option.ne_none_iff_exists'.1 this
  have :=(hI.ref.2 s z hz).2.1
  omega
theorem MrI.nx (h:MrI m c L L1 V V1 hs0 hs j) (hj:1≤j∨L.cur=0):IntKind.i64.wrap (L1.cur+1)=L1.cur+1:= by
  have h2:0≤L1.cur∧L1.cur≤1152921504606846976:= by
    rcases h.good with⟨a,b⟩ | ⟨_,a,b⟩
    · have :=hj.resolve_left (by omega)
      omega
    · omega
  exact M.wrap64 (by omega) (by omega)
theorem MrI.keep (h:MrI m c L L1 V V1 hs0 hs j) (hq:q=IntKind.i64.wrap (L1.cur+1)) (hi:i=hs.countP (fun x=>decide (x<q))) (hx:hs[i]? =some x) (h1:1≤x∧x≤1152921504606846976) (hnz:XH V1 x≠zer) (hf: ∀k s,k<i→hs[k]? =some s→XH V1 s≠XH V1 x):MrI m c L {L1 with cur:=x} V V1 hs0 hs (j+1):= by
  obtain⟨g1,g2⟩:=h.inv.cur (x:=x)
  have hil:=(Zb hx).1
  refine⟨g1,h.sp,g2.trans h.ab,h.sz,h.held.same U U,h.sub,h.len,.inr ⟨by omega,h1⟩, fun _=> ?_, fun h0 s t hs ht hle=> ?_⟩
  · have e1:i<hs.countP (fun z=>decide (z<x+1)):=(GW h.held.2 hx).2 (by omega)
    by_cases e:1≤j
    · have h2:=h.cnt e
      rw[h.nx (.inl e)]at hq
      rw[←hq,←hi]at h2
      show j+1+(hs.length -hs.countP (fun z=>decide (z<x+1)))≤_
      omega
    · have :=h.len
      show j+1+(hs.length -hs.countP (fun z=>decide (z<x+1)))≤_
      omega
  · rw[h.nx (.inr h0)]at hq
    have hle:s≤x:=hle
    by_cases e:s=x
    · subst e
      refine⟨hnz, fun hlt=> ?_⟩
      obtain⟨k,hk⟩:=List.mem_iff_getElem?.1 ht
      exact hf k t ((UR h.held.2 hk hx).2 hlt) hk
    · obtain⟨k,hk⟩:=List.mem_iff_getElem?.1 hs
      have h3:k<i:=(UR h.held.2 hk hx).2 (by omega)
      rw[hi]at h3
      have h4:=(GW h.held.2 hk).1 h3
      exact h.dist h0 s t hs ht (by omega)
theorem MrI.give (h:MrI m c L L1 V V1 hs0 hs j) (hq:q=IntKind.i64.wrap (L1.cur+1)) (hi:i=hs.countP (fun x=>decide (x<q))) (hx:hs[i]? =some x) (h1:1≤x∧x≤1152921504606846976) (hsw:SwR m c {L1 with cur:=x} L3 V1 V3 x y (fun _=>True)) (hne:y≠x) (hy:y=0∨y∈hs):MrI m c L L3 V V3 hs0 (hs.eraseIdx i) (j+1):= by
  obtain⟨g1,g2⟩:=h.inv.cur (x:=x)
  have hil:=(Zb hx).1
  have hc:L3.cur=x:=hsw.cur
  have hH:=(h.held.same (L':={L1 with cur:=x}) U U).erase g1 hsw hne hx hy
  have hle:(hs.eraseIdx i).length=hs.length -1:=List.length_eraseIdx_of_lt hil
  refine⟨hsw.inv,hsw.sp.trans h.sp,hsw.ab.trans (g2.trans h.ab),hsw.sz,hH, fun s hs=>h.sub s (List.mem_of_mem_eraseIdx hs), by have :=h.len;omega,.inr ⟨by omega, by rw[hc]; exact h1⟩, fun _=> ?_, fun h0 s t hs1 ht hle=> ?_⟩
  · rw[hc]
    have e1:i≤(hs.eraseIdx i).countP (fun z=>decide (z<x+1)):= by
      apply Nat.le_of_not_lt
      intro e
      have hl2:(hs.eraseIdx i).countP (fun z=>decide (z<x+1))<(hs.eraseIdx i).length:= by omega
      obtain⟨r,h5⟩: ∃r,(hs.eraseIdx i)[(hs.eraseIdx i).countP (fun z=>decide (z<x+1))]? =some r:=⟨_,Zq hl2⟩
      have h6:=GW (q:=x+1) hH.2 h5
      have h7:hs[(hs.eraseIdx i).countP (fun z=>decide (z<x+1))]? =some r:= by
        rw[List.getElem?_eraseIdx,if_pos e]at h5; exact h5
      have h8:=(UR h.held.2 h7 hx).1 e
      exact absurd (h6.2 (by omega)) (Nat.lt_irrefl _)
    by_cases e:1≤j
    · have h2:=h.cnt e
      rw[h.nx (.inl e)]at hq
      rw[←hq,←hi]at h2
      omega
    · have :=h.len
      omega
  · rw[hc]at hle
    rw[h.nx (.inr h0)]at hq
    obtain⟨m1,n1⟩:=(UL h.held.2 hx).1 hs1
    obtain⟨m2,n2⟩:=(UL h.held.2 hx).1 ht
    obtain⟨k,hk⟩:=List.mem_iff_getElem?.1 m1
    have h3:k<i:=(UR h.held.2 hk hx).2 (by omega)
    rw[hi]at h3
    have h4:=(GW h.held.2 hk).1 h3
    have h5:=h.dist h0 s t m1 m2 (by omega)
    have al: ∀r∈hs.eraseIdx i,XH V3 r=XH V1 r:= fun r hr=>(hsw.pgs r (.inr ((ZW hsw.inv r).2 ((hH.1 r).1 hr)))).2
    rw[al s hs1,al t ht]
    exact h5
theorem MrI.brk (h:MrI m c L L1 V V1 hs0 hs j) (hh:HeldL L hs0) (hq:q=IntKind.i64.wrap (L1.cur+1)) (hi:hs.countP (fun x=>decide (x<q))=hs.length):MrP m c L {L1 with cur:=0} V V1 N:= by
  obtain⟨g1,g2⟩:=h.inv.cur (x:=0)
  refine⟨g1,h.sp,g2.trans h.ab,h.sz,hs0,hs,hh,h.held.same U U,.inr ⟨rfl, fun h0 s t hs1 ht=> ?_⟩⟩
  rw[h.nx (.inr h0)]at hq
  obtain⟨k,hk⟩:=List.mem_iff_getElem?.1 hs1
  have hkl:=(Zb hk).1
  have h4:=(GW h.held.2 hk).1 (by rw[hi]; exact hkl)
  exact h.dist h0 s t hs1 ht (by omega)
theorem MrI.done (h:MrI m c L L1 V V1 hs0 hs j) (hh:HeldL L hs0) (hj:N≤(j:Int)):MrP m c L L1 V V1 N:= by
  refine⟨h.inv,h.sp,h.ab,h.sz,hs0,hs,hh,h.held,.inl ?_⟩
  by_cases e:1≤j
  · have :=h.cnt e;omega
  · omega
end
theorem stT_id {w:World} {p n F:Nat} {V:VS} {As:List Th} (h:Sat w (XD p n F V::As)) {j:Int} (hj:V j≠none):1≤j∧j≤1099511627777+n:= by
  obtain⟨S,a,b,c,h⟩:=WH h
  subst b
  obtain⟨x,hx⟩:=Option.ne_none_iff_exists'.1 hj
  cases hq:S.all j with
  | none=> rw[Ht hq]at hx; cases hx
  | some y=>
    have :=a.ent hq
    have :=a.nx2
    omega
theorem lvT_cur {w:World} {As:List Th} {b:Nat} {L:LvD} (hS:Sat w As) (i:Nat) (hi:As[i]? =some (XX b L)):w.cell? ⟨b,3,none⟩=some (intV L.cur):=(X1 (hS.pull i hi)).cell 0 U U
end Go.Proofs.YtkcjfoaejijdoaaGreatDoor
namespace Go.Proofs.YtkcjfoaejijdoaaGreatDoor.M
open Go.RowKit Proofs.Tryz
theorem CP {P:Program} (len cap:Nat) (k1 k2 k3:IntKind) (A B M:Nat) (h1:A≤B) (h2:B≤M) (h3:M≤cap) (w:World):(Instr.sliceBounds true len cap (some (.int k1 (A:Int))) (some (.int k2 (B:Int))) (some (.int k3 (M:Int)))).run P w= .ok (A,B,M) w:= by
  have g1:(A:Int)≤(B:Int):= by omega
  have g2:(B:Int)≤(M:Int):= by omega
  have g3:(M:Int)≤(cap:Int):= by omega
  simp [Instr.sliceBounds,Instr.sliceBound,asIntOf,h1,h2,h3,g1,g2,g3]
section
variable {P:Program} {n:Nat} {ops:Array Oper} {Q:Exit→Act→World→Prop} {rest:List Oper} {L:Env} {w:World} {d:Nat} {ty:TypeId} {pos:String} {aft:Array Edge}
theorem EO {x y1 y2 y3:Operand} {t e m cap sz:Nat} {k1 k2 k3:IntKind} {a:Option Addr} (A B M:Nat) (hu:P.underlying t=some (.slice e)) (hs:Wb P e=some sz) (hx:look L x=some (.slice a m cap)) (g1:look L y1=some (.int k1 (A:Int))) (g2:look L y2=some (.int k2 (B:Int))) (g3:look L y3=some (.int k3 (M:Int))) (h1:A≤B) (h2:B≤M) (h3:M≤cap) (hd:Nat.blt d n=true)
    (hk:wl P n ops Q rest ((d,.slice (if M=A then a else a.map fun p=>p.add (A*sz)) (B -A) (M -A))::L) w):wl P n ops Q (⟨some d,.slice t x (some y1) (some y2) (some y3),ty,pos,aft,none⟩::rest) L w:=
  X8 hd (fun ρ hρ=> by
    have hb:=CP (P:=P) m cap k1 k2 k3 A B M h1 h2 h3 w
    simp only[execOp,hρ _ _ hx]
    simp [Instr.sliceAt,Instr.slice,run_underlying hu,hρ _ _ g1,hρ _ _ g2,hρ _ _ g3,hb,run_sizeOf hs]) hk
theorem C1 {As:List Th} (k:Nat) (hS:Sat w As) {t t2 e bytes b m cap i j:Nat} {s x:Operand} {z xv:Value} {d2:TypeDesc} {l:List Int} (hi:As[k]? =some (rowT inC (.slice (some ⟨b,0,none⟩) m cap) l)) (hm:l.length=m) (hs:look L s=some (.slice (some ⟨b,0,none⟩) i cap)) (hx:look L x=some xv) (hr:RdL inC xv (l.drop j) w) (hu:P.underlying t=some (.slice e)) (hu2:P.underlying t2=some d2) (hd2: ∀k,d2≠ .int k)
    (hif:(P.info? e).map (fun i=>(i.zero,i.size,i.bytes))=some (some z,1,bytes)) (hij:i≤j) (hj:j≤m) (hd:Nat.blt d n=true)
    (hk: ∀w',Sat w' (As.set k (rowT inC (.slice (some ⟨b,0,none⟩) m cap) (l.take i++l.drop j++l.drop (i+(m -j)))))→wl P n ops Q rest ((d,.slice (some ⟨b,0,none⟩) (i+(m -j)) cap)::L) w'):wl P n ops Q (⟨some d,.call ⟨.builtin .append, #[s,x], #[t,t2]⟩,ty,pos,aft,none⟩::rest) L w:= by
  subst hm
  obtain⟨f,hown⟩:=hS.own k hi
  obtain⟨hl,⟨h0,_⟩ | ⟨b',cap',sp,h0,hc,hb,hlen,rfl⟩⟩:=hown
  · cases h0
  · cases h0
    obtain⟨inf,hi1,hi2,hi3,hi4⟩:=info_parts hif
    have e1:inC.cells l++sp=inC.cells (l.take i)++(inC.cells (l.drop i)++sp):= by rw[←List.append_assoc,inC.cells_app,List.take_append_drop]
    have e2:inC.cells (l.take i)++inC.cells (l.drop j)++(inC.cells (l.drop i)++sp).drop ((l.length -j)*1)=inC.cells (l.take i++l.drop j++l.drop (i+(l.length -j)))++sp:= by
      have e3:(inC.cells (l.drop i)++sp).drop ((l.length -j)*1)=inC.cells (l.drop (i+(l.length -j)))++sp:= by
        rw[HL,HL,List.drop_append_of_le_length (by simp;omega),←List.map_drop,List.drop_drop,Nat.mul_one]
      rw[e3,inC.cells_app,←List.append_assoc,inC.cells_app]
    have hll:(l.take i++l.drop j++l.drop (i+(l.length -j))).length=l.length:= by simp;omega
    refine XZ U hd (R:= fun v w'=>v= .slice (some ⟨b,0,none⟩) (i+(l.length -j)) cap∧Blk w' b (inC.cells (l.take i++l.drop j++l.drop (i+(l.length -j)))++sp)∧Only [b] w w') (fun a ha=> ?_) ?_
    · obtain⟨w',hr',hb',ho',_⟩:=Bm (P:=P) (w:=w) (b:=b) (n:=i) (cap:=cap) (size:=1) (m:=l.length -j) (xs:=inC.cells (l.take i)) (sp:=inC.cells (l.drop i)++sp) (news:=inC.cells (l.drop j)) (ty:=ty) hu hu2 hd2 hi1 hi3
        (by have :=hr.lenOf (P:=P);rwa [List.length_drop]at this) (by have :=hr.first (P:=P) w U;rwa [List.length_drop]at this) (by rw[inC.cells_len,List.length_take]; show min i l.length*1=i*1;omega) (by rw[inC.cells_len,List.length_drop];rfl) (WN (inC.cells_one _)) (by rw[←e1]; exact hb) (by rw[←e1]; exact hlen) (by omega)
      rw[e2]at hb'
      exact⟨_,w',.inl (by simp [execOp,ha.eval hs,ha.eval hx,resolve,invoke,builtin,hr']),rfl,hb',ho'⟩
    · rintro v w' ⟨rfl,h2,h3⟩
      refine hk w' (hS.own_set k hi fun foot hown2=> ?_)
      obtain⟨_,⟨h0,_⟩ | ⟨b2,cap2,sp2,h0,_,_,_,rfl⟩⟩:=hown2
      · cases h0
      · cases h0
        exact⟨[b],⟨inC.cells_len _,.inr ⟨b,cap,sp, by rw[hll], by rw[hll]; exact hc,h2, by rw[List.length_append,inC.cells_len,hll,←inC.cells_len,←List.length_append]; exact hlen,rfl⟩⟩,h3, fun k hk=> .inl hk⟩
end
theorem Es {l:List Int} {i:Nat} (hi:i<l.length):XT (inC.cells (l.take i++l.drop (i+1)++l.drop (i+(l.length -(i+1))))) (0+(i+(l.length -(i+1)))*1) (List.replicate (l.length -(i+(l.length -(i+1)))) [intV 0]).flatten=inC.cells (l.take i++l.drop (i+1)++[0]):= by
  have hll:(l.take i++l.drop (i+1)++l.drop (i+(l.length -(i+1)))).length=l.length:= by simp;omega
  have h:=ND (l:=l.take i++l.drop (i+1)++l.drop (i+(l.length -(i+1)))) (i:=i+(l.length -(i+1))) (by rw[hll];omega)
  rw[hll]at h
  rw[h]
  congr 1
  have e1:(l.take i++l.drop (i+1)).length=i+(l.length -(i+1)):= by simp;omega
  rw[List.take_append_of_le_length (by rw[e1];omega),List.take_of_length_le (by rw[e1];omega), show l.length -(i+(l.length -(i+1)))=1 by omega]
  rfl
