/- disk: Write, Sync, Truncate -/
import Derived.Test.YtiibgheijbbmaaaGreatDoorDd
set_option linter.unusedVariables false
set_option maxRecDepth 100000
namespace Go.Proofs.YtiibgheijbbmaaaGreatDoor
open Go.RowKit M Proofs.Tryz
theorem MK {w:World} {As:List Th} {p:Nat} {kp:Value} {D:DS} (hS:Sat w As) (i:Nat) (hi:As[i]? =some (Z7 p kp D)):w.cell? ⟨p,0+6,none⟩=some kp:= by
  obtain⟨L,_,h⟩:=Jm (hS.pull i hi)
  exact h.cell 0 Qa Qa
theorem VK (D:DS):(Zx D).keep=D.keep:= by unfold Zx;split<;>rfl
theorem BA (D:DS) (f a:Int) (s:Bytes):(Ji D f a s).keep=D.keep:= by unfold Ji Y9;split<;>(try split)<;>rfl
theorem qa3 {w:World} {p:Nat} {kp:Value} {D:DS} {F:Th} (hS:Sat w [Z7 p kp D,F]) (hK:Ent F (RdI kp D.keep)) (f at_:Int) (s:Bytes):
    Calls prog 117 #[ptrV p 0,intV f,intV at_,strV s] w (Ret fun v w'=>v=intV (WJ D f at_ s)∧Sat w' [Z7 p kp (XU D f at_ s),F]):= by
 refine Qy func117 Qa ntmps117 Qa ?_
 refine Qg (Qb (Qc Qa Qa (Qh (Qe (Qg (Qb (Qd Qa Qa (Q4 IW Qa (LP (hS.sp [0] Qa)) Qa ?_))))))))
 rintro _ w1 ⟨rfl,hS1⟩
 replace hS1:=hS1.jn Qa Qa
 refine Qc Qa Qa (Qh (Qe (Qg (Qb (Qd Qa Qa (Qd Qa Qa (Qd Qa Qa (Qd Qa Qa (Q4 cal_130 Qa (AZ (hS1.sp [0] Qa) f at_ s) Qa ?_)))))))))
 rintro _ w2 ⟨rfl,hS2⟩
 replace hS2:=hS2.jn Qa Qa
 refine Qc Qa Qa (Qh (Qe (Qk [0,8,9,10] Qa (Qg (Qg (Qb (Qd Qa Qa (Qh (Qe (Xd Qa (fun h3=> ?_) (fun h3=> ?_)))))))))))
 ·have hb:Yf D=true:=h3
  refine Qg (Qb (Qd Qa Qa (Qd Qa Qa (Ql Qa Qa (Qi Qa PW Qa (Qp Qa S6 (MK hS2 0 Qa) Qa (Q4 IX Qa (Ss (hS2.sp [0] Qa) (hK.starL 0 Qa)) Qa ?_)))))))
  rintro _ w4 ⟨rfl,hS4⟩
  replace hS4:=hS4.jn Qa Qa
  refine Qh (Qe (Qk [8,10] Qa (Qg (Qb (Qc Qa Qa (Qh (Qe (Qo (Qm (Q7 (.inr Qa) Qa Qa ?_))))))))))
  exact⟨_,rfl, by simp [WJ,hb], by simp only[XU,hb]; exact hS4⟩
 have hb:Yf D=false:=h3
 refine Qr (Qe (Qg (Qb (Qd Qa Qa (Qc Qa Qa (Qh (Qe (Qo (Q7 (.inr Qa) Qa Qa ?_)))))))))
 exact⟨_,rfl, by simp [WJ,hb], by simp only[XU,hb]; exact hS2⟩
theorem TR {D:DS} (h:Yf D=true):Jn D=ZY (Zx D) D.keep:= by simp [Jn,h]
theorem Gm {D:DS} (h:Yf D=false):Jn D=Zx D:= by simp [Jn,h]
theorem Sync_sp {w:World} {p:Nat} {kp:Value} {D:DS} {F:Th} (hS:Sat w [Z7 p kp D,F]) (hK:Ent F (RdI kp D.keep)) (f:Int):
    Calls prog 57 #[ptrV p 0,intV f] w (Ret fun v w'=>v=intV (Wa D f)∧Sat w' [Z7 p kp (Zq D f),F]):= by
 refine Qy func57 Qa ntmps57 Qa ?_
 refine Qg (Qb (Qc Qa Qa (Qh (Qe (V7 (fun E0 W0=>E0=[(0,ptrV p 0),(1,intV f),(4,intV 0)]∧Sat W0 [Z7 p kp (Jn D),F]) ?_ ?_)))))
 ·refine Qg (Qb (Qd Qa Qa (Q4 IW Qa (LP (hS.sp [0] Qa)) Qa ?_)))
  rintro _ w2 ⟨rfl,hS2⟩
  replace hS2:=hS2.jn Qa Qa
  refine Qh (Qe (Xd Qa (fun h3=> ?_) (fun h3=> ?_)))
  ·have hb:Yf D=true:=h3
   refine Qb (Qd Qa Qa (Qd Qa Qa (Ql Qa Qa (Qi Qa PW Qa (Qp Qa S6 (MK hS2 0 Qa) Qa (Q4 IX Qa (Ss (hS2.sp [0] Qa) (hK.starL 0 Qa)) Qa ?_))))))
   rintro _ w4 ⟨rfl,hS4⟩
   replace hS4:=hS4.jn Qa Qa
   refine Qh ?_
   exact JL (Dh Qa Qa Qa) ⟨rfl, by rw[TR hb]; exact hS4⟩
  have hb:Yf D=false:=h3
  refine Qr ?_
  exact JL (Dh Qa Qa Qa) ⟨rfl, by rw[Gm hb]; exact hS2⟩
 rintro _ w1 ⟨rfl,hS1⟩
 refine Qg (Qg (Qb (Qd Qa Qa (Qd Qa Qa (Q4 FJ Qa (Fk (hS1) f) Qa ?_)))))
 rintro _ _ ⟨rfl,rfl⟩
 refine Qc Qa Qa (Qh (Qe (Qg (Qb (Qd Qa Qa (Xt Qa Qa Qa (Qh (Qe (Qw Qa (fun h6=> ?_) (fun h6=> ?_))))))))))
 ·have hm:Wf (Jn D) f≠0:=h6
  refine Qg (Qb (Qd Qa Qa (Qc Qa Qa (Qh (Qe (Qo (Qm (Q7 (.inr Qa) Qa Qa ?_))))))))
  exact⟨_,rfl, by simp [Wa,hm], by simp only[Zq,if_pos hm]; exact hS1⟩
 have hm:Wf (Jn D) f=0:=Decidable.not_not.1 h6
 refine Qr (Qe (Qg (Qg ?_)))
 obtain⟨⟨bf,bs,qv⟩,hI,hS1⟩:=Jm (hS1.pull 0 rfl); dsimp only[List.eraseIdx]at hS1
 obtain⟨g,hg,hS1⟩:=Yd (hS1.pull 1 rfl); dsimp only[List.eraseIdx]at hS1
 refine Qb (Qd Qa Qa (Ql Qa Qa (Qi Qa M9 Qa (Qp Qa QK (hS1.cell 1 Qa Qa) Qa (We Qa Qa Qa (Qh (Qe (Qk [4,1,0,24] Qa (Qw Qa (fun h7=> ?_) (fun h7=> ?_))))))))))
 ·have hl:0<(Jn D).lost:=h7
  have hll:=hI.lost
  refine Qg (Qb (Qd Qa Qa (Ql Qa Qa (Qi Qa M9 Qa (Qp Qa QK (hS1.cell 1 Qa Qa) Qa (JN Qa Qa (by omega) (by omega) Qa ?_))))))
  refine Ql Qa Qa (Qi Qa M9 Qa ?_)
  first | (refine QC hS1 Qa Qa YH (by rfl) (i:=1) Qa (Xe Qa) ?_)
  intro w8 hS9; dsimp only[List.set]at hS9
  refine Qh (Qe (Qk [4,1,0] Qa (Qg (Qb (Qc Qa Qa (Qh (Qe (Qo (Qm (Q7 (.inr Qa) Qa Qa ?_))))))))))
  exact⟨_,rfl, by rw[Wa,if_neg (by simp [hm]),if_pos hl], by rw[Zq,if_neg (by simp [hm]),if_pos hl]; exact Cj {hI with lost:=⟨by simp;omega, by have :=hI.lost; simp;omega⟩} hg hS9⟩
 have hl: ¬0<(Jn D).lost:=h7
 refine Qr (Qe (Qg (Qb (Qd Qa Qa (Qd Qa Qa (Qd Qa Qa (Ql Qa Qa (Qi Qa Yc Qa (Qp Qa U4 (hS1.cell 1 Qa Qa) Qa (Qd Qa Qa (Hy 0 hS1 keysInt underlying116 Qa Qa Qa US (hg _) Qa (DH PR Qa Qa Qa ?_))))))))))))
 replace hS1:=Cj hI hg hS1
 refine Q4 cal_94 Qa (Eu (hS1.sp [0] Qa) f _ (hI.now f)) Qa ?_
 rintro _ w10 ⟨rfl,hS10⟩
 replace hS10:=hS10.jn Qa Qa
 refine Qh (Qe (Qk [4] Qa (Qg (Qb (Qc Qa Qa (Qh (Qe (Qo (Q7 (.inr Qa) Qa Qa ?_)))))))))
 exact⟨_,rfl, by rw[Wa,if_neg (by simp [hm]),if_neg hl], by rw[Zq,if_neg (by simp [hm]),if_neg hl]; exact hS10⟩
def Uz (l:List Int):List Value:=l.map intV
theorem Gp (l:List Int):(Uz l).length=l.length:= by simp [Uz]
theorem RdI.nil {n cap:Nat} {l:List Int} {w:World} (h:RdI (.slice none n cap) l w):l=[]:= by
  cases l with
  | nil=>rfl
  | cons x l=> obtain⟨b,off,h1,_⟩:=h.get (i:=0) (x:=x) rfl; cases h1
theorem RdI.lenOf {v:Value} {l:List Int} {w:World} (h:RdI v l w): ∀w1,(Builtin.lenOf v).run prog w1= .ok l.length w1:= by
  obtain⟨ao,cap,rfl,_⟩:=h.shape
  exact Kw _ _ _
theorem RdI.first {v:Value} {l:List Int} {w:World} (h:RdI v l w): ∀w1:World,w1.heap=w.heap→(Builtin.firstCells 1 l.length v).run prog w1= .ok (Uz l).toArray w1:= by
  obtain⟨ao,cap,rfl,_⟩:=h.shape
  intro w1 hw
  cases hl:l with
  | nil=> cases ao<;> simp [Builtin.firstCells,Uz,loadCells,loadCellsFrom]
  | cons x l'=>
    obtain⟨b,off,rfl,_⟩:=h.get (i:=0) (x:=x) (by rw[hl];rfl)
    rw[←hl]
    simp only[Builtin.firstCells,Nat.mul_one]
    have :=run_loadCells_list (P:=prog) w1 ⟨b,off,none⟩ (Uz l) (fun j v hv=> by
      rw[Wu]
      simp only[Uz,List.getElem?_map]at hv
      obtain⟨y,hy,rfl⟩:=Option.map_eq_some_iff.1 hv
      obtain⟨b2,o2,e,hc⟩:=h.get hy
      cases e
      rw[Nat.mul_one]at hc
      rw[World.cell?_of_block (w:=w) (by rw[hw])]
      exact hc)
    rw[Gp]at this
    exact this
theorem BT {v:Value} {l:List Int} (hl:l.length≤9223372036854775807):Ent (XT v l.length 1 (Uz l)) (RdI v l):= by
  rintro w G ⟨f,_,hl2,⟨rfl,h0,_⟩ | ⟨b,cap,sp,rfl,hc,hb,_,_⟩⟩
  · have :l=[]:=List.eq_nil_of_length_eq_zero h0
    subst this
    exact⟨none,0,rfl, by simp, by simp⟩
  · refine⟨_,cap,rfl,hl, fun i x hx=>⟨b,0,rfl, ?_⟩⟩
    refine hb.cell ?_
    have hi:=(Jo hx).1
    rw[Nat.zero_add,List.getElem?_append_left (by rw[Gp]; exact hi)]
    simp [Uz,hx]
theorem mc1 : (Tryz.f111.name == "runtime.NumGoroutine") = false := by kernel_rfl
theorem mc2:Tryz.f111.body.isNone=true:= by kernel_rfl
theorem mc3:Extern.findNext Tryz.f111=none:= by kernel_rfl
theorem mc4:Extern.find Tryz.f111=some Extern.MapsClone.clone:= by kernel_rfl
theorem AG {w:World} {F:Th} {b:Nat} {g:Int→Option Value} (hS:Sat w [XI Za b g,F]):
    Calls prog 85 #[.map (some b)] w (Ret fun v w'=> ∃b',v= .map (some b')∧Sat w' [XI Za b' g,XI Za b g,F]):= by
 refine Qy func85 Qa ntmps85 Qa ?_
 refine Qg (Qb (Qc Qa Qa (Qh (Qe (Qg (Qg (Qb (Qd Qa Qa (RV underlying116 Qa Qa Qa (Qh (Qe (QF Qa (Qr (Qe (Qg (Qb (Qd Qa Qa (RT Lu Qa Qa (RS 0 hS func111 mc1 mc2 mc3 mc4 Qa Qa Qa ?_)))))))))))))))))))
 intro b9 w9 hS9
 exact Rw Lu Qa Qa (Qc Qa Qa (Qh (Qe (Qo (Q7 (.inr Qa) Qa Qa (⟨_,Qa,_,Qa,hS9⟩))))))
theorem AE {w:World} {F:Th} {b:Nat} {g:Int×Int→Option Value} (hS:Sat w [XI Wq b g,F]):
    Calls prog 87 #[.map (some b)] w (Ret fun v w'=> ∃b',v= .map (some b')∧Sat w' [XI Wq b' g,XI Wq b g,F]):= by
 refine Qy func87 Qa ntmps87 Qa ?_
 refine Qg (Qb (Qc Qa Qa (Qh (Qe (Qg (Qg (Qb (Qd Qa Qa (RV underlying118 Qa Qa Qa (Qh (Qe (QF Qa (Qr (Qe (Qg (Qb (Qd Qa Qa (RT Lt Qa Qa (RS 0 hS func111 mc1 mc2 mc3 mc4 Qa Qa Qa ?_)))))))))))))))))))
 intro b9 w9 hS9
 exact Rw Lt Qa Qa (Qc Qa Qa (Qh (Qe (Qo (Q7 (.inr Qa) Qa Qa (⟨_,Qa,_,Qa,hS9⟩))))))
theorem Pn {w:World} {F:Th} {Q:List (Int×Int)} {cap:Nat} (h:Sat w [XT (.slice none Q.length cap) Q.length 2 (ZF Q),F]):Q=[]:= by
  obtain⟨f,_,⟨_,h0,_⟩ | ⟨b,cap,sp,h0,_⟩⟩:=h.own 0 rfl
  · exact List.eq_nil_of_length_eq_zero h0
  · cases h0
theorem O5 (Q:List (Int×Int)):ZV (ZF Q)=true:=Ci (by intro v hv; obtain⟨p,_,hp⟩:=List.mem_flatMap.1 hv; simp at hp; rcases hp with rfl | rfl<;>rfl)
theorem AF {w:World} {F:Th} {qv:Value} {Q:List (Int×Int)} (hS:Sat w [XT qv Q.length 2 (ZF Q),F]) (hl:Q.length≤4194320):
    Calls prog 86 #[qv] w (Ret fun v w'=>Sat w' [XT v Q.length 2 (ZF Q),XT qv Q.length 2 (ZF Q),F]):= by
 obtain⟨ao,capq,rfl,hcq,_⟩:=hS.own_shape 0 rfl
 refine Qy func86 Qa ntmps86 Qa ?_
 refine Qg (Qb (Qc Qa Qa (Qh (Qe (Qg (Qg (Qb (Qd Qa Qa (ND underlying117 Qa Qa Qa (Qh (Qe (Xd Qa (fun h1=> ?_) (fun h1=> ?_)))))))))))))
 ·have hn:ao=none:=Option.isNone_iff_eq_none.1 h1
  subst hn
  obtain rfl:=Pn hS
  exact Qg (Qb (Qc Qa Qa (Qh (Qe (Qo (Qm (Q7 (.inr Qa) Qa Qa (⟨_,rfl,hS.new (Only.refl [] _) (A:=XT (.slice none 0 0) 0 2 []) (F':= fun k=>k∈([]:List Nat)) ⟨[],rfl,Own.nil _ 2⟩ (by simp)⟩))))))))
 refine Qr (Qe (Qg (Qb (UU hS Qa underlying117 L7 Qa Qa Qa Qa ?_))))
 intro b2 w2 hS2
 refine Qd Qa Qa ?_
 first | refine GS 0 hS2 Qa Qa Qa underlying117 underlying117 (by intro k hk; cases hk) L9 Qa (by decide) (TQ hS2 1 Qa) (K4 hS2 1 Qa) (UC Q) (O5 _) (by omega) (by omega) Qa ?_
 intro v3 w3 hS3; dsimp only[List.set]at hS3
 have h1v3:v3.oneCell'=true:= by first | exact hS3.own_one 0 Qa
 refine Qc Qa Qa (Qh (Qe (Qo (Q7 (.inr Qa) Qa Qa ?_))))
 exact⟨_,rfl, by have h:=hS3; rw[Nat.zero_add]at h; exact h⟩
theorem IS {w:World} {p p2 bf bs bf2 bs2:Nat} {kp qv qv2:Value} {D:DS} {g:Int→Option Value} {gs:Int×Int→Option Value} {F:Th} (hI:DInv D) (hg:Hw g D.F) (hgs: ∀p,gs p= if p∈D.Q then some (.bool true)else none)
    (h:Sat w [XI Wq bs2 gs,XI Wq bs gs,XT qv2 D.Q.length 2 (ZF D.Q),XT qv D.Q.length 2 (ZF D.Q),XI Za bf2 g,XI Za bf g,QR p2 (Y0 ⟨bf2,bs2,qv2⟩ kp D),QR p (Y0 ⟨bf,bs,qv⟩ kp D),F]):Sat w [Z7 p2 kp D,Z7 p kp D,F]:= by
  have h1:=YR gs hgs h
  have h2:=YR gs hgs (h1.reorder [1,0,2,3,4,5,6,7,8] Qa)
  have h3:=Jg g hg (h2.reorder [4,5,0,1,2,3,6,7,8] Qa)
  have h4:=Jg g hg (h3.reorder [1,0,2,3,4,5,6,7,8] Qa)
  -- bf, bf2, bs, bs2, q2, q, p2, p, F
  have h5:=W8 (As:=[JM bf D.F,Hs bs D.Q,XT qv D.Q.length 2 (ZF D.Q),QR p (Y0 ⟨bf,bs,qv⟩ kp D),F]) ⟨bf2,bs2,qv2⟩ hI (h4.reorder [6,1,4,3,0,2,5,7,8] Qa)
  have h6:=W8 (As:=[F,Z7 p2 kp D]) ⟨bf,bs,qv⟩ hI (h5.reorder [4,1,3,2,5,0] Qa)
  exact h6.reorder [2,0,1] Qa
theorem copy_sp {w:World} {p:Nat} {kp:Value} {D:DS} {F:Th} (hS:Sat w [Z7 p kp D,F]) (hK:Ent F (RdI kp D.keep)):
    Calls prog 50 #[ptrV p 0] w (Ret fun v w'=> ∃p2,v=ptrV p2 0∧Sat w' [Z7 p2 kp D,Z7 p kp D,F]):= by
 obtain⟨aok,capk,rfl,_⟩:=(hK.sat hS 1 rfl).shape
 obtain⟨⟨bf,bs,qv⟩,hI,hS⟩:=Jm hS; dsimp only at hS
 refine Qy func50 Qa ntmps50 Qa ?_
 obtain⟨g,hg,hS⟩:=Yd (hS.pull 1 rfl); dsimp only[List.eraseIdx]at hS
 obtain⟨gs,hgs,hS⟩:=GY (hS.pull 3 rfl); dsimp only[List.eraseIdx]at hS
 have h1q0:=hS.own_one 3 Qa
 have hone:ZV (Y0 ⟨bf,bs,qv⟩ (.slice aok D.keep.length capk) D)=true:= by simp [ZV,Y0,Value.oneCell',h1q0]at h1q0⊢; exact h1q0
 refine Qg (Qb (Qc Qa Qa (Qh (Qe (Qg (Qb (Qd Qa Qa (Ql Qa Qa ?_))))))))
 refine Zg Qa ag_120 Ok (by first | exact hS.blk 2 Qa) (by first | decide | exact Xe Qa | (simp;done) | omega) Qa Qa ?_
 refine Xk hS AU Qa Qa ?_
 intro b1 w1 hS1
 (refine QX hS1 Qa Qa Ok Qa (by assumption) (i:=0) Qa (by decide) ?_)
 intro w2 hS3; dsimp only[List.set]at hS3
 refine Qh (Qe (Qg ?_))
 have hS4:=hS3.drew
 refine QT [0,1,2,3,5,6,7,8,10,11,12,13,4,9,14,15,16,17,18,19,20] [4,9,14,16,18,20] Jk (by kernel_rfl) ?_
 refine QM Qa Qa Qa (Xw Qa Qa Qa (QQ Qa Qa Qa Yc (QH Qa Qa Qa (Qn Qa U4 (hS4.cell 3 Qa Qa)) (QM Qa Qa Qa (Xw Qa Qa Qa (QQ Qa Qa Qa HK (QH Qa Qa Qa (Qn Qa B6 (hS4.cell 3 Qa Qa)) (QM Qa Qa Qa (Xw Qa Qa Qa (QQ Qa Qa Qa Vz (QH Qa Qa Qa (Qn Qa KF (hS4.cell 3 Qa Qa)) (Xb Qa Qa Qa Qa Qa Qa ?_))))))))))))
 refine Q4 cal_85 Qa (AG (hS4.sp [2] Qa)) Qa ?_
 rintro _ w5 ⟨b5,rfl,hS5⟩
 replace hS5:=hS5.jn Qa Qa
 refine Xn (.cons (.inl ⟨rfl,(Qn Qa KF (hS5.cell 4 Qa Qa))⟩) (.cons (.inl ⟨rfl,(Qn Qa B6 (hS5.cell 4 Qa Qa))⟩) (XC (by kernel_rfl)))) ?_
 refine Xb Qa Qa Qa Qa Qa Qa ?_
 refine Q4 cal_86 Qa (AF (hS5.sp [5] Qa) (KR hI.secs hI.nodup)) Qa ?_
 rintro _ w6 hS6
 replace hS6:=hS6.jn Qa Qa
 have h1q:=hS6.own_one 0 Qa
 refine Xn (.cons (.inl ⟨rfl,(Qn Qa KF (hS6.cell 6 Qa Qa))⟩) (XC (by kernel_rfl))) ?_
 refine Xb Qa Qa Qa Qa Qa Qa ?_
 refine Q4 cal_87 Qa (AE (hS6.sp [5] Qa)) Qa ?_
 rintro _ w7 ⟨b7,rfl,hS7⟩
 replace hS7:=hS7.jn Qa Qa
 refine Xn (XC (by kernel_rfl)) ?_
 refine QQ Qa Qa Qa Yc (Xb Qa Qa Qa Qa Qa Qa ?_)
 (refine QC hS7 Qa Qa sz_116 (by rfl) (i:=6) Qa (Xe Qa) ?_)
 intro w8 hS9; dsimp only[List.set]at hS9
 refine ZG (XC (by kernel_rfl)) ?_
 refine QQ Qa Qa Qa HK (Xb Qa Qa Qa Qa Qa Qa ?_)
 (refine QC hS9 Qa Qa Cw (by assumption) (i:=6) Qa (Xe Qa) ?_)
 intro w10 hS11; dsimp only[List.set]at hS11
 refine ZG (XC (by kernel_rfl)) ?_
 refine QQ Qa Qa Qa Vz (Xb Qa Qa Qa Qa Qa Qa ?_)
 (refine QC hS11 Qa Qa Ol (by rfl) (i:=6) Qa (Xe Qa) ?_)
 intro w12 hS13; dsimp only[List.set]at hS13
 refine ZG (XC (by kernel_rfl)) ?_
 exact VC.nil (Qe (Qk [2,3] Qa (Qg (Qb (Qc Qa Qa (Qh (Qe (Qo (Q7 (.inr Qa) Qa Qa (⟨_,Qa,_,Qa,IS hI hg hgs hS13⟩))))))))))
theorem Da (D:DS) (k:List Int):(ZY D k).keep=D.keep:= by unfold ZY;split<;>rfl
theorem Mz (D:DS):(Jn D).keep=D.keep:= by unfold Jn;split; rw[Da,VK]; exact VK D
theorem FW (D:DS) (f:Int):(Zq D f).keep=D.keep:= by unfold Zq;split; exact Mz D;split<;> exact Mz D
theorem S7 (D:DS) (f a:Int) (s:Bytes):(XU D f a s).keep=D.keep:= by simp only[XU];split; rw[Da,BA,VK]; rw[BA,VK]
def ZA (D:DS):DS:={D with down:=false}
def dT (p:Nat) (D:DS):Th:=S8 fun kp:Value=>starL [Y4 (D.keep.length≤1000),Z7 p kp D,XT kp D.keep.length 1 (Uz D.keep)]
theorem D7 {w:World} {p:Nat} {D:DS} {As:List Th} (h:Sat w (dT p D::As)): ∃kp,D.keep.length≤1000∧Sat w (Z7 p kp D::XT kp D.keep.length 1 (Uz D.keep)::As):= by
  obtain⟨kp,h⟩:=h.ex
  exact⟨kp,h.flat.pure_elim⟩
theorem D6 {w:World} {p:Nat} {D:DS} {As:List Th} (kp:Value) (hl:D.keep.length≤1000) (h:Sat w (Z7 p kp D::XT kp D.keep.length 1 (Uz D.keep)::As)):Sat w (dT p D::As):=
  Sat.ex_intro kp (Sat.fold (As:=[Y4 (D.keep.length≤1000),Z7 p kp D,XT kp D.keep.length 1 (Uz D.keep)]) (Sat.pure_intro hl h))
theorem dT_new {w:World} {p:Nat} {F:Th} (h:Sat w [Z7 p (.slice none 0 0) newD,F]):Sat w [dT p newD,F]:= by
  have h3:=h.new (Only.refl [] w) (A:=XT (.slice none 0 0) 0 1 []) (F':= fun k=>k∈([]:List Nat)) ⟨[],rfl,Own.nil w 1⟩ (by simp)
  exact D6 (.slice none 0 0) (by simp [newD]) (h3.reorder [1,0,2] Qa)
theorem Pz {kp:Value} {D:DS} {F:Th} (h:D.keep.length≤1000):Ent (starL [XT kp D.keep.length 1 (Uz D.keep),F]) (RdI kp D.keep):=Ent.starL (A:=XT kp D.keep.length 1 (Uz D.keep)) (BT (by omega)) 0 Qa
theorem Nj {w:World} {p:Nat} {kp:Value} {D D':DS} {F:Th} (hl:D.keep.length≤1000) (hk:D'.keep=D.keep) (h:Sat w [Z7 p kp D',starL [XT kp D.keep.length 1 (Uz D.keep),F]]):Sat w [dT p D',F]:=
  D6 kp (by rw[hk]; exact hl) (by have :=h.join Qa; rw[hk]; exact this)
theorem Gf {w:World} {p:Nat} {kp:Value} {D:DS} {F:Th} (hS:Sat w [Z7 p kp D,F]) (f a n:Int):Calls prog 88 #[ptrV p 0,intV f,intV a,intV n] w (Ret fun v w'=>v= .tuple #[strV (WC D f a n),intV (Wk D f a n)]∧Sat w' [Z7 p kp D,F]):=(read_sp hS f a n).mono fun _ _ h=>h.mono fun v w' ⟨h1,h2⟩=>⟨h1,h2▸hS⟩
theorem F8 {w:World} {p:Nat} {D:DS} {F:Th} (hS:Sat w [dT p D,F]) (f a n:Int):Calls prog 88 #[ptrV p 0,intV f,intV a,intV n] w (Ret fun v w'=>v= .tuple #[strV (WC D f a n),intV (Wk D f a n)]∧Sat w' [dT p D,F]):= by
  obtain⟨kp,hl,hS⟩:=D7 hS
  exact(Gf (hS.sp [0] Qa) f a n).mono fun e w' h=>h.mono fun v w' ⟨h1,h2⟩=>⟨h1,Nj hl (rfl) h2⟩
theorem Om {w:World} {p:Nat} {D:DS} {F:Th} (hS:Sat w [dT p D,F]) (f:Int):Calls prog 57 #[ptrV p 0,intV f] w (Ret fun v w'=>v=intV (Wa D f)∧Sat w' [dT p (Zq D f),F]):= by
  obtain⟨kp,hl,hS⟩:=D7 hS
  exact(Sync_sp (hS.sp [0] Qa) (Pz hl) f).mono fun e w' h=>h.mono fun v w' ⟨h1,h2⟩=>⟨h1,Nj hl (FW _ _) h2⟩
theorem Oa {w:World} {p:Nat} {D:DS} {F:Th} (hS:Sat w [dT p D,F]) (f a:Int) (s:Bytes):Calls prog 117 #[ptrV p 0,intV f,intV a,strV s] w (Ret fun v w'=>v=intV (WJ D f a s)∧Sat w' [dT p (XU D f a s),F]):= by
  obtain⟨kp,hl,hS⟩:=D7 hS
  exact(qa3 (hS.sp [0] Qa) (Pz hl) f a s).mono fun e w' h=>h.mono fun v w' ⟨h1,h2⟩=>⟨h1,Nj hl (S7 _ _ _ _) h2⟩
def armD (D:DS) (n:Int) (ks:List Int):DS:={D with armed:=max n 0,keep:=ks}
theorem Rh (D:DS):(Zx D).F=D.F:= by unfold Zx;split<;>rfl
theorem Dz (D:DS):(Zx D).Q=D.Q:= by unfold Zx;split<;>rfl
theorem VL (D:DS):(Zx D).down=D.down:= by unfold Zx;split<;>rfl
theorem FG {D:DS} {k:List Int} (h:D.down=true):ZY D k=D:= by rw[ZY,if_pos h]
theorem Nk (D:DS) (k:List Int):(ZY D k).down=true:= by
  unfold ZY;split
  · assumption
  · rfl
def Held (f:Int) (s:Bytes) (D:DS):Prop:=D.F f=(s,s)∧ ∀p∈D.Q,p.1≠f
theorem Lh {F:Int→Bytes×Bytes} {f k:Int} {x:Bytes×Bytes} (h:k≠f):JX F f x k=F k:= by simp [JX,h]
theorem R9 {F:Int→Bytes×Bytes} {p:Int×Int} {k:Int} (h:p.1≠k):Uc F p k=F k:= by
  unfold Uc;split
  · rfl
  · exact Lh (Ne.symm h)
theorem BF {keep:List Int} {k:Int}: ∀(Q:List (Int×Int)) (i:Nat) (F:Int→Bytes×Bytes),(∀p∈Q,p.1≠k)→Wo keep i Q F k=F k
  | [],_,_,_=>rfl
  | p::Q,i,F,h=> by
    simp only[Wo]
    rw[BF Q (i+1) _ (fun q hq=>h q (by simp [hq]))]
    split
    · exact R9 (h p (by simp))
    · rfl
theorem Held.crash {f:Int} {s:Bytes} {D:DS} (h:Held f s D) (k:List Int):Held f s (ZY D k):= by
  unfold ZY;split
  · exact h
  · refine⟨?_, by simp⟩
    simp only[BF D.Q 0 D.F h.2,h.1]
theorem Held.ends {f:Int} {s:Bytes} {D:DS} (h:Held f s D):Held f s (Zx D):=⟨by rw[Rh]; exact h.1, by rw[Dz]; exact h.2⟩
theorem Ph {g:Int}: ∀(k:Nat) (n:Int) (Q:List (Int×Int)) (p:Int×Int),p∈J0 g k n Q→p∈Q∨p.1=g
  | 0,_,_,_,h=> .inl h
  | k+1,n,Q,p,h=> by
    rcases Ph k (n+1) _ p h with h1 | h1
    · split at h1
      · exact .inl h1
      · rcases List.mem_append.1 h1 with h2 | h2
        · exact .inl h2
        · simp at h2; exact .inr (by rw[h2])
    · exact .inr h1
theorem Held.write {f g a:Int} {s t:Bytes} {D:DS} (h:Held f s D) (hne:g≠f):Held f s (Ji D g a t):= by
  unfold Ji;split
  · unfold Y9;split
    · exact h
    · exact⟨by show JX _ _ _ f=_; rw[Lh (Ne.symm hne)]; exact h.1, fun p hp=> by rcases Ph _ _ _ p hp with q | q; exact h.2 p q; rw[q]; exact hne⟩
  · exact h
theorem EP {D:DS} {f:Int} (h:0≤f∧f<16):Wf (ZA D) f=0:= by
  have h1:(ZA D).down=false:=rfl
  simp [Wf,h1];omega
