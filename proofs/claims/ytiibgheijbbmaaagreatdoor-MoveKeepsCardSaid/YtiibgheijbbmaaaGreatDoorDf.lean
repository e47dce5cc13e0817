/- disk: Write, Sync, Truncate -/
import Derived.Test.YtiibgheijbbmaaaGreatDoorDd
set_option linter.unusedVariables false
set_option maxRecDepth 100000
namespace Go.Proofs.YtiibgheijbbmaaaGreatDoor
open Go.RowKit M Proofs.Tryz
theorem HT {w:World} {As:List Th} {p:Nat} {kp:Value} {D:DS} (hS:Sat w As) (i:Nat) (hi:As[i]? =some (XX p kp D)):w.cell? ⟨p,0+6,none⟩=some kp:= by
  obtain⟨L,_,h⟩:=Ws (hS.pull i hi)
  exact h.cell 0 Qa Qa
theorem Va (D:DS):(Zl D).keep=D.keep:= by unfold Zl;split<;>rfl
theorem G5 (D:DS) (f a:Int) (s:Bytes):(WU D f a s).keep=D.keep:= by unfold WU Yn;split<;>(try split)<;>rfl
theorem AU {w:World} {p:Nat} {kp:Value} {D:DS} {F:Th} (hS:Sat w [XX p kp D,F]) (hK:Ent F (RdI kp D.keep)) (f at_:Int) (s:Bytes):
    Calls prog 117 #[ptrV p 0,intV f,intV at_,strV s] w (Ret fun v w'=>v=intV (W4 D f at_ s)∧Sat w' [XX p kp (XD D f at_ s),F]):= by
 refine Qy func117 Qa ntmps117 Qa ?_
 refine Qf (Qb (Qc Qa Qa (Qh (Qd (Qf (Qb (Qe Qa Qa (Q0 Am Qa (S5 (hS.sp [0] Qa)) Qa ?_))))))))
 rintro _ w1 ⟨rfl,hS1⟩
 replace hS1:=hS1.jn Qa Qa
 refine Qc Qa Qa (Qh (Qd (Qf (Qb (Qe Qa Qa (Qe Qa Qa (Qe Qa Qa (Qe Qa Qa (Q0 cal_130 Qa (Lz (hS1.sp [0] Qa) f at_ s) Qa ?_)))))))))
 rintro _ w2 ⟨rfl,hS2⟩
 replace hS2:=hS2.jn Qa Qa
 refine Qc Qa Qa (Qh (Qd (Qk [0,8,9,10] Qa (Qf (Qf (Qb (Qe Qa Qa (Qh (Qd (QZ Qa (fun h3=> ?_) (fun h3=> ?_)))))))))))
 ·have hb:JD D=true:=h3
  refine Qf (Qb (Qe Qa Qa (Qe Qa Qa (Ql Qa Qa (Qi Qa Da Qa (Qr Qa RC (HT hS2 0 Qa) Qa (Q0 P2 Qa (Df (hS2.sp [0] Qa) (hK.starL 0 Qa)) Qa ?_)))))))
  rintro _ w4 ⟨rfl,hS4⟩
  replace hS4:=hS4.jn Qa Qa
  refine Qh (Qd (Qk [8,10] Qa (Qf (Qb (Qc Qa Qa (Qh (Qd (Qo (Qm (Q5 (.inr Qa) Qa Qa ?_))))))))))
  exact⟨_,rfl, by simp [W4,hb], by simp only[XD,hb]; exact hS4⟩
 have hb:JD D=false:=h3
 refine Qt (Qd (Qf (Qb (Qe Qa Qa (Qc Qa Qa (Qh (Qd (Qo (Q5 (.inr Qa) Qa Qa ?_)))))))))
 exact⟨_,rfl, by simp [W4,hb], by simp only[XD,hb]; exact hS2⟩
theorem Mf {D:DS} (h:JD D=true):WX D=ZB (Zl D) D.keep:= by simp [WX,h]
theorem Rf {D:DS} (h:JD D=false):WX D=Zl D:= by simp [WX,h]
theorem Sync_sp {w:World} {p:Nat} {kp:Value} {D:DS} {F:Th} (hS:Sat w [XX p kp D,F]) (hK:Ent F (RdI kp D.keep)) (f:Int):
    Calls prog 57 #[ptrV p 0,intV f] w (Ret fun v w'=>v=intV (Z0 D f)∧Sat w' [XX p kp (X1 D f),F]):= by
 refine Qy func57 Qa ntmps57 Qa ?_
 refine Qf (Qb (Qc Qa Qa (Qh (Qd (Vq (fun E0 W0=>E0=[(0,ptrV p 0),(1,intV f),(4,intV 0)]∧Sat W0 [XX p kp (WX D),F]) ?_ ?_)))))
 ·refine Qf (Qb (Qe Qa Qa (Q0 Am Qa (S5 (hS.sp [0] Qa)) Qa ?_)))
  rintro _ w2 ⟨rfl,hS2⟩
  replace hS2:=hS2.jn Qa Qa
  refine Qh (Qd (QZ Qa (fun h3=> ?_) (fun h3=> ?_)))
  ·have hb:JD D=true:=h3
   refine Qb (Qe Qa Qa (Qe Qa Qa (Ql Qa Qa (Qi Qa Da Qa (Qr Qa RC (HT hS2 0 Qa) Qa (Q0 P2 Qa (Df (hS2.sp [0] Qa) (hK.starL 0 Qa)) Qa ?_))))))
   rintro _ w4 ⟨rfl,hS4⟩
   replace hS4:=hS4.jn Qa Qa
   refine Qh ?_
   exact YB (Dq Qa Qa Qa) ⟨rfl, by rw[Mf hb]; exact hS4⟩
  have hb:JD D=false:=h3
  refine Qt ?_
  exact YB (Dq Qa Qa Qa) ⟨rfl, by rw[Rf hb]; exact hS2⟩
 rintro _ w1 ⟨rfl,hS1⟩
 refine Qf (Qf (Qb (Qe Qa Qa (Qe Qa Qa (Q0 P1 Qa (Ph (hS1) f) Qa ?_)))))
 rintro _ _ ⟨rfl,rfl⟩
 refine Qc Qa Qa (Qh (Qd (Qf (Qb (Qe Qa Qa (Xu Qa Qa Qa (Qh (Qd (Qv Qa (fun h6=> ?_) (fun h6=> ?_))))))))))
 ·have hm:ZM (WX D) f≠0:=h6
  refine Qf (Qb (Qe Qa Qa (Qc Qa Qa (Qh (Qd (Qo (Qm (Q5 (.inr Qa) Qa Qa ?_))))))))
  exact⟨_,rfl, by simp [Z0,hm], by simp only[X1,if_pos hm]; exact hS1⟩
 have hm:ZM (WX D) f=0:=Decidable.not_not.1 h6
 refine Qt (Qd (Qf (Qf ?_)))
 obtain⟨⟨bf,bs,qv⟩,hI,hS1⟩:=Ws (hS1.pull 0 rfl); dsimp only[List.eraseIdx]at hS1
 obtain⟨g,hg,hS1⟩:=JC (hS1.pull 1 rfl); dsimp only[List.eraseIdx]at hS1
 refine Qb (Qe Qa Qa (Ql Qa Qa (Qi Qa Rw Qa (Qr Qa QH (hS1.cell 1 Qa Qa) Qa (Wr Qa Qa Qa (Qh (Qd (Qk [4,1,0,24] Qa (Qv Qa (fun h7=> ?_) (fun h7=> ?_))))))))))
 ·have hl:0<(WX D).lost:=h7
  have hll:=hI.lost
  refine Qf (Qb (Qe Qa Qa (Ql Qa Qa (Qi Qa Rw Qa (Qr Qa QH (hS1.cell 1 Qa Qa) Qa (JH Qa Qa (by omega) (by omega) Qa ?_))))))
  refine Ql Qa Qa (Qi Qa Rw Qa ?_)
  first | (refine Qw hS1 Qa Qa WA (by rfl) (i:=1) Qa (QC Qa) ?_)
  intro w8 hS9; dsimp only[List.set]at hS9
  refine Qh (Qd (Qk [4,1,0] Qa (Qf (Qb (Qc Qa Qa (Qh (Qd (Qo (Qm (Q5 (.inr Qa) Qa Qa ?_))))))))))
  exact⟨_,rfl, by rw[Z0,if_neg (by simp [hm]),if_pos hl], by rw[X1,if_neg (by simp [hm]),if_pos hl]; exact Mx {hI with lost:=⟨by simp;omega, by have :=hI.lost; simp;omega⟩} hg hS9⟩
 have hl: ¬0<(WX D).lost:=h7
 refine Qt (Qd (Qf (Qb (Qe Qa Qa (Qe Qa Qa (Qe Qa Qa (Ql Qa Qa (Qi Qa JB Qa (Qr Qa Ua (hS1.cell 1 Qa Qa) Qa (Qe Qa Qa (YN 0 hS1 keysInt underlying116 Qa Qa Qa Uv (hg _) Qa (B0 CZ Qa Qa Qa ?_))))))))))))
 replace hS1:=Mx hI hg hS1
 refine Q0 cal_94 Qa (Fb (hS1.sp [0] Qa) f _ (hI.now f)) Qa ?_
 rintro _ w10 ⟨rfl,hS10⟩
 replace hS10:=hS10.jn Qa Qa
 refine Qh (Qd (Qk [4] Qa (Qf (Qb (Qc Qa Qa (Qh (Qd (Qo (Q5 (.inr Qa) Qa Qa ?_)))))))))
 exact⟨_,rfl, by rw[Z0,if_neg (by simp [hm]),if_neg hl], by rw[X1,if_neg (by simp [hm]),if_neg hl]; exact hS10⟩
def Yj (l:List Int):List Value:=l.map intV
theorem UX (l:List Int):(Yj l).length=l.length:= by simp [Yj]
theorem FN (l:List Int):QQ (Yj l)=true:=Gy (by intro v hv; obtain⟨x,_,rfl⟩:=List.mem_map.1 hv;rfl)
theorem RdI.nil {n cap:Nat} {l:List Int} {w:World} (h:RdI (.slice none n cap) l w):l=[]:= by
  cases l with
  | nil=>rfl
  | cons x l=> obtain⟨b,off,h1,_⟩:=h.get (i:=0) (x:=x) rfl; cases h1
theorem RdI.lenOf {v:Value} {l:List Int} {w:World} (h:RdI v l w): ∀w1,(Builtin.lenOf v).run prog w1= .ok l.length w1:= by
  obtain⟨ao,cap,rfl,_⟩:=h.shape
  exact V0 _ _ _
theorem RdI.first {v:Value} {l:List Int} {w:World} (h:RdI v l w): ∀w1:World,w1.heap=w.heap→(Builtin.firstCells 1 l.length v).run prog w1= .ok (Yj l).toArray w1:= by
  obtain⟨ao,cap,rfl,_⟩:=h.shape
  intro w1 hw
  cases hl:l with
  | nil=> cases ao<;> simp [Builtin.firstCells,Yj,loadCells,loadCellsFrom]
  | cons x l'=>
    obtain⟨b,off,rfl,_⟩:=h.get (i:=0) (x:=x) (by rw[hl];rfl)
    rw[←hl]
    simp only[Builtin.firstCells,Nat.mul_one]
    have :=run_loadCells_list (P:=prog) w1 ⟨b,off,none⟩ (Yj l) (fun j v hv=> by
      rw[Wh]
      simp only[Yj,List.getElem?_map]at hv
      obtain⟨y,hy,rfl⟩:=Option.map_eq_some_iff.1 hv
      obtain⟨b2,o2,e,hc⟩:=h.get hy
      cases e
      rw[Nat.mul_one]at hc
      rw[World.cell?_of_block (w:=w) (by rw[hw])]
      exact hc)
    rw[UX]at this
    exact this
theorem GM {v:Value} {l:List Int} (hl:l.length≤9223372036854775807):Ent (X7 v l.length 1 (Yj l)) (RdI v l):= by
  rintro w G ⟨f,_,hl2,⟨rfl,h0,_⟩ | ⟨b,cap,sp,rfl,hc,hb,_,_⟩⟩
  · have :l=[]:=List.eq_nil_of_length_eq_zero h0
    subst this
    exact⟨none,0,rfl, by simp, by simp⟩
  · refine⟨_,cap,rfl,hl, fun i x hx=>⟨b,0,rfl, ?_⟩⟩
    refine hb.cell ?_
    have hi:=(ZD hx).1
    rw[Nat.zero_add,List.getElem?_append_left (by rw[UX]; exact hi)]
    simp [Yj,hx]
theorem Li {w:World} {F:Th} (hS:Sat w [F]) {kv:Value} {ks:List Int} (hK:Ent F (RdI kv ks)) (hl:ks.length≤100000000000):
    Calls prog 91 #[kv] w (Ret fun v w'=>Sat w' [X7 v ks.length 1 (Yj ks),F]):= by
 have hrd:=hK.sat hS 0 Qa
 obtain⟨ao,capk,rfl,hkmax⟩:=hrd.shape
 refine Qy func91 Qa ntmps91 Qa ?_
 refine Qf (Qb (Qc Qa Qa (Qh (Qd (Qf (Qf (Qb (Qe Qa Qa (G7 underlying33 Qa Qa Qa (Qh (Qd (QZ Qa (fun h1=> ?_) (fun h1=> ?_)))))))))))))
 ·have hn:ao=none:=Option.isNone_iff_eq_none.1 h1
  subst hn
  obtain rfl:=hrd.nil
  exact Qf (Qb (Qc Qa Qa (Qh (Qd (Qo (Qm (Q5 (.inr Qa) Qa Qa (⟨_,rfl,hS.new (Only.refl [] _) (A:=X7 (.slice none 0 0) 0 1 []) (F':= fun k=>k∈([]:List Nat)) ⟨[],rfl,Own.nil _ 1⟩ (by simp)⟩))))))))
 refine Qt (Qd (Qf (Qb (Ha hS Qa underlying33 ifz_3 Qa Qa Qa Qa ?_))))
 intro b2 w2 hS2
 refine Qe Qa Qa ?_
 have hrd1:=hK.sat hS2 1 Qa
 first | refine U6 0 hS2 Qa Qa Qa underlying33 underlying33 (by intro k hk; cases hk) ifo_3 Qa (by decide) hrd1.lenOf hrd1.first (by rw[UX];omega) (FN _) (by omega) (by omega) Qa ?_
 intro v3 w3 hS3; dsimp only[List.set]at hS3
 have h1v3:v3.oneCell'=true:= by first | exact hS3.own_one 0 Qa
 refine Qc Qa Qa (Qh (Qd (Qo (Q5 (.inr Qa) Qa Qa ?_))))
 exact⟨_,rfl, by have h:=hS3; rw[Nat.zero_add]at h; exact h⟩
theorem arm_end {w:World} {p bf bs:Nat} {kv qv:Value} {D:DS} {ks:List Int} {F:Th} {n:Int} (hI:DInv D) (hn:n≤9223372036854775807) (h:Sat w [X7 kv ks.length 1 (Yj ks),Xb p [.map (some bf),qv,.map (some bs),intV D.lost,.bool D.down,intV (max n 0),kv],Jo bf D.F,X7 qv D.Q.length 2 (Zy D.Q),Y8 bs D.Q,F]):Sat w [XX p kv {D with armed:=max n 0,keep:=ks},X7 kv ks.length 1 (Yj ks),F]:= by
  have h1:=ZF (D:={D with armed:=max n 0,keep:=ks}) (As:=[F,X7 kv ks.length 1 (Yj ks)]) ⟨bf,bs,qv⟩ {hI with armed:=⟨by simp;omega, by simp;omega⟩} (h.reorder [1,2,3,4,5,0] Qa)
  exact h1.reorder [0,2,1] Qa
theorem arm_sp {w:World} {p:Nat} {kp:Value} {D:DS} {F:Th} (hS:Sat w [XX p kp D,F]) (n:Int) (hn:n≤9223372036854775807) {kv:Value} {ks:List Int} (hK:Ent F (RdI kv ks)) (hl:ks.length≤100000000000):
    Calls prog 56 #[ptrV p 0,intV n,kv] w (Ret fun v w'=> ∃kv',v= .tuple #[]∧Sat w' [XX p kv' {D with armed:=max n 0,keep:=ks},X7 kv' ks.length 1 (Yj ks),F]):= by
 obtain⟨⟨bf,bs,qv⟩,hI,hS⟩:=Ws hS; dsimp only at hS
 refine Qy func56 Qa ntmps56 Qa ?_
 refine Qb (Qe Qa Qa (Qe Qa Qa (Qe Qa Qa (GY Qa Qa Qa (Qe Qa Qa (Q0 cal_91 Qa (Li (hS.sp [] Qa) (hK.starL 4 Qa) hl) Qa ?_))))))
 rintro _ w1 hS1
 replace hS1:=hS1.jn Qa Qa
 have h1k:=hS1.own_one 0 Qa
 refine Ql Qa Qa (Qi Qa UJ Qa ?_)
 first | (refine Qw hS1 Qa Qa WA (by rfl) (i:=1) Qa (QC Qa) ?_)
 intro w2 hS3; dsimp only[List.set]at hS3
 refine Ql Qa Qa (Qi Qa Da Qa ?_)
 first | (refine Qw hS3 Qa Qa sz_33 (by assumption) (i:=1) Qa (QC Qa) ?_)
 intro w4 hS5; dsimp only[List.set]at hS5
 exact Qh (Yl (.inl Qa) Qa (⟨_,Qa,_,Qa,arm_end hI hn hS5⟩))
theorem mc1 : (Tryz.f111.name == "runtime.NumGoroutine") = false := by kernel_rfl
theorem mc2:Tryz.f111.body.isNone=true:= by kernel_rfl
theorem mc3:Extern.findNext Tryz.f111=none:= by kernel_rfl
theorem mc4:Extern.find Tryz.f111=some Extern.MapsClone.clone:= by kernel_rfl
theorem Lj {w:World} {F:Th} {b:Nat} {g:Int→Option Value} (hS:Sat w [X3 XH b g,F]):
    Calls prog 85 #[.map (some b)] w (Ret fun v w'=> ∃b',v= .map (some b')∧Sat w' [X3 XH b' g,X3 XH b g,F]):= by
 refine Qy func85 Qa ntmps85 Qa ?_
 refine Qf (Qb (Qc Qa Qa (Qh (Qd (Qf (Qf (Qb (Qe Qa Qa (KS underlying116 Qa Qa Qa (Qh (Qd (QJ Qa (Qt (Qd (Qf (Qb (Qe Qa Qa (KQ Sm Qa Qa (KP 0 hS func111 mc1 mc2 mc3 mc4 Qa Qa Qa ?_)))))))))))))))))))
 intro b9 w9 hS9
 exact Kr Sm Qa Qa (Qc Qa Qa (Qh (Qd (Qo (Q5 (.inr Qa) Qa Qa (⟨_,Qa,_,Qa,hS9⟩))))))
theorem Lg {w:World} {F:Th} {b:Nat} {g:Int×Int→Option Value} (hS:Sat w [X3 Wf b g,F]):
    Calls prog 87 #[.map (some b)] w (Ret fun v w'=> ∃b',v= .map (some b')∧Sat w' [X3 Wf b' g,X3 Wf b g,F]):= by
 refine Qy func87 Qa ntmps87 Qa ?_
 refine Qf (Qb (Qc Qa Qa (Qh (Qd (Qf (Qf (Qb (Qe Qa Qa (KS underlying118 Qa Qa Qa (Qh (Qd (QJ Qa (Qt (Qd (Qf (Qb (Qe Qa Qa (KQ Sl Qa Qa (KP 0 hS func111 mc1 mc2 mc3 mc4 Qa Qa Qa ?_)))))))))))))))))))
 intro b9 w9 hS9
 exact Kr Sl Qa Qa (Qc Qa Qa (Qh (Qd (Qo (Q5 (.inr Qa) Qa Qa (⟨_,Qa,_,Qa,hS9⟩))))))
theorem Cp {w:World} {F:Th} {Q:List (Int×Int)} {cap:Nat} (h:Sat w [X7 (.slice none Q.length cap) Q.length 2 (Zy Q),F]):Q=[]:= by
  obtain⟨f,_,⟨_,h0,_⟩ | ⟨b,cap,sp,h0,_⟩⟩:=h.own 0 rfl
  · exact List.eq_nil_of_length_eq_zero h0
  · cases h0
theorem LK (Q:List (Int×Int)):QQ (Zy Q)=true:=Gy (by intro v hv; obtain⟨p,_,hp⟩:=List.mem_flatMap.1 hv; simp at hp; rcases hp with rfl | rfl<;>rfl)
theorem Lh {w:World} {F:Th} {qv:Value} {Q:List (Int×Int)} (hS:Sat w [X7 qv Q.length 2 (Zy Q),F]) (hl:Q.length≤4194320):
    Calls prog 86 #[qv] w (Ret fun v w'=>Sat w' [X7 v Q.length 2 (Zy Q),X7 qv Q.length 2 (Zy Q),F]):= by
 obtain⟨ao,capq,rfl,hcq,_⟩:=hS.own_shape 0 rfl
 refine Qy func86 Qa ntmps86 Qa ?_
 refine Qf (Qb (Qc Qa Qa (Qh (Qd (Qf (Qf (Qb (Qe Qa Qa (G7 underlying117 Qa Qa Qa (Qh (Qd (QZ Qa (fun h1=> ?_) (fun h1=> ?_)))))))))))))
 ·have hn:ao=none:=Option.isNone_iff_eq_none.1 h1
  subst hn
  obtain rfl:=Cp hS
  exact Qf (Qb (Qc Qa Qa (Qh (Qd (Qo (Qm (Q5 (.inr Qa) Qa Qa (⟨_,rfl,hS.new (Only.refl [] _) (A:=X7 (.slice none 0 0) 0 2 []) (F':= fun k=>k∈([]:List Nat)) ⟨[],rfl,Own.nil _ 2⟩ (by simp)⟩))))))))
 refine Qt (Qd (Qf (Qb (Ha hS Qa underlying117 St Qa Qa Qa Qa ?_))))
 intro b2 w2 hS2
 refine Qe Qa Qa ?_
 first | refine U6 0 hS2 Qa Qa Qa underlying117 underlying117 (by intro k hk; cases hk) Tb Qa (by decide) (Gh hS2 1 Qa) (HS hS2 1 Qa) (Uh Q) (LK _) (by omega) (by omega) Qa ?_
 intro v3 w3 hS3; dsimp only[List.set]at hS3
 have h1v3:v3.oneCell'=true:= by first | exact hS3.own_one 0 Qa
 refine Qc Qa Qa (Qh (Qd (Qo (Q5 (.inr Qa) Qa Qa ?_))))
 exact⟨_,rfl, by have h:=hS3; rw[Nat.zero_add]at h; exact h⟩
theorem Aj {w:World} {p p2 bf bs bf2 bs2:Nat} {kp qv qv2:Value} {D:DS} {g:Int→Option Value} {gs:Int×Int→Option Value} {F:Th} (hI:DInv D) (hg:YL g D.F) (hgs: ∀p,gs p= if p∈D.Q then some (.bool true)else none)
    (h:Sat w [X3 Wf bs2 gs,X3 Wf bs gs,X7 qv2 D.Q.length 2 (Zy D.Q),X7 qv D.Q.length 2 (Zy D.Q),X3 XH bf2 g,X3 XH bf g,Xb p2 (Yb ⟨bf2,bs2,qv2⟩ kp D),Xb p (Yb ⟨bf,bs,qv⟩ kp D),F]):Sat w [XX p2 kp D,XX p kp D,F]:= by
  have h1:=Yz gs hgs h
  have h2:=Yz gs hgs (h1.reorder [1,0,2,3,4,5,6,7,8] Qa)
  have h3:=WQ g hg (h2.reorder [4,5,0,1,2,3,6,7,8] Qa)
  have h4:=WQ g hg (h3.reorder [1,0,2,3,4,5,6,7,8] Qa)
  -- bf, bf2, bs, bs2, q2, q, p2, p, F
  have h5:=ZF (As:=[Jo bf D.F,Y8 bs D.Q,X7 qv D.Q.length 2 (Zy D.Q),Xb p (Yb ⟨bf,bs,qv⟩ kp D),F]) ⟨bf2,bs2,qv2⟩ hI (h4.reorder [6,1,4,3,0,2,5,7,8] Qa)
  have h6:=ZF (As:=[F,XX p2 kp D]) ⟨bf,bs,qv⟩ hI (h5.reorder [4,1,3,2,5,0] Qa)
  exact h6.reorder [2,0,1] Qa
theorem copy_sp {w:World} {p:Nat} {kp:Value} {D:DS} {F:Th} (hS:Sat w [XX p kp D,F]) (hK:Ent F (RdI kp D.keep)):
    Calls prog 50 #[ptrV p 0] w (Ret fun v w'=> ∃p2,v=ptrV p2 0∧Sat w' [XX p2 kp D,XX p kp D,F]):= by
 obtain⟨aok,capk,rfl,_⟩:=(hK.sat hS 1 rfl).shape
 obtain⟨⟨bf,bs,qv⟩,hI,hS⟩:=Ws hS; dsimp only at hS
 refine Qy func50 Qa ntmps50 Qa ?_
 obtain⟨g,hg,hS⟩:=JC (hS.pull 1 rfl); dsimp only[List.eraseIdx]at hS
 obtain⟨gs,hgs,hS⟩:=RP (hS.pull 3 rfl); dsimp only[List.eraseIdx]at hS
 have h1q0:=hS.own_one 3 Qa
 have hone:QQ (Yb ⟨bf,bs,qv⟩ (.slice aok D.keep.length capk) D)=true:= by simp [QQ,Yb,Value.oneCell',h1q0]at h1q0⊢; exact h1q0
 refine Qf (Qb (Qc Qa Qa (Qh (Qd (Qf (Qb (Qe Qa Qa (Ql Qa Qa (Jd Qa ag_120 NL (by first | exact hS.blk 2 Qa) (QC Qa) Qa Qa ?_)))))))))
 refine Xs hS Lw Qa Qa ?_
 intro b1 w1 hS1
 (refine Q8 hS1 Qa Qa NL Qa (by assumption) (i:=0) Qa (by decide) ?_)
 intro w2 hS3; dsimp only[List.set]at hS3
 refine Qh (Qd (Qf ?_))
 have hS4:=hS3.drew
 refine QN [0,1,2,3,5,6,7,8,10,11,12,13,4,9,14,15,16,17,18,19,20] [4,9,14,16,18,20] W5 (by kernel_rfl) ?_
 refine QI Qa Qa Qa (Xn Qa Qa Qa (QO Qa Qa Qa JB (QF Qa Qa Qa (Qn Qa Ua (hS4.cell 3 Qa Qa)) (QI Qa Qa Qa (Xn Qa Qa Qa (QO Qa Qa Qa Hr (QF Qa Qa Qa (Qn Qa Gz (hS4.cell 3 Qa Qa)) (QI Qa Qa Qa (Xn Qa Qa Qa (QO Qa Qa Qa UK (QF Qa Qa Qa (Qn Qa VG (hS4.cell 3 Qa Qa)) (QV Qa Qa Qa Qa Qa Qa ?_))))))))))))
 refine Q0 cal_85 Qa (Lj (hS4.sp [2] Qa)) Qa ?_
 rintro _ w5 ⟨b5,rfl,hS5⟩
 replace hS5:=hS5.jn Qa Qa
 refine Xd (.cons (.inl ⟨rfl,(Qn Qa VG (hS5.cell 4 Qa Qa))⟩) (.cons (.inl ⟨rfl,(Qn Qa Gz (hS5.cell 4 Qa Qa))⟩) (Xq (by kernel_rfl)))) ?_
 refine QV Qa Qa Qa Qa Qa Qa ?_
 refine Q0 cal_86 Qa (Lh (hS5.sp [5] Qa) (VR hI.secs hI.nodup)) Qa ?_
 rintro _ w6 hS6
 replace hS6:=hS6.jn Qa Qa
 have h1q:=hS6.own_one 0 Qa
 refine Xd (.cons (.inl ⟨rfl,(Qn Qa VG (hS6.cell 6 Qa Qa))⟩) (Xq (by kernel_rfl))) ?_
 refine QV Qa Qa Qa Qa Qa Qa ?_
 refine Q0 cal_87 Qa (Lg (hS6.sp [5] Qa)) Qa ?_
 rintro _ w7 ⟨b7,rfl,hS7⟩
 replace hS7:=hS7.jn Qa Qa
 refine Xd (Xq (by kernel_rfl)) ?_
 refine QO Qa Qa Qa JB (QV Qa Qa Qa Qa Qa Qa ?_)
 (refine Qw hS7 Qa Qa LC (by rfl) (i:=6) Qa (QC Qa) ?_)
 intro w8 hS9; dsimp only[List.set]at hS9
 refine Z9 (Xq (by kernel_rfl)) ?_
 refine QO Qa Qa Qa Hr (QV Qa Qa Qa Qa Qa Qa ?_)
 (refine Qw hS9 Qa Qa K5 (by assumption) (i:=6) Qa (QC Qa) ?_)
 intro w10 hS11; dsimp only[List.set]at hS11
 refine Z9 (Xq (by kernel_rfl)) ?_
 refine QO Qa Qa Qa UK (QV Qa Qa Qa Qa Qa Qa ?_)
 (refine Qw hS11 Qa Qa NM (by rfl) (i:=6) Qa (QC Qa) ?_)
 intro w12 hS13; dsimp only[List.set]at hS13
 refine Z9 (Xq (by kernel_rfl)) ?_
 exact VC.nil (Qd (Qk [2,3] Qa (Qf (Qb (Qc Qa Qa (Qh (Qd (Qo (Q5 (.inr Qa) Qa Qa (⟨_,Qa,_,Qa,Aj hI hg hgs hS13⟩))))))))))
theorem VD (D:DS) (k:List Int):(ZB D k).keep=D.keep:= by unfold ZB;split<;>rfl
theorem BT (D:DS):(WX D).keep=D.keep:= by unfold WX;split; rw[VD,Va]; exact Va D
theorem PJ (D:DS) (f:Int):(X1 D f).keep=D.keep:= by unfold X1;split; exact BT D;split<;> exact BT D
theorem N9 (D:DS) (f a:Int) (s:Bytes):(XD D f a s).keep=D.keep:= by simp only[XD];split; rw[VD,G5,Va]; rw[G5,Va]
def Xv (D:DS):DS:={D with down:=false}
def dT (p:Nat) (D:DS):Th:=Nk fun kp:Value=>starL [Yi (D.keep.length≤1000),XX p kp D,X7 kp D.keep.length 1 (Yj D.keep)]
theorem Ur {w:World} {p:Nat} {D:DS} {As:List Th} (h:Sat w (dT p D::As)): ∃kp,D.keep.length≤1000∧Sat w (XX p kp D::X7 kp D.keep.length 1 (Yj D.keep)::As):= by
  obtain⟨kp,h⟩:=h.ex
  exact⟨kp,h.flat.pure_elim⟩
theorem R6 {w:World} {p:Nat} {D:DS} {As:List Th} (kp:Value) (hl:D.keep.length≤1000) (h:Sat w (XX p kp D::X7 kp D.keep.length 1 (Yj D.keep)::As)):Sat w (dT p D::As):=
  Sat.ex_intro kp (Sat.fold (As:=[Yi (D.keep.length≤1000),XX p kp D,X7 kp D.keep.length 1 (Yj D.keep)]) (Sat.pure_intro hl h))
theorem dT_new {w:World} {p:Nat} {F:Th} (h:Sat w [XX p (.slice none 0 0) newD,F]):Sat w [dT p newD,F]:= by
  have h3:=h.new (Only.refl [] w) (A:=X7 (.slice none 0 0) 0 1 []) (F':= fun k=>k∈([]:List Nat)) ⟨[],rfl,Own.nil w 1⟩ (by simp)
  exact R6 (.slice none 0 0) (by simp [newD]) (h3.reorder [1,0,2] Qa)
theorem CA {kp:Value} {D:DS} {F:Th} (h:D.keep.length≤1000):Ent (starL [X7 kp D.keep.length 1 (Yj D.keep),F]) (RdI kp D.keep):=Ent.starL (A:=X7 kp D.keep.length 1 (Yj D.keep)) (GM (by omega)) 0 Qa
theorem Kh {w:World} {p:Nat} {kp:Value} {D D':DS} {F:Th} (hl:D.keep.length≤1000) (hk:D'.keep=D.keep) (h:Sat w [XX p kp D',starL [X7 kp D.keep.length 1 (Yj D.keep),F]]):Sat w [dT p D',F]:=
  R6 kp (by rw[hk]; exact hl) (by have :=h.join Qa; rw[hk]; exact this)
theorem KX {w:World} {p:Nat} {kp:Value} {D:DS} {F:Th} (hS:Sat w [XX p kp D,F]) (f a n:Int):Calls prog 88 #[ptrV p 0,intV f,intV a,intV n] w (Ret fun v w'=>v= .tuple #[strV (Wx D f a n),intV (ZT D f a n)]∧Sat w' [XX p kp D,F]):=(read_sp hS f a n).mono fun _ _ h=>h.mono fun v w' ⟨h1,h2⟩=>⟨h1,h2▸hS⟩
theorem Ps {w:World} {p:Nat} {D:DS} {F:Th} (hS:Sat w [dT p D,F]) (f a n:Int):Calls prog 88 #[ptrV p 0,intV f,intV a,intV n] w (Ret fun v w'=>v= .tuple #[strV (Wx D f a n),intV (ZT D f a n)]∧Sat w' [dT p D,F]):= by
  obtain⟨kp,hl,hS⟩:=Ur hS
  exact(KX (hS.sp [0] Qa) f a n).mono fun e w' h=>h.mono fun v w' ⟨h1,h2⟩=>⟨h1,Kh hl (rfl) h2⟩
theorem PS {w:World} {p:Nat} {D:DS} {F:Th} (hS:Sat w [dT p D,F]) (f:Int):Calls prog 57 #[ptrV p 0,intV f] w (Ret fun v w'=>v=intV (Z0 D f)∧Sat w' [dT p (X1 D f),F]):= by
  obtain⟨kp,hl,hS⟩:=Ur hS
  exact(Sync_sp (hS.sp [0] Qa) (CA hl) f).mono fun e w' h=>h.mono fun v w' ⟨h1,h2⟩=>⟨h1,Kh hl (PJ _ _) h2⟩
theorem L3 {w:World} {p:Nat} {D:DS} {F:Th} (hS:Sat w [dT p D,F]) (f a:Int) (s:Bytes):Calls prog 117 #[ptrV p 0,intV f,intV a,strV s] w (Ret fun v w'=>v=intV (W4 D f a s)∧Sat w' [dT p (XD D f a s),F]):= by
  obtain⟨kp,hl,hS⟩:=Ur hS
  exact(AU (hS.sp [0] Qa) (CA hl) f a s).mono fun e w' h=>h.mono fun v w' ⟨h1,h2⟩=>⟨h1,Kh hl (N9 _ _ _ _) h2⟩
theorem loseT {w:World} {p:Nat} {D:DS} {F:Th} (hS:Sat w [dT p D,F]) (n:Int) (hn:n≤9223372036854775807):Calls prog 55 #[ptrV p 0,intV n] w (Ret fun v w'=>v= .tuple #[]∧Sat w' [dT p {D with lost:=max n 0},F]):= by
  obtain⟨kp,hl,hS⟩:=Ur hS
  exact(lose_sp (hS.sp [0] Qa) n hn).mono fun e w' h=>h.mono fun v w' ⟨h1,h2⟩=>⟨h1,Kh hl (rfl) h2⟩
theorem startT {w:World} {p:Nat} {D:DS} {F:Th} (hS:Sat w [dT p D,F]):Calls prog 51 #[ptrV p 0] w (Ret fun v w'=>v= .tuple #[]∧Sat w' [dT p (Xv D),F]):= by
  obtain⟨kp,hl,hS⟩:=Ur hS
  exact(TU (hS.sp [0] Qa)).mono fun e w' h=>h.mono fun v w' ⟨h1,h2⟩=>⟨h1,Kh hl (rfl) h2⟩
theorem crashT {w:World} {p:Nat} {D:DS} {F:Th} (hS:Sat w [dT p D,F]) {kv:Value} {ks:List Int} (hK:Ent F (RdI kv ks)):Calls prog 83 #[ptrV p 0,kv] w (Ret fun v w'=>v= .tuple #[]∧Sat w' [dT p (ZB D ks),F]):= by
  obtain⟨kp,hl,hS⟩:=Ur hS
  exact(Df (hS.sp [0] Qa) (hK.starL 1 Qa)).mono fun e w' h=>h.mono fun v w' ⟨h1,h2⟩=>⟨h1,Kh hl (VD _ _) h2⟩
def DB (D:DS) (n:Int) (ks:List Int):DS:={D with armed:=max n 0,keep:=ks}
theorem armT {w:World} {p:Nat} {D:DS} {F:Th} (hS:Sat w [dT p D,F]) (n:Int) (hn:n≤9223372036854775807) {kv:Value} {ks:List Int} (hK:Ent F (RdI kv ks)) (hl:ks.length≤1000):Calls prog 56 #[ptrV p 0,intV n,kv] w (Ret fun v w'=>v= .tuple #[]∧Sat w' [dT p (DB D n ks),F]):= by
  obtain⟨kp,_,hS⟩:=Ur hS
  refine(arm_sp (hS.sp [0] Qa) n hn (hK.starL 1 Qa) (by omega)).mono fun e w' h=>h.mono fun v w' ⟨kv',h1,h2⟩=>⟨h1, ?_⟩
  have h4:=h2.join Qa
  dsimp only[zqa,zqb,zqc,zqd]at h4
  exact R6 kv' (by show ks.length≤1000;omega) (h4.drop 2 Qa)
theorem Kd (D:DS):(Zl D).F=D.F:= by unfold Zl;split<;>rfl
theorem Bt (D:DS):(Zl D).Q=D.Q:= by unfold Zl;split<;>rfl
theorem Vb (D:DS):(Zl D).down=D.down:= by unfold Zl;split<;>rfl
theorem P0 {D:DS} {k:List Int} (h:D.down=true):ZB D k=D:= by rw[ZB,if_pos h]
theorem Ty (D:DS) (k:List Int):(ZB D k).down=true:= by
  unfold ZB;split
  · assumption
  · rfl
def Held (f:Int) (s:Bytes) (D:DS):Prop:=D.F f=(s,s)∧ ∀p∈D.Q,p.1≠f
theorem PW {F:Int→Bytes×Bytes} {f k:Int} {x:Bytes×Bytes} (h:k≠f):J7 F f x k=F k:= by simp [J7,h]
theorem K6 {F:Int→Bytes×Bytes} {p:Int×Int} {k:Int} (h:p.1≠k):H6 F p k=F k:= by
  unfold H6;split
  · rfl
  · exact PW (Ne.symm h)
theorem GB {keep:List Int} {k:Int}: ∀(Q:List (Int×Int)) (i:Nat) (F:Int→Bytes×Bytes),(∀p∈Q,p.1≠k)→Wd keep i Q F k=F k
  | [],_,_,_=>rfl
  | p::Q,i,F,h=> by
    simp only[Wd]
    rw[GB Q (i+1) _ (fun q hq=>h q (by simp [hq]))]
    split
    · exact K6 (h p (by simp))
    · rfl
theorem Held.crash {f:Int} {s:Bytes} {D:DS} (h:Held f s D) (k:List Int):Held f s (ZB D k):= by
  unfold ZB;split
  · exact h
  · refine⟨?_, by simp⟩
    simp only[GB D.Q 0 D.F h.2,h.1]
theorem Held.ends {f:Int} {s:Bytes} {D:DS} (h:Held f s D):Held f s (Zl D):=⟨by rw[Kd]; exact h.1, by rw[Bt]; exact h.2⟩
theorem Cl {g:Int}: ∀(k:Nat) (n:Int) (Q:List (Int×Int)) (p:Int×Int),p∈Jn g k n Q→p∈Q∨p.1=g
  | 0,_,_,_,h=> .inl h
  | k+1,n,Q,p,h=> by
    rcases Cl k (n+1) _ p h with h1 | h1
    · split at h1
      · exact .inl h1
      · rcases List.mem_append.1 h1 with h2 | h2
        · exact .inl h2
        · simp at h2; exact .inr (by rw[h2])
    · exact .inr h1
theorem Held.write {f g a:Int} {s t:Bytes} {D:DS} (h:Held f s D) (hne:g≠f):Held f s (WU D g a t):= by
  unfold WU;split
  · unfold Yn;split
    · exact h
    · exact⟨by show J7 _ _ _ f=_; rw[PW (Ne.symm hne)]; exact h.1, fun p hp=> by rcases Cl _ _ _ p hp with q | q; exact h.2 p q; rw[q]; exact hne⟩
  · exact h
theorem F8 {D:DS} {f:Int} (h:0≤f∧f<16):ZM (Xv D) f=0:= by
  have h1:(Xv D).down=false:=rfl
  simp [ZM,h1];omega
