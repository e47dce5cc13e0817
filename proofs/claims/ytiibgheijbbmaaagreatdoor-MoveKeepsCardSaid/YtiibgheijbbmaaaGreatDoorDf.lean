/- disk: Write, Sync, Truncate -/
import Derived.Test.YtiibgheijbbmaaaGreatDoorDd
set_option linter.unusedVariables false
set_option maxRecDepth 100000
namespace Go.Proofs.YtiibgheijbbmaaaGreatDoor
open Go.RowKit M Proofs.Tryz
theorem ML {w:World} {As:List Th} {p:Nat} {kp:Value} {D:DS} (hS:Sat w As) (i:Nat) (hi:As[i]? =some (Zo p kp D)):w.cell? ⟨p,0+6,none⟩=some kp:= by
  obtain⟨L,_,h⟩:=WC (hS.pull i hi)
  exact h.cell 0 Qa Qa
theorem VE (D:DS):(Zx D).keep=D.keep:= by unfold Zx;split<;>rfl
theorem BE (D:DS) (f a:Int) (s:Bytes):(Jl D f a s).keep=D.keep:= by unfold Jl Y5;split<;>(try split)<;>rfl
theorem IY {w:World} {p:Nat} {kp:Value} {D:DS} {F:Th} (hS:Sat w [Zo p kp D,F]) (hK:Ent F (RdI kp D.keep)) (f at_:Int) (s:Bytes):
    Calls prog 117 #[ptrV p 0,intV f,intV at_,strV s] w (Ret fun v w'=>v=intV (WK D f at_ s)∧Sat w' [Zo p kp (XU D f at_ s),F]):= by
 refine Qx func117 Qa ntmps117 Qa ?_
 refine Qg (Qb (Qc Qa Qa (Qh (Qd (Qg (Qb (Qe Qa Qa (Qz I0 Qa (L5 (hS.sp [0] Qa)) Qa ?_))))))))
 rintro _ w1 ⟨rfl,hS1⟩
 replace hS1:=hS1.jn Qa Qa
 refine Qc Qa Qa (Qh (Qd (Qg (Qb (Qe Qa Qa (Qe Qa Qa (Qe Qa Qa (Qe Qa Qa (Qz cal_130 Qa (AB (hS1.sp [0] Qa) f at_ s) Qa ?_)))))))))
 rintro _ w2 ⟨rfl,hS2⟩
 replace hS2:=hS2.jn Qa Qa
 refine Qc Qa Qa (Qh (Qd (Qk [0,8,9,10] Qa (Qg (Qg (Qb (Qe Qa Qa (Qh (Qd (Xb Qa (fun h3=> ?_) (fun h3=> ?_)))))))))))
 ·have hb:JV D=true:=h3
  refine Qg (Qb (Qe Qa Qa (Qe Qa Qa (Ql Qa Qa (Qi Qa ME Qa (Qq Qa GN (ML hS2 0 Qa) Qa (Qz F6 Qa (MN (hS2.sp [0] Qa) (hK.starL 0 Qa)) Qa ?_)))))))
  rintro _ w4 ⟨rfl,hS4⟩
  replace hS4:=hS4.jn Qa Qa
  refine Qh (Qd (Qk [8,10] Qa (Qg (Qb (Qc Qa Qa (Qh (Qd (Qo (Qm (Q5 (.inr Qa) Qa Qa ?_))))))))))
  exact⟨_,rfl, by simp [WK,hb], by simp only[XU,hb]; exact hS4⟩
 have hb:JV D=false:=h3
 refine Qr (Qd (Qg (Qb (Qe Qa Qa (Qc Qa Qa (Qh (Qd (Qo (Q5 (.inr Qa) Qa Qa ?_)))))))))
 exact⟨_,rfl, by simp [WK,hb], by simp only[XU,hb]; exact hS2⟩
theorem TS {D:DS} (h:JV D=true):Jn D=ZO (Zx D) D.keep:= by simp [Jn,h]
theorem Gj {D:DS} (h:JV D=false):Jn D=Zx D:= by simp [Jn,h]
theorem Sync_sp {w:World} {p:Nat} {kp:Value} {D:DS} {F:Th} (hS:Sat w [Zo p kp D,F]) (hK:Ent F (RdI kp D.keep)) (f:Int):
    Calls prog 57 #[ptrV p 0,intV f] w (Ret fun v w'=>v=intV (ZC D f)∧Sat w' [Zo p kp (XD D f),F]):= by
 refine Qx func57 Qa ntmps57 Qa ?_
 refine Qg (Qb (Qc Qa Qa (Qh (Qd (Uh (fun E0 W0=>E0=[(0,ptrV p 0),(1,intV f),(4,intV 0)]∧Sat W0 [Zo p kp (Jn D),F]) ?_ ?_)))))
 ·refine Qg (Qb (Qe Qa Qa (Qz I0 Qa (L5 (hS.sp [0] Qa)) Qa ?_)))
  rintro _ w2 ⟨rfl,hS2⟩
  replace hS2:=hS2.jn Qa Qa
  refine Qh (Qd (Xb Qa (fun h3=> ?_) (fun h3=> ?_)))
  ·have hb:JV D=true:=h3
   refine Qb (Qe Qa Qa (Qe Qa Qa (Ql Qa Qa (Qi Qa ME Qa (Qq Qa GN (ML hS2 0 Qa) Qa (Qz F6 Qa (MN (hS2.sp [0] Qa) (hK.starL 0 Qa)) Qa ?_))))))
   rintro _ w4 ⟨rfl,hS4⟩
   replace hS4:=hS4.jn Qa Qa
   refine Qh ?_
   exact WH (BC Qa Qa Qa) ⟨rfl, by rw[TS hb]; exact hS4⟩
  have hb:JV D=false:=h3
  refine Qr ?_
  exact WH (BC Qa Qa Qa) ⟨rfl, by rw[Gj hb]; exact hS2⟩
 rintro _ w1 ⟨rfl,hS1⟩
 refine Qg (Qg (Qb (Qe Qa Qa (Qe Qa Qa (Qz F5 Qa (Fb (hS1) f) Qa ?_)))))
 rintro _ _ ⟨rfl,rfl⟩
 refine Qc Qa Qa (Qh (Qd (Qg (Qb (Qe Qa Qa (Xr Qa Qa Qa (Qh (Qd (Qt Qa (fun h6=> ?_) (fun h6=> ?_))))))))))
 ·have hm:ZZ (Jn D) f≠0:=h6
  refine Qg (Qb (Qe Qa Qa (Qc Qa Qa (Qh (Qd (Qo (Qm (Q5 (.inr Qa) Qa Qa ?_))))))))
  exact⟨_,rfl, by simp [ZC,hm], by simp only[XD,if_pos hm]; exact hS1⟩
 have hm:ZZ (Jn D) f=0:=Decidable.not_not.1 h6
 refine Qr (Qd (Qg (Qg ?_)))
 obtain⟨⟨bf,bs,qv⟩,hI,hS1⟩:=WC (hS1.pull 0 rfl); dsimp only[List.eraseIdx]at hS1
 obtain⟨g,hg,hS1⟩:=JT (hS1.pull 1 rfl); dsimp only[List.eraseIdx]at hS1
 refine Qb (Qe Qa Qa (Ql Qa Qa (Qi Qa Gy Qa (Qq Qa QF (hS1.cell 1 Qa Qa) Qa (Wl Qa Qa Qa (Qh (Qd (Qk [4,1,0,24] Qa (Qt Qa (fun h7=> ?_) (fun h7=> ?_))))))))))
 ·have hl:0<(Jn D).lost:=h7
  have hll:=hI.lost
  refine Qg (Qb (Qe Qa Qa (Ql Qa Qa (Qi Qa Gy Qa (Qq Qa QF (hS1.cell 1 Qa Qa) Qa (JZ Qa Qa (by omega) (by omega) Qa ?_))))))
  refine Ql Qa Qa (Qi Qa Gy Qa ?_)
  first | (refine Q7 hS1 Qa Qa Ya (by rfl) (i:=1) Qa (Xd Qa) ?_)
  intro w8 hS9; dsimp only[List.set]at hS9
  refine Qh (Qd (Qk [4,1,0] Qa (Qg (Qb (Qc Qa Qa (Qh (Qd (Qo (Qm (Q5 (.inr Qa) Qa Qa ?_))))))))))
  exact⟨_,rfl, by rw[ZC,if_neg (by simp [hm]),if_pos hl], by rw[XD,if_neg (by simp [hm]),if_pos hl]; exact Cf {hI with lost:=⟨by simp;omega, by have :=hI.lost; simp;omega⟩} hg hS9⟩
 have hl: ¬0<(Jn D).lost:=h7
 refine Qr (Qd (Qg (Qb (Qe Qa Qa (Qe Qa Qa (Qe Qa Qa (Ql Qa Qa (Qi Qa JS Qa (Qq Qa U3 (hS1.cell 1 Qa Qa) Qa (Qe Qa Qa (Hp 0 hS1 keysInt underlying116 Qa Qa Qa US (hg _) Qa (DD PS Qa Qa Qa ?_))))))))))))
 replace hS1:=Cf hI hg hS1
 refine Qz cal_94 Qa (Ea (hS1.sp [0] Qa) f _ (hI.now f)) Qa ?_
 rintro _ w10 ⟨rfl,hS10⟩
 replace hS10:=hS10.jn Qa Qa
 refine Qh (Qd (Qk [4] Qa (Qg (Qb (Qc Qa Qa (Qh (Qd (Qo (Q5 (.inr Qa) Qa Qa ?_)))))))))
 exact⟨_,rfl, by rw[ZC,if_neg (by simp [hm]),if_neg hl], by rw[XD,if_neg (by simp [hm]),if_neg hl]; exact hS10⟩
def Y0 (l:List Int):List Value:=l.map intV
theorem VA (l:List Int):(Y0 l).length=l.length:= by simp [Y0]
theorem EL (l:List Int):Wt (Y0 l)=true:=B8 (by intro v hv; obtain⟨x,_,rfl⟩:=List.mem_map.1 hv;rfl)
theorem RdI.nil {n cap:Nat} {l:List Int} {w:World} (h:RdI (.slice none n cap) l w):l=[]:= by
  cases l with
  | nil=>rfl
  | cons x l=> obtain⟨b,off,h1,_⟩:=h.get (i:=0) (x:=x) rfl; cases h1
theorem RdI.lenOf {v:Value} {l:List Int} {w:World} (h:RdI v l w): ∀w1,(Builtin.lenOf v).run prog w1= .ok l.length w1:= by
  obtain⟨ao,cap,rfl,_⟩:=h.shape
  exact Kg _ _ _
theorem RdI.first {v:Value} {l:List Int} {w:World} (h:RdI v l w): ∀w1:World,w1.heap=w.heap→(Builtin.firstCells 1 l.length v).run prog w1= .ok (Y0 l).toArray w1:= by
  obtain⟨ao,cap,rfl,_⟩:=h.shape
  intro w1 hw
  cases hl:l with
  | nil=> cases ao<;> simp [Builtin.firstCells,Y0,loadCells,loadCellsFrom]
  | cons x l'=>
    obtain⟨b,off,rfl,_⟩:=h.get (i:=0) (x:=x) (by rw[hl];rfl)
    rw[←hl]
    simp only[Builtin.firstCells,Nat.mul_one]
    have :=run_loadCells_list (P:=prog) w1 ⟨b,off,none⟩ (Y0 l) (fun j v hv=> by
      rw[Wu]
      simp only[Y0,List.getElem?_map]at hv
      obtain⟨y,hy,rfl⟩:=Option.map_eq_some_iff.1 hv
      obtain⟨b2,o2,e,hc⟩:=h.get hy
      cases e
      rw[Nat.mul_one]at hc
      rw[World.cell?_of_block (w:=w) (by rw[hw])]
      exact hc)
    rw[VA]at this
    exact this
theorem BW {v:Value} {l:List Int} (hl:l.length≤9223372036854775807):Ent (XH v l.length 1 (Y0 l)) (RdI v l):= by
  rintro w G ⟨f,_,hl2,⟨rfl,h0,_⟩ | ⟨b,cap,sp,rfl,hc,hb,_,_⟩⟩
  · have :l=[]:=List.eq_nil_of_length_eq_zero h0
    subst this
    exact⟨none,0,rfl, by simp, by simp⟩
  · refine⟨_,cap,rfl,hl, fun i x hx=>⟨b,0,rfl, ?_⟩⟩
    refine hb.cell ?_
    have hi:=(Jh hx).1
    rw[Nat.zero_add,List.getElem?_append_left (by rw[VA]; exact hi)]
    simp [Y0,hx]
theorem Ak {w:World} {F:Th} (hS:Sat w [F]) {kv:Value} {ks:List Int} (hK:Ent F (RdI kv ks)) (hl:ks.length≤100000000000):
    Calls prog 91 #[kv] w (Ret fun v w'=>Sat w' [XH v ks.length 1 (Y0 ks),F]):= by
 have hrd:=hK.sat hS 0 Qa
 obtain⟨ao,capk,rfl,hkmax⟩:=hrd.shape
 refine Qx func91 Qa ntmps91 Qa ?_
 refine Qg (Qb (Qc Qa Qa (Qh (Qd (Qg (Qg (Qb (Qe Qa Qa (BG underlying33 Qa Qa Qa (Qh (Qd (Xb Qa (fun h1=> ?_) (fun h1=> ?_)))))))))))))
 ·have hn:ao=none:=Option.isNone_iff_eq_none.1 h1
  subst hn
  obtain rfl:=hrd.nil
  exact Qg (Qb (Qc Qa Qa (Qh (Qd (Qo (Qm (Q5 (.inr Qa) Qa Qa (⟨_,rfl,hS.new (Only.refl [] _) (A:=XH (.slice none 0 0) 0 1 []) (F':= fun k=>k∈([]:List Nat)) ⟨[],rfl,Own.nil _ 1⟩ (by simp)⟩))))))))
 refine Qr (Qd (Qg (Qb (Hx hS Qa underlying33 ifz_3 Qa Qa Qa Qa ?_))))
 intro b2 w2 hS2
 refine Qe Qa Qa ?_
 have hrd1:=hK.sat hS2 1 Qa
 first | refine K1 0 hS2 Qa Qa Qa underlying33 underlying33 (by intro k hk; cases hk) ifo_3 Qa (by decide) hrd1.lenOf hrd1.first (by rw[VA];omega) (EL _) (by omega) (by omega) Qa ?_
 intro v3 w3 hS3; dsimp only[List.set]at hS3
 have h1v3:v3.oneCell'=true:= by first | exact hS3.own_one 0 Qa
 refine Qc Qa Qa (Qh (Qd (Qo (Q5 (.inr Qa) Qa Qa ?_))))
 exact⟨_,rfl, by have h:=hS3; rw[Nat.zero_add]at h; exact h⟩
theorem arm_end {w:World} {p bf bs:Nat} {kv qv:Value} {D:DS} {ks:List Int} {F:Th} {n:Int} (hI:DInv D) (hn:n≤9223372036854775807) (h:Sat w [XH kv ks.length 1 (Y0 ks),QR p [.map (some bf),qv,.map (some bs),intV D.lost,.bool D.down,intV (max n 0),kv],J0 bf D.F,XH qv D.Q.length 2 (Z9 D.Q),YV bs D.Q,F]):Sat w [Zo p kv {D with armed:=max n 0,keep:=ks},XH kv ks.length 1 (Y0 ks),F]:= by
  have h1:=ZW (D:={D with armed:=max n 0,keep:=ks}) (As:=[F,XH kv ks.length 1 (Y0 ks)]) ⟨bf,bs,qv⟩ {hI with armed:=⟨by simp;omega, by simp;omega⟩} (h.reorder [1,2,3,4,5,0] Qa)
  exact h1.reorder [0,2,1] Qa
theorem arm_sp {w:World} {p:Nat} {kp:Value} {D:DS} {F:Th} (hS:Sat w [Zo p kp D,F]) (n:Int) (hn:n≤9223372036854775807) {kv:Value} {ks:List Int} (hK:Ent F (RdI kv ks)) (hl:ks.length≤100000000000):
    Calls prog 56 #[ptrV p 0,intV n,kv] w (Ret fun v w'=> ∃kv',v= .tuple #[]∧Sat w' [Zo p kv' {D with armed:=max n 0,keep:=ks},XH kv' ks.length 1 (Y0 ks),F]):= by
 obtain⟨⟨bf,bs,qv⟩,hI,hS⟩:=WC hS; dsimp only at hS
 refine Qx func56 Qa ntmps56 Qa ?_
 refine Qb (Qe Qa Qa (Qe Qa Qa (Qe Qa Qa (Dj Qa Qa Qa (Qe Qa Qa (Qz cal_91 Qa (Ak (hS.sp [] Qa) (hK.starL 4 Qa) hl) Qa ?_))))))
 rintro _ w1 hS1
 replace hS1:=hS1.jn Qa Qa
 have h1k:=hS1.own_one 0 Qa
 refine Ql Qa Qa (Qi Qa Vt Qa ?_)
 first | (refine Q7 hS1 Qa Qa Ya (by rfl) (i:=1) Qa (Xd Qa) ?_)
 intro w2 hS3; dsimp only[List.set]at hS3
 refine Ql Qa Qa (Qi Qa ME Qa ?_)
 first | (refine Q7 hS3 Qa Qa sz_33 (by assumption) (i:=1) Qa (Xd Qa) ?_)
 intro w4 hS5; dsimp only[List.set]at hS5
 exact Qh (Y4 (.inl Qa) Qa (⟨_,Qa,_,Qa,arm_end hI hn hS5⟩))
theorem mc1 : (Tryz.f111.name == "runtime.NumGoroutine") = false := by kernel_rfl
theorem mc2:Tryz.f111.body.isNone=true:= by kernel_rfl
theorem mc3:Extern.findNext Tryz.f111=none:= by kernel_rfl
theorem mc4:Extern.find Tryz.f111=some Extern.MapsClone.clone:= by kernel_rfl
theorem Al {w:World} {F:Th} {b:Nat} {g:Int→Option Value} (hS:Sat w [XE XY b g,F]):
    Calls prog 85 #[.map (some b)] w (Ret fun v w'=> ∃b',v= .map (some b')∧Sat w' [XE XY b' g,XE XY b g,F]):= by
 refine Qx func85 Qa ntmps85 Qa ?_
 refine Qg (Qb (Qc Qa Qa (Qh (Qd (Qg (Qg (Qb (Qe Qa Qa (RT underlying116 Qa Qa Qa (Qh (Qd (QI Qa (Qr (Qd (Qg (Qb (Qe Qa Qa (RQ Lj Qa Qa (RP 0 hS func111 mc1 mc2 mc3 mc4 Qa Qa Qa ?_)))))))))))))))))))
 intro b9 w9 hS9
 exact Ro Lj Qa Qa (Qc Qa Qa (Qh (Qd (Qo (Q5 (.inr Qa) Qa Qa (⟨_,Qa,_,Qa,hS9⟩))))))
theorem Ai {w:World} {F:Th} {b:Nat} {g:Int×Int→Option Value} (hS:Sat w [XE Wq b g,F]):
    Calls prog 87 #[.map (some b)] w (Ret fun v w'=> ∃b',v= .map (some b')∧Sat w' [XE Wq b' g,XE Wq b g,F]):= by
 refine Qx func87 Qa ntmps87 Qa ?_
 refine Qg (Qb (Qc Qa Qa (Qh (Qd (Qg (Qg (Qb (Qe Qa Qa (RT underlying118 Qa Qa Qa (Qh (Qd (QI Qa (Qr (Qd (Qg (Qb (Qe Qa Qa (RQ Li Qa Qa (RP 0 hS func111 mc1 mc2 mc3 mc4 Qa Qa Qa ?_)))))))))))))))))))
 intro b9 w9 hS9
 exact Ro Li Qa Qa (Qc Qa Qa (Qh (Qd (Qo (Q5 (.inr Qa) Qa Qa (⟨_,Qa,_,Qa,hS9⟩))))))
theorem Pj {w:World} {F:Th} {Q:List (Int×Int)} {cap:Nat} (h:Sat w [XH (.slice none Q.length cap) Q.length 2 (Z9 Q),F]):Q=[]:= by
  obtain⟨f,_,⟨_,h0,_⟩ | ⟨b,cap,sp,h0,_⟩⟩:=h.own 0 rfl
  · exact List.eq_nil_of_length_eq_zero h0
  · cases h0
theorem AY (Q:List (Int×Int)):Wt (Z9 Q)=true:=B8 (by intro v hv; obtain⟨p,_,hp⟩:=List.mem_flatMap.1 hv; simp at hp; rcases hp with rfl | rfl<;>rfl)
theorem Aj {w:World} {F:Th} {qv:Value} {Q:List (Int×Int)} (hS:Sat w [XH qv Q.length 2 (Z9 Q),F]) (hl:Q.length≤4194320):
    Calls prog 86 #[qv] w (Ret fun v w'=>Sat w' [XH v Q.length 2 (Z9 Q),XH qv Q.length 2 (Z9 Q),F]):= by
 obtain⟨ao,capq,rfl,hcq,_⟩:=hS.own_shape 0 rfl
 refine Qx func86 Qa ntmps86 Qa ?_
 refine Qg (Qb (Qc Qa Qa (Qh (Qd (Qg (Qg (Qb (Qe Qa Qa (BG underlying117 Qa Qa Qa (Qh (Qd (Xb Qa (fun h1=> ?_) (fun h1=> ?_)))))))))))))
 ·have hn:ao=none:=Option.isNone_iff_eq_none.1 h1
  subst hn
  obtain rfl:=Pj hS
  exact Qg (Qb (Qc Qa Qa (Qh (Qd (Qo (Qm (Q5 (.inr Qa) Qa Qa (⟨_,rfl,hS.new (Only.refl [] _) (A:=XH (.slice none 0 0) 0 2 []) (F':= fun k=>k∈([]:List Nat)) ⟨[],rfl,Own.nil _ 2⟩ (by simp)⟩))))))))
 refine Qr (Qd (Qg (Qb (Hx hS Qa underlying117 Lq Qa Qa Qa Qa ?_))))
 intro b2 w2 hS2
 refine Qe Qa Qa ?_
 first | refine K1 0 hS2 Qa Qa Qa underlying117 underlying117 (by intro k hk; cases hk) Ls Qa (by decide) (TR hS2 1 Qa) (Km hS2 1 Qa) (UC Q) (AY _) (by omega) (by omega) Qa ?_
 intro v3 w3 hS3; dsimp only[List.set]at hS3
 have h1v3:v3.oneCell'=true:= by first | exact hS3.own_one 0 Qa
 refine Qc Qa Qa (Qh (Qd (Qo (Q5 (.inr Qa) Qa Qa ?_))))
 exact⟨_,rfl, by have h:=hS3; rw[Nat.zero_add]at h; exact h⟩
theorem Iv {w:World} {p p2 bf bs bf2 bs2:Nat} {kp qv qv2:Value} {D:DS} {g:Int→Option Value} {gs:Int×Int→Option Value} {F:Th} (hI:DInv D) (hg:Hn g D.F) (hgs: ∀p,gs p= if p∈D.Q then some (.bool true)else none)
    (h:Sat w [XE Wq bs2 gs,XE Wq bs gs,XH qv2 D.Q.length 2 (Z9 D.Q),XH qv D.Q.length 2 (Z9 D.Q),XE XY bf2 g,XE XY bf g,QR p2 (Ys ⟨bf2,bs2,qv2⟩ kp D),QR p (Ys ⟨bf,bs,qv⟩ kp D),F]):Sat w [Zo p2 kp D,Zo p kp D,F]:= by
  have h1:=YK gs hgs h
  have h2:=YK gs hgs (h1.reorder [1,0,2,3,4,5,6,7,8] Qa)
  have h3:=Ji g hg (h2.reorder [4,5,0,1,2,3,6,7,8] Qa)
  have h4:=Ji g hg (h3.reorder [1,0,2,3,4,5,6,7,8] Qa)
  -- bf, bf2, bs, bs2, q2, q, p2, p, F
  have h5:=ZW (As:=[J0 bf D.F,YV bs D.Q,XH qv D.Q.length 2 (Z9 D.Q),QR p (Ys ⟨bf,bs,qv⟩ kp D),F]) ⟨bf2,bs2,qv2⟩ hI (h4.reorder [6,1,4,3,0,2,5,7,8] Qa)
  have h6:=ZW (As:=[F,Zo p2 kp D]) ⟨bf,bs,qv⟩ hI (h5.reorder [4,1,3,2,5,0] Qa)
  exact h6.reorder [2,0,1] Qa
theorem copy_sp {w:World} {p:Nat} {kp:Value} {D:DS} {F:Th} (hS:Sat w [Zo p kp D,F]) (hK:Ent F (RdI kp D.keep)):
    Calls prog 50 #[ptrV p 0] w (Ret fun v w'=> ∃p2,v=ptrV p2 0∧Sat w' [Zo p2 kp D,Zo p kp D,F]):= by
 obtain⟨aok,capk,rfl,_⟩:=(hK.sat hS 1 rfl).shape
 obtain⟨⟨bf,bs,qv⟩,hI,hS⟩:=WC hS; dsimp only at hS
 refine Qx func50 Qa ntmps50 Qa ?_
 obtain⟨g,hg,hS⟩:=JT (hS.pull 1 rfl); dsimp only[List.eraseIdx]at hS
 obtain⟨gs,hgs,hS⟩:=Ba (hS.pull 3 rfl); dsimp only[List.eraseIdx]at hS
 have h1q0:=hS.own_one 3 Qa
 have hone:Wt (Ys ⟨bf,bs,qv⟩ (.slice aok D.keep.length capk) D)=true:= by simp [Wt,Ys,Value.oneCell',h1q0]at h1q0⊢; exact h1q0
 refine Qg (Qb (Qc Qa Qa (Qh (Qd (Qg (Qb (Qe Qa Qa (Ql Qa Qa ?_))))))))
 refine ZK Qa ag_120 AM (by first | exact hS.blk 2 Qa) (by first | decide | exact Xd Qa | (simp;done) | omega) Qa Qa ?_
 refine Xl hS A7 Qa Qa ?_
 intro b1 w1 hS1
 (refine QZ hS1 Qa Qa AM Qa (by assumption) (i:=0) Qa (by decide) ?_)
 intro w2 hS3; dsimp only[List.set]at hS3
 refine Qh (Qd (Qg ?_))
 have hS4:=hS3.drew
 refine QM [0,1,2,3,5,6,7,8,10,11,12,13,4,9,14,15,16,17,18,19,20] [4,9,14,16,18,20] Wv (by kernel_rfl) ?_
 refine QK Qa Qa Qa (Xm Qa Qa Qa (QN Qa Qa Qa JS (Q9 Qa Qa Qa (Qn Qa U3 (hS4.cell 3 Qa Qa)) (QK Qa Qa Qa (Xm Qa Qa Qa (QN Qa Qa Qa HF (Q9 Qa Qa Qa (Qn Qa B9 (hS4.cell 3 Qa Qa)) (QK Qa Qa Qa (Xm Qa Qa Qa (QN Qa Qa Qa Vu (Q9 Qa Qa Qa (Qn Qa Kx (hS4.cell 3 Qa Qa)) (QS Qa Qa Qa Qa Qa Qa ?_))))))))))))
 refine Qz cal_85 Qa (Al (hS4.sp [2] Qa)) Qa ?_
 rintro _ w5 ⟨b5,rfl,hS5⟩
 replace hS5:=hS5.jn Qa Qa
 refine Xe (.cons (.inl ⟨rfl,(Qn Qa Kx (hS5.cell 4 Qa Qa))⟩) (.cons (.inl ⟨rfl,(Qn Qa B9 (hS5.cell 4 Qa Qa))⟩) (Xp (by kernel_rfl)))) ?_
 refine QS Qa Qa Qa Qa Qa Qa ?_
 refine Qz cal_86 Qa (Aj (hS5.sp [5] Qa) (KA hI.secs hI.nodup)) Qa ?_
 rintro _ w6 hS6
 replace hS6:=hS6.jn Qa Qa
 have h1q:=hS6.own_one 0 Qa
 refine Xe (.cons (.inl ⟨rfl,(Qn Qa Kx (hS6.cell 6 Qa Qa))⟩) (Xp (by kernel_rfl))) ?_
 refine QS Qa Qa Qa Qa Qa Qa ?_
 refine Qz cal_87 Qa (Ai (hS6.sp [5] Qa)) Qa ?_
 rintro _ w7 ⟨b7,rfl,hS7⟩
 replace hS7:=hS7.jn Qa Qa
 refine Xe (Xp (by kernel_rfl)) ?_
 refine QN Qa Qa Qa JS (QS Qa Qa Qa Qa Qa Qa ?_)
 (refine Q7 hS7 Qa Qa sz_116 (by rfl) (i:=6) Qa (Xd Qa) ?_)
 intro w8 hS9; dsimp only[List.set]at hS9
 refine Z6 (Xp (by kernel_rfl)) ?_
 refine QN Qa Qa Qa HF (QS Qa Qa Qa Qa Qa Qa ?_)
 (refine Q7 hS9 Qa Qa Co (by assumption) (i:=6) Qa (Xd Qa) ?_)
 intro w10 hS11; dsimp only[List.set]at hS11
 refine Z6 (Xp (by kernel_rfl)) ?_
 refine QN Qa Qa Qa Vu (QS Qa Qa Qa Qa Qa Qa ?_)
 (refine Q7 hS11 Qa Qa AN (by rfl) (i:=6) Qa (Xd Qa) ?_)
 intro w12 hS13; dsimp only[List.set]at hS13
 refine Z6 (Xp (by kernel_rfl)) ?_
 exact VC.nil (Qd (Qk [2,3] Qa (Qg (Qb (Qc Qa Qa (Qh (Qd (Qo (Q5 (.inr Qa) Qa Qa (⟨_,Qa,_,Qa,Iv hI hg hgs hS13⟩))))))))))
theorem Ks (D:DS) (k:List Int):(ZO D k).keep=D.keep:= by unfold ZO;split<;>rfl
theorem M2 (D:DS):(Jn D).keep=D.keep:= by unfold Jn;split; rw[Ks,VE]; exact VE D
theorem FL (D:DS) (f:Int):(XD D f).keep=D.keep:= by unfold XD;split; exact M2 D;split<;> exact M2 D
theorem S1 (D:DS) (f a:Int) (s:Bytes):(XU D f a s).keep=D.keep:= by simp only[XU];split; rw[Ks,BE,VE]; rw[BE,VE]
def X1 (D:DS):DS:={D with down:=false}
def dT (p:Nat) (D:DS):Th:=S3 fun kp:Value=>starL [Yz (D.keep.length≤1000),Zo p kp D,XH kp D.keep.length 1 (Y0 D.keep)]
theorem UO {w:World} {p:Nat} {D:DS} {As:List Th} (h:Sat w (dT p D::As)): ∃kp,D.keep.length≤1000∧Sat w (Zo p kp D::XH kp D.keep.length 1 (Y0 D.keep)::As):= by
  obtain⟨kp,h⟩:=h.ex
  exact⟨kp,h.flat.pure_elim⟩
theorem GF {w:World} {p:Nat} {D:DS} {As:List Th} (kp:Value) (hl:D.keep.length≤1000) (h:Sat w (Zo p kp D::XH kp D.keep.length 1 (Y0 D.keep)::As)):Sat w (dT p D::As):=
  Sat.ex_intro kp (Sat.fold (As:=[Yz (D.keep.length≤1000),Zo p kp D,XH kp D.keep.length 1 (Y0 D.keep)]) (Sat.pure_intro hl h))
theorem dT_new {w:World} {p:Nat} {F:Th} (h:Sat w [Zo p (.slice none 0 0) newD,F]):Sat w [dT p newD,F]:= by
  have h3:=h.new (Only.refl [] w) (A:=XH (.slice none 0 0) 0 1 []) (F':= fun k=>k∈([]:List Nat)) ⟨[],rfl,Own.nil w 1⟩ (by simp)
  exact GF (.slice none 0 0) (by simp [newD]) (h3.reorder [1,0,2] Qa)
theorem P0 {kp:Value} {D:DS} {F:Th} (h:D.keep.length≤1000):Ent (starL [XH kp D.keep.length 1 (Y0 D.keep),F]) (RdI kp D.keep):=Ent.starL (A:=XH kp D.keep.length 1 (Y0 D.keep)) (BW (by omega)) 0 Qa
theorem Ra {w:World} {p:Nat} {kp:Value} {D D':DS} {F:Th} (hl:D.keep.length≤1000) (hk:D'.keep=D.keep) (h:Sat w [Zo p kp D',starL [XH kp D.keep.length 1 (Y0 D.keep),F]]):Sat w [dT p D',F]:=
  GF kp (by rw[hk]; exact hl) (by have :=h.join Qa; rw[hk]; exact this)
theorem Gc {w:World} {p:Nat} {kp:Value} {D:DS} {F:Th} (hS:Sat w [Zo p kp D,F]) (f a n:Int):Calls prog 88 #[ptrV p 0,intV f,intV a,intV n] w (Ret fun v w'=>v= .tuple #[strV (WG D f a n),intV (Wf D f a n)]∧Sat w' [Zo p kp D,F]):=(read_sp hS f a n).mono fun _ _ h=>h.mono fun v w' ⟨h1,h2⟩=>⟨h1,h2▸hS⟩
theorem Ft {w:World} {p:Nat} {D:DS} {F:Th} (hS:Sat w [dT p D,F]) (f a n:Int):Calls prog 88 #[ptrV p 0,intV f,intV a,intV n] w (Ret fun v w'=>v= .tuple #[strV (WG D f a n),intV (Wf D f a n)]∧Sat w' [dT p D,F]):= by
  obtain⟨kp,hl,hS⟩:=UO hS
  exact(Gc (hS.sp [0] Qa) f a n).mono fun e w' h=>h.mono fun v w' ⟨h1,h2⟩=>⟨h1,Ra hl (rfl) h2⟩
theorem FT {w:World} {p:Nat} {D:DS} {F:Th} (hS:Sat w [dT p D,F]) (f:Int):Calls prog 57 #[ptrV p 0,intV f] w (Ret fun v w'=>v=intV (ZC D f)∧Sat w' [dT p (XD D f),F]):= by
  obtain⟨kp,hl,hS⟩:=UO hS
  exact(Sync_sp (hS.sp [0] Qa) (P0 hl) f).mono fun e w' h=>h.mono fun v w' ⟨h1,h2⟩=>⟨h1,Ra hl (FL _ _) h2⟩
theorem AC {w:World} {p:Nat} {D:DS} {F:Th} (hS:Sat w [dT p D,F]) (f a:Int) (s:Bytes):Calls prog 117 #[ptrV p 0,intV f,intV a,strV s] w (Ret fun v w'=>v=intV (WK D f a s)∧Sat w' [dT p (XU D f a s),F]):= by
  obtain⟨kp,hl,hS⟩:=UO hS
  exact(IY (hS.sp [0] Qa) (P0 hl) f a s).mono fun e w' h=>h.mono fun v w' ⟨h1,h2⟩=>⟨h1,Ra hl (S1 _ _ _ _) h2⟩
theorem loseT {w:World} {p:Nat} {D:DS} {F:Th} (hS:Sat w [dT p D,F]) (n:Int) (hn:n≤9223372036854775807):Calls prog 55 #[ptrV p 0,intV n] w (Ret fun v w'=>v= .tuple #[]∧Sat w' [dT p {D with lost:=max n 0},F]):= by
  obtain⟨kp,hl,hS⟩:=UO hS
  exact(lose_sp (hS.sp [0] Qa) n hn).mono fun e w' h=>h.mono fun v w' ⟨h1,h2⟩=>⟨h1,Ra hl (rfl) h2⟩
theorem startT {w:World} {p:Nat} {D:DS} {F:Th} (hS:Sat w [dT p D,F]):Calls prog 51 #[ptrV p 0] w (Ret fun v w'=>v= .tuple #[]∧Sat w' [dT p (X1 D),F]):= by
  obtain⟨kp,hl,hS⟩:=UO hS
  exact(NO (hS.sp [0] Qa)).mono fun e w' h=>h.mono fun v w' ⟨h1,h2⟩=>⟨h1,Ra hl (rfl) h2⟩
theorem crashT {w:World} {p:Nat} {D:DS} {F:Th} (hS:Sat w [dT p D,F]) {kv:Value} {ks:List Int} (hK:Ent F (RdI kv ks)):Calls prog 83 #[ptrV p 0,kv] w (Ret fun v w'=>v= .tuple #[]∧Sat w' [dT p (ZO D ks),F]):= by
  obtain⟨kp,hl,hS⟩:=UO hS
  exact(MN (hS.sp [0] Qa) (hK.starL 1 Qa)).mono fun e w' h=>h.mono fun v w' ⟨h1,h2⟩=>⟨h1,Ra hl (Ks _ _) h2⟩
def MU (D:DS) (n:Int) (ks:List Int):DS:={D with armed:=max n 0,keep:=ks}
theorem armT {w:World} {p:Nat} {D:DS} {F:Th} (hS:Sat w [dT p D,F]) (n:Int) (hn:n≤9223372036854775807) {kv:Value} {ks:List Int} (hK:Ent F (RdI kv ks)) (hl:ks.length≤1000):Calls prog 56 #[ptrV p 0,intV n,kv] w (Ret fun v w'=>v= .tuple #[]∧Sat w' [dT p (MU D n ks),F]):= by
  obtain⟨kp,_,hS⟩:=UO hS
  refine(arm_sp (hS.sp [0] Qa) n hn (hK.starL 1 Qa) (by omega)).mono fun e w' h=>h.mono fun v w' ⟨kv',h1,h2⟩=>⟨h1, ?_⟩
  have h4:=h2.join Qa
  dsimp only[zqa,zqb,zqc,zqd]at h4
  exact GF kv' (by show ks.length≤1000;omega) (h4.drop 2 Qa)
theorem KU (D:DS):(Zx D).F=D.F:= by unfold Zx;split<;>rfl
theorem D6 (D:DS):(Zx D).Q=D.Q:= by unfold Zx;split<;>rfl
theorem VF (D:DS):(Zx D).down=D.down:= by unfold Zx;split<;>rfl
theorem F4 {D:DS} {k:List Int} (h:D.down=true):ZO D k=D:= by rw[ZO,if_pos h]
theorem Nj (D:DS) (k:List Int):(ZO D k).down=true:= by
  unfold ZO;split
  · assumption
  · rfl
def Held (f:Int) (s:Bytes) (D:DS):Prop:=D.F f=(s,s)∧ ∀p∈D.Q,p.1≠f
theorem FV {F:Int→Bytes×Bytes} {f k:Int} {x:Bytes×Bytes} (h:k≠f):JN F f x k=F k:= by simp [JN,h]
theorem R3 {F:Int→Bytes×Bytes} {p:Int×Int} {k:Int} (h:p.1≠k):HU F p k=F k:= by
  unfold HU;split
  · rfl
  · exact FV (Ne.symm h)
theorem BK {keep:List Int} {k:Int}: ∀(Q:List (Int×Int)) (i:Nat) (F:Int→Bytes×Bytes),(∀p∈Q,p.1≠k)→Wn keep i Q F k=F k
  | [],_,_,_=>rfl
  | p::Q,i,F,h=> by
    simp only[Wn]
    rw[BK Q (i+1) _ (fun q hq=>h q (by simp [hq]))]
    split
    · exact R3 (h p (by simp))
    · rfl
theorem Held.crash {f:Int} {s:Bytes} {D:DS} (h:Held f s D) (k:List Int):Held f s (ZO D k):= by
  unfold ZO;split
  · exact h
  · refine⟨?_, by simp⟩
    simp only[BK D.Q 0 D.F h.2,h.1]
theorem Held.ends {f:Int} {s:Bytes} {D:DS} (h:Held f s D):Held f s (Zx D):=⟨by rw[KU]; exact h.1, by rw[D6]; exact h.2⟩
theorem Pf {g:Int}: ∀(k:Nat) (n:Int) (Q:List (Int×Int)) (p:Int×Int),p∈Jz g k n Q→p∈Q∨p.1=g
  | 0,_,_,_,h=> .inl h
  | k+1,n,Q,p,h=> by
    rcases Pf k (n+1) _ p h with h1 | h1
    · split at h1
      · exact .inl h1
      · rcases List.mem_append.1 h1 with h2 | h2
        · exact .inl h2
        · simp at h2; exact .inr (by rw[h2])
    · exact .inr h1
theorem Held.write {f g a:Int} {s t:Bytes} {D:DS} (h:Held f s D) (hne:g≠f):Held f s (Jl D g a t):= by
  unfold Jl;split
  · unfold Y5;split
    · exact h
    · exact⟨by show JN _ _ _ f=_; rw[FV (Ne.symm hne)]; exact h.1, fun p hp=> by rcases Pf _ _ _ p hp with q | q; exact h.2 p q; rw[q]; exact hne⟩
  · exact h
theorem E4 {D:DS} {f:Int} (h:0≤f∧f<16):ZZ (X1 D) f=0:= by
  have h1:(X1 D).down=false:=rfl
  simp [ZZ,h1];omega
