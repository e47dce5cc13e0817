/- sheets: New, Copy -/
import Derived.Test.YtkcjfoaejijdoaaGreatDoorDl
set_option linter.unusedVariables false
set_option maxRecDepth 100000
set_option maxHeartbeats 1600000
namespace Go.Proofs.YtkcjfoaejijdoaaGreatDoor
open Go.RowKit M Proofs.Tryz
theorem Sc {w:World} {F:Th} (hS:Sat w [F]) {lv:Value} {l:List CkD} (hL:Ent F (RdL ckC lv l)) (hln:l.length≤100000000000):
    Calls prog 130 #[lv] w (Ret fun v w'=>Sat w' [rowT ckC v l,F]):= by
 obtain⟨ao,cap,rfl,hmax⟩:=(hL.sat hS 0 rfl).shape
 refine Qm func130 U ntmps130 U ?_
 refine Qd (Qa (Qe U U (Qf (Qc (Qd (Qd (Qa (Qb U U (HS underlying186 U U U (Qf (Qc (QT U (fun h1=> ?_) (fun h1=> ?_)))))))))))))
 ·refine Qd (Qa (Qe U U (Qf (Qc (Qu (Qp (QY (.inr U) U U ?_)))))))
  obtain rfl:=Option.isNone_iff_eq_none.1 (by assumption:ao.isNone=true)
  have hnl:l=[]:=(hL.sat hS 0 U).isNil
  exact⟨_,rfl, by rw[hnl]; exact(hS.pick [0] U).row_nil ckC⟩
 refine Qs (Qc (Qd (Qa (XU ckC [] hS U underlying186 ifz_199 U U U U (by rfl) rfl ?_))))
 intro b2 w2 j2
 refine Qb U U ?_
 refine ZH ckC 0 j2 U U U (hL.sat j2 1 U) underlying186 underlying186 (by intro k hk; cases hk) SY U (by simp only[List.length_nil];omega) U (by simp only[List.length_nil];omega) ?_
 intro v3 w3 j3; dsimp only[List.set]at j3
 have h1v3:v3.oneCell'=true:=j3.own_one 0 U
 exact Qe U U (Qf (Qc (Qu (QY (.inr U) U U (⟨_,U,j3.pick [0,1] U⟩)))))
theorem mc1 : (Tryz.f127.name == "runtime.NumGoroutine") = false := by kernel_rfl
theorem mc2:Tryz.f127.body.isNone=true:= by kernel_rfl
theorem mc3:Extern.findNext Tryz.f127=none:= by kernel_rfl
theorem mc4:Extern.find Tryz.f127=some Extern.MapsClone.clone:= by kernel_rfl
theorem UP {w:World} {F:Th} {b:Nat} {g:Int→Option Value} (hS:Sat w [Q5 QN b g,F]):
    Calls prog 75 #[.map (some b)] w (Ret fun v w'=> ∃b',v= .map (some b')∧Sat w' [Q5 QN b' g,Q5 QN b g,F]):= by
 refine Qm func75 U ntmps75 U ?_
 refine Qd (Qa (Qe U U (Qf (Qc (Qd (Qd (Qa (Qb U U (Yv underlying109 U U U (Qf (Qc (QR U (Qs (Qc (Qd (Qa (Qb U U (Yu SJ U U (Yt 0 hS func127 mc1 mc2 mc3 mc4 U U U ?_)))))))))))))))))))
 intro b9 w9 j9
 exact Ya SJ U U (Qe U U (Qf (Qc (Qu (QY (.inr U) U U (⟨_,U,_,U,j9⟩))))))
theorem Sb {w:World} {F:Th} {b:Nat} {g:Int→Option Value} (hS:Sat w [Q5 QN b g,F]):
    Calls prog 74 #[.map (some b)] w (Ret fun v w'=> ∃b',v= .map (some b')∧Sat w' [Q5 QN b' g,Q5 QN b g,F]):= by
 refine Qm func74 U ntmps74 U ?_
 refine Qd (Qa (Qe U U (Qf (Qc (Qd (Qd (Qa (Qb U U (Yv underlying108 U U U (Qf (Qc (QR U (Qs (Qc (Qd (Qa (Qb U U (Yu SK U U (Yt 0 hS func127 mc1 mc2 mc3 mc4 U U U ?_)))))))))))))))))))
 intro b9 w9 j9
 exact Ya SK U U (Qe U U (Qf (Qc (Qu (QY (.inr U) U U (⟨_,U,_,U,j9⟩))))))
theorem E3 {w:World} {p:Nat} {ul:List Bool} {F:Th} (hS:Sat w [DW p ul,F]):
    Calls prog 79 #[ptrV p 0] w (Ret fun v w'=> ∃p2,v=ptrV p2 0∧Sat w' [DW p2 ul,DW p ul,F]):= by
 obtain⟨hd,hS⟩:=hS.ex
 obtain⟨ob,cap,l,b1,b2,b3,g1,g2,g3,hul,hl4,hh0,hh1,hS⟩:=Ju hS
 refine Qm func79 U ntmps79 U ?_
 refine Qd (Qa (Qe U U (Qf (Qc (Qd ?_)))))
 have j1:=hS.drew
 refine QE [0,1,2,3,5,6,7,8,9,10,11,12,14,15,16,17,19,20,21,22,4,13,18,23,24,25,26] [4,13,18,23,25] Wa (by kernel_rfl) ?_
 refine Q9 U U U (Xi U U U (QQ U U U ZX (Q4 U U U (Ql U Jo (j1.cell 0 U U)) (Q9 U U U (Xi U U U (QQ U U U Y7 (Q4 U U U (Ql U QL (j1.cell 0 U U)) (Q9 U U U (Xi U U U (QQ U U U Vt (Q4 U U U (Ql U ZY (j1.cell 0 U U)) (Q9 U U U (Xi U U U (QQ U U U Ux (Q4 U U U (Ql U ZY (j1.cell 0 U U)) (Q9 U U U (Xi U U U (QQ U U U RO (Q4 U U U (Ql U ZY (j1.cell 0 U U)) (Xe U U U U U U ?_))))))))))))))))))))
 refine Qv cal_130 U (Sc (j1.sp [] U) (Ent.starL (Jn (C:=ckC) (by omega)) 1 U) (by omega)) U ?_
 rintro _ w2 j2
 replace j2:=j2.jn U U
 obtain⟨ca2,cc2,hcv2,_⟩:=j2.own_shape 0 rfl
 obtain rfl:=hcv2
 refine Xz (.cons (.inl ⟨rfl,(Ql U ZY (j2.cell 1 U U))⟩) (.cons (.inl ⟨rfl,(Ql U ZY (j2.cell 1 U U))⟩) (.cons (.inl ⟨rfl,(Ql U ZY (j2.cell 1 U U))⟩) (.cons (.inl ⟨rfl,(Ql U QL (j2.cell 1 U U))⟩) (Xj (by kernel_rfl)))))) ?_
 refine Xe U U U U U U ?_
 refine Qv TX U (UP (j2.sp [3] U)) U ?_
 rintro _ w3 ⟨nb1,rfl,j3⟩
 replace j3:=j3.jn U U
 refine Xz (.cons (.inl ⟨rfl,(Ql U ZY (j3.cell 3 U U))⟩) (.cons (.inl ⟨rfl,(Ql U ZY (j3.cell 3 U U))⟩) (.skip (by kernel_rfl) (.cons (.inl ⟨rfl,(Ql U QL (j3.cell 3 U U))⟩) (Xj (by kernel_rfl)))))) ?_
 refine Xe U U U U U U ?_
 refine Qv TX U (UP (j3.sp [5] U)) U ?_
 rintro _ w4 ⟨nb2,rfl,j4⟩
 replace j4:=j4.jn U U
 refine Xz (.cons (.inl ⟨rfl,(Ql U ZY (j4.cell 5 U U))⟩) (.skip (by kernel_rfl) (.skip (by kernel_rfl) (.cons (.inl ⟨rfl,(Ql U QL (j4.cell 5 U U))⟩) (Xj (by kernel_rfl)))))) ?_
 refine Xe U U U U U U ?_
 refine Qv TX U (UP (j4.sp [7] U)) U ?_
 rintro _ w5 ⟨nb3,rfl,j5⟩
 replace j5:=j5.jn U U
 refine Xz (.skip (by kernel_rfl) (.skip (by kernel_rfl) (.skip (by kernel_rfl) (.cons (.inl ⟨rfl,(Ql U QL (j5.cell 7 U U))⟩) (Xj (by kernel_rfl)))))) ?_
 refine QZ U U U (fun _=>(ZC U G8 FM EJ U)) ?_
 refine Xe U U U U U U ?_
 refine XR j5 U U U ?_
 intro bq wbq hSbq
 refine Xz (Xj (by kernel_rfl)) ?_
 refine XK U U U (VC.nil (Qc (Qh [2] U (Qu (QY (.inr U) U U ?_)))))
 have hq:=Zx hul hl4 hh0 hh1 (hSbq.pick [8,9,6,4,2,0,7,5,3,1,10] U)
 have hq2:=Zx hul hl4 hh0 hh1 (hq.reorder [1,2,3,4,5,0,6] U)
 exact⟨_,rfl,_,rfl,Sat.ex_intro (f:= fun h:Int=>GM _ ul h) hd ((Sat.ex_intro (f:= fun h:Int=>GM p ul h) hd (hq2.reorder [1,0,2] U)).reorder [1,0,2] U)⟩
theorem Lw {w:World} {p:Nat} {S:SS} {F:Th} (hS:Sat w [Yr p S,F]) {E:Int→Prop} {N:Nat} (hI:ShI E N S) (hN:N≤80000000000):
    Calls prog 28 #[ptrV p 0] w (Ret fun v w'=> ∃p2,v=ptrV p2 0∧Sat w' [Yr p2 S,Yr p S,F]):= by
 obtain⟨ba,bi,fp,sp,kp,ac,cc,at2,ct,hS⟩:=Zf hS
 refine Qm func28 U ntmps28 U ?_
 refine Qd (Qa (Qe U U (Qf (Qc (Qd (Qa (Qb U U (Qj U U (Xw U ag_117 Ah (by first | exact hS.blk 0 U) (Xv U) U U ?_)))))))))
 refine Xa hS EM U U ?_
 intro bq w1 j1
 (refine QG j1 U U Ah U (by rfl) (i:=0) U (by decide) ?_)
 intro w2 j3; dsimp only[List.set]at j3
 refine Qf (Qc (Qd ?_))
 have j4:=j3.drew
 refine QE [0,1,2,3,5,6,7,8,10,11,12,13,15,16,17,18,4,9,14,19,20,21,22,23,24,25,26,27] [4,9,14,19,21,23,25,27] Wa (by kernel_rfl) ?_
 refine Q9 U U U (Xi U U U (QQ U U U XI (Q4 U U U (Ql U Zs (j4.cell 1 U U)) (Q9 U U U (Xi U U U (QQ U U U YA (Q4 U U U (Ql U ZY (j4.cell 1 U U)) (Q9 U U U (Xi U U U (QQ U U U Wt (Q4 U U U (Ql U J5 (j4.cell 1 U U)) (Q9 U U U (Xi U U U (QQ U U U RP (Q4 U U U (Ql U J5 (j4.cell 1 U U)) (Xe U U U U U U ?_))))))))))))))))
 refine Qv cal_74 U (Sb (j4.sp [2] U)) U ?_
 rintro _ w5 ⟨nba,rfl,j5⟩
 replace j5:=j5.jn U U
 refine Xz (.cons (.inl ⟨rfl,(Ql U J5 (j5.cell 3 U U))⟩) (.cons (.inl ⟨rfl,(Ql U J5 (j5.cell 3 U U))⟩) (.cons (.inl ⟨rfl,(Ql U ZY (j5.cell 3 U U))⟩) (Xj (by kernel_rfl))))) ?_
 refine Xe U U U U U U ?_
 refine Qv TX U (UP (j5.sp [4] U)) U ?_
 rintro _ w6 ⟨nbi,rfl,j6⟩
 replace j6:=j6.jn U U
 refine Xz (.cons (.inl ⟨rfl,(Ql U J5 (j6.cell 5 U U))⟩) (.cons (.inl ⟨rfl,(Ql U J5 (j6.cell 5 U U))⟩) (Xj (by kernel_rfl)))) ?_
 refine Xe U U U U U U ?_
 refine Qv GN U (HA (j6.sp [] U) (Ent.starL (Jn (C:=inC) (by have :=hI.cln; have :=hI.tln;omega)) 6 U) (by have :=hI.cln; have :=hI.tln;omega)) U ?_
 rintro _ w7 j7
 replace j7:=j7.jn U U
 obtain⟨ca7,cc7,hcv7,_⟩:=j7.own_shape 0 rfl
 obtain rfl:=hcv7
 refine Xz (.cons (.inl ⟨rfl,(Ql U J5 (j7.cell 6 U U))⟩) (Xj (by kernel_rfl))) ?_
 refine Xe U U U U U U ?_
 refine Qv GN U (HA (j7.sp [] U) (Ent.starL (Jn (C:=inC) (by have :=hI.cln; have :=hI.tln;omega)) 11 U) (by have :=hI.cln; have :=hI.tln;omega)) U ?_
 rintro _ w8 j8
 replace j8:=j8.jn U U
 obtain⟨ca8,cc8,hcv8,_⟩:=j8.own_shape 0 rfl
 obtain rfl:=hcv8
 refine Xz (Xj (by kernel_rfl)) ?_
 refine QQ U U U XI (Xe U U U U U U ?_)
 (refine QV j8 U U sz_108 (by rfl) (i:=6) U (Xv U) ?_)
 intro w9 j10; dsimp only[List.set]at j10
 refine Zu (Xj (by kernel_rfl)) ?_
 refine QQ U U U YA (Xe U U U U U U ?_)
 (refine QV j10 U U Pq (by rfl) (i:=6) U (Xv U) ?_)
 intro w11 j12; dsimp only[List.set]at j12
 refine Zu (Xj (by kernel_rfl)) ?_
 refine QQ U U U Wt (Xe U U U U U U ?_)
 (refine QV j12 U U Vf (by rfl) (i:=6) U (Xv U) ?_)
 intro w13 j14; dsimp only[List.set]at j14
 refine Zu (Xj (by kernel_rfl)) ?_
 refine QQ U U U RP (Xe U U U U U U ?_)
 (refine QV j14 U U Vf (by rfl) (i:=6) U (Xv U) ?_)
 intro w15 j16; dsimp only[List.set]at j16
 refine Zu (Xj (by kernel_rfl)) ?_
 refine VC.nil (Qc (Qh [0,2,3] U (Qd ?_)))
 have j17:=j16.drew
 refine QE [0,1,2,3,5,6,7,8,10,11,12,13,4,9,14,15,16,17,18,19,20] [4,9,14,16,18,20] Wa (by kernel_rfl) ?_
 refine Q9 U U U (Xi U U U (QQ U U U W2 (Q4 U U U (Ql U YC (j17.cell 7 U U)) (Q9 U U U (Xi U U U (QQ U U U Yf (Q4 U U U (Ql U Uj (j17.cell 7 U U)) (Q9 U U U (Xi U U U (QQ U U U HN (Q4 U U U (Ql U V7 (j17.cell 7 U U)) (Xe U U U U U U ?_))))))))))))
 refine Qv cal_77 U (Ef (j17.sp [9] U)) U ?_
 rintro _ w18 ⟨nfr,rfl,j18⟩
 replace j18:=j18.jn U U
 refine Xz (.cons (.inl ⟨rfl,(Ql U V7 (j18.cell 9 U U))⟩) (.cons (.inl ⟨rfl,(Ql U Uj (j18.cell 9 U U))⟩) (Xj (by kernel_rfl)))) ?_
 refine Xe U U U U U U ?_
 refine Qv cal_78 U (Lg (j18.sp [11] U)) U ?_
 rintro _ w19 ⟨nsw,rfl,j19⟩
 replace j19:=j19.jn U U
 refine Xz (.cons (.inl ⟨rfl,(Ql U V7 (j19.cell 11 U U))⟩) (Xj (by kernel_rfl))) ?_
 refine Xe U U U U U U ?_
 refine Qv cal_79 U (E3 (j19.sp [13] U)) U ?_
 rintro _ w20 ⟨nck,rfl,j20⟩
 replace j20:=j20.jn U U
 refine Xz (Xj (by kernel_rfl)) ?_
 refine QQ U U U W2 (Xe U U U U U U ?_)
 (refine QV j20 U U sz_110 (by rfl) (i:=12) U (Xv U) ?_)
 intro w21 j22; dsimp only[List.set]at j22
 refine Zu (Xj (by kernel_rfl)) ?_
 refine QQ U U U Yf (Xe U U U U U U ?_)
 (refine QV j22 U U sz_112 (by rfl) (i:=12) U (Xv U) ?_)
 intro w23 j24; dsimp only[List.set]at j24
 refine Zu (Xj (by kernel_rfl)) ?_
 refine QQ U U U HN (Xe U U U U U U ?_)
 (refine QV j24 U U sz_114 (by rfl) (i:=12) U (Xv U) ?_)
 intro w25 j26; dsimp only[List.set]at j26
 refine Zu (Xj (by kernel_rfl)) ?_
 refine VC.nil (Qc (Qh [2,3] U (Qd (Qa (Qe U U (Qf (Qc (Qu (QY (.inr U) U U ?_)))))))))
 have hq:=Xh (S:=S) (j26.pick [13,11,9,14,5,3,1,15,12,10,8,7,4,2,0,6,16] U)
 have hq2:=Xh (S:=S) (hq.reorder [1,2,3,4,5,6,7,8,0,9] U)
 exact⟨_,U,_,U,hq2⟩
def Kq (count slots budget:Int):SS:=⟨fun _=>none, fun _=>none,[],List.replicate (min (max count 1) 256).toNat none,List.replicate (min (max slots 0) 4096).toNat [],List.replicate (min (max count 1) 256).toNat false,min (max slots 0) 4096,max budget 0,1,[]⟩
theorem Ot (count slots budget:Int):ShI Kp 0 (Kq count slots budget) where
  ck:= by simp [Kq]
  fr1:= by simp [Kq];omega
  fr2:= by simp [Kq];omega
  slo:= by simp [Kq];omega
  sl2:= by simp [Kq];omega
  bud:= by simp [Kq];omega
  nx1:= by simp [Kq]
  nx2:= by simp [Kq]
  ent:= fun h=> by cases h
  frm:= fun f j=>⟨fun h=>(by cases h), fun ⟨_,x,h,_⟩=>(by cases h)⟩
  frc:= fun _ h=> by cases h
  fru:= fun {f b} h=> by
    obtain⟨_,h⟩:=YL h
    have :(Kq count slots budget).fr=List.replicate (min (max count 1) 256).toNat none:=rfl
    rw[this,List.getElem?_replicate]at h
    split at h
    · cases h
    · cases h
  pck:= fun _ h=> by cases h
  cch:= fun h=> by cases h
  nod:=List.nodup_nil
  sum:= by show((0:Nat):Int)≤max budget 0;omega
  slt:= fun _ h=> by cases h
  slu:= fun {k p} h hp=> by
    have :(Kq count slots budget).sl=List.replicate (min (max slots 0) 4096).toNat []:=rfl
    rw[this,List.getElem?_replicate]at h
    split at h
    · cases h; exact absurd U hp
    · cases h
  sli:= fun _ _ h=> by cases h
  cln:=Nat.le_refl _
  tln:=Nat.le_refl _
theorem aG_nil:(fun _=>none:Int→Option Value)=aG (fun _=>none):=rfl
theorem Aw {w:World} {F:Th} (hS:Sat w [F]) (count slots budget:Int):
    Calls prog 15 #[intV count,intV slots,intV budget] w (Ret fun v w'=> ∃p,v=ptrV p 0∧Sat w' [Yr p (Kq count slots budget),F]):= by
 refine Qm func15 U ntmps15 U ?_
 refine Qd (Qa (Qe U U (Qf (Qc (Qd (Qa (Qb U U (YP U U U (U9 U U U (Qb U U (YP U U U (U9 U U U (Qe U U (Qe U U (Qf (Qc (Qd (Qa (Zi QN hS U ?_)))))))))))))))))))
 intro mb1 w1 j1; rw[aG_nil]at j1
 refine Zi QN j1 U ?_
 intro mb2 w2 j2; rw[RC]at j2
 refine Qb U U (Qv cal_57 U (OX (j2.sp [] U) (min (max count 1) 256)) U ?_)
 rintro _ w3 ⟨fpn,rfl,j3⟩
 replace j3:=j3.jn U U
 refine Qb U U (Qv cal_58 U (Ai (j3.sp [] U) (min (max slots 0) 4096)) U ?_)
 rintro _ w4 ⟨spn,rfl,j4⟩
 replace j4:=j4.jn U U
 refine Qb U U (Qv cal_59 U (I8 (j4.sp [] U) (min (max count 1) 256) (by omega)) U ?_)
 rintro _ w5 ⟨kpn,rfl,j5⟩
 replace j5:=j5.jn U U
 refine Qb U U (Qb U U (YP U U U (Zo U UH asz_117 EM U U (XR j5 U U U ?_))))
 intro bp wbp hSbp
 refine Qe U U (Qf (Qc (Qh [6] U (Qu (QY (.inr U) U U ?_)))))
 have hz:=(hSbp.pick [0,5,4,3,2,1,6] U).row_nil inC
 have hz2:=(hz.reorder [1,2,3,0,4,5,6,7] U).row_nil inC
 rw[show(min (max (min (max count 1) 256) 0) 4096).toNat=(min (max count 1) 256).toNat by omega]at hz2
 rw[show(max 0 (min (min (max slots 0) 4096) 4096)).toNat=(min (max slots 0) 4096).toNat by omega]at hz2
 exact⟨_,U,_,U,Xh (S:=Kq count slots budget) (hz2.reorder [1,2,3,4,5,6,7,0,8] U)⟩
structure BrS (T:Nat) (S S':SS) (id:Int) (k:Nat) (x:ShE):Prop where
  inv:ShI Kp (T+1) S'
  go:ShG S S'
  is:S'.all id=some ⟨x.refs,1,(k:Nat),x.pg⟩
theorem Gc {T:Nat} {S SL S1:SS} {id:Int} {k:Nat} {x:ShE} (h:ShI Kp T S) (hx:S.all id=some x) (hp:x.place≠1) (hL:SL.all=S.all∧SL.taken=S.taken∧SL.budget=S.budget∧SL.slots=S.slots∧SL.fr=S.fr∧SL.next=S.next) (hg:GetS (one id) (T+1) k SL S1):BrS T S (onF S1 id k x.refs x.pg S1.next) id k x:= by
  obtain⟨e1,e2,e3,e4,e5,e6⟩:=hL
  obtain⟨a1,a2,a3,a4,a5,a6⟩:=h.ent hx
  have hgo:ShG S SL:=⟨fun j=> by rw[e1],⟨[], by rw[e2]; simp, fun j y hy hp1=> .inr ⟨y, by rw[e1]; exact hy,hp1,rfl⟩⟩,e3,e4, by rw[e5],e6⟩
  have hgo2:=hgo.trans hg.go
  have hx1:=hg.lim id x (by rw[e1]; exact hx) U
  obtain⟨b1,b2,b3,b4,b5,b6⟩:=hg.inv.ent hx1
  have h3:=hg.inv.onFrame (j:=id) (nx:=S1.next) (r:=x.refs) (pg:=x.pg) U hg.fr a1 (by omega) hg.inv.nx2 b2 ⟨b3,b4⟩ a5
  have hf:=ShF.on (j:=id) (k:=k) (r:=x.refs) (pg:=x.pg) (nx:=S1.next) hgo2 (fun y hy=> by rw[hx]at hy; cases hy; exact hp)
  refine⟨h3.congr fun i _=>⟨fun ⟨a,b⟩=>b a,False.elim⟩,⟨fun j=> ?_,hf.tk,hf.bud,hf.slo,hf.frn,hgo2.nxt⟩,Ze⟩
  show(up S1.all id _ j).map _=_
  by_cases q:j=id
  · subst q; rw[Ze,hx];rfl
  · rw[Zv q]; exact hgo2.same j
theorem H8 {w:World} {eb ob sb p:Nat} {ev:Int} {ov:Value} {a0 a1 a2 a3 a4 a5 a6 a7 a8 a9:Value} {F:Th} (h1:ov.oneCell'=true) (hS:Sat w [Q8 eb [intV ev],Q8 ob [ov],Q8 sb [ptrV p 0],Q8 p [a0,a1,a2,a3,a4,a5,a6,a7,a8,a9],F]):
    CallsD prog 158 #[ptrV eb 0,ptrV ob 0,ptrV sb 0] .returning w (fun e u' w'=>u'= .returning∧Ret (fun v w'=> if ev=0 then Sat w' [Q8 eb [intV ev],Q8 ob [ov],Q8 sb [ptrV p 0],Q8 p [a0,a1,a2,a3,a4,a5,a6,a7,a8,a9],F]else Sat w' [Q8 eb [intV ev],Q8 ob [ov],Q8 sb [ptrV p 0],Q8 p [a0,a1,ov,a3,a4,a5,a6,a7,a8,a9],F]) e w'):= by
  refine TV func158 U ntmps158 U ?_
  refine Qd (Qa (Qr U Gi (hS.cell 0 U U) U (XC U U U (Qf (Qc (Qt U (fun h1=> ?_) (fun h1=> ?_)))))))
  · skip
    refine Qa (Qr U Xy (hS.cell 2 U U) U (Qr U J5 (hS.cell 1 U U) U (Qj U U (Qg U Wt U ?_))))
    (refine QV hS U U Vf (by assumption) (i:=3) U (Xv U) ?_)
    intro w2 j3; dsimp only[List.set]at j3
    refine Qf (ZU (.inl U) U ?_)
    exact⟨_,rfl, by dsimp only; rw[if_neg (by omega)]; exact j3⟩
  refine Qs (ZU (.inl U) U ?_)
  exact⟨_,rfl, by dsimp only; rw[if_pos (by omega)]; exact hS⟩
theorem VT {P:Program} {n:Nat} {L:Env} {w:World} {fn:Func} {r r2:ResultVar} {v v2:Value} (hf:fn.results= #[r,r2]) (hv:Vl P n L w r v) (hv2:Vl P n L w r2 v2) (a:Act) (ha:Fr n L a):(results fn a.tmps).run P w= .ok (.tuple #[v,v2]) w:= by rw[UC,hf]; simp [hv a ha,hv2 a ha]
