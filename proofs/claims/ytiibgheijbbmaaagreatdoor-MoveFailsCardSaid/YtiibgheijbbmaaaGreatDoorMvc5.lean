/- the law: MoveFails -/
import Derived.Test.YtiibgheijbbmaaaGreatDoorMvc1
set_option linter.unusedVariables false
set_option maxRecDepth 100000
set_option maxHeartbeats 4000000
namespace Go.Proofs.YtiibgheijbbmaaaGreatDoor
open Go.RowKit M Proofs.Tryz
theorem O2 {F:Th}:Ent F (RdI (.slice none 0 0) []):= fun _=>⟨none,0,rfl, by simp, fun i x h=> by cases h⟩
def OY (X:TwD):Nat→TwD
  | 0=>X
  | 1=>Ob X
  | _=>OI X
theorem OU {w:World} {F:Th} (hS:Sat w [F]) (hG:Ent F WireG) (hO:Ent F (Glob 0)) {t:Bs} {sv:Value} {sl:AL Bs} (hL:Ent F (RdL shC sv sl)) {lv:Value} {l:List OpX} (hP:Ent F (OpsRd lv l)) (hR: ∀x∈l,X4 x.o.id):
    Calls prog 4 #[.agg #[strV t,sv],lv] w (Ret fun v w'=>v= .bool true∧Sat w' [F]):= by
 obtain⟨ao,cap,rfl,hmax⟩:=(hP.sat hS 0 rfl).shape
 refine Qy func4 Qa ntmps4 Qa ?_
 refine Qf (Qb (Za hS Qa Qa Qa ?_))
 intro bp w1 j10
 have j1:Sat w1 [Xb bp [strV t,sv],F]:=j10
 refine Qc Qa Qa (Qh (Qd (Qf (Qb (Q0 cal_7 Qa (FA (j1.sp [] Qa) (hG.starL 1 Qa) (hO.starL 1 Qa)) Qa ?_)))))
 rintro _ w2 ⟨rfl,j2⟩
 replace j2:=j2.jn Qa Qa
 refine Qc Qa Qa (Qh (Qd (Qf (Qf (Qb (Qe Qa Qa (Q0 cal_8 Qa (lfew_sp (j2.sp [] Qa) (hP.starL 1 Qa) 100) Qa ?_)))))))
 rintro _ w3 ⟨rfl,j3⟩
 replace j3:=j3.jn Qa Qa
 refine XN Qa Qa (Qe Qa Qa (ZO 22 Qa (fun h4=> ?_) (fun h4=> ?_)))
 ·refine Qg Qa Qa h4 Qa (Qg Qa Qa h4 Qa (Qg Qa Qa h4 Qa (Q1 Qa h4 Qa Qa (Qh (Qd (Qk [1,2,4,5,26] Qa (QP Qa (Qf (Qb (Qe Qa Qa (Qc Qa Qa (Qh (Qd (Qo (Qm (Q5 (.inr Qa) Qa Qa ?_))))))))))))))))
  exact⟨_,rfl, by first | rfl | simp,j3.pick [1] Qa⟩
 have hfw0:Nj l 100=true:= by simpa using h4
 refine Qj Qa Qa h4 ?_
 refine Jd Qa Mw DP (by first | exact j3.blk 0 Qa) (by first | decide | exact QC Qa | (simp;done) | omega) Qa Qa ?_
 refine Qj Qa Qa h4 (Q0 cal_9 Qa (FC (j3.sp [] Qa) (hL.starL 1 Qa)) Qa ?_)
 rintro _ w5 ⟨rfl,j5⟩
 replace j5:=j5.jn Qa Qa
 refine Qj Qa Qa h4 (XN Qa Qa (Q3 Qa h4 Qa Qa (Qh (Qd (Qk [1,2,4,5,26] Qa (QZ Qa (fun h6=> ?_) (fun h6=> ?_)))))))
 ·refine Qf (Qb (Qe Qa Qa (Qc Qa Qa (Qh (Qd (Qo (Qm (Q5 (.inr Qa) Qa Qa ?_))))))))
  exact⟨_,rfl, by first | rfl | simp,j5.pick [1] Qa⟩
 have hfw:=fewB_of hfw0
 have hrl:RT ⟨t,sl⟩=true:= by simpa using h6
 have hri:Zb ⟨t,sl⟩=true:= by unfold RT at hrl; simp only[Bool.and_eq_true]at hrl; exact hrl.1.1
 refine Qt (Qd (Qf (Qb ?_)))
 refine Jd Qa Mw DP (by first | exact j5.blk 0 Qa) (by first | decide | exact QC Qa | (simp;done) | omega) Qa Qa ?_
 refine Q0 cal_10 Qa (FI (j5.sp [] Qa) (hG.starL 1 Qa) (hO.starL 1 Qa) (hL.starL 1 Qa)) Qa ?_
 rintro _ w7 ⟨x0,rfl,j7⟩
 replace j7:=j7.jn Qa Qa
 refine Qc Qa Qa (Qh (Qd (Qf (Qf (Qb (Qe Qa Qa (ZG underlying29 Qa Qa Qa (Qh (Qd (QJ Qa (Qt (Qd (Qf (Qf (Qb (Qc Qa Qa (Qh (Qd (Qk [1,2,4,5,6,7] Qa (QK ?_))))))))))))))))))))
 refine XJ (fun K0 E0 W0=> ∃(i:Nat) (X:TwD),K0=l.length -i∧E0=[(1,.slice ao l.length cap),(2,ptrV bp 0),(5,.bool true),(6,ptrV x0 0),(7,intV (i:Int))]∧Sat W0 [Dv x0 X,Xb bp [strV t,sv],F]∧(i≤l.length)∧(INV X ((i:Int)+1))∧(XW X)) (L0:=[(1,_),(2,_),(5,_),(6,_),(7,_)]) (l.length -0) (NC Qa Qa Qa Qa Qa) ⟨0,_,rfl,rfl,j7.pick [0,1,2] Qa, by omega,(Lo hri).2,⟨new_W.begin,new_W,(fun p q=> by cases q), by simp⟩⟩ ?_
 rintro _ _ w8 ⟨i,X,rfl,rfl,j8,hi,hI,hX⟩
 have hm0:X.a.move≤max ((i:Int)+1) 0:=hI.mv hX false
 have hm1:X.b.move≤max ((i:Int)+1) 0:=hI.mv hX true
 have hmA:X4 (X.a.move+1):= by have h0:=hX.a.km;unfold X4;omega
 have hmB:X4 (X.b.move+1):= by have h0:=hX.b.km;unfold X4;omega
 refine Qf (Qf (Qb (Qe Qa Qa (Qe Qa Qa (Xm underlying25 Qa Qa (X5 Qa Qa Qa (Qh (Qd (Qv Qa (fun h9=> ?_) (fun h9=> ?_))))))))))
 ·obtain⟨x,hx⟩: ∃x,l[i]? =some x:=⟨_,WY (by omega)⟩
  obtain⟨⟨ob9,off,rfl,hc⟩,hrd⟩:=(hP.sat j8 2 rfl).get hx
  have hxm:=List.mem_of_getElem? hx
  have hox:=hfw.1 x hxm
  have E6:=hR x hxm
  unfold X4 at E6
  refine Qt (Qd (Qf (QK (Qb (Qe Qa Qa (Qe Qa Qa (Qe Qa Qa (XZ i Qa Qa (by first | rfl | omega) (by omega) EX Qa ?_))))))))
  refine YO Qa ag_35 sz_35 (vs:=opV x) hc Qa (Q0 cal_11 Qa (Ep (j8.sp [0] Qa) (hG.starL 1 Qa) (hO.starL 1 Qa) hX (o:=x.o) (kv:=x.kv) (Ent.starL (RdX.elem hP hx) 1 Qa) (by omega) (by omega) hmA hmB) Qa ?_)
  rintro _ w10 ⟨rfl,j10⟩
  replace j10:=j10.jn Qa Qa
  have hI2:INV (Zc X x.o).2 (((i+1:Nat):Int)+1):= by have q:=LF hI (by omega) x.o; rw[show((i+1:Nat):Int)+1=(i:Int)+1+1 by omega]; exact q
  have hX2:XW (Zc X x.o).2:=hX.step (fun j=> by cases j; exact hmA; exact hmB) x.o
  refine Qh (Qq (Qd (Qk [7,6,5,2,1] Qa (Qb (Qe Qa Qa (XC Qa Qa (by omega) (by omega) Qa ?_))))))
  refine Qc Qa Qa (Qh ?_)
  exact Xj (L1:=[(1,_),(2,_),(5,_),(6,_),(7,intV ((i+1:Nat):Int))]) (NC Qa Qa Qa Qa Qa) (k1:=l.length -(i+1)) (by omega) ⟨i+1,_,rfl,rfl,j10.pick [0,1,2] Qa, by omega,hI2,hX2⟩
 refine X6 (Q6 (Q6 (QR (Qd (Qf (Qf (Qb (Qc Qa Qa (Qh (Qd (QK ?_)))))))))))
 obtain⟨R1,R2,R3,R4⟩:=OQ hI hX
 obtain⟨S1,S2,S3,S4,S5⟩:=OP hI hX
 refine XJ (fun K0 E0 W0=> ∃(k:Nat),K0=2 -k∧E0=[(1,.slice ao l.length cap),(2,ptrV bp 0),(5,.bool true),(6,ptrV x0 0),(8,intV (k:Int))]∧Sat W0 [Dv x0 (OY X k),Xb bp [strV t,sv],F]∧(k≤2)) (L0:=[(1,_),(2,_),(5,_),(6,_),(8,_)]) (2 -0) (NC Qa Qa Qa Qa Qa) ⟨0,rfl,rfl,j8.pick [0,1,2] Qa, by omega⟩ ?_
 rintro _ _ w11 ⟨k,rfl,rfl,j11,hk2⟩
 refine Qf (Qf (Qb (Qe Qa Qa (X5 Qa Qa Qa (Qh (Qd (Qv Qa (fun h12=> ?_) (fun h12=> ?_))))))))
 ·refine Qt (Qd (Qf (QK (Qf (Qb (Qe Qa Qa ?_))))))
  rcases(by omega:k=0∨k=1)with rfl | rfl
  ·replace j11:Sat _ (Dv x0 (X)::_):=j11
   obtain⟨eb,ecap,a,b,p,j13⟩:=HN (j11.pick [0,1,2] rfl)
   refine Ql Qa Qa (Qi Qa Wc Qa (Qr Qa Jx (by first | assumption | exact j13.cell 0 Qa Qa | exact j13.cell 5 Qa Qa) Qa ?_))
   refine Qe Qa Qa (Wj RV 1 0 j13 Qa Qa Qa (by first | rfl | omega) (show[a,b][0]? =some a from rfl) Ym Qa ?_)
   intro bx15 capx15 hvx15
   refine W8 1 0 0 j13 Qa hvx15 Qa Qa (show[a,b][0]? =some a from rfl) J5 Qa Qa (Q0 AD Qa (Nu (j13.sp [2] Qa) 0 (by decide)) Qa ?_)
   rintro _ w16 ⟨rfl,j16⟩
   replace j16:=j16.jn Qa Qa
   refine Qh (Qd (Qk [8,6,5,2,1] Qa (Qf (Qb (Qe Qa Qa (Ql Qa Qa (Qi Qa Wc Qa (Qr Qa Jx (by first | assumption | exact j16.cell 1 Qa Qa | exact j16.cell 5 Qa Qa) Qa ?_))))))))
   refine Qe Qa Qa (Wj RV 2 0 j16 Qa Qa Qa (by first | rfl | omega) (show[a,b][0]? =some a from rfl) Ym Qa ?_)
   intro bx17 capx17 hvx17
   refine W8 2 0 0 j16 Qa hvx17 Qa Qa (show[a,b][0]? =some a from rfl) J5 Qa Qa (Q0 AC Qa (S6 (j16.sp [0] Qa) O2 0 (by decide) (by simp)) Qa ?_)
   rintro _ w18 ⟨rfl,j18⟩
   replace j18:=j18.jn Qa Qa
   refine Qh (Qd (Qk [8,6,5,2,1] Qa (Qf (Qf (Qb (Qe Qa Qa (Ql Qa Qa (Qi Qa Wc Qa (Qr Qa Jx (by first | assumption | exact j18.cell 1 Qa Qa | exact j18.cell 5 Qa Qa) Qa ?_)))))))))
   refine Qe Qa Qa (Wj RV 2 0 j18 Qa Qa Qa (by first | rfl | omega) (show[a,b][0]? =some a from rfl) Ym Qa ?_)
   intro bx19 capx19 hvx19
   refine W8 2 0 0 j18 Qa hvx19 Qa Qa (show[a,b][0]? =some a from rfl) J5 Qa Qa (Q0 KK Qa (B9 (E:=AW X.a) (j18.sp [0] Qa)) Qa ?_)
   rintro _ w20 ⟨rfl,j20⟩
   replace j20:=j20.jn Qa Qa
   refine XN Qa Qa (Qe Qa Qa (ZO 73 Qa (fun h21=> ?_) (fun h21=> ?_)))
   ·have hdn:upE (AW X.a)=false:= by simpa using h21
    refine Qj Qa Qa h21 (Qe Qa Qa (Qj Qa Qa h21 (Ql Qa Qa (Qj Qa Qa h21 (Qi Qa Wc Qa (Qj Qa Qa h21 (Qr Qa Jx (by first | assumption | exact j20.cell 1 Qa Qa | exact j20.cell 5 Qa Qa) Qa ?_)))))))
    refine Qj Qa Qa h21 (Qe Qa Qa (Qj Qa Qa h21 (Wj RV 2 0 j20 Qa Qa Qa (by first | rfl | omega) (show[a,b][0]? =some a from rfl) Ym Qa ?_)))
    intro bx22 capx22 hvx22
    refine Qj Qa Qa h21 (W8 2 0 0 j20 Qa hvx22 Qa Qa (show[a,b][0]? =some a from rfl) J5 Qa Qa (Qj Qa Qa h21 (Q0 T7 Qa (Kc (E:=AW X.a) (j20.sp [0] Qa) (hG.starL 5 Qa) (hO.starL 5 Qa)) Qa ?_)))
    rintro _ w23 ⟨rfl,j23⟩
    replace j23:=j23.jn Qa Qa
    rw[R4 hdn]
    refine Qj Qa Qa h21 (Xu Qa Qa Qa (Q1 Qa h21 Qa Qa (Qh (Qd (Qk [8,6,5,2,1,83] Qa (Qv Qa (fun h24=> ?_) (fun h24=> ?_)))))))
    ·(exfalso; have q9:=h24; simp at q9)
    refine Qt (Qd (Qf (Qb (Qe Qa Qa (Ql Qa Qa (Qi Qa Wc Qa (Qr Qa Jx (by first | assumption | exact j23.cell 1 Qa Qa | exact j23.cell 5 Qa Qa) Qa ?_)))))))
    refine Qe Qa Qa (Wj RV 2 0 j23 Qa Qa Qa (by first | rfl | omega) (show[a,b][0]? =some a from rfl) Ym Qa ?_)
    intro bx25 capx25 hvx25
    refine W8 2 0 0 j23 Qa hvx25 Qa Qa (show[a,b][0]? =some a from rfl) J5 Qa Qa (Q0 AD Qa (Nu (j23.sp [0] Qa) 0 (by decide)) Qa ?_)
    rintro _ w26 ⟨rfl,j26⟩
    replace j26:=j26.jn Qa Qa
    refine Qh (Qd (Qk [8,6,5,2,1] Qa (Qb (Qe Qa Qa (Ql Qa Qa (Qi Qa Wc Qa (Qr Qa Jx (by first | assumption | exact j26.cell 1 Qa Qa | exact j26.cell 5 Qa Qa) Qa ?_)))))))
    refine Qe Qa Qa (Wj RV 2 0 j26 Qa Qa Qa (by first | rfl | omega) (show[a,b][0]? =some a from rfl) Ym Qa ?_)
    intro bx27 capx27 hvx27
    refine W8 2 0 0 j26 Qa hvx27 Qa Qa (show[a,b][0]? =some a from rfl) J5 Qa Qa (Q0 AC Qa (S6 (j26.sp [0] Qa) O2 0 (by decide) (by simp)) Qa ?_)
    rintro _ w28 ⟨rfl,j28⟩
    replace j28:=j28.jn Qa Qa
    refine Qh ?_
    have hrv:Oi X.a=AW ((ZU (AW X.a)).2):= by unfold Oi; rw[if_neg (by rw[hdn];decide)]
    have j29:=QW (X:={X with a:=AW ((ZU (AW X.a)).2)}) (j28.pick [1,2,0,3,4,5,6] Qa)
    rw[←hrv]at j29
    replace j29:Sat _ (Dv x0 (OY X (0+1))::_):=j29
    refine Qq (Qd (Qk [8,6,5,2,1] Qa (Qb (Qe Qa Qa (XC Qa Qa (by omega) (by omega) Qa ?_)))))
    refine Qc Qa Qa (Qh ?_)
    exact Xj (L1:=[(1,_),(2,_),(5,_),(6,_),(8,intV ((0+1:Nat):Int))]) (NC Qa Qa Qa Qa Qa) (k1:=2 -(0+1)) (by omega) ⟨0+1,rfl,rfl,j29.pick [0,1,2] Qa, by omega⟩
   have hup9:upE (AW X.a)=true:= by simpa using h21
   refine Qg Qa Qa h21 Qa (Qg Qa Qa h21 Qa (Qg Qa Qa h21 Qa (Qg Qa Qa h21 Qa (Qg Qa Qa h21 Qa (Qg Qa Qa h21 Qa (Qg Qa Qa h21 Qa (Qg Qa Qa h21 Qa (Qg Qa Qa h21 Qa (Q3 Qa h21 Qa Qa (Qh (Qd (Qk [8,6,5,2,1,83] Qa (QJ Qa (Qt (Qd (Qf (Qb (Qe Qa Qa (Ql Qa Qa (Qi Qa Wc Qa (Qr Qa Jx (by first | assumption | exact j20.cell 1 Qa Qa | exact j20.cell 5 Qa Qa) Qa ?_)))))))))))))))))))))
   refine Qe Qa Qa (Wj RV 2 0 j20 Qa Qa Qa (by first | rfl | omega) (show[a,b][0]? =some a from rfl) Ym Qa ?_)
   intro bx30 capx30 hvx30
   refine W8 2 0 0 j20 Qa hvx30 Qa Qa (show[a,b][0]? =some a from rfl) J5 Qa Qa (Q0 AD Qa (Nu (j20.sp [0] Qa) 0 (by decide)) Qa ?_)
   rintro _ w31 ⟨rfl,j31⟩
   replace j31:=j31.jn Qa Qa
   refine Qh (Qd (Qk [8,6,5,2,1] Qa (Qb (Qe Qa Qa (Ql Qa Qa (Qi Qa Wc Qa (Qr Qa Jx (by first | assumption | exact j31.cell 1 Qa Qa | exact j31.cell 5 Qa Qa) Qa ?_)))))))
   refine Qe Qa Qa (Wj RV 2 0 j31 Qa Qa Qa (by first | rfl | omega) (show[a,b][0]? =some a from rfl) Ym Qa ?_)
   intro bx32 capx32 hvx32
   refine W8 2 0 0 j31 Qa hvx32 Qa Qa (show[a,b][0]? =some a from rfl) J5 Qa Qa (Q0 AC Qa (S6 (j31.sp [0] Qa) O2 0 (by decide) (by simp)) Qa ?_)
   rintro _ w33 ⟨rfl,j33⟩
   replace j33:=j33.jn Qa Qa
   refine Qh ?_
   have hrv:Oi X.a=AW (AW X.a):= by unfold Oi; rw[if_pos hup9]
   have j34:=QW (X:={X with a:=AW (AW X.a)}) (j33.pick [1,2,0,3,4,5,6] Qa)
   rw[←hrv]at j34
   replace j34:Sat _ (Dv x0 (OY X (0+1))::_):=j34
   refine Qq (Qd (Qk [8,6,5,2,1] Qa (Qb (Qe Qa Qa (XC Qa Qa (by omega) (by omega) Qa ?_)))))
   refine Qc Qa Qa (Qh ?_)
   exact Xj (L1:=[(1,_),(2,_),(5,_),(6,_),(8,intV ((0+1:Nat):Int))]) (NC Qa Qa Qa Qa Qa) (k1:=2 -(0+1)) (by omega) ⟨0+1,rfl,rfl,j34.pick [0,1,2] Qa, by omega⟩
  replace j11:Sat _ (Dv x0 (Ob X)::_):=j11
  obtain⟨eb,ecap,a,b,p,j14⟩:=HN (j11.pick [0,1,2] rfl)
  refine Ql Qa Qa (Qi Qa Wc Qa (Qr Qa Jx (by first | assumption | exact j14.cell 0 Qa Qa | exact j14.cell 5 Qa Qa) Qa ?_))
  refine Qe Qa Qa (Wj RV 1 1 j14 Qa Qa Qa (by first | rfl | omega) (show[a,b][1]? =some b from rfl) Ym Qa ?_)
  intro bx35 capx35 hvx35
  refine W8 1 1 0 j14 Qa hvx35 Qa Qa (show[a,b][1]? =some b from rfl) J5 Qa Qa (Q0 AD Qa (Nu (j14.sp [3] Qa) 0 (by decide)) Qa ?_)
  rintro _ w36 ⟨rfl,j36⟩
  replace j36:=j36.jn Qa Qa
  refine Qh (Qd (Qk [8,6,5,2,1] Qa (Qf (Qb (Qe Qa Qa (Ql Qa Qa (Qi Qa Wc Qa (Qr Qa Jx (by first | assumption | exact j36.cell 1 Qa Qa | exact j36.cell 5 Qa Qa) Qa ?_))))))))
  refine Qe Qa Qa (Wj RV 2 1 j36 Qa Qa Qa (by first | rfl | omega) (show[a,b][1]? =some b from rfl) Ym Qa ?_)
  intro bx37 capx37 hvx37
  refine W8 2 1 0 j36 Qa hvx37 Qa Qa (show[a,b][1]? =some b from rfl) J5 Qa Qa (Q0 AC Qa (S6 (j36.sp [0] Qa) O2 0 (by decide) (by simp)) Qa ?_)
  rintro _ w38 ⟨rfl,j38⟩
  replace j38:=j38.jn Qa Qa
  refine Qh (Qd (Qk [8,6,5,2,1] Qa (Qf (Qf (Qb (Qe Qa Qa (Ql Qa Qa (Qi Qa Wc Qa (Qr Qa Jx (by first | assumption | exact j38.cell 1 Qa Qa | exact j38.cell 5 Qa Qa) Qa ?_)))))))))
  refine Qe Qa Qa (Wj RV 2 1 j38 Qa Qa Qa (by first | rfl | omega) (show[a,b][1]? =some b from rfl) Ym Qa ?_)
  intro bx39 capx39 hvx39
  refine W8 2 1 0 j38 Qa hvx39 Qa Qa (show[a,b][1]? =some b from rfl) J5 Qa Qa (Q0 KK Qa (B9 (E:=AW (Ob X).b) (j38.sp [0] Qa)) Qa ?_)
  rintro _ w40 ⟨rfl,j40⟩
  replace j40:=j40.jn Qa Qa
  refine XN Qa Qa (Qe Qa Qa (ZO 73 Qa (fun h41=> ?_) (fun h41=> ?_)))
  ·have hdn:upE (AW (Ob X).b)=false:= by simpa using h41
   refine Qj Qa Qa h41 (Qe Qa Qa (Qj Qa Qa h41 (Ql Qa Qa (Qj Qa Qa h41 (Qi Qa Wc Qa (Qj Qa Qa h41 (Qr Qa Jx (by first | assumption | exact j40.cell 1 Qa Qa | exact j40.cell 5 Qa Qa) Qa ?_)))))))
   refine Qj Qa Qa h41 (Qe Qa Qa (Qj Qa Qa h41 (Wj RV 2 1 j40 Qa Qa Qa (by first | rfl | omega) (show[a,b][1]? =some b from rfl) Ym Qa ?_)))
   intro bx42 capx42 hvx42
   refine Qj Qa Qa h41 (W8 2 1 0 j40 Qa hvx42 Qa Qa (show[a,b][1]? =some b from rfl) J5 Qa Qa (Qj Qa Qa h41 (Q0 T7 Qa (Kc (E:=AW (Ob X).b) (j40.sp [0] Qa) (hG.starL 5 Qa) (hO.starL 5 Qa)) Qa ?_)))
   rintro _ w43 ⟨rfl,j43⟩
   replace j43:=j43.jn Qa Qa
   rw[S5 hdn]
   refine Qj Qa Qa h41 (Xu Qa Qa Qa (Q1 Qa h41 Qa Qa (Qh (Qd (Qk [8,6,5,2,1,83] Qa (Qv Qa (fun h44=> ?_) (fun h44=> ?_)))))))
   ·(exfalso; have q9:=h44; simp at q9)
   refine Qt (Qd (Qf (Qb (Qe Qa Qa (Ql Qa Qa (Qi Qa Wc Qa (Qr Qa Jx (by first | assumption | exact j43.cell 1 Qa Qa | exact j43.cell 5 Qa Qa) Qa ?_)))))))
   refine Qe Qa Qa (Wj RV 2 1 j43 Qa Qa Qa (by first | rfl | omega) (show[a,b][1]? =some b from rfl) Ym Qa ?_)
   intro bx45 capx45 hvx45
   refine W8 2 1 0 j43 Qa hvx45 Qa Qa (show[a,b][1]? =some b from rfl) J5 Qa Qa (Q0 AD Qa (Nu (j43.sp [0] Qa) 0 (by decide)) Qa ?_)
   rintro _ w46 ⟨rfl,j46⟩
   replace j46:=j46.jn Qa Qa
   refine Qh (Qd (Qk [8,6,5,2,1] Qa (Qb (Qe Qa Qa (Ql Qa Qa (Qi Qa Wc Qa (Qr Qa Jx (by first | assumption | exact j46.cell 1 Qa Qa | exact j46.cell 5 Qa Qa) Qa ?_)))))))
   refine Qe Qa Qa (Wj RV 2 1 j46 Qa Qa Qa (by first | rfl | omega) (show[a,b][1]? =some b from rfl) Ym Qa ?_)
   intro bx47 capx47 hvx47
   refine W8 2 1 0 j46 Qa hvx47 Qa Qa (show[a,b][1]? =some b from rfl) J5 Qa Qa (Q0 AC Qa (S6 (j46.sp [0] Qa) O2 0 (by decide) (by simp)) Qa ?_)
   rintro _ w48 ⟨rfl,j48⟩
   replace j48:=j48.jn Qa Qa
   refine Qh ?_
   have hrv:Oi (Ob X).b=AW ((ZU (AW (Ob X).b)).2):= by unfold Oi; rw[if_neg (by rw[hdn];decide)]
   have j49:=QW (X:={Ob X with b:=AW ((ZU (AW (Ob X).b)).2)}) (j48.pick [1,2,3,0,4,5,6] Qa)
   rw[←hrv]at j49
   replace j49:Sat _ (Dv x0 (OY X (1+1))::_):=j49
   refine Qq (Qd (Qk [8,6,5,2,1] Qa (Qb (Qe Qa Qa (XC Qa Qa (by omega) (by omega) Qa ?_)))))
   refine Qc Qa Qa (Qh ?_)
   exact Xj (L1:=[(1,_),(2,_),(5,_),(6,_),(8,intV ((1+1:Nat):Int))]) (NC Qa Qa Qa Qa Qa) (k1:=2 -(1+1)) (by omega) ⟨1+1,rfl,rfl,j49.pick [0,1,2] Qa, by omega⟩
  have hup9:upE (AW (Ob X).b)=true:= by simpa using h41
  refine Qg Qa Qa h41 Qa (Qg Qa Qa h41 Qa (Qg Qa Qa h41 Qa (Qg Qa Qa h41 Qa (Qg Qa Qa h41 Qa (Qg Qa Qa h41 Qa (Qg Qa Qa h41 Qa (Qg Qa Qa h41 Qa (Qg Qa Qa h41 Qa (Q3 Qa h41 Qa Qa (Qh (Qd (Qk [8,6,5,2,1,83] Qa (QJ Qa (Qt (Qd (Qf (Qb (Qe Qa Qa (Ql Qa Qa (Qi Qa Wc Qa (Qr Qa Jx (by first | assumption | exact j40.cell 1 Qa Qa | exact j40.cell 5 Qa Qa) Qa ?_)))))))))))))))))))))
  refine Qe Qa Qa (Wj RV 2 1 j40 Qa Qa Qa (by first | rfl | omega) (show[a,b][1]? =some b from rfl) Ym Qa ?_)
  intro bx50 capx50 hvx50
  refine W8 2 1 0 j40 Qa hvx50 Qa Qa (show[a,b][1]? =some b from rfl) J5 Qa Qa (Q0 AD Qa (Nu (j40.sp [0] Qa) 0 (by decide)) Qa ?_)
  rintro _ w51 ⟨rfl,j51⟩
  replace j51:=j51.jn Qa Qa
  refine Qh (Qd (Qk [8,6,5,2,1] Qa (Qb (Qe Qa Qa (Ql Qa Qa (Qi Qa Wc Qa (Qr Qa Jx (by first | assumption | exact j51.cell 1 Qa Qa | exact j51.cell 5 Qa Qa) Qa ?_)))))))
  refine Qe Qa Qa (Wj RV 2 1 j51 Qa Qa Qa (by first | rfl | omega) (show[a,b][1]? =some b from rfl) Ym Qa ?_)
  intro bx52 capx52 hvx52
  refine W8 2 1 0 j51 Qa hvx52 Qa Qa (show[a,b][1]? =some b from rfl) J5 Qa Qa (Q0 AC Qa (S6 (j51.sp [0] Qa) O2 0 (by decide) (by simp)) Qa ?_)
  rintro _ w53 ⟨rfl,j53⟩
  replace j53:=j53.jn Qa Qa
  refine Qh ?_
  have hrv:Oi (Ob X).b=AW (AW (Ob X).b):= by unfold Oi; rw[if_pos hup9]
  have j54:=QW (X:={Ob X with b:=AW (AW (Ob X).b)}) (j53.pick [1,2,3,0,4,5,6] Qa)
  rw[←hrv]at j54
  replace j54:Sat _ (Dv x0 (OY X (1+1))::_):=j54
  refine Qq (Qd (Qk [8,6,5,2,1] Qa (Qb (Qe Qa Qa (XC Qa Qa (by omega) (by omega) Qa ?_)))))
  refine Qc Qa Qa (Qh ?_)
  exact Xj (L1:=[(1,_),(2,_),(5,_),(6,_),(8,intV ((1+1:Nat):Int))]) (NC Qa Qa Qa Qa Qa) (k1:=2 -(1+1)) (by omega) ⟨1+1,rfl,rfl,j54.pick [0,1,2] Qa, by omega⟩
 refine X6 (Q6 (Q6 (QR (Qd (Qf ?_)))))
 rw[show k=2 by omega]at j11
 replace j11:Sat _ (Dv x0 (OI X)::_):=j11
 obtain⟨hPH,oi,how,hph⟩:=revC_ok hI hX (by omega)
 obtain⟨eb,ecap,a,b,p,j55⟩:=HN (j11.pick [0,1,2] rfl)
 refine Qb (Qe Qa Qa (Ql Qa Qa (Qi Qa XA Qa (Qr Qa Xp (by first | assumption | exact j55.cell 0 Qa Qa | exact j55.cell 5 Qa Qa) Qa ?_))))
 refine Q0 AB Qa (Md (j55.sp [4] Qa)) Qa ?_
 rintro _ w56 ⟨rfl,j56⟩
 replace j56:=j56.jn Qa Qa
 refine Qh (Qd (Qk [6,5,2] Qa (Qf ?_)))
 have j57:=j56.drew
 refine QN [0,1,2,3,4,5,6,7,8,9,10,11,12,13] [12] W5 (by kernel_rfl) ?_
 refine QI Qa Qa Qa (Xn Qa Qa Qa (QO Qa Qa Qa Wc (QF Qa Qa Qa (Qn Qa Jx (by first | assumption | exact j57.cell 1 Qa Qa | exact j57.cell 5 Qa Qa)) ?_)))
 refine Q9 Qa Qa Qa (fun _=>(X0 0 Qa Qa (by first | rfl | omega) (by first | omega | exact(ZD (show[a,b][0]? =some a from rfl)).1) Ym)) ?_
 refine QF Qa Qa Qa (XV RV 2 0 0 j57 Qa (show[a,b][0]? =some a from rfl) J5 Qa Qa) (QI Qa Qa Qa (Xn Qa Qa Qa (QO Qa Qa Qa Wc (QF Qa Qa Qa (Qn Qa Jx (by first | assumption | exact j57.cell 1 Qa Qa | exact j57.cell 5 Qa Qa)) ?_))))
 refine Q9 Qa Qa Qa (fun _=>(X0 1 Qa Qa (by first | rfl | omega) (by first | omega | exact(ZD (show[a,b][1]? =some b from rfl)).1) Ym)) ?_
 refine QF Qa Qa Qa (XV RV 2 1 0 j57 Qa (show[a,b][1]? =some b from rfl) J5 Qa Qa) (QV Qa Qa Qa Qa Qa Qa ?_)
 refine Q0 AE Qa (Co (E1:=(Oc X).a) (E2:=(Oc X).b) (j57.sp [3,4] Qa) (hG.starL 4 Qa) (hO.starL 4 Qa)) Qa ?_
 rintro _ w58 ⟨rfl,j58⟩
 replace j58:=j58.jn Qa Qa
 rw[how]
 refine Xd (Xq (by kernel_rfl)) ?_
 refine WV Qa Qa Qa (VC.nil (Qd (Qk [6,5,2,9] Qa (Qf (Qb (Qe Qa Qa (Ql Qa Qa (Qi Qa Wc Qa (Qr Qa Jx (by first | assumption | exact j58.cell 3 Qa Qa | exact j58.cell 5 Qa Qa) Qa ?_)))))))))
 refine Wj RV 4 0 j58 Qa Qa Qa (by first | rfl | omega) (show[a,b][0]? =some a from rfl) Ym Qa ?_
 intro bx59 capx59 hvx59
 refine W8 4 0 0 j58 Qa hvx59 Qa Qa (show[a,b][0]? =some a from rfl) J5 Qa Qa (Q0 AA Qa (Ms (E:=(Oc X).a) (j58.sp [0] Qa)) Qa ?_)
 rintro _ w60 ⟨rfl,j60⟩
 replace j60:=j60.jn Qa Qa
 refine Qh (Qd (Qk [6,5,2,9] Qa (Qf (Qb (Qe Qa Qa (Ql Qa Qa (Qi Qa Wc Qa (Qr Qa Jx (by first | assumption | exact j60.cell 3 Qa Qa | exact j60.cell 5 Qa Qa) Qa ?_))))))))
 refine Wj RV 4 1 j60 Qa Qa Qa (by first | rfl | omega) (show[a,b][1]? =some b from rfl) Ym Qa ?_
 intro bx61 capx61 hvx61
 refine W8 4 1 0 j60 Qa hvx61 Qa Qa (show[a,b][1]? =some b from rfl) J5 Qa Qa (Q0 AA Qa (Ms (E:=(Oj X).b) (j60.sp [1] Qa)) Qa ?_)
 rintro _ w62 ⟨rfl,j62⟩
 replace j62:=j62.jn Qa Qa
 refine Qh (Qd (Qk [6,5,2,9] Qa (Qf (Qf ?_))))
 have j63:=QW (X:=Oa X) (j62.pick [3,4,1,0,2,5,6] Qa)
 refine Qb (Qc Qa Qa (Qh (Qd (QK ?_))))
 refine XJ (fun K0 E0 W0=> ∃(k:Nat),K0=6 -k∧E0=[(2,ptrV bp 0),(5,.bool true),(6,ptrV x0 0),(9,intV (if oi=true then 1 else 0)),(10,intV (k:Int))]∧Sat W0 [Dv x0 (AZ k (Oa X)),Xb bp [strV t,sv],F]∧(k≤6)) (L0:=[(2,_),(5,_),(6,_),(9,_),(10,_)]) (6 -0) (NC Qa Qa Qa Qa Qa) ⟨0,rfl,rfl,j63.pick [0,1,2] Qa, by omega⟩ ?_
 rintro _ _ w64 ⟨k,rfl,rfl,j64,hk6⟩
 refine Qf (Qf (Qb (Qe Qa Qa (X5 Qa Qa Qa (Qh (Qd (Qv Qa (fun h65=> ?_) (fun h65=> ?_))))))))
 ·refine Qt (Qd (Qf (QK (Qb (Qe Qa Qa (Q0 cal_22 Qa (Ia (j64.sp [0] Qa) (hG.starL 1 Qa) (hO.starL 1 Qa) (AX hPH k).w) Qa ?_))))))
  rintro _ w66 ⟨rfl,j66⟩
  replace j66:=j66.jn Qa Qa
  refine Qh (Qq (Qd (Qb (Qe Qa Qa (XC Qa Qa (by omega) (by omega) Qa ?_)))))
  refine Qc Qa Qa (Qh ?_)
  exact Xj (L1:=[(2,_),(5,_),(6,_),(9,_),(10,intV ((k+1:Nat):Int))]) (NC Qa Qa Qa Qa Qa) (k1:=6 -(k+1)) (by omega) ⟨k+1,rfl,rfl,j66.pick [0,1,2] Qa, by omega⟩
 refine X6 (Q6 (Q6 (QR (Qd (Qf ?_)))))
 rw[show k=6 by omega]at j64
 have hP6:=AX hPH 6
 have h16:=OG hPH hph
 generalize AZ 6 (Oa X)=Y at *
 obtain⟨g1,g2,g3,g4,g5,g6⟩:=end_ok hP6 h16
 obtain⟨eb,ecap,a,b,p,j67⟩:=HN (j64.pick [0,1,2] rfl)
 refine Qb (Qe Qa Qa (Ql Qa Qa (Qi Qa Wc Qa (Qr Qa Jx (by first | assumption | exact j67.cell 0 Qa Qa | exact j67.cell 5 Qa Qa) Qa ?_))))
 refine Wj RV 1 0 j67 Qa Qa Qa (by first | rfl | omega) (show[a,b][0]? =some a from rfl) Ym Qa ?_
 intro bx68 capx68 hvx68
 refine W8 1 0 0 j67 Qa hvx68 Qa Qa (show[a,b][0]? =some a from rfl) J5 Qa Qa (Q0 Gt Qa (HF (j67.sp [2] Qa) (hG.starL 5 Qa) (hO.starL 5 Qa)) Qa ?_)
 rintro _ w69 ⟨rfl,j69⟩
 replace j69:=j69.jn Qa Qa
 refine Qe Qa Qa (Q7 Qa Qa Qa (Q7 Qa Qa Qa (Qc Qa Qa (Qc Qa Qa (Qh (Qd (Qk [9,6,5,2,11] Qa (Qf (Qb (Qe Qa Qa (Ql Qa Qa (Qi Qa Wc Qa (Qr Qa Jx (by first | assumption | exact j69.cell 1 Qa Qa | exact j69.cell 5 Qa Qa) Qa ?_)))))))))))))
 refine Wj RV 2 1 j69 Qa Qa Qa (by first | rfl | omega) (show[a,b][1]? =some b from rfl) Ym Qa ?_
 intro bx70 capx70 hvx70
 refine W8 2 1 0 j69 Qa hvx70 Qa Qa (show[a,b][1]? =some b from rfl) J5 Qa Qa (Q0 Gt Qa (HF (j69.sp [3] Qa) (hG.starL 5 Qa) (hO.starL 5 Qa)) Qa ?_)
 rintro _ w71 ⟨rfl,j71⟩
 replace j71:=j71.jn Qa Qa
 refine Qe Qa Qa (Q7 Qa Qa Qa (Q7 Qa Qa Qa (Qc Qa Qa (Qc Qa Qa (Qh (Qd (Qk [9,6,5,2,11,13] Qa (Qf (Qf ?_)))))))))
 have j72:=j71.drew
 refine QN [0,1,2,3,4,5,6,7,8,9,10,11,12,13,14,15,16,17,19,18,20,21] [18] W5 (by kernel_rfl) ?_
 refine QI Qa Qa Qa (Q9 Qa Qa Qa (fun _=>(Ya Qa Qa)) ?_)
 refine QI Qa Qa Qa (Q9 Qa Qa Qa (fun _=>(Ya Qa Qa)) ?_)
 refine Q9 Qa Qa Qa (fun _=>(ev_eqlB underlying4 Qa Qa)) ?_
 refine QI Qa Qa Qa (TO 163 Qa (fun h73=> ?_) (fun h73=> ?_))
 ·(exfalso; have q9:=h73; cases oi;(have g1:(Zg Y.a).1=1:=g1; have g2:(Zg Y.b).1≠1:=g2; simp [g1,g2]at q9);(have g1:(Zg Y.b).1=1:=g1; have g2:(Zg Y.a).1≠1:=g2; simp [g1,g2]at q9))
 refine Q9 Qa Qa (Qp Qa Qa h73) (fun _=>(Ev.gd (Xk Qa))) ?_
 refine Q9 Qa Qa (Qp Qa Qa h73) (fun _=>(Ev.gd (Xy Qa))) ?_
 refine Q9 Qa Qa (Qp Qa Qa h73) (fun _=>(Ev.gd (QS Qa Wc))) ?_
 refine QF Qa Qa (Qp Qa Qa h73) (Ev.gd (Qn Qa Jx (by first | assumption | exact j72.cell 2 Qa Qa | exact j72.cell 5 Qa Qa))) ?_
 refine Q9 Qa Qa (Qp Qa Qa h73) (fun _=>(Ev.gd (X0 0 Qa Qa (by first | rfl | omega) (by first | omega | exact(ZD (show[a,b][0]? =some a from rfl)).1) Ym))) ?_
 refine QF Qa Qa (Qp Qa Qa h73) (Ev.gd (XV RV 3 0 0 j72 Qa (show[a,b][0]? =some a from rfl) J5 Qa Qa)) (Q9 Qa Qa (Qp Qa Qa h73) (fun _=>(Ev.gd (Xk Qa))) ?_)
 refine Q9 Qa Qa (Qp Qa Qa h73) (fun _=>(Ev.gd (Xy Qa))) ?_
 refine Q9 Qa Qa (Qp Qa Qa h73) (fun _=>(Ev.gd (QS Qa Wc))) ?_
 refine QF Qa Qa (Qp Qa Qa h73) (Ev.gd (Qn Qa Jx (by first | assumption | exact j72.cell 2 Qa Qa | exact j72.cell 5 Qa Qa))) ?_
 refine Q9 Qa Qa (Qp Qa Qa h73) (fun _=>(Ev.gd (X0 1 Qa Qa (by first | rfl | omega) (by first | omega | exact(ZD (show[a,b][1]? =some b from rfl)).1) Ym))) ?_
 refine QF Qa Qa (Qp Qa Qa h73) (Ev.gd (XV RV 3 1 0 j72 Qa (show[a,b][1]? =some b from rfl) J5 Qa Qa)) (Q9 Qa Qa (Qp Qa Qa h73) (fun _=>(Ev.gd (Xk Qa))) ?_)
 refine QV Qa Qa (Qp Qa Qa h73) Qa Qa Qa ?_
 refine Q0 AE Qa (Co (j72.sp [1,0] Qa) (hG.starL 4 Qa) (hO.starL 4 Qa)) Qa ?_
 rintro _ w74 ⟨rfl,j74⟩
 replace j74:=j74.jn Qa Qa
 rw[g3]
 refine Xd (Xq (by kernel_rfl)) ?_
 refine Q9 Qa Qa (Qp Qa Qa h73) (fun _=>(Ev.gd (JZ Qa Qa))) ?_
 refine Q9 Qa Qa Qa (fun _=>(Xi Qa h73 Qa)) ?_
 refine VC.nil (Qd (Qk [9,6,5,2,179] Qa (Qv Qa (fun h75=> ?_) (fun h75=> ?_))))
 ·exact absurd Qa h75
 refine Qt (Qd (Qf ?_))
 have j76:=j74.drew
 refine QN [0,1,2,3,4,5,6,7,8] [5] W5 (by kernel_rfl) ?_
 refine QI Qa Qa Qa (Xn Qa Qa Qa (QO Qa Qa Qa Wc (QF Qa Qa Qa (Qn Qa Jx (by first | assumption | exact j76.cell 2 Qa Qa | exact j76.cell 5 Qa Qa)) ?_)))
 refine QI Qa Qa Qa (QV Qa Qa Qa Qa Qa Qa ?_)
 refine Q0 Jl Qa (Jg (j76.sp [] Qa) (if oi=true then 1 else 0) 2 (by decide)) Qa ?_
 rintro _ w77 ⟨rfl,j77⟩
 replace j77:=j77.jn Qa Qa
 rw[show Ze (if oi=true then 1 else 0) 2=(if oi=true then 1 else 0) by cases oi<;>decide]
 rcases hoi:oi with _ | _
 ·subst hoi
  refine Xd (.cons (.inl ⟨rfl,(Qn Qa Jx (by first | assumption | exact j77.cell 2 Qa Qa | exact j77.cell 5 Qa Qa))⟩) .nil) ?_
  refine Q9 Qa Qa Qa (fun _=>(X0 0 Qa Qa (by first | rfl | omega) (by first | omega | exact(ZD (show[a,b][0]? =some a from rfl)).1) Ym)) ?_
  refine QF Qa Qa Qa (XV RV 3 0 0 j77 Qa (show[a,b][0]? =some a from rfl) J5 Qa Qa) (WV Qa Qa Qa (VC.nil (Qd (Qk [9,6,5,2,15] Qa (Qf (Qb (Qe Qa Qa (Q0 Ib Qa (O3 (j77.sp [0] Qa)) Qa ?_))))))))
  rintro _ w78 ⟨rfl,j78⟩
  replace j78:=j78.jn Qa Qa
  refine Qe Qa Qa (Q7 Qa Qa Qa (Q7 Qa Qa Qa (Qc Qa Qa (Qc Qa Qa (Qh (Qd (Qk [9,6,5,2,15,17] Qa (Qf (Qf (Qb (Qe Qa Qa (XN Qa Qa (Qe Qa Qa (ZO 195 Qa (fun h79=> ?_) (fun h79=> ?_)))))))))))))))
  ·have hsn:Y.a.ses=none:= by have q9:=h79; cases q8:Y.a.ses with | none=>rfl | some s=>(rw[q8]at q9; simp at q9)
   refine Qj Qa Qa h79 (Qe Qa Qa (Qj Qa Qa h79 ?_))
   refine Jd Qa Mw DP (by first | exact j78.blk 2 Qa | exact j78.blk 5 Qa) (by first | decide | exact QC Qa | (simp;done) | omega) Qa Qa ?_
   refine Qj Qa Qa h79 (Q0 T6 Qa (R9 (j78.sp [0] Qa) (hG.starL 5 Qa) (hO.starL 5 Qa) (t:=t) (l:=sl) (hL.starL 5 Qa)) Qa ?_)
   rintro _ w80 ⟨rfl,j80⟩
   replace j80:=j80.jn Qa Qa
   obtain⟨hbe,hbr⟩:=g6 ⟨t,sl⟩ hri hsn
   have hbe:(Zw Y.a ⟨t,sl⟩).1=0:=hbe
   rw[hbe]
   refine Qj Qa Qa h79 (Xu Qa Qa Qa (Q1 Qa h79 Qa Qa (Qh (Qd (Qk [9,6,5,15,200] Qa (Qv Qa (fun h81=> ?_) (fun h81=> ?_)))))))
   ·(exfalso; have q9:=h81; simp at q9)
   refine Qt (Qd (Qf ?_))
   have j82:=j80.drew
   refine QN [0,1,2,3,4,5,6,7,8,9,10,11,12,13,14,15,16,17,18] [3,11,15] W5 (by kernel_rfl) ?_
   refine QI Qa Qa Qa (QI Qa Qa Qa (Q9 Qa Qa (Qp Qa Qa Qa) (fun _=>(Ev.gd (Xk Qa))) ?_))
   refine QV Qa Qa (Qp Qa Qa Qa) Qa Qa Qa ?_
   refine Q0 HW Qa (YA (j82.sp [0] Qa)) Qa ?_
   rintro _ w83 ⟨rfl,j83⟩
   replace j83:=j83.jn Qa Qa
   rw[show ZZ (Zw Y.a ⟨t,sl⟩).2=true from hbr]
   refine Xd .nil (Q9 Qa Qa Qa (fun _=>(Xz Qa Qa Qa)) ?_)
   refine QI Qa Qa Qa (TO 206 Qa (fun h84=> ?_) (fun h84=> ?_))
   ·refine Q9 Qa Qa (Qp Qa Qa h84) (fun _=>(Ev.gd (Xk Qa))) ?_
    refine Q9 Qa Qa (Qp Qa Qa h84) (fun _=>(Ev.gd (Xy Qa))) ?_
    refine Q9 Qa Qa (Qp Qa Qa h84) (fun _=>(Ev.gd (QS Qa Wc))) ?_
    refine QF Qa Qa (Qp Qa Qa h84) (Ev.gd (Qn Qa Jx (by first | assumption | exact j83.cell 2 Qa Qa | exact j83.cell 5 Qa Qa))) ?_
    refine Q9 Qa Qa (Qp Qa Qa h84) (fun _=>(Ev.gd (Xk Qa))) ?_
    refine QV Qa Qa (Qp Qa Qa h84) Qa Qa Qa ?_
    refine Q0 Jl Qa (Jg (j83.sp [] Qa) (if false=true then 1 else 0) 2 (by decide)) Qa ?_
    rintro _ w85 ⟨rfl,j85⟩
    replace j85:=j85.jn Qa Qa
    rw[show Ze (if false=true then 1 else 0) 2=0 by decide]
    refine Xd (.cons (.inl ⟨(Qp Qa Qa h84),(Ev.gd (Qn Qa Jx (by first | assumption | exact j85.cell 2 Qa Qa | exact j85.cell 5 Qa Qa)))⟩) .nil) ?_
    refine Q9 Qa Qa (Qp Qa Qa h84) (fun _=>(Ev.gd (Bo Qa Qa (by omega) (by omega)))) ?_
    refine Q9 Qa Qa (Qp Qa Qa h84) (fun _=>(Ev.gd (X0 1 Qa Qa (by first | rfl | omega) (by first | omega | exact(ZD (show[a,b][1]? =some b from rfl)).1) Ym))) ?_
    refine QF Qa Qa (Qp Qa Qa h84) (Ev.gd (XV RV 3 1 0 j85 Qa (show[a,b][1]? =some b from rfl) J5 Qa Qa)) (QV Qa Qa (Qp Qa Qa h84) Qa Qa Qa ?_)
    refine Q0 HW Qa (YA (j85.sp [1] Qa)) Qa ?_
    rintro _ w86 ⟨rfl,j86⟩
    replace j86:=j86.jn Qa Qa
    rw[show ZZ Y.b=false from g4]
    refine Xd (Xq (by kernel_rfl)) ?_
    refine Q9 Qa Qa (Qp Qa Qa h84) (fun _=>(Ev.gd (Gm Qa))) ?_
    refine Q9 Qa Qa Qa (fun _=>(Xz Qa h84 Qa)) ?_
    refine WV Qa Qa Qa (VC.nil (Qd (Qk [4] Qa (Qo (Q5 (.inr Qa) Qa Qa ?_)))))
    exact⟨_,rfl, by first | rfl | simp,j86.pick [6] Qa⟩
   (exfalso; have q9:=h84; simp at q9)
  have hss:Y.a.ses.isSome=true:= by simpa using h79
  refine Qg Qa Qa h79 Qa (Qg Qa Qa h79 Qa (Qg Qa Qa h79 Qa (Qg Qa Qa h79 Qa (Q3 Qa h79 Qa Qa (Qh (Qd (Qk [9,6,5,15,200] Qa (QJ Qa (Qt (Qd (Qf ?_)))))))))))
  have j87:=j78.drew
  refine QN [0,1,2,3,4,5,6,7,8,9,10,11,12,13,14,15,16,17,18] [3,11,15] W5 (by kernel_rfl) ?_
  refine QI Qa Qa Qa (QI Qa Qa Qa (Q9 Qa Qa (Qp Qa Qa Qa) (fun _=>(Ev.gd (Xk Qa))) ?_))
  refine QV Qa Qa (Qp Qa Qa Qa) Qa Qa Qa ?_
  refine Q0 HW Qa (YA (j87.sp [0] Qa)) Qa ?_
  rintro _ w88 ⟨rfl,j88⟩
  replace j88:=j88.jn Qa Qa
  rw[show ZZ Y.a=true from g5 hss]
  refine Xd .nil (Q9 Qa Qa Qa (fun _=>(Xz Qa Qa Qa)) ?_)
  refine QI Qa Qa Qa (TO 206 Qa (fun h89=> ?_) (fun h89=> ?_))
  ·refine Q9 Qa Qa (Qp Qa Qa h89) (fun _=>(Ev.gd (Xk Qa))) ?_
   refine Q9 Qa Qa (Qp Qa Qa h89) (fun _=>(Ev.gd (Xy Qa))) ?_
   refine Q9 Qa Qa (Qp Qa Qa h89) (fun _=>(Ev.gd (QS Qa Wc))) ?_
   refine QF Qa Qa (Qp Qa Qa h89) (Ev.gd (Qn Qa Jx (by first | assumption | exact j88.cell 2 Qa Qa | exact j88.cell 5 Qa Qa))) ?_
   refine Q9 Qa Qa (Qp Qa Qa h89) (fun _=>(Ev.gd (Xk Qa))) ?_
   refine QV Qa Qa (Qp Qa Qa h89) Qa Qa Qa ?_
   refine Q0 Jl Qa (Jg (j88.sp [] Qa) (if false=true then 1 else 0) 2 (by decide)) Qa ?_
   rintro _ w90 ⟨rfl,j90⟩
   replace j90:=j90.jn Qa Qa
   rw[show Ze (if false=true then 1 else 0) 2=0 by decide]
   refine Xd (.cons (.inl ⟨(Qp Qa Qa h89),(Ev.gd (Qn Qa Jx (by first | assumption | exact j90.cell 2 Qa Qa | exact j90.cell 5 Qa Qa)))⟩) .nil) ?_
   refine Q9 Qa Qa (Qp Qa Qa h89) (fun _=>(Ev.gd (Bo Qa Qa (by omega) (by omega)))) ?_
   refine Q9 Qa Qa (Qp Qa Qa h89) (fun _=>(Ev.gd (X0 1 Qa Qa (by first | rfl | omega) (by first | omega | exact(ZD (show[a,b][1]? =some b from rfl)).1) Ym))) ?_
   refine QF Qa Qa (Qp Qa Qa h89) (Ev.gd (XV RV 3 1 0 j90 Qa (show[a,b][1]? =some b from rfl) J5 Qa Qa)) (QV Qa Qa (Qp Qa Qa h89) Qa Qa Qa ?_)
   refine Q0 HW Qa (YA (j90.sp [1] Qa)) Qa ?_
   rintro _ w91 ⟨rfl,j91⟩
   replace j91:=j91.jn Qa Qa
   rw[show ZZ Y.b=false from g4]
   refine Xd (Xq (by kernel_rfl)) ?_
   refine Q9 Qa Qa (Qp Qa Qa h89) (fun _=>(Ev.gd (Gm Qa))) ?_
   refine Q9 Qa Qa Qa (fun _=>(Xz Qa h89 Qa)) ?_
   refine WV Qa Qa Qa (VC.nil (Qd (Qk [4] Qa (Qo (Q5 (.inr Qa) Qa Qa ?_)))))
   exact⟨_,rfl, by first | rfl | simp,j91.pick [6] Qa⟩
  (exfalso; have q9:=h89; simp at q9)
 subst hoi
 refine Xd (.cons (.inl ⟨rfl,(Qn Qa Jx (by first | assumption | exact j77.cell 2 Qa Qa | exact j77.cell 5 Qa Qa))⟩) .nil) ?_
 refine Q9 Qa Qa Qa (fun _=>(X0 1 Qa Qa (by first | rfl | omega) (by first | omega | exact(ZD (show[a,b][1]? =some b from rfl)).1) Ym)) ?_
 refine QF Qa Qa Qa (XV RV 3 1 0 j77 Qa (show[a,b][1]? =some b from rfl) J5 Qa Qa) (WV Qa Qa Qa (VC.nil (Qd (Qk [9,6,5,2,15] Qa (Qf (Qb (Qe Qa Qa (Q0 Ib Qa (O3 (j77.sp [1] Qa)) Qa ?_))))))))
 rintro _ w92 ⟨rfl,j92⟩
 replace j92:=j92.jn Qa Qa
 refine Qe Qa Qa (Q7 Qa Qa Qa (Q7 Qa Qa Qa (Qc Qa Qa (Qc Qa Qa (Qh (Qd (Qk [9,6,5,2,15,17] Qa (Qf (Qf (Qb (Qe Qa Qa (XN Qa Qa (Qe Qa Qa (ZO 195 Qa (fun h93=> ?_) (fun h93=> ?_)))))))))))))))
 ·have hsn:Y.b.ses=none:= by have q9:=h93; cases q8:Y.b.ses with | none=>rfl | some s=>(rw[q8]at q9; simp at q9)
  refine Qj Qa Qa h93 (Qe Qa Qa (Qj Qa Qa h93 ?_))
  refine Jd Qa Mw DP (by first | exact j92.blk 2 Qa | exact j92.blk 5 Qa) (by first | decide | exact QC Qa | (simp;done) | omega) Qa Qa ?_
  refine Qj Qa Qa h93 (Q0 T6 Qa (R9 (j92.sp [0] Qa) (hG.starL 5 Qa) (hO.starL 5 Qa) (t:=t) (l:=sl) (hL.starL 5 Qa)) Qa ?_)
  rintro _ w94 ⟨rfl,j94⟩
  replace j94:=j94.jn Qa Qa
  obtain⟨hbe,hbr⟩:=g6 ⟨t,sl⟩ hri hsn
  have hbe:(Zw Y.b ⟨t,sl⟩).1=0:=hbe
  rw[hbe]
  refine Qj Qa Qa h93 (Xu Qa Qa Qa (Q1 Qa h93 Qa Qa (Qh (Qd (Qk [9,6,5,15,200] Qa (Qv Qa (fun h95=> ?_) (fun h95=> ?_)))))))
  ·(exfalso; have q9:=h95; simp at q9)
  refine Qt (Qd (Qf ?_))
  have j96:=j94.drew
  refine QN [0,1,2,3,4,5,6,7,8,9,10,11,12,13,14,15,16,17,18] [3,11,15] W5 (by kernel_rfl) ?_
  refine QI Qa Qa Qa (QI Qa Qa Qa (Q9 Qa Qa (Qp Qa Qa Qa) (fun _=>(Ev.gd (Xk Qa))) ?_))
  refine QV Qa Qa (Qp Qa Qa Qa) Qa Qa Qa ?_
  refine Q0 HW Qa (YA (j96.sp [0] Qa)) Qa ?_
  rintro _ w97 ⟨rfl,j97⟩
  replace j97:=j97.jn Qa Qa
  rw[show ZZ (Zw Y.b ⟨t,sl⟩).2=true from hbr]
  refine Xd .nil (Q9 Qa Qa Qa (fun _=>(Xz Qa Qa Qa)) ?_)
  refine QI Qa Qa Qa (TO 206 Qa (fun h98=> ?_) (fun h98=> ?_))
  ·refine Q9 Qa Qa (Qp Qa Qa h98) (fun _=>(Ev.gd (Xk Qa))) ?_
   refine Q9 Qa Qa (Qp Qa Qa h98) (fun _=>(Ev.gd (Xy Qa))) ?_
   refine Q9 Qa Qa (Qp Qa Qa h98) (fun _=>(Ev.gd (QS Qa Wc))) ?_
   refine QF Qa Qa (Qp Qa Qa h98) (Ev.gd (Qn Qa Jx (by first | assumption | exact j97.cell 2 Qa Qa | exact j97.cell 5 Qa Qa))) ?_
   refine Q9 Qa Qa (Qp Qa Qa h98) (fun _=>(Ev.gd (Xk Qa))) ?_
   refine QV Qa Qa (Qp Qa Qa h98) Qa Qa Qa ?_
   refine Q0 Jl Qa (Jg (j97.sp [] Qa) (if true=true then 1 else 0) 2 (by decide)) Qa ?_
   rintro _ w99 ⟨rfl,j99⟩
   replace j99:=j99.jn Qa Qa
   rw[show Ze (if true=true then 1 else 0) 2=1 by decide]
   refine Xd (.cons (.inl ⟨(Qp Qa Qa h98),(Ev.gd (Qn Qa Jx (by first | assumption | exact j99.cell 2 Qa Qa | exact j99.cell 5 Qa Qa)))⟩) .nil) ?_
   refine Q9 Qa Qa (Qp Qa Qa h98) (fun _=>(Ev.gd (Bo Qa Qa (by omega) (by omega)))) ?_
   refine Q9 Qa Qa (Qp Qa Qa h98) (fun _=>(Ev.gd (X0 0 Qa Qa (by first | rfl | omega) (by first | omega | exact(ZD (show[a,b][0]? =some a from rfl)).1) Ym))) ?_
   refine QF Qa Qa (Qp Qa Qa h98) (Ev.gd (XV RV 3 0 0 j99 Qa (show[a,b][0]? =some a from rfl) J5 Qa Qa)) (QV Qa Qa (Qp Qa Qa h98) Qa Qa Qa ?_)
   refine Q0 HW Qa (YA (j99.sp [1] Qa)) Qa ?_
   rintro _ w100 ⟨rfl,j100⟩
   replace j100:=j100.jn Qa Qa
   rw[show ZZ Y.a=false from g4]
   refine Xd (Xq (by kernel_rfl)) ?_
   refine Q9 Qa Qa (Qp Qa Qa h98) (fun _=>(Ev.gd (Gm Qa))) ?_
   refine Q9 Qa Qa Qa (fun _=>(Xz Qa h98 Qa)) ?_
   refine WV Qa Qa Qa (VC.nil (Qd (Qk [4] Qa (Qo (Q5 (.inr Qa) Qa Qa ?_)))))
   exact⟨_,rfl, by first | rfl | simp,j100.pick [6] Qa⟩
  (exfalso; have q9:=h98; simp at q9)
 have hss:Y.b.ses.isSome=true:= by simpa using h93
 refine Qg Qa Qa h93 Qa (Qg Qa Qa h93 Qa (Qg Qa Qa h93 Qa (Qg Qa Qa h93 Qa (Q3 Qa h93 Qa Qa (Qh (Qd (Qk [9,6,5,15,200] Qa (QJ Qa (Qt (Qd (Qf ?_)))))))))))
 have j101:=j92.drew
 refine QN [0,1,2,3,4,5,6,7,8,9,10,11,12,13,14,15,16,17,18] [3,11,15] W5 (by kernel_rfl) ?_
 refine QI Qa Qa Qa (QI Qa Qa Qa (Q9 Qa Qa (Qp Qa Qa Qa) (fun _=>(Ev.gd (Xk Qa))) ?_))
 refine QV Qa Qa (Qp Qa Qa Qa) Qa Qa Qa ?_
 refine Q0 HW Qa (YA (j101.sp [0] Qa)) Qa ?_
 rintro _ w102 ⟨rfl,j102⟩
 replace j102:=j102.jn Qa Qa
 rw[show ZZ Y.b=true from g5 hss]
 refine Xd .nil (Q9 Qa Qa Qa (fun _=>(Xz Qa Qa Qa)) ?_)
 refine QI Qa Qa Qa (TO 206 Qa (fun h103=> ?_) (fun h103=> ?_))
 ·refine Q9 Qa Qa (Qp Qa Qa h103) (fun _=>(Ev.gd (Xk Qa))) ?_
  refine Q9 Qa Qa (Qp Qa Qa h103) (fun _=>(Ev.gd (Xy Qa))) ?_
  refine Q9 Qa Qa (Qp Qa Qa h103) (fun _=>(Ev.gd (QS Qa Wc))) ?_
  refine QF Qa Qa (Qp Qa Qa h103) (Ev.gd (Qn Qa Jx (by first | assumption | exact j102.cell 2 Qa Qa | exact j102.cell 5 Qa Qa))) ?_
  refine Q9 Qa Qa (Qp Qa Qa h103) (fun _=>(Ev.gd (Xk Qa))) ?_
  refine QV Qa Qa (Qp Qa Qa h103) Qa Qa Qa ?_
  refine Q0 Jl Qa (Jg (j102.sp [] Qa) (if true=true then 1 else 0) 2 (by decide)) Qa ?_
  rintro _ w104 ⟨rfl,j104⟩
  replace j104:=j104.jn Qa Qa
  rw[show Ze (if true=true then 1 else 0) 2=1 by decide]
  refine Xd (.cons (.inl ⟨(Qp Qa Qa h103),(Ev.gd (Qn Qa Jx (by first | assumption | exact j104.cell 2 Qa Qa | exact j104.cell 5 Qa Qa)))⟩) .nil) ?_
  refine Q9 Qa Qa (Qp Qa Qa h103) (fun _=>(Ev.gd (Bo Qa Qa (by omega) (by omega)))) ?_
  refine Q9 Qa Qa (Qp Qa Qa h103) (fun _=>(Ev.gd (X0 0 Qa Qa (by first | rfl | omega) (by first | omega | exact(ZD (show[a,b][0]? =some a from rfl)).1) Ym))) ?_
  refine QF Qa Qa (Qp Qa Qa h103) (Ev.gd (XV RV 3 0 0 j104 Qa (show[a,b][0]? =some a from rfl) J5 Qa Qa)) (QV Qa Qa (Qp Qa Qa h103) Qa Qa Qa ?_)
  refine Q0 HW Qa (YA (j104.sp [1] Qa)) Qa ?_
  rintro _ w105 ⟨rfl,j105⟩
  replace j105:=j105.jn Qa Qa
  rw[show ZZ Y.a=false from g4]
  refine Xd (Xq (by kernel_rfl)) ?_
  refine Q9 Qa Qa (Qp Qa Qa h103) (fun _=>(Ev.gd (Gm Qa))) ?_
  refine Q9 Qa Qa Qa (fun _=>(Xz Qa h103 Qa)) ?_
  refine WV Qa Qa Qa (VC.nil (Qd (Qk [4] Qa (Qo (Q5 (.inr Qa) Qa Qa ?_)))))
  exact⟨_,rfl, by first | rfl | simp,j105.pick [6] Qa⟩
 (exfalso; have q9:=h103; simp at q9)
