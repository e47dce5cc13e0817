/- move: Tick -/
import Derived.Test.YtiibgheijbbmaaaGreatDoorMvx
import Derived.Test.YtiibgheijbbmaaaGreatDoorMvt
set_option linter.unusedVariables false
set_option maxRecDepth 100000
set_option maxHeartbeats 100000000000
namespace Go.Proofs.YtiibgheijbbmaaaGreatDoor
open Go.RowKit M Proofs.Tryz
theorem G9 {sz n cap B:Nat} {ao:Option Addr}:HL sz (.slice ao n cap) 0 B= .slice ao B cap:= by
  unfold HL
  dsimp only
  split
  · rfl
  · cases ao with
    | none=>rfl
    | some p=> rw[Option.map_some,Nat.zero_mul,Nat.sub_zero,Nat.sub_zero];rfl
theorem Jp {α:Type} (l:List α) (n:Nat):l.take (min l.length n)=l.take n:= by
  by_cases q:l.length≤n
  · rw[Nat.min_eq_left q,List.take_of_length_le (Nat.le_refl _),List.take_of_length_le q]
  · rw[Nat.min_eq_right (by omega)]
theorem Y0 (E:EnD): ∀(l:AL PgD) (k:Nat),(pushG E k l).2.length≤k
  | [],k=> by rw[pushG.eq_def]; simp
  | e::l,k=> by
    rw[pushG.eq_def]
    dsimp only
    split
    · exact Y0 E l k
    · cases k with
      | zero=> simp
      | succ k=> have :=Y0 E l k;simpa using this
theorem Wn (E:EnD) (l:Bs) (n:Int): ∀(k:Nat) (nx:Int),(ZJ E l n k nx).2.length=k
  | 0,nx=>rfl
  | k+1,nx=> by rw[ZJ]; show(ZJ E l n k _).2.length+1=k+1; rw[Wn E l n k]
def Ue (E:EnD):List Bs:=((QY E).take 4).map (fun i=>Z3 E 6 i 0 [])++(if QY E=[]∧E.told=false then[Z3 E 8 0 0 []]else[])
section
variable {E:EnD} {s:SeD} {o:OfD}
theorem PQ (h:upE E=false):Z4 E=(E,[]):= by unfold Z4; rw[if_pos h]
theorem LA (h: ¬upE E=false) (hk:E.kind=2) (ho:E.off=some o) (hm:o.move=E.move):Z4 E=(E,[Z3 E 2 0 0 []]):= by unfold Z4; rw[if_neg h,if_pos hk,ho]; dsimp only; rw[if_pos (by simpa using hm)]
theorem VL (h: ¬upE E=false) (hk:E.kind=2) (ho: ∀o,E.off=some o→o.move≠E.move):Z4 E=(E,[Z3 E 3 0 0 []]):= by
  unfold Z4; rw[if_neg h,if_pos hk]
  cases q:E.off with
  | none=>rfl
  | some o=> dsimp only; rw[if_neg (by simpa using ho o q)]
theorem Hk (h: ¬upE E=false) (hk:E.kind≠2) (h2:E.kind≠1∨E.ses=none):Z4 E=(E,[]):= by
  unfold Z4; rw[if_neg h,if_neg hk]
  by_cases q:E.kind=1
  · rw[if_neg (by omega),h2.resolve_left (by omega)]
  · rw[if_pos q]
theorem U8 (h: ¬upE E=false) (hk:E.kind=1) (hs:E.ses=some s) (ha:E.active=true):Z4 E=((if E.frozen=false then{E with ses:=some {s with pages:=(pushG E 4 s.pages).1}}else{E with ses:=some {s with pages:=(pushG E 4 s.pages).1},next:=(ZJ E (X8 {s with pages:=(pushG E 4 s.pages).1}) (Zt (X8 {s with pages:=(pushG E 4 s.pages).1})) (min (Zt (X8 {s with pages:=(pushG E 4 s.pages).1})) 32).toNat E.next).1}),(pushG E 4 s.pages).2++(if E.frozen=false then[]else(ZJ E (X8 {s with pages:=(pushG E 4 s.pages).1}) (Zt (X8 {s with pages:=(pushG E 4 s.pages).1})) (min (Zt (X8 {s with pages:=(pushG E 4 s.pages).1})) 32).toNat E.next).2)):= by
  unfold Z4; rw[if_neg h,if_neg (by omega),if_neg (by omega),hs]
  dsimp only
  rw[if_pos ha]
  by_cases q:E.frozen=false
  · rw[if_pos q,if_pos q,if_pos q,List.append_nil]
  · rw[if_neg q,if_neg q,if_neg q]
theorem WI (h: ¬upE E=false) (hk:E.kind=1) (hs:E.ses=some s) (ha:E.active=false):Z4 E=(E,Ue E):= by
  unfold Z4 Ue QY; rw[if_neg h,if_neg (by omega),if_neg (by omega),hs]
  dsimp only
  rw[if_neg (by rw[ha];decide)]
theorem UD {E':EnD} (h:E'.move=E.move) (l:Bs) (n:Int): ∀(k:Nat) (nx:Int),ZJ E' l n k nx=ZJ E l n k nx
  | 0,nx=>rfl
  | k+1,nx=> by rw[ZJ,ZJ,UD h l n k];unfold Z3; rw[h]
theorem Bk (hw: ∀x,E.ses=some x→SeW x): ∀i∈QY E,X4 i:= fun i hi=> by
  unfold QY at hi
  cases q:E.ses with
  | none=> rw[q]at hi; cases hi
  | some s=>
    rw[q]at hi
    obtain⟨e,h1,rfl⟩:=List.mem_map.1 hi
    exact((hw s q).pg e (List.mem_filter.1 h1).1).1
theorem Cw (hw: ∀x,E.ses=some x→SeW x):(QY E).length≤8192:= by
  unfold QY
  cases q:E.ses with
  | none=> simp
  | some s=>
    have h1:=(hw s q).num
    have h2:=List.length_filter_le (fun e:Int×PgD=>e.2.miss) s.pages
    dsimp only
    unfold Re; rw[List.length_map];omega
end
theorem tick_a {w:World} {e:Nat} {E:EnD} {F:Th} (hS:Sat w [Xw e E,F]) (hG:Ent F WireG) (hW:EW E) (hq_o:E.off=none):
    Calls prog 36 #[ptrV e 0] w (Ret fun v w'=>Sat w' [rowT Zn v (Z4 E).2,Xw e (Z4 E).1,F]):= by
 refine Qy func36 Qa ntmps36 Qa ?_
 have hmv:=hW.km.2.2.2
 have hml:=Cw hW.ses
 refine Qf (Qb (Qc Qa Qa (Qh (Qd (Qf (QK (Qf (Qb (Qe Qa Qa (Q0 KK Qa (B9 (hS.sp [0] Qa)) Qa ?_))))))))))
 rintro _ w1 ⟨rfl,hS1⟩
 replace hS1:=hS1.jn Qa Qa
 refine XN Qa Qa (Qc Qa Qa (Qh (Qd (QZ Qa (fun h2=> ?_) (fun h2=> ?_)))))
 ·have hu0:upE E=false:= by simpa using h2
  refine Qf (Qb (Qc Qa Qa (Qh (Qd (Qo (Qz (Qm (Q5 (.inr Qa) Qa Qa ?_))))))))
  exact⟨_,rfl, by rw[PQ hu0]; exact(Sat.row_nil Zn (hS1.pick [0,1] Qa))⟩
 have hup: ¬upE E=false:= by simpa using h2
 refine Qf ?_
 obtain⟨dp,cv,sv,ov,hS3⟩:=QU (hS1.pick [0,1] rfl)
 rw[hq_o]at hS3
 obtain⟨rfl,hS4⟩:=RX (hS3.pick [4,0,1,2,3,5] rfl)
 have hS5:=hS4.drew
 refine QN [0,1,2,3,4,5,6,7,8,9,10,11,12,13,14,15,16,17,18,19,20,21,22,23,24,25,26] [] W5 (by kernel_rfl) ?_
 refine QI Qa Qa Qa (Xn Qa Qa Qa (QO Qa Qa Qa Zh (QF Qa Qa Qa (Qn Qa QH (hS5.cell 0 Qa Qa)) (Q9 Qa Qa Qa (fun _=>(Ya Qa Qa)) ?_))))
 refine QI Qa Qa Qa (XB 17 Qa (fun h6=> ?_) (fun h6=> ?_))
 ·refine Q9 Qa Qa (Qp Qa Qa (QD h6)) (fun _=>(Ev.gd (Xk Qa))) ?_
  refine Q9 Qa Qa (Qp Qa Qa (QD h6)) (fun _=>(Ev.gd (Xy Qa))) ?_
  refine Q9 Qa Qa (Qp Qa Qa (QD h6)) (fun _=>(Ev.gd (QS Qa W2))) ?_
  refine QF Qa Qa (Qp Qa Qa (QD h6)) (Ev.gd (Qn Qa Ut (hS5.cell 0 Qa Qa))) (Q9 Qa Qa (Qp Qa Qa (QD h6)) (fun _=>(Ev.gd (JP underlying79 Qa Qa))) ?_)
  refine Q9 Qa Qa Qa (fun _=>(Xz Qa (QD h6) Qa)) ?_
  refine QI Qa Qa Qa (Q2 Qa Qa (Qs Qa Qa Qa) (Q2 Qa Qa (Qs Qa Qa Qa) (Q2 Qa Qa (Qs Qa Qa Qa) (Q2 Qa Qa (Qs Qa Qa Qa) (Q2 Qa Qa (Qs Qa Qa Qa) (Q2 Qa Qa (Qs Qa Qa Qa) (Q2 Qa Qa (Qs Qa Qa Qa) (Q2 Qa Qa (Qs Qa Qa Qa) (Q2 Qa Qa (Qs Qa Qa Qa) (Q2 Qa Qa (Qs Qa Qa Qa) (Q2 Qa Qa (Qs Qa Qa Qa) (Q2 Qa Qa (Qs Qa Qa Qa) (Q9 Qa Qa Qa (fun _=>(Xi Qa Qa Qa)) ?_)))))))))))))
  refine WV Qa Qa Qa (VC.nil (Qd (Qk [0,2,11] Qa (QJ Qa (Qf (Qb (Qe Qa Qa (Ql Qa Qa (Qi Qa Zh Qa (Qr Qa QH (hS5.cell 0 Qa Qa) Qa (QL Qa Qa Qa (Qc Qa Qa (Qh (Qd (Qv Qa (fun h7=> ?_) (fun h7=> ?_))))))))))))))))
  ·refine Qf (Qb (Qe Qa Qa ?_))
   have hS8:=Qu (E:=E) (by rw[hq_o]; exact((ZR hS5).pick [1,2,3,4,0,5] Qa))
   refine Q0 WH Qa (WG (hS8.sp [0] Qa) (hG.starL 0 Qa) (k:=3) (a:=0) (b:=0) (s:=[]) (JW (XG (by decide)) hmv)) Qa ?_
   rintro _ w9 ⟨rfl,hS9⟩
   replace hS9:=hS9.jn Qa Qa
   refine Xe Zn [Z3 E 3 0 0 []] hS9 Qa underlying66 J8 Qa Qa Qa Qa (by rfl) rfl ?_
   intro b10 w10 hS10
   refine Qc Qa Qa (Qh (Qd (Qk [0,2] Qa (Qo (Qz (Qm (Q5 (.inr Qa) Qa Qa ?_)))))))
   exact⟨_,rfl, by rw[VL hup (by omega) (fun z hz=> by rw[hq_o]at hz;(cases hz;done))]; exact hS10.pick [0,1,2] Qa⟩
  refine Qf (Qb (Qe Qa Qa (Ql Qa Qa (Qi Qa Zh Qa (Qr Qa QH (hS5.cell 0 Qa Qa) Qa (Xu Qa Qa Qa (Qe Qa Qa (Q4 56 Qa (fun h11=> ?_) (fun h11=> ?_)))))))))
  ·refine Qg Qa Qa (QD h11) Qa (Qg Qa Qa (QD h11) Qa (Qg Qa Qa (QD h11) Qa (Qg Qa Qa (QD h11) Qa (Qg Qa Qa (QD h11) Qa (Q1 Qa (QD h11) Qa Qa (Qc Qa Qa (Qh (Qd (Qk [0,2,50] Qa (QP Qa (Qf (Qb (Qc Qa Qa (Qh (Qd (Qo (Qz (Qm (Q5 (.inr Qa) Qa Qa ?_)))))))))))))))))))
   exact⟨_,rfl, by rw[Hk hup (by omega) (.inl (by omega))]; exact(Sat.row_nil Zn (Qu (E:=E) (by rw[hq_o]; exact((ZR hS5).pick [1,2,3,4,0,5] Qa))))⟩
  refine Qj Qa Qa (Qx h11) (Qe Qa Qa (Qj Qa Qa (Qx h11) (Ql Qa Qa (Qj Qa Qa (Qx h11) (Qi Qa Xt Qa (Qj Qa Qa (Qx h11) (Qr Qa ZA (hS5.cell 0 Qa Qa) Qa (Qj Qa Qa (Qx h11) ?_))))))))
  rcases hq_s:E.ses with _ | s
  ·rw[hq_s]at hS5
   obtain⟨rfl,hSo12⟩:=Je (hS5.pick [3,0,1,2,4] rfl)
   refine Wb underlying78 Qa Qa Qa (Q3 Qa (Qx h11) Qa Qa (Qc Qa Qa (Qh (Qd (Qk [0,2,50] Qa (QP Qa (Qf (Qb (Qc Qa Qa (Qh (Qd (Qo (Qz (Qm (Q5 (.inr Qa) Qa Qa ?_)))))))))))))))
   exact⟨_,rfl, by rw[Hk hup (by omega) (.inr (by assumption))]; exact(Sat.row_nil Zn (Qu (E:=E) (by rw[hq_s,hq_o]; exact((ZR (ZQ hSo12)).pick [2,3,4,1,0,5] Qa))))⟩
  rw[hq_s]at hS5
  obtain⟨sb,sm,rfl,hSo13⟩:=Zo (hS5.pick [3,0,1,2,4] rfl)
  refine ZG underlying78 Qa Qa Qa (Q3 Qa (Qx h11) Qa Qa (Qc Qa Qa (Qh (Qd (Qk [0,2,50] Qa (QJ Qa (Qf ?_)))))))
  have hk1:E.kind=1:= by omega
  refine Qb (Qe Qa Qa (Ql Qa Qa (Qi Qa XL Qa (Qr Qa J2 (hSo13.cell 2 Qa Qa) Qa (Qc Qa Qa (Qh (Qd (QZ Qa (fun h14=> ?_) (fun h14=> ?_)))))))))
  ·have hac:E.active=true:= by simpa using h14
   refine Qf ?_
   have hS15:=Qu (E:=E) (by rw[hq_s,hq_o]; exact((ZR (Xh (hSo13.pick [0,1,2,3,4,5] Qa))).pick [2,3,4,1,0,5] Qa))
   have hw1:SeW {s with pages:=(pushG E 4 s.pages).1}:=(hW.ses s hq_s).sim (WJ E s.pages 4)
   have hnx1:0≤E.next∧E.next<Zt (X8 {s with pages:=(pushG E 4 s.pages).1}):= by rw[YV (WJ E s.pages 4)]; exact⟨(hW.nx hac s hq_s).1,(hW.nx hac s hq_s).2.1⟩
   refine Qb (Qe Qa Qa (Q0 T2 Qa (H8 (hS15.sp [0] Qa) (hG.starL 0 Qa) hq_s (hW.ses s hq_s) hmv) Qa ?_))
   rintro _ w16 hS16
   replace hS16:=hS16.jn Qa Qa
   have h1p:=hS16.own_one 0 Qa
   refine Qe Qa Qa (Q0 T1 Qa (H7 (E:={E with ses:=some {s with pages:=(pushG E 4 s.pages).1}}) (hS16.sp [1] Qa) (hG.starL 1 Qa) (s:={s with pages:=(pushG E 4 s.pages).1}) Qa hw1 hmv hnx1) Qa ?_)
   rintro _ w17 hS17
   replace hS17:=hS17.jn Qa Qa
   have h1q:=hS17.own_one 0 Qa
   have hpl:=Y0 E s.pages 4
   have hql: ∀l n nx,(ZJ {E with ses:=some {s with pages:=(pushG E 4 s.pages).1}} l n (min n 32).toNat nx).2.length≤32:= fun l n nx=> by rw[Wn];omega
   refine Zi Zn 2 hS17 Qa Qa Qa (hS17.rd 0 Qa (by split; simp; exact Nat.le_trans (hql _ _ _) (by decide))) underlying66 underlying66 (by intro k hk; cases hk) Um Qa (by split; simp;omega; rw[Wn];omega) Qa (by split; simp;omega; rw[Wn];omega) ?_
   intro v18 w18 hS18; dsimp only[List.set]at hS18
   refine Qc Qa Qa (Qh (Qd (Qk [0,2] Qa (Qo (Qz (Qm (Q5 (.inr Qa) Qa Qa ?_)))))))
   have hz:=hS18.pick [2,1,3] Qa
   simp only[UD (E:=E) (E':={E with ses:=some {s with pages:=(pushG E 4 s.pages).1}}) Qa]at hz
   exact⟨_,rfl, by rw[U8 hup hk1 hq_s hac]; exact hz⟩
  have hac:E.active=false:= by simpa using h14
  have hS19:=Qu (E:=E) (by rw[hq_s,hq_o]; exact((ZR (Xh (hSo13.pick [0,1,2,3,4,5] Qa))).pick [2,3,4,1,0,5] Qa))
  refine Qt (Qq (Qd (Qf (Qb (Qc Qa Qa (Qh (Qd (Qf (Qb (Qe Qa Qa (Q0 KJ Qa (Yv (hS19.sp [0] Qa) hW.ses) Qa ?_)))))))))))
  rintro _ w20 hS20
  replace hS20:=hS20.jn Qa Qa
  have h1v:=hS20.own_one 0 Qa
  refine Qc Qa Qa (Qh ?_)
  obtain⟨ao,cap,hv21,hcap,_⟩:=hS20.own_shape 0 rfl
  obtain rfl:=hv21
  refine Qd (Qk [0,2,3,4] Qa (Qf (Qf (Qb (Qe Qa Qa (Qe Qa Qa (Xm underlying33 Qa Qa (Uc Qa Qa Qa (UO 0 (min (QY E).length 4) underlying33 WA Qa (UN _) (Hx (min (QY E).length 4) _ Qa (by omega)) (by omega) (by omega) Qa ?_)))))))))
  rw[G9]
  refine Xm underlying33 Qa Qa (Qe Qa Qa (Qh (Qd (Qk [0,2,3,4,79,80,81] Qa (QK ?_)))))
  have hS22:=Sat.row_nil Zn hS20
  refine XJ (fun K0 E0 W0=> ∃(i:Nat) (ov9:Value),K0=(min (QY E).length 4) -i∧E0=[(0,ptrV e 0),(3,ov9),(4,.slice ao (QY E).length cap),(79,.slice ao (min (QY E).length 4) cap),(80,intV (((min (QY E).length 4):Nat):Int)),(81,intV (i:Int))]∧Sat W0 [rowT Zn ov9 (((QY E).take i).map fun i=>Z3 E 6 i 0 []),rowT inC (.slice ao (QY E).length cap) (QY E),Xw e E,F]∧(i≤(min (QY E).length 4))) (L0:=[(0,_),(3,_),(4,_),(79,_),(80,_),(81,_)]) ((min (QY E).length 4) -0) (TH Qa Qa Qa Qa Qa Qa) ⟨0,_,rfl,rfl,hS22.pick [0,1,2,3] Qa, by omega⟩ ?_
  rintro _ _ w23 ⟨i,ov9,rfl,rfl,hS23,hi⟩
  have h1ov:ov9.oneCell'=true:=hS23.own_one 0 Qa
  refine Qf (Qb (X5 Qa Qa Qa (Qh (Qd (Qf (Qv Qa (fun h24=> ?_) (fun h24=> ?_)))))))
  ·have hlt:i<(min (QY E).length 4):= by have q9:=h24;omega
   obtain⟨x,hxm⟩: ∃x,(QY E)[i]? =some x:=⟨_,WY (by omega)⟩
   have hxt:((QY E).take (min (QY E).length 4))[i]? =some x:= by rw[List.getElem?_take,if_pos (by omega)]; exact hxm
   have hrd:RdL inC (.slice ao (min (QY E).length 4) cap) ((QY E).take (min (QY E).length 4)) w23:= by have h0:=Ent.sat (V9 (C:=inC) (a:=ao) (cap:=cap) (A:=0) (B:=(min (QY E).length 4)) (l:=QY E) (by omega) (by omega) (by omega) hcap) hS23 1 Qa; rw[G9,List.drop_zero]at h0; exact h0
   obtain⟨b,off,rfl,hc⟩:=hrd.get hxt
   have hxi:=Bk hW.ses x (List.mem_of_getElem? hxm)
   refine Qt (Qd (Qf (QK (Qf (Qb (XZ i Qa Qa (by rfl) (by omega) Kz Qa ?_))))))
   refine Qr Qa QH (hc 0 _ Qa) Qa (Qc Qa Qa (Qh (Qd (Qb (Qe Qa Qa (Qe Qa Qa (Qe Qa Qa ?_)))))))
   refine Q0 WH Qa (WG (hS23.sp [2] Qa) (hG.starL 2 Qa) (k:=6) (a:=x) (b:=0) (s:=[]) ⟨XG (k:=6) (by decide),hmv,hxi, by show X4 0; exact ZS, by show([]:Bs).length≤_; simp⟩) Qa ?_
   rintro _ w25 ⟨rfl,hS25⟩
   replace hS25:=hS25.jn Qa Qa
   refine Xe Zn [Z3 E 6 x 0 []] hS25 Qa underlying66 J8 Qa Qa Qa Qa (by rfl) rfl ?_
   intro b26 w26 hS26
   refine Zi Zn 2 hS26 Qa Qa Qa (hS26.rd 0 Qa (by simp)) underlying66 underlying66 (by intro k hk; cases hk) Um Qa (by simp only[List.length_map,List.length_take,List.length_cons,List.length_nil];omega) Qa (by simp only[List.length_map,List.length_take,List.length_cons,List.length_nil];omega) ?_
   intro v27 w27 hS27; dsimp only[List.set]at hS27
   have h1v27:v27.oneCell'=true:=hS27.own_one 2 Qa
   refine Qc Qa Qa (Qh (Qq (Qd (Qk [81,80,79,4,0,3] Qa (Qb (XC Qa Qa (by omega) (by omega) Qa ?_))))))
   refine Qe Qa Qa (Qh ?_)
   exact Xj (L1:=[(0,_),(3,_),(4,_),(79,_),(80,_),(81,intV ((i+1:Nat):Int))]) (TH Qa Qa Qa Qa Qa Qa) (k1:=(min (QY E).length 4) -(i+1)) (by omega) ⟨i+1,_,rfl,rfl,(by rw[List.take_add_one,hxm,List.map_append]; exact hS27.pick [2,3,1,4] Qa), by omega⟩
  refine X6 (Q6 (Q6 (QR (Qd (Qf (Qf (Qb (Qe Qa Qa (Xm underlying33 Qa Qa (QL Qa Qa Qa (Qe Qa Qa (Q4 95 Qa (fun h28=> ?_) (fun h28=> ?_)))))))))))))
  ·refine Qj Qa Qa (QD h28) ?_
   obtain⟨dp,cv,sv,ov,hS29⟩:=QU (hS23.pick [2,0,1,3] rfl)
   refine Qe Qa Qa (Qj Qa Qa (QD h28) (Ql Qa Qa (Qj Qa Qa (QD h28) (Qi Qa HA Qa (Qj Qa Qa (QD h28) (Qr Qa J2 (hS29.cell 0 Qa Qa) Qa (Qj Qa Qa (QD h28) (XN Qa Qa (Q1 Qa (QD h28) Qa Qa (Qh (Qd (Qk [3,0,101] Qa (QZ Qa (fun h30=> ?_) (fun h30=> ?_))))))))))))))
   ·refine Qb (Qe Qa Qa (Qe Qa Qa ?_))
    have hS31:=Qu (E:=E) (hS29.pick [0,1,2,3,4,5,6,7] Qa)
    refine Q0 WH Qa (WG (hS31.sp [0] Qa) (hG.starL 2 Qa) (k:=8) (a:=0) (b:=0) (s:=[]) (JW (XG (by decide)) hmv)) Qa ?_
    rintro _ w32 ⟨rfl,hS32⟩
    replace hS32:=hS32.jn Qa Qa
    refine Xe Zn [Z3 E 8 0 0 []] hS32 Qa underlying66 J8 Qa Qa Qa Qa (by rfl) rfl ?_
    intro b33 w33 hS33
    refine Zi Zn 2 hS33 Qa Qa Qa (hS33.rd 0 Qa (by simp)) underlying66 underlying66 (by intro k hk; cases hk) Um Qa (by simp only[List.length_map,List.length_take,List.length_cons,List.length_nil];omega) Qa (by simp only[List.length_map,List.length_take,List.length_cons,List.length_nil];omega) ?_
    intro v34 w34 hS34; dsimp only[List.set]at hS34
    have h1v34:v34.oneCell'=true:=hS34.own_one 2 Qa
    refine Qc Qa Qa (Qh (Qd (Qf (Qb (Qe Qa Qa (Qc Qa Qa (Qh (Qd (Qo (Q5 (.inr Qa) Qa Qa ?_))))))))))
    have hz:=hS34.pick [2,1,4] Qa
    rw[show i=(min (QY E).length 4) by omega,Jp]at hz
    exact⟨_,rfl, by rw[WI hup hk1 hq_s hac];unfold Ue; rw[if_pos ⟨List.eq_nil_of_length_eq_zero (by omega), by simp_all⟩]; exact hz⟩
   refine Qt (Qd (Qf (Qb (Qe Qa Qa (Qc Qa Qa (Qh (Qd (Qo (Q5 (.inr Qa) Qa Qa ?_)))))))))
   have hz:=(Qu (E:=E) ((hS29.pick [0,1,2,3,4,5,7] Qa))).reorder [1,0,2] Qa
   rw[show i=(min (QY E).length 4) by omega,Jp]at hz
   exact⟨_,rfl, by rw[WI hup hk1 hq_s hac];unfold Ue; rw[if_neg (by rintro⟨q1,q2⟩;simp_all),List.append_nil]; exact hz⟩
  refine Qg Qa Qa (Qx h28) Qa (Qg Qa Qa (Qx h28) Qa (Qg Qa Qa (Qx h28) Qa (Qg Qa Qa (Qx h28) Qa (Qg Qa Qa (Qx h28) Qa (Q3 Qa (Qx h28) Qa Qa (Qh (Qd (Qk [3,0,101] Qa (QJ Qa (Qt (Qd (Qf (Qb (Qe Qa Qa (Qc Qa Qa (Qh (Qd (Qo (Q5 (.inr Qa) Qa Qa ?_)))))))))))))))))))
  have hz:=hS23.pick [0,2,3] Qa
  rw[show i=(min (QY E).length 4) by omega,Jp]at hz
  exact⟨_,rfl, by rw[WI hup hk1 hq_s hac];unfold Ue; rw[if_neg (by rintro⟨q1,q2⟩;simp_all),List.append_nil]; exact hz⟩
 refine Q2 Qa Qa (Qs Qa Qa (Qx h6)) (Q2 Qa Qa (Qs Qa Qa (Qx h6)) (Q2 Qa Qa (Qs Qa Qa (Qx h6)) (Q2 Qa Qa (Qs Qa Qa (Qx h6)) (Q2 Qa Qa (Qs Qa Qa (Qx h6)) (Q9 Qa Qa Qa (fun _=>(Xi Qa (Qx h6) Qa)) ?_)))))
 refine QI Qa Qa Qa (Q2 Qa Qa (Qs Qa Qa Qa) (Q2 Qa Qa (Qs Qa Qa Qa) (Q2 Qa Qa (Qs Qa Qa Qa) (Q2 Qa Qa (Qs Qa Qa Qa) (Q2 Qa Qa (Qs Qa Qa Qa) (Q2 Qa Qa (Qs Qa Qa Qa) (Q2 Qa Qa (Qs Qa Qa Qa) (Q2 Qa Qa (Qs Qa Qa Qa) (Q2 Qa Qa (Qs Qa Qa Qa) (Q2 Qa Qa (Qs Qa Qa Qa) (Q2 Qa Qa (Qs Qa Qa Qa) (Q2 Qa Qa (Qs Qa Qa Qa) (Q9 Qa Qa Qa (fun _=>(Xi Qa Qa Qa)) ?_)))))))))))))
 refine WV Qa Qa Qa (VC.nil (Qd (Qk [0,2,11] Qa (QJ Qa (Qf (Qb (Qe Qa Qa (Ql Qa Qa (Qi Qa Zh Qa (Qr Qa QH (hS5.cell 0 Qa Qa) Qa (QL Qa Qa Qa (Qc Qa Qa (Qh (Qd (Qv Qa (fun h35=> ?_) (fun h35=> ?_))))))))))))))))
 ·refine Qf (Qb (Qe Qa Qa ?_))
  have hS36:=Qu (E:=E) (by rw[hq_o]; exact((ZR hS5).pick [1,2,3,4,0,5] Qa))
  refine Q0 WH Qa (WG (hS36.sp [0] Qa) (hG.starL 0 Qa) (k:=3) (a:=0) (b:=0) (s:=[]) (JW (XG (by decide)) hmv)) Qa ?_
  rintro _ w37 ⟨rfl,hS37⟩
  replace hS37:=hS37.jn Qa Qa
  refine Xe Zn [Z3 E 3 0 0 []] hS37 Qa underlying66 J8 Qa Qa Qa Qa (by rfl) rfl ?_
  intro b38 w38 hS38
  refine Qc Qa Qa (Qh (Qd (Qk [0,2] Qa (Qo (Qz (Qm (Q5 (.inr Qa) Qa Qa ?_)))))))
  exact⟨_,rfl, by rw[VL hup (by omega) (fun z hz=> by rw[hq_o]at hz;(cases hz;done))]; exact hS38.pick [0,1,2] Qa⟩
 refine Qf (Qb (Qe Qa Qa (Ql Qa Qa (Qi Qa Zh Qa (Qr Qa QH (hS5.cell 0 Qa Qa) Qa (Xu Qa Qa Qa (Qe Qa Qa (Q4 56 Qa (fun h39=> ?_) (fun h39=> ?_)))))))))
 ·refine Qg Qa Qa (QD h39) Qa (Qg Qa Qa (QD h39) Qa (Qg Qa Qa (QD h39) Qa (Qg Qa Qa (QD h39) Qa (Qg Qa Qa (QD h39) Qa (Q1 Qa (QD h39) Qa Qa (Qc Qa Qa (Qh (Qd (Qk [0,2,50] Qa (QP Qa (Qf (Qb (Qc Qa Qa (Qh (Qd (Qo (Qz (Qm (Q5 (.inr Qa) Qa Qa ?_)))))))))))))))))))
  exact⟨_,rfl, by rw[Hk hup (by omega) (.inl (by omega))]; exact(Sat.row_nil Zn (Qu (E:=E) (by rw[hq_o]; exact((ZR hS5).pick [1,2,3,4,0,5] Qa))))⟩
 refine Qj Qa Qa (Qx h39) (Qe Qa Qa (Qj Qa Qa (Qx h39) (Ql Qa Qa (Qj Qa Qa (Qx h39) (Qi Qa Xt Qa (Qj Qa Qa (Qx h39) (Qr Qa ZA (hS5.cell 0 Qa Qa) Qa (Qj Qa Qa (Qx h39) ?_))))))))
 rcases hq_s:E.ses with _ | s
 ·rw[hq_s]at hS5
  obtain⟨rfl,hSo40⟩:=Je (hS5.pick [3,0,1,2,4] rfl)
  refine Wb underlying78 Qa Qa Qa (Q3 Qa (Qx h39) Qa Qa (Qc Qa Qa (Qh (Qd (Qk [0,2,50] Qa (QP Qa (Qf (Qb (Qc Qa Qa (Qh (Qd (Qo (Qz (Qm (Q5 (.inr Qa) Qa Qa ?_)))))))))))))))
  exact⟨_,rfl, by rw[Hk hup (by omega) (.inr (by assumption))]; exact(Sat.row_nil Zn (Qu (E:=E) (by rw[hq_s,hq_o]; exact((ZR (ZQ hSo40)).pick [2,3,4,1,0,5] Qa))))⟩
 rw[hq_s]at hS5
 obtain⟨sb,sm,rfl,hSo41⟩:=Zo (hS5.pick [3,0,1,2,4] rfl)
 refine ZG underlying78 Qa Qa Qa (Q3 Qa (Qx h39) Qa Qa (Qc Qa Qa (Qh (Qd (Qk [0,2,50] Qa (QJ Qa (Qf ?_)))))))
 have hk1:E.kind=1:= by omega
 refine Qb (Qe Qa Qa (Ql Qa Qa (Qi Qa XL Qa (Qr Qa J2 (hSo41.cell 2 Qa Qa) Qa (Qc Qa Qa (Qh (Qd (QZ Qa (fun h42=> ?_) (fun h42=> ?_)))))))))
 ·have hac:E.active=true:= by simpa using h42
  refine Qf ?_
  have hS43:=Qu (E:=E) (by rw[hq_s,hq_o]; exact((ZR (Xh (hSo41.pick [0,1,2,3,4,5] Qa))).pick [2,3,4,1,0,5] Qa))
  have hw1:SeW {s with pages:=(pushG E 4 s.pages).1}:=(hW.ses s hq_s).sim (WJ E s.pages 4)
  have hnx1:0≤E.next∧E.next<Zt (X8 {s with pages:=(pushG E 4 s.pages).1}):= by rw[YV (WJ E s.pages 4)]; exact⟨(hW.nx hac s hq_s).1,(hW.nx hac s hq_s).2.1⟩
  refine Qb (Qe Qa Qa (Q0 T2 Qa (H8 (hS43.sp [0] Qa) (hG.starL 0 Qa) hq_s (hW.ses s hq_s) hmv) Qa ?_))
  rintro _ w44 hS44
  replace hS44:=hS44.jn Qa Qa
  have h1p:=hS44.own_one 0 Qa
  refine Qe Qa Qa (Q0 T1 Qa (H7 (E:={E with ses:=some {s with pages:=(pushG E 4 s.pages).1}}) (hS44.sp [1] Qa) (hG.starL 1 Qa) (s:={s with pages:=(pushG E 4 s.pages).1}) Qa hw1 hmv hnx1) Qa ?_)
  rintro _ w45 hS45
  replace hS45:=hS45.jn Qa Qa
  have h1q:=hS45.own_one 0 Qa
  have hpl:=Y0 E s.pages 4
  have hql: ∀l n nx,(ZJ {E with ses:=some {s with pages:=(pushG E 4 s.pages).1}} l n (min n 32).toNat nx).2.length≤32:= fun l n nx=> by rw[Wn];omega
  refine Zi Zn 2 hS45 Qa Qa Qa (hS45.rd 0 Qa (by split; simp; exact Nat.le_trans (hql _ _ _) (by decide))) underlying66 underlying66 (by intro k hk; cases hk) Um Qa (by split; simp;omega; rw[Wn];omega) Qa (by split; simp;omega; rw[Wn];omega) ?_
  intro v46 w46 hS46; dsimp only[List.set]at hS46
  refine Qc Qa Qa (Qh (Qd (Qk [0,2] Qa (Qo (Qz (Qm (Q5 (.inr Qa) Qa Qa ?_)))))))
  have hz:=hS46.pick [2,1,3] Qa
  simp only[UD (E:=E) (E':={E with ses:=some {s with pages:=(pushG E 4 s.pages).1}}) Qa]at hz
  exact⟨_,rfl, by rw[U8 hup hk1 hq_s hac]; exact hz⟩
 have hac:E.active=false:= by simpa using h42
 have hS47:=Qu (E:=E) (by rw[hq_s,hq_o]; exact((ZR (Xh (hSo41.pick [0,1,2,3,4,5] Qa))).pick [2,3,4,1,0,5] Qa))
 refine Qt (Qq (Qd (Qf (Qb (Qc Qa Qa (Qh (Qd (Qf (Qb (Qe Qa Qa (Q0 KJ Qa (Yv (hS47.sp [0] Qa) hW.ses) Qa ?_)))))))))))
 rintro _ w48 hS48
 replace hS48:=hS48.jn Qa Qa
 have h1v:=hS48.own_one 0 Qa
 refine Qc Qa Qa (Qh ?_)
 obtain⟨ao,cap,hv49,hcap,_⟩:=hS48.own_shape 0 rfl
 obtain rfl:=hv49
 refine Qd (Qk [0,2,3,4] Qa (Qf (Qf (Qb (Qe Qa Qa (Qe Qa Qa (Xm underlying33 Qa Qa (Uc Qa Qa Qa (UO 0 (min (QY E).length 4) underlying33 WA Qa (UN _) (Hx (min (QY E).length 4) _ Qa (by omega)) (by omega) (by omega) Qa ?_)))))))))
 rw[G9]
 refine Xm underlying33 Qa Qa (Qe Qa Qa (Qh (Qd (Qk [0,2,3,4,79,80,81] Qa (QK ?_)))))
 have hS50:=Sat.row_nil Zn hS48
 refine XJ (fun K0 E0 W0=> ∃(i:Nat) (ov9:Value),K0=(min (QY E).length 4) -i∧E0=[(0,ptrV e 0),(3,ov9),(4,.slice ao (QY E).length cap),(79,.slice ao (min (QY E).length 4) cap),(80,intV (((min (QY E).length 4):Nat):Int)),(81,intV (i:Int))]∧Sat W0 [rowT Zn ov9 (((QY E).take i).map fun i=>Z3 E 6 i 0 []),rowT inC (.slice ao (QY E).length cap) (QY E),Xw e E,F]∧(i≤(min (QY E).length 4))) (L0:=[(0,_),(3,_),(4,_),(79,_),(80,_),(81,_)]) ((min (QY E).length 4) -0) (TH Qa Qa Qa Qa Qa Qa) ⟨0,_,rfl,rfl,hS50.pick [0,1,2,3] Qa, by omega⟩ ?_
 rintro _ _ w51 ⟨i,ov9,rfl,rfl,hS51,hi⟩
 have h1ov:ov9.oneCell'=true:=hS51.own_one 0 Qa
 refine Qf (Qb (X5 Qa Qa Qa (Qh (Qd (Qf (Qv Qa (fun h52=> ?_) (fun h52=> ?_)))))))
 ·have hlt:i<(min (QY E).length 4):= by have q9:=h52;omega
  obtain⟨x,hxm⟩: ∃x,(QY E)[i]? =some x:=⟨_,WY (by omega)⟩
  have hxt:((QY E).take (min (QY E).length 4))[i]? =some x:= by rw[List.getElem?_take,if_pos (by omega)]; exact hxm
  have hrd:RdL inC (.slice ao (min (QY E).length 4) cap) ((QY E).take (min (QY E).length 4)) w51:= by have h0:=Ent.sat (V9 (C:=inC) (a:=ao) (cap:=cap) (A:=0) (B:=(min (QY E).length 4)) (l:=QY E) (by omega) (by omega) (by omega) hcap) hS51 1 Qa; rw[G9,List.drop_zero]at h0; exact h0
  obtain⟨b,off,rfl,hc⟩:=hrd.get hxt
  have hxi:=Bk hW.ses x (List.mem_of_getElem? hxm)
  refine Qt (Qd (Qf (QK (Qf (Qb (XZ i Qa Qa (by rfl) (by omega) Kz Qa ?_))))))
  refine Qr Qa QH (hc 0 _ Qa) Qa (Qc Qa Qa (Qh (Qd (Qb (Qe Qa Qa (Qe Qa Qa (Qe Qa Qa ?_)))))))
  refine Q0 WH Qa (WG (hS51.sp [2] Qa) (hG.starL 2 Qa) (k:=6) (a:=x) (b:=0) (s:=[]) ⟨XG (k:=6) (by decide),hmv,hxi, by show X4 0; exact ZS, by show([]:Bs).length≤_; simp⟩) Qa ?_
  rintro _ w53 ⟨rfl,hS53⟩
  replace hS53:=hS53.jn Qa Qa
  refine Xe Zn [Z3 E 6 x 0 []] hS53 Qa underlying66 J8 Qa Qa Qa Qa (by rfl) rfl ?_
  intro b54 w54 hS54
  refine Zi Zn 2 hS54 Qa Qa Qa (hS54.rd 0 Qa (by simp)) underlying66 underlying66 (by intro k hk; cases hk) Um Qa (by simp only[List.length_map,List.length_take,List.length_cons,List.length_nil];omega) Qa (by simp only[List.length_map,List.length_take,List.length_cons,List.length_nil];omega) ?_
  intro v55 w55 hS55; dsimp only[List.set]at hS55
  have h1v55:v55.oneCell'=true:=hS55.own_one 2 Qa
  refine Qc Qa Qa (Qh (Qq (Qd (Qk [81,80,79,4,0,3] Qa (Qb (XC Qa Qa (by omega) (by omega) Qa ?_))))))
  refine Qe Qa Qa (Qh ?_)
  exact Xj (L1:=[(0,_),(3,_),(4,_),(79,_),(80,_),(81,intV ((i+1:Nat):Int))]) (TH Qa Qa Qa Qa Qa Qa) (k1:=(min (QY E).length 4) -(i+1)) (by omega) ⟨i+1,_,rfl,rfl,(by rw[List.take_add_one,hxm,List.map_append]; exact hS55.pick [2,3,1,4] Qa), by omega⟩
 refine X6 (Q6 (Q6 (QR (Qd (Qf (Qf (Qb (Qe Qa Qa (Xm underlying33 Qa Qa (QL Qa Qa Qa (Qe Qa Qa (Q4 95 Qa (fun h56=> ?_) (fun h56=> ?_)))))))))))))
 ·refine Qj Qa Qa (QD h56) ?_
  obtain⟨dp,cv,sv,ov,hS57⟩:=QU (hS51.pick [2,0,1,3] rfl)
  refine Qe Qa Qa (Qj Qa Qa (QD h56) (Ql Qa Qa (Qj Qa Qa (QD h56) (Qi Qa HA Qa (Qj Qa Qa (QD h56) (Qr Qa J2 (hS57.cell 0 Qa Qa) Qa (Qj Qa Qa (QD h56) (XN Qa Qa (Q1 Qa (QD h56) Qa Qa (Qh (Qd (Qk [3,0,101] Qa (QZ Qa (fun h58=> ?_) (fun h58=> ?_))))))))))))))
  ·refine Qb (Qe Qa Qa (Qe Qa Qa ?_))
   have hS59:=Qu (E:=E) (hS57.pick [0,1,2,3,4,5,6,7] Qa)
   refine Q0 WH Qa (WG (hS59.sp [0] Qa) (hG.starL 2 Qa) (k:=8) (a:=0) (b:=0) (s:=[]) (JW (XG (by decide)) hmv)) Qa ?_
   rintro _ w60 ⟨rfl,hS60⟩
   replace hS60:=hS60.jn Qa Qa
   refine Xe Zn [Z3 E 8 0 0 []] hS60 Qa underlying66 J8 Qa Qa Qa Qa (by rfl) rfl ?_
   intro b61 w61 hS61
   refine Zi Zn 2 hS61 Qa Qa Qa (hS61.rd 0 Qa (by simp)) underlying66 underlying66 (by intro k hk; cases hk) Um Qa (by simp only[List.length_map,List.length_take,List.length_cons,List.length_nil];omega) Qa (by simp only[List.length_map,List.length_take,List.length_cons,List.length_nil];omega) ?_
   intro v62 w62 hS62; dsimp only[List.set]at hS62
   have h1v62:v62.oneCell'=true:=hS62.own_one 2 Qa
   refine Qc Qa Qa (Qh (Qd (Qf (Qb (Qe Qa Qa (Qc Qa Qa (Qh (Qd (Qo (Q5 (.inr Qa) Qa Qa ?_))))))))))
   have hz:=hS62.pick [2,1,4] Qa
   rw[show i=(min (QY E).length 4) by omega,Jp]at hz
   exact⟨_,rfl, by rw[WI hup hk1 hq_s hac];unfold Ue; rw[if_pos ⟨List.eq_nil_of_length_eq_zero (by omega), by simp_all⟩]; exact hz⟩
  refine Qt (Qd (Qf (Qb (Qe Qa Qa (Qc Qa Qa (Qh (Qd (Qo (Q5 (.inr Qa) Qa Qa ?_)))))))))
  have hz:=(Qu (E:=E) ((hS57.pick [0,1,2,3,4,5,7] Qa))).reorder [1,0,2] Qa
  rw[show i=(min (QY E).length 4) by omega,Jp]at hz
  exact⟨_,rfl, by rw[WI hup hk1 hq_s hac];unfold Ue; rw[if_neg (by rintro⟨q1,q2⟩;simp_all),List.append_nil]; exact hz⟩
 refine Qg Qa Qa (Qx h56) Qa (Qg Qa Qa (Qx h56) Qa (Qg Qa Qa (Qx h56) Qa (Qg Qa Qa (Qx h56) Qa (Qg Qa Qa (Qx h56) Qa (Q3 Qa (Qx h56) Qa Qa (Qh (Qd (Qk [3,0,101] Qa (QJ Qa (Qt (Qd (Qf (Qb (Qe Qa Qa (Qc Qa Qa (Qh (Qd (Qo (Q5 (.inr Qa) Qa Qa ?_)))))))))))))))))))
 have hz:=hS51.pick [0,2,3] Qa
 rw[show i=(min (QY E).length 4) by omega,Jp]at hz
 exact⟨_,rfl, by rw[WI hup hk1 hq_s hac];unfold Ue; rw[if_neg (by rintro⟨q1,q2⟩;simp_all),List.append_nil]; exact hz⟩
theorem tick_b {w:World} {e:Nat} {E:EnD} {F:Th} (hS:Sat w [Xw e E,F]) (hG:Ent F WireG) (hW:EW E) {o:OfD} (hq_o:E.off=some o):
    Calls prog 36 #[ptrV e 0] w (Ret fun v w'=>Sat w' [rowT Zn v (Z4 E).2,Xw e (Z4 E).1,F]):= by
 refine Qy func36 Qa ntmps36 Qa ?_
 have hmv:=hW.km.2.2.2
 have hml:=Cw hW.ses
 refine Qf (Qb (Qc Qa Qa (Qh (Qd (Qf (QK (Qf (Qb (Qe Qa Qa (Q0 KK Qa (B9 (hS.sp [0] Qa)) Qa ?_))))))))))
 rintro _ w1 ⟨rfl,hS1⟩
 replace hS1:=hS1.jn Qa Qa
 refine XN Qa Qa (Qc Qa Qa (Qh (Qd (QZ Qa (fun h2=> ?_) (fun h2=> ?_)))))
 ·have hu0:upE E=false:= by simpa using h2
  refine Qf (Qb (Qc Qa Qa (Qh (Qd (Qo (Qz (Qm (Q5 (.inr Qa) Qa Qa ?_))))))))
  exact⟨_,rfl, by rw[PQ hu0]; exact(Sat.row_nil Zn (hS1.pick [0,1] Qa))⟩
 have hup: ¬upE E=false:= by simpa using h2
 refine Qf ?_
 obtain⟨dp,cv,sv,ov,hS3⟩:=QU (hS1.pick [0,1] rfl)
 rw[hq_o]at hS3
 obtain⟨ob,om,on,rfl,hS4⟩:=RW (hS3.pick [4,0,1,2,3,5] rfl)
 have hS5:=hS4.drew
 refine QN [0,1,2,3,4,5,6,7,8,9,10,11,12,13,14,15,16,17,18,19,20,21,22,23,24,25,26] [] W5 (by kernel_rfl) ?_
 refine QI Qa Qa Qa (Xn Qa Qa Qa (QO Qa Qa Qa Zh (QF Qa Qa Qa (Qn Qa QH (hS5.cell 3 Qa Qa)) (Q9 Qa Qa Qa (fun _=>(Ya Qa Qa)) ?_))))
 refine QI Qa Qa Qa (XB 17 Qa (fun h6=> ?_) (fun h6=> ?_))
 ·refine Q9 Qa Qa (Qp Qa Qa (QD h6)) (fun _=>(Ev.gd (Xk Qa))) ?_
  refine Q9 Qa Qa (Qp Qa Qa (QD h6)) (fun _=>(Ev.gd (Xy Qa))) ?_
  refine Q9 Qa Qa (Qp Qa Qa (QD h6)) (fun _=>(Ev.gd (QS Qa W2))) ?_
  refine QF Qa Qa (Qp Qa Qa (QD h6)) (Ev.gd (Qn Qa Ut (hS5.cell 3 Qa Qa))) (Q9 Qa Qa (Qp Qa Qa (QD h6)) (fun _=>(Ev.gd (HI underlying79 Qa Qa))) ?_)
  refine Q9 Qa Qa Qa (fun _=>(Xz Qa (QD h6) Qa)) ?_
  refine QI Qa Qa Qa (Q9 Qa Qa (Qp Qa Qa Qa) (fun _=>(Ev.gd (Xk Qa))) ?_)
  refine Q9 Qa Qa (Qp Qa Qa Qa) (fun _=>(Ev.gd (Xy Qa))) ?_
  refine Q9 Qa Qa (Qp Qa Qa Qa) (fun _=>(Ev.gd (QS Qa W2))) ?_
  refine QF Qa Qa (Qp Qa Qa Qa) (Ev.gd (Qn Qa Ut (hS5.cell 3 Qa Qa))) (Q9 Qa Qa (Qp Qa Qa Qa) (fun _=>(Ev.gd (Xy Qa))) ?_)
  refine Q9 Qa Qa (Qp Qa Qa Qa) (fun _=>(Ev.gd (QS Qa Ry))) ?_
  refine QF Qa Qa (Qp Qa Qa Qa) (Ev.gd (Qn Qa QH (hS5.cell 0 Qa Qa))) (Q9 Qa Qa (Qp Qa Qa Qa) (fun _=>(Ev.gd (Xk Qa))) ?_)
  refine Q9 Qa Qa (Qp Qa Qa Qa) (fun _=>(Ev.gd (Xy Qa))) ?_
  refine Q9 Qa Qa (Qp Qa Qa Qa) (fun _=>(Ev.gd (QS Qa Wp))) ?_
  refine QF Qa Qa (Qp Qa Qa Qa) (Ev.gd (Qn Qa QH (hS5.cell 3 Qa Qa))) (Q9 Qa Qa (Qp Qa Qa Qa) (fun _=>(Ev.gd (Ya Qa Qa))) ?_)
  refine Q9 Qa Qa Qa (fun _=>(Xz Qa Qa Qa)) ?_
  refine WV Qa Qa Qa (VC.nil (Qd (Qk [0,2,11] Qa (Qv Qa (fun h7=> ?_) (fun h7=> ?_)))))
  ·refine Qf (Qb (Qe Qa Qa ?_))
   have hS8:=Qu (E:=E) (by rw[hq_o]; exact((XE (hS5.pick [0,1,2,3,4,5,6,7] Qa)).pick [1,2,3,4,0,5] Qa))
   refine Q0 WH Qa (WG (hS8.sp [0] Qa) (hG.starL 0 Qa) (k:=2) (a:=0) (b:=0) (s:=[]) (JW (XG (by decide)) hmv)) Qa ?_
   rintro _ w9 ⟨rfl,hS9⟩
   replace hS9:=hS9.jn Qa Qa
   refine Xe Zn [Z3 E 2 0 0 []] hS9 Qa underlying66 J8 Qa Qa Qa Qa (by rfl) rfl ?_
   intro b10 w10 hS10
   refine Qc Qa Qa (Qh (Qd (Qo (Qz (Qm (Q5 (.inr Qa) Qa Qa ?_))))))
   exact⟨_,rfl, by rw[LA hup (by omega) hq_o (by omega)]; exact hS10.pick [0,1,2] Qa⟩
  refine Qf (Qb (Qe Qa Qa (Ql Qa Qa (Qi Qa Zh Qa (Qr Qa QH (hS5.cell 3 Qa Qa) Qa (QL Qa Qa Qa (Qc Qa Qa (Qh (Qd (Qv Qa (fun h11=> ?_) (fun h11=> ?_)))))))))))
  ·refine Qf (Qb (Qe Qa Qa ?_))
   have hS12:=Qu (E:=E) (by rw[hq_o]; exact((XE (hS5.pick [0,1,2,3,4,5,6,7] Qa)).pick [1,2,3,4,0,5] Qa))
   refine Q0 WH Qa (WG (hS12.sp [0] Qa) (hG.starL 0 Qa) (k:=3) (a:=0) (b:=0) (s:=[]) (JW (XG (by decide)) hmv)) Qa ?_
   rintro _ w13 ⟨rfl,hS13⟩
   replace hS13:=hS13.jn Qa Qa
   refine Xe Zn [Z3 E 3 0 0 []] hS13 Qa underlying66 J8 Qa Qa Qa Qa (by rfl) rfl ?_
   intro b14 w14 hS14
   refine Qc Qa Qa (Qh (Qd (Qk [0,2] Qa (Qo (Qz (Qm (Q5 (.inr Qa) Qa Qa ?_)))))))
   exact⟨_,rfl, by rw[VL hup (by omega) (fun z hz=> by rw[hq_o]at hz;(cases hz;omega))]; exact hS14.pick [0,1,2] Qa⟩
  refine Qf (Qb (Qe Qa Qa (Ql Qa Qa (Qi Qa Zh Qa (Qr Qa QH (hS5.cell 3 Qa Qa) Qa (Xu Qa Qa Qa (Qe Qa Qa (Q4 56 Qa (fun h15=> ?_) (fun h15=> ?_)))))))))
  ·refine Qg Qa Qa (QD h15) Qa (Qg Qa Qa (QD h15) Qa (Qg Qa Qa (QD h15) Qa (Qg Qa Qa (QD h15) Qa (Qg Qa Qa (QD h15) Qa (Q1 Qa (QD h15) Qa Qa (Qc Qa Qa (Qh (Qd (Qk [0,2,50] Qa (QP Qa (Qf (Qb (Qc Qa Qa (Qh (Qd (Qo (Qz (Qm (Q5 (.inr Qa) Qa Qa ?_)))))))))))))))))))
   exact⟨_,rfl, by rw[Hk hup (by omega) (.inl (by omega))]; exact(Sat.row_nil Zn (Qu (E:=E) (by rw[hq_o]; exact((XE (hS5.pick [0,1,2,3,4,5,6,7] Qa)).pick [1,2,3,4,0,5] Qa))))⟩
  refine Qj Qa Qa (Qx h15) (Qe Qa Qa (Qj Qa Qa (Qx h15) (Ql Qa Qa (Qj Qa Qa (Qx h15) (Qi Qa Xt Qa (Qj Qa Qa (Qx h15) (Qr Qa ZA (hS5.cell 3 Qa Qa) Qa (Qj Qa Qa (Qx h15) ?_))))))))
  rcases hq_s:E.ses with _ | s
  ·rw[hq_s]at hS5
   obtain⟨rfl,hSo16⟩:=Je (hS5.pick [6,0,1,2,3,4,5,7] rfl)
   refine Wb underlying78 Qa Qa Qa (Q3 Qa (Qx h15) Qa Qa (Qc Qa Qa (Qh (Qd (Qk [0,2,50] Qa (QP Qa (Qf (Qb (Qc Qa Qa (Qh (Qd (Qo (Qz (Qm (Q5 (.inr Qa) Qa Qa ?_)))))))))))))))
   exact⟨_,rfl, by rw[Hk hup (by omega) (.inr (by assumption))]; exact(Sat.row_nil Zn (Qu (E:=E) (by rw[hq_s,hq_o]; exact((XE ((ZQ hSo16).pick [1,2,3,0,4,5,6,7] Qa)).pick [2,3,4,1,0,5] Qa))))⟩
  rw[hq_s]at hS5
  obtain⟨sb,sm,rfl,hSo17⟩:=Zo (hS5.pick [6,0,1,2,3,4,5,7] rfl)
  refine ZG underlying78 Qa Qa Qa (Q3 Qa (Qx h15) Qa Qa (Qc Qa Qa (Qh (Qd (Qk [0,2,50] Qa (QJ Qa (Qf ?_)))))))
  have hk1:E.kind=1:= by omega
  refine Qb (Qe Qa Qa (Ql Qa Qa (Qi Qa XL Qa (Qr Qa J2 (hSo17.cell 5 Qa Qa) Qa (Qc Qa Qa (Qh (Qd (QZ Qa (fun h18=> ?_) (fun h18=> ?_)))))))))
  ·have hac:E.active=true:= by simpa using h18
   refine Qf ?_
   have hS19:=Qu (E:=E) (by rw[hq_s,hq_o]; exact((XE ((Xh (hSo17.pick [0,1,2,3,4,5,6,7,8] Qa)).pick [1,2,3,0,4,5,6,7] Qa)).pick [2,3,4,1,0,5] Qa))
   have hw1:SeW {s with pages:=(pushG E 4 s.pages).1}:=(hW.ses s hq_s).sim (WJ E s.pages 4)
   have hnx1:0≤E.next∧E.next<Zt (X8 {s with pages:=(pushG E 4 s.pages).1}):= by rw[YV (WJ E s.pages 4)]; exact⟨(hW.nx hac s hq_s).1,(hW.nx hac s hq_s).2.1⟩
   refine Qb (Qe Qa Qa (Q0 T2 Qa (H8 (hS19.sp [0] Qa) (hG.starL 0 Qa) hq_s (hW.ses s hq_s) hmv) Qa ?_))
   rintro _ w20 hS20
   replace hS20:=hS20.jn Qa Qa
   have h1p:=hS20.own_one 0 Qa
   refine Qe Qa Qa (Q0 T1 Qa (H7 (E:={E with ses:=some {s with pages:=(pushG E 4 s.pages).1}}) (hS20.sp [1] Qa) (hG.starL 1 Qa) (s:={s with pages:=(pushG E 4 s.pages).1}) Qa hw1 hmv hnx1) Qa ?_)
   rintro _ w21 hS21
   replace hS21:=hS21.jn Qa Qa
   have h1q:=hS21.own_one 0 Qa
   have hpl:=Y0 E s.pages 4
   have hql: ∀l n nx,(ZJ {E with ses:=some {s with pages:=(pushG E 4 s.pages).1}} l n (min n 32).toNat nx).2.length≤32:= fun l n nx=> by rw[Wn];omega
   refine Zi Zn 2 hS21 Qa Qa Qa (hS21.rd 0 Qa (by split; simp; exact Nat.le_trans (hql _ _ _) (by decide))) underlying66 underlying66 (by intro k hk; cases hk) Um Qa (by split; simp;omega; rw[Wn];omega) Qa (by split; simp;omega; rw[Wn];omega) ?_
   intro v22 w22 hS22; dsimp only[List.set]at hS22
   refine Qc Qa Qa (Qh (Qd (Qk [0,2] Qa (Qo (Qz (Qm (Q5 (.inr Qa) Qa Qa ?_)))))))
   have hz:=hS22.pick [2,1,3] Qa
   simp only[UD (E:=E) (E':={E with ses:=some {s with pages:=(pushG E 4 s.pages).1}}) Qa]at hz
   exact⟨_,rfl, by rw[U8 hup hk1 hq_s hac]; exact hz⟩
  have hac:E.active=false:= by simpa using h18
  have hS23:=Qu (E:=E) (by rw[hq_s,hq_o]; exact((XE ((Xh (hSo17.pick [0,1,2,3,4,5,6,7,8] Qa)).pick [1,2,3,0,4,5,6,7] Qa)).pick [2,3,4,1,0,5] Qa))
  refine Qt (Qq (Qd (Qf (Qb (Qc Qa Qa (Qh (Qd (Qf (Qb (Qe Qa Qa (Q0 KJ Qa (Yv (hS23.sp [0] Qa) hW.ses) Qa ?_)))))))))))
  rintro _ w24 hS24
  replace hS24:=hS24.jn Qa Qa
  have h1v:=hS24.own_one 0 Qa
  refine Qc Qa Qa (Qh ?_)
  obtain⟨ao,cap,hv25,hcap,_⟩:=hS24.own_shape 0 rfl
  obtain rfl:=hv25
  refine Qd (Qk [0,2,3,4] Qa (Qf (Qf (Qb (Qe Qa Qa (Qe Qa Qa (Xm underlying33 Qa Qa (Uc Qa Qa Qa (UO 0 (min (QY E).length 4) underlying33 WA Qa (UN _) (Hx (min (QY E).length 4) _ Qa (by omega)) (by omega) (by omega) Qa ?_)))))))))
  rw[G9]
  refine Xm underlying33 Qa Qa (Qe Qa Qa (Qh (Qd (Qk [0,2,3,4,79,80,81] Qa (QK ?_)))))
  have hS26:=Sat.row_nil Zn hS24
  refine XJ (fun K0 E0 W0=> ∃(i:Nat) (ov9:Value),K0=(min (QY E).length 4) -i∧E0=[(0,ptrV e 0),(3,ov9),(4,.slice ao (QY E).length cap),(79,.slice ao (min (QY E).length 4) cap),(80,intV (((min (QY E).length 4):Nat):Int)),(81,intV (i:Int))]∧Sat W0 [rowT Zn ov9 (((QY E).take i).map fun i=>Z3 E 6 i 0 []),rowT inC (.slice ao (QY E).length cap) (QY E),Xw e E,F]∧(i≤(min (QY E).length 4))) (L0:=[(0,_),(3,_),(4,_),(79,_),(80,_),(81,_)]) ((min (QY E).length 4) -0) (TH Qa Qa Qa Qa Qa Qa) ⟨0,_,rfl,rfl,hS26.pick [0,1,2,3] Qa, by omega⟩ ?_
  rintro _ _ w27 ⟨i,ov9,rfl,rfl,hS27,hi⟩
  have h1ov:ov9.oneCell'=true:=hS27.own_one 0 Qa
  refine Qf (Qb (X5 Qa Qa Qa (Qh (Qd (Qf (Qv Qa (fun h28=> ?_) (fun h28=> ?_)))))))
  ·have hlt:i<(min (QY E).length 4):= by have q9:=h28;omega
   obtain⟨x,hxm⟩: ∃x,(QY E)[i]? =some x:=⟨_,WY (by omega)⟩
   have hxt:((QY E).take (min (QY E).length 4))[i]? =some x:= by rw[List.getElem?_take,if_pos (by omega)]; exact hxm
   have hrd:RdL inC (.slice ao (min (QY E).length 4) cap) ((QY E).take (min (QY E).length 4)) w27:= by have h0:=Ent.sat (V9 (C:=inC) (a:=ao) (cap:=cap) (A:=0) (B:=(min (QY E).length 4)) (l:=QY E) (by omega) (by omega) (by omega) hcap) hS27 1 Qa; rw[G9,List.drop_zero]at h0; exact h0
   obtain⟨b,off,rfl,hc⟩:=hrd.get hxt
   have hxi:=Bk hW.ses x (List.mem_of_getElem? hxm)
   refine Qt (Qd (Qf (QK (Qf (Qb (XZ i Qa Qa (by rfl) (by omega) Kz Qa ?_))))))
   refine Qr Qa QH (hc 0 _ Qa) Qa (Qc Qa Qa (Qh (Qd (Qb (Qe Qa Qa (Qe Qa Qa (Qe Qa Qa ?_)))))))
   refine Q0 WH Qa (WG (hS27.sp [2] Qa) (hG.starL 2 Qa) (k:=6) (a:=x) (b:=0) (s:=[]) ⟨XG (k:=6) (by decide),hmv,hxi, by show X4 0; exact ZS, by show([]:Bs).length≤_; simp⟩) Qa ?_
   rintro _ w29 ⟨rfl,hS29⟩
   replace hS29:=hS29.jn Qa Qa
   refine Xe Zn [Z3 E 6 x 0 []] hS29 Qa underlying66 J8 Qa Qa Qa Qa (by rfl) rfl ?_
   intro b30 w30 hS30
   refine Zi Zn 2 hS30 Qa Qa Qa (hS30.rd 0 Qa (by simp)) underlying66 underlying66 (by intro k hk; cases hk) Um Qa (by simp only[List.length_map,List.length_take,List.length_cons,List.length_nil];omega) Qa (by simp only[List.length_map,List.length_take,List.length_cons,List.length_nil];omega) ?_
   intro v31 w31 hS31; dsimp only[List.set]at hS31
   have h1v31:v31.oneCell'=true:=hS31.own_one 2 Qa
   refine Qc Qa Qa (Qh (Qq (Qd (Qk [81,80,79,4,0,3] Qa (Qb (XC Qa Qa (by omega) (by omega) Qa ?_))))))
   refine Qe Qa Qa (Qh ?_)
   exact Xj (L1:=[(0,_),(3,_),(4,_),(79,_),(80,_),(81,intV ((i+1:Nat):Int))]) (TH Qa Qa Qa Qa Qa Qa) (k1:=(min (QY E).length 4) -(i+1)) (by omega) ⟨i+1,_,rfl,rfl,(by rw[List.take_add_one,hxm,List.map_append]; exact hS31.pick [2,3,1,4] Qa), by omega⟩
  refine X6 (Q6 (Q6 (QR (Qd (Qf (Qf (Qb (Qe Qa Qa (Xm underlying33 Qa Qa (QL Qa Qa Qa (Qe Qa Qa (Q4 95 Qa (fun h32=> ?_) (fun h32=> ?_)))))))))))))
  ·refine Qj Qa Qa (QD h32) ?_
   obtain⟨dp,cv,sv,ov,hS33⟩:=QU (hS27.pick [2,0,1,3] rfl)
   refine Qe Qa Qa (Qj Qa Qa (QD h32) (Ql Qa Qa (Qj Qa Qa (QD h32) (Qi Qa HA Qa (Qj Qa Qa (QD h32) (Qr Qa J2 (hS33.cell 0 Qa Qa) Qa (Qj Qa Qa (QD h32) (XN Qa Qa (Q1 Qa (QD h32) Qa Qa (Qh (Qd (Qk [3,0,101] Qa (QZ Qa (fun h34=> ?_) (fun h34=> ?_))))))))))))))
   ·refine Qb (Qe Qa Qa (Qe Qa Qa ?_))
    have hS35:=Qu (E:=E) (hS33.pick [0,1,2,3,4,5,6,7] Qa)
    refine Q0 WH Qa (WG (hS35.sp [0] Qa) (hG.starL 2 Qa) (k:=8) (a:=0) (b:=0) (s:=[]) (JW (XG (by decide)) hmv)) Qa ?_
    rintro _ w36 ⟨rfl,hS36⟩
    replace hS36:=hS36.jn Qa Qa
    refine Xe Zn [Z3 E 8 0 0 []] hS36 Qa underlying66 J8 Qa Qa Qa Qa (by rfl) rfl ?_
    intro b37 w37 hS37
    refine Zi Zn 2 hS37 Qa Qa Qa (hS37.rd 0 Qa (by simp)) underlying66 underlying66 (by intro k hk; cases hk) Um Qa (by simp only[List.length_map,List.length_take,List.length_cons,List.length_nil];omega) Qa (by simp only[List.length_map,List.length_take,List.length_cons,List.length_nil];omega) ?_
    intro v38 w38 hS38; dsimp only[List.set]at hS38
    have h1v38:v38.oneCell'=true:=hS38.own_one 2 Qa
    refine Qc Qa Qa (Qh (Qd (Qf (Qb (Qe Qa Qa (Qc Qa Qa (Qh (Qd (Qo (Q5 (.inr Qa) Qa Qa ?_))))))))))
    have hz:=hS38.pick [2,1,4] Qa
    rw[show i=(min (QY E).length 4) by omega,Jp]at hz
    exact⟨_,rfl, by rw[WI hup hk1 hq_s hac];unfold Ue; rw[if_pos ⟨List.eq_nil_of_length_eq_zero (by omega), by simp_all⟩]; exact hz⟩
   refine Qt (Qd (Qf (Qb (Qe Qa Qa (Qc Qa Qa (Qh (Qd (Qo (Q5 (.inr Qa) Qa Qa ?_)))))))))
   have hz:=(Qu (E:=E) ((hS33.pick [0,1,2,3,4,5,7] Qa))).reorder [1,0,2] Qa
   rw[show i=(min (QY E).length 4) by omega,Jp]at hz
   exact⟨_,rfl, by rw[WI hup hk1 hq_s hac];unfold Ue; rw[if_neg (by rintro⟨q1,q2⟩;simp_all),List.append_nil]; exact hz⟩
  refine Qg Qa Qa (Qx h32) Qa (Qg Qa Qa (Qx h32) Qa (Qg Qa Qa (Qx h32) Qa (Qg Qa Qa (Qx h32) Qa (Qg Qa Qa (Qx h32) Qa (Q3 Qa (Qx h32) Qa Qa (Qh (Qd (Qk [3,0,101] Qa (QJ Qa (Qt (Qd (Qf (Qb (Qe Qa Qa (Qc Qa Qa (Qh (Qd (Qo (Q5 (.inr Qa) Qa Qa ?_)))))))))))))))))))
  have hz:=hS27.pick [0,2,3] Qa
  rw[show i=(min (QY E).length 4) by omega,Jp]at hz
  exact⟨_,rfl, by rw[WI hup hk1 hq_s hac];unfold Ue; rw[if_neg (by rintro⟨q1,q2⟩;simp_all),List.append_nil]; exact hz⟩
 refine Q2 Qa Qa (Qs Qa Qa (Qx h6)) (Q2 Qa Qa (Qs Qa Qa (Qx h6)) (Q2 Qa Qa (Qs Qa Qa (Qx h6)) (Q2 Qa Qa (Qs Qa Qa (Qx h6)) (Q2 Qa Qa (Qs Qa Qa (Qx h6)) (Q9 Qa Qa Qa (fun _=>(Xi Qa (Qx h6) Qa)) ?_)))))
 refine QI Qa Qa Qa (Q2 Qa Qa (Qs Qa Qa Qa) (Q2 Qa Qa (Qs Qa Qa Qa) (Q2 Qa Qa (Qs Qa Qa Qa) (Q2 Qa Qa (Qs Qa Qa Qa) (Q2 Qa Qa (Qs Qa Qa Qa) (Q2 Qa Qa (Qs Qa Qa Qa) (Q2 Qa Qa (Qs Qa Qa Qa) (Q2 Qa Qa (Qs Qa Qa Qa) (Q2 Qa Qa (Qs Qa Qa Qa) (Q2 Qa Qa (Qs Qa Qa Qa) (Q2 Qa Qa (Qs Qa Qa Qa) (Q2 Qa Qa (Qs Qa Qa Qa) (Q9 Qa Qa Qa (fun _=>(Xi Qa Qa Qa)) ?_)))))))))))))
 refine WV Qa Qa Qa (VC.nil (Qd (Qk [0,2,11] Qa (QJ Qa (Qf (Qb (Qe Qa Qa (Ql Qa Qa (Qi Qa Zh Qa (Qr Qa QH (hS5.cell 3 Qa Qa) Qa (QL Qa Qa Qa (Qc Qa Qa (Qh (Qd (Qv Qa (fun h39=> ?_) (fun h39=> ?_))))))))))))))))
 ·refine Qf (Qb (Qe Qa Qa ?_))
  have hS40:=Qu (E:=E) (by rw[hq_o]; exact((XE (hS5.pick [0,1,2,3,4,5,6,7] Qa)).pick [1,2,3,4,0,5] Qa))
  refine Q0 WH Qa (WG (hS40.sp [0] Qa) (hG.starL 0 Qa) (k:=3) (a:=0) (b:=0) (s:=[]) (JW (XG (by decide)) hmv)) Qa ?_
  rintro _ w41 ⟨rfl,hS41⟩
  replace hS41:=hS41.jn Qa Qa
  refine Xe Zn [Z3 E 3 0 0 []] hS41 Qa underlying66 J8 Qa Qa Qa Qa (by rfl) rfl ?_
  intro b42 w42 hS42
  refine Qc Qa Qa (Qh (Qd (Qk [0,2] Qa (Qo (Qz (Qm (Q5 (.inr Qa) Qa Qa ?_)))))))
  exact⟨_,rfl, by rw[VL hup (by omega) (fun z hz=> by rw[hq_o]at hz;(cases hz;omega))]; exact hS42.pick [0,1,2] Qa⟩
 refine Qf (Qb (Qe Qa Qa (Ql Qa Qa (Qi Qa Zh Qa (Qr Qa QH (hS5.cell 3 Qa Qa) Qa (Xu Qa Qa Qa (Qe Qa Qa (Q4 56 Qa (fun h43=> ?_) (fun h43=> ?_)))))))))
 ·refine Qg Qa Qa (QD h43) Qa (Qg Qa Qa (QD h43) Qa (Qg Qa Qa (QD h43) Qa (Qg Qa Qa (QD h43) Qa (Qg Qa Qa (QD h43) Qa (Q1 Qa (QD h43) Qa Qa (Qc Qa Qa (Qh (Qd (Qk [0,2,50] Qa (QP Qa (Qf (Qb (Qc Qa Qa (Qh (Qd (Qo (Qz (Qm (Q5 (.inr Qa) Qa Qa ?_)))))))))))))))))))
  exact⟨_,rfl, by rw[Hk hup (by omega) (.inl (by omega))]; exact(Sat.row_nil Zn (Qu (E:=E) (by rw[hq_o]; exact((XE (hS5.pick [0,1,2,3,4,5,6,7] Qa)).pick [1,2,3,4,0,5] Qa))))⟩
 refine Qj Qa Qa (Qx h43) (Qe Qa Qa (Qj Qa Qa (Qx h43) (Ql Qa Qa (Qj Qa Qa (Qx h43) (Qi Qa Xt Qa (Qj Qa Qa (Qx h43) (Qr Qa ZA (hS5.cell 3 Qa Qa) Qa (Qj Qa Qa (Qx h43) ?_))))))))
 rcases hq_s:E.ses with _ | s
 ·rw[hq_s]at hS5
  obtain⟨rfl,hSo44⟩:=Je (hS5.pick [6,0,1,2,3,4,5,7] rfl)
  refine Wb underlying78 Qa Qa Qa (Q3 Qa (Qx h43) Qa Qa (Qc Qa Qa (Qh (Qd (Qk [0,2,50] Qa (QP Qa (Qf (Qb (Qc Qa Qa (Qh (Qd (Qo (Qz (Qm (Q5 (.inr Qa) Qa Qa ?_)))))))))))))))
  exact⟨_,rfl, by rw[Hk hup (by omega) (.inr (by assumption))]; exact(Sat.row_nil Zn (Qu (E:=E) (by rw[hq_s,hq_o]; exact((XE ((ZQ hSo44).pick [1,2,3,0,4,5,6,7] Qa)).pick [2,3,4,1,0,5] Qa))))⟩
 rw[hq_s]at hS5
 obtain⟨sb,sm,rfl,hSo45⟩:=Zo (hS5.pick [6,0,1,2,3,4,5,7] rfl)
 refine ZG underlying78 Qa Qa Qa (Q3 Qa (Qx h43) Qa Qa (Qc Qa Qa (Qh (Qd (Qk [0,2,50] Qa (QJ Qa (Qf ?_)))))))
 have hk1:E.kind=1:= by omega
 refine Qb (Qe Qa Qa (Ql Qa Qa (Qi Qa XL Qa (Qr Qa J2 (hSo45.cell 5 Qa Qa) Qa (Qc Qa Qa (Qh (Qd (QZ Qa (fun h46=> ?_) (fun h46=> ?_)))))))))
 ·have hac:E.active=true:= by simpa using h46
  refine Qf ?_
  have hS47:=Qu (E:=E) (by rw[hq_s,hq_o]; exact((XE ((Xh (hSo45.pick [0,1,2,3,4,5,6,7,8] Qa)).pick [1,2,3,0,4,5,6,7] Qa)).pick [2,3,4,1,0,5] Qa))
  have hw1:SeW {s with pages:=(pushG E 4 s.pages).1}:=(hW.ses s hq_s).sim (WJ E s.pages 4)
  have hnx1:0≤E.next∧E.next<Zt (X8 {s with pages:=(pushG E 4 s.pages).1}):= by rw[YV (WJ E s.pages 4)]; exact⟨(hW.nx hac s hq_s).1,(hW.nx hac s hq_s).2.1⟩
  refine Qb (Qe Qa Qa (Q0 T2 Qa (H8 (hS47.sp [0] Qa) (hG.starL 0 Qa) hq_s (hW.ses s hq_s) hmv) Qa ?_))
  rintro _ w48 hS48
  replace hS48:=hS48.jn Qa Qa
  have h1p:=hS48.own_one 0 Qa
  refine Qe Qa Qa (Q0 T1 Qa (H7 (E:={E with ses:=some {s with pages:=(pushG E 4 s.pages).1}}) (hS48.sp [1] Qa) (hG.starL 1 Qa) (s:={s with pages:=(pushG E 4 s.pages).1}) Qa hw1 hmv hnx1) Qa ?_)
  rintro _ w49 hS49
  replace hS49:=hS49.jn Qa Qa
  have h1q:=hS49.own_one 0 Qa
  have hpl:=Y0 E s.pages 4
  have hql: ∀l n nx,(ZJ {E with ses:=some {s with pages:=(pushG E 4 s.pages).1}} l n (min n 32).toNat nx).2.length≤32:= fun l n nx=> by rw[Wn];omega
  refine Zi Zn 2 hS49 Qa Qa Qa (hS49.rd 0 Qa (by split; simp; exact Nat.le_trans (hql _ _ _) (by decide))) underlying66 underlying66 (by intro k hk; cases hk) Um Qa (by split; simp;omega; rw[Wn];omega) Qa (by split; simp;omega; rw[Wn];omega) ?_
  intro v50 w50 hS50; dsimp only[List.set]at hS50
  refine Qc Qa Qa (Qh (Qd (Qk [0,2] Qa (Qo (Qz (Qm (Q5 (.inr Qa) Qa Qa ?_)))))))
  have hz:=hS50.pick [2,1,3] Qa
  simp only[UD (E:=E) (E':={E with ses:=some {s with pages:=(pushG E 4 s.pages).1}}) Qa]at hz
  exact⟨_,rfl, by rw[U8 hup hk1 hq_s hac]; exact hz⟩
 have hac:E.active=false:= by simpa using h46
 have hS51:=Qu (E:=E) (by rw[hq_s,hq_o]; exact((XE ((Xh (hSo45.pick [0,1,2,3,4,5,6,7,8] Qa)).pick [1,2,3,0,4,5,6,7] Qa)).pick [2,3,4,1,0,5] Qa))
 refine Qt (Qq (Qd (Qf (Qb (Qc Qa Qa (Qh (Qd (Qf (Qb (Qe Qa Qa (Q0 KJ Qa (Yv (hS51.sp [0] Qa) hW.ses) Qa ?_)))))))))))
 rintro _ w52 hS52
 replace hS52:=hS52.jn Qa Qa
 have h1v:=hS52.own_one 0 Qa
 refine Qc Qa Qa (Qh ?_)
 obtain⟨ao,cap,hv53,hcap,_⟩:=hS52.own_shape 0 rfl
 obtain rfl:=hv53
 refine Qd (Qk [0,2,3,4] Qa (Qf (Qf (Qb (Qe Qa Qa (Qe Qa Qa (Xm underlying33 Qa Qa (Uc Qa Qa Qa (UO 0 (min (QY E).length 4) underlying33 WA Qa (UN _) (Hx (min (QY E).length 4) _ Qa (by omega)) (by omega) (by omega) Qa ?_)))))))))
 rw[G9]
 refine Xm underlying33 Qa Qa (Qe Qa Qa (Qh (Qd (Qk [0,2,3,4,79,80,81] Qa (QK ?_)))))
 have hS54:=Sat.row_nil Zn hS52
 refine XJ (fun K0 E0 W0=> ∃(i:Nat) (ov9:Value),K0=(min (QY E).length 4) -i∧E0=[(0,ptrV e 0),(3,ov9),(4,.slice ao (QY E).length cap),(79,.slice ao (min (QY E).length 4) cap),(80,intV (((min (QY E).length 4):Nat):Int)),(81,intV (i:Int))]∧Sat W0 [rowT Zn ov9 (((QY E).take i).map fun i=>Z3 E 6 i 0 []),rowT inC (.slice ao (QY E).length cap) (QY E),Xw e E,F]∧(i≤(min (QY E).length 4))) (L0:=[(0,_),(3,_),(4,_),(79,_),(80,_),(81,_)]) ((min (QY E).length 4) -0) (TH Qa Qa Qa Qa Qa Qa) ⟨0,_,rfl,rfl,hS54.pick [0,1,2,3] Qa, by omega⟩ ?_
 rintro _ _ w55 ⟨i,ov9,rfl,rfl,hS55,hi⟩
 have h1ov:ov9.oneCell'=true:=hS55.own_one 0 Qa
 refine Qf (Qb (X5 Qa Qa Qa (Qh (Qd (Qf (Qv Qa (fun h56=> ?_) (fun h56=> ?_)))))))
 ·have hlt:i<(min (QY E).length 4):= by have q9:=h56;omega
  obtain⟨x,hxm⟩: ∃x,(QY E)[i]? =some x:=⟨_,WY (by omega)⟩
  have hxt:((QY E).take (min (QY E).length 4))[i]? =some x:= by rw[List.getElem?_take,if_pos (by omega)]; exact hxm
  have hrd:RdL inC (.slice ao (min (QY E).length 4) cap) ((QY E).take (min (QY E).length 4)) w55:= by have h0:=Ent.sat (V9 (C:=inC) (a:=ao) (cap:=cap) (A:=0) (B:=(min (QY E).length 4)) (l:=QY E) (by omega) (by omega) (by omega) hcap) hS55 1 Qa; rw[G9,List.drop_zero]at h0; exact h0
  obtain⟨b,off,rfl,hc⟩:=hrd.get hxt
  have hxi:=Bk hW.ses x (List.mem_of_getElem? hxm)
  refine Qt (Qd (Qf (QK (Qf (Qb (XZ i Qa Qa (by rfl) (by omega) Kz Qa ?_))))))
  refine Qr Qa QH (hc 0 _ Qa) Qa (Qc Qa Qa (Qh (Qd (Qb (Qe Qa Qa (Qe Qa Qa (Qe Qa Qa ?_)))))))
  refine Q0 WH Qa (WG (hS55.sp [2] Qa) (hG.starL 2 Qa) (k:=6) (a:=x) (b:=0) (s:=[]) ⟨XG (k:=6) (by decide),hmv,hxi, by show X4 0; exact ZS, by show([]:Bs).length≤_; simp⟩) Qa ?_
  rintro _ w57 ⟨rfl,hS57⟩
  replace hS57:=hS57.jn Qa Qa
  refine Xe Zn [Z3 E 6 x 0 []] hS57 Qa underlying66 J8 Qa Qa Qa Qa (by rfl) rfl ?_
  intro b58 w58 hS58
  refine Zi Zn 2 hS58 Qa Qa Qa (hS58.rd 0 Qa (by simp)) underlying66 underlying66 (by intro k hk; cases hk) Um Qa (by simp only[List.length_map,List.length_take,List.length_cons,List.length_nil];omega) Qa (by simp only[List.length_map,List.length_take,List.length_cons,List.length_nil];omega) ?_
  intro v59 w59 hS59; dsimp only[List.set]at hS59
  have h1v59:v59.oneCell'=true:=hS59.own_one 2 Qa
  refine Qc Qa Qa (Qh (Qq (Qd (Qk [81,80,79,4,0,3] Qa (Qb (XC Qa Qa (by omega) (by omega) Qa ?_))))))
  refine Qe Qa Qa (Qh ?_)
  exact Xj (L1:=[(0,_),(3,_),(4,_),(79,_),(80,_),(81,intV ((i+1:Nat):Int))]) (TH Qa Qa Qa Qa Qa Qa) (k1:=(min (QY E).length 4) -(i+1)) (by omega) ⟨i+1,_,rfl,rfl,(by rw[List.take_add_one,hxm,List.map_append]; exact hS59.pick [2,3,1,4] Qa), by omega⟩
 refine X6 (Q6 (Q6 (QR (Qd (Qf (Qf (Qb (Qe Qa Qa (Xm underlying33 Qa Qa (QL Qa Qa Qa (Qe Qa Qa (Q4 95 Qa (fun h60=> ?_) (fun h60=> ?_)))))))))))))
 ·refine Qj Qa Qa (QD h60) ?_
  obtain⟨dp,cv,sv,ov,hS61⟩:=QU (hS55.pick [2,0,1,3] rfl)
  refine Qe Qa Qa (Qj Qa Qa (QD h60) (Ql Qa Qa (Qj Qa Qa (QD h60) (Qi Qa HA Qa (Qj Qa Qa (QD h60) (Qr Qa J2 (hS61.cell 0 Qa Qa) Qa (Qj Qa Qa (QD h60) (XN Qa Qa (Q1 Qa (QD h60) Qa Qa (Qh (Qd (Qk [3,0,101] Qa (QZ Qa (fun h62=> ?_) (fun h62=> ?_))))))))))))))
  ·refine Qb (Qe Qa Qa (Qe Qa Qa ?_))
   have hS63:=Qu (E:=E) (hS61.pick [0,1,2,3,4,5,6,7] Qa)
   refine Q0 WH Qa (WG (hS63.sp [0] Qa) (hG.starL 2 Qa) (k:=8) (a:=0) (b:=0) (s:=[]) (JW (XG (by decide)) hmv)) Qa ?_
   rintro _ w64 ⟨rfl,hS64⟩
   replace hS64:=hS64.jn Qa Qa
   refine Xe Zn [Z3 E 8 0 0 []] hS64 Qa underlying66 J8 Qa Qa Qa Qa (by rfl) rfl ?_
   intro b65 w65 hS65
   refine Zi Zn 2 hS65 Qa Qa Qa (hS65.rd 0 Qa (by simp)) underlying66 underlying66 (by intro k hk; cases hk) Um Qa (by simp only[List.length_map,List.length_take,List.length_cons,List.length_nil];omega) Qa (by simp only[List.length_map,List.length_take,List.length_cons,List.length_nil];omega) ?_
   intro v66 w66 hS66; dsimp only[List.set]at hS66
   have h1v66:v66.oneCell'=true:=hS66.own_one 2 Qa
   refine Qc Qa Qa (Qh (Qd (Qf (Qb (Qe Qa Qa (Qc Qa Qa (Qh (Qd (Qo (Q5 (.inr Qa) Qa Qa ?_))))))))))
   have hz:=hS66.pick [2,1,4] Qa
   rw[show i=(min (QY E).length 4) by omega,Jp]at hz
   exact⟨_,rfl, by rw[WI hup hk1 hq_s hac];unfold Ue; rw[if_pos ⟨List.eq_nil_of_length_eq_zero (by omega), by simp_all⟩]; exact hz⟩
  refine Qt (Qd (Qf (Qb (Qe Qa Qa (Qc Qa Qa (Qh (Qd (Qo (Q5 (.inr Qa) Qa Qa ?_)))))))))
  have hz:=(Qu (E:=E) ((hS61.pick [0,1,2,3,4,5,7] Qa))).reorder [1,0,2] Qa
  rw[show i=(min (QY E).length 4) by omega,Jp]at hz
  exact⟨_,rfl, by rw[WI hup hk1 hq_s hac];unfold Ue; rw[if_neg (by rintro⟨q1,q2⟩;simp_all),List.append_nil]; exact hz⟩
 refine Qg Qa Qa (Qx h60) Qa (Qg Qa Qa (Qx h60) Qa (Qg Qa Qa (Qx h60) Qa (Qg Qa Qa (Qx h60) Qa (Qg Qa Qa (Qx h60) Qa (Q3 Qa (Qx h60) Qa Qa (Qh (Qd (Qk [3,0,101] Qa (QJ Qa (Qt (Qd (Qf (Qb (Qe Qa Qa (Qc Qa Qa (Qh (Qd (Qo (Q5 (.inr Qa) Qa Qa ?_)))))))))))))))))))
 have hz:=hS55.pick [0,2,3] Qa
 rw[show i=(min (QY E).length 4) by omega,Jp]at hz
 exact⟨_,rfl, by rw[WI hup hk1 hq_s hac];unfold Ue; rw[if_neg (by rintro⟨q1,q2⟩;simp_all),List.append_nil]; exact hz⟩
theorem Hb {w:World} {e:Nat} {E:EnD} {F:Th} (hS:Sat w [Xw e E,F]) (hG:Ent F WireG) (hW:EW E):
    Calls prog 36 #[ptrV e 0] w (Ret fun v w'=>Sat w' [rowT Zn v (Z4 E).2,Xw e (Z4 E).1,F]):= by
  cases ho:E.off with
  | none=> exact tick_a hS hG hW ho
  | some o=> exact tick_b hS hG hW ho
