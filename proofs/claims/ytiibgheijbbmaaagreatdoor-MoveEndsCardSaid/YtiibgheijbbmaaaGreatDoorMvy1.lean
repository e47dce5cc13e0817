/- move: Tick -/
import Derived.Test.YtiibgheijbbmaaaGreatDoorMvx
import Derived.Test.YtiibgheijbbmaaaGreatDoorMvt
set_option linter.unusedVariables false
set_option maxRecDepth 100000
set_option maxHeartbeats 100000000000
namespace Go.Proofs.YtiibgheijbbmaaaGreatDoor
open Go.RowKit M Proofs.Tryz
theorem BD {sz n cap B:Nat} {ao:Option Addr}:Un sz (.slice ao n cap) 0 B= .slice ao B cap:= by
  unfold Un
  dsimp only
  split
  · rfl
  · cases ao with
    | none=>rfl
    | some p=> rw[Option.map_some,Nat.zero_mul,Nat.sub_zero,Nat.sub_zero];rfl
theorem J7 {α:Type} (l:List α) (n:Nat):l.take (min l.length n)=l.take n:= by
  by_cases q:l.length≤n
  · rw[Nat.min_eq_left q,List.take_of_length_le (Nat.le_refl _),List.take_of_length_le q]
  · rw[Nat.min_eq_right (by omega)]
theorem YT (E:EnD): ∀(l:AL PgD) (k:Nat),(pushG E k l).2.length≤k
  | [],k=> by rw[pushG.eq_def]; simp
  | e::l,k=> by
    rw[pushG.eq_def]
    dsimp only
    split
    · exact YT E l k
    · cases k with
      | zero=> simp
      | succ k=> have :=YT E l k;simpa using this
theorem W4 (E:EnD) (l:Bs) (n:Int): ∀(k:Nat) (nx:Int),(ZM E l n k nx).2.length=k
  | 0,nx=>rfl
  | k+1,nx=> by rw[ZM]; show(ZM E l n k _).2.length+1=k+1; rw[W4 E l n k]
def U9 (E:EnD):List Bs:=((QP E).take 4).map (fun i=>Ze E 6 i 0 [])++(if QP E=[]∧E.told=false then[Ze E 8 0 0 []]else[])
section
variable {E:EnD} {s:SeD} {o:OfD}
theorem Lg (h:upE E=false):X7 E=(E,[]):= by unfold X7; rw[if_pos h]
theorem NL (h: ¬upE E=false) (hk:E.kind=2) (ho:E.off=some o) (hm:o.move=E.move):X7 E=(E,[Ze E 2 0 0 []]):= by unfold X7; rw[if_neg h,if_pos hk,ho]; dsimp only; rw[if_pos (by simpa using hm)]
theorem Vi (h: ¬upE E=false) (hk:E.kind=2) (ho: ∀o,E.off=some o→o.move≠E.move):X7 E=(E,[Ze E 3 0 0 []]):= by
  unfold X7; rw[if_neg h,if_pos hk]
  cases q:E.off with
  | none=>rfl
  | some o=> dsimp only; rw[if_neg (by simpa using ho o q)]
theorem Hc (h: ¬upE E=false) (hk:E.kind≠2) (h2:E.kind≠1∨E.ses=none):X7 E=(E,[]):= by
  unfold X7; rw[if_neg h,if_neg hk]
  by_cases q:E.kind=1
  · rw[if_neg (by omega),h2.resolve_left (by omega)]
  · rw[if_pos q]
theorem Vk (h: ¬upE E=false) (hk:E.kind=1) (hs:E.ses=some s) (ha:E.active=true):X7 E=((if E.frozen=false then{E with ses:=some {s with pages:=(pushG E 4 s.pages).1}}else{E with ses:=some {s with pages:=(pushG E 4 s.pages).1},next:=(ZM E (Xf {s with pages:=(pushG E 4 s.pages).1}) (Xa (Xf {s with pages:=(pushG E 4 s.pages).1})) (min (Xa (Xf {s with pages:=(pushG E 4 s.pages).1})) 32).toNat E.next).1}),(pushG E 4 s.pages).2++(if E.frozen=false then[]else(ZM E (Xf {s with pages:=(pushG E 4 s.pages).1}) (Xa (Xf {s with pages:=(pushG E 4 s.pages).1})) (min (Xa (Xf {s with pages:=(pushG E 4 s.pages).1})) 32).toNat E.next).2)):= by
  unfold X7; rw[if_neg h,if_neg (by omega),if_neg (by omega),hs]
  dsimp only
  rw[if_pos ha]
  by_cases q:E.frozen=false
  · rw[if_pos q,if_pos q,if_pos q,List.append_nil]
  · rw[if_neg q,if_neg q,if_neg q]
theorem WZ (h: ¬upE E=false) (hk:E.kind=1) (hs:E.ses=some s) (ha:E.active=false):X7 E=(E,U9 E):= by
  unfold X7 U9 QP; rw[if_neg h,if_neg (by omega),if_neg (by omega),hs]
  dsimp only
  rw[if_neg (by rw[ha];decide)]
theorem Vu {E':EnD} (h:E'.move=E.move) (l:Bs) (n:Int): ∀(k:Nat) (nx:Int),ZM E' l n k nx=ZM E l n k nx
  | 0,nx=>rfl
  | k+1,nx=> by rw[ZM,ZM,Vu h l n k];unfold Ze; rw[h]
theorem Dr (hw: ∀x,E.ses=some x→SeW x): ∀i∈QP E,Xy i:= fun i hi=> by
  unfold QP at hi
  cases q:E.ses with
  | none=> rw[q]at hi; cases hi
  | some s=>
    rw[q]at hi
    obtain⟨e,h1,rfl⟩:=List.mem_map.1 hi
    exact((hw s q).pg e (List.mem_filter.1 h1).1).1
theorem Pr (hw: ∀x,E.ses=some x→SeW x):(QP E).length≤8192:= by
  unfold QP
  cases q:E.ses with
  | none=> simp
  | some s=>
    have h1:=(hw s q).num
    have h2:=List.length_filter_le (fun e:Int×PgD=>e.2.miss) s.pages
    dsimp only
    unfold Wd; rw[List.length_map];omega
end
theorem tick_a {w:World} {e:Nat} {E:EnD} {F:Th} (hS:Sat w [Xs e E,F]) (hG:Ent F WireG) (hW:EW E) (hq_o:E.off=none):
    Calls prog 36 #[ptrV e 0] w (Ret fun v w'=>Sat w' [rowT Z4 v (X7 E).2,Xs e (X7 E).1,F]):= by
 refine Qy func36 Qa ntmps36 Qa ?_
 have hmv:=hW.km.2.2.2
 have hml:=Pr hW.ses
 refine Qg (Qb (Qc Qa Qa (Qh (Qe (Qg (QD (Qg (Qb (Qd Qa Qa (Q4 Bx Qa (Ty (hS.sp [0] Qa)) Qa ?_))))))))))
 rintro _ w1 ⟨rfl,hS1⟩
 replace hS1:=hS1.jn Qa Qa
 refine XS Qa Qa (Qc Qa Qa (Qh (Qe (Xd Qa (fun h2=> ?_) (fun h2=> ?_)))))
 ·have hu0:upE E=false:= by simpa using h2
  refine Qg (Qb (Qc Qa Qa (Qh (Qe (Qo (Q0 (Qm (Q7 (.inr Qa) Qa Qa ?_))))))))
  exact⟨_,rfl, by rw[Lg hu0]; exact(Sat.row_nil Z4 (hS1.pick [0,1] Qa))⟩
 have hup: ¬upE E=false:= by simpa using h2
 refine Qg ?_
 obtain⟨dp,cv,sv,ov,hS3⟩:=QW (hS1.pick [0,1] rfl)
 rw[hq_o]at hS3
 obtain⟨rfl,hS4⟩:=Be (hS3.pick [4,0,1,2,3,5] rfl)
 have hS5:=hS4.drew
 refine QT [0,1,2,3,4,5,6,7,8,9,10,11,12,13,14,15,16,17,18,19,20,21,22,23,24,25,26] [] Jk (by kernel_rfl) ?_
 refine QM Qa Qa Qa (Xw Qa Qa Qa (QQ Qa Qa Qa Z0 (QH Qa Qa Qa (Qn Qa QK (hS5.cell 0 Qa Qa)) (QG Qa Qa Qa (fun _=>(HV Qa Qa)) ?_))))
 refine QM Qa Qa Qa (ZK 17 Qa (fun h6=> ?_) (fun h6=> ?_))
 ·refine QG Qa Qa (Qt Qa Qa (Q8 h6)) (fun _=>(Ev.gd (XA Qa))) ?_
  refine QG Qa Qa (Qt Qa Qa (Q8 h6)) (fun _=>(Ev.gd (XH Qa))) ?_
  refine QG Qa Qa (Qt Qa Qa (Q8 h6)) (fun _=>(Ev.gd (QV Qa WG))) ?_
  refine QH Qa Qa (Qt Qa Qa (Q8 h6)) (Ev.gd (Qn Qa UO (hS5.cell 0 Qa Qa))) (QG Qa Qa (Qt Qa Qa (Q8 h6)) (fun _=>(Ev.gd (Yp underlying79 Qa Qa))) ?_)
  refine QG Qa Qa Qa (fun _=>(XL Qa (Q8 h6) Qa)) ?_
  refine QM Qa Qa Qa (Q2 Qa Qa (Qs Qa Qa Qa) (Q2 Qa Qa (Qs Qa Qa Qa) (Q2 Qa Qa (Qs Qa Qa Qa) (Q2 Qa Qa (Qs Qa Qa Qa) (Q2 Qa Qa (Qs Qa Qa Qa) (Q2 Qa Qa (Qs Qa Qa Qa) (Q2 Qa Qa (Qs Qa Qa Qa) (Q2 Qa Qa (Qs Qa Qa Qa) (Q2 Qa Qa (Qs Qa Qa Qa) (Q2 Qa Qa (Qs Qa Qa Qa) (Q2 Qa Qa (Qs Qa Qa Qa) (Q2 Qa Qa (Qs Qa Qa Qa) (QG Qa Qa Qa (fun _=>(X0 Qa Qa Qa)) ?_)))))))))))))
  refine Jr Qa Qa Qa (VC.nil (Qe (Qk [0,2,11] Qa (QF Qa (Qg (Qb (Qd Qa Qa (Ql Qa Qa (Qi Qa Z0 Qa (Qp Qa QK (hS5.cell 0 Qa Qa) Qa (QO Qa Qa Qa (Qc Qa Qa (Qh (Qe (Qw Qa (fun h7=> ?_) (fun h7=> ?_))))))))))))))))
  ·refine Qg (Qb (Qd Qa Qa ?_))
   have hS8:=Qu (E:=E) (by rw[hq_o]; exact((Wh hS5).pick [1,2,3,4,0,5] Qa))
   refine Q4 WY Qa (WX (hS8.sp [0] Qa) (hG.starL 0 Qa) (k:=3) (a:=0) (b:=0) (s:=[]) (Yw (XJ (by decide)) hmv)) Qa ?_
   rintro _ w9 ⟨rfl,hS9⟩
   replace hS9:=hS9.jn Qa Qa
   refine Xc Z4 [Ze E 3 0 0 []] hS9 Qa underlying66 JZ Qa Qa Qa Qa (by rfl) rfl ?_
   intro b10 w10 hS10
   refine Qc Qa Qa (Qh (Qe (Qk [0,2] Qa (Qo (Q0 (Qm (Q7 (.inr Qa) Qa Qa ?_)))))))
   exact⟨_,rfl, by rw[Vi hup (by omega) (fun z hz=> by rw[hq_o]at hz;(cases hz;done))]; exact hS10.pick [0,1,2] Qa⟩
  refine Qg (Qb (Qd Qa Qa (Ql Qa Qa (Qi Qa Z0 Qa (Qp Qa QK (hS5.cell 0 Qa Qa) Qa (Xt Qa Qa Qa (Qd Qa Qa (Q3 56 Qa (fun h11=> ?_) (fun h11=> ?_)))))))))
  ·refine Qf Qa Qa (Q8 h11) Qa (Qf Qa Qa (Q8 h11) Qa (Qf Qa Qa (Q8 h11) Qa (Qf Qa Qa (Q8 h11) Qa (Qf Qa Qa (Q8 h11) Qa (Qx Qa (Q8 h11) Qa Qa (Qc Qa Qa (Qh (Qe (Qk [0,2,50] Qa (QL Qa (Qg (Qb (Qc Qa Qa (Qh (Qe (Qo (Q0 (Qm (Q7 (.inr Qa) Qa Qa ?_)))))))))))))))))))
   exact⟨_,rfl, by rw[Hc hup (by omega) (.inl (by omega))]; exact(Sat.row_nil Z4 (Qu (E:=E) (by rw[hq_o]; exact((Wh hS5).pick [1,2,3,4,0,5] Qa))))⟩
  refine Qj Qa Qa (Qv h11) (Qd Qa Qa (Qj Qa Qa (Qv h11) (Ql Qa Qa (Qj Qa Qa (Qv h11) (Qi Qa Xm Qa (Qj Qa Qa (Qv h11) (Qp Qa Z8 (hS5.cell 0 Qa Qa) Qa (Qj Qa Qa (Qv h11) ?_))))))))
  rcases hq_s:E.ses with _ | s
  ·rw[hq_s]at hS5
   obtain⟨rfl,hSo12⟩:=WM (hS5.pick [3,0,1,2,4] rfl)
   refine ZN underlying78 Qa Qa Qa (Qz Qa (Qv h11) Qa Qa (Qc Qa Qa (Qh (Qe (Qk [0,2,50] Qa (QL Qa (Qg (Qb (Qc Qa Qa (Qh (Qe (Qo (Q0 (Qm (Q7 (.inr Qa) Qa Qa ?_)))))))))))))))
   exact⟨_,rfl, by rw[Hc hup (by omega) (.inr (by assumption))]; exact(Sat.row_nil Z4 (Qu (E:=E) (by rw[hq_s,hq_o]; exact((Wh (ZQ hSo12)).pick [2,3,4,1,0,5] Qa))))⟩
  rw[hq_s]at hS5
  obtain⟨sb,sm,rfl,hSo13⟩:=Zn (hS5.pick [3,0,1,2,4] rfl)
  refine ZJ underlying78 Qa Qa Qa (Qz Qa (Qv h11) Qa Qa (Qc Qa Qa (Qh (Qe (Qk [0,2,50] Qa (QF Qa (Qg ?_)))))))
  have hk1:E.kind=1:= by omega
  refine Qb (Qd Qa Qa (Ql Qa Qa (Qi Qa Zo Qa (Qp Qa JT (hSo13.cell 2 Qa Qa) Qa (Qc Qa Qa (Qh (Qe (Xd Qa (fun h14=> ?_) (fun h14=> ?_)))))))))
  ·have hac:E.active=true:= by simpa using h14
   refine Qg ?_
   have hS15:=Qu (E:=E) (by rw[hq_s,hq_o]; exact((Wh (Xg (hSo13.pick [0,1,2,3,4,5] Qa))).pick [2,3,4,1,0,5] Qa))
   have hw1:SeW {s with pages:=(pushG E 4 s.pages).1}:=(hW.ses s hq_s).sim (W3 E s.pages 4)
   have hnx1:0≤E.next∧E.next<Xa (Xf {s with pages:=(pushG E 4 s.pages).1}):= by rw[Yn (W3 E s.pages 4)]; exact⟨(hW.nx hac s hq_s).1,(hW.nx hac s hq_s).2.1⟩
   refine Qb (Qd Qa Qa (Q4 Ns Qa (Ue (hS15.sp [0] Qa) (hG.starL 0 Qa) hq_s (hW.ses s hq_s) hmv) Qa ?_))
   rintro _ w16 hS16
   replace hS16:=hS16.jn Qa Qa
   have h1p:=hS16.own_one 0 Qa
   refine Qd Qa Qa (Q4 Nr Qa (Ud (E:={E with ses:=some {s with pages:=(pushG E 4 s.pages).1}}) (hS16.sp [1] Qa) (hG.starL 1 Qa) (s:={s with pages:=(pushG E 4 s.pages).1}) Qa hw1 hmv hnx1) Qa ?_)
   rintro _ w17 hS17
   replace hS17:=hS17.jn Qa Qa
   have h1q:=hS17.own_one 0 Qa
   have hpl:=YT E s.pages 4
   have hql: ∀l n nx,(ZM {E with ses:=some {s with pages:=(pushG E 4 s.pages).1}} l n (min n 32).toNat nx).2.length≤32:= fun l n nx=> by rw[W4];omega
   refine XV Z4 2 hS17 Qa Qa Qa (hS17.rd 0 Qa (by split; simp; exact Nat.le_trans (hql _ _ _) (by decide))) underlying66 underlying66 (by intro k hk; cases hk) UH Qa (by split; simp;omega; rw[W4];omega) Qa (by split; simp;omega; rw[W4];omega) ?_
   intro v18 w18 hS18; dsimp only[List.set]at hS18
   refine Qc Qa Qa (Qh (Qe (Qk [0,2] Qa (Qo (Q0 (Qm (Q7 (.inr Qa) Qa Qa ?_)))))))
   have hz:=hS18.pick [2,1,3] Qa
   simp only[Vu (E:=E) (E':={E with ses:=some {s with pages:=(pushG E 4 s.pages).1}}) Qa]at hz
   exact⟨_,rfl, by rw[Vk hup hk1 hq_s hac]; exact hz⟩
  have hac:E.active=false:= by simpa using h14
  have hS19:=Qu (E:=E) (by rw[hq_s,hq_o]; exact((Wh (Xg (hSo13.pick [0,1,2,3,4,5] Qa))).pick [2,3,4,1,0,5] Qa))
  refine Qr (Qq (Qe (Qg (Qb (Qc Qa Qa (Qh (Qe (Qg (Qb (Qd Qa Qa (Q4 VQ Qa (J6 (hS19.sp [0] Qa) hW.ses) Qa ?_)))))))))))
  rintro _ w20 hS20
  replace hS20:=hS20.jn Qa Qa
  have h1v:=hS20.own_one 0 Qa
  refine Qc Qa Qa (Qh ?_)
  obtain⟨ao,cap,hv21,hcap,_⟩:=hS20.own_shape 0 rfl
  obtain rfl:=hv21
  refine Qe (Qk [0,2,3,4] Qa (Qg (Qg (Qb (Qd Qa Qa (Qd Qa Qa ?_))))))
  first | refine Xj underlying33 Qa Qa ?_ | refine X3 0 hS20 underlying33 Qa Qa Qa ?_
  refine U7 Qa Qa Qa (V5 0 (min (QP E).length 4) underlying33 YH Qa (V4 _) (HP (min (QP E).length 4) _ Qa (by omega)) (by omega) (by omega) Qa ?_)
  rw[BD]
  refine Xj underlying33 Qa Qa (Qd Qa Qa (Qh (Qe (Qk [0,2,3,4,79,80,81] Qa (QD ?_)))))
  have hS22:=Sat.row_nil Z4 hS20
  refine XD (fun K0 E0 W0=> ∃(i:Nat) (ov9:Value),K0=(min (QP E).length 4) -i∧E0=[(0,ptrV e 0),(3,ov9),(4,.slice ao (QP E).length cap),(79,.slice ao (min (QP E).length 4) cap),(80,intV (((min (QP E).length 4):Nat):Int)),(81,intV (i:Int))]∧Sat W0 [rowT Z4 ov9 (((QP E).take i).map fun i=>Ze E 6 i 0 []),rowT inC (.slice ao (QP E).length cap) (QP E),Xs e E,F]∧(i≤(min (QP E).length 4))) (L0:=[(0,_),(3,_),(4,_),(79,_),(80,_),(81,_)]) ((min (QP E).length 4) -0) (Dc Qa Qa Qa Qa Qa Qa) ⟨0,_,rfl,rfl,hS22.pick [0,1,2,3] Qa, by omega⟩ ?_
  rintro _ _ w23 ⟨i,ov9,rfl,rfl,hS23,hi⟩
  have h1ov:ov9.oneCell'=true:=hS23.own_one 0 Qa
  refine Qg (Qb (Xz Qa Qa Qa (Qh (Qe (Qg (Qw Qa (fun h24=> ?_) (fun h24=> ?_)))))))
  ·have hlt:i<(min (QP E).length 4):= by have q9:=h24;omega
   obtain⟨x,hxm⟩: ∃x,(QP E)[i]? =some x:=⟨_,WU (by omega)⟩
   have hxt:((QP E).take (min (QP E).length 4))[i]? =some x:= by rw[List.getElem?_take,if_pos (by omega)]; exact hxm
   have hrd:RdL inC (.slice ao (min (QP E).length 4) cap) ((QP E).take (min (QP E).length 4)) w23:= by have h0:=Ent.sat (K9 (C:=inC) (a:=ao) (cap:=cap) (A:=0) (B:=(min (QP E).length 4)) (l:=QP E) (by omega) (by omega) (by omega) hcap) hS23 1 Qa; rw[BD,List.drop_zero]at h0; exact h0
   obtain⟨b,off,rfl,hc⟩:=hrd.get hxt
   have hxi:=Dr hW.ses x (List.mem_of_getElem? hxm)
   refine Qr (Qe (Qg (QD (Qg (Qb (XG i Qa Qa (by first | rfl | omega) (by omega) K7 Qa ?_))))))
   refine Qp Qa QK (hc 0 _ Qa) Qa (Qc Qa Qa (Qh (Qe (Qb (Qd Qa Qa (Qd Qa Qa (Qd Qa Qa ?_)))))))
   refine Q4 WY Qa (WX (hS23.sp [2] Qa) (hG.starL 2 Qa) (k:=6) (a:=x) (b:=0) (s:=[]) ⟨XJ (k:=6) (by decide),hmv,hxi, by show Xy 0; exact XF, by show([]:Bs).length≤_; simp⟩) Qa ?_
   rintro _ w25 ⟨rfl,hS25⟩
   replace hS25:=hS25.jn Qa Qa
   refine Xc Z4 [Ze E 6 x 0 []] hS25 Qa underlying66 JZ Qa Qa Qa Qa (by rfl) rfl ?_
   intro b26 w26 hS26
   refine XV Z4 2 hS26 Qa Qa Qa (hS26.rd 0 Qa (by simp)) underlying66 underlying66 (by intro k hk; cases hk) UH Qa (by simp only[List.length_map,List.length_take,List.length_cons,List.length_nil];omega) Qa (by simp only[List.length_map,List.length_take,List.length_cons,List.length_nil];omega) ?_
   intro v27 w27 hS27; dsimp only[List.set]at hS27
   have h1v27:v27.oneCell'=true:=hS27.own_one 2 Qa
   refine Qc Qa Qa (Qh (Qq (Qe (Qk [81,80,79,4,0,3] Qa (Qb (Xq Qa Qa (by omega) (by omega) Qa ?_))))))
   refine Qd Qa Qa (Qh ?_)
   exact QY (L1:=[(0,_),(3,_),(4,_),(79,_),(80,_),(81,intV ((i+1:Nat):Int))]) (Dc Qa Qa Qa Qa Qa Qa) (k1:=(min (QP E).length 4) -(i+1)) (by omega) ⟨i+1,_,rfl,rfl,(by rw[List.take_add_one,hxm,List.map_append]; exact hS27.pick [2,3,1,4] Qa), by omega⟩
  refine Xu (Q1 (Q1 (QJ (Qe (Qg (Qg (Qb (Qd Qa Qa ?_))))))))
  first | refine Xj underlying33 Qa Qa ?_ | refine X3 0 hS23 underlying33 Qa Qa Qa ?_ | refine X3 1 hS23 underlying33 Qa Qa Qa ?_
  refine QO Qa Qa Qa (Qd Qa Qa (Q3 95 Qa (fun h28=> ?_) (fun h28=> ?_)))
  ·refine Qj Qa Qa (Q8 h28) ?_
   obtain⟨dp,cv,sv,ov,hS29⟩:=QW (hS23.pick [2,0,1,3] rfl)
   refine Qd Qa Qa (Qj Qa Qa (Q8 h28) (Ql Qa Qa (Qj Qa Qa (Q8 h28) (Qi Qa Ug Qa (Qj Qa Qa (Q8 h28) (Qp Qa JT (hS29.cell 0 Qa Qa) Qa (Qj Qa Qa (Q8 h28) (XS Qa Qa (Qx Qa (Q8 h28) Qa Qa (Qh (Qe (Qk [3,0,101] Qa (Xd Qa (fun h30=> ?_) (fun h30=> ?_))))))))))))))
   ·refine Qb (Qd Qa Qa (Qd Qa Qa ?_))
    have hS31:=Qu (E:=E) (hS29.pick [0,1,2,3,4,5,6,7] Qa)
    refine Q4 WY Qa (WX (hS31.sp [0] Qa) (hG.starL 2 Qa) (k:=8) (a:=0) (b:=0) (s:=[]) (Yw (XJ (by decide)) hmv)) Qa ?_
    rintro _ w32 ⟨rfl,hS32⟩
    replace hS32:=hS32.jn Qa Qa
    refine Xc Z4 [Ze E 8 0 0 []] hS32 Qa underlying66 JZ Qa Qa Qa Qa (by rfl) rfl ?_
    intro b33 w33 hS33
    refine XV Z4 2 hS33 Qa Qa Qa (hS33.rd 0 Qa (by simp)) underlying66 underlying66 (by intro k hk; cases hk) UH Qa (by simp only[List.length_map,List.length_take,List.length_cons,List.length_nil];omega) Qa (by simp only[List.length_map,List.length_take,List.length_cons,List.length_nil];omega) ?_
    intro v34 w34 hS34; dsimp only[List.set]at hS34
    have h1v34:v34.oneCell'=true:=hS34.own_one 2 Qa
    refine Qc Qa Qa (Qh (Qe (Qg (Qb (Qd Qa Qa (Qc Qa Qa (Qh (Qe (Qo (Q7 (.inr Qa) Qa Qa ?_))))))))))
    have hz:=hS34.pick [2,1,4] Qa
    rw[show i=(min (QP E).length 4) by omega,J7]at hz
    exact⟨_,rfl, by rw[WZ hup hk1 hq_s hac];unfold U9; rw[if_pos ⟨List.eq_nil_of_length_eq_zero (by omega), by simp_all⟩]; exact hz⟩
   refine Qr (Qe (Qg (Qb (Qd Qa Qa (Qc Qa Qa (Qh (Qe (Qo (Q7 (.inr Qa) Qa Qa ?_)))))))))
   have hz:=(Qu (E:=E) ((hS29.pick [0,1,2,3,4,5,7] Qa))).reorder [1,0,2] Qa
   rw[show i=(min (QP E).length 4) by omega,J7]at hz
   exact⟨_,rfl, by rw[WZ hup hk1 hq_s hac];unfold U9; rw[if_neg (by rintro⟨q1,q2⟩;simp_all),List.append_nil]; exact hz⟩
  refine Qf Qa Qa (Qv h28) Qa (Qf Qa Qa (Qv h28) Qa (Qf Qa Qa (Qv h28) Qa (Qf Qa Qa (Qv h28) Qa (Qf Qa Qa (Qv h28) Qa (Qz Qa (Qv h28) Qa Qa (Qh (Qe (Qk [3,0,101] Qa (QF Qa (Qr (Qe (Qg (Qb (Qd Qa Qa (Qc Qa Qa (Qh (Qe (Qo (Q7 (.inr Qa) Qa Qa ?_)))))))))))))))))))
  have hz:=hS23.pick [0,2,3] Qa
  rw[show i=(min (QP E).length 4) by omega,J7]at hz
  exact⟨_,rfl, by rw[WZ hup hk1 hq_s hac];unfold U9; rw[if_neg (by rintro⟨q1,q2⟩;simp_all),List.append_nil]; exact hz⟩
 refine Q2 Qa Qa (Qs Qa Qa (Qv h6)) (Q2 Qa Qa (Qs Qa Qa (Qv h6)) (Q2 Qa Qa (Qs Qa Qa (Qv h6)) (Q2 Qa Qa (Qs Qa Qa (Qv h6)) (Q2 Qa Qa (Qs Qa Qa (Qv h6)) (QG Qa Qa Qa (fun _=>(X0 Qa (Qv h6) Qa)) ?_)))))
 refine QM Qa Qa Qa (Q2 Qa Qa (Qs Qa Qa Qa) (Q2 Qa Qa (Qs Qa Qa Qa) (Q2 Qa Qa (Qs Qa Qa Qa) (Q2 Qa Qa (Qs Qa Qa Qa) (Q2 Qa Qa (Qs Qa Qa Qa) (Q2 Qa Qa (Qs Qa Qa Qa) (Q2 Qa Qa (Qs Qa Qa Qa) (Q2 Qa Qa (Qs Qa Qa Qa) (Q2 Qa Qa (Qs Qa Qa Qa) (Q2 Qa Qa (Qs Qa Qa Qa) (Q2 Qa Qa (Qs Qa Qa Qa) (Q2 Qa Qa (Qs Qa Qa Qa) (QG Qa Qa Qa (fun _=>(X0 Qa Qa Qa)) ?_)))))))))))))
 refine Jr Qa Qa Qa (VC.nil (Qe (Qk [0,2,11] Qa (QF Qa (Qg (Qb (Qd Qa Qa (Ql Qa Qa (Qi Qa Z0 Qa (Qp Qa QK (hS5.cell 0 Qa Qa) Qa (QO Qa Qa Qa (Qc Qa Qa (Qh (Qe (Qw Qa (fun h35=> ?_) (fun h35=> ?_))))))))))))))))
 ·refine Qg (Qb (Qd Qa Qa ?_))
  have hS36:=Qu (E:=E) (by rw[hq_o]; exact((Wh hS5).pick [1,2,3,4,0,5] Qa))
  refine Q4 WY Qa (WX (hS36.sp [0] Qa) (hG.starL 0 Qa) (k:=3) (a:=0) (b:=0) (s:=[]) (Yw (XJ (by decide)) hmv)) Qa ?_
  rintro _ w37 ⟨rfl,hS37⟩
  replace hS37:=hS37.jn Qa Qa
  refine Xc Z4 [Ze E 3 0 0 []] hS37 Qa underlying66 JZ Qa Qa Qa Qa (by rfl) rfl ?_
  intro b38 w38 hS38
  refine Qc Qa Qa (Qh (Qe (Qk [0,2] Qa (Qo (Q0 (Qm (Q7 (.inr Qa) Qa Qa ?_)))))))
  exact⟨_,rfl, by rw[Vi hup (by omega) (fun z hz=> by rw[hq_o]at hz;(cases hz;done))]; exact hS38.pick [0,1,2] Qa⟩
 refine Qg (Qb (Qd Qa Qa (Ql Qa Qa (Qi Qa Z0 Qa (Qp Qa QK (hS5.cell 0 Qa Qa) Qa (Xt Qa Qa Qa (Qd Qa Qa (Q3 56 Qa (fun h39=> ?_) (fun h39=> ?_)))))))))
 ·refine Qf Qa Qa (Q8 h39) Qa (Qf Qa Qa (Q8 h39) Qa (Qf Qa Qa (Q8 h39) Qa (Qf Qa Qa (Q8 h39) Qa (Qf Qa Qa (Q8 h39) Qa (Qx Qa (Q8 h39) Qa Qa (Qc Qa Qa (Qh (Qe (Qk [0,2,50] Qa (QL Qa (Qg (Qb (Qc Qa Qa (Qh (Qe (Qo (Q0 (Qm (Q7 (.inr Qa) Qa Qa ?_)))))))))))))))))))
  exact⟨_,rfl, by rw[Hc hup (by omega) (.inl (by omega))]; exact(Sat.row_nil Z4 (Qu (E:=E) (by rw[hq_o]; exact((Wh hS5).pick [1,2,3,4,0,5] Qa))))⟩
 refine Qj Qa Qa (Qv h39) (Qd Qa Qa (Qj Qa Qa (Qv h39) (Ql Qa Qa (Qj Qa Qa (Qv h39) (Qi Qa Xm Qa (Qj Qa Qa (Qv h39) (Qp Qa Z8 (hS5.cell 0 Qa Qa) Qa (Qj Qa Qa (Qv h39) ?_))))))))
 rcases hq_s:E.ses with _ | s
 ·rw[hq_s]at hS5
  obtain⟨rfl,hSo40⟩:=WM (hS5.pick [3,0,1,2,4] rfl)
  refine ZN underlying78 Qa Qa Qa (Qz Qa (Qv h39) Qa Qa (Qc Qa Qa (Qh (Qe (Qk [0,2,50] Qa (QL Qa (Qg (Qb (Qc Qa Qa (Qh (Qe (Qo (Q0 (Qm (Q7 (.inr Qa) Qa Qa ?_)))))))))))))))
  exact⟨_,rfl, by rw[Hc hup (by omega) (.inr (by assumption))]; exact(Sat.row_nil Z4 (Qu (E:=E) (by rw[hq_s,hq_o]; exact((Wh (ZQ hSo40)).pick [2,3,4,1,0,5] Qa))))⟩
 rw[hq_s]at hS5
 obtain⟨sb,sm,rfl,hSo41⟩:=Zn (hS5.pick [3,0,1,2,4] rfl)
 refine ZJ underlying78 Qa Qa Qa (Qz Qa (Qv h39) Qa Qa (Qc Qa Qa (Qh (Qe (Qk [0,2,50] Qa (QF Qa (Qg ?_)))))))
 have hk1:E.kind=1:= by omega
 refine Qb (Qd Qa Qa (Ql Qa Qa (Qi Qa Zo Qa (Qp Qa JT (hSo41.cell 2 Qa Qa) Qa (Qc Qa Qa (Qh (Qe (Xd Qa (fun h42=> ?_) (fun h42=> ?_)))))))))
 ·have hac:E.active=true:= by simpa using h42
  refine Qg ?_
  have hS43:=Qu (E:=E) (by rw[hq_s,hq_o]; exact((Wh (Xg (hSo41.pick [0,1,2,3,4,5] Qa))).pick [2,3,4,1,0,5] Qa))
  have hw1:SeW {s with pages:=(pushG E 4 s.pages).1}:=(hW.ses s hq_s).sim (W3 E s.pages 4)
  have hnx1:0≤E.next∧E.next<Xa (Xf {s with pages:=(pushG E 4 s.pages).1}):= by rw[Yn (W3 E s.pages 4)]; exact⟨(hW.nx hac s hq_s).1,(hW.nx hac s hq_s).2.1⟩
  refine Qb (Qd Qa Qa (Q4 Ns Qa (Ue (hS43.sp [0] Qa) (hG.starL 0 Qa) hq_s (hW.ses s hq_s) hmv) Qa ?_))
  rintro _ w44 hS44
  replace hS44:=hS44.jn Qa Qa
  have h1p:=hS44.own_one 0 Qa
  refine Qd Qa Qa (Q4 Nr Qa (Ud (E:={E with ses:=some {s with pages:=(pushG E 4 s.pages).1}}) (hS44.sp [1] Qa) (hG.starL 1 Qa) (s:={s with pages:=(pushG E 4 s.pages).1}) Qa hw1 hmv hnx1) Qa ?_)
  rintro _ w45 hS45
  replace hS45:=hS45.jn Qa Qa
  have h1q:=hS45.own_one 0 Qa
  have hpl:=YT E s.pages 4
  have hql: ∀l n nx,(ZM {E with ses:=some {s with pages:=(pushG E 4 s.pages).1}} l n (min n 32).toNat nx).2.length≤32:= fun l n nx=> by rw[W4];omega
  refine XV Z4 2 hS45 Qa Qa Qa (hS45.rd 0 Qa (by split; simp; exact Nat.le_trans (hql _ _ _) (by decide))) underlying66 underlying66 (by intro k hk; cases hk) UH Qa (by split; simp;omega; rw[W4];omega) Qa (by split; simp;omega; rw[W4];omega) ?_
  intro v46 w46 hS46; dsimp only[List.set]at hS46
  refine Qc Qa Qa (Qh (Qe (Qk [0,2] Qa (Qo (Q0 (Qm (Q7 (.inr Qa) Qa Qa ?_)))))))
  have hz:=hS46.pick [2,1,3] Qa
  simp only[Vu (E:=E) (E':={E with ses:=some {s with pages:=(pushG E 4 s.pages).1}}) Qa]at hz
  exact⟨_,rfl, by rw[Vk hup hk1 hq_s hac]; exact hz⟩
 have hac:E.active=false:= by simpa using h42
 have hS47:=Qu (E:=E) (by rw[hq_s,hq_o]; exact((Wh (Xg (hSo41.pick [0,1,2,3,4,5] Qa))).pick [2,3,4,1,0,5] Qa))
 refine Qr (Qq (Qe (Qg (Qb (Qc Qa Qa (Qh (Qe (Qg (Qb (Qd Qa Qa (Q4 VQ Qa (J6 (hS47.sp [0] Qa) hW.ses) Qa ?_)))))))))))
 rintro _ w48 hS48
 replace hS48:=hS48.jn Qa Qa
 have h1v:=hS48.own_one 0 Qa
 refine Qc Qa Qa (Qh ?_)
 obtain⟨ao,cap,hv49,hcap,_⟩:=hS48.own_shape 0 rfl
 obtain rfl:=hv49
 refine Qe (Qk [0,2,3,4] Qa (Qg (Qg (Qb (Qd Qa Qa (Qd Qa Qa ?_))))))
 first | refine Xj underlying33 Qa Qa ?_ | refine X3 0 hS48 underlying33 Qa Qa Qa ?_
 refine U7 Qa Qa Qa (V5 0 (min (QP E).length 4) underlying33 YH Qa (V4 _) (HP (min (QP E).length 4) _ Qa (by omega)) (by omega) (by omega) Qa ?_)
 rw[BD]
 refine Xj underlying33 Qa Qa (Qd Qa Qa (Qh (Qe (Qk [0,2,3,4,79,80,81] Qa (QD ?_)))))
 have hS50:=Sat.row_nil Z4 hS48
 refine XD (fun K0 E0 W0=> ∃(i:Nat) (ov9:Value),K0=(min (QP E).length 4) -i∧E0=[(0,ptrV e 0),(3,ov9),(4,.slice ao (QP E).length cap),(79,.slice ao (min (QP E).length 4) cap),(80,intV (((min (QP E).length 4):Nat):Int)),(81,intV (i:Int))]∧Sat W0 [rowT Z4 ov9 (((QP E).take i).map fun i=>Ze E 6 i 0 []),rowT inC (.slice ao (QP E).length cap) (QP E),Xs e E,F]∧(i≤(min (QP E).length 4))) (L0:=[(0,_),(3,_),(4,_),(79,_),(80,_),(81,_)]) ((min (QP E).length 4) -0) (Dc Qa Qa Qa Qa Qa Qa) ⟨0,_,rfl,rfl,hS50.pick [0,1,2,3] Qa, by omega⟩ ?_
 rintro _ _ w51 ⟨i,ov9,rfl,rfl,hS51,hi⟩
 have h1ov:ov9.oneCell'=true:=hS51.own_one 0 Qa
 refine Qg (Qb (Xz Qa Qa Qa (Qh (Qe (Qg (Qw Qa (fun h52=> ?_) (fun h52=> ?_)))))))
 ·have hlt:i<(min (QP E).length 4):= by have q9:=h52;omega
  obtain⟨x,hxm⟩: ∃x,(QP E)[i]? =some x:=⟨_,WU (by omega)⟩
  have hxt:((QP E).take (min (QP E).length 4))[i]? =some x:= by rw[List.getElem?_take,if_pos (by omega)]; exact hxm
  have hrd:RdL inC (.slice ao (min (QP E).length 4) cap) ((QP E).take (min (QP E).length 4)) w51:= by have h0:=Ent.sat (K9 (C:=inC) (a:=ao) (cap:=cap) (A:=0) (B:=(min (QP E).length 4)) (l:=QP E) (by omega) (by omega) (by omega) hcap) hS51 1 Qa; rw[BD,List.drop_zero]at h0; exact h0
  obtain⟨b,off,rfl,hc⟩:=hrd.get hxt
  have hxi:=Dr hW.ses x (List.mem_of_getElem? hxm)
  refine Qr (Qe (Qg (QD (Qg (Qb (XG i Qa Qa (by first | rfl | omega) (by omega) K7 Qa ?_))))))
  refine Qp Qa QK (hc 0 _ Qa) Qa (Qc Qa Qa (Qh (Qe (Qb (Qd Qa Qa (Qd Qa Qa (Qd Qa Qa ?_)))))))
  refine Q4 WY Qa (WX (hS51.sp [2] Qa) (hG.starL 2 Qa) (k:=6) (a:=x) (b:=0) (s:=[]) ⟨XJ (k:=6) (by decide),hmv,hxi, by show Xy 0; exact XF, by show([]:Bs).length≤_; simp⟩) Qa ?_
  rintro _ w53 ⟨rfl,hS53⟩
  replace hS53:=hS53.jn Qa Qa
  refine Xc Z4 [Ze E 6 x 0 []] hS53 Qa underlying66 JZ Qa Qa Qa Qa (by rfl) rfl ?_
  intro b54 w54 hS54
  refine XV Z4 2 hS54 Qa Qa Qa (hS54.rd 0 Qa (by simp)) underlying66 underlying66 (by intro k hk; cases hk) UH Qa (by simp only[List.length_map,List.length_take,List.length_cons,List.length_nil];omega) Qa (by simp only[List.length_map,List.length_take,List.length_cons,List.length_nil];omega) ?_
  intro v55 w55 hS55; dsimp only[List.set]at hS55
  have h1v55:v55.oneCell'=true:=hS55.own_one 2 Qa
  refine Qc Qa Qa (Qh (Qq (Qe (Qk [81,80,79,4,0,3] Qa (Qb (Xq Qa Qa (by omega) (by omega) Qa ?_))))))
  refine Qd Qa Qa (Qh ?_)
  exact QY (L1:=[(0,_),(3,_),(4,_),(79,_),(80,_),(81,intV ((i+1:Nat):Int))]) (Dc Qa Qa Qa Qa Qa Qa) (k1:=(min (QP E).length 4) -(i+1)) (by omega) ⟨i+1,_,rfl,rfl,(by rw[List.take_add_one,hxm,List.map_append]; exact hS55.pick [2,3,1,4] Qa), by omega⟩
 refine Xu (Q1 (Q1 (QJ (Qe (Qg (Qg (Qb (Qd Qa Qa ?_))))))))
 first | refine Xj underlying33 Qa Qa ?_ | refine X3 0 hS51 underlying33 Qa Qa Qa ?_ | refine X3 1 hS51 underlying33 Qa Qa Qa ?_
 refine QO Qa Qa Qa (Qd Qa Qa (Q3 95 Qa (fun h56=> ?_) (fun h56=> ?_)))
 ·refine Qj Qa Qa (Q8 h56) ?_
  obtain⟨dp,cv,sv,ov,hS57⟩:=QW (hS51.pick [2,0,1,3] rfl)
  refine Qd Qa Qa (Qj Qa Qa (Q8 h56) (Ql Qa Qa (Qj Qa Qa (Q8 h56) (Qi Qa Ug Qa (Qj Qa Qa (Q8 h56) (Qp Qa JT (hS57.cell 0 Qa Qa) Qa (Qj Qa Qa (Q8 h56) (XS Qa Qa (Qx Qa (Q8 h56) Qa Qa (Qh (Qe (Qk [3,0,101] Qa (Xd Qa (fun h58=> ?_) (fun h58=> ?_))))))))))))))
  ·refine Qb (Qd Qa Qa (Qd Qa Qa ?_))
   have hS59:=Qu (E:=E) (hS57.pick [0,1,2,3,4,5,6,7] Qa)
   refine Q4 WY Qa (WX (hS59.sp [0] Qa) (hG.starL 2 Qa) (k:=8) (a:=0) (b:=0) (s:=[]) (Yw (XJ (by decide)) hmv)) Qa ?_
   rintro _ w60 ⟨rfl,hS60⟩
   replace hS60:=hS60.jn Qa Qa
   refine Xc Z4 [Ze E 8 0 0 []] hS60 Qa underlying66 JZ Qa Qa Qa Qa (by rfl) rfl ?_
   intro b61 w61 hS61
   refine XV Z4 2 hS61 Qa Qa Qa (hS61.rd 0 Qa (by simp)) underlying66 underlying66 (by intro k hk; cases hk) UH Qa (by simp only[List.length_map,List.length_take,List.length_cons,List.length_nil];omega) Qa (by simp only[List.length_map,List.length_take,List.length_cons,List.length_nil];omega) ?_
   intro v62 w62 hS62; dsimp only[List.set]at hS62
   have h1v62:v62.oneCell'=true:=hS62.own_one 2 Qa
   refine Qc Qa Qa (Qh (Qe (Qg (Qb (Qd Qa Qa (Qc Qa Qa (Qh (Qe (Qo (Q7 (.inr Qa) Qa Qa ?_))))))))))
   have hz:=hS62.pick [2,1,4] Qa
   rw[show i=(min (QP E).length 4) by omega,J7]at hz
   exact⟨_,rfl, by rw[WZ hup hk1 hq_s hac];unfold U9; rw[if_pos ⟨List.eq_nil_of_length_eq_zero (by omega), by simp_all⟩]; exact hz⟩
  refine Qr (Qe (Qg (Qb (Qd Qa Qa (Qc Qa Qa (Qh (Qe (Qo (Q7 (.inr Qa) Qa Qa ?_)))))))))
  have hz:=(Qu (E:=E) ((hS57.pick [0,1,2,3,4,5,7] Qa))).reorder [1,0,2] Qa
  rw[show i=(min (QP E).length 4) by omega,J7]at hz
  exact⟨_,rfl, by rw[WZ hup hk1 hq_s hac];unfold U9; rw[if_neg (by rintro⟨q1,q2⟩;simp_all),List.append_nil]; exact hz⟩
 refine Qf Qa Qa (Qv h56) Qa (Qf Qa Qa (Qv h56) Qa (Qf Qa Qa (Qv h56) Qa (Qf Qa Qa (Qv h56) Qa (Qf Qa Qa (Qv h56) Qa (Qz Qa (Qv h56) Qa Qa (Qh (Qe (Qk [3,0,101] Qa (QF Qa (Qr (Qe (Qg (Qb (Qd Qa Qa (Qc Qa Qa (Qh (Qe (Qo (Q7 (.inr Qa) Qa Qa ?_)))))))))))))))))))
 have hz:=hS51.pick [0,2,3] Qa
 rw[show i=(min (QP E).length 4) by omega,J7]at hz
 exact⟨_,rfl, by rw[WZ hup hk1 hq_s hac];unfold U9; rw[if_neg (by rintro⟨q1,q2⟩;simp_all),List.append_nil]; exact hz⟩
theorem tick_b {w:World} {e:Nat} {E:EnD} {F:Th} (hS:Sat w [Xs e E,F]) (hG:Ent F WireG) (hW:EW E) {o:OfD} (hq_o:E.off=some o):
    Calls prog 36 #[ptrV e 0] w (Ret fun v w'=>Sat w' [rowT Z4 v (X7 E).2,Xs e (X7 E).1,F]):= by
 refine Qy func36 Qa ntmps36 Qa ?_
 have hmv:=hW.km.2.2.2
 have hml:=Pr hW.ses
 refine Qg (Qb (Qc Qa Qa (Qh (Qe (Qg (QD (Qg (Qb (Qd Qa Qa (Q4 Bx Qa (Ty (hS.sp [0] Qa)) Qa ?_))))))))))
 rintro _ w1 ⟨rfl,hS1⟩
 replace hS1:=hS1.jn Qa Qa
 refine XS Qa Qa (Qc Qa Qa (Qh (Qe (Xd Qa (fun h2=> ?_) (fun h2=> ?_)))))
 ·have hu0:upE E=false:= by simpa using h2
  refine Qg (Qb (Qc Qa Qa (Qh (Qe (Qo (Q0 (Qm (Q7 (.inr Qa) Qa Qa ?_))))))))
  exact⟨_,rfl, by rw[Lg hu0]; exact(Sat.row_nil Z4 (hS1.pick [0,1] Qa))⟩
 have hup: ¬upE E=false:= by simpa using h2
 refine Qg ?_
 obtain⟨dp,cv,sv,ov,hS3⟩:=QW (hS1.pick [0,1] rfl)
 rw[hq_o]at hS3
 obtain⟨ob,om,on,rfl,hS4⟩:=Bd (hS3.pick [4,0,1,2,3,5] rfl)
 have hS5:=hS4.drew
 refine QT [0,1,2,3,4,5,6,7,8,9,10,11,12,13,14,15,16,17,18,19,20,21,22,23,24,25,26] [] Jk (by kernel_rfl) ?_
 refine QM Qa Qa Qa (Xw Qa Qa Qa (QQ Qa Qa Qa Z0 (QH Qa Qa Qa (Qn Qa QK (hS5.cell 3 Qa Qa)) (QG Qa Qa Qa (fun _=>(HV Qa Qa)) ?_))))
 refine QM Qa Qa Qa (ZK 17 Qa (fun h6=> ?_) (fun h6=> ?_))
 ·refine QG Qa Qa (Qt Qa Qa (Q8 h6)) (fun _=>(Ev.gd (XA Qa))) ?_
  refine QG Qa Qa (Qt Qa Qa (Q8 h6)) (fun _=>(Ev.gd (XH Qa))) ?_
  refine QG Qa Qa (Qt Qa Qa (Q8 h6)) (fun _=>(Ev.gd (QV Qa WG))) ?_
  refine QH Qa Qa (Qt Qa Qa (Q8 h6)) (Ev.gd (Qn Qa UO (hS5.cell 3 Qa Qa))) (QG Qa Qa (Qt Qa Qa (Q8 h6)) (fun _=>(Ev.gd (Uk underlying79 Qa Qa))) ?_)
  refine QG Qa Qa Qa (fun _=>(XL Qa (Q8 h6) Qa)) ?_
  refine QM Qa Qa Qa (QG Qa Qa (Qt Qa Qa Qa) (fun _=>(Ev.gd (XA Qa))) ?_)
  refine QG Qa Qa (Qt Qa Qa Qa) (fun _=>(Ev.gd (XH Qa))) ?_
  refine QG Qa Qa (Qt Qa Qa Qa) (fun _=>(Ev.gd (QV Qa WG))) ?_
  refine QH Qa Qa (Qt Qa Qa Qa) (Ev.gd (Qn Qa UO (hS5.cell 3 Qa Qa))) (QG Qa Qa (Qt Qa Qa Qa) (fun _=>(Ev.gd (XH Qa))) ?_)
  refine QG Qa Qa (Qt Qa Qa Qa) (fun _=>(Ev.gd (QV Qa G4))) ?_
  refine QH Qa Qa (Qt Qa Qa Qa) (Ev.gd (Qn Qa QK (hS5.cell 0 Qa Qa))) (QG Qa Qa (Qt Qa Qa Qa) (fun _=>(Ev.gd (XA Qa))) ?_)
  refine QG Qa Qa (Qt Qa Qa Qa) (fun _=>(Ev.gd (XH Qa))) ?_
  refine QG Qa Qa (Qt Qa Qa Qa) (fun _=>(Ev.gd (QV Qa WH))) ?_
  refine QH Qa Qa (Qt Qa Qa Qa) (Ev.gd (Qn Qa QK (hS5.cell 3 Qa Qa))) (QG Qa Qa (Qt Qa Qa Qa) (fun _=>(Ev.gd (HV Qa Qa))) ?_)
  refine QG Qa Qa Qa (fun _=>(XL Qa Qa Qa)) ?_
  refine Jr Qa Qa Qa (VC.nil (Qe (Qk [0,2,11] Qa (Qw Qa (fun h7=> ?_) (fun h7=> ?_)))))
  ·refine Qg (Qb (Qd Qa Qa ?_))
   have hS8:=Qu (E:=E) (by rw[hq_o]; exact((XX (hS5.pick [0,1,2,3,4,5,6,7] Qa)).pick [1,2,3,4,0,5] Qa))
   refine Q4 WY Qa (WX (hS8.sp [0] Qa) (hG.starL 0 Qa) (k:=2) (a:=0) (b:=0) (s:=[]) (Yw (XJ (by decide)) hmv)) Qa ?_
   rintro _ w9 ⟨rfl,hS9⟩
   replace hS9:=hS9.jn Qa Qa
   refine Xc Z4 [Ze E 2 0 0 []] hS9 Qa underlying66 JZ Qa Qa Qa Qa (by rfl) rfl ?_
   intro b10 w10 hS10
   refine Qc Qa Qa (Qh (Qe (Qo (Q0 (Qm (Q7 (.inr Qa) Qa Qa ?_))))))
   exact⟨_,rfl, by rw[NL hup (by omega) hq_o (by omega)]; exact hS10.pick [0,1,2] Qa⟩
  refine Qg (Qb (Qd Qa Qa (Ql Qa Qa (Qi Qa Z0 Qa (Qp Qa QK (hS5.cell 3 Qa Qa) Qa (QO Qa Qa Qa (Qc Qa Qa (Qh (Qe (Qw Qa (fun h11=> ?_) (fun h11=> ?_)))))))))))
  ·refine Qg (Qb (Qd Qa Qa ?_))
   have hS12:=Qu (E:=E) (by rw[hq_o]; exact((XX (hS5.pick [0,1,2,3,4,5,6,7] Qa)).pick [1,2,3,4,0,5] Qa))
   refine Q4 WY Qa (WX (hS12.sp [0] Qa) (hG.starL 0 Qa) (k:=3) (a:=0) (b:=0) (s:=[]) (Yw (XJ (by decide)) hmv)) Qa ?_
   rintro _ w13 ⟨rfl,hS13⟩
   replace hS13:=hS13.jn Qa Qa
   refine Xc Z4 [Ze E 3 0 0 []] hS13 Qa underlying66 JZ Qa Qa Qa Qa (by rfl) rfl ?_
   intro b14 w14 hS14
   refine Qc Qa Qa (Qh (Qe (Qk [0,2] Qa (Qo (Q0 (Qm (Q7 (.inr Qa) Qa Qa ?_)))))))
   exact⟨_,rfl, by rw[Vi hup (by omega) (fun z hz=> by rw[hq_o]at hz;(cases hz;omega))]; exact hS14.pick [0,1,2] Qa⟩
  refine Qg (Qb (Qd Qa Qa (Ql Qa Qa (Qi Qa Z0 Qa (Qp Qa QK (hS5.cell 3 Qa Qa) Qa (Xt Qa Qa Qa (Qd Qa Qa (Q3 56 Qa (fun h15=> ?_) (fun h15=> ?_)))))))))
  ·refine Qf Qa Qa (Q8 h15) Qa (Qf Qa Qa (Q8 h15) Qa (Qf Qa Qa (Q8 h15) Qa (Qf Qa Qa (Q8 h15) Qa (Qf Qa Qa (Q8 h15) Qa (Qx Qa (Q8 h15) Qa Qa (Qc Qa Qa (Qh (Qe (Qk [0,2,50] Qa (QL Qa (Qg (Qb (Qc Qa Qa (Qh (Qe (Qo (Q0 (Qm (Q7 (.inr Qa) Qa Qa ?_)))))))))))))))))))
   exact⟨_,rfl, by rw[Hc hup (by omega) (.inl (by omega))]; exact(Sat.row_nil Z4 (Qu (E:=E) (by rw[hq_o]; exact((XX (hS5.pick [0,1,2,3,4,5,6,7] Qa)).pick [1,2,3,4,0,5] Qa))))⟩
  refine Qj Qa Qa (Qv h15) (Qd Qa Qa (Qj Qa Qa (Qv h15) (Ql Qa Qa (Qj Qa Qa (Qv h15) (Qi Qa Xm Qa (Qj Qa Qa (Qv h15) (Qp Qa Z8 (hS5.cell 3 Qa Qa) Qa (Qj Qa Qa (Qv h15) ?_))))))))
  rcases hq_s:E.ses with _ | s
  ·rw[hq_s]at hS5
   obtain⟨rfl,hSo16⟩:=WM (hS5.pick [6,0,1,2,3,4,5,7] rfl)
   refine ZN underlying78 Qa Qa Qa (Qz Qa (Qv h15) Qa Qa (Qc Qa Qa (Qh (Qe (Qk [0,2,50] Qa (QL Qa (Qg (Qb (Qc Qa Qa (Qh (Qe (Qo (Q0 (Qm (Q7 (.inr Qa) Qa Qa ?_)))))))))))))))
   exact⟨_,rfl, by rw[Hc hup (by omega) (.inr (by assumption))]; exact(Sat.row_nil Z4 (Qu (E:=E) (by rw[hq_s,hq_o]; exact((XX ((ZQ hSo16).pick [1,2,3,0,4,5,6,7] Qa)).pick [2,3,4,1,0,5] Qa))))⟩
  rw[hq_s]at hS5
  obtain⟨sb,sm,rfl,hSo17⟩:=Zn (hS5.pick [6,0,1,2,3,4,5,7] rfl)
  refine ZJ underlying78 Qa Qa Qa (Qz Qa (Qv h15) Qa Qa (Qc Qa Qa (Qh (Qe (Qk [0,2,50] Qa (QF Qa (Qg ?_)))))))
  have hk1:E.kind=1:= by omega
  refine Qb (Qd Qa Qa (Ql Qa Qa (Qi Qa Zo Qa (Qp Qa JT (hSo17.cell 5 Qa Qa) Qa (Qc Qa Qa (Qh (Qe (Xd Qa (fun h18=> ?_) (fun h18=> ?_)))))))))
  ·have hac:E.active=true:= by simpa using h18
   refine Qg ?_
   have hS19:=Qu (E:=E) (by rw[hq_s,hq_o]; exact((XX ((Xg (hSo17.pick [0,1,2,3,4,5,6,7,8] Qa)).pick [1,2,3,0,4,5,6,7] Qa)).pick [2,3,4,1,0,5] Qa))
   have hw1:SeW {s with pages:=(pushG E 4 s.pages).1}:=(hW.ses s hq_s).sim (W3 E s.pages 4)
   have hnx1:0≤E.next∧E.next<Xa (Xf {s with pages:=(pushG E 4 s.pages).1}):= by rw[Yn (W3 E s.pages 4)]; exact⟨(hW.nx hac s hq_s).1,(hW.nx hac s hq_s).2.1⟩
   refine Qb (Qd Qa Qa (Q4 Ns Qa (Ue (hS19.sp [0] Qa) (hG.starL 0 Qa) hq_s (hW.ses s hq_s) hmv) Qa ?_))
   rintro _ w20 hS20
   replace hS20:=hS20.jn Qa Qa
   have h1p:=hS20.own_one 0 Qa
   refine Qd Qa Qa (Q4 Nr Qa (Ud (E:={E with ses:=some {s with pages:=(pushG E 4 s.pages).1}}) (hS20.sp [1] Qa) (hG.starL 1 Qa) (s:={s with pages:=(pushG E 4 s.pages).1}) Qa hw1 hmv hnx1) Qa ?_)
   rintro _ w21 hS21
   replace hS21:=hS21.jn Qa Qa
   have h1q:=hS21.own_one 0 Qa
   have hpl:=YT E s.pages 4
   have hql: ∀l n nx,(ZM {E with ses:=some {s with pages:=(pushG E 4 s.pages).1}} l n (min n 32).toNat nx).2.length≤32:= fun l n nx=> by rw[W4];omega
   refine XV Z4 2 hS21 Qa Qa Qa (hS21.rd 0 Qa (by split; simp; exact Nat.le_trans (hql _ _ _) (by decide))) underlying66 underlying66 (by intro k hk; cases hk) UH Qa (by split; simp;omega; rw[W4];omega) Qa (by split; simp;omega; rw[W4];omega) ?_
   intro v22 w22 hS22; dsimp only[List.set]at hS22
   refine Qc Qa Qa (Qh (Qe (Qk [0,2] Qa (Qo (Q0 (Qm (Q7 (.inr Qa) Qa Qa ?_)))))))
   have hz:=hS22.pick [2,1,3] Qa
   simp only[Vu (E:=E) (E':={E with ses:=some {s with pages:=(pushG E 4 s.pages).1}}) Qa]at hz
   exact⟨_,rfl, by rw[Vk hup hk1 hq_s hac]; exact hz⟩
  have hac:E.active=false:= by simpa using h18
  have hS23:=Qu (E:=E) (by rw[hq_s,hq_o]; exact((XX ((Xg (hSo17.pick [0,1,2,3,4,5,6,7,8] Qa)).pick [1,2,3,0,4,5,6,7] Qa)).pick [2,3,4,1,0,5] Qa))
  refine Qr (Qq (Qe (Qg (Qb (Qc Qa Qa (Qh (Qe (Qg (Qb (Qd Qa Qa (Q4 VQ Qa (J6 (hS23.sp [0] Qa) hW.ses) Qa ?_)))))))))))
  rintro _ w24 hS24
  replace hS24:=hS24.jn Qa Qa
  have h1v:=hS24.own_one 0 Qa
  refine Qc Qa Qa (Qh ?_)
  obtain⟨ao,cap,hv25,hcap,_⟩:=hS24.own_shape 0 rfl
  obtain rfl:=hv25
  refine Qe (Qk [0,2,3,4] Qa (Qg (Qg (Qb (Qd Qa Qa (Qd Qa Qa ?_))))))
  first | refine Xj underlying33 Qa Qa ?_ | refine X3 0 hS24 underlying33 Qa Qa Qa ?_
  refine U7 Qa Qa Qa (V5 0 (min (QP E).length 4) underlying33 YH Qa (V4 _) (HP (min (QP E).length 4) _ Qa (by omega)) (by omega) (by omega) Qa ?_)
  rw[BD]
  refine Xj underlying33 Qa Qa (Qd Qa Qa (Qh (Qe (Qk [0,2,3,4,79,80,81] Qa (QD ?_)))))
  have hS26:=Sat.row_nil Z4 hS24
  refine XD (fun K0 E0 W0=> ∃(i:Nat) (ov9:Value),K0=(min (QP E).length 4) -i∧E0=[(0,ptrV e 0),(3,ov9),(4,.slice ao (QP E).length cap),(79,.slice ao (min (QP E).length 4) cap),(80,intV (((min (QP E).length 4):Nat):Int)),(81,intV (i:Int))]∧Sat W0 [rowT Z4 ov9 (((QP E).take i).map fun i=>Ze E 6 i 0 []),rowT inC (.slice ao (QP E).length cap) (QP E),Xs e E,F]∧(i≤(min (QP E).length 4))) (L0:=[(0,_),(3,_),(4,_),(79,_),(80,_),(81,_)]) ((min (QP E).length 4) -0) (Dc Qa Qa Qa Qa Qa Qa) ⟨0,_,rfl,rfl,hS26.pick [0,1,2,3] Qa, by omega⟩ ?_
  rintro _ _ w27 ⟨i,ov9,rfl,rfl,hS27,hi⟩
  have h1ov:ov9.oneCell'=true:=hS27.own_one 0 Qa
  refine Qg (Qb (Xz Qa Qa Qa (Qh (Qe (Qg (Qw Qa (fun h28=> ?_) (fun h28=> ?_)))))))
  ·have hlt:i<(min (QP E).length 4):= by have q9:=h28;omega
   obtain⟨x,hxm⟩: ∃x,(QP E)[i]? =some x:=⟨_,WU (by omega)⟩
   have hxt:((QP E).take (min (QP E).length 4))[i]? =some x:= by rw[List.getElem?_take,if_pos (by omega)]; exact hxm
   have hrd:RdL inC (.slice ao (min (QP E).length 4) cap) ((QP E).take (min (QP E).length 4)) w27:= by have h0:=Ent.sat (K9 (C:=inC) (a:=ao) (cap:=cap) (A:=0) (B:=(min (QP E).length 4)) (l:=QP E) (by omega) (by omega) (by omega) hcap) hS27 1 Qa; rw[BD,List.drop_zero]at h0; exact h0
   obtain⟨b,off,rfl,hc⟩:=hrd.get hxt
   have hxi:=Dr hW.ses x (List.mem_of_getElem? hxm)
   refine Qr (Qe (Qg (QD (Qg (Qb (XG i Qa Qa (by first | rfl | omega) (by omega) K7 Qa ?_))))))
   refine Qp Qa QK (hc 0 _ Qa) Qa (Qc Qa Qa (Qh (Qe (Qb (Qd Qa Qa (Qd Qa Qa (Qd Qa Qa ?_)))))))
   refine Q4 WY Qa (WX (hS27.sp [2] Qa) (hG.starL 2 Qa) (k:=6) (a:=x) (b:=0) (s:=[]) ⟨XJ (k:=6) (by decide),hmv,hxi, by show Xy 0; exact XF, by show([]:Bs).length≤_; simp⟩) Qa ?_
   rintro _ w29 ⟨rfl,hS29⟩
   replace hS29:=hS29.jn Qa Qa
   refine Xc Z4 [Ze E 6 x 0 []] hS29 Qa underlying66 JZ Qa Qa Qa Qa (by rfl) rfl ?_
   intro b30 w30 hS30
   refine XV Z4 2 hS30 Qa Qa Qa (hS30.rd 0 Qa (by simp)) underlying66 underlying66 (by intro k hk; cases hk) UH Qa (by simp only[List.length_map,List.length_take,List.length_cons,List.length_nil];omega) Qa (by simp only[List.length_map,List.length_take,List.length_cons,List.length_nil];omega) ?_
   intro v31 w31 hS31; dsimp only[List.set]at hS31
   have h1v31:v31.oneCell'=true:=hS31.own_one 2 Qa
   refine Qc Qa Qa (Qh (Qq (Qe (Qk [81,80,79,4,0,3] Qa (Qb (Xq Qa Qa (by omega) (by omega) Qa ?_))))))
   refine Qd Qa Qa (Qh ?_)
   exact QY (L1:=[(0,_),(3,_),(4,_),(79,_),(80,_),(81,intV ((i+1:Nat):Int))]) (Dc Qa Qa Qa Qa Qa Qa) (k1:=(min (QP E).length 4) -(i+1)) (by omega) ⟨i+1,_,rfl,rfl,(by rw[List.take_add_one,hxm,List.map_append]; exact hS31.pick [2,3,1,4] Qa), by omega⟩
  refine Xu (Q1 (Q1 (QJ (Qe (Qg (Qg (Qb (Qd Qa Qa ?_))))))))
  first | refine Xj underlying33 Qa Qa ?_ | refine X3 0 hS27 underlying33 Qa Qa Qa ?_ | refine X3 1 hS27 underlying33 Qa Qa Qa ?_
  refine QO Qa Qa Qa (Qd Qa Qa (Q3 95 Qa (fun h32=> ?_) (fun h32=> ?_)))
  ·refine Qj Qa Qa (Q8 h32) ?_
   obtain⟨dp,cv,sv,ov,hS33⟩:=QW (hS27.pick [2,0,1,3] rfl)
   refine Qd Qa Qa (Qj Qa Qa (Q8 h32) (Ql Qa Qa (Qj Qa Qa (Q8 h32) (Qi Qa Ug Qa (Qj Qa Qa (Q8 h32) (Qp Qa JT (hS33.cell 0 Qa Qa) Qa (Qj Qa Qa (Q8 h32) (XS Qa Qa (Qx Qa (Q8 h32) Qa Qa (Qh (Qe (Qk [3,0,101] Qa (Xd Qa (fun h34=> ?_) (fun h34=> ?_))))))))))))))
   ·refine Qb (Qd Qa Qa (Qd Qa Qa ?_))
    have hS35:=Qu (E:=E) (hS33.pick [0,1,2,3,4,5,6,7] Qa)
    refine Q4 WY Qa (WX (hS35.sp [0] Qa) (hG.starL 2 Qa) (k:=8) (a:=0) (b:=0) (s:=[]) (Yw (XJ (by decide)) hmv)) Qa ?_
    rintro _ w36 ⟨rfl,hS36⟩
    replace hS36:=hS36.jn Qa Qa
    refine Xc Z4 [Ze E 8 0 0 []] hS36 Qa underlying66 JZ Qa Qa Qa Qa (by rfl) rfl ?_
    intro b37 w37 hS37
    refine XV Z4 2 hS37 Qa Qa Qa (hS37.rd 0 Qa (by simp)) underlying66 underlying66 (by intro k hk; cases hk) UH Qa (by simp only[List.length_map,List.length_take,List.length_cons,List.length_nil];omega) Qa (by simp only[List.length_map,List.length_take,List.length_cons,List.length_nil];omega) ?_
    intro v38 w38 hS38; dsimp only[List.set]at hS38
    have h1v38:v38.oneCell'=true:=hS38.own_one 2 Qa
    refine Qc Qa Qa (Qh (Qe (Qg (Qb (Qd Qa Qa (Qc Qa Qa (Qh (Qe (Qo (Q7 (.inr Qa) Qa Qa ?_))))))))))
    have hz:=hS38.pick [2,1,4] Qa
    rw[show i=(min (QP E).length 4) by omega,J7]at hz
    exact⟨_,rfl, by rw[WZ hup hk1 hq_s hac];unfold U9; rw[if_pos ⟨List.eq_nil_of_length_eq_zero (by omega), by simp_all⟩]; exact hz⟩
   refine Qr (Qe (Qg (Qb (Qd Qa Qa (Qc Qa Qa (Qh (Qe (Qo (Q7 (.inr Qa) Qa Qa ?_)))))))))
   have hz:=(Qu (E:=E) ((hS33.pick [0,1,2,3,4,5,7] Qa))).reorder [1,0,2] Qa
   rw[show i=(min (QP E).length 4) by omega,J7]at hz
   exact⟨_,rfl, by rw[WZ hup hk1 hq_s hac];unfold U9; rw[if_neg (by rintro⟨q1,q2⟩;simp_all),List.append_nil]; exact hz⟩
  refine Qf Qa Qa (Qv h32) Qa (Qf Qa Qa (Qv h32) Qa (Qf Qa Qa (Qv h32) Qa (Qf Qa Qa (Qv h32) Qa (Qf Qa Qa (Qv h32) Qa (Qz Qa (Qv h32) Qa Qa (Qh (Qe (Qk [3,0,101] Qa (QF Qa (Qr (Qe (Qg (Qb (Qd Qa Qa (Qc Qa Qa (Qh (Qe (Qo (Q7 (.inr Qa) Qa Qa ?_)))))))))))))))))))
  have hz:=hS27.pick [0,2,3] Qa
  rw[show i=(min (QP E).length 4) by omega,J7]at hz
  exact⟨_,rfl, by rw[WZ hup hk1 hq_s hac];unfold U9; rw[if_neg (by rintro⟨q1,q2⟩;simp_all),List.append_nil]; exact hz⟩
 refine Q2 Qa Qa (Qs Qa Qa (Qv h6)) (Q2 Qa Qa (Qs Qa Qa (Qv h6)) (Q2 Qa Qa (Qs Qa Qa (Qv h6)) (Q2 Qa Qa (Qs Qa Qa (Qv h6)) (Q2 Qa Qa (Qs Qa Qa (Qv h6)) (QG Qa Qa Qa (fun _=>(X0 Qa (Qv h6) Qa)) ?_)))))
 refine QM Qa Qa Qa (Q2 Qa Qa (Qs Qa Qa Qa) (Q2 Qa Qa (Qs Qa Qa Qa) (Q2 Qa Qa (Qs Qa Qa Qa) (Q2 Qa Qa (Qs Qa Qa Qa) (Q2 Qa Qa (Qs Qa Qa Qa) (Q2 Qa Qa (Qs Qa Qa Qa) (Q2 Qa Qa (Qs Qa Qa Qa) (Q2 Qa Qa (Qs Qa Qa Qa) (Q2 Qa Qa (Qs Qa Qa Qa) (Q2 Qa Qa (Qs Qa Qa Qa) (Q2 Qa Qa (Qs Qa Qa Qa) (Q2 Qa Qa (Qs Qa Qa Qa) (QG Qa Qa Qa (fun _=>(X0 Qa Qa Qa)) ?_)))))))))))))
 refine Jr Qa Qa Qa (VC.nil (Qe (Qk [0,2,11] Qa (QF Qa (Qg (Qb (Qd Qa Qa (Ql Qa Qa (Qi Qa Z0 Qa (Qp Qa QK (hS5.cell 3 Qa Qa) Qa (QO Qa Qa Qa (Qc Qa Qa (Qh (Qe (Qw Qa (fun h39=> ?_) (fun h39=> ?_))))))))))))))))
 ·refine Qg (Qb (Qd Qa Qa ?_))
  have hS40:=Qu (E:=E) (by rw[hq_o]; exact((XX (hS5.pick [0,1,2,3,4,5,6,7] Qa)).pick [1,2,3,4,0,5] Qa))
  refine Q4 WY Qa (WX (hS40.sp [0] Qa) (hG.starL 0 Qa) (k:=3) (a:=0) (b:=0) (s:=[]) (Yw (XJ (by decide)) hmv)) Qa ?_
  rintro _ w41 ⟨rfl,hS41⟩
  replace hS41:=hS41.jn Qa Qa
  refine Xc Z4 [Ze E 3 0 0 []] hS41 Qa underlying66 JZ Qa Qa Qa Qa (by rfl) rfl ?_
  intro b42 w42 hS42
  refine Qc Qa Qa (Qh (Qe (Qk [0,2] Qa (Qo (Q0 (Qm (Q7 (.inr Qa) Qa Qa ?_)))))))
  exact⟨_,rfl, by rw[Vi hup (by omega) (fun z hz=> by rw[hq_o]at hz;(cases hz;omega))]; exact hS42.pick [0,1,2] Qa⟩
 refine Qg (Qb (Qd Qa Qa (Ql Qa Qa (Qi Qa Z0 Qa (Qp Qa QK (hS5.cell 3 Qa Qa) Qa (Xt Qa Qa Qa (Qd Qa Qa (Q3 56 Qa (fun h43=> ?_) (fun h43=> ?_)))))))))
 ·refine Qf Qa Qa (Q8 h43) Qa (Qf Qa Qa (Q8 h43) Qa (Qf Qa Qa (Q8 h43) Qa (Qf Qa Qa (Q8 h43) Qa (Qf Qa Qa (Q8 h43) Qa (Qx Qa (Q8 h43) Qa Qa (Qc Qa Qa (Qh (Qe (Qk [0,2,50] Qa (QL Qa (Qg (Qb (Qc Qa Qa (Qh (Qe (Qo (Q0 (Qm (Q7 (.inr Qa) Qa Qa ?_)))))))))))))))))))
  exact⟨_,rfl, by rw[Hc hup (by omega) (.inl (by omega))]; exact(Sat.row_nil Z4 (Qu (E:=E) (by rw[hq_o]; exact((XX (hS5.pick [0,1,2,3,4,5,6,7] Qa)).pick [1,2,3,4,0,5] Qa))))⟩
 refine Qj Qa Qa (Qv h43) (Qd Qa Qa (Qj Qa Qa (Qv h43) (Ql Qa Qa (Qj Qa Qa (Qv h43) (Qi Qa Xm Qa (Qj Qa Qa (Qv h43) (Qp Qa Z8 (hS5.cell 3 Qa Qa) Qa (Qj Qa Qa (Qv h43) ?_))))))))
 rcases hq_s:E.ses with _ | s
 ·rw[hq_s]at hS5
  obtain⟨rfl,hSo44⟩:=WM (hS5.pick [6,0,1,2,3,4,5,7] rfl)
  refine ZN underlying78 Qa Qa Qa (Qz Qa (Qv h43) Qa Qa (Qc Qa Qa (Qh (Qe (Qk [0,2,50] Qa (QL Qa (Qg (Qb (Qc Qa Qa (Qh (Qe (Qo (Q0 (Qm (Q7 (.inr Qa) Qa Qa ?_)))))))))))))))
  exact⟨_,rfl, by rw[Hc hup (by omega) (.inr (by assumption))]; exact(Sat.row_nil Z4 (Qu (E:=E) (by rw[hq_s,hq_o]; exact((XX ((ZQ hSo44).pick [1,2,3,0,4,5,6,7] Qa)).pick [2,3,4,1,0,5] Qa))))⟩
 rw[hq_s]at hS5
 obtain⟨sb,sm,rfl,hSo45⟩:=Zn (hS5.pick [6,0,1,2,3,4,5,7] rfl)
 refine ZJ underlying78 Qa Qa Qa (Qz Qa (Qv h43) Qa Qa (Qc Qa Qa (Qh (Qe (Qk [0,2,50] Qa (QF Qa (Qg ?_)))))))
 have hk1:E.kind=1:= by omega
 refine Qb (Qd Qa Qa (Ql Qa Qa (Qi Qa Zo Qa (Qp Qa JT (hSo45.cell 5 Qa Qa) Qa (Qc Qa Qa (Qh (Qe (Xd Qa (fun h46=> ?_) (fun h46=> ?_)))))))))
 ·have hac:E.active=true:= by simpa using h46
  refine Qg ?_
  have hS47:=Qu (E:=E) (by rw[hq_s,hq_o]; exact((XX ((Xg (hSo45.pick [0,1,2,3,4,5,6,7,8] Qa)).pick [1,2,3,0,4,5,6,7] Qa)).pick [2,3,4,1,0,5] Qa))
  have hw1:SeW {s with pages:=(pushG E 4 s.pages).1}:=(hW.ses s hq_s).sim (W3 E s.pages 4)
  have hnx1:0≤E.next∧E.next<Xa (Xf {s with pages:=(pushG E 4 s.pages).1}):= by rw[Yn (W3 E s.pages 4)]; exact⟨(hW.nx hac s hq_s).1,(hW.nx hac s hq_s).2.1⟩
  refine Qb (Qd Qa Qa (Q4 Ns Qa (Ue (hS47.sp [0] Qa) (hG.starL 0 Qa) hq_s (hW.ses s hq_s) hmv) Qa ?_))
  rintro _ w48 hS48
  replace hS48:=hS48.jn Qa Qa
  have h1p:=hS48.own_one 0 Qa
  refine Qd Qa Qa (Q4 Nr Qa (Ud (E:={E with ses:=some {s with pages:=(pushG E 4 s.pages).1}}) (hS48.sp [1] Qa) (hG.starL 1 Qa) (s:={s with pages:=(pushG E 4 s.pages).1}) Qa hw1 hmv hnx1) Qa ?_)
  rintro _ w49 hS49
  replace hS49:=hS49.jn Qa Qa
  have h1q:=hS49.own_one 0 Qa
  have hpl:=YT E s.pages 4
  have hql: ∀l n nx,(ZM {E with ses:=some {s with pages:=(pushG E 4 s.pages).1}} l n (min n 32).toNat nx).2.length≤32:= fun l n nx=> by rw[W4];omega
  refine XV Z4 2 hS49 Qa Qa Qa (hS49.rd 0 Qa (by split; simp; exact Nat.le_trans (hql _ _ _) (by decide))) underlying66 underlying66 (by intro k hk; cases hk) UH Qa (by split; simp;omega; rw[W4];omega) Qa (by split; simp;omega; rw[W4];omega) ?_
  intro v50 w50 hS50; dsimp only[List.set]at hS50
  refine Qc Qa Qa (Qh (Qe (Qk [0,2] Qa (Qo (Q0 (Qm (Q7 (.inr Qa) Qa Qa ?_)))))))
  have hz:=hS50.pick [2,1,3] Qa
  simp only[Vu (E:=E) (E':={E with ses:=some {s with pages:=(pushG E 4 s.pages).1}}) Qa]at hz
  exact⟨_,rfl, by rw[Vk hup hk1 hq_s hac]; exact hz⟩
 have hac:E.active=false:= by simpa using h46
 have hS51:=Qu (E:=E) (by rw[hq_s,hq_o]; exact((XX ((Xg (hSo45.pick [0,1,2,3,4,5,6,7,8] Qa)).pick [1,2,3,0,4,5,6,7] Qa)).pick [2,3,4,1,0,5] Qa))
 refine Qr (Qq (Qe (Qg (Qb (Qc Qa Qa (Qh (Qe (Qg (Qb (Qd Qa Qa (Q4 VQ Qa (J6 (hS51.sp [0] Qa) hW.ses) Qa ?_)))))))))))
 rintro _ w52 hS52
 replace hS52:=hS52.jn Qa Qa
 have h1v:=hS52.own_one 0 Qa
 refine Qc Qa Qa (Qh ?_)
 obtain⟨ao,cap,hv53,hcap,_⟩:=hS52.own_shape 0 rfl
 obtain rfl:=hv53
 refine Qe (Qk [0,2,3,4] Qa (Qg (Qg (Qb (Qd Qa Qa (Qd Qa Qa ?_))))))
 first | refine Xj underlying33 Qa Qa ?_ | refine X3 0 hS52 underlying33 Qa Qa Qa ?_
 refine U7 Qa Qa Qa (V5 0 (min (QP E).length 4) underlying33 YH Qa (V4 _) (HP (min (QP E).length 4) _ Qa (by omega)) (by omega) (by omega) Qa ?_)
 rw[BD]
 refine Xj underlying33 Qa Qa (Qd Qa Qa (Qh (Qe (Qk [0,2,3,4,79,80,81] Qa (QD ?_)))))
 have hS54:=Sat.row_nil Z4 hS52
 refine XD (fun K0 E0 W0=> ∃(i:Nat) (ov9:Value),K0=(min (QP E).length 4) -i∧E0=[(0,ptrV e 0),(3,ov9),(4,.slice ao (QP E).length cap),(79,.slice ao (min (QP E).length 4) cap),(80,intV (((min (QP E).length 4):Nat):Int)),(81,intV (i:Int))]∧Sat W0 [rowT Z4 ov9 (((QP E).take i).map fun i=>Ze E 6 i 0 []),rowT inC (.slice ao (QP E).length cap) (QP E),Xs e E,F]∧(i≤(min (QP E).length 4))) (L0:=[(0,_),(3,_),(4,_),(79,_),(80,_),(81,_)]) ((min (QP E).length 4) -0) (Dc Qa Qa Qa Qa Qa Qa) ⟨0,_,rfl,rfl,hS54.pick [0,1,2,3] Qa, by omega⟩ ?_
 rintro _ _ w55 ⟨i,ov9,rfl,rfl,hS55,hi⟩
 have h1ov:ov9.oneCell'=true:=hS55.own_one 0 Qa
 refine Qg (Qb (Xz Qa Qa Qa (Qh (Qe (Qg (Qw Qa (fun h56=> ?_) (fun h56=> ?_)))))))
 ·have hlt:i<(min (QP E).length 4):= by have q9:=h56;omega
  obtain⟨x,hxm⟩: ∃x,(QP E)[i]? =some x:=⟨_,WU (by omega)⟩
  have hxt:((QP E).take (min (QP E).length 4))[i]? =some x:= by rw[List.getElem?_take,if_pos (by omega)]; exact hxm
  have hrd:RdL inC (.slice ao (min (QP E).length 4) cap) ((QP E).take (min (QP E).length 4)) w55:= by have h0:=Ent.sat (K9 (C:=inC) (a:=ao) (cap:=cap) (A:=0) (B:=(min (QP E).length 4)) (l:=QP E) (by omega) (by omega) (by omega) hcap) hS55 1 Qa; rw[BD,List.drop_zero]at h0; exact h0
  obtain⟨b,off,rfl,hc⟩:=hrd.get hxt
  have hxi:=Dr hW.ses x (List.mem_of_getElem? hxm)
  refine Qr (Qe (Qg (QD (Qg (Qb (XG i Qa Qa (by first | rfl | omega) (by omega) K7 Qa ?_))))))
  refine Qp Qa QK (hc 0 _ Qa) Qa (Qc Qa Qa (Qh (Qe (Qb (Qd Qa Qa (Qd Qa Qa (Qd Qa Qa ?_)))))))
  refine Q4 WY Qa (WX (hS55.sp [2] Qa) (hG.starL 2 Qa) (k:=6) (a:=x) (b:=0) (s:=[]) ⟨XJ (k:=6) (by decide),hmv,hxi, by show Xy 0; exact XF, by show([]:Bs).length≤_; simp⟩) Qa ?_
  rintro _ w57 ⟨rfl,hS57⟩
  replace hS57:=hS57.jn Qa Qa
  refine Xc Z4 [Ze E 6 x 0 []] hS57 Qa underlying66 JZ Qa Qa Qa Qa (by rfl) rfl ?_
  intro b58 w58 hS58
  refine XV Z4 2 hS58 Qa Qa Qa (hS58.rd 0 Qa (by simp)) underlying66 underlying66 (by intro k hk; cases hk) UH Qa (by simp only[List.length_map,List.length_take,List.length_cons,List.length_nil];omega) Qa (by simp only[List.length_map,List.length_take,List.length_cons,List.length_nil];omega) ?_
  intro v59 w59 hS59; dsimp only[List.set]at hS59
  have h1v59:v59.oneCell'=true:=hS59.own_one 2 Qa
  refine Qc Qa Qa (Qh (Qq (Qe (Qk [81,80,79,4,0,3] Qa (Qb (Xq Qa Qa (by omega) (by omega) Qa ?_))))))
  refine Qd Qa Qa (Qh ?_)
  exact QY (L1:=[(0,_),(3,_),(4,_),(79,_),(80,_),(81,intV ((i+1:Nat):Int))]) (Dc Qa Qa Qa Qa Qa Qa) (k1:=(min (QP E).length 4) -(i+1)) (by omega) ⟨i+1,_,rfl,rfl,(by rw[List.take_add_one,hxm,List.map_append]; exact hS59.pick [2,3,1,4] Qa), by omega⟩
 refine Xu (Q1 (Q1 (QJ (Qe (Qg (Qg (Qb (Qd Qa Qa ?_))))))))
 first | refine Xj underlying33 Qa Qa ?_ | refine X3 0 hS55 underlying33 Qa Qa Qa ?_ | refine X3 1 hS55 underlying33 Qa Qa Qa ?_
 refine QO Qa Qa Qa (Qd Qa Qa (Q3 95 Qa (fun h60=> ?_) (fun h60=> ?_)))
 ·refine Qj Qa Qa (Q8 h60) ?_
  obtain⟨dp,cv,sv,ov,hS61⟩:=QW (hS55.pick [2,0,1,3] rfl)
  refine Qd Qa Qa (Qj Qa Qa (Q8 h60) (Ql Qa Qa (Qj Qa Qa (Q8 h60) (Qi Qa Ug Qa (Qj Qa Qa (Q8 h60) (Qp Qa JT (hS61.cell 0 Qa Qa) Qa (Qj Qa Qa (Q8 h60) (XS Qa Qa (Qx Qa (Q8 h60) Qa Qa (Qh (Qe (Qk [3,0,101] Qa (Xd Qa (fun h62=> ?_) (fun h62=> ?_))))))))))))))
  ·refine Qb (Qd Qa Qa (Qd Qa Qa ?_))
   have hS63:=Qu (E:=E) (hS61.pick [0,1,2,3,4,5,6,7] Qa)
   refine Q4 WY Qa (WX (hS63.sp [0] Qa) (hG.starL 2 Qa) (k:=8) (a:=0) (b:=0) (s:=[]) (Yw (XJ (by decide)) hmv)) Qa ?_
   rintro _ w64 ⟨rfl,hS64⟩
   replace hS64:=hS64.jn Qa Qa
   refine Xc Z4 [Ze E 8 0 0 []] hS64 Qa underlying66 JZ Qa Qa Qa Qa (by rfl) rfl ?_
   intro b65 w65 hS65
   refine XV Z4 2 hS65 Qa Qa Qa (hS65.rd 0 Qa (by simp)) underlying66 underlying66 (by intro k hk; cases hk) UH Qa (by simp only[List.length_map,List.length_take,List.length_cons,List.length_nil];omega) Qa (by simp only[List.length_map,List.length_take,List.length_cons,List.length_nil];omega) ?_
   intro v66 w66 hS66; dsimp only[List.set]at hS66
   have h1v66:v66.oneCell'=true:=hS66.own_one 2 Qa
   refine Qc Qa Qa (Qh (Qe (Qg (Qb (Qd Qa Qa (Qc Qa Qa (Qh (Qe (Qo (Q7 (.inr Qa) Qa Qa ?_))))))))))
   have hz:=hS66.pick [2,1,4] Qa
   rw[show i=(min (QP E).length 4) by omega,J7]at hz
   exact⟨_,rfl, by rw[WZ hup hk1 hq_s hac];unfold U9; rw[if_pos ⟨List.eq_nil_of_length_eq_zero (by omega), by simp_all⟩]; exact hz⟩
  refine Qr (Qe (Qg (Qb (Qd Qa Qa (Qc Qa Qa (Qh (Qe (Qo (Q7 (.inr Qa) Qa Qa ?_)))))))))
  have hz:=(Qu (E:=E) ((hS61.pick [0,1,2,3,4,5,7] Qa))).reorder [1,0,2] Qa
  rw[show i=(min (QP E).length 4) by omega,J7]at hz
  exact⟨_,rfl, by rw[WZ hup hk1 hq_s hac];unfold U9; rw[if_neg (by rintro⟨q1,q2⟩;simp_all),List.append_nil]; exact hz⟩
 refine Qf Qa Qa (Qv h60) Qa (Qf Qa Qa (Qv h60) Qa (Qf Qa Qa (Qv h60) Qa (Qf Qa Qa (Qv h60) Qa (Qf Qa Qa (Qv h60) Qa (Qz Qa (Qv h60) Qa Qa (Qh (Qe (Qk [3,0,101] Qa (QF Qa (Qr (Qe (Qg (Qb (Qd Qa Qa (Qc Qa Qa (Qh (Qe (Qo (Q7 (.inr Qa) Qa Qa ?_)))))))))))))))))))
 have hz:=hS55.pick [0,2,3] Qa
 rw[show i=(min (QP E).length 4) by omega,J7]at hz
 exact⟨_,rfl, by rw[WZ hup hk1 hq_s hac];unfold U9; rw[if_neg (by rintro⟨q1,q2⟩;simp_all),List.append_nil]; exact hz⟩
theorem Di {w:World} {e:Nat} {E:EnD} {F:Th} (hS:Sat w [Xs e E,F]) (hG:Ent F WireG) (hW:EW E):
    Calls prog 36 #[ptrV e 0] w (Ret fun v w'=>Sat w' [rowT Z4 v (X7 E).2,Xs e (X7 E).1,F]):= by
  cases ho:E.off with
  | none=> exact tick_a hS hG hW ho
  | some o=> exact tick_b hS hG hW ho
