/- move: parse -/
import Derived.Test.YtiibgheijbbmaaaGreatDoorMvv
set_option linter.unusedVariables false
set_option maxRecDepth 100000
set_option maxHeartbeats 100000000000
namespace Go.Proofs.YtiibgheijbbmaaaGreatDoor
open Go.RowKit M Proofs.Tryz
abbrev pz0 (l:Bs):Bs×Bool:=XM 59 0 (HM (l,false))
abbrev pcnt (l:Bs):Int:=min (XR 59 0 (HM (l,false))) 8193
theorem DW {α:Type} {P:AL α} {k:Int} {x:α} (h: ∀e∈P,e.1<k):Zk k x P=P++[(k,x)]:= by
  induction P with
  | nil=>rfl
  | cons e P ih=>
    unfold Zk
    rw[if_pos (h e List.mem_cons_self),ih fun f hf=>h f (List.mem_cons_of_mem _ hf)]
    rfl
theorem Ck {P:AL PgD} {k:Int} {x:PgD} (hs:Srt P) (h: ∀e∈P,e.1<k):upd (JT P) k (some (Kp x))=JT (P++[(k,x)]):= by rw[H9 hs,DW h]
structure PrsI (l:Bs) (i:Nat) (z:Bs×Bool) (last:Int) (P:AL PgD):Prop where
  le:(i:Int)≤pcnt l
  len:P.length=i
  srt:Srt P
  lt: ∀e∈P,e.1≤last
  pg: ∀e∈P,X4 e.1∧X4 e.2.ver∧X4 e.2.sent∧e.2.data.length≤64
  rest:HR (pcnt l).toNat (pz0 l) 0=(HR ((pcnt l).toNat -i) z last).map (P++ ·)
  zl:z.1.length≤l.length
section
variable {l:Bs} {i:Nat} {z:Bs×Bool} {last:Int} {P:AL PgD}
theorem Sf:0≤pcnt l:= by have :=Sj 59 (HM (l,false)); show 0≤min (XR 59 0 (HM (l,false))) 8193;omega
theorem pcnt_le:pcnt l≤8193:= by show min (XR 59 0 (HM (l,false))) 8193≤8193;omega
theorem PrsI.start:PrsI l 0 (pz0 l) 0 []:= by
  refine⟨Sf,rfl,List.Pairwise.nil, fun e q=>(by cases q), fun e q=>(by cases q), ?_, ?_⟩
  · rw[Nat.sub_zero]
    cases HR (pcnt l).toNat (pz0 l) 0<;>rfl
  · exact Nat.le_trans (X2 _ _ _) (TQ _)
theorem PrsI.bad (h:PrsI l i z last P) (hi:(i:Int)<pcnt l) (hb:XR 59 (-9223372036854775808:Int) z≤last∨1099511627776<XR 59 (-9223372036854775808:Int) z∨XR 59 (-9223372036854775808:Int) (XM 59 (-9223372036854775808:Int) z)<1):Wy l=(none,false):= by
  have e:(pcnt l).toNat -i=((pcnt l).toNat -(i+1))+1:= by omega
  have hn:HR (pcnt l).toNat (pz0 l) 0=none:= by
    rw[h.rest,e]
    unfold HR
    rw[if_pos hb];rfl
  unfold Wy
  rw[show HR (min (XR 59 0 (HM (l,false))) 8193).toNat (XM 59 0 (HM (l,false))) 0=none from hn]
theorem PrsI.next (h:PrsI l i z last P) (hi:(i:Int)<pcnt l) (hb: ¬(XR 59 (-9223372036854775808:Int) z≤last∨1099511627776<XR 59 (-9223372036854775808:Int) z∨XR 59 (-9223372036854775808:Int) (XM 59 (-9223372036854775808:Int) z)<1)):PrsI l (i+1) (XM 59 (-9223372036854775808:Int) (XM 59 (-9223372036854775808:Int) z)) (XR 59 (-9223372036854775808:Int) z) (P++[(XR 59 (-9223372036854775808:Int) z,⟨[],XR 59 (-9223372036854775808:Int) (XM 59 (-9223372036854775808:Int) z),0,true⟩)]):= by
  have e:(pcnt l).toNat -i=((pcnt l).toNat -(i+1))+1:= by omega
  have hlt: ∀f∈P,f.1<XR 59 (-9223372036854775808:Int) z:= fun f hf=> by have :=h.lt f hf;omega
  refine⟨by omega, by rw[List.length_append,h.len];rfl, by rw[←DW hlt]; exact h.srt.put, fun f hf=> ?_, fun f hf=> ?_, ?_, ?_⟩
  · rcases List.mem_append.1 hf with q | q
    · have :=hlt f q;omega
    · rw[List.mem_singleton.1 q]; exact Int.le_refl _
  · rcases List.mem_append.1 hf with q | q
    · exact h.pg f q
    · rw[List.mem_singleton.1 q]; exact⟨JL _ _ _,JL _ _ _,ZS, by simp⟩
  · rw[h.rest,e]
    conv=>lhs; rw[show HR ((pcnt l).toNat -(i+1)+1) z last=(HR ((pcnt l).toNat -(i+1)) (XM 59 (-9223372036854775808:Int) (XM 59 (-9223372036854775808:Int) z)) (XR 59 (-9223372036854775808:Int) z)).map fun l=>(XR 59 (-9223372036854775808:Int) z,⟨[],XR 59 (-9223372036854775808:Int) (XM 59 (-9223372036854775808:Int) z),0,true⟩)::l by rw[HR]; rw[if_neg hb]]
    rw[Option.map_map]
    congr 1
    funext m
    simp
  · exact Nat.le_trans (X2 _ _ _) (Nat.le_trans (X2 _ _ _) h.zl)
theorem Cy {k:Int} {x:PgD}:H0 (P++[(k,x)])=max (H0 P) x.ver:= by unfold H0; rw[List.foldl_append];rfl
theorem PrsI.fin (h:PrsI l i z last P) (hi: ¬(i:Int)<pcnt l):Wy l=(some ⟨UP (l,false),H0 P,P⟩,decide ((UP (l,false)).length≤1048576)&&decide (P.length≤8192)&&decide (X8 ⟨UP (l,false),H0 P,P⟩=l)):= by
  have hle:=h.le
  have e:(pcnt l).toNat -i=0:= by omega
  have hn:HR (pcnt l).toNat (pz0 l) 0=some P:= by
    rw[h.rest,e];unfold HR; simp
  unfold Wy
  rw[show HR (min (XR 59 0 (HM (l,false))) 8193).toNat (XM 59 0 (HM (l,false))) 0=some P from hn]
theorem PrsI.ver (h:PrsI l i z last P):X4 (H0 P):=Mb fun e he=>(h.pg e he).2.1
end
theorem Cm {w:World} {F:Th} (hS:Sat w [F]) (hG:Ent F WireG) (l:Bs) (hll:l.length≤20000000):
    Calls prog 106 #[strV l] w (Ret fun v w'=>(Wy l=(none,false)∧v= .tuple #[.pointer none,.bool false]∧Sat w' [F])∨(∃sb sm s g,Wy l=(some s,g)∧v= .tuple #[ptrV sb 0,.bool g]∧Sat w' [Xb sb [strV s.state,intV s.count,.map (some sm)],X3 XH sm (JT s.pages),F])):= by
 refine Qy func106 Qa ntmps106 Qa ?_
 have htl:=TQ (l,false)
 dsimp only at htl
 refine Qf (Qb (Qc Qa Qa (Qc Qa Qa (Qh (Qd (Qf (Qb (Qe Qa Qa (Q0 P4 Qa (B6 (hS.sp [] Qa) l) Qa ?_)))))))))
 rintro _ w1 ⟨rb,rfl,hS1⟩
 replace hS1:=hS1.jn Qa Qa
 refine Qc Qa Qa (Qh (Qd (Qf (Qb (Qe Qa Qa ?_)))))
 refine Q0 Aq Qa (Cg (hS1.sp [0] Qa) (hG.starL 0 Qa) (by show l.length≤_;omega)) Qa ?_
 rintro _ w2 ⟨rfl,hS2⟩
 replace hS2:=hS2.jn Qa Qa
 refine Wq XH hS2 Qa ?_
 intro sm w3 hS3
 refine Jz (vs':=[strV (UP (l,false)),intV 0,.map (some sm)]) Qa Fv TD PK Qa Qa Qa (Za hS3 Qa Qa Qa ?_)
 intro sb w4 hS4
 refine Qc Qa Qa (Qh (Qd (Qk [0,2,3,4,5] Qa (Qf (Qb (Qc Qa Qa (Qh (Qd (Qf (Qf (Qb (Qe Qa Qa (Q0 cal_127 Qa (rNum_sp (hS4.sp [2] Qa) (hG.starL 2 Qa) (by omega)) Qa ?_)))))))))))))
 rintro _ w5 ⟨rfl,hS5⟩
 replace hS5:=hS5.jn Qa Qa
 refine Uc Qa Qa Qa (Qe Qa Qa (Qh (Qd (QK (XJ (fun K0 E0 W0=> ∃(i:Nat) (z:Bs×Bool) (last:Int) (P:AL PgD),K0=(pcnt l).toNat -i∧E0=[(0,strV l),(4,ptrV rb 0),(5,ptrV sb 0),(6,intV last),(18,intV (pcnt l)),(19,intV (i:Int))]∧Sat W0 [Ui rb z,Xb sb [strV (UP (l,false)),intV (H0 P),.map (some sm)],X3 XH sm (JT P),F]∧(PrsI l i z last P)) (L0:=[(0,_),(4,_),(5,_),(6,_),(18,_),(19,_)]) ((pcnt l).toNat -0) (TH Qa Qa Qa Qa Qa Qa) ⟨0,pz0 l,0,[],rfl,rfl,hS5.pick [0,1,2,3] Qa,PrsI.start⟩ ?_)))))
 rintro _ _ w6 ⟨i,z,last,P,rfl,rfl,hS6,hP⟩
 have hzl:=hP.zl
 have hpn:=Sf (l:=l)
 have hpl:=pcnt_le (l:=l)
 have hple:=hP.le
 refine Qf (Qb (X5 Qa Qa Qa (Qh (Qd (Qf (Qv Qa (fun h7=> ?_) (fun h7=> ?_)))))))
 ·have hlt:(i:Int)<pcnt l:=h7
  refine Qt (Qd (Qf (QK (Qf (Qb (Qe Qa Qa (Q0 VE Qa (Uj (hS6.sp [0] Qa) (hG.starL 2 Qa) (by omega)) Qa ?_)))))))
  rintro _ w8 ⟨rfl,hS8⟩
  replace hS8:=hS8.jn Qa Qa
  refine Qe Qa Qa ?_
  refine Q0 VE Qa (Uj (hS8.sp [0] Qa) (hG.starL 2 Qa) (by have :=X2 59 (-9223372036854775808:Int) z;omega)) Qa ?_
  rintro _ w9 ⟨rfl,hS9⟩
  replace hS9:=hS9.jn Qa Qa
  refine Qc Qa Qa (Qc Qa Qa (Qh (Qd (Qk [19,18,6,5,4,0,7,8] Qa (Qf (Qf (Qb (Qe Qa Qa (Qe Qa Qa (W9 Qa Qa Qa (Qe Qa Qa (Q4 28 Qa (fun h10=> ?_) (fun h10=> ?_)))))))))))))
  ·exact Qg Qa Qa (QD h10) Qa (Qg Qa Qa (QD h10) Qa (Q1 Qa (QD h10) Qa Qa (Qe Qa Qa (Qg Qa Qa Qa Qa (Qg Qa Qa Qa Qa (Q1 Qa Qa Qa Qa (Qh (Qd (Qk [19,18,6,5,4,0,7,8,35] Qa (QP Qa (Qf (Qb (Qc Qa Qa (Qc Qa Qa (Qh (Qd (Qo (Qm (Qz (Qm (Qm (Qz (Qm (Z8 (.inr Qa) Qa Qa Qa (⟨_,rfl,.inl ⟨hP.bad hlt (by omega),rfl,hS9.pick [3] Qa⟩⟩)))))))))))))))))))))))))
  refine Qj Qa Qa (Qx h10) (Qe Qa Qa (Qj Qa Qa (Qx h10) (Wr Qa Qa Qa (Q3 Qa (Qx h10) Qa Qa (Qe Qa Qa (Q4 32 Qa (fun h11=> ?_) (fun h11=> ?_)))))))
  ·exact Qg Qa Qa (QD h11) Qa (Qg Qa Qa (QD h11) Qa (Q1 Qa (QD h11) Qa Qa (Qh (Qd (Qk [19,18,6,5,4,0,7,8,35] Qa (QP Qa (Qf (Qb (Qc Qa Qa (Qc Qa Qa (Qh (Qd (Qo (Qm (Qz (Qm (Qm (Qz (Qm (Z8 (.inr Qa) Qa Qa Qa (⟨_,rfl,.inl ⟨hP.bad hlt (by omega),rfl,hS9.pick [3] Qa⟩⟩)))))))))))))))))))))
  refine Qj Qa Qa (Qx h11) (Qe Qa Qa (Qj Qa Qa (Qx h11) (X5 Qa Qa Qa (Q3 Qa (Qx h11) Qa Qa (Qh (Qd (Qk [19,18,6,5,4,0,7,8,35] Qa (Qv Qa (fun h12=> ?_) (fun h12=> ?_)))))))))
  ·have hbad:XR 59 (-9223372036854775808:Int) z≤last∨1099511627776<XR 59 (-9223372036854775808:Int) z∨XR 59 (-9223372036854775808:Int) (XM 59 (-9223372036854775808:Int) z)<1:= by omega
   exact Qf (Qb (Qc Qa Qa (Qc Qa Qa (Qh (Qd (Qo (Qm (Qz (Qm (Qm (Qz (Qm (Z8 (.inr Qa) Qa Qa Qa (⟨_,rfl,.inl ⟨hP.bad hlt (by omega),rfl,hS9.pick [3] Qa⟩⟩))))))))))))))
  have hok: ¬(XR 59 (-9223372036854775808:Int) z≤last∨1099511627776<XR 59 (-9223372036854775808:Int) z∨XR 59 (-9223372036854775808:Int) (XM 59 (-9223372036854775808:Int) z)<1):= by omega
  refine Qt (Qd (Qf (Qb (Qe Qa Qa (Qc Qa Qa (Qh (Qd (Qf (Qb (Qe Qa Qa (Ql Qa Qa (Qi Qa Z7 Qa (Qr Qa ZL (hS9.cell 1 Qa Qa) Qa (Qe Qa Qa (Qe Qa Qa (Zs Qa Fu HY ZY Qa Qa (XP (k:=XR 59 (-9223372036854775808:Int) z) (v:=Kp ⟨[],XR 59 (-9223372036854775808:Int) (XM 59 (-9223372036854775808:Int) z),0,true⟩) 2 hS9 keysInt underlying89 Qa Qa Qa Qa ?_)))))))))))))))))
  intro w13 hS13; dsimp only[List.set]at hS13; rw[Ck hP.srt (fun e he=> by have :=hP.lt e he;omega)]at hS13
  refine Qh (Qd (Qk [19,18,5,4,0,8,6] Qa (Qb (Qe Qa Qa (Qe Qa Qa (Ql Qa Qa (Qi Qa Up Qa (Qr Qa QH (hS13.cell 1 Qa Qa) Qa (Qe Qa Qa (GY Qa Qa Qa (Ql Qa Qa (Qi Qa Up Qa ?_))))))))))))
  first | (refine Qw hS13 Qa Qa WA (by rfl) (i:=1) Qa (QC Qa) ?_)
  intro w14 hS15; dsimp only[List.set]at hS15
  refine Qh (Qq (Qd (Qk [19,18,5,4,0,6] Qa (Qb (XC Qa Qa (by omega) (by omega) Qa ?_)))))
  refine Qe Qa Qa (Qh ?_)
  exact Xj (L1:=[(0,_),(4,_),(5,_),(6,intV (XR 59 (-9223372036854775808:Int) z)),(18,_),(19,intV ((i+1:Nat):Int))]) (TH Qa Qa Qa Qa Qa Qa) (k1:=(pcnt l).toNat -(i+1)) (by omega) ⟨i+1,_,_,_,rfl,rfl,(by rw[Cy]; exact hS15.pick [0,1,2,3] Qa),hP.next hlt hok⟩
 have hge: ¬(i:Int)<pcnt l:=h7
 refine X6 (Q6 (Q6 (QR (Qd (Qf (Qb (Qe Qa Qa (Qe Qa Qa (Ql Qa Qa (Qi Qa Tl Qa (Qr Qa Zx (hS6.cell 1 Qa Qa) Qa (Zf underlying9 Qa Qa (W9 Qa Qa Qa (Qe Qa Qa (Q4 61 Qa (fun h16=> ?_) (fun h16=> ?_))))))))))))))))
 ·refine Qj Qa Qa (QD h16) (Qe Qa Qa (Qj Qa Qa (QD h16) (Ql Qa Qa (Qj Qa Qa (QD h16) (Qi Qa Z7 Qa (Qj Qa Qa (QD h16) (Qr Qa ZL (hS6.cell 1 Qa Qa) Qa (Qj Qa Qa (QD h16) (M0 2 hS6 underlying89 keysInt.inj Qa Qa Qa (fun mm hmm=> ?_))))))))))
  obtain rfl:=hmm.uniq (MR hP.srt)
  refine Qj Qa Qa (QD h16) (W9 Qa Qa Qa (Q1 Qa (QD h16) Qa Qa (Qe Qa Qa (Q4 69 Qa (fun h17=> ?_) (fun h17=> ?_)))))
  ·refine Qj Qa Qa (QD h17) (Qe Qa Qa (Qj Qa Qa (QD h17) ?_))
   refine Q0 Al Qa (Sp (s:=⟨UP (l,false),H0 P,P⟩) (hS6.sp [1,2] Qa) (hG.starL 1 Qa) ⟨hP.srt,(by show P.length≤8192;omega),(by show(UP (l,false)).length≤1048576;omega),hP.ver,hP.pg⟩) Qa ?_
   rintro _ w18 ⟨rfl,hS18⟩
   replace hS18:=hS18.jn Qa Qa
   refine Qj Qa Qa (QD h17) (Qe Qa Qa (Qj Qa Qa (QD h17) (VH Qa Qa Qa (Q1 Qa (QD h17) Qa Qa (Qc Qa Qa (Qc Qa Qa (Qh (Qd (Qk [2,3] Qa (Qo (Z8 (.inr Qa) Qa Qa Qa ?_)))))))))))
   exact⟨_,rfl,.inr ⟨sb,sm,_,_,hP.fin hge,(by(congr 3; simp;omega)),hS18.pick [0,1,3] Qa⟩⟩
  refine Qg Qa Qa (Qx h17) Qa (Qg Qa Qa (Qx h17) Qa (Qg Qa Qa (Qx h17) Qa (Qg Qa Qa (Qx h17) Qa (Q3 Qa (Qx h17) Qa Qa (Qc Qa Qa (Qc Qa Qa (Qh (Qd (Qk [2,3] Qa (Qo (Z8 (.inr Qa) Qa Qa Qa ?_)))))))))))
  exact⟨_,rfl,.inr ⟨sb,sm,_,_,hP.fin hge,(by(congr 3; simp;omega)),hS6.pick [1,2,3] Qa⟩⟩
 refine Qg Qa Qa (Qx h16) Qa (Qg Qa Qa (Qx h16) Qa (Qg Qa Qa (Qx h16) Qa (Qg Qa Qa (Qx h16) Qa (Qg Qa Qa (Qx h16) Qa (Qg Qa Qa (Qx h16) Qa (Q3 Qa (Qx h16) Qa Qa (Qe Qa Qa (Qg Qa Qa Qa Qa (Qg Qa Qa Qa Qa (Qg Qa Qa Qa Qa (Qg Qa Qa Qa Qa (Q3 Qa Qa Qa Qa (Qc Qa Qa (Qc Qa Qa (Qh (Qd (Qk [2,3] Qa (Qo (Z8 (.inr Qa) Qa Qa Qa ?_)))))))))))))))))))
 exact⟨_,rfl,.inr ⟨sb,sm,_,_,hP.fin hge,(by(congr 3; simp;omega)),hS6.pick [1,2,3] Qa⟩⟩
structure PushI (E:EnD) (l:AL PgD) (i:Nat) (D:AL PgD) (out:List Bs) (k:Nat):Prop where
  eq:pushG E 4 l=(D++(pushG E k (l.drop i)).1,out++(pushG E k (l.drop i)).2)
  cnt:out.length+k=4
  ids:Zu D=Zu (l.take i)
section
variable {E:EnD} {l D:AL PgD} {i k:Nat} {out:List Bs} {y:Int×PgD}
theorem PushI.start:PushI E l 0 [] [] 4:=⟨by rw[List.drop_zero];rfl,rfl,rfl⟩
theorem PushI.srt (h:PushI E l i D out k) (hs:Srt l):Srt (D++l.drop i):= by
  unfold Srt at *
  have :Zu (D++l.drop i)=Zu l:= by
    have h1:=h.ids
    unfold Zu at *
    rw[List.map_append,h1,←List.map_append,List.take_append_drop]
  rw[this]; exact hs
theorem Vc (hy:l[i]? =some y):l.drop i=y::l.drop (i+1):= by
  obtain⟨hi,rfl⟩:=ZD hy
  exact List.drop_eq_getElem_cons hi
theorem CB (h:Zu D=Zu (l.take i)) (hy:l[i]? =some y) {p:PgD}:Zu (D++[(y.1,p)])=Zu (l.take (i+1)):= by
  unfold Zu at *
  rw[List.take_add_one,hy,List.map_append,List.map_append,h];rfl
theorem PushI.skip (h:PushI E l i D out k) (hy:l[i]? =some y) (hv:y.2.ver=y.2.sent):PushI E l (i+1) (D++[y]) out k:= by
  refine⟨?_,h.cnt,CB h.ids hy⟩
  rw[h.eq,Vc hy]
  have :pushG E k (y::l.drop (i+1))=(y::(pushG E k (l.drop (i+1))).1,(pushG E k (l.drop (i+1))).2):= by rw[pushG.eq_def]; dsimp only; rw[if_pos hv]
  rw[this]; simp
theorem PushI.push (h:PushI E l i D out (k+1)) (hy:l[i]? =some y) (hv:y.2.ver≠y.2.sent):PushI E l (i+1) (D++[(y.1,{y.2 with sent:=y.2.ver})]) (out++[Z3 E 0 y.1 y.2.ver y.2.data]) k:= by
  refine⟨?_, by have :=h.cnt; rw[List.length_append]; show out.length+1+k=4;omega,CB h.ids hy⟩
  rw[h.eq,Vc hy]
  have :pushG E (k+1) (y::l.drop (i+1))=((y.1,{y.2 with sent:=y.2.ver})::(pushG E k (l.drop (i+1))).1,Z3 E 0 y.1 y.2.ver y.2.data::(pushG E k (l.drop (i+1))).2):= by rw[pushG.eq_def]; dsimp only; rw[if_neg hv]
  rw[this]; simp
theorem PushI.stop (h:PushI E l i D out 0) (hy:l[i]? =some y) (hv:y.2.ver≠y.2.sent):pushG E 4 l=(D++l.drop i,out):= by
  rw[h.eq,Vc hy]
  have :pushG E 0 (y::l.drop (i+1))=(y::l.drop (i+1),[]):= by rw[pushG.eq_def]; dsimp only; rw[if_neg hv]
  rw[this]; simp
theorem PushI.fin (h:PushI E l i D out k) (hi:l.length≤i):pushG E 4 l=(D++l.drop i,out):= by
  rw[h.eq,List.drop_eq_nil_of_le hi]
  have :pushG E k []=([],[]):= by rw[pushG.eq_def]
  rw[this]; simp
theorem Ch {k:Int} {x p:PgD} {R:AL PgD}: ∀{D:AL PgD},(∀e∈D,e.1<k)→Zk k x (D++(k,p)::R)=D++(k,x)::R
  | [],_=> by
    show Zk k x ((k,p)::R)=_
    unfold Zk
    rw[if_neg (by show ¬k<k;omega),if_pos Qa];rfl
  | e::D,h=> by
    show Zk k x (e::(D++(k,p)::R))=_
    unfold Zk
    rw[if_pos (h e List.mem_cons_self),Ch fun f hf=>h f (List.mem_cons_of_mem _ hf)];rfl
theorem srt_app {R:AL PgD} (hs:Srt (D++y::R)): ∀e∈D,e.1<y.1:= fun e he=> by
  unfold Srt Zu at hs
  rw[List.map_append]at hs
  exact(List.pairwise_append.1 hs).2.2 e.1 (List.mem_map.2 ⟨e,he,rfl⟩) y.1 (by simp)
theorem pgG_mid {R:AL PgD} (hs:Srt (D++y::R)):(JT (D++y::R) y.1).getD (.agg #[strV [],intV 0,intV 0,.bool false])=Kp y.2:= by
  unfold JT; rw[Ti hs (x:=y.2) (by simp)];rfl
theorem Pc {R:AL PgD} (hs:Srt (D++y::R)) (x:PgD):upd (JT (D++y::R)) y.1 (some (Kp x))=JT (D++[(y.1,x)]++R):= by
  rw[H9 hs, show D++y::R=D++(y.1,y.2)::R from rfl,Ch (srt_app hs)]; simp
end
theorem H8 {w:World} {e:Nat} {E:EnD} {F:Th} (hS:Sat w [Xw e E,F]) (hG:Ent F WireG) {s:SeD} (hs:E.ses=some s) (hw:SeW s) (hmv:X4 E.move):
    Calls prog 65 #[ptrV e 0] w (Ret fun v w'=>Sat w' [rowT Zn v (pushG E 4 s.pages).2,Xw e {E with ses:=some {s with pages:=(pushG E 4 s.pages).1}},F]):= by
 refine Qy func65 Qa ntmps65 Qa ?_
 have hnm:=hw.num
 refine Qf (Qb (Qc Qa Qa (Qh (Qd (Qf (Qb (Qc Qa Qa (Qh (Qd (Qf (Qf ?_)))))))))))
 obtain⟨dp,cv,sv,ov,hS1⟩:=QU (hS.pick [0,1] rfl)
 rw[hs]at hS1
 obtain⟨sb,sm,rfl,hS2⟩:=Zo (hS1.pick [3,0,1,2,4,5] rfl)
 refine Qb (Qe Qa Qa (Ql Qa Qa (Qi Qa Xt Qa (Qr Qa ZA (hS2.cell 2 Qa Qa) Qa ?_))))
 refine Q0 P5 Qa (Pk (hS2.sp [0,1] Qa) hw.srt (by have :=hw.num;omega)) Qa ?_
 rintro _ w3 hS3
 replace hS3:=hS3.jn Qa Qa
 have h1v:=hS3.own_one 0 Qa
 obtain⟨ao,cap,hv4,_⟩:=hS3.own_shape 0 rfl
 obtain rfl:=hv4
 refine Xm underlying33 Qa Qa (Qe Qa Qa (Qh (Qd (QK ?_))))
 have hS5:=Qu (E:={E with ses:=some s}) ((Xh (s:=s) (hS3.pick [1,2,3,4,5,6,0,7] Qa)).reorder [1,2,3,0,4,5,6] Qa)
 have hS6:=Sat.row_nil Zn hS5
 have hS6b:Sat _ (_::Xw e {E with ses:=some {s with pages:=[]++s.pages.drop 0}}::_):=hS6
 refine XJ (fun K0 E0 W0=> ∃(i:Nat) (D:AL PgD) (out:List Bs) (ov9:Value) (k:Nat),K0=s.pages.length -i∧E0=[(0,ptrV e 0),(3,ov9),(11,.slice ao (Zu s.pages).length cap),(12,intV ((Zu s.pages).length:Int)),(13,intV (i:Int))]∧Sat W0 [rowT Zn ov9 out,rowT inC (.slice ao (Zu s.pages).length cap) (Zu s.pages),Xw e {E with ses:=some {s with pages:=D++s.pages.drop i}},F]∧(i≤s.pages.length)∧(PushI E s.pages i D out k)) (L0:=[(0,_),(3,_),(11,_),(12,_),(13,_)]) (s.pages.length -0) (NC Qa Qa Qa Qa Qa) ⟨0,[],[],_,4,rfl,rfl,hS6b.pick [0,2,1,3] Qa, by omega,PushI.start⟩ ?_
 rintro _ _ w7 ⟨i,D,out,ov9,k,rfl,rfl,hS7,hi,hI⟩
 have h1ov:ov9.oneCell'=true:=hS7.own_one 0 Qa
 have hkc:=hI.cnt
 refine Qf (Qb (X5 Qa Qa Qa (Qh (Qd (Qf (Qv Qa (fun h8=> ?_) (fun h8=> ?_)))))))
 ·rw[Bl]at h8
  obtain⟨y,hy⟩: ∃y,s.pages[i]? =some y:=⟨_,WY (by omega)⟩
  have hyi:=E4 hy
  have hyp:=hw.pg y (List.mem_of_getElem? hy)
  refine Qt (Qd (Qf (QK (Qf (Qb (Wj inC 1 i hS7 Qa Qa Qa (by rfl) hyi Kz Qa ?_))))))
  intro bx9 capx9 hvx9
  refine W8 1 i 0 hS7 Qa hvx9 Qa Qa hyi QH Qa Qa (Qc Qa Qa (Qh (Qd (Qf ?_))))
  obtain⟨dp,cv,sv,ov,hS10⟩:=QU (hS7.pick [2,0,1,3] rfl)
  dsimp only at hS10
  obtain⟨sb,sm,rfl,hS11⟩:=Zo (hS10.pick [3,0,1,2,4,5,6,7] rfl)
  dsimp only at hS11
  have hsr:=hI.srt hw.srt
  rw[Vc hy]at hsr hS11
  refine Qb (Qe Qa Qa (Ql Qa Qa (Qi Qa Xt Qa (Qr Qa ZA (hS11.cell 2 Qa Qa) Qa (Ql Qa Qa (Qi Qa Z7 Qa (Qr Qa ZL (hS11.cell 0 Qa Qa) Qa (Qe Qa Qa (YN (k:=y.1) 1 hS11 keysInt underlying89 Qa Qa Qa ZY (pgG_mid hsr) Qa (Xs hS11 ZY Qa Qa ?_))))))))))
  intro b12 w12 hS12
  (refine Q8 hS12 Qa Qa ZP Qa (by rfl) (i:=0) Qa (by decide) ?_)
  intro w13 hS14; dsimp only[List.set]at hS14
  refine Qh (Qd (Qk [13,12,11,3,0,5,6] Qa (Qf (Qf (Qb (Qi Qa Uo Qa (Qr Qa QH (hS14.cell 0 Qa Qa) Qa (Qi Qa Ro Qa (Qr Qa QH (hS14.cell 0 Qa Qa) Qa (QL Qa Qa Qa (Qh (Qd (Qk [13,12,11,3,0,5,6,30] Qa (Qv Qa (fun h15=> ?_) (fun h15=> ?_)))))))))))))))
  ·have hvs:y.2.ver=y.2.sent:=h15
   have hS16:=Qu (E:={E with ses:=some {s with pages:=D++y::s.pages.drop (i+1)}}) ((Xh (s:={s with pages:=D++y::s.pages.drop (i+1)}) (hS14.pick [1,2,3,4,5,6,0,7,8,9] Qa)).reorder [1,2,3,0,4,5,6,7,8] Qa)
   rw[←Vc hy]at hS16
   refine X6 (Q6 (QR (Qd (Qb (XC Qa Qa (by omega) (by omega) Qa ?_)))))
   refine Qe Qa Qa (Qh ?_)
   exact Xj (L1:=[(0,_),(3,_),(11,_),(12,_),(13,intV ((i+1:Nat):Int))]) (NC Qa Qa Qa Qa Qa) (k1:=s.pages.length -(i+1)) (by omega) ⟨i+1,_,_,_,_,rfl,rfl,(by have hz:=hS16.pick [2,3,0,4] Qa; rw[Vc hy, show D++y::s.pages.drop (i+1)=D++[y]++s.pages.drop (i+1) by simp]at hz; exact hz), by omega,hI.skip hy hvs⟩
  have hvs:y.2.ver≠y.2.sent:=h15
  refine Qt (Qd (Qf (Qf (Qb (Qe Qa Qa (Xa 7 hS14 underlying66 Qa Qa Qa (QL Qa Qa Qa (Qh (Qd (Qk [13,12,11,3,0,5,6,33] Qa (Qv Qa (fun h17=> ?_) (fun h17=> ?_))))))))))))
  ·have hk0:k=0:= by have :=h17;omega
   subst hk0
   have hS18:=Qu (E:={E with ses:=some {s with pages:=D++y::s.pages.drop (i+1)}}) ((Xh (s:={s with pages:=D++y::s.pages.drop (i+1)}) (hS14.pick [1,2,3,4,5,6,0,7,8,9] Qa)).reorder [1,2,3,0,4,5,6,7,8] Qa)
   rw[←Vc hy]at hS18
   refine X6 (Q6 (Dx Qa (Q6 (Q6 (QR (Qd (Qf (Qb (Qe Qa Qa (Qc Qa Qa (Qh (Qd (Qo (Q5 (.inr Qa) Qa Qa ?_))))))))))))))
   have hz:=hI.stop hy hvs
   exact⟨_,rfl, by rw[hz]; exact hS18.pick [2,0,4] Qa⟩
  obtain⟨k,rfl⟩: ∃q,k=q+1:=⟨k -1, by have :=h17;omega⟩
  refine Qt (Qd (Qf (Qb (Qe Qa Qa (Qe Qa Qa (Qe Qa Qa (Qi Qa Uo Qa (Qr Qa QH (hS14.cell 0 Qa Qa) Qa (Qi Qa VY Qa (Qr Qa Zx (hS14.cell 0 Qa Qa) Qa ?_))))))))))
  have hS19:=Qu (E:={E with ses:=some {s with pages:=D++y::s.pages.drop (i+1)}}) ((Xh (s:={s with pages:=D++y::s.pages.drop (i+1)}) (hS14.pick [1,2,3,4,5,6,0,7,8,9] Qa)).reorder [1,2,3,0,4,5,6,7,8] Qa)
  refine Q0 WH Qa (WG (hS19.sp [0] Qa) (hG.starL 3 Qa) (k:=0) (a:=y.1) (b:=y.2.ver) (s:=y.2.data) ⟨XG (k:=0) (by decide),hmv,hyp.1,hyp.2.1, by show y.2.data.length≤_;omega⟩) Qa ?_
  rintro _ w20 ⟨rfl,hS20⟩
  replace hS20:=hS20.jn Qa Qa
  refine Xe Zn [Z3 E 0 y.1 y.2.ver y.2.data] hS20 Qa underlying66 J8 Qa Qa Qa Qa (by rfl) rfl ?_
  intro b21 w21 hS21
  refine Zi Zn 3 hS21 Qa Qa Qa (hS21.rd 0 Qa (by simp)) underlying66 underlying66 (by intro k hk; cases hk) Um Qa (by simp only[List.length_cons,List.length_nil];omega) Qa (by simp only[List.length_cons,List.length_nil];omega) ?_
  intro v22 w22 hS22; dsimp only[List.set]at hS22
  have h1v22:v22.oneCell'=true:=hS22.own_one 3 Qa
  refine Qc Qa Qa (Qh (Qd (Qk [13,12,11,0,5,6,3] Qa (Qf (Qb (Qi Qa Uo Qa (Qr Qa QH (hS22.cell 2 Qa Qa) Qa (Qi Qa Ro Qa ?_))))))))
  first | (refine Qw hS22 Qa Qa WA (by rfl) (i:=2) Qa (QC Qa) ?_)
  intro w23 hS24; dsimp only[List.set]at hS24
  refine Qh (Qd ?_)
  obtain⟨dp,cv,sv,ov,hS25⟩:=QU (hS24.pick [1,0,2,3,4,5] rfl)
  dsimp only at hS25
  obtain⟨sb,sm,rfl,hS26⟩:=Zo (hS25.pick [3,0,1,2,4,5,6,7,8,9] rfl)
  dsimp only at hS26
  have hS27:=hS26.drew
  refine QN [0,1,2,3,4,5,6,7,8,9] [9] W5 (by kernel_rfl) ?_
  refine QI Qa Qa Qa (Xn Qa Qa Qa (QO Qa Qa Qa Xt (QF Qa Qa Qa (Qn Qa ZA (hS27.cell 2 Qa Qa)) (Xn Qa Qa Qa (QO Qa Qa Qa Z7 (QF Qa Qa Qa (Qn Qa ZL (hS27.cell 0 Qa Qa)) (QI Qa Qa Qa (QF Qa Qa Qa (Jw Qa AQ ZP (hS27.blk 7 Qa) (QC Qa) Qa) (QV Qa Qa Qa Qa Qa Qa ?_)))))))))
  refine XP (k:=y.1) (v:=Kp {y.2 with sent:=y.2.ver}) 1 hS27 keysInt underlying89 Qa Qa Qa Qa ?_
  intro w28 hS28; dsimp only[List.set]at hS28; rw[Pc hsr]at hS28
  refine Z9 (Xq (by kernel_rfl)) ?_
  refine VC.nil ?_
  have hS29:=Qu (E:={E with ses:=some {s with pages:=D++[(y.1,{y.2 with sent:=y.2.ver})]++s.pages.drop (i+1)}}) ((Xh (s:={s with pages:=D++[(y.1,{y.2 with sent:=y.2.ver})]++s.pages.drop (i+1)}) (hS28.pick [0,1,2,3,4,5,6,7,8,9,10] Qa)).reorder [1,2,3,0,4,5,6,7,8,9] Qa)
  refine Qq (Qd (Qk [13,12,11,0,3] Qa (Qb (XC Qa Qa (by omega) (by omega) Qa ?_))))
  refine Qe Qa Qa (Qh ?_)
  exact Xj (L1:=[(0,_),(3,_),(11,_),(12,_),(13,intV ((i+1:Nat):Int))]) (NC Qa Qa Qa Qa Qa) (k1:=s.pages.length -(i+1)) (by omega) ⟨i+1,_,_,_,_,rfl,rfl,(hS29.pick [3,4,0,5] Qa), by omega,hI.push hy hvs⟩
 rw[Bl]at h8
 refine X6 (Q6 (Q6 (QR (Qd (Qf (Qb (Qe Qa Qa (Qc Qa Qa (Qh (Qd (Qo (Q5 (.inr Qa) Qa Qa ?_))))))))))))
 have hz:=hI.fin (by omega)
 exact⟨_,rfl, by rw[hz]; exact hS7.pick [0,2,3] Qa⟩
structure PrtI (E:EnD) (l:Bs) (n:Int) (K i:Nat) (nx:Int) (out:List Bs):Prop where
  eq:ZJ E l n K E.next=((ZJ E l n (K -i) nx).1,out++(ZJ E l n (K -i) nx).2)
  rg:0≤nx∧nx<n
  le:i≤K
  len:out.length=i
section
variable {E:EnD} {l:Bs} {n nx:Int} {K i:Nat} {out:List Bs}
theorem PrtI.start (h:0≤E.next∧E.next<n):PrtI E l n K 0 E.next []:=⟨rfl,h, by omega,rfl⟩
theorem PrtI.step (h:PrtI E l n K i nx out) (hi:i<K):PrtI E l n K (i+1) ((nx+1)%n) (out++[Z3 E 1 nx n ((l.drop (200*nx).toNat).take 200)]):= by
  have hr:=h.rg
  refine⟨?_,⟨Int.emod_nonneg _ (by omega),Int.emod_lt_of_pos _ (by omega)⟩, by omega, by rw[List.length_append,h.len];rfl⟩
  have e:K -i=(K -(i+1))+1:= by omega
  rw[h.eq,e]
  conv=>lhs; rw[ZJ]
  simp
theorem PrtI.fin (h:PrtI E l n K i nx out) (hi: ¬i<K):ZJ E l n K E.next=(nx,out):= by
  have e:K -i=0:= by have :=h.le;omega
  rw[h.eq,e,ZJ]; simp
theorem LX {A B:Nat} (h:B=min l.length (A+200)):(l.take B).drop A=(l.drop A).take 200:= by
  subst h
  rw[List.drop_take]
  by_cases q:l.length≤A+200
  · rw[Nat.min_eq_left q,List.take_of_length_le (by rw[List.length_drop];omega),List.take_of_length_le (by rw[List.length_drop];omega)]
  · rw[Nat.min_eq_right (by omega),Nat.add_sub_cancel_left]
end
theorem BQ {l:Bs} (h:l.length≤1400000):Zt l≤7100:= by unfold Zt;omega
theorem Pg {l:Bs} {nx:Int} (h:0≤nx∧nx<Zt l):200*nx≤(l.length:Int):= by unfold Zt at h;omega
theorem H7 {w:World} {e:Nat} {E:EnD} {F:Th} (hS:Sat w [Xw e E,F]) (hG:Ent F WireG) {s:SeD} (hs:E.ses=some s) (hw:SeW s) (hmv:X4 E.move) (hnx:0≤E.next∧E.next<Zt (X8 s)):
    Calls prog 66 #[ptrV e 0] w (Ret fun v w'=>Sat w' [rowT Zn v (if E.frozen=false then[]else(ZJ E (X8 s) (Zt (X8 s)) (min (Zt (X8 s)) 32).toNat E.next).2),Xw e (if E.frozen=false then E else{E with next:=(ZJ E (X8 s) (Zt (X8 s)) (min (Zt (X8 s)) 32).toNat E.next).1}),F]):= by
 obtain⟨dp,cv,sv,ov,hS⟩:=QU hS
 refine Qy func66 Qa ntmps66 Qa ?_
 have hll:=Gg hw
 refine Qf (Qb (Qc Qa Qa (Qh (Qd (Qf (Qf (Qb (Qe Qa Qa (Ql Qa Qa (Qi Qa WC Qa (Qr Qa J2 (hS.cell 0 Qa Qa) Qa (XN Qa Qa (Qh (Qd (QZ Qa (fun h1=> ?_) (fun h1=> ?_))))))))))))))))
 ·have hfr:E.frozen=false:= by simpa using h1
  refine Qf (Qb (Qc Qa Qa (Qh (Qd (Qo (Qm (Q5 (.inr Qa) Qa Qa ?_)))))))
  exact⟨_,rfl, by rw[if_pos hfr,if_pos hfr]; exact(Sat.row_nil Zn (Qu (E:=E) ((hS.pick [0,1,2,3,4,5] Qa))))⟩
 have hfr: ¬E.frozen=false:= by simpa using h1
 refine Qt (Qd (Qf ?_))
 rw[hs]at hS
 obtain⟨sb,sm,rfl,hS2⟩:=Zo (hS.pick [3,0,1,2,4,5] rfl)
 refine Qb (Qe Qa Qa (Ql Qa Qa (Qi Qa Xt Qa (Qr Qa ZA (hS2.cell 2 Qa Qa) Qa (Q0 Al Qa (Sp (hS2.sp [0,1] Qa) (hG.starL 4 Qa) hw) Qa ?_)))))
 rintro _ w3 ⟨rfl,hS3⟩
 replace hS3:=hS3.jn Qa Qa
 refine Qc Qa Qa (Qh ?_)
 have hS4:=Qu (E:=E) (by rw[hs]; exact(Xh (s:=s) (hS3.pick [0,1,2,3,4,5,6] Qa)).reorder [1,2,3,0,4,5] Qa)
 refine Qd (Qk [0,2,3] Qa (Qf (Qb (Qe Qa Qa (Zf underlying9 Qa Qa (XC Qa Qa (by omega) (by omega) Qa ?_))))))
 refine JH Qa Qa (by omega) (by omega) Qa ?_
 refine NG Qa Qa (by omega) (by omega) (by omega) Qa ?_
 refine Qc Qa Qa (Qh (Qd (Qf (Qb (Qc Qa Qa (Qh (Qd (Qf (Qf (Qb (Qe Qa Qa (Uc Qa Qa Qa (Qe Qa Qa (Qh (Qd (Qk [0,2,3,4,5,22,23] Qa (QK ?_)))))))))))))))))
 have hS5:=Sat.row_nil Zn hS4
 refine XJ (fun K0 E0 W0=> ∃(i:Nat) (nx:Int) (out:List Bs) (ov9:Value) (nn:Int),K0=(min (Zt (X8 s)) 32).toNat -i∧E0=[(0,ptrV e 0),(3,strV (X8 s)),(4,intV nn),(5,ov9),(22,intV (min nn 32)),(23,intV (i:Int))]∧Sat W0 [rowT Zn ov9 out,Xw e {E with next:=nx},F]∧(PrtI E (X8 s) (Zt (X8 s)) (min (Zt (X8 s)) 32).toNat i nx out)∧(nn=Zt (X8 s))) (L0:=[(0,_),(3,_),(4,_),(5,_),(22,_),(23,_)]) ((min (Zt (X8 s)) 32).toNat -0) (TH Qa Qa Qa Qa Qa Qa) ⟨0,E.next,[],_,_,rfl,rfl,hS5.pick [0,1,2] Qa,PrtI.start hnx,(by unfold Zt;omega)⟩ ?_
 rintro _ _ w6 ⟨i,nx,out,ov9,nn,rfl,rfl,hS6,hI,hnn⟩
 have h1ov:ov9.oneCell'=true:=hS6.own_one 0 Qa
 have hrg:=hI.rg
 rw[←hnn]at hrg
 have hnb:=BQ (Gg hw)
 rw[←hnn]at hnb
 have hle:=hI.le
 have hol:=hI.len
 have hoff:=Pg hI.rg
 refine Qf (Qb (X5 Qa Qa Qa (Qh (Qd (Qf (Qv Qa (fun h7=> ?_) (fun h7=> ?_)))))))
 ·have hlt:=h7
  have hlk:i<(min (Zt (X8 s)) 32).toNat:= by omega
  have hIs:=hI.step hlk
  rw[←hnn,←LX Qa]at hIs
  refine Qt (Qd (Qf (QK (Qf ?_))))
  obtain⟨dp,cv,sv,ov,hS8⟩:=QU (hS6.pick [1,0,2] rfl)
  dsimp only[U0]at hS8
  have hS9:=hS8.drew
  refine QN [0,1,2,3,4,5,6,7,8,9,10,11,12,13,14,15,16,17,18,19,20,21,22,23,24,25,26] [23,24,25] W5 (by kernel_rfl) ?_
  refine QI Qa Qa Qa (QI Qa Qa Qa (QI Qa Qa Qa (Xn Qa Qa Qa (QO Qa Qa Qa Ka (QF Qa Qa Qa (Qn Qa QH (hS9.cell 0 Qa Qa)) (QI Qa Qa Qa (QI Qa Qa Qa (QI Qa Qa Qa (Xn Qa Qa Qa (QO Qa Qa Qa Ka (QF Qa Qa Qa (Qn Qa QH (hS9.cell 0 Qa Qa)) (Q9 Qa Qa Qa (fun _=>(Pr Qa Qa (by omega) (by omega))) ?_))))))))))))
  refine QI Qa Qa Qa (Q9 Qa Qa Qa (fun _=>(R1 underlying9 Qa)) ?_)
  refine QI Qa Qa Qa (Xn Qa Qa Qa (QO Qa Qa Qa Ka (QF Qa Qa Qa (Qn Qa QH (hS9.cell 0 Qa Qa)) (Q9 Qa Qa Qa (fun _=>(EV Qa Qa (by omega) (by omega))) ?_))))
  refine Q9 Qa Qa Qa (fun _=>(Pr Qa Qa (by omega) (by omega))) ?_
  refine Q9 Qa Qa Qa (fun _=>(Bp Qa Qa)) ?_
  refine Q9 Qa Qa Qa (fun _=>(UM (200*nx).toNat (min (X8 s).length ((200*nx).toNat+200)) underlying9 Qa (Hx (200*nx).toNat _ Qa (by omega)) (Hx (min (X8 s).length ((200*nx).toNat+200)) _ Qa (by omega)) (by omega) (by omega))) ?_
  have hS10:=Qu (E:={E with next:=nx}) (hS9.pick [0,1,2,3,4,5,6] Qa)
  refine QV Qa Qa Qa Qa Qa Qa ?_
  refine Q0 WH Qa (WG (hS10.sp [0] Qa) (hG.starL 1 Qa) (k:=1) (a:=nx) (b:=nn) (s:=(((X8 s).take (min (X8 s).length ((200*nx).toNat+200))).drop (200*nx).toNat)) ⟨XG (k:=1) (by decide),hmv, by show X4 nx;unfold X4;omega, by show X4 nn;unfold X4;omega, by show(List.drop _ (List.take _ _)).length≤_; rw[List.length_drop,List.length_take];omega⟩) Qa ?_
  rintro _ w11 ⟨rfl,hS11⟩
  replace hS11:=hS11.jn Qa Qa
  refine Xd (Xq (by kernel_rfl)) ?_
  refine QV Qa Qa Qa Qa Qa Qa ?_
  refine Xe Zn [Z3 E 1 nx nn (((X8 s).take (min (X8 s).length ((200*nx).toNat+200))).drop (200*nx).toNat)] hS11 Qa underlying66 J8 Qa Qa Qa Qa (by rfl) rfl ?_
  intro b12 w12 hS12
  refine Xd (Xq (by kernel_rfl)) ?_
  refine QV Qa Qa Qa Qa Qa Qa ?_
  refine Zi Zn 2 hS12 Qa Qa Qa (hS12.rd 0 Qa (by simp)) underlying66 underlying66 (by intro k hk; cases hk) Um Qa (by simp only[List.length_cons,List.length_nil];omega) Qa (by simp only[List.length_cons,List.length_nil];omega) ?_
  intro v13 w13 hS13; dsimp only[List.set]at hS13
  have h1v13:v13.oneCell'=true:=hS13.own_one 2 Qa
  refine Xd (Xq (by kernel_rfl)) ?_
  refine WV Qa Qa Qa (VC.nil (Qd (Qk [23,22,4,3,0,5] Qa ?_)))
  obtain⟨dp,cv,sv,ov,hS14⟩:=QU (hS13.pick [1,0,2,3] rfl)
  dsimp only[U0]at hS14
  refine Qb (Qe Qa Qa (Qe Qa Qa (Ql Qa Qa (Qi Qa Ka Qa (Qr Qa QH (hS14.cell 0 Qa Qa) Qa (XC Qa Qa (by omega) (by omega) Qa ?_))))))
  refine Qe Qa Qa (NF Qa Qa (by omega) (by omega) Qa ?_)
  refine Ql Qa Qa (Qi Qa Ka Qa ?_)
  first | (refine Qw hS14 Qa Qa WA (by rfl) (i:=0) Qa (QC Qa) ?_)
  intro w15 hS16; dsimp only[List.set]at hS16
  refine Qh ?_
  have hS17:=Qu (E:={E with next:=(nx+1)%nn}) (hS16.pick [0,1,2,3,4,5,6,7] Qa)
  refine Qq (Qd (Qk [23,22,4,3,0,5] Qa (Qb (XC Qa Qa (by omega) (by omega) Qa ?_))))
  refine Qe Qa Qa (Qh ?_)
  exact Xj (L1:=[(0,_),(3,_),(4,_),(5,_),(22,_),(23,intV ((i+1:Nat):Int))]) (TH Qa Qa Qa Qa Qa Qa) (k1:=(min (Zt (X8 s)) 32).toNat -(i+1)) (by omega) ⟨i+1,(nx+1)%nn,_,_,nn,rfl,rfl,hS17.pick [2,0,3] Qa,(by rw[←hnn]; exact hIs),hnn⟩
 have hge:=h7
 refine X6 (Q6 (Q6 (QR (Qd (Qf (Qb (Qe Qa Qa (Qc Qa Qa (Qh (Qd (Qo (Q5 (.inr Qa) Qa Qa ?_))))))))))))
 have hz:=hI.fin (by omega)
 exact⟨_,rfl, by rw[if_neg hfr,if_neg hfr,hz]; exact hS6.pick [0,1,2] Qa⟩
