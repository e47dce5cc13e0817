/- move: parse -/
import Derived.Test.YtiibgheijbbmaaaGreatDoorMvv
set_option linter.unusedVariables false
set_option maxRecDepth 100000
set_option maxHeartbeats 100000000000
namespace Go.Proofs.YtiibgheijbbmaaaGreatDoor
open Go.RowKit M Proofs.Tryz
abbrev pz0 (l:Bs):Bs×Bool:=Zh 59 0 (Uo (l,false))
abbrev pcnt (l:Bs):Int:=min (Zl 59 0 (Uo (l,false))) 8193
theorem TF {α:Type} {P:AL α} {k:Int} {x:α} (h: ∀e∈P,e.1<k):X6 k x P=P++[(k,x)]:= by
  induction P with
  | nil=>rfl
  | cons e P ih=>
    unfold X6
    rw[if_pos (h e List.mem_cons_self),ih fun f hf=>h f (List.mem_cons_of_mem _ hf)]
    rfl
theorem Pg {P:AL PgD} {k:Int} {x:PgD} (hs:Srt P) (h: ∀e∈P,e.1<k):upd (Yj P) k (some (Rr x))=Yj (P++[(k,x)]):= by rw[Uf hs,TF h]
structure PrsI (l:Bs) (i:Nat) (z:Bs×Bool) (last:Int) (P:AL PgD):Prop where
  le:(i:Int)≤pcnt l
  len:P.length=i
  srt:Srt P
  lt: ∀e∈P,e.1≤last
  pg: ∀e∈P,Xy e.1∧Xy e.2.ver∧Xy e.2.sent∧e.2.data.length≤64
  rest:Ut (pcnt l).toNat (pz0 l) 0=(Ut ((pcnt l).toNat -i) z last).map (P++ ·)
  zl:z.1.length≤l.length
section
variable {l:Bs} {i:Nat} {z:Bs×Bool} {last:Int} {P:AL PgD}
theorem Lo:0≤pcnt l:= by have :=Lr 59 (Uo (l,false)); show 0≤min (Zl 59 0 (Uo (l,false))) 8193;omega
theorem pcnt_le:pcnt l≤8193:= by show min (Zl 59 0 (Uo (l,false))) 8193≤8193;omega
theorem PrsI.start:PrsI l 0 (pz0 l) 0 []:= by
  refine⟨Lo,rfl,List.Pairwise.nil, fun e q=>(by cases q), fun e q=>(by cases q), ?_, ?_⟩
  · rw[Nat.sub_zero]
    cases Ut (pcnt l).toNat (pz0 l) 0<;>rfl
  · exact Nat.le_trans (XO _ _ _) (NH _)
theorem PrsI.bad (h:PrsI l i z last P) (hi:(i:Int)<pcnt l) (hb:Zl 59 (-9223372036854775808:Int) z≤last∨1099511627776<Zl 59 (-9223372036854775808:Int) z∨Zl 59 (-9223372036854775808:Int) (Zh 59 (-9223372036854775808:Int) z)<1):Wp l=(none,false):= by
  have e:(pcnt l).toNat -i=((pcnt l).toNat -(i+1))+1:= by omega
  have hn:Ut (pcnt l).toNat (pz0 l) 0=none:= by
    rw[h.rest,e]
    unfold Ut
    rw[if_pos hb];rfl
  unfold Wp
  rw[show Ut (min (Zl 59 0 (Uo (l,false))) 8193).toNat (Zh 59 0 (Uo (l,false))) 0=none from hn]
theorem PrsI.next (h:PrsI l i z last P) (hi:(i:Int)<pcnt l) (hb: ¬(Zl 59 (-9223372036854775808:Int) z≤last∨1099511627776<Zl 59 (-9223372036854775808:Int) z∨Zl 59 (-9223372036854775808:Int) (Zh 59 (-9223372036854775808:Int) z)<1)):PrsI l (i+1) (Zh 59 (-9223372036854775808:Int) (Zh 59 (-9223372036854775808:Int) z)) (Zl 59 (-9223372036854775808:Int) z) (P++[(Zl 59 (-9223372036854775808:Int) z,⟨[],Zl 59 (-9223372036854775808:Int) (Zh 59 (-9223372036854775808:Int) z),0,true⟩)]):= by
  have e:(pcnt l).toNat -i=((pcnt l).toNat -(i+1))+1:= by omega
  have hlt: ∀f∈P,f.1<Zl 59 (-9223372036854775808:Int) z:= fun f hf=> by have :=h.lt f hf;omega
  refine⟨by omega, by rw[List.length_append,h.len];rfl, by rw[←TF hlt]; exact h.srt.put, fun f hf=> ?_, fun f hf=> ?_, ?_, ?_⟩
  · rcases List.mem_append.1 hf with q | q
    · have :=hlt f q;omega
    · rw[List.mem_singleton.1 q]; exact Int.le_refl _
  · rcases List.mem_append.1 hf with q | q
    · exact h.pg f q
    · rw[List.mem_singleton.1 q]; exact⟨Yl _ _ _,Yl _ _ _,XF, by simp⟩
  · rw[h.rest,e]
    conv=>lhs; rw[show Ut ((pcnt l).toNat -(i+1)+1) z last=(Ut ((pcnt l).toNat -(i+1)) (Zh 59 (-9223372036854775808:Int) (Zh 59 (-9223372036854775808:Int) z)) (Zl 59 (-9223372036854775808:Int) z)).map fun l=>(Zl 59 (-9223372036854775808:Int) z,⟨[],Zl 59 (-9223372036854775808:Int) (Zh 59 (-9223372036854775808:Int) z),0,true⟩)::l by rw[Ut]; rw[if_neg hb]]
    rw[Option.map_map]
    congr 1
    funext m
    simp
  · exact Nat.le_trans (XO _ _ _) (Nat.le_trans (XO _ _ _) h.zl)
theorem Pt {k:Int} {x:PgD}:Hh (P++[(k,x)])=max (Hh P) x.ver:= by unfold Hh; rw[List.foldl_append];rfl
theorem PrsI.fin (h:PrsI l i z last P) (hi: ¬(i:Int)<pcnt l):Wp l=(some ⟨V8 (l,false),Hh P,P⟩,decide ((V8 (l,false)).length≤1048576)&&decide (P.length≤8192)&&decide (Xf ⟨V8 (l,false),Hh P,P⟩=l)):= by
  have hle:=h.le
  have e:(pcnt l).toNat -i=0:= by omega
  have hn:Ut (pcnt l).toNat (pz0 l) 0=some P:= by
    rw[h.rest,e];unfold Ut; simp
  unfold Wp
  rw[show Ut (min (Zl 59 0 (Uo (l,false))) 8193).toNat (Zh 59 0 (Uo (l,false))) 0=some P from hn]
theorem PrsI.ver (h:PrsI l i z last P):Xy (Hh P):=TO fun e he=>(h.pg e he).2.1
end
theorem Pj {w:World} {F:Th} (hS:Sat w [F]) (hG:Ent F WireG) (l:Bs) (hll:l.length≤20000000):
    Calls prog 106 #[strV l] w (Ret fun v w'=>(Wp l=(none,false)∧v= .tuple #[.pointer none,.bool false]∧Sat w' [F])∨(∃sb sm s g,Wp l=(some s,g)∧v= .tuple #[ptrV sb 0,.bool g]∧Sat w' [QR sb [strV s.state,intV s.count,.map (some sm)],XI Za sm (Yj s.pages),F])):= by
 refine Qy func106 Qa ntmps106 Qa ?_
 have htl:=NH (l,false)
 dsimp only at htl
 refine Qg (Qb (Qc Qa Qa (Qc Qa Qa (Qh (Qe (Qg (Qb (Qd Qa Qa (Q4 FL Qa (DM (hS.sp [] Qa) l) Qa ?_)))))))))
 rintro _ w1 ⟨rb,rfl,hS1⟩
 replace hS1:=hS1.jn Qa Qa
 refine Qc Qa Qa (Qh (Qe (Qg (Qb (Qd Qa Qa ?_)))))
 refine Q4 IZ Qa (Pb (hS1.sp [0] Qa) (hG.starL 0 Qa) (by show l.length≤_;omega)) Qa ?_
 rintro _ w2 ⟨rfl,hS2⟩
 replace hS2:=hS2.jn Qa Qa
 refine W6 Za hS2 Qa ?_
 intro sm w3 hS3
 refine JJ (vs':=[strV (V8 (l,false)),intV 0,.map (some sm)]) Qa ED N2 FY Qa Qa Qa (XZ hS3 Qa Qa Qa ?_)
 intro sb w4 hS4
 refine Qc Qa Qa (Qh (Qe (Qk [0,2,3,4,5] Qa (Qg (Qb (Qc Qa Qa (Qh (Qe (Qg (Qg (Qb (Qd Qa Qa (Q4 cal_127 Qa (rNum_sp (hS4.sp [2] Qa) (hG.starL 2 Qa) (by omega)) Qa ?_)))))))))))))
 rintro _ w5 ⟨rfl,hS5⟩
 replace hS5:=hS5.jn Qa Qa
 refine U7 Qa Qa Qa (Qd Qa Qa (Qh (Qe (QD (XD (fun K0 E0 W0=> ∃(i:Nat) (z:Bs×Bool) (last:Int) (P:AL PgD),K0=(pcnt l).toNat -i∧E0=[(0,strV l),(4,ptrV rb 0),(5,ptrV sb 0),(6,intV last),(18,intV (pcnt l)),(19,intV (i:Int))]∧Sat W0 [UD rb z,QR sb [strV (V8 (l,false)),intV (Hh P),.map (some sm)],XI Za sm (Yj P),F]∧(PrsI l i z last P)) (L0:=[(0,_),(4,_),(5,_),(6,_),(18,_),(19,_)]) ((pcnt l).toNat -0) (Dc Qa Qa Qa Qa Qa Qa) ⟨0,pz0 l,0,[],rfl,rfl,hS5.pick [0,1,2,3] Qa,PrsI.start⟩ ?_)))))
 rintro _ _ w6 ⟨i,z,last,P,rfl,rfl,hS6,hP⟩
 have hzl:=hP.zl
 have hpn:=Lo (l:=l)
 have hpl:=pcnt_le (l:=l)
 have hple:=hP.le
 refine Qg (Qb (Xz Qa Qa Qa (Qh (Qe (Qg (Qw Qa (fun h7=> ?_) (fun h7=> ?_)))))))
 ·have hlt:(i:Int)<pcnt l:=h7
  refine Qr (Qe (Qg (QD (Qg (Qb (Qd Qa Qa (Q4 KB Qa (UE (hS6.sp [0] Qa) (hG.starL 2 Qa) (by omega)) Qa ?_)))))))
  rintro _ w8 ⟨rfl,hS8⟩
  replace hS8:=hS8.jn Qa Qa
  refine Qd Qa Qa ?_
  refine Q4 KB Qa (UE (hS8.sp [0] Qa) (hG.starL 2 Qa) (by have :=XO 59 (-9223372036854775808:Int) z;omega)) Qa ?_
  rintro _ w9 ⟨rfl,hS9⟩
  replace hS9:=hS9.jn Qa Qa
  refine Qc Qa Qa (Qc Qa Qa (Qh (Qe (Qk [19,18,6,5,4,0,7,8] Qa (Qg (Qg (Qb (Qd Qa Qa (Qd Qa Qa (W7 Qa Qa Qa (Qd Qa Qa (Q3 28 Qa (fun h10=> ?_) (fun h10=> ?_)))))))))))))
  ·exact Qf Qa Qa (Q8 h10) Qa (Qf Qa Qa (Q8 h10) Qa (Qx Qa (Q8 h10) Qa Qa (Qd Qa Qa (Qf Qa Qa Qa Qa (Qf Qa Qa Qa Qa (Qx Qa Qa Qa Qa (Qh (Qe (Qk [19,18,6,5,4,0,7,8,35] Qa (QL Qa (Qg (Qb (Qc Qa Qa (Qc Qa Qa (Qh (Qe (Qo (Qm (Q0 (Qm (Qm (Q0 (Qm (ZI (.inr Qa) Qa Qa Qa (⟨_,rfl,.inl ⟨hP.bad hlt (by omega),rfl,hS9.pick [3] Qa⟩⟩)))))))))))))))))))))))))
  refine Qj Qa Qa (Qv h10) (Qd Qa Qa (Qj Qa Qa (Qv h10) (We Qa Qa Qa (Qz Qa (Qv h10) Qa Qa (Qd Qa Qa (Q3 32 Qa (fun h11=> ?_) (fun h11=> ?_)))))))
  ·exact Qf Qa Qa (Q8 h11) Qa (Qf Qa Qa (Q8 h11) Qa (Qx Qa (Q8 h11) Qa Qa (Qh (Qe (Qk [19,18,6,5,4,0,7,8,35] Qa (QL Qa (Qg (Qb (Qc Qa Qa (Qc Qa Qa (Qh (Qe (Qo (Qm (Q0 (Qm (Qm (Q0 (Qm (ZI (.inr Qa) Qa Qa Qa (⟨_,rfl,.inl ⟨hP.bad hlt (by omega),rfl,hS9.pick [3] Qa⟩⟩)))))))))))))))))))))
  refine Qj Qa Qa (Qv h11) (Qd Qa Qa (Qj Qa Qa (Qv h11) (Xz Qa Qa Qa (Qz Qa (Qv h11) Qa Qa (Qh (Qe (Qk [19,18,6,5,4,0,7,8,35] Qa (Qw Qa (fun h12=> ?_) (fun h12=> ?_)))))))))
  ·have hbad:Zl 59 (-9223372036854775808:Int) z≤last∨1099511627776<Zl 59 (-9223372036854775808:Int) z∨Zl 59 (-9223372036854775808:Int) (Zh 59 (-9223372036854775808:Int) z)<1:= by first | omega | simp_all
   exact Qg (Qb (Qc Qa Qa (Qc Qa Qa (Qh (Qe (Qo (Qm (Q0 (Qm (Qm (Q0 (Qm (ZI (.inr Qa) Qa Qa Qa (⟨_,rfl,.inl ⟨hP.bad hlt (by omega),rfl,hS9.pick [3] Qa⟩⟩))))))))))))))
  have hok: ¬(Zl 59 (-9223372036854775808:Int) z≤last∨1099511627776<Zl 59 (-9223372036854775808:Int) z∨Zl 59 (-9223372036854775808:Int) (Zh 59 (-9223372036854775808:Int) z)<1):= by omega
  refine Qr (Qe (Qg (Qb (Qd Qa Qa (Qc Qa Qa (Qh (Qe (Qg (Qb (Qd Qa Qa (Ql Qa Qa (Qi Qa ZH Qa (Qp Qa ZZ (hS9.cell 1 Qa Qa) Qa (Qd Qa Qa (Qd Qa Qa (Zu Qa EC U3 Wg Qa Qa (Zj (k:=Zl 59 (-9223372036854775808:Int) z) (v:=Rr ⟨[],Zl 59 (-9223372036854775808:Int) (Zh 59 (-9223372036854775808:Int) z),0,true⟩) 2 hS9 keysInt underlying89 Qa Qa Qa Qa ?_)))))))))))))))))
  intro w13 hS13; dsimp only[List.set]at hS13; rw[Pg hP.srt (fun e he=> by have :=hP.lt e he;omega)]at hS13
  refine Qh (Qe (Qk [19,18,5,4,0,8,6] Qa (Qb (Qd Qa Qa (Qd Qa Qa (Ql Qa Qa (Qi Qa UK Qa (Qp Qa QK (hS13.cell 1 Qa Qa) Qa (Qd Qa Qa (Lb Qa Qa Qa (Ql Qa Qa (Qi Qa UK Qa ?_))))))))))))
  first | (refine QC hS13 Qa Qa YH (by rfl) (i:=1) Qa (Xe Qa) ?_)
  intro w14 hS15; dsimp only[List.set]at hS15
  refine Qh (Qq (Qe (Qk [19,18,5,4,0,6] Qa (Qb (Xq Qa Qa (by omega) (by omega) Qa ?_)))))
  refine Qd Qa Qa (Qh ?_)
  exact QY (L1:=[(0,_),(4,_),(5,_),(6,intV (Zl 59 (-9223372036854775808:Int) z)),(18,_),(19,intV ((i+1:Nat):Int))]) (Dc Qa Qa Qa Qa Qa Qa) (k1:=(pcnt l).toNat -(i+1)) (by omega) ⟨i+1,_,_,_,rfl,rfl,(by rw[Pt]; exact hS15.pick [0,1,2,3] Qa),hP.next hlt hok⟩
 have hge: ¬(i:Int)<pcnt l:=h7
 refine Xu (Q1 (Q1 (QJ (Qe (Qg (Qb (Qd Qa Qa (Qd Qa Qa (Ql Qa Qa (Qi Qa Gw Qa (Qp Qa Zw (hS6.cell 1 Qa Qa) Qa (Zs underlying9 Qa Qa (W7 Qa Qa Qa (Qd Qa Qa (Q3 61 Qa (fun h16=> ?_) (fun h16=> ?_))))))))))))))))
 ·refine Qj Qa Qa (Q8 h16) (Qd Qa Qa (Qj Qa Qa (Q8 h16) (Ql Qa Qa (Qj Qa Qa (Q8 h16) (Qi Qa ZH Qa (Qj Qa Qa (Q8 h16) (Qp Qa ZZ (hS6.cell 1 Qa Qa) Qa (Qj Qa Qa (Q8 h16) (Cn 2 hS6 underlying89 keysInt.inj Qa Qa Qa (fun mm hmm=> ?_))))))))))
  obtain rfl:=hmm.uniq (C9 hP.srt)
  refine Qj Qa Qa (Q8 h16) (W7 Qa Qa Qa (Qx Qa (Q8 h16) Qa Qa (Qd Qa Qa (Q3 69 Qa (fun h17=> ?_) (fun h17=> ?_)))))
  ·refine Qj Qa Qa (Q8 h17) (Qd Qa Qa (Qj Qa Qa (Q8 h17) ?_))
   refine Q4 IV Qa (Ly (s:=⟨V8 (l,false),Hh P,P⟩) (hS6.sp [1,2] Qa) (hG.starL 1 Qa) ⟨hP.srt,(by show P.length≤8192;omega),(by show(V8 (l,false)).length≤1048576;omega),hP.ver,hP.pg⟩) Qa ?_
   rintro _ w18 ⟨rfl,hS18⟩
   replace hS18:=hS18.jn Qa Qa
   refine Qj Qa Qa (Q8 h17) (Qd Qa Qa (Qj Qa Qa (Q8 h17) (KH Qa Qa Qa (Qx Qa (Q8 h17) Qa Qa (Qc Qa Qa (Qc Qa Qa (Qh (Qe (Qk [2,3] Qa (Qo (ZI (.inr Qa) Qa Qa Qa ?_)))))))))))
   exact⟨_,rfl,.inr ⟨sb,sm,_,_,hP.fin hge,(by(congr 3; simp;omega)),hS18.pick [0,1,3] Qa⟩⟩
  refine Qf Qa Qa (Qv h17) Qa (Qf Qa Qa (Qv h17) Qa (Qf Qa Qa (Qv h17) Qa (Qf Qa Qa (Qv h17) Qa (Qz Qa (Qv h17) Qa Qa (Qc Qa Qa (Qc Qa Qa (Qh (Qe (Qk [2,3] Qa (Qo (ZI (.inr Qa) Qa Qa Qa ?_)))))))))))
  exact⟨_,rfl,.inr ⟨sb,sm,_,_,hP.fin hge,(by(congr 3; simp;omega)),hS6.pick [1,2,3] Qa⟩⟩
 refine Qf Qa Qa (Qv h16) Qa (Qf Qa Qa (Qv h16) Qa (Qf Qa Qa (Qv h16) Qa (Qf Qa Qa (Qv h16) Qa (Qf Qa Qa (Qv h16) Qa (Qf Qa Qa (Qv h16) Qa (Qz Qa (Qv h16) Qa Qa (Qd Qa Qa (Qf Qa Qa Qa Qa (Qf Qa Qa Qa Qa (Qf Qa Qa Qa Qa (Qf Qa Qa Qa Qa (Qz Qa Qa Qa Qa (Qc Qa Qa (Qc Qa Qa (Qh (Qe (Qk [2,3] Qa (Qo (ZI (.inr Qa) Qa Qa Qa ?_)))))))))))))))))))
 exact⟨_,rfl,.inr ⟨sb,sm,_,_,hP.fin hge,(by(congr 3; simp;omega)),hS6.pick [1,2,3] Qa⟩⟩
structure PushI (E:EnD) (l:AL PgD) (i:Nat) (D:AL PgD) (out:List Bs) (k:Nat):Prop where
  eq:pushG E 4 l=(D++(pushG E k (l.drop i)).1,out++(pushG E k (l.drop i)).2)
  cnt:out.length+k=4
  ids:XY D=XY (l.take i)
section
variable {E:EnD} {l D:AL PgD} {i k:Nat} {out:List Bs} {y:Int×PgD}
theorem PushI.start:PushI E l 0 [] [] 4:=⟨by rw[List.drop_zero];rfl,rfl,rfl⟩
theorem PushI.srt (h:PushI E l i D out k) (hs:Srt l):Srt (D++l.drop i):= by
  unfold Srt at *
  have :XY (D++l.drop i)=XY l:= by
    have h1:=h.ids
    unfold XY at *
    rw[List.map_append,h1,←List.map_append,List.take_append_drop]
  rw[this]; exact hs
theorem VM (hy:l[i]? =some y):l.drop i=y::l.drop (i+1):= by
  obtain⟨hi,rfl⟩:=Jo hy
  exact List.drop_eq_getElem_cons hi
theorem P0 (h:XY D=XY (l.take i)) (hy:l[i]? =some y) {p:PgD}:XY (D++[(y.1,p)])=XY (l.take (i+1)):= by
  unfold XY at *
  rw[List.take_add_one,hy,List.map_append,List.map_append,h];rfl
theorem PushI.skip (h:PushI E l i D out k) (hy:l[i]? =some y) (hv:y.2.ver=y.2.sent):PushI E l (i+1) (D++[y]) out k:= by
  refine⟨?_,h.cnt,P0 h.ids hy⟩
  rw[h.eq,VM hy]
  have :pushG E k (y::l.drop (i+1))=(y::(pushG E k (l.drop (i+1))).1,(pushG E k (l.drop (i+1))).2):= by rw[pushG.eq_def]; dsimp only; rw[if_pos hv]
  rw[this]; simp
theorem PushI.push (h:PushI E l i D out (k+1)) (hy:l[i]? =some y) (hv:y.2.ver≠y.2.sent):PushI E l (i+1) (D++[(y.1,{y.2 with sent:=y.2.ver})]) (out++[Ze E 0 y.1 y.2.ver y.2.data]) k:= by
  refine⟨?_, by have :=h.cnt; rw[List.length_append]; show out.length+1+k=4;omega,P0 h.ids hy⟩
  rw[h.eq,VM hy]
  have :pushG E (k+1) (y::l.drop (i+1))=((y.1,{y.2 with sent:=y.2.ver})::(pushG E k (l.drop (i+1))).1,Ze E 0 y.1 y.2.ver y.2.data::(pushG E k (l.drop (i+1))).2):= by rw[pushG.eq_def]; dsimp only; rw[if_neg hv]
  rw[this]; simp
theorem PushI.stop (h:PushI E l i D out 0) (hy:l[i]? =some y) (hv:y.2.ver≠y.2.sent):pushG E 4 l=(D++l.drop i,out):= by
  rw[h.eq,VM hy]
  have :pushG E 0 (y::l.drop (i+1))=(y::l.drop (i+1),[]):= by rw[pushG.eq_def]; dsimp only; rw[if_neg hv]
  rw[this]; simp
theorem PushI.fin (h:PushI E l i D out k) (hi:l.length≤i):pushG E 4 l=(D++l.drop i,out):= by
  rw[h.eq,List.drop_eq_nil_of_le hi]
  have :pushG E k []=([],[]):= by rw[pushG.eq_def]
  rw[this]; simp
theorem Pc {k:Int} {x p:PgD} {R:AL PgD}: ∀{D:AL PgD},(∀e∈D,e.1<k)→X6 k x (D++(k,p)::R)=D++(k,x)::R
  | [],_=> by
    show X6 k x ((k,p)::R)=_
    unfold X6
    rw[if_neg (by show ¬k<k;omega),if_pos Qa];rfl
  | e::D,h=> by
    show X6 k x (e::(D++(k,p)::R))=_
    unfold X6
    rw[if_pos (h e List.mem_cons_self),Pc fun f hf=>h f (List.mem_cons_of_mem _ hf)];rfl
theorem srt_app {R:AL PgD} (hs:Srt (D++y::R)): ∀e∈D,e.1<y.1:= fun e he=> by
  unfold Srt XY at hs
  rw[List.map_append]at hs
  exact(List.pairwise_append.1 hs).2.2 e.1 (List.mem_map.2 ⟨e,he,rfl⟩) y.1 (by simp)
theorem pgG_mid {R:AL PgD} (hs:Srt (D++y::R)):(Yj (D++y::R) y.1).getD (.agg #[strV [],intV 0,intV 0,.bool false])=Rr y.2:= by
  unfold Yj; rw[Hk hs (x:=y.2) (by simp)];rfl
theorem Ff {R:AL PgD} (hs:Srt (D++y::R)) (x:PgD):upd (Yj (D++y::R)) y.1 (some (Rr x))=Yj (D++[(y.1,x)]++R):= by
  rw[Uf hs, show D++y::R=D++(y.1,y.2)::R from rfl,Pc (srt_app hs)]; simp
end
theorem Ue {w:World} {e:Nat} {E:EnD} {F:Th} (hS:Sat w [Xs e E,F]) (hG:Ent F WireG) {s:SeD} (hs:E.ses=some s) (hw:SeW s) (hmv:Xy E.move):
    Calls prog 65 #[ptrV e 0] w (Ret fun v w'=>Sat w' [rowT Z4 v (pushG E 4 s.pages).2,Xs e {E with ses:=some {s with pages:=(pushG E 4 s.pages).1}},F]):= by
 refine Qy func65 Qa ntmps65 Qa ?_
 have hnm:=hw.num
 refine Qg (Qb (Qc Qa Qa (Qh (Qe (Qg (Qb (Qc Qa Qa (Qh (Qe (Qg (Qg ?_)))))))))))
 obtain⟨dp,cv,sv,ov,hS1⟩:=QW (hS.pick [0,1] rfl)
 rw[hs]at hS1
 obtain⟨sb,sm,rfl,hS2⟩:=Zn (hS1.pick [3,0,1,2,4,5] rfl)
 refine Qb (Qd Qa Qa (Ql Qa Qa (Qi Qa Xm Qa (Qp Qa Z8 (hS2.cell 2 Qa Qa) Qa ?_))))
 refine Q4 Nt Qa (CM (hS2.sp [0,1] Qa) hw.srt (by have :=hw.num;omega)) Qa ?_
 rintro _ w3 hS3
 replace hS3:=hS3.jn Qa Qa
 have h1v:=hS3.own_one 0 Qa
 obtain⟨ao,cap,hv4,_⟩:=hS3.own_shape 0 rfl
 obtain rfl:=hv4
 refine Xj underlying33 Qa Qa (Qd Qa Qa (Qh (Qe (QD ?_))))
 have hS5:=Qu (E:={E with ses:=some s}) ((Xg (s:=s) (hS3.pick [1,2,3,4,5,6,0,7] Qa)).reorder [1,2,3,0,4,5,6] Qa)
 have hS6:=Sat.row_nil Z4 hS5
 have hS6b:Sat _ (_::Xs e {E with ses:=some {s with pages:=[]++s.pages.drop 0}}::_):=hS6
 refine XD (fun K0 E0 W0=> ∃(i:Nat) (D:AL PgD) (out:List Bs) (ov9:Value) (k:Nat),K0=s.pages.length -i∧E0=[(0,ptrV e 0),(3,ov9),(11,.slice ao (XY s.pages).length cap),(12,intV ((XY s.pages).length:Int)),(13,intV (i:Int))]∧Sat W0 [rowT Z4 ov9 out,rowT inC (.slice ao (XY s.pages).length cap) (XY s.pages),Xs e {E with ses:=some {s with pages:=D++s.pages.drop i}},F]∧(i≤s.pages.length)∧(PushI E s.pages i D out k)) (L0:=[(0,_),(3,_),(11,_),(12,_),(13,_)]) (s.pages.length -0) (SC Qa Qa Qa Qa Qa) ⟨0,[],[],_,4,rfl,rfl,hS6b.pick [0,2,1,3] Qa, by omega,PushI.start⟩ ?_
 rintro _ _ w7 ⟨i,D,out,ov9,k,rfl,rfl,hS7,hi,hI⟩
 have h1ov:ov9.oneCell'=true:=hS7.own_one 0 Qa
 have hkc:=hI.cnt
 refine Qg (Qb (Xz Qa Qa Qa (Qh (Qe (Qg (Qw Qa (fun h8=> ?_) (fun h8=> ?_)))))))
 ·rw[Ra]at h8
  obtain⟨y,hy⟩: ∃y,s.pages[i]? =some y:=⟨_,WU (by omega)⟩
  have hyi:=Fq hy
  have hyp:=hw.pg y (List.mem_of_getElem? hy)
  refine Qr (Qe (Qg (QD (Qg (Qb (ZP inC 1 i hS7 Qa Qa Qa (by first | rfl | omega) hyi K7 Qa ?_))))))
  intro bx9 capx9 hvx9
  refine ZW 1 i 0 hS7 Qa hvx9 Qa Qa hyi QK Qa Qa (Qc Qa Qa (Qh (Qe (Qg ?_))))
  obtain⟨dp,cv,sv,ov,hS10⟩:=QW (hS7.pick [2,0,1,3] rfl)
  dsimp only at hS10
  obtain⟨sb,sm,rfl,hS11⟩:=Zn (hS10.pick [3,0,1,2,4,5,6,7] rfl)
  dsimp only at hS11
  have hsr:=hI.srt hw.srt
  rw[VM hy]at hsr hS11
  refine Qb (Qd Qa Qa (Ql Qa Qa (Qi Qa Xm Qa (Qp Qa Z8 (hS11.cell 2 Qa Qa) Qa (Ql Qa Qa (Qi Qa ZH Qa (Qp Qa ZZ (hS11.cell 0 Qa Qa) Qa (Qd Qa Qa (Hy (k:=y.1) 1 hS11 keysInt underlying89 Qa Qa Qa Wg (pgG_mid hsr) Qa (Xk hS11 Wg Qa Qa ?_))))))))))
  intro b12 w12 hS12
  (refine QX hS12 Qa Qa Vl Qa (by rfl) (i:=0) Qa (by decide) ?_)
  intro w13 hS14; dsimp only[List.set]at hS14
  refine Qh (Qe (Qk [13,12,11,3,0,5,6] Qa (Qg (Qg (Qb (Qi Qa UJ Qa (Qp Qa QK (hS14.cell 0 Qa Qa) Qa (Qi Qa Gv Qa (Qp Qa QK (hS14.cell 0 Qa Qa) Qa (QO Qa Qa Qa (Qh (Qe (Qk [13,12,11,3,0,5,6,30] Qa (Qw Qa (fun h15=> ?_) (fun h15=> ?_)))))))))))))))
  ·have hvs:y.2.ver=y.2.sent:=h15
   have hS16:=Qu (E:={E with ses:=some {s with pages:=D++y::s.pages.drop (i+1)}}) ((Xg (s:={s with pages:=D++y::s.pages.drop (i+1)}) (hS14.pick [1,2,3,4,5,6,0,7,8,9] Qa)).reorder [1,2,3,0,4,5,6,7,8] Qa)
   rw[←VM hy]at hS16
   refine Xu (Q1 (QJ (Qe (Qb (Xq Qa Qa (by omega) (by omega) Qa ?_)))))
   refine Qd Qa Qa (Qh ?_)
   exact QY (L1:=[(0,_),(3,_),(11,_),(12,_),(13,intV ((i+1:Nat):Int))]) (SC Qa Qa Qa Qa Qa) (k1:=s.pages.length -(i+1)) (by omega) ⟨i+1,_,_,_,_,rfl,rfl,(by have hz:=hS16.pick [2,3,0,4] Qa; rw[VM hy, show D++y::s.pages.drop (i+1)=D++[y]++s.pages.drop (i+1) by simp]at hz; exact hz), by omega,hI.skip hy hvs⟩
  have hvs:y.2.ver≠y.2.sent:=h15
  refine Qr (Qe (Qg (Qg (Qb (Qd Qa Qa ?_)))))
  first | refine Xj underlying66 Qa Qa ?_ | refine X3 6 hS14 underlying66 Qa Qa Qa ?_ | refine X3 7 hS14 underlying66 Qa Qa Qa ?_ | refine X3 8 hS14 underlying66 Qa Qa Qa ?_
  refine QO Qa Qa Qa (Qh (Qe (Qk [13,12,11,3,0,5,6,33] Qa (Qw Qa (fun h17=> ?_) (fun h17=> ?_)))))
  ·have hk0:k=0:= by have :=h17;omega
   subst hk0
   have hS18:=Qu (E:={E with ses:=some {s with pages:=D++y::s.pages.drop (i+1)}}) ((Xg (s:={s with pages:=D++y::s.pages.drop (i+1)}) (hS14.pick [1,2,3,4,5,6,0,7,8,9] Qa)).reorder [1,2,3,0,4,5,6,7,8] Qa)
   rw[←VM hy]at hS18
   refine Xu (Q1 (Te Qa (Q1 (Q1 (QJ (Qe (Qg (Qb (Qd Qa Qa (Qc Qa Qa (Qh (Qe (Qo (Q7 (.inr Qa) Qa Qa ?_))))))))))))))
   have hz:=hI.stop hy hvs
   exact⟨_,rfl, by rw[hz]; exact hS18.pick [2,0,4] Qa⟩
  obtain⟨k,rfl⟩: ∃q,k=q+1:=⟨k -1, by have :=h17;omega⟩
  refine Qr (Qe (Qg (Qb (Qd Qa Qa (Qd Qa Qa (Qd Qa Qa (Qi Qa UJ Qa (Qp Qa QK (hS14.cell 0 Qa Qa) Qa (Qi Qa Rd Qa (Qp Qa Zw (hS14.cell 0 Qa Qa) Qa ?_))))))))))
  have hS19:=Qu (E:={E with ses:=some {s with pages:=D++y::s.pages.drop (i+1)}}) ((Xg (s:={s with pages:=D++y::s.pages.drop (i+1)}) (hS14.pick [1,2,3,4,5,6,0,7,8,9] Qa)).reorder [1,2,3,0,4,5,6,7,8] Qa)
  refine Q4 WY Qa (WX (hS19.sp [0] Qa) (hG.starL 3 Qa) (k:=0) (a:=y.1) (b:=y.2.ver) (s:=y.2.data) ⟨XJ (k:=0) (by decide),hmv,hyp.1,hyp.2.1, by show y.2.data.length≤_;omega⟩) Qa ?_
  rintro _ w20 ⟨rfl,hS20⟩
  replace hS20:=hS20.jn Qa Qa
  refine Xc Z4 [Ze E 0 y.1 y.2.ver y.2.data] hS20 Qa underlying66 JZ Qa Qa Qa Qa (by rfl) rfl ?_
  intro b21 w21 hS21
  refine XV Z4 3 hS21 Qa Qa Qa (hS21.rd 0 Qa (by simp)) underlying66 underlying66 (by intro k hk; cases hk) UH Qa (by simp only[List.length_cons,List.length_nil];omega) Qa (by simp only[List.length_cons,List.length_nil];omega) ?_
  intro v22 w22 hS22; dsimp only[List.set]at hS22
  have h1v22:v22.oneCell'=true:=hS22.own_one 3 Qa
  refine Qc Qa Qa (Qh (Qe (Qk [13,12,11,0,5,6,3] Qa (Qg (Qb (Qi Qa UJ Qa (Qp Qa QK (hS22.cell 2 Qa Qa) Qa (Qi Qa Gv Qa ?_))))))))
  first | (refine QC hS22 Qa Qa YH (by rfl) (i:=2) Qa (Xe Qa) ?_)
  intro w23 hS24; dsimp only[List.set]at hS24
  refine Qh (Qe ?_)
  obtain⟨dp,cv,sv,ov,hS25⟩:=QW (hS24.pick [1,0,2,3,4,5] rfl)
  dsimp only at hS25
  obtain⟨sb,sm,rfl,hS26⟩:=Zn (hS25.pick [3,0,1,2,4,5,6,7,8,9] rfl)
  dsimp only at hS26
  have hS27:=hS26.drew
  refine QT [0,1,2,3,4,5,6,7,8,9] [9] Jk (by kernel_rfl) ?_
  refine QM Qa Qa Qa (Xw Qa Qa Qa (QQ Qa Qa Qa Xm (QH Qa Qa Qa (Qn Qa Z8 (hS27.cell 2 Qa Qa)) (Xw Qa Qa Qa (QQ Qa Qa Qa ZH (QH Qa Qa Qa (Qn Qa ZZ (hS27.cell 0 Qa Qa)) (QM Qa Qa Qa (QH Qa Qa Qa (Jh Qa qay Vl (hS27.blk 7 Qa) (Xe Qa) Qa) (Xb Qa Qa Qa Qa Qa Qa ?_)))))))))
  refine Zj (k:=y.1) (v:=Rr {y.2 with sent:=y.2.ver}) 1 hS27 keysInt underlying89 Qa Qa Qa Qa ?_
  intro w28 hS28; dsimp only[List.set]at hS28; rw[Ff hsr]at hS28
  refine ZG (XC (by kernel_rfl)) ?_
  refine VC.nil ?_
  have hS29:=Qu (E:={E with ses:=some {s with pages:=D++[(y.1,{y.2 with sent:=y.2.ver})]++s.pages.drop (i+1)}}) ((Xg (s:={s with pages:=D++[(y.1,{y.2 with sent:=y.2.ver})]++s.pages.drop (i+1)}) (hS28.pick [0,1,2,3,4,5,6,7,8,9,10] Qa)).reorder [1,2,3,0,4,5,6,7,8,9] Qa)
  refine Qq (Qe (Qk [13,12,11,0,3] Qa (Qb (Xq Qa Qa (by omega) (by omega) Qa ?_))))
  refine Qd Qa Qa (Qh ?_)
  exact QY (L1:=[(0,_),(3,_),(11,_),(12,_),(13,intV ((i+1:Nat):Int))]) (SC Qa Qa Qa Qa Qa) (k1:=s.pages.length -(i+1)) (by omega) ⟨i+1,_,_,_,_,rfl,rfl,(hS29.pick [3,4,0,5] Qa), by omega,hI.push hy hvs⟩
 rw[Ra]at h8
 refine Xu (Q1 (Q1 (QJ (Qe (Qg (Qb (Qd Qa Qa (Qc Qa Qa (Qh (Qe (Qo (Q7 (.inr Qa) Qa Qa ?_))))))))))))
 have hz:=hI.fin (by omega)
 exact⟨_,rfl, by rw[hz]; exact hS7.pick [0,2,3] Qa⟩
structure PrtI (E:EnD) (l:Bs) (n:Int) (K i:Nat) (nx:Int) (out:List Bs):Prop where
  eq:ZM E l n K E.next=((ZM E l n (K -i) nx).1,out++(ZM E l n (K -i) nx).2)
  rg:0≤nx∧nx<n
  le:i≤K
  len:out.length=i
section
variable {E:EnD} {l:Bs} {n nx:Int} {K i:Nat} {out:List Bs}
theorem PrtI.start (h:0≤E.next∧E.next<n):PrtI E l n K 0 E.next []:=⟨rfl,h, by omega,rfl⟩
theorem PrtI.step (h:PrtI E l n K i nx out) (hi:i<K):PrtI E l n K (i+1) ((nx+1)%n) (out++[Ze E 1 nx n ((l.drop (200*nx).toNat).take 200)]):= by
  have hr:=h.rg
  refine⟨?_,⟨Int.emod_nonneg _ (by omega),Int.emod_lt_of_pos _ (by omega)⟩, by omega, by rw[List.length_append,h.len];rfl⟩
  have e:K -i=(K -(i+1))+1:= by omega
  rw[h.eq,e]
  conv=>lhs; rw[ZM]
  simp
theorem PrtI.fin (h:PrtI E l n K i nx out) (hi: ¬i<K):ZM E l n K E.next=(nx,out):= by
  have e:K -i=0:= by have :=h.le;omega
  rw[h.eq,e,ZM]; simp
theorem OJ {A B:Nat} (h:B=min l.length (A+200)):(l.take B).drop A=(l.drop A).take 200:= by
  subst h
  rw[List.drop_take]
  by_cases q:l.length≤A+200
  · rw[Nat.min_eq_left q,List.take_of_length_le (by rw[List.length_drop];omega),List.take_of_length_le (by rw[List.length_drop];omega)]
  · rw[Nat.min_eq_right (by omega),Nat.add_sub_cancel_left]
end
theorem Mu {l:Bs} (h:l.length≤1400000):Xa l≤7100:= by unfold Xa;omega
theorem Fi {l:Bs} {nx:Int} (h:0≤nx∧nx<Xa l):200*nx≤(l.length:Int):= by unfold Xa at h;omega
theorem Ud {w:World} {e:Nat} {E:EnD} {F:Th} (hS:Sat w [Xs e E,F]) (hG:Ent F WireG) {s:SeD} (hs:E.ses=some s) (hw:SeW s) (hmv:Xy E.move) (hnx:0≤E.next∧E.next<Xa (Xf s)):
    Calls prog 66 #[ptrV e 0] w (Ret fun v w'=>Sat w' [rowT Z4 v (if E.frozen=false then[]else(ZM E (Xf s) (Xa (Xf s)) (min (Xa (Xf s)) 32).toNat E.next).2),Xs e (if E.frozen=false then E else{E with next:=(ZM E (Xf s) (Xa (Xf s)) (min (Xa (Xf s)) 32).toNat E.next).1}),F]):= by
 obtain⟨dp,cv,sv,ov,hS⟩:=QW hS
 refine Qy func66 Qa ntmps66 Qa ?_
 have hll:=KZ hw
 refine Qg (Qb (Qc Qa Qa (Qh (Qe (Qg (Qg (Qb (Qd Qa Qa (Ql Qa Qa (Qi Qa Jf Qa (Qp Qa JT (hS.cell 0 Qa Qa) Qa (XS Qa Qa (Qh (Qe (Xd Qa (fun h1=> ?_) (fun h1=> ?_))))))))))))))))
 ·have hfr:E.frozen=false:= by simpa using h1
  refine Qg (Qb (Qc Qa Qa (Qh (Qe (Qo (Qm (Q7 (.inr Qa) Qa Qa ?_)))))))
  exact⟨_,rfl, by rw[if_pos hfr,if_pos hfr]; exact(Sat.row_nil Z4 (Qu (E:=E) ((hS.pick [0,1,2,3,4,5] Qa))))⟩
 have hfr: ¬E.frozen=false:= by simpa using h1
 refine Qr (Qe (Qg ?_))
 rw[hs]at hS
 obtain⟨sb,sm,rfl,hS2⟩:=Zn (hS.pick [3,0,1,2,4,5] rfl)
 refine Qb (Qd Qa Qa (Ql Qa Qa (Qi Qa Xm Qa (Qp Qa Z8 (hS2.cell 2 Qa Qa) Qa (Q4 IV Qa (Ly (hS2.sp [0,1] Qa) (hG.starL 4 Qa) hw) Qa ?_)))))
 rintro _ w3 ⟨rfl,hS3⟩
 replace hS3:=hS3.jn Qa Qa
 refine Qc Qa Qa (Qh ?_)
 have hS4:=Qu (E:=E) (by rw[hs]; exact(Xg (s:=s) (hS3.pick [0,1,2,3,4,5,6] Qa)).reorder [1,2,3,0,4,5] Qa)
 refine Qe (Qk [0,2,3] Qa (Qg (Qb (Qd Qa Qa (Zs underlying9 Qa Qa (Xq Qa Qa (by omega) (by omega) Qa ?_))))))
 refine JN Qa Qa (by omega) (by omega) Qa ?_
 refine SG Qa Qa (by omega) (by omega) (by omega) Qa ?_
 refine Qc Qa Qa (Qh (Qe (Qg (Qb (Qc Qa Qa (Qh (Qe (Qg (Qg (Qb (Qd Qa Qa (U7 Qa Qa Qa (Qd Qa Qa (Qh (Qe (Qk [0,2,3,4,5,22,23] Qa (QD ?_)))))))))))))))))
 have hS5:=Sat.row_nil Z4 hS4
 refine XD (fun K0 E0 W0=> ∃(i:Nat) (nx:Int) (out:List Bs) (ov9:Value) (nn:Int),K0=(min (Xa (Xf s)) 32).toNat -i∧E0=[(0,ptrV e 0),(3,strV (Xf s)),(4,intV nn),(5,ov9),(22,intV (min nn 32)),(23,intV (i:Int))]∧Sat W0 [rowT Z4 ov9 out,Xs e {E with next:=nx},F]∧(PrtI E (Xf s) (Xa (Xf s)) (min (Xa (Xf s)) 32).toNat i nx out)∧(nn=Xa (Xf s))) (L0:=[(0,_),(3,_),(4,_),(5,_),(22,_),(23,_)]) ((min (Xa (Xf s)) 32).toNat -0) (Dc Qa Qa Qa Qa Qa Qa) ⟨0,E.next,[],_,_,rfl,rfl,hS5.pick [0,1,2] Qa,PrtI.start hnx,(by unfold Xa;omega)⟩ ?_
 rintro _ _ w6 ⟨i,nx,out,ov9,nn,rfl,rfl,hS6,hI,hnn⟩
 have h1ov:ov9.oneCell'=true:=hS6.own_one 0 Qa
 have hrg:=hI.rg
 rw[←hnn]at hrg
 have hnb:=Mu (KZ hw)
 rw[←hnn]at hnb
 have hle:=hI.le
 have hol:=hI.len
 have hoff:=Fi hI.rg
 refine Qg (Qb (Xz Qa Qa Qa (Qh (Qe (Qg (Qw Qa (fun h7=> ?_) (fun h7=> ?_)))))))
 ·have hlt:=h7
  have hlk:i<(min (Xa (Xf s)) 32).toNat:= by omega
  have hIs:=hI.step hlk
  rw[←hnn,←OJ Qa]at hIs
  refine Qr (Qe (Qg (QD (Qg ?_))))
  obtain⟨dp,cv,sv,ov,hS8⟩:=QW (hS6.pick [1,0,2] rfl)
  dsimp only[U6]at hS8
  have hS9:=hS8.drew
  refine QT [0,1,2,3,4,5,6,7,8,9,10,11,12,13,14,15,16,17,18,19,20,21,22,23,24,25,26] [23,24,25] Jk (by kernel_rfl) ?_
  refine QM Qa Qa Qa (QM Qa Qa Qa (QM Qa Qa Qa (Xw Qa Qa Qa (QQ Qa Qa Qa Re (QH Qa Qa Qa (Qn Qa QK (hS9.cell 0 Qa Qa)) (QM Qa Qa Qa (QM Qa Qa Qa (QM Qa Qa Qa (Xw Qa Qa Qa (QQ Qa Qa Qa Re (QH Qa Qa Qa (Qn Qa QK (hS9.cell 0 Qa Qa)) (QG Qa Qa Qa (fun _=>(F6 Qa Qa (by omega) (by omega))) ?_))))))))))))
  refine QM Qa Qa Qa (QG Qa Qa Qa (fun _=>(G9 underlying9 Qa)) ?_)
  refine QM Qa Qa Qa (Xw Qa Qa Qa (QQ Qa Qa Qa Re (QH Qa Qa Qa (Qn Qa QK (hS9.cell 0 Qa Qa)) (QG Qa Qa Qa (fun _=>(IE Qa Qa (by omega) (by omega))) ?_))))
  refine QG Qa Qa Qa (fun _=>(F6 Qa Qa (by omega) (by omega))) ?_
  refine QG Qa Qa Qa (fun _=>(Dw Qa Qa)) ?_
  refine QG Qa Qa Qa (fun _=>(V1 (200*nx).toNat (min (Xf s).length ((200*nx).toNat+200)) underlying9 Qa (HP (200*nx).toNat _ Qa (by omega)) (HP (min (Xf s).length ((200*nx).toNat+200)) _ Qa (by omega)) (by omega) (by omega))) ?_
  have hS10:=Qu (E:={E with next:=nx}) (hS9.pick [0,1,2,3,4,5,6] Qa)
  refine Xb Qa Qa Qa Qa Qa Qa ?_
  refine Q4 WY Qa (WX (hS10.sp [0] Qa) (hG.starL 1 Qa) (k:=1) (a:=nx) (b:=nn) (s:=(((Xf s).take (min (Xf s).length ((200*nx).toNat+200))).drop (200*nx).toNat)) ⟨XJ (k:=1) (by decide),hmv, by show Xy nx;unfold Xy;omega, by show Xy nn;unfold Xy;omega, by show(List.drop _ (List.take _ _)).length≤_; rw[List.length_drop,List.length_take];omega⟩) Qa ?_
  rintro _ w11 ⟨rfl,hS11⟩
  replace hS11:=hS11.jn Qa Qa
  refine Xn (XC (by kernel_rfl)) ?_
  refine Xb Qa Qa Qa Qa Qa Qa ?_
  refine Xc Z4 [Ze E 1 nx nn (((Xf s).take (min (Xf s).length ((200*nx).toNat+200))).drop (200*nx).toNat)] hS11 Qa underlying66 JZ Qa Qa Qa Qa (by rfl) rfl ?_
  intro b12 w12 hS12
  refine Xn (XC (by kernel_rfl)) ?_
  refine Xb Qa Qa Qa Qa Qa Qa ?_
  refine XV Z4 2 hS12 Qa Qa Qa (hS12.rd 0 Qa (by simp)) underlying66 underlying66 (by intro k hk; cases hk) UH Qa (by simp only[List.length_cons,List.length_nil];omega) Qa (by simp only[List.length_cons,List.length_nil];omega) ?_
  intro v13 w13 hS13; dsimp only[List.set]at hS13
  have h1v13:v13.oneCell'=true:=hS13.own_one 2 Qa
  refine Xn (XC (by kernel_rfl)) ?_
  refine Jr Qa Qa Qa (VC.nil (Qe (Qk [23,22,4,3,0,5] Qa ?_)))
  obtain⟨dp,cv,sv,ov,hS14⟩:=QW (hS13.pick [1,0,2,3] rfl)
  dsimp only[U6]at hS14
  refine Qb (Qd Qa Qa (Qd Qa Qa (Ql Qa Qa (Qi Qa Re Qa (Qp Qa QK (hS14.cell 0 Qa Qa) Qa (Xq Qa Qa (by omega) (by omega) Qa ?_))))))
  refine Qd Qa Qa (SF Qa Qa (by omega) (by omega) Qa ?_)
  refine Ql Qa Qa (Qi Qa Re Qa ?_)
  first | (refine QC hS14 Qa Qa YH (by rfl) (i:=0) Qa (Xe Qa) ?_)
  intro w15 hS16; dsimp only[List.set]at hS16
  refine Qh ?_
  have hS17:=Qu (E:={E with next:=(nx+1)%nn}) (hS16.pick [0,1,2,3,4,5,6,7] Qa)
  refine Qq (Qe (Qk [23,22,4,3,0,5] Qa (Qb (Xq Qa Qa (by omega) (by omega) Qa ?_))))
  refine Qd Qa Qa (Qh ?_)
  exact QY (L1:=[(0,_),(3,_),(4,_),(5,_),(22,_),(23,intV ((i+1:Nat):Int))]) (Dc Qa Qa Qa Qa Qa Qa) (k1:=(min (Xa (Xf s)) 32).toNat -(i+1)) (by omega) ⟨i+1,(nx+1)%nn,_,_,nn,rfl,rfl,hS17.pick [2,0,3] Qa,(by rw[←hnn]; exact hIs),hnn⟩
 have hge:=h7
 refine Xu (Q1 (Q1 (QJ (Qe (Qg (Qb (Qd Qa Qa (Qc Qa Qa (Qh (Qe (Qo (Q7 (.inr Qa) Qa Qa ?_))))))))))))
 have hz:=hI.fin (by omega)
 exact⟨_,rfl, by rw[if_neg hfr,if_neg hfr,hz]; exact hS6.pick [0,1,2] Qa⟩
