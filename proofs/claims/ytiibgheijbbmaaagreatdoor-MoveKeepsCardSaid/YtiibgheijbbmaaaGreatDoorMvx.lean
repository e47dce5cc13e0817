/- move: parse -/
import Derived.Test.YtiibgheijbbmaaaGreatDoorMvv
set_option linter.unusedVariables false
set_option maxRecDepth 100000
set_option maxHeartbeats 100000000000
namespace Go.Proofs.YtiibgheijbbmaaaGreatDoor
open Go.RowKit M Proofs.Tryz
abbrev pz0 (l:Bs):Bs×Bool:=Zd 59 0 (Uj (l,false))
abbrev pcnt (l:Bs):Int:=min (Zg 59 0 (Uj (l,false))) 8193
theorem TE {α:Type} {P:AL α} {k:Int} {x:α} (h: ∀e∈P,e.1<k):XO k x P=P++[(k,x)]:= by
  induction P with
  | nil=>rfl
  | cons e P ih=>
    unfold XO
    rw[if_pos (h e List.mem_cons_self),ih fun f hf=>h f (List.mem_cons_of_mem _ hf)]
    rfl
theorem Pe {P:AL PgD} {k:Int} {x:PgD} (hs:Srt P) (h: ∀e∈P,e.1<k):upd (Yc P) k (some (Rk x))=Yc (P++[(k,x)]):= by rw[HX hs,TE h]
structure PrsI (l:Bs) (i:Nat) (z:Bs×Bool) (last:Int) (P:AL PgD):Prop where
  le:(i:Int)≤pcnt l
  len:P.length=i
  srt:Srt P
  lt: ∀e∈P,e.1≤last
  pg: ∀e∈P,X5 e.1∧X5 e.2.ver∧X5 e.2.sent∧e.2.data.length≤64
  rest:Un (pcnt l).toNat (pz0 l) 0=(Un ((pcnt l).toNat -i) z last).map (P++ ·)
  zl:z.1.length≤l.length
section
variable {l:Bs} {i:Nat} {z:Bs×Bool} {last:Int} {P:AL PgD}
theorem Lc:0≤pcnt l:= by have :=Lg 59 (Uj (l,false)); show 0≤min (Zg 59 0 (Uj (l,false))) 8193;omega
theorem pcnt_le:pcnt l≤8193:= by show min (Zg 59 0 (Uj (l,false))) 8193≤8193;omega
theorem PrsI.start:PrsI l 0 (pz0 l) 0 []:= by
  refine⟨Lc,rfl,List.Pairwise.nil, fun e q=>(by cases q), fun e q=>(by cases q), ?_, ?_⟩
  · rw[Nat.sub_zero]
    cases Un (pcnt l).toNat (pz0 l) 0<;>rfl
  · exact Nat.le_trans (XI _ _ _) (NF _)
theorem PrsI.bad (h:PrsI l i z last P) (hi:(i:Int)<pcnt l) (hb:Zg 59 (-9223372036854775808:Int) z≤last∨1099511627776<Zg 59 (-9223372036854775808:Int) z∨Zg 59 (-9223372036854775808:Int) (Zd 59 (-9223372036854775808:Int) z)<1):WA l=(none,false):= by
  have e:(pcnt l).toNat -i=((pcnt l).toNat -(i+1))+1:= by omega
  have hn:Un (pcnt l).toNat (pz0 l) 0=none:= by
    rw[h.rest,e]
    unfold Un
    rw[if_pos hb];rfl
  unfold WA
  rw[show Un (min (Zg 59 0 (Uj (l,false))) 8193).toNat (Zd 59 0 (Uj (l,false))) 0=none from hn]
theorem PrsI.next (h:PrsI l i z last P) (hi:(i:Int)<pcnt l) (hb: ¬(Zg 59 (-9223372036854775808:Int) z≤last∨1099511627776<Zg 59 (-9223372036854775808:Int) z∨Zg 59 (-9223372036854775808:Int) (Zd 59 (-9223372036854775808:Int) z)<1)):PrsI l (i+1) (Zd 59 (-9223372036854775808:Int) (Zd 59 (-9223372036854775808:Int) z)) (Zg 59 (-9223372036854775808:Int) z) (P++[(Zg 59 (-9223372036854775808:Int) z,⟨[],Zg 59 (-9223372036854775808:Int) (Zd 59 (-9223372036854775808:Int) z),0,true⟩)]):= by
  have e:(pcnt l).toNat -i=((pcnt l).toNat -(i+1))+1:= by omega
  have hlt: ∀f∈P,f.1<Zg 59 (-9223372036854775808:Int) z:= fun f hf=> by have :=h.lt f hf;omega
  refine⟨by omega, by rw[List.length_append,h.len];rfl, by rw[←TE hlt]; exact h.srt.put, fun f hf=> ?_, fun f hf=> ?_, ?_, ?_⟩
  · rcases List.mem_append.1 hf with q | q
    · have :=hlt f q;omega
    · rw[List.mem_singleton.1 q]; exact Int.le_refl _
  · rcases List.mem_append.1 hf with q | q
    · exact h.pg f q
    · rw[List.mem_singleton.1 q]; exact⟨Ye _ _ _,Ye _ _ _,XR, by simp⟩
  · rw[h.rest,e]
    conv=>lhs; rw[show Un ((pcnt l).toNat -(i+1)+1) z last=(Un ((pcnt l).toNat -(i+1)) (Zd 59 (-9223372036854775808:Int) (Zd 59 (-9223372036854775808:Int) z)) (Zg 59 (-9223372036854775808:Int) z)).map fun l=>(Zg 59 (-9223372036854775808:Int) z,⟨[],Zg 59 (-9223372036854775808:Int) (Zd 59 (-9223372036854775808:Int) z),0,true⟩)::l by rw[Un]; rw[if_neg hb]]
    rw[Option.map_map]
    congr 1
    funext m
    simp
  · exact Nat.le_trans (XI _ _ _) (Nat.le_trans (XI _ _ _) h.zl)
theorem Pr {k:Int} {x:PgD}:Ha (P++[(k,x)])=max (Ha P) x.ver:= by unfold Ha; rw[List.foldl_append];rfl
theorem PrsI.fin (h:PrsI l i z last P) (hi: ¬(i:Int)<pcnt l):WA l=(some ⟨V1 (l,false),Ha P,P⟩,decide ((V1 (l,false)).length≤1048576)&&decide (P.length≤8192)&&decide (Xy ⟨V1 (l,false),Ha P,P⟩=l)):= by
  have hle:=h.le
  have e:(pcnt l).toNat -i=0:= by omega
  have hn:Un (pcnt l).toNat (pz0 l) 0=some P:= by
    rw[h.rest,e];unfold Un; simp
  unfold WA
  rw[show Un (min (Zg 59 0 (Uj (l,false))) 8193).toNat (Zd 59 0 (Uj (l,false))) 0=some P from hn]
theorem PrsI.ver (h:PrsI l i z last P):X5 (Ha P):=TL fun e he=>(h.pg e he).2.1
end
theorem Ph {w:World} {F:Th} (hS:Sat w [F]) (hG:Ent F WireG) (l:Bs) (hll:l.length≤20000000):
    Calls prog 106 #[strV l] w (Ret fun v w'=>(WA l=(none,false)∧v= .tuple #[.pointer none,.bool false]∧Sat w' [F])∨(∃sb sm s g,WA l=(some s,g)∧v= .tuple #[ptrV sb 0,.bool g]∧Sat w' [QR sb [strV s.state,intV s.count,.map (some sm)],XE XY sm (Yc s.pages),F])):= by
 refine Qx func106 Qa ntmps106 Qa ?_
 have htl:=NF (l,false)
 dsimp only at htl
 refine Qg (Qb (Qc Qa Qa (Qc Qa Qa (Qh (Qd (Qg (Qb (Qe Qa Qa (Qz F8 Qa (DG (hS.sp [] Qa) l) Qa ?_)))))))))
 rintro _ w1 ⟨rb,rfl,hS1⟩
 replace hS1:=hS1.jn Qa Qa
 refine Qc Qa Qa (Qh (Qd (Qg (Qb (Qe Qa Qa ?_)))))
 refine Qz I4 Qa (Pa (hS1.sp [0] Qa) (hG.starL 0 Qa) (by show l.length≤_;omega)) Qa ?_
 rintro _ w2 ⟨rfl,hS2⟩
 replace hS2:=hS2.jn Qa Qa
 refine W7 XY hS2 Qa ?_
 intro sm w3 hS3
 refine JB (vs':=[strV (V1 (l,false)),intV 0,.map (some sm)]) Qa Ep N3 FM Qa Qa Qa (XT hS3 Qa Qa Qa ?_)
 intro sb w4 hS4
 refine Qc Qa Qa (Qh (Qd (Qk [0,2,3,4,5] Qa (Qg (Qb (Qc Qa Qa (Qh (Qd (Qg (Qg (Qb (Qe Qa Qa (Qz cal_127 Qa (rNum_sp (hS4.sp [2] Qa) (hG.starL 2 Qa) (by omega)) Qa ?_)))))))))))))
 rintro _ w5 ⟨rfl,hS5⟩
 replace hS5:=hS5.jn Qa Qa
 refine U7 Qa Qa Qa (Qe Qa Qa (Qh (Qd (QD (X8 (fun K0 E0 W0=> ∃(i:Nat) (z:Bs×Bool) (last:Int) (P:AL PgD),K0=(pcnt l).toNat -i∧E0=[(0,strV l),(4,ptrV rb 0),(5,ptrV sb 0),(6,intV last),(18,intV (pcnt l)),(19,intV (i:Int))]∧Sat W0 [UD rb z,QR sb [strV (V1 (l,false)),intV (Ha P),.map (some sm)],XE XY sm (Yc P),F]∧(PrsI l i z last P)) (L0:=[(0,_),(4,_),(5,_),(6,_),(18,_),(19,_)]) ((pcnt l).toNat -0) (RM Qa Qa Qa Qa Qa Qa) ⟨0,pz0 l,0,[],rfl,rfl,hS5.pick [0,1,2,3] Qa,PrsI.start⟩ ?_)))))
 rintro _ _ w6 ⟨i,z,last,P,rfl,rfl,hS6,hP⟩
 have hzl:=hP.zl
 have hpn:=Lc (l:=l)
 have hpl:=pcnt_le (l:=l)
 have hple:=hP.le
 refine Qg (Qb (X0 Qa Qa Qa (Qh (Qd (Qg (Qt Qa (fun h7=> ?_) (fun h7=> ?_)))))))
 ·have hlt:(i:Int)<pcnt l:=h7
  refine Qr (Qd (Qg (QD (Qg (Qb (Qe Qa Qa (Qz Kt Qa (UE (hS6.sp [0] Qa) (hG.starL 2 Qa) (by omega)) Qa ?_)))))))
  rintro _ w8 ⟨rfl,hS8⟩
  replace hS8:=hS8.jn Qa Qa
  refine Qe Qa Qa ?_
  refine Qz Kt Qa (UE (hS8.sp [0] Qa) (hG.starL 2 Qa) (by have :=XI 59 (-9223372036854775808:Int) z;omega)) Qa ?_
  rintro _ w9 ⟨rfl,hS9⟩
  replace hS9:=hS9.jn Qa Qa
  refine Qc Qa Qa (Qc Qa Qa (Qh (Qd (Qk [19,18,6,5,4,0,7,8] Qa (Qg (Qg (Qb (Qe Qa Qa (Qe Qa Qa (W8 Qa Qa Qa (Qe Qa Qa (Q4 28 Qa (fun h10=> ?_) (fun h10=> ?_)))))))))))))
  ·exact Qf Qa Qa (Q8 h10) Qa (Qf Qa Qa (Q8 h10) Qa (Q0 Qa (Q8 h10) Qa Qa (Qe Qa Qa (Qf Qa Qa Qa Qa (Qf Qa Qa Qa Qa (Q0 Qa Qa Qa Qa (Qh (Qd (Qk [19,18,6,5,4,0,7,8,35] Qa (QO Qa (Qg (Qb (Qc Qa Qa (Qc Qa Qa (Qh (Qd (Qo (Qm (Qy (Qm (Qm (Qy (Qm (ZG (.inr Qa) Qa Qa Qa (⟨_,rfl,.inl ⟨hP.bad hlt (by omega),rfl,hS9.pick [3] Qa⟩⟩)))))))))))))))))))))))))
  refine Qj Qa Qa (Qw h10) (Qe Qa Qa (Qj Qa Qa (Qw h10) (Wl Qa Qa Qa (Q1 Qa (Qw h10) Qa Qa (Qe Qa Qa (Q4 32 Qa (fun h11=> ?_) (fun h11=> ?_)))))))
  ·exact Qf Qa Qa (Q8 h11) Qa (Qf Qa Qa (Q8 h11) Qa (Q0 Qa (Q8 h11) Qa Qa (Qh (Qd (Qk [19,18,6,5,4,0,7,8,35] Qa (QO Qa (Qg (Qb (Qc Qa Qa (Qc Qa Qa (Qh (Qd (Qo (Qm (Qy (Qm (Qm (Qy (Qm (ZG (.inr Qa) Qa Qa Qa (⟨_,rfl,.inl ⟨hP.bad hlt (by omega),rfl,hS9.pick [3] Qa⟩⟩)))))))))))))))))))))
  refine Qj Qa Qa (Qw h11) (Qe Qa Qa (Qj Qa Qa (Qw h11) (X0 Qa Qa Qa (Q1 Qa (Qw h11) Qa Qa (Qh (Qd (Qk [19,18,6,5,4,0,7,8,35] Qa (Qt Qa (fun h12=> ?_) (fun h12=> ?_)))))))))
  ·have hbad:Zg 59 (-9223372036854775808:Int) z≤last∨1099511627776<Zg 59 (-9223372036854775808:Int) z∨Zg 59 (-9223372036854775808:Int) (Zd 59 (-9223372036854775808:Int) z)<1:= by first | omega | simp_all
   exact Qg (Qb (Qc Qa Qa (Qc Qa Qa (Qh (Qd (Qo (Qm (Qy (Qm (Qm (Qy (Qm (ZG (.inr Qa) Qa Qa Qa (⟨_,rfl,.inl ⟨hP.bad hlt (by omega),rfl,hS9.pick [3] Qa⟩⟩))))))))))))))
  have hok: ¬(Zg 59 (-9223372036854775808:Int) z≤last∨1099511627776<Zg 59 (-9223372036854775808:Int) z∨Zg 59 (-9223372036854775808:Int) (Zd 59 (-9223372036854775808:Int) z)<1):= by omega
  refine Qr (Qd (Qg (Qb (Qe Qa Qa (Qc Qa Qa (Qh (Qd (Qg (Qb (Qe Qa Qa (Ql Qa Qa (Qi Qa ZF Qa (Qq Qa ZX (hS9.cell 1 Qa Qa) Qa (Qe Qa Qa (Qe Qa Qa (Zi Qa Eo U1 Wc Qa Qa (Ze (k:=Zg 59 (-9223372036854775808:Int) z) (v:=Rk ⟨[],Zg 59 (-9223372036854775808:Int) (Zd 59 (-9223372036854775808:Int) z),0,true⟩) 2 hS9 keysInt underlying89 Qa Qa Qa Qa ?_)))))))))))))))))
  intro w13 hS13; dsimp only[List.set]at hS13; rw[Pe hP.srt (fun e he=> by have :=hP.lt e he;omega)]at hS13
  refine Qh (Qd (Qk [19,18,5,4,0,8,6] Qa (Qb (Qe Qa Qa (Qe Qa Qa (Ql Qa Qa (Qi Qa UL Qa (Qq Qa QF (hS13.cell 1 Qa Qa) Qa (Qe Qa Qa (Dj Qa Qa Qa (Ql Qa Qa (Qi Qa UL Qa ?_))))))))))))
  first | (refine Q7 hS13 Qa Qa Ya (by rfl) (i:=1) Qa (Xd Qa) ?_)
  intro w14 hS15; dsimp only[List.set]at hS15
  refine Qh (Qp (Qd (Qk [19,18,5,4,0,6] Qa (Qb (Xx Qa Qa (by omega) (by omega) Qa ?_)))))
  refine Qe Qa Qa (Qh ?_)
  exact Xa (L1:=[(0,_),(4,_),(5,_),(6,intV (Zg 59 (-9223372036854775808:Int) z)),(18,_),(19,intV ((i+1:Nat):Int))]) (RM Qa Qa Qa Qa Qa Qa) (k1:=(pcnt l).toNat -(i+1)) (by omega) ⟨i+1,_,_,_,rfl,rfl,(by rw[Pr]; exact hS15.pick [0,1,2,3] Qa),hP.next hlt hok⟩
 have hge: ¬(i:Int)<pcnt l:=h7
 refine Xq (Q2 (Q2 (QH (Qd (Qg (Qb (Qe Qa Qa (Qe Qa Qa (Ql Qa Qa (Qi Qa Gs Qa (Qq Qa Zr (hS6.cell 1 Qa Qa) Qa (Zu underlying9 Qa Qa (W8 Qa Qa Qa (Qe Qa Qa (Q4 61 Qa (fun h16=> ?_) (fun h16=> ?_))))))))))))))))
 ·refine Qj Qa Qa (Q8 h16) (Qe Qa Qa (Qj Qa Qa (Q8 h16) (Ql Qa Qa (Qj Qa Qa (Q8 h16) (Qi Qa ZF Qa (Qj Qa Qa (Q8 h16) (Qq Qa ZX (hS6.cell 1 Qa Qa) Qa (Qj Qa Qa (Q8 h16) (Cj 2 hS6 underlying89 keysInt.inj Qa Qa Qa (fun mm hmm=> ?_))))))))))
  obtain rfl:=hmm.uniq (C8 hP.srt)
  refine Qj Qa Qa (Q8 h16) (W8 Qa Qa Qa (Q0 Qa (Q8 h16) Qa Qa (Qe Qa Qa (Q4 69 Qa (fun h17=> ?_) (fun h17=> ?_)))))
  ·refine Qj Qa Qa (Q8 h17) (Qe Qa Qa (Qj Qa Qa (Q8 h17) ?_))
   refine Qz Iz Qa (Lm (s:=⟨V1 (l,false),Ha P,P⟩) (hS6.sp [1,2] Qa) (hG.starL 1 Qa) ⟨hP.srt,(by show P.length≤8192;omega),(by show(V1 (l,false)).length≤1048576;omega),hP.ver,hP.pg⟩) Qa ?_
   rintro _ w18 ⟨rfl,hS18⟩
   replace hS18:=hS18.jn Qa Qa
   refine Qj Qa Qa (Q8 h17) (Qe Qa Qa (Qj Qa Qa (Q8 h17) (Kz Qa Qa Qa (Q0 Qa (Q8 h17) Qa Qa (Qc Qa Qa (Qc Qa Qa (Qh (Qd (Qk [2,3] Qa (Qo (ZG (.inr Qa) Qa Qa Qa ?_)))))))))))
   exact⟨_,rfl,.inr ⟨sb,sm,_,_,hP.fin hge,(by(congr 3; simp;omega)),hS18.pick [0,1,3] Qa⟩⟩
  refine Qf Qa Qa (Qw h17) Qa (Qf Qa Qa (Qw h17) Qa (Qf Qa Qa (Qw h17) Qa (Qf Qa Qa (Qw h17) Qa (Q1 Qa (Qw h17) Qa Qa (Qc Qa Qa (Qc Qa Qa (Qh (Qd (Qk [2,3] Qa (Qo (ZG (.inr Qa) Qa Qa Qa ?_)))))))))))
  exact⟨_,rfl,.inr ⟨sb,sm,_,_,hP.fin hge,(by(congr 3; simp;omega)),hS6.pick [1,2,3] Qa⟩⟩
 refine Qf Qa Qa (Qw h16) Qa (Qf Qa Qa (Qw h16) Qa (Qf Qa Qa (Qw h16) Qa (Qf Qa Qa (Qw h16) Qa (Qf Qa Qa (Qw h16) Qa (Qf Qa Qa (Qw h16) Qa (Q1 Qa (Qw h16) Qa Qa (Qe Qa Qa (Qf Qa Qa Qa Qa (Qf Qa Qa Qa Qa (Qf Qa Qa Qa Qa (Qf Qa Qa Qa Qa (Q1 Qa Qa Qa Qa (Qc Qa Qa (Qc Qa Qa (Qh (Qd (Qk [2,3] Qa (Qo (ZG (.inr Qa) Qa Qa Qa ?_)))))))))))))))))))
 exact⟨_,rfl,.inr ⟨sb,sm,_,_,hP.fin hge,(by(congr 3; simp;omega)),hS6.pick [1,2,3] Qa⟩⟩
structure PushI (E:EnD) (l:AL PgD) (i:Nat) (D:AL PgD) (out:List Bs) (k:Nat):Prop where
  eq:pushG E 4 l=(D++(pushG E k (l.drop i)).1,out++(pushG E k (l.drop i)).2)
  cnt:out.length+k=4
  ids:Zy D=Zy (l.take i)
section
variable {E:EnD} {l D:AL PgD} {i k:Nat} {out:List Bs} {y:Int×PgD}
theorem PushI.start:PushI E l 0 [] [] 4:=⟨by rw[List.drop_zero];rfl,rfl,rfl⟩
theorem PushI.srt (h:PushI E l i D out k) (hs:Srt l):Srt (D++l.drop i):= by
  unfold Srt at *
  have :Zy (D++l.drop i)=Zy l:= by
    have h1:=h.ids
    unfold Zy at *
    rw[List.map_append,h1,←List.map_append,List.take_append_drop]
  rw[this]; exact hs
theorem VG (hy:l[i]? =some y):l.drop i=y::l.drop (i+1):= by
  obtain⟨hi,rfl⟩:=Jh hy
  exact List.drop_eq_getElem_cons hi
theorem P1 (h:Zy D=Zy (l.take i)) (hy:l[i]? =some y) {p:PgD}:Zy (D++[(y.1,p)])=Zy (l.take (i+1)):= by
  unfold Zy at *
  rw[List.take_add_one,hy,List.map_append,List.map_append,h];rfl
theorem PushI.skip (h:PushI E l i D out k) (hy:l[i]? =some y) (hv:y.2.ver=y.2.sent):PushI E l (i+1) (D++[y]) out k:= by
  refine⟨?_,h.cnt,P1 h.ids hy⟩
  rw[h.eq,VG hy]
  have :pushG E k (y::l.drop (i+1))=(y::(pushG E k (l.drop (i+1))).1,(pushG E k (l.drop (i+1))).2):= by rw[pushG.eq_def]; dsimp only; rw[if_pos hv]
  rw[this]; simp
theorem PushI.push (h:PushI E l i D out (k+1)) (hy:l[i]? =some y) (hv:y.2.ver≠y.2.sent):PushI E l (i+1) (D++[(y.1,{y.2 with sent:=y.2.ver})]) (out++[Zk E 0 y.1 y.2.ver y.2.data]) k:= by
  refine⟨?_, by have :=h.cnt; rw[List.length_append]; show out.length+1+k=4;omega,P1 h.ids hy⟩
  rw[h.eq,VG hy]
  have :pushG E (k+1) (y::l.drop (i+1))=((y.1,{y.2 with sent:=y.2.ver})::(pushG E k (l.drop (i+1))).1,Zk E 0 y.1 y.2.ver y.2.data::(pushG E k (l.drop (i+1))).2):= by rw[pushG.eq_def]; dsimp only; rw[if_neg hv]
  rw[this]; simp
theorem PushI.stop (h:PushI E l i D out 0) (hy:l[i]? =some y) (hv:y.2.ver≠y.2.sent):pushG E 4 l=(D++l.drop i,out):= by
  rw[h.eq,VG hy]
  have :pushG E 0 (y::l.drop (i+1))=(y::l.drop (i+1),[]):= by rw[pushG.eq_def]; dsimp only; rw[if_neg hv]
  rw[this]; simp
theorem PushI.fin (h:PushI E l i D out k) (hi:l.length≤i):pushG E 4 l=(D++l.drop i,out):= by
  rw[h.eq,List.drop_eq_nil_of_le hi]
  have :pushG E k []=([],[]):= by rw[pushG.eq_def]
  rw[this]; simp
theorem Pb {k:Int} {x p:PgD} {R:AL PgD}: ∀{D:AL PgD},(∀e∈D,e.1<k)→XO k x (D++(k,p)::R)=D++(k,x)::R
  | [],_=> by
    show XO k x ((k,p)::R)=_
    unfold XO
    rw[if_neg (by show ¬k<k;omega),if_pos Qa];rfl
  | e::D,h=> by
    show XO k x (e::(D++(k,p)::R))=_
    unfold XO
    rw[if_pos (h e List.mem_cons_self),Pb fun f hf=>h f (List.mem_cons_of_mem _ hf)];rfl
theorem srt_app {R:AL PgD} (hs:Srt (D++y::R)): ∀e∈D,e.1<y.1:= fun e he=> by
  unfold Srt Zy at hs
  rw[List.map_append]at hs
  exact(List.pairwise_append.1 hs).2.2 e.1 (List.mem_map.2 ⟨e,he,rfl⟩) y.1 (by simp)
theorem pgG_mid {R:AL PgD} (hs:Srt (D++y::R)):(Yc (D++y::R) y.1).getD (.agg #[strV [],intV 0,intV 0,.bool false])=Rk y.2:= by
  unfold Yc; rw[H1 hs (x:=y.2) (by simp)];rfl
theorem SX {R:AL PgD} (hs:Srt (D++y::R)) (x:PgD):upd (Yc (D++y::R)) y.1 (some (Rk x))=Yc (D++[(y.1,x)]++R):= by
  rw[HX hs, show D++y::R=D++(y.1,y.2)::R from rfl,Pb (srt_app hs)]; simp
end
theorem HW {w:World} {e:Nat} {E:EnD} {F:Th} (hS:Sat w [Xu e E,F]) (hG:Ent F WireG) {s:SeD} (hs:E.ses=some s) (hw:SeW s) (hmv:X5 E.move):
    Calls prog 65 #[ptrV e 0] w (Ret fun v w'=>Sat w' [rowT Z2 v (pushG E 4 s.pages).2,Xu e {E with ses:=some {s with pages:=(pushG E 4 s.pages).1}},F]):= by
 refine Qx func65 Qa ntmps65 Qa ?_
 have hnm:=hw.num
 refine Qg (Qb (Qc Qa Qa (Qh (Qd (Qg (Qb (Qc Qa Qa (Qh (Qd (Qg (Qg ?_)))))))))))
 obtain⟨dp,cv,sv,ov,hS1⟩:=QQ (hS.pick [0,1] rfl)
 rw[hs]at hS1
 obtain⟨sb,sm,rfl,hS2⟩:=Zj (hS1.pick [3,0,1,2,4,5] rfl)
 refine Qb (Qe Qa Qa (Ql Qa Qa (Qi Qa Xo Qa (Qq Qa Z3 (hS2.cell 2 Qa Qa) Qa ?_))))
 refine Qz Nq Qa (CL (hS2.sp [0,1] Qa) hw.srt (by have :=hw.num;omega)) Qa ?_
 rintro _ w3 hS3
 replace hS3:=hS3.jn Qa Qa
 have h1v:=hS3.own_one 0 Qa
 obtain⟨ao,cap,hv4,_⟩:=hS3.own_shape 0 rfl
 obtain rfl:=hv4
 refine Xi underlying33 Qa Qa (Qe Qa Qa (Qh (Qd (QD ?_))))
 have hS5:=Qv (E:={E with ses:=some s}) ((Xf (s:=s) (hS3.pick [1,2,3,4,5,6,0,7] Qa)).reorder [1,2,3,0,4,5,6] Qa)
 have hS6:=Sat.row_nil Z2 hS5
 have hS6b:Sat _ (_::Xu e {E with ses:=some {s with pages:=[]++s.pages.drop 0}}::_):=hS6
 refine X8 (fun K0 E0 W0=> ∃(i:Nat) (D:AL PgD) (out:List Bs) (ov9:Value) (k:Nat),K0=s.pages.length -i∧E0=[(0,ptrV e 0),(3,ov9),(11,.slice ao (Zy s.pages).length cap),(12,intV ((Zy s.pages).length:Int)),(13,intV (i:Int))]∧Sat W0 [rowT Z2 ov9 out,rowT inC (.slice ao (Zy s.pages).length cap) (Zy s.pages),Xu e {E with ses:=some {s with pages:=D++s.pages.drop i}},F]∧(i≤s.pages.length)∧(PushI E s.pages i D out k)) (L0:=[(0,_),(3,_),(11,_),(12,_),(13,_)]) (s.pages.length -0) (Di Qa Qa Qa Qa Qa) ⟨0,[],[],_,4,rfl,rfl,hS6b.pick [0,2,1,3] Qa, by omega,PushI.start⟩ ?_
 rintro _ _ w7 ⟨i,D,out,ov9,k,rfl,rfl,hS7,hi,hI⟩
 have h1ov:ov9.oneCell'=true:=hS7.own_one 0 Qa
 have hkc:=hI.cnt
 refine Qg (Qb (X0 Qa Qa Qa (Qh (Qd (Qg (Qt Qa (fun h8=> ?_) (fun h8=> ?_)))))))
 ·rw[KK]at h8
  obtain⟨y,hy⟩: ∃y,s.pages[i]? =some y:=⟨_,WB (by omega)⟩
  have hyi:=Ff hy
  have hyp:=hw.pg y (List.mem_of_getElem? hy)
  refine Qr (Qd (Qg (QD (Qg (Qb (ZP inC 1 i hS7 Qa Qa Qa (by first | rfl | omega) hyi Uv Qa ?_))))))
  intro bx9 capx9 hvx9
  refine ZT 1 i 0 hS7 Qa hvx9 Qa Qa hyi QF Qa Qa (Qc Qa Qa (Qh (Qd (Qg ?_))))
  obtain⟨dp,cv,sv,ov,hS10⟩:=QQ (hS7.pick [2,0,1,3] rfl)
  dsimp only at hS10
  obtain⟨sb,sm,rfl,hS11⟩:=Zj (hS10.pick [3,0,1,2,4,5,6,7] rfl)
  dsimp only at hS11
  have hsr:=hI.srt hw.srt
  rw[VG hy]at hsr hS11
  refine Qb (Qe Qa Qa (Ql Qa Qa (Qi Qa Xo Qa (Qq Qa Z3 (hS11.cell 2 Qa Qa) Qa (Ql Qa Qa (Qi Qa ZF Qa (Qq Qa ZX (hS11.cell 0 Qa Qa) Qa (Qe Qa Qa (Hp (k:=y.1) 1 hS11 keysInt underlying89 Qa Qa Qa Wc (pgG_mid hsr) Qa (Xl hS11 Wc Qa Qa ?_))))))))))
  intro b12 w12 hS12
  (refine QZ hS12 Qa Qa Vf Qa (by rfl) (i:=0) Qa (by decide) ?_)
  intro w13 hS14; dsimp only[List.set]at hS14
  refine Qh (Qd (Qk [13,12,11,3,0,5,6] Qa (Qg (Qg (Qb (Qi Qa UK Qa (Qq Qa QF (hS14.cell 0 Qa Qa) Qa (Qi Qa Gr Qa (Qq Qa QF (hS14.cell 0 Qa Qa) Qa (QL Qa Qa Qa (Qh (Qd (Qk [13,12,11,3,0,5,6,30] Qa (Qt Qa (fun h15=> ?_) (fun h15=> ?_)))))))))))))))
  ·have hvs:y.2.ver=y.2.sent:=h15
   have hS16:=Qv (E:={E with ses:=some {s with pages:=D++y::s.pages.drop (i+1)}}) ((Xf (s:={s with pages:=D++y::s.pages.drop (i+1)}) (hS14.pick [1,2,3,4,5,6,0,7,8,9] Qa)).reorder [1,2,3,0,4,5,6,7,8] Qa)
   rw[←VG hy]at hS16
   refine Xq (Q2 (QH (Qd (Qb (Xx Qa Qa (by omega) (by omega) Qa ?_)))))
   refine Qe Qa Qa (Qh ?_)
   exact Xa (L1:=[(0,_),(3,_),(11,_),(12,_),(13,intV ((i+1:Nat):Int))]) (Di Qa Qa Qa Qa Qa) (k1:=s.pages.length -(i+1)) (by omega) ⟨i+1,_,_,_,_,rfl,rfl,(by have hz:=hS16.pick [2,3,0,4] Qa; rw[VG hy, show D++y::s.pages.drop (i+1)=D++[y]++s.pages.drop (i+1) by simp]at hz; exact hz), by omega,hI.skip hy hvs⟩
  have hvs:y.2.ver≠y.2.sent:=h15
  refine Qr (Qd (Qg (Qg (Qb (Qe Qa Qa ?_)))))
  first | refine Xi underlying66 Qa Qa ?_ | refine Xs 6 hS14 underlying66 Qa Qa Qa ?_ | refine Xs 7 hS14 underlying66 Qa Qa Qa ?_ | refine Xs 8 hS14 underlying66 Qa Qa Qa ?_
  refine QL Qa Qa Qa (Qh (Qd (Qk [13,12,11,3,0,5,6,33] Qa (Qt Qa (fun h17=> ?_) (fun h17=> ?_)))))
  ·have hk0:k=0:= by have :=h17;omega
   subst hk0
   have hS18:=Qv (E:={E with ses:=some {s with pages:=D++y::s.pages.drop (i+1)}}) ((Xf (s:={s with pages:=D++y::s.pages.drop (i+1)}) (hS14.pick [1,2,3,4,5,6,0,7,8,9] Qa)).reorder [1,2,3,0,4,5,6,7,8] Qa)
   rw[←VG hy]at hS18
   refine Xq (Q2 (Tg Qa (Q2 (Q2 (QH (Qd (Qg (Qb (Qe Qa Qa (Qc Qa Qa (Qh (Qd (Qo (Q5 (.inr Qa) Qa Qa ?_))))))))))))))
   have hz:=hI.stop hy hvs
   exact⟨_,rfl, by rw[hz]; exact hS18.pick [2,0,4] Qa⟩
  obtain⟨k,rfl⟩: ∃q,k=q+1:=⟨k -1, by have :=h17;omega⟩
  refine Qr (Qd (Qg (Qb (Qe Qa Qa (Qe Qa Qa (Qe Qa Qa (Qi Qa UK Qa (Qq Qa QF (hS14.cell 0 Qa Qa) Qa (Qi Qa KN Qa (Qq Qa Zr (hS14.cell 0 Qa Qa) Qa ?_))))))))))
  have hS19:=Qv (E:={E with ses:=some {s with pages:=D++y::s.pages.drop (i+1)}}) ((Xf (s:={s with pages:=D++y::s.pages.drop (i+1)}) (hS14.pick [1,2,3,4,5,6,0,7,8,9] Qa)).reorder [1,2,3,0,4,5,6,7,8] Qa)
  refine Qz Ja Qa (WZ (hS19.sp [0] Qa) (hG.starL 3 Qa) (k:=0) (a:=y.1) (b:=y.2.ver) (s:=y.2.data) ⟨XM (k:=0) (by decide),hmv,hyp.1,hyp.2.1, by show y.2.data.length≤_;omega⟩) Qa ?_
  rintro _ w20 ⟨rfl,hS20⟩
  replace hS20:=hS20.jn Qa Qa
  refine Xc Z2 [Zk E 0 y.1 y.2.ver y.2.data] hS20 Qa underlying66 JP Qa Qa Qa Qa (by rfl) rfl ?_
  intro b21 w21 hS21
  refine XP Z2 3 hS21 Qa Qa Qa (hS21.rd 0 Qa (by simp)) underlying66 underlying66 (by intro k hk; cases hk) UI Qa (by simp only[List.length_cons,List.length_nil];omega) Qa (by simp only[List.length_cons,List.length_nil];omega) ?_
  intro v22 w22 hS22; dsimp only[List.set]at hS22
  have h1v22:v22.oneCell'=true:=hS22.own_one 3 Qa
  refine Qc Qa Qa (Qh (Qd (Qk [13,12,11,0,5,6,3] Qa (Qg (Qb (Qi Qa UK Qa (Qq Qa QF (hS22.cell 2 Qa Qa) Qa (Qi Qa Gr Qa ?_))))))))
  first | (refine Q7 hS22 Qa Qa Ya (by rfl) (i:=2) Qa (Xd Qa) ?_)
  intro w23 hS24; dsimp only[List.set]at hS24
  refine Qh (Qd ?_)
  obtain⟨dp,cv,sv,ov,hS25⟩:=QQ (hS24.pick [1,0,2,3,4,5] rfl)
  dsimp only at hS25
  obtain⟨sb,sm,rfl,hS26⟩:=Zj (hS25.pick [3,0,1,2,4,5,6,7,8,9] rfl)
  dsimp only at hS26
  have hS27:=hS26.drew
  refine QM [0,1,2,3,4,5,6,7,8,9] [9] Wv (by kernel_rfl) ?_
  refine QK Qa Qa Qa (Xm Qa Qa Qa (QN Qa Qa Qa Xo (Q9 Qa Qa Qa (Qn Qa Z3 (hS27.cell 2 Qa Qa)) (Xm Qa Qa Qa (QN Qa Qa Qa ZF (Q9 Qa Qa Qa (Qn Qa ZX (hS27.cell 0 Qa Qa)) (QK Qa Qa Qa (Q9 Qa Qa Qa (Ws Qa IV Vf (hS27.blk 7 Qa) (Xd Qa) Qa) (QS Qa Qa Qa Qa Qa Qa ?_)))))))))
  refine Ze (k:=y.1) (v:=Rk {y.2 with sent:=y.2.ver}) 1 hS27 keysInt underlying89 Qa Qa Qa Qa ?_
  intro w28 hS28; dsimp only[List.set]at hS28; rw[SX hsr]at hS28
  refine Z6 (Xp (by kernel_rfl)) ?_
  refine VC.nil ?_
  have hS29:=Qv (E:={E with ses:=some {s with pages:=D++[(y.1,{y.2 with sent:=y.2.ver})]++s.pages.drop (i+1)}}) ((Xf (s:={s with pages:=D++[(y.1,{y.2 with sent:=y.2.ver})]++s.pages.drop (i+1)}) (hS28.pick [0,1,2,3,4,5,6,7,8,9,10] Qa)).reorder [1,2,3,0,4,5,6,7,8,9] Qa)
  refine Qp (Qd (Qk [13,12,11,0,3] Qa (Qb (Xx Qa Qa (by omega) (by omega) Qa ?_))))
  refine Qe Qa Qa (Qh ?_)
  exact Xa (L1:=[(0,_),(3,_),(11,_),(12,_),(13,intV ((i+1:Nat):Int))]) (Di Qa Qa Qa Qa Qa) (k1:=s.pages.length -(i+1)) (by omega) ⟨i+1,_,_,_,_,rfl,rfl,(hS29.pick [3,4,0,5] Qa), by omega,hI.push hy hvs⟩
 rw[KK]at h8
 refine Xq (Q2 (Q2 (QH (Qd (Qg (Qb (Qe Qa Qa (Qc Qa Qa (Qh (Qd (Qo (Q5 (.inr Qa) Qa Qa ?_))))))))))))
 have hz:=hI.fin (by omega)
 exact⟨_,rfl, by rw[hz]; exact hS7.pick [0,2,3] Qa⟩
structure PrtI (E:EnD) (l:Bs) (n:Int) (K i:Nat) (nx:Int) (out:List Bs):Prop where
  eq:ZS E l n K E.next=((ZS E l n (K -i) nx).1,out++(ZS E l n (K -i) nx).2)
  rg:0≤nx∧nx<n
  le:i≤K
  len:out.length=i
section
variable {E:EnD} {l:Bs} {n nx:Int} {K i:Nat} {out:List Bs}
theorem PrtI.start (h:0≤E.next∧E.next<n):PrtI E l n K 0 E.next []:=⟨rfl,h, by omega,rfl⟩
theorem PrtI.step (h:PrtI E l n K i nx out) (hi:i<K):PrtI E l n K (i+1) ((nx+1)%n) (out++[Zk E 1 nx n ((l.drop (200*nx).toNat).take 200)]):= by
  have hr:=h.rg
  refine⟨?_,⟨Int.emod_nonneg _ (by omega),Int.emod_lt_of_pos _ (by omega)⟩, by omega, by rw[List.length_append,h.len];rfl⟩
  have e:K -i=(K -(i+1))+1:= by omega
  rw[h.eq,e]
  conv=>lhs; rw[ZS]
  simp
theorem PrtI.fin (h:PrtI E l n K i nx out) (hi: ¬i<K):ZS E l n K E.next=(nx,out):= by
  have e:K -i=0:= by have :=h.le;omega
  rw[h.eq,e,ZS]; simp
theorem Om {A B:Nat} (h:B=min l.length (A+200)):(l.take B).drop A=(l.drop A).take 200:= by
  subst h
  rw[List.drop_take]
  by_cases q:l.length≤A+200
  · rw[Nat.min_eq_left q,List.take_of_length_le (by rw[List.length_drop];omega),List.take_of_length_le (by rw[List.length_drop];omega)]
  · rw[Nat.min_eq_right (by omega),Nat.add_sub_cancel_left]
end
theorem Mz {l:Bs} (h:l.length≤1400000):XZ l≤7100:= by unfold XZ;omega
theorem Fa {l:Bs} {nx:Int} (h:0≤nx∧nx<XZ l):200*nx≤(l.length:Int):= by unfold XZ at h;omega
theorem HV {w:World} {e:Nat} {E:EnD} {F:Th} (hS:Sat w [Xu e E,F]) (hG:Ent F WireG) {s:SeD} (hs:E.ses=some s) (hw:SeW s) (hmv:X5 E.move) (hnx:0≤E.next∧E.next<XZ (Xy s)):
    Calls prog 66 #[ptrV e 0] w (Ret fun v w'=>Sat w' [rowT Z2 v (if E.frozen=false then[]else(ZS E (Xy s) (XZ (Xy s)) (min (XZ (Xy s)) 32).toNat E.next).2),Xu e (if E.frozen=false then E else{E with next:=(ZS E (Xy s) (XZ (Xy s)) (min (XZ (Xy s)) 32).toNat E.next).1}),F]):= by
 obtain⟨dp,cv,sv,ov,hS⟩:=QQ hS
 refine Qx func66 Qa ntmps66 Qa ?_
 have hll:=KH hw
 refine Qg (Qb (Qc Qa Qa (Qh (Qd (Qg (Qg (Qb (Qe Qa Qa (Ql Qa Qa (Qi Qa WU Qa (Qq Qa JG (hS.cell 0 Qa Qa) Qa (XL Qa Qa (Qh (Qd (Xb Qa (fun h1=> ?_) (fun h1=> ?_))))))))))))))))
 ·have hfr:E.frozen=false:= by simpa using h1
  refine Qg (Qb (Qc Qa Qa (Qh (Qd (Qo (Qm (Q5 (.inr Qa) Qa Qa ?_)))))))
  exact⟨_,rfl, by rw[if_pos hfr,if_pos hfr]; exact(Sat.row_nil Z2 (Qv (E:=E) ((hS.pick [0,1,2,3,4,5] Qa))))⟩
 have hfr: ¬E.frozen=false:= by simpa using h1
 refine Qr (Qd (Qg ?_))
 rw[hs]at hS
 obtain⟨sb,sm,rfl,hS2⟩:=Zj (hS.pick [3,0,1,2,4,5] rfl)
 refine Qb (Qe Qa Qa (Ql Qa Qa (Qi Qa Xo Qa (Qq Qa Z3 (hS2.cell 2 Qa Qa) Qa (Qz Iz Qa (Lm (hS2.sp [0,1] Qa) (hG.starL 4 Qa) hw) Qa ?_)))))
 rintro _ w3 ⟨rfl,hS3⟩
 replace hS3:=hS3.jn Qa Qa
 refine Qc Qa Qa (Qh ?_)
 have hS4:=Qv (E:=E) (by rw[hs]; exact(Xf (s:=s) (hS3.pick [0,1,2,3,4,5,6] Qa)).reorder [1,2,3,0,4,5] Qa)
 refine Qd (Qk [0,2,3] Qa (Qg (Qb (Qe Qa Qa (Zu underlying9 Qa Qa (Xx Qa Qa (by omega) (by omega) Qa ?_))))))
 refine JZ Qa Qa (by omega) (by omega) Qa ?_
 refine S9 Qa Qa (by omega) (by omega) (by omega) Qa ?_
 refine Qc Qa Qa (Qh (Qd (Qg (Qb (Qc Qa Qa (Qh (Qd (Qg (Qg (Qb (Qe Qa Qa (U7 Qa Qa Qa (Qe Qa Qa (Qh (Qd (Qk [0,2,3,4,5,22,23] Qa (QD ?_)))))))))))))))))
 have hS5:=Sat.row_nil Z2 hS4
 refine X8 (fun K0 E0 W0=> ∃(i:Nat) (nx:Int) (out:List Bs) (ov9:Value) (nn:Int),K0=(min (XZ (Xy s)) 32).toNat -i∧E0=[(0,ptrV e 0),(3,strV (Xy s)),(4,intV nn),(5,ov9),(22,intV (min nn 32)),(23,intV (i:Int))]∧Sat W0 [rowT Z2 ov9 out,Xu e {E with next:=nx},F]∧(PrtI E (Xy s) (XZ (Xy s)) (min (XZ (Xy s)) 32).toNat i nx out)∧(nn=XZ (Xy s))) (L0:=[(0,_),(3,_),(4,_),(5,_),(22,_),(23,_)]) ((min (XZ (Xy s)) 32).toNat -0) (RM Qa Qa Qa Qa Qa Qa) ⟨0,E.next,[],_,_,rfl,rfl,hS5.pick [0,1,2] Qa,PrtI.start hnx,(by unfold XZ;omega)⟩ ?_
 rintro _ _ w6 ⟨i,nx,out,ov9,nn,rfl,rfl,hS6,hI,hnn⟩
 have h1ov:ov9.oneCell'=true:=hS6.own_one 0 Qa
 have hrg:=hI.rg
 rw[←hnn]at hrg
 have hnb:=Mz (KH hw)
 rw[←hnn]at hnb
 have hle:=hI.le
 have hol:=hI.len
 have hoff:=Fa hI.rg
 refine Qg (Qb (X0 Qa Qa Qa (Qh (Qd (Qg (Qt Qa (fun h7=> ?_) (fun h7=> ?_)))))))
 ·have hlt:=h7
  have hlk:i<(min (XZ (Xy s)) 32).toNat:= by omega
  have hIs:=hI.step hlk
  rw[←hnn,←Om Qa]at hIs
  refine Qr (Qd (Qg (QD (Qg ?_))))
  obtain⟨dp,cv,sv,ov,hS8⟩:=QQ (hS6.pick [1,0,2] rfl)
  dsimp only[U5]at hS8
  have hS9:=hS8.drew
  refine QM [0,1,2,3,4,5,6,7,8,9,10,11,12,13,14,15,16,17,18,19,20,21,22,23,24,25,26] [23,24,25] Wv (by kernel_rfl) ?_
  refine QK Qa Qa Qa (QK Qa Qa Qa (QK Qa Qa Qa (Xm Qa Qa Qa (QN Qa Qa Qa KP (Q9 Qa Qa Qa (Qn Qa QF (hS9.cell 0 Qa Qa)) (QK Qa Qa Qa (QK Qa Qa Qa (QK Qa Qa Qa (Xm Qa Qa Qa (QN Qa Qa Qa KP (Q9 Qa Qa Qa (Qn Qa QF (hS9.cell 0 Qa Qa)) (QC Qa Qa Qa (fun _=>(Fp Qa Qa (by omega) (by omega))) ?_))))))))))))
  refine QK Qa Qa Qa (QC Qa Qa Qa (fun _=>(G7 underlying9 Qa)) ?_)
  refine QK Qa Qa Qa (Xm Qa Qa Qa (QN Qa Qa Qa KP (Q9 Qa Qa Qa (Qn Qa QF (hS9.cell 0 Qa Qa)) (QC Qa Qa Qa (fun _=>(Ih Qa Qa (by omega) (by omega))) ?_))))
  refine QC Qa Qa Qa (fun _=>(Fp Qa Qa (by omega) (by omega))) ?_
  refine QC Qa Qa Qa (fun _=>(Dy Qa Qa)) ?_
  refine QC Qa Qa Qa (fun _=>(Vw (200*nx).toNat (min (Xy s).length ((200*nx).toNat+200)) underlying9 Qa (HL (200*nx).toNat _ Qa (by omega)) (HL (min (Xy s).length ((200*nx).toNat+200)) _ Qa (by omega)) (by omega) (by omega))) ?_
  have hS10:=Qv (E:={E with next:=nx}) (hS9.pick [0,1,2,3,4,5,6] Qa)
  refine QS Qa Qa Qa Qa Qa Qa ?_
  refine Qz Ja Qa (WZ (hS10.sp [0] Qa) (hG.starL 1 Qa) (k:=1) (a:=nx) (b:=nn) (s:=(((Xy s).take (min (Xy s).length ((200*nx).toNat+200))).drop (200*nx).toNat)) ⟨XM (k:=1) (by decide),hmv, by show X5 nx;unfold X5;omega, by show X5 nn;unfold X5;omega, by show(List.drop _ (List.take _ _)).length≤_; rw[List.length_drop,List.length_take];omega⟩) Qa ?_
  rintro _ w11 ⟨rfl,hS11⟩
  replace hS11:=hS11.jn Qa Qa
  refine Xe (Xp (by kernel_rfl)) ?_
  refine QS Qa Qa Qa Qa Qa Qa ?_
  refine Xc Z2 [Zk E 1 nx nn (((Xy s).take (min (Xy s).length ((200*nx).toNat+200))).drop (200*nx).toNat)] hS11 Qa underlying66 JP Qa Qa Qa Qa (by rfl) rfl ?_
  intro b12 w12 hS12
  refine Xe (Xp (by kernel_rfl)) ?_
  refine QS Qa Qa Qa Qa Qa Qa ?_
  refine XP Z2 2 hS12 Qa Qa Qa (hS12.rd 0 Qa (by simp)) underlying66 underlying66 (by intro k hk; cases hk) UI Qa (by simp only[List.length_cons,List.length_nil];omega) Qa (by simp only[List.length_cons,List.length_nil];omega) ?_
  intro v13 w13 hS13; dsimp only[List.set]at hS13
  have h1v13:v13.oneCell'=true:=hS13.own_one 2 Qa
  refine Xe (Xp (by kernel_rfl)) ?_
  refine WY Qa Qa Qa (VC.nil (Qd (Qk [23,22,4,3,0,5] Qa ?_)))
  obtain⟨dp,cv,sv,ov,hS14⟩:=QQ (hS13.pick [1,0,2,3] rfl)
  dsimp only[U5]at hS14
  refine Qb (Qe Qa Qa (Qe Qa Qa (Ql Qa Qa (Qi Qa KP Qa (Qq Qa QF (hS14.cell 0 Qa Qa) Qa (Xx Qa Qa (by omega) (by omega) Qa ?_))))))
  refine Qe Qa Qa (S8 Qa Qa (by omega) (by omega) Qa ?_)
  refine Ql Qa Qa (Qi Qa KP Qa ?_)
  first | (refine Q7 hS14 Qa Qa Ya (by rfl) (i:=0) Qa (Xd Qa) ?_)
  intro w15 hS16; dsimp only[List.set]at hS16
  refine Qh ?_
  have hS17:=Qv (E:={E with next:=(nx+1)%nn}) (hS16.pick [0,1,2,3,4,5,6,7] Qa)
  refine Qp (Qd (Qk [23,22,4,3,0,5] Qa (Qb (Xx Qa Qa (by omega) (by omega) Qa ?_))))
  refine Qe Qa Qa (Qh ?_)
  exact Xa (L1:=[(0,_),(3,_),(4,_),(5,_),(22,_),(23,intV ((i+1:Nat):Int))]) (RM Qa Qa Qa Qa Qa Qa) (k1:=(min (XZ (Xy s)) 32).toNat -(i+1)) (by omega) ⟨i+1,(nx+1)%nn,_,_,nn,rfl,rfl,hS17.pick [2,0,3] Qa,(by rw[←hnn]; exact hIs),hnn⟩
 have hge:=h7
 refine Xq (Q2 (Q2 (QH (Qd (Qg (Qb (Qe Qa Qa (Qc Qa Qa (Qh (Qd (Qo (Q5 (.inr Qa) Qa Qa ?_))))))))))))
 have hz:=hI.fin (by omega)
 exact⟨_,rfl, by rw[if_neg hfr,if_neg hfr,hz]; exact hS6.pick [0,1,2] Qa⟩
