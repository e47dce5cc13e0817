/- the law: a step -/
import Derived.Test.YtiibgheijbbmaaaGreatDoorMvb3
set_option linter.unusedVariables false
set_option maxRecDepth 100000
set_option maxHeartbeats 4000000
namespace Go.Proofs.YtiibgheijbbmaaaGreatDoor
open Go.RowKit M Proofs.Tryz
theorem Na {P:Program} {L:Env} {w:World} {d:Nat} {ty:TypeId} {pos:String} {aft:Array Edge} {x y:Operand} {t t2:TypeId} {a b:Int} (m:Nat) (hx:M.look L x=some (.int .i64 a)) (hy:M.look L y=some (.int .i64 b)) (hb:b=((2^m -1:Nat):Int)) (hm:Nat.blt m 64=true) {q:Int} (hq:((2^m:Nat):Int)=q):Ev P L w ⟨some d,.binOp .and t x y t2,ty,pos,aft,none⟩ (.int .i64 (a%q)):= by
  subst hq
  intro ρ hρ
  subst hb
  have :=Sz a m (by simpa [Nat.blt_eq]using hm)
  simp only[execOp,hρ _ _ hx,hρ _ _ hy,binOp,Op.intBits]
  simp only[IntKind.bits,eqGuard]
  simp only[BitVec.ofInt_natCast]at this⊢
  simp [-BitVec.toNat_and]at this⊢
  exact this
theorem HJ {P:Program} {L:Env} {w:World} {d:Nat} {ty:TypeId} {pos:String} {aft:Array Edge} {x y:Operand} {t t2:TypeId} {a b c:Int} (m:Nat) (hx:M.look L x=some (.int .i64 a)) (hy:M.look L y=some (.int .i64 b)) (hb:b=((2^m -1:Nat):Int)) (hm:Nat.blt m 64=true) {q:Int} (hq:((2^m:Nat):Int)=q) (hc:a%q=c):Ev P L w ⟨some d,.binOp .and t x y t2,ty,pos,aft,none⟩ (.int .i64 c):=hc▸Na m hx hy hb hm hq
section
variable {X:TwD} {o:OpD} {i:Bool}
theorem NN (hk:o.dO%32=8) (hi:decide (o.n%2=1)=i):XQ X o=(0,Rw X o.n):= by subst hi; simp [XQ,hk]
theorem NM (hk:o.dO%32=9) (hi:decide (o.n%2=1)=i):XQ X o=(0,Hi X o.n):= by subst hi; simp [XQ,hk]
theorem DZ (hk:o.dO%32=14) (hi:decide (o.n%2=1)=i):XQ X o=H6 X i (J6 (Xg X i)):= by subst hi; simp [XQ,hk]
theorem DY (hk:o.dO%32=15) (hi:decide (o.n%2=1)=i):XQ X o=H6 X i (Wa (Xg X i)):= by subst hi; simp [XQ,hk]
theorem DX (hk:o.dO%32=16) (hi:decide (o.n%2=1)=i):XQ X o=H6 X i (W6 (Xg X i)):= by subst hi; simp [XQ,hk]
theorem DW (hk:o.dO%32=17) (hi:decide (o.n%2=1)=i):XQ X o=H6 X i (XA (Xg X i) o.id (List.replicate 64 o.b)):= by subst hi; simp [XQ,hk]
theorem DV (hk:o.dO%32=18) (hi:decide (o.n%2=1)=i):XQ X o=H6 X i (XA (Xg X i) o.id (List.replicate 64 o.b)):= by subst hi; simp [XQ,hk]
theorem DU (hk:o.dO%32=19) (hi:decide (o.n%2=1)=i):XQ X o=H6 X i (Zq (Xg X i) o.id):= by subst hi; simp [XQ,hk]
theorem DT (hk:o.dO%32=20) (hi:decide (o.n%2=1)=i):XQ X o=H6 X i (Zp (Xg X i) o.s):= by subst hi; simp [XQ,hk]
theorem Cu (hk:o.dO%32=21) (hi:decide (o.n%2=1)=i):XQ X o=(0,JL X i (Kr (Xg X i) o.keep)):= by subst hi; simp [XQ,hk]
theorem Ct (hk:o.dO%32=22) (hi:decide (o.n%2=1)=i):XQ X o=H6 X i (Wg (Xg X i)):= by subst hi; simp [XQ,hk]
theorem Cs (hk:o.dO%32=23) (hi:decide (o.n%2=1)=i):XQ X o=H6 X i (Wg (Xg X i)):= by subst hi; simp [XQ,hk]
theorem Cq (hk:o.dO%32=24) (hi:decide (o.n%2=1)=i):XQ X o=(0,JL X i {Xg X i with D:=MU (Xg X i).D o.id o.keep}):= by subst hi; simp [XQ,hk]
theorem Cp (hk:o.dO%32=25) (hi:decide (o.n%2=1)=i):XQ X o=(0,JL X i {Xg X i with D:={(Xg X i).D with lost:=o.id%4}}):= by subst hi; simp [XQ,hk]
theorem DR (hk:o.dO%32=26) (hi:decide (o.n%2=1)=i):XQ X o=(0,{X with cut:=true,fl:=[]}):= by subst hi; simp [XQ,hk]
theorem DQ (hk:o.dO%32=27) (hi:decide (o.n%2=1)=i):XQ X o=(0,{X with cut:=false}):= by subst hi; simp [XQ,hk]
theorem Wo (hk:10≤o.dO%32∧o.dO%32≤13) (hi:decide (o.n%2=1)=i):XQ X o=(0,Wp (JL X i (XX (Xg X i)).1) i (XX (Xg X i)).2):= by
  subst hi
  unfold XQ
  rw[if_neg (by omega),if_neg (by omega),if_pos hk]
theorem Dl (hk:o.dO%32=28) (hi:decide (o.n%2=1)=i) (h:(Wk (Xg X i)).1=1):XQ X o=H6 X i (Zz (Xg X i) ⟨o.s,[]⟩):= by subst hi; simp [XQ,hk,h]
theorem Dk (hk:o.dO%32=28) (hi:decide (o.n%2=1)=i) (h:(Wk (Xg X i)).1≠1):XQ X o=(0,X):= by subst hi; simp [XQ,hk,h]
theorem RY (hk: ¬(8≤o.dO%32∧o.dO%32≤28)):XQ X o=(0,Zw X o.n):= by
  unfold XQ
  simp only[show o.dO%32≠8 by omega, show o.dO%32≠9 by omega, show ¬(10≤o.dO%32∧o.dO%32≤13) by omega, show o.dO%32≠14 by omega, show o.dO%32≠15 by omega, show o.dO%32≠16 by omega, show ¬(o.dO%32=17∨o.dO%32=18) by omega, show o.dO%32≠19 by omega, show o.dO%32≠20 by omega, show o.dO%32≠21 by omega, show ¬(o.dO%32=22∨o.dO%32=23) by omega, show o.dO%32≠24 by omega, show o.dO%32≠25 by omega, show o.dO%32≠26 by omega, show o.dO%32≠27 by omega, show o.dO%32≠28 by omega,if_false]
theorem D7:Rw X o.n={X with fl:=Bx X.fl (Zs o.n X.fl.length)}:= by unfold Rw; rw[dlv_mod]
theorem KW:Hi X o.n={X with fl:=Ni X.fl (Zs o.n X.fl.length)}:= by
  unfold Hi; rw[dbl_mod];unfold Iq
  cases X.fl[(Zs o.n X.fl.length).toNat]? with
  | none=>rfl
  | some p=> dsimp only;split<;>rfl
theorem H5 (E:EnD):(XX E).2.length≤100:= by
  have h1:= fun s:SeD=>YL E s.pages 4
  unfold XX
  split
  · simp
  split
  · simp
  split
  · simp
  split
  · simp
  · rename_i s hs
    have h1:=YL E s.pages 4
    dsimp only
    split
    · split
      · dsimp only;omega
      · dsimp only; rw[List.length_append,W2];omega
    · dsimp only; rw[List.length_append,List.length_map,List.length_take];split<;> simp <;>omega
end
theorem FW {F:Th}:Ent F (RdL shC (.slice none 0 0) ([]:AL Bs)):= fun _=>⟨none,0,rfl, by simp, fun i x h=> by cases h⟩
theorem step_f {w:World} [tq:Inhabited TwQ] {x:Nat} {X:TwD} {F:Th} (hS:Sat w [GW x X,F]) (hG:Ent F WireG) (hO:Ent F (Glob 0)) (hW:XW X) {o:OpD} {kv:Value} (hK:Ent F (RdI kv o.keep)) (S2:o.id≤9223372036854775807) (hkl:o.keep.length≤1000) (hm:X5 (X.a.move+1)) (hn:o.n%2=0):
    Calls prog 11 #[ptrV x 0,.agg #[intV o.dO,intV o.n,intV o.id,.int .u8 (o.b.toNat:Int),strV o.s,kv]] w (Ret fun v w'=>v=intV (XQ X o).1∧Sat w' [GW x (XQ X o).2,F]):= by
 obtain⟨eb,ecap,a,b,p,hq0,hS⟩:=H4 hS
 refine Qx func11 Qa ntmps11 Qa ?_
 refine Qg (Qb (XT hS Qa Qa Qa ?_))
 intro bo w1 hS10
 have hS1:Sat w1 (QR bo [intV o.dO,intV o.n,intV o.id,.int .u8 (o.b.toNat:Int),strV o.s,kv]::_):=hS10
 refine Qc Qa Qa (Qh (Qd (Qg ?_)))
 have hS2:=hS1.drew
 refine QM [0,1,2,3,4,5,6,7,8,9] [] Wv (by kernel_rfl) ?_
 refine QK Qa Qa Qa (Xm Qa Qa Qa (QN Qa Qa Qa ZV (Q9 Qa Qa Qa (Qn Qa JX (hS2.cell 1 Qa Qa)) (QN Qa Qa Qa Jp (Q9 Qa Qa Qa (Qn Qa QF (hS2.cell 0 Qa Qa)) (QC Qa Qa Qa (fun _=>(Na 1 Qa Qa Qa Qa (q:=2) Qa)) ?_))))))
 refine QC Qa Qa Qa (fun _=>(Xk 0 Qa Qa (by omega) (by omega) JU)) ?_
 refine Q9 Qa Qa Qa (XK R8 2 0 0 hS2 Qa (by rfl) Jy Qa Qa) ?_
 refine WY Qa Qa Qa (VC.nil (Qd (Qk [0,3,4,5] Qa (Qg (Qg (Qb (Qi Qa KS Qa (Qq Qa QF (hS2.cell 0 Qa Qa) Qa (HT 5 Qa Qa Qa Qa (q:=32) Qa Qa (Qh (Qd (QD (Qg (Qb (QL Qa Qa Qa (Qc Qa Qa (Qh (Qd (Qt Qa (fun h3=> ?_) (fun h3=> ?_))))))))))))))))))))
 ·have hS4:=hS2.drew
  refine QM [0,1,2,3,4,5,6,7,8,9,10,11,12] [10,11,12] Wv (by kernel_rfl) ?_
  refine QK Qa Qa Qa (Xm Qa Qa Qa (QN Qa Qa Qa XN (Q9 Qa Qa Qa (Qn Qa Xv (hS4.cell 1 Qa Qa)) (QN Qa Qa Qa Jp (Q9 Qa Qa Qa (Qn Qa QF (hS4.cell 0 Qa Qa)) (QK Qa Qa Qa (Xm Qa Qa Qa (QN Qa Qa Qa XN (Q9 Qa Qa Qa (Qn Qa Xv (hS4.cell 1 Qa Qa)) (QS Qa Qa Qa Qa Qa Qa ?_))))))))))
  refine Qz Yu Qa (ZE (hS4.sp [5] Qa)) Qa ?_
  rintro _ w5 ⟨rfl,hS5⟩
  replace hS5:=hS5.jn Qa Qa
  refine Xe (.skip (by kernel_rfl) (.cons (.inl ⟨rfl,(Qn Qa QF (hS5.cell 1 Qa Qa))⟩) (.cons (.inl ⟨rfl,(Qn Qa Xv (hS5.cell 2 Qa Qa))⟩) .nil))) ?_
  refine QS Qa Qa Qa Qa Qa Qa ?_
  refine Qz Yv Qa (Yq (hS5.sp [] Qa) o.n (X.fl.length:Int) (by have :=hW.ln;omega)) Qa ?_
  rintro _ w6 ⟨rfl,hS6⟩
  replace hS6:=hS6.jn Qa Qa
  refine Xe (.skip (by kernel_rfl) (.skip (by kernel_rfl) (.cons (.inl ⟨rfl,(Qn Qa Xv (hS6.cell 2 Qa Qa))⟩) .nil))) ?_
  refine QS Qa Qa Qa Qa Qa Qa ?_
  refine Qz IF Qa (TP (hS6.sp [0] Qa) (Zs o.n X.fl.length) hW.ln) Qa ?_
  rintro _ w7 ⟨⟨_,rfl⟩,hS7⟩
  replace hS7:=hS7.jn Qa Qa
  refine Xe (Xp (by kernel_rfl)) ?_
  refine VC.nil (Qp (Qd (Qk [4] Qa (Qg (Qb (Qc Qa Qa (Qh (Qd (Qo (Q5 (.inr Qa) Qa Qa ?_))))))))))
  exact⟨_,rfl, by rw[NN (by omega) (i:=false) (by simp [hn]),D7]<;>rfl, by rw[NN (by omega) (i:=false) (by simp [hn]),D7]; exact QY (X:={X with fl:=Bx X.fl (Zs o.n X.fl.length)}) (hS7.pick [2,3,4,5,0,6] Qa) (by assumption)⟩
 refine Qg (Qb (QL Qa Qa Qa (Qc Qa Qa (Qh (Qd (Qk [0,3,4,5,19,39] Qa (Qt Qa (fun h8=> ?_) (fun h8=> ?_))))))))
 ·have hS9:=hS2.drew
  refine QM [0,1,2,3,4,5,6,7,8,9,10,11,12] [10,11,12] Wv (by kernel_rfl) ?_
  refine QK Qa Qa Qa (Xm Qa Qa Qa (QN Qa Qa Qa XN (Q9 Qa Qa Qa (Qn Qa Xv (hS9.cell 1 Qa Qa)) (QN Qa Qa Qa Jp (Q9 Qa Qa Qa (Qn Qa QF (hS9.cell 0 Qa Qa)) (QK Qa Qa Qa (Xm Qa Qa Qa (QN Qa Qa Qa XN (Q9 Qa Qa Qa (Qn Qa Xv (hS9.cell 1 Qa Qa)) (QS Qa Qa Qa Qa Qa Qa ?_))))))))))
  refine Qz Yu Qa (ZE (hS9.sp [5] Qa)) Qa ?_
  rintro _ w10 ⟨rfl,hS10⟩
  replace hS10:=hS10.jn Qa Qa
  refine Xe (.skip (by kernel_rfl) (.cons (.inl ⟨rfl,(Qn Qa QF (hS10.cell 1 Qa Qa))⟩) (.cons (.inl ⟨rfl,(Qn Qa Xv (hS10.cell 2 Qa Qa))⟩) .nil))) ?_
  refine QS Qa Qa Qa Qa Qa Qa ?_
  refine Qz Yv Qa (Yq (hS10.sp [] Qa) o.n (X.fl.length:Int) (by have :=hW.ln;omega)) Qa ?_
  rintro _ w11 ⟨rfl,hS11⟩
  replace hS11:=hS11.jn Qa Qa
  refine Xe (.skip (by kernel_rfl) (.skip (by kernel_rfl) (.cons (.inl ⟨rfl,(Qn Qa Xv (hS11.cell 2 Qa Qa))⟩) .nil))) ?_
  refine QS Qa Qa Qa Qa Qa Qa ?_
  refine Qz IE Qa (Pv (hS11.sp [0] Qa) (Zs o.n X.fl.length) hW.ln) Qa ?_
  rintro _ w12 ⟨⟨_,rfl⟩,hS12⟩
  replace hS12:=hS12.jn Qa Qa
  refine Xe (Xp (by kernel_rfl)) ?_
  refine VC.nil (Qp (Qd (Qk [4] Qa (Qg (Qb (Qc Qa Qa (Qh (Qd (Qo (Q5 (.inr Qa) Qa Qa ?_))))))))))
  exact⟨_,rfl, by rw[NM (by omega) (i:=false) (by simp [hn]),KW]<;>rfl, by rw[NM (by omega) (i:=false) (by simp [hn]),KW]; exact QY (X:={X with fl:=Ni X.fl (Zs o.n X.fl.length)}) (hS12.pick [2,3,4,5,0,6] Qa) (by assumption)⟩
 refine Qg (Qg (Qb (QL Qa Qa Qa (Qc Qa Qa (Qh (Qd (Qt Qa (fun h13=> ?_) (fun h13=> ?_))))))))
 ·refine Qr (Qd (JC Qa (Q8 h13) ?_))
  have hS14:=hS2.drew
  refine QM [0,1,2,3,4,5,6] [5,6] Wv (by kernel_rfl) ?_
  refine QK Qa Qa Qa (QN Qa Qa Qa Jp (Q9 Qa Qa Qa (Qn Qa QF (hS14.cell 0 Qa Qa)) ?_))
  refine QC Qa Qa Qa (fun _=>(HJ 1 Qa Qa Qa Qa (q:=2) Qa (c:= if false=true then 1 else 0) (by rw[hn];rfl))) ?_
  refine QK Qa Qa Qa (QS Qa Qa Qa Qa Qa Qa ?_)
  refine Qz UX Qa (Hy (hS14.sp [3] Qa) (hG.starL 5 Qa) hW.a) Qa ?_
  rintro _ w15 hS15
  replace hS15:=hS15.jn Qa Qa
  have h1r:=hS15.own_one 0 Qa
  refine Xe (.cons (.inl ⟨Qa,(Qn Qa QF (hS15.cell 2 Qa Qa))⟩) .nil) ?_
  have hS16:=QY (X:={X with a:=(XX X.a).1}) (hS15.pick [3,4,1,5,6,0,2,7] Qa) (by assumption)
  refine QS Qa Qa Qa Qa Qa Qa ?_
  refine Qz Yt Qa (WE (i:=false) (hS16.sp [0,1] Qa) (by have :=H5 X.a;omega)) Qa ?_
  rintro _ w17 ⟨rfl,hS17⟩
  replace hS17:=hS17.jn Qa Qa
  refine Xe (Xp (by kernel_rfl)) ?_
  refine VC.nil (Qp (Qd (Qk [4] Qa (Qg (Qb (Qc Qa Qa (Qh (Qd (Qo (Q5 (.inr Qa) Qa Qa ?_))))))))))
  exact⟨_,rfl, by rw[Wo (by omega) (i:=false) (by simp [hn])]<;>rfl, by rw[Wo (by omega) (i:=false) (by simp [hn])]; exact hS17.pick [0,2] Qa⟩
 refine Qg (Qb (QL Qa Qa Qa (Qc Qa Qa (Qh (Qd (Qt Qa (fun h18=> ?_) (fun h18=> ?_)))))))
 ·refine Qr (Qd (JC Qa (Q8 h18) ?_))
  have hS19:=hS2.drew
  refine QM [0,1,2,3,4,5,6] [5,6] Wv (by kernel_rfl) ?_
  refine QK Qa Qa Qa (QN Qa Qa Qa Jp (Q9 Qa Qa Qa (Qn Qa QF (hS19.cell 0 Qa Qa)) ?_))
  refine QC Qa Qa Qa (fun _=>(HJ 1 Qa Qa Qa Qa (q:=2) Qa (c:= if false=true then 1 else 0) (by rw[hn];rfl))) ?_
  refine QK Qa Qa Qa (QS Qa Qa Qa Qa Qa Qa ?_)
  refine Qz UX Qa (Hy (hS19.sp [3] Qa) (hG.starL 5 Qa) hW.a) Qa ?_
  rintro _ w20 hS20
  replace hS20:=hS20.jn Qa Qa
  have h1r:=hS20.own_one 0 Qa
  refine Xe (.cons (.inl ⟨Qa,(Qn Qa QF (hS20.cell 2 Qa Qa))⟩) .nil) ?_
  have hS21:=QY (X:={X with a:=(XX X.a).1}) (hS20.pick [3,4,1,5,6,0,2,7] Qa) (by assumption)
  refine QS Qa Qa Qa Qa Qa Qa ?_
  refine Qz Yt Qa (WE (i:=false) (hS21.sp [0,1] Qa) (by have :=H5 X.a;omega)) Qa ?_
  rintro _ w22 ⟨rfl,hS22⟩
  replace hS22:=hS22.jn Qa Qa
  refine Xe (Xp (by kernel_rfl)) ?_
  refine VC.nil (Qp (Qd (Qk [4] Qa (Qg (Qb (Qc Qa Qa (Qh (Qd (Qo (Q5 (.inr Qa) Qa Qa ?_))))))))))
  exact⟨_,rfl, by rw[Wo (by omega) (i:=false) (by simp [hn])]<;>rfl, by rw[Wo (by omega) (i:=false) (by simp [hn])]; exact hS22.pick [0,2] Qa⟩
 refine Qg (Qb (QL Qa Qa Qa (Qc Qa Qa (Qh (Qd (Qt Qa (fun h23=> ?_) (fun h23=> ?_)))))))
 ·refine Qr (Qd (JC Qa (Q8 h23) ?_))
  have hS24:=hS2.drew
  refine QM [0,1,2,3,4,5,6] [5,6] Wv (by kernel_rfl) ?_
  refine QK Qa Qa Qa (QN Qa Qa Qa Jp (Q9 Qa Qa Qa (Qn Qa QF (hS24.cell 0 Qa Qa)) ?_))
  refine QC Qa Qa Qa (fun _=>(HJ 1 Qa Qa Qa Qa (q:=2) Qa (c:= if false=true then 1 else 0) (by rw[hn];rfl))) ?_
  refine QK Qa Qa Qa (QS Qa Qa Qa Qa Qa Qa ?_)
  refine Qz UX Qa (Hy (hS24.sp [3] Qa) (hG.starL 5 Qa) hW.a) Qa ?_
  rintro _ w25 hS25
  replace hS25:=hS25.jn Qa Qa
  have h1r:=hS25.own_one 0 Qa
  refine Xe (.cons (.inl ⟨Qa,(Qn Qa QF (hS25.cell 2 Qa Qa))⟩) .nil) ?_
  have hS26:=QY (X:={X with a:=(XX X.a).1}) (hS25.pick [3,4,1,5,6,0,2,7] Qa) (by assumption)
  refine QS Qa Qa Qa Qa Qa Qa ?_
  refine Qz Yt Qa (WE (i:=false) (hS26.sp [0,1] Qa) (by have :=H5 X.a;omega)) Qa ?_
  rintro _ w27 ⟨rfl,hS27⟩
  replace hS27:=hS27.jn Qa Qa
  refine Xe (Xp (by kernel_rfl)) ?_
  refine VC.nil (Qp (Qd (Qk [4] Qa (Qg (Qb (Qc Qa Qa (Qh (Qd (Qo (Q5 (.inr Qa) Qa Qa ?_))))))))))
  exact⟨_,rfl, by rw[Wo (by omega) (i:=false) (by simp [hn])]<;>rfl, by rw[Wo (by omega) (i:=false) (by simp [hn])]; exact hS27.pick [0,2] Qa⟩
 refine Qb (QL Qa Qa Qa (Qc Qa Qa (Qh (Qd (Qk [0,3,4,5,19,54] Qa (Qt Qa (fun h28=> ?_) (fun h28=> ?_)))))))
 ·have hS29:=hS2.drew
  refine QM [0,1,2,3,4,5,6] [5,6] Wv (by kernel_rfl) ?_
  refine QK Qa Qa Qa (QN Qa Qa Qa Jp (Q9 Qa Qa Qa (Qn Qa QF (hS29.cell 0 Qa Qa)) ?_))
  refine QC Qa Qa Qa (fun _=>(HJ 1 Qa Qa Qa Qa (q:=2) Qa (c:= if false=true then 1 else 0) (by rw[hn];rfl))) ?_
  refine QK Qa Qa Qa (QS Qa Qa Qa Qa Qa Qa ?_)
  refine Qz UX Qa (Hy (hS29.sp [3] Qa) (hG.starL 5 Qa) hW.a) Qa ?_
  rintro _ w30 hS30
  replace hS30:=hS30.jn Qa Qa
  have h1r:=hS30.own_one 0 Qa
  refine Xe (.cons (.inl ⟨Qa,(Qn Qa QF (hS30.cell 2 Qa Qa))⟩) .nil) ?_
  have hS31:=QY (X:={X with a:=(XX X.a).1}) (hS30.pick [3,4,1,5,6,0,2,7] Qa) (by assumption)
  refine QS Qa Qa Qa Qa Qa Qa ?_
  refine Qz Yt Qa (WE (i:=false) (hS31.sp [0,1] Qa) (by have :=H5 X.a;omega)) Qa ?_
  rintro _ w32 ⟨rfl,hS32⟩
  replace hS32:=hS32.jn Qa Qa
  refine Xe (Xp (by kernel_rfl)) ?_
  refine VC.nil (Qp (Qd (Qk [4] Qa (Qg (Qb (Qc Qa Qa (Qh (Qd (Qo (Q5 (.inr Qa) Qa Qa ?_))))))))))
  exact⟨_,rfl, by rw[Wo (by omega) (i:=false) (by simp [hn])]<;>rfl, by rw[Wo (by omega) (i:=false) (by simp [hn])]; exact hS32.pick [0,2] Qa⟩
 refine Qg (Qb (QL Qa Qa Qa (Qc Qa Qa (Qh (Qd (Qt Qa (fun h33=> ?_) (fun h33=> ?_)))))))
 ·refine Qg (Qb (Qe Qa Qa (Qz FB Qa (CT (hS2.sp [3] Qa) (hG.starL 5 Qa) (hO.starL 5 Qa) hW.a.ses hm) Qa ?_)))
  rintro _ w34 ⟨rfl,hS34⟩
  replace hS34:=hS34.jn Qa Qa
  refine Qc Qa Qa (Qh (Qd (Qo (Qy (Qm (Q5 (.inr Qa) Qa Qa ?_))))))
  exact⟨_,rfl, by rw[DZ (by omega) (i:=false) (by simp [hn])]<;>rfl, by rw[DZ (by omega) (i:=false) (by simp [hn])]; exact QY (X:={X with a:=(J6 X.a).2}) (hS34.pick [2,3,0,4,5,6] Qa) (by assumption)⟩
 refine Qg (Qb (QL Qa Qa Qa (Qc Qa Qa (Qh (Qd (Qt Qa (fun h35=> ?_) (fun h35=> ?_)))))))
 ·refine Qg (Qb (Qe Qa Qa (Qz FA Qa (Bu (hS2.sp [3] Qa)) Qa ?_)))
  rintro _ w36 ⟨rfl,hS36⟩
  replace hS36:=hS36.jn Qa Qa
  refine Qc Qa Qa (Qh (Qd (Qk [4] Qa (Qo (Qy (Qm (Q5 (.inr Qa) Qa Qa ?_)))))))
  exact⟨_,rfl, by rw[DY (by omega) (i:=false) (by simp [hn])]<;>rfl, by rw[DY (by omega) (i:=false) (by simp [hn])]; exact QY (X:={X with a:=(Wa X.a).2}) (hS36.pick [2,3,0,4,5,6] Qa) (by assumption)⟩
 refine Qg (Qb (QL Qa Qa Qa (Qc Qa Qa (Qh (Qd (Qk [0,3,4,5,19,74] Qa (Qt Qa (fun h37=> ?_) (fun h37=> ?_))))))))
 ·refine Qg (Qb (Qe Qa Qa (Qz II Qa (Cb (hS2.sp [3] Qa)) Qa ?_)))
  rintro _ w38 ⟨rfl,hS38⟩
  replace hS38:=hS38.jn Qa Qa
  refine Qc Qa Qa (Qh (Qd (Qo (Qy (Qm (Q5 (.inr Qa) Qa Qa ?_))))))
  exact⟨_,rfl, by rw[DX (by omega) (i:=false) (by simp [hn])]<;>rfl, by rw[DX (by omega) (i:=false) (by simp [hn])]; exact QY (X:={X with a:=(W6 X.a).2}) (hS38.pick [2,3,0,4,5,6] Qa) (by assumption)⟩
 refine Qg (Qg (Qb (QL Qa Qa Qa (Qc Qa Qa (Qh (Qd (Qt Qa (fun h39=> ?_) (fun h39=> ?_))))))))
 ·refine Qr (Qd (JC Qa (Q8 h39) (Qg ?_)))
  have hS40:=hS2.drew
  refine QM [0,1,2,3,4,5,6,7] [5,6] Wv (by kernel_rfl) ?_
  refine QK Qa Qa Qa (QN Qa Qa Qa JJ (Q9 Qa Qa Qa (Qn Qa QF (hS40.cell 0 Qa Qa)) (QN Qa Qa Qa KR (Q9 Qa Qa Qa (Qn Qa Av (hS40.cell 0 Qa Qa)) (QS Qa Qa Qa Qa Qa Qa ?_)))))
  refine Qz Kv Qa (HB (hS40.sp [] Qa) o.b) Qa ?_
  rintro _ w41 ⟨rfl,hS41⟩
  replace hS41:=hS41.jn Qa Qa
  refine Xe (.skip (by kernel_rfl) (.cons (.inl ⟨rfl,(Qn Qa QF (hS41.cell 0 Qa Qa))⟩) .nil)) ?_
  refine QS Qa Qa Qa Qa Qa Qa ?_
  refine Qz Ns Qa (V4 (hS41.sp [3] Qa) o.id (List.replicate 64 o.b) (fun x hx=>(hW.a.ses x hx).srt) (fun x hx=>(hW.a.ses x hx).cnt)) Qa ?_
  rintro _ w42 ⟨rfl,hS42⟩
  replace hS42:=hS42.jn Qa Qa
  refine Xe (Xp (by kernel_rfl)) ?_
  refine WY Qa Qa Qa (VC.nil (Qd (Qk [4] Qa (Qo (Qy (Qm (Q5 (.inr Qa) Qa Qa ?_)))))))
  exact⟨_,rfl, by rw[DW (by omega) (i:=false) (by simp [hn])]<;>rfl, by rw[DW (by omega) (i:=false) (by simp [hn])]; exact QY (X:={X with a:=(XA X.a o.id (List.replicate 64 o.b)).2}) (hS42.pick [2,3,0,4,5,6] Qa) (by assumption)⟩
 refine Qb (QL Qa Qa Qa (Qc Qa Qa (Qh (Qd (Qt Qa (fun h43=> ?_) (fun h43=> ?_))))))
 ·refine Qg ?_
  have hS44:=hS2.drew
  refine QM [0,1,2,3,4,5,6,7] [5,6] Wv (by kernel_rfl) ?_
  refine QK Qa Qa Qa (QN Qa Qa Qa JJ (Q9 Qa Qa Qa (Qn Qa QF (hS44.cell 0 Qa Qa)) (QN Qa Qa Qa KR (Q9 Qa Qa Qa (Qn Qa Av (hS44.cell 0 Qa Qa)) (QS Qa Qa Qa Qa Qa Qa ?_)))))
  refine Qz Kv Qa (HB (hS44.sp [] Qa) o.b) Qa ?_
  rintro _ w45 ⟨rfl,hS45⟩
  replace hS45:=hS45.jn Qa Qa
  refine Xe (.skip (by kernel_rfl) (.cons (.inl ⟨rfl,(Qn Qa QF (hS45.cell 0 Qa Qa))⟩) .nil)) ?_
  refine QS Qa Qa Qa Qa Qa Qa ?_
  refine Qz Ns Qa (V4 (hS45.sp [3] Qa) o.id (List.replicate 64 o.b) (fun x hx=>(hW.a.ses x hx).srt) (fun x hx=>(hW.a.ses x hx).cnt)) Qa ?_
  rintro _ w46 ⟨rfl,hS46⟩
  replace hS46:=hS46.jn Qa Qa
  refine Xe (Xp (by kernel_rfl)) ?_
  refine WY Qa Qa Qa (VC.nil (Qd (Qk [4] Qa (Qo (Qy (Qm (Q5 (.inr Qa) Qa Qa ?_)))))))
  exact⟨_,rfl, by rw[DV (by omega) (i:=false) (by simp [hn])]<;>rfl, by rw[DV (by omega) (i:=false) (by simp [hn])]; exact QY (X:={X with a:=(XA X.a o.id (List.replicate 64 o.b)).2}) (hS46.pick [2,3,0,4,5,6] Qa) (by assumption)⟩
 refine Qg (Qb (QL Qa Qa Qa (Qc Qa Qa (Qh (Qd (Qk [0,3,4,5,19,88] Qa (Qt Qa (fun h47=> ?_) (fun h47=> ?_))))))))
 ·refine Qg (Qb (Qe Qa Qa (Qi Qa JJ Qa (Qq Qa QF (hS2.cell 0 Qa Qa) Qa (Qz ID Qa (BY (hS2.sp [3] Qa) o.id) Qa ?_)))))
  rintro _ w48 ⟨rfl,hS48⟩
  replace hS48:=hS48.jn Qa Qa
  refine Qc Qa Qa (Qh (Qd (Qo (Qy (Qm (Q5 (.inr Qa) Qa Qa ?_))))))
  exact⟨_,rfl, by rw[DU (by omega) (i:=false) (by simp [hn])]<;>rfl, by rw[DU (by omega) (i:=false) (by simp [hn])]; exact QY (X:={X with a:=(Zq X.a o.id).2}) (hS48.pick [2,3,0,4,5,6] Qa) (by assumption)⟩
 refine Qg (Qb (QL Qa Qa Qa (Qc Qa Qa (Qh (Qd (Qt Qa (fun h49=> ?_) (fun h49=> ?_)))))))
 ·refine Qg (Qb (Qe Qa Qa (Qi Qa KQ Qa (Qq Qa Zr (hS2.cell 0 Qa Qa) Qa (Qz IC Qa (BO (hS2.sp [3] Qa) o.s) Qa ?_)))))
  rintro _ w50 ⟨rfl,hS50⟩
  replace hS50:=hS50.jn Qa Qa
  refine Qc Qa Qa (Qh (Qd (Qk [4] Qa (Qo (Qy (Qm (Q5 (.inr Qa) Qa Qa ?_)))))))
  exact⟨_,rfl, by rw[DT (by omega) (i:=false) (by simp [hn])]<;>rfl, by rw[DT (by omega) (i:=false) (by simp [hn])]; exact QY (X:={X with a:=(Zp X.a o.s).2}) (hS50.pick [2,3,0,4,5,6] Qa) (by assumption)⟩
 refine Qg (Qb (QL Qa Qa Qa (Qc Qa Qa (Qh (Qd (Qt Qa (fun h51=> ?_) (fun h51=> ?_)))))))
 ·refine Qb (Qe Qa Qa (Qi Qa Gt Qa (Qq Qa GN (hS2.cell 0 Qa Qa) Qa (Qz IB Qa (Ca (hS2.sp [3] Qa) (hK.starL 5 Qa)) Qa ?_))))
  rintro _ w52 ⟨rfl,hS52⟩
  replace hS52:=hS52.jn Qa Qa
  refine Qh (Qp (Qd (Qk [4] Qa (Qg (Qb (Qc Qa Qa (Qh (Qd (Qo (Q5 (.inr Qa) Qa Qa ?_))))))))))
  exact⟨_,rfl, by rw[Cu (by omega) (i:=false) (by simp [hn])]<;>rfl, by rw[Cu (by omega) (i:=false) (by simp [hn])]; exact QY (X:={X with a:=(Kr X.a o.keep)}) (hS52.pick [2,3,0,4,5,6] Qa) (by assumption)⟩
 refine Qg (Qg (Qb (QL Qa Qa Qa (Qc Qa Qa (Qh (Qd (Qk [0,3,4,5,19,106] Qa (Qt Qa (fun h53=> ?_) (fun h53=> ?_)))))))))
 ·refine Qr (Qd (JC Qa (Q8 h53) (Qg (Qb (Qe Qa Qa (Qz Nw Qa (KT (hS2.sp [3] Qa) (hG.starL 5 Qa) (hO.starL 5 Qa)) Qa ?_))))))
  rintro _ w54 ⟨rfl,hS54⟩
  replace hS54:=hS54.jn Qa Qa
  refine Qc Qa Qa (Qh (Qd (Qo (Qy (Qm (Q5 (.inr Qa) Qa Qa ?_))))))
  exact⟨_,rfl, by rw[Ct (by omega) (i:=false) (by simp [hn])]<;>rfl, by rw[Ct (by omega) (i:=false) (by simp [hn])]; exact QY (X:={X with a:=(Wg X.a).2}) (hS54.pick [2,3,0,4,5,6] Qa) (by assumption)⟩
 refine Qb (QL Qa Qa Qa (Qc Qa Qa (Qh (Qd (Qt Qa (fun h55=> ?_) (fun h55=> ?_))))))
 ·refine Qg (Qb (Qe Qa Qa (Qz Nw Qa (KT (hS2.sp [3] Qa) (hG.starL 5 Qa) (hO.starL 5 Qa)) Qa ?_)))
  rintro _ w56 ⟨rfl,hS56⟩
  replace hS56:=hS56.jn Qa Qa
  refine Qc Qa Qa (Qh (Qd (Qo (Qy (Qm (Q5 (.inr Qa) Qa Qa ?_))))))
  exact⟨_,rfl, by rw[Cs (by omega) (i:=false) (by simp [hn])]<;>rfl, by rw[Cs (by omega) (i:=false) (by simp [hn])]; exact QY (X:={X with a:=(Wg X.a).2}) (hS56.pick [2,3,0,4,5,6] Qa) (by assumption)⟩
 refine Qg (Qb (QL Qa Qa Qa (Qc Qa Qa (Qh (Qd (Qt Qa (fun h57=> ?_) (fun h57=> ?_)))))))
 ·refine Qb (Qe Qa Qa (Qi Qa JJ Qa (Qq Qa QF (hS2.cell 0 Qa Qa) Qa (Qi Qa Gt Qa (Qq Qa GN (hS2.cell 0 Qa Qa) Qa (Qz IK Qa (L6 (hS2.sp [3] Qa) (hK.starL 5 Qa) o.id (by omega) (by omega)) Qa ?_))))))
  rintro _ w58 ⟨rfl,hS58⟩
  replace hS58:=hS58.jn Qa Qa
  refine Qh (Qp (Qd (Qk [4] Qa (Qg (Qb (Qc Qa Qa (Qh (Qd (Qo (Q5 (.inr Qa) Qa Qa ?_))))))))))
  exact⟨_,rfl, by rw[Cq (by omega) (i:=false) (by simp [hn])]<;>rfl, by rw[Cq (by omega) (i:=false) (by simp [hn])]; exact QY (X:={X with a:={X.a with D:=MU X.a.D o.id o.keep}}) (hS58.pick [2,3,0,4,5,6] Qa) (by assumption)⟩
 refine Qg (Qb (QL Qa Qa Qa (Qc Qa Qa (Qh (Qd (Qk [0,3,4,5,19,119] Qa (Qt Qa (fun h59=> ?_) (fun h59=> ?_))))))))
 ·refine Qb (Qe Qa Qa (Qi Qa JJ Qa (Qq Qa QF (hS2.cell 0 Qa Qa) Qa (HT 2 Qa Qa Qa Qa (q:=4) Qa Qa (Qz IL Qa (Sk (hS2.sp [3] Qa) (o.id%4) (by omega)) Qa ?_)))))
  rintro _ w60 ⟨rfl,hS60⟩
  replace hS60:=hS60.jn Qa Qa
  refine Qh (Qp (Qd (Qk [4] Qa (Qg (Qb (Qc Qa Qa (Qh (Qd (Qo (Q5 (.inr Qa) Qa Qa ?_))))))))))
  have S2:max (o.id%4) 0=o.id%4:= by omega
  rw[S2]at hS60
  exact⟨_,rfl, by rw[Cp (by omega) (i:=false) (by simp [hn])]<;>rfl, by rw[Cp (by omega) (i:=false) (by simp [hn])]; exact QY (X:={X with a:={X.a with D:={X.a.D with lost:=o.id%4}}}) (hS60.pick [2,3,0,4,5,6] Qa) (by assumption)⟩
 refine Qg (Qb (QL Qa Qa Qa (Qc Qa Qa (Qh (Qd (Qt Qa (fun h61=> ?_) (fun h61=> ?_)))))))
 ·refine Qb (Qe Qa Qa (Ql Qa Qa (Qi Qa XN Qa (Qq Qa Xv (hS2.cell 1 Qa Qa) Qa (Qz IA Qa (Pw (hS2.sp [5] Qa)) Qa ?_)))))
  rintro _ w62 ⟨rfl,hS62⟩
  replace hS62:=hS62.jn Qa Qa
  refine Qh (Qp (Qd (Qk [4] Qa (Qg (Qb (Qc Qa Qa (Qh (Qd (Qo (Q5 (.inr Qa) Qa Qa ?_))))))))))
  exact⟨_,rfl, by rw[DR (by omega) (i:=false) (by simp [hn])]<;>rfl, by rw[DR (by omega) (i:=false) (by simp [hn])]; exact QY (X:={X with cut:=true,fl:=[]}) (hS62.pick [2,3,4,5,0,6] Qa) (by assumption)⟩
 refine Qg (Qb (QL Qa Qa Qa (Qc Qa Qa (Qh (Qd (Qt Qa (fun h63=> ?_) (fun h63=> ?_)))))))
 ·refine Qb (Qe Qa Qa (Ql Qa Qa (Qi Qa XN Qa (Qq Qa Xv (hS2.cell 1 Qa Qa) Qa (Qz IJ Qa (TO (hS2.sp [5] Qa)) Qa ?_)))))
  rintro _ w64 ⟨rfl,hS64⟩
  replace hS64:=hS64.jn Qa Qa
  refine Qh (Qp (Qd (Qk [4] Qa (Qg (Qb (Qc Qa Qa (Qh (Qd (Qo (Q5 (.inr Qa) Qa Qa ?_))))))))))
  exact⟨_,rfl, by rw[DQ (by omega) (i:=false) (by simp [hn])]<;>rfl, by rw[DQ (by omega) (i:=false) (by simp [hn])]; exact QY (X:={X with cut:=false}) (hS64.pick [2,3,4,5,0,6] Qa) (by assumption)⟩
 refine Qg (Qb (QL Qa Qa Qa (Qc Qa Qa (Qh (Qd (Qk [0,3,4,5,140] Qa (Qt Qa (fun h65=> ?_) (fun h65=> ?_))))))))
 ·refine Qg (Qb (Qe Qa Qa (Qz Nx Qa (K5 (hS2.sp [3] Qa) (hG.starL 5 Qa) (hO.starL 5 Qa)) Qa ?_)))
  rintro _ w66 ⟨rfl,hS66⟩
  replace hS66:=hS66.jn Qa Qa
  refine Qe Qa Qa (Q6 Qa Qa Qa (Q6 Qa Qa Qa (Qc Qa Qa (Qc Qa Qa (Qh (Qd (Qk [3,4,5,6] Qa (Qg (Qb (Qe Qa Qa (QL Qa Qa Qa (Qh (Qd (Qt Qa (fun h67=> ?_) (fun h67=> ?_)))))))))))))))
  ·have hst:(Wk X.a).1=1:=h67
   refine Qg (Qb (Qe Qa Qa (Qi Qa KQ Qa (Qq Qa Zr (hS66.cell 1 Qa Qa) Qa (Zi Qa Dr RJ VK Qa Qa (Qz Nv Qa (GI (hS66.sp [0] Qa) (hG.starL 5 Qa) (hO.starL 5 Qa) (t:=o.s) (l:=[]) FW) Qa ?_))))))
   rintro _ w68 ⟨rfl,hS68⟩
   replace hS68:=hS68.jn Qa Qa
   refine Qc Qa Qa (Qh (Qd (Qk [4] Qa (Qo (Qy (Qm (Q5 (.inr Qa) Qa Qa ?_)))))))
   exact⟨_,rfl, by rw[Dl (by omega) (i:=false) (by simp [hn]) hst]<;>rfl, by rw[Dl (by omega) (i:=false) (by simp [hn]) hst]; exact QY (X:={X with a:=(Zz X.a ⟨o.s,[]⟩).2}) (hS68.pick [2,3,0,4,5,6] Qa) (by assumption)⟩
  have hst:(Wk X.a).1≠1:=h67
  refine Qr (Qp (Qd (Qg (Qb (Qc Qa Qa (Qh (Qd (Qo (Q5 (.inr Qa) Qa Qa ?_)))))))))
  exact⟨_,rfl, by rw[Dk (by omega) (i:=false) (by simp [hn]) hst]<;>rfl, by rw[Dk (by omega) (i:=false) (by simp [hn]) hst]; exact QY (X:=X) (hS66.pick [2,3,0,4,5,6] Qa) (by assumption)⟩
 have hS69:=QY (X:=X) (hS2.pick [1,2,3,4,5,0,6] Qa) (by assumption)
 refine Qb (Qe Qa Qa (Qi Qa Jp Qa (Qq Qa QF (hS69.cell 1 Qa Qa) Qa (Qz I9 Qa (M3 (hS69.sp [0] Qa) (hG.starL 1 Qa) (hO.starL 1 Qa) hW o.n) Qa ?_))))
 rintro _ w70 ⟨rfl,hS70⟩
 replace hS70:=hS70.jn Qa Qa
 refine Qh (Qp (Qd (Qg (Qb (Qc Qa Qa (Qh (Qd (Qo (Q5 (.inr Qa) Qa Qa ?_)))))))))
 exact⟨_,rfl, by rw[RY (by omega)]<;>rfl, by rw[RY (by omega)]; exact hS70.pick [0,2] Qa⟩
theorem step_t {w:World} [tq:Inhabited TwQ] {x:Nat} {X:TwD} {F:Th} (hS:Sat w [GW x X,F]) (hG:Ent F WireG) (hO:Ent F (Glob 0)) (hW:XW X) {o:OpD} {kv:Value} (hK:Ent F (RdI kv o.keep)) (S2:o.id≤9223372036854775807) (hkl:o.keep.length≤1000) (hm:X5 (X.b.move+1)) (hn:o.n%2=1):
    Calls prog 11 #[ptrV x 0,.agg #[intV o.dO,intV o.n,intV o.id,.int .u8 (o.b.toNat:Int),strV o.s,kv]] w (Ret fun v w'=>v=intV (XQ X o).1∧Sat w' [GW x (XQ X o).2,F]):= by
 obtain⟨eb,ecap,a,b,p,hq0,hS⟩:=H4 hS
 refine Qx func11 Qa ntmps11 Qa ?_
 refine Qg (Qb (XT hS Qa Qa Qa ?_))
 intro bo w1 hS10
 have hS1:Sat w1 (QR bo [intV o.dO,intV o.n,intV o.id,.int .u8 (o.b.toNat:Int),strV o.s,kv]::_):=hS10
 refine Qc Qa Qa (Qh (Qd (Qg ?_)))
 have hS2:=hS1.drew
 refine QM [0,1,2,3,4,5,6,7,8,9] [] Wv (by kernel_rfl) ?_
 refine QK Qa Qa Qa (Xm Qa Qa Qa (QN Qa Qa Qa ZV (Q9 Qa Qa Qa (Qn Qa JX (hS2.cell 1 Qa Qa)) (QN Qa Qa Qa Jp (Q9 Qa Qa Qa (Qn Qa QF (hS2.cell 0 Qa Qa)) (QC Qa Qa Qa (fun _=>(Na 1 Qa Qa Qa Qa (q:=2) Qa)) ?_))))))
 refine QC Qa Qa Qa (fun _=>(Xk 1 Qa Qa (by omega) (by omega) JU)) ?_
 refine Q9 Qa Qa Qa (XK R8 2 1 0 hS2 Qa (by rfl) Jy Qa Qa) ?_
 refine WY Qa Qa Qa (VC.nil (Qd (Qk [0,3,4,5] Qa (Qg (Qg (Qb (Qi Qa KS Qa (Qq Qa QF (hS2.cell 0 Qa Qa) Qa (HT 5 Qa Qa Qa Qa (q:=32) Qa Qa (Qh (Qd (QD (Qg (Qb (QL Qa Qa Qa (Qc Qa Qa (Qh (Qd (Qt Qa (fun h3=> ?_) (fun h3=> ?_))))))))))))))))))))
 ·have hS4:=hS2.drew
  refine QM [0,1,2,3,4,5,6,7,8,9,10,11,12] [10,11,12] Wv (by kernel_rfl) ?_
  refine QK Qa Qa Qa (Xm Qa Qa Qa (QN Qa Qa Qa XN (Q9 Qa Qa Qa (Qn Qa Xv (hS4.cell 1 Qa Qa)) (QN Qa Qa Qa Jp (Q9 Qa Qa Qa (Qn Qa QF (hS4.cell 0 Qa Qa)) (QK Qa Qa Qa (Xm Qa Qa Qa (QN Qa Qa Qa XN (Q9 Qa Qa Qa (Qn Qa Xv (hS4.cell 1 Qa Qa)) (QS Qa Qa Qa Qa Qa Qa ?_))))))))))
  refine Qz Yu Qa (ZE (hS4.sp [5] Qa)) Qa ?_
  rintro _ w5 ⟨rfl,hS5⟩
  replace hS5:=hS5.jn Qa Qa
  refine Xe (.skip (by kernel_rfl) (.cons (.inl ⟨rfl,(Qn Qa QF (hS5.cell 1 Qa Qa))⟩) (.cons (.inl ⟨rfl,(Qn Qa Xv (hS5.cell 2 Qa Qa))⟩) .nil))) ?_
  refine QS Qa Qa Qa Qa Qa Qa ?_
  refine Qz Yv Qa (Yq (hS5.sp [] Qa) o.n (X.fl.length:Int) (by have :=hW.ln;omega)) Qa ?_
  rintro _ w6 ⟨rfl,hS6⟩
  replace hS6:=hS6.jn Qa Qa
  refine Xe (.skip (by kernel_rfl) (.skip (by kernel_rfl) (.cons (.inl ⟨rfl,(Qn Qa Xv (hS6.cell 2 Qa Qa))⟩) .nil))) ?_
  refine QS Qa Qa Qa Qa Qa Qa ?_
  refine Qz IF Qa (TP (hS6.sp [0] Qa) (Zs o.n X.fl.length) hW.ln) Qa ?_
  rintro _ w7 ⟨⟨_,rfl⟩,hS7⟩
  replace hS7:=hS7.jn Qa Qa
  refine Xe (Xp (by kernel_rfl)) ?_
  refine VC.nil (Qp (Qd (Qk [4] Qa (Qg (Qb (Qc Qa Qa (Qh (Qd (Qo (Q5 (.inr Qa) Qa Qa ?_))))))))))
  exact⟨_,rfl, by rw[NN (by omega) (i:=true) (by simp [hn]),D7]<;>rfl, by rw[NN (by omega) (i:=true) (by simp [hn]),D7]; exact QY (X:={X with fl:=Bx X.fl (Zs o.n X.fl.length)}) (hS7.pick [2,3,4,5,0,6] Qa) (by assumption)⟩
 refine Qg (Qb (QL Qa Qa Qa (Qc Qa Qa (Qh (Qd (Qk [0,3,4,5,19,39] Qa (Qt Qa (fun h8=> ?_) (fun h8=> ?_))))))))
 ·have hS9:=hS2.drew
  refine QM [0,1,2,3,4,5,6,7,8,9,10,11,12] [10,11,12] Wv (by kernel_rfl) ?_
  refine QK Qa Qa Qa (Xm Qa Qa Qa (QN Qa Qa Qa XN (Q9 Qa Qa Qa (Qn Qa Xv (hS9.cell 1 Qa Qa)) (QN Qa Qa Qa Jp (Q9 Qa Qa Qa (Qn Qa QF (hS9.cell 0 Qa Qa)) (QK Qa Qa Qa (Xm Qa Qa Qa (QN Qa Qa Qa XN (Q9 Qa Qa Qa (Qn Qa Xv (hS9.cell 1 Qa Qa)) (QS Qa Qa Qa Qa Qa Qa ?_))))))))))
  refine Qz Yu Qa (ZE (hS9.sp [5] Qa)) Qa ?_
  rintro _ w10 ⟨rfl,hS10⟩
  replace hS10:=hS10.jn Qa Qa
  refine Xe (.skip (by kernel_rfl) (.cons (.inl ⟨rfl,(Qn Qa QF (hS10.cell 1 Qa Qa))⟩) (.cons (.inl ⟨rfl,(Qn Qa Xv (hS10.cell 2 Qa Qa))⟩) .nil))) ?_
  refine QS Qa Qa Qa Qa Qa Qa ?_
  refine Qz Yv Qa (Yq (hS10.sp [] Qa) o.n (X.fl.length:Int) (by have :=hW.ln;omega)) Qa ?_
  rintro _ w11 ⟨rfl,hS11⟩
  replace hS11:=hS11.jn Qa Qa
  refine Xe (.skip (by kernel_rfl) (.skip (by kernel_rfl) (.cons (.inl ⟨rfl,(Qn Qa Xv (hS11.cell 2 Qa Qa))⟩) .nil))) ?_
  refine QS Qa Qa Qa Qa Qa Qa ?_
  refine Qz IE Qa (Pv (hS11.sp [0] Qa) (Zs o.n X.fl.length) hW.ln) Qa ?_
  rintro _ w12 ⟨⟨_,rfl⟩,hS12⟩
  replace hS12:=hS12.jn Qa Qa
  refine Xe (Xp (by kernel_rfl)) ?_
  refine VC.nil (Qp (Qd (Qk [4] Qa (Qg (Qb (Qc Qa Qa (Qh (Qd (Qo (Q5 (.inr Qa) Qa Qa ?_))))))))))
  exact⟨_,rfl, by rw[NM (by omega) (i:=true) (by simp [hn]),KW]<;>rfl, by rw[NM (by omega) (i:=true) (by simp [hn]),KW]; exact QY (X:={X with fl:=Ni X.fl (Zs o.n X.fl.length)}) (hS12.pick [2,3,4,5,0,6] Qa) (by assumption)⟩
 refine Qg (Qg (Qb (QL Qa Qa Qa (Qc Qa Qa (Qh (Qd (Qt Qa (fun h13=> ?_) (fun h13=> ?_))))))))
 ·refine Qr (Qd (JC Qa (Q8 h13) ?_))
  have hS14:=hS2.drew
  refine QM [0,1,2,3,4,5,6] [5,6] Wv (by kernel_rfl) ?_
  refine QK Qa Qa Qa (QN Qa Qa Qa Jp (Q9 Qa Qa Qa (Qn Qa QF (hS14.cell 0 Qa Qa)) ?_))
  refine QC Qa Qa Qa (fun _=>(HJ 1 Qa Qa Qa Qa (q:=2) Qa (c:= if true=true then 1 else 0) (by rw[hn];rfl))) ?_
  refine QK Qa Qa Qa (QS Qa Qa Qa Qa Qa Qa ?_)
  refine Qz UX Qa (Hy (hS14.sp [4] Qa) (hG.starL 5 Qa) hW.b) Qa ?_
  rintro _ w15 hS15
  replace hS15:=hS15.jn Qa Qa
  have h1r:=hS15.own_one 0 Qa
  refine Xe (.cons (.inl ⟨Qa,(Qn Qa QF (hS15.cell 2 Qa Qa))⟩) .nil) ?_
  have hS16:=QY (X:={X with b:=(XX X.b).1}) (hS15.pick [3,4,5,1,6,0,2,7] Qa) (by assumption)
  refine QS Qa Qa Qa Qa Qa Qa ?_
  refine Qz Yt Qa (WE (i:=true) (hS16.sp [0,1] Qa) (by have :=H5 X.b;omega)) Qa ?_
  rintro _ w17 ⟨rfl,hS17⟩
  replace hS17:=hS17.jn Qa Qa
  refine Xe (Xp (by kernel_rfl)) ?_
  refine VC.nil (Qp (Qd (Qk [4] Qa (Qg (Qb (Qc Qa Qa (Qh (Qd (Qo (Q5 (.inr Qa) Qa Qa ?_))))))))))
  exact⟨_,rfl, by rw[Wo (by omega) (i:=true) (by simp [hn])]<;>rfl, by rw[Wo (by omega) (i:=true) (by simp [hn])]; exact hS17.pick [0,2] Qa⟩
 refine Qg (Qb (QL Qa Qa Qa (Qc Qa Qa (Qh (Qd (Qt Qa (fun h18=> ?_) (fun h18=> ?_)))))))
 ·refine Qr (Qd (JC Qa (Q8 h18) ?_))
  have hS19:=hS2.drew
  refine QM [0,1,2,3,4,5,6] [5,6] Wv (by kernel_rfl) ?_
  refine QK Qa Qa Qa (QN Qa Qa Qa Jp (Q9 Qa Qa Qa (Qn Qa QF (hS19.cell 0 Qa Qa)) ?_))
  refine QC Qa Qa Qa (fun _=>(HJ 1 Qa Qa Qa Qa (q:=2) Qa (c:= if true=true then 1 else 0) (by rw[hn];rfl))) ?_
  refine QK Qa Qa Qa (QS Qa Qa Qa Qa Qa Qa ?_)
  refine Qz UX Qa (Hy (hS19.sp [4] Qa) (hG.starL 5 Qa) hW.b) Qa ?_
  rintro _ w20 hS20
  replace hS20:=hS20.jn Qa Qa
  have h1r:=hS20.own_one 0 Qa
  refine Xe (.cons (.inl ⟨Qa,(Qn Qa QF (hS20.cell 2 Qa Qa))⟩) .nil) ?_
  have hS21:=QY (X:={X with b:=(XX X.b).1}) (hS20.pick [3,4,5,1,6,0,2,7] Qa) (by assumption)
  refine QS Qa Qa Qa Qa Qa Qa ?_
  refine Qz Yt Qa (WE (i:=true) (hS21.sp [0,1] Qa) (by have :=H5 X.b;omega)) Qa ?_
  rintro _ w22 ⟨rfl,hS22⟩
  replace hS22:=hS22.jn Qa Qa
  refine Xe (Xp (by kernel_rfl)) ?_
  refine VC.nil (Qp (Qd (Qk [4] Qa (Qg (Qb (Qc Qa Qa (Qh (Qd (Qo (Q5 (.inr Qa) Qa Qa ?_))))))))))
  exact⟨_,rfl, by rw[Wo (by omega) (i:=true) (by simp [hn])]<;>rfl, by rw[Wo (by omega) (i:=true) (by simp [hn])]; exact hS22.pick [0,2] Qa⟩
 refine Qg (Qb (QL Qa Qa Qa (Qc Qa Qa (Qh (Qd (Qt Qa (fun h23=> ?_) (fun h23=> ?_)))))))
 ·refine Qr (Qd (JC Qa (Q8 h23) ?_))
  have hS24:=hS2.drew
  refine QM [0,1,2,3,4,5,6] [5,6] Wv (by kernel_rfl) ?_
  refine QK Qa Qa Qa (QN Qa Qa Qa Jp (Q9 Qa Qa Qa (Qn Qa QF (hS24.cell 0 Qa Qa)) ?_))
  refine QC Qa Qa Qa (fun _=>(HJ 1 Qa Qa Qa Qa (q:=2) Qa (c:= if true=true then 1 else 0) (by rw[hn];rfl))) ?_
  refine QK Qa Qa Qa (QS Qa Qa Qa Qa Qa Qa ?_)
  refine Qz UX Qa (Hy (hS24.sp [4] Qa) (hG.starL 5 Qa) hW.b) Qa ?_
  rintro _ w25 hS25
  replace hS25:=hS25.jn Qa Qa
  have h1r:=hS25.own_one 0 Qa
  refine Xe (.cons (.inl ⟨Qa,(Qn Qa QF (hS25.cell 2 Qa Qa))⟩) .nil) ?_
  have hS26:=QY (X:={X with b:=(XX X.b).1}) (hS25.pick [3,4,5,1,6,0,2,7] Qa) (by assumption)
  refine QS Qa Qa Qa Qa Qa Qa ?_
  refine Qz Yt Qa (WE (i:=true) (hS26.sp [0,1] Qa) (by have :=H5 X.b;omega)) Qa ?_
  rintro _ w27 ⟨rfl,hS27⟩
  replace hS27:=hS27.jn Qa Qa
  refine Xe (Xp (by kernel_rfl)) ?_
  refine VC.nil (Qp (Qd (Qk [4] Qa (Qg (Qb (Qc Qa Qa (Qh (Qd (Qo (Q5 (.inr Qa) Qa Qa ?_))))))))))
  exact⟨_,rfl, by rw[Wo (by omega) (i:=true) (by simp [hn])]<;>rfl, by rw[Wo (by omega) (i:=true) (by simp [hn])]; exact hS27.pick [0,2] Qa⟩
 refine Qb (QL Qa Qa Qa (Qc Qa Qa (Qh (Qd (Qk [0,3,4,5,19,54] Qa (Qt Qa (fun h28=> ?_) (fun h28=> ?_)))))))
 ·have hS29:=hS2.drew
  refine QM [0,1,2,3,4,5,6] [5,6] Wv (by kernel_rfl) ?_
  refine QK Qa Qa Qa (QN Qa Qa Qa Jp (Q9 Qa Qa Qa (Qn Qa QF (hS29.cell 0 Qa Qa)) ?_))
  refine QC Qa Qa Qa (fun _=>(HJ 1 Qa Qa Qa Qa (q:=2) Qa (c:= if true=true then 1 else 0) (by rw[hn];rfl))) ?_
  refine QK Qa Qa Qa (QS Qa Qa Qa Qa Qa Qa ?_)
  refine Qz UX Qa (Hy (hS29.sp [4] Qa) (hG.starL 5 Qa) hW.b) Qa ?_
  rintro _ w30 hS30
  replace hS30:=hS30.jn Qa Qa
  have h1r:=hS30.own_one 0 Qa
  refine Xe (.cons (.inl ⟨Qa,(Qn Qa QF (hS30.cell 2 Qa Qa))⟩) .nil) ?_
  have hS31:=QY (X:={X with b:=(XX X.b).1}) (hS30.pick [3,4,5,1,6,0,2,7] Qa) (by assumption)
  refine QS Qa Qa Qa Qa Qa Qa ?_
  refine Qz Yt Qa (WE (i:=true) (hS31.sp [0,1] Qa) (by have :=H5 X.b;omega)) Qa ?_
  rintro _ w32 ⟨rfl,hS32⟩
  replace hS32:=hS32.jn Qa Qa
  refine Xe (Xp (by kernel_rfl)) ?_
  refine VC.nil (Qp (Qd (Qk [4] Qa (Qg (Qb (Qc Qa Qa (Qh (Qd (Qo (Q5 (.inr Qa) Qa Qa ?_))))))))))
  exact⟨_,rfl, by rw[Wo (by omega) (i:=true) (by simp [hn])]<;>rfl, by rw[Wo (by omega) (i:=true) (by simp [hn])]; exact hS32.pick [0,2] Qa⟩
 refine Qg (Qb (QL Qa Qa Qa (Qc Qa Qa (Qh (Qd (Qt Qa (fun h33=> ?_) (fun h33=> ?_)))))))
 ·refine Qg (Qb (Qe Qa Qa (Qz FB Qa (CT (hS2.sp [4] Qa) (hG.starL 5 Qa) (hO.starL 5 Qa) hW.b.ses hm) Qa ?_)))
  rintro _ w34 ⟨rfl,hS34⟩
  replace hS34:=hS34.jn Qa Qa
  refine Qc Qa Qa (Qh (Qd (Qo (Qy (Qm (Q5 (.inr Qa) Qa Qa ?_))))))
  exact⟨_,rfl, by rw[DZ (by omega) (i:=true) (by simp [hn])]<;>rfl, by rw[DZ (by omega) (i:=true) (by simp [hn])]; exact QY (X:={X with b:=(J6 X.b).2}) (hS34.pick [2,3,4,0,5,6] Qa) (by assumption)⟩
 refine Qg (Qb (QL Qa Qa Qa (Qc Qa Qa (Qh (Qd (Qt Qa (fun h35=> ?_) (fun h35=> ?_)))))))
 ·refine Qg (Qb (Qe Qa Qa (Qz FA Qa (Bu (hS2.sp [4] Qa)) Qa ?_)))
  rintro _ w36 ⟨rfl,hS36⟩
  replace hS36:=hS36.jn Qa Qa
  refine Qc Qa Qa (Qh (Qd (Qk [4] Qa (Qo (Qy (Qm (Q5 (.inr Qa) Qa Qa ?_)))))))
  exact⟨_,rfl, by rw[DY (by omega) (i:=true) (by simp [hn])]<;>rfl, by rw[DY (by omega) (i:=true) (by simp [hn])]; exact QY (X:={X with b:=(Wa X.b).2}) (hS36.pick [2,3,4,0,5,6] Qa) (by assumption)⟩
 refine Qg (Qb (QL Qa Qa Qa (Qc Qa Qa (Qh (Qd (Qk [0,3,4,5,19,74] Qa (Qt Qa (fun h37=> ?_) (fun h37=> ?_))))))))
 ·refine Qg (Qb (Qe Qa Qa (Qz II Qa (Cb (hS2.sp [4] Qa)) Qa ?_)))
  rintro _ w38 ⟨rfl,hS38⟩
  replace hS38:=hS38.jn Qa Qa
  refine Qc Qa Qa (Qh (Qd (Qo (Qy (Qm (Q5 (.inr Qa) Qa Qa ?_))))))
  exact⟨_,rfl, by rw[DX (by omega) (i:=true) (by simp [hn])]<;>rfl, by rw[DX (by omega) (i:=true) (by simp [hn])]; exact QY (X:={X with b:=(W6 X.b).2}) (hS38.pick [2,3,4,0,5,6] Qa) (by assumption)⟩
 refine Qg (Qg (Qb (QL Qa Qa Qa (Qc Qa Qa (Qh (Qd (Qt Qa (fun h39=> ?_) (fun h39=> ?_))))))))
 ·refine Qr (Qd (JC Qa (Q8 h39) (Qg ?_)))
  have hS40:=hS2.drew
  refine QM [0,1,2,3,4,5,6,7] [5,6] Wv (by kernel_rfl) ?_
  refine QK Qa Qa Qa (QN Qa Qa Qa JJ (Q9 Qa Qa Qa (Qn Qa QF (hS40.cell 0 Qa Qa)) (QN Qa Qa Qa KR (Q9 Qa Qa Qa (Qn Qa Av (hS40.cell 0 Qa Qa)) (QS Qa Qa Qa Qa Qa Qa ?_)))))
  refine Qz Kv Qa (HB (hS40.sp [] Qa) o.b) Qa ?_
  rintro _ w41 ⟨rfl,hS41⟩
  replace hS41:=hS41.jn Qa Qa
  refine Xe (.skip (by kernel_rfl) (.cons (.inl ⟨rfl,(Qn Qa QF (hS41.cell 0 Qa Qa))⟩) .nil)) ?_
  refine QS Qa Qa Qa Qa Qa Qa ?_
  refine Qz Ns Qa (V4 (hS41.sp [4] Qa) o.id (List.replicate 64 o.b) (fun x hx=>(hW.b.ses x hx).srt) (fun x hx=>(hW.b.ses x hx).cnt)) Qa ?_
  rintro _ w42 ⟨rfl,hS42⟩
  replace hS42:=hS42.jn Qa Qa
  refine Xe (Xp (by kernel_rfl)) ?_
  refine WY Qa Qa Qa (VC.nil (Qd (Qk [4] Qa (Qo (Qy (Qm (Q5 (.inr Qa) Qa Qa ?_)))))))
  exact⟨_,rfl, by rw[DW (by omega) (i:=true) (by simp [hn])]<;>rfl, by rw[DW (by omega) (i:=true) (by simp [hn])]; exact QY (X:={X with b:=(XA X.b o.id (List.replicate 64 o.b)).2}) (hS42.pick [2,3,4,0,5,6] Qa) (by assumption)⟩
 refine Qb (QL Qa Qa Qa (Qc Qa Qa (Qh (Qd (Qt Qa (fun h43=> ?_) (fun h43=> ?_))))))
 ·refine Qg ?_
  have hS44:=hS2.drew
  refine QM [0,1,2,3,4,5,6,7] [5,6] Wv (by kernel_rfl) ?_
  refine QK Qa Qa Qa (QN Qa Qa Qa JJ (Q9 Qa Qa Qa (Qn Qa QF (hS44.cell 0 Qa Qa)) (QN Qa Qa Qa KR (Q9 Qa Qa Qa (Qn Qa Av (hS44.cell 0 Qa Qa)) (QS Qa Qa Qa Qa Qa Qa ?_)))))
  refine Qz Kv Qa (HB (hS44.sp [] Qa) o.b) Qa ?_
  rintro _ w45 ⟨rfl,hS45⟩
  replace hS45:=hS45.jn Qa Qa
  refine Xe (.skip (by kernel_rfl) (.cons (.inl ⟨rfl,(Qn Qa QF (hS45.cell 0 Qa Qa))⟩) .nil)) ?_
  refine QS Qa Qa Qa Qa Qa Qa ?_
  refine Qz Ns Qa (V4 (hS45.sp [4] Qa) o.id (List.replicate 64 o.b) (fun x hx=>(hW.b.ses x hx).srt) (fun x hx=>(hW.b.ses x hx).cnt)) Qa ?_
  rintro _ w46 ⟨rfl,hS46⟩
  replace hS46:=hS46.jn Qa Qa
  refine Xe (Xp (by kernel_rfl)) ?_
  refine WY Qa Qa Qa (VC.nil (Qd (Qk [4] Qa (Qo (Qy (Qm (Q5 (.inr Qa) Qa Qa ?_)))))))
  exact⟨_,rfl, by rw[DV (by omega) (i:=true) (by simp [hn])]<;>rfl, by rw[DV (by omega) (i:=true) (by simp [hn])]; exact QY (X:={X with b:=(XA X.b o.id (List.replicate 64 o.b)).2}) (hS46.pick [2,3,4,0,5,6] Qa) (by assumption)⟩
 refine Qg (Qb (QL Qa Qa Qa (Qc Qa Qa (Qh (Qd (Qk [0,3,4,5,19,88] Qa (Qt Qa (fun h47=> ?_) (fun h47=> ?_))))))))
 ·refine Qg (Qb (Qe Qa Qa (Qi Qa JJ Qa (Qq Qa QF (hS2.cell 0 Qa Qa) Qa (Qz ID Qa (BY (hS2.sp [4] Qa) o.id) Qa ?_)))))
  rintro _ w48 ⟨rfl,hS48⟩
  replace hS48:=hS48.jn Qa Qa
  refine Qc Qa Qa (Qh (Qd (Qo (Qy (Qm (Q5 (.inr Qa) Qa Qa ?_))))))
  exact⟨_,rfl, by rw[DU (by omega) (i:=true) (by simp [hn])]<;>rfl, by rw[DU (by omega) (i:=true) (by simp [hn])]; exact QY (X:={X with b:=(Zq X.b o.id).2}) (hS48.pick [2,3,4,0,5,6] Qa) (by assumption)⟩
 refine Qg (Qb (QL Qa Qa Qa (Qc Qa Qa (Qh (Qd (Qt Qa (fun h49=> ?_) (fun h49=> ?_)))))))
 ·refine Qg (Qb (Qe Qa Qa (Qi Qa KQ Qa (Qq Qa Zr (hS2.cell 0 Qa Qa) Qa (Qz IC Qa (BO (hS2.sp [4] Qa) o.s) Qa ?_)))))
  rintro _ w50 ⟨rfl,hS50⟩
  replace hS50:=hS50.jn Qa Qa
  refine Qc Qa Qa (Qh (Qd (Qk [4] Qa (Qo (Qy (Qm (Q5 (.inr Qa) Qa Qa ?_)))))))
  exact⟨_,rfl, by rw[DT (by omega) (i:=true) (by simp [hn])]<;>rfl, by rw[DT (by omega) (i:=true) (by simp [hn])]; exact QY (X:={X with b:=(Zp X.b o.s).2}) (hS50.pick [2,3,4,0,5,6] Qa) (by assumption)⟩
 refine Qg (Qb (QL Qa Qa Qa (Qc Qa Qa (Qh (Qd (Qt Qa (fun h51=> ?_) (fun h51=> ?_)))))))
 ·refine Qb (Qe Qa Qa (Qi Qa Gt Qa (Qq Qa GN (hS2.cell 0 Qa Qa) Qa (Qz IB Qa (Ca (hS2.sp [4] Qa) (hK.starL 5 Qa)) Qa ?_))))
  rintro _ w52 ⟨rfl,hS52⟩
  replace hS52:=hS52.jn Qa Qa
  refine Qh (Qp (Qd (Qk [4] Qa (Qg (Qb (Qc Qa Qa (Qh (Qd (Qo (Q5 (.inr Qa) Qa Qa ?_))))))))))
  exact⟨_,rfl, by rw[Cu (by omega) (i:=true) (by simp [hn])]<;>rfl, by rw[Cu (by omega) (i:=true) (by simp [hn])]; exact QY (X:={X with b:=(Kr X.b o.keep)}) (hS52.pick [2,3,4,0,5,6] Qa) (by assumption)⟩
 refine Qg (Qg (Qb (QL Qa Qa Qa (Qc Qa Qa (Qh (Qd (Qk [0,3,4,5,19,106] Qa (Qt Qa (fun h53=> ?_) (fun h53=> ?_)))))))))
 ·refine Qr (Qd (JC Qa (Q8 h53) (Qg (Qb (Qe Qa Qa (Qz Nw Qa (KT (hS2.sp [4] Qa) (hG.starL 5 Qa) (hO.starL 5 Qa)) Qa ?_))))))
  rintro _ w54 ⟨rfl,hS54⟩
  replace hS54:=hS54.jn Qa Qa
  refine Qc Qa Qa (Qh (Qd (Qo (Qy (Qm (Q5 (.inr Qa) Qa Qa ?_))))))
  exact⟨_,rfl, by rw[Ct (by omega) (i:=true) (by simp [hn])]<;>rfl, by rw[Ct (by omega) (i:=true) (by simp [hn])]; exact QY (X:={X with b:=(Wg X.b).2}) (hS54.pick [2,3,4,0,5,6] Qa) (by assumption)⟩
 refine Qb (QL Qa Qa Qa (Qc Qa Qa (Qh (Qd (Qt Qa (fun h55=> ?_) (fun h55=> ?_))))))
 ·refine Qg (Qb (Qe Qa Qa (Qz Nw Qa (KT (hS2.sp [4] Qa) (hG.starL 5 Qa) (hO.starL 5 Qa)) Qa ?_)))
  rintro _ w56 ⟨rfl,hS56⟩
  replace hS56:=hS56.jn Qa Qa
  refine Qc Qa Qa (Qh (Qd (Qo (Qy (Qm (Q5 (.inr Qa) Qa Qa ?_))))))
  exact⟨_,rfl, by rw[Cs (by omega) (i:=true) (by simp [hn])]<;>rfl, by rw[Cs (by omega) (i:=true) (by simp [hn])]; exact QY (X:={X with b:=(Wg X.b).2}) (hS56.pick [2,3,4,0,5,6] Qa) (by assumption)⟩
 refine Qg (Qb (QL Qa Qa Qa (Qc Qa Qa (Qh (Qd (Qt Qa (fun h57=> ?_) (fun h57=> ?_)))))))
 ·refine Qb (Qe Qa Qa (Qi Qa JJ Qa (Qq Qa QF (hS2.cell 0 Qa Qa) Qa (Qi Qa Gt Qa (Qq Qa GN (hS2.cell 0 Qa Qa) Qa (Qz IK Qa (L6 (hS2.sp [4] Qa) (hK.starL 5 Qa) o.id (by omega) (by omega)) Qa ?_))))))
  rintro _ w58 ⟨rfl,hS58⟩
  replace hS58:=hS58.jn Qa Qa
  refine Qh (Qp (Qd (Qk [4] Qa (Qg (Qb (Qc Qa Qa (Qh (Qd (Qo (Q5 (.inr Qa) Qa Qa ?_))))))))))
  exact⟨_,rfl, by rw[Cq (by omega) (i:=true) (by simp [hn])]<;>rfl, by rw[Cq (by omega) (i:=true) (by simp [hn])]; exact QY (X:={X with b:={X.b with D:=MU X.b.D o.id o.keep}}) (hS58.pick [2,3,4,0,5,6] Qa) (by assumption)⟩
 refine Qg (Qb (QL Qa Qa Qa (Qc Qa Qa (Qh (Qd (Qk [0,3,4,5,19,119] Qa (Qt Qa (fun h59=> ?_) (fun h59=> ?_))))))))
 ·refine Qb (Qe Qa Qa (Qi Qa JJ Qa (Qq Qa QF (hS2.cell 0 Qa Qa) Qa (HT 2 Qa Qa Qa Qa (q:=4) Qa Qa (Qz IL Qa (Sk (hS2.sp [4] Qa) (o.id%4) (by omega)) Qa ?_)))))
  rintro _ w60 ⟨rfl,hS60⟩
  replace hS60:=hS60.jn Qa Qa
  refine Qh (Qp (Qd (Qk [4] Qa (Qg (Qb (Qc Qa Qa (Qh (Qd (Qo (Q5 (.inr Qa) Qa Qa ?_))))))))))
  have S2:max (o.id%4) 0=o.id%4:= by omega
  rw[S2]at hS60
  exact⟨_,rfl, by rw[Cp (by omega) (i:=true) (by simp [hn])]<;>rfl, by rw[Cp (by omega) (i:=true) (by simp [hn])]; exact QY (X:={X with b:={X.b with D:={X.b.D with lost:=o.id%4}}}) (hS60.pick [2,3,4,0,5,6] Qa) (by assumption)⟩
 refine Qg (Qb (QL Qa Qa Qa (Qc Qa Qa (Qh (Qd (Qt Qa (fun h61=> ?_) (fun h61=> ?_)))))))
 ·refine Qb (Qe Qa Qa (Ql Qa Qa (Qi Qa XN Qa (Qq Qa Xv (hS2.cell 1 Qa Qa) Qa (Qz IA Qa (Pw (hS2.sp [5] Qa)) Qa ?_)))))
  rintro _ w62 ⟨rfl,hS62⟩
  replace hS62:=hS62.jn Qa Qa
  refine Qh (Qp (Qd (Qk [4] Qa (Qg (Qb (Qc Qa Qa (Qh (Qd (Qo (Q5 (.inr Qa) Qa Qa ?_))))))))))
  exact⟨_,rfl, by rw[DR (by omega) (i:=true) (by simp [hn])]<;>rfl, by rw[DR (by omega) (i:=true) (by simp [hn])]; exact QY (X:={X with cut:=true,fl:=[]}) (hS62.pick [2,3,4,5,0,6] Qa) (by assumption)⟩
 refine Qg (Qb (QL Qa Qa Qa (Qc Qa Qa (Qh (Qd (Qt Qa (fun h63=> ?_) (fun h63=> ?_)))))))
 ·refine Qb (Qe Qa Qa (Ql Qa Qa (Qi Qa XN Qa (Qq Qa Xv (hS2.cell 1 Qa Qa) Qa (Qz IJ Qa (TO (hS2.sp [5] Qa)) Qa ?_)))))
  rintro _ w64 ⟨rfl,hS64⟩
  replace hS64:=hS64.jn Qa Qa
  refine Qh (Qp (Qd (Qk [4] Qa (Qg (Qb (Qc Qa Qa (Qh (Qd (Qo (Q5 (.inr Qa) Qa Qa ?_))))))))))
  exact⟨_,rfl, by rw[DQ (by omega) (i:=true) (by simp [hn])]<;>rfl, by rw[DQ (by omega) (i:=true) (by simp [hn])]; exact QY (X:={X with cut:=false}) (hS64.pick [2,3,4,5,0,6] Qa) (by assumption)⟩
 refine Qg (Qb (QL Qa Qa Qa (Qc Qa Qa (Qh (Qd (Qk [0,3,4,5,140] Qa (Qt Qa (fun h65=> ?_) (fun h65=> ?_))))))))
 ·refine Qg (Qb (Qe Qa Qa (Qz Nx Qa (K5 (hS2.sp [4] Qa) (hG.starL 5 Qa) (hO.starL 5 Qa)) Qa ?_)))
  rintro _ w66 ⟨rfl,hS66⟩
  replace hS66:=hS66.jn Qa Qa
  refine Qe Qa Qa (Q6 Qa Qa Qa (Q6 Qa Qa Qa (Qc Qa Qa (Qc Qa Qa (Qh (Qd (Qk [3,4,5,6] Qa (Qg (Qb (Qe Qa Qa (QL Qa Qa Qa (Qh (Qd (Qt Qa (fun h67=> ?_) (fun h67=> ?_)))))))))))))))
  ·have hst:(Wk X.b).1=1:=h67
   refine Qg (Qb (Qe Qa Qa (Qi Qa KQ Qa (Qq Qa Zr (hS66.cell 1 Qa Qa) Qa (Zi Qa Dr RJ VK Qa Qa (Qz Nv Qa (GI (hS66.sp [0] Qa) (hG.starL 5 Qa) (hO.starL 5 Qa) (t:=o.s) (l:=[]) FW) Qa ?_))))))
   rintro _ w68 ⟨rfl,hS68⟩
   replace hS68:=hS68.jn Qa Qa
   refine Qc Qa Qa (Qh (Qd (Qk [4] Qa (Qo (Qy (Qm (Q5 (.inr Qa) Qa Qa ?_)))))))
   exact⟨_,rfl, by rw[Dl (by omega) (i:=true) (by simp [hn]) hst]<;>rfl, by rw[Dl (by omega) (i:=true) (by simp [hn]) hst]; exact QY (X:={X with b:=(Zz X.b ⟨o.s,[]⟩).2}) (hS68.pick [2,3,4,0,5,6] Qa) (by assumption)⟩
  have hst:(Wk X.b).1≠1:=h67
  refine Qr (Qp (Qd (Qg (Qb (Qc Qa Qa (Qh (Qd (Qo (Q5 (.inr Qa) Qa Qa ?_)))))))))
  exact⟨_,rfl, by rw[Dk (by omega) (i:=true) (by simp [hn]) hst]<;>rfl, by rw[Dk (by omega) (i:=true) (by simp [hn]) hst]; exact QY (X:=X) (hS66.pick [2,3,4,0,5,6] Qa) (by assumption)⟩
 have hS69:=QY (X:=X) (hS2.pick [1,2,3,4,5,0,6] Qa) (by assumption)
 refine Qb (Qe Qa Qa (Qi Qa Jp Qa (Qq Qa QF (hS69.cell 1 Qa Qa) Qa (Qz I9 Qa (M3 (hS69.sp [0] Qa) (hG.starL 1 Qa) (hO.starL 1 Qa) hW o.n) Qa ?_))))
 rintro _ w70 ⟨rfl,hS70⟩
 replace hS70:=hS70.jn Qa Qa
 refine Qh (Qp (Qd (Qg (Qb (Qc Qa Qa (Qh (Qd (Qo (Q5 (.inr Qa) Qa Qa ?_)))))))))
 exact⟨_,rfl, by rw[RY (by omega)]<;>rfl, by rw[RY (by omega)]; exact hS70.pick [0,2] Qa⟩
theorem O7 {w:World} [tq:Inhabited TwQ] {x:Nat} {X:TwD} {F:Th} (hS:Sat w [GW x X,F]) (hG:Ent F WireG) (hO:Ent F (Glob 0)) (hW:XW X) {o:OpD} {kv:Value} (hK:Ent F (RdI kv o.keep)) (S2:o.id≤9223372036854775807) (hkl:o.keep.length≤1000) (hm:X5 (X.a.move+1)) (hm2:X5 (X.b.move+1)):
    Calls prog 11 #[ptrV x 0,.agg #[intV o.dO,intV o.n,intV o.id,.int .u8 (o.b.toNat:Int),strV o.s,kv]] w (Ret fun v w'=>v=intV (XQ X o).1∧Sat w' [GW x (XQ X o).2,F]):= by
  rcases(by omega:o.n%2=0∨o.n%2=1)with h | h
  · exact step_f hS hG hO hW hK S2 hkl hm h
  · exact step_t hS hG hO hW hK S2 hkl hm2 h
