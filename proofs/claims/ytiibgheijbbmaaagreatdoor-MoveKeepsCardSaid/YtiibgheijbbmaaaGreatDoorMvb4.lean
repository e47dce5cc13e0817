/- the law: a step -/
import Derived.Test.YtiibgheijbbmaaaGreatDoorMvb3
set_option linter.unusedVariables false
set_option maxRecDepth 100000
set_option maxHeartbeats 4000000
namespace Go.Proofs.YtiibgheijbbmaaaGreatDoor
open Go.RowKit M Proofs.Tryz
theorem Tp {P:Program} {L:Env} {w:World} {d:Nat} {ty:TypeId} {pos:String} {aft:Array Edge} {x y:Operand} {t t2:TypeId} {a b:Int} (m:Nat) (hx:M.look L x=some (.int .i64 a)) (hy:M.look L y=some (.int .i64 b)) (hb:b=((2^m -1:Nat):Int)) (hm:Nat.blt m 64=true) {q:Int} (hq:((2^m:Nat):Int)=q):Ev P L w ⟨some d,.binOp .and t x y t2,ty,pos,aft,none⟩ (.int .i64 (a%q)):= by
  subst hq
  intro ρ hρ
  subst hb
  have :=N6 a m (by simpa [Nat.blt_eq]using hm)
  simp only[execOp,hρ _ _ hx,hρ _ _ hy,binOp,Op.intBits]
  simp only[IntKind.bits,eqGuard]
  simp only[BitVec.ofInt_natCast]at this⊢
  simp [-BitVec.toNat_and]at this⊢
  exact this
theorem Hv {P:Program} {L:Env} {w:World} {d:Nat} {ty:TypeId} {pos:String} {aft:Array Edge} {x y:Operand} {t t2:TypeId} {a b c:Int} (m:Nat) (hx:M.look L x=some (.int .i64 a)) (hy:M.look L y=some (.int .i64 b)) (hb:b=((2^m -1:Nat):Int)) (hm:Nat.blt m 64=true) {q:Int} (hq:((2^m:Nat):Int)=q) (hc:a%q=c):Ev P L w ⟨some d,.binOp .and t x y t2,ty,pos,aft,none⟩ (.int .i64 c):=hc▸Tp m hx hy hb hm hq
section
variable {X:TwD} {o:OpD} {i:Bool}
theorem PU (hk:o.dO%32=8) (hi:decide (o.n%2=1)=i):Zc X o=(0,Dd X o.n):= by subst hi; simp [Zc,hk]
theorem PT (hk:o.dO%32=9) (hi:decide (o.n%2=1)=i):Zc X o=(0,Hh X o.n):= by subst hi; simp [Zc,hk]
theorem MI (hk:o.dO%32=14) (hi:decide (o.n%2=1)=i):Zc X o=UU X i (JU (ZX X i)):= by subst hi; simp [Zc,hk]
theorem MH (hk:o.dO%32=15) (hi:decide (o.n%2=1)=i):Zc X o=UU X i (Wz (ZX X i)):= by subst hi; simp [Zc,hk]
theorem MG (hk:o.dO%32=16) (hi:decide (o.n%2=1)=i):Zc X o=UU X i (Ja (ZX X i)):= by subst hi; simp [Zc,hk]
theorem MF (hk:o.dO%32=17) (hi:decide (o.n%2=1)=i):Zc X o=UU X i (XT (ZX X i) o.id (List.replicate 64 o.b)):= by subst hi; simp [Zc,hk]
theorem ME (hk:o.dO%32=18) (hi:decide (o.n%2=1)=i):Zc X o=UU X i (XT (ZX X i) o.id (List.replicate 64 o.b)):= by subst hi; simp [Zc,hk]
theorem MD (hk:o.dO%32=19) (hi:decide (o.n%2=1)=i):Zc X o=UU X i (ZI (ZX X i) o.id):= by subst hi; simp [Zc,hk]
theorem MC (hk:o.dO%32=20) (hi:decide (o.n%2=1)=i):Zc X o=UU X i (ZH (ZX X i) o.s):= by subst hi; simp [Zc,hk]
theorem MB (hk:o.dO%32=21) (hi:decide (o.n%2=1)=i):Zc X o=(0,Vv X i (VB (ZX X i) o.keep)):= by subst hi; simp [Zc,hk]
theorem MA (hk:o.dO%32=22) (hi:decide (o.n%2=1)=i):Zc X o=UU X i (ZU (ZX X i)):= by subst hi; simp [Zc,hk]
theorem M9 (hk:o.dO%32=23) (hi:decide (o.n%2=1)=i):Zc X o=UU X i (ZU (ZX X i)):= by subst hi; simp [Zc,hk]
theorem M8 (hk:o.dO%32=24) (hi:decide (o.n%2=1)=i):Zc X o=(0,Vv X i {ZX X i with D:=DB (ZX X i).D o.id o.keep}):= by subst hi; simp [Zc,hk]
theorem M7 (hk:o.dO%32=25) (hi:decide (o.n%2=1)=i):Zc X o=(0,Vv X i {ZX X i with D:={(ZX X i).D with lost:=o.id%4}}):= by subst hi; simp [Zc,hk]
theorem M6 (hk:o.dO%32=26) (hi:decide (o.n%2=1)=i):Zc X o=(0,{X with cut:=true,fl:=[]}):= by subst hi; simp [Zc,hk]
theorem M5 (hk:o.dO%32=27) (hi:decide (o.n%2=1)=i):Zc X o=(0,{X with cut:=false}):= by subst hi; simp [Zc,hk]
theorem Wt (hk:10≤o.dO%32∧o.dO%32≤13) (hi:decide (o.n%2=1)=i):Zc X o=(0,Yh (Vv X i (Z4 (ZX X i)).1) i (Z4 (ZX X i)).2):= by
  subst hi
  unfold Zc
  rw[if_neg (by omega),if_neg (by omega),if_pos hk]
theorem Bd (hk:o.dO%32=28) (hi:decide (o.n%2=1)=i) (h:(Zg (ZX X i)).1=1):Zc X o=UU X i (Zw (ZX X i) ⟨o.s,[]⟩):= by subst hi; simp [Zc,hk,h]
theorem Bc (hk:o.dO%32=28) (hi:decide (o.n%2=1)=i) (h:(Zg (ZX X i)).1≠1):Zc X o=(0,X):= by subst hi; simp [Zc,hk,h]
theorem Bb (hk: ¬(8≤o.dO%32∧o.dO%32≤28)):Zc X o=(0,Jb X o.n):= by
  unfold Zc
  simp only[show o.dO%32≠8 by omega, show o.dO%32≠9 by omega, show ¬(10≤o.dO%32∧o.dO%32≤13) by omega, show o.dO%32≠14 by omega, show o.dO%32≠15 by omega, show o.dO%32≠16 by omega, show ¬(o.dO%32=17∨o.dO%32=18) by omega, show o.dO%32≠19 by omega, show o.dO%32≠20 by omega, show o.dO%32≠21 by omega, show ¬(o.dO%32=22∨o.dO%32=23) by omega, show o.dO%32≠24 by omega, show o.dO%32≠25 by omega, show o.dO%32≠26 by omega, show o.dO%32≠27 by omega, show o.dO%32≠28 by omega,if_false]
theorem Bu:Dd X o.n={X with fl:=Gp X.fl (Ze o.n X.fl.length)}:= by unfold Dd; rw[dlv_mod]
theorem Kf:Hh X o.n={X with fl:=Tx X.fl (Ze o.n X.fl.length)}:= by
  unfold Hh; rw[dbl_mod];unfold Ag
  cases X.fl[(Ze o.n X.fl.length).toNat]? with
  | none=>rfl
  | some p=> dsimp only;split<;>rfl
theorem Hl (E:EnD):(Z4 E).2.length≤100:= by
  have h1:= fun s:SeD=>Y0 E s.pages 4
  unfold Z4
  split
  · simp
  split
  · simp
  split
  · simp
  split
  · simp
  · rename_i s hs
    have h1:=Y0 E s.pages 4
    dsimp only
    split
    · split
      · dsimp only;omega
      · dsimp only; rw[List.length_append,Wn];omega
    · dsimp only; rw[List.length_append,List.length_map,List.length_take];split<;> simp <;>omega
end
theorem PY {F:Th}:Ent F (RdL shC (.slice none 0 0) ([]:AL Bs)):= fun _=>⟨none,0,rfl, by simp, fun i x h=> by cases h⟩
theorem step_f {w:World} {x:Nat} {X:TwD} {F:Th} (hS:Sat w [Dv x X,F]) (hG:Ent F WireG) (hO:Ent F (Glob 0)) (hW:XW X) {o:OpD} {kv:Value} (hK:Ent F (RdI kv o.keep)) (E6:o.id≤9223372036854775807) (hkl:o.keep.length≤1000) (hm:X4 (X.a.move+1)) (hn:o.n%2=0):
    Calls prog 11 #[ptrV x 0,.agg #[intV o.dO,intV o.n,intV o.id,.int .u8 (o.b.toNat:Int),strV o.s,kv]] w (Ret fun v w'=>v=intV (Zc X o).1∧Sat w' [Dv x (Zc X o).2,F]):= by
 obtain⟨eb,ecap,a,b,p,hS⟩:=HN hS
 refine Qy func11 Qa ntmps11 Qa ?_
 refine Qf (Qb (Za hS Qa Qa Qa ?_))
 intro bo w1 hS10
 have hS1:Sat w1 (Xb bo [intV o.dO,intV o.n,intV o.id,.int .u8 (o.b.toNat:Int),strV o.s,kv]::_):=hS10
 refine Qc Qa Qa (Qh (Qd (Qf ?_)))
 have hS2:=hS1.drew
 refine QN [0,1,2,3,4,5,6,7,8,9] [] W5 (by kernel_rfl) ?_
 refine QI Qa Qa Qa (Xn Qa Qa Qa (QO Qa Qa Qa Wc (QF Qa Qa Qa (Qn Qa Jx (hS2.cell 1 Qa Qa)) (QO Qa Qa Qa WZ (QF Qa Qa Qa (Qn Qa QH (hS2.cell 0 Qa Qa)) (Q9 Qa Qa Qa (fun _=>(Tp 1 Qa Qa Qa Qa (q:=2) Qa)) ?_))))))
 refine Q9 Qa Qa Qa (fun _=>(X0 0 Qa Qa (by omega) (by omega) Ym)) ?_
 refine QF Qa Qa Qa (XV RV 2 0 0 hS2 Qa (by rfl) J5 Qa Qa) ?_
 refine WV Qa Qa Qa (VC.nil (Qd (Qk [0,3,4,5] Qa (Qf (Qf (Qb (Qi Qa Sz Qa (Qr Qa QH (hS2.cell 0 Qa Qa) Qa (KO 5 Qa Qa Qa Qa (q:=32) Qa Qa (Qh (Qd (QK (Qf (Qb (QL Qa Qa Qa (Qc Qa Qa (Qh (Qd (Qv Qa (fun h3=> ?_) (fun h3=> ?_))))))))))))))))))))
 ·have hS4:=hS2.drew
  refine QN [0,1,2,3,4,5,6,7,8,9,10,11,12] [10,11,12] W5 (by kernel_rfl) ?_
  refine QI Qa Qa Qa (Xn Qa Qa Qa (QO Qa Qa Qa XA (QF Qa Qa Qa (Qn Qa Xp (hS4.cell 1 Qa Qa)) (QO Qa Qa Qa WZ (QF Qa Qa Qa (Qn Qa QH (hS4.cell 0 Qa Qa)) (QI Qa Qa Qa (Xn Qa Qa Qa (QO Qa Qa Qa XA (QF Qa Qa Qa (Qn Qa Xp (hS4.cell 1 Qa Qa)) (QV Qa Qa Qa Qa Qa Qa ?_))))))))))
  refine Q0 Yd Qa (Z1 (hS4.sp [5] Qa)) Qa ?_
  rintro _ w5 ⟨rfl,hS5⟩
  replace hS5:=hS5.jn Qa Qa
  refine Xd (.skip (by kernel_rfl) (.cons (.inl ⟨rfl,(Qn Qa QH (hS5.cell 1 Qa Qa))⟩) (.cons (.inl ⟨rfl,(Qn Qa Xp (hS5.cell 2 Qa Qa))⟩) .nil))) ?_
  refine QV Qa Qa Qa Qa Qa Qa ?_
  refine Q0 Jl Qa (Jg (hS5.sp [] Qa) o.n (X.fl.length:Int) (by have :=hW.ln;omega)) Qa ?_
  rintro _ w6 ⟨rfl,hS6⟩
  replace hS6:=hS6.jn Qa Qa
  refine Xd (.skip (by kernel_rfl) (.skip (by kernel_rfl) (.cons (.inl ⟨rfl,(Qn Qa Xp (hS6.cell 2 Qa Qa))⟩) .nil))) ?_
  refine QV Qa Qa Qa Qa Qa Qa ?_
  refine Q0 A9 Qa (Me (hS6.sp [0] Qa) (Ze o.n X.fl.length) hW.ln) Qa ?_
  rintro _ w7 ⟨⟨_,rfl⟩,hS7⟩
  replace hS7:=hS7.jn Qa Qa
  refine Xd (Xq (by kernel_rfl)) ?_
  refine VC.nil (Qq (Qd (Qk [4] Qa (Qf (Qb (Qc Qa Qa (Qh (Qd (Qo (Q5 (.inr Qa) Qa Qa ?_))))))))))
  exact⟨_,rfl, by rw[PU (by omega) (i:=false) (by simp [hn]),Bu]<;>rfl, by rw[PU (by omega) (i:=false) (by simp [hn]),Bu]; exact QW (X:={X with fl:=Gp X.fl (Ze o.n X.fl.length)}) (hS7.pick [2,3,4,5,0,6] Qa)⟩
 refine Qf (Qb (QL Qa Qa Qa (Qc Qa Qa (Qh (Qd (Qk [0,3,4,5,19,39] Qa (Qv Qa (fun h8=> ?_) (fun h8=> ?_))))))))
 ·have hS9:=hS2.drew
  refine QN [0,1,2,3,4,5,6,7,8,9,10,11,12] [10,11,12] W5 (by kernel_rfl) ?_
  refine QI Qa Qa Qa (Xn Qa Qa Qa (QO Qa Qa Qa XA (QF Qa Qa Qa (Qn Qa Xp (hS9.cell 1 Qa Qa)) (QO Qa Qa Qa WZ (QF Qa Qa Qa (Qn Qa QH (hS9.cell 0 Qa Qa)) (QI Qa Qa Qa (Xn Qa Qa Qa (QO Qa Qa Qa XA (QF Qa Qa Qa (Qn Qa Xp (hS9.cell 1 Qa Qa)) (QV Qa Qa Qa Qa Qa Qa ?_))))))))))
  refine Q0 Yd Qa (Z1 (hS9.sp [5] Qa)) Qa ?_
  rintro _ w10 ⟨rfl,hS10⟩
  replace hS10:=hS10.jn Qa Qa
  refine Xd (.skip (by kernel_rfl) (.cons (.inl ⟨rfl,(Qn Qa QH (hS10.cell 1 Qa Qa))⟩) (.cons (.inl ⟨rfl,(Qn Qa Xp (hS10.cell 2 Qa Qa))⟩) .nil))) ?_
  refine QV Qa Qa Qa Qa Qa Qa ?_
  refine Q0 Jl Qa (Jg (hS10.sp [] Qa) o.n (X.fl.length:Int) (by have :=hW.ln;omega)) Qa ?_
  rintro _ w11 ⟨rfl,hS11⟩
  replace hS11:=hS11.jn Qa Qa
  refine Xd (.skip (by kernel_rfl) (.skip (by kernel_rfl) (.cons (.inl ⟨rfl,(Qn Qa Xp (hS11.cell 2 Qa Qa))⟩) .nil))) ?_
  refine QV Qa Qa Qa Qa Qa Qa ?_
  refine Q0 A8 Qa (C8 (hS11.sp [0] Qa) (Ze o.n X.fl.length) hW.ln) Qa ?_
  rintro _ w12 ⟨⟨_,rfl⟩,hS12⟩
  replace hS12:=hS12.jn Qa Qa
  refine Xd (Xq (by kernel_rfl)) ?_
  refine VC.nil (Qq (Qd (Qk [4] Qa (Qf (Qb (Qc Qa Qa (Qh (Qd (Qo (Q5 (.inr Qa) Qa Qa ?_))))))))))
  exact⟨_,rfl, by rw[PT (by omega) (i:=false) (by simp [hn]),Kf]<;>rfl, by rw[PT (by omega) (i:=false) (by simp [hn]),Kf]; exact QW (X:={X with fl:=Tx X.fl (Ze o.n X.fl.length)}) (hS12.pick [2,3,4,5,0,6] Qa)⟩
 refine Qf (Qf (Qb (QL Qa Qa Qa (Qc Qa Qa (Qh (Qd (Qv Qa (fun h13=> ?_) (fun h13=> ?_))))))))
 ·refine Qt (Qd (J0 Qa (QD h13) ?_))
  have hS14:=hS2.drew
  refine QN [0,1,2,3,4,5,6] [5,6] W5 (by kernel_rfl) ?_
  refine QI Qa Qa Qa (QO Qa Qa Qa WZ (QF Qa Qa Qa (Qn Qa QH (hS14.cell 0 Qa Qa)) ?_))
  refine Q9 Qa Qa Qa (fun _=>(Hv 1 Qa Qa Qa Qa (q:=2) Qa (c:= if false=true then 1 else 0) (by rw[hn];rfl))) ?_
  refine QI Qa Qa Qa (QV Qa Qa Qa Qa Qa Qa ?_)
  refine Q0 U1 Qa (Hb (hS14.sp [3] Qa) (hG.starL 5 Qa) hW.a) Qa ?_
  rintro _ w15 hS15
  replace hS15:=hS15.jn Qa Qa
  have h1r:=hS15.own_one 0 Qa
  refine Xd (.cons (.inl ⟨Qa,(Qn Qa QH (hS15.cell 2 Qa Qa))⟩) .nil) ?_
  have hS16:=QW (X:={X with a:=(Z4 X.a).1}) (hS15.pick [3,4,1,5,6,0,2,7] Qa)
  refine QV Qa Qa Qa Qa Qa Qa ?_
  refine Q0 Yc Qa (Wv (i:=false) (hS16.sp [0,1] Qa) (by have :=Hl X.a;omega)) Qa ?_
  rintro _ w17 ⟨rfl,hS17⟩
  replace hS17:=hS17.jn Qa Qa
  refine Xd (Xq (by kernel_rfl)) ?_
  refine VC.nil (Qq (Qd (Qk [4] Qa (Qf (Qb (Qc Qa Qa (Qh (Qd (Qo (Q5 (.inr Qa) Qa Qa ?_))))))))))
  exact⟨_,rfl, by rw[Wt (by omega) (i:=false) (by simp [hn])]<;>rfl, by rw[Wt (by omega) (i:=false) (by simp [hn])]; exact hS17.pick [0,2] Qa⟩
 refine Qf (Qb (QL Qa Qa Qa (Qc Qa Qa (Qh (Qd (Qv Qa (fun h18=> ?_) (fun h18=> ?_)))))))
 ·refine Qt (Qd (J0 Qa (QD h18) ?_))
  have hS19:=hS2.drew
  refine QN [0,1,2,3,4,5,6] [5,6] W5 (by kernel_rfl) ?_
  refine QI Qa Qa Qa (QO Qa Qa Qa WZ (QF Qa Qa Qa (Qn Qa QH (hS19.cell 0 Qa Qa)) ?_))
  refine Q9 Qa Qa Qa (fun _=>(Hv 1 Qa Qa Qa Qa (q:=2) Qa (c:= if false=true then 1 else 0) (by rw[hn];rfl))) ?_
  refine QI Qa Qa Qa (QV Qa Qa Qa Qa Qa Qa ?_)
  refine Q0 U1 Qa (Hb (hS19.sp [3] Qa) (hG.starL 5 Qa) hW.a) Qa ?_
  rintro _ w20 hS20
  replace hS20:=hS20.jn Qa Qa
  have h1r:=hS20.own_one 0 Qa
  refine Xd (.cons (.inl ⟨Qa,(Qn Qa QH (hS20.cell 2 Qa Qa))⟩) .nil) ?_
  have hS21:=QW (X:={X with a:=(Z4 X.a).1}) (hS20.pick [3,4,1,5,6,0,2,7] Qa)
  refine QV Qa Qa Qa Qa Qa Qa ?_
  refine Q0 Yc Qa (Wv (i:=false) (hS21.sp [0,1] Qa) (by have :=Hl X.a;omega)) Qa ?_
  rintro _ w22 ⟨rfl,hS22⟩
  replace hS22:=hS22.jn Qa Qa
  refine Xd (Xq (by kernel_rfl)) ?_
  refine VC.nil (Qq (Qd (Qk [4] Qa (Qf (Qb (Qc Qa Qa (Qh (Qd (Qo (Q5 (.inr Qa) Qa Qa ?_))))))))))
  exact⟨_,rfl, by rw[Wt (by omega) (i:=false) (by simp [hn])]<;>rfl, by rw[Wt (by omega) (i:=false) (by simp [hn])]; exact hS22.pick [0,2] Qa⟩
 refine Qf (Qb (QL Qa Qa Qa (Qc Qa Qa (Qh (Qd (Qv Qa (fun h23=> ?_) (fun h23=> ?_)))))))
 ·refine Qt (Qd (J0 Qa (QD h23) ?_))
  have hS24:=hS2.drew
  refine QN [0,1,2,3,4,5,6] [5,6] W5 (by kernel_rfl) ?_
  refine QI Qa Qa Qa (QO Qa Qa Qa WZ (QF Qa Qa Qa (Qn Qa QH (hS24.cell 0 Qa Qa)) ?_))
  refine Q9 Qa Qa Qa (fun _=>(Hv 1 Qa Qa Qa Qa (q:=2) Qa (c:= if false=true then 1 else 0) (by rw[hn];rfl))) ?_
  refine QI Qa Qa Qa (QV Qa Qa Qa Qa Qa Qa ?_)
  refine Q0 U1 Qa (Hb (hS24.sp [3] Qa) (hG.starL 5 Qa) hW.a) Qa ?_
  rintro _ w25 hS25
  replace hS25:=hS25.jn Qa Qa
  have h1r:=hS25.own_one 0 Qa
  refine Xd (.cons (.inl ⟨Qa,(Qn Qa QH (hS25.cell 2 Qa Qa))⟩) .nil) ?_
  have hS26:=QW (X:={X with a:=(Z4 X.a).1}) (hS25.pick [3,4,1,5,6,0,2,7] Qa)
  refine QV Qa Qa Qa Qa Qa Qa ?_
  refine Q0 Yc Qa (Wv (i:=false) (hS26.sp [0,1] Qa) (by have :=Hl X.a;omega)) Qa ?_
  rintro _ w27 ⟨rfl,hS27⟩
  replace hS27:=hS27.jn Qa Qa
  refine Xd (Xq (by kernel_rfl)) ?_
  refine VC.nil (Qq (Qd (Qk [4] Qa (Qf (Qb (Qc Qa Qa (Qh (Qd (Qo (Q5 (.inr Qa) Qa Qa ?_))))))))))
  exact⟨_,rfl, by rw[Wt (by omega) (i:=false) (by simp [hn])]<;>rfl, by rw[Wt (by omega) (i:=false) (by simp [hn])]; exact hS27.pick [0,2] Qa⟩
 refine Qb (QL Qa Qa Qa (Qc Qa Qa (Qh (Qd (Qk [0,3,4,5,19,54] Qa (Qv Qa (fun h28=> ?_) (fun h28=> ?_)))))))
 ·have hS29:=hS2.drew
  refine QN [0,1,2,3,4,5,6] [5,6] W5 (by kernel_rfl) ?_
  refine QI Qa Qa Qa (QO Qa Qa Qa WZ (QF Qa Qa Qa (Qn Qa QH (hS29.cell 0 Qa Qa)) ?_))
  refine Q9 Qa Qa Qa (fun _=>(Hv 1 Qa Qa Qa Qa (q:=2) Qa (c:= if false=true then 1 else 0) (by rw[hn];rfl))) ?_
  refine QI Qa Qa Qa (QV Qa Qa Qa Qa Qa Qa ?_)
  refine Q0 U1 Qa (Hb (hS29.sp [3] Qa) (hG.starL 5 Qa) hW.a) Qa ?_
  rintro _ w30 hS30
  replace hS30:=hS30.jn Qa Qa
  have h1r:=hS30.own_one 0 Qa
  refine Xd (.cons (.inl ⟨Qa,(Qn Qa QH (hS30.cell 2 Qa Qa))⟩) .nil) ?_
  have hS31:=QW (X:={X with a:=(Z4 X.a).1}) (hS30.pick [3,4,1,5,6,0,2,7] Qa)
  refine QV Qa Qa Qa Qa Qa Qa ?_
  refine Q0 Yc Qa (Wv (i:=false) (hS31.sp [0,1] Qa) (by have :=Hl X.a;omega)) Qa ?_
  rintro _ w32 ⟨rfl,hS32⟩
  replace hS32:=hS32.jn Qa Qa
  refine Xd (Xq (by kernel_rfl)) ?_
  refine VC.nil (Qq (Qd (Qk [4] Qa (Qf (Qb (Qc Qa Qa (Qh (Qd (Qo (Q5 (.inr Qa) Qa Qa ?_))))))))))
  exact⟨_,rfl, by rw[Wt (by omega) (i:=false) (by simp [hn])]<;>rfl, by rw[Wt (by omega) (i:=false) (by simp [hn])]; exact hS32.pick [0,2] Qa⟩
 refine Qf (Qb (QL Qa Qa Qa (Qc Qa Qa (Qh (Qd (Qv Qa (fun h33=> ?_) (fun h33=> ?_)))))))
 ·refine Qf (Qb (Qe Qa Qa (Q0 P8 Qa (Tf (hS2.sp [3] Qa) (hG.starL 5 Qa) (hO.starL 5 Qa) hW.a.ses hm) Qa ?_)))
  rintro _ w34 ⟨rfl,hS34⟩
  replace hS34:=hS34.jn Qa Qa
  refine Qc Qa Qa (Qh (Qd (Qo (Qz (Qm (Q5 (.inr Qa) Qa Qa ?_))))))
  exact⟨_,rfl, by rw[MI (by omega) (i:=false) (by simp [hn])]<;>rfl, by rw[MI (by omega) (i:=false) (by simp [hn])]; exact QW (X:={X with a:=(JU X.a).2}) (hS34.pick [2,3,0,4,5,6] Qa)⟩
 refine Qf (Qb (QL Qa Qa Qa (Qc Qa Qa (Qh (Qd (Qv Qa (fun h35=> ?_) (fun h35=> ?_)))))))
 ·refine Qf (Qb (Qe Qa Qa (Q0 P7 Qa (Gj (hS2.sp [3] Qa)) Qa ?_)))
  rintro _ w36 ⟨rfl,hS36⟩
  replace hS36:=hS36.jn Qa Qa
  refine Qc Qa Qa (Qh (Qd (Qk [4] Qa (Qo (Qz (Qm (Q5 (.inr Qa) Qa Qa ?_)))))))
  exact⟨_,rfl, by rw[MH (by omega) (i:=false) (by simp [hn])]<;>rfl, by rw[MH (by omega) (i:=false) (by simp [hn])]; exact QW (X:={X with a:=(Wz X.a).2}) (hS36.pick [2,3,0,4,5,6] Qa)⟩
 refine Qf (Qb (QL Qa Qa Qa (Qc Qa Qa (Qh (Qd (Qk [0,3,4,5,19,74] Qa (Qv Qa (fun h37=> ?_) (fun h37=> ?_))))))))
 ·refine Qf (Qb (Qe Qa Qa (Q0 AA Qa (Ms (hS2.sp [3] Qa)) Qa ?_)))
  rintro _ w38 ⟨rfl,hS38⟩
  replace hS38:=hS38.jn Qa Qa
  refine Qc Qa Qa (Qh (Qd (Qo (Qz (Qm (Q5 (.inr Qa) Qa Qa ?_))))))
  exact⟨_,rfl, by rw[MG (by omega) (i:=false) (by simp [hn])]<;>rfl, by rw[MG (by omega) (i:=false) (by simp [hn])]; exact QW (X:={X with a:=(Ja X.a).2}) (hS38.pick [2,3,0,4,5,6] Qa)⟩
 refine Qf (Qf (Qb (QL Qa Qa Qa (Qc Qa Qa (Qh (Qd (Qv Qa (fun h39=> ?_) (fun h39=> ?_))))))))
 ·refine Qt (Qd (J0 Qa (QD h39) (Qf ?_)))
  have hS40:=hS2.drew
  refine QN [0,1,2,3,4,5,6,7] [5,6] W5 (by kernel_rfl) ?_
  refine QI Qa Qa Qa (QO Qa Qa Qa Hg (QF Qa Qa Qa (Qn Qa QH (hS40.cell 0 Qa Qa)) (QO Qa Qa Qa Bn (QF Qa Qa Qa (Qn Qa qau (hS40.cell 0 Qa Qa)) (QV Qa Qa Qa Qa Qa Qa ?_)))))
  refine Q0 Gs Qa (UG (hS40.sp [] Qa) o.b) Qa ?_
  rintro _ w41 ⟨rfl,hS41⟩
  replace hS41:=hS41.jn Qa Qa
  refine Xd (.skip (by kernel_rfl) (.cons (.inl ⟨rfl,(Qn Qa QH (hS41.cell 0 Qa Qa))⟩) .nil)) ?_
  refine QV Qa Qa Qa Qa Qa Qa ?_
  refine Q0 T4 Qa (UT (hS41.sp [3] Qa) o.id (List.replicate 64 o.b) (fun x hx=>(hW.a.ses x hx).srt) (fun x hx=>(hW.a.ses x hx).cnt)) Qa ?_
  rintro _ w42 ⟨rfl,hS42⟩
  replace hS42:=hS42.jn Qa Qa
  refine Xd (Xq (by kernel_rfl)) ?_
  refine WV Qa Qa Qa (VC.nil (Qd (Qk [4] Qa (Qo (Qz (Qm (Q5 (.inr Qa) Qa Qa ?_)))))))
  exact⟨_,rfl, by rw[MF (by omega) (i:=false) (by simp [hn])]<;>rfl, by rw[MF (by omega) (i:=false) (by simp [hn])]; exact QW (X:={X with a:=(XT X.a o.id (List.replicate 64 o.b)).2}) (hS42.pick [2,3,0,4,5,6] Qa)⟩
 refine Qb (QL Qa Qa Qa (Qc Qa Qa (Qh (Qd (Qv Qa (fun h43=> ?_) (fun h43=> ?_))))))
 ·refine Qf ?_
  have hS44:=hS2.drew
  refine QN [0,1,2,3,4,5,6,7] [5,6] W5 (by kernel_rfl) ?_
  refine QI Qa Qa Qa (QO Qa Qa Qa Hg (QF Qa Qa Qa (Qn Qa QH (hS44.cell 0 Qa Qa)) (QO Qa Qa Qa Bn (QF Qa Qa Qa (Qn Qa qau (hS44.cell 0 Qa Qa)) (QV Qa Qa Qa Qa Qa Qa ?_)))))
  refine Q0 Gs Qa (UG (hS44.sp [] Qa) o.b) Qa ?_
  rintro _ w45 ⟨rfl,hS45⟩
  replace hS45:=hS45.jn Qa Qa
  refine Xd (.skip (by kernel_rfl) (.cons (.inl ⟨rfl,(Qn Qa QH (hS45.cell 0 Qa Qa))⟩) .nil)) ?_
  refine QV Qa Qa Qa Qa Qa Qa ?_
  refine Q0 T4 Qa (UT (hS45.sp [3] Qa) o.id (List.replicate 64 o.b) (fun x hx=>(hW.a.ses x hx).srt) (fun x hx=>(hW.a.ses x hx).cnt)) Qa ?_
  rintro _ w46 ⟨rfl,hS46⟩
  replace hS46:=hS46.jn Qa Qa
  refine Xd (Xq (by kernel_rfl)) ?_
  refine WV Qa Qa Qa (VC.nil (Qd (Qk [4] Qa (Qo (Qz (Qm (Q5 (.inr Qa) Qa Qa ?_)))))))
  exact⟨_,rfl, by rw[ME (by omega) (i:=false) (by simp [hn])]<;>rfl, by rw[ME (by omega) (i:=false) (by simp [hn])]; exact QW (X:={X with a:=(XT X.a o.id (List.replicate 64 o.b)).2}) (hS46.pick [2,3,0,4,5,6] Qa)⟩
 refine Qf (Qb (QL Qa Qa Qa (Qc Qa Qa (Qh (Qd (Qk [0,3,4,5,19,88] Qa (Qv Qa (fun h47=> ?_) (fun h47=> ?_))))))))
 ·refine Qf (Qb (Qe Qa Qa (Qi Qa Hg Qa (Qr Qa QH (hS2.cell 0 Qa Qa) Qa (Q0 A7 Qa (GO (hS2.sp [3] Qa) o.id) Qa ?_)))))
  rintro _ w48 ⟨rfl,hS48⟩
  replace hS48:=hS48.jn Qa Qa
  refine Qc Qa Qa (Qh (Qd (Qo (Qz (Qm (Q5 (.inr Qa) Qa Qa ?_))))))
  exact⟨_,rfl, by rw[MD (by omega) (i:=false) (by simp [hn])]<;>rfl, by rw[MD (by omega) (i:=false) (by simp [hn])]; exact QW (X:={X with a:=(ZI X.a o.id).2}) (hS48.pick [2,3,0,4,5,6] Qa)⟩
 refine Qf (Qb (QL Qa Qa Qa (Qc Qa Qa (Qh (Qd (Qv Qa (fun h49=> ?_) (fun h49=> ?_)))))))
 ·refine Qf (Qb (Qe Qa Qa (Qi Qa Rr Qa (Qr Qa Zx (hS2.cell 0 Qa Qa) Qa (Q0 A0 Qa (GF (hS2.sp [3] Qa) o.s) Qa ?_)))))
  rintro _ w50 ⟨rfl,hS50⟩
  replace hS50:=hS50.jn Qa Qa
  refine Qc Qa Qa (Qh (Qd (Qk [4] Qa (Qo (Qz (Qm (Q5 (.inr Qa) Qa Qa ?_)))))))
  exact⟨_,rfl, by rw[MC (by omega) (i:=false) (by simp [hn])]<;>rfl, by rw[MC (by omega) (i:=false) (by simp [hn])]; exact QW (X:={X with a:=(ZH X.a o.s).2}) (hS50.pick [2,3,0,4,5,6] Qa)⟩
 refine Qf (Qb (QL Qa Qa Qa (Qc Qa Qa (Qh (Qd (Qv Qa (fun h51=> ?_) (fun h51=> ?_)))))))
 ·refine Qb (Qe Qa Qa (Qi Qa Rq Qa (Qr Qa RC (hS2.cell 0 Qa Qa) Qa (Q0 Az Qa (Mr (hS2.sp [3] Qa) (hK.starL 5 Qa)) Qa ?_))))
  rintro _ w52 ⟨rfl,hS52⟩
  replace hS52:=hS52.jn Qa Qa
  refine Qh (Qq (Qd (Qk [4] Qa (Qf (Qb (Qc Qa Qa (Qh (Qd (Qo (Q5 (.inr Qa) Qa Qa ?_))))))))))
  exact⟨_,rfl, by rw[MB (by omega) (i:=false) (by simp [hn])]<;>rfl, by rw[MB (by omega) (i:=false) (by simp [hn])]; exact QW (X:={X with a:=(VB X.a o.keep)}) (hS52.pick [2,3,0,4,5,6] Qa)⟩
 refine Qf (Qf (Qb (QL Qa Qa Qa (Qc Qa Qa (Qh (Qd (Qk [0,3,4,5,19,106] Qa (Qv Qa (fun h53=> ?_) (fun h53=> ?_)))))))))
 ·refine Qt (Qd (J0 Qa (QD h53) (Qf (Qb (Qe Qa Qa (Q0 T7 Qa (Kc (hS2.sp [3] Qa) (hG.starL 5 Qa) (hO.starL 5 Qa)) Qa ?_))))))
  rintro _ w54 ⟨rfl,hS54⟩
  replace hS54:=hS54.jn Qa Qa
  refine Qc Qa Qa (Qh (Qd (Qo (Qz (Qm (Q5 (.inr Qa) Qa Qa ?_))))))
  exact⟨_,rfl, by rw[MA (by omega) (i:=false) (by simp [hn])]<;>rfl, by rw[MA (by omega) (i:=false) (by simp [hn])]; exact QW (X:={X with a:=(ZU X.a).2}) (hS54.pick [2,3,0,4,5,6] Qa)⟩
 refine Qb (QL Qa Qa Qa (Qc Qa Qa (Qh (Qd (Qv Qa (fun h55=> ?_) (fun h55=> ?_))))))
 ·refine Qf (Qb (Qe Qa Qa (Q0 T7 Qa (Kc (hS2.sp [3] Qa) (hG.starL 5 Qa) (hO.starL 5 Qa)) Qa ?_)))
  rintro _ w56 ⟨rfl,hS56⟩
  replace hS56:=hS56.jn Qa Qa
  refine Qc Qa Qa (Qh (Qd (Qo (Qz (Qm (Q5 (.inr Qa) Qa Qa ?_))))))
  exact⟨_,rfl, by rw[M9 (by omega) (i:=false) (by simp [hn])]<;>rfl, by rw[M9 (by omega) (i:=false) (by simp [hn])]; exact QW (X:={X with a:=(ZU X.a).2}) (hS56.pick [2,3,0,4,5,6] Qa)⟩
 refine Qf (Qb (QL Qa Qa Qa (Qc Qa Qa (Qh (Qd (Qv Qa (fun h57=> ?_) (fun h57=> ?_)))))))
 ·refine Qb (Qe Qa Qa (Qi Qa Hg Qa (Qr Qa QH (hS2.cell 0 Qa Qa) Qa (Qi Qa Rq Qa (Qr Qa RC (hS2.cell 0 Qa Qa) Qa (Q0 AC Qa (S6 (hS2.sp [3] Qa) (hK.starL 5 Qa) o.id (by omega) (by omega)) Qa ?_))))))
  rintro _ w58 ⟨rfl,hS58⟩
  replace hS58:=hS58.jn Qa Qa
  refine Qh (Qq (Qd (Qk [4] Qa (Qf (Qb (Qc Qa Qa (Qh (Qd (Qo (Q5 (.inr Qa) Qa Qa ?_))))))))))
  exact⟨_,rfl, by rw[M8 (by omega) (i:=false) (by simp [hn])]<;>rfl, by rw[M8 (by omega) (i:=false) (by simp [hn])]; exact QW (X:={X with a:={X.a with D:=DB X.a.D o.id o.keep}}) (hS58.pick [2,3,0,4,5,6] Qa)⟩
 refine Qf (Qb (QL Qa Qa Qa (Qc Qa Qa (Qh (Qd (Qk [0,3,4,5,19,119] Qa (Qv Qa (fun h59=> ?_) (fun h59=> ?_))))))))
 ·refine Qb (Qe Qa Qa (Qi Qa Hg Qa (Qr Qa QH (hS2.cell 0 Qa Qa) Qa (KO 2 Qa Qa Qa Qa (q:=4) Qa Qa (Q0 AD Qa (Nu (hS2.sp [3] Qa) (o.id%4) (by omega)) Qa ?_)))))
  rintro _ w60 ⟨rfl,hS60⟩
  replace hS60:=hS60.jn Qa Qa
  refine Qh (Qq (Qd (Qk [4] Qa (Qf (Qb (Qc Qa Qa (Qh (Qd (Qo (Q5 (.inr Qa) Qa Qa ?_))))))))))
  have E6:max (o.id%4) 0=o.id%4:= by omega
  rw[E6]at hS60
  exact⟨_,rfl, by rw[M7 (by omega) (i:=false) (by simp [hn])]<;>rfl, by rw[M7 (by omega) (i:=false) (by simp [hn])]; exact QW (X:={X with a:={X.a with D:={X.a.D with lost:=o.id%4}}}) (hS60.pick [2,3,0,4,5,6] Qa)⟩
 refine Qf (Qb (QL Qa Qa Qa (Qc Qa Qa (Qh (Qd (Qv Qa (fun h61=> ?_) (fun h61=> ?_)))))))
 ·refine Qb (Qe Qa Qa (Ql Qa Qa (Qi Qa XA Qa (Qr Qa Xp (hS2.cell 1 Qa Qa) Qa (Q0 Ay Qa (C9 (hS2.sp [5] Qa)) Qa ?_)))))
  rintro _ w62 ⟨rfl,hS62⟩
  replace hS62:=hS62.jn Qa Qa
  refine Qh (Qq (Qd (Qk [4] Qa (Qf (Qb (Qc Qa Qa (Qh (Qd (Qo (Q5 (.inr Qa) Qa Qa ?_))))))))))
  exact⟨_,rfl, by rw[M6 (by omega) (i:=false) (by simp [hn])]<;>rfl, by rw[M6 (by omega) (i:=false) (by simp [hn])]; exact QW (X:={X with cut:=true,fl:=[]}) (hS62.pick [2,3,4,5,0,6] Qa)⟩
 refine Qf (Qb (QL Qa Qa Qa (Qc Qa Qa (Qh (Qd (Qv Qa (fun h63=> ?_) (fun h63=> ?_)))))))
 ·refine Qb (Qe Qa Qa (Ql Qa Qa (Qi Qa XA Qa (Qr Qa Xp (hS2.cell 1 Qa Qa) Qa (Q0 AB Qa (Md (hS2.sp [5] Qa)) Qa ?_)))))
  rintro _ w64 ⟨rfl,hS64⟩
  replace hS64:=hS64.jn Qa Qa
  refine Qh (Qq (Qd (Qk [4] Qa (Qf (Qb (Qc Qa Qa (Qh (Qd (Qo (Q5 (.inr Qa) Qa Qa ?_))))))))))
  exact⟨_,rfl, by rw[M5 (by omega) (i:=false) (by simp [hn])]<;>rfl, by rw[M5 (by omega) (i:=false) (by simp [hn])]; exact QW (X:={X with cut:=false}) (hS64.pick [2,3,4,5,0,6] Qa)⟩
 refine Qf (Qb (QL Qa Qa Qa (Qc Qa Qa (Qh (Qd (Qk [0,3,4,5,140] Qa (Qv Qa (fun h65=> ?_) (fun h65=> ?_))))))))
 ·refine Qf (Qb (Qe Qa Qa (Q0 Gt Qa (HF (hS2.sp [3] Qa) (hG.starL 5 Qa) (hO.starL 5 Qa)) Qa ?_)))
  rintro _ w66 ⟨rfl,hS66⟩
  replace hS66:=hS66.jn Qa Qa
  refine Qe Qa Qa (Q7 Qa Qa Qa (Q7 Qa Qa Qa (Qc Qa Qa (Qc Qa Qa (Qh (Qd (Qk [3,4,5,6] Qa (Qf (Qb (Qe Qa Qa (QL Qa Qa Qa (Qh (Qd (Qv Qa (fun h67=> ?_) (fun h67=> ?_)))))))))))))))
  ·have hst:(Zg X.a).1=1:=h67
   refine Qf (Qb (Qe Qa Qa (Qi Qa Rr Qa (Qr Qa Zx (hS66.cell 1 Qa Qa) Qa (Zs Qa Sc PC Lt Qa Qa (Q0 T6 Qa (R9 (hS66.sp [0] Qa) (hG.starL 5 Qa) (hO.starL 5 Qa) (t:=o.s) (l:=[]) PY) Qa ?_))))))
   rintro _ w68 ⟨rfl,hS68⟩
   replace hS68:=hS68.jn Qa Qa
   refine Qc Qa Qa (Qh (Qd (Qk [4] Qa (Qo (Qz (Qm (Q5 (.inr Qa) Qa Qa ?_)))))))
   exact⟨_,rfl, by rw[Bd (by omega) (i:=false) (by simp [hn]) hst]<;>rfl, by rw[Bd (by omega) (i:=false) (by simp [hn]) hst]; exact QW (X:={X with a:=(Zw X.a ⟨o.s,[]⟩).2}) (hS68.pick [2,3,0,4,5,6] Qa)⟩
  have hst:(Zg X.a).1≠1:=h67
  refine Qt (Qq (Qd (Qf (Qb (Qc Qa Qa (Qh (Qd (Qo (Q5 (.inr Qa) Qa Qa ?_)))))))))
  exact⟨_,rfl, by rw[Bc (by omega) (i:=false) (by simp [hn]) hst]<;>rfl, by rw[Bc (by omega) (i:=false) (by simp [hn]) hst]; exact QW (X:=X) (hS66.pick [2,3,0,4,5,6] Qa)⟩
 have hS69:=QW (X:=X) (hS2.pick [1,2,3,4,5,0,6] Qa)
 refine Qb (Qe Qa Qa (Qi Qa WZ Qa (Qr Qa QH (hS69.cell 1 Qa Qa) Qa (Q0 Ax Qa (BU (hS69.sp [0] Qa) (hG.starL 1 Qa) (hO.starL 1 Qa) hW o.n) Qa ?_))))
 rintro _ w70 ⟨rfl,hS70⟩
 replace hS70:=hS70.jn Qa Qa
 refine Qh (Qq (Qd (Qf (Qb (Qc Qa Qa (Qh (Qd (Qo (Q5 (.inr Qa) Qa Qa ?_)))))))))
 exact⟨_,rfl, by rw[Bb (by omega)]<;>rfl, by rw[Bb (by omega)]; exact hS70.pick [0,2] Qa⟩
theorem step_t {w:World} {x:Nat} {X:TwD} {F:Th} (hS:Sat w [Dv x X,F]) (hG:Ent F WireG) (hO:Ent F (Glob 0)) (hW:XW X) {o:OpD} {kv:Value} (hK:Ent F (RdI kv o.keep)) (E6:o.id≤9223372036854775807) (hkl:o.keep.length≤1000) (hm:X4 (X.b.move+1)) (hn:o.n%2=1):
    Calls prog 11 #[ptrV x 0,.agg #[intV o.dO,intV o.n,intV o.id,.int .u8 (o.b.toNat:Int),strV o.s,kv]] w (Ret fun v w'=>v=intV (Zc X o).1∧Sat w' [Dv x (Zc X o).2,F]):= by
 obtain⟨eb,ecap,a,b,p,hS⟩:=HN hS
 refine Qy func11 Qa ntmps11 Qa ?_
 refine Qf (Qb (Za hS Qa Qa Qa ?_))
 intro bo w1 hS10
 have hS1:Sat w1 (Xb bo [intV o.dO,intV o.n,intV o.id,.int .u8 (o.b.toNat:Int),strV o.s,kv]::_):=hS10
 refine Qc Qa Qa (Qh (Qd (Qf ?_)))
 have hS2:=hS1.drew
 refine QN [0,1,2,3,4,5,6,7,8,9] [] W5 (by kernel_rfl) ?_
 refine QI Qa Qa Qa (Xn Qa Qa Qa (QO Qa Qa Qa Wc (QF Qa Qa Qa (Qn Qa Jx (hS2.cell 1 Qa Qa)) (QO Qa Qa Qa WZ (QF Qa Qa Qa (Qn Qa QH (hS2.cell 0 Qa Qa)) (Q9 Qa Qa Qa (fun _=>(Tp 1 Qa Qa Qa Qa (q:=2) Qa)) ?_))))))
 refine Q9 Qa Qa Qa (fun _=>(X0 1 Qa Qa (by omega) (by omega) Ym)) ?_
 refine QF Qa Qa Qa (XV RV 2 1 0 hS2 Qa (by rfl) J5 Qa Qa) ?_
 refine WV Qa Qa Qa (VC.nil (Qd (Qk [0,3,4,5] Qa (Qf (Qf (Qb (Qi Qa Sz Qa (Qr Qa QH (hS2.cell 0 Qa Qa) Qa (KO 5 Qa Qa Qa Qa (q:=32) Qa Qa (Qh (Qd (QK (Qf (Qb (QL Qa Qa Qa (Qc Qa Qa (Qh (Qd (Qv Qa (fun h3=> ?_) (fun h3=> ?_))))))))))))))))))))
 ·have hS4:=hS2.drew
  refine QN [0,1,2,3,4,5,6,7,8,9,10,11,12] [10,11,12] W5 (by kernel_rfl) ?_
  refine QI Qa Qa Qa (Xn Qa Qa Qa (QO Qa Qa Qa XA (QF Qa Qa Qa (Qn Qa Xp (hS4.cell 1 Qa Qa)) (QO Qa Qa Qa WZ (QF Qa Qa Qa (Qn Qa QH (hS4.cell 0 Qa Qa)) (QI Qa Qa Qa (Xn Qa Qa Qa (QO Qa Qa Qa XA (QF Qa Qa Qa (Qn Qa Xp (hS4.cell 1 Qa Qa)) (QV Qa Qa Qa Qa Qa Qa ?_))))))))))
  refine Q0 Yd Qa (Z1 (hS4.sp [5] Qa)) Qa ?_
  rintro _ w5 ⟨rfl,hS5⟩
  replace hS5:=hS5.jn Qa Qa
  refine Xd (.skip (by kernel_rfl) (.cons (.inl ⟨rfl,(Qn Qa QH (hS5.cell 1 Qa Qa))⟩) (.cons (.inl ⟨rfl,(Qn Qa Xp (hS5.cell 2 Qa Qa))⟩) .nil))) ?_
  refine QV Qa Qa Qa Qa Qa Qa ?_
  refine Q0 Jl Qa (Jg (hS5.sp [] Qa) o.n (X.fl.length:Int) (by have :=hW.ln;omega)) Qa ?_
  rintro _ w6 ⟨rfl,hS6⟩
  replace hS6:=hS6.jn Qa Qa
  refine Xd (.skip (by kernel_rfl) (.skip (by kernel_rfl) (.cons (.inl ⟨rfl,(Qn Qa Xp (hS6.cell 2 Qa Qa))⟩) .nil))) ?_
  refine QV Qa Qa Qa Qa Qa Qa ?_
  refine Q0 A9 Qa (Me (hS6.sp [0] Qa) (Ze o.n X.fl.length) hW.ln) Qa ?_
  rintro _ w7 ⟨⟨_,rfl⟩,hS7⟩
  replace hS7:=hS7.jn Qa Qa
  refine Xd (Xq (by kernel_rfl)) ?_
  refine VC.nil (Qq (Qd (Qk [4] Qa (Qf (Qb (Qc Qa Qa (Qh (Qd (Qo (Q5 (.inr Qa) Qa Qa ?_))))))))))
  exact⟨_,rfl, by rw[PU (by omega) (i:=true) (by simp [hn]),Bu]<;>rfl, by rw[PU (by omega) (i:=true) (by simp [hn]),Bu]; exact QW (X:={X with fl:=Gp X.fl (Ze o.n X.fl.length)}) (hS7.pick [2,3,4,5,0,6] Qa)⟩
 refine Qf (Qb (QL Qa Qa Qa (Qc Qa Qa (Qh (Qd (Qk [0,3,4,5,19,39] Qa (Qv Qa (fun h8=> ?_) (fun h8=> ?_))))))))
 ·have hS9:=hS2.drew
  refine QN [0,1,2,3,4,5,6,7,8,9,10,11,12] [10,11,12] W5 (by kernel_rfl) ?_
  refine QI Qa Qa Qa (Xn Qa Qa Qa (QO Qa Qa Qa XA (QF Qa Qa Qa (Qn Qa Xp (hS9.cell 1 Qa Qa)) (QO Qa Qa Qa WZ (QF Qa Qa Qa (Qn Qa QH (hS9.cell 0 Qa Qa)) (QI Qa Qa Qa (Xn Qa Qa Qa (QO Qa Qa Qa XA (QF Qa Qa Qa (Qn Qa Xp (hS9.cell 1 Qa Qa)) (QV Qa Qa Qa Qa Qa Qa ?_))))))))))
  refine Q0 Yd Qa (Z1 (hS9.sp [5] Qa)) Qa ?_
  rintro _ w10 ⟨rfl,hS10⟩
  replace hS10:=hS10.jn Qa Qa
  refine Xd (.skip (by kernel_rfl) (.cons (.inl ⟨rfl,(Qn Qa QH (hS10.cell 1 Qa Qa))⟩) (.cons (.inl ⟨rfl,(Qn Qa Xp (hS10.cell 2 Qa Qa))⟩) .nil))) ?_
  refine QV Qa Qa Qa Qa Qa Qa ?_
  refine Q0 Jl Qa (Jg (hS10.sp [] Qa) o.n (X.fl.length:Int) (by have :=hW.ln;omega)) Qa ?_
  rintro _ w11 ⟨rfl,hS11⟩
  replace hS11:=hS11.jn Qa Qa
  refine Xd (.skip (by kernel_rfl) (.skip (by kernel_rfl) (.cons (.inl ⟨rfl,(Qn Qa Xp (hS11.cell 2 Qa Qa))⟩) .nil))) ?_
  refine QV Qa Qa Qa Qa Qa Qa ?_
  refine Q0 A8 Qa (C8 (hS11.sp [0] Qa) (Ze o.n X.fl.length) hW.ln) Qa ?_
  rintro _ w12 ⟨⟨_,rfl⟩,hS12⟩
  replace hS12:=hS12.jn Qa Qa
  refine Xd (Xq (by kernel_rfl)) ?_
  refine VC.nil (Qq (Qd (Qk [4] Qa (Qf (Qb (Qc Qa Qa (Qh (Qd (Qo (Q5 (.inr Qa) Qa Qa ?_))))))))))
  exact⟨_,rfl, by rw[PT (by omega) (i:=true) (by simp [hn]),Kf]<;>rfl, by rw[PT (by omega) (i:=true) (by simp [hn]),Kf]; exact QW (X:={X with fl:=Tx X.fl (Ze o.n X.fl.length)}) (hS12.pick [2,3,4,5,0,6] Qa)⟩
 refine Qf (Qf (Qb (QL Qa Qa Qa (Qc Qa Qa (Qh (Qd (Qv Qa (fun h13=> ?_) (fun h13=> ?_))))))))
 ·refine Qt (Qd (J0 Qa (QD h13) ?_))
  have hS14:=hS2.drew
  refine QN [0,1,2,3,4,5,6] [5,6] W5 (by kernel_rfl) ?_
  refine QI Qa Qa Qa (QO Qa Qa Qa WZ (QF Qa Qa Qa (Qn Qa QH (hS14.cell 0 Qa Qa)) ?_))
  refine Q9 Qa Qa Qa (fun _=>(Hv 1 Qa Qa Qa Qa (q:=2) Qa (c:= if true=true then 1 else 0) (by rw[hn];rfl))) ?_
  refine QI Qa Qa Qa (QV Qa Qa Qa Qa Qa Qa ?_)
  refine Q0 U1 Qa (Hb (hS14.sp [4] Qa) (hG.starL 5 Qa) hW.b) Qa ?_
  rintro _ w15 hS15
  replace hS15:=hS15.jn Qa Qa
  have h1r:=hS15.own_one 0 Qa
  refine Xd (.cons (.inl ⟨Qa,(Qn Qa QH (hS15.cell 2 Qa Qa))⟩) .nil) ?_
  have hS16:=QW (X:={X with b:=(Z4 X.b).1}) (hS15.pick [3,4,5,1,6,0,2,7] Qa)
  refine QV Qa Qa Qa Qa Qa Qa ?_
  refine Q0 Yc Qa (Wv (i:=true) (hS16.sp [0,1] Qa) (by have :=Hl X.b;omega)) Qa ?_
  rintro _ w17 ⟨rfl,hS17⟩
  replace hS17:=hS17.jn Qa Qa
  refine Xd (Xq (by kernel_rfl)) ?_
  refine VC.nil (Qq (Qd (Qk [4] Qa (Qf (Qb (Qc Qa Qa (Qh (Qd (Qo (Q5 (.inr Qa) Qa Qa ?_))))))))))
  exact⟨_,rfl, by rw[Wt (by omega) (i:=true) (by simp [hn])]<;>rfl, by rw[Wt (by omega) (i:=true) (by simp [hn])]; exact hS17.pick [0,2] Qa⟩
 refine Qf (Qb (QL Qa Qa Qa (Qc Qa Qa (Qh (Qd (Qv Qa (fun h18=> ?_) (fun h18=> ?_)))))))
 ·refine Qt (Qd (J0 Qa (QD h18) ?_))
  have hS19:=hS2.drew
  refine QN [0,1,2,3,4,5,6] [5,6] W5 (by kernel_rfl) ?_
  refine QI Qa Qa Qa (QO Qa Qa Qa WZ (QF Qa Qa Qa (Qn Qa QH (hS19.cell 0 Qa Qa)) ?_))
  refine Q9 Qa Qa Qa (fun _=>(Hv 1 Qa Qa Qa Qa (q:=2) Qa (c:= if true=true then 1 else 0) (by rw[hn];rfl))) ?_
  refine QI Qa Qa Qa (QV Qa Qa Qa Qa Qa Qa ?_)
  refine Q0 U1 Qa (Hb (hS19.sp [4] Qa) (hG.starL 5 Qa) hW.b) Qa ?_
  rintro _ w20 hS20
  replace hS20:=hS20.jn Qa Qa
  have h1r:=hS20.own_one 0 Qa
  refine Xd (.cons (.inl ⟨Qa,(Qn Qa QH (hS20.cell 2 Qa Qa))⟩) .nil) ?_
  have hS21:=QW (X:={X with b:=(Z4 X.b).1}) (hS20.pick [3,4,5,1,6,0,2,7] Qa)
  refine QV Qa Qa Qa Qa Qa Qa ?_
  refine Q0 Yc Qa (Wv (i:=true) (hS21.sp [0,1] Qa) (by have :=Hl X.b;omega)) Qa ?_
  rintro _ w22 ⟨rfl,hS22⟩
  replace hS22:=hS22.jn Qa Qa
  refine Xd (Xq (by kernel_rfl)) ?_
  refine VC.nil (Qq (Qd (Qk [4] Qa (Qf (Qb (Qc Qa Qa (Qh (Qd (Qo (Q5 (.inr Qa) Qa Qa ?_))))))))))
  exact⟨_,rfl, by rw[Wt (by omega) (i:=true) (by simp [hn])]<;>rfl, by rw[Wt (by omega) (i:=true) (by simp [hn])]; exact hS22.pick [0,2] Qa⟩
 refine Qf (Qb (QL Qa Qa Qa (Qc Qa Qa (Qh (Qd (Qv Qa (fun h23=> ?_) (fun h23=> ?_)))))))
 ·refine Qt (Qd (J0 Qa (QD h23) ?_))
  have hS24:=hS2.drew
  refine QN [0,1,2,3,4,5,6] [5,6] W5 (by kernel_rfl) ?_
  refine QI Qa Qa Qa (QO Qa Qa Qa WZ (QF Qa Qa Qa (Qn Qa QH (hS24.cell 0 Qa Qa)) ?_))
  refine Q9 Qa Qa Qa (fun _=>(Hv 1 Qa Qa Qa Qa (q:=2) Qa (c:= if true=true then 1 else 0) (by rw[hn];rfl))) ?_
  refine QI Qa Qa Qa (QV Qa Qa Qa Qa Qa Qa ?_)
  refine Q0 U1 Qa (Hb (hS24.sp [4] Qa) (hG.starL 5 Qa) hW.b) Qa ?_
  rintro _ w25 hS25
  replace hS25:=hS25.jn Qa Qa
  have h1r:=hS25.own_one 0 Qa
  refine Xd (.cons (.inl ⟨Qa,(Qn Qa QH (hS25.cell 2 Qa Qa))⟩) .nil) ?_
  have hS26:=QW (X:={X with b:=(Z4 X.b).1}) (hS25.pick [3,4,5,1,6,0,2,7] Qa)
  refine QV Qa Qa Qa Qa Qa Qa ?_
  refine Q0 Yc Qa (Wv (i:=true) (hS26.sp [0,1] Qa) (by have :=Hl X.b;omega)) Qa ?_
  rintro _ w27 ⟨rfl,hS27⟩
  replace hS27:=hS27.jn Qa Qa
  refine Xd (Xq (by kernel_rfl)) ?_
  refine VC.nil (Qq (Qd (Qk [4] Qa (Qf (Qb (Qc Qa Qa (Qh (Qd (Qo (Q5 (.inr Qa) Qa Qa ?_))))))))))
  exact⟨_,rfl, by rw[Wt (by omega) (i:=true) (by simp [hn])]<;>rfl, by rw[Wt (by omega) (i:=true) (by simp [hn])]; exact hS27.pick [0,2] Qa⟩
 refine Qb (QL Qa Qa Qa (Qc Qa Qa (Qh (Qd (Qk [0,3,4,5,19,54] Qa (Qv Qa (fun h28=> ?_) (fun h28=> ?_)))))))
 ·have hS29:=hS2.drew
  refine QN [0,1,2,3,4,5,6] [5,6] W5 (by kernel_rfl) ?_
  refine QI Qa Qa Qa (QO Qa Qa Qa WZ (QF Qa Qa Qa (Qn Qa QH (hS29.cell 0 Qa Qa)) ?_))
  refine Q9 Qa Qa Qa (fun _=>(Hv 1 Qa Qa Qa Qa (q:=2) Qa (c:= if true=true then 1 else 0) (by rw[hn];rfl))) ?_
  refine QI Qa Qa Qa (QV Qa Qa Qa Qa Qa Qa ?_)
  refine Q0 U1 Qa (Hb (hS29.sp [4] Qa) (hG.starL 5 Qa) hW.b) Qa ?_
  rintro _ w30 hS30
  replace hS30:=hS30.jn Qa Qa
  have h1r:=hS30.own_one 0 Qa
  refine Xd (.cons (.inl ⟨Qa,(Qn Qa QH (hS30.cell 2 Qa Qa))⟩) .nil) ?_
  have hS31:=QW (X:={X with b:=(Z4 X.b).1}) (hS30.pick [3,4,5,1,6,0,2,7] Qa)
  refine QV Qa Qa Qa Qa Qa Qa ?_
  refine Q0 Yc Qa (Wv (i:=true) (hS31.sp [0,1] Qa) (by have :=Hl X.b;omega)) Qa ?_
  rintro _ w32 ⟨rfl,hS32⟩
  replace hS32:=hS32.jn Qa Qa
  refine Xd (Xq (by kernel_rfl)) ?_
  refine VC.nil (Qq (Qd (Qk [4] Qa (Qf (Qb (Qc Qa Qa (Qh (Qd (Qo (Q5 (.inr Qa) Qa Qa ?_))))))))))
  exact⟨_,rfl, by rw[Wt (by omega) (i:=true) (by simp [hn])]<;>rfl, by rw[Wt (by omega) (i:=true) (by simp [hn])]; exact hS32.pick [0,2] Qa⟩
 refine Qf (Qb (QL Qa Qa Qa (Qc Qa Qa (Qh (Qd (Qv Qa (fun h33=> ?_) (fun h33=> ?_)))))))
 ·refine Qf (Qb (Qe Qa Qa (Q0 P8 Qa (Tf (hS2.sp [4] Qa) (hG.starL 5 Qa) (hO.starL 5 Qa) hW.b.ses hm) Qa ?_)))
  rintro _ w34 ⟨rfl,hS34⟩
  replace hS34:=hS34.jn Qa Qa
  refine Qc Qa Qa (Qh (Qd (Qo (Qz (Qm (Q5 (.inr Qa) Qa Qa ?_))))))
  exact⟨_,rfl, by rw[MI (by omega) (i:=true) (by simp [hn])]<;>rfl, by rw[MI (by omega) (i:=true) (by simp [hn])]; exact QW (X:={X with b:=(JU X.b).2}) (hS34.pick [2,3,4,0,5,6] Qa)⟩
 refine Qf (Qb (QL Qa Qa Qa (Qc Qa Qa (Qh (Qd (Qv Qa (fun h35=> ?_) (fun h35=> ?_)))))))
 ·refine Qf (Qb (Qe Qa Qa (Q0 P7 Qa (Gj (hS2.sp [4] Qa)) Qa ?_)))
  rintro _ w36 ⟨rfl,hS36⟩
  replace hS36:=hS36.jn Qa Qa
  refine Qc Qa Qa (Qh (Qd (Qk [4] Qa (Qo (Qz (Qm (Q5 (.inr Qa) Qa Qa ?_)))))))
  exact⟨_,rfl, by rw[MH (by omega) (i:=true) (by simp [hn])]<;>rfl, by rw[MH (by omega) (i:=true) (by simp [hn])]; exact QW (X:={X with b:=(Wz X.b).2}) (hS36.pick [2,3,4,0,5,6] Qa)⟩
 refine Qf (Qb (QL Qa Qa Qa (Qc Qa Qa (Qh (Qd (Qk [0,3,4,5,19,74] Qa (Qv Qa (fun h37=> ?_) (fun h37=> ?_))))))))
 ·refine Qf (Qb (Qe Qa Qa (Q0 AA Qa (Ms (hS2.sp [4] Qa)) Qa ?_)))
  rintro _ w38 ⟨rfl,hS38⟩
  replace hS38:=hS38.jn Qa Qa
  refine Qc Qa Qa (Qh (Qd (Qo (Qz (Qm (Q5 (.inr Qa) Qa Qa ?_))))))
  exact⟨_,rfl, by rw[MG (by omega) (i:=true) (by simp [hn])]<;>rfl, by rw[MG (by omega) (i:=true) (by simp [hn])]; exact QW (X:={X with b:=(Ja X.b).2}) (hS38.pick [2,3,4,0,5,6] Qa)⟩
 refine Qf (Qf (Qb (QL Qa Qa Qa (Qc Qa Qa (Qh (Qd (Qv Qa (fun h39=> ?_) (fun h39=> ?_))))))))
 ·refine Qt (Qd (J0 Qa (QD h39) (Qf ?_)))
  have hS40:=hS2.drew
  refine QN [0,1,2,3,4,5,6,7] [5,6] W5 (by kernel_rfl) ?_
  refine QI Qa Qa Qa (QO Qa Qa Qa Hg (QF Qa Qa Qa (Qn Qa QH (hS40.cell 0 Qa Qa)) (QO Qa Qa Qa Bn (QF Qa Qa Qa (Qn Qa qau (hS40.cell 0 Qa Qa)) (QV Qa Qa Qa Qa Qa Qa ?_)))))
  refine Q0 Gs Qa (UG (hS40.sp [] Qa) o.b) Qa ?_
  rintro _ w41 ⟨rfl,hS41⟩
  replace hS41:=hS41.jn Qa Qa
  refine Xd (.skip (by kernel_rfl) (.cons (.inl ⟨rfl,(Qn Qa QH (hS41.cell 0 Qa Qa))⟩) .nil)) ?_
  refine QV Qa Qa Qa Qa Qa Qa ?_
  refine Q0 T4 Qa (UT (hS41.sp [4] Qa) o.id (List.replicate 64 o.b) (fun x hx=>(hW.b.ses x hx).srt) (fun x hx=>(hW.b.ses x hx).cnt)) Qa ?_
  rintro _ w42 ⟨rfl,hS42⟩
  replace hS42:=hS42.jn Qa Qa
  refine Xd (Xq (by kernel_rfl)) ?_
  refine WV Qa Qa Qa (VC.nil (Qd (Qk [4] Qa (Qo (Qz (Qm (Q5 (.inr Qa) Qa Qa ?_)))))))
  exact⟨_,rfl, by rw[MF (by omega) (i:=true) (by simp [hn])]<;>rfl, by rw[MF (by omega) (i:=true) (by simp [hn])]; exact QW (X:={X with b:=(XT X.b o.id (List.replicate 64 o.b)).2}) (hS42.pick [2,3,4,0,5,6] Qa)⟩
 refine Qb (QL Qa Qa Qa (Qc Qa Qa (Qh (Qd (Qv Qa (fun h43=> ?_) (fun h43=> ?_))))))
 ·refine Qf ?_
  have hS44:=hS2.drew
  refine QN [0,1,2,3,4,5,6,7] [5,6] W5 (by kernel_rfl) ?_
  refine QI Qa Qa Qa (QO Qa Qa Qa Hg (QF Qa Qa Qa (Qn Qa QH (hS44.cell 0 Qa Qa)) (QO Qa Qa Qa Bn (QF Qa Qa Qa (Qn Qa qau (hS44.cell 0 Qa Qa)) (QV Qa Qa Qa Qa Qa Qa ?_)))))
  refine Q0 Gs Qa (UG (hS44.sp [] Qa) o.b) Qa ?_
  rintro _ w45 ⟨rfl,hS45⟩
  replace hS45:=hS45.jn Qa Qa
  refine Xd (.skip (by kernel_rfl) (.cons (.inl ⟨rfl,(Qn Qa QH (hS45.cell 0 Qa Qa))⟩) .nil)) ?_
  refine QV Qa Qa Qa Qa Qa Qa ?_
  refine Q0 T4 Qa (UT (hS45.sp [4] Qa) o.id (List.replicate 64 o.b) (fun x hx=>(hW.b.ses x hx).srt) (fun x hx=>(hW.b.ses x hx).cnt)) Qa ?_
  rintro _ w46 ⟨rfl,hS46⟩
  replace hS46:=hS46.jn Qa Qa
  refine Xd (Xq (by kernel_rfl)) ?_
  refine WV Qa Qa Qa (VC.nil (Qd (Qk [4] Qa (Qo (Qz (Qm (Q5 (.inr Qa) Qa Qa ?_)))))))
  exact⟨_,rfl, by rw[ME (by omega) (i:=true) (by simp [hn])]<;>rfl, by rw[ME (by omega) (i:=true) (by simp [hn])]; exact QW (X:={X with b:=(XT X.b o.id (List.replicate 64 o.b)).2}) (hS46.pick [2,3,4,0,5,6] Qa)⟩
 refine Qf (Qb (QL Qa Qa Qa (Qc Qa Qa (Qh (Qd (Qk [0,3,4,5,19,88] Qa (Qv Qa (fun h47=> ?_) (fun h47=> ?_))))))))
 ·refine Qf (Qb (Qe Qa Qa (Qi Qa Hg Qa (Qr Qa QH (hS2.cell 0 Qa Qa) Qa (Q0 A7 Qa (GO (hS2.sp [4] Qa) o.id) Qa ?_)))))
  rintro _ w48 ⟨rfl,hS48⟩
  replace hS48:=hS48.jn Qa Qa
  refine Qc Qa Qa (Qh (Qd (Qo (Qz (Qm (Q5 (.inr Qa) Qa Qa ?_))))))
  exact⟨_,rfl, by rw[MD (by omega) (i:=true) (by simp [hn])]<;>rfl, by rw[MD (by omega) (i:=true) (by simp [hn])]; exact QW (X:={X with b:=(ZI X.b o.id).2}) (hS48.pick [2,3,4,0,5,6] Qa)⟩
 refine Qf (Qb (QL Qa Qa Qa (Qc Qa Qa (Qh (Qd (Qv Qa (fun h49=> ?_) (fun h49=> ?_)))))))
 ·refine Qf (Qb (Qe Qa Qa (Qi Qa Rr Qa (Qr Qa Zx (hS2.cell 0 Qa Qa) Qa (Q0 A0 Qa (GF (hS2.sp [4] Qa) o.s) Qa ?_)))))
  rintro _ w50 ⟨rfl,hS50⟩
  replace hS50:=hS50.jn Qa Qa
  refine Qc Qa Qa (Qh (Qd (Qk [4] Qa (Qo (Qz (Qm (Q5 (.inr Qa) Qa Qa ?_)))))))
  exact⟨_,rfl, by rw[MC (by omega) (i:=true) (by simp [hn])]<;>rfl, by rw[MC (by omega) (i:=true) (by simp [hn])]; exact QW (X:={X with b:=(ZH X.b o.s).2}) (hS50.pick [2,3,4,0,5,6] Qa)⟩
 refine Qf (Qb (QL Qa Qa Qa (Qc Qa Qa (Qh (Qd (Qv Qa (fun h51=> ?_) (fun h51=> ?_)))))))
 ·refine Qb (Qe Qa Qa (Qi Qa Rq Qa (Qr Qa RC (hS2.cell 0 Qa Qa) Qa (Q0 Az Qa (Mr (hS2.sp [4] Qa) (hK.starL 5 Qa)) Qa ?_))))
  rintro _ w52 ⟨rfl,hS52⟩
  replace hS52:=hS52.jn Qa Qa
  refine Qh (Qq (Qd (Qk [4] Qa (Qf (Qb (Qc Qa Qa (Qh (Qd (Qo (Q5 (.inr Qa) Qa Qa ?_))))))))))
  exact⟨_,rfl, by rw[MB (by omega) (i:=true) (by simp [hn])]<;>rfl, by rw[MB (by omega) (i:=true) (by simp [hn])]; exact QW (X:={X with b:=(VB X.b o.keep)}) (hS52.pick [2,3,4,0,5,6] Qa)⟩
 refine Qf (Qf (Qb (QL Qa Qa Qa (Qc Qa Qa (Qh (Qd (Qk [0,3,4,5,19,106] Qa (Qv Qa (fun h53=> ?_) (fun h53=> ?_)))))))))
 ·refine Qt (Qd (J0 Qa (QD h53) (Qf (Qb (Qe Qa Qa (Q0 T7 Qa (Kc (hS2.sp [4] Qa) (hG.starL 5 Qa) (hO.starL 5 Qa)) Qa ?_))))))
  rintro _ w54 ⟨rfl,hS54⟩
  replace hS54:=hS54.jn Qa Qa
  refine Qc Qa Qa (Qh (Qd (Qo (Qz (Qm (Q5 (.inr Qa) Qa Qa ?_))))))
  exact⟨_,rfl, by rw[MA (by omega) (i:=true) (by simp [hn])]<;>rfl, by rw[MA (by omega) (i:=true) (by simp [hn])]; exact QW (X:={X with b:=(ZU X.b).2}) (hS54.pick [2,3,4,0,5,6] Qa)⟩
 refine Qb (QL Qa Qa Qa (Qc Qa Qa (Qh (Qd (Qv Qa (fun h55=> ?_) (fun h55=> ?_))))))
 ·refine Qf (Qb (Qe Qa Qa (Q0 T7 Qa (Kc (hS2.sp [4] Qa) (hG.starL 5 Qa) (hO.starL 5 Qa)) Qa ?_)))
  rintro _ w56 ⟨rfl,hS56⟩
  replace hS56:=hS56.jn Qa Qa
  refine Qc Qa Qa (Qh (Qd (Qo (Qz (Qm (Q5 (.inr Qa) Qa Qa ?_))))))
  exact⟨_,rfl, by rw[M9 (by omega) (i:=true) (by simp [hn])]<;>rfl, by rw[M9 (by omega) (i:=true) (by simp [hn])]; exact QW (X:={X with b:=(ZU X.b).2}) (hS56.pick [2,3,4,0,5,6] Qa)⟩
 refine Qf (Qb (QL Qa Qa Qa (Qc Qa Qa (Qh (Qd (Qv Qa (fun h57=> ?_) (fun h57=> ?_)))))))
 ·refine Qb (Qe Qa Qa (Qi Qa Hg Qa (Qr Qa QH (hS2.cell 0 Qa Qa) Qa (Qi Qa Rq Qa (Qr Qa RC (hS2.cell 0 Qa Qa) Qa (Q0 AC Qa (S6 (hS2.sp [4] Qa) (hK.starL 5 Qa) o.id (by omega) (by omega)) Qa ?_))))))
  rintro _ w58 ⟨rfl,hS58⟩
  replace hS58:=hS58.jn Qa Qa
  refine Qh (Qq (Qd (Qk [4] Qa (Qf (Qb (Qc Qa Qa (Qh (Qd (Qo (Q5 (.inr Qa) Qa Qa ?_))))))))))
  exact⟨_,rfl, by rw[M8 (by omega) (i:=true) (by simp [hn])]<;>rfl, by rw[M8 (by omega) (i:=true) (by simp [hn])]; exact QW (X:={X with b:={X.b with D:=DB X.b.D o.id o.keep}}) (hS58.pick [2,3,4,0,5,6] Qa)⟩
 refine Qf (Qb (QL Qa Qa Qa (Qc Qa Qa (Qh (Qd (Qk [0,3,4,5,19,119] Qa (Qv Qa (fun h59=> ?_) (fun h59=> ?_))))))))
 ·refine Qb (Qe Qa Qa (Qi Qa Hg Qa (Qr Qa QH (hS2.cell 0 Qa Qa) Qa (KO 2 Qa Qa Qa Qa (q:=4) Qa Qa (Q0 AD Qa (Nu (hS2.sp [4] Qa) (o.id%4) (by omega)) Qa ?_)))))
  rintro _ w60 ⟨rfl,hS60⟩
  replace hS60:=hS60.jn Qa Qa
  refine Qh (Qq (Qd (Qk [4] Qa (Qf (Qb (Qc Qa Qa (Qh (Qd (Qo (Q5 (.inr Qa) Qa Qa ?_))))))))))
  have E6:max (o.id%4) 0=o.id%4:= by omega
  rw[E6]at hS60
  exact⟨_,rfl, by rw[M7 (by omega) (i:=true) (by simp [hn])]<;>rfl, by rw[M7 (by omega) (i:=true) (by simp [hn])]; exact QW (X:={X with b:={X.b with D:={X.b.D with lost:=o.id%4}}}) (hS60.pick [2,3,4,0,5,6] Qa)⟩
 refine Qf (Qb (QL Qa Qa Qa (Qc Qa Qa (Qh (Qd (Qv Qa (fun h61=> ?_) (fun h61=> ?_)))))))
 ·refine Qb (Qe Qa Qa (Ql Qa Qa (Qi Qa XA Qa (Qr Qa Xp (hS2.cell 1 Qa Qa) Qa (Q0 Ay Qa (C9 (hS2.sp [5] Qa)) Qa ?_)))))
  rintro _ w62 ⟨rfl,hS62⟩
  replace hS62:=hS62.jn Qa Qa
  refine Qh (Qq (Qd (Qk [4] Qa (Qf (Qb (Qc Qa Qa (Qh (Qd (Qo (Q5 (.inr Qa) Qa Qa ?_))))))))))
  exact⟨_,rfl, by rw[M6 (by omega) (i:=true) (by simp [hn])]<;>rfl, by rw[M6 (by omega) (i:=true) (by simp [hn])]; exact QW (X:={X with cut:=true,fl:=[]}) (hS62.pick [2,3,4,5,0,6] Qa)⟩
 refine Qf (Qb (QL Qa Qa Qa (Qc Qa Qa (Qh (Qd (Qv Qa (fun h63=> ?_) (fun h63=> ?_)))))))
 ·refine Qb (Qe Qa Qa (Ql Qa Qa (Qi Qa XA Qa (Qr Qa Xp (hS2.cell 1 Qa Qa) Qa (Q0 AB Qa (Md (hS2.sp [5] Qa)) Qa ?_)))))
  rintro _ w64 ⟨rfl,hS64⟩
  replace hS64:=hS64.jn Qa Qa
  refine Qh (Qq (Qd (Qk [4] Qa (Qf (Qb (Qc Qa Qa (Qh (Qd (Qo (Q5 (.inr Qa) Qa Qa ?_))))))))))
  exact⟨_,rfl, by rw[M5 (by omega) (i:=true) (by simp [hn])]<;>rfl, by rw[M5 (by omega) (i:=true) (by simp [hn])]; exact QW (X:={X with cut:=false}) (hS64.pick [2,3,4,5,0,6] Qa)⟩
 refine Qf (Qb (QL Qa Qa Qa (Qc Qa Qa (Qh (Qd (Qk [0,3,4,5,140] Qa (Qv Qa (fun h65=> ?_) (fun h65=> ?_))))))))
 ·refine Qf (Qb (Qe Qa Qa (Q0 Gt Qa (HF (hS2.sp [4] Qa) (hG.starL 5 Qa) (hO.starL 5 Qa)) Qa ?_)))
  rintro _ w66 ⟨rfl,hS66⟩
  replace hS66:=hS66.jn Qa Qa
  refine Qe Qa Qa (Q7 Qa Qa Qa (Q7 Qa Qa Qa (Qc Qa Qa (Qc Qa Qa (Qh (Qd (Qk [3,4,5,6] Qa (Qf (Qb (Qe Qa Qa (QL Qa Qa Qa (Qh (Qd (Qv Qa (fun h67=> ?_) (fun h67=> ?_)))))))))))))))
  ·have hst:(Zg X.b).1=1:=h67
   refine Qf (Qb (Qe Qa Qa (Qi Qa Rr Qa (Qr Qa Zx (hS66.cell 1 Qa Qa) Qa (Zs Qa Sc PC Lt Qa Qa (Q0 T6 Qa (R9 (hS66.sp [0] Qa) (hG.starL 5 Qa) (hO.starL 5 Qa) (t:=o.s) (l:=[]) PY) Qa ?_))))))
   rintro _ w68 ⟨rfl,hS68⟩
   replace hS68:=hS68.jn Qa Qa
   refine Qc Qa Qa (Qh (Qd (Qk [4] Qa (Qo (Qz (Qm (Q5 (.inr Qa) Qa Qa ?_)))))))
   exact⟨_,rfl, by rw[Bd (by omega) (i:=true) (by simp [hn]) hst]<;>rfl, by rw[Bd (by omega) (i:=true) (by simp [hn]) hst]; exact QW (X:={X with b:=(Zw X.b ⟨o.s,[]⟩).2}) (hS68.pick [2,3,4,0,5,6] Qa)⟩
  have hst:(Zg X.b).1≠1:=h67
  refine Qt (Qq (Qd (Qf (Qb (Qc Qa Qa (Qh (Qd (Qo (Q5 (.inr Qa) Qa Qa ?_)))))))))
  exact⟨_,rfl, by rw[Bc (by omega) (i:=true) (by simp [hn]) hst]<;>rfl, by rw[Bc (by omega) (i:=true) (by simp [hn]) hst]; exact QW (X:=X) (hS66.pick [2,3,4,0,5,6] Qa)⟩
 have hS69:=QW (X:=X) (hS2.pick [1,2,3,4,5,0,6] Qa)
 refine Qb (Qe Qa Qa (Qi Qa WZ Qa (Qr Qa QH (hS69.cell 1 Qa Qa) Qa (Q0 Ax Qa (BU (hS69.sp [0] Qa) (hG.starL 1 Qa) (hO.starL 1 Qa) hW o.n) Qa ?_))))
 rintro _ w70 ⟨rfl,hS70⟩
 replace hS70:=hS70.jn Qa Qa
 refine Qh (Qq (Qd (Qf (Qb (Qc Qa Qa (Qh (Qd (Qo (Q5 (.inr Qa) Qa Qa ?_)))))))))
 exact⟨_,rfl, by rw[Bb (by omega)]<;>rfl, by rw[Bb (by omega)]; exact hS70.pick [0,2] Qa⟩
theorem Ep {w:World} {x:Nat} {X:TwD} {F:Th} (hS:Sat w [Dv x X,F]) (hG:Ent F WireG) (hO:Ent F (Glob 0)) (hW:XW X) {o:OpD} {kv:Value} (hK:Ent F (RdI kv o.keep)) (E6:o.id≤9223372036854775807) (hkl:o.keep.length≤1000) (hm:X4 (X.a.move+1)) (hm2:X4 (X.b.move+1)):
    Calls prog 11 #[ptrV x 0,.agg #[intV o.dO,intV o.n,intV o.id,.int .u8 (o.b.toNat:Int),strV o.s,kv]] w (Ret fun v w'=>v=intV (Zc X o).1∧Sat w' [Dv x (Zc X o).2,F]):= by
  rcases(by omega:o.n%2=0∨o.n%2=1)with h | h
  · exact step_f hS hG hO hW hK E6 hkl hm h
  · exact step_t hS hG hO hW hK E6 hkl hm2 h
