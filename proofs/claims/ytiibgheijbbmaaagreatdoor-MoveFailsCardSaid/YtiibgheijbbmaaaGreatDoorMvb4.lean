/- the law: a step -/
import Derived.Test.YtiibgheijbbmaaaGreatDoorMvb3
set_option linter.unusedVariables false
set_option maxRecDepth 100000
set_option maxHeartbeats 4000000
namespace Go.Proofs.YtiibgheijbbmaaaGreatDoor
open Go.RowKit M Proofs.Tryz
theorem Tp {P:Program} {L:Env} {w:World} {d:Nat} {ty:TypeId} {pos:String} {aft:Array Edge} {x y:Operand} {t t2:TypeId} {a b:Int} (m:Nat) (hx:M.look L x=some (.int .i64 a)) (hy:M.look L y=some (.int .i64 b)) (hb:b=((2^m -1:Nat):Int)) (hm:Nat.blt m 64=true) {q:Int} (hq:((2^m:Nat):Int)=q):Ev P L w ⟨some d,.binOp .and t x y t2,ty,pos,aft,none⟩ (.int .i64 (a%q)):= by
  subst hq
  intro ρ hρ
  subst hb
  have :=N6 a m (by simpa [Nat.blt_eq]using hm)
  simp only[execOp,hρ _ _ hx,hρ _ _ hy,binOp,Op.intBits]
  simp only[IntKind.bits,eqGuard]
  simp only[BitVec.ofInt_natCast]at this⊢
  simp [-BitVec.toNat_and]at this⊢
  exact this
theorem Hv {P:Program} {L:Env} {w:World} {d:Nat} {ty:TypeId} {pos:String} {aft:Array Edge} {x y:Operand} {t t2:TypeId} {a b c:Int} (m:Nat) (hx:M.look L x=some (.int .i64 a)) (hy:M.look L y=some (.int .i64 b)) (hb:b=((2^m -1:Nat):Int)) (hm:Nat.blt m 64=true) {q:Int} (hq:((2^m:Nat):Int)=q) (hc:a%q=c):Ev P L w ⟨some d,.binOp .and t x y t2,ty,pos,aft,none⟩ (.int .i64 c):=hc▸Tp m hx hy hb hm hq
section
variable {X:TwD} {o:OpD} {i:Bool}
theorem PU (hk:o.dO%32=8) (hi:decide (o.n%2=1)=i):Zc X o=(0,Dd X o.n):= by subst hi; simp [Zc,hk]
theorem PT (hk:o.dO%32=9) (hi:decide (o.n%2=1)=i):Zc X o=(0,Hh X o.n):= by subst hi; simp [Zc,hk]
theorem MI (hk:o.dO%32=14) (hi:decide (o.n%2=1)=i):Zc X o=UU X i (JU (ZX X i)):= by subst hi; simp [Zc,hk]
theorem MH (hk:o.dO%32=15) (hi:decide (o.n%2=1)=i):Zc X o=UU X i (Wz (ZX X i)):= by subst hi; simp [Zc,hk]
theorem MG (hk:o.dO%32=16) (hi:decide (o.n%2=1)=i):Zc X o=UU X i (Ja (ZX X i)):= by subst hi; simp [Zc,hk]
theorem MF (hk:o.dO%32=17) (hi:decide (o.n%2=1)=i):Zc X o=UU X i (XT (ZX X i) o.id (List.replicate 64 o.b)):= by subst hi; simp [Zc,hk]
theorem ME (hk:o.dO%32=18) (hi:decide (o.n%2=1)=i):Zc X o=UU X i (XT (ZX X i) o.id (List.replicate 64 o.b)):= by subst hi; simp [Zc,hk]
theorem MD (hk:o.dO%32=19) (hi:decide (o.n%2=1)=i):Zc X o=UU X i (ZI (ZX X i) o.id):= by subst hi; simp [Zc,hk]
theorem MC (hk:o.dO%32=20) (hi:decide (o.n%2=1)=i):Zc X o=UU X i (ZH (ZX X i) o.s):= by subst hi; simp [Zc,hk]
theorem MB (hk:o.dO%32=21) (hi:decide (o.n%2=1)=i):Zc X o=(0,Vv X i (VB (ZX X i) o.keep)):= by subst hi; simp [Zc,hk]
theorem MA (hk:o.dO%32=22) (hi:decide (o.n%2=1)=i):Zc X o=UU X i (ZU (ZX X i)):= by subst hi; simp [Zc,hk]
theorem M9 (hk:o.dO%32=23) (hi:decide (o.n%2=1)=i):Zc X o=UU X i (ZU (ZX X i)):= by subst hi; simp [Zc,hk]
theorem M8 (hk:o.dO%32=24) (hi:decide (o.n%2=1)=i):Zc X o=(0,Vv X i {ZX X i with D:=DB (ZX X i).D o.id o.keep}):= by subst hi; simp [Zc,hk]
theorem M7 (hk:o.dO%32=25) (hi:decide (o.n%2=1)=i):Zc X o=(0,Vv X i {ZX X i with D:={(ZX X i).D with lost:=o.id%4}}):= by subst hi; simp [Zc,hk]
theorem M6 (hk:o.dO%32=26) (hi:decide (o.n%2=1)=i):Zc X o=(0,{X with cut:=true,fl:=[]}):= by subst hi; simp [Zc,hk]
theorem M5 (hk:o.dO%32=27) (hi:decide (o.n%2=1)=i):Zc X o=(0,{X with cut:=false}):= by subst hi; simp [Zc,hk]
theorem Wt (hk:10≤o.dO%32∧o.dO%32≤13) (hi:decide (o.n%2=1)=i):Zc X o=(0,Yh (Vv X i (Z4 (ZX X i)).1) i (Z4 (ZX X i)).2):= by
  subst hi
  unfold Zc
  rw[if_neg (by omega),if_neg (by omega),if_pos hk]
theorem Bd (hk:o.dO%32=28) (hi:decide (o.n%2=1)=i) (h:(Zg (ZX X i)).1=1):Zc X o=UU X i (Zw (ZX X i) ⟨o.s,[]⟩):= by subst hi; simp [Zc,hk,h]
theorem Bc (hk:o.dO%32=28) (hi:decide (o.n%2=1)=i) (h:(Zg (ZX X i)).1≠1):Zc X o=(0,X):= by subst hi; simp [Zc,hk,h]
theorem Bb (hk: ¬(8≤o.dO%32∧o.dO%32≤28)):Zc X o=(0,Jb X o.n):= by
  unfold Zc
  simp only[show o.dO%32≠8 by omega, show o.dO%32≠9 by omega, show ¬(10≤o.dO%32∧o.dO%32≤13) by omega, show o.dO%32≠14 by omega, show o.dO%32≠15 by omega, show o.dO%32≠16 by omega, show ¬(o.dO%32=17∨o.dO%32=18) by omega, show o.dO%32≠19 by omega, show o.dO%32≠20 by omega, show o.dO%32≠21 by omega, show ¬(o.dO%32=22∨o.dO%32=23) by omega, show o.dO%32≠24 by omega, show o.dO%32≠25 by omega, show o.dO%32≠26 by omega, show o.dO%32≠27 by omega, show o.dO%32≠28 by omega,if_false]
theorem Bu:Dd X o.n={X with fl:=Gp X.fl (Ze o.n X.fl.length)}:= by unfold Dd; rw[dlv_mod]
theorem Kf:Hh X o.n={X with fl:=Tx X.fl (Ze o.n X.fl.length)}:= by
  unfold Hh; rw[dbl_mod];unfold Ag
  cases X.fl[(Ze o.n X.fl.length).toNat]? with
  | none=>rfl
  | some p=> dsimp only;split<;>rfl
theorem Hl (E:EnD):(Z4 E).2.length≤100:= by
  have h1:= fun s:SeD=>Y0 E s.pages 4
  unfold Z4
  split
  · simp
  split
  · simp
  split
  · simp
  split
  · simp
  · rename_i s hs
    have h1:=Y0 E s.pages 4
    dsimp only
    split
    · split
      · dsimp only;omega
      · dsimp only; rw[List.length_append,Wn];omega
    · dsimp only; rw[List.length_append,List.length_map,List.length_take];split<;> simp <;>omega
end
theorem PY {F:Th}:Ent F (RdL shC (.slice none 0 0) ([]:AL Bs)):= fun _=>⟨none,0,rfl, by simp, fun i x h=> by cases h⟩
theorem step_f {w:World} {x:Nat} {X:TwD} {F:Th} (hS:Sat w [Dv x X,F]) (hG:Ent F WireG) (hO:Ent F (Glob 0)) (hW:XW X) {o:OpD} {kv:Value} (hK:Ent F (RdI kv o.keep)) (E6:o.id≤9223372036854775807) (hkl:o.keep.length≤1000) (hm:X4 (X.a.move+1)) (hn:o.n%2=0):
    Calls prog 11 #[ptrV x 0,.agg #[intV o.dO,intV o.n,intV o.id,.int .u8 (o.b.toNat:Int),strV o.s,kv]] w (Ret fun v w'=>v=intV (Zc X o).1∧Sat w' [Dv x (Zc X o).2,F]):= by
 obtain⟨eb,ecap,a,b,p,hS⟩:=HN hS
 refine Qy func11 Qa ntmps11 Qa ?_
 refine Qf (Qb (Za hS Qa Qa Qa ?_))
 intro bo w1 j10
 have j1:Sat w1 (Xb bo [intV o.dO,intV o.n,intV o.id,.int .u8 (o.b.toNat:Int),strV o.s,kv]::_):=j10
 refine Qc Qa Qa (Qh (Qd (Qf ?_)))
 have j2:=j1.drew
 refine QN [0,1,2,3,4,5,6,7,8,9] [] W5 (by kernel_rfl) ?_
 refine QI Qa Qa Qa (Xn Qa Qa Qa (QO Qa Qa Qa Wc (QF Qa Qa Qa (Qn Qa Jx (by first | assumption | exact j2.cell 0 Qa Qa | exact j2.cell 1 Qa Qa)) ?_)))
 refine QO Qa Qa Qa WZ (QF Qa Qa Qa (Qn Qa QH (by first | assumption | exact j2.cell 0 Qa Qa | exact j2.cell 1 Qa Qa)) ?_)
 refine Q9 Qa Qa Qa (fun _=>(Tp 1 Qa Qa Qa Qa (q:=2) Qa)) ?_
 refine Q9 Qa Qa Qa (fun _=>(X0 0 Qa Qa (by first | rfl | omega) (by first | omega | exact(ZD (by rfl)).1) Ym)) ?_
 refine QF Qa Qa Qa (XV RV 2 0 0 j2 Qa (by rfl) J5 Qa Qa) ?_
 refine WV Qa Qa Qa (VC.nil (Qd (Qk [0,3,4,5] Qa (Qf (Qf (Qb (Qi Qa Sz Qa (Qr Qa QH (by first | assumption | exact j2.cell 0 Qa Qa | exact j2.cell 1 Qa Qa) Qa ?_))))))))
 refine KO 5 Qa Qa Qa Qa (q:=32) Qa Qa (Qh (Qd (QK (Qf (Qb (QL Qa Qa Qa (Qc Qa Qa (Qh (Qd (Qv Qa (fun h3=> ?_) (fun h3=> ?_)))))))))))
 ·have j4:=j2.drew
  refine QN [0,1,2,3,4,5,6,7,8,9,10,11,12] [10,11,12] W5 (by kernel_rfl) ?_
  refine QI Qa Qa Qa (Xn Qa Qa Qa (QO Qa Qa Qa XA (QF Qa Qa Qa (Qn Qa Xp (by first | assumption | exact j4.cell 0 Qa Qa | exact j4.cell 1 Qa Qa)) ?_)))
  refine QO Qa Qa Qa WZ (QF Qa Qa Qa (Qn Qa QH (by first | assumption | exact j4.cell 0 Qa Qa | exact j4.cell 1 Qa Qa)) ?_)
  refine QI Qa Qa Qa (Xn Qa Qa Qa (QO Qa Qa Qa XA (QF Qa Qa Qa (Qn Qa Xp (by first | assumption | exact j4.cell 0 Qa Qa | exact j4.cell 1 Qa Qa)) ?_)))
  refine QV Qa Qa Qa Qa Qa Qa ?_
  refine Q0 Yd Qa (Z1 (j4.sp [5] Qa)) Qa ?_
  rintro _ w5 ⟨rfl,j5⟩
  replace j5:=j5.jn Qa Qa
  refine Xd (.skip (by kernel_rfl) (.cons (.inl ⟨rfl,(Qn Qa QH (by first | assumption | exact j5.cell 1 Qa Qa | exact j5.cell 2 Qa Qa))⟩) (.cons (.inl ⟨rfl,(Qn Qa Xp (by first | assumption | exact j5.cell 1 Qa Qa | exact j5.cell 2 Qa Qa))⟩) .nil))) ?_
  refine QV Qa Qa Qa Qa Qa Qa ?_
  refine Q0 Jl Qa (Jg (j5.sp [] Qa) o.n (X.fl.length:Int) (by have :=hW.ln;omega)) Qa ?_
  rintro _ w6 ⟨rfl,j6⟩
  replace j6:=j6.jn Qa Qa
  refine Xd (.skip (by kernel_rfl) (.skip (by kernel_rfl) (.cons (.inl ⟨rfl,(Qn Qa Xp (by first | assumption | exact j6.cell 1 Qa Qa | exact j6.cell 2 Qa Qa))⟩) .nil))) ?_
  refine QV Qa Qa Qa Qa Qa Qa ?_
  refine Q0 A9 Qa (Me (j6.sp [0] Qa) (Ze o.n X.fl.length) hW.ln) Qa ?_
  rintro _ w7 ⟨⟨_,rfl⟩,j7⟩
  replace j7:=j7.jn Qa Qa
  refine Xd (Xq (by kernel_rfl)) ?_
  refine VC.nil (Qq (Qd (Qk [4] Qa (Qf (Qb (Qc Qa Qa (Qh (Qd (Qo (Q5 (.inr Qa) Qa Qa ?_))))))))))
  exact⟨_,rfl, by rw[PU (by omega) (i:=false) (by simp [hn]),Bu]<;>rfl, by rw[PU (by omega) (i:=false) (by simp [hn]),Bu]; exact QW (X:={X with fl:=Gp X.fl (Ze o.n X.fl.length)}) (j7.pick [2,3,4,5,0,6] Qa)⟩
 refine Qf (Qb (QL Qa Qa Qa (Qc Qa Qa (Qh (Qd (Qk [0,3,4,5,19,39] Qa (Qv Qa (fun h8=> ?_) (fun h8=> ?_))))))))
 ·have j9:=j2.drew
  refine QN [0,1,2,3,4,5,6,7,8,9,10,11,12] [10,11,12] W5 (by kernel_rfl) ?_
  refine QI Qa Qa Qa (Xn Qa Qa Qa (QO Qa Qa Qa XA (QF Qa Qa Qa (Qn Qa Xp (by first | assumption | exact j9.cell 0 Qa Qa | exact j9.cell 1 Qa Qa)) ?_)))
  refine QO Qa Qa Qa WZ (QF Qa Qa Qa (Qn Qa QH (by first | assumption | exact j9.cell 0 Qa Qa | exact j9.cell 1 Qa Qa)) ?_)
  refine QI Qa Qa Qa (Xn Qa Qa Qa (QO Qa Qa Qa XA (QF Qa Qa Qa (Qn Qa Xp (by first | assumption | exact j9.cell 0 Qa Qa | exact j9.cell 1 Qa Qa)) ?_)))
  refine QV Qa Qa Qa Qa Qa Qa ?_
  refine Q0 Yd Qa (Z1 (j9.sp [5] Qa)) Qa ?_
  rintro _ w10 ⟨rfl,j10⟩
  replace j10:=j10.jn Qa Qa
  refine Xd (.skip (by kernel_rfl) (.cons (.inl ⟨rfl,(Qn Qa QH (by first | assumption | exact j10.cell 1 Qa Qa | exact j10.cell 2 Qa Qa))⟩) (.cons (.inl ⟨rfl,(Qn Qa Xp (by first | assumption | exact j10.cell 1 Qa Qa | exact j10.cell 2 Qa Qa))⟩) .nil))) ?_
  refine QV Qa Qa Qa Qa Qa Qa ?_
  refine Q0 Jl Qa (Jg (j10.sp [] Qa) o.n (X.fl.length:Int) (by have :=hW.ln;omega)) Qa ?_
  rintro _ w11 ⟨rfl,j11⟩
  replace j11:=j11.jn Qa Qa
  refine Xd (.skip (by kernel_rfl) (.skip (by kernel_rfl) (.cons (.inl ⟨rfl,(Qn Qa Xp (by first | assumption | exact j11.cell 1 Qa Qa | exact j11.cell 2 Qa Qa))⟩) .nil))) ?_
  refine QV Qa Qa Qa Qa Qa Qa ?_
  refine Q0 A8 Qa (C8 (j11.sp [0] Qa) (Ze o.n X.fl.length) hW.ln) Qa ?_
  rintro _ w12 ⟨⟨_,rfl⟩,j12⟩
  replace j12:=j12.jn Qa Qa
  refine Xd (Xq (by kernel_rfl)) ?_
  refine VC.nil (Qq (Qd (Qk [4] Qa (Qf (Qb (Qc Qa Qa (Qh (Qd (Qo (Q5 (.inr Qa) Qa Qa ?_))))))))))
  exact⟨_,rfl, by rw[PT (by omega) (i:=false) (by simp [hn]),Kf]<;>rfl, by rw[PT (by omega) (i:=false) (by simp [hn]),Kf]; exact QW (X:={X with fl:=Tx X.fl (Ze o.n X.fl.length)}) (j12.pick [2,3,4,5,0,6] Qa)⟩
 refine Qf (Qf (Qb (QL Qa Qa Qa (Qc Qa Qa (Qh (Qd (Qv Qa (fun h13=> ?_) (fun h13=> ?_))))))))
 ·refine Qt (Qd (J0 Qa (QD h13) ?_))
  have j14:=j2.drew
  refine QN [0,1,2,3,4,5,6] [5,6] W5 (by kernel_rfl) ?_
  refine QI Qa Qa Qa (QO Qa Qa Qa WZ (QF Qa Qa Qa (Qn Qa QH (by first | assumption | exact j14.cell 0 Qa Qa | exact j14.cell 1 Qa Qa)) ?_))
  refine Q9 Qa Qa Qa (fun _=>(Hv 1 Qa Qa Qa Qa (q:=2) Qa (c:= if false=true then 1 else 0) (by rw[hn];rfl))) ?_
  refine QI Qa Qa Qa (QV Qa Qa Qa Qa Qa Qa ?_)
  refine Q0 U1 Qa (Hb (j14.sp [3] Qa) (hG.starL 5 Qa) hW.a) Qa ?_
  rintro _ w15 j15
  replace j15:=j15.jn Qa Qa
  have h1r:=j15.own_one 0 Qa
  refine Xd (.cons (.inl ⟨rfl,(Qn Qa QH (by first | assumption | exact j15.cell 2 Qa Qa | exact j15.cell 3 Qa Qa))⟩) .nil) ?_
  have j16:=QW (X:={X with a:=(Z4 X.a).1}) (j15.pick [3,4,1,5,6,0,2,7] Qa)
  refine QV Qa Qa Qa Qa Qa Qa ?_
  refine Q0 Yc Qa (Wv (i:=false) (j16.sp [0,1] Qa) (by have :=Hl X.a;omega)) Qa ?_
  rintro _ w17 ⟨rfl,j17⟩
  replace j17:=j17.jn Qa Qa
  refine Xd (Xq (by kernel_rfl)) ?_
  refine VC.nil (Qq (Qd (Qk [4] Qa (Qf (Qb (Qc Qa Qa (Qh (Qd (Qo (Q5 (.inr Qa) Qa Qa ?_))))))))))
  exact⟨_,rfl, by rw[Wt (by omega) (i:=false) (by simp [hn])]<;>rfl, by rw[Wt (by omega) (i:=false) (by simp [hn])]; exact j17.pick [0,2] Qa⟩
 refine Qf (Qb (QL Qa Qa Qa (Qc Qa Qa (Qh (Qd (Qv Qa (fun h18=> ?_) (fun h18=> ?_)))))))
 ·refine Qt (Qd (J0 Qa (QD h18) ?_))
  have j19:=j2.drew
  refine QN [0,1,2,3,4,5,6] [5,6] W5 (by kernel_rfl) ?_
  refine QI Qa Qa Qa (QO Qa Qa Qa WZ (QF Qa Qa Qa (Qn Qa QH (by first | assumption | exact j19.cell 0 Qa Qa | exact j19.cell 1 Qa Qa)) ?_))
  refine Q9 Qa Qa Qa (fun _=>(Hv 1 Qa Qa Qa Qa (q:=2) Qa (c:= if false=true then 1 else 0) (by rw[hn];rfl))) ?_
  refine QI Qa Qa Qa (QV Qa Qa Qa Qa Qa Qa ?_)
  refine Q0 U1 Qa (Hb (j19.sp [3] Qa) (hG.starL 5 Qa) hW.a) Qa ?_
  rintro _ w20 j20
  replace j20:=j20.jn Qa Qa
  have h1r:=j20.own_one 0 Qa
  refine Xd (.cons (.inl ⟨rfl,(Qn Qa QH (by first | assumption | exact j20.cell 2 Qa Qa | exact j20.cell 3 Qa Qa))⟩) .nil) ?_
  have j21:=QW (X:={X with a:=(Z4 X.a).1}) (j20.pick [3,4,1,5,6,0,2,7] Qa)
  refine QV Qa Qa Qa Qa Qa Qa ?_
  refine Q0 Yc Qa (Wv (i:=false) (j21.sp [0,1] Qa) (by have :=Hl X.a;omega)) Qa ?_
  rintro _ w22 ⟨rfl,j22⟩
  replace j22:=j22.jn Qa Qa
  refine Xd (Xq (by kernel_rfl)) ?_
  refine VC.nil (Qq (Qd (Qk [4] Qa (Qf (Qb (Qc Qa Qa (Qh (Qd (Qo (Q5 (.inr Qa) Qa Qa ?_))))))))))
  exact⟨_,rfl, by rw[Wt (by omega) (i:=false) (by simp [hn])]<;>rfl, by rw[Wt (by omega) (i:=false) (by simp [hn])]; exact j22.pick [0,2] Qa⟩
 refine Qf (Qb (QL Qa Qa Qa (Qc Qa Qa (Qh (Qd (Qv Qa (fun h23=> ?_) (fun h23=> ?_)))))))
 ·refine Qt (Qd (J0 Qa (QD h23) ?_))
  have j24:=j2.drew
  refine QN [0,1,2,3,4,5,6] [5,6] W5 (by kernel_rfl) ?_
  refine QI Qa Qa Qa (QO Qa Qa Qa WZ (QF Qa Qa Qa (Qn Qa QH (by first | assumption | exact j24.cell 0 Qa Qa | exact j24.cell 1 Qa Qa)) ?_))
  refine Q9 Qa Qa Qa (fun _=>(Hv 1 Qa Qa Qa Qa (q:=2) Qa (c:= if false=true then 1 else 0) (by rw[hn];rfl))) ?_
  refine QI Qa Qa Qa (QV Qa Qa Qa Qa Qa Qa ?_)
  refine Q0 U1 Qa (Hb (j24.sp [3] Qa) (hG.starL 5 Qa) hW.a) Qa ?_
  rintro _ w25 j25
  replace j25:=j25.jn Qa Qa
  have h1r:=j25.own_one 0 Qa
  refine Xd (.cons (.inl ⟨rfl,(Qn Qa QH (by first | assumption | exact j25.cell 2 Qa Qa | exact j25.cell 3 Qa Qa))⟩) .nil) ?_
  have j26:=QW (X:={X with a:=(Z4 X.a).1}) (j25.pick [3,4,1,5,6,0,2,7] Qa)
  refine QV Qa Qa Qa Qa Qa Qa ?_
  refine Q0 Yc Qa (Wv (i:=false) (j26.sp [0,1] Qa) (by have :=Hl X.a;omega)) Qa ?_
  rintro _ w27 ⟨rfl,j27⟩
  replace j27:=j27.jn Qa Qa
  refine Xd (Xq (by kernel_rfl)) ?_
  refine VC.nil (Qq (Qd (Qk [4] Qa (Qf (Qb (Qc Qa Qa (Qh (Qd (Qo (Q5 (.inr Qa) Qa Qa ?_))))))))))
  exact⟨_,rfl, by rw[Wt (by omega) (i:=false) (by simp [hn])]<;>rfl, by rw[Wt (by omega) (i:=false) (by simp [hn])]; exact j27.pick [0,2] Qa⟩
 refine Qb (QL Qa Qa Qa (Qc Qa Qa (Qh (Qd (Qk [0,3,4,5,19,54] Qa (Qv Qa (fun h28=> ?_) (fun h28=> ?_)))))))
 ·have j29:=j2.drew
  refine QN [0,1,2,3,4,5,6] [5,6] W5 (by kernel_rfl) ?_
  refine QI Qa Qa Qa (QO Qa Qa Qa WZ (QF Qa Qa Qa (Qn Qa QH (by first | assumption | exact j29.cell 0 Qa Qa | exact j29.cell 1 Qa Qa)) ?_))
  refine Q9 Qa Qa Qa (fun _=>(Hv 1 Qa Qa Qa Qa (q:=2) Qa (c:= if false=true then 1 else 0) (by rw[hn];rfl))) ?_
  refine QI Qa Qa Qa (QV Qa Qa Qa Qa Qa Qa ?_)
  refine Q0 U1 Qa (Hb (j29.sp [3] Qa) (hG.starL 5 Qa) hW.a) Qa ?_
  rintro _ w30 j30
  replace j30:=j30.jn Qa Qa
  have h1r:=j30.own_one 0 Qa
  refine Xd (.cons (.inl ⟨rfl,(Qn Qa QH (by first | assumption | exact j30.cell 2 Qa Qa | exact j30.cell 3 Qa Qa))⟩) .nil) ?_
  have j31:=QW (X:={X with a:=(Z4 X.a).1}) (j30.pick [3,4,1,5,6,0,2,7] Qa)
  refine QV Qa Qa Qa Qa Qa Qa ?_
  refine Q0 Yc Qa (Wv (i:=false) (j31.sp [0,1] Qa) (by have :=Hl X.a;omega)) Qa ?_
  rintro _ w32 ⟨rfl,j32⟩
  replace j32:=j32.jn Qa Qa
  refine Xd (Xq (by kernel_rfl)) ?_
  refine VC.nil (Qq (Qd (Qk [4] Qa (Qf (Qb (Qc Qa Qa (Qh (Qd (Qo (Q5 (.inr Qa) Qa Qa ?_))))))))))
  exact⟨_,rfl, by rw[Wt (by omega) (i:=false) (by simp [hn])]<;>rfl, by rw[Wt (by omega) (i:=false) (by simp [hn])]; exact j32.pick [0,2] Qa⟩
 refine Qf (Qb (QL Qa Qa Qa (Qc Qa Qa (Qh (Qd (Qv Qa (fun h33=> ?_) (fun h33=> ?_)))))))
 ·refine Qf (Qb (Qe Qa Qa (Q0 P8 Qa (Tf (j2.sp [3] Qa) (hG.starL 5 Qa) (hO.starL 5 Qa) hW.a.ses hm) Qa ?_)))
  rintro _ w34 ⟨rfl,j34⟩
  replace j34:=j34.jn Qa Qa
  refine Qc Qa Qa (Qh (Qd (Qo (Qz (Qm (Q5 (.inr Qa) Qa Qa ?_))))))
  exact⟨_,rfl, by rw[MI (by omega) (i:=false) (by simp [hn])]<;>rfl, by rw[MI (by omega) (i:=false) (by simp [hn])]; exact QW (X:={X with a:=(JU X.a).2}) (j34.pick [2,3,0,4,5,6] Qa)⟩
 refine Qf (Qb (QL Qa Qa Qa (Qc Qa Qa (Qh (Qd (Qv Qa (fun h35=> ?_) (fun h35=> ?_)))))))
 ·refine Qf (Qb (Qe Qa Qa (Q0 P7 Qa (Gj (j2.sp [3] Qa)) Qa ?_)))
  rintro _ w36 ⟨rfl,j36⟩
  replace j36:=j36.jn Qa Qa
  refine Qc Qa Qa (Qh (Qd (Qk [4] Qa (Qo (Qz (Qm (Q5 (.inr Qa) Qa Qa ?_)))))))
  exact⟨_,rfl, by rw[MH (by omega) (i:=false) (by simp [hn])]<;>rfl, by rw[MH (by omega) (i:=false) (by simp [hn])]; exact QW (X:={X with a:=(Wz X.a).2}) (j36.pick [2,3,0,4,5,6] Qa)⟩
 refine Qf (Qb (QL Qa Qa Qa (Qc Qa Qa (Qh (Qd (Qk [0,3,4,5,19,74] Qa (Qv Qa (fun h37=> ?_) (fun h37=> ?_))))))))
 ·refine Qf (Qb (Qe Qa Qa (Q0 AA Qa (Ms (j2.sp [3] Qa)) Qa ?_)))
  rintro _ w38 ⟨rfl,j38⟩
  replace j38:=j38.jn Qa Qa
  refine Qc Qa Qa (Qh (Qd (Qo (Qz (Qm (Q5 (.inr Qa) Qa Qa ?_))))))
  exact⟨_,rfl, by rw[MG (by omega) (i:=false) (by simp [hn])]<;>rfl, by rw[MG (by omega) (i:=false) (by simp [hn])]; exact QW (X:={X with a:=(Ja X.a).2}) (j38.pick [2,3,0,4,5,6] Qa)⟩
 refine Qf (Qf (Qb (QL Qa Qa Qa (Qc Qa Qa (Qh (Qd (Qv Qa (fun h39=> ?_) (fun h39=> ?_))))))))
 ·refine Qt (Qd (J0 Qa (QD h39) (Qf ?_)))
  have j40:=j2.drew
  refine QN [0,1,2,3,4,5,6,7] [5,6] W5 (by kernel_rfl) ?_
  refine QI Qa Qa Qa (QO Qa Qa Qa Hg (QF Qa Qa Qa (Qn Qa QH (by first | assumption | exact j40.cell 0 Qa Qa | exact j40.cell 1 Qa Qa)) ?_))
  refine QO Qa Qa Qa Bn (QF Qa Qa Qa (Qn Qa ag_5 (by first | assumption | exact j40.cell 0 Qa Qa | exact j40.cell 1 Qa Qa)) ?_)
  refine QV Qa Qa Qa Qa Qa Qa ?_
  refine Q0 Gs Qa (UG (j40.sp [] Qa) o.b) Qa ?_
  rintro _ w41 ⟨rfl,j41⟩
  replace j41:=j41.jn Qa Qa
  refine Xd (.skip (by kernel_rfl) (.cons (.inl ⟨rfl,(Qn Qa QH (by first | assumption | exact j41.cell 0 Qa Qa | exact j41.cell 1 Qa Qa))⟩) .nil)) ?_
  refine QV Qa Qa Qa Qa Qa Qa ?_
  refine Q0 T4 Qa (UT (j41.sp [3] Qa) o.id (List.replicate 64 o.b) (fun x hx=>(hW.a.ses x hx).srt) (fun x hx=>(hW.a.ses x hx).cnt)) Qa ?_
  rintro _ w42 ⟨rfl,j42⟩
  replace j42:=j42.jn Qa Qa
  refine Xd (Xq (by kernel_rfl)) ?_
  refine WV Qa Qa Qa (VC.nil (Qd (Qk [4] Qa (Qo (Qz (Qm (Q5 (.inr Qa) Qa Qa ?_)))))))
  exact⟨_,rfl, by rw[MF (by omega) (i:=false) (by simp [hn])]<;>rfl, by rw[MF (by omega) (i:=false) (by simp [hn])]; exact QW (X:={X with a:=(XT X.a o.id (List.replicate 64 o.b)).2}) (j42.pick [2,3,0,4,5,6] Qa)⟩
 refine Qb (QL Qa Qa Qa (Qc Qa Qa (Qh (Qd (Qv Qa (fun h43=> ?_) (fun h43=> ?_))))))
 ·refine Qf ?_
  have j44:=j2.drew
  refine QN [0,1,2,3,4,5,6,7] [5,6] W5 (by kernel_rfl) ?_
  refine QI Qa Qa Qa (QO Qa Qa Qa Hg (QF Qa Qa Qa (Qn Qa QH (by first | assumption | exact j44.cell 0 Qa Qa | exact j44.cell 1 Qa Qa)) ?_))
  refine QO Qa Qa Qa Bn (QF Qa Qa Qa (Qn Qa ag_5 (by first | assumption | exact j44.cell 0 Qa Qa | exact j44.cell 1 Qa Qa)) ?_)
  refine QV Qa Qa Qa Qa Qa Qa ?_
  refine Q0 Gs Qa (UG (j44.sp [] Qa) o.b) Qa ?_
  rintro _ w45 ⟨rfl,j45⟩
  replace j45:=j45.jn Qa Qa
  refine Xd (.skip (by kernel_rfl) (.cons (.inl ⟨rfl,(Qn Qa QH (by first | assumption | exact j45.cell 0 Qa Qa | exact j45.cell 1 Qa Qa))⟩) .nil)) ?_
  refine QV Qa Qa Qa Qa Qa Qa ?_
  refine Q0 T4 Qa (UT (j45.sp [3] Qa) o.id (List.replicate 64 o.b) (fun x hx=>(hW.a.ses x hx).srt) (fun x hx=>(hW.a.ses x hx).cnt)) Qa ?_
  rintro _ w46 ⟨rfl,j46⟩
  replace j46:=j46.jn Qa Qa
  refine Xd (Xq (by kernel_rfl)) ?_
  refine WV Qa Qa Qa (VC.nil (Qd (Qk [4] Qa (Qo (Qz (Qm (Q5 (.inr Qa) Qa Qa ?_)))))))
  exact⟨_,rfl, by rw[ME (by omega) (i:=false) (by simp [hn])]<;>rfl, by rw[ME (by omega) (i:=false) (by simp [hn])]; exact QW (X:={X with a:=(XT X.a o.id (List.replicate 64 o.b)).2}) (j46.pick [2,3,0,4,5,6] Qa)⟩
 refine Qf (Qb (QL Qa Qa Qa (Qc Qa Qa (Qh (Qd (Qk [0,3,4,5,19,88] Qa (Qv Qa (fun h47=> ?_) (fun h47=> ?_))))))))
 ·refine Qf (Qb (Qe Qa Qa (Qi Qa Hg Qa (Qr Qa QH (by first | assumption | exact j2.cell 0 Qa Qa | exact j2.cell 1 Qa Qa) Qa ?_))))
  refine Q0 A7 Qa (GO (j2.sp [3] Qa) o.id) Qa ?_
  rintro _ w48 ⟨rfl,j48⟩
  replace j48:=j48.jn Qa Qa
  refine Qc Qa Qa (Qh (Qd (Qo (Qz (Qm (Q5 (.inr Qa) Qa Qa ?_))))))
  exact⟨_,rfl, by rw[MD (by omega) (i:=false) (by simp [hn])]<;>rfl, by rw[MD (by omega) (i:=false) (by simp [hn])]; exact QW (X:={X with a:=(ZI X.a o.id).2}) (j48.pick [2,3,0,4,5,6] Qa)⟩
 refine Qf (Qb (QL Qa Qa Qa (Qc Qa Qa (Qh (Qd (Qv Qa (fun h49=> ?_) (fun h49=> ?_)))))))
 ·refine Qf (Qb (Qe Qa Qa (Qi Qa Rr Qa (Qr Qa Zx (by first | assumption | exact j2.cell 0 Qa Qa | exact j2.cell 1 Qa Qa) Qa ?_))))
  refine Q0 A0 Qa (GF (j2.sp [3] Qa) o.s) Qa ?_
  rintro _ w50 ⟨rfl,j50⟩
  replace j50:=j50.jn Qa Qa
  refine Qc Qa Qa (Qh (Qd (Qk [4] Qa (Qo (Qz (Qm (Q5 (.inr Qa) Qa Qa ?_)))))))
  exact⟨_,rfl, by rw[MC (by omega) (i:=false) (by simp [hn])]<;>rfl, by rw[MC (by omega) (i:=false) (by simp [hn])]; exact QW (X:={X with a:=(ZH X.a o.s).2}) (j50.pick [2,3,0,4,5,6] Qa)⟩
 refine Qf (Qb (QL Qa Qa Qa (Qc Qa Qa (Qh (Qd (Qv Qa (fun h51=> ?_) (fun h51=> ?_)))))))
 ·refine Qb (Qe Qa Qa (Qi Qa Rq Qa (Qr Qa RC (by first | assumption | exact j2.cell 0 Qa Qa | exact j2.cell 1 Qa Qa) Qa ?_)))
  refine Q0 Az Qa (Mr (j2.sp [3] Qa) (hK.starL 5 Qa)) Qa ?_
  rintro _ w52 ⟨rfl,j52⟩
  replace j52:=j52.jn Qa Qa
  refine Qh (Qq (Qd (Qk [4] Qa (Qf (Qb (Qc Qa Qa (Qh (Qd (Qo (Q5 (.inr Qa) Qa Qa ?_))))))))))
  exact⟨_,rfl, by rw[MB (by omega) (i:=false) (by simp [hn])]<;>rfl, by rw[MB (by omega) (i:=false) (by simp [hn])]; exact QW (X:={X with a:=(VB X.a o.keep)}) (j52.pick [2,3,0,4,5,6] Qa)⟩
 refine Qf (Qf (Qb (QL Qa Qa Qa (Qc Qa Qa (Qh (Qd (Qk [0,3,4,5,19,106] Qa (Qv Qa (fun h53=> ?_) (fun h53=> ?_)))))))))
 ·refine Qt (Qd (J0 Qa (QD h53) (Qf (Qb (Qe Qa Qa (Q0 T7 Qa (Kc (j2.sp [3] Qa) (hG.starL 5 Qa) (hO.starL 5 Qa)) Qa ?_))))))
  rintro _ w54 ⟨rfl,j54⟩
  replace j54:=j54.jn Qa Qa
  refine Qc Qa Qa (Qh (Qd (Qo (Qz (Qm (Q5 (.inr Qa) Qa Qa ?_))))))
  exact⟨_,rfl, by rw[MA (by omega) (i:=false) (by simp [hn])]<;>rfl, by rw[MA (by omega) (i:=false) (by simp [hn])]; exact QW (X:={X with a:=(ZU X.a).2}) (j54.pick [2,3,0,4,5,6] Qa)⟩
 refine Qb (QL Qa Qa Qa (Qc Qa Qa (Qh (Qd (Qv Qa (fun h55=> ?_) (fun h55=> ?_))))))
 ·refine Qf (Qb (Qe Qa Qa (Q0 T7 Qa (Kc (j2.sp [3] Qa) (hG.starL 5 Qa) (hO.starL 5 Qa)) Qa ?_)))
  rintro _ w56 ⟨rfl,j56⟩
  replace j56:=j56.jn Qa Qa
  refine Qc Qa Qa (Qh (Qd (Qo (Qz (Qm (Q5 (.inr Qa) Qa Qa ?_))))))
  exact⟨_,rfl, by rw[M9 (by omega) (i:=false) (by simp [hn])]<;>rfl, by rw[M9 (by omega) (i:=false) (by simp [hn])]; exact QW (X:={X with a:=(ZU X.a).2}) (j56.pick [2,3,0,4,5,6] Qa)⟩
 refine Qf (Qb (QL Qa Qa Qa (Qc Qa Qa (Qh (Qd (Qv Qa (fun h57=> ?_) (fun h57=> ?_)))))))
 ·refine Qb (Qe Qa Qa (Qi Qa Hg Qa (Qr Qa QH (by first | assumption | exact j2.cell 0 Qa Qa | exact j2.cell 1 Qa Qa) Qa ?_)))
  refine Qi Qa Rq Qa (Qr Qa RC (by first | assumption | exact j2.cell 0 Qa Qa | exact j2.cell 1 Qa Qa) Qa ?_)
  refine Q0 AC Qa (S6 (j2.sp [3] Qa) (hK.starL 5 Qa) o.id (by omega) (by omega)) Qa ?_
  rintro _ w58 ⟨rfl,j58⟩
  replace j58:=j58.jn Qa Qa
  refine Qh (Qq (Qd (Qk [4] Qa (Qf (Qb (Qc Qa Qa (Qh (Qd (Qo (Q5 (.inr Qa) Qa Qa ?_))))))))))
  exact⟨_,rfl, by rw[M8 (by omega) (i:=false) (by simp [hn])]<;>rfl, by rw[M8 (by omega) (i:=false) (by simp [hn])]; exact QW (X:={X with a:={X.a with D:=DB X.a.D o.id o.keep}}) (j58.pick [2,3,0,4,5,6] Qa)⟩
 refine Qf (Qb (QL Qa Qa Qa (Qc Qa Qa (Qh (Qd (Qk [0,3,4,5,19,119] Qa (Qv Qa (fun h59=> ?_) (fun h59=> ?_))))))))
 ·refine Qb (Qe Qa Qa (Qi Qa Hg Qa (Qr Qa QH (by first | assumption | exact j2.cell 0 Qa Qa | exact j2.cell 1 Qa Qa) Qa ?_)))
  refine KO 2 Qa Qa Qa Qa (q:=4) Qa Qa (Q0 AD Qa (Nu (j2.sp [3] Qa) (o.id%4) (by omega)) Qa ?_)
  rintro _ w60 ⟨rfl,j60⟩
  replace j60:=j60.jn Qa Qa
  refine Qh (Qq (Qd (Qk [4] Qa (Qf (Qb (Qc Qa Qa (Qh (Qd (Qo (Q5 (.inr Qa) Qa Qa ?_))))))))))
  have E6:max (o.id%4) 0=o.id%4:= by omega
  rw[E6]at j60
  exact⟨_,rfl, by rw[M7 (by omega) (i:=false) (by simp [hn])]<;>rfl, by rw[M7 (by omega) (i:=false) (by simp [hn])]; exact QW (X:={X with a:={X.a with D:={X.a.D with lost:=o.id%4}}}) (j60.pick [2,3,0,4,5,6] Qa)⟩
 refine Qf (Qb (QL Qa Qa Qa (Qc Qa Qa (Qh (Qd (Qv Qa (fun h61=> ?_) (fun h61=> ?_)))))))
 ·refine Qb (Qe Qa Qa (Ql Qa Qa (Qi Qa XA Qa (Qr Qa Xp (by first | assumption | exact j2.cell 0 Qa Qa | exact j2.cell 1 Qa Qa) Qa ?_))))
  refine Q0 Ay Qa (C9 (j2.sp [5] Qa)) Qa ?_
  rintro _ w62 ⟨rfl,j62⟩
  replace j62:=j62.jn Qa Qa
  refine Qh (Qq (Qd (Qk [4] Qa (Qf (Qb (Qc Qa Qa (Qh (Qd (Qo (Q5 (.inr Qa) Qa Qa ?_))))))))))
  exact⟨_,rfl, by rw[M6 (by omega) (i:=false) (by simp [hn])]<;>rfl, by rw[M6 (by omega) (i:=false) (by simp [hn])]; exact QW (X:={X with cut:=true,fl:=[]}) (j62.pick [2,3,4,5,0,6] Qa)⟩
 refine Qf (Qb (QL Qa Qa Qa (Qc Qa Qa (Qh (Qd (Qv Qa (fun h63=> ?_) (fun h63=> ?_)))))))
 ·refine Qb (Qe Qa Qa (Ql Qa Qa (Qi Qa XA Qa (Qr Qa Xp (by first | assumption | exact j2.cell 0 Qa Qa | exact j2.cell 1 Qa Qa) Qa ?_))))
  refine Q0 AB Qa (Md (j2.sp [5] Qa)) Qa ?_
  rintro _ w64 ⟨rfl,j64⟩
  replace j64:=j64.jn Qa Qa
  refine Qh (Qq (Qd (Qk [4] Qa (Qf (Qb (Qc Qa Qa (Qh (Qd (Qo (Q5 (.inr Qa) Qa Qa ?_))))))))))
  exact⟨_,rfl, by rw[M5 (by omega) (i:=false) (by simp [hn])]<;>rfl, by rw[M5 (by omega) (i:=false) (by simp [hn])]; exact QW (X:={X with cut:=false}) (j64.pick [2,3,4,5,0,6] Qa)⟩
 refine Qf (Qb (QL Qa Qa Qa (Qc Qa Qa (Qh (Qd (Qk [0,3,4,5,140] Qa (Qv Qa (fun h65=> ?_) (fun h65=> ?_))))))))
 ·refine Qf (Qb (Qe Qa Qa (Q0 Gt Qa (HF (j2.sp [3] Qa) (hG.starL 5 Qa) (hO.starL 5 Qa)) Qa ?_)))
  rintro _ w66 ⟨rfl,j66⟩
  replace j66:=j66.jn Qa Qa
  refine Qe Qa Qa (Q7 Qa Qa Qa (Q7 Qa Qa Qa (Qc Qa Qa (Qc Qa Qa (Qh (Qd (Qk [3,4,5,6] Qa (Qf (Qb (Qe Qa Qa (QL Qa Qa Qa (Qh (Qd (Qv Qa (fun h67=> ?_) (fun h67=> ?_)))))))))))))))
  ·have hst:(Zg X.a).1=1:=h67
   refine Qf (Qb (Qe Qa Qa (Qi Qa Rr Qa (Qr Qa Zx (by first | assumption | exact j66.cell 1 Qa Qa | exact j66.cell 2 Qa Qa) Qa ?_))))
   refine Zs Qa Sc PC Lt Qa Qa (Q0 T6 Qa (R9 (j66.sp [0] Qa) (hG.starL 5 Qa) (hO.starL 5 Qa) (t:=o.s) (l:=[]) PY) Qa ?_)
   rintro _ w68 ⟨rfl,j68⟩
   replace j68:=j68.jn Qa Qa
   refine Qc Qa Qa (Qh (Qd (Qk [4] Qa (Qo (Qz (Qm (Q5 (.inr Qa) Qa Qa ?_)))))))
   exact⟨_,rfl, by rw[Bd (by omega) (i:=false) (by simp [hn]) hst]<;>rfl, by rw[Bd (by omega) (i:=false) (by simp [hn]) hst]; exact QW (X:={X with a:=(Zw X.a ⟨o.s,[]⟩).2}) (j68.pick [2,3,0,4,5,6] Qa)⟩
  have hst:(Zg X.a).1≠1:=h67
  refine Qt (Qq (Qd (Qf (Qb (Qc Qa Qa (Qh (Qd (Qo (Q5 (.inr Qa) Qa Qa ?_)))))))))
  exact⟨_,rfl, by rw[Bc (by omega) (i:=false) (by simp [hn]) hst]<;>rfl, by rw[Bc (by omega) (i:=false) (by simp [hn]) hst]; exact QW (X:=X) (j66.pick [2,3,0,4,5,6] Qa)⟩
 have j69:=QW (X:=X) (j2.pick [1,2,3,4,5,0,6] Qa)
 refine Qb (Qe Qa Qa (Qi Qa WZ Qa (Qr Qa QH (by first | assumption | exact j69.cell 1 Qa Qa) Qa ?_)))
 refine Q0 Ax Qa (BU (j69.sp [0] Qa) (hG.starL 1 Qa) (hO.starL 1 Qa) hW o.n) Qa ?_
 rintro _ w70 ⟨rfl,j70⟩
 replace j70:=j70.jn Qa Qa
 refine Qh (Qq (Qd (Qf (Qb (Qc Qa Qa (Qh (Qd (Qo (Q5 (.inr Qa) Qa Qa ?_)))))))))
 exact⟨_,rfl, by rw[Bb (by omega)]<;>rfl, by rw[Bb (by omega)]; exact j70.pick [0,2] Qa⟩
theorem step_t {w:World} {x:Nat} {X:TwD} {F:Th} (hS:Sat w [Dv x X,F]) (hG:Ent F WireG) (hO:Ent F (Glob 0)) (hW:XW X) {o:OpD} {kv:Value} (hK:Ent F (RdI kv o.keep)) (E6:o.id≤9223372036854775807) (hkl:o.keep.length≤1000) (hm:X4 (X.b.move+1)) (hn:o.n%2=1):
    Calls prog 11 #[ptrV x 0,.agg #[intV o.dO,intV o.n,intV o.id,.int .u8 (o.b.toNat:Int),strV o.s,kv]] w (Ret fun v w'=>v=intV (Zc X o).1∧Sat w' [Dv x (Zc X o).2,F]):= by
 obtain⟨eb,ecap,a,b,p,hS⟩:=HN hS
 refine Qy func11 Qa ntmps11 Qa ?_
 refine Qf (Qb (Za hS Qa Qa Qa ?_))
 intro bo w1 j10
 have j1:Sat w1 (Xb bo [intV o.dO,intV o.n,intV o.id,.int .u8 (o.b.toNat:Int),strV o.s,kv]::_):=j10
 refine Qc Qa Qa (Qh (Qd (Qf ?_)))
 have j2:=j1.drew
 refine QN [0,1,2,3,4,5,6,7,8,9] [] W5 (by kernel_rfl) ?_
 refine QI Qa Qa Qa (Xn Qa Qa Qa (QO Qa Qa Qa Wc (QF Qa Qa Qa (Qn Qa Jx (by first | assumption | exact j2.cell 0 Qa Qa | exact j2.cell 1 Qa Qa)) ?_)))
 refine QO Qa Qa Qa WZ (QF Qa Qa Qa (Qn Qa QH (by first | assumption | exact j2.cell 0 Qa Qa | exact j2.cell 1 Qa Qa)) ?_)
 refine Q9 Qa Qa Qa (fun _=>(Tp 1 Qa Qa Qa Qa (q:=2) Qa)) ?_
 refine Q9 Qa Qa Qa (fun _=>(X0 1 Qa Qa (by first | rfl | omega) (by first | omega | exact(ZD (by rfl)).1) Ym)) ?_
 refine QF Qa Qa Qa (XV RV 2 1 0 j2 Qa (by rfl) J5 Qa Qa) ?_
 refine WV Qa Qa Qa (VC.nil (Qd (Qk [0,3,4,5] Qa (Qf (Qf (Qb (Qi Qa Sz Qa (Qr Qa QH (by first | assumption | exact j2.cell 0 Qa Qa | exact j2.cell 1 Qa Qa) Qa ?_))))))))
 refine KO 5 Qa Qa Qa Qa (q:=32) Qa Qa (Qh (Qd (QK (Qf (Qb (QL Qa Qa Qa (Qc Qa Qa (Qh (Qd (Qv Qa (fun h3=> ?_) (fun h3=> ?_)))))))))))
 ·have j4:=j2.drew
  refine QN [0,1,2,3,4,5,6,7,8,9,10,11,12] [10,11,12] W5 (by kernel_rfl) ?_
  refine QI Qa Qa Qa (Xn Qa Qa Qa (QO Qa Qa Qa XA (QF Qa Qa Qa (Qn Qa Xp (by first | assumption | exact j4.cell 0 Qa Qa | exact j4.cell 1 Qa Qa)) ?_)))
  refine QO Qa Qa Qa WZ (QF Qa Qa Qa (Qn Qa QH (by first | assumption | exact j4.cell 0 Qa Qa | exact j4.cell 1 Qa Qa)) ?_)
  refine QI Qa Qa Qa (Xn Qa Qa Qa (QO Qa Qa Qa XA (QF Qa Qa Qa (Qn Qa Xp (by first | assumption | exact j4.cell 0 Qa Qa | exact j4.cell 1 Qa Qa)) ?_)))
  refine QV Qa Qa Qa Qa Qa Qa ?_
  refine Q0 Yd Qa (Z1 (j4.sp [5] Qa)) Qa ?_
  rintro _ w5 ⟨rfl,j5⟩
  replace j5:=j5.jn Qa Qa
  refine Xd (.skip (by kernel_rfl) (.cons (.inl ⟨rfl,(Qn Qa QH (by first | assumption | exact j5.cell 1 Qa Qa | exact j5.cell 2 Qa Qa))⟩) (.cons (.inl ⟨rfl,(Qn Qa Xp (by first | assumption | exact j5.cell 1 Qa Qa | exact j5.cell 2 Qa Qa))⟩) .nil))) ?_
  refine QV Qa Qa Qa Qa Qa Qa ?_
  refine Q0 Jl Qa (Jg (j5.sp [] Qa) o.n (X.fl.length:Int) (by have :=hW.ln;omega)) Qa ?_
  rintro _ w6 ⟨rfl,j6⟩
  replace j6:=j6.jn Qa Qa
  refine Xd (.skip (by kernel_rfl) (.skip (by kernel_rfl) (.cons (.inl ⟨rfl,(Qn Qa Xp (by first | assumption | exact j6.cell 1 Qa Qa | exact j6.cell 2 Qa Qa))⟩) .nil))) ?_
  refine QV Qa Qa Qa Qa Qa Qa ?_
  refine Q0 A9 Qa (Me (j6.sp [0] Qa) (Ze o.n X.fl.length) hW.ln) Qa ?_
  rintro _ w7 ⟨⟨_,rfl⟩,j7⟩
  replace j7:=j7.jn Qa Qa
  refine Xd (Xq (by kernel_rfl)) ?_
  refine VC.nil (Qq (Qd (Qk [4] Qa (Qf (Qb (Qc Qa Qa (Qh (Qd (Qo (Q5 (.inr Qa) Qa Qa ?_))))))))))
  exact⟨_,rfl, by rw[PU (by omega) (i:=true) (by simp [hn]),Bu]<;>rfl, by rw[PU (by omega) (i:=true) (by simp [hn]),Bu]; exact QW (X:={X with fl:=Gp X.fl (Ze o.n X.fl.length)}) (j7.pick [2,3,4,5,0,6] Qa)⟩
 refine Qf (Qb (QL Qa Qa Qa (Qc Qa Qa (Qh (Qd (Qk [0,3,4,5,19,39] Qa (Qv Qa (fun h8=> ?_) (fun h8=> ?_))))))))
 ·have j9:=j2.drew
  refine QN [0,1,2,3,4,5,6,7,8,9,10,11,12] [10,11,12] W5 (by kernel_rfl) ?_
  refine QI Qa Qa Qa (Xn Qa Qa Qa (QO Qa Qa Qa XA (QF Qa Qa Qa (Qn Qa Xp (by first | assumption | exact j9.cell 0 Qa Qa | exact j9.cell 1 Qa Qa)) ?_)))
  refine QO Qa Qa Qa WZ (QF Qa Qa Qa (Qn Qa QH (by first | assumption | exact j9.cell 0 Qa Qa | exact j9.cell 1 Qa Qa)) ?_)
  refine QI Qa Qa Qa (Xn Qa Qa Qa (QO Qa Qa Qa XA (QF Qa Qa Qa (Qn Qa Xp (by first | assumption | exact j9.cell 0 Qa Qa | exact j9.cell 1 Qa Qa)) ?_)))
  refine QV Qa Qa Qa Qa Qa Qa ?_
  refine Q0 Yd Qa (Z1 (j9.sp [5] Qa)) Qa ?_
  rintro _ w10 ⟨rfl,j10⟩
  replace j10:=j10.jn Qa Qa
  refine Xd (.skip (by kernel_rfl) (.cons (.inl ⟨rfl,(Qn Qa QH (by first | assumption | exact j10.cell 1 Qa Qa | exact j10.cell 2 Qa Qa))⟩) (.cons (.inl ⟨rfl,(Qn Qa Xp (by first | assumption | exact j10.cell 1 Qa Qa | exact j10.cell 2 Qa Qa))⟩) .nil))) ?_
  refine QV Qa Qa Qa Qa Qa Qa ?_
  refine Q0 Jl Qa (Jg (j10.sp [] Qa) o.n (X.fl.length:Int) (by have :=hW.ln;omega)) Qa ?_
  rintro _ w11 ⟨rfl,j11⟩
  replace j11:=j11.jn Qa Qa
  refine Xd (.skip (by kernel_rfl) (.skip (by kernel_rfl) (.cons (.inl ⟨rfl,(Qn Qa Xp (by first | assumption | exact j11.cell 1 Qa Qa | exact j11.cell 2 Qa Qa))⟩) .nil))) ?_
  refine QV Qa Qa Qa Qa Qa Qa ?_
  refine Q0 A8 Qa (C8 (j11.sp [0] Qa) (Ze o.n X.fl.length) hW.ln) Qa ?_
  rintro _ w12 ⟨⟨_,rfl⟩,j12⟩
  replace j12:=j12.jn Qa Qa
  refine Xd (Xq (by kernel_rfl)) ?_
  refine VC.nil (Qq (Qd (Qk [4] Qa (Qf (Qb (Qc Qa Qa (Qh (Qd (Qo (Q5 (.inr Qa) Qa Qa ?_))))))))))
  exact⟨_,rfl, by rw[PT (by omega) (i:=true) (by simp [hn]),Kf]<;>rfl, by rw[PT (by omega) (i:=true) (by simp [hn]),Kf]; exact QW (X:={X with fl:=Tx X.fl (Ze o.n X.fl.length)}) (j12.pick [2,3,4,5,0,6] Qa)⟩
 refine Qf (Qf (Qb (QL Qa Qa Qa (Qc Qa Qa (Qh (Qd (Qv Qa (fun h13=> ?_) (fun h13=> ?_))))))))
 ·refine Qt (Qd (J0 Qa (QD h13) ?_))
  have j14:=j2.drew
  refine QN [0,1,2,3,4,5,6] [5,6] W5 (by kernel_rfl) ?_
  refine QI Qa Qa Qa (QO Qa Qa Qa WZ (QF Qa Qa Qa (Qn Qa QH (by first | assumption | exact j14.cell 0 Qa Qa | exact j14.cell 1 Qa Qa)) ?_))
  refine Q9 Qa Qa Qa (fun _=>(Hv 1 Qa Qa Qa Qa (q:=2) Qa (c:= if true=true then 1 else 0) (by rw[hn];rfl))) ?_
  refine QI Qa Qa Qa (QV Qa Qa Qa Qa Qa Qa ?_)
  refine Q0 U1 Qa (Hb (j14.sp [4] Qa) (hG.starL 5 Qa) hW.b) Qa ?_
  rintro _ w15 j15
  replace j15:=j15.jn Qa Qa
  have h1r:=j15.own_one 0 Qa
  refine Xd (.cons (.inl ⟨rfl,(Qn Qa QH (by first | assumption | exact j15.cell 2 Qa Qa | exact j15.cell 3 Qa Qa))⟩) .nil) ?_
  have j16:=QW (X:={X with b:=(Z4 X.b).1}) (j15.pick [3,4,5,1,6,0,2,7] Qa)
  refine QV Qa Qa Qa Qa Qa Qa ?_
  refine Q0 Yc Qa (Wv (i:=true) (j16.sp [0,1] Qa) (by have :=Hl X.b;omega)) Qa ?_
  rintro _ w17 ⟨rfl,j17⟩
  replace j17:=j17.jn Qa Qa
  refine Xd (Xq (by kernel_rfl)) ?_
  refine VC.nil (Qq (Qd (Qk [4] Qa (Qf (Qb (Qc Qa Qa (Qh (Qd (Qo (Q5 (.inr Qa) Qa Qa ?_))))))))))
  exact⟨_,rfl, by rw[Wt (by omega) (i:=true) (by simp [hn])]<;>rfl, by rw[Wt (by omega) (i:=true) (by simp [hn])]; exact j17.pick [0,2] Qa⟩
 refine Qf (Qb (QL Qa Qa Qa (Qc Qa Qa (Qh (Qd (Qv Qa (fun h18=> ?_) (fun h18=> ?_)))))))
 ·refine Qt (Qd (J0 Qa (QD h18) ?_))
  have j19:=j2.drew
  refine QN [0,1,2,3,4,5,6] [5,6] W5 (by kernel_rfl) ?_
  refine QI Qa Qa Qa (QO Qa Qa Qa WZ (QF Qa Qa Qa (Qn Qa QH (by first | assumption | exact j19.cell 0 Qa Qa | exact j19.cell 1 Qa Qa)) ?_))
  refine Q9 Qa Qa Qa (fun _=>(Hv 1 Qa Qa Qa Qa (q:=2) Qa (c:= if true=true then 1 else 0) (by rw[hn];rfl))) ?_
  refine QI Qa Qa Qa (QV Qa Qa Qa Qa Qa Qa ?_)
  refine Q0 U1 Qa (Hb (j19.sp [4] Qa) (hG.starL 5 Qa) hW.b) Qa ?_
  rintro _ w20 j20
  replace j20:=j20.jn Qa Qa
  have h1r:=j20.own_one 0 Qa
  refine Xd (.cons (.inl ⟨rfl,(Qn Qa QH (by first | assumption | exact j20.cell 2 Qa Qa | exact j20.cell 3 Qa Qa))⟩) .nil) ?_
  have j21:=QW (X:={X with b:=(Z4 X.b).1}) (j20.pick [3,4,5,1,6,0,2,7] Qa)
  refine QV Qa Qa Qa Qa Qa Qa ?_
  refine Q0 Yc Qa (Wv (i:=true) (j21.sp [0,1] Qa) (by have :=Hl X.b;omega)) Qa ?_
  rintro _ w22 ⟨rfl,j22⟩
  replace j22:=j22.jn Qa Qa
  refine Xd (Xq (by kernel_rfl)) ?_
  refine VC.nil (Qq (Qd (Qk [4] Qa (Qf (Qb (Qc Qa Qa (Qh (Qd (Qo (Q5 (.inr Qa) Qa Qa ?_))))))))))
  exact⟨_,rfl, by rw[Wt (by omega) (i:=true) (by simp [hn])]<;>rfl, by rw[Wt (by omega) (i:=true) (by simp [hn])]; exact j22.pick [0,2] Qa⟩
 refine Qf (Qb (QL Qa Qa Qa (Qc Qa Qa (Qh (Qd (Qv Qa (fun h23=> ?_) (fun h23=> ?_)))))))
 ·refine Qt (Qd (J0 Qa (QD h23) ?_))
  have j24:=j2.drew
  refine QN [0,1,2,3,4,5,6] [5,6] W5 (by kernel_rfl) ?_
  refine QI Qa Qa Qa (QO Qa Qa Qa WZ (QF Qa Qa Qa (Qn Qa QH (by first | assumption | exact j24.cell 0 Qa Qa | exact j24.cell 1 Qa Qa)) ?_))
  refine Q9 Qa Qa Qa (fun _=>(Hv 1 Qa Qa Qa Qa (q:=2) Qa (c:= if true=true then 1 else 0) (by rw[hn];rfl))) ?_
  refine QI Qa Qa Qa (QV Qa Qa Qa Qa Qa Qa ?_)
  refine Q0 U1 Qa (Hb (j24.sp [4] Qa) (hG.starL 5 Qa) hW.b) Qa ?_
  rintro _ w25 j25
  replace j25:=j25.jn Qa Qa
  have h1r:=j25.own_one 0 Qa
  refine Xd (.cons (.inl ⟨rfl,(Qn Qa QH (by first | assumption | exact j25.cell 2 Qa Qa | exact j25.cell 3 Qa Qa))⟩) .nil) ?_
  have j26:=QW (X:={X with b:=(Z4 X.b).1}) (j25.pick [3,4,5,1,6,0,2,7] Qa)
  refine QV Qa Qa Qa Qa Qa Qa ?_
  refine Q0 Yc Qa (Wv (i:=true) (j26.sp [0,1] Qa) (by have :=Hl X.b;omega)) Qa ?_
  rintro _ w27 ⟨rfl,j27⟩
  replace j27:=j27.jn Qa Qa
  refine Xd (Xq (by kernel_rfl)) ?_
  refine VC.nil (Qq (Qd (Qk [4] Qa (Qf (Qb (Qc Qa Qa (Qh (Qd (Qo (Q5 (.inr Qa) Qa Qa ?_))))))))))
  exact⟨_,rfl, by rw[Wt (by omega) (i:=true) (by simp [hn])]<;>rfl, by rw[Wt (by omega) (i:=true) (by simp [hn])]; exact j27.pick [0,2] Qa⟩
 refine Qb (QL Qa Qa Qa (Qc Qa Qa (Qh (Qd (Qk [0,3,4,5,19,54] Qa (Qv Qa (fun h28=> ?_) (fun h28=> ?_)))))))
 ·have j29:=j2.drew
  refine QN [0,1,2,3,4,5,6] [5,6] W5 (by kernel_rfl) ?_
  refine QI Qa Qa Qa (QO Qa Qa Qa WZ (QF Qa Qa Qa (Qn Qa QH (by first | assumption | exact j29.cell 0 Qa Qa | exact j29.cell 1 Qa Qa)) ?_))
  refine Q9 Qa Qa Qa (fun _=>(Hv 1 Qa Qa Qa Qa (q:=2) Qa (c:= if true=true then 1 else 0) (by rw[hn];rfl))) ?_
  refine QI Qa Qa Qa (QV Qa Qa Qa Qa Qa Qa ?_)
  refine Q0 U1 Qa (Hb (j29.sp [4] Qa) (hG.starL 5 Qa) hW.b) Qa ?_
  rintro _ w30 j30
  replace j30:=j30.jn Qa Qa
  have h1r:=j30.own_one 0 Qa
  refine Xd (.cons (.inl ⟨rfl,(Qn Qa QH (by first | assumption | exact j30.cell 2 Qa Qa | exact j30.cell 3 Qa Qa))⟩) .nil) ?_
  have j31:=QW (X:={X with b:=(Z4 X.b).1}) (j30.pick [3,4,5,1,6,0,2,7] Qa)
  refine QV Qa Qa Qa Qa Qa Qa ?_
  refine Q0 Yc Qa (Wv (i:=true) (j31.sp [0,1] Qa) (by have :=Hl X.b;omega)) Qa ?_
  rintro _ w32 ⟨rfl,j32⟩
  replace j32:=j32.jn Qa Qa
  refine Xd (Xq (by kernel_rfl)) ?_
  refine VC.nil (Qq (Qd (Qk [4] Qa (Qf (Qb (Qc Qa Qa (Qh (Qd (Qo (Q5 (.inr Qa) Qa Qa ?_))))))))))
  exact⟨_,rfl, by rw[Wt (by omega) (i:=true) (by simp [hn])]<;>rfl, by rw[Wt (by omega) (i:=true) (by simp [hn])]; exact j32.pick [0,2] Qa⟩
 refine Qf (Qb (QL Qa Qa Qa (Qc Qa Qa (Qh (Qd (Qv Qa (fun h33=> ?_) (fun h33=> ?_)))))))
 ·refine Qf (Qb (Qe Qa Qa (Q0 P8 Qa (Tf (j2.sp [4] Qa) (hG.starL 5 Qa) (hO.starL 5 Qa) hW.b.ses hm) Qa ?_)))
  rintro _ w34 ⟨rfl,j34⟩
  replace j34:=j34.jn Qa Qa
  refine Qc Qa Qa (Qh (Qd (Qo (Qz (Qm (Q5 (.inr Qa) Qa Qa ?_))))))
  exact⟨_,rfl, by rw[MI (by omega) (i:=true) (by simp [hn])]<;>rfl, by rw[MI (by omega) (i:=true) (by simp [hn])]; exact QW (X:={X with b:=(JU X.b).2}) (j34.pick [2,3,4,0,5,6] Qa)⟩
 refine Qf (Qb (QL Qa Qa Qa (Qc Qa Qa (Qh (Qd (Qv Qa (fun h35=> ?_) (fun h35=> ?_)))))))
 ·refine Qf (Qb (Qe Qa Qa (Q0 P7 Qa (Gj (j2.sp [4] Qa)) Qa ?_)))
  rintro _ w36 ⟨rfl,j36⟩
  replace j36:=j36.jn Qa Qa
  refine Qc Qa Qa (Qh (Qd (Qk [4] Qa (Qo (Qz (Qm (Q5 (.inr Qa) Qa Qa ?_)))))))
  exact⟨_,rfl, by rw[MH (by omega) (i:=true) (by simp [hn])]<;>rfl, by rw[MH (by omega) (i:=true) (by simp [hn])]; exact QW (X:={X with b:=(Wz X.b).2}) (j36.pick [2,3,4,0,5,6] Qa)⟩
 refine Qf (Qb (QL Qa Qa Qa (Qc Qa Qa (Qh (Qd (Qk [0,3,4,5,19,74] Qa (Qv Qa (fun h37=> ?_) (fun h37=> ?_))))))))
 ·refine Qf (Qb (Qe Qa Qa (Q0 AA Qa (Ms (j2.sp [4] Qa)) Qa ?_)))
  rintro _ w38 ⟨rfl,j38⟩
  replace j38:=j38.jn Qa Qa
  refine Qc Qa Qa (Qh (Qd (Qo (Qz (Qm (Q5 (.inr Qa) Qa Qa ?_))))))
  exact⟨_,rfl, by rw[MG (by omega) (i:=true) (by simp [hn])]<;>rfl, by rw[MG (by omega) (i:=true) (by simp [hn])]; exact QW (X:={X with b:=(Ja X.b).2}) (j38.pick [2,3,4,0,5,6] Qa)⟩
 refine Qf (Qf (Qb (QL Qa Qa Qa (Qc Qa Qa (Qh (Qd (Qv Qa (fun h39=> ?_) (fun h39=> ?_))))))))
 ·refine Qt (Qd (J0 Qa (QD h39) (Qf ?_)))
  have j40:=j2.drew
  refine QN [0,1,2,3,4,5,6,7] [5,6] W5 (by kernel_rfl) ?_
  refine QI Qa Qa Qa (QO Qa Qa Qa Hg (QF Qa Qa Qa (Qn Qa QH (by first | assumption | exact j40.cell 0 Qa Qa | exact j40.cell 1 Qa Qa)) ?_))
  refine QO Qa Qa Qa Bn (QF Qa Qa Qa (Qn Qa ag_5 (by first | assumption | exact j40.cell 0 Qa Qa | exact j40.cell 1 Qa Qa)) ?_)
  refine QV Qa Qa Qa Qa Qa Qa ?_
  refine Q0 Gs Qa (UG (j40.sp [] Qa) o.b) Qa ?_
  rintro _ w41 ⟨rfl,j41⟩
  replace j41:=j41.jn Qa Qa
  refine Xd (.skip (by kernel_rfl) (.cons (.inl ⟨rfl,(Qn Qa QH (by first | assumption | exact j41.cell 0 Qa Qa | exact j41.cell 1 Qa Qa))⟩) .nil)) ?_
  refine QV Qa Qa Qa Qa Qa Qa ?_
  refine Q0 T4 Qa (UT (j41.sp [4] Qa) o.id (List.replicate 64 o.b) (fun x hx=>(hW.b.ses x hx).srt) (fun x hx=>(hW.b.ses x hx).cnt)) Qa ?_
  rintro _ w42 ⟨rfl,j42⟩
  replace j42:=j42.jn Qa Qa
  refine Xd (Xq (by kernel_rfl)) ?_
  refine WV Qa Qa Qa (VC.nil (Qd (Qk [4] Qa (Qo (Qz (Qm (Q5 (.inr Qa) Qa Qa ?_)))))))
  exact⟨_,rfl, by rw[MF (by omega) (i:=true) (by simp [hn])]<;>rfl, by rw[MF (by omega) (i:=true) (by simp [hn])]; exact QW (X:={X with b:=(XT X.b o.id (List.replicate 64 o.b)).2}) (j42.pick [2,3,4,0,5,6] Qa)⟩
 refine Qb (QL Qa Qa Qa (Qc Qa Qa (Qh (Qd (Qv Qa (fun h43=> ?_) (fun h43=> ?_))))))
 ·refine Qf ?_
  have j44:=j2.drew
  refine QN [0,1,2,3,4,5,6,7] [5,6] W5 (by kernel_rfl) ?_
  refine QI Qa Qa Qa (QO Qa Qa Qa Hg (QF Qa Qa Qa (Qn Qa QH (by first | assumption | exact j44.cell 0 Qa Qa | exact j44.cell 1 Qa Qa)) ?_))
  refine QO Qa Qa Qa Bn (QF Qa Qa Qa (Qn Qa ag_5 (by first | assumption | exact j44.cell 0 Qa Qa | exact j44.cell 1 Qa Qa)) ?_)
  refine QV Qa Qa Qa Qa Qa Qa ?_
  refine Q0 Gs Qa (UG (j44.sp [] Qa) o.b) Qa ?_
  rintro _ w45 ⟨rfl,j45⟩
  replace j45:=j45.jn Qa Qa
  refine Xd (.skip (by kernel_rfl) (.cons (.inl ⟨rfl,(Qn Qa QH (by first | assumption | exact j45.cell 0 Qa Qa | exact j45.cell 1 Qa Qa))⟩) .nil)) ?_
  refine QV Qa Qa Qa Qa Qa Qa ?_
  refine Q0 T4 Qa (UT (j45.sp [4] Qa) o.id (List.replicate 64 o.b) (fun x hx=>(hW.b.ses x hx).srt) (fun x hx=>(hW.b.ses x hx).cnt)) Qa ?_
  rintro _ w46 ⟨rfl,j46⟩
  replace j46:=j46.jn Qa Qa
  refine Xd (Xq (by kernel_rfl)) ?_
  refine WV Qa Qa Qa (VC.nil (Qd (Qk [4] Qa (Qo (Qz (Qm (Q5 (.inr Qa) Qa Qa ?_)))))))
  exact⟨_,rfl, by rw[ME (by omega) (i:=true) (by simp [hn])]<;>rfl, by rw[ME (by omega) (i:=true) (by simp [hn])]; exact QW (X:={X with b:=(XT X.b o.id (List.replicate 64 o.b)).2}) (j46.pick [2,3,4,0,5,6] Qa)⟩
 refine Qf (Qb (QL Qa Qa Qa (Qc Qa Qa (Qh (Qd (Qk [0,3,4,5,19,88] Qa (Qv Qa (fun h47=> ?_) (fun h47=> ?_))))))))
 ·refine Qf (Qb (Qe Qa Qa (Qi Qa Hg Qa (Qr Qa QH (by first | assumption | exact j2.cell 0 Qa Qa | exact j2.cell 1 Qa Qa) Qa ?_))))
  refine Q0 A7 Qa (GO (j2.sp [4] Qa) o.id) Qa ?_
  rintro _ w48 ⟨rfl,j48⟩
  replace j48:=j48.jn Qa Qa
  refine Qc Qa Qa (Qh (Qd (Qo (Qz (Qm (Q5 (.inr Qa) Qa Qa ?_))))))
  exact⟨_,rfl, by rw[MD (by omega) (i:=true) (by simp [hn])]<;>rfl, by rw[MD (by omega) (i:=true) (by simp [hn])]; exact QW (X:={X with b:=(ZI X.b o.id).2}) (j48.pick [2,3,4,0,5,6] Qa)⟩
 refine Qf (Qb (QL Qa Qa Qa (Qc Qa Qa (Qh (Qd (Qv Qa (fun h49=> ?_) (fun h49=> ?_)))))))
 ·refine Qf (Qb (Qe Qa Qa (Qi Qa Rr Qa (Qr Qa Zx (by first | assumption | exact j2.cell 0 Qa Qa | exact j2.cell 1 Qa Qa) Qa ?_))))
  refine Q0 A0 Qa (GF (j2.sp [4] Qa) o.s) Qa ?_
  rintro _ w50 ⟨rfl,j50⟩
  replace j50:=j50.jn Qa Qa
  refine Qc Qa Qa (Qh (Qd (Qk [4] Qa (Qo (Qz (Qm (Q5 (.inr Qa) Qa Qa ?_)))))))
  exact⟨_,rfl, by rw[MC (by omega) (i:=true) (by simp [hn])]<;>rfl, by rw[MC (by omega) (i:=true) (by simp [hn])]; exact QW (X:={X with b:=(ZH X.b o.s).2}) (j50.pick [2,3,4,0,5,6] Qa)⟩
 refine Qf (Qb (QL Qa Qa Qa (Qc Qa Qa (Qh (Qd (Qv Qa (fun h51=> ?_) (fun h51=> ?_)))))))
 ·refine Qb (Qe Qa Qa (Qi Qa Rq Qa (Qr Qa RC (by first | assumption | exact j2.cell 0 Qa Qa | exact j2.cell 1 Qa Qa) Qa ?_)))
  refine Q0 Az Qa (Mr (j2.sp [4] Qa) (hK.starL 5 Qa)) Qa ?_
  rintro _ w52 ⟨rfl,j52⟩
  replace j52:=j52.jn Qa Qa
  refine Qh (Qq (Qd (Qk [4] Qa (Qf (Qb (Qc Qa Qa (Qh (Qd (Qo (Q5 (.inr Qa) Qa Qa ?_))))))))))
  exact⟨_,rfl, by rw[MB (by omega) (i:=true) (by simp [hn])]<;>rfl, by rw[MB (by omega) (i:=true) (by simp [hn])]; exact QW (X:={X with b:=(VB X.b o.keep)}) (j52.pick [2,3,4,0,5,6] Qa)⟩
 refine Qf (Qf (Qb (QL Qa Qa Qa (Qc Qa Qa (Qh (Qd (Qk [0,3,4,5,19,106] Qa (Qv Qa (fun h53=> ?_) (fun h53=> ?_)))))))))
 ·refine Qt (Qd (J0 Qa (QD h53) (Qf (Qb (Qe Qa Qa (Q0 T7 Qa (Kc (j2.sp [4] Qa) (hG.starL 5 Qa) (hO.starL 5 Qa)) Qa ?_))))))
  rintro _ w54 ⟨rfl,j54⟩
  replace j54:=j54.jn Qa Qa
  refine Qc Qa Qa (Qh (Qd (Qo (Qz (Qm (Q5 (.inr Qa) Qa Qa ?_))))))
  exact⟨_,rfl, by rw[MA (by omega) (i:=true) (by simp [hn])]<;>rfl, by rw[MA (by omega) (i:=true) (by simp [hn])]; exact QW (X:={X with b:=(ZU X.b).2}) (j54.pick [2,3,4,0,5,6] Qa)⟩
 refine Qb (QL Qa Qa Qa (Qc Qa Qa (Qh (Qd (Qv Qa (fun h55=> ?_) (fun h55=> ?_))))))
 ·refine Qf (Qb (Qe Qa Qa (Q0 T7 Qa (Kc (j2.sp [4] Qa) (hG.starL 5 Qa) (hO.starL 5 Qa)) Qa ?_)))
  rintro _ w56 ⟨rfl,j56⟩
  replace j56:=j56.jn Qa Qa
  refine Qc Qa Qa (Qh (Qd (Qo (Qz (Qm (Q5 (.inr Qa) Qa Qa ?_))))))
  exact⟨_,rfl, by rw[M9 (by omega) (i:=true) (by simp [hn])]<;>rfl, by rw[M9 (by omega) (i:=true) (by simp [hn])]; exact QW (X:={X with b:=(ZU X.b).2}) (j56.pick [2,3,4,0,5,6] Qa)⟩
 refine Qf (Qb (QL Qa Qa Qa (Qc Qa Qa (Qh (Qd (Qv Qa (fun h57=> ?_) (fun h57=> ?_)))))))
 ·refine Qb (Qe Qa Qa (Qi Qa Hg Qa (Qr Qa QH (by first | assumption | exact j2.cell 0 Qa Qa | exact j2.cell 1 Qa Qa) Qa ?_)))
  refine Qi Qa Rq Qa (Qr Qa RC (by first | assumption | exact j2.cell 0 Qa Qa | exact j2.cell 1 Qa Qa) Qa ?_)
  refine Q0 AC Qa (S6 (j2.sp [4] Qa) (hK.starL 5 Qa) o.id (by omega) (by omega)) Qa ?_
  rintro _ w58 ⟨rfl,j58⟩
  replace j58:=j58.jn Qa Qa
  refine Qh (Qq (Qd (Qk [4] Qa (Qf (Qb (Qc Qa Qa (Qh (Qd (Qo (Q5 (.inr Qa) Qa Qa ?_))))))))))
  exact⟨_,rfl, by rw[M8 (by omega) (i:=true) (by simp [hn])]<;>rfl, by rw[M8 (by omega) (i:=true) (by simp [hn])]; exact QW (X:={X with b:={X.b with D:=DB X.b.D o.id o.keep}}) (j58.pick [2,3,4,0,5,6] Qa)⟩
 refine Qf (Qb (QL Qa Qa Qa (Qc Qa Qa (Qh (Qd (Qk [0,3,4,5,19,119] Qa (Qv Qa (fun h59=> ?_) (fun h59=> ?_))))))))
 ·refine Qb (Qe Qa Qa (Qi Qa Hg Qa (Qr Qa QH (by first | assumption | exact j2.cell 0 Qa Qa | exact j2.cell 1 Qa Qa) Qa ?_)))
  refine KO 2 Qa Qa Qa Qa (q:=4) Qa Qa (Q0 AD Qa (Nu (j2.sp [4] Qa) (o.id%4) (by omega)) Qa ?_)
  rintro _ w60 ⟨rfl,j60⟩
  replace j60:=j60.jn Qa Qa
  refine Qh (Qq (Qd (Qk [4] Qa (Qf (Qb (Qc Qa Qa (Qh (Qd (Qo (Q5 (.inr Qa) Qa Qa ?_))))))))))
  have E6:max (o.id%4) 0=o.id%4:= by omega
  rw[E6]at j60
  exact⟨_,rfl, by rw[M7 (by omega) (i:=true) (by simp [hn])]<;>rfl, by rw[M7 (by omega) (i:=true) (by simp [hn])]; exact QW (X:={X with b:={X.b with D:={X.b.D with lost:=o.id%4}}}) (j60.pick [2,3,4,0,5,6] Qa)⟩
 refine Qf (Qb (QL Qa Qa Qa (Qc Qa Qa (Qh (Qd (Qv Qa (fun h61=> ?_) (fun h61=> ?_)))))))
 ·refine Qb (Qe Qa Qa (Ql Qa Qa (Qi Qa XA Qa (Qr Qa Xp (by first | assumption | exact j2.cell 0 Qa Qa | exact j2.cell 1 Qa Qa) Qa ?_))))
  refine Q0 Ay Qa (C9 (j2.sp [5] Qa)) Qa ?_
  rintro _ w62 ⟨rfl,j62⟩
  replace j62:=j62.jn Qa Qa
  refine Qh (Qq (Qd (Qk [4] Qa (Qf (Qb (Qc Qa Qa (Qh (Qd (Qo (Q5 (.inr Qa) Qa Qa ?_))))))))))
  exact⟨_,rfl, by rw[M6 (by omega) (i:=true) (by simp [hn])]<;>rfl, by rw[M6 (by omega) (i:=true) (by simp [hn])]; exact QW (X:={X with cut:=true,fl:=[]}) (j62.pick [2,3,4,5,0,6] Qa)⟩
 refine Qf (Qb (QL Qa Qa Qa (Qc Qa Qa (Qh (Qd (Qv Qa (fun h63=> ?_) (fun h63=> ?_)))))))
 ·refine Qb (Qe Qa Qa (Ql Qa Qa (Qi Qa XA Qa (Qr Qa Xp (by first | assumption | exact j2.cell 0 Qa Qa | exact j2.cell 1 Qa Qa) Qa ?_))))
  refine Q0 AB Qa (Md (j2.sp [5] Qa)) Qa ?_
  rintro _ w64 ⟨rfl,j64⟩
  replace j64:=j64.jn Qa Qa
  refine Qh (Qq (Qd (Qk [4] Qa (Qf (Qb (Qc Qa Qa (Qh (Qd (Qo (Q5 (.inr Qa) Qa Qa ?_))))))))))
  exact⟨_,rfl, by rw[M5 (by omega) (i:=true) (by simp [hn])]<;>rfl, by rw[M5 (by omega) (i:=true) (by simp [hn])]; exact QW (X:={X with cut:=false}) (j64.pick [2,3,4,5,0,6] Qa)⟩
 refine Qf (Qb (QL Qa Qa Qa (Qc Qa Qa (Qh (Qd (Qk [0,3,4,5,140] Qa (Qv Qa (fun h65=> ?_) (fun h65=> ?_))))))))
 ·refine Qf (Qb (Qe Qa Qa (Q0 Gt Qa (HF (j2.sp [4] Qa) (hG.starL 5 Qa) (hO.starL 5 Qa)) Qa ?_)))
  rintro _ w66 ⟨rfl,j66⟩
  replace j66:=j66.jn Qa Qa
  refine Qe Qa Qa (Q7 Qa Qa Qa (Q7 Qa Qa Qa (Qc Qa Qa (Qc Qa Qa (Qh (Qd (Qk [3,4,5,6] Qa (Qf (Qb (Qe Qa Qa (QL Qa Qa Qa (Qh (Qd (Qv Qa (fun h67=> ?_) (fun h67=> ?_)))))))))))))))
  ·have hst:(Zg X.b).1=1:=h67
   refine Qf (Qb (Qe Qa Qa (Qi Qa Rr Qa (Qr Qa Zx (by first | assumption | exact j66.cell 1 Qa Qa | exact j66.cell 2 Qa Qa) Qa ?_))))
   refine Zs Qa Sc PC Lt Qa Qa (Q0 T6 Qa (R9 (j66.sp [0] Qa) (hG.starL 5 Qa) (hO.starL 5 Qa) (t:=o.s) (l:=[]) PY) Qa ?_)
   rintro _ w68 ⟨rfl,j68⟩
   replace j68:=j68.jn Qa Qa
   refine Qc Qa Qa (Qh (Qd (Qk [4] Qa (Qo (Qz (Qm (Q5 (.inr Qa) Qa Qa ?_)))))))
   exact⟨_,rfl, by rw[Bd (by omega) (i:=true) (by simp [hn]) hst]<;>rfl, by rw[Bd (by omega) (i:=true) (by simp [hn]) hst]; exact QW (X:={X with b:=(Zw X.b ⟨o.s,[]⟩).2}) (j68.pick [2,3,4,0,5,6] Qa)⟩
  have hst:(Zg X.b).1≠1:=h67
  refine Qt (Qq (Qd (Qf (Qb (Qc Qa Qa (Qh (Qd (Qo (Q5 (.inr Qa) Qa Qa ?_)))))))))
  exact⟨_,rfl, by rw[Bc (by omega) (i:=true) (by simp [hn]) hst]<;>rfl, by rw[Bc (by omega) (i:=true) (by simp [hn]) hst]; exact QW (X:=X) (j66.pick [2,3,4,0,5,6] Qa)⟩
 have j69:=QW (X:=X) (j2.pick [1,2,3,4,5,0,6] Qa)
 refine Qb (Qe Qa Qa (Qi Qa WZ Qa (Qr Qa QH (by first | assumption | exact j69.cell 1 Qa Qa) Qa ?_)))
 refine Q0 Ax Qa (BU (j69.sp [0] Qa) (hG.starL 1 Qa) (hO.starL 1 Qa) hW o.n) Qa ?_
 rintro _ w70 ⟨rfl,j70⟩
 replace j70:=j70.jn Qa Qa
 refine Qh (Qq (Qd (Qf (Qb (Qc Qa Qa (Qh (Qd (Qo (Q5 (.inr Qa) Qa Qa ?_)))))))))
 exact⟨_,rfl, by rw[Bb (by omega)]<;>rfl, by rw[Bb (by omega)]; exact j70.pick [0,2] Qa⟩
theorem Ep {w:World} {x:Nat} {X:TwD} {F:Th} (hS:Sat w [Dv x X,F]) (hG:Ent F WireG) (hO:Ent F (Glob 0)) (hW:XW X) {o:OpD} {kv:Value} (hK:Ent F (RdI kv o.keep)) (E6:o.id≤9223372036854775807) (hkl:o.keep.length≤1000) (hm:X4 (X.a.move+1)) (hm2:X4 (X.b.move+1)):
    Calls prog 11 #[ptrV x 0,.agg #[intV o.dO,intV o.n,intV o.id,.int .u8 (o.b.toNat:Int),strV o.s,kv]] w (Ret fun v w'=>v=intV (Zc X o).1∧Sat w' [Dv x (Zc X o).2,F]):= by
  rcases(by omega:o.n%2=0∨o.n%2=1)with h | h
  · exact step_f hS hG hO hW hK E6 hkl hm h
  · exact step_t hS hG hO hW hK E6 hkl hm2 h
