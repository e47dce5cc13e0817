/- move: join -/
import Derived.Test.YtiibgheijbbmaaaGreatDoorMvc
set_option linter.unusedVariables false
set_option maxRecDepth 100000
namespace Go.Proofs.YtiibgheijbbmaaaGreatDoor
open Go.RowKit M Proofs.Tryz
def Pp (o:OfD) (m n:Nat):List Value:=[intV o.move,.map (some m),intV o.many,.map (some n),strV o.list]
def newO (n:Int):OfD:=⟨n,[],0,[],[]⟩
section
variable {E:EnD} {n:Int} {o:OfD}
theorem Uy (h:E.kind=1∨n≤E.move):Zr E n=none:= by unfold Zr; rw[if_pos h]
theorem Af (h: ¬(E.kind=1∨n≤E.move)) (ho:E.off=none):Zr E n=some (newO n):= by unfold Zr; rw[if_neg h,ho];rfl
theorem Bn (h: ¬(E.kind=1∨n≤E.move)) (ho:E.off=some o) (h2:n<o.move):Zr E n=none:= by unfold Zr; rw[if_neg h,ho]; dsimp only; rw[if_pos h2]
theorem Ag (h: ¬(E.kind=1∨n≤E.move)) (ho:E.off=some o) (h2: ¬n<o.move) (h3:o.move<n):Zr E n=some (newO n):= by unfold Zr; rw[if_neg h,ho]; dsimp only; rw[if_neg h2,if_pos h3];rfl
theorem Fp (h: ¬(E.kind=1∨n≤E.move)) (ho:E.off=some o) (h2: ¬n<o.move) (h3: ¬o.move<n):Zr E n=some o:= by unfold Zr; rw[if_neg h,ho]; dsimp only; rw[if_neg h2,if_neg h3]
end
theorem join_a {w:World} {e:Nat} {E:EnD} {F:Th} (hS:Sat w [Xs e E,F]) (n:Int) (ho:E.off=none):
    Calls prog 103 #[ptrV e 0,intV n] w (Ret fun v w'=>(Zr E n=none∧v= .pointer none∧Sat w' [Xs e E,F])∨(∃o b om on dp cv sv,Zr E n=some o∧v=ptrV b 0∧Sat w' [QR b (Pp o om on),XI Za om (UV o.parts),XI Za on (Yj o.pages),QR e (U6 dp cv sv (ptrV b 0) E),dT dp E.D,JR dp cv E.cell,VY sv E.ses,F])):= by
 obtain⟨dp,cv,sv,ov,hS⟩:=QW hS
 rw[ho]at hS
 obtain⟨rfl,hS⟩:=Be (hS.reorder [4,0,1,2,3,5] rfl)
 refine Qy func103 Qa ntmps103 Qa ?_
 refine Qg (Qb (Qc Qa Qa (Qh (Qe (Qg (Qg (Qb (Qd Qa Qa (Ql Qa Qa (Qi Qa Z0 Qa (Qp Qa QK (hS.cell 0 Qa Qa) Qa (QO Qa Qa Qa (Qd Qa Qa (Q3 10 Qa (fun h1=> ?_) (fun h1=> ?_)))))))))))))))
 ·refine Qf Qa Qa (Q8 h1) Qa (Qf Qa Qa (Q8 h1) Qa (Qf Qa Qa (Q8 h1) Qa (Qf Qa Qa (Q8 h1) Qa (Qf Qa Qa (Q8 h1) Qa (Qf Qa Qa (Q8 h1) Qa (Qx Qa (Q8 h1) Qa Qa (Qd Qa Qa (Qf Qa Qa Qa Qa (Qf Qa Qa Qa Qa (Qf Qa Qa Qa Qa (Qf Qa Qa Qa Qa (Qf Qa Qa Qa Qa (Qf Qa Qa Qa Qa (Q5 Qa Qa Qa (Q5 Qa Qa Qa (Q5 Qa Qa Qa (Q5 Qa Qa Qa (Q5 Qa Qa Qa (Q5 Qa Qa Qa (Q5 Qa Qa Qa (Q5 Qa Qa Qa (Q5 Qa Qa Qa (Qf Qa Qa Qa Qa (Qx Qa Qa Qa Qa (Qh (Qe (Qk [1,0,4,35] Qa (QL Qa (Qg (Qb (Qc Qa Qa (Qh (Qe (Qo (Qm (Q7 (.inr Qa) Qa Qa ?_))))))))))))))))))))))))))))))))))))
  exact⟨_,rfl,.inl ⟨Uy (by omega),rfl,Qu (E:=E) (by rw[ho]; exact((Wh (hS.pick [0,1,2,3,4] Qa)).reorder [1,2,3,4,0,5] Qa))⟩⟩
 refine Qj Qa Qa (Qv h1) (Qd Qa Qa (Qj Qa Qa (Qv h1) (Qd Qa Qa (Qj Qa Qa (Qv h1) (Ql Qa Qa (Qj Qa Qa (Qv h1) (Qi Qa WH Qa (Qj Qa Qa (Qv h1) (Qp Qa QK (hS.cell 0 Qa Qa) Qa (Qj Qa Qa (Qv h1) (W7 Qa Qa Qa (Qz Qa (Qv h1) Qa Qa (Qd Qa Qa (Q3 18 Qa (fun h2=> ?_) (fun h2=> ?_)))))))))))))))
 ·refine Qf Qa Qa (Q8 h2) Qa (Qf Qa Qa (Q8 h2) Qa (Qf Qa Qa (Q8 h2) Qa (Qf Qa Qa (Q8 h2) Qa (Qf Qa Qa (Q8 h2) Qa (Qf Qa Qa (Q8 h2) Qa (Q5 Qa Qa Qa (Q5 Qa Qa Qa (Q5 Qa Qa Qa (Q5 Qa Qa Qa (Q5 Qa Qa Qa (Q5 Qa Qa Qa (Q5 Qa Qa Qa (Q5 Qa Qa Qa (Q5 Qa Qa Qa (Qf Qa Qa (Q8 h2) Qa (Qx Qa (Q8 h2) Qa Qa (Qh (Qe (Qk [1,0,4,35] Qa (QL Qa (Qg (Qb (Qc Qa Qa (Qh (Qe (Qo (Qm (Q7 (.inr Qa) Qa Qa ?_))))))))))))))))))))))))))))
  exact⟨_,rfl,.inl ⟨Uy (by omega),rfl,Qu (E:=E) (by rw[ho]; exact((Wh (hS.pick [0,1,2,3,4] Qa)).reorder [1,2,3,4,0,5] Qa))⟩⟩
 refine Qj Qa Qa (Qv h2) (Qd Qa Qa (Qj Qa Qa (Qv h2) (Ql Qa Qa (Qj Qa Qa (Qv h2) (Qi Qa WG Qa (Qj Qa Qa (Qv h2) (Qp Qa UO (hS.cell 0 Qa Qa) Qa (Qj Qa Qa (Qv h2) (YY underlying79 Qa Qa Qa (Qj Qa Qa (Qv h2) (Qd Qa Qa (Qf Qa Qa Qa Qa (Qf Qa Qa Qa Qa (Qf Qa Qa Qa Qa (Qf Qa Qa Qa Qa (Qf Qa Qa Qa Qa (Qf Qa Qa Qa Qa (Qf Qa Qa Qa Qa (Qf Qa Qa Qa Qa (Qf Qa Qa Qa Qa (Qj Qa Qa (Qv h2) (Qz Qa Qa Qa Qa (Qz Qa (Qv h2) Qa Qa (Qh (Qe (Qk [1,0,4,35] Qa (QF Qa (Qr (Qe (Qg (Qg (Qb (Qd Qa Qa (Ql Qa Qa (Qi Qa WG Qa (Qp Qa UO (hS.cell 0 Qa Qa) Qa (ZN underlying79 Qa Qa Qa (Qd Qa Qa (Qf Qa Qa Qa Qa (Qf Qa Qa Qa Qa (Qf Qa Qa Qa Qa (Qf Qa Qa Qa Qa (Qf Qa Qa Qa Qa (Qf Qa Qa Qa Qa (Qf Qa Qa Qa Qa (Qf Qa Qa Qa Qa (Qf Qa Qa Qa Qa (Qx Qa Qa Qa Qa (Qh (Qe (Qk [1,0,4,51] Qa (QL Qa (Qb (Qd Qa Qa (Qd Qa Qa (W6 Za hS Qa ?_))))))))))))))))))))))))))))))))))))))))))))))))))))))))
 intro n1 w3 hS3
 refine W6 Za hS3 Qa ?_
 intro n2 w4 hS4
 refine JJ (vs':=[intV n,.map (some n1),intV 0,.map (some n2),strV []]) Qa Gh Eg AV Qa Qa Qa (XZ hS4 Qa Qa Qa ?_)
 intro nb w5 hS5
 refine Ql Qa Qa (Qi Qa WG Qa ?_)
 (refine QC hS5 Qa Qa NO (by rfl) (i:=3) Qa (Xe Qa) ?_)
 intro w6 hS7; dsimp only[List.set]at hS7
 refine Qh (Qe (Qk [0,4] Qa (Qg (Qb (Qd Qa Qa (Ql Qa Qa (Qi Qa WG Qa (Qp Qa UO (hS7.cell 3 Qa Qa) Qa (Qc Qa Qa (Qh (Qe (Qo (Q7 (.inr Qa) Qa Qa ?_)))))))))))))
 exact⟨_,rfl,.inr ⟨newO n,nb,n1,n2,_,_,_,Af (by omega) ho,rfl,(by have hz:=hS7.pick [0,2,1,3,4,5,6,7] Qa; rw[show(fun _:Int=>(none:Option Value))=UV [] from rfl]at hz; exact hz)⟩⟩
theorem join_b {w:World} {e:Nat} {E:EnD} {F:Th} (hS:Sat w [Xs e E,F]) (n:Int) {o:OfD} (ho:E.off=some o):
    Calls prog 103 #[ptrV e 0,intV n] w (Ret fun v w'=>(Zr E n=none∧v= .pointer none∧Sat w' [Xs e E,F])∨(∃o b om on dp cv sv,Zr E n=some o∧v=ptrV b 0∧Sat w' [QR b (Pp o om on),XI Za om (UV o.parts),XI Za on (Yj o.pages),QR e (U6 dp cv sv (ptrV b 0) E),dT dp E.D,JR dp cv E.cell,VY sv E.ses,F])):= by
 obtain⟨dp,cv,sv,ov,hS⟩:=QW hS
 rw[ho]at hS
 obtain⟨ob,om,on,rfl,hS⟩:=Bd (hS.reorder [4,0,1,2,3,5] rfl)
 refine Qy func103 Qa ntmps103 Qa ?_
 refine Qg (Qb (Qc Qa Qa (Qh (Qe (Qg (Qg (Qb (Qd Qa Qa (Ql Qa Qa (Qi Qa Z0 Qa (Qp Qa QK (hS.cell 3 Qa Qa) Qa (QO Qa Qa Qa (Qd Qa Qa (Q3 10 Qa (fun h1=> ?_) (fun h1=> ?_)))))))))))))))
 ·refine Qf Qa Qa (Q8 h1) Qa (Qf Qa Qa (Q8 h1) Qa (Qf Qa Qa (Q8 h1) Qa (Qf Qa Qa (Q8 h1) Qa (Qf Qa Qa (Q8 h1) Qa (Qf Qa Qa (Q8 h1) Qa (Qx Qa (Q8 h1) Qa Qa (Qd Qa Qa (Qf Qa Qa Qa Qa (Qf Qa Qa Qa Qa (Qf Qa Qa Qa Qa (Qf Qa Qa Qa Qa (Qf Qa Qa Qa Qa (Qf Qa Qa Qa Qa (Q5 Qa Qa Qa (Q5 Qa Qa Qa (Q5 Qa Qa Qa (Q5 Qa Qa Qa (Q5 Qa Qa Qa (Q5 Qa Qa Qa (Q5 Qa Qa Qa (Q5 Qa Qa Qa (Q5 Qa Qa Qa (Qf Qa Qa Qa Qa (Qx Qa Qa Qa Qa (Qh (Qe (Qk [1,0,4,35] Qa (QL Qa (Qg (Qb (Qc Qa Qa (Qh (Qe (Qo (Qm (Q7 (.inr Qa) Qa Qa ?_))))))))))))))))))))))))))))))))))))
  exact⟨_,rfl,.inl ⟨(by first | exact Uy (by omega) | exact Bn (by omega) ho (by omega)),rfl,Qu (E:=E) (by rw[ho]; exact((XX (hS.pick [0,1,2,3,4,5,6,7] Qa)).reorder [1,2,3,4,0,5] Qa))⟩⟩
 refine Qj Qa Qa (Qv h1) (Qd Qa Qa (Qj Qa Qa (Qv h1) (Qd Qa Qa (Qj Qa Qa (Qv h1) (Ql Qa Qa (Qj Qa Qa (Qv h1) (Qi Qa WH Qa (Qj Qa Qa (Qv h1) (Qp Qa QK (hS.cell 3 Qa Qa) Qa (Qj Qa Qa (Qv h1) (W7 Qa Qa Qa (Qz Qa (Qv h1) Qa Qa (Qd Qa Qa (Q3 18 Qa (fun h2=> ?_) (fun h2=> ?_)))))))))))))))
 ·refine Qf Qa Qa (Q8 h2) Qa (Qf Qa Qa (Q8 h2) Qa (Qf Qa Qa (Q8 h2) Qa (Qf Qa Qa (Q8 h2) Qa (Qf Qa Qa (Q8 h2) Qa (Qf Qa Qa (Q8 h2) Qa (Q5 Qa Qa Qa (Q5 Qa Qa Qa (Q5 Qa Qa Qa (Q5 Qa Qa Qa (Q5 Qa Qa Qa (Q5 Qa Qa Qa (Q5 Qa Qa Qa (Q5 Qa Qa Qa (Q5 Qa Qa Qa (Qf Qa Qa (Q8 h2) Qa (Qx Qa (Q8 h2) Qa Qa (Qh (Qe (Qk [1,0,4,35] Qa (QL Qa (Qg (Qb (Qc Qa Qa (Qh (Qe (Qo (Qm (Q7 (.inr Qa) Qa Qa ?_))))))))))))))))))))))))))))
  exact⟨_,rfl,.inl ⟨(by first | exact Uy (by omega) | exact Bn (by omega) ho (by omega)),rfl,Qu (E:=E) (by rw[ho]; exact((XX (hS.pick [0,1,2,3,4,5,6,7] Qa)).reorder [1,2,3,4,0,5] Qa))⟩⟩
 refine Qj Qa Qa (Qv h2) (Qd Qa Qa (Qj Qa Qa (Qv h2) (Ql Qa Qa (Qj Qa Qa (Qv h2) (Qi Qa WG Qa (Qj Qa Qa (Qv h2) (Qp Qa UO (hS.cell 3 Qa Qa) Qa (Qj Qa Qa (Qv h2) (Vd underlying79 Qa Qa Qa (Qj Qa Qa (Qv h2) (Qd Qa Qa (Qj Qa Qa Qa (Qd Qa Qa (Qj Qa Qa Qa (Ql Qa Qa (Qj Qa Qa Qa (Qi Qa WG Qa (Qj Qa Qa Qa (Qp Qa UO (hS.cell 3 Qa Qa) Qa (Qj Qa Qa Qa (Ql Qa Qa (Qj Qa Qa Qa (Qi Qa G4 Qa (Qj Qa Qa Qa (Qp Qa QK (hS.cell 0 Qa Qa) Qa (Qj Qa Qa Qa (Qd Qa Qa (Qj Qa Qa Qa (We Qa Qa Qa (Qj Qa Qa (Qv h2) (Qx Qa Qa Qa Qa (Qz Qa (Qv h2) Qa Qa (Qh (Qe (Qk [1,0,4,35] Qa (Qw Qa (fun h3=> ?_) (fun h3=> ?_)))))))))))))))))))))))))))))))))))))
 ·refine Qg (Qb (Qc Qa Qa (Qh (Qe (Qo (Qm (Q7 (.inr Qa) Qa Qa ?_)))))))
  exact⟨_,rfl,.inl ⟨(by first | exact Uy (by omega) | exact Bn (by omega) ho (by omega)),rfl,Qu (E:=E) (by rw[ho]; exact((XX (hS.pick [0,1,2,3,4,5,6,7] Qa)).reorder [1,2,3,4,0,5] Qa))⟩⟩
 refine Qr (Qe (Qg (Qg (Qb (Qd Qa Qa (Ql Qa Qa (Qi Qa WG Qa (Qp Qa UO (hS.cell 3 Qa Qa) Qa (ZJ underlying79 Qa Qa Qa (Qd Qa Qa (Qj Qa Qa Qa (Qd Qa Qa (Qj Qa Qa Qa (Ql Qa Qa (Qj Qa Qa Qa (Qi Qa WG Qa (Qj Qa Qa Qa (Qp Qa UO (hS.cell 3 Qa Qa) Qa (Qj Qa Qa Qa (Ql Qa Qa (Qj Qa Qa Qa (Qi Qa G4 Qa (Qj Qa Qa Qa (Qp Qa QK (hS.cell 0 Qa Qa) Qa (Qj Qa Qa Qa (Qd Qa Qa (Qj Qa Qa Qa (Xz Qa Qa Qa (Qz Qa Qa Qa Qa (Qh (Qe (Qk [1,0,4,51] Qa (Qw Qa (fun h4=> ?_) (fun h4=> ?_))))))))))))))))))))))))))))))))))
 ·refine Qb (Qd Qa Qa (Qd Qa Qa (W6 Za hS Qa ?_)))
  intro n1 w5 hS5
  refine W6 Za hS5 Qa ?_
  intro n2 w6 hS6
  refine JJ (vs':=[intV n,.map (some n1),intV 0,.map (some n2),strV []]) Qa Gh Eg AV Qa Qa Qa (XZ hS6 Qa Qa Qa ?_)
  intro nb w7 hS7
  refine Ql Qa Qa (Qi Qa WG Qa ?_)
  (refine QC hS7 Qa Qa NO (by rfl) (i:=6) Qa (Xe Qa) ?_)
  intro w8 hS9; dsimp only[List.set]at hS9
  refine Qh (Qe (Qk [0,4] Qa (Qg (Qb (Qd Qa Qa (Ql Qa Qa (Qi Qa WG Qa (Qp Qa UO (hS9.cell 6 Qa Qa) Qa (Qc Qa Qa (Qh (Qe (Qo (Q7 (.inr Qa) Qa Qa ?_)))))))))))))
  exact⟨_,rfl,.inr ⟨newO n,nb,n1,n2,_,_,_,Ag (by omega) ho (by omega) (by omega),rfl,(by have hz:=hS9.pick [0,2,1,6,7,8,9,10] Qa; rw[show(fun _:Int=>(none:Option Value))=UV [] from rfl]at hz; exact hz)⟩⟩
 exact Qr (Qe (Qg (Qb (Qd Qa Qa (Ql Qa Qa (Qi Qa WG Qa (Qp Qa UO (hS.cell 3 Qa Qa) Qa (Qc Qa Qa (Qh (Qe (Qo (Q7 (.inr Qa) Qa Qa (⟨_,rfl,.inr ⟨o,ob,om,on,_,_,_,Fp (by omega) ho (by omega) (by omega),rfl,hS.pick [0,1,2,3,4,5,6,7] Qa⟩⟩)))))))))))))
theorem CK {w:World} {e:Nat} {E:EnD} {F:Th} (hS:Sat w [Xs e E,F]) (n:Int):
    Calls prog 103 #[ptrV e 0,intV n] w (Ret fun v w'=>(Zr E n=none∧v= .pointer none∧Sat w' [Xs e E,F])∨(∃o b om on dp cv sv,Zr E n=some o∧v=ptrV b 0∧Sat w' [QR b (Pp o om on),XI Za om (UV o.parts),XI Za on (Yj o.pages),QR e (U6 dp cv sv (ptrV b 0) E),dT dp E.D,JR dp cv E.cell,VY sv E.ses,F])):= by
  cases ho:E.off with
  | none=> exact join_a hS n ho
  | some o=> exact join_b hS n ho
def VZ (x:Option PgD):PgD:=x.getD ⟨[],0,0,false⟩
theorem YB (l:AL PgD) (i:Int):(Yj l i).getD (.agg #[strV [],intV 0,intV 0,.bool false])=Rr (VZ (QN l i)):= by
  unfold Yj VZ
  cases QN l i<;>rfl
theorem KV (l:AL PgD) (i:Int):(Yj l i).isSome=(QN l i).isSome:= by unfold Yj; cases QN l i<;>rfl
theorem Uf {l:AL PgD} (hs:Srt l) (i:Int) (x:PgD):upd (Yj l) i (some (Rr x))=Yj (X6 i x l):= by
  funext k;unfold upd Yj; rw[ZR hs]
  by_cases h:k=i
  · rw[if_pos h,if_pos h];rfl
  · rw[if_neg h,if_neg h]
theorem pgG_del (l:AL PgD) (i:Int):upd (Yj l) i none=Yj (Yt l i):= by
  funext k;unfold upd Yj; rw[Y7]
  by_cases h:k=i
  · rw[if_pos h,if_pos h];rfl
  · rw[if_neg h,if_neg h]
theorem Iv {w:World} {b om on:Nat} {o:OfD} {F:Th} (hS:Sat w [QR b (Pp o om on),XI Za on (Yj o.pages),F]) (id:Int):
    Calls prog 104 #[ptrV b 0,intV id] w (Ret fun v w'=>v= .bool (QN o.pages id).isSome∧Sat w' [QR b (Pp o om on),XI Za on (Yj o.pages),F]):= by
 refine Qy func104 Qa ntmps104 Qa ?_
 refine Qg (Qb (Qc Qa Qa (Qh (Qe (Qg (Qb (Qd Qa Qa (Ql Qa Qa (Qi Qa HN Qa (Qp Qa ZZ (hS.cell 0 Qa Qa) Qa (Qd Qa Qa (HD (k:=id) 1 hS keysInt underlying89 Qa Qa Qa Wg (u:=Rr (VZ (QN o.pages id))) (g:=(QN o.pages id).isSome) (YB _ _) (KV _ _) Qa (Qd Qa Qa (Q9 Qa Qa Qa (Q9 Qa Qa Qa (Xk hS Wg Qa Qa ?_))))))))))))))))
 intro b1 w1 hS1
 (refine QX hS1 Qa Qa Vl Qa (by rfl) (i:=0) Qa (by decide) ?_)
 intro w2 hS3; dsimp only[List.set]at hS3
 exact Qc Qa Qa (Qh (Qe (Qk [4,6] Qa (Qg (Qb (Qd Qa Qa (Qc Qa Qa (Qh (Qe (Qo (Q7 (.inr Qa) Qa Qa (⟨_,Qa,Qa,hS3.pick [1,2,3] Qa⟩))))))))))))
theorem BW {w:World} {e:Nat} {E:EnD} {F:Th} (hS:Sat w [Xs e E,F]) (id:Int):
    Calls prog 45 #[ptrV e 0,intV id] w (Ret fun v w'=>v=intV (XN E id).1∧Sat w' [Xs e (XN E id).2,F]):= by
 refine Qy func45 Qa ntmps45 Qa ?_
 refine Qg (Qb (Qc Qa Qa (Qh (Qe (Qg (Qg (Qb (Qd Qa Qa (Q4 Vb Qa (HA (hS.sp [0] Qa)) Qa ?_)))))))))
 rintro _ w1 ⟨rfl,hS1⟩
 replace hS1:=hS1.jn Qa Qa
 refine XS Qa Qa (Qh (Qe (Xd Qa (fun h2=> ?_) (fun h2=> ?_))))
 ·have hr:Z5 E=false:= by simpa using h2
  refine Qg (Qb (Qc Qa Qa (Qh (Qe (Qo (Qm (Q7 (.inr Qa) Qa Qa ?_)))))))
  exact⟨_,rfl, by unfold XN; rw[if_pos hr], by unfold XN; rw[if_pos hr]; exact hS1.pick [0,1] Qa⟩
 have hrun: ¬Z5 E=false:= by simpa using h2
 refine Qr (Qe (Qg (Qg ?_)))
 obtain⟨dp,cv,sv,ov,hS3⟩:=QW (hS1.pick [0,1] rfl)
 obtain⟨x,hx⟩: ∃x,E.ses=some x:=(JO hrun).2.2.2
 rw[hx]at hS3
 obtain⟨sb,sm,rfl,hS4⟩:=Zn (hS3.pick [3,0,1,2,4,5] rfl)
 refine Qb (Qd Qa Qa (Ql Qa Qa (Qi Qa Xm Qa (Qp Qa Z8 (hS4.cell 2 Qa Qa) Qa (Ql Qa Qa (Qi Qa ZH Qa (Qp Qa ZZ (hS4.cell 0 Qa Qa) Qa (Qd Qa Qa (HD (k:=id) 1 hS4 keysInt underlying89 Qa Qa Qa Wg (u:=Rr (VZ (QN x.pages id))) (g:=(QN x.pages id).isSome) (YB _ _) (KV _ _) Qa (Qd Qa Qa (Q9 Qa Qa Qa (Q9 Qa Qa Qa (Xk hS4 Wg Qa Qa ?_)))))))))))))
 intro b5 w5 hS5
 (refine QX hS5 Qa Qa Vl Qa (by rfl) (i:=0) Qa (by decide) ?_)
 intro w6 hS7; dsimp only[List.set]at hS7
 refine Qc Qa Qa (Qh (Qe (Qk [1,0,4,6] Qa (Qg (Qb (Qd Qa Qa (XS Qa Qa (Qh (Qe (Xd Qa (fun h8=> ?_) (fun h8=> ?_)))))))))))
 ·have hno:QN x.pages id=none:= by simpa using h8
  refine Qg (Qb (Qc Qa Qa (Qh (Qe (Qo (Qm (Q7 (.inr Qa) Qa Qa ?_)))))))
  exact⟨_,rfl, by unfold XN; rw[if_neg hrun,hx]; dsimp only; rw[if_pos hno], by unfold XN; rw[if_neg hrun,hx]; dsimp only; rw[if_pos hno]; exact Qu (E:=E) (by rw[hx]; exact(Xg (s:=x) (hS7.pick [1,2,3,4,5,6,7] Qa)).reorder [1,2,3,0,4,5] Qa)⟩
 have hyes: ¬QN x.pages id=none:= by intro q0; have q1:=h8; rw[q0]at q1; simp at q1
 refine Qr (Qe (Qg (Qb (Qd Qa Qa (Ql Qa Qa (Qi Qa Xm Qa (Qp Qa Z8 (hS7.cell 3 Qa Qa) Qa (Ql Qa Qa (Qi Qa ZH Qa (Qp Qa ZZ (hS7.cell 1 Qa Qa) Qa (Qd Qa Qa (Er (k:=id) 2 hS7 keysInt underlying89 Qa Qa Qa Qa ?_))))))))))))
 intro w9 hS9; dsimp only[List.set]at hS9; rw[pgG_del]at hS9
 refine Qh (Qe (Qk [4] Qa (Qg (Qb (Qc Qa Qa (Qh (Qe (Qo (Q7 (.inr Qa) Qa Qa ?_)))))))))
 exact⟨_,rfl, by unfold XN; rw[if_neg hrun,hx]; dsimp only; rw[if_neg hyes], by unfold XN; rw[if_neg hrun,hx]; dsimp only; rw[if_neg hyes]; exact Qu (E:={E with ses:=some {x with pages:=Yt x.pages id}}) ((Xg (s:={x with pages:=Yt x.pages id}) (hS9.pick [1,2,3,4,5,6,7] Qa)).reorder [1,2,3,0,4,5] Qa)⟩
def Uu (E:EnD) (id:Int):Bs×Int:= match E.ses with
  | none=>([],4)
  | some s=> match QN s.pages id with
    | none=>([],4)
    | some p=> if p.miss=true then([],19)else(p.data,0)
theorem Sk {w:World} {e:Nat} {E:EnD} {F:Th} (hS:Sat w [Xs e E,F]) (id:Int):
    Calls prog 28 #[ptrV e 0,intV id] w (Ret fun v w'=>v= .tuple #[strV (Uu E id).1,intV (Uu E id).2]∧Sat w' [Xs e E,F]):= by
 obtain⟨dp,cv,sv,ov,hS⟩:=QW hS
 refine Qy func28 Qa ntmps28 Qa ?_
 refine Qg (Qb (Qc Qa Qa (Qc Qa Qa (Qh (Qe (Qg (Qg (Qb (Qd Qa Qa (Ql Qa Qa (Qi Qa Xm Qa (Qp Qa Z8 (hS.cell 0 Qa Qa) Qa ?_))))))))))))
 rcases hq_s:E.ses with _ | s
 ·rw[hq_s]at hS
  obtain⟨rfl,hSo1⟩:=WM (hS.pick [3,0,1,2,4,5] rfl)
  refine ZN underlying78 Qa Qa Qa (Qh (Qe (QL Qa (Qg (Qb (Qc Qa Qa (Qc Qa Qa (Qh (Qe (Qo (Qm (ZI (.inr Qa) Qa Qa Qa ?_))))))))))))
  exact⟨_,rfl, by unfold Uu; rw[hq_s],Qu (E:=E) (by rw[hq_s]; exact((ZQ hSo1).pick [1,2,3,0,4,5] Qa))⟩
 rw[hq_s]at hS
 obtain⟨sb,sm,rfl,hSo2⟩:=Zn (hS.pick [3,0,1,2,4,5] rfl)
 refine ZJ underlying78 Qa Qa Qa (Qh (Qe (QF Qa (Qr (Qe (Qg (Qb (Qd Qa Qa (Ql Qa Qa (Qi Qa Xm Qa (Qp Qa Z8 (hSo2.cell 2 Qa Qa) Qa (Ql Qa Qa (Qi Qa ZH Qa (Qp Qa ZZ (hSo2.cell 0 Qa Qa) Qa (Qd Qa Qa (HD (k:=id) 1 hSo2 keysInt underlying89 Qa Qa Qa Wg (u:=Rr (VZ (QN s.pages id))) (g:=(QN s.pages id).isSome) (YB _ _) (KV _ _) Qa (Qd Qa Qa (Q9 Qa Qa Qa (Q9 Qa Qa Qa (Xk hSo2 Wg Qa Qa ?_))))))))))))))))))))
 intro b3 w3 hS3
 clear hSo2
 (refine QX hS3 Qa Qa Vl Qa (by rfl) (i:=0) Qa (by decide) ?_)
 intro w4 hS5; dsimp only[List.set]at hS5
 refine Qc Qa Qa (Qh (Qe (Qk [4,5,6,7] Qa (Qg (QD (Qg (Qb (Qd Qa Qa (XS Qa Qa (Qc Qa Qa (Qh (Qe (Xd Qa (fun h6=> ?_) (fun h6=> ?_))))))))))))))
 ·have hno:QN s.pages id=none:= by simpa using h6
  refine Qg (Qb (Qc Qa Qa (Qc Qa Qa (Qh (Qe (Qo (Q0 (Qm (ZI (.inr Qa) Qa Qa Qa ?_)))))))))
  exact⟨_,rfl, by unfold Uu; rw[hq_s]; dsimp only; rw[hno],Qu (E:=E) (by rw[hq_s]; exact((Xg (hS5.pick [1,2,0,3,4,5,6,7] Qa)).pick [2,3,4,0,5,6] Qa))⟩
 obtain⟨p,hp⟩: ∃p,QN s.pages id=some p:=Option.isSome_iff_exists.1 (by simpa using h6)
 have hpo:VZ (QN s.pages id)=p:= by rw[hp];rfl
 refine Qg (Qb (Qi Qa CX Qa (Qp Qa JT (hS5.cell 0 Qa Qa) Qa (Qc Qa Qa (Qh (Qe (Xd Qa (fun h7=> ?_) (fun h7=> ?_))))))))
 ·have hmi:p.miss=true:= by rw[←hpo]; exact h7
  refine Qg (Qb (Qc Qa Qa (Qc Qa Qa (Qh (Qe (Qo (Q0 (Qm (ZI (.inr Qa) Qa Qa Qa ?_)))))))))
  exact⟨_,rfl, by unfold Uu; rw[hq_s]; dsimp only; rw[hp]; dsimp only; rw[if_pos hmi],Qu (E:=E) (by rw[hq_s]; exact((Xg (hS5.pick [1,2,0,3,4,5,6,7] Qa)).pick [2,3,4,0,5,6] Qa))⟩
 have hmi: ¬p.miss=true:= by rw[←hpo];simpa using h7
 refine Qr (Qq (Qe (Qg (Qb (Qi Qa Rd Qa (Qp Qa Zw (hS5.cell 0 Qa Qa) Qa (Qc Qa Qa (Qc Qa Qa (Qh (Qe (Qk [4,5] Qa (Qo (ZI (.inr Qa) Qa Qa Qa ?_)))))))))))))
 exact⟨_,rfl, by unfold Uu; rw[hq_s]; dsimp only; rw[hp]; dsimp only; rw[if_neg hmi];rfl,Qu (E:=E) (by rw[hq_s]; exact((Xg (hS5.pick [1,2,0,3,4,5,6,7] Qa)).pick [2,3,4,0,5,6] Qa))⟩
theorem N9 {n:Int} (h:Xy n):IntKind.i64.wrap (n+1)=GP n:= by
  unfold GP Xy at *
  split
  · rename_i e; subst e;rfl
  · exact Um (by omega) (by omega)
theorem C9 {l:AL PgD} (h:Srt l):Card (Yj l) l.length:= by
  refine⟨XY l,h.imp fun q r=> by omega, by unfold XY; rw[List.length_map], fun k=> ?_⟩
  unfold Yj
  have :=Jv (l:=l) (i:=k)
  cases q:QN l k with
  | none=> rw[q]at this; simp at this⊢; exact this
  | some x=> rw[q]at this; simp at this⊢; exact this
theorem VA {w:World} {e:Nat} {E:EnD} {F:Th} (hS:Sat w [Xs e E,F]) (id:Int) (d:Bs) (hsr: ∀x,E.ses=some x→Srt x.pages) (hct: ∀x,E.ses=some x→Xy x.count):
    Calls prog 44 #[ptrV e 0,intV id,strV d] w (Ret fun v w'=>v=intV (Xx E id d).1∧Sat w' [Xs e (Xx E id d).2,F]):= by
 refine Qy func44 Qa ntmps44 Qa ?_
 refine Qg (Qb (Qc Qa Qa (Qh (Qe (Qg (Qg (Qb (Qd Qa Qa (Q4 Vb Qa (HA (hS.sp [0] Qa)) Qa ?_)))))))))
 rintro _ w1 ⟨rfl,hS1⟩
 replace hS1:=hS1.jn Qa Qa
 refine XS Qa Qa (Qh (Qe (Xd Qa (fun h2=> ?_) (fun h2=> ?_))))
 ·have hr:Z5 E=false:= by simpa using h2
  refine Qg (Qb (Qc Qa Qa (Qh (Qe (Qo (Qm (Q7 (.inr Qa) Qa Qa ?_)))))))
  exact⟨_,rfl, by unfold Xx; rw[if_pos hr], by unfold Xx; rw[if_pos hr]; exact hS1.pick [0,1] Qa⟩
 have hrun: ¬Z5 E=false:= by simpa using h2
 refine Qr (Qe (Qg (Qg (Qb (Qd Qa Qa (Xz Qa Qa Qa (Qd Qa Qa (Q3 14 Qa (fun h3=> ?_) (fun h3=> ?_)))))))))
 ·refine Qf Qa Qa (Q8 h3) Qa (Qf Qa Qa (Q8 h3) Qa (Qx Qa (Q8 h3) Qa Qa (Qd Qa Qa (Qf Qa Qa Qa Qa (Qf Qa Qa Qa Qa (Qf Qa Qa Qa Qa (Qx Qa Qa Qa Qa (Qh (Qe (Qk [2,1,0,6,22] Qa (QL Qa (Qg (Qb (Qc Qa Qa (Qh (Qe (Qo (Qm (Q7 (.inr Qa) Qa Qa ?_)))))))))))))))))))
  exact⟨_,rfl, by unfold Xx; rw[if_neg hrun,if_pos (by omega)], by unfold Xx; rw[if_neg hrun,if_pos (by omega)]; exact hS1.pick [0,1] Qa⟩
 refine Qj Qa Qa (Qv h3) (Qd Qa Qa (Qj Qa Qa (Qv h3) (We Qa Qa Qa (Qz Qa (Qv h3) Qa Qa (Qd Qa Qa (Q3 18 Qa (fun h4=> ?_) (fun h4=> ?_)))))))
 ·refine Qf Qa Qa (Q8 h4) Qa (Qf Qa Qa (Q8 h4) Qa (Qf Qa Qa (Q8 h4) Qa (Qx Qa (Q8 h4) Qa Qa (Qh (Qe (Qk [2,1,0,6,22] Qa (QL Qa (Qg (Qb (Qc Qa Qa (Qh (Qe (Qo (Qm (Q7 (.inr Qa) Qa Qa ?_)))))))))))))))
  exact⟨_,rfl, by unfold Xx; rw[if_neg hrun,if_pos (by omega)], by unfold Xx; rw[if_neg hrun,if_pos (by omega)]; exact hS1.pick [0,1] Qa⟩
 refine Qj Qa Qa (Qv h4) (Qd Qa Qa (Qj Qa Qa (Qv h4) (Zs underlying9 Qa Qa (Qj Qa Qa (Qv h4) (Xt Qa Qa Qa (Qz Qa (Qv h4) Qa Qa (Qh (Qe (Qk [2,1,0,6,22] Qa (Qw Qa (fun h5=> ?_) (fun h5=> ?_)))))))))))
 ·refine Qg (Qb (Qc Qa Qa (Qh (Qe (Qo (Qm (Q7 (.inr Qa) Qa Qa ?_)))))))
  exact⟨_,rfl, by unfold Xx; rw[if_neg hrun,if_pos (by omega)], by unfold Xx; rw[if_neg hrun,if_pos (by omega)]; exact hS1.pick [0,1] Qa⟩
 refine Qr (Qe (Qg ?_))
 obtain⟨dp,cv,sv,ov,hS6⟩:=QW (hS1.pick [0,1] rfl)
 obtain⟨x,hx⟩: ∃x,E.ses=some x:=(JO hrun).2.2.2
 rw[hx]at hS6
 obtain⟨sb,sm,rfl,hS7⟩:=Zn (hS6.pick [3,0,1,2,4,5] rfl)
 refine Qb (Qd Qa Qa (Ql Qa Qa (Qi Qa Xm Qa (Qp Qa Z8 (hS7.cell 2 Qa Qa) Qa (Ql Qa Qa (Qi Qa ZH Qa (Qp Qa ZZ (hS7.cell 0 Qa Qa) Qa (Qd Qa Qa (HD (k:=id) 1 hS7 keysInt underlying89 Qa Qa Qa Wg (u:=Rr (VZ (QN x.pages id))) (g:=(QN x.pages id).isSome) (YB _ _) (KV _ _) Qa (Qd Qa Qa (Q9 Qa Qa Qa (Q9 Qa Qa Qa (Xk hS7 Wg Qa Qa ?_)))))))))))))
 intro b8 w8 hS8
 (refine QX hS8 Qa Qa Vl Qa (by rfl) (i:=0) Qa (by decide) ?_)
 intro w9 hS10; dsimp only[List.set]at hS10
 refine Qc Qa Qa (Qh (Qe (Qk [2,1,0,6,7,8] Qa (Qg (Qg (Qb (Qd Qa Qa (XS Qa Qa (Qd Qa Qa (Zz 37 Qa (fun h11=> ?_) (fun h11=> ?_)))))))))))
 ·have hno:QN x.pages id=none:= by simpa using h11
  refine Qj Qa Qa h11 (Qd Qa Qa (Qj Qa Qa h11 (Ql Qa Qa (Qj Qa Qa h11 (Qi Qa Xm Qa (Qj Qa Qa h11 (Qp Qa Z8 (hS10.cell 3 Qa Qa) Qa (Qj Qa Qa h11 (Ql Qa Qa (Qj Qa Qa h11 (Qi Qa ZH Qa (Qj Qa Qa h11 (Qp Qa ZZ (hS10.cell 1 Qa Qa) Qa (Qj Qa Qa h11 (Cn 2 hS10 underlying89 keysInt.inj Qa Qa Qa (fun mm hmm=> ?_))))))))))))))))
  obtain rfl:=hmm.uniq (C9 (hsr x hx))
  refine Qj Qa Qa h11 (Jj Qa Qa Qa (Qx Qa h11 Qa Qa (Qh (Qe (Qk [2,1,0,6,7,47] Qa (Qw Qa (fun h12=> ?_) (fun h12=> ?_)))))))
  ·refine Qg (Qb (Qc Qa Qa (Qh (Qe (Qo (Qm (Q7 (.inr Qa) Qa Qa ?_)))))))
   have hfull:QN x.pages id=none∧8192≤x.pages.length:=⟨hno, by omega⟩
   exact⟨_,rfl, by unfold Xx; rw[if_neg hrun,if_neg (by omega),hx]; dsimp only; rw[if_pos hfull], by unfold Xx; rw[if_neg hrun,if_neg (by omega),hx]; dsimp only; rw[if_pos hfull]; exact Qu (E:=E) (by rw[hx]; exact(Xg (s:=x) (hS10.pick [1,2,3,4,5,6,7] Qa)).reorder [1,2,3,0,4,5] Qa)⟩
  refine Qr (Qe (Qg (Qb (Qd Qa Qa (Ql Qa Qa (Qi Qa Xm Qa (Qp Qa Z8 (hS10.cell 3 Qa Qa) Qa (Ql Qa Qa (Qi Qa UK Qa (Qp Qa QK (hS10.cell 1 Qa Qa) Qa (Cp (c:=GP x.count) Qa Qa (N9 (hct x hx)) Qa (Ql Qa Qa (Qi Qa UK Qa ?_)))))))))))))
  (refine QC hS10 Qa Qa YH (by rfl) (i:=1) Qa (Xe Qa) ?_)
  intro w13 hS14; dsimp only[List.set]at hS14
  refine Qh (Qe (Qk [2,1,0,6,7] Qa (Qg ?_)))
  have hS15:=hS14.drew
  refine QT [0,1,2,3,4,5,6,7,8,9,10,11,12,13,14,15,16,17,18,19] [19] Jk (by kernel_rfl) ?_
  refine QM Qa Qa Qa (Xw Qa Qa Qa (QQ Qa Qa Qa Xm (QH Qa Qa Qa (Qn Qa Z8 (hS15.cell 3 Qa Qa)) (Xw Qa Qa Qa (QQ Qa Qa Qa ZH (QH Qa Qa Qa (Qn Qa ZZ (hS15.cell 1 Qa Qa)) (QM Qa Qa Qa (QM Qa Qa Qa (QM Qa Qa Qa (Xw Qa Qa Qa (QQ Qa Qa Qa Xm (QH Qa Qa Qa (Qn Qa Z8 (hS15.cell 3 Qa Qa)) (Xw Qa Qa Qa (QQ Qa Qa Qa UK (QH Qa Qa Qa (Qn Qa QK (hS15.cell 1 Qa Qa)) (QQ Qa Qa Qa Gv (QH Qa Qa Qa (Qn Qa QK (hS15.cell 0 Qa Qa)) (QG Qa Qa Qa (fun _=>(Wb Qa BK U3 Wg Qa)) ?_))))))))))))))))))
  refine Xb Qa Qa Qa Qa Qa Qa ?_
  refine Zj (k:=id) (v:=Rr ⟨d,GP x.count,(VZ (QN x.pages id)).sent,false⟩) 2 hS15 keysInt underlying89 Qa Qa Qa Qa ?_
  intro w16 hS16; dsimp only[List.set]at hS16; rw[Uf (hsr x hx)]at hS16
  refine ZG (XC (by kernel_rfl)) ?_
  refine VC.nil (Qe (Qk [6] Qa (Qg (Qb (Qc Qa Qa (Qh (Qe (Qo (Q7 (.inr Qa) Qa Qa ?_)))))))))
  have hroom: ¬(QN x.pages id=none∧8192≤x.pages.length):= by first | (rintro⟨_,q⟩;omega) | exact fun q=>hyes q.1
  have he:(VZ (QN x.pages id)).sent=((QN x.pages id).map PgD.sent).getD 0:= by unfold VZ; cases QN x.pages id<;>rfl
  rw[he]at hS16
  exact⟨_,rfl, by unfold Xx; rw[if_neg hrun,if_neg (by omega),hx]; dsimp only; rw[if_neg hroom], by unfold Xx; rw[if_neg hrun,if_neg (by omega),hx]; dsimp only; rw[if_neg hroom]; exact Qu (E:={E with ses:=some {x with count:=GP x.count,pages:=X6 id ⟨d,GP x.count,((QN x.pages id).map PgD.sent).getD 0,false⟩ x.pages}}) ((Xg (s:={x with count:=GP x.count,pages:=X6 id ⟨d,GP x.count,((QN x.pages id).map PgD.sent).getD 0,false⟩ x.pages}) (hS16.pick [1,2,3,4,5,6,7] Qa)).reorder [1,2,3,0,4,5] Qa)⟩
 have hyes: ¬QN x.pages id=none:= by intro q0; have q1:=h11; rw[q0]at q1; simp at q1
 refine Qf Qa Qa h11 Qa (Qf Qa Qa h11 Qa (Qf Qa Qa h11 Qa (Qf Qa Qa h11 Qa (Qf Qa Qa h11 Qa (Qf Qa Qa h11 Qa (Qf Qa Qa h11 Qa (Qf Qa Qa h11 Qa (Qf Qa Qa h11 Qa (Qz Qa h11 Qa Qa (Qh (Qe (Qk [2,1,0,6,7,47] Qa (QF Qa (Qr (Qe (Qg (Qb (Qd Qa Qa (Ql Qa Qa (Qi Qa Xm Qa (Qp Qa Z8 (hS10.cell 3 Qa Qa) Qa (Ql Qa Qa (Qi Qa UK Qa (Qp Qa QK (hS10.cell 1 Qa Qa) Qa (Cp (c:=GP x.count) Qa Qa (N9 (hct x hx)) Qa (Ql Qa Qa (Qi Qa UK Qa ?_)))))))))))))))))))))))))))
 (refine QC hS10 Qa Qa YH (by rfl) (i:=1) Qa (Xe Qa) ?_)
 intro w17 hS18; dsimp only[List.set]at hS18
 refine Qh (Qe (Qk [2,1,0,6,7] Qa (Qg ?_)))
 have hS19:=hS18.drew
 refine QT [0,1,2,3,4,5,6,7,8,9,10,11,12,13,14,15,16,17,18,19] [19] Jk (by kernel_rfl) ?_
 refine QM Qa Qa Qa (Xw Qa Qa Qa (QQ Qa Qa Qa Xm (QH Qa Qa Qa (Qn Qa Z8 (hS19.cell 3 Qa Qa)) (Xw Qa Qa Qa (QQ Qa Qa Qa ZH (QH Qa Qa Qa (Qn Qa ZZ (hS19.cell 1 Qa Qa)) (QM Qa Qa Qa (QM Qa Qa Qa (QM Qa Qa Qa (Xw Qa Qa Qa (QQ Qa Qa Qa Xm (QH Qa Qa Qa (Qn Qa Z8 (hS19.cell 3 Qa Qa)) (Xw Qa Qa Qa (QQ Qa Qa Qa UK (QH Qa Qa Qa (Qn Qa QK (hS19.cell 1 Qa Qa)) (QQ Qa Qa Qa Gv (QH Qa Qa Qa (Qn Qa QK (hS19.cell 0 Qa Qa)) (QG Qa Qa Qa (fun _=>(Wb Qa BK U3 Wg Qa)) ?_))))))))))))))))))
 refine Xb Qa Qa Qa Qa Qa Qa ?_
 refine Zj (k:=id) (v:=Rr ⟨d,GP x.count,(VZ (QN x.pages id)).sent,false⟩) 2 hS19 keysInt underlying89 Qa Qa Qa Qa ?_
 intro w20 hS20; dsimp only[List.set]at hS20; rw[Uf (hsr x hx)]at hS20
 refine ZG (XC (by kernel_rfl)) ?_
 refine VC.nil (Qe (Qk [6] Qa (Qg (Qb (Qc Qa Qa (Qh (Qe (Qo (Q7 (.inr Qa) Qa Qa ?_)))))))))
 have hroom: ¬(QN x.pages id=none∧8192≤x.pages.length):= by first | (rintro⟨_,q⟩;omega) | exact fun q=>hyes q.1
 have he:(VZ (QN x.pages id)).sent=((QN x.pages id).map PgD.sent).getD 0:= by unfold VZ; cases QN x.pages id<;>rfl
 rw[he]at hS20
 exact⟨_,rfl, by unfold Xx; rw[if_neg hrun,if_neg (by omega),hx]; dsimp only; rw[if_neg hroom], by unfold Xx; rw[if_neg hrun,if_neg (by omega),hx]; dsimp only; rw[if_neg hroom]; exact Qu (E:={E with ses:=some {x with count:=GP x.count,pages:=X6 id ⟨d,GP x.count,((QN x.pages id).map PgD.sent).getD 0,false⟩ x.pages}}) ((Xg (s:={x with count:=GP x.count,pages:=X6 id ⟨d,GP x.count,((QN x.pages id).map PgD.sent).getD 0,false⟩ x.pages}) (hS20.pick [1,2,3,4,5,6,7] Qa)).reorder [1,2,3,0,4,5] Qa)⟩
