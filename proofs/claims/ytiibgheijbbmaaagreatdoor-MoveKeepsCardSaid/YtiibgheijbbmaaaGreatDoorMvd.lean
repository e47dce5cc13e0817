/- move: join -/
import Derived.Test.YtiibgheijbbmaaaGreatDoorMvc
set_option linter.unusedVariables false
set_option maxRecDepth 100000
namespace Go.Proofs.YtiibgheijbbmaaaGreatDoor
open Go.RowKit M Proofs.Tryz
def Cs (o:OfD) (m n:Nat):List Value:=[intV o.move,.map (some m),intV o.many,.map (some n),strV o.list]
def newO (n:Int):OfD:=⟨n,[],0,[],[]⟩
section
variable {E:EnD} {n:Int} {o:OfD}
theorem V1 (h:E.kind=1∨n≤E.move):Ww E n=none:= by unfold Ww; rw[if_pos h]
theorem FK (h: ¬(E.kind=1∨n≤E.move)) (ho:E.off=none):Ww E n=some (newO n):= by unfold Ww; rw[if_neg h,ho];rfl
theorem Gi (h: ¬(E.kind=1∨n≤E.move)) (ho:E.off=some o) (h2:n<o.move):Ww E n=none:= by unfold Ww; rw[if_neg h,ho]; dsimp only; rw[if_pos h2]
theorem FL (h: ¬(E.kind=1∨n≤E.move)) (ho:E.off=some o) (h2: ¬n<o.move) (h3:o.move<n):Ww E n=some (newO n):= by unfold Ww; rw[if_neg h,ho]; dsimp only; rw[if_neg h2,if_pos h3];rfl
theorem Pj (h: ¬(E.kind=1∨n≤E.move)) (ho:E.off=some o) (h2: ¬n<o.move) (h3: ¬o.move<n):Ww E n=some o:= by unfold Ww; rw[if_neg h,ho]; dsimp only; rw[if_neg h2,if_neg h3]
end
theorem join_a {w:World} {e:Nat} {E:EnD} {F:Th} (hS:Sat w [Xw e E,F]) (n:Int) (ho:E.off=none):
    Calls prog 103 #[ptrV e 0,intV n] w (Ret fun v w'=>(Ww E n=none∧v= .pointer none∧Sat w' [Xw e E,F])∨(∃o b om on dp cv sv,Ww E n=some o∧v=ptrV b 0∧Sat w' [Xb b (Cs o om on),X3 XH om (Ux o.parts),X3 XH on (JT o.pages),Xb e (U0 dp cv sv (ptrV b 0) E),dT dp E.D,JE dp cv E.cell,Vk sv E.ses,F])):= by
 obtain⟨dp,cv,sv,ov,hS⟩:=QU hS
 rw[ho]at hS
 obtain⟨rfl,hS⟩:=RX (hS.reorder [4,0,1,2,3,5] rfl)
 refine Qy func103 Qa ntmps103 Qa ?_
 refine Qf (Qb (Qc Qa Qa (Qh (Qd (Qf (Qf (Qb (Qe Qa Qa (Ql Qa Qa (Qi Qa Zh Qa (Qr Qa QH (hS.cell 0 Qa Qa) Qa (QL Qa Qa Qa (Qe Qa Qa (Q4 10 Qa (fun h1=> ?_) (fun h1=> ?_)))))))))))))))
 ·refine Qg Qa Qa (QD h1) Qa (Qg Qa Qa (QD h1) Qa (Qg Qa Qa (QD h1) Qa (Qg Qa Qa (QD h1) Qa (Qg Qa Qa (QD h1) Qa (Qg Qa Qa (QD h1) Qa (Q1 Qa (QD h1) Qa Qa (Qe Qa Qa (Qg Qa Qa Qa Qa (Qg Qa Qa Qa Qa (Qg Qa Qa Qa Qa (Qg Qa Qa Qa Qa (Qg Qa Qa Qa Qa (Qg Qa Qa Qa Qa (QM Qa Qa Qa (QM Qa Qa Qa (QM Qa Qa Qa (QM Qa Qa Qa (QM Qa Qa Qa (QM Qa Qa Qa (QM Qa Qa Qa (QM Qa Qa Qa (QM Qa Qa Qa (Qg Qa Qa Qa Qa (Q1 Qa Qa Qa Qa (Qh (Qd (Qk [1,0,4,35] Qa (QP Qa (Qf (Qb (Qc Qa Qa (Qh (Qd (Qo (Qm (Q5 (.inr Qa) Qa Qa ?_))))))))))))))))))))))))))))))))))))
  exact⟨_,rfl,.inl ⟨V1 (by omega),rfl,Qu (E:=E) (by rw[ho]; exact((ZR (hS.pick [0,1,2,3,4] Qa)).reorder [1,2,3,4,0,5] Qa))⟩⟩
 refine Qj Qa Qa (Qx h1) (Qe Qa Qa (Qj Qa Qa (Qx h1) (Qe Qa Qa (Qj Qa Qa (Qx h1) (Ql Qa Qa (Qj Qa Qa (Qx h1) (Qi Qa Wp Qa (Qj Qa Qa (Qx h1) (Qr Qa QH (hS.cell 0 Qa Qa) Qa (Qj Qa Qa (Qx h1) (W9 Qa Qa Qa (Q3 Qa (Qx h1) Qa Qa (Qe Qa Qa (Q4 18 Qa (fun h2=> ?_) (fun h2=> ?_)))))))))))))))
 ·refine Qg Qa Qa (QD h2) Qa (Qg Qa Qa (QD h2) Qa (Qg Qa Qa (QD h2) Qa (Qg Qa Qa (QD h2) Qa (Qg Qa Qa (QD h2) Qa (Qg Qa Qa (QD h2) Qa (QM Qa Qa Qa (QM Qa Qa Qa (QM Qa Qa Qa (QM Qa Qa Qa (QM Qa Qa Qa (QM Qa Qa Qa (QM Qa Qa Qa (QM Qa Qa Qa (QM Qa Qa Qa (Qg Qa Qa (QD h2) Qa (Q1 Qa (QD h2) Qa Qa (Qh (Qd (Qk [1,0,4,35] Qa (QP Qa (Qf (Qb (Qc Qa Qa (Qh (Qd (Qo (Qm (Q5 (.inr Qa) Qa Qa ?_))))))))))))))))))))))))))))
  exact⟨_,rfl,.inl ⟨V1 (by omega),rfl,Qu (E:=E) (by rw[ho]; exact((ZR (hS.pick [0,1,2,3,4] Qa)).reorder [1,2,3,4,0,5] Qa))⟩⟩
 refine Qj Qa Qa (Qx h2) (Qe Qa Qa (Qj Qa Qa (Qx h2) (Ql Qa Qa (Qj Qa Qa (Qx h2) (Qi Qa W2 Qa (Qj Qa Qa (Qx h2) (Qr Qa Ut (hS.cell 0 Qa Qa) Qa (Qj Qa Qa (Qx h2) (Y4 underlying79 Qa Qa Qa (Qj Qa Qa (Qx h2) (Qe Qa Qa (Qg Qa Qa Qa Qa (Qg Qa Qa Qa Qa (Qg Qa Qa Qa Qa (Qg Qa Qa Qa Qa (Qg Qa Qa Qa Qa (Qg Qa Qa Qa Qa (Qg Qa Qa Qa Qa (Qg Qa Qa Qa Qa (Qg Qa Qa Qa Qa (Qj Qa Qa (Qx h2) (Q3 Qa Qa Qa Qa (Q3 Qa (Qx h2) Qa Qa (Qh (Qd (Qk [1,0,4,35] Qa (QJ Qa (Qt (Qd (Qf (Qf (Qb (Qe Qa Qa (Ql Qa Qa (Qi Qa W2 Qa (Qr Qa Ut (hS.cell 0 Qa Qa) Qa (Wb underlying79 Qa Qa Qa (Qe Qa Qa (Qg Qa Qa Qa Qa (Qg Qa Qa Qa Qa (Qg Qa Qa Qa Qa (Qg Qa Qa Qa Qa (Qg Qa Qa Qa Qa (Qg Qa Qa Qa Qa (Qg Qa Qa Qa Qa (Qg Qa Qa Qa Qa (Qg Qa Qa Qa Qa (Q1 Qa Qa Qa Qa (Qh (Qd (Qk [1,0,4,51] Qa (QP Qa (Qb (Qe Qa Qa (Qe Qa Qa (Wq XH hS Qa ?_))))))))))))))))))))))))))))))))))))))))))))))))))))))))
 intro n1 w3 hS3
 refine Wq XH hS3 Qa ?_
 intro n2 w4 hS4
 refine Jz (vs':=[intV n,.map (some n1),intV 0,.map (some n2),strV []]) Qa KZ SM Lx Qa Qa Qa (Za hS4 Qa Qa Qa ?_)
 intro nb w5 hS5
 refine Ql Qa Qa (Qi Qa W2 Qa ?_)
 (refine Qw hS5 Qa Qa Vf (by rfl) (i:=3) Qa (QC Qa) ?_)
 intro w6 hS7; dsimp only[List.set]at hS7
 refine Qh (Qd (Qk [0,4] Qa (Qf (Qb (Qe Qa Qa (Ql Qa Qa (Qi Qa W2 Qa (Qr Qa Ut (hS7.cell 3 Qa Qa) Qa (Qc Qa Qa (Qh (Qd (Qo (Q5 (.inr Qa) Qa Qa ?_)))))))))))))
 exact⟨_,rfl,.inr ⟨newO n,nb,n1,n2,_,_,_,FK (by omega) ho,rfl,(by have hz:=hS7.pick [0,2,1,3,4,5,6,7] Qa; rw[show(fun _:Int=>(none:Option Value))=Ux [] from rfl]at hz; exact hz)⟩⟩
theorem join_b {w:World} {e:Nat} {E:EnD} {F:Th} (hS:Sat w [Xw e E,F]) (n:Int) {o:OfD} (ho:E.off=some o):
    Calls prog 103 #[ptrV e 0,intV n] w (Ret fun v w'=>(Ww E n=none∧v= .pointer none∧Sat w' [Xw e E,F])∨(∃o b om on dp cv sv,Ww E n=some o∧v=ptrV b 0∧Sat w' [Xb b (Cs o om on),X3 XH om (Ux o.parts),X3 XH on (JT o.pages),Xb e (U0 dp cv sv (ptrV b 0) E),dT dp E.D,JE dp cv E.cell,Vk sv E.ses,F])):= by
 obtain⟨dp,cv,sv,ov,hS⟩:=QU hS
 rw[ho]at hS
 obtain⟨ob,om,on,rfl,hS⟩:=RW (hS.reorder [4,0,1,2,3,5] rfl)
 refine Qy func103 Qa ntmps103 Qa ?_
 refine Qf (Qb (Qc Qa Qa (Qh (Qd (Qf (Qf (Qb (Qe Qa Qa (Ql Qa Qa (Qi Qa Zh Qa (Qr Qa QH (hS.cell 3 Qa Qa) Qa (QL Qa Qa Qa (Qe Qa Qa (Q4 10 Qa (fun h1=> ?_) (fun h1=> ?_)))))))))))))))
 ·refine Qg Qa Qa (QD h1) Qa (Qg Qa Qa (QD h1) Qa (Qg Qa Qa (QD h1) Qa (Qg Qa Qa (QD h1) Qa (Qg Qa Qa (QD h1) Qa (Qg Qa Qa (QD h1) Qa (Q1 Qa (QD h1) Qa Qa (Qe Qa Qa (Qg Qa Qa Qa Qa (Qg Qa Qa Qa Qa (Qg Qa Qa Qa Qa (Qg Qa Qa Qa Qa (Qg Qa Qa Qa Qa (Qg Qa Qa Qa Qa (QM Qa Qa Qa (QM Qa Qa Qa (QM Qa Qa Qa (QM Qa Qa Qa (QM Qa Qa Qa (QM Qa Qa Qa (QM Qa Qa Qa (QM Qa Qa Qa (QM Qa Qa Qa (Qg Qa Qa Qa Qa (Q1 Qa Qa Qa Qa (Qh (Qd (Qk [1,0,4,35] Qa (QP Qa (Qf (Qb (Qc Qa Qa (Qh (Qd (Qo (Qm (Q5 (.inr Qa) Qa Qa ?_))))))))))))))))))))))))))))))))))))
  exact⟨_,rfl,.inl ⟨(by first | exact V1 (by omega) | exact Gi (by omega) ho (by omega)),rfl,Qu (E:=E) (by rw[ho]; exact((XE (hS.pick [0,1,2,3,4,5,6,7] Qa)).reorder [1,2,3,4,0,5] Qa))⟩⟩
 refine Qj Qa Qa (Qx h1) (Qe Qa Qa (Qj Qa Qa (Qx h1) (Qe Qa Qa (Qj Qa Qa (Qx h1) (Ql Qa Qa (Qj Qa Qa (Qx h1) (Qi Qa Wp Qa (Qj Qa Qa (Qx h1) (Qr Qa QH (hS.cell 3 Qa Qa) Qa (Qj Qa Qa (Qx h1) (W9 Qa Qa Qa (Q3 Qa (Qx h1) Qa Qa (Qe Qa Qa (Q4 18 Qa (fun h2=> ?_) (fun h2=> ?_)))))))))))))))
 ·refine Qg Qa Qa (QD h2) Qa (Qg Qa Qa (QD h2) Qa (Qg Qa Qa (QD h2) Qa (Qg Qa Qa (QD h2) Qa (Qg Qa Qa (QD h2) Qa (Qg Qa Qa (QD h2) Qa (QM Qa Qa Qa (QM Qa Qa Qa (QM Qa Qa Qa (QM Qa Qa Qa (QM Qa Qa Qa (QM Qa Qa Qa (QM Qa Qa Qa (QM Qa Qa Qa (QM Qa Qa Qa (Qg Qa Qa (QD h2) Qa (Q1 Qa (QD h2) Qa Qa (Qh (Qd (Qk [1,0,4,35] Qa (QP Qa (Qf (Qb (Qc Qa Qa (Qh (Qd (Qo (Qm (Q5 (.inr Qa) Qa Qa ?_))))))))))))))))))))))))))))
  exact⟨_,rfl,.inl ⟨(by first | exact V1 (by omega) | exact Gi (by omega) ho (by omega)),rfl,Qu (E:=E) (by rw[ho]; exact((XE (hS.pick [0,1,2,3,4,5,6,7] Qa)).reorder [1,2,3,4,0,5] Qa))⟩⟩
 refine Qj Qa Qa (Qx h2) (Qe Qa Qa (Qj Qa Qa (Qx h2) (Ql Qa Qa (Qj Qa Qa (Qx h2) (Qi Qa W2 Qa (Qj Qa Qa (Qx h2) (Qr Qa Ut (hS.cell 3 Qa Qa) Qa (Qj Qa Qa (Qx h2) (U3 underlying79 Qa Qa Qa (Qj Qa Qa (Qx h2) (Qe Qa Qa (Qj Qa Qa Qa (Qe Qa Qa (Qj Qa Qa Qa (Ql Qa Qa (Qj Qa Qa Qa (Qi Qa W2 Qa (Qj Qa Qa Qa (Qr Qa Ut (hS.cell 3 Qa Qa) Qa (Qj Qa Qa Qa (Ql Qa Qa (Qj Qa Qa Qa (Qi Qa Ry Qa (Qj Qa Qa Qa (Qr Qa QH (hS.cell 0 Qa Qa) Qa (Qj Qa Qa Qa (Qe Qa Qa (Qj Qa Qa Qa (Wr Qa Qa Qa (Qj Qa Qa (Qx h2) (Q1 Qa Qa Qa Qa (Q3 Qa (Qx h2) Qa Qa (Qh (Qd (Qk [1,0,4,35] Qa (Qv Qa (fun h3=> ?_) (fun h3=> ?_)))))))))))))))))))))))))))))))))))))
 ·refine Qf (Qb (Qc Qa Qa (Qh (Qd (Qo (Qm (Q5 (.inr Qa) Qa Qa ?_)))))))
  exact⟨_,rfl,.inl ⟨(by first | exact V1 (by omega) | exact Gi (by omega) ho (by omega)),rfl,Qu (E:=E) (by rw[ho]; exact((XE (hS.pick [0,1,2,3,4,5,6,7] Qa)).reorder [1,2,3,4,0,5] Qa))⟩⟩
 refine Qt (Qd (Qf (Qf (Qb (Qe Qa Qa (Ql Qa Qa (Qi Qa W2 Qa (Qr Qa Ut (hS.cell 3 Qa Qa) Qa (ZG underlying79 Qa Qa Qa (Qe Qa Qa (Qj Qa Qa Qa (Qe Qa Qa (Qj Qa Qa Qa (Ql Qa Qa (Qj Qa Qa Qa (Qi Qa W2 Qa (Qj Qa Qa Qa (Qr Qa Ut (hS.cell 3 Qa Qa) Qa (Qj Qa Qa Qa (Ql Qa Qa (Qj Qa Qa Qa (Qi Qa Ry Qa (Qj Qa Qa Qa (Qr Qa QH (hS.cell 0 Qa Qa) Qa (Qj Qa Qa Qa (Qe Qa Qa (Qj Qa Qa Qa (X5 Qa Qa Qa (Q3 Qa Qa Qa Qa (Qh (Qd (Qk [1,0,4,51] Qa (Qv Qa (fun h4=> ?_) (fun h4=> ?_))))))))))))))))))))))))))))))))))
 ·refine Qb (Qe Qa Qa (Qe Qa Qa (Wq XH hS Qa ?_)))
  intro n1 w5 hS5
  refine Wq XH hS5 Qa ?_
  intro n2 w6 hS6
  refine Jz (vs':=[intV n,.map (some n1),intV 0,.map (some n2),strV []]) Qa KZ SM Lx Qa Qa Qa (Za hS6 Qa Qa Qa ?_)
  intro nb w7 hS7
  refine Ql Qa Qa (Qi Qa W2 Qa ?_)
  (refine Qw hS7 Qa Qa Vf (by rfl) (i:=6) Qa (QC Qa) ?_)
  intro w8 hS9; dsimp only[List.set]at hS9
  refine Qh (Qd (Qk [0,4] Qa (Qf (Qb (Qe Qa Qa (Ql Qa Qa (Qi Qa W2 Qa (Qr Qa Ut (hS9.cell 6 Qa Qa) Qa (Qc Qa Qa (Qh (Qd (Qo (Q5 (.inr Qa) Qa Qa ?_)))))))))))))
  exact⟨_,rfl,.inr ⟨newO n,nb,n1,n2,_,_,_,FL (by omega) ho (by omega) (by omega),rfl,(by have hz:=hS9.pick [0,2,1,6,7,8,9,10] Qa; rw[show(fun _:Int=>(none:Option Value))=Ux [] from rfl]at hz; exact hz)⟩⟩
 exact Qt (Qd (Qf (Qb (Qe Qa Qa (Ql Qa Qa (Qi Qa W2 Qa (Qr Qa Ut (hS.cell 3 Qa Qa) Qa (Qc Qa Qa (Qh (Qd (Qo (Q5 (.inr Qa) Qa Qa (⟨_,rfl,.inr ⟨o,ob,om,on,_,_,_,Pj (by omega) ho (by omega) (by omega),rfl,hS.pick [0,1,2,3,4,5,6,7] Qa⟩⟩)))))))))))))
theorem Ta {w:World} {e:Nat} {E:EnD} {F:Th} (hS:Sat w [Xw e E,F]) (n:Int):
    Calls prog 103 #[ptrV e 0,intV n] w (Ret fun v w'=>(Ww E n=none∧v= .pointer none∧Sat w' [Xw e E,F])∨(∃o b om on dp cv sv,Ww E n=some o∧v=ptrV b 0∧Sat w' [Xb b (Cs o om on),X3 XH om (Ux o.parts),X3 XH on (JT o.pages),Xb e (U0 dp cv sv (ptrV b 0) E),dT dp E.D,JE dp cv E.cell,Vk sv E.ses,F])):= by
  cases ho:E.off with
  | none=> exact join_a hS n ho
  | some o=> exact join_b hS n ho
def Vl (x:Option PgD):PgD:=x.getD ⟨[],0,0,false⟩
theorem Yp (l:AL PgD) (i:Int):(JT l i).getD (.agg #[strV [],intV 0,intV 0,.bool false])=Kp (Vl (Xg l i)):= by
  unfold JT Vl
  cases Xg l i<;>rfl
theorem VS (l:AL PgD) (i:Int):(JT l i).isSome=(Xg l i).isSome:= by unfold JT; cases Xg l i<;>rfl
theorem H9 {l:AL PgD} (hs:Srt l) (i:Int) (x:PgD):upd (JT l) i (some (Kp x))=JT (Zk i x l):= by
  funext k;unfold upd JT; rw[CY hs]
  by_cases h:k=i
  · rw[if_pos h,if_pos h];rfl
  · rw[if_neg h,if_neg h]
theorem pgG_del (l:AL PgD) (i:Int):upd (JT l) i none=JT (K1 l i):= by
  funext k;unfold upd JT; rw[EO]
  by_cases h:k=i
  · rw[if_pos h,if_pos h];rfl
  · rw[if_neg h,if_neg h]
theorem EB {w:World} {b om on:Nat} {o:OfD} {F:Th} (hS:Sat w [Xb b (Cs o om on),X3 XH on (JT o.pages),F]) (id:Int):
    Calls prog 104 #[ptrV b 0,intV id] w (Ret fun v w'=>v= .bool (Xg o.pages id).isSome∧Sat w' [Xb b (Cs o om on),X3 XH on (JT o.pages),F]):= by
 refine Qy func104 Qa ntmps104 Qa ?_
 refine Qf (Qb (Qc Qa Qa (Qh (Qd (Qf (Qb (Qe Qa Qa (Ql Qa Qa (Qi Qa Hu Qa (Qr Qa ZL (hS.cell 0 Qa Qa) Qa (Qe Qa Qa (Hi (k:=id) 1 hS keysInt underlying89 Qa Qa Qa ZY (u:=Kp (Vl (Xg o.pages id))) (g:=(Xg o.pages id).isSome) (Yp _ _) (VS _ _) Qa (Qe Qa Qa (Q7 Qa Qa Qa (Q7 Qa Qa Qa (Xs hS ZY Qa Qa ?_))))))))))))))))
 intro b1 w1 hS1
 (refine Q8 hS1 Qa Qa ZP Qa (by rfl) (i:=0) Qa (by decide) ?_)
 intro w2 hS3; dsimp only[List.set]at hS3
 exact Qc Qa Qa (Qh (Qd (Qk [4,6] Qa (Qf (Qb (Qe Qa Qa (Qc Qa Qa (Qh (Qd (Qo (Q5 (.inr Qa) Qa Qa (⟨_,Qa,Qa,hS3.pick [1,2,3] Qa⟩))))))))))))
theorem GO {w:World} {e:Nat} {E:EnD} {F:Th} (hS:Sat w [Xw e E,F]) (id:Int):
    Calls prog 45 #[ptrV e 0,intV id] w (Ret fun v w'=>v=intV (ZI E id).1∧Sat w' [Xw e (ZI E id).2,F]):= by
 refine Qy func45 Qa ntmps45 Qa ?_
 refine Qf (Qb (Qc Qa Qa (Qh (Qd (Qf (Qf (Qb (Qe Qa Qa (Q0 HW Qa (YA (hS.sp [0] Qa)) Qa ?_)))))))))
 rintro _ w1 ⟨rfl,hS1⟩
 replace hS1:=hS1.jn Qa Qa
 refine XN Qa Qa (Qh (Qd (QZ Qa (fun h2=> ?_) (fun h2=> ?_))))
 ·have hr:ZZ E=false:= by simpa using h2
  refine Qf (Qb (Qc Qa Qa (Qh (Qd (Qo (Qm (Q5 (.inr Qa) Qa Qa ?_)))))))
  exact⟨_,rfl, by unfold ZI; rw[if_pos hr], by unfold ZI; rw[if_pos hr]; exact hS1.pick [0,1] Qa⟩
 have hrun: ¬ZZ E=false:= by simpa using h2
 refine Qt (Qd (Qf (Qf ?_)))
 obtain⟨dp,cv,sv,ov,hS3⟩:=QU (hS1.pick [0,1] rfl)
 obtain⟨x,hx⟩: ∃x,E.ses=some x:=(JJ hrun).2.2.2
 rw[hx]at hS3
 obtain⟨sb,sm,rfl,hS4⟩:=Zo (hS3.pick [3,0,1,2,4,5] rfl)
 refine Qb (Qe Qa Qa (Ql Qa Qa (Qi Qa Xt Qa (Qr Qa ZA (hS4.cell 2 Qa Qa) Qa (Ql Qa Qa (Qi Qa Z7 Qa (Qr Qa ZL (hS4.cell 0 Qa Qa) Qa (Qe Qa Qa (Hi (k:=id) 1 hS4 keysInt underlying89 Qa Qa Qa ZY (u:=Kp (Vl (Xg x.pages id))) (g:=(Xg x.pages id).isSome) (Yp _ _) (VS _ _) Qa (Qe Qa Qa (Q7 Qa Qa Qa (Q7 Qa Qa Qa (Xs hS4 ZY Qa Qa ?_)))))))))))))
 intro b5 w5 hS5
 (refine Q8 hS5 Qa Qa ZP Qa (by rfl) (i:=0) Qa (by decide) ?_)
 intro w6 hS7; dsimp only[List.set]at hS7
 refine Qc Qa Qa (Qh (Qd (Qk [1,0,4,6] Qa (Qf (Qb (Qe Qa Qa (XN Qa Qa (Qh (Qd (QZ Qa (fun h8=> ?_) (fun h8=> ?_)))))))))))
 ·have hno:Xg x.pages id=none:= by simpa using h8
  refine Qf (Qb (Qc Qa Qa (Qh (Qd (Qo (Qm (Q5 (.inr Qa) Qa Qa ?_)))))))
  exact⟨_,rfl, by unfold ZI; rw[if_neg hrun,hx]; dsimp only; rw[if_pos hno], by unfold ZI; rw[if_neg hrun,hx]; dsimp only; rw[if_pos hno]; exact Qu (E:=E) (by rw[hx]; exact(Xh (s:=x) (hS7.pick [1,2,3,4,5,6,7] Qa)).reorder [1,2,3,0,4,5] Qa)⟩
 have hyes: ¬Xg x.pages id=none:= by intro q0; have q1:=h8; rw[q0]at q1; simp at q1
 refine Qt (Qd (Qf (Qb (Qe Qa Qa (Ql Qa Qa (Qi Qa Xt Qa (Qr Qa ZA (hS7.cell 3 Qa Qa) Qa (Ql Qa Qa (Qi Qa Z7 Qa (Qr Qa ZL (hS7.cell 1 Qa Qa) Qa (Qe Qa Qa (SW (k:=id) 2 hS7 keysInt underlying89 Qa Qa Qa Qa ?_))))))))))))
 intro w9 hS9; dsimp only[List.set]at hS9; rw[pgG_del]at hS9
 refine Qh (Qd (Qk [4] Qa (Qf (Qb (Qc Qa Qa (Qh (Qd (Qo (Q5 (.inr Qa) Qa Qa ?_)))))))))
 exact⟨_,rfl, by unfold ZI; rw[if_neg hrun,hx]; dsimp only; rw[if_neg hyes], by unfold ZI; rw[if_neg hrun,hx]; dsimp only; rw[if_neg hyes]; exact Qu (E:={E with ses:=some {x with pages:=K1 x.pages id}}) ((Xh (s:={x with pages:=K1 x.pages id}) (hS9.pick [1,2,3,4,5,6,7] Qa)).reorder [1,2,3,0,4,5] Qa)⟩
def GJ (E:EnD) (id:Int):Bs×Int:= match E.ses with
  | none=>([],4)
  | some s=> match Xg s.pages id with
    | none=>([],4)
    | some p=> if p.miss=true then([],19)else(p.data,0)
theorem EY {w:World} {e:Nat} {E:EnD} {F:Th} (hS:Sat w [Xw e E,F]) (id:Int):
    Calls prog 28 #[ptrV e 0,intV id] w (Ret fun v w'=>v= .tuple #[strV (GJ E id).1,intV (GJ E id).2]∧Sat w' [Xw e E,F]):= by
 obtain⟨dp,cv,sv,ov,hS⟩:=QU hS
 refine Qy func28 Qa ntmps28 Qa ?_
 refine Qf (Qb (Qc Qa Qa (Qc Qa Qa (Qh (Qd (Qf (Qf (Qb (Qe Qa Qa (Ql Qa Qa (Qi Qa Xt Qa (Qr Qa ZA (hS.cell 0 Qa Qa) Qa ?_))))))))))))
 rcases hq_s:E.ses with _ | s
 ·rw[hq_s]at hS
  obtain⟨rfl,hSo1⟩:=Je (hS.pick [3,0,1,2,4,5] rfl)
  refine Wb underlying78 Qa Qa Qa (Qh (Qd (QP Qa (Qf (Qb (Qc Qa Qa (Qc Qa Qa (Qh (Qd (Qo (Qm (Z8 (.inr Qa) Qa Qa Qa ?_))))))))))))
  exact⟨_,rfl, by unfold GJ; rw[hq_s],Qu (E:=E) (by rw[hq_s]; exact((ZQ hSo1).pick [1,2,3,0,4,5] Qa))⟩
 rw[hq_s]at hS
 obtain⟨sb,sm,rfl,hSo2⟩:=Zo (hS.pick [3,0,1,2,4,5] rfl)
 refine ZG underlying78 Qa Qa Qa (Qh (Qd (QJ Qa (Qt (Qd (Qf (Qb (Qe Qa Qa (Ql Qa Qa (Qi Qa Xt Qa (Qr Qa ZA (hSo2.cell 2 Qa Qa) Qa (Ql Qa Qa (Qi Qa Z7 Qa (Qr Qa ZL (hSo2.cell 0 Qa Qa) Qa (Qe Qa Qa (Hi (k:=id) 1 hSo2 keysInt underlying89 Qa Qa Qa ZY (u:=Kp (Vl (Xg s.pages id))) (g:=(Xg s.pages id).isSome) (Yp _ _) (VS _ _) Qa (Qe Qa Qa (Q7 Qa Qa Qa (Q7 Qa Qa Qa (Xs hSo2 ZY Qa Qa ?_))))))))))))))))))))
 intro b3 w3 hS3
 clear hSo2
 (refine Q8 hS3 Qa Qa ZP Qa (by rfl) (i:=0) Qa (by decide) ?_)
 intro w4 hS5; dsimp only[List.set]at hS5
 refine Qc Qa Qa (Qh (Qd (Qk [4,5,6,7] Qa (Qf (QK (Qf (Qb (Qe Qa Qa (XN Qa Qa (Qc Qa Qa (Qh (Qd (QZ Qa (fun h6=> ?_) (fun h6=> ?_))))))))))))))
 ·have hno:Xg s.pages id=none:= by simpa using h6
  refine Qf (Qb (Qc Qa Qa (Qc Qa Qa (Qh (Qd (Qo (Qz (Qm (Z8 (.inr Qa) Qa Qa Qa ?_)))))))))
  exact⟨_,rfl, by unfold GJ; rw[hq_s]; dsimp only; rw[hno],Qu (E:=E) (by rw[hq_s]; exact((Xh (hS5.pick [1,2,0,3,4,5,6,7] Qa)).pick [2,3,4,0,5,6] Qa))⟩
 obtain⟨p,hp⟩: ∃p,Xg s.pages id=some p:=Option.isSome_iff_exists.1 (by simpa using h6)
 have hpo:Vl (Xg s.pages id)=p:= by rw[hp];rfl
 refine Qf (Qb (Qi Qa Tk Qa (Qr Qa J2 (hS5.cell 0 Qa Qa) Qa (Qc Qa Qa (Qh (Qd (QZ Qa (fun h7=> ?_) (fun h7=> ?_))))))))
 ·have hmi:p.miss=true:= by rw[←hpo]; exact h7
  refine Qf (Qb (Qc Qa Qa (Qc Qa Qa (Qh (Qd (Qo (Qz (Qm (Z8 (.inr Qa) Qa Qa Qa ?_)))))))))
  exact⟨_,rfl, by unfold GJ; rw[hq_s]; dsimp only; rw[hp]; dsimp only; rw[if_pos hmi],Qu (E:=E) (by rw[hq_s]; exact((Xh (hS5.pick [1,2,0,3,4,5,6,7] Qa)).pick [2,3,4,0,5,6] Qa))⟩
 have hmi: ¬p.miss=true:= by rw[←hpo];simpa using h7
 refine Qt (Qq (Qd (Qf (Qb (Qi Qa VY Qa (Qr Qa Zx (hS5.cell 0 Qa Qa) Qa (Qc Qa Qa (Qc Qa Qa (Qh (Qd (Qk [4,5] Qa (Qo (Z8 (.inr Qa) Qa Qa Qa ?_)))))))))))))
 exact⟨_,rfl, by unfold GJ; rw[hq_s]; dsimp only; rw[hp]; dsimp only; rw[if_neg hmi];rfl,Qu (E:=E) (by rw[hq_s]; exact((Xh (hS5.pick [1,2,0,3,4,5,6,7] Qa)).pick [2,3,4,0,5,6] Qa))⟩
theorem TI {n:Int} (h:X4 n):IntKind.i64.wrap (n+1)=DD n:= by
  unfold DD X4 at *
  split
  · rename_i e; subst e;rfl
  · exact HK (by omega) (by omega)
theorem MR {l:AL PgD} (h:Srt l):Card (JT l) l.length:= by
  refine⟨Zu l,h.imp fun q r=> by omega, by unfold Zu; rw[List.length_map], fun k=> ?_⟩
  unfold JT
  have :=JO (l:=l) (i:=k)
  cases q:Xg l k with
  | none=> rw[q]at this; simp at this⊢; exact this
  | some x=> rw[q]at this; simp at this⊢; exact this
theorem UT {w:World} {e:Nat} {E:EnD} {F:Th} (hS:Sat w [Xw e E,F]) (id:Int) (d:Bs) (hsr: ∀x,E.ses=some x→Srt x.pages) (hct: ∀x,E.ses=some x→X4 x.count):
    Calls prog 44 #[ptrV e 0,intV id,strV d] w (Ret fun v w'=>v=intV (XT E id d).1∧Sat w' [Xw e (XT E id d).2,F]):= by
 refine Qy func44 Qa ntmps44 Qa ?_
 refine Qf (Qb (Qc Qa Qa (Qh (Qd (Qf (Qf (Qb (Qe Qa Qa (Q0 HW Qa (YA (hS.sp [0] Qa)) Qa ?_)))))))))
 rintro _ w1 ⟨rfl,hS1⟩
 replace hS1:=hS1.jn Qa Qa
 refine XN Qa Qa (Qh (Qd (QZ Qa (fun h2=> ?_) (fun h2=> ?_))))
 ·have hr:ZZ E=false:= by simpa using h2
  refine Qf (Qb (Qc Qa Qa (Qh (Qd (Qo (Qm (Q5 (.inr Qa) Qa Qa ?_)))))))
  exact⟨_,rfl, by unfold XT; rw[if_pos hr], by unfold XT; rw[if_pos hr]; exact hS1.pick [0,1] Qa⟩
 have hrun: ¬ZZ E=false:= by simpa using h2
 refine Qt (Qd (Qf (Qf (Qb (Qe Qa Qa (X5 Qa Qa Qa (Qe Qa Qa (Q4 14 Qa (fun h3=> ?_) (fun h3=> ?_)))))))))
 ·refine Qg Qa Qa (QD h3) Qa (Qg Qa Qa (QD h3) Qa (Q1 Qa (QD h3) Qa Qa (Qe Qa Qa (Qg Qa Qa Qa Qa (Qg Qa Qa Qa Qa (Qg Qa Qa Qa Qa (Q1 Qa Qa Qa Qa (Qh (Qd (Qk [2,1,0,6,22] Qa (QP Qa (Qf (Qb (Qc Qa Qa (Qh (Qd (Qo (Qm (Q5 (.inr Qa) Qa Qa ?_)))))))))))))))))))
  exact⟨_,rfl, by unfold XT; rw[if_neg hrun,if_pos (by omega)], by unfold XT; rw[if_neg hrun,if_pos (by omega)]; exact hS1.pick [0,1] Qa⟩
 refine Qj Qa Qa (Qx h3) (Qe Qa Qa (Qj Qa Qa (Qx h3) (Wr Qa Qa Qa (Q3 Qa (Qx h3) Qa Qa (Qe Qa Qa (Q4 18 Qa (fun h4=> ?_) (fun h4=> ?_)))))))
 ·refine Qg Qa Qa (QD h4) Qa (Qg Qa Qa (QD h4) Qa (Qg Qa Qa (QD h4) Qa (Q1 Qa (QD h4) Qa Qa (Qh (Qd (Qk [2,1,0,6,22] Qa (QP Qa (Qf (Qb (Qc Qa Qa (Qh (Qd (Qo (Qm (Q5 (.inr Qa) Qa Qa ?_)))))))))))))))
  exact⟨_,rfl, by unfold XT; rw[if_neg hrun,if_pos (by omega)], by unfold XT; rw[if_neg hrun,if_pos (by omega)]; exact hS1.pick [0,1] Qa⟩
 refine Qj Qa Qa (Qx h4) (Qe Qa Qa (Qj Qa Qa (Qx h4) (Zf underlying9 Qa Qa (Qj Qa Qa (Qx h4) (Xu Qa Qa Qa (Q3 Qa (Qx h4) Qa Qa (Qh (Qd (Qk [2,1,0,6,22] Qa (Qv Qa (fun h5=> ?_) (fun h5=> ?_)))))))))))
 ·refine Qf (Qb (Qc Qa Qa (Qh (Qd (Qo (Qm (Q5 (.inr Qa) Qa Qa ?_)))))))
  exact⟨_,rfl, by unfold XT; rw[if_neg hrun,if_pos (by omega)], by unfold XT; rw[if_neg hrun,if_pos (by omega)]; exact hS1.pick [0,1] Qa⟩
 refine Qt (Qd (Qf ?_))
 obtain⟨dp,cv,sv,ov,hS6⟩:=QU (hS1.pick [0,1] rfl)
 obtain⟨x,hx⟩: ∃x,E.ses=some x:=(JJ hrun).2.2.2
 rw[hx]at hS6
 obtain⟨sb,sm,rfl,hS7⟩:=Zo (hS6.pick [3,0,1,2,4,5] rfl)
 refine Qb (Qe Qa Qa (Ql Qa Qa (Qi Qa Xt Qa (Qr Qa ZA (hS7.cell 2 Qa Qa) Qa (Ql Qa Qa (Qi Qa Z7 Qa (Qr Qa ZL (hS7.cell 0 Qa Qa) Qa (Qe Qa Qa (Hi (k:=id) 1 hS7 keysInt underlying89 Qa Qa Qa ZY (u:=Kp (Vl (Xg x.pages id))) (g:=(Xg x.pages id).isSome) (Yp _ _) (VS _ _) Qa (Qe Qa Qa (Q7 Qa Qa Qa (Q7 Qa Qa Qa (Xs hS7 ZY Qa Qa ?_)))))))))))))
 intro b8 w8 hS8
 (refine Q8 hS8 Qa Qa ZP Qa (by rfl) (i:=0) Qa (by decide) ?_)
 intro w9 hS10; dsimp only[List.set]at hS10
 refine Qc Qa Qa (Qh (Qd (Qk [2,1,0,6,7,8] Qa (Qf (Qf (Qb (Qe Qa Qa (XN Qa Qa (Qe Qa Qa (ZO 37 Qa (fun h11=> ?_) (fun h11=> ?_)))))))))))
 ·have hno:Xg x.pages id=none:= by simpa using h11
  refine Qj Qa Qa h11 (Qe Qa Qa (Qj Qa Qa h11 (Ql Qa Qa (Qj Qa Qa h11 (Qi Qa Xt Qa (Qj Qa Qa h11 (Qr Qa ZA (hS10.cell 3 Qa Qa) Qa (Qj Qa Qa h11 (Ql Qa Qa (Qj Qa Qa h11 (Qi Qa Z7 Qa (Qj Qa Qa h11 (Qr Qa ZL (hS10.cell 1 Qa Qa) Qa (Qj Qa Qa h11 (M0 2 hS10 underlying89 keysInt.inj Qa Qa Qa (fun mm hmm=> ?_))))))))))))))))
  obtain rfl:=hmm.uniq (MR (hsr x hx))
  refine Qj Qa Qa h11 (Jm Qa Qa Qa (Q1 Qa h11 Qa Qa (Qh (Qd (Qk [2,1,0,6,7,47] Qa (Qv Qa (fun h12=> ?_) (fun h12=> ?_)))))))
  ·refine Qf (Qb (Qc Qa Qa (Qh (Qd (Qo (Qm (Q5 (.inr Qa) Qa Qa ?_)))))))
   have hfull:Xg x.pages id=none∧8192≤x.pages.length:=⟨hno, by omega⟩
   exact⟨_,rfl, by unfold XT; rw[if_neg hrun,if_neg (by omega),hx]; dsimp only; rw[if_pos hfull], by unfold XT; rw[if_neg hrun,if_neg (by omega),hx]; dsimp only; rw[if_pos hfull]; exact Qu (E:=E) (by rw[hx]; exact(Xh (s:=x) (hS10.pick [1,2,3,4,5,6,7] Qa)).reorder [1,2,3,0,4,5] Qa)⟩
  refine Qt (Qd (Qf (Qb (Qe Qa Qa (Ql Qa Qa (Qi Qa Xt Qa (Qr Qa ZA (hS10.cell 3 Qa Qa) Qa (Ql Qa Qa (Qi Qa Up Qa (Qr Qa QH (hS10.cell 1 Qa Qa) Qa (M2 (c:=DD x.count) Qa Qa (TI (hct x hx)) Qa (Ql Qa Qa (Qi Qa Up Qa ?_)))))))))))))
  (refine Qw hS10 Qa Qa WA (by rfl) (i:=1) Qa (QC Qa) ?_)
  intro w13 hS14; dsimp only[List.set]at hS14
  refine Qh (Qd (Qk [2,1,0,6,7] Qa (Qf ?_)))
  have hS15:=hS14.drew
  refine QN [0,1,2,3,4,5,6,7,8,9,10,11,12,13,14,15,16,17,18,19] [19] W5 (by kernel_rfl) ?_
  refine QI Qa Qa Qa (Xn Qa Qa Qa (QO Qa Qa Qa Xt (QF Qa Qa Qa (Qn Qa ZA (hS15.cell 3 Qa Qa)) (Xn Qa Qa Qa (QO Qa Qa Qa Z7 (QF Qa Qa Qa (Qn Qa ZL (hS15.cell 1 Qa Qa)) (QI Qa Qa Qa (QI Qa Qa Qa (QI Qa Qa Qa (Xn Qa Qa Qa (QO Qa Qa Qa Xt (QF Qa Qa Qa (Qn Qa ZA (hS15.cell 3 Qa Qa)) (Xn Qa Qa Qa (QO Qa Qa Qa Up (QF Qa Qa Qa (Qn Qa QH (hS15.cell 1 Qa Qa)) (QO Qa Qa Qa Ro (QF Qa Qa Qa (Qn Qa QH (hS15.cell 0 Qa Qa)) (Q9 Qa Qa Qa (fun _=>(W7 Qa GH HY ZY Qa)) ?_))))))))))))))))))
  refine QV Qa Qa Qa Qa Qa Qa ?_
  refine XP (k:=id) (v:=Kp ⟨d,DD x.count,(Vl (Xg x.pages id)).sent,false⟩) 2 hS15 keysInt underlying89 Qa Qa Qa Qa ?_
  intro w16 hS16; dsimp only[List.set]at hS16; rw[H9 (hsr x hx)]at hS16
  refine Z9 (Xq (by kernel_rfl)) ?_
  refine VC.nil (Qd (Qk [6] Qa (Qf (Qb (Qc Qa Qa (Qh (Qd (Qo (Q5 (.inr Qa) Qa Qa ?_)))))))))
  have hroom: ¬(Xg x.pages id=none∧8192≤x.pages.length):= by first | (rintro⟨_,q⟩;omega) | exact fun q=>hyes q.1
  have he:(Vl (Xg x.pages id)).sent=((Xg x.pages id).map PgD.sent).getD 0:= by unfold Vl; cases Xg x.pages id<;>rfl
  rw[he]at hS16
  exact⟨_,rfl, by unfold XT; rw[if_neg hrun,if_neg (by omega),hx]; dsimp only; rw[if_neg hroom], by unfold XT; rw[if_neg hrun,if_neg (by omega),hx]; dsimp only; rw[if_neg hroom]; exact Qu (E:={E with ses:=some {x with count:=DD x.count,pages:=Zk id ⟨d,DD x.count,((Xg x.pages id).map PgD.sent).getD 0,false⟩ x.pages}}) ((Xh (s:={x with count:=DD x.count,pages:=Zk id ⟨d,DD x.count,((Xg x.pages id).map PgD.sent).getD 0,false⟩ x.pages}) (hS16.pick [1,2,3,4,5,6,7] Qa)).reorder [1,2,3,0,4,5] Qa)⟩
 have hyes: ¬Xg x.pages id=none:= by intro q0; have q1:=h11; rw[q0]at q1; simp at q1
 refine Qg Qa Qa h11 Qa (Qg Qa Qa h11 Qa (Qg Qa Qa h11 Qa (Qg Qa Qa h11 Qa (Qg Qa Qa h11 Qa (Qg Qa Qa h11 Qa (Qg Qa Qa h11 Qa (Qg Qa Qa h11 Qa (Qg Qa Qa h11 Qa (Q3 Qa h11 Qa Qa (Qh (Qd (Qk [2,1,0,6,7,47] Qa (QJ Qa (Qt (Qd (Qf (Qb (Qe Qa Qa (Ql Qa Qa (Qi Qa Xt Qa (Qr Qa ZA (hS10.cell 3 Qa Qa) Qa (Ql Qa Qa (Qi Qa Up Qa (Qr Qa QH (hS10.cell 1 Qa Qa) Qa (M2 (c:=DD x.count) Qa Qa (TI (hct x hx)) Qa (Ql Qa Qa (Qi Qa Up Qa ?_)))))))))))))))))))))))))))
 (refine Qw hS10 Qa Qa WA (by rfl) (i:=1) Qa (QC Qa) ?_)
 intro w17 hS18; dsimp only[List.set]at hS18
 refine Qh (Qd (Qk [2,1,0,6,7] Qa (Qf ?_)))
 have hS19:=hS18.drew
 refine QN [0,1,2,3,4,5,6,7,8,9,10,11,12,13,14,15,16,17,18,19] [19] W5 (by kernel_rfl) ?_
 refine QI Qa Qa Qa (Xn Qa Qa Qa (QO Qa Qa Qa Xt (QF Qa Qa Qa (Qn Qa ZA (hS19.cell 3 Qa Qa)) (Xn Qa Qa Qa (QO Qa Qa Qa Z7 (QF Qa Qa Qa (Qn Qa ZL (hS19.cell 1 Qa Qa)) (QI Qa Qa Qa (QI Qa Qa Qa (QI Qa Qa Qa (Xn Qa Qa Qa (QO Qa Qa Qa Xt (QF Qa Qa Qa (Qn Qa ZA (hS19.cell 3 Qa Qa)) (Xn Qa Qa Qa (QO Qa Qa Qa Up (QF Qa Qa Qa (Qn Qa QH (hS19.cell 1 Qa Qa)) (QO Qa Qa Qa Ro (QF Qa Qa Qa (Qn Qa QH (hS19.cell 0 Qa Qa)) (Q9 Qa Qa Qa (fun _=>(W7 Qa GH HY ZY Qa)) ?_))))))))))))))))))
 refine QV Qa Qa Qa Qa Qa Qa ?_
 refine XP (k:=id) (v:=Kp ⟨d,DD x.count,(Vl (Xg x.pages id)).sent,false⟩) 2 hS19 keysInt underlying89 Qa Qa Qa Qa ?_
 intro w20 hS20; dsimp only[List.set]at hS20; rw[H9 (hsr x hx)]at hS20
 refine Z9 (Xq (by kernel_rfl)) ?_
 refine VC.nil (Qd (Qk [6] Qa (Qf (Qb (Qc Qa Qa (Qh (Qd (Qo (Q5 (.inr Qa) Qa Qa ?_)))))))))
 have hroom: ¬(Xg x.pages id=none∧8192≤x.pages.length):= by first | (rintro⟨_,q⟩;omega) | exact fun q=>hyes q.1
 have he:(Vl (Xg x.pages id)).sent=((Xg x.pages id).map PgD.sent).getD 0:= by unfold Vl; cases Xg x.pages id<;>rfl
 rw[he]at hS20
 exact⟨_,rfl, by unfold XT; rw[if_neg hrun,if_neg (by omega),hx]; dsimp only; rw[if_neg hroom], by unfold XT; rw[if_neg hrun,if_neg (by omega),hx]; dsimp only; rw[if_neg hroom]; exact Qu (E:={E with ses:=some {x with count:=DD x.count,pages:=Zk id ⟨d,DD x.count,((Xg x.pages id).map PgD.sent).getD 0,false⟩ x.pages}}) ((Xh (s:={x with count:=DD x.count,pages:=Zk id ⟨d,DD x.count,((Xg x.pages id).map PgD.sent).getD 0,false⟩ x.pages}) (hS20.pick [1,2,3,4,5,6,7] Qa)).reorder [1,2,3,0,4,5] Qa)⟩
