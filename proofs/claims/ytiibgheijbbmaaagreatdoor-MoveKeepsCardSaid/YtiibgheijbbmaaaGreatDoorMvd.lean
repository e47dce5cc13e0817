/- move: join -/
import Derived.Test.YtiibgheijbbmaaaGreatDoorMvc
set_option linter.unusedVariables false
set_option maxRecDepth 100000
namespace Go.Proofs.YtiibgheijbbmaaaGreatDoor
open Go.RowKit M Proofs.Tryz
def Pm (o:OfD) (m n:Nat):List Value:=[intV o.move,.map (some m),intV o.many,.map (some n),strV o.list]
def newO (n:Int):OfD:=⟨n,[],0,[],[]⟩
section
variable {E:EnD} {n:Int} {o:OfD}
theorem Ur (h:E.kind=1∨n≤E.move):ZA E n=none:= by unfold ZA; rw[if_pos h]
theorem EH (h: ¬(E.kind=1∨n≤E.move)) (ho:E.off=none):ZA E n=some (newO n):= by unfold ZA; rw[if_neg h,ho];rfl
theorem Bq (h: ¬(E.kind=1∨n≤E.move)) (ho:E.off=some o) (h2:n<o.move):ZA E n=none:= by unfold ZA; rw[if_neg h,ho]; dsimp only; rw[if_pos h2]
theorem EJ (h: ¬(E.kind=1∨n≤E.move)) (ho:E.off=some o) (h2: ¬n<o.move) (h3:o.move<n):ZA E n=some (newO n):= by unfold ZA; rw[if_neg h,ho]; dsimp only; rw[if_neg h2,if_pos h3];rfl
theorem Fe (h: ¬(E.kind=1∨n≤E.move)) (ho:E.off=some o) (h2: ¬n<o.move) (h3: ¬o.move<n):ZA E n=some o:= by unfold ZA; rw[if_neg h,ho]; dsimp only; rw[if_neg h2,if_neg h3]
end
theorem join_a {w:World} {e:Nat} {E:EnD} {F:Th} (hS:Sat w [Xu e E,F]) (n:Int) (ho:E.off=none):
    Calls prog 103 #[ptrV e 0,intV n] w (Ret fun v w'=>(ZA E n=none∧v= .pointer none∧Sat w' [Xu e E,F])∨(∃o b om on dp cv sv,ZA E n=some o∧v=ptrV b 0∧Sat w' [QR b (Pm o om on),XE XY om (UU o.parts),XE XY on (Yc o.pages),QR e (U5 dp cv sv (ptrV b 0) E),dT dp E.D,JK dp cv E.cell,VQ sv E.ses,F])):= by
 obtain⟨dp,cv,sv,ov,hS⟩:=QQ hS
 rw[ho]at hS
 obtain⟨rfl,hS⟩:=Bg (hS.reorder [4,0,1,2,3,5] rfl)
 refine Qx func103 Qa ntmps103 Qa ?_
 refine Qg (Qb (Qc Qa Qa (Qh (Qd (Qg (Qg (Qb (Qe Qa Qa (Ql Qa Qa (Qi Qa Zv Qa (Qq Qa QF (hS.cell 0 Qa Qa) Qa (QL Qa Qa Qa (Qe Qa Qa (Q4 10 Qa (fun h1=> ?_) (fun h1=> ?_)))))))))))))))
 ·refine Qf Qa Qa (Q8 h1) Qa (Qf Qa Qa (Q8 h1) Qa (Qf Qa Qa (Q8 h1) Qa (Qf Qa Qa (Q8 h1) Qa (Qf Qa Qa (Q8 h1) Qa (Qf Qa Qa (Q8 h1) Qa (Q0 Qa (Q8 h1) Qa Qa (Qe Qa Qa (Qf Qa Qa Qa Qa (Qf Qa Qa Qa Qa (Qf Qa Qa Qa Qa (Qf Qa Qa Qa Qa (Qf Qa Qa Qa Qa (Qf Qa Qa Qa Qa (QG Qa Qa Qa (QG Qa Qa Qa (QG Qa Qa Qa (QG Qa Qa Qa (QG Qa Qa Qa (QG Qa Qa Qa (QG Qa Qa Qa (QG Qa Qa Qa (QG Qa Qa Qa (Qf Qa Qa Qa Qa (Q0 Qa Qa Qa Qa (Qh (Qd (Qk [1,0,4,35] Qa (QO Qa (Qg (Qb (Qc Qa Qa (Qh (Qd (Qo (Qm (Q5 (.inr Qa) Qa Qa ?_))))))))))))))))))))))))))))))))))))
  exact⟨_,rfl,.inl ⟨Ur (by omega),rfl,Qv (E:=E) (by rw[ho]; exact((Wd (hS.pick [0,1,2,3,4] Qa)).reorder [1,2,3,4,0,5] Qa))⟩⟩
 refine Qj Qa Qa (Qw h1) (Qe Qa Qa (Qj Qa Qa (Qw h1) (Qe Qa Qa (Qj Qa Qa (Qw h1) (Ql Qa Qa (Qj Qa Qa (Qw h1) (Qi Qa W5 Qa (Qj Qa Qa (Qw h1) (Qq Qa QF (hS.cell 0 Qa Qa) Qa (Qj Qa Qa (Qw h1) (W8 Qa Qa Qa (Q1 Qa (Qw h1) Qa Qa (Qe Qa Qa (Q4 18 Qa (fun h2=> ?_) (fun h2=> ?_)))))))))))))))
 ·refine Qf Qa Qa (Q8 h2) Qa (Qf Qa Qa (Q8 h2) Qa (Qf Qa Qa (Q8 h2) Qa (Qf Qa Qa (Q8 h2) Qa (Qf Qa Qa (Q8 h2) Qa (Qf Qa Qa (Q8 h2) Qa (QG Qa Qa Qa (QG Qa Qa Qa (QG Qa Qa Qa (QG Qa Qa Qa (QG Qa Qa Qa (QG Qa Qa Qa (QG Qa Qa Qa (QG Qa Qa Qa (QG Qa Qa Qa (Qf Qa Qa (Q8 h2) Qa (Q0 Qa (Q8 h2) Qa Qa (Qh (Qd (Qk [1,0,4,35] Qa (QO Qa (Qg (Qb (Qc Qa Qa (Qh (Qd (Qo (Qm (Q5 (.inr Qa) Qa Qa ?_))))))))))))))))))))))))))))
  exact⟨_,rfl,.inl ⟨Ur (by omega),rfl,Qv (E:=E) (by rw[ho]; exact((Wd (hS.pick [0,1,2,3,4] Qa)).reorder [1,2,3,4,0,5] Qa))⟩⟩
 refine Qj Qa Qa (Qw h2) (Qe Qa Qa (Qj Qa Qa (Qw h2) (Ql Qa Qa (Qj Qa Qa (Qw h2) (Qi Qa WJ Qa (Qj Qa Qa (Qw h2) (Qq Qa UQ (hS.cell 0 Qa Qa) Qa (Qj Qa Qa (Qw h2) (YR underlying79 Qa Qa Qa (Qj Qa Qa (Qw h2) (Qe Qa Qa (Qf Qa Qa Qa Qa (Qf Qa Qa Qa Qa (Qf Qa Qa Qa Qa (Qf Qa Qa Qa Qa (Qf Qa Qa Qa Qa (Qf Qa Qa Qa Qa (Qf Qa Qa Qa Qa (Qf Qa Qa Qa Qa (Qf Qa Qa Qa Qa (Qj Qa Qa (Qw h2) (Q1 Qa Qa Qa Qa (Q1 Qa (Qw h2) Qa Qa (Qh (Qd (Qk [1,0,4,35] Qa (QI Qa (Qr (Qd (Qg (Qg (Qb (Qe Qa Qa (Ql Qa Qa (Qi Qa WJ Qa (Qq Qa UQ (hS.cell 0 Qa Qa) Qa (ZM underlying79 Qa Qa Qa (Qe Qa Qa (Qf Qa Qa Qa Qa (Qf Qa Qa Qa Qa (Qf Qa Qa Qa Qa (Qf Qa Qa Qa Qa (Qf Qa Qa Qa Qa (Qf Qa Qa Qa Qa (Qf Qa Qa Qa Qa (Qf Qa Qa Qa Qa (Qf Qa Qa Qa Qa (Q0 Qa Qa Qa Qa (Qh (Qd (Qk [1,0,4,51] Qa (QO Qa (Qb (Qe Qa Qa (Qe Qa Qa (W7 XY hS Qa ?_))))))))))))))))))))))))))))))))))))))))))))))))))))))))
 intro n1 w3 hS3
 refine W7 XY hS3 Qa ?_
 intro n2 w4 hS4
 refine JB (vs':=[intV n,.map (some n1),intV 0,.map (some n2),strV []]) Qa Ge LM A8 Qa Qa Qa (XT hS4 Qa Qa Qa ?_)
 intro nb w5 hS5
 refine Ql Qa Qa (Qi Qa WJ Qa ?_)
 (refine Q7 hS5 Qa Qa NI (by rfl) (i:=3) Qa (Xd Qa) ?_)
 intro w6 hS7; dsimp only[List.set]at hS7
 refine Qh (Qd (Qk [0,4] Qa (Qg (Qb (Qe Qa Qa (Ql Qa Qa (Qi Qa WJ Qa (Qq Qa UQ (hS7.cell 3 Qa Qa) Qa (Qc Qa Qa (Qh (Qd (Qo (Q5 (.inr Qa) Qa Qa ?_)))))))))))))
 exact⟨_,rfl,.inr ⟨newO n,nb,n1,n2,_,_,_,EH (by omega) ho,rfl,(by have hz:=hS7.pick [0,2,1,3,4,5,6,7] Qa; rw[show(fun _:Int=>(none:Option Value))=UU [] from rfl]at hz; exact hz)⟩⟩
theorem join_b {w:World} {e:Nat} {E:EnD} {F:Th} (hS:Sat w [Xu e E,F]) (n:Int) {o:OfD} (ho:E.off=some o):
    Calls prog 103 #[ptrV e 0,intV n] w (Ret fun v w'=>(ZA E n=none∧v= .pointer none∧Sat w' [Xu e E,F])∨(∃o b om on dp cv sv,ZA E n=some o∧v=ptrV b 0∧Sat w' [QR b (Pm o om on),XE XY om (UU o.parts),XE XY on (Yc o.pages),QR e (U5 dp cv sv (ptrV b 0) E),dT dp E.D,JK dp cv E.cell,VQ sv E.ses,F])):= by
 obtain⟨dp,cv,sv,ov,hS⟩:=QQ hS
 rw[ho]at hS
 obtain⟨ob,om,on,rfl,hS⟩:=Bf (hS.reorder [4,0,1,2,3,5] rfl)
 refine Qx func103 Qa ntmps103 Qa ?_
 refine Qg (Qb (Qc Qa Qa (Qh (Qd (Qg (Qg (Qb (Qe Qa Qa (Ql Qa Qa (Qi Qa Zv Qa (Qq Qa QF (hS.cell 3 Qa Qa) Qa (QL Qa Qa Qa (Qe Qa Qa (Q4 10 Qa (fun h1=> ?_) (fun h1=> ?_)))))))))))))))
 ·refine Qf Qa Qa (Q8 h1) Qa (Qf Qa Qa (Q8 h1) Qa (Qf Qa Qa (Q8 h1) Qa (Qf Qa Qa (Q8 h1) Qa (Qf Qa Qa (Q8 h1) Qa (Qf Qa Qa (Q8 h1) Qa (Q0 Qa (Q8 h1) Qa Qa (Qe Qa Qa (Qf Qa Qa Qa Qa (Qf Qa Qa Qa Qa (Qf Qa Qa Qa Qa (Qf Qa Qa Qa Qa (Qf Qa Qa Qa Qa (Qf Qa Qa Qa Qa (QG Qa Qa Qa (QG Qa Qa Qa (QG Qa Qa Qa (QG Qa Qa Qa (QG Qa Qa Qa (QG Qa Qa Qa (QG Qa Qa Qa (QG Qa Qa Qa (QG Qa Qa Qa (Qf Qa Qa Qa Qa (Q0 Qa Qa Qa Qa (Qh (Qd (Qk [1,0,4,35] Qa (QO Qa (Qg (Qb (Qc Qa Qa (Qh (Qd (Qo (Qm (Q5 (.inr Qa) Qa Qa ?_))))))))))))))))))))))))))))))))))))
  exact⟨_,rfl,.inl ⟨(by first | exact Ur (by omega) | exact Bq (by omega) ho (by omega)),rfl,Qv (E:=E) (by rw[ho]; exact((XV (hS.pick [0,1,2,3,4,5,6,7] Qa)).reorder [1,2,3,4,0,5] Qa))⟩⟩
 refine Qj Qa Qa (Qw h1) (Qe Qa Qa (Qj Qa Qa (Qw h1) (Qe Qa Qa (Qj Qa Qa (Qw h1) (Ql Qa Qa (Qj Qa Qa (Qw h1) (Qi Qa W5 Qa (Qj Qa Qa (Qw h1) (Qq Qa QF (hS.cell 3 Qa Qa) Qa (Qj Qa Qa (Qw h1) (W8 Qa Qa Qa (Q1 Qa (Qw h1) Qa Qa (Qe Qa Qa (Q4 18 Qa (fun h2=> ?_) (fun h2=> ?_)))))))))))))))
 ·refine Qf Qa Qa (Q8 h2) Qa (Qf Qa Qa (Q8 h2) Qa (Qf Qa Qa (Q8 h2) Qa (Qf Qa Qa (Q8 h2) Qa (Qf Qa Qa (Q8 h2) Qa (Qf Qa Qa (Q8 h2) Qa (QG Qa Qa Qa (QG Qa Qa Qa (QG Qa Qa Qa (QG Qa Qa Qa (QG Qa Qa Qa (QG Qa Qa Qa (QG Qa Qa Qa (QG Qa Qa Qa (QG Qa Qa Qa (Qf Qa Qa (Q8 h2) Qa (Q0 Qa (Q8 h2) Qa Qa (Qh (Qd (Qk [1,0,4,35] Qa (QO Qa (Qg (Qb (Qc Qa Qa (Qh (Qd (Qo (Qm (Q5 (.inr Qa) Qa Qa ?_))))))))))))))))))))))))))))
  exact⟨_,rfl,.inl ⟨(by first | exact Ur (by omega) | exact Bq (by omega) ho (by omega)),rfl,Qv (E:=E) (by rw[ho]; exact((XV (hS.pick [0,1,2,3,4,5,6,7] Qa)).reorder [1,2,3,4,0,5] Qa))⟩⟩
 refine Qj Qa Qa (Qw h2) (Qe Qa Qa (Qj Qa Qa (Qw h2) (Ql Qa Qa (Qj Qa Qa (Qw h2) (Qi Qa WJ Qa (Qj Qa Qa (Qw h2) (Qq Qa UQ (hS.cell 3 Qa Qa) Qa (Qj Qa Qa (Qw h2) (UZ underlying79 Qa Qa Qa (Qj Qa Qa (Qw h2) (Qe Qa Qa (Qj Qa Qa Qa (Qe Qa Qa (Qj Qa Qa Qa (Ql Qa Qa (Qj Qa Qa Qa (Qi Qa WJ Qa (Qj Qa Qa Qa (Qq Qa UQ (hS.cell 3 Qa Qa) Qa (Qj Qa Qa Qa (Ql Qa Qa (Qj Qa Qa Qa (Qi Qa G0 Qa (Qj Qa Qa Qa (Qq Qa QF (hS.cell 0 Qa Qa) Qa (Qj Qa Qa Qa (Qe Qa Qa (Qj Qa Qa Qa (Wl Qa Qa Qa (Qj Qa Qa (Qw h2) (Q0 Qa Qa Qa Qa (Q1 Qa (Qw h2) Qa Qa (Qh (Qd (Qk [1,0,4,35] Qa (Qt Qa (fun h3=> ?_) (fun h3=> ?_)))))))))))))))))))))))))))))))))))))
 ·refine Qg (Qb (Qc Qa Qa (Qh (Qd (Qo (Qm (Q5 (.inr Qa) Qa Qa ?_)))))))
  exact⟨_,rfl,.inl ⟨(by first | exact Ur (by omega) | exact Bq (by omega) ho (by omega)),rfl,Qv (E:=E) (by rw[ho]; exact((XV (hS.pick [0,1,2,3,4,5,6,7] Qa)).reorder [1,2,3,4,0,5] Qa))⟩⟩
 refine Qr (Qd (Qg (Qg (Qb (Qe Qa Qa (Ql Qa Qa (Qi Qa WJ Qa (Qq Qa UQ (hS.cell 3 Qa Qa) Qa (ZH underlying79 Qa Qa Qa (Qe Qa Qa (Qj Qa Qa Qa (Qe Qa Qa (Qj Qa Qa Qa (Ql Qa Qa (Qj Qa Qa Qa (Qi Qa WJ Qa (Qj Qa Qa Qa (Qq Qa UQ (hS.cell 3 Qa Qa) Qa (Qj Qa Qa Qa (Ql Qa Qa (Qj Qa Qa Qa (Qi Qa G0 Qa (Qj Qa Qa Qa (Qq Qa QF (hS.cell 0 Qa Qa) Qa (Qj Qa Qa Qa (Qe Qa Qa (Qj Qa Qa Qa (X0 Qa Qa Qa (Q1 Qa Qa Qa Qa (Qh (Qd (Qk [1,0,4,51] Qa (Qt Qa (fun h4=> ?_) (fun h4=> ?_))))))))))))))))))))))))))))))))))
 ·refine Qb (Qe Qa Qa (Qe Qa Qa (W7 XY hS Qa ?_)))
  intro n1 w5 hS5
  refine W7 XY hS5 Qa ?_
  intro n2 w6 hS6
  refine JB (vs':=[intV n,.map (some n1),intV 0,.map (some n2),strV []]) Qa Ge LM A8 Qa Qa Qa (XT hS6 Qa Qa Qa ?_)
  intro nb w7 hS7
  refine Ql Qa Qa (Qi Qa WJ Qa ?_)
  (refine Q7 hS7 Qa Qa NI (by rfl) (i:=6) Qa (Xd Qa) ?_)
  intro w8 hS9; dsimp only[List.set]at hS9
  refine Qh (Qd (Qk [0,4] Qa (Qg (Qb (Qe Qa Qa (Ql Qa Qa (Qi Qa WJ Qa (Qq Qa UQ (hS9.cell 6 Qa Qa) Qa (Qc Qa Qa (Qh (Qd (Qo (Q5 (.inr Qa) Qa Qa ?_)))))))))))))
  exact⟨_,rfl,.inr ⟨newO n,nb,n1,n2,_,_,_,EJ (by omega) ho (by omega) (by omega),rfl,(by have hz:=hS9.pick [0,2,1,6,7,8,9,10] Qa; rw[show(fun _:Int=>(none:Option Value))=UU [] from rfl]at hz; exact hz)⟩⟩
 exact Qr (Qd (Qg (Qb (Qe Qa Qa (Ql Qa Qa (Qi Qa WJ Qa (Qq Qa UQ (hS.cell 3 Qa Qa) Qa (Qc Qa Qa (Qh (Qd (Qo (Q5 (.inr Qa) Qa Qa (⟨_,rfl,.inr ⟨o,ob,om,on,_,_,_,Fe (by omega) ho (by omega) (by omega),rfl,hS.pick [0,1,2,3,4,5,6,7] Qa⟩⟩)))))))))))))
theorem CK {w:World} {e:Nat} {E:EnD} {F:Th} (hS:Sat w [Xu e E,F]) (n:Int):
    Calls prog 103 #[ptrV e 0,intV n] w (Ret fun v w'=>(ZA E n=none∧v= .pointer none∧Sat w' [Xu e E,F])∨(∃o b om on dp cv sv,ZA E n=some o∧v=ptrV b 0∧Sat w' [QR b (Pm o om on),XE XY om (UU o.parts),XE XY on (Yc o.pages),QR e (U5 dp cv sv (ptrV b 0) E),dT dp E.D,JK dp cv E.cell,VQ sv E.ses,F])):= by
  cases ho:E.off with
  | none=> exact join_a hS n ho
  | some o=> exact join_b hS n ho
def VR (x:Option PgD):PgD:=x.getD ⟨[],0,0,false⟩
theorem Y7 (l:AL PgD) (i:Int):(Yc l i).getD (.agg #[strV [],intV 0,intV 0,.bool false])=Rk (VR (QT l i)):= by
  unfold Yc VR
  cases QT l i<;>rfl
theorem KD (l:AL PgD) (i:Int):(Yc l i).isSome=(QT l i).isSome:= by unfold Yc; cases QT l i<;>rfl
theorem HX {l:AL PgD} (hs:Srt l) (i:Int) (x:PgD):upd (Yc l) i (some (Rk x))=Yc (XO i x l):= by
  funext k;unfold upd Yc; rw[We hs]
  by_cases h:k=i
  · rw[if_pos h,if_pos h];rfl
  · rw[if_neg h,if_neg h]
theorem pgG_del (l:AL PgD) (i:Int):upd (Yc l) i none=Yc (Yl l i):= by
  funext k;unfold upd Yc; rw[Y2]
  by_cases h:k=i
  · rw[if_pos h,if_pos h];rfl
  · rw[if_neg h,if_neg h]
theorem OM {w:World} {b om on:Nat} {o:OfD} {F:Th} (hS:Sat w [QR b (Pm o om on),XE XY on (Yc o.pages),F]) (id:Int):
    Calls prog 104 #[ptrV b 0,intV id] w (Ret fun v w'=>v= .bool (QT o.pages id).isSome∧Sat w' [QR b (Pm o om on),XE XY on (Yc o.pages),F]):= by
 refine Qx func104 Qa ntmps104 Qa ?_
 refine Qg (Qb (Qc Qa Qa (Qh (Qd (Qg (Qb (Qe Qa Qa (Ql Qa Qa (Qi Qa HI Qa (Qq Qa ZX (hS.cell 0 Qa Qa) Qa (Qe Qa Qa (H2 (k:=id) 1 hS keysInt underlying89 Qa Qa Qa Wc (u:=Rk (VR (QT o.pages id))) (g:=(QT o.pages id).isSome) (Y7 _ _) (KD _ _) Qa (Qe Qa Qa (Q6 Qa Qa Qa (Q6 Qa Qa Qa (Xl hS Wc Qa Qa ?_))))))))))))))))
 intro b1 w1 hS1
 (refine QZ hS1 Qa Qa Vf Qa (by rfl) (i:=0) Qa (by decide) ?_)
 intro w2 hS3; dsimp only[List.set]at hS3
 exact Qc Qa Qa (Qh (Qd (Qk [4,6] Qa (Qg (Qb (Qe Qa Qa (Qc Qa Qa (Qh (Qd (Qo (Q5 (.inr Qa) Qa Qa (⟨_,Qa,Qa,hS3.pick [1,2,3] Qa⟩))))))))))))
theorem BY {w:World} {e:Nat} {E:EnD} {F:Th} (hS:Sat w [Xu e E,F]) (id:Int):
    Calls prog 45 #[ptrV e 0,intV id] w (Ret fun v w'=>v=intV (Zq E id).1∧Sat w' [Xu e (Zq E id).2,F]):= by
 refine Qx func45 Qa ntmps45 Qa ?_
 refine Qg (Qb (Qc Qa Qa (Qh (Qd (Qg (Qg (Qb (Qe Qa Qa (Qz Uz Qa (YW (hS.sp [0] Qa)) Qa ?_)))))))))
 rintro _ w1 ⟨rfl,hS1⟩
 replace hS1:=hS1.jn Qa Qa
 refine XL Qa Qa (Qh (Qd (Xb Qa (fun h2=> ?_) (fun h2=> ?_))))
 ·have hr:ZN E=false:= by simpa using h2
  refine Qg (Qb (Qc Qa Qa (Qh (Qd (Qo (Qm (Q5 (.inr Qa) Qa Qa ?_)))))))
  exact⟨_,rfl, by unfold Zq; rw[if_pos hr], by unfold Zq; rw[if_pos hr]; exact hS1.pick [0,1] Qa⟩
 have hrun: ¬ZN E=false:= by simpa using h2
 refine Qr (Qd (Qg (Qg ?_)))
 obtain⟨dp,cv,sv,ov,hS3⟩:=QQ (hS1.pick [0,1] rfl)
 obtain⟨x,hx⟩: ∃x,E.ses=some x:=(Yb hrun).2.2.2
 rw[hx]at hS3
 obtain⟨sb,sm,rfl,hS4⟩:=Zj (hS3.pick [3,0,1,2,4,5] rfl)
 refine Qb (Qe Qa Qa (Ql Qa Qa (Qi Qa Xo Qa (Qq Qa Z3 (hS4.cell 2 Qa Qa) Qa (Ql Qa Qa (Qi Qa ZF Qa (Qq Qa ZX (hS4.cell 0 Qa Qa) Qa (Qe Qa Qa (H2 (k:=id) 1 hS4 keysInt underlying89 Qa Qa Qa Wc (u:=Rk (VR (QT x.pages id))) (g:=(QT x.pages id).isSome) (Y7 _ _) (KD _ _) Qa (Qe Qa Qa (Q6 Qa Qa Qa (Q6 Qa Qa Qa (Xl hS4 Wc Qa Qa ?_)))))))))))))
 intro b5 w5 hS5
 (refine QZ hS5 Qa Qa Vf Qa (by rfl) (i:=0) Qa (by decide) ?_)
 intro w6 hS7; dsimp only[List.set]at hS7
 refine Qc Qa Qa (Qh (Qd (Qk [1,0,4,6] Qa (Qg (Qb (Qe Qa Qa (XL Qa Qa (Qh (Qd (Xb Qa (fun h8=> ?_) (fun h8=> ?_)))))))))))
 ·have hno:QT x.pages id=none:= by simpa using h8
  refine Qg (Qb (Qc Qa Qa (Qh (Qd (Qo (Qm (Q5 (.inr Qa) Qa Qa ?_)))))))
  exact⟨_,rfl, by unfold Zq; rw[if_neg hrun,hx]; dsimp only; rw[if_pos hno], by unfold Zq; rw[if_neg hrun,hx]; dsimp only; rw[if_pos hno]; exact Qv (E:=E) (by rw[hx]; exact(Xf (s:=x) (hS7.pick [1,2,3,4,5,6,7] Qa)).reorder [1,2,3,0,4,5] Qa)⟩
 have hyes: ¬QT x.pages id=none:= by intro q0; have q1:=h8; rw[q0]at q1; simp at q1
 refine Qr (Qd (Qg (Qb (Qe Qa Qa (Ql Qa Qa (Qi Qa Xo Qa (Qq Qa Z3 (hS7.cell 3 Qa Qa) Qa (Ql Qa Qa (Qi Qa ZF Qa (Qq Qa ZX (hS7.cell 1 Qa Qa) Qa (Qe Qa Qa (LX (k:=id) 2 hS7 keysInt underlying89 Qa Qa Qa Qa ?_))))))))))))
 intro w9 hS9; dsimp only[List.set]at hS9; rw[pgG_del]at hS9
 refine Qh (Qd (Qk [4] Qa (Qg (Qb (Qc Qa Qa (Qh (Qd (Qo (Q5 (.inr Qa) Qa Qa ?_)))))))))
 exact⟨_,rfl, by unfold Zq; rw[if_neg hrun,hx]; dsimp only; rw[if_neg hyes], by unfold Zq; rw[if_neg hrun,hx]; dsimp only; rw[if_neg hyes]; exact Qv (E:={E with ses:=some {x with pages:=Yl x.pages id}}) ((Xf (s:={x with pages:=Yl x.pages id}) (hS9.pick [1,2,3,4,5,6,7] Qa)).reorder [1,2,3,0,4,5] Qa)⟩
def H7 (E:EnD) (id:Int):Bs×Int:= match E.ses with
  | none=>([],4)
  | some s=> match QT s.pages id with
    | none=>([],4)
    | some p=> if p.miss=true then([],19)else(p.data,0)
theorem G8 {w:World} {e:Nat} {E:EnD} {F:Th} (hS:Sat w [Xu e E,F]) (id:Int):
    Calls prog 28 #[ptrV e 0,intV id] w (Ret fun v w'=>v= .tuple #[strV (H7 E id).1,intV (H7 E id).2]∧Sat w' [Xu e E,F]):= by
 obtain⟨dp,cv,sv,ov,hS⟩:=QQ hS
 refine Qx func28 Qa ntmps28 Qa ?_
 refine Qg (Qb (Qc Qa Qa (Qc Qa Qa (Qh (Qd (Qg (Qg (Qb (Qe Qa Qa (Ql Qa Qa (Qi Qa Xo Qa (Qq Qa Z3 (hS.cell 0 Qa Qa) Qa ?_))))))))))))
 rcases hq_s:E.ses with _ | s
 ·rw[hq_s]at hS
  obtain⟨rfl,hSo1⟩:=WN (hS.pick [3,0,1,2,4,5] rfl)
  refine ZM underlying78 Qa Qa Qa (Qh (Qd (QO Qa (Qg (Qb (Qc Qa Qa (Qc Qa Qa (Qh (Qd (Qo (Qm (ZG (.inr Qa) Qa Qa Qa ?_))))))))))))
  exact⟨_,rfl, by unfold H7; rw[hq_s],Qv (E:=E) (by rw[hq_s]; exact((ZQ hSo1).pick [1,2,3,0,4,5] Qa))⟩
 rw[hq_s]at hS
 obtain⟨sb,sm,rfl,hSo2⟩:=Zj (hS.pick [3,0,1,2,4,5] rfl)
 refine ZH underlying78 Qa Qa Qa (Qh (Qd (QI Qa (Qr (Qd (Qg (Qb (Qe Qa Qa (Ql Qa Qa (Qi Qa Xo Qa (Qq Qa Z3 (hSo2.cell 2 Qa Qa) Qa (Ql Qa Qa (Qi Qa ZF Qa (Qq Qa ZX (hSo2.cell 0 Qa Qa) Qa (Qe Qa Qa (H2 (k:=id) 1 hSo2 keysInt underlying89 Qa Qa Qa Wc (u:=Rk (VR (QT s.pages id))) (g:=(QT s.pages id).isSome) (Y7 _ _) (KD _ _) Qa (Qe Qa Qa (Q6 Qa Qa Qa (Q6 Qa Qa Qa (Xl hSo2 Wc Qa Qa ?_))))))))))))))))))))
 intro b3 w3 hS3
 clear hSo2
 (refine QZ hS3 Qa Qa Vf Qa (by rfl) (i:=0) Qa (by decide) ?_)
 intro w4 hS5; dsimp only[List.set]at hS5
 refine Qc Qa Qa (Qh (Qd (Qk [4,5,6,7] Qa (Qg (QD (Qg (Qb (Qe Qa Qa (XL Qa Qa (Qc Qa Qa (Qh (Qd (Xb Qa (fun h6=> ?_) (fun h6=> ?_))))))))))))))
 ·have hno:QT s.pages id=none:= by simpa using h6
  refine Qg (Qb (Qc Qa Qa (Qc Qa Qa (Qh (Qd (Qo (Qy (Qm (ZG (.inr Qa) Qa Qa Qa ?_)))))))))
  exact⟨_,rfl, by unfold H7; rw[hq_s]; dsimp only; rw[hno],Qv (E:=E) (by rw[hq_s]; exact((Xf (hS5.pick [1,2,0,3,4,5,6,7] Qa)).pick [2,3,4,0,5,6] Qa))⟩
 obtain⟨p,hp⟩: ∃p,QT s.pages id=some p:=Option.isSome_iff_exists.1 (by simpa using h6)
 have hpo:VR (QT s.pages id)=p:= by rw[hp];rfl
 refine Qg (Qb (Qi Qa CW Qa (Qq Qa JG (hS5.cell 0 Qa Qa) Qa (Qc Qa Qa (Qh (Qd (Xb Qa (fun h7=> ?_) (fun h7=> ?_))))))))
 ·have hmi:p.miss=true:= by rw[←hpo]; exact h7
  refine Qg (Qb (Qc Qa Qa (Qc Qa Qa (Qh (Qd (Qo (Qy (Qm (ZG (.inr Qa) Qa Qa Qa ?_)))))))))
  exact⟨_,rfl, by unfold H7; rw[hq_s]; dsimp only; rw[hp]; dsimp only; rw[if_pos hmi],Qv (E:=E) (by rw[hq_s]; exact((Xf (hS5.pick [1,2,0,3,4,5,6,7] Qa)).pick [2,3,4,0,5,6] Qa))⟩
 have hmi: ¬p.miss=true:= by rw[←hpo];simpa using h7
 refine Qr (Qp (Qd (Qg (Qb (Qi Qa KN Qa (Qq Qa Zr (hS5.cell 0 Qa Qa) Qa (Qc Qa Qa (Qc Qa Qa (Qh (Qd (Qk [4,5] Qa (Qo (ZG (.inr Qa) Qa Qa Qa ?_)))))))))))))
 exact⟨_,rfl, by unfold H7; rw[hq_s]; dsimp only; rw[hp]; dsimp only; rw[if_neg hmi];rfl,Qv (E:=E) (by rw[hq_s]; exact((Xf (hS5.pick [1,2,0,3,4,5,6,7] Qa)).pick [2,3,4,0,5,6] Qa))⟩
theorem N8 {n:Int} (h:X5 n):IntKind.i64.wrap (n+1)=GR n:= by
  unfold GR X5 at *
  split
  · rename_i e; subst e;rfl
  · exact Ug (by omega) (by omega)
theorem C8 {l:AL PgD} (h:Srt l):Card (Yc l) l.length:= by
  refine⟨Zy l,h.imp fun q r=> by omega, by unfold Zy; rw[List.length_map], fun k=> ?_⟩
  unfold Yc
  have :=JD (l:=l) (i:=k)
  cases q:QT l k with
  | none=> rw[q]at this; simp at this⊢; exact this
  | some x=> rw[q]at this; simp at this⊢; exact this
theorem V4 {w:World} {e:Nat} {E:EnD} {F:Th} (hS:Sat w [Xu e E,F]) (id:Int) (d:Bs) (hsr: ∀x,E.ses=some x→Srt x.pages) (hct: ∀x,E.ses=some x→X5 x.count):
    Calls prog 44 #[ptrV e 0,intV id,strV d] w (Ret fun v w'=>v=intV (XA E id d).1∧Sat w' [Xu e (XA E id d).2,F]):= by
 refine Qx func44 Qa ntmps44 Qa ?_
 refine Qg (Qb (Qc Qa Qa (Qh (Qd (Qg (Qg (Qb (Qe Qa Qa (Qz Uz Qa (YW (hS.sp [0] Qa)) Qa ?_)))))))))
 rintro _ w1 ⟨rfl,hS1⟩
 replace hS1:=hS1.jn Qa Qa
 refine XL Qa Qa (Qh (Qd (Xb Qa (fun h2=> ?_) (fun h2=> ?_))))
 ·have hr:ZN E=false:= by simpa using h2
  refine Qg (Qb (Qc Qa Qa (Qh (Qd (Qo (Qm (Q5 (.inr Qa) Qa Qa ?_)))))))
  exact⟨_,rfl, by unfold XA; rw[if_pos hr], by unfold XA; rw[if_pos hr]; exact hS1.pick [0,1] Qa⟩
 have hrun: ¬ZN E=false:= by simpa using h2
 refine Qr (Qd (Qg (Qg (Qb (Qe Qa Qa (X0 Qa Qa Qa (Qe Qa Qa (Q4 14 Qa (fun h3=> ?_) (fun h3=> ?_)))))))))
 ·refine Qf Qa Qa (Q8 h3) Qa (Qf Qa Qa (Q8 h3) Qa (Q0 Qa (Q8 h3) Qa Qa (Qe Qa Qa (Qf Qa Qa Qa Qa (Qf Qa Qa Qa Qa (Qf Qa Qa Qa Qa (Q0 Qa Qa Qa Qa (Qh (Qd (Qk [2,1,0,6,22] Qa (QO Qa (Qg (Qb (Qc Qa Qa (Qh (Qd (Qo (Qm (Q5 (.inr Qa) Qa Qa ?_)))))))))))))))))))
  exact⟨_,rfl, by unfold XA; rw[if_neg hrun,if_pos (by omega)], by unfold XA; rw[if_neg hrun,if_pos (by omega)]; exact hS1.pick [0,1] Qa⟩
 refine Qj Qa Qa (Qw h3) (Qe Qa Qa (Qj Qa Qa (Qw h3) (Wl Qa Qa Qa (Q1 Qa (Qw h3) Qa Qa (Qe Qa Qa (Q4 18 Qa (fun h4=> ?_) (fun h4=> ?_)))))))
 ·refine Qf Qa Qa (Q8 h4) Qa (Qf Qa Qa (Q8 h4) Qa (Qf Qa Qa (Q8 h4) Qa (Q0 Qa (Q8 h4) Qa Qa (Qh (Qd (Qk [2,1,0,6,22] Qa (QO Qa (Qg (Qb (Qc Qa Qa (Qh (Qd (Qo (Qm (Q5 (.inr Qa) Qa Qa ?_)))))))))))))))
  exact⟨_,rfl, by unfold XA; rw[if_neg hrun,if_pos (by omega)], by unfold XA; rw[if_neg hrun,if_pos (by omega)]; exact hS1.pick [0,1] Qa⟩
 refine Qj Qa Qa (Qw h4) (Qe Qa Qa (Qj Qa Qa (Qw h4) (Zu underlying9 Qa Qa (Qj Qa Qa (Qw h4) (Xr Qa Qa Qa (Q1 Qa (Qw h4) Qa Qa (Qh (Qd (Qk [2,1,0,6,22] Qa (Qt Qa (fun h5=> ?_) (fun h5=> ?_)))))))))))
 ·refine Qg (Qb (Qc Qa Qa (Qh (Qd (Qo (Qm (Q5 (.inr Qa) Qa Qa ?_)))))))
  exact⟨_,rfl, by unfold XA; rw[if_neg hrun,if_pos (by omega)], by unfold XA; rw[if_neg hrun,if_pos (by omega)]; exact hS1.pick [0,1] Qa⟩
 refine Qr (Qd (Qg ?_))
 obtain⟨dp,cv,sv,ov,hS6⟩:=QQ (hS1.pick [0,1] rfl)
 obtain⟨x,hx⟩: ∃x,E.ses=some x:=(Yb hrun).2.2.2
 rw[hx]at hS6
 obtain⟨sb,sm,rfl,hS7⟩:=Zj (hS6.pick [3,0,1,2,4,5] rfl)
 refine Qb (Qe Qa Qa (Ql Qa Qa (Qi Qa Xo Qa (Qq Qa Z3 (hS7.cell 2 Qa Qa) Qa (Ql Qa Qa (Qi Qa ZF Qa (Qq Qa ZX (hS7.cell 0 Qa Qa) Qa (Qe Qa Qa (H2 (k:=id) 1 hS7 keysInt underlying89 Qa Qa Qa Wc (u:=Rk (VR (QT x.pages id))) (g:=(QT x.pages id).isSome) (Y7 _ _) (KD _ _) Qa (Qe Qa Qa (Q6 Qa Qa Qa (Q6 Qa Qa Qa (Xl hS7 Wc Qa Qa ?_)))))))))))))
 intro b8 w8 hS8
 (refine QZ hS8 Qa Qa Vf Qa (by rfl) (i:=0) Qa (by decide) ?_)
 intro w9 hS10; dsimp only[List.set]at hS10
 refine Qc Qa Qa (Qh (Qd (Qk [2,1,0,6,7,8] Qa (Qg (Qg (Qb (Qe Qa Qa (XL Qa Qa (Qe Qa Qa (Z4 37 Qa (fun h11=> ?_) (fun h11=> ?_)))))))))))
 ·have hno:QT x.pages id=none:= by simpa using h11
  refine Qj Qa Qa h11 (Qe Qa Qa (Qj Qa Qa h11 (Ql Qa Qa (Qj Qa Qa h11 (Qi Qa Xo Qa (Qj Qa Qa h11 (Qq Qa Z3 (hS10.cell 3 Qa Qa) Qa (Qj Qa Qa h11 (Ql Qa Qa (Qj Qa Qa h11 (Qi Qa ZF Qa (Qj Qa Qa h11 (Qq Qa ZX (hS10.cell 1 Qa Qa) Qa (Qj Qa Qa h11 (Cj 2 hS10 underlying89 keysInt.inj Qa Qa Qa (fun mm hmm=> ?_))))))))))))))))
  obtain rfl:=hmm.uniq (C8 (hsr x hx))
  refine Qj Qa Qa h11 (WX Qa Qa Qa (Q0 Qa h11 Qa Qa (Qh (Qd (Qk [2,1,0,6,7,47] Qa (Qt Qa (fun h12=> ?_) (fun h12=> ?_)))))))
  ·refine Qg (Qb (Qc Qa Qa (Qh (Qd (Qo (Qm (Q5 (.inr Qa) Qa Qa ?_)))))))
   have hfull:QT x.pages id=none∧8192≤x.pages.length:=⟨hno, by omega⟩
   exact⟨_,rfl, by unfold XA; rw[if_neg hrun,if_neg (by omega),hx]; dsimp only; rw[if_pos hfull], by unfold XA; rw[if_neg hrun,if_neg (by omega),hx]; dsimp only; rw[if_pos hfull]; exact Qv (E:=E) (by rw[hx]; exact(Xf (s:=x) (hS10.pick [1,2,3,4,5,6,7] Qa)).reorder [1,2,3,0,4,5] Qa)⟩
  refine Qr (Qd (Qg (Qb (Qe Qa Qa (Ql Qa Qa (Qi Qa Xo Qa (Qq Qa Z3 (hS10.cell 3 Qa Qa) Qa (Ql Qa Qa (Qi Qa UL Qa (Qq Qa QF (hS10.cell 1 Qa Qa) Qa (Cl (c:=GR x.count) Qa Qa (N8 (hct x hx)) Qa (Ql Qa Qa (Qi Qa UL Qa ?_)))))))))))))
  (refine Q7 hS10 Qa Qa Ya (by rfl) (i:=1) Qa (Xd Qa) ?_)
  intro w13 hS14; dsimp only[List.set]at hS14
  refine Qh (Qd (Qk [2,1,0,6,7] Qa (Qg ?_)))
  have hS15:=hS14.drew
  refine QM [0,1,2,3,4,5,6,7,8,9,10,11,12,13,14,15,16,17,18,19] [19] Wv (by kernel_rfl) ?_
  refine QK Qa Qa Qa (Xm Qa Qa Qa (QN Qa Qa Qa Xo (Q9 Qa Qa Qa (Qn Qa Z3 (hS15.cell 3 Qa Qa)) (Xm Qa Qa Qa (QN Qa Qa Qa ZF (Q9 Qa Qa Qa (Qn Qa ZX (hS15.cell 1 Qa Qa)) (QK Qa Qa Qa (QK Qa Qa Qa (QK Qa Qa Qa (Xm Qa Qa Qa (QN Qa Qa Qa Xo (Q9 Qa Qa Qa (Qn Qa Z3 (hS15.cell 3 Qa Qa)) (Xm Qa Qa Qa (QN Qa Qa Qa UL (Q9 Qa Qa Qa (Qn Qa QF (hS15.cell 1 Qa Qa)) (QN Qa Qa Qa Gr (Q9 Qa Qa Qa (Qn Qa QF (hS15.cell 0 Qa Qa)) (QC Qa Qa Qa (fun _=>(ZY Qa BP U1 Wc Qa)) ?_))))))))))))))))))
  refine QS Qa Qa Qa Qa Qa Qa ?_
  refine Ze (k:=id) (v:=Rk ⟨d,GR x.count,(VR (QT x.pages id)).sent,false⟩) 2 hS15 keysInt underlying89 Qa Qa Qa Qa ?_
  intro w16 hS16; dsimp only[List.set]at hS16; rw[HX (hsr x hx)]at hS16
  refine Z6 (Xp (by kernel_rfl)) ?_
  refine VC.nil (Qd (Qk [6] Qa (Qg (Qb (Qc Qa Qa (Qh (Qd (Qo (Q5 (.inr Qa) Qa Qa ?_)))))))))
  have hroom: ¬(QT x.pages id=none∧8192≤x.pages.length):= by first | (rintro⟨_,q⟩;omega) | exact fun q=>hyes q.1
  have he:(VR (QT x.pages id)).sent=((QT x.pages id).map PgD.sent).getD 0:= by unfold VR; cases QT x.pages id<;>rfl
  rw[he]at hS16
  exact⟨_,rfl, by unfold XA; rw[if_neg hrun,if_neg (by omega),hx]; dsimp only; rw[if_neg hroom], by unfold XA; rw[if_neg hrun,if_neg (by omega),hx]; dsimp only; rw[if_neg hroom]; exact Qv (E:={E with ses:=some {x with count:=GR x.count,pages:=XO id ⟨d,GR x.count,((QT x.pages id).map PgD.sent).getD 0,false⟩ x.pages}}) ((Xf (s:={x with count:=GR x.count,pages:=XO id ⟨d,GR x.count,((QT x.pages id).map PgD.sent).getD 0,false⟩ x.pages}) (hS16.pick [1,2,3,4,5,6,7] Qa)).reorder [1,2,3,0,4,5] Qa)⟩
 have hyes: ¬QT x.pages id=none:= by intro q0; have q1:=h11; rw[q0]at q1; simp at q1
 refine Qf Qa Qa h11 Qa (Qf Qa Qa h11 Qa (Qf Qa Qa h11 Qa (Qf Qa Qa h11 Qa (Qf Qa Qa h11 Qa (Qf Qa Qa h11 Qa (Qf Qa Qa h11 Qa (Qf Qa Qa h11 Qa (Qf Qa Qa h11 Qa (Q1 Qa h11 Qa Qa (Qh (Qd (Qk [2,1,0,6,7,47] Qa (QI Qa (Qr (Qd (Qg (Qb (Qe Qa Qa (Ql Qa Qa (Qi Qa Xo Qa (Qq Qa Z3 (hS10.cell 3 Qa Qa) Qa (Ql Qa Qa (Qi Qa UL Qa (Qq Qa QF (hS10.cell 1 Qa Qa) Qa (Cl (c:=GR x.count) Qa Qa (N8 (hct x hx)) Qa (Ql Qa Qa (Qi Qa UL Qa ?_)))))))))))))))))))))))))))
 (refine Q7 hS10 Qa Qa Ya (by rfl) (i:=1) Qa (Xd Qa) ?_)
 intro w17 hS18; dsimp only[List.set]at hS18
 refine Qh (Qd (Qk [2,1,0,6,7] Qa (Qg ?_)))
 have hS19:=hS18.drew
 refine QM [0,1,2,3,4,5,6,7,8,9,10,11,12,13,14,15,16,17,18,19] [19] Wv (by kernel_rfl) ?_
 refine QK Qa Qa Qa (Xm Qa Qa Qa (QN Qa Qa Qa Xo (Q9 Qa Qa Qa (Qn Qa Z3 (hS19.cell 3 Qa Qa)) (Xm Qa Qa Qa (QN Qa Qa Qa ZF (Q9 Qa Qa Qa (Qn Qa ZX (hS19.cell 1 Qa Qa)) (QK Qa Qa Qa (QK Qa Qa Qa (QK Qa Qa Qa (Xm Qa Qa Qa (QN Qa Qa Qa Xo (Q9 Qa Qa Qa (Qn Qa Z3 (hS19.cell 3 Qa Qa)) (Xm Qa Qa Qa (QN Qa Qa Qa UL (Q9 Qa Qa Qa (Qn Qa QF (hS19.cell 1 Qa Qa)) (QN Qa Qa Qa Gr (Q9 Qa Qa Qa (Qn Qa QF (hS19.cell 0 Qa Qa)) (QC Qa Qa Qa (fun _=>(ZY Qa BP U1 Wc Qa)) ?_))))))))))))))))))
 refine QS Qa Qa Qa Qa Qa Qa ?_
 refine Ze (k:=id) (v:=Rk ⟨d,GR x.count,(VR (QT x.pages id)).sent,false⟩) 2 hS19 keysInt underlying89 Qa Qa Qa Qa ?_
 intro w20 hS20; dsimp only[List.set]at hS20; rw[HX (hsr x hx)]at hS20
 refine Z6 (Xp (by kernel_rfl)) ?_
 refine VC.nil (Qd (Qk [6] Qa (Qg (Qb (Qc Qa Qa (Qh (Qd (Qo (Q5 (.inr Qa) Qa Qa ?_)))))))))
 have hroom: ¬(QT x.pages id=none∧8192≤x.pages.length):= by first | (rintro⟨_,q⟩;omega) | exact fun q=>hyes q.1
 have he:(VR (QT x.pages id)).sent=((QT x.pages id).map PgD.sent).getD 0:= by unfold VR; cases QT x.pages id<;>rfl
 rw[he]at hS20
 exact⟨_,rfl, by unfold XA; rw[if_neg hrun,if_neg (by omega),hx]; dsimp only; rw[if_neg hroom], by unfold XA; rw[if_neg hrun,if_neg (by omega),hx]; dsimp only; rw[if_neg hroom]; exact Qv (E:={E with ses:=some {x with count:=GR x.count,pages:=XO id ⟨d,GR x.count,((QT x.pages id).map PgD.sent).getD 0,false⟩ x.pages}}) ((Xf (s:={x with count:=GR x.count,pages:=XO id ⟨d,GR x.count,((QT x.pages id).map PgD.sent).getD 0,false⟩ x.pages}) (hS20.pick [1,2,3,4,5,6,7] Qa)).reorder [1,2,3,0,4,5] Qa)⟩
