/- move: ids -/
import Derived.Test.YtiibgheijbbmaaaGreatDoorMvh
import Derived.Test.YtiibgheijbbmaaaGreatDoorMv1
set_option linter.unusedVariables false
set_option maxRecDepth 100000
set_option maxHeartbeats 80000000000
namespace Go.Proofs.YtiibgheijbbmaaaGreatDoor
open Go.RowKit M Proofs.Tryz
theorem int_ext {l m:List Int} (hl:l.Pairwise (· < ·)) (hm:m.Pairwise (· < ·)) (h: ∀k,k∈l↔k∈m):l=m:= by
  have key: ∀l:List Int,XY (l.map fun k=>(k,()))=l:= fun l=> by
    induction l with
    | nil=>rfl
    | cons a l ih=> show a::XY (l.map fun k=>(k,()))=_; rw[ih]
  have e:=N6 (l:=l.map fun k=>(k,())) (m:=m.map fun k=>(k,())) (by unfold Srt; rw[key]; exact hl) (by unfold Srt; rw[key]; exact hm) (fun i=> by
    cases q:QN (l.map fun k=>(k,())) i with
    | none=>
      have h1:=H4.1 q
      rw[key,h]at h1
      exact(H4.2 (by rw[key]; exact h1)).symm
    | some u=>
      have h1:=Jv.1 ⟨_,q⟩
      rw[key,h]at h1
      obtain⟨u',h2⟩:=Jv.2 (by rw[key]; exact h1:i∈XY (m.map fun k=>(k,())))
      rw[h2])
  have :=congrArg XY e
  rw[key,key]at this; exact this
theorem ST {l:AL PgD} (hs:Srt l) {ks:List Int} (h:AllC (Yj l) ks):UB ks=XY l:= by
  have hp:=DX ks
  have hs1:(UB ks).Pairwise fun a b=>a≤b:= by
    have :=List.pairwise_mergeSort (le:= fun x y:Int=>decide (x≤y)) (fun a b c h1 h2=> by simp only[decide_eq_true_eq]at *;omega) (fun a b=> by simp only[Bool.or_eq_true,decide_eq_true_eq];omega) ks
    exact this.imp fun q=> by simpa using q
  have hn:(UB ks).Pairwise fun a b=>a≠b:=hp.nodup_iff.2 h.nodup
  refine int_ext ((hs1.and hn).imp fun ⟨q1,q2⟩=> by omega) hs fun k=> ?_
  rw[hp.mem_iff,h.mem,←Jv]
  unfold Yj
  cases QN l k<;> simp
theorem pg_few {l:AL PgD} (hs:Srt l) {n:Nat} (hn:l.length≤n): ∀ks,Came (Yj l) ks→ks.length≤n:= fun ks h=> by
  have h1:ks⊆XY l:= fun k hk=> by
    have h2:=h.has k hk
    rw[←Jv]
    unfold Yj at h2
    cases q:QN l k with
    | none=> rw[q]at h2; exact absurd rfl h2
    | some x=> exact⟨_,rfl⟩
  have h4:=List.Nodup.length_le_of_subset h.nodup h1
  unfold XY at h4
  rw[List.length_map]at h4;omega
theorem CM {w:World} {sb sm:Nat} {s:SeD} {F:Th} (hS:Sat w [QR sb [strV s.state,intV s.count,.map (some sm)],XI Za sm (Yj s.pages),F]) (hsr:Srt s.pages) (hsl:s.pages.length≤100000000000):
    Calls prog 61 #[ptrV sb 0] w (Ret fun v w'=>Sat w' [rowT inC v (XY s.pages),QR sb [strV s.state,intV s.count,.map (some sm)],XI Za sm (Yj s.pages),F]):= by
 refine Qy func61 Qa ntmps61 Qa ?_
 refine Qg (Qb (Qc Qa Qa (Qh (Qe (Qg (Qb (Qd Qa Qa (Ql Qa Qa (Qi Qa ZH Qa (Qp Qa ZZ (hS.cell 0 Qa Qa) Qa (Q4 cal_98 Qa (Ij (hS.sp [] Qa) Qa) Qa ?_)))))))))))
 rintro _ w1 ⟨ck,rfl,hS1⟩
 replace hS1:=hS1.jn Qa Qa
 have hS2:=Sat.fold (As:=[QR ck [.map (some sm)],XI Za sm (Yj s.pages)]) (hS1.pick [0,2,1,3] Qa)
 refine Q4 cal_97 Qa (SU (hS2.sp [0] Qa) cal_121 (itI ck sm (Yj s.pages)) (pg_few hsr hsl)) Qa ?_
 rintro _ w3 ⟨ks,hks,hS3⟩
 replace hS3:=hS3.jn Qa Qa
 refine Qc Qa Qa (Qh (Qe (Qo (Q7 (.inr Qa) Qa Qa ?_))))
 have hz:=(hS3.pick [1,0,2,3] Qa).flat; dsimp only[Ii,zqc,zqd]at hz
 rw[ST hsr hks]at hz
 exact⟨_,Qa,hz.pick [2,3,1,4] Qa⟩
def pkC:RowC (Bool×Bs):=⟨fun p=>[intV (if p.1=true then 1 else 0),strV p.2],2, by decide, fun _=>rfl, fun _=>rfl⟩
def Ds (p:Nat) (fl:List (Bool×Bs)) (cut:Bool):Th:=S8 fun v:Value=>starL [QR p [v,.bool cut],rowT pkC v fl]
section
variable {w:World} {As:List Th} {p:Nat} {fl:List (Bool×Bs)} {cut:Bool} {v:Value}
theorem Kv (h:Sat w (Ds p fl cut::As)): ∃v,Sat w (QR p [v,.bool cut]::rowT pkC v fl::As):= by
  obtain⟨v,h⟩:=h.ex
  exact⟨v,h.flat⟩
theorem Wr (h:Sat w (QR p [v,.bool cut]::rowT pkC v fl::As)):Sat w (Ds p fl cut::As):=Sat.ex_intro v (Sat.fold (As:=[QR p [v,.bool cut],rowT pkC v fl]) h)
end
theorem If {w:World} {F:Th} (hS:Sat w [F]):
    Calls prog 39 #[] w (Ret fun v w'=> ∃p,v=ptrV p 0∧Sat w' [Ds p [] false,F]):= by
 refine Qy func39 Qa ntmps39 Qa ?_
 refine Qg (Qb (Qc Qa Qa (Qh (Qe (Qg (Qb (JJ (vs':=[.slice none 0 0,.bool false]) Qa pl_88_ asz_88 zr_88 Qa Qa Qa (XZ hS Qa Qa Qa ?_))))))))
 intro lp w1 hS1
 exact Qc Qa Qa (Qh (Qe (Qo (Q7 (.inr Qa) Qa Qa (⟨_,Qa,lp,Qa,Wr ((Sat.row_nil pkC (hS1.pick [0,1] Qa)).reorder [1,0,2] Qa)⟩)))))
theorem Wm {w:World} {p:Nat} {fl:List (Bool×Bs)} {cut:Bool} {F:Th} (hS:Sat w [Ds p fl cut,F]):
    Calls prog 41 #[ptrV p 0] w (Ret fun v w'=>v=intV (fl.length:Int)∧Sat w' [Ds p fl cut,F]):= by
 obtain⟨lv,hS⟩:=Kv hS
 obtain⟨fa,fcap,hlv,hfm⟩:=hS.own_shape 1 rfl
 obtain rfl:=hlv
 refine Qy func41 Qa ntmps41 Qa ?_
 exact Qg (Qb (Qc Qa Qa (Qh (Qe (Qg (Qb (Qd Qa Qa (Ql Qa Qa (Qi Qa Je Qa (Qp Qa VX (hS.cell 0 Qa Qa) Qa (Xj underlying86 Qa Qa (Qc Qa Qa (Qh (Qe (Qo (Q7 (.inr Qa) Qa Qa (⟨_,Qa,Qa,Wr (hS.pick [0,1,2] Qa)⟩)))))))))))))))))
def Ht (fl:List (Bool×Bs)) (cut i:Bool) (s:Bs):List (Bool×Bs):= if cut=true∨500≤fl.length then fl else fl++[(!i,s)]
theorem CH {w:World} {p:Nat} {fl:List (Bool×Bs)} {cut:Bool} {F:Th} (hS:Sat w [Ds p fl cut,F]) (s:Bs):
    Calls prog 82 #[ptrV p 0,intV 0,strV s] w (Ret fun v w'=>(∃r:Int,v=intV r)∧Sat w' [Ds p (Ht fl cut false s) cut,F]):= by
 obtain⟨lv,hS⟩:=Kv hS
 obtain⟨fa,fcap,hlv,hfm⟩:=hS.own_shape 1 rfl
 obtain rfl:=hlv
 refine Qy func82 Qa ntmps82 Qa ?_
 refine Qg (Qb (Qc Qa Qa (Qh (Qe (Qg (QD (Qg (Qb (Qd Qa Qa (Xt Qa Qa Qa (Qd Qa Qa (Q3 10 Qa (fun h1=> ?_) (fun h1=> ?_)))))))))))))
 ·refine Qj Qa Qa (Q8 h1) (Qd Qa Qa (Qj Qa Qa (Q8 h1) (Xt Qa Qa Qa (Qx Qa (Q8 h1) Qa Qa (Qc Qa Qa (Qh (Qe (Qk [2,1,0,6,7] Qa (Qw Qa (fun h2=> ?_) (fun h2=> ?_))))))))))
  ·omega
  refine Qg (Qb (Qd Qa Qa (Ql Qa Qa (Qi Qa Du Qa (Qp Qa JT (hS.cell 0 Qa Qa) Qa (Qc Qa Qa (Qh (Qe (Xd Qa (fun h3=> ?_) (fun h3=> ?_))))))))))
  ·refine Qg (Qb (Qc Qa Qa (Qh (Qe (Qo (Q0 (Qm (Q7 (.inr Qa) Qa Qa ?_))))))))
   exact⟨_,rfl,⟨_,rfl⟩, by unfold Ht; rw[if_pos (.inl (by simp_all))]; exact Wr (hS.pick [0,1,2] Qa)⟩
  refine Qg (Qb (Qd Qa Qa (Ql Qa Qa (Qi Qa Je Qa (Qp Qa VX (hS.cell 0 Qa Qa) Qa (Xj underlying86 Qa Qa (Jj Qa Qa Qa (Qc Qa Qa (Qh (Qe (Qk [2,1,0,6,19] Qa (Qw Qa (fun h4=> ?_) (fun h4=> ?_)))))))))))))
  ·refine Qg (Qb (Qc Qa Qa (Qh (Qe (Qo (Q0 (Qm (Q7 (.inr Qa) Qa Qa ?_))))))))
   exact⟨_,rfl,⟨_,rfl⟩, by unfold Ht; rw[if_pos (.inr (by omega))]; exact Wr (hS.pick [0,1,2] Qa)⟩
  have hlt:=h4
  refine Qr (Qq (Qe (Qg (Qb (Qd Qa Qa (Qd Qa Qa (Ql Qa Qa (Qi Qa Je Qa (Qp Qa VX (hS.cell 0 Qa Qa) Qa (Qd Qa Qa (JN Qa Qa (by omega) (by omega) Qa ?_)))))))))))
  refine Qd Qa Qa (Zu Qa VE GI Jq Qa Qa (Xc pkC [((true:Bool),s)] hS Qa underlying86 Dt Qa Qa Qa Qa (by rfl) rfl ?_))
  intro b5 w5 hS5
  refine XV pkC 2 hS5 Qa Qa Qa (hS5.rd 0 Qa (by simp)) underlying86 underlying86 (by intro k hk; cases hk) Gq Qa (by simp only[List.length_cons,List.length_nil];omega) Qa (by simp only[List.length_cons,List.length_nil];omega) ?_
  intro v6 w6 hS6; dsimp only[List.set]at hS6
  have h1v6:v6.oneCell'=true:=hS6.own_one 2 Qa
  refine Ql Qa Qa (Qi Qa Je Qa ?_)
  first | (refine QC hS6 Qa Qa NN (by assumption) (i:=1) Qa (Xe Qa) ?_)
  intro w7 hS8; dsimp only[List.set]at hS8
  refine Qh (Qe (Qk [6] Qa (Qg (Qb (Qc Qa Qa (Qh (Qe (Qo (Q7 (.inr Qa) Qa Qa ?_)))))))))
  exact⟨_,rfl,⟨_,rfl⟩, by unfold Ht; rw[if_neg (by rintro(q | q);(simp_all);omega)]; exact Wr (hS8.pick [1,2,3] rfl)⟩
 refine Qf Qa Qa (Qv h1) Qa (Qf Qa Qa (Qv h1) Qa (Qz Qa (Qv h1) Qa Qa (Qc Qa Qa (Qh (Qe (Qk [2,1,0,6,7] Qa (QF Qa (Qg (Qb (Qd Qa Qa (Ql Qa Qa (Qi Qa Du Qa (Qp Qa JT (hS.cell 0 Qa Qa) Qa (Qc Qa Qa (Qh (Qe (Xd Qa (fun h9=> ?_) (fun h9=> ?_))))))))))))))))))
 ·refine Qg (Qb (Qc Qa Qa (Qh (Qe (Qo (Q0 (Qm (Q7 (.inr Qa) Qa Qa ?_))))))))
  exact⟨_,rfl,⟨_,rfl⟩, by unfold Ht; rw[if_pos (.inl (by simp_all))]; exact Wr (hS.pick [0,1,2] Qa)⟩
 refine Qg (Qb (Qd Qa Qa (Ql Qa Qa (Qi Qa Je Qa (Qp Qa VX (hS.cell 0 Qa Qa) Qa (Xj underlying86 Qa Qa (Jj Qa Qa Qa (Qc Qa Qa (Qh (Qe (Qk [2,1,0,6,19] Qa (Qw Qa (fun h10=> ?_) (fun h10=> ?_)))))))))))))
 ·refine Qg (Qb (Qc Qa Qa (Qh (Qe (Qo (Q0 (Qm (Q7 (.inr Qa) Qa Qa ?_))))))))
  exact⟨_,rfl,⟨_,rfl⟩, by unfold Ht; rw[if_pos (.inr (by omega))]; exact Wr (hS.pick [0,1,2] Qa)⟩
 have hlt:=h10
 refine Qr (Qq (Qe (Qg (Qb (Qd Qa Qa (Qd Qa Qa (Ql Qa Qa (Qi Qa Je Qa (Qp Qa VX (hS.cell 0 Qa Qa) Qa (Qd Qa Qa (JN Qa Qa (by omega) (by omega) Qa ?_)))))))))))
 refine Qd Qa Qa (Zu Qa VE GI Jq Qa Qa (Xc pkC [((true:Bool),s)] hS Qa underlying86 Dt Qa Qa Qa Qa (by rfl) rfl ?_))
 intro b11 w11 hS11
 refine XV pkC 2 hS11 Qa Qa Qa (hS11.rd 0 Qa (by simp)) underlying86 underlying86 (by intro k hk; cases hk) Gq Qa (by simp only[List.length_cons,List.length_nil];omega) Qa (by simp only[List.length_cons,List.length_nil];omega) ?_
 intro v12 w12 hS12; dsimp only[List.set]at hS12
 have h1v12:v12.oneCell'=true:=hS12.own_one 2 Qa
 refine Ql Qa Qa (Qi Qa Je Qa ?_)
 first | (refine QC hS12 Qa Qa NN (by assumption) (i:=1) Qa (Xe Qa) ?_)
 intro w13 hS14; dsimp only[List.set]at hS14
 refine Qh (Qe (Qk [6] Qa (Qg (Qb (Qc Qa Qa (Qh (Qe (Qo (Q7 (.inr Qa) Qa Qa ?_)))))))))
 exact⟨_,rfl,⟨_,rfl⟩, by unfold Ht; rw[if_neg (by rintro(q | q);(simp_all);omega)]; exact Wr (hS14.pick [1,2,3] rfl)⟩
theorem Pw {w:World} {p:Nat} {fl:List (Bool×Bs)} {cut:Bool} {F:Th} (hS:Sat w [Ds p fl cut,F]) (s:Bs):
    Calls prog 82 #[ptrV p 0,intV 1,strV s] w (Ret fun v w'=>(∃r:Int,v=intV r)∧Sat w' [Ds p (Ht fl cut true s) cut,F]):= by
 obtain⟨lv,hS⟩:=Kv hS
 obtain⟨fa,fcap,hlv,hfm⟩:=hS.own_shape 1 rfl
 obtain rfl:=hlv
 refine Qy func82 Qa ntmps82 Qa ?_
 refine Qg (Qb (Qc Qa Qa (Qh (Qe (Qg (QD (Qg (Qb (Qd Qa Qa (Xt Qa Qa Qa (Qd Qa Qa (Q3 10 Qa (fun h1=> ?_) (fun h1=> ?_)))))))))))))
 ·refine Qj Qa Qa (Q8 h1) (Qd Qa Qa (Qj Qa Qa (Q8 h1) (Xt Qa Qa Qa (Qx Qa (Q8 h1) Qa Qa (Qc Qa Qa (Qh (Qe (Qk [2,1,0,6,7] Qa (Qw Qa (fun h2=> ?_) (fun h2=> ?_))))))))))
  ·omega
  refine Qg (Qb (Qd Qa Qa (Ql Qa Qa (Qi Qa Du Qa (Qp Qa JT (hS.cell 0 Qa Qa) Qa (Qc Qa Qa (Qh (Qe (Xd Qa (fun h3=> ?_) (fun h3=> ?_))))))))))
  ·refine Qg (Qb (Qc Qa Qa (Qh (Qe (Qo (Q0 (Qm (Q7 (.inr Qa) Qa Qa ?_))))))))
   exact⟨_,rfl,⟨_,rfl⟩, by unfold Ht; rw[if_pos (.inl (by simp_all))]; exact Wr (hS.pick [0,1,2] Qa)⟩
  refine Qg (Qb (Qd Qa Qa (Ql Qa Qa (Qi Qa Je Qa (Qp Qa VX (hS.cell 0 Qa Qa) Qa (Xj underlying86 Qa Qa (Jj Qa Qa Qa (Qc Qa Qa (Qh (Qe (Qk [2,1,0,6,19] Qa (Qw Qa (fun h4=> ?_) (fun h4=> ?_)))))))))))))
  ·refine Qg (Qb (Qc Qa Qa (Qh (Qe (Qo (Q0 (Qm (Q7 (.inr Qa) Qa Qa ?_))))))))
   exact⟨_,rfl,⟨_,rfl⟩, by unfold Ht; rw[if_pos (.inr (by omega))]; exact Wr (hS.pick [0,1,2] Qa)⟩
  have hlt:=h4
  refine Qr (Qq (Qe (Qg (Qb (Qd Qa Qa (Qd Qa Qa (Ql Qa Qa (Qi Qa Je Qa (Qp Qa VX (hS.cell 0 Qa Qa) Qa (Qd Qa Qa (JN Qa Qa (by omega) (by omega) Qa ?_)))))))))))
  refine Qd Qa Qa (Zu Qa VE GI Jq Qa Qa (Xc pkC [((false:Bool),s)] hS Qa underlying86 Dt Qa Qa Qa Qa (by rfl) rfl ?_))
  intro b5 w5 hS5
  refine XV pkC 2 hS5 Qa Qa Qa (hS5.rd 0 Qa (by simp)) underlying86 underlying86 (by intro k hk; cases hk) Gq Qa (by simp only[List.length_cons,List.length_nil];omega) Qa (by simp only[List.length_cons,List.length_nil];omega) ?_
  intro v6 w6 hS6; dsimp only[List.set]at hS6
  have h1v6:v6.oneCell'=true:=hS6.own_one 2 Qa
  refine Ql Qa Qa (Qi Qa Je Qa ?_)
  first | (refine QC hS6 Qa Qa NN (by assumption) (i:=1) Qa (Xe Qa) ?_)
  intro w7 hS8; dsimp only[List.set]at hS8
  refine Qh (Qe (Qk [6] Qa (Qg (Qb (Qc Qa Qa (Qh (Qe (Qo (Q7 (.inr Qa) Qa Qa ?_)))))))))
  exact⟨_,rfl,⟨_,rfl⟩, by unfold Ht; rw[if_neg (by rintro(q | q);(simp_all);omega)]; exact Wr (hS8.pick [1,2,3] rfl)⟩
 refine Qf Qa Qa (Qv h1) Qa (Qf Qa Qa (Qv h1) Qa (Qz Qa (Qv h1) Qa Qa (Qc Qa Qa (Qh (Qe (Qk [2,1,0,6,7] Qa (QF Qa (Qg (Qb (Qd Qa Qa (Ql Qa Qa (Qi Qa Du Qa (Qp Qa JT (hS.cell 0 Qa Qa) Qa (Qc Qa Qa (Qh (Qe (Xd Qa (fun h9=> ?_) (fun h9=> ?_))))))))))))))))))
 ·refine Qg (Qb (Qc Qa Qa (Qh (Qe (Qo (Q0 (Qm (Q7 (.inr Qa) Qa Qa ?_))))))))
  exact⟨_,rfl,⟨_,rfl⟩, by unfold Ht; rw[if_pos (.inl (by simp_all))]; exact Wr (hS.pick [0,1,2] Qa)⟩
 refine Qg (Qb (Qd Qa Qa (Ql Qa Qa (Qi Qa Je Qa (Qp Qa VX (hS.cell 0 Qa Qa) Qa (Xj underlying86 Qa Qa (Jj Qa Qa Qa (Qc Qa Qa (Qh (Qe (Qk [2,1,0,6,19] Qa (Qw Qa (fun h10=> ?_) (fun h10=> ?_)))))))))))))
 ·refine Qg (Qb (Qc Qa Qa (Qh (Qe (Qo (Q0 (Qm (Q7 (.inr Qa) Qa Qa ?_))))))))
  exact⟨_,rfl,⟨_,rfl⟩, by unfold Ht; rw[if_pos (.inr (by omega))]; exact Wr (hS.pick [0,1,2] Qa)⟩
 have hlt:=h10
 refine Qr (Qq (Qe (Qg (Qb (Qd Qa Qa (Qd Qa Qa (Ql Qa Qa (Qi Qa Je Qa (Qp Qa VX (hS.cell 0 Qa Qa) Qa (Qd Qa Qa (JN Qa Qa (by omega) (by omega) Qa ?_)))))))))))
 refine Qd Qa Qa (Zu Qa VE GI Jq Qa Qa (Xc pkC [((false:Bool),s)] hS Qa underlying86 Dt Qa Qa Qa Qa (by rfl) rfl ?_))
 intro b11 w11 hS11
 refine XV pkC 2 hS11 Qa Qa Qa (hS11.rd 0 Qa (by simp)) underlying86 underlying86 (by intro k hk; cases hk) Gq Qa (by simp only[List.length_cons,List.length_nil];omega) Qa (by simp only[List.length_cons,List.length_nil];omega) ?_
 intro v12 w12 hS12; dsimp only[List.set]at hS12
 have h1v12:v12.oneCell'=true:=hS12.own_one 2 Qa
 refine Ql Qa Qa (Qi Qa Je Qa ?_)
 first | (refine QC hS12 Qa Qa NN (by assumption) (i:=1) Qa (Xe Qa) ?_)
 intro w13 hS14; dsimp only[List.set]at hS14
 refine Qh (Qe (Qk [6] Qa (Qg (Qb (Qc Qa Qa (Qh (Qe (Qo (Q7 (.inr Qa) Qa Qa ?_)))))))))
 exact⟨_,rfl,⟨_,rfl⟩, by unfold Ht; rw[if_neg (by rintro(q | q);(simp_all);omega)]; exact Wr (hS14.pick [1,2,3] rfl)⟩
theorem EU {w:World} {p:Nat} {fl:List (Bool×Bs)} {cut:Bool} {F:Th} (hS:Sat w [Ds p fl cut,F]) (i:Bool) (s:Bs):
    Calls prog 82 #[ptrV p 0,intV (if i=true then 1 else 0),strV s] w (Ret fun v w'=>(∃r:Int,v=intV r)∧Sat w' [Ds p (Ht fl cut i s) cut,F]):= by
  cases i
  · exact CH hS s
  · exact Pw hS s
theorem Ig {w:World} {p:Nat} {fl:List (Bool×Bs)} {cut:Bool} {F:Th} (hS:Sat w [Ds p fl cut,F]) (i:Int):
    Calls prog 81 #[ptrV p 0,intV i] w (Ret fun v w'=>v= .bool (decide (0≤i∧i<(fl.length:Int)))∧Sat w' [Ds p fl cut,F]):= by
 obtain⟨lv,hS⟩:=Kv hS
 obtain⟨fa,fcap,hlv,hfm⟩:=hS.own_shape 1 rfl
 obtain rfl:=hlv
 refine Qy func81 Qa ntmps81 Qa ?_
 refine Qg (Qb (Qc Qa Qa (Qh (Qe (Qg (Qb (Qd Qa Qa (Jj Qa Qa Qa (Qd Qa Qa (Q3 7 Qa (fun h1=> ?_) (fun h1=> ?_)))))))))))
 ·refine Qj Qa Qa (Q8 h1) (Qd Qa Qa (Qj Qa Qa (Q8 h1) (Qd Qa Qa (Qj Qa Qa (Q8 h1) (Ql Qa Qa (Qj Qa Qa (Q8 h1) (Qi Qa Je Qa (Qj Qa Qa (Q8 h1) (Qp Qa VX (hS.cell 0 Qa Qa) Qa (Qj Qa Qa (Q8 h1) (Xj underlying86 Qa Qa (Qj Qa Qa (Q8 h1) (Xz Qa Qa Qa (Qx Qa (Q8 h1) Qa Qa (Qc Qa Qa (Qh (Qe (Qk [4] Qa (Qo (Q7 (.inr Qa) Qa Qa ?_))))))))))))))))))))
  exact⟨_,rfl,congrArg Value.bool (by rw[Bool.eq_iff_iff]; simp;omega),Wr (hS.pick [0,1,2] Qa)⟩
 refine Qf Qa Qa (Qv h1) Qa (Qf Qa Qa (Qv h1) Qa (Qf Qa Qa (Qv h1) Qa (Qf Qa Qa (Qv h1) Qa (Qf Qa Qa (Qv h1) Qa (Qf Qa Qa (Qv h1) Qa (Qf Qa Qa (Qv h1) Qa (Qz Qa (Qv h1) Qa Qa (Qc Qa Qa (Qh (Qe (Qk [4] Qa (Qo (Q7 (.inr Qa) Qa Qa ?_)))))))))))))
 exact⟨_,rfl,congrArg Value.bool (by rw[Bool.eq_iff_iff]; simp;omega),Wr (hS.pick [0,1,2] Qa)⟩
def shC:RowC (Int×Bs):=⟨fun p=>[intV p.1,strV p.2],2, by decide, fun _=>rfl, fun _=>rfl⟩
theorem Hz {last:Int} {e:Int×Bs} {l:AL Bs} (h:e.1≤last∨1099511627776<e.1∨e.2.length≠64):Jt last (e::l)=false:= by
  unfold Jt
  rw[Bool.eq_false_iff]
  intro q
  simp only[Bool.and_eq_true,decide_eq_true_eq]at q
  omega
theorem TD {last:Int} {e:Int×Bs} {l:AL Bs} (h1:last<e.1) (h2:e.1≤1099511627776) (h3:e.2.length=64):Jt last (e::l)=Jt e.1 l:= by
  simp [Jt,h1,h2,h3]
theorem BV {l:AL Bs} {i:Nat} {x:Int×Bs} (hx:l[i]? =some x):l.drop i=x::l.drop (i+1):= by
  obtain⟨hi,rfl⟩:=Jo hx
  exact List.drop_eq_getElem_cons hi
theorem NY {w:World} {F:Th} (hS:Sat w [F]) {t:Bs} {sv:Value} {l:AL Bs} (hL:Ent F (RdL shC sv l)):
    Calls prog 58 #[.agg #[strV t,sv]] w (Ret fun v w'=>v= .bool (Zi ⟨t,l⟩)∧Sat w' [F]):= by
 obtain⟨ao,cap,rfl,hmax⟩:=(hL.sat hS 0 rfl).shape
 refine Qy func58 Qa ntmps58 Qa ?_
 refine Qg (Qb (XZ hS Qa Qa Qa ?_))
 intro bp wp hSp0
 have hSp:Sat wp [QR bp [strV t,.slice ao l.length cap],F]:=hSp0
 refine Qc Qa Qa (Qh (Qe (Qg (Qb (Qc Qa Qa (Qh (Qe (Qg (Qg (Qb (Qi Qa Zt Qa (Qp Qa WV (hSp.cell 0 Qa Qa) Qa (Xj underlying22 Qa Qa (Qd Qa Qa (Qh (Qe (QD ?_)))))))))))))))))
 refine XD (fun K0 E0 W0=> ∃(i:Nat) (last:Int),K0=l.length -i∧E0=[(1,ptrV bp 0),(3,intV last),(7,.slice ao l.length cap),(8,intV (l.length:Int)),(9,intV (i:Int))]∧Sat W0 [QR bp [strV t,.slice ao l.length cap],F]∧(i≤l.length)∧(Jt 0 l=Jt last (l.drop i))) (L0:=[(1,_),(3,_),(7,_),(8,_),(9,_)]) (l.length -0) (SC Qa Qa Qa Qa Qa) ⟨0,0,rfl,rfl,hSp, by omega, by rw[List.drop_zero]⟩ ?_
 rintro _ _ w1 ⟨i,last,rfl,rfl,hS1,hi,hR⟩
 refine Qg (Qb (Xz Qa Qa Qa (Qh (Qe (Qg (Qw Qa (fun h2=> ?_) (fun h2=> ?_)))))))
 ·obtain⟨x,hx⟩: ∃x,l[i]? =some x:=⟨_,WU (by omega)⟩
  obtain⟨b,off,rfl,hc⟩:=(hL.sat hS1 1 rfl).get hx
  refine Qr (Qe (Qg (QD (Qg (Qb (XG i Qa Qa (by first | rfl | omega) (by omega) K8 Qa ?_))))))
  refine YO Qa GL Up (vs:=[intV x.1,strV x.2]) hc Qa (Xk hS1 Rv Qa Qa ?_)
  intro b3 w3 hS3
  (refine QX hS3 Qa Qa Up Qa (by rfl) (i:=0) Qa (by decide) ?_)
  intro w4 hS5; dsimp only[List.set]at hS5
  refine Qh (Qe (Qg (Qg (Qb (Qi Qa YE Qa (Qp Qa QK (hS5.cell 0 Qa Qa) Qa (Qd Qa Qa (W7 Qa Qa Qa (Qd Qa Qa (Q3 17 Qa (fun h6=> ?_) (fun h6=> ?_)))))))))))
  ·refine Qf Qa Qa (Q8 h6) Qa (Qf Qa Qa (Q8 h6) Qa (Qf Qa Qa (Q8 h6) Qa (Qx Qa (Q8 h6) Qa Qa (Qd Qa Qa (Qf Qa Qa Qa Qa (Qf Qa Qa Qa Qa (Qf Qa Qa Qa Qa (Qf Qa Qa Qa Qa (Qx Qa Qa Qa Qa (Qh (Qe (Qk [9,8,7,3,1,5,27] Qa (QL Qa (Qg (Qb (Qc Qa Qa (Qh (Qe (Qo (Qm (Q0 (Qm (Qm (Q0 (Qm (Q7 (.inr Qa) Qa Qa ?_))))))))))))))))))))))))))
   exact⟨_,rfl, by unfold Zi; dsimp only; rw[hR,BV hx,Hz (by omega)];rfl,hS5.pick [2] Qa⟩
  refine Qj Qa Qa (Qv h6) (Qi Qa YE Qa (Qj Qa Qa (Qv h6) (Qp Qa QK (hS5.cell 0 Qa Qa) Qa (Qj Qa Qa (Qv h6) (We Qa Qa Qa (Qz Qa (Qv h6) Qa Qa (Qd Qa Qa (Q3 22 Qa (fun h7=> ?_) (fun h7=> ?_)))))))))
  ·refine Qf Qa Qa (Q8 h7) Qa (Qf Qa Qa (Q8 h7) Qa (Qf Qa Qa (Q8 h7) Qa (Qf Qa Qa (Q8 h7) Qa (Qx Qa (Q8 h7) Qa Qa (Qh (Qe (Qk [9,8,7,3,1,5,27] Qa (QL Qa (Qg (Qb (Qc Qa Qa (Qh (Qe (Qo (Qm (Q0 (Qm (Qm (Q0 (Qm (Q7 (.inr Qa) Qa Qa ?_)))))))))))))))))))))
   exact⟨_,rfl, by unfold Zi; dsimp only; rw[hR,BV hx,Hz (by omega)];rfl,hS5.pick [2] Qa⟩
  refine Qj Qa Qa (Qv h7) (Qi Qa VG Qa (Qj Qa Qa (Qv h7) (Qp Qa Zw (hS5.cell 0 Qa Qa) Qa (Qj Qa Qa (Qv h7) (Zs underlying9 Qa Qa (Qj Qa Qa (Qv h7) (Xt Qa Qa Qa (Qz Qa (Qv h7) Qa Qa (Qh (Qe (Qk [9,8,7,3,1,5,27] Qa (Qw Qa (fun h8=> ?_) (fun h8=> ?_)))))))))))))
  ·refine Qg (Qb (Qc Qa Qa (Qh (Qe (Qo (Qm (Q0 (Qm (Qm (Q0 (Qm (Q7 (.inr Qa) Qa Qa ?_))))))))))))
   exact⟨_,rfl, by unfold Zi; dsimp only; rw[hR,BV hx,Hz (by omega)];rfl,hS5.pick [2] Qa⟩
  refine Qr (Qe (Qb (Qi Qa YE Qa (Qp Qa QK (hS5.cell 0 Qa Qa) Qa (Qc Qa Qa (Qh (Qq (Qe (Qb (Xq Qa Qa (by omega) (by omega) Qa ?_))))))))))
  exact Qd Qa Qa (Qh (QY (L1:=[(1,_),(3,intV x.1),(7,_),(8,_),(9,intV ((i+1:Nat):Int))]) (SC Qa Qa Qa Qa Qa) (k1:=l.length -(i+1)) (by omega) ⟨i+1,x.1,rfl,rfl,hS5.pick [1,2] Qa, by omega, by rw[hR,BV hx,TD (by omega) (by omega) (by omega)]⟩))
 refine Xu (Q1 (Q1 (QJ (Qe (Qg (Qb (Qi Qa Hm Qa (Qp Qa Zw (hS1.cell 0 Qa Qa) Qa (Zs underlying9 Qa Qa (W7 Qa Qa Qa (Qd Qa Qa (Q3 35 Qa (fun h9=> ?_) (fun h9=> ?_)))))))))))))
 ·refine Qj Qa Qa (Q8 h9) (Qi Qa Zt Qa (Qj Qa Qa (Q8 h9) (Qp Qa WV (hS1.cell 0 Qa Qa) Qa (Qj Qa Qa (Q8 h9) (Xj underlying22 Qa Qa (Qj Qa Qa (Q8 h9) (W7 Qa Qa Qa (Qx Qa (Q8 h9) Qa Qa (Qc Qa Qa (Qh (Qe (Qk [2] Qa (Qo (Q7 (.inr Qa) Qa Qa ?_))))))))))))))
  exact⟨_,rfl,congrArg Value.bool (by unfold Zi; dsimp only; rw[hR,List.drop_eq_nil_of_le (by omega)];unfold Jt; rw[Bool.eq_iff_iff]; simp;omega),hS1.pick [1] Qa⟩
 refine Qf Qa Qa (Qv h9) Qa (Qf Qa Qa (Qv h9) Qa (Qf Qa Qa (Qv h9) Qa (Qf Qa Qa (Qv h9) Qa (Qz Qa (Qv h9) Qa Qa (Qc Qa Qa (Qh (Qe (Qk [2] Qa (Qo (Q7 (.inr Qa) Qa Qa ?_))))))))))
 exact⟨_,rfl,congrArg Value.bool (by unfold Zi; dsimp only; rw[hR,List.drop_eq_nil_of_le (by omega)];unfold Jt; rw[Bool.eq_iff_iff]; simp;omega),hS1.pick [1] Qa⟩
theorem Sl {n m:Int} (hm:0<m):n%m= if -n%m=0 then 0 else m - -n%m:= by
  have h1:=Int.emod_nonneg (-n) (show m≠0 by omega)
  have h2:=Int.emod_lt_of_pos (-n) hm
  have h3:=Int.emod_add_mul_ediv (-n) m
  generalize -n%m=r at *
  generalize -n/ m=q at *
  have e:n= -r+m*(-q):= by rw[Int.mul_neg];omega
  rw[e,Int.add_mul_emod_self_left]
  split
  · rename_i h0; subst h0; simp
  · have : -r=(m -r)+m*(-1):= by omega
    rw[this,Int.add_mul_emod_self_left]
    exact Int.emod_eq_of_lt (by omega) (by omega)
theorem mod_a {w:World} {F:Th} (hS:Sat w [F]) (n m:Int) (h0:0≤n):
    Calls prog 14 #[intV n,intV m] w (Ret fun v w'=>v=intV (ZU n m)∧Sat w' [F]):= by
 refine Qy func14 Qa ntmps14 Qa ?_
 refine Qg (Qb (Qc Qa Qa (Qh (Qe (Qg (Qg (Qb (Qd Qa Qa (Xz Qa Qa Qa (Qh (Qe (Qw Qa (fun h1=> ?_) (fun h1=> ?_)))))))))))))
 ·refine Qg (Qb (Qc Qa Qa (Qh (Qe (Qo (Qm (Q7 (.inr Qa) Qa Qa ?_)))))))
  exact⟨_,rfl, by unfold ZU; rw[if_pos (by omega)],hS.pick [0] Qa⟩
 have hp:=Int.emod_nonneg n (show m≠0 by omega)
 refine Qr (Qe (Qg (Qb (Qd Qa Qa (Qd Qa Qa (SF Qa Qa (by omega) (by omega) Qa ?_))))))
 refine Qc Qa Qa (Qh (Qe (Qg (Qg (Qb (Qd Qa Qa (Xz Qa Qa Qa (Qh (Qe (Qw Qa (fun h2=> ?_) (fun h2=> ?_)))))))))))
 ·omega
 refine Qr (Qe (Qg (Qb (Qd Qa Qa (Qc Qa Qa (Qh (Qe (Qk [4] Qa (Qo (Q7 (.inr Qa) Qa Qa ?_))))))))))
 exact⟨_,rfl, by unfold ZU; rw[if_neg (by omega)],hS.pick [0] Qa⟩
theorem mod_b {w:World} {F:Th} (hS:Sat w [F]) (n m:Int) (h0:n≤0) (hm:m≤9223372036854775807):
    Calls prog 14 #[intV n,intV m] w (Ret fun v w'=>v=intV (ZU n m)∧Sat w' [F]):= by
 refine Qy func14 Qa ntmps14 Qa ?_
 refine Qg (Qb (Qc Qa Qa (Qh (Qe (Qg (Qg (Qb (Qd Qa Qa (Xz Qa Qa Qa (Qh (Qe (Qw Qa (fun h1=> ?_) (fun h1=> ?_)))))))))))))
 ·refine Qg (Qb (Qc Qa Qa (Qh (Qe (Qo (Qm (Q7 (.inr Qa) Qa Qa ?_)))))))
  exact⟨_,rfl, by unfold ZU; rw[if_pos (by omega)],hS.pick [0] Qa⟩
 have hp:=Int.emod_nonneg (-n) (show m≠0 by omega)
 have hq:=Int.emod_lt_of_pos (-n) (show 0<m by omega)
 refine Qr (Qe (Qg (Qb (Qd Qa Qa (Qd Qa Qa (wl_remN Qa Qa (by omega) (by omega) Qa ?_))))))
 refine Qc Qa Qa (Qh (Qe (Qg (Qg (Qb (Qd Qa Qa (Xz Qa Qa Qa (Qh (Qe (Qw Qa (fun h2=> ?_) (fun h2=> ?_)))))))))))
 ·refine Qb (Qd Qa Qa (Qd Qa Qa (Xq Qa Qa (by omega) (by omega) Qa ?_)))
  refine Qc Qa Qa (Qh (Qe (Qk [4,0] Qa (Qg (Qb (Qd Qa Qa (Qc Qa Qa (Qh (Qe (Qo (Q7 (.inr Qa) Qa Qa ?_)))))))))))
  exact⟨_,rfl, by unfold ZU; rw[if_neg (by omega),Sl (n:=n) (m:=m) (by omega),if_neg (by omega)];congr 1;omega,hS.pick [0] Qa⟩
 refine Qr (Qe (Qg (Qb (Qd Qa Qa (Qc Qa Qa (Qh (Qe (Qk [4] Qa (Qo (Q7 (.inr Qa) Qa Qa ?_))))))))))
 exact⟨_,rfl, by unfold ZU; rw[if_neg (by omega),Sl (n:=n) (m:=m) (by omega),if_pos (by omega)];congr 1;omega,hS.pick [0] Qa⟩
theorem HT {w:World} {F:Th} (hS:Sat w [F]) (n m:Int) (hm:m≤9223372036854775807):
    Calls prog 14 #[intV n,intV m] w (Ret fun v w'=>v=intV (ZU n m)∧Sat w' [F]):= by
  rcases Int.le_total 0 n with h | h
  · exact mod_a hS n m h
  · exact mod_b hS n m h hm
end Go.Proofs.YtiibgheijbbmaaaGreatDoor
namespace Go.Proofs.YtiibgheijbbmaaaGreatDoor.M
open Go.RowKit Proofs.Tryz
theorem NX {P:Program} (len cap:Nat) (k1 k2 k3:IntKind) (A B M:Nat) (h1:A≤B) (h2:B≤M) (h3:M≤cap) (w:World):(Instr.sliceBounds true len cap (some (.int k1 (A:Int))) (some (.int k2 (B:Int))) (some (.int k3 (M:Int)))).run P w= .ok (A,B,M) w:= by
  have g1:(A:Int)≤(B:Int):= by omega
  have g2:(B:Int)≤(M:Int):= by omega
  have g3:(M:Int)≤(cap:Int):= by omega
  simp [Instr.sliceBounds,Instr.sliceBound,asIntOf,h1,h2,h3,g1,g2,g3]
section
variable {P:Program} {n:Nat} {ops:Array Oper} {Q:Exit→Act→World→Prop} {rest:List Oper} {L:Env} {w:World} {d:Nat} {ty:TypeId} {pos:String} {aft:Array Edge}
theorem Od {x y1 y2 y3:Operand} {t e m cap sz:Nat} {k1 k2 k3:IntKind} {a:Option Addr} (A B M:Nat) (hu:P.underlying t=some (.slice e)) (hs:Wv P e=some sz) (hx:look L x=some (.slice a m cap)) (g1:look L y1=some (.int k1 (A:Int))) (g2:look L y2=some (.int k2 (B:Int))) (g3:look L y3=some (.int k3 (M:Int))) (h1:A≤B) (h2:B≤M) (h3:M≤cap) (hd:Nat.blt d n=true)
    (hk:wl P n ops Q rest ((d,.slice (if M=A then a else a.map fun p=>p.add (A*sz)) (B -A) (M -A))::L) w):wl P n ops Q (⟨some d,.slice t x (some y1) (some y2) (some y3),ty,pos,aft,none⟩::rest) L w:=
  Xv hd (fun ρ hρ=> by
    have hb:=NX (P:=P) m cap k1 k2 k3 A B M h1 h2 h3 w
    simp only[execOp,hρ _ _ hx]
    simp [Instr.sliceAt,Instr.slice,run_underlying hu,hρ _ _ g1,hρ _ _ g2,hρ _ _ g3,hb,ZX hs]) hk
theorem Co {α:Type} (C:RowC α) {As:List Th} (k:Nat) (hS:Sat w As) {t t2 e bytes b m cap i j:Nat} {s x:Operand} {z xv:Value} {d2:TypeDesc} {l:List α} (hi:As[k]? =some (rowT C (.slice (some ⟨b,0,none⟩) m cap) l)) (hm:l.length=m) (hs:look L s=some (.slice (some ⟨b,0,none⟩) i cap)) (hx:look L x=some xv) (hr:RdL C xv (l.drop j) w) (hu:P.underlying t=some (.slice e)) (hu2:P.underlying t2=some d2) (hd2: ∀k,d2≠ .int k)
    (hif:(P.info? e).map (fun i=>(i.zero,i.size,i.bytes))=some (some z,C.size,bytes)) (hij:i≤j) (hj:j≤m) (hd:Nat.blt d n=true)
    (hk: ∀w',Sat w' (As.set k (rowT C (.slice (some ⟨b,0,none⟩) m cap) (l.take i++l.drop j++l.drop (i+(m -j)))))→wl P n ops Q rest ((d,.slice (some ⟨b,0,none⟩) (i+(m -j)) cap)::L) w'):wl P n ops Q (⟨some d,.call ⟨.builtin .append, #[s,x], #[t,t2]⟩,ty,pos,aft,none⟩::rest) L w:= by
  subst hm
  obtain⟨f,hown⟩:=hS.own k hi
  obtain⟨hl,⟨h0,_⟩ | ⟨b',cap',sp,h0,hc,hb,hlen,rfl⟩⟩:=hown
  · cases h0
  · cases h0
    obtain⟨inf,hi1,hi2,hi3,hi4⟩:=info_parts hif
    have e1:C.cells l++sp=C.cells (l.take i)++(C.cells (l.drop i)++sp):= by rw[←List.append_assoc,C.cells_app,List.take_append_drop]
    have e2:C.cells (l.take i)++C.cells (l.drop j)++(C.cells (l.drop i)++sp).drop ((l.length -j)*C.size)=C.cells (l.take i++l.drop j++l.drop (i+(l.length -j)))++sp:= by
      have e3:(C.cells (l.drop i)++sp).drop ((l.length -j)*C.size)=C.cells (l.drop (i+(l.length -j)))++sp:= by
        have e4:C.cells (l.drop i)=C.cells ((l.drop i).take (l.length -j))++C.cells (l.drop (i+(l.length -j))):= by rw[C.cells_app,←List.drop_drop,List.take_append_drop]
        rw[e4,List.append_assoc,List.drop_left' (by rw[C.cells_len,List.length_take,List.length_drop,Nat.min_eq_left (by omega)])]
      rw[e3,C.cells_app,←List.append_assoc,C.cells_app]
    have hll:(l.take i++l.drop j++l.drop (i+(l.length -j))).length=l.length:= by simp;omega
    refine Zk Qa hd (R:= fun v w'=>v= .slice (some ⟨b,0,none⟩) (i+(l.length -j)) cap∧Blk w' b (C.cells (l.take i++l.drop j++l.drop (i+(l.length -j)))++sp)∧Only [b] w w') (fun a ha=> ?_) ?_
    · obtain⟨w',hr',hb',ho',_⟩:=Db (P:=P) (w:=w) (b:=b) (n:=i) (cap:=cap) (size:=C.size) (m:=l.length -j) (xs:=C.cells (l.take i)) (sp:=C.cells (l.drop i)++sp) (news:=C.cells (l.drop j)) (ty:=ty) hu hu2 hd2 hi1 hi3
        (by have :=hr.lenOf (P:=P);rwa [List.length_drop]at this) (by have :=hr.first (P:=P) w Qa;rwa [List.length_drop]at this) (by rw[C.cells_len,List.length_take]; rw[Nat.min_eq_left (by omega)]) (by rw[C.cells_len,List.length_drop]) (Yh (C.cells_one _)) (by rw[←e1]; exact hb) (by rw[←e1]; exact hlen) (by omega)
      rw[e2]at hb'
      exact⟨_,w',.inl (by simp [execOp,ha.eval hs,ha.eval hx,resolve,invoke,builtin,hr']),rfl,hb',ho'⟩
    · rintro v w' ⟨rfl,h2,h3⟩
      refine hk w' (hS.own_set k hi fun foot hown2=> ?_)
      obtain⟨_,⟨h0,_⟩ | ⟨b2,cap2,sp2,h0,_,_,_,rfl⟩⟩:=hown2
      · cases h0
      · cases h0
        exact⟨[b],⟨C.cells_len _,.inr ⟨b,cap,sp, by rw[hll], by rw[hll]; exact hc,h2, by rw[List.length_append,C.cells_len,hll,←C.cells_len,←List.length_append]; exact hlen,rfl⟩⟩,h3, fun k hk=> .inl hk⟩
end
theorem AC {α:Type} {C:RowC α} {z:α} {l:List α} {i:Nat} {zs:List Value} (hz:zs=C.enc z) (hi:i<l.length):XK (C.cells (l.take i++l.drop (i+1)++l.drop (i+(l.length -(i+1))))) (0+(i+(l.length -(i+1)))*C.size) (List.replicate (l.length -(i+(l.length -(i+1)))) zs).flatten=C.cells (l.take i++l.drop (i+1)++[z]):= by
  subst hz
  have hn:l.length -(i+(l.length -(i+1)))=1:= by omega
  have e1:(l.take i++l.drop (i+1)).length=i+(l.length -(i+1)):= by simp;omega
  have e2:(l.drop (i+(l.length -(i+1)))).length=1:= by rw[List.length_drop];omega
  rw[hn,Nat.zero_add]
  generalize l.drop (i+(l.length -(i+1)))=B at *
  generalize l.take i++l.drop (i+1)=D at *
  have e3:(List.replicate 1 (C.enc z)).flatten=C.cells [z]:= by simp [RowC.cells]
  rw[←C.cells_app,←C.cells_app _ [z],e3,←e1,←C.cells_len]
  unfold XK
  rw[List.take_left,List.drop_of_length_le (by rw[List.length_append,C.cells_len B,C.cells_len [z],e2]; simp),List.append_nil]
end Go.Proofs.YtiibgheijbbmaaaGreatDoor.M
namespace Go.Proofs.YtiibgheijbbmaaaGreatDoor
open Go.RowKit M Proofs.Tryz
theorem delP_sp {w:World} {F:Th} {sv:Value} {l:List (Bool×Bs)} (hS:Sat w [rowT pkC sv l,F]) {i:Nat} (hi:i<l.length) (hln:l.length≤100000000000):
    Calls prog 109 #[sv,intV (i:Int),intV ((i:Int)+1)] w (Ret fun v w'=>Sat w' [rowT pkC v (l.eraseIdx i),F]):= by
 obtain⟨b,cap,rfl,hcap⟩:=hS.own_at 0 rfl (by omega)
 refine Qy func109 Qa ntmps109 Qa ?_
 refine Qg (Qb (Qc Qa Qa (Qh (Qe (Qg (Qb (Qd Qa Qa (Qd Qa Qa (Qd Qa Qa (Qd Qa Qa ?_))))))))))
 first | refine Xj underlying86 Qa Qa ?_ | refine X3 0 hS underlying86 Qa Qa Qa ?_
 refine Od i (i+1) l.length underlying86 WO Qa Qa Qa Qa (by omega) (by omega) (by omega) Qa ?_
 refine Qh (Qe (Qg (Qg (Qb (Qd Qa Qa (Qd Qa Qa (QO Qa Qa Qa (Qh (Qe (Qk [2,1,0,6,16] Qa (Qw Qa (fun h1=> ?_) (fun h1=> ?_))))))))))))
 ·omega
 refine Qr (Qe (Qg (Qb (Qd Qa Qa ?_))))
 first | refine Xj underlying86 Qa Qa ?_ | refine X3 0 hS underlying86 Qa Qa Qa ?_
 refine Qc Qa Qa (Qh (Qe (Qg ?_)))
 have hS2:=hS.drew
 refine QT [0,1,2,3,4,5,6,7] [6] Jk (by kernel_rfl) ?_
 refine QM Qa Qa Qa (QM Qa Qa Qa (QG Qa Qa Qa (fun _=>(Nc 0 i underlying86 WO Qa (V4 _) (HP i _ Qa Qa) (by omega) (by omega))) ?_))
 refine QM Qa Qa Qa (QM Qa Qa Qa (QG Qa Qa Qa (fun _=>(Nc (i+1) l.length underlying86 WO Qa (HP (i+1) _ Qa Qa) (V4 _) (by omega) (by omega))) ?_))
 refine Xb Qa Qa Qa Qa Qa Qa ?_
 have hrd3:RdL pkC (Un 2 (.slice (some ⟨b,0,none⟩) l.length cap) (i+1) l.length) (l.drop (i+1)) w:= by have h0:Ent (rowT pkC (.slice (some ⟨b,0,none⟩) l.length cap) l) (RdL pkC (Un 2 (.slice (some ⟨b,0,none⟩) l.length cap) (i+1) l.length) ((l.take l.length).drop (i+1))):=K9 (C:=pkC) (a:=some ⟨b,0,none⟩) (l:=l) (A:=i+1) (B:=l.length) (by omega) (by omega) (by omega) hcap; have h:=h0.sat hS2 0 Qa;rwa [List.take_length]at h
 refine Co pkC (i:=i) (j:=i+1) 0 hS2 Qa Qa (by show some (Un 2 (.slice (some ⟨b,0,none⟩) l.length cap) 0 i)=_; rw[KK (by omega)];rfl) Qa hrd3 underlying86 underlying86 (by intro k hk; cases hk) Gq (by omega) (by omega) Qa ?_
 intro w3 hS3; dsimp only[List.set]at hS3
 refine Xn .nil (Jr Qa Qa Qa (VC.nil (Qe (Qk [6,7,0] Qa (Qg (Qb (Qd Qa Qa (Qd Qa Qa ?_))))))))
 first | refine Xj underlying86 Qa Qa ?_ | refine X3 0 hS3 underlying86 Qa Qa Qa ?_
 refine Qd Qa Qa (V5 (i+(l.length -(i+1))) l.length underlying86 WO Qa (HP (i+(l.length -(i+1))) _ Qa Qa) (HP l.length _ Qa Qa) (by omega) (by omega) Qa ?_)
 rw[show Un 2 (.slice (some ⟨b,0,none⟩) (i+(l.length -(i+1))) cap) (i+(l.length -(i+1))) l.length= .slice (some ⟨b,0+(i+(l.length -(i+1)))*2,none⟩) (l.length -(i+(l.length -(i+1)))) (cap -(i+(l.length -(i+1)))) from KK (by omega)]
 refine GR 0 hS3 Qa Qa Qa underlying86 Jq Qa (by rw[pkC.cells_len, show(l.take i++l.drop (i+1)++l.drop (i+(l.length -(i+1)))).length=l.length by simp;omega]; show 0+(i+(l.length -(i+1)))*2+(l.length -(i+(l.length -(i+1))))*2≤l.length*2;omega) (AC (C:=pkC) (z:=((false:Bool),([]:Bs))) Qa hi) Qa ?_
 intro w4 hS4a; dsimp only[List.set]at hS4a
 have hS4:=Sat.row_cast (C:=pkC) (l:=l.take i++l.drop (i+1)++[((false:Bool),([]:Bs))]) (hS4a.pull 0 Qa) (by simp;omega) Qa Qa; dsimp only[List.eraseIdx]at hS4
 refine Qh (Qe (Qg (Qb (Qd Qa Qa (Qc Qa Qa (Qh (Qe (Qo (Q7 (.inr Qa) Qa Qa ?_)))))))))
 have hz:=(hS4.pick [0,1] Qa).row_shrink (i+(l.length -(i+1))) (by simp;omega)
 rw[List.take_append_of_le_length (by simp;omega),List.take_of_length_le (by simp;omega),←List.eraseIdx_eq_take_drop_succ]at hz
 exact⟨_,Qa,hz⟩
