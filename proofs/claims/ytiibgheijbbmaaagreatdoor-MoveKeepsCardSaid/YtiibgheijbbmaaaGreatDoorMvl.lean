/- move: ids -/
import Derived.Test.YtiibgheijbbmaaaGreatDoorMvh
import Derived.Test.YtiibgheijbbmaaaGreatDoorMv1
set_option linter.unusedVariables false
set_option maxRecDepth 100000
set_option maxHeartbeats 80000000000
namespace Go.Proofs.YtiibgheijbbmaaaGreatDoor
open Go.RowKit M Proofs.Tryz
theorem int_ext {l m:List Int} (hl:l.Pairwise (· < ·)) (hm:m.Pairwise (· < ·)) (h: ∀k,k∈l↔k∈m):l=m:= by
  have key: ∀l:List Int,Zy (l.map fun k=>(k,()))=l:= fun l=> by
    induction l with
    | nil=>rfl
    | cons a l ih=> show a::Zy (l.map fun k=>(k,()))=_; rw[ih]
  have e:=FG (l:=l.map fun k=>(k,())) (m:=m.map fun k=>(k,())) (by unfold Srt; rw[key]; exact hl) (by unfold Srt; rw[key]; exact hm) (fun i=> by
    cases q:QT (l.map fun k=>(k,())) i with
    | none=>
      have h1:=Ud.1 q
      rw[key,h]at h1
      exact(Ud.2 (by rw[key]; exact h1)).symm
    | some u=>
      have h1:=JD.1 ⟨_,q⟩
      rw[key,h]at h1
      obtain⟨u',h2⟩:=JD.2 (by rw[key]; exact h1:i∈Zy (m.map fun k=>(k,())))
      rw[h2])
  have :=congrArg Zy e
  rw[key,key]at this; exact this
theorem SL {l:AL PgD} (hs:Srt l) {ks:List Int} (h:AllC (Yc l) ks):UB ks=Zy l:= by
  have hp:=Mb ks
  have hs1:(UB ks).Pairwise fun a b=>a≤b:= by
    have :=List.pairwise_mergeSort (le:= fun x y:Int=>decide (x≤y)) (fun a b c h1 h2=> by simp only[decide_eq_true_eq]at *;omega) (fun a b=> by simp only[Bool.or_eq_true,decide_eq_true_eq];omega) ks
    exact this.imp fun q=> by simpa using q
  have hn:(UB ks).Pairwise fun a b=>a≠b:=hp.nodup_iff.2 h.nodup
  refine int_ext ((hs1.and hn).imp fun ⟨q1,q2⟩=> by omega) hs fun k=> ?_
  rw[hp.mem_iff,h.mem,←JD]
  unfold Yc
  cases QT l k<;> simp
theorem pg_few {l:AL PgD} (hs:Srt l) {n:Nat} (hn:l.length≤n): ∀ks,Came (Yc l) ks→ks.length≤n:= fun ks h=> by
  have h1:ks⊆Zy l:= fun k hk=> by
    have h2:=h.has k hk
    rw[←JD]
    unfold Yc at h2
    cases q:QT l k with
    | none=> rw[q]at h2; exact absurd rfl h2
    | some x=> exact⟨_,rfl⟩
  have h4:=List.Nodup.length_le_of_subset h.nodup h1
  unfold Zy at h4
  rw[List.length_map]at h4;omega
theorem CL {w:World} {sb sm:Nat} {s:SeD} {F:Th} (hS:Sat w [QR sb [strV s.state,intV s.count,.map (some sm)],XE XY sm (Yc s.pages),F]) (hsr:Srt s.pages) (hsl:s.pages.length≤100000000000):
    Calls prog 61 #[ptrV sb 0] w (Ret fun v w'=>Sat w' [rowT inC v (Zy s.pages),QR sb [strV s.state,intV s.count,.map (some sm)],XE XY sm (Yc s.pages),F]):= by
 refine Qx func61 Qa ntmps61 Qa ?_
 refine Qg (Qb (Qc Qa Qa (Qh (Qd (Qg (Qb (Qe Qa Qa (Ql Qa Qa (Qi Qa ZF Qa (Qq Qa ZX (hS.cell 0 Qa Qa) Qa (Qz cal_98 Qa (OC (hS.sp [] Qa) Qa) Qa ?_)))))))))))
 rintro _ w1 ⟨ck,rfl,hS1⟩
 replace hS1:=hS1.jn Qa Qa
 have hS2:=Sat.fold (As:=[QR ck [.map (some sm)],XE XY sm (Yc s.pages)]) (hS1.pick [0,2,1,3] Qa)
 refine Qz cal_97 Qa (SM (hS2.sp [0] Qa) cal_121 (itI ck sm (Yc s.pages)) (pg_few hsr hsl)) Qa ?_
 rintro _ w3 ⟨ks,hks,hS3⟩
 replace hS3:=hS3.jn Qa Qa
 refine Qc Qa Qa (Qh (Qd (Qo (Q5 (.inr Qa) Qa Qa ?_))))
 have hz:=(hS3.pick [1,0,2,3] Qa).flat; dsimp only[OB,zqc,zqd]at hz
 rw[SL hsr hks]at hz
 exact⟨_,Qa,hz.pick [2,3,1,4] Qa⟩
def pkC:RowC (Bool×Bs):=⟨fun p=>[intV (if p.1=true then 1 else 0),strV p.2],2, by decide, fun _=>rfl, fun _=>rfl⟩
def Gi (p:Nat) (fl:List (Bool×Bs)) (cut:Bool):Th:=S3 fun v:Value=>starL [QR p [v,.bool cut],rowT pkC v fl]
section
variable {w:World} {As:List Th} {p:Nat} {fl:List (Bool×Bs)} {cut:Bool} {v:Value}
theorem HC (h:Sat w (Gi p fl cut::As)): ∃v,Sat w (QR p [v,.bool cut]::rowT pkC v fl::As):= by
  obtain⟨v,h⟩:=h.ex
  exact⟨v,h.flat⟩
theorem ZL (h:Sat w (QR p [v,.bool cut]::rowT pkC v fl::As)):Sat w (Gi p fl cut::As):=Sat.ex_intro v (Sat.fold (As:=[QR p [v,.bool cut],rowT pkC v fl]) h)
end
theorem O9 {w:World} {F:Th} (hS:Sat w [F]):
    Calls prog 39 #[] w (Ret fun v w'=> ∃p,v=ptrV p 0∧Sat w' [Gi p [] false,F]):= by
 refine Qx func39 Qa ntmps39 Qa ?_
 refine Qg (Qb (Qc Qa Qa (Qh (Qd (Qg (Qb (JB (vs':=[.slice none 0 0,.bool false]) Qa pl_88_ asz_88 zr_88 Qa Qa Qa (XT hS Qa Qa Qa ?_))))))))
 intro lp w1 hS1
 exact Qc Qa Qa (Qh (Qd (Qo (Q5 (.inr Qa) Qa Qa (⟨_,Qa,lp,Qa,ZL ((Sat.row_nil pkC (hS1.pick [0,1] Qa)).reorder [1,0,2] Qa)⟩)))))
theorem Pw {w:World} {p:Nat} {fl:List (Bool×Bs)} {cut:Bool} {F:Th} (hS:Sat w [Gi p fl cut,F]):
    Calls prog 48 #[ptrV p 0] w (Ret fun v w'=>v= .tuple #[]∧Sat w' [Gi p [] true,F]):= by
 obtain⟨lv,hS⟩:=HC hS
 refine Qx func48 Qa ntmps48 Qa ?_
 refine Qb (Qe Qa Qa (Qe Qa Qa (Ql Qa Qa (Qi Qa KO Qa ?_))))
 first | (refine Q7 hS Qa Qa Jd (by rfl) (i:=0) Qa (Xd Qa) ?_)
 intro w1 hS2; dsimp only[List.set]at hS2
 refine Ql Qa Qa (Qi Qa Wb Qa ?_)
 first | (refine Q7 hS2 Qa Qa DM (by rfl) (i:=0) Qa (Xd Qa) ?_)
 intro w3 hS4; dsimp only[List.set]at hS4
 exact Qh (Y4 (.inl Qa) Qa (⟨_,Qa,Qa,ZL ((Sat.row_nil pkC (hS4.pick [0,2] Qa)).reorder [1,0,2] Qa)⟩))
theorem TO {w:World} {p:Nat} {fl:List (Bool×Bs)} {cut:Bool} {F:Th} (hS:Sat w [Gi p fl cut,F]):
    Calls prog 20 #[ptrV p 0] w (Ret fun v w'=>v= .tuple #[]∧Sat w' [Gi p fl false,F]):= by
 obtain⟨lv,hS⟩:=HC hS
 refine Qx func20 Qa ntmps20 Qa ?_
 refine Qb (Qe Qa Qa (Ql Qa Qa (Qi Qa KO Qa ?_)))
 first | (refine Q7 hS Qa Qa Jd (by rfl) (i:=0) Qa (Xd Qa) ?_)
 intro w1 hS2; dsimp only[List.set]at hS2
 exact Qh (Y4 (.inl Qa) Qa (⟨_,Qa,Qa,ZL (hS2.pick [0,1,2] Qa)⟩))
theorem ZE {w:World} {p:Nat} {fl:List (Bool×Bs)} {cut:Bool} {F:Th} (hS:Sat w [Gi p fl cut,F]):
    Calls prog 41 #[ptrV p 0] w (Ret fun v w'=>v=intV (fl.length:Int)∧Sat w' [Gi p fl cut,F]):= by
 obtain⟨lv,hS⟩:=HC hS
 obtain⟨fa,fcap,hlv,hfm⟩:=hS.own_shape 1 rfl
 obtain rfl:=hlv
 refine Qx func41 Qa ntmps41 Qa ?_
 exact Qg (Qb (Qc Qa Qa (Qh (Qd (Qg (Qb (Qe Qa Qa (Ql Qa Qa (Qi Qa Wb Qa (Qq Qa HS (hS.cell 0 Qa Qa) Qa (Xi underlying86 Qa Qa (Qc Qa Qa (Qh (Qd (Qo (Q5 (.inr Qa) Qa Qa (⟨_,Qa,Qa,ZL (hS.pick [0,1,2] Qa)⟩)))))))))))))))))
def Hl (fl:List (Bool×Bs)) (cut i:Bool) (s:Bs):List (Bool×Bs):= if cut=true∨500≤fl.length then fl else fl++[(!i,s)]
theorem CH {w:World} {p:Nat} {fl:List (Bool×Bs)} {cut:Bool} {F:Th} (hS:Sat w [Gi p fl cut,F]) (s:Bs):
    Calls prog 82 #[ptrV p 0,intV 0,strV s] w (Ret fun v w'=>(∃r:Int,v=intV r)∧Sat w' [Gi p (Hl fl cut false s) cut,F]):= by
 obtain⟨lv,hS⟩:=HC hS
 obtain⟨fa,fcap,hlv,hfm⟩:=hS.own_shape 1 rfl
 obtain rfl:=hlv
 refine Qx func82 Qa ntmps82 Qa ?_
 refine Qg (Qb (Qc Qa Qa (Qh (Qd (Qg (QD (Qg (Qb (Qe Qa Qa (Xr Qa Qa Qa (Qe Qa Qa (Q4 10 Qa (fun h1=> ?_) (fun h1=> ?_)))))))))))))
 ·refine Qj Qa Qa (Q8 h1) (Qe Qa Qa (Qj Qa Qa (Q8 h1) (Xr Qa Qa Qa (Q0 Qa (Q8 h1) Qa Qa (Qc Qa Qa (Qh (Qd (Qk [2,1,0,6,7] Qa (Qt Qa (fun h2=> ?_) (fun h2=> ?_))))))))))
  ·omega
  refine Qg (Qb (Qe Qa Qa (Ql Qa Qa (Qi Qa KO Qa (Qq Qa JG (hS.cell 0 Qa Qa) Qa (Qc Qa Qa (Qh (Qd (Xb Qa (fun h3=> ?_) (fun h3=> ?_))))))))))
  ·refine Qg (Qb (Qc Qa Qa (Qh (Qd (Qo (Qy (Qm (Q5 (.inr Qa) Qa Qa ?_))))))))
   exact⟨_,rfl,⟨_,rfl⟩, by unfold Hl; rw[if_pos (.inl (by simp_all))]; exact ZL (hS.pick [0,1,2] Qa)⟩
  refine Qg (Qb (Qe Qa Qa (Ql Qa Qa (Qi Qa Wb Qa (Qq Qa HS (hS.cell 0 Qa Qa) Qa (Xi underlying86 Qa Qa (WX Qa Qa Qa (Qc Qa Qa (Qh (Qd (Qk [2,1,0,6,19] Qa (Qt Qa (fun h4=> ?_) (fun h4=> ?_)))))))))))))
  ·refine Qg (Qb (Qc Qa Qa (Qh (Qd (Qo (Qy (Qm (Q5 (.inr Qa) Qa Qa ?_))))))))
   exact⟨_,rfl,⟨_,rfl⟩, by unfold Hl; rw[if_pos (.inr (by omega))]; exact ZL (hS.pick [0,1,2] Qa)⟩
  have hlt:=h4
  refine Qr (Qp (Qd (Qg (Qb (Qe Qa Qa (Qe Qa Qa (Ql Qa Qa (Qi Qa Wb Qa (Qq Qa HS (hS.cell 0 Qa Qa) Qa (Qe Qa Qa (JZ Qa Qa (by omega) (by omega) Qa ?_)))))))))))
  refine Qe Qa Qa (Zi Qa V7 GK Jk Qa Qa (Xc pkC [((true:Bool),s)] hS Qa underlying86 Gl Qa Qa Qa Qa (by rfl) rfl ?_))
  intro b5 w5 hS5
  refine XP pkC 2 hS5 Qa Qa Qa (hS5.rd 0 Qa (by simp)) underlying86 underlying86 (by intro k hk; cases hk) KJ Qa (by simp only[List.length_cons,List.length_nil];omega) Qa (by simp only[List.length_cons,List.length_nil];omega) ?_
  intro v6 w6 hS6; dsimp only[List.set]at hS6
  have h1v6:v6.oneCell'=true:=hS6.own_one 2 Qa
  refine Ql Qa Qa (Qi Qa Wb Qa ?_)
  first | (refine Q7 hS6 Qa Qa DM (by assumption) (i:=1) Qa (Xd Qa) ?_)
  intro w7 hS8; dsimp only[List.set]at hS8
  refine Qh (Qd (Qk [6] Qa (Qg (Qb (Qc Qa Qa (Qh (Qd (Qo (Q5 (.inr Qa) Qa Qa ?_)))))))))
  exact⟨_,rfl,⟨_,rfl⟩, by unfold Hl; rw[if_neg (by rintro(q | q);(simp_all);omega)]; exact ZL (hS8.pick [1,2,3] rfl)⟩
 refine Qf Qa Qa (Qw h1) Qa (Qf Qa Qa (Qw h1) Qa (Q1 Qa (Qw h1) Qa Qa (Qc Qa Qa (Qh (Qd (Qk [2,1,0,6,7] Qa (QI Qa (Qg (Qb (Qe Qa Qa (Ql Qa Qa (Qi Qa KO Qa (Qq Qa JG (hS.cell 0 Qa Qa) Qa (Qc Qa Qa (Qh (Qd (Xb Qa (fun h9=> ?_) (fun h9=> ?_))))))))))))))))))
 ·refine Qg (Qb (Qc Qa Qa (Qh (Qd (Qo (Qy (Qm (Q5 (.inr Qa) Qa Qa ?_))))))))
  exact⟨_,rfl,⟨_,rfl⟩, by unfold Hl; rw[if_pos (.inl (by simp_all))]; exact ZL (hS.pick [0,1,2] Qa)⟩
 refine Qg (Qb (Qe Qa Qa (Ql Qa Qa (Qi Qa Wb Qa (Qq Qa HS (hS.cell 0 Qa Qa) Qa (Xi underlying86 Qa Qa (WX Qa Qa Qa (Qc Qa Qa (Qh (Qd (Qk [2,1,0,6,19] Qa (Qt Qa (fun h10=> ?_) (fun h10=> ?_)))))))))))))
 ·refine Qg (Qb (Qc Qa Qa (Qh (Qd (Qo (Qy (Qm (Q5 (.inr Qa) Qa Qa ?_))))))))
  exact⟨_,rfl,⟨_,rfl⟩, by unfold Hl; rw[if_pos (.inr (by omega))]; exact ZL (hS.pick [0,1,2] Qa)⟩
 have hlt:=h10
 refine Qr (Qp (Qd (Qg (Qb (Qe Qa Qa (Qe Qa Qa (Ql Qa Qa (Qi Qa Wb Qa (Qq Qa HS (hS.cell 0 Qa Qa) Qa (Qe Qa Qa (JZ Qa Qa (by omega) (by omega) Qa ?_)))))))))))
 refine Qe Qa Qa (Zi Qa V7 GK Jk Qa Qa (Xc pkC [((true:Bool),s)] hS Qa underlying86 Gl Qa Qa Qa Qa (by rfl) rfl ?_))
 intro b11 w11 hS11
 refine XP pkC 2 hS11 Qa Qa Qa (hS11.rd 0 Qa (by simp)) underlying86 underlying86 (by intro k hk; cases hk) KJ Qa (by simp only[List.length_cons,List.length_nil];omega) Qa (by simp only[List.length_cons,List.length_nil];omega) ?_
 intro v12 w12 hS12; dsimp only[List.set]at hS12
 have h1v12:v12.oneCell'=true:=hS12.own_one 2 Qa
 refine Ql Qa Qa (Qi Qa Wb Qa ?_)
 first | (refine Q7 hS12 Qa Qa DM (by assumption) (i:=1) Qa (Xd Qa) ?_)
 intro w13 hS14; dsimp only[List.set]at hS14
 refine Qh (Qd (Qk [6] Qa (Qg (Qb (Qc Qa Qa (Qh (Qd (Qo (Q5 (.inr Qa) Qa Qa ?_)))))))))
 exact⟨_,rfl,⟨_,rfl⟩, by unfold Hl; rw[if_neg (by rintro(q | q);(simp_all);omega)]; exact ZL (hS14.pick [1,2,3] rfl)⟩
theorem Pt {w:World} {p:Nat} {fl:List (Bool×Bs)} {cut:Bool} {F:Th} (hS:Sat w [Gi p fl cut,F]) (s:Bs):
    Calls prog 82 #[ptrV p 0,intV 1,strV s] w (Ret fun v w'=>(∃r:Int,v=intV r)∧Sat w' [Gi p (Hl fl cut true s) cut,F]):= by
 obtain⟨lv,hS⟩:=HC hS
 obtain⟨fa,fcap,hlv,hfm⟩:=hS.own_shape 1 rfl
 obtain rfl:=hlv
 refine Qx func82 Qa ntmps82 Qa ?_
 refine Qg (Qb (Qc Qa Qa (Qh (Qd (Qg (QD (Qg (Qb (Qe Qa Qa (Xr Qa Qa Qa (Qe Qa Qa (Q4 10 Qa (fun h1=> ?_) (fun h1=> ?_)))))))))))))
 ·refine Qj Qa Qa (Q8 h1) (Qe Qa Qa (Qj Qa Qa (Q8 h1) (Xr Qa Qa Qa (Q0 Qa (Q8 h1) Qa Qa (Qc Qa Qa (Qh (Qd (Qk [2,1,0,6,7] Qa (Qt Qa (fun h2=> ?_) (fun h2=> ?_))))))))))
  ·omega
  refine Qg (Qb (Qe Qa Qa (Ql Qa Qa (Qi Qa KO Qa (Qq Qa JG (hS.cell 0 Qa Qa) Qa (Qc Qa Qa (Qh (Qd (Xb Qa (fun h3=> ?_) (fun h3=> ?_))))))))))
  ·refine Qg (Qb (Qc Qa Qa (Qh (Qd (Qo (Qy (Qm (Q5 (.inr Qa) Qa Qa ?_))))))))
   exact⟨_,rfl,⟨_,rfl⟩, by unfold Hl; rw[if_pos (.inl (by simp_all))]; exact ZL (hS.pick [0,1,2] Qa)⟩
  refine Qg (Qb (Qe Qa Qa (Ql Qa Qa (Qi Qa Wb Qa (Qq Qa HS (hS.cell 0 Qa Qa) Qa (Xi underlying86 Qa Qa (WX Qa Qa Qa (Qc Qa Qa (Qh (Qd (Qk [2,1,0,6,19] Qa (Qt Qa (fun h4=> ?_) (fun h4=> ?_)))))))))))))
  ·refine Qg (Qb (Qc Qa Qa (Qh (Qd (Qo (Qy (Qm (Q5 (.inr Qa) Qa Qa ?_))))))))
   exact⟨_,rfl,⟨_,rfl⟩, by unfold Hl; rw[if_pos (.inr (by omega))]; exact ZL (hS.pick [0,1,2] Qa)⟩
  have hlt:=h4
  refine Qr (Qp (Qd (Qg (Qb (Qe Qa Qa (Qe Qa Qa (Ql Qa Qa (Qi Qa Wb Qa (Qq Qa HS (hS.cell 0 Qa Qa) Qa (Qe Qa Qa (JZ Qa Qa (by omega) (by omega) Qa ?_)))))))))))
  refine Qe Qa Qa (Zi Qa V7 GK Jk Qa Qa (Xc pkC [((false:Bool),s)] hS Qa underlying86 Gl Qa Qa Qa Qa (by rfl) rfl ?_))
  intro b5 w5 hS5
  refine XP pkC 2 hS5 Qa Qa Qa (hS5.rd 0 Qa (by simp)) underlying86 underlying86 (by intro k hk; cases hk) KJ Qa (by simp only[List.length_cons,List.length_nil];omega) Qa (by simp only[List.length_cons,List.length_nil];omega) ?_
  intro v6 w6 hS6; dsimp only[List.set]at hS6
  have h1v6:v6.oneCell'=true:=hS6.own_one 2 Qa
  refine Ql Qa Qa (Qi Qa Wb Qa ?_)
  first | (refine Q7 hS6 Qa Qa DM (by assumption) (i:=1) Qa (Xd Qa) ?_)
  intro w7 hS8; dsimp only[List.set]at hS8
  refine Qh (Qd (Qk [6] Qa (Qg (Qb (Qc Qa Qa (Qh (Qd (Qo (Q5 (.inr Qa) Qa Qa ?_)))))))))
  exact⟨_,rfl,⟨_,rfl⟩, by unfold Hl; rw[if_neg (by rintro(q | q);(simp_all);omega)]; exact ZL (hS8.pick [1,2,3] rfl)⟩
 refine Qf Qa Qa (Qw h1) Qa (Qf Qa Qa (Qw h1) Qa (Q1 Qa (Qw h1) Qa Qa (Qc Qa Qa (Qh (Qd (Qk [2,1,0,6,7] Qa (QI Qa (Qg (Qb (Qe Qa Qa (Ql Qa Qa (Qi Qa KO Qa (Qq Qa JG (hS.cell 0 Qa Qa) Qa (Qc Qa Qa (Qh (Qd (Xb Qa (fun h9=> ?_) (fun h9=> ?_))))))))))))))))))
 ·refine Qg (Qb (Qc Qa Qa (Qh (Qd (Qo (Qy (Qm (Q5 (.inr Qa) Qa Qa ?_))))))))
  exact⟨_,rfl,⟨_,rfl⟩, by unfold Hl; rw[if_pos (.inl (by simp_all))]; exact ZL (hS.pick [0,1,2] Qa)⟩
 refine Qg (Qb (Qe Qa Qa (Ql Qa Qa (Qi Qa Wb Qa (Qq Qa HS (hS.cell 0 Qa Qa) Qa (Xi underlying86 Qa Qa (WX Qa Qa Qa (Qc Qa Qa (Qh (Qd (Qk [2,1,0,6,19] Qa (Qt Qa (fun h10=> ?_) (fun h10=> ?_)))))))))))))
 ·refine Qg (Qb (Qc Qa Qa (Qh (Qd (Qo (Qy (Qm (Q5 (.inr Qa) Qa Qa ?_))))))))
  exact⟨_,rfl,⟨_,rfl⟩, by unfold Hl; rw[if_pos (.inr (by omega))]; exact ZL (hS.pick [0,1,2] Qa)⟩
 have hlt:=h10
 refine Qr (Qp (Qd (Qg (Qb (Qe Qa Qa (Qe Qa Qa (Ql Qa Qa (Qi Qa Wb Qa (Qq Qa HS (hS.cell 0 Qa Qa) Qa (Qe Qa Qa (JZ Qa Qa (by omega) (by omega) Qa ?_)))))))))))
 refine Qe Qa Qa (Zi Qa V7 GK Jk Qa Qa (Xc pkC [((false:Bool),s)] hS Qa underlying86 Gl Qa Qa Qa Qa (by rfl) rfl ?_))
 intro b11 w11 hS11
 refine XP pkC 2 hS11 Qa Qa Qa (hS11.rd 0 Qa (by simp)) underlying86 underlying86 (by intro k hk; cases hk) KJ Qa (by simp only[List.length_cons,List.length_nil];omega) Qa (by simp only[List.length_cons,List.length_nil];omega) ?_
 intro v12 w12 hS12; dsimp only[List.set]at hS12
 have h1v12:v12.oneCell'=true:=hS12.own_one 2 Qa
 refine Ql Qa Qa (Qi Qa Wb Qa ?_)
 first | (refine Q7 hS12 Qa Qa DM (by assumption) (i:=1) Qa (Xd Qa) ?_)
 intro w13 hS14; dsimp only[List.set]at hS14
 refine Qh (Qd (Qk [6] Qa (Qg (Qb (Qc Qa Qa (Qh (Qd (Qo (Q5 (.inr Qa) Qa Qa ?_)))))))))
 exact⟨_,rfl,⟨_,rfl⟩, by unfold Hl; rw[if_neg (by rintro(q | q);(simp_all);omega)]; exact ZL (hS14.pick [1,2,3] rfl)⟩
theorem E9 {w:World} {p:Nat} {fl:List (Bool×Bs)} {cut:Bool} {F:Th} (hS:Sat w [Gi p fl cut,F]) (i:Bool) (s:Bs):
    Calls prog 82 #[ptrV p 0,intV (if i=true then 1 else 0),strV s] w (Ret fun v w'=>(∃r:Int,v=intV r)∧Sat w' [Gi p (Hl fl cut i s) cut,F]):= by
  cases i
  · exact CH hS s
  · exact Pt hS s
theorem Pu {w:World} {p:Nat} {fl:List (Bool×Bs)} {cut:Bool} {F:Th} (hS:Sat w [Gi p fl cut,F]) (i:Int):
    Calls prog 81 #[ptrV p 0,intV i] w (Ret fun v w'=>v= .bool (decide (0≤i∧i<(fl.length:Int)))∧Sat w' [Gi p fl cut,F]):= by
 obtain⟨lv,hS⟩:=HC hS
 obtain⟨fa,fcap,hlv,hfm⟩:=hS.own_shape 1 rfl
 obtain rfl:=hlv
 refine Qx func81 Qa ntmps81 Qa ?_
 refine Qg (Qb (Qc Qa Qa (Qh (Qd (Qg (Qb (Qe Qa Qa (WX Qa Qa Qa (Qe Qa Qa (Q4 7 Qa (fun h1=> ?_) (fun h1=> ?_)))))))))))
 ·refine Qj Qa Qa (Q8 h1) (Qe Qa Qa (Qj Qa Qa (Q8 h1) (Qe Qa Qa (Qj Qa Qa (Q8 h1) (Ql Qa Qa (Qj Qa Qa (Q8 h1) (Qi Qa Wb Qa (Qj Qa Qa (Q8 h1) (Qq Qa HS (hS.cell 0 Qa Qa) Qa (Qj Qa Qa (Q8 h1) (Xi underlying86 Qa Qa (Qj Qa Qa (Q8 h1) (X0 Qa Qa Qa (Q0 Qa (Q8 h1) Qa Qa (Qc Qa Qa (Qh (Qd (Qk [4] Qa (Qo (Q5 (.inr Qa) Qa Qa ?_))))))))))))))))))))
  exact⟨_,rfl,congrArg Value.bool (by rw[Bool.eq_iff_iff]; simp;omega),ZL (hS.pick [0,1,2] Qa)⟩
 refine Qf Qa Qa (Qw h1) Qa (Qf Qa Qa (Qw h1) Qa (Qf Qa Qa (Qw h1) Qa (Qf Qa Qa (Qw h1) Qa (Qf Qa Qa (Qw h1) Qa (Qf Qa Qa (Qw h1) Qa (Qf Qa Qa (Qw h1) Qa (Q1 Qa (Qw h1) Qa Qa (Qc Qa Qa (Qh (Qd (Qk [4] Qa (Qo (Q5 (.inr Qa) Qa Qa ?_)))))))))))))
 exact⟨_,rfl,congrArg Value.bool (by rw[Bool.eq_iff_iff]; simp;omega),ZL (hS.pick [0,1,2] Qa)⟩
def shC:RowC (Int×Bs):=⟨fun p=>[intV p.1,strV p.2],2, by decide, fun _=>rfl, fun _=>rfl⟩
theorem Hq {last:Int} {e:Int×Bs} {l:AL Bs} (h:e.1≤last∨1099511627776<e.1∨e.2.length≠64):Jt last (e::l)=false:= by
  unfold Jt
  rw[Bool.eq_false_iff]
  intro q
  simp only[Bool.and_eq_true,decide_eq_true_eq]at q
  omega
theorem TC {last:Int} {e:Int×Bs} {l:AL Bs} (h1:last<e.1) (h2:e.1≤1099511627776) (h3:e.2.length=64):Jt last (e::l)=Jt e.1 l:= by
  simp [Jt,h1,h2,h3]
theorem BX {l:AL Bs} {i:Nat} {x:Int×Bs} (hx:l[i]? =some x):l.drop i=x::l.drop (i+1):= by
  obtain⟨hi,rfl⟩:=Jh hx
  exact List.drop_eq_getElem_cons hi
theorem NX {w:World} {F:Th} (hS:Sat w [F]) {t:Bs} {sv:Value} {l:AL Bs} (hL:Ent F (RdL shC sv l)):
    Calls prog 58 #[.agg #[strV t,sv]] w (Ret fun v w'=>v= .bool (Zl ⟨t,l⟩)∧Sat w' [F]):= by
 obtain⟨ao,cap,rfl,hmax⟩:=(hL.sat hS 0 rfl).shape
 refine Qx func58 Qa ntmps58 Qa ?_
 refine Qg (Qb (XT hS Qa Qa Qa ?_))
 intro bp wp hSp0
 have hSp:Sat wp [QR bp [strV t,.slice ao l.length cap],F]:=hSp0
 refine Qc Qa Qa (Qh (Qd (Qg (Qb (Qc Qa Qa (Qh (Qd (Qg (Qg (Qb (Qi Qa Zh Qa (Qq Qa WF (hSp.cell 0 Qa Qa) Qa (Xi underlying22 Qa Qa (Qe Qa Qa (Qh (Qd (QD ?_)))))))))))))))))
 refine X8 (fun K0 E0 W0=> ∃(i:Nat) (last:Int),K0=l.length -i∧E0=[(1,ptrV bp 0),(3,intV last),(7,.slice ao l.length cap),(8,intV (l.length:Int)),(9,intV (i:Int))]∧Sat W0 [QR bp [strV t,.slice ao l.length cap],F]∧(i≤l.length)∧(Jt 0 l=Jt last (l.drop i))) (L0:=[(1,_),(3,_),(7,_),(8,_),(9,_)]) (l.length -0) (Di Qa Qa Qa Qa Qa) ⟨0,0,rfl,rfl,hSp, by omega, by rw[List.drop_zero]⟩ ?_
 rintro _ _ w1 ⟨i,last,rfl,rfl,hS1,hi,hR⟩
 refine Qg (Qb (X0 Qa Qa Qa (Qh (Qd (Qg (Qt Qa (fun h2=> ?_) (fun h2=> ?_)))))))
 ·obtain⟨x,hx⟩: ∃x,l[i]? =some x:=⟨_,WB (by omega)⟩
  obtain⟨b,off,rfl,hc⟩:=(hL.sat hS1 1 rfl).get hx
  refine Qr (Qd (Qg (QD (Qg (Qb (X4 i Qa Qa (by first | rfl | omega) (by omega) Vy Qa ?_))))))
  refine YH Qa GM Uk (vs:=[intV x.1,strV x.2]) hc Qa (Xl hS1 Rn Qa Qa ?_)
  intro b3 w3 hS3
  (refine QZ hS3 Qa Qa Uk Qa (by rfl) (i:=0) Qa (by decide) ?_)
  intro w4 hS5; dsimp only[List.set]at hS5
  refine Qh (Qd (Qg (Qg (Qb (Qi Qa Yh Qa (Qq Qa QF (hS5.cell 0 Qa Qa) Qa (Qe Qa Qa (W8 Qa Qa Qa (Qe Qa Qa (Q4 17 Qa (fun h6=> ?_) (fun h6=> ?_)))))))))))
  ·refine Qf Qa Qa (Q8 h6) Qa (Qf Qa Qa (Q8 h6) Qa (Qf Qa Qa (Q8 h6) Qa (Q0 Qa (Q8 h6) Qa Qa (Qe Qa Qa (Qf Qa Qa Qa Qa (Qf Qa Qa Qa Qa (Qf Qa Qa Qa Qa (Qf Qa Qa Qa Qa (Q0 Qa Qa Qa Qa (Qh (Qd (Qk [9,8,7,3,1,5,27] Qa (QO Qa (Qg (Qb (Qc Qa Qa (Qh (Qd (Qo (Qm (Qy (Qm (Qm (Qy (Qm (Q5 (.inr Qa) Qa Qa ?_))))))))))))))))))))))))))
   exact⟨_,rfl, by unfold Zl; dsimp only; rw[hR,BX hx,Hq (by omega)];rfl,hS5.pick [2] Qa⟩
  refine Qj Qa Qa (Qw h6) (Qi Qa Yh Qa (Qj Qa Qa (Qw h6) (Qq Qa QF (hS5.cell 0 Qa Qa) Qa (Qj Qa Qa (Qw h6) (Wl Qa Qa Qa (Q1 Qa (Qw h6) Qa Qa (Qe Qa Qa (Q4 22 Qa (fun h7=> ?_) (fun h7=> ?_)))))))))
  ·refine Qf Qa Qa (Q8 h7) Qa (Qf Qa Qa (Q8 h7) Qa (Qf Qa Qa (Q8 h7) Qa (Qf Qa Qa (Q8 h7) Qa (Q0 Qa (Q8 h7) Qa Qa (Qh (Qd (Qk [9,8,7,3,1,5,27] Qa (QO Qa (Qg (Qb (Qc Qa Qa (Qh (Qd (Qo (Qm (Qy (Qm (Qm (Qy (Qm (Q5 (.inr Qa) Qa Qa ?_)))))))))))))))))))))
   exact⟨_,rfl, by unfold Zl; dsimp only; rw[hR,BX hx,Hq (by omega)];rfl,hS5.pick [2] Qa⟩
  refine Qj Qa Qa (Qw h7) (Qi Qa UM Qa (Qj Qa Qa (Qw h7) (Qq Qa Zr (hS5.cell 0 Qa Qa) Qa (Qj Qa Qa (Qw h7) (Zu underlying9 Qa Qa (Qj Qa Qa (Qw h7) (Xr Qa Qa Qa (Q1 Qa (Qw h7) Qa Qa (Qh (Qd (Qk [9,8,7,3,1,5,27] Qa (Qt Qa (fun h8=> ?_) (fun h8=> ?_)))))))))))))
  ·refine Qg (Qb (Qc Qa Qa (Qh (Qd (Qo (Qm (Qy (Qm (Qm (Qy (Qm (Q5 (.inr Qa) Qa Qa ?_))))))))))))
   exact⟨_,rfl, by unfold Zl; dsimp only; rw[hR,BX hx,Hq (by omega)];rfl,hS5.pick [2] Qa⟩
  refine Qr (Qd (Qb (Qi Qa Yh Qa (Qq Qa QF (hS5.cell 0 Qa Qa) Qa (Qc Qa Qa (Qh (Qp (Qd (Qb (Xx Qa Qa (by omega) (by omega) Qa ?_))))))))))
  exact Qe Qa Qa (Qh (Xa (L1:=[(1,_),(3,intV x.1),(7,_),(8,_),(9,intV ((i+1:Nat):Int))]) (Di Qa Qa Qa Qa Qa) (k1:=l.length -(i+1)) (by omega) ⟨i+1,x.1,rfl,rfl,hS5.pick [1,2] Qa, by omega, by rw[hR,BX hx,TC (by omega) (by omega) (by omega)]⟩))
 refine Xq (Q2 (Q2 (QH (Qd (Qg (Qb (Qi Qa Hf Qa (Qq Qa Zr (hS1.cell 0 Qa Qa) Qa (Zu underlying9 Qa Qa (W8 Qa Qa Qa (Qe Qa Qa (Q4 35 Qa (fun h9=> ?_) (fun h9=> ?_)))))))))))))
 ·refine Qj Qa Qa (Q8 h9) (Qi Qa Zh Qa (Qj Qa Qa (Q8 h9) (Qq Qa WF (hS1.cell 0 Qa Qa) Qa (Qj Qa Qa (Q8 h9) (Xi underlying22 Qa Qa (Qj Qa Qa (Q8 h9) (W8 Qa Qa Qa (Q0 Qa (Q8 h9) Qa Qa (Qc Qa Qa (Qh (Qd (Qk [2] Qa (Qo (Q5 (.inr Qa) Qa Qa ?_))))))))))))))
  exact⟨_,rfl,congrArg Value.bool (by unfold Zl; dsimp only; rw[hR,List.drop_eq_nil_of_le (by omega)];unfold Jt; rw[Bool.eq_iff_iff]; simp;omega),hS1.pick [1] Qa⟩
 refine Qf Qa Qa (Qw h9) Qa (Qf Qa Qa (Qw h9) Qa (Qf Qa Qa (Qw h9) Qa (Qf Qa Qa (Qw h9) Qa (Q1 Qa (Qw h9) Qa Qa (Qc Qa Qa (Qh (Qd (Qk [2] Qa (Qo (Q5 (.inr Qa) Qa Qa ?_))))))))))
 exact⟨_,rfl,congrArg Value.bool (by unfold Zl; dsimp only; rw[hR,List.drop_eq_nil_of_le (by omega)];unfold Jt; rw[Bool.eq_iff_iff]; simp;omega),hS1.pick [1] Qa⟩
theorem Sj {n m:Int} (hm:0<m):n%m= if -n%m=0 then 0 else m - -n%m:= by
  have h1:=Int.emod_nonneg (-n) (show m≠0 by omega)
  have h2:=Int.emod_lt_of_pos (-n) hm
  have h3:=Int.emod_add_mul_ediv (-n) m
  generalize -n%m=r at *
  generalize -n/ m=q at *
  have e:n= -r+m*(-q):= by rw[Int.mul_neg];omega
  rw[e,Int.add_mul_emod_self_left]
  split
  · rename_i h0; subst h0; simp
  · have : -r=(m -r)+m*(-1):= by omega
    rw[this,Int.add_mul_emod_self_left]
    exact Int.emod_eq_of_lt (by omega) (by omega)
theorem mod_a {w:World} {F:Th} (hS:Sat w [F]) (n m:Int) (h0:0≤n):
    Calls prog 14 #[intV n,intV m] w (Ret fun v w'=>v=intV (Zs n m)∧Sat w' [F]):= by
 refine Qx func14 Qa ntmps14 Qa ?_
 refine Qg (Qb (Qc Qa Qa (Qh (Qd (Qg (Qg (Qb (Qe Qa Qa (X0 Qa Qa Qa (Qh (Qd (Qt Qa (fun h1=> ?_) (fun h1=> ?_)))))))))))))
 ·refine Qg (Qb (Qc Qa Qa (Qh (Qd (Qo (Qm (Q5 (.inr Qa) Qa Qa ?_)))))))
  exact⟨_,rfl, by unfold Zs; rw[if_pos (by omega)],hS.pick [0] Qa⟩
 have hp:=Int.emod_nonneg n (show m≠0 by omega)
 refine Qr (Qd (Qg (Qb (Qe Qa Qa (Qe Qa Qa (S8 Qa Qa (by omega) (by omega) Qa ?_))))))
 refine Qc Qa Qa (Qh (Qd (Qg (Qg (Qb (Qe Qa Qa (X0 Qa Qa Qa (Qh (Qd (Qt Qa (fun h2=> ?_) (fun h2=> ?_)))))))))))
 ·omega
 refine Qr (Qd (Qg (Qb (Qe Qa Qa (Qc Qa Qa (Qh (Qd (Qk [4] Qa (Qo (Q5 (.inr Qa) Qa Qa ?_))))))))))
 exact⟨_,rfl, by unfold Zs; rw[if_neg (by omega)],hS.pick [0] Qa⟩
theorem mod_b {w:World} {F:Th} (hS:Sat w [F]) (n m:Int) (h0:n≤0) (hm:m≤9223372036854775807):
    Calls prog 14 #[intV n,intV m] w (Ret fun v w'=>v=intV (Zs n m)∧Sat w' [F]):= by
 refine Qx func14 Qa ntmps14 Qa ?_
 refine Qg (Qb (Qc Qa Qa (Qh (Qd (Qg (Qg (Qb (Qe Qa Qa (X0 Qa Qa Qa (Qh (Qd (Qt Qa (fun h1=> ?_) (fun h1=> ?_)))))))))))))
 ·refine Qg (Qb (Qc Qa Qa (Qh (Qd (Qo (Qm (Q5 (.inr Qa) Qa Qa ?_)))))))
  exact⟨_,rfl, by unfold Zs; rw[if_pos (by omega)],hS.pick [0] Qa⟩
 have hp:=Int.emod_nonneg (-n) (show m≠0 by omega)
 have hq:=Int.emod_lt_of_pos (-n) (show 0<m by omega)
 refine Qr (Qd (Qg (Qb (Qe Qa Qa (Qe Qa Qa (wl_remN Qa Qa (by omega) (by omega) Qa ?_))))))
 refine Qc Qa Qa (Qh (Qd (Qg (Qg (Qb (Qe Qa Qa (X0 Qa Qa Qa (Qh (Qd (Qt Qa (fun h2=> ?_) (fun h2=> ?_)))))))))))
 ·refine Qb (Qe Qa Qa (Qe Qa Qa (Xx Qa Qa (by omega) (by omega) Qa ?_)))
  refine Qc Qa Qa (Qh (Qd (Qk [4,0] Qa (Qg (Qb (Qe Qa Qa (Qc Qa Qa (Qh (Qd (Qo (Q5 (.inr Qa) Qa Qa ?_)))))))))))
  exact⟨_,rfl, by unfold Zs; rw[if_neg (by omega),Sj (n:=n) (m:=m) (by omega),if_neg (by omega)];congr 1;omega,hS.pick [0] Qa⟩
 refine Qr (Qd (Qg (Qb (Qe Qa Qa (Qc Qa Qa (Qh (Qd (Qk [4] Qa (Qo (Q5 (.inr Qa) Qa Qa ?_))))))))))
 exact⟨_,rfl, by unfold Zs; rw[if_neg (by omega),Sj (n:=n) (m:=m) (by omega),if_pos (by omega)];congr 1;omega,hS.pick [0] Qa⟩
theorem Yq {w:World} {F:Th} (hS:Sat w [F]) (n m:Int) (hm:m≤9223372036854775807):
    Calls prog 14 #[intV n,intV m] w (Ret fun v w'=>v=intV (Zs n m)∧Sat w' [F]):= by
  rcases Int.le_total 0 n with h | h
  · exact mod_a hS n m h
  · exact mod_b hS n m h hm
end Go.Proofs.YtiibgheijbbmaaaGreatDoor
namespace Go.Proofs.YtiibgheijbbmaaaGreatDoor.M
open Go.RowKit Proofs.Tryz
theorem NW {P:Program} (len cap:Nat) (k1 k2 k3:IntKind) (A B M:Nat) (h1:A≤B) (h2:B≤M) (h3:M≤cap) (w:World):(Instr.sliceBounds true len cap (some (.int k1 (A:Int))) (some (.int k2 (B:Int))) (some (.int k3 (M:Int)))).run P w= .ok (A,B,M) w:= by
  have g1:(A:Int)≤(B:Int):= by omega
  have g2:(B:Int)≤(M:Int):= by omega
  have g3:(M:Int)≤(cap:Int):= by omega
  simp [Instr.sliceBounds,Instr.sliceBound,asIntOf,h1,h2,h3,g1,g2,g3]
section
variable {P:Program} {n:Nat} {ops:Array Oper} {Q:Exit→Act→World→Prop} {rest:List Oper} {L:Env} {w:World} {d:Nat} {ty:TypeId} {pos:String} {aft:Array Edge}
theorem AF {x y1 y2 y3:Operand} {t e m cap sz:Nat} {k1 k2 k3:IntKind} {a:Option Addr} (A B M:Nat) (hu:P.underlying t=some (.slice e)) (hs:Wm P e=some sz) (hx:look L x=some (.slice a m cap)) (g1:look L y1=some (.int k1 (A:Int))) (g2:look L y2=some (.int k2 (B:Int))) (g3:look L y3=some (.int k3 (M:Int))) (h1:A≤B) (h2:B≤M) (h3:M≤cap) (hd:Nat.blt d n=true)
    (hk:wl P n ops Q rest ((d,.slice (if M=A then a else a.map fun p=>p.add (A*sz)) (B -A) (M -A))::L) w):wl P n ops Q (⟨some d,.slice t x (some y1) (some y2) (some y3),ty,pos,aft,none⟩::rest) L w:=
  Xw hd (fun ρ hρ=> by
    have hb:=NW (P:=P) m cap k1 k2 k3 A B M h1 h2 h3 w
    simp only[execOp,hρ _ _ hx]
    simp [Instr.sliceAt,Instr.slice,run_underlying hu,hρ _ _ g1,hρ _ _ g2,hρ _ _ g3,hb,ZU hs]) hk
theorem Ck {α:Type} (C:RowC α) {As:List Th} (k:Nat) (hS:Sat w As) {t t2 e bytes b m cap i j:Nat} {s x:Operand} {z xv:Value} {d2:TypeDesc} {l:List α} (hi:As[k]? =some (rowT C (.slice (some ⟨b,0,none⟩) m cap) l)) (hm:l.length=m) (hs:look L s=some (.slice (some ⟨b,0,none⟩) i cap)) (hx:look L x=some xv) (hr:RdL C xv (l.drop j) w) (hu:P.underlying t=some (.slice e)) (hu2:P.underlying t2=some d2) (hd2: ∀k,d2≠ .int k)
    (hif:(P.info? e).map (fun i=>(i.zero,i.size,i.bytes))=some (some z,C.size,bytes)) (hij:i≤j) (hj:j≤m) (hd:Nat.blt d n=true)
    (hk: ∀w',Sat w' (As.set k (rowT C (.slice (some ⟨b,0,none⟩) m cap) (l.take i++l.drop j++l.drop (i+(m -j)))))→wl P n ops Q rest ((d,.slice (some ⟨b,0,none⟩) (i+(m -j)) cap)::L) w'):wl P n ops Q (⟨some d,.call ⟨.builtin .append, #[s,x], #[t,t2]⟩,ty,pos,aft,none⟩::rest) L w:= by
  subst hm
  obtain⟨f,hown⟩:=hS.own k hi
  obtain⟨hl,⟨h0,_⟩ | ⟨b',cap',sp,h0,hc,hb,hlen,rfl⟩⟩:=hown
  · cases h0
  · cases h0
    obtain⟨inf,hi1,hi2,hi3,hi4⟩:=info_parts hif
    have e1:C.cells l++sp=C.cells (l.take i)++(C.cells (l.drop i)++sp):= by rw[←List.append_assoc,C.cells_app,List.take_append_drop]
    have e2:C.cells (l.take i)++C.cells (l.drop j)++(C.cells (l.drop i)++sp).drop ((l.length -j)*C.size)=C.cells (l.take i++l.drop j++l.drop (i+(l.length -j)))++sp:= by
      have e3:(C.cells (l.drop i)++sp).drop ((l.length -j)*C.size)=C.cells (l.drop (i+(l.length -j)))++sp:= by
        have e4:C.cells (l.drop i)=C.cells ((l.drop i).take (l.length -j))++C.cells (l.drop (i+(l.length -j))):= by rw[C.cells_app,←List.drop_drop,List.take_append_drop]
        rw[e4,List.append_assoc,List.drop_left' (by rw[C.cells_len,List.length_take,List.length_drop,Nat.min_eq_left (by omega)])]
      rw[e3,C.cells_app,←List.append_assoc,C.cells_app]
    have hll:(l.take i++l.drop j++l.drop (i+(l.length -j))).length=l.length:= by simp;omega
    refine Zf Qa hd (R:= fun v w'=>v= .slice (some ⟨b,0,none⟩) (i+(l.length -j)) cap∧Blk w' b (C.cells (l.take i++l.drop j++l.drop (i+(l.length -j)))++sp)∧Only [b] w w') (fun a ha=> ?_) ?_
    · obtain⟨w',hr',hb',ho',_⟩:=Dd (P:=P) (w:=w) (b:=b) (n:=i) (cap:=cap) (size:=C.size) (m:=l.length -j) (xs:=C.cells (l.take i)) (sp:=C.cells (l.drop i)++sp) (news:=C.cells (l.drop j)) (ty:=ty) hu hu2 hd2 hi1 hi3
        (by have :=hr.lenOf (P:=P);rwa [List.length_drop]at this) (by have :=hr.first (P:=P) w Qa;rwa [List.length_drop]at this) (by rw[C.cells_len,List.length_take]; rw[Nat.min_eq_left (by omega)]) (by rw[C.cells_len,List.length_drop]) (JW (C.cells_one _)) (by rw[←e1]; exact hb) (by rw[←e1]; exact hlen) (by omega)
      rw[e2]at hb'
      exact⟨_,w',.inl (by simp [execOp,ha.eval hs,ha.eval hx,resolve,invoke,builtin,hr']),rfl,hb',ho'⟩
    · rintro v w' ⟨rfl,h2,h3⟩
      refine hk w' (hS.own_set k hi fun foot hown2=> ?_)
      obtain⟨_,⟨h0,_⟩ | ⟨b2,cap2,sp2,h0,_,_,_,rfl⟩⟩:=hown2
      · cases h0
      · cases h0
        exact⟨[b],⟨C.cells_len _,.inr ⟨b,cap,sp, by rw[hll], by rw[hll]; exact hc,h2, by rw[List.length_append,C.cells_len,hll,←C.cells_len,←List.length_append]; exact hlen,rfl⟩⟩,h3, fun k hk=> .inl hk⟩
end
theorem Ag {α:Type} {C:RowC α} {z:α} {l:List α} {i:Nat} {zs:List Value} (hz:zs=C.enc z) (hi:i<l.length):XF (C.cells (l.take i++l.drop (i+1)++l.drop (i+(l.length -(i+1))))) (0+(i+(l.length -(i+1)))*C.size) (List.replicate (l.length -(i+(l.length -(i+1)))) zs).flatten=C.cells (l.take i++l.drop (i+1)++[z]):= by
  subst hz
  have hn:l.length -(i+(l.length -(i+1)))=1:= by omega
  have e1:(l.take i++l.drop (i+1)).length=i+(l.length -(i+1)):= by simp;omega
  have e2:(l.drop (i+(l.length -(i+1)))).length=1:= by rw[List.length_drop];omega
  rw[hn,Nat.zero_add]
  generalize l.drop (i+(l.length -(i+1)))=B at *
  generalize l.take i++l.drop (i+1)=D at *
  have e3:(List.replicate 1 (C.enc z)).flatten=C.cells [z]:= by simp [RowC.cells]
  rw[←C.cells_app,←C.cells_app _ [z],e3,←e1,←C.cells_len]
  unfold XF
  rw[List.take_left,List.drop_of_length_le (by rw[List.length_append,C.cells_len B,C.cells_len [z],e2]; simp),List.append_nil]
end Go.Proofs.YtiibgheijbbmaaaGreatDoor.M
namespace Go.Proofs.YtiibgheijbbmaaaGreatDoor
open Go.RowKit M Proofs.Tryz
theorem delP_sp {w:World} {F:Th} {sv:Value} {l:List (Bool×Bs)} (hS:Sat w [rowT pkC sv l,F]) {i:Nat} (hi:i<l.length) (hln:l.length≤100000000000):
    Calls prog 109 #[sv,intV (i:Int),intV ((i:Int)+1)] w (Ret fun v w'=>Sat w' [rowT pkC v (l.eraseIdx i),F]):= by
 obtain⟨b,cap,rfl,hcap⟩:=hS.own_at 0 rfl (by omega)
 refine Qx func109 Qa ntmps109 Qa ?_
 refine Qg (Qb (Qc Qa Qa (Qh (Qd (Qg (Qb (Qe Qa Qa (Qe Qa Qa (Qe Qa Qa (Qe Qa Qa ?_))))))))))
 first | refine Xi underlying86 Qa Qa ?_ | refine Xs 0 hS underlying86 Qa Qa Qa ?_
 refine AF i (i+1) l.length underlying86 W9 Qa Qa Qa Qa (by omega) (by omega) (by omega) Qa ?_
 refine Qh (Qd (Qg (Qg (Qb (Qe Qa Qa (Qe Qa Qa (QL Qa Qa Qa (Qh (Qd (Qk [2,1,0,6,16] Qa (Qt Qa (fun h1=> ?_) (fun h1=> ?_))))))))))))
 ·omega
 refine Qr (Qd (Qg (Qb (Qe Qa Qa ?_))))
 first | refine Xi underlying86 Qa Qa ?_ | refine Xs 0 hS underlying86 Qa Qa Qa ?_
 refine Qc Qa Qa (Qh (Qd (Qg ?_)))
 have hS2:=hS.drew
 refine QM [0,1,2,3,4,5,6,7] [6] Wv (by kernel_rfl) ?_
 refine QK Qa Qa Qa (QK Qa Qa Qa (QC Qa Qa Qa (fun _=>(CY 0 i underlying86 W9 Qa (Vz _) (HL i _ Qa Qa) (by omega) (by omega))) ?_))
 refine QK Qa Qa Qa (QK Qa Qa Qa (QC Qa Qa Qa (fun _=>(CY (i+1) l.length underlying86 W9 Qa (HL (i+1) _ Qa Qa) (Vz _) (by omega) (by omega))) ?_))
 refine QS Qa Qa Qa Qa Qa Qa ?_
 have hrd3:RdL pkC (Ui 2 (.slice (some ⟨b,0,none⟩) l.length cap) (i+1) l.length) (l.drop (i+1)) w:= by have h0:Ent (rowT pkC (.slice (some ⟨b,0,none⟩) l.length cap) l) (RdL pkC (Ui 2 (.slice (some ⟨b,0,none⟩) l.length cap) (i+1) l.length) ((l.take l.length).drop (i+1))):=Kp (C:=pkC) (a:=some ⟨b,0,none⟩) (l:=l) (A:=i+1) (B:=l.length) (by omega) (by omega) (by omega) hcap; have h:=h0.sat hS2 0 Qa;rwa [List.take_length]at h
 refine Ck pkC (i:=i) (j:=i+1) 0 hS2 Qa Qa (by show some (Ui 2 (.slice (some ⟨b,0,none⟩) l.length cap) 0 i)=_; rw[K3 (by omega)];rfl) Qa hrd3 underlying86 underlying86 (by intro k hk; cases hk) KJ (by omega) (by omega) Qa ?_
 intro w3 hS3; dsimp only[List.set]at hS3
 refine Xe .nil (WY Qa Qa Qa (VC.nil (Qd (Qk [6,7,0] Qa (Qg (Qb (Qe Qa Qa (Qe Qa Qa ?_))))))))
 first | refine Xi underlying86 Qa Qa ?_ | refine Xs 0 hS3 underlying86 Qa Qa Qa ?_
 refine Qe Qa Qa (V0 (i+(l.length -(i+1))) l.length underlying86 W9 Qa (HL (i+(l.length -(i+1))) _ Qa Qa) (HL l.length _ Qa Qa) (by omega) (by omega) Qa ?_)
 rw[show Ui 2 (.slice (some ⟨b,0,none⟩) (i+(l.length -(i+1))) cap) (i+(l.length -(i+1))) l.length= .slice (some ⟨b,0+(i+(l.length -(i+1)))*2,none⟩) (l.length -(i+(l.length -(i+1)))) (cap -(i+(l.length -(i+1)))) from K3 (by omega)]
 refine GT 0 hS3 Qa Qa Qa underlying86 Jk Qa (by rw[pkC.cells_len, show(l.take i++l.drop (i+1)++l.drop (i+(l.length -(i+1)))).length=l.length by simp;omega]; show 0+(i+(l.length -(i+1)))*2+(l.length -(i+(l.length -(i+1))))*2≤l.length*2;omega) (Ag (C:=pkC) (z:=((false:Bool),([]:Bs))) Qa hi) Qa ?_
 intro w4 hS4a; dsimp only[List.set]at hS4a
 have hS4:=Sat.row_cast (C:=pkC) (l:=l.take i++l.drop (i+1)++[((false:Bool),([]:Bs))]) (hS4a.pull 0 Qa) (by simp;omega) Qa Qa; dsimp only[List.eraseIdx]at hS4
 refine Qh (Qd (Qg (Qb (Qe Qa Qa (Qc Qa Qa (Qh (Qd (Qo (Q5 (.inr Qa) Qa Qa ?_)))))))))
 have hz:=(hS4.pick [0,1] Qa).row_shrink (i+(l.length -(i+1))) (by simp;omega)
 rw[List.take_append_of_le_length (by simp;omega),List.take_of_length_le (by simp;omega),←List.eraseIdx_eq_take_drop_succ]at hz
 exact⟨_,Qa,hz⟩
