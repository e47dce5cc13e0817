/- the law: data, SameSession -/
import Derived.Test.YtiibgheijbbmaaaGreatDoorMvc1
import Derived.ChangeKeysEq
import Derived.Laws.StructEq
set_option linter.unusedVariables false
set_option maxRecDepth 100000
set_option maxHeartbeats 100000000000
namespace Go.Proofs.YtiibgheijbbmaaaGreatDoor
open Go.RowKit M Proofs.Tryz
section
variable {P:Program} {n:Nat} {ops:Array Oper} {Q:Exit→Act→World→Prop} {rest:List Oper} {L:Env} {w:World} {d:Nat} {ty:TypeId} {pos:String} {aft:Array Edge} {As:List Th}
theorem Az {t t2:Nat} {x y:Operand} {xs ys:Array Value} {b:Bool} (h: ∀w,(Op.equal t (.agg xs) (.agg ys)).run P w= .ok b w) (hg:P.eqGuardType P.depth t=false) (hx:M.look L x=some (.agg xs)) (hy:M.look L y=some (.agg ys)):Ev P L w ⟨some d,.binOp .neq t x y t2,ty,pos,aft,none⟩ (.bool (!b)):= fun ρ hρ=> by
  have h:=h w
  simp [execOp,hρ _ _ hx,hρ _ _ hy,eqGuard,binOp,program,Sem.run,hg]at h⊢
  rw[h]
  rfl
end
theorem eqSheet (x y:Int×Bs) (w:World):(Op.equal 65 (.agg #[intV x.1,strV x.2]) (.agg #[intV y.1,strV y.2])).run prog w= .ok (decide (x.1=y.1∧x.2=y.2)) w:= by
  have u3:=underlying3
  have a3:W9 prog 3=some false:= by kernel_rfl
  have u9:=underlying9
  have a9:W9 prog 9=some false:= by kernel_rfl
  have hS:prog.underlying 65=some (.struct (prog.fieldsOf 65)):= by kernel_rfl
  have hp:prog.stoodInHeld 65=false:= by kernel_rfl
  unfold Op.equal Op.maxDepth
  generalize hN:(10000:Nat)=N
  obtain⟨m,rfl⟩: ∃m,N=m+1+1:=⟨9998, by omega⟩
  rw[run_equalIn_struct w (m+1) 65 _ _ hS hp]
  have q0:= fun w=>KS (P:=prog) a3 #[intV x.1,strV x.2] 0 _ Qa w
  have q1:= fun w=>KS (P:=prog) a9 #[intV x.1,strV x.2] 1 _ Qa w
  have r0:= fun w=>KS (P:=prog) a3 #[intV y.1,strV y.2] 0 _ Qa w
  have r1:= fun w=>KS (P:=prog) a9 #[intV y.1,strV y.2] 1 _ Qa w
  simp only[Program.fieldsOf,underlying65,Op.eqFields,Sem.run_bind,q0,q1,r0,r1,Result.andThen_ok,run_equalIn_string _ _ _ _ _ u9,Go.run_equalIn_int _ _ _ _ _ _ _ u3,Sem.run_ite,Sem.run_pure]
  by_cases h0:x.1=y.1<;>by_cases h1:x.2=y.2<;> simp [h0,h1,run_equalIn_string _ _ _ _ _ u9,Go.run_equalIn_int _ _ _ _ _ _ _ u3]
def Vp (t t2:Bs) (l l2:AL Bs):Bool:=decide (t=t2)&&decide (l=l2)
def IP (l:AL Bs) (id:Int):Bs:=((l.find? fun e=>decide (e.1=id)).map (·.2)).getD []
theorem IN (l:AL Bs) (id:Int):IP l id=(QN l id).getD []:=rfl
theorem Pv {w:World} {F:Th} (hS:Sat w [F]) {t:Bs} {sv:Value} {l:AL Bs} (hL:Ent F (RdL shC sv l)) {t2:Bs} {sv2:Value} {l2:AL Bs} (hL2:Ent F (RdL shC sv2 l2)):
    Calls prog 33 #[.agg #[strV t,sv],.agg #[strV t2,sv2]] w (Ret fun v w'=>v= .bool (Vp t t2 l l2)∧Sat w' [F]):= by
 obtain⟨ao,cap,rfl,hmax⟩:=(hL.sat hS 0 rfl).shape
 obtain⟨ao2,cap2,rfl,hmax2⟩:=(hL2.sat hS 0 rfl).shape
 refine Qy func33 Qa ntmps33 Qa ?_
 refine Qg (Qb (XZ hS Qa Qa Qa ?_))
 intro bp w1 hS10
 have hS1:Sat w1 (QR bp [strV t,.slice ao l.length cap]::_):=hS10
 refine XZ hS1 Qa Qa Qa ?_
 intro bq w2 hS20
 have hS2:Sat w2 (QR bq [strV t2,.slice ao2 l2.length cap2]::_):=hS20
 refine Qc Qa Qa (Qh (Qe (Qg (Qg (Qb (Qi Qa Hm Qa (Qp Qa Zw (by first | exact hS2.cell 0 Qa Qa | exact hS2.cell 1 Qa Qa) Qa ?_)))))))
 refine Qi Qa Hm Qa (Qp Qa Zw (by first | exact hS2.cell 0 Qa Qa | exact hS2.cell 1 Qa Qa) Qa ?_)
 refine KG Qa Qa Qa (Qd Qa Qa (Q3 11 Qa (fun h3=> ?_) (fun h3=> ?_)))
 ·refine Qf Qa Qa (Q8 h3) Qa (Qf Qa Qa (Q8 h3) Qa (Qf Qa Qa (Q8 h3) Qa (Qf Qa Qa (Q8 h3) Qa (Qf Qa Qa (Q8 h3) Qa (Qf Qa Qa (Q8 h3) Qa (Qf Qa Qa (Q8 h3) Qa (Qx Qa (Q8 h3) Qa Qa (Qh (Qe (Qk [2,3,4,19] Qa (QL Qa (Qg (Qb (Qc Qa Qa (Qh (Qe (Qo (Qm (Q7 (.inr Qa) Qa Qa ?_)))))))))))))))))))
  exact⟨_,rfl, by rw[show Vp t t2 l l2=false by unfold Vp; rw[Bool.eq_false_iff]; intro q; simp only[Bool.and_eq_true,decide_eq_true_eq]at q; obtain⟨q1,q2⟩:=q; subst q2;first | omega | exact absurd q1 (by assumption)],hS2.pick [2] rfl⟩
 have htt:t=t2:=Decidable.not_not.1 h3
 refine Qj Qa Qa (Qv h3) (Qi Qa Zt Qa (Qj Qa Qa (Qv h3) (Qp Qa WV (by first | exact hS2.cell 0 Qa Qa | exact hS2.cell 1 Qa Qa) Qa ?_)))
 refine Qj Qa Qa (Qv h3) (Xj underlying22 Qa Qa (Qj Qa Qa (Qv h3) (Qi Qa Zt Qa (Qj Qa Qa (Qv h3) (Qp Qa WV (by first | exact hS2.cell 0 Qa Qa | exact hS2.cell 1 Qa Qa) Qa ?_)))))
 refine Qj Qa Qa (Qv h3) (Xj underlying22 Qa Qa (Qj Qa Qa (Qv h3) (Xt Qa Qa Qa (Qz Qa (Qv h3) Qa Qa (Qh (Qe (Qk [2,3,4,19] Qa (Qw Qa (fun h4=> ?_) (fun h4=> ?_)))))))))
 ·refine Qg (Qb (Qc Qa Qa (Qh (Qe (Qo (Qm (Q7 (.inr Qa) Qa Qa ?_)))))))
  exact⟨_,rfl, by rw[show Vp t t2 l l2=false by unfold Vp; rw[Bool.eq_false_iff]; intro q; simp only[Bool.and_eq_true,decide_eq_true_eq]at q; obtain⟨q1,q2⟩:=q; subst q2;first | omega | exact absurd q1 (by assumption)],hS2.pick [2] rfl⟩
 have hll:l.length=l2.length:= by have q9:=h4;omega
 refine Qr (Qe (Qg (Qg (Qb (Qc Qa Qa (Qh (Qe (QD ?_))))))))
 refine XD (fun K0 E0 W0=> ∃(i:Nat),K0=l.length -i∧E0=[(2,ptrV bp 0),(3,ptrV bq 0),(5,intV (i:Int))]∧Sat W0 [QR bq [strV t2,.slice ao2 l2.length cap2],QR bp [strV t,.slice ao l.length cap],F]∧(i≤l.length)∧(∀j,j<i→l[j]? =l2[j]?)) (L0:=[(2,_),(3,_),(5,_)]) (l.length -0) (Dh Qa Qa Qa) ⟨0,rfl,rfl,hS2, by omega, by omega⟩ ?_
 rintro _ _ w5 ⟨i,rfl,rfl,hS5,hi,hsm⟩
 refine Qg (Qg (Qb (Qd Qa Qa (Qi Qa Zt Qa (Qp Qa WV (hS5.cell 1 Qa Qa) Qa (Xj underlying22 Qa Qa (Xz Qa Qa Qa (Qh (Qe (Qw Qa (fun h6=> ?_) (fun h6=> ?_)))))))))))
 ·obtain⟨x,hx⟩: ∃x,l[i]? =some x:=⟨_,WU (by omega)⟩
  obtain⟨b,off,rfl,hc⟩:=(hL.sat hS5 2 rfl).get hx
  obtain⟨y,hy⟩: ∃y,l2[i]? =some y:=⟨_,WU (by omega)⟩
  obtain⟨b2,off2,rfl,hc2⟩:=(hL2.sat hS5 2 rfl).get hy
  refine Qr (Qe (Qg (QD (Qg ?_))))
  have hS7:=hS5.drew
  refine QT [0,1,2,3,4,5,6,7,8,9,10] [] Jk (by kernel_rfl) ?_
  refine QQ Qa Qa Qa Zt (QH Qa Qa Qa (Qn Qa WV (by first | exact hS7.cell 0 Qa Qa | exact hS7.cell 1 Qa Qa)) ?_)
  refine QM Qa Qa Qa (QG Qa Qa Qa (fun _=>(Zc i Qa Qa (by rfl) (by omega) K8)) ?_)
  refine QH Qa Qa Qa (Bt Qa GL Up (vs:=[intV x.1,strV x.2]) hc) (QQ Qa Qa Qa Zt (QH Qa Qa Qa (Qn Qa WV (by first | exact hS7.cell 0 Qa Qa | exact hS7.cell 1 Qa Qa)) ?_))
  refine QM Qa Qa Qa (QG Qa Qa Qa (fun _=>(Zc i Qa Qa (by rfl) (by omega) K8)) ?_)
  refine QH Qa Qa Qa (Bt Qa GL Up (vs:=[intV y.1,strV y.2]) hc2) (QG Qa Qa Qa (fun _=>(Az (eqSheet x y) (by kernel_rfl) Qa Qa)) ?_)
  refine VC.nil (Qe (Qk [5,3,2,37] Qa (Xd Qa (fun h8=> ?_) (fun h8=> ?_))))
  ·have hxy:x≠y:= by rintro rfl; simp at h8
   refine Qg (Qb (Qc Qa Qa (Qh (Qe (Qo (Q0 (Qm (Qm (Q0 (Qm (Q7 (.inr Qa) Qa Qa ?_)))))))))))
   exact⟨_,rfl, by rw[show Vp t t2 l l2=false by unfold Vp; rw[Bool.eq_false_iff]; intro q; simp only[Bool.and_eq_true,decide_eq_true_eq]at q; obtain⟨_,q2⟩:=q; subst q2; rw[hx]at hy; cases hy; exact hxy rfl],hS7.pick [2] rfl⟩
  have hxy:x=y:=Prod.ext_iff.2 (by simpa using h8)
  refine Qr (Qq (Qe (Qb (Qd Qa Qa ?_))))
  refine Xq Qa Qa (by first | omega | (simp;omega)) (by first | omega | (simp;omega)) Qa ?_
  refine Qc Qa Qa (Qh ?_)
  exact QY (L1:=[(2,_),(3,_),(5,intV ((i+1:Nat):Int))]) (Dh Qa Qa Qa) (k1:=l.length -(i+1)) (by omega) ⟨i+1,rfl,rfl,hS7.pick [0,1,2] Qa, by omega, fun j hj=> by by_cases e:j=i;(subst e; rw[hx,hy,hxy]); exact hsm j (by omega)⟩
 refine Xu (Q1 (Q1 (QJ (Qe (Qg (Qb (Qc Qa Qa (Qh (Qe (Qo (Q7 (.inr Qa) Qa Qa ?_)))))))))))
 exact⟨_,rfl, by rw[show Vp t t2 l l2=true by unfold Vp; simp only[Bool.and_eq_true,decide_eq_true_eq]; exact⟨htt,List.ext_getElem? fun j=>(if q:j<l.length then hsm j (by omega)else by rw[List.getElem?_eq_none (by omega),List.getElem?_eq_none (by omega)])⟩],hS5.pick [2] Qa⟩
def UZ (del:Bool) (id:Int) (x:Bs) (a:AL Bs×Bool) (y:Int×Bs):AL Bs×Bool:=
  if y.1≠id then((if a.2=false∧id≤y.1∧del=false then(a.1++[(id,x)],true)else a).1++[y],(if a.2=false∧id≤y.1∧del=false then(a.1++[(id,x)],true)else a).2)else if a.2=false∧id≤y.1∧del=false then(a.1++[(id,x)],true)else a
def MM (o:OpD) (l:AL Bs) (i:Nat):AL Bs×Bool:=(l.take i).foldl (UZ (decide (o.dO%32=19)) o.id (List.replicate 64 o.b)) ([],false)
def Su (a:AL Bs×Bool) (del:Bool) (id:Int) (x:Bs):AL Bs:= if a.2=false∧del=false then a.1++[(id,x)]else a.1
def YM (s:SsD) (o:OpD):SsD:= if o.dO%32=20 then⟨o.s,s.sheets⟩else⟨s.state,Su (MM o s.sheets s.sheets.length) (decide (o.dO%32=19)) o.id (List.replicate 64 o.b)⟩
section
variable {o:OpD} {l out:AL Bs} {i:Nat} {y:Int×Bs} {dn:Bool}
theorem IT (hy:l[i]? =some y) (h:MM o l i=(out,dn)):MM o l (i+1)=UZ (decide (o.dO%32=19)) o.id (List.replicate 64 o.b) (out,dn) y:= by
  unfold MM at h⊢; rw[List.take_add_one,hy,List.foldl_append,h];rfl
theorem chg_m {out2:AL Bs} {dn2:Bool} (hy:l[i]? =some y) (h:MM o l i=(out,dn)) (hm:(out2,dn2)= if dn=false∧o.id≤y.1∧o.dO%32≠19 then(out++[(o.id,List.replicate 64 o.b)],true)else(out,dn)):MM o l (i+1)= if y.1≠o.id then(out2++[y],dn2)else(out2,dn2):= by
  rw[IT hy h];unfold UZ
  by_cases q:dn=false∧o.id≤y.1∧o.dO%32≠19
  · rw[if_pos q]at hm; cases hm
    have k:(out,dn).2=false∧o.id≤y.1∧decide (o.dO%32=19)=false:=⟨q.1,q.2.1,Qv q.2.2⟩
    simp only[if_pos k]
  · rw[if_neg q]at hm; cases hm
    have k: ¬((out,dn).2=false∧o.id≤y.1∧decide (o.dO%32=19)=false):= fun r=>q ⟨r.1,r.2.1,of_decide_eq_false r.2.2⟩
    simp only[if_neg k]
theorem Rj (h20:o.dO%32≠20) {t:Bs} (h:MM o l i=(out,dn)) (hi:i=l.length):YM ⟨t,l⟩ o=⟨t, if dn=false∧o.dO%32≠19 then out++[(o.id,List.replicate 64 o.b)]else out⟩:= by
  unfold YM Su; rw[if_neg h20]; subst hi; dsimp only; rw[h]
  by_cases q:dn=false∧o.dO%32≠19
  · rw[if_pos q,if_pos ⟨q.1,Qv q.2⟩]
  · rw[if_neg q,if_neg (fun r=>q ⟨r.1,of_decide_eq_false r.2⟩)]
theorem I6 {del:Bool} {id:Int} {x:Bs}: ∀{l a:AL Bs},(∀e∈l,e.1≠id)→l.foldl (UZ del id x) (a,true)=(a++l,true)
  | [],a,_=> by simp
  | e::l,a,h=> by
    rw[List.foldl_cons, show UZ del id x (a,true) e=(a++[e],true) by unfold UZ; rw[if_pos (h e List.mem_cons_self),if_neg (by simp)],I6 fun e he=>h e (List.mem_cons_of_mem _ he)]
    simp
theorem I7 {id:Int} {x:Bs}: ∀{l a:AL Bs},l.foldl (UZ true id x) (a,false)=(a++Yt l id,false)
  | [],a=> by simp [Yt]
  | e::l,a=> by
    rw[List.foldl_cons]
    by_cases q:e.1=id
    · rw[show UZ true id x (a,false) e=(a,false) by unfold UZ; rw[if_neg (fun r=>r q),if_neg (by simp)],I7]; simp [Yt,q]
    · rw[show UZ true id x (a,false) e=(a++[e],false) by unfold UZ; rw[if_pos q,if_neg (by simp)],I7]; simp [Yt,q]
theorem foldP {id:Int} {x:Bs}: ∀{l a:AL Bs},Srt l→Su (l.foldl (UZ false id x) (a,false)) false id x=a++X6 id x l
  | [],a,_=> by simp [Su,X6]
  | e::l,a,h=> by
    rw[List.foldl_cons];unfold X6
    by_cases h1:e.1<id
    · rw[if_pos h1, show UZ false id x (a,false) e=(a++[e],false) by unfold UZ; rw[if_pos (by omega),if_neg (by rintro⟨_,q,_⟩;omega)],foldP h.tail]; simp
    · rw[if_neg h1]
      by_cases h2:e.1=id
      · rw[if_pos h2, show UZ false id x (a,false) e=(a++[(id,x)],true) by unfold UZ; rw[if_neg (fun q=>q h2),if_pos ⟨rfl, by omega,rfl⟩],I6 (fun f hf=> by have :=h.head f.1 (List.mem_map.2 ⟨f,hf,rfl⟩);omega)]
        simp [Su]
      · rw[if_neg h2, show UZ false id x (a,false) e=(a++[(id,x)]++[e],true) by unfold UZ; rw[if_pos h2,if_pos ⟨rfl, by omega,rfl⟩],I6 (fun f hf=> by have :=h.head f.1 (List.mem_map.2 ⟨f,hf,rfl⟩);omega)]
        simp [Su]
theorem Nn {s:SsD} (h:Srt s.sheets) (h1:o.dO%32≠20) (h2:o.dO%32≠19):YM s o=⟨s.state,X6 o.id (List.replicate 64 o.b) s.sheets⟩:= by
  unfold YM MM; rw[if_neg h1,List.take_length,Qv h2,foldP h];rfl
theorem Np {s:SsD} (h1:o.dO%32=19):YM s o=⟨s.state,Yt s.sheets o.id⟩:= by
  unfold YM MM; rw[if_neg (by omega),List.take_length,Q8 h1,I7]; simp [Su]
theorem V3 {s:SsD} (h1:o.dO%32=20):YM s o=⟨o.s,s.sheets⟩:= by unfold YM; rw[if_pos h1]
end
theorem L3 {w:World} {F:Th} (hS:Sat w [F]) {t:Bs} {sv:Value} {l:AL Bs} (hL:Ent F (RdL shC sv l)) (hl30:l.length≤10000) {o:OpD} {kv:Value} (hK:Ent F (RdI kv o.keep)):
    Calls prog 25 #[.agg #[strV t,sv],.agg #[intV o.dO,intV o.n,intV o.id,.int .u8 (o.b.toNat:Int),strV o.s,kv]] w (Ret fun v w'=> ∃sv2,v= .agg #[strV (YM ⟨t,l⟩ o).state,sv2]∧Sat w' [rowT shC sv2 (YM ⟨t,l⟩ o).sheets,F]):= by
 obtain⟨ao,cap,rfl,hmax⟩:=(hL.sat hS 0 rfl).shape
 obtain⟨ka,kc,rfl⟩:=TE (hK.sat hS 0 rfl)
 refine Qy func25 Qa ntmps25 Qa ?_
 refine Qg (Qb (XZ hS Qa Qa Qa ?_))
 intro bp w1 hS10
 have hS1:Sat w1 (QR bp [strV t,.slice ao l.length cap]::_):=hS10
 refine XZ hS1 Qa Qa Qa ?_
 intro bo w2 hS20
 have hS2:Sat w2 (QR bo [intV o.dO,intV o.n,intV o.id,.int .u8 (o.b.toNat:Int),strV o.s,.slice ka o.keep.length kc]::_):=hS20
 refine Xk hS2 Kb Qa Qa ?_
 intro rb w3 hS30
 have hS3:Sat w3 (QR rb [strV [],.slice none 0 0]::_):=hS30
 refine Qh (Qe (Qg (Qb (Qi Qa Hm Qa (Qp Qa Zw (hS3.cell 2 Qa Qa) Qa (Zu Qa Lm MQ Kb Qa Qa (Xk hS3 Kb Qa Qa ?_)))))))
 intro ub w4 hS40
 have hS4:Sat w4 (QR ub [strV [],.slice none 0 0]::_):=hS40
 (refine QX hS4 Qa Qa Wc Qa (by rfl) (i:=0) Qa (by decide) ?_)
 intro w5 hS6; dsimp only[List.set]at hS6
 refine Qh (Qe (Qg (Qg ?_)))
 have hS7:Sat _ (QR ub [strV t,.slice none 0 0]::_):=hS6.pick [0,1,2,3,4] Qa
 refine Qb (Qi Qa Rg Qa (Qp Qa QK (hS7.cell 2 Qa Qa) Qa (V6 5 Qa Qa Qa Qa (q:=32) Qa Qa (QO Qa Qa Qa (Qh (Qe (Qk [2,3,4,5,15] Qa (Qw Qa (fun h8=> ?_) (fun h8=> ?_)))))))))
 ·refine Qg (Qb (Qi Qa Dv Qa (Qp Qa Zw (hS7.cell 2 Qa Qa) Qa (Qi Qa Hm Qa ?_))))
  (refine QC hS7 Qa Qa R8 (by rfl) (i:=0) Qa (Xe Qa) ?_)
  intro w9 hS10; dsimp only[List.set]at hS10
  refine Qh (Qe (Qg (Qb (Xc shC [] hS10 Qa underlying22 Bo Qa Qa Qa Qa (by first | rfl | simp [RowC.cells,VV,XK]) Qa ?_))))
  intro b11 w11 hS11
  refine Qi Qa Zt Qa (Qp Qa WV (hS11.cell 4 Qa Qa) Qa ?_)
  refine XV shC 0 hS11 Qa Qa Qa (hL.sat hS11 5 Qa) underlying22 underlying22 (by intro k hk; cases hk) M1 Qa (by simp only[List.length_nil];omega) Qa (by simp only[List.length_nil];omega) ?_
  intro v12 w12 hS12; dsimp only[List.set]at hS12
  have h1v12:v12.oneCell'=true:=hS12.own_one 0 Qa
  refine Qi Qa Zt Qa ?_
  (refine QC hS12 Qa Qa NP (by assumption) (i:=1) Qa (Xe Qa) ?_)
  intro w13 hS14; dsimp only[List.set]at hS14
  refine Qh (Qe (Qk [2,3,4,5] Qa (Qg ?_)))
  have h4:=hS14.own_one 0 Qa
  have hones: ∀v:Value,v.oneCell'=true→ZV [strV o.s,v]=true:= by intro v q1; simp [ZV,Value.oneCell']at q1⊢; exact q1
  have hone2:=hones _ h4
  refine Qb (Zg Qa JF Wc (hS14.blk 1 Qa) (Xe Qa) Qa Qa ?_)
  (refine QX hS14 Qa Qa Wc Qa (by assumption) (i:=2) Qa (by decide) ?_)
  intro w15 hS16; dsimp only[List.set]at hS16
  refine Qh (Qe (Qo (Qm ?_)))
  refine LF (.inr Qa) Qa (Gc Qa JF Wc (by first | exact hS16.blk 1 Qa | exact hS16.blk 2 Qa | exact hS16.blk 3 Qa | exact hS16.blk 4 Qa) (by first | decide | exact Xe Qa | (simp;done) | omega) Qa) ?_
  exact⟨_,rfl,_, by rw[V3 (by omega)]<;>rfl, by rw[V3 (by omega)]; exact hS16.pick [0,5] Qa⟩
 refine Qr (Qe (Qg (Qb (Qc Qa Qa (Qh (Qe (Qg (Qg (Qb (Qc Qa Qa (Qh (Qe (QD ?_)))))))))))))
 have hS17:=Sat.row_nil shC hS7
 refine XD (fun K0 E0 W0=> ∃(i:Nat) (sv9:Value) (out:AL Bs) (dn:Bool),K0=l.length -i∧E0=[(2,ptrV bp 0),(3,ptrV bo 0),(4,ptrV rb 0),(5,ptrV ub 0),(6,.bool dn),(7,intV (i:Int))]∧Sat W0 [rowT shC sv9 out,QR ub [strV t,sv9],QR rb [strV [],.slice none 0 0],QR bo [intV o.dO,intV o.n,intV o.id,.int .u8 (o.b.toNat:Int),strV o.s,.slice ka o.keep.length kc],QR bp [strV t,.slice ao l.length cap],F]∧(i≤l.length)∧(MM o l i=(out,dn))∧(out.length≤i+dn.toNat)) (L0:=[(2,_),(3,_),(4,_),(5,_),(6,_),(7,_)]) (l.length -0) (Dc Qa Qa Qa Qa Qa Qa) ⟨0,_,_,_,rfl,rfl,hS17.pick [0,1,2,3,4,5] Qa, by omega,rfl,Nat.zero_le _⟩ ?_
 rintro _ _ w18 ⟨i,sv9,out,dn,rfl,rfl,hS18,hi,hst,hol⟩
 have hdn1:dn.toNat≤1:= by cases dn<;>decide
 have h1ov:sv9.oneCell'=true:=hS18.own_one 0 Qa
 refine Qg (Qg (Qb (Qd Qa Qa (Qi Qa Zt Qa (Qp Qa WV (hS18.cell 4 Qa Qa) Qa (Xj underlying22 Qa Qa (Xz Qa Qa Qa (Qh (Qe (Qk [7,6,5,4,3,2,29] Qa (Qw Qa (fun h19=> ?_) (fun h19=> ?_))))))))))))
 ·obtain⟨y,hy⟩: ∃y,l[i]? =some y:=⟨_,WU (by omega)⟩
  obtain⟨b9,off9,rfl,hc9⟩:=(hL.sat hS18 5 rfl).get hy
  refine Qr (Qe (Qg (QD (Qg (Qb (Qi Qa Zt Qa (Qp Qa WV (hS18.cell 4 Qa Qa) Qa (Qd Qa Qa (XG i Qa Qa (by rfl) (by omega) K8 Qa ?_)))))))))
  refine YO Qa GL Up (vs:=[intV y.1,strV y.2]) hc9 Qa (Xk hS18 Rv Qa Qa ?_)
  intro yb w20 hS200
  have hS20:Sat w20 (QR yb [intV 0,strV []]::_):=hS200
  (refine QX hS20 Qa Qa Up Qa (by rfl) (i:=0) Qa (by decide) ?_)
  intro w21 hS22; dsimp only[List.set]at hS22
  refine Qh (Qe (Qk [7,6,5,4,3,2,8] Qa (V7 (fun E0 W0=> ∃(sv8:Value) (out2:AL Bs) (dn2:Bool) (yb:Nat),E0=[(2,ptrV bp 0),(3,ptrV bo 0),(4,ptrV rb 0),(5,ptrV ub 0),(6,.bool dn2),(7,intV (i:Int)),(8,ptrV yb 0)]∧Sat W0 [rowT shC sv8 out2,QR ub [strV t,sv8],QR yb [intV y.1,strV y.2],QR rb [strV [],.slice none 0 0],QR bo [intV o.dO,intV o.n,intV o.id,.int .u8 (o.b.toNat:Int),strV o.s,.slice ka o.keep.length kc],QR bp [strV t,.slice (some ⟨b9,off9,none⟩) l.length cap],F]∧((out2,dn2)= if dn=false∧o.id≤y.1∧o.dO%32≠19 then(out++[(o.id,List.replicate 64 o.b)],true)else(out,dn))∧(out2.length≤i+dn2.toNat)) ?_ ?_)))
  ·refine Qg ?_
   have hS24:Sat _ (QR yb [intV y.1,strV y.2]::_):=hS22.pick [0,1,2,3,4,5,6] Qa
   refine Qb (Qd Qa Qa (XS Qa Qa (Qd Qa Qa (Zz 39 Qa (fun h25=> ?_) (fun h25=> ?_)))))
   ·have hd:dn=false:= by simpa using h25
    refine Qj Qa Qa h25 (Qi Qa YE Qa (Qj Qa Qa h25 (Qp Qa QK (by first | exact hS24.cell 0 Qa Qa | exact hS24.cell 4 Qa Qa) Qa ?_)))
    refine Qj Qa Qa h25 (Qi Qa YF Qa (Qj Qa Qa h25 (Qp Qa QK (by first | exact hS24.cell 0 Qa Qa | exact hS24.cell 4 Qa Qa) Qa ?_)))
    refine Qj Qa Qa h25 (Jj Qa Qa Qa (Qx Qa h25 Qa Qa (Qd Qa Qa (Q3 46 Qa (fun h26=> ?_) (fun h26=> ?_)))))
    ·have hge:o.id≤y.1:=h26
     refine Qj Qa Qa (Q8 h26) (Qi Qa Rg Qa (Qj Qa Qa (Q8 h26) (Qp Qa QK (hS24.cell 4 Qa Qa) Qa (Qj Qa Qa (Q8 h26) (V6 5 Qa Qa Qa Qa (q:=32) Qa Qa (Qj Qa Qa (Q8 h26) (Xt Qa Qa Qa (Qx Qa (Q8 h26) Qa Qa (Qh (Qe (Qk [7,6,5,4,3,2,8,51] Qa (Qw Qa (fun h27=> ?_) (fun h27=> ?_)))))))))))))
     ·have hk:o.dO%32≠19:=h27
      refine Qg ?_
      have hS28:=hS24.drew
      refine QT [0,1,2,3,4,5,6,7,8,9,10,11] [6,8,9,11] Jk (by kernel_rfl) ?_
      refine QQ Qa Qa Qa Zt (QH Qa Qa Qa (Qn Qa WV (hS28.cell 2 Qa Qa)) (QQ Qa Qa Qa YF (QH Qa Qa Qa (Qn Qa QK (hS28.cell 4 Qa Qa)) (QQ Qa Qa Qa Rf (QH Qa Qa Qa (Qn Qa AP (hS28.cell 4 Qa Qa)) (Xb Qa Qa Qa Qa Qa Qa ?_))))))
      refine Q4 KD Qa (HH (hS28.sp [] Qa) o.b) Qa ?_
      rintro _ w29 ⟨rfl,hS29⟩
      replace hS29:=hS29.jn Qa Qa
      refine Xn (.skip (by kernel_rfl) (.cons (.inl ⟨rfl,(Qn Qa QK (hS29.cell 4 Qa Qa))⟩) (.cons (.inl ⟨rfl,(Qn Qa WV (hS29.cell 2 Qa Qa))⟩) .nil))) ?_
      refine QG Qa Qa Qa (fun _=>(Wb Qa KU N3 Rv Qa)) ?_
      refine Xb Qa Qa Qa Qa Qa Qa ?_
      refine Xc shC [(o.id,List.replicate 64 o.b)] hS29 Qa underlying22 Bo Qa Qa Qa Qa (by rfl) rfl ?_
      intro b30 w30 hS30
      refine Xn (.skip (by kernel_rfl) (.skip (by kernel_rfl) (.cons (.inl ⟨rfl,(Qn Qa WV (hS30.cell 3 Qa Qa))⟩) .nil))) ?_
      refine Xb Qa Qa Qa Qa Qa Qa ?_
      refine XV shC 2 hS30 Qa Qa Qa (hS30.rd 0 Qa (by simp)) underlying22 underlying22 (by intro k hk; cases hk) M1 Qa (by simp only[List.length_cons,List.length_nil];omega) Qa (by simp only[List.length_cons,List.length_nil];omega) ?_
      intro v31 w31 hS31; dsimp only[List.set]at hS31
      have h1v31:v31.oneCell'=true:=hS31.own_one 2 Qa
      refine Xn (XC (by kernel_rfl)) ?_
      refine QQ Qa Qa Qa Zt (Xb Qa Qa Qa Qa Qa Qa ?_)
      (refine QC hS31 Qa Qa NP (by assumption) (i:=3) Qa (Xe Qa) ?_)
      intro w32 hS33; dsimp only[List.set]at hS33
      refine ZG (XC (by kernel_rfl)) ?_
      refine VC.nil (Qe (Qk [7,6,5,4,3,2,8] Qa (Qb (Qc Qa Qa (Qh ?_)))))
      exact JL (zb7 Qa Qa Qa Qa Qa Qa Qa) ⟨_,_,_,_,rfl,hS33.pick [2,3,1,4,5,6,7] Qa,(by rw[if_pos ⟨hd,hge,hk⟩]),(by have q1:dn.toNat≤1:=(by cases dn<;>decide);first | (subst hd; simp only[List.length_append,List.length_cons,List.length_nil,Bool.toNat_true,Bool.toNat_false]at *;omega) | omega)⟩
     refine Qr ?_
     exact JL (zb7 rfl rfl rfl rfl rfl rfl rfl) ⟨_,_,_,_,rfl,hS24.pick [1,2,0,3,4,5,6] rfl,(by rw[if_neg (by rintro⟨q1,q2,q3⟩;first | omega | (rw[hd]at q1; cases q1))]),(by have q1:dn.toNat≤1:=(by cases dn<;>decide);(subst hd; simp only[List.length_append,List.length_cons,List.length_nil,Bool.toNat_true,Bool.toNat_false]at *;omega))⟩
    refine Qf Qa Qa (Qv h26) Qa (Qf Qa Qa (Qv h26) Qa (Qf Qa Qa (Qv h26) Qa (Qf Qa Qa (Qv h26) Qa (Qz Qa (Qv h26) Qa Qa (Qh (Qe (Qk [7,6,5,4,3,2,8,51] Qa (QF Qa (Qr ?_)))))))))
    exact JL (zb7 rfl rfl rfl rfl rfl rfl rfl) ⟨_,_,_,_,rfl,hS24.pick [1,2,0,3,4,5,6] rfl,(by rw[if_neg (by rintro⟨q1,q2,q3⟩;first | omega | (rw[hd]at q1; cases q1))]),(by have q1:dn.toNat≤1:=(by cases dn<;>decide);(subst hd; simp only[List.length_append,List.length_cons,List.length_nil,Bool.toNat_true,Bool.toNat_false]at *;omega))⟩
   have hd:dn=true:= by simpa using h25
   refine Qf Qa Qa h25 Qa (Qf Qa Qa h25 Qa (Qf Qa Qa h25 Qa (Qf Qa Qa h25 Qa (Qf Qa Qa h25 Qa (Qz Qa h25 Qa Qa (Qd Qa Qa (Qf Qa Qa Qa Qa (Qf Qa Qa Qa Qa (Qf Qa Qa Qa Qa (Qf Qa Qa Qa Qa (Qz Qa Qa Qa Qa (Qh (Qe (Qk [7,6,5,4,3,2,8,51] Qa (QF Qa (Qr ?_))))))))))))))))
   exact JL (zb7 rfl rfl rfl rfl rfl rfl rfl) ⟨_,_,_,_,rfl,hS24.pick [1,2,0,3,4,5,6] rfl,(by rw[if_neg (by rintro⟨q1,q2,q3⟩;first | omega | (rw[hd]at q1; cases q1))]),(by have q1:dn.toNat≤1:=(by cases dn<;>decide);(subst hd; simp only[List.length_append,List.length_cons,List.length_nil,Bool.toNat_true,Bool.toNat_false]at *;omega))⟩
  rintro _ w23 ⟨sv8,out2,dn2,yb,rfl,hS23,hm,hol2⟩
  have h2ov:sv8.oneCell'=true:=hS23.own_one 0 Qa
  have hdn2:dn2.toNat≤1:= by cases dn2<;>decide
  refine Qg (Qb (Qi Qa YE Qa (Qp Qa QK (hS23.cell 2 Qa Qa) Qa (Qi Qa YF Qa (Qp Qa QK (hS23.cell 4 Qa Qa) Qa (Xt Qa Qa Qa (Qh (Qe (Qk [8,7,6,5,4,3,2,67] Qa (Qw Qa (fun h34=> ?_) (fun h34=> ?_)))))))))))
  ·have hne:y.1≠o.id:=h34
   refine Qb (Qi Qa Zt Qa (Qp Qa WV (hS23.cell 1 Qa Qa) Qa (Zg Qa GL Up (hS23.blk 2 Qa) (Xe Qa) Qa Qa (Xc shC [y] hS23 Qa underlying22 Bo Qa Qa Qa Qa (by rfl) rfl ?_))))
   intro b35 w35 hS35
   refine XV shC 1 hS35 Qa Qa Qa (hS35.rd 0 Qa (by simp)) underlying22 underlying22 (by intro k hk; cases hk) M1 Qa (by simp only[List.length_cons,List.length_nil,List.length_append];omega) Qa (by simp only[List.length_cons,List.length_nil,List.length_append];omega) ?_
   intro v36 w36 hS36; dsimp only[List.set]at hS36
   have h1v36:v36.oneCell'=true:=hS36.own_one 1 Qa
   refine Qi Qa Zt Qa ?_
   (refine QC hS36 Qa Qa NP (by assumption) (i:=2) Qa (Xe Qa) ?_)
   intro w37 hS38; dsimp only[List.set]at hS38
   refine Qh (Qq (Qe (Qk [7,6,5,4,3,2] Qa (Qb (Qd Qa Qa (Xq Qa Qa (by omega) (by omega) Qa ?_))))))
   refine Qc Qa Qa (Qh ?_)
   exact QY (L1:=[(2,_),(3,_),(4,_),(5,_),(6,_),(7,intV ((i+1:Nat):Int))]) (Dc Qa Qa Qa Qa Qa Qa) (k1:=l.length -(i+1)) (by omega) ⟨i+1,_,_,_,rfl,rfl,hS38.pick [1,2,4,5,6,7] Qa, by omega,(by rw[chg_m hy hst hm,if_pos hne]),(by first | omega | (rw[List.length_append,List.length_cons,List.length_nil];omega))⟩
  have hne:y.1=o.id:=Decidable.not_not.1 h34
  refine Qr (Qq (Qe (Qb (Qd Qa Qa (Xq Qa Qa (by omega) (by omega) Qa ?_)))))
  refine Qc Qa Qa (Qh ?_)
  exact QY (L1:=[(2,_),(3,_),(4,_),(5,_),(6,_),(7,intV ((i+1:Nat):Int))]) (Dc Qa Qa Qa Qa Qa Qa) (k1:=l.length -(i+1)) (by omega) ⟨i+1,_,_,_,rfl,rfl,hS23.pick [0,1,3,4,5,6] Qa, by omega,(by rw[chg_m hy hst hm,if_neg (fun q=>q hne)]),(by first | omega | (rw[List.length_append,List.length_cons,List.length_nil];omega))⟩
 refine Xu (Q1 (Q1 (QJ (Qe (Qg (Qg (Qb (Qd Qa Qa (XS Qa Qa (Qd Qa Qa (Zz 76 Qa (fun h39=> ?_) (fun h39=> ?_))))))))))))
 ·have hd:dn=false:= by simpa using h39
  refine Qj Qa Qa h39 (Qi Qa Rg Qa (Qj Qa Qa h39 (Qp Qa QK (hS18.cell 3 Qa Qa) Qa (Qj Qa Qa h39 (V6 5 Qa Qa Qa Qa (q:=32) Qa Qa (Qj Qa Qa h39 (Xt Qa Qa Qa (Qx Qa h39 Qa Qa (Qh (Qe (Qk [5,4,3,81] Qa (Qw Qa (fun h40=> ?_) (fun h40=> ?_)))))))))))))
  ·have hk:o.dO%32≠19:=h40
   have hS41:=hS18.drew
   refine QT [0,1,2,3,4,5,6,7,8,9,10,11] [6,8,9,11] Jk (by kernel_rfl) ?_
   refine QQ Qa Qa Qa Zt (QH Qa Qa Qa (Qn Qa WV (hS41.cell 1 Qa Qa)) (QQ Qa Qa Qa YF (QH Qa Qa Qa (Qn Qa QK (hS41.cell 3 Qa Qa)) (QQ Qa Qa Qa Rf (QH Qa Qa Qa (Qn Qa AP (hS41.cell 3 Qa Qa)) (Xb Qa Qa Qa Qa Qa Qa ?_))))))
   refine Q4 KD Qa (HH (hS41.sp [] Qa) o.b) Qa ?_
   rintro _ w42 ⟨rfl,hS42⟩
   replace hS42:=hS42.jn Qa Qa
   refine Xn (.skip (by kernel_rfl) (.cons (.inl ⟨rfl,(Qn Qa QK (hS42.cell 3 Qa Qa))⟩) (.cons (.inl ⟨rfl,(Qn Qa WV (hS42.cell 1 Qa Qa))⟩) .nil))) ?_
   refine QG Qa Qa Qa (fun _=>(Wb Qa KU N3 Rv Qa)) ?_
   refine Xb Qa Qa Qa Qa Qa Qa ?_
   refine Xc shC [(o.id,List.replicate 64 o.b)] hS42 Qa underlying22 Bo Qa Qa Qa Qa (by rfl) rfl ?_
   intro b43 w43 hS43
   refine Xn (.skip (by kernel_rfl) (.skip (by kernel_rfl) (.cons (.inl ⟨rfl,(Qn Qa WV (hS43.cell 2 Qa Qa))⟩) .nil))) ?_
   refine Xb Qa Qa Qa Qa Qa Qa ?_
   refine XV shC 1 hS43 Qa Qa Qa (hS43.rd 0 Qa (by simp)) underlying22 underlying22 (by intro k hk; cases hk) M1 Qa (by simp only[List.length_cons,List.length_nil];omega) Qa (by simp only[List.length_cons,List.length_nil];omega) ?_
   intro v44 w44 hS44; dsimp only[List.set]at hS44
   have h1v44:v44.oneCell'=true:=hS44.own_one 1 Qa
   refine Xn (XC (by kernel_rfl)) ?_
   refine QQ Qa Qa Qa Zt (Xb Qa Qa Qa Qa Qa Qa ?_)
   (refine QC hS44 Qa Qa NP (by assumption) (i:=2) Qa (Xe Qa) ?_)
   intro w45 hS46; dsimp only[List.set]at hS46
   refine ZG (XC (by kernel_rfl)) ?_
   refine VC.nil (Qe (Qk [5,4] Qa (Qg ?_)))
   have h4:=hS46.own_one 1 Qa
   have hones: ∀v:Value,v.oneCell'=true→ZV [strV t,v]=true:= by intro v q1; simp [ZV,Value.oneCell']at q1⊢; exact q1
   have hone2:=hones _ h4
   refine Qb (Zg Qa JF Wc (hS46.blk 2 Qa) (Xe Qa) Qa Qa ?_)
   (refine QX hS46 Qa Qa Wc Qa (by assumption) (i:=3) Qa (by decide) ?_)
   intro w47 hS48; dsimp only[List.set]at hS48
   refine Qh (Qe (Qo ?_))
   refine LF (.inr Qa) Qa (Gc Qa JF Wc (by first | exact hS48.blk 2 Qa | exact hS48.blk 3 Qa | exact hS48.blk 4 Qa | exact hS48.blk 5 Qa) (by first | decide | exact Xe Qa | (simp;done) | omega) Qa) ?_
   exact⟨_,rfl,_, by rw[Rj (by omega) hst (by omega),if_pos ⟨hd,hk⟩]<;>rfl, by rw[Rj (by omega) hst (by omega),if_pos ⟨hd,hk⟩]; exact hS48.pick [1,6] Qa⟩
  refine Qr (Qe (Qg ?_))
  have h4:=hS18.own_one 0 Qa
  have hones: ∀v:Value,v.oneCell'=true→ZV [strV t,v]=true:= by intro v q1; simp [ZV,Value.oneCell']at q1⊢; exact q1
  have hone2:=hones _ h4
  refine Qb (Zg Qa JF Wc (hS18.blk 1 Qa) (Xe Qa) Qa Qa ?_)
  (refine QX hS18 Qa Qa Wc Qa (by assumption) (i:=2) Qa (by decide) ?_)
  intro w49 hS50; dsimp only[List.set]at hS50
  refine Qh (Qe (Qo ?_))
  refine LF (.inr Qa) Qa (Gc Qa JF Wc (by first | exact hS50.blk 1 Qa | exact hS50.blk 2 Qa | exact hS50.blk 3 Qa | exact hS50.blk 4 Qa) (by first | decide | exact Xe Qa | (simp;done) | omega) Qa) ?_
  exact⟨_,rfl,_, by rw[Rj (by omega) hst (by omega),if_neg (by rintro⟨q1,q2⟩;omega)]<;>rfl, by rw[Rj (by omega) hst (by omega),if_neg (by rintro⟨q1,q2⟩;omega)]; exact hS50.pick [0,5] rfl⟩
 have hd:dn=true:= by simpa using h39
 refine Qf Qa Qa h39 Qa (Qf Qa Qa h39 Qa (Qf Qa Qa h39 Qa (Qf Qa Qa h39 Qa (Qz Qa h39 Qa Qa (Qh (Qe (Qk [5,4,3,81] Qa (QF Qa (Qr (Qe (Qg ?_)))))))))))
 have h4:=hS18.own_one 0 Qa
 have hones: ∀v:Value,v.oneCell'=true→ZV [strV t,v]=true:= by intro v q1; simp [ZV,Value.oneCell']at q1⊢; exact q1
 have hone2:=hones _ h4
 refine Qb (Zg Qa JF Wc (hS18.blk 1 Qa) (Xe Qa) Qa Qa ?_)
 (refine QX hS18 Qa Qa Wc Qa (by assumption) (i:=2) Qa (by decide) ?_)
 intro w51 hS52; dsimp only[List.set]at hS52
 refine Qh (Qe (Qo ?_))
 refine LF (.inr Qa) Qa (Gc Qa JF Wc (by first | exact hS52.blk 1 Qa | exact hS52.blk 2 Qa | exact hS52.blk 3 Qa | exact hS52.blk 4 Qa) (by first | decide | exact Xe Qa | (simp;done) | omega) Qa) ?_
 exact⟨_,rfl,_, by rw[Rj (by omega) hst (by omega),if_neg (by rintro⟨q1,q2⟩;(rw[hd]at q1; cases q1))]<;>rfl, by rw[Rj (by omega) hst (by omega),if_neg (by rintro⟨q1,q2⟩;(rw[hd]at q1; cases q1))]; exact hS52.pick [0,5] rfl⟩
