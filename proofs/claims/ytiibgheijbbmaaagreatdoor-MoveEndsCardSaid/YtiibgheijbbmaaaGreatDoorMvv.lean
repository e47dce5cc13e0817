/- move: Give -/
import Derived.Test.YtiibgheijbbmaaaGreatDoorMvt
import Derived.Test.YtiibgheijbbmaaaGreatDoorMv1
import Derived.Lib.AppendStr
import Derived.Test.YtiibgheijbbmaaaGreatDoorWire
import Derived.Test.YtiibgheijbbmaaaGreatDoorCellP
set_option linter.unusedVariables false
set_option maxRecDepth 100000
namespace Go.Proofs.YtiibgheijbbmaaaGreatDoor
open Go.RowKit M Proofs.Tryz
def MapG (f:Int×PgD→PgD) (l:AL PgD) (dn:Int→Prop) (g:Int→Option Value):Prop:= ∀i,(dn i→g i=Yj (l.map fun e=>(e.1,f e)) i)∧(¬dn i→g i=Yj l i)
theorem OM {l:AL PgD} {i:Int} {v:Value} (h:Yj l i=some v): ∃p,QN l i=some p∧v=Rr p:= by
  unfold Yj at h
  obtain⟨p,h1,h2⟩:=Option.map_eq_some_iff.1 h
  exact⟨p,h1,h2.symm⟩
section
variable {f:Int×PgD→PgD} {l:AL PgD} {dn:Int→Prop} {g:Int→Option Value} {k:Int} {p:PgD}
theorem MapG.start:MapG f l (fun _=>False) (Yj l):= fun i=>⟨fun q=>q.elim, fun _=>rfl⟩
theorem CB (i:Int):Yj (l.map fun e=>(e.1,f e)) i=(QN l i).map fun x=>Rr (f (i,x)):= by
  unfold Yj; rw[Hl,Option.map_map];rfl
theorem MapG.next (h:MapG f l dn g) (hp:QN l k=some p):MapG f l (fun q=>dn q∨q=k) (upd g k (some (Rr (f (k,p))))):= fun i=> by
  unfold upd
  by_cases e:i=k
  · subst e
    exact⟨fun _=> by rw[if_pos Qa,CB,hp];rfl, fun q=>absurd (.inr Qa) q⟩
  · exact⟨fun q=> by rw[if_neg e]; exact(h i).1 (q.resolve_right e), fun q=> by rw[if_neg e]; exact(h i).2 fun r=>q (.inl r)⟩
theorem MapG.skip (h:MapG f l dn g) (hp:QN l k=some p) (hf:f (k,p)=p) (hd: ¬dn k):MapG f l (fun q=>dn q∨q=k) g:= fun i=> by
  by_cases e:i=k
  · subst e
    exact⟨fun _=> by rw[(h i).2 hd,CB,hp];unfold Yj; rw[hp]; show some (Rr p)=some (Rr (f (i,p))); rw[hf], fun q=>absurd (.inr Qa) q⟩
  · exact⟨fun q=>(h i).1 (q.resolve_right e), fun q=>(h i).2 fun r=>q (.inl r)⟩
theorem MapG.fin (h:MapG f l dn g) (hd: ∀k v,g k=some v→dn k):g=Yj (l.map fun e=>(e.1,f e)):= by
  funext i
  by_cases q:dn i
  · exact(h i).1 q
  · have h2:=(h i).2 q
    cases e:g i with
    | some v=> exact absurd (hd i v e) q
    | none=>
      rw[e]at h2
      rw[CB]
      unfold Yj at h2
      cases z:QN l i with
      | none=>rfl
      | some x=> rw[z]at h2; cases h2
end
section
variable {E:EnD} {D:DS} {C:CS}
theorem Rb (h:Z5 E=false∨QP E≠[]∨E.active=true):Wi E=(7,E):= by unfold Wi; rw[if_pos h]
theorem PO (h: ¬(Z5 E=false∨QP E≠[]∨E.active=true)) (h2:(QS E 1 (E.move+1)).1≠0):Wi E=QS E 1 (E.move+1):= by unfold Wi; rw[if_neg h,if_pos h2]
theorem CU (h: ¬(Z5 E=false∨QP E≠[]∨E.active=true)) (h2:(QS E 1 (E.move+1)).1=0) {E1:EnD} (e:(QS E 1 (E.move+1)).2=E1):Wi E=(0,{E1 with active:=true,next:=0,ses:=E1.ses.map fun s=>{s with pages:=s.pages.map fun e=>(e.1,{e.2 with sent:=0})}}):= by unfold Wi; rw[if_neg h,if_neg (by omega),e]
end
theorem LE {w:World} {e:Nat} {E:EnD} {F:Th} (hS:Sat w [Xs e E,F]) (hG:Ent F WireG) (hO:Ent F (Glob 0)) (hw: ∀x,E.ses=some x→SeW x) (hm:Xy (E.move+1)):
    Calls prog 30 #[ptrV e 0] w (Ret fun v w'=>v=intV (Wi E).1∧Sat w' [Xs e (Wi E).2,F]):= by
 refine Qy func30 Qa ntmps30 Qa ?_
 have hm1:=hm
 unfold Xy at hm1
 refine Qg (Qb (Qc Qa Qa (Qh (Qe (Qg (Qg (Qb (Qd Qa Qa (Q4 Vb Qa (HA (hS.sp [0] Qa)) Qa ?_)))))))))
 rintro _ w1 ⟨rfl,hS1⟩
 replace hS1:=hS1.jn Qa Qa
 refine XS Qa Qa (Qd Qa Qa (Zz 9 Qa (fun h2=> ?_) (fun h2=> ?_)))
 ·have hr:Z5 E=false:= by simpa using h2
  refine Qf Qa Qa h2 Qa (Qf Qa Qa h2 Qa (Qf Qa Qa h2 Qa (Qf Qa Qa h2 Qa (Qx Qa h2 Qa Qa (Qd Qa Qa (Qf Qa Qa Qa Qa (Qf Qa Qa Qa Qa (Qf Qa Qa Qa Qa (Qf Qa Qa Qa Qa (Qx Qa Qa Qa Qa (Qh (Qe (Qk [0,2,20] Qa (QL Qa (Qg (Qb (Qc Qa Qa (Qh (Qe (Qo (Qm (Q7 (.inr Qa) Qa Qa ?_))))))))))))))))))))))
  exact⟨_,rfl, by rw[Rb (.inl hr)], by rw[Rb (.inl hr)]; exact hS1.pick [0,1] Qa⟩
 have hrun: ¬Z5 E=false:= by simpa using h2
 have hu:=(JO hrun).1
 obtain⟨x,hx⟩:=(JO hrun).2.2.2
 refine Qj Qa Qa h2 (Qd Qa Qa (Qj Qa Qa h2 (Q4 VQ Qa (J6 (hS1.sp [0] Qa) hw) Qa ?_)))
 rintro _ w3 hS3
 replace hS3:=hS3.jn Qa Qa
 have h1v:=hS3.own_one 0 Qa
 refine Qj Qa Qa h2 (X3 0 hS3 underlying33 Qa Qa Qa (Qj Qa Qa h2 (We Qa Qa Qa (Qz Qa h2 Qa Qa (Qd Qa Qa (Q3 15 Qa (fun h4=> ?_) (fun h4=> ?_)))))))
 ·have hms:QP E≠[]:= by intro q; have q1:=h4; rw[q]at q1; simp at q1
  refine Qf Qa Qa (Q8 h4) Qa (Qf Qa Qa (Q8 h4) Qa (Qf Qa Qa (Q8 h4) Qa (Qf Qa Qa (Q8 h4) Qa (Qx Qa (Q8 h4) Qa Qa (Qh (Qe (Qk [0,2,20] Qa (QL Qa (Qg (Qb (Qc Qa Qa (Qh (Qe (Qo (Qm (Q7 (.inr Qa) Qa Qa ?_))))))))))))))))
  exact⟨_,rfl, by rw[Rb (.inr (.inl hms))], by rw[Rb (.inr (.inl hms))]; exact hS3.pick [1,2] Qa⟩
 have hmn:QP E=[]:= by cases q:QP E with | nil=>rfl | cons a l=>(exfalso; have q1:=h4; rw[q]at q1; simp at q1;try omega)
 refine Qj Qa Qa (Qv h4) (Qd Qa Qa (Qj Qa Qa (Qv h4) ?_))
 obtain⟨dp,cv,sv,ov,hS5⟩:=QW (hS3.pick [1,0,2] rfl)
 refine Ql Qa Qa (Qj Qa Qa (Qv h4) (Qi Qa Zo Qa (Qj Qa Qa (Qv h4) (Qp Qa JT (hS5.cell 0 Qa Qa) Qa (Qz Qa (Qv h4) Qa Qa (Qh (Qe (Qk [0,2,20] Qa (Xd Qa (fun h6=> ?_) (fun h6=> ?_))))))))))
 ·have hac:E.active=true:= by simpa using h6
  refine Qg (Qb (Qc Qa Qa (Qh (Qe (Qo (Qm (Q7 (.inr Qa) Qa Qa ?_)))))))
  exact⟨_,rfl, by rw[Rb (.inr (.inr hac))], by rw[Rb (.inr (.inr hac))]; exact Qu (E:=E) ((hS5.pick [0,1,2,3,4,6] Qa))⟩
 have hok: ¬(Z5 E=false∨QP E≠[]∨E.active=true):= by rintro(q | q | q); exact hrun q; exact q hmn; exact absurd q (by simpa using h6)
 refine Qr (Qe (Qg (Qg (Qb (Qd Qa Qa (Qd Qa Qa (Ql Qa Qa (Qi Qa WH Qa (Qp Qa QK (hS5.cell 0 Qa Qa) Qa (Xq Qa Qa (by omega) (by omega) Qa ?_))))))))))
 have hS7:=Qu (E:=E) (hS5.pick [0,1,2,3,4,5,6] Qa)
 refine Q4 KC Qa (UG (hS7.sp [0] Qa) (hG.starL 1 Qa) (hO.starL 1 Qa) hu (k:=1) (m:=E.move+1) (XJ (by decide)) hm) Qa ?_
 rintro _ w8 ⟨rfl,hS8⟩
 replace hS8:=hS8.jn Qa Qa
 refine Qc Qa Qa (Qh (Qe (Qk [0,2,3] Qa (Qg (Qb (Qd Qa Qa (Xt Qa Qa Qa (Qh (Qe (Qw Qa (fun h9=> ?_) (fun h9=> ?_)))))))))))
 ·have hbad:(QS E 1 (E.move+1)).1≠0:= by simpa using h9
  refine Qg (Qb (Qd Qa Qa (Qc Qa Qa (Qh (Qe (Qo (Qm (Q7 (.inr Qa) Qa Qa ?_))))))))
  exact⟨_,rfl, by rw[PO hok hbad], by rw[PO hok hbad]; exact hS8.pick [0,2] Qa⟩
 have hn0:(QS E 1 (E.move+1)).1=0:= by simpa using h9
 refine Qr (Qe (Qg ?_))
 obtain⟨D1,C1,e2⟩:=Ym hn0 hu
 rw[e2]at hS8
 obtain⟨dp1,cv1,sv1,ov1,hS10⟩:=QW (hS8.pick [0,1,2] rfl)
 dsimp only at hS10; rw[hx]at hS10
 obtain⟨sb,sm,rfl,hS11⟩:=Zn (hS10.pick [3,0,1,2,4,5,6] rfl)
 refine Qb (Qd Qa Qa (Qd Qa Qa (Ql Qa Qa (Qi Qa Zo Qa ?_))))
 (refine QC hS11 Qa Qa Jy (by rfl) (i:=2) Qa (Xe Qa) ?_)
 intro w12 hS13; dsimp only[List.set]at hS13
 refine Ql Qa Qa (Qi Qa Re Qa ?_)
 (refine QC hS13 Qa Qa YH (by rfl) (i:=2) Qa (Xe Qa) ?_)
 intro w14 hS15; dsimp only[List.set]at hS15
 refine Qh (Qe (Qk [0,2] Qa (Qg (Qg (Qb (Qd Qa Qa (Ql Qa Qa (Qi Qa Xm Qa (Qp Qa Z8 (hS15.cell 2 Qa Qa) Qa (Ql Qa Qa (Qi Qa ZH Qa (Qp Qa ZZ (hS15.cell 0 Qa Qa) Qa (Kd 1 hS15 underlying89 Qa Qa Qa ?_)))))))))))))
 intro RR left0 w16 hS16; dsimp only[List.set]at hS16
 refine Qh (Qe (QD (XD (fun K0 E0 W0=> ∃(g:Int→Option Value) (dn:Int→Prop) (cur:Option Int) (left:Nat),K0=left∧E0=[(0,ptrV e 0),(44,ptrV RR 0)]∧Sat W0 [YK Za sm RR g dn cur left,QR sb [strV x.state,intV x.count,.map (some sm)],QR e (U6 dp1 cv1 (ptrV sb 0) ov1 {E with D:=D1,cell:=some C1,kind:=1,move:=E.move+1,active:=true,next:=0}),dT dp1 D1,JR dp1 cv1 (some C1),Rt ov1 E.off,F]∧(MapG (fun e=>{e.2 with sent:=0}) x.pages dn g)) (L0:=[(0,_),(44,_)]) (left0) (FZ Qa Qa) ⟨_,_,_,left0,rfl,rfl,hS16.pick [1,0,2,3,4,5,7] Qa,MapG.start⟩ ?_)))
 rintro _ _ w17 ⟨g,dn,cur,left,rfl,rfl,hS17,hmg⟩
 refine Qg (Qb (RQ 0 hS17 keysInt.inj Qa Qa Qa (fun hdone=> ?_) (fun k v9 left2 wN hleft hgk hnd hSN=> ?_)))
 ·refine Q9 Qa Qa Qa (Qh (Qe (Qg (QF Qa (Xu (Q1 (Q1 (QJ (Qe (Qg (Qb (Qc Qa Qa (Qh (Qe (Qo (Q7 (.inr Qa) Qa Qa ?_))))))))))))))))
  have hz:=Vq (hS17.pick [0,1,2,3,4,5,6] Qa)
  rw[hmg.fin hdone]at hz
  exact⟨_,rfl, by rw[CU hok hn0 e2], by rw[CU hok hn0 e2]; exact Qu (E:={{E with D:=D1,cell:=some C1,kind:=1,move:=E.move+1,active:=true,next:=0}with ses:=E.ses.map fun s=>{s with pages:=s.pages.map fun e=>(e.1,{e.2 with sent:=0})}}) (by rw[hx]; exact(Xg (s:={x with pages:=x.pages.map fun e=>(e.1,{e.2 with sent:=0})}) (hz.reorder [1,0,2,3,4,5,6] Qa)).reorder [1,2,3,0,4,5] Qa)⟩
 dsimp only[List.set]at hSN
 obtain⟨p,hp,rfl⟩:=OM (((hmg k).2 hnd).symm.trans hgk)
 refine Q9 Qa Qa Qa (Qh (Qe (Qg (QL Qa (Qr (Qe (QD (Qg (Qb (Ke 0 hSN Qa hgk Qa Qa (Q9 Qa Qa Qa (Q9 Qa Qa Qa (Xk hSN Wg Qa Qa ?_)))))))))))))
 intro b18 w18 hS18
 clear hSN
 refine Qc Qa Qa ?_
 (refine QX hS18 Qa Qa Vl Qa (by rfl) (i:=0) Qa (by decide) ?_)
 intro w19 hS20; dsimp only[List.set]at hS20
 refine Qh (Qe (Qg (Qb (Qi Qa Gv Qa ?_))))
 (refine QC hS20 Qa Qa YH (by rfl) (i:=0) Qa (Xe Qa) ?_)
 intro w21 hS22; dsimp only[List.set]at hS22
 refine Qh (Qe ?_)
 have hS23:=hS22.drew
 refine QT [0,1,2,3,4,5,6,7,8,9] [9] Jk (by kernel_rfl) ?_
 refine QM Qa Qa Qa (Xw Qa Qa Qa (QQ Qa Qa Qa Xm (QH Qa Qa Qa (Qn Qa Z8 (hS23.cell 3 Qa Qa)) (Xw Qa Qa Qa (QQ Qa Qa Qa ZH (QH Qa Qa Qa (Qn Qa ZZ (hS23.cell 2 Qa Qa)) (QM Qa Qa Qa (QH Qa Qa Qa (Jh Qa qay Vl (hS23.blk 0 Qa) (Xe Qa) Qa) (Xb Qa Qa Qa Qa Qa Qa ?_)))))))))
 refine UT (k:=k) (v:=Rr {p with sent:=0}) 1 hS23 keysInt underlying89 Qa hgk Qa Qa Qa ?_
 intro w24 hS24; dsimp only[List.set]at hS24
 refine ZG (XC (by kernel_rfl)) ?_
 exact VC.nil (Qq (QY (L1:=[(0,_),(44,_)]) (FZ Qa Qa) (k1:=left2) (by omega) ⟨_,_,_,_,rfl,rfl,hS24.pick [1,2,3,4,5,6,7] Qa,hmg.next hp⟩))
section
variable {P:Program} {n:Nat} {ops:Array Oper} {Q:Exit→Act→World→Prop} {rest:List Oper} {L:Env} {w:World} {d:Nat} {ty:TypeId} {pos:String} {aft:Array Edge} {As:List Th} {T e b:Nat} {cs:List Value}
theorem BG (l:List UInt8):Lib.strCells ⟨l.toArray⟩=byC.cells l:= by
  rw[Ce]
  simp [Lib.strCells,Zf]
theorem SJ {t t2:TypeId} {s x:Operand} {v:Value} {bs l2:List UInt8} (i:Nat) (hS:Sat w As) (hi:As[i]? =some (By e v bs)) (hs:M.look L s=some v) (hx:M.look L x=some (strV l2)) (hu:P.underlying t=some (.slice e)) (hu2:P.underlying t2=some .string)
    (hif:(P.info? e).map (fun i=>(i.zero,i.size,i.bytes))=some (some (.int .u8 0),1,1)) (hm:bs.length+l2.length≤140737488355328) (hd:Nat.blt d n=true)
    (hk: ∀v' w',Sat w' (As.set i (By e v' (bs++l2)))→wl P n ops Q rest ((d,v')::L) w'):wl P n ops Q (⟨some d,.call ⟨.builtin .append, #[s,x], #[t,t2]⟩,ty,pos,aft,none⟩::rest) L w:= by
  obtain⟨hown,hnil⟩:=hS.buf i hi
  obtain⟨foot,hO,hfoot⟩:=Fg hown
  obtain⟨inf,hi1,hi2,hi3,hi4⟩:=info_parts hif
  have hsz:(⟨l2.toArray⟩:ByteArray).size=l2.length:= by simp [ByteArray.size]
  refine Zk Qa hd (R:= fun v w'=>Sat w' (As.set i (By e v (bs++l2)))) (fun a ha=> ?_) (fun v w' hR=>hk v w' hR)
  obtain⟨v1,w1,hrun,foot',o1,o2,o3,_⟩:=BZ (P:=P) (o:=⟨some d,.call ⟨.builtin .append, #[s,x], #[t,t2]⟩,ty,pos,aft,none⟩) (a:=a) t t2 s x rfl (ha.eval hs) (ha.eval hx) hO hu hu2 (by intro k hk; cases hk) hif rfl (by decide) (m:=l2.length) (news:=byC.cells l2)
    (fun w1=> by simp [strV,Builtin.lenOf,hsz]) (fun w1 _=> by have :=Lib.run_firstCells_string (P:=P) w1 1 ⟨l2.toArray⟩; rw[hsz,BG]at this; exact this) (byC.cells_len l2) (Yh (byC.cells_one l2)) (by omega) (by omega)
  obtain⟨v2,w2,hr2,hown2,_,hiff⟩:=Lib.run_append_own_string (P:=P) w 0 t t2 ty e inf hu hu2 hi1 hi2 hi3 hi4 v bs.length (byC.cells bs) hown ⟨l2.toArray⟩ (by rw[hsz];unfold maxLen;omega) (by rw[hsz];omega) (Nat.zero_le _)
  rw[hsz]at hown2 hiff
  have hex:(execOp a.eval ⟨some d,.call ⟨.builtin .append, #[s,x], #[t,t2]⟩,ty,pos,aft,none⟩).run P w= .ok (.value v2) w2:= by
    have hr3:(Builtin.append_ #[t,t2] ty #[v,strV l2]).run P w= .ok v2 w2:=hr2
    simp [execOp,ha.eval hs,ha.eval hx,resolve,invoke,builtin,hr3]
  have heq:v1=v2∧w1=w2:= by
    rcases hrun with h | ⟨h,_⟩
    · rw[hex]at h; cases h; exact⟨rfl,rfl⟩
    · rw[hex]at h; cases h
  obtain⟨rfl,rfl⟩:=heq
  refine⟨v1,w1,.inl hex, ?_⟩
  have hfoot': ∀k,v1.ownBlock=some k→k∈foot':= by
    intro k hk'
    obtain⟨_,⟨e1,_,_⟩ | ⟨b1,c1,s1,e1,_,_,_,rfl⟩⟩:=o1
    · rw[e1]at hk'; cases hk'
    · rw[e1]at hk'; simp [Value.ownBlock]at hk'; simp [hk']
  refine hS.step i hi fun F ⟨eF,_⟩=>⟨fun k=>v1.ownBlock=some k,⟨rfl, ?_, fun q=> ?_⟩, fun k hk'=> ?_,o2.agree fun k hk'=> ?_⟩
  · rw[List.length_append,←RowC.cells_app,←BG l2]; exact hown2
  · obtain⟨q1,q2⟩:=List.append_eq_nil_iff.1 q
    exact hiff.2 ⟨hnil q1, by rw[q2];rfl⟩
  · rcases o3 k (hfoot' k hk')with q | q
    · exact .inl (by rw[eF]; exact(hfoot k).1 q)
    · exact .inr q
  · exact .inl (by rw[eF]; exact(hfoot k).1 hk')
end
theorem ne1 : (Tryz.f138.name == "runtime.NumGoroutine") = false := by kernel_rfl
theorem ne2:Tryz.f138.body.isNone=true:= by kernel_rfl
theorem ne3:Extern.findNext Tryz.f138=none:= by kernel_rfl
theorem ne4:Extern.find Tryz.f138=some Extern.AbiNoEscape.same:= by kernel_rfl
theorem bl_info:(prog.info? 149).map (fun j=>decide (j.size≠0))=some true:= by kernel_rfl
theorem bl_lies:liesAt prog prog.depth 149 (2/ prog.cellsOf 149) 0 149 1=true:= by kernel_rfl
theorem LY:prog.cellsOf 5=1:= by kernel_rfl
theorem LX: ∃j,prog.info? 149=some j∧j.size≠0:= by
  have h:=bl_info
  cases hq:prog.info? 149 with
  | none=> rw[hq]at h; cases h
  | some j=> rw[hq]at h; exact⟨j,rfl, by simpa using h⟩
theorem AK {w:World} {b:Nat} {v:Value} {F:Th} (hS:Sat w [Yq 149 b [.pointer none,v],F]):
    Calls prog 126 #[ptrV b 0] w (Ret fun u_ w'=>u_= .tuple #[]∧Sat w' [Yq 149 b [ptrV b 0,v],F]):= by
 obtain⟨j,hj,hj0⟩:=LX
 refine Qy func126 Qa ntmps126 Qa ?_
 refine Qg (Qb (Qd Qa Qa (Ql Qa Qa (Qi Qa Gx Qa (Qp Qa FR (hS.tcell 0 Qa (o:=0) Qa) Qa (ZN underlying147 Qa Qa Qa (Qh (Qe (QL Qa (Qb (Qd Qa Qa (Qd Qa Qa (NA Qa underlying147 underlying174 hj hj0 (hS.tshape 0 Qa) (by simp) Qa ?_)))))))))))))
 refine SH func138 ne1 ne2 ne3 ne4 Qa Qa ?_
 refine Ta Qa underlying174 underlying147 hj (hS.tshape 0 Qa) bl_lies Qa (Ql Qa Qa (Qi Qa Gx Qa (Tr hS Qa Qa sz_147 (by rfl) (i:=0) Qa (by simp) ?_)))
 intro w1 hS1; dsimp only[List.set]at hS1
 exact Qh (H5 (.inl Qa) Qa (⟨_,Qa,Qa,hS1⟩))
theorem AJ {w:World} {b:Nat} {v:Value} {F:Th} (hS:Sat w [Yq 149 b [ptrV b 0,v],F]):
    Calls prog 126 #[ptrV b 0] w (Ret fun u_ w'=>u_= .tuple #[]∧Sat w' [Yq 149 b [ptrV b 0,v],F]):= by
 obtain⟨j,hj,hj0⟩:=LX
 refine Qy func126 Qa ntmps126 Qa ?_
 exact Qg (Qb (Qd Qa Qa (Ql Qa Qa (Qi Qa Gx Qa (Qp Qa FR (hS.tcell 0 Qa (o:=0) Qa) Qa (ZJ underlying147 Qa Qa Qa (Qh (Qe (QF Qa (Qg (Qb (Qd Qa Qa (Ql Qa Qa (Qi Qa Gx Qa (Qp Qa FR (hS.tcell 0 Qa (o:=0) Qa) Qa (Qd Qa Qa (MZ underlying147 hj Qa Qa Qa (Qh (Qe (Qk [19] Qa (QF Qa (Qr (H5 (.inl Qa) Qa (⟨_,Qa,Qa,hS⟩))))))))))))))))))))))))
def S0 (b:Nat) (bs:Bs):Th:=S8 fun q:Value×Value=>starL [Y4 (q.1= .pointer none∨q.1=ptrV b 0),Yq 149 b [q.1,q.2],By 5 q.2 bs]
theorem B0 {w:World} {b:Nat} {bs:Bs} {As:List Th} (h:Sat w (S0 b bs::As)): ∃p v,(p= .pointer none∨p=ptrV b 0)∧Sat w (Yq 149 b [p,v]::By 5 v bs::As):= by
  obtain⟨⟨p,v⟩,h⟩:=h.ex
  obtain⟨h1,h2⟩:=h.flat.pure_elim
  exact⟨p,v,h1,h2⟩
theorem Bz {w:World} {b:Nat} {bs:Bs} {As:List Th} {p v:Value} (hp:p= .pointer none∨p=ptrV b 0) (h:Sat w (Yq 149 b [p,v]::By 5 v bs::As)):Sat w (S0 b bs::As):=
  Sat.ex_intro (p,v) (Sat.fold (As:=[Y4 _,Yq 149 b [p,v],By 5 v bs]) (Sat.pure_intro hp h))
theorem qaq {w:World} {b:Nat} {p v:Value} {F:Th} (hp:p= .pointer none∨p=ptrV b 0) (hS:Sat w [Yq 149 b [p,v],F]):Calls prog 126 #[ptrV b 0] w (Ret fun u w'=>u= .tuple #[]∧Sat w' [Yq 149 b [ptrV b 0,v],F]):= by
  rcases hp with rfl | rfl
  · exact AK hS
  · exact AJ hS
theorem Sz {w:World} {As:List Th} {e:Nat} (h:Sat w As):Sat w (By e (.slice none 0 0) []::As):=
  h.new (Only.refl [] w) (A:=By e (.slice none 0 0) []) (F':= fun k=>Value.ownBlock (.slice none 0 0)=some k) ⟨rfl,World.ownsRow_nil w 0 e 1, fun _=>rfl⟩ (by simp [Value.ownBlock])
theorem U2 {w:World} {b:Nat} {bs:Bs} {F:Th} (hS:Sat w [S0 b bs,F]) (s:Bs) (hl:bs.length+s.length≤70368744177663):
    Calls prog 105 #[ptrV b 0,strV s] w (Ret fun v w'=>v= .tuple #[intV (s.length:Int),.nilIface]∧Sat w' [S0 b (bs++s),F]):= by
 obtain⟨p,v,hp,hS⟩:=B0 hS
 refine Qy func105 Qa ntmps105 Qa ?_
 refine Qg (Qb (Qc Qa Qa (Qc Qa Qa (Qh (Qe (Qg (Qb (Qd Qa Qa (Q4 cal_126 Qa (qaq hp (hS.sp [0] Qa)) Qa ?_)))))))))
 rintro _ w1 ⟨rfl,hS1⟩
 replace hS1:=hS1.jn Qa Qa
 refine Qh (Qe (Qg (Qb (Qd Qa Qa (Qd Qa Qa (Ql Qa Qa (Qi Qa Vy Qa (Qp Qa MT (hS1.tcell 0 Qa (o:=1) Qa) Qa (Qd Qa Qa (SJ 1 hS1 Qa Qa Qa underlying98 underlying9 L8 (by omega) Qa ?_))))))))))
 intro v2 w2 hS2; dsimp only[List.set]at hS2
 obtain⟨_,_,_,h1v2,_⟩:=hS2.bufv 1 rfl
 refine Ql Qa Qa (Qi Qa Vy Qa (Tr hS2 Qa Qa sz_98 (by assumption) (i:=0) Qa (by simp) ?_))
 intro w3 hS3; dsimp only[List.set]at hS3
 exact Qh (Qe (Qk [1,4,5] Qa (Qg (Qb (Qd Qa Qa (Zs underlying9 Qa Qa (Qc Qa Qa (Qc Qa Qa (Qh (Qe (Qo (ZI (.inr Qa) Qa Qa Qa (⟨_,Qa,Qa,Bz (.inr Qa) (hS3.pick [0,1,2] Qa)⟩)))))))))))))
theorem AI {w:World} {b:Nat} {bs:Bs} {F:Th} (hS:Sat w [S0 b bs,F]) (hl:bs.length≤70368744177663):
    Calls prog 107 #[ptrV b 0] w (Ret fun v w'=>v=strV bs∧Sat w' [F]):= by
 obtain⟨p,v,hp,hS⟩:=B0 hS
 obtain⟨ao,cap,rfl,h1v,hq⟩:=hS.bufv 1 rfl
 have hao:ao=none∨cap≠0:= by rcases hq with⟨h,_⟩ | ⟨_,_,h,_⟩; exact .inl h; exact .inr h
 refine Qy func107 Qa ntmps107 Qa ?_
 refine Qg (Qb (Qc Qa Qa (Qh (Qe (Qg ?_)))))
 have hS1:=hS.drew
 refine QT [0,1,2,3,5,6,7,8,9,4,10,11] [4,10] Jk (by kernel_rfl) ?_
 refine QM Qa Qa Qa (Xw Qa Qa Qa (QQ Qa Qa Qa Vy (QH Qa Qa Qa (Qn Qa MT (hS1.tcell 0 Qa (o:=1) Qa)) (QM Qa Qa Qa (Xw Qa Qa Qa (QQ Qa Qa Qa Vy (QH Qa Qa Qa (Qn Qa MT (hS1.tcell 0 Qa (o:=1) Qa)) (QG Qa Qa Qa (fun _=>(Dx underlying98 Qa)) ?_))))))))
 refine Xb Qa Qa Qa Qa Qa Qa ?_
 refine RP Qa hao Qa (Xn (.cons (.inl ⟨rfl,(Qn Qa MT (hS1.tcell 0 Qa (o:=1) Qa))⟩) (XC (by kernel_rfl))) ?_)
 refine Xb Qa Qa Qa Qa Qa Qa ?_
 refine Dd 1 hS1 Qa Qa Qa underlying168 LY (by omega) Qa ?_
 intro w2 hS2; dsimp only[List.eraseIdx]at hS2
 refine Xn (XC (by kernel_rfl)) ?_
 exact Jr Qa Qa Qa (VC.nil (Qe (Qk [2] Qa (Qo (Q7 (.inr Qa) Qa Qa (⟨_,Qa,Qa,hS2.tail⟩))))))
theorem wNum_sp {w:World} {F:Th} (hS:Sat w [F]) (hG:Ent F WireG) (n:Int) (hn:Xy n) (h0:0≤n):
    Calls prog 122 #[intV n] w (Ret fun v w'=>v=strV (Xi n)∧Sat w' [F]):= by
 refine Qy func122 Qa ntmps122 Qa ?_
 refine Qg (Qb (Qc Qa Qa (Qh (Qe (Qg (Qg (Qb (Qd Qa Qa (Xz Qa Qa Qa (Qh (Qe (Qw Qa (fun h1=> ?_) (fun h1=> ?_)))))))))))))
 ·exact absurd h1 (by omega)
 refine Qr (Qe (Qg (Qb (Qd Qa Qa (Q4 U1 Qa (YZ (hS.sp [] Qa) (hG.starL 0 Qa) n hn) Qa ?_)))))
 rintro _ w2 ⟨rfl,hS2⟩
 replace hS2:=hS2.jn Qa Qa
 exact Qc Qa Qa (Qh (Qe (Qo (Q7 (.inr Qa) Qa Qa (⟨_,Qa,Qa,hS2⟩)))))
abbrev lstP (l:AL PgD):Bs:=l.flatMap fun e=>Xi e.1++Xi e.2.ver
theorem Pu: ∀{l:AL PgD},(∀e∈l,Xy e.1∧Xy e.2.ver)→(lstP l).length≤42*l.length
  | [],_=> by simp [lstP]
  | e::l,h=> by
    have h1:=h e List.mem_cons_self
    have h2:=Wt h1.1
    have h3:=Wt h1.2
    have h4:=Pu (l:=l) fun f hf=>h f (List.mem_cons_of_mem _ hf)
    show(lstP (e::l)).length≤42*(l.length+1)
    unfold lstP at h4⊢
    rw[List.flatMap_cons,List.length_append,List.length_append];omega
theorem EQ {l:AL PgD} {i:Nat} {e:Int×PgD} (h:l[i]? =some e):lstP (l.take (i+1))=lstP (l.take i)++(Xi e.1++Xi e.2.ver):= by
  unfold lstP
  rw[List.take_add_one,h,List.flatMap_append]; simp
theorem SeW.lens {s:SeD} (h:SeW s) (i:Nat):(lstP (s.pages.take i)).length≤344064:= by
  have :=Pu (l:=s.pages.take i) fun e he=>⟨(h.pg e (List.mem_of_mem_take he)).1,(h.pg e (List.mem_of_mem_take he)).2.1⟩
  have :=h.num
  rw[List.length_take]at *;omega
theorem V2 {s:Bs} (h:s.length≤100000000000):(HO s).length≤s.length+40:= by
  have h1:=(WQ (n:=(s.length:Int)) (by unfold Xy;omega)).1
  unfold HO
  simp only[List.length_append,List.length_cons,List.length_nil];omega
theorem Ih (s:SeD):Xf s=HO s.state++Xi (s.pages.length:Int)++lstP s.pages:=rfl
theorem KZ {s:SeD} (h:SeW s):(Xf s).length≤1400000:= by
  have h1:=V2 (s:=s.state) (by have :=h.st;omega)
  have h2:=Wt (n:=(s.pages.length:Int)) (by have :=h.num;unfold Xy;omega)
  have h3:=h.lens s.pages.length
  rw[List.take_length]at h3
  have :=h.st
  rw[Ih,List.length_append,List.length_append];omega
theorem CA {l:AL PgD} (hs:Srt l) {i:Nat} {e:Int×PgD} (h:l[i]? =some e):(Yj l e.1).getD (.agg #[strV [],intV 0,intV 0,.bool false])=Rr e.2:= by
  unfold Yj; rw[Hk hs (List.mem_of_getElem? h)];rfl
theorem Fq {l:AL PgD} {i:Nat} {e:Int×PgD} (h:l[i]? =some e):(XY l)[i]? =some e.1:= by unfold XY; rw[List.getElem?_map,h];rfl
theorem Ra (l:AL PgD):(XY l).length=l.length:= by unfold XY; rw[List.length_map]
theorem Ly {w:World} {sb sm:Nat} {s:SeD} {F:Th} (hS:Sat w [QR sb [strV s.state,intV s.count,.map (some sm)],XI Za sm (Yj s.pages),F]) (hG:Ent F WireG) (hw:SeW s):
    Calls prog 99 #[ptrV sb 0] w (Ret fun v w'=>v=strV (Xf s)∧Sat w' [QR sb [strV s.state,intV s.count,.map (some sm)],XI Za sm (Yj s.pages),F]):= by
 refine Qy func99 Qa ntmps99 Qa ?_
 have hst:=hw.st
 have hnm:=hw.num
 have htl:=V2 (s:=s.state) (by omega)
 have hnl:=Wt (n:=(s.pages.length:Int)) (by unfold Xy;omega)
 refine Qg (Qb (Qc Qa Qa (Qh (Qe (Qg (Qb (Tu hS AS (cs:=[.pointer none,.slice none 0 0]) Qa Qa ?_)))))))
 intro bb wB hSB
 have hSC:=Bz (.inl Qa) ((Sz hSB).perm (List.Perm.swap _ _ _))
 refine Qh (Qe (Qg ?_))
 have hS1:=hSC.drew
 refine QT [0,1,2,3,5,6,7,8,4,9,10,11,12] [4,10,12] Jk (by kernel_rfl) ?_
 refine QM Qa Qa Qa (Xw Qa Qa Qa (QQ Qa Qa Qa Gw (QH Qa Qa Qa (Qn Qa Zw (hS1.cell 1 Qa Qa)) (QM Qa Qa Qa (Xw Qa Qa Qa (QQ Qa Qa Qa ZH (QH Qa Qa Qa (Qn Qa ZZ (hS1.cell 1 Qa Qa)) (Xb Qa Qa Qa Qa Qa Qa ?_))))))))
 refine Q4 LU Qa (NF (hS1.sp [] Qa) (hG.starL 3 Qa) s.state (by omega)) Qa ?_
 rintro _ w2 ⟨rfl,hS2⟩
 replace hS2:=hS2.jn Qa Qa
 refine Xn (.cons (.inl ⟨rfl,(Qn Qa ZZ (hS2.cell 1 Qa Qa))⟩) (XC (by kernel_rfl))) ?_
 refine QH Qa Qa Qa (Nf 2 hS2 underlying89 keysInt.inj Qa Qa (C9 hw.srt)) (Xb Qa Qa Qa Qa Qa Qa ?_)
 refine Q4 cal_122 Qa (wNum_sp (hS2.sp [] Qa) (hG.starL 3 Qa) (s.pages.length:Int) (by unfold Xy;omega) (by omega)) Qa ?_
 rintro _ w3 ⟨rfl,hS3⟩
 replace hS3:=hS3.jn Qa Qa
 refine Xn (XC (by kernel_rfl)) ?_
 refine QG Qa Qa Qa (fun _=>(YV Qa Qa (by omega))) ?_
 refine Xb Qa Qa Qa Qa Qa Qa ?_
 refine Q4 Nz Qa (U2 (hS3.sp [0] Qa) (HO s.state++Xi (s.pages.length:Int)) (by simp only[List.length_append,List.length_nil];omega)) Qa ?_
 rintro _ w4 ⟨rfl,hS4⟩
 replace hS4:=hS4.jn Qa Qa
 refine Xn (XC (by kernel_rfl)) ?_
 refine VC.nil (Qe (Qk [0,2,3] Qa (Qg (Qg (Qb (Qd Qa Qa ?_))))))
 refine Q4 Nt Qa (CM (hS4.sp [1,2] Qa) hw.srt (by have :=hw.num;omega)) Qa ?_
 rintro _ w5 hS5
 replace hS5:=hS5.jn Qa Qa
 have h1v:=hS5.own_one 0 Qa
 obtain⟨ao,cap,hv6,_⟩:=hS5.own_shape 0 rfl
 obtain rfl:=hv6
 refine Xj underlying33 Qa Qa (Qd Qa Qa (Qh (Qe (QD ?_))))
 refine XD (fun K0 E0 W0=> ∃(i:Nat),K0=s.pages.length -i∧E0=[(0,ptrV sb 0),(3,ptrV bb 0),(20,.slice ao (XY s.pages).length cap),(21,intV ((XY s.pages).length:Int)),(22,intV (i:Int))]∧Sat W0 [S0 bb ((HO s.state++Xi (s.pages.length:Int))++lstP (s.pages.take i)),rowT inC (.slice ao (XY s.pages).length cap) (XY s.pages),QR sb [strV s.state,intV s.count,.map (some sm)],XI Za sm (Yj s.pages),F]∧(i≤s.pages.length)) (L0:=[(0,_),(3,_),(20,_),(21,_),(22,_)]) (s.pages.length -0) (SC Qa Qa Qa Qa Qa) ⟨0,rfl,rfl,(by rw[List.take_zero, show lstP []=[] from rfl,List.append_nil]; exact hS5.pick [3,0,1,2,4] Qa), by omega⟩ ?_
 rintro _ _ w7 ⟨i,rfl,rfl,hS7,hi⟩
 have hll:=hw.lens i
 refine Qg (Qb (Xz Qa Qa Qa (Qh (Qe (Qg (Qw Qa (fun h8=> ?_) (fun h8=> ?_)))))))
 ·rw[Ra]at h8
  obtain⟨y,hy⟩: ∃y,s.pages[i]? =some y:=⟨_,WU (by omega)⟩
  have hyi:=Fq hy
  have hyp:=hw.pg y (List.mem_of_getElem? hy)
  have hy1:=Wt hyp.1
  have hy2:=Wt hyp.2.1
  refine Qr (Qe (Qg (QD (Qg (Qb (ZP inC 1 i hS7 Qa Qa Qa (by first | rfl | omega) hyi K7 Qa ?_))))))
  intro bx9 capx9 hvx9
  refine ZW 1 i 0 hS7 Qa hvx9 Qa Qa hyi QK Qa Qa (Qc Qa Qa (Qh (Qe ?_)))
  have hS10:=hS7.drew
  refine QT [0,2,3,4,5,6,7,8,1,9,10,11] [1,9,11] Jk (by kernel_rfl) ?_
  refine QM Qa Qa Qa (QM Qa Qa Qa (Xw Qa Qa Qa (QQ Qa Qa Qa ZH (QH Qa Qa Qa (Qn Qa ZZ (hS10.cell 2 Qa Qa)) (QM Qa Qa Qa (QH Qa Qa Qa (JK (k:=y.1) 3 hS10 keysInt underlying89 Qa Qa Qa Wg (CA hw.srt hy)) (QG Qa Qa Qa (fun _=>(K6 CV Qa Qa)) ?_)))))))
  refine Xb Qa Qa Qa Qa Qa Qa ?_
  refine Q4 U1 Qa (YZ (hS10.sp [] Qa) (hG.starL 4 Qa) y.1 hyp.1) Qa ?_
  rintro _ w11 ⟨rfl,hS11⟩
  replace hS11:=hS11.jn Qa Qa
  rw[show Lib.itoa y.1++[59]=Xi y.1 from rfl]
  refine Xn (.cons (.inl ⟨Qa,(JK (k:=y.1) 3 hS11 keysInt underlying89 Qa Qa Qa Wg (CA hw.srt hy))⟩) (.cons (.inl ⟨Qa,(Qn Qa ZZ (hS11.cell 2 Qa Qa))⟩) .nil)) (Xb Qa Qa Qa Qa Qa Qa ?_)
  refine Q4 U1 Qa (YZ (hS11.sp [] Qa) (hG.starL 4 Qa) y.2.ver hyp.2.1) Qa ?_
  rintro _ w12 ⟨rfl,hS12⟩
  replace hS12:=hS12.jn Qa Qa
  rw[show Lib.itoa y.2.ver++[59]=Xi y.2.ver from rfl]
  refine Xn (XC (by kernel_rfl)) ?_
  refine QG Qa Qa Qa (fun _=>(YV Qa Qa (by omega))) ?_
  refine Xb Qa Qa Qa Qa Qa Qa ?_
  refine Q4 Nz Qa (U2 (hS12.sp [0] Qa) (Xi y.1++Xi y.2.ver) (by simp only[List.length_append]at *;omega)) Qa ?_
  rintro _ w13 ⟨rfl,hS13⟩
  replace hS13:=hS13.jn Qa Qa
  refine Xn (XC (by kernel_rfl)) ?_
  refine VC.nil (Qq (Qe (Qk [22,21,20,3,0] Qa (Qb (Xq Qa Qa (by omega) (by omega) Qa ?_)))))
  refine Qd Qa Qa (Qh ?_)
  exact QY (L1:=[(0,_),(3,_),(20,_),(21,_),(22,intV ((i+1:Nat):Int))]) (SC Qa Qa Qa Qa Qa) (k1:=s.pages.length -(i+1)) (by omega) ⟨i+1,rfl,rfl,(by rw[EQ hy,←List.append_assoc]; exact hS13.pick [0,1,2,3,4] Qa), by omega⟩
 rw[Ra]at h8
 refine Xu (Q1 (Q1 (QJ (Qe (Qg (Qb ?_))))))
 refine Q4 Ny Qa (AI (hS7.sp [0] Qa) (by simp only[List.length_append]at *;omega)) Qa ?_
 rintro _ w14 ⟨rfl,hS14⟩
 replace hS14:=hS14.jn Qa Qa
 refine Qc Qa Qa (Qh (Qe (Qo (Q7 (.inr Qa) Qa Qa ?_))))
 exact⟨_,rfl,(by rw[List.take_of_length_le (by omega)];rfl),hS14.pick [1,2,3] Qa⟩
