/- cells: Commit -/
import Derived.Test.YtkgjmhcdacidoaaGreatDoorCe5
import Derived.Test.YtkgjmhcdacidoaaGreatDoorLv1
import Derived.Test.YtkgjmhcdacidoaaGreatDoorSk
import Derived.Test.YtkgjmhcdacidoaaGreatDoorDl
import Derived.Test.YtkgjmhcdacidoaaGreatDoorTr3
set_option linter.unusedSectionVars false
set_option linter.unusedVariables false
set_option maxRecDepth 100000
namespace Go.Proofs.YtkgjmhcdacidoaaGreatDoor
open Go.RowKit M Proofs.Tryz
variable [Inhabited SlW]
def Hn (x y:OneD) (k:Bs):Option Bs:= match x.writes k with
  | none=>y.writes k
  | some v=> if y.par.isNone=true∧v=[]then none else some v
def ComW (x y:OneD) (dn:Bs→Prop) (f:Bs→Option Bs):Prop:= ∀k,(dn k→f k=Hn x y k)∧(¬dn k→f k=y.writes k)
theorem ComW.next {x y:OneD} {dn:Bs→Prop} {f:Bs→Option Bs} {k v:Bs} (h:ComW x y dn f) (hk:x.writes k=some v):ComW x y (fun q=>dn q∨q=k) (Yp {y with writes:=f} k v).writes:= fun q=> by
  show(_→QO f k _ q=_)∧(_→QO f k _ q=_)
  by_cases e:q=k
  · subst e
    refine⟨fun _=> ?_, fun hq=>absurd (.inr U) hq⟩
    rw[Qu];unfold Hn; rw[hk]
  · rw[Qz e]
    exact⟨fun hq=>(h q).1 (hq.resolve_right e), fun hq=>(h q).2 fun p=>hq (.inl p)⟩
theorem ComW.fin {x y:OneD} {dn:Bs→Prop} {f:Bs→Option Bs} (h:ComW x y dn f) (hd: ∀k v,HV x.writes k=some v→dn k):f=Hn x y:= by
  funext k
  by_cases q:dn k
  · exact(h k).1 q
  · rw[(h k).2 q]
    unfold Hn
    cases e:x.writes k with
    | none=>rfl
    | some v=> exact absurd (hd k _ (WW e)) q
theorem FI {κ β:Type} {f:κ→Option β} {a b:κ} {u v:Option β} (h:b≠a):QO (QO f a u) b v=QO (QO f b v) a u:= by
  funext j
  by_cases e:j=a
  · subst e; rw[Qz (fun q=>h q.symm),Qu,Qu]
  · by_cases e2:j=b
    · subst e2; rw[Qu,Qz e,Qu]
    · rw[Qz e2,Qz e,Qz e,Qz e2]
theorem Cp {w:World} {c:Nat} {C:CeD} {T:Nodes} {last:Int} {F:Th} {id:Int} {x:OneD} {nd:NodeD} (hS:Sat w [Yb c C,F]) (hW:CeW C T) (hI:TrI T last) (hx:C.all id=some x) (h0:id≠0) (hnd:T id=some nd) {y:OneD} (hy:C.all nd.par=some y) (hky:0≤y.kids∧y.kids≤100000000000) (hkx:x.kids=0) (hor:x.order=[]) (hlg:x.logs= fun _=>none):
    Calls prog 32 #[ptrV c 0,intV id] w (Ret fun v w'=>v=intV 0∧Sat w' [Yb c ⟨C.ma,QO (QO C.all nd.par (some {y with writes:=Hn x y,kids:=y.kids -1})) id none⟩,F]):= by
 obtain⟨y',hy',hxp'⟩:=hW.up h0 hnd hx
 have hxp:x.par=some y.ad:= by rw[hy]at hy'; cases hy'; exact hxp'
 have hpi:nd.par≠id:= by have :=(hI.par hnd h0).1;omega
 have hpar:Tt x.par=ptrV y.ad 0:= by rw[hxp];rfl
 replace hS:=Jd hS
 refine Qn func32 U ntmps32 U ?_
 refine Qe (Qa (Qd U U (Qf (Qc (Qe (Qa (Qb U U (Qi U U (Qg U JU U (Qo U HL (by first | assumption | exact hS.cell 0 U U) U ?_))))))))))
 refine Qb U U (X8 (k:=id) 1 hS keysInt underlying89 U U U VY (u:=(ptrV x.ad 0)) (XJ hx) U (Qd U U (Qf (Qc (Qe (Qw (Qe (Qa (Qb U U (XI underlying88 U U U (Qb U U (Qj U U U (Qb U U (Qj U U U (Qi U U (Qj U U U (Qg U Jk U (Qj U U U (Qo U Y4 (Kp hS 2 U hx hxp) U (Qj U U U (XI underlying88 U U U (QC U U U U (Qd U U (Qf (Qc (Qh [1,0,4,5,18] U (QL U (Qe (Qa (Qb U U (Qi U U (Qg U Kx U (Qo U QM (U0 hS 2 U hx 1 U) U (J6 U U U (Qd U U (Qf (Qc (Qh [1,0,4,5,28] U (Qt U (fun h1=> ?_) (fun h1=> ?_))))))))))))))))))))))))))))))))))))))))
 ·exact absurd h1 (by omega)
 refine Qs (Ql (Qc (Qe (Qe (Qa (Qb U U (Qi U U (Qg U Gj U (Qo U PR (U0 hS 2 U hx 4 U) U ?_)))))))))
 have hlz:Sat _ _:=ZY (hS.pick [2,0,1,3] U) hx
 refine Xo 3 hlz underlying96 U U U (Qb U U (Qf (Qc (Qh [1,0,4,5,37,38,39] U (Qw (Xe (fun K0 E0 W0=> ∃(q:Nat),K0=q∧E0=[(0,ptrV c 0),(1,intV id),(5,ptrV x.ad 0),(37,x.ov),(38,intV (x.order.length:Int)),(39,intV 0)]∧Sat W0 [QE c [.map (some C.ma)],Q6 QX C.ma (XC OneD.ad C.all),X6 Wc C.all,F]) (L0:=[(0,_),(1,_),(5,_),(37,_),(38,_),(39,_)]) (0) (G4 U U U U U U) ⟨0,rfl,rfl,hS.pick [0,1,2,3] U⟩ ?_))))))
 rintro _ _ w2 ⟨q,rfl,rfl,j2⟩
 refine Qe (Qa (Xn U U U (Qf (Qc (Qe (Qt U (fun h3=> ?_) (fun h3=> ?_)))))))
 ·exact absurd h3 (by rw[hor];decide)
 refine QT (Qq (Qq (Qy (Qc (Qe (Qe ?_))))))
 have j4:=ZY (j2.pick [2,0,1,3] U) hx
 rw[hxp]at j4
 have hyx:QO C.all id none nd.par=some y:= by rw[Qz hpi]; exact hy
 refine Qa (Qb U U (Qi U U (Qg U UV U (Qo U UE (by first | assumption | exact j4.cellF 0 U U | exact j4.cell 7 U U) U ?_))))
 refine Jw 1 j4 underlying95 U U U ?_
 intro RR left0 wR hSR; dsimp only[List.set]at hSR
 refine Qf (Qc (Qh [5,1,0,65] U (Qw ?_)))
 rw[←Wk hyx]at hSR
 refine Xe (fun K0 E0 W0=> ∃(dn:Bs→Prop) (cur:Option Bs) (left:Nat) (f:Bs→Option Bs),K0=left∧E0=[(0,ptrV c 0),(1,intV id),(5,ptrV x.ad 0),(65,ptrV RR 0)]∧Sat W0 [blkF x.ad [ptrV y.ad 0,intV x.kids,.map (some x.mw),.map (some x.ml),x.ov,.map (some x.mv),.map (some x.ms)],Jt Zl x.mw RR (HV x.writes) dn cur left,Q6 Zl x.ml (HV x.logs),rowT VQ x.ov x.order,Q6 Zl x.mv (HV x.vals),Q6 Zl x.ms (fun _=>none),X6 Wc (QO (QO C.all id none) nd.par (some {y with writes:=f})),QE c [.map (some C.ma)],Q6 QX C.ma (XC OneD.ad C.all),F]∧(ComW x y dn f)) (L0:=[(0,_),(1,_),(5,_),(65,_)]) (left0) (Vj U U U U) ⟨_,_,_,y.writes,rfl,rfl,hSR.pick [0,1,2,3,4,5,6,7,8,9] U, fun k=>⟨fun q=>q.elim, fun _=>rfl⟩⟩ ?_
 rintro _ _ w5 ⟨dn,cur,left,f,rfl,rfl,j5,hcm⟩
 refine Qe (Qa (Yk 1 j5 keysStr.inj U U U (fun hdone=> ?_) (fun k v9 left2 wN hleft hgk hnd9 hSN=> ?_)))
 ·refine Qp U U U (Qf (Qc (Qe (QL U (QT (Qq (Qq (Qy (Qc (Qe (Qe ?_)))))))))))
  have hz1:=W2 (j5.pick [1,0,2,3,4,5,6,7,8,9] U)
  have hfw:=hcm.fin hdone; subst hfw
  rw[hlg]at hz1
  refine Qa (Qb U U (Qi U U (Qg U fo_99_3 U (Qo U UE (by first | assumption | exact hz1.cellF 1 U U | exact hz1.cell 7 U U) U ?_))))
  refine Jw 2 hz1 underlying95 U U U ?_
  intro RS left1 wS hSS; dsimp only[List.set]at hSS
  clear hz1
  refine Qf (Qc (Qh [5,1,0,82] U (Qw (Xe (fun K0 E0 W0=> ∃(dn:Bs→Prop) (cur:Option Bs) (left:Nat),K0=left∧E0=[(0,ptrV c 0),(1,intV id),(5,ptrV x.ad 0),(82,ptrV RS 0)]∧Sat W0 [Jt Zl x.ml RS (HV (fun _=>none)) dn cur left,blkF x.ad [ptrV y.ad 0,intV x.kids,.map (some x.mw),.map (some x.ml),x.ov,.map (some x.mv),.map (some x.ms)],Q6 Zl x.mw (HV x.writes),rowT VQ x.ov x.order,Q6 Zl x.mv (HV x.vals),Q6 Zl x.ms (fun _=>none),X6 Wc (QO (QO C.all id none) nd.par (some {y with writes:=Hn x y})),QE c [.map (some C.ma)],Q6 QX C.ma (XC OneD.ad C.all),F]) (L0:=[(0,_),(1,_),(5,_),(82,_)]) (left1) (Vj U U U U) ⟨_,_,_,rfl,rfl,hSS.pick [2,1,0,3,4,5,6,7,8,9] U⟩ ?_))))
  rintro _ _ w6 ⟨dn,cur,left,rfl,rfl,j6⟩
  refine Qe (Qa (Yk 0 j6 keysStr.inj U U U (fun hdone2=> ?_) (fun k v9 left2 wN hleft hgk hnd9 hSN=> ?_)))
  ·refine Qp U U U (Qf (Qc (Qe (QL U (QT (Qq (Qq (Qy (Qc (Qe ?_))))))))))
   have hz2:=W2 (j6.pick [0,1,2,3,4,5,6,7,8,9] U)
   rw[←hlg,←hpar]at hz2
   rw[FI hpi]at hz2
   have hz3:=Wf (T:=QO C.all nd.par (some {y with writes:=Hn x y})) (i:=id) (by rw[Qz (fun e=>hpi e.symm)]; exact hx) (hz2.pick [1,2,0,3,4,5,6,7,8,9] U)
   rw[←WI (k:=nd.par) (y:={y with writes:=Hn x y}) hy U]at hz3
   have hz4:=J2 (C:=C.up nd.par {y with writes:=Hn x y}) (hz3.pick [1,2,0,3] U)
   have hx4:(C.up nd.par {y with writes:=Hn x y}).all id=some x:= by show QO C.all nd.par _ id=_; rw[Qz (fun e=>hpi e.symm)]; exact hx
   refine Qa (Qb U U (Qb U U (Qb U U ?_)))
   have hC7:=hz4.sp [0] U
   refine Q0 EH U (DO (y:={y with writes:=Hn x y}) hC7 hx4 Qu hxp (fun e=>hpi e.symm) hky) U ?_
   rintro _ w7 j7
   replace j7:=j7.jn U U; clear hC7
   clear hz4
   refine Qf (Qc (Qe (Qa (Qd U U (Qf (Qc (Qh [4] U (Qv (QR (.inr U) U U ?_)))))))))
   have hz5:=j7.pick [0,1] U
   dsimp only[CeD.up]at hz5; rw[Yl]at hz5
   exact⟨_,U,U,hz5⟩
  exact absurd hgk (fun q=> by cases q)
 dsimp only[List.set]at hSN
 obtain⟨s,hs,rfl⟩:=stG_ex hgk
 refine Qp U U U (Qf (Qc (Qe (XD U (Qs (Qc (Qw (Qe (Qa (JG 1 hSN U hgk U U (Qp U U U (Qp U U U (Qd U U (Qd U U (Qf (Qc (Qh [65,5,1,0,8,9] U (Qa (Qb U U (Qi U U (Qg U Jk U (Qo U Y4 (by first | assumption | exact hSN.cellF 0 U U | exact hSN.cell 7 U U) U ?_))))))))))))))))))))))
 refine Qb U U (Qb U U (Q0 EI U (Ll (x:={y with writes:=f}) (hSN.sp [6] U) (i:=nd.par) Qu k s) U ?_))
 rintro _ w8 j8
 replace j8:=j8.jn U U
 clear hSN
 rw[Yl]at j8
 exact Qf (Ql (Q5 (L1:=[(0,_),(1,_),(5,_),(65,_)]) (Vj U U U U) (k1:=left2) (by omega) ⟨_,_,_,_,rfl,rfl,j8.pick [1,2,3,4,5,6,0,7,8,9] U,hcm.next hs⟩))
theorem ko_it {w:World} {l c b:Nat} {g:Int→Option Value} {J:List Int→Th} {F:Th} (hS:Sat w [J [],QE c [.map (some b)],Q6 QX b g,F]) (hY:YJ prog l QX (okC g) J):
    Calls prog 152 #[.func (.yield l) #[] #[],ptrV c 0] w (Ret fun v w'=> ∃ks,AllC g ks∧Sat w' [J ks,QE c [.map (some b)],Q6 QX b g,F]):= by
 refine Qn func152 U ntmps152 U ?_
 refine Qe (Qa (Qo U HL (by first | assumption | exact hS.cell 1 U U) U ?_))
 refine Jw 2 hS underlying89 U U U ?_
 intro RR left0 wR hSR; dsimp only[List.set]at hSR
 refine Qf (Qc (Qw (Xe (fun K0 E0 W0=> ∃(dn:Int→Prop) (cur:Option Int) (left:Nat) (ks:List Int),K0=1*left∧E0=[(0,.func (.yield l) #[] #[]),(5,ptrV RR 0)]∧Sat W0 [J ks,Jt QX b RR g dn cur left,QE c [.map (some b)],F]∧(CSt g dn ks)) (L0:=[(0,_),(5,_)]) (1*left0) (G5 U U) ⟨_,_,_,_,rfl,rfl,hSR.reorder [0,2,1,3] U,CSt.start g⟩ ?_)))
 rintro _ _ w1 ⟨dn,cur,left,ks,rfl,rfl,j1,hcs⟩
 refine Qe (Qa (Yk 1 j1 keysInt.inj U U U (fun hdone=> ?_) (fun k v left2 w2 hleft hgk hnd j2=> ?_)))
 ·refine Qp U U U (Qf (Qc (Qe (QL U (QT (Qq (Qq (Qy (ZP (.inl U) U ?_)))))))))
  exact⟨_,rfl,ks,hcs.all hdone, by have hSz:=W2 (j1.reorder [1,0,2,3] U); exact hSz.reorder [1,2,0,3] U⟩
 dsimp only[List.set]at j2
 refine Qp U U U (Qf (Qc (Qe (XD U (Qs (Qc (Qw (Qe (Qa (JG 1 j2 U hgk U U (Qp U U U (Qd U U (Qf (Qc (Qe (WB (Xu U (Xk U) (Xu U (Xk U) (YM U U U (hY _ _ _ _ (hcs.ok hnd hgk) (j2.sp [0] U)) ?_)))))))))))))))))))
 intro w5 j5; replace j5:=j5.jn U U
 refine Xu U (Hi U) (Y5 (Qc (Qh [5,0,13] U (QL U (Qs (Ql ?_))))))
 have hSz:=j5.reorder [0,1,2,3] U; dsimp only[Hc,U1]at hSz
 exact Q5 (L1:=[(0,_),(5,_)]) (G5 U U) (k1:=1*left2) (by omega) ⟨_,_,_,_,rfl,rfl,hSz,hcs.step hnd hgk⟩
theorem ko_sp {w:World} {v0:Value} {F:Th} (hS:Sat w [F]) (h0:v0.oneCell'=true):
    Calls prog 111 #[v0] w (Ret fun v w'=> ∃c,v= .func (.func 152) #[] #[ptrV c 0]∧Sat w' [QE c v0.cells.toList,F]):= by
 refine Qn func111 U ntmps111 U ?_
 refine Qe (Qa (XV hS U U U ?_))
 intro b1 w1 j1
 exact Qd U U (Qf (Qc (Qe (Qa (Zv U U (Qd U U (Qf (Qc (Qv (QR (.inr U) U U (⟨_,U,_,U,j1⟩)))))))))))
theorem itKO (c b:Nat) (g:Int→Option Value):ItI g 152 [ptrV c 0] (Rt c b g):= fun l J X w hS hY=> by
  have h1:=(hS.perm (List.Perm.swap _ _ _)).flat; dsimp only[RX,RW]at h1
  refine(ko_it (h1.reorder [2,0,1,3] U) hY).mono fun e w' h=>h.mono fun v w' ⟨ks,h2,h3⟩=>⟨ks,h2, ?_⟩
  exact(Sat.fold (As:=[QE c [.map (some b)],Q6 QX b g]) (h3.reorder [1,2,0,3] U)).perm (List.Perm.swap _ _ _)
theorem eqL:EqG prog 112 [] (starL []) 0:=⟨cal_112, fun n w X hS=> by
  refine Qn func112 U ntmps112 U ?_
  refine Qe (Qa (Qd U U (Qf (Qc (Qe (Qa (Qb U U (Xc U U U (Qd U U (Qf (Qc (Qv (QR (.inr U) U U ?_)))))))))))))
  exact⟨_,U,U,hS⟩⟩
theorem Fh {w:World} {c:Nat} {C:CeD} {F:Th} (hS:Sat w [Yb c C,F]) (hlen: ∀ks,Came (XC OneD.ad C.all) ks→ks.length≤100000000000):
    Calls prog 73 #[ptrV c 0] w (Ret fun v w'=> ∃ks,AllC (XC OneD.ad C.all) ks∧Sat w' [rowT inC v ((XP ks).filter (fun n=> !decide (n=0))),Yb c C,F]):= by
 replace hS:=Jd hS
 refine Qn func73 U ntmps73 U ?_
 refine Qe (Qa (Qd U U (Qf (Qc (Qe (Qa (Qb U U (Qi U U (Qg U JU U (Qo U HL (by first | assumption | exact hS.cell 0 U U) U ?_))))))))))
 refine Q0 cal_111 U (ko_sp (hS.sp [] U) U) U ?_
 rintro _ w1 ⟨ck,rfl,j1⟩
 replace j1:=j1.jn U U
 have hK:=Sat.fold (As:=[QE ck [.map (some C.ma)],Q6 QX C.ma (XC OneD.ad C.all)]) (j1.pick [0,2,1,3,4] U)
 have hC2:=hK.sp [0] U
 refine Q0 NG U (V9 hC2 cal_152 (itKO ck C.ma (XC OneD.ad C.all)) hlen) U ?_
 rintro _ w2 ⟨ks,hks,j2⟩
 replace j2:=j2.jn U U; clear hC2
 clear hK
 have hkl:(XP ks).length≤100000000000:= by rw[Ji]; exact hlen _ (Came.of_all hks)
 have hE:=j2.emp_intro
 have hC3:=hE.sp [1,0] U
 refine Q0 Gz U (Gt eqL hC3 hkl) U ?_
 rintro _ w3 j3
 replace j3:=j3.jn U U; clear hC3
 clear hE
 refine Qd U U (Qf (Qc (Qv (QR (.inr U) U U ?_))))
 have hz:=(j3.pick [2,0,3,4,5] U).flat; dsimp only[Rt,RX,RW]at hz
 exact⟨_,U,ks,hks,(J2 (hz.pick [3,1,4,2,5] U)).perm (List.Perm.swap _ _ _)⟩
theorem infO: ∃j,prog.info? 99=some j∧j.size≠0:= by
  have h:=sz_99
  unfold ZO at h
  cases q:prog.info? 99 with
  | none=> rw[q]at h; cases h
  | some j=> rw[q]at h; exact⟨j,rfl, by have h2:j.size=7:=Option.some.inj h;omega⟩
theorem LI {C:CeD} {ks:List Int} {k:Int} (h:AllC (XC OneD.ad C.all) ks) (hk:k∈((XP ks).filter (fun n=> !decide (n=0)))):k≠0∧ ∃u,C.all k=some u:= by
  obtain⟨h1,h2⟩:=List.mem_filter.1 hk
  refine⟨by simpa using h2, ?_⟩
  have h3:=(h.mem k).1 ((Ha ks).mem_iff.1 h1)
  cases q:C.all k with
  | some u=> exact⟨u,rfl⟩
  | none=> exact absurd (by unfold XC; rw[q];rfl) h3
theorem N6 {w:World} {c:Nat} {C:CeD} {T:Nodes} {last:Int} {F:Th} {id:Int} {x:OneD} {nd:NodeD} (hS:Sat w [Yb c C,F]) (hW:CeW C T) (hI:TrI T last) (hx:C.all id=some x) (h0:id≠0) (hnd:T id=some nd) {y:OneD} (hy:C.all nd.par=some y) (hky:0≤y.kids∧y.kids≤100000000000) (hkid: ∀j,¬ChildOf T id j) (hlen: ∀ks,Came (XC OneD.ad C.all) ks→ks.length≤100000000000):
    Calls prog 35 #[ptrV c 0,intV id] w (Ret fun v w'=>Sat w' [Yb c ⟨C.ma,QO (QO C.all nd.par (some {y with kids:=y.kids -1})) id none⟩,F]):= by
 obtain⟨y',hy',hxp'⟩:=hW.up h0 hnd hx
 have hxp:x.par=some y.ad:= by rw[hy]at hy'; cases hy'; exact hxp'
 replace hS:=Jd hS
 refine Qn func35 U ntmps35 U ?_
 refine Qe (Qa (Qb U U (Qi U U (Qg U JU U (Qo U HL (by first | assumption | exact hS.cell 0 U U) U ?_)))))
 refine Qb U U (X8 (k:=id) 1 hS keysInt underlying89 U U U VY (u:=(ptrV x.ad 0)) (XJ hx) U (Qd U U (Qf (Qc (Qe (Qe (Qa (Qb U U (XI underlying88 U U U (Qb U U (Qj U U U (Qb U U (Qj U U U (Qi U U (Qj U U U (Qg U Jk U (Qj U U U (Qo U Y4 (Kp hS 2 U hx hxp) U (Qj U U U (XI underlying88 U U U (QC U U U U (Qf (Qc (Qh [1,0,4,22] U (QL U (Qs (Qc (Qe (Qe ?_)))))))))))))))))))))))))))))
 have j1:=J2 (C:=C) (hS.pick [0,1,2,3] U)
 refine Qa (Qb U U (Q0 cal_73 U (Fh (j1.sp [0] U) hlen) U ?_))
 rintro _ w2 ⟨ks,hks,j2⟩
 replace j2:=j2.jn U U
 obtain⟨ar,cr,hvr,_⟩:=j2.own_shape 0 rfl; obtain rfl:=hvr
 have hkl:((XP ks).filter (fun n=> !decide (n=0))).length≤100000000000:=Nat.le_trans (List.length_filter_le _ _) (by rw[Ji]; exact hlen _ (Came.of_all hks))
 first | refine XB underlying22 U U ?_ | refine Xo 0 j2 underlying22 U U U ?_
 refine Qb U U (Qf (Qc (Qw ?_)))
 refine Xe (fun K0 E0 W0=> ∃(q:Nat),K0=((XP ks).filter (fun n=> !decide (n=0))).length -q∧E0=[(0,ptrV c 0),(1,intV id),(4,ptrV x.ad 0),(24,.slice ar ((XP ks).filter (fun n=> !decide (n=0))).length cr),(25,intV (((XP ks).filter (fun n=> !decide (n=0))).length:Int)),(26,intV (q:Int))]∧Sat W0 [Yb c C,rowT inC (.slice ar ((XP ks).filter (fun n=> !decide (n=0))).length cr) ((XP ks).filter (fun n=> !decide (n=0))),F]∧(q≤((XP ks).filter (fun n=> !decide (n=0))).length)) (L0:=[(0,_),(1,_),(4,_),(24,_),(25,_),(26,_)]) (((XP ks).filter (fun n=> !decide (n=0))).length) (G4 U U U U U U) ⟨0,rfl,rfl,j2.pick [1,0,2] U, by omega⟩ ?_
 rintro _ _ w3 ⟨q,rfl,rfl,j3,hi⟩
 refine Qe (Qa (Xn U U U (Qf (Qc (Qe (Qt U (fun h4=> ?_) (fun h4=> ?_)))))))
 ·obtain⟨k,hk⟩: ∃k,((XP ks).filter (fun n=> !decide (n=0)))[q]? =some k:=⟨_,Zd (by omega)⟩
  obtain⟨hk0,u,hu⟩:=LI hks (List.mem_of_getElem? hk)
  obtain⟨nu,hnu⟩:=hW.node hu; obtain⟨z,hz,hup⟩:=hW.up hk0 hnu hu
  have hzx: ¬z.ad=x.ad:= fun e=>hkid k ((hW.child hx hu hnu).1 (by rw[hup,e]))
  refine Qs (Qc (Qe (Qw (Qe (Qa (Xg inC 1 q j3 U U U (by first | rfl | omega) hk Un U ?_))))))
  intro bx5 capx5 hvx5
  refine XY 1 q 0 j3 U hvx5 U U hk QM U U (Qd U U (Qf (Qc (Qe ?_))))
  have j6:=Jd (j3.pick [0,1,2] U)
  refine Qa (Qb U U (Qi U U (Qg U JU U (Qo U HL (by first | assumption | exact j6.cell 0 U U) U ?_))))
  refine Qb U U (X8 (k:=k) 1 j6 keysInt underlying89 U U U VY (u:=ptrV u.ad 0) (XJ hu) U (Qd U U (Qf ?_)))
  have j7:=J2 (C:=C) (j6.pick [0,1,2,3,4] U)
  refine Qc (Qh [26,25,24,4,1,0,6,7] U (Qe (Qa (Qb U U (ZB underlying88 U U U (Qb U U (Qj U U U (Qb U U (Qj U U U (Qi U U (Qj U U U (Qg U Jk U (Qj U U U (Qo U Y4 (Kp (Jd (j7.pick [0,1,2] U)) 2 U hu hup) U (Qj U U U (Qb U U (Qj U U U ?_)))))))))))))))))
  have hzo:=Jd (j7.pick [0,1,2] U)
  obtain⟨jj,hj1,hj2⟩:=infO
  refine PY underlying88 hj1 hj2 (Ph hzo 2 U hz) (Ph hzo 2 U hx) (by show 0<7;decide) (by show 0<7;decide) U U U ?_
  refine QN U U U U (Qf (Qc (Qh [26,25,24,4,1,0,6,45] U (Qt U (fun h8=> ?_) (fun h8=> ?_)))))
  ·exact absurd (by simpa using h8) hzx
  refine Qs (Ql (Qc (Qa (QK U U (by omega) (by omega) U ?_))))
  refine Qb U U (Qf ?_)
  exact Q5 (L1:=[(0,_),(1,_),(4,_),(24,_),(25,_),(26,intV ((q+1:Nat):Int))]) (G4 U U U U U U) (k1:=((XP ks).filter (fun n=> !decide (n=0))).length -(q+1)) (by omega) ⟨q+1,rfl,rfl,j7.pick [0,1,2] U, by omega⟩
 refine QT (Qq (Qq (Qy (Qc (Qa (Qb U U (Qb U U (Qb U U ?_))))))))
 refine Q0 EH U (DO (j3.sp [0] U) hx hy hxp (fun e=> by have :=(hI.par hnd h0).1;omega) hky) U ?_
 rintro _ w9 j9
 replace j9:=j9.jn U U
 exact Qf (ZP (.inl U) U (⟨_,U,j9.pick [0,2] U⟩))
def zN:NodeD:=⟨0,0,0,0,0,false,false⟩
def nd (T:Nodes) (i:Int):NodeD:=(T i).getD zN
theorem UR {T:Nodes} {i:Int} {n:NodeD} (h:T i=some n):nd T i=n:= by unfold nd; rw[h];rfl
def ndA (n:NodeD):Value:= .agg #[intV n.id,intV n.par,intV n.dep,intV n.gue,intV n.el,.bool n.timed,.bool n.short]
def Vn (T:Nodes):Int→Option Value:= fun i=>(T i).map ndA
theorem US {T:Nodes} (i:Int):(Vn T i).getD (.agg #[intV 0,intV 0,intV 0,intV 0,intV 0,.bool false,.bool false])= .agg #[intV (nd T i).id,intV (nd T i).par,intV (nd T i).dep,intV (nd T i).gue,intV (nd T i).el,.bool (nd T i).timed,.bool (nd T i).short]:= by
  unfold Vn nd; cases T i<;>rfl
theorem Mr {T:Nodes} (i:Int):(Vn T i).isSome=(T i).isSome:= by unfold Vn; cases T i<;>rfl
theorem Nk {T:Nodes} {i:Int} {n:NodeD}:upd (Vn T) i (some (ndA n))=Vn (QO T i (some n)):= by
  funext j
  by_cases e:j=i
  · subst e; rw[Z0];unfold Vn; rw[Qu];rfl
  · rw[Wp e];unfold Vn; rw[Qz e]
theorem Pk {T:Nodes} {i:Int}:upd (Vn T) i none=Vn (QO T i none):= by
  funext j
  by_cases e:j=i
  · subst e; rw[Z0];unfold Vn; rw[Qu];rfl
  · rw[Wp e];unfold Vn; rw[Qz e]
structure TrAd where
  t:Nat
  mt:Nat
  c:Nat
  b:Nat
def Zp (a:TrAd) (T:Nodes) (last:Int):Th:=starL [QE a.t [.map (some a.mt),ptrV a.c 0,ptrV a.b 0,intV last],Q6 QX a.mt (Vn T)]
section
variable {w:World} {As:List Th} {a:TrAd} {T:Nodes} {last:Int}
theorem Zk (h:Sat w (Zp a T last::As)):Sat w (QE a.t [.map (some a.mt),ptrV a.c 0,ptrV a.b 0,intV last]::Q6 QX a.mt (Vn T)::As):=h.flat
theorem X1 (h:Sat w (QE a.t [.map (some a.mt),ptrV a.c 0,ptrV a.b 0,intV last]::Q6 QX a.mt (Vn T)::As)):Sat w (Zp a T last::As):=Sat.fold (As:=[QE a.t [.map (some a.mt),ptrV a.c 0,ptrV a.b 0,intV last],Q6 QX a.mt (Vn T)]) h
theorem Sat.blk_as {b:Nat} {cs ds:List Value} (h:Sat w (QE b cs::As)) (e:cs=ds):Sat w (QE b ds::As):=e▸h
end
def RI:RowC NodeD:=⟨fun n=>[intV n.id,intV n.par,intV n.dep,intV n.gue],4, by decide, fun _=>rfl, fun _=>rfl⟩
def QI (T:Nodes) (ids:List Int):List NodeD:=ids.map (nd T)
def FewT (T:Nodes) (ids:List Int):Prop:=IdsOf T ids∧ids.length≤40
theorem FewT.card {T:Nodes} {ids:List Int} (h:FewT T ids) {r:NodeD} (h0:T 0=some r):Card (Vn T) (ids.length+1):= by
  refine⟨0::ids,List.nodup_cons.2 ⟨fun q=>((h.1.2 0).1 q).1 U,h.1.1.imp fun h=> by omega⟩,rfl, fun k=> ?_⟩
  rw[List.mem_cons,h.1.2]
  unfold Vn
  by_cases e:k=0
  · subst e; rw[h0]; simp
  · simp [e]
theorem FewT.came {T:Nodes} {ids:List Int} (h:FewT T ids) {g:Int→Option Value} (hg: ∀i,g i≠none→T i≠none) {ks:List Int} (hk:Came g ks):ks.length≤41:= by
  have h1:ks.length≤(0::ids).length:=Kr hk.nodup fun i hi=> by
    by_cases e:i=0
    · subst e; exact List.mem_cons_self
    · exact List.mem_cons_of_mem _ ((h.1.2 i).2 ⟨e,hg i (hk.has i hi)⟩)
  have :=h.2
  rw[List.length_cons]at h1;omega
theorem FW {ks:List Int} (h:ks.Nodup):(XP ks).Pairwise (· < ·):= by
  have h2:=List.pairwise_mergeSort (le:= fun a b:Int=>decide (a≤b)) (by intro a b c; simp;omega) (by intro a b; simp;omega) ks
  have h3:(XP ks).Nodup:=(Ha ks).nodup_iff.2 h
  exact(h2.and h3).imp fun ⟨a,b⟩=> by simp at a;omega
theorem LH {T:Nodes} {ids ks:List Int} {g:Int→Option Value} (h:FewT T ids) (hg: ∀i,g i=none↔T i=none) (hk:AllC g ks):(XP ks).filter (fun n=> !decide (n=0))=ids:= by
  refine MR ?_ h.1.1 fun i=> ?_
  · exact(FW hk.nodup).sublist List.filter_sublist
  · rw[List.mem_filter,(Ha ks).mem_iff,hk.mem,h.1.2]
    simp only[Bool.not_eq_true',decide_eq_false_iff_not,ne_eq]
    rw[←hg i]
    exact And.comm
theorem KidN.le {T:Nodes} {ids:List Int} {i:Int} {n:Nat} (h:KidN T i n) (hf:FewT T ids):n≤40:= by
  obtain⟨l,h1,h2,h3⟩:=h
  have h4:l.length≤ids.length:=Kr h1 fun j hj=> by
    obtain⟨m,a,b,_⟩:=(h2 j).1 hj
    exact(hf.1.2 j).2 ⟨b, by rw[a]; simp⟩
  have :=hf.2
  omega
theorem CeW.kid40 {C:CeD} {T:Nodes} {ids:List Int} {i:Int} {x:OneD} (h:CeW C T) (hf:FewT T ids) (hx:C.all i=some x):0≤x.kids∧x.kids≤40:= by
  obtain⟨n,h1,h2⟩:=h.kids hx
  have :=h2.le hf
  omega
noncomputable def Up:Nodes:=QO (fun _=>none) 0 (some zN)
theorem FL {w:World} {p:Nat} {F:Th} (hS:Sat w [F]):
    Calls prog 27 #[ptrV p 0] w (Ret fun v w'=> ∃a ma x mp mt ms,v=ptrV a.t 0∧x.par=none∧x.kids=0∧F7 x∧Sat w' [Zp a Up 0,Yb a.c (D7 ma x),WU a.b (YB p mp mt ms),F]):= by
 refine Qn func27 U ntmps27 U ?_
 refine Qe (Qa (Qd U U (Qf (Qc (Qe (Qa (Zg QX hS U ?_)))))))
 intro mt w1 j1
 refine Zw U pl_56_ EZ Wy U U (BY (k:=0) (v:=ndA zN) 0 j1 keysInt underlying58 U U U U ?_)
 intro w2 j2; dsimp only[List.set]at j2; rw[show(fun _:Int=>(none:Option Value))=Vn (fun _=>none) from rfl,Nk]at j2
 refine Qb U U (Q0 cal_45 U (E6 (j2.sp [] U)) U ?_)
 rintro _ w3 ⟨cc,ma,x,rfl,hxp,hxk,hxq,j3⟩
 replace j3:=j3.jn U U
 refine Qb U U (Q0 cal_46 U (LC (j3.sp [] U)) U ?_)
 rintro _ w4 ⟨b,mp,mtt,ms,rfl,j4⟩
 replace j4:=j4.jn U U
 refine Zw U Tw asz_62 zr_62 U U (XV j4 U U U ?_)
 intro tb w5 j5
 exact Qd U U (Qf (Qc (Qv (QR (.inr U) U U (⟨_,U,⟨tb,mt,cc,b⟩,ma,x,mp,mtt,ms,U,hxp,hxk,hxq,X1 (a:=⟨tb,mt,cc,b⟩) (T:=Up) (j5.pick [0,3,2,1,4] U)⟩)))))
theorem Y7 {w:World} {a:TrAd} {T:Nodes} {last:Int} {F:Th} (hS:Sat w [Zp a T last,F]) (id:Int):
    Calls prog 10 #[ptrV a.t 0,intV id] w (Ret fun v w'=>(T id=none∧v= .pointer none∧Sat w' [Zp a T last,F])∨(T id≠none∧ ∃vb,v=ptrV vb 0∧Sat w' [QE vb [ptrV a.t 0,intV id],Zp a T last,F])):= by
 replace hS:=Zk hS
 refine Qn func10 U ntmps10 U ?_
 refine Qe (Qa (Qd U U (Qf (Qc (Qe (Qe (Qa (Qb U U (Qi U U (Qg U Wb U (Qo U J3 (by first | assumption | exact hS.cell 0 U U) U ?_)))))))))))
 refine Qb U U (Xj (k:=id) 1 hS keysInt underlying58 U U U Wy (u:= .agg #[intV (nd T id).id,intV (nd T id).par,intV (nd T id).dep,intV (nd T id).gue,intV (nd T id).el,.bool (nd T id).timed,.bool (nd T id).short]) (g:=(T id).isSome) (US _) (Mr _) U (Qb U U (Qp U U U (Qp U U U (Xa hS Wy U U ?_)))))
 intro nb w1 j1
 refine Q9 j1 U U Uk U (by first | rfl | (simp [QV,Value.oneCell'];done)) (i:=0) U (by first | decide | exact Q7 U) ?_
 intro w2 hS2a; dsimp only[List.set]at hS2a
 have j2:Sat w2 (QE nb [intV (nd T id).id,intV (nd T id).par,intV (nd T id).dep,intV (nd T id).gue,intV (nd T id).el,.bool (nd T id).timed,.bool (nd T id).short]::_):=hS2a; clear hS2a
 refine Qd U U (Qf (Qc (Qh [1,0,4,6] U (Qe (Qa (Qb U U (QU U U (Qf (Qc (QS U (fun h3=> ?_) (fun h3=> ?_)))))))))))
 ·have hno:T id=none:= by cases q:T id with | none=>rfl | some n=>(rw[q]at h3; exact absurd h3 (by simp))
  exact Qe (Qa (Qd U U (Qf (Qc (Qv (Qr (QR (.inr U) U U (⟨_,U,.inl ⟨hno,U,X1 (j2.pick [1,2,3] U)⟩⟩))))))))
 have hyes:T id≠none:= fun q=> by rw[q]at h3; exact absurd h3 (by decide)
 refine Qs (Qc (Qe (Qa (Qb U U (Qb U U (Zw U S5 asz_64 zr_64 U U (XV j2 U U U ?_)))))))
 intro vb w4 j4
 exact Qd U U (Qf (Qc (Qv (QR (.inr U) U U (⟨_,U,.inr ⟨hyes,vb,U,(X1 (j4.pick [2,3,0,4] U)).perm (List.Perm.swap _ _ _)⟩⟩)))))
theorem Nf {w:World} {a:TrAd} {T:Nodes} {last:Int} {F:Th} (hS:Sat w [Zp a T last,F]) (h0:T 0≠none):
    Calls prog 7 #[ptrV a.t 0] w (Ret fun v w'=> ∃vb,v=ptrV vb 0∧Sat w' [QE vb [ptrV a.t 0,intV 0],Zp a T last,F]):= by
 refine Qn func7 U ntmps7 U ?_
 refine Qe (Qa (Qd U U (Qf (Qc (Qe (Qa (Qb U U (Xr Ug U (Y7 (hS.sp [0] U) 0) U ?_))))))))
 rintro e w1 ⟨_,rfl,(⟨hq,_,j1⟩ | ⟨_,vb,rfl,j1⟩)⟩
 ·exact absurd hq h0
 refine⟨_,U, ?_⟩
 replace j1:=j1.jn U U
 exact Qd U U (Qf (Qc (Qv (QR (.inr U) U U (⟨_,U,vb,U,j1.pick [0,1,2] U⟩)))))
theorem time_sp {w:World} {a:TrAd} {T:Nodes} {last:Int} {F:Th} (hS:Sat w [Zp a T last,F]) (id:Int) (hb:0≤(nd T id).gue∧(nd T id).gue≤4000000000000000000∧0≤(nd T id).el∧(nd T id).el≤4000000000000000000):
    Calls prog 12 #[ptrV a.t 0,intV id] w (Ret fun v w'=>v=intV ((nd T id).gue+(nd T id).el)∧Sat w' [Zp a T last,F]):= by
 replace hS:=Zk hS
 refine Qn func12 U ntmps12 U ?_
 refine Qe (Qa (Qd U U (Qf (Qc (Qe (Qa (Qb U U (Qi U U (Qg U Wb U (Qo U J3 (by first | assumption | exact hS.cell 0 U U) U ?_))))))))))
 refine Qb U U (X8 (k:=id) 1 hS keysInt underlying58 U U U Wy (u:= .agg #[intV (nd T id).id,intV (nd T id).par,intV (nd T id).dep,intV (nd T id).gue,intV (nd T id).el,.bool (nd T id).timed,.bool (nd T id).short]) (US _) U (Xa hS Wy U U ?_))
 intro nb w1 j1
 refine Q9 j1 U U Uk U (by first | rfl | (simp [QV,Value.oneCell'];done)) (i:=0) U (by first | decide | exact Q7 U) ?_
 intro w2 hS2a; dsimp only[List.set]at hS2a
 have j2:Sat w2 (QE nb [intV (nd T id).id,intV (nd T id).par,intV (nd T id).dep,intV (nd T id).gue,intV (nd T id).el,.bool (nd T id).timed,.bool (nd T id).short]::_):=hS2a; clear hS2a
 refine Qf (Qc (Qe (Qa (Qg U YC U (Qg U My U (Qo U QM (by first | assumption | exact j2.cell 0 U U | exact j2.cell 1 U U) U ?_))))))
 refine Qg U Gm U (Qo U QM (by first | assumption | exact j2.cell 0 U U | exact j2.cell 1 U U) U ?_)
 refine QK U U (by omega) (by omega) U ?_
 exact Qd U U (Qf (Qc (Qh [4] U (Qv (QR (.inr U) U U (⟨_,U,U,X1 (j2.pick [1,2,3] U)⟩))))))
theorem Yq {T:Nodes} {i:Int} {n:NodeD} {z:Value} (h:T i=some n):(Vn T i).getD z= .agg #[intV n.id,intV n.par,intV n.dep,intV n.gue,intV n.el,.bool n.timed,.bool n.short]:= by unfold Vn; rw[h];rfl
theorem YT {T:Nodes} {i:Int} {n:NodeD} (h:T i=some n):(Vn T i).isSome=true:= by unfold Vn; rw[h];rfl
theorem Sf {w:World} {vb:Nat} {id:Int} {a:TrAd} {T:Nodes} {last:Int} {F:Th} (hS:Sat w [QE vb [ptrV a.t 0,intV id],Zp a T last,F]) {n:NodeD} (hn:T id=some n):
    Calls prog 38 #[ptrV vb 0,intV 0] w (Ret fun v w'=>Sat w' [QE vb [ptrV a.t 0,intV id],Zp a T last,F]):= by
 replace hS:=(Zk (hS.pull 1 U)).reorder [2,0,1,3] U
 refine Qn func38 U ntmps38 U ?_
 refine Qe ?_
 have j1:=hS.drew
 refine QH [0,1,2,3,4,5,6,7,8,9,10,11,12,13,14,15,16,17] [15,16] ZW (by kernel_rfl) ?_
 refine QJ U U U (Xd U U U (QP U U U Kz (Q3 U U U (Qm U DU (by first | assumption | exact j1.cell 0 U U | exact j1.cell 1 U U)) ?_)))
 refine Xd U U U (QP U U U Wb (Q3 U U U (Qm U J3 (by first | assumption | exact j1.cell 0 U U | exact j1.cell 1 U U)) ?_))
 refine QJ U U U (Xd U U U (QP U U U Ky (Q3 U U U (Qm U QM (by first | assumption | exact j1.cell 0 U U | exact j1.cell 1 U U)) ?_)))
 refine Q3 U U U (ZK (k:=id) 2 j1 keysInt underlying58 U U U Wy (u:= .agg #[intV n.id,intV n.par,intV n.dep,intV n.gue,intV n.el,.bool n.timed,.bool n.short]) (g:=true) (Yq hn) (YT hn)) (QJ U U U (Wj U U U U (Wj U U U U (Xl U U U U U U ?_))))
 refine Xa j1 Wy U U ?_
 intro nb w2 j2
 refine XH (.cons (.inl ⟨rfl,(ZK (k:=id) 3 j2 keysInt underlying58 U U U Wy (u:= .agg #[intV n.id,intV n.par,intV n.dep,intV n.gue,intV n.el,.bool n.timed,.bool n.short]) (g:=true) (Yq hn) (YT hn))⟩) (.cons (.inl ⟨rfl,(Qm U QM (by first | assumption | exact j2.cell 0 U U | exact j2.cell 1 U U | exact j2.cell 2 U U))⟩) (.cons (.inl ⟨rfl,(Qm U J3 (by first | assumption | exact j2.cell 0 U U | exact j2.cell 1 U U | exact j2.cell 2 U U))⟩) (.cons (.inl ⟨rfl,(Qm U DU (by first | assumption | exact j2.cell 0 U U | exact j2.cell 1 U U | exact j2.cell 2 U U))⟩) .nil)))) ?_
 refine Xl U U U U U U ?_
 refine Q9 j2 U U Uk U (by first | rfl | (simp [QV,Value.oneCell'];done)) (i:=0) U (by first | decide | exact Q7 U) ?_
 intro w3 hS3a; dsimp only[List.set]at hS3a
 have j3:Sat w3 (QE nb [intV n.id,intV n.par,intV n.dep,intV n.gue,intV n.el,.bool n.timed,.bool n.short]::_):=hS3a; clear hS3a
 refine Zj (Xq (by kernel_rfl)) ?_
 refine Zo U U U (VC.nil (Qc (Qh [1,0,4,5] U (Qe (Qa (Qb U U (Xp U U U (Qb U U (QZ 23 U (fun h4=> ?_) (fun h4=> ?_))))))))))
 ·exact absurd U h4
 exact Qk U U (QF h4) U (QC U (QF h4) U U (Qf (Qc (QL U (Qs (ZP (.inl U) U (⟨_,U,(X1 (j3.pick [2,3,1,4] U)).perm (List.Perm.swap _ _ _)⟩)))))))
