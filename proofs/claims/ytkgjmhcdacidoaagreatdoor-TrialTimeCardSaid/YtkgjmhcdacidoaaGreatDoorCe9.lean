/- cells: Commit -/
import Derived.Test.YtkgjmhcdacidoaaGreatDoorCe5
import Derived.Test.YtkgjmhcdacidoaaGreatDoorLv1
import Derived.Test.YtkgjmhcdacidoaaGreatDoorSk
import Derived.Test.YtkgjmhcdacidoaaGreatDoorDl
import Derived.Test.YtkgjmhcdacidoaaGreatDoorTr3
set_option linter.unusedSectionVars false
set_option linter.unusedVariables false
set_option maxRecDepth 100000
namespace Go.Proofs.YtkgjmhcdacidoaaGreatDoor
open Go.RowKit M Proofs.Tryz
variable [Inhabited SlW]
def Hz (x y:OneD) (k:Bs):Option Bs:= match x.writes k with
  | none=>y.writes k
  | some v=> if y.par.isNone=true∧v=[]then none else some v
def ComW (x y:OneD) (dn:Bs→Prop) (f:Bs→Option Bs):Prop:= ∀k,(dn k→f k=Hz x y k)∧(¬dn k→f k=y.writes k)
theorem ComW.next {x y:OneD} {dn:Bs→Prop} {f:Bs→Option Bs} {k v:Bs} (h:ComW x y dn f) (hk:x.writes k=some v):ComW x y (fun q=>dn q∨q=k) (JX {y with writes:=f} k v).writes:= fun q=> by
  show(_→QK f k _ q=_)∧(_→QK f k _ q=_)
  by_cases e:q=k
  · subst e
    refine⟨fun _=> ?_, fun hq=>absurd (.inr U) hq⟩
    rw[Qr];unfold Hz; rw[hk]
  · rw[Qw e]
    exact⟨fun hq=>(h q).1 (hq.resolve_right e), fun hq=>(h q).2 fun p=>hq (.inl p)⟩
theorem ComW.fin {x y:OneD} {dn:Bs→Prop} {f:Bs→Option Bs} (h:ComW x y dn f) (hd: ∀k v,HI x.writes k=some v→dn k):f=Hz x y:= by
  funext k
  by_cases q:dn k
  · exact(h k).1 q
  · rw[(h k).2 q]
    unfold Hz
    cases e:x.writes k with
    | none=>rfl
    | some v=> exact absurd (hd k _ (WL e)) q
theorem SP {κ β:Type} {f:κ→Option β} {a b:κ} {u v:Option β} (h:b≠a):QK (QK f a u) b v=QK (QK f b v) a u:= by
  funext j
  by_cases e:j=a
  · subst e; rw[Qw (fun q=>h q.symm),Qr,Qr]
  · by_cases e2:j=b
    · subst e2; rw[Qr,Qw e,Qr]
    · rw[Qw e2,Qw e,Qw e,Qw e2]
theorem TO {w:World} {c:Nat} {C:CeD} {T:Nodes} {last:Int} {F:Th} {id:Int} {x:OneD} {nd:NodeD} (hS:Sat w [Ua c C,F]) (hW:CeW C T) (hI:TrI T last) (hx:C.all id=some x) (h0:id≠0) (hnd:T id=some nd) {y:OneD} (hy:C.all nd.par=some y) (hky:0≤y.kids∧y.kids≤100000000000) (hkx:x.kids=0) (hor:x.order=[]) (hlg:x.logs= fun _=>none):
    Calls prog 32 #[ptrV c 0,intV id] w (Ret fun v w'=>v=intV 0∧Sat w' [Ua c ⟨C.ma,QK (QK C.all nd.par (some {y with writes:=Hz x y,kids:=y.kids -1})) id none⟩,F]):= by
 obtain⟨y',hy',hxp'⟩:=hW.up h0 hnd hx
 have hxp:x.par=some y.ad:= by rw[hy]at hy'; cases hy'; exact hxp'
 have hpi:nd.par≠id:= by have :=(hI.par hnd h0).1;omega
 have hpar:MU x.par=ptrV y.ad 0:= by rw[hxp];rfl
 replace hS:=H3 hS
 refine Qm func32 U ntmps32 U ?_
 refine Qe (Qa (Qd U U (Qf (Qc (Qe (Qa (Qb U U (Qi U U (Qg U YZ U (Qn U K9 (by first | assumption | exact hS.cell 0 U U) U ?_))))))))))
 refine Qb U U (XA (k:=id) 1 hS keysInt underlying89 U U U Gn (u:=(ptrV x.ad 0)) (XR hx) U (Qd U U (Qf (Qc (Qe (Qz (Qe (Qa (Qb U U (XQ underlying88 U U U (Qb U U (Qj U U U (Qb U U (Qj U U U (Qi U U (Qj U U U (Qg U JE U (Qj U U U (Qn U Hg (DQ hS 2 U hx hxp) U (Qj U U U (XQ underlying88 U U U (QG U U U U (Qd U U (Qf (Qc (Qh [1,0,4,5,18] U (QW U (Qe (Qa (Qb U U (Qi U U (Qg U Kk U (Qn U QO (Un hS 2 U hx 1 U) U (J1 U U U (Qd U U (Qf (Qc (Qh [1,0,4,5,28] U (Qu U (fun h1=> ?_) (fun h1=> ?_))))))))))))))))))))))))))))))))))))))))
 ·exact absurd h1 (by omega)
 refine Qt (Qo (Qc (Qe (Qe (Qa (Qb U U (Qi U U (Qg U Ga U (Qn U Pt (Un hS 2 U hx 4 U) U ?_)))))))))
 have hlz:Sat _ _:=ZZ (hS.pick [2,0,1,3] U) hx
 refine XG 3 hlz underlying96 U U U (Qb U U (Qf (Qc (Qh [1,0,4,5,37,38,39] U (Qz (Xh (fun K0 E0 W0=> ∃(q:Nat),K0=q∧E0=[(0,ptrV c 0),(1,intV id),(5,ptrV x.ad 0),(37,x.ov),(38,intV (x.order.length:Int)),(39,intV 0)]∧Sat W0 [QC c [.map (some C.ma)],Q4 QX C.ma (XO OneD.ad C.all),Xz ZY C.all,F]) (L0:=[(0,_),(1,_),(5,_),(37,_),(38,_),(39,_)]) (0) (B1 U U U U U U) ⟨0,rfl,rfl,hS.pick [0,1,2,3] U⟩ ?_))))))
 rintro _ _ w2 ⟨q,rfl,rfl,j2⟩
 refine Qe (Qa (Xk U U U (Qf (Qc (Qe (Qu U (fun h3=> ?_) (fun h3=> ?_)))))))
 ·exact absurd h3 (by rw[hor];decide)
 refine Xc (Qs (Qs (Q3 (Qc (Qe (Qe ?_))))))
 have j4:=ZZ (j2.pick [2,0,1,3] U) hx
 rw[hxp]at j4
 have hyx:QK C.all id none nd.par=some y:= by rw[Qw hpi]; exact hy
 refine Qa (Qb U U (Qi U U (Qg U UJ U (Qn U U0 (by first | assumption | exact j4.cellF 0 U U | exact j4.cell 7 U U) U ?_))))
 refine JU 1 j4 underlying95 U U U ?_
 intro RR left0 wR hSR; dsimp only[List.set]at hSR
 refine Qf (Qc (Qh [5,1,0,65] U (Qz ?_)))
 rw[←Wr hyx]at hSR
 refine Xh (fun K0 E0 W0=> ∃(dn:Bs→Prop) (cur:Option Bs) (left:Nat) (f:Bs→Option Bs),K0=left∧E0=[(0,ptrV c 0),(1,intV id),(5,ptrV x.ad 0),(65,ptrV RR 0)]∧Sat W0 [blkF x.ad [ptrV y.ad 0,intV x.kids,.map (some x.mw),.map (some x.ml),x.ov,.map (some x.mv),.map (some x.ms)],J7 Zd x.mw RR (HI x.writes) dn cur left,Q4 Zd x.ml (HI x.logs),rowT V8 x.ov x.order,Q4 Zd x.mv (HI x.vals),Q4 Zd x.ms (fun _=>none),Xz ZY (QK (QK C.all id none) nd.par (some {y with writes:=f})),QC c [.map (some C.ma)],Q4 QX C.ma (XO OneD.ad C.all),F]∧(ComW x y dn f)) (L0:=[(0,_),(1,_),(5,_),(65,_)]) (left0) (VF U U U U) ⟨_,_,_,y.writes,rfl,rfl,hSR.pick [0,1,2,3,4,5,6,7,8,9] U, fun k=>⟨fun q=>q.elim, fun _=>rfl⟩⟩ ?_
 rintro _ _ w5 ⟨dn,cur,left,f,rfl,rfl,j5,hcm⟩
 refine Qe (Qa (YS 1 j5 keysStr.inj U U U (fun hdone=> ?_) (fun k v9 left2 wN hleft hgk hnd9 hSN=> ?_)))
 ·refine Qp U U U (Qf (Qc (Qe (QW U (Xc (Qs (Qs (Q3 (Qc (Qe (Qe ?_)))))))))))
  have hz1:=WX (j5.pick [1,0,2,3,4,5,6,7,8,9] U)
  have hfw:=hcm.fin hdone; subst hfw
  rw[hlg]at hz1
  refine Qa (Qb U U (Qi U U (Qg U fo_99_3 U (Qn U U0 (by first | assumption | exact hz1.cellF 1 U U | exact hz1.cell 7 U U) U ?_))))
  refine JU 2 hz1 underlying95 U U U ?_
  intro RS left1 wS hSS; dsimp only[List.set]at hSS
  clear hz1
  refine Qf (Qc (Qh [5,1,0,82] U (Qz (Xh (fun K0 E0 W0=> ∃(dn:Bs→Prop) (cur:Option Bs) (left:Nat),K0=left∧E0=[(0,ptrV c 0),(1,intV id),(5,ptrV x.ad 0),(82,ptrV RS 0)]∧Sat W0 [J7 Zd x.ml RS (HI (fun _=>none)) dn cur left,blkF x.ad [ptrV y.ad 0,intV x.kids,.map (some x.mw),.map (some x.ml),x.ov,.map (some x.mv),.map (some x.ms)],Q4 Zd x.mw (HI x.writes),rowT V8 x.ov x.order,Q4 Zd x.mv (HI x.vals),Q4 Zd x.ms (fun _=>none),Xz ZY (QK (QK C.all id none) nd.par (some {y with writes:=Hz x y})),QC c [.map (some C.ma)],Q4 QX C.ma (XO OneD.ad C.all),F]) (L0:=[(0,_),(1,_),(5,_),(82,_)]) (left1) (VF U U U U) ⟨_,_,_,rfl,rfl,hSS.pick [2,1,0,3,4,5,6,7,8,9] U⟩ ?_))))
  rintro _ _ w6 ⟨dn,cur,left,rfl,rfl,j6⟩
  refine Qe (Qa (YS 0 j6 keysStr.inj U U U (fun hdone2=> ?_) (fun k v9 left2 wN hleft hgk hnd9 hSN=> ?_)))
  ·refine Qp U U U (Qf (Qc (Qe (QW U (Xc (Qs (Qs (Q3 (Qc (Qe ?_))))))))))
   have hz2:=WX (j6.pick [0,1,2,3,4,5,6,7,8,9] U)
   rw[←hlg,←hpar]at hz2
   rw[SP hpi]at hz2
   have hz3:=Wa (T:=QK C.all nd.par (some {y with writes:=Hz x y})) (i:=id) (by rw[Qw (fun e=>hpi e.symm)]; exact hx) (hz2.pick [1,2,0,3,4,5,6,7,8,9] U)
   rw[←W8 (k:=nd.par) (y:={y with writes:=Hz x y}) hy U]at hz3
   have hz4:=YN (C:=C.up nd.par {y with writes:=Hz x y}) (hz3.pick [1,2,0,3] U)
   have hx4:(C.up nd.par {y with writes:=Hz x y}).all id=some x:= by show QK C.all nd.par _ id=_; rw[Qw (fun e=>hpi e.symm)]; exact hx
   refine Qa (Qb U U (Qb U U (Qb U U ?_)))
   have hC7:=hz4.sp [0] U
   refine Qy cal_69 U (S5 (y:={y with writes:=Hz x y}) hC7 hx4 Qr hxp (fun e=>hpi e.symm) hky) U ?_
   rintro _ w7 j7
   replace j7:=j7.jn U U; clear hC7
   clear hz4
   refine Qf (Qc (Qe (Qa (Qd U U (Qf (Qc (Qh [4] U (Qv (QM (.inr U) U U ?_)))))))))
   have hz5:=j7.pick [0,1] U
   dsimp only[CeD.up]at hz5; rw[J3]at hz5
   exact⟨_,U,U,hz5⟩
  exact absurd hgk (fun q=> by cases q)
 dsimp only[List.set]at hSN
 obtain⟨s,hs,rfl⟩:=stG_ex hgk
 refine Qp U U U (Qf (Qc (Qe (X3 U (Qt (Qc (Qz (Qe (Qa (YA 1 hSN U hgk U U (Qp U U U (Qp U U U (Qd U U (Qd U U (Qf (Qc (Qh [65,5,1,0,8,9] U (Qa (Qb U U (Qi U U (Qg U JE U (Qn U Hg (by first | assumption | exact hSN.cellF 0 U U | exact hSN.cell 7 U U) U ?_))))))))))))))))))))))
 refine Qb U U (Qb U U (Qy LU U (Fy (x:={y with writes:=f}) (hSN.sp [6] U) (i:=nd.par) Qr k s) U ?_))
 rintro _ w8 j8
 replace j8:=j8.jn U U
 clear hSN
 rw[J3]at j8
 exact Qf (Qo (Q8 (L1:=[(0,_),(1,_),(5,_),(65,_)]) (VF U U U U) (k1:=left2) (by omega) ⟨_,_,_,_,rfl,rfl,j8.pick [1,2,3,4,5,6,0,7,8,9] U,hcm.next hs⟩))
def zN:NodeD:=⟨0,0,0,0,0,false,false⟩
def nd (T:Nodes) (i:Int):NodeD:=(T i).getD zN
theorem XU {T:Nodes} {i:Int} {n:NodeD} (h:T i=some n):nd T i=n:= by unfold nd; rw[h];rfl
theorem RV {T:Nodes} {i:Int} (h:T i=none):nd T i=zN:= by unfold nd; rw[h];rfl
def ndA (n:NodeD):Value:= .agg #[intV n.id,intV n.par,intV n.dep,intV n.gue,intV n.el,.bool n.timed,.bool n.short]
def UZ (T:Nodes):Int→Option Value:= fun i=>(T i).map ndA
theorem RW {T:Nodes} (i:Int):(UZ T i).getD (.agg #[intV 0,intV 0,intV 0,intV 0,intV 0,.bool false,.bool false])= .agg #[intV (nd T i).id,intV (nd T i).par,intV (nd T i).dep,intV (nd T i).gue,intV (nd T i).el,.bool (nd T i).timed,.bool (nd T i).short]:= by
  unfold UZ nd; cases T i<;>rfl
theorem ndG_ok {T:Nodes} (i:Int):(UZ T i).isSome=(T i).isSome:= by unfold UZ; cases T i<;>rfl
theorem GO {T:Nodes} {i:Int} {n:NodeD}:upd (UZ T) i (some (ndA n))=UZ (QK T i (some n)):= by
  funext j
  by_cases e:j=i
  · subst e; rw[Zs];unfold UZ; rw[Qr];rfl
  · rw[Wi e];unfold UZ; rw[Qw e]
theorem ndG_del {T:Nodes} {i:Int}:upd (UZ T) i none=UZ (QK T i none):= by
  funext j
  by_cases e:j=i
  · subst e; rw[Zs];unfold UZ; rw[Qr];rfl
  · rw[Wi e];unfold UZ; rw[Qw e]
structure TrAd where
  t:Nat
  mt:Nat
  c:Nat
  b:Nat
def ZQ (a:TrAd) (T:Nodes) (last:Int):Th:=starL [QC a.t [.map (some a.mt),ptrV a.c 0,ptrV a.b 0,intV last],Q4 QX a.mt (UZ T)]
section
variable {w:World} {As:List Th} {a:TrAd} {T:Nodes} {last:Int}
theorem Zn (h:Sat w (ZQ a T last::As)):Sat w (QC a.t [.map (some a.mt),ptrV a.c 0,ptrV a.b 0,intV last]::Q4 QX a.mt (UZ T)::As):=h.flat
theorem X7 (h:Sat w (QC a.t [.map (some a.mt),ptrV a.c 0,ptrV a.b 0,intV last]::Q4 QX a.mt (UZ T)::As)):Sat w (ZQ a T last::As):=Sat.fold (As:=[QC a.t [.map (some a.mt),ptrV a.c 0,ptrV a.b 0,intV last],Q4 QX a.mt (UZ T)]) h
theorem Sat.blk_as {b:Nat} {cs ds:List Value} (h:Sat w (QC b cs::As)) (e:cs=ds):Sat w (QC b ds::As):=e▸h
end
def trC:RowC NodeD:=⟨fun n=>[intV n.id,intV n.par,intV n.dep,intV n.gue],4, by decide, fun _=>rfl, fun _=>rfl⟩
def ZV (T:Nodes) (ids:List Int):List NodeD:=ids.map (nd T)
def FewT (T:Nodes) (ids:List Int):Prop:=IdsOf T ids∧ids.length≤40
theorem FewT.card {T:Nodes} {ids:List Int} (h:FewT T ids) {r:NodeD} (h0:T 0=some r):Card (UZ T) (ids.length+1):= by
  refine⟨0::ids,List.nodup_cons.2 ⟨fun q=>((h.1.2 0).1 q).1 U,h.1.1.imp fun h=> by omega⟩,rfl, fun k=> ?_⟩
  rw[List.mem_cons,h.1.2]
  unfold UZ
  by_cases e:k=0
  · subst e; rw[h0]; simp
  · simp [e]
theorem FewT.came {T:Nodes} {ids:List Int} (h:FewT T ids) {g:Int→Option Value} (hg: ∀i,g i≠none→T i≠none) {ks:List Int} (hk:Came g ks):ks.length≤41:= by
  have h1:ks.length≤(0::ids).length:=Kd hk.nodup fun i hi=> by
    by_cases e:i=0
    · subst e; exact List.mem_cons_self
    · exact List.mem_cons_of_mem _ ((h.1.2 i).2 ⟨e,hg i (hk.has i hi)⟩)
  have :=h.2
  rw[List.length_cons]at h1;omega
theorem Fe {ks:List Int} (h:ks.Nodup):(ZO ks).Pairwise (· < ·):= by
  have h2:=List.pairwise_mergeSort (le:= fun a b:Int=>decide (a≤b)) (by intro a b c; simp;omega) (by intro a b; simp;omega) ks
  have h3:(ZO ks).Nodup:=(Vn ks).nodup_iff.2 h
  exact(h2.and h3).imp fun ⟨a,b⟩=> by simp at a;omega
theorem FT {T:Nodes} {ids ks:List Int} {g:Int→Option Value} (h:FewT T ids) (hg: ∀i,g i=none↔T i=none) (hk:AllC g ks):(ZO ks).filter (fun n=> !decide (n=0))=ids:= by
  refine M4 ?_ h.1.1 fun i=> ?_
  · exact(Fe hk.nodup).sublist List.filter_sublist
  · rw[List.mem_filter,(Vn ks).mem_iff,hk.mem,h.1.2]
    simp only[Bool.not_eq_true',decide_eq_false_iff_not,ne_eq]
    rw[←hg i]
    exact And.comm
theorem KidN.le {T:Nodes} {ids:List Int} {i:Int} {n:Nat} (h:KidN T i n) (hf:FewT T ids):n≤40:= by
  obtain⟨l,h1,h2,h3⟩:=h
  have h4:l.length≤ids.length:=Kd h1 fun j hj=> by
    obtain⟨m,a,b,_⟩:=(h2 j).1 hj
    exact(hf.1.2 j).2 ⟨b, by rw[a]; simp⟩
  have :=hf.2
  omega
theorem CeW.kid40 {C:CeD} {T:Nodes} {ids:List Int} {i:Int} {x:OneD} (h:CeW C T) (hf:FewT T ids) (hx:C.all i=some x):0≤x.kids∧x.kids≤40:= by
  obtain⟨n,h1,h2⟩:=h.kids hx
  have :=h2.le hf
  omega
noncomputable def Hi:Nodes:=QK (fun _=>none) 0 (some zN)
theorem SR {w:World} {p:Nat} {F:Th} (hS:Sat w [F]):
    Calls prog 27 #[ptrV p 0] w (Ret fun v w'=> ∃a ma x mp mt ms,v=ptrV a.t 0∧x.par=none∧x.kids=0∧Ex x∧Sat w' [ZQ a Hi 0,Ua a.c (Di ma x),Je a.b (Yt p mp mt ms),F]):= by
 refine Qm func27 U ntmps27 U ?_
 refine Qe (Qa (Qd U U (Qf (Qc (Qe (Qa (XZ QX hS U ?_)))))))
 intro mt w1 j1
 refine Zm U pl_56_ Ej Wy U U (BF (k:=0) (v:=ndA zN) 0 j1 keysInt underlying58 U U U U ?_)
 intro w2 j2; dsimp only[List.set]at j2; rw[show(fun _:Int=>(none:Option Value))=UZ (fun _=>none) from rfl,GO]at j2
 refine Qb U U (Qy cal_45 U (LJ (j2.sp [] U)) U ?_)
 rintro _ w3 ⟨cc,ma,x,rfl,hxp,hxk,hxq,j3⟩
 replace j3:=j3.jn U U
 refine Qb U U (Qy cal_46 U (FO (j3.sp [] U)) U ?_)
 rintro _ w4 ⟨b,mp,mtt,ms,rfl,j4⟩
 replace j4:=j4.jn U U
 refine Zm U MX asz_62 zr_62 U U (XV j4 U U U ?_)
 intro tb w5 j5
 exact Qd U U (Qf (Qc (Qv (QM (.inr U) U U (⟨_,U,⟨tb,mt,cc,b⟩,ma,x,mp,mtt,ms,U,hxp,hxk,hxq,X7 (a:=⟨tb,mt,cc,b⟩) (T:=Hi) (j5.pick [0,3,2,1,4] U)⟩)))))
theorem VR {w:World} {a:TrAd} {T:Nodes} {last:Int} {F:Th} (hS:Sat w [ZQ a T last,F]) (id:Int):
    Calls prog 10 #[ptrV a.t 0,intV id] w (Ret fun v w'=>(T id=none∧v= .pointer none∧Sat w' [ZQ a T last,F])∨(T id≠none∧ ∃vb,v=ptrV vb 0∧Sat w' [QC vb [ptrV a.t 0,intV id],ZQ a T last,F])):= by
 replace hS:=Zn hS
 refine Qm func10 U ntmps10 U ?_
 refine Qe (Qa (Qd U U (Qf (Qc (Qe (Qe (Qa (Qb U U (Qi U U (Qg U ZW U (Qn U WT (by first | assumption | exact hS.cell 0 U U) U ?_)))))))))))
 refine Qb U U (Xi (k:=id) 1 hS keysInt underlying58 U U U Wy (u:= .agg #[intV (nd T id).id,intV (nd T id).par,intV (nd T id).dep,intV (nd T id).gue,intV (nd T id).el,.bool (nd T id).timed,.bool (nd T id).short]) (g:=(T id).isSome) (RW _) (ndG_ok _) U (Qb U U (Qp U U U (Qp U U U (Xb hS Wy U U ?_)))))
 intro nb w1 j1
 refine QF j1 U U HY U (by first | rfl | (simp [QU,Value.oneCell'];done)) (i:=0) U (by first | decide | exact Q5 U) ?_
 intro w2 hS2a; dsimp only[List.set]at hS2a
 have j2:Sat w2 (QC nb [intV (nd T id).id,intV (nd T id).par,intV (nd T id).dep,intV (nd T id).gue,intV (nd T id).el,.bool (nd T id).timed,.bool (nd T id).short]::_):=hS2a; clear hS2a
 refine Qd U U (Qf (Qc (Qh [1,0,4,6] U (Qe (Qa (Qb U U (QV U U (Qf (Qc (QP U (fun h3=> ?_) (fun h3=> ?_)))))))))))
 ·have hno:T id=none:= by cases q:T id with | none=>rfl | some n=>(rw[q]at h3; exact absurd h3 (by simp))
  exact Qe (Qa (Qd U U (Qf (Qc (Qv (Qq (QM (.inr U) U U (⟨_,U,.inl ⟨hno,U,X7 (j2.pick [1,2,3] U)⟩⟩))))))))
 have hyes:T id≠none:= fun q=> by rw[q]at h3; exact absurd h3 (by decide)
 refine Qt (Qc (Qe (Qa (Qb U U (Qb U U (Zm U PT asz_64 zr_64 U U (XV j2 U U U ?_)))))))
 intro vb w4 j4
 exact Qd U U (Qf (Qc (Qv (QM (.inr U) U U (⟨_,U,.inr ⟨hyes,vb,U,(X7 (j4.pick [2,3,0,4] U)).perm (List.Perm.swap _ _ _)⟩⟩)))))
theorem GG {w:World} {a:TrAd} {T:Nodes} {last:Int} {F:Th} (hS:Sat w [ZQ a T last,F]) (h0:T 0≠none):
    Calls prog 7 #[ptrV a.t 0] w (Ret fun v w'=> ∃vb,v=ptrV vb 0∧Sat w' [QC vb [ptrV a.t 0,intV 0],ZQ a T last,F]):= by
 refine Qm func7 U ntmps7 U ?_
 refine Qe (Qa (Qd U U (Qf (Qc (Qe (Qa (Qb U U (Xv Bp U (VR (hS.sp [0] U) 0) U ?_))))))))
 rintro e w1 ⟨_,rfl,(⟨hq,_,j1⟩ | ⟨_,vb,rfl,j1⟩)⟩
 ·exact absurd hq h0
 refine⟨_,U, ?_⟩
 replace j1:=j1.jn U U
 exact Qd U U (Qf (Qc (Qv (QM (.inr U) U U (⟨_,U,vb,U,j1.pick [0,1,2] U⟩)))))
theorem Yp {w:World} {a:TrAd} {T:Nodes} {last:Int} {F:Th} (hS:Sat w [ZQ a T last,F]) (id:Int) (hb:0≤(nd T id).gue∧(nd T id).gue≤4000000000000000000∧0≤(nd T id).el∧(nd T id).el≤4000000000000000000):
    Calls prog 12 #[ptrV a.t 0,intV id] w (Ret fun v w'=>v=intV ((nd T id).gue+(nd T id).el)∧Sat w' [ZQ a T last,F]):= by
 replace hS:=Zn hS
 refine Qm func12 U ntmps12 U ?_
 refine Qe (Qa (Qd U U (Qf (Qc (Qe (Qa (Qb U U (Qi U U (Qg U ZW U (Qn U WT (by first | assumption | exact hS.cell 0 U U) U ?_))))))))))
 refine Qb U U (XA (k:=id) 1 hS keysInt underlying58 U U U Wy (u:= .agg #[intV (nd T id).id,intV (nd T id).par,intV (nd T id).dep,intV (nd T id).gue,intV (nd T id).el,.bool (nd T id).timed,.bool (nd T id).short]) (RW _) U (Xb hS Wy U U ?_))
 intro nb w1 j1
 refine QF j1 U U HY U (by first | rfl | (simp [QU,Value.oneCell'];done)) (i:=0) U (by first | decide | exact Q5 U) ?_
 intro w2 hS2a; dsimp only[List.set]at hS2a
 have j2:Sat w2 (QC nb [intV (nd T id).id,intV (nd T id).par,intV (nd T id).dep,intV (nd T id).gue,intV (nd T id).el,.bool (nd T id).timed,.bool (nd T id).short]::_):=hS2a; clear hS2a
 refine Qf (Qc (Qe (Qa (Qg U Hb U (Qg U NP U (Qn U QO (by first | assumption | exact j2.cell 0 U U | exact j2.cell 1 U U) U ?_))))))
 refine Qg U UM U (Qn U QO (by first | assumption | exact j2.cell 0 U U | exact j2.cell 1 U U) U ?_)
 refine QN U U (by omega) (by omega) U ?_
 exact Qd U U (Qf (Qc (Qh [4] U (Qv (QM (.inr U) U U (⟨_,U,U,X7 (j2.pick [1,2,3] U)⟩))))))
theorem VU {w:World} {a:TrAd} {T:Nodes} {last:Int} {F:Th} (hS:Sat w [ZQ a T last,F]) (id:Int):
    Calls prog 14 #[ptrV a.t 0,intV id] w (Ret fun v w'=>v= .bool (nd T id).timed∧Sat w' [ZQ a T last,F]):= by
 replace hS:=Zn hS
 refine Qm func14 U ntmps14 U ?_
 refine Qe (Qa (Qd U U (Qf (Qc (Qe (Qa (Qb U U (Qi U U (Qg U ZW U (Qn U WT (by first | assumption | exact hS.cell 0 U U) U ?_))))))))))
 exact Qb U U (XA (k:=id) 1 hS keysInt underlying58 U U U Wy (u:= .agg #[intV (nd T id).id,intV (nd T id).par,intV (nd T id).dep,intV (nd T id).gue,intV (nd T id).el,.bool (nd T id).timed,.bool (nd T id).short]) (RW _) U (VO fv_56_2 U U U (Qd U U (Qf (Qc (Qv (QM (.inr U) U U (⟨_,U,U,X7 (hS.pick [0,1,2] U)⟩))))))))
theorem Y1 {w:World} {vb:Nat} {id:Int} {a:TrAd} {T:Nodes} {last:Int} {F:Th} (hS:Sat w [QC vb [ptrV a.t 0,intV id],ZQ a T last,F]) (hb:0≤(nd T id).gue∧(nd T id).gue≤4000000000000000000∧0≤(nd T id).el∧(nd T id).el≤4000000000000000000):
    Calls prog 13 #[ptrV vb 0] w (Ret fun v w'=>v=intV ((nd T id).gue+(nd T id).el)∧Sat w' [QC vb [ptrV a.t 0,intV id],ZQ a T last,F]):= by
 refine Qm func13 U ntmps13 U ?_
 refine Qe (Qa (Qd U U (Qf (Qc (Qe ?_)))))
 have j1:=hS.drew
 refine Q6 [0,1,2,3,4,5,6,7,8,9] [8] ZF (by kernel_rfl) ?_
 refine Q9 U U U (QQ U U U (QI U U U Jr (Q1 U U U (Ql U YP (by first | assumption | exact j1.cell 0 U U)) ?_)))
 refine Q9 U U U (QQ U U U (QI U U U Jb (Q1 U U U (Ql U QO (by first | assumption | exact j1.cell 0 U U)) ?_)))
 refine Xa U U U U U U ?_
 refine Qy HR U (Yp (j1.sp [1] U) id hb) U ?_
 rintro _ w2 ⟨rfl,j2⟩
 replace j2:=j2.jn U U
 refine X5 (Xf (by kernel_rfl)) ?_
 exact Za U U U (VC.nil (Qc (Qh [2] U (Qv (QM (.inr U) U U (⟨_,U,U,j2.pick [1,0,2] U⟩))))))
def elN (n:NodeD) (k:Int):NodeD:={n with el:=n.el+max k 0}
def tmN (n:NodeD):NodeD:={n with timed:=true}
theorem WN {T:Nodes} {i:Int} {n:NodeD} {z:Value} (h:T i=some n):(UZ T i).getD z= .agg #[intV n.id,intV n.par,intV n.dep,intV n.gue,intV n.el,.bool n.timed,.bool n.short]:= by unfold UZ; rw[h];rfl
theorem WY {T:Nodes} {i:Int} {n:NodeD} (h:T i=some n):(UZ T i).isSome=true:= by unfold UZ; rw[h];rfl
theorem Gu {w:World} {vb:Nat} {id:Int} {a:TrAd} {T:Nodes} {last:Int} {F:Th} (hS:Sat w [QC vb [ptrV a.t 0,intV id],ZQ a T last,F]) {n:NodeD} (hn:T id=some n) (k:Int) (hb:0≤n.el∧n.el≤4000000000000000000∧k≤4000000000000000000):
    Calls prog 8 #[ptrV vb 0,intV k] w (Ret fun v w'=>Sat w' [QC vb [ptrV a.t 0,intV id],ZQ a (QK T id (some (elN n k))) last,F]):= by
 replace hS:=(Zn (hS.pull 1 U)).reorder [2,0,1,3] U
 refine Qm func8 U ntmps8 U ?_
 refine Qe ?_
 have j1:=hS.drew
 refine Q6 [0,1,2,3,4,5,6,7,8,9,10,11,12,13,14,15,16,17] [15,16] ZF (by kernel_rfl) ?_
 refine Q9 U U U (QQ U U U (QI U U U Jr (Q1 U U U (Ql U YP (by first | assumption | exact j1.cell 0 U U | exact j1.cell 1 U U)) ?_)))
 refine QQ U U U (QI U U U ZW (Q1 U U U (Ql U WT (by first | assumption | exact j1.cell 0 U U | exact j1.cell 1 U U)) ?_))
 refine Q9 U U U (QQ U U U (QI U U U Jb (Q1 U U U (Ql U QO (by first | assumption | exact j1.cell 0 U U | exact j1.cell 1 U U)) ?_)))
 refine Q1 U U U (Zb (k:=id) 2 j1 keysInt underlying58 U U U Wy (u:= .agg #[intV n.id,intV n.par,intV n.dep,intV n.gue,intV n.el,.bool n.timed,.bool n.short]) (g:=true) (WN hn) (WY hn)) (Q9 U U U (ZP U U U U (ZP U U U U (Xa U U U U U U ?_))))
 refine Xb j1 Wy U U ?_
 intro nb w2 j2
 refine X5 (.cons (.inl ⟨rfl,(Zb (k:=id) 3 j2 keysInt underlying58 U U U Wy (u:= .agg #[intV n.id,intV n.par,intV n.dep,intV n.gue,intV n.el,.bool n.timed,.bool n.short]) (g:=true) (WN hn) (WY hn))⟩) (.cons (.inl ⟨rfl,(Ql U QO (by first | assumption | exact j2.cell 0 U U | exact j2.cell 1 U U | exact j2.cell 2 U U))⟩) (.cons (.inl ⟨rfl,(Ql U WT (by first | assumption | exact j2.cell 0 U U | exact j2.cell 1 U U | exact j2.cell 2 U U))⟩) (.cons (.inl ⟨rfl,(Ql U YP (by first | assumption | exact j2.cell 0 U U | exact j2.cell 1 U U | exact j2.cell 2 U U))⟩) .nil)))) ?_
 refine Xa U U U U U U ?_
 refine QF j2 U U HY U (by first | rfl | (simp [QU,Value.oneCell'];done)) (i:=0) U (by first | decide | exact Q5 U) ?_
 intro w3 hS3a; dsimp only[List.set]at hS3a
 have j3:Sat w3 (QC nb [intV n.id,intV n.par,intV n.dep,intV n.gue,intV n.el,.bool n.timed,.bool n.short]::_):=hS3a; clear hS3a
 refine XS (Xf (by kernel_rfl)) ?_
 refine Za U U U (VC.nil (Qc (Qh [1,0,4,5] U (Qe (Qa (Qb U U (Qf (Qc (QP U (fun h4=> ?_) (fun h4=> ?_))))))))))
 ·refine Qe (Qa (Qg U UM U (Qn U QO (by first | assumption | exact j3.cell 0 U U | exact j3.cell 1 U U | exact j3.cell 2 U U) U ?_)))
  refine Qb U U (JT U U U (QN U U (by omega) (by omega) U ?_))
  refine Qg U UM U ?_
  first | (refine Qx j3 U U WI (by first | rfl | assumption) (i:=0) U (by first | decide | exact Q5 U | (simp;done) | omega) ?_) | (refine Qx j3 U U WI (by first | rfl | assumption) (i:=1) U (by first | decide | exact Q5 U | (simp;done) | omega) ?_) | (refine Qx j3 U U WI (by first | rfl | assumption) (i:=2) U (by first | decide | exact Q5 U | (simp;done) | omega) ?_)
  intro w5 j6; dsimp only[List.set]at j6
  refine Qf (Qc (Qh [0,4] U ?_))
  have j7:=j6.drew
  refine Q6 [0,1,2,3,4,5,6,7,8,9,10,11,12] [12] ZF (by kernel_rfl) ?_
  refine Q9 U U U (QQ U U U (QI U U U Jr (Q1 U U U (Ql U YP (by first | assumption | exact j7.cell 0 U U | exact j7.cell 1 U U | exact j7.cell 2 U U)) ?_)))
  refine QQ U U U (QI U U U ZW (Q1 U U U (Ql U WT (by first | assumption | exact j7.cell 0 U U | exact j7.cell 1 U U | exact j7.cell 2 U U)) ?_))
  refine Q9 U U U (QQ U U U (QI U U U Jb (Q1 U U U (Ql U QO (by first | assumption | exact j7.cell 0 U U | exact j7.cell 1 U U | exact j7.cell 2 U U)) ?_)))
  refine Q1 U U U (Xp U Em HY (by first | exact j7.blk 0 U | exact j7.blk 1 U | exact j7.blk 2 U) (by first | decide | exact Q5 U | (simp;done) | omega) U) ?_
  refine Xa U U U U U U ?_
  refine QY (k:=id) (v:=ndA (elN n k)) 3 j7 keysInt underlying58 U U U U ?_
  intro w8 j8; dsimp only[List.set]at j8; rw[GO]at j8
  refine XS (Xf (by kernel_rfl)) ?_
  exact VC.nil (ZT (.inl U) U (⟨_,U,(X7 (T:=QK T id (some (elN n k))) (j8.pick [2,3,1,4] U)).perm (List.Perm.swap _ _ _)⟩))
 exact absurd h4 (by decide)
theorem BI {w:World} {vb:Nat} {id:Int} {a:TrAd} {T:Nodes} {last:Int} {F:Th} (hS:Sat w [QC vb [ptrV a.t 0,intV id],ZQ a T last,F]) {n:NodeD} (hn:T id=some n) (hb:0≤n.gue∧n.gue≤4000000000000000000∧0≤n.el∧n.el≤4000000000000000000):
    Calls prog 11 #[ptrV vb 0] w (Ret fun v w'=>v=intV (n.gue+n.el)∧Sat w' [QC vb [ptrV a.t 0,intV id],ZQ a (if id=0 then T else QK T id (some (tmN n))) last,F]):= by
 replace hS:=(Zn (hS.pull 1 U)).reorder [2,0,1,3] U
 refine Qm func11 U ntmps11 U ?_
 refine Qe (Qa (Qd U U (Qf (Qc (Qe (Qe ?_))))))
 have j1:=hS.drew
 refine Q6 [0,1,2,3,4,5,6,7,8,9,10,11,12,13,14,15,16,17] [15,16] ZF (by kernel_rfl) ?_
 refine Q9 U U U (QQ U U U (QI U U U Jr (Q1 U U U (Ql U YP (by first | assumption | exact j1.cell 0 U U | exact j1.cell 1 U U)) ?_)))
 refine QQ U U U (QI U U U ZW (Q1 U U U (Ql U WT (by first | assumption | exact j1.cell 0 U U | exact j1.cell 1 U U)) ?_))
 refine Q9 U U U (QQ U U U (QI U U U Jb (Q1 U U U (Ql U QO (by first | assumption | exact j1.cell 0 U U | exact j1.cell 1 U U)) ?_)))
 refine Q1 U U U (Zb (k:=id) 2 j1 keysInt underlying58 U U U Wy (u:= .agg #[intV n.id,intV n.par,intV n.dep,intV n.gue,intV n.el,.bool n.timed,.bool n.short]) (g:=true) (WN hn) (WY hn)) (Q9 U U U (ZP U U U U (ZP U U U U (Xa U U U U U U ?_))))
 refine Xb j1 Wy U U ?_
 intro nb w2 j2
 refine X5 (.cons (.inl ⟨rfl,(Zb (k:=id) 3 j2 keysInt underlying58 U U U Wy (u:= .agg #[intV n.id,intV n.par,intV n.dep,intV n.gue,intV n.el,.bool n.timed,.bool n.short]) (g:=true) (WN hn) (WY hn))⟩) (.cons (.inl ⟨rfl,(Ql U QO (by first | assumption | exact j2.cell 0 U U | exact j2.cell 1 U U | exact j2.cell 2 U U))⟩) (.cons (.inl ⟨rfl,(Ql U WT (by first | assumption | exact j2.cell 0 U U | exact j2.cell 1 U U | exact j2.cell 2 U U))⟩) (.cons (.inl ⟨rfl,(Ql U YP (by first | assumption | exact j2.cell 0 U U | exact j2.cell 1 U U | exact j2.cell 2 U U))⟩) .nil)))) ?_
 refine Xa U U U U U U ?_
 refine QF j2 U U HY U (by first | rfl | (simp [QU,Value.oneCell'];done)) (i:=0) U (by first | decide | exact Q5 U) ?_
 intro w3 hS3a; dsimp only[List.set]at hS3a
 have j3:Sat w3 (QC nb [intV n.id,intV n.par,intV n.dep,intV n.gue,intV n.el,.bool n.timed,.bool n.short]::_):=hS3a; clear hS3a
 refine XS (Xf (by kernel_rfl)) ?_
 refine Za U U U (VC.nil (Qc (Qh [0,2,3,4] U (Qe (Qa (Qb U U (Qb U U (Xu 21 U (fun h4=> ?_) (fun h4=> ?_)))))))))
 ·refine Qj U U h4 (Qb U U (Qj U U h4 (Qi U U (Qj U U h4 (Qg U Jb U (Qj U U h4 (Qn U QO (by first | assumption | exact j3.cell 0 U U | exact j3.cell 1 U U | exact j3.cell 2 U U) U ?_)))))))
  refine Qj U U h4 (Xn U U U (QH U h4 U U (Qf (Qc (Qh [0,2,3,27] U (Qu U (fun h5=> ?_) (fun h5=> ?_)))))))
  ·have hi: ¬id=0:= by simpa using h5
   refine Qe (Qa (Qg U HN U ?_))
   first | (refine Qx j3 U U Uh (by first | rfl | assumption) (i:=0) U (by first | decide | exact Q5 U | (simp;done) | omega) ?_) | (refine Qx j3 U U Uh (by first | rfl | assumption) (i:=1) U (by first | decide | exact Q5 U | (simp;done) | omega) ?_) | (refine Qx j3 U U Uh (by first | rfl | assumption) (i:=2) U (by first | decide | exact Q5 U | (simp;done) | omega) ?_)
   intro w6 j7; dsimp only[List.set]at j7
   refine Qf (Qc ?_)
   have j8:=j7.drew
   refine Q6 [0,1,2,3,4,5,6,7,8,9,10,11,12] [12] ZF (by kernel_rfl) ?_
   refine Q9 U U U (QQ U U U (QI U U U Jr (Q1 U U U (Ql U YP (by first | assumption | exact j8.cell 0 U U | exact j8.cell 1 U U | exact j8.cell 2 U U)) ?_)))
   refine QQ U U U (QI U U U ZW (Q1 U U U (Ql U WT (by first | assumption | exact j8.cell 0 U U | exact j8.cell 1 U U | exact j8.cell 2 U U)) ?_))
   refine Q9 U U U (QQ U U U (QI U U U Jb (Q1 U U U (Ql U QO (by first | assumption | exact j8.cell 0 U U | exact j8.cell 1 U U | exact j8.cell 2 U U)) ?_)))
   refine Q1 U U U (Xp U Em HY (by first | exact j8.blk 0 U | exact j8.blk 1 U | exact j8.blk 2 U) (by first | decide | exact Q5 U | (simp;done) | omega) U) ?_
   refine Xa U U U U U U ?_
   refine QY (k:=id) (v:=ndA (tmN n)) 3 j8 keysInt underlying58 U U U U ?_
   intro w9 j9; dsimp only[List.set]at j9; rw[GO]at j9
   refine XS (Xf (by kernel_rfl)) ?_
   refine VC.nil (Qc (Qh [0,2] U (Qe ?_)))
   have j10:=j9.drew
   refine Q6 [0,1,2,3,4,5,6,7,8,9] [8] ZF (by kernel_rfl) ?_
   refine Q9 U U U (QQ U U U (QI U U U Jr (Q1 U U U (Ql U YP (by first | assumption | exact j10.cell 0 U U | exact j10.cell 1 U U | exact j10.cell 2 U U)) ?_)))
   refine Q9 U U U (QQ U U U (QI U U U Jb (Q1 U U U (Ql U QO (by first | assumption | exact j10.cell 0 U U | exact j10.cell 1 U U | exact j10.cell 2 U U)) ?_)))
   refine Xa U U U U U U ?_
   have j11:=X7 (T:=QK T id (some (tmN n))) (last:=last) (j10.pick [2,3,0,1,4] U)
   have hnd:nd (QK T id (some (tmN n))) id=tmN n:=XU Qr
   refine Qy HR U (Yp (j11.sp [0] U) id (by rw[hnd]; exact hb)) U ?_
   rintro _ w12 ⟨rfl,j12⟩
   replace j12:=j12.jn U U
   rw[hnd]
   refine X5 (Xf (by kernel_rfl)) ?_
   refine Za U U U (VC.nil (Qc (Qh [2] U (Qv (QM (.inr U) U U ?_)))))
   exact⟨_,rfl,rfl, by rw[if_neg hi]; exact j12.pick [2,0,3] U⟩
  have hi:id=0:= by simpa using h5
  refine Qt (Qc (Qe ?_))
  have j13:=j3.drew
  refine Q6 [0,1,2,3,4,5,6,7,8,9] [8] ZF (by kernel_rfl) ?_
  refine Q9 U U U (QQ U U U (QI U U U Jr (Q1 U U U (Ql U YP (by first | assumption | exact j13.cell 0 U U | exact j13.cell 1 U U | exact j13.cell 2 U U)) ?_)))
  refine Q9 U U U (QQ U U U (QI U U U Jb (Q1 U U U (Ql U QO (by first | assumption | exact j13.cell 0 U U | exact j13.cell 1 U U | exact j13.cell 2 U U)) ?_)))
  refine Xa U U U U U U ?_
  have j14:=X7 (T:=T) (last:=last) (j13.pick [2,3,0,1,4] U)
  have hnd:nd (T) id=n:=XU hn
  refine Qy HR U (Yp (j14.sp [0] U) id (by rw[hnd]; exact hb)) U ?_
  rintro _ w15 ⟨rfl,j15⟩
  replace j15:=j15.jn U U
  rw[hnd]
  refine X5 (Xf (by kernel_rfl)) ?_
  refine Za U U U (VC.nil (Qc (Qh [2] U (Qv (QM (.inr U) U U ?_)))))
  exact⟨_,rfl,rfl, by rw[if_pos hi]; exact j15.pick [2,0,3] U⟩
 exact absurd h4 (by decide)
theorem P6 {w:World} {vb:Nat} {id:Int} {a:TrAd} {T:Nodes} {last:Int} {F:Th} (hS:Sat w [QC vb [ptrV a.t 0,intV id],ZQ a T last,F]) {n:NodeD} (hn:T id=some n):
    Calls prog 38 #[ptrV vb 0,intV 0] w (Ret fun v w'=>Sat w' [QC vb [ptrV a.t 0,intV id],ZQ a T last,F]):= by
 replace hS:=(Zn (hS.pull 1 U)).reorder [2,0,1,3] U
 refine Qm func38 U ntmps38 U ?_
 refine Qe ?_
 have j1:=hS.drew
 refine Q6 [0,1,2,3,4,5,6,7,8,9,10,11,12,13,14,15,16,17] [15,16] ZF (by kernel_rfl) ?_
 refine Q9 U U U (QQ U U U (QI U U U Jr (Q1 U U U (Ql U YP (by first | assumption | exact j1.cell 0 U U | exact j1.cell 1 U U)) ?_)))
 refine QQ U U U (QI U U U ZW (Q1 U U U (Ql U WT (by first | assumption | exact j1.cell 0 U U | exact j1.cell 1 U U)) ?_))
 refine Q9 U U U (QQ U U U (QI U U U Jb (Q1 U U U (Ql U QO (by first | assumption | exact j1.cell 0 U U | exact j1.cell 1 U U)) ?_)))
 refine Q1 U U U (Zb (k:=id) 2 j1 keysInt underlying58 U U U Wy (u:= .agg #[intV n.id,intV n.par,intV n.dep,intV n.gue,intV n.el,.bool n.timed,.bool n.short]) (g:=true) (WN hn) (WY hn)) (Q9 U U U (ZP U U U U (ZP U U U U (Xa U U U U U U ?_))))
 refine Xb j1 Wy U U ?_
 intro nb w2 j2
 refine X5 (.cons (.inl ⟨rfl,(Zb (k:=id) 3 j2 keysInt underlying58 U U U Wy (u:= .agg #[intV n.id,intV n.par,intV n.dep,intV n.gue,intV n.el,.bool n.timed,.bool n.short]) (g:=true) (WN hn) (WY hn))⟩) (.cons (.inl ⟨rfl,(Ql U QO (by first | assumption | exact j2.cell 0 U U | exact j2.cell 1 U U | exact j2.cell 2 U U))⟩) (.cons (.inl ⟨rfl,(Ql U WT (by first | assumption | exact j2.cell 0 U U | exact j2.cell 1 U U | exact j2.cell 2 U U))⟩) (.cons (.inl ⟨rfl,(Ql U YP (by first | assumption | exact j2.cell 0 U U | exact j2.cell 1 U U | exact j2.cell 2 U U))⟩) .nil)))) ?_
 refine Xa U U U U U U ?_
 refine QF j2 U U HY U (by first | rfl | (simp [QU,Value.oneCell'];done)) (i:=0) U (by first | decide | exact Q5 U) ?_
 intro w3 hS3a; dsimp only[List.set]at hS3a
 have j3:Sat w3 (QC nb [intV n.id,intV n.par,intV n.dep,intV n.gue,intV n.el,.bool n.timed,.bool n.short]::_):=hS3a; clear hS3a
 refine XS (Xf (by kernel_rfl)) ?_
 refine Za U U U (VC.nil (Qc (Qh [1,0,4,5] U (Qe (Qa (Qb U U (Xn U U U (Qb U U (QS 23 U (fun h4=> ?_) (fun h4=> ?_))))))))))
 ·exact absurd U h4
 exact Qk U U (QJ h4) U (QG U (QJ h4) U U (Qf (Qc (QW U (Qt (ZT (.inl U) U (⟨_,U,(X7 (j3.pick [2,3,1,4] U)).perm (List.Perm.swap _ _ _)⟩)))))))
