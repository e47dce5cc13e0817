/- laws of leaves: sees -/
import Derived.Test.YtkcjfoaejijdoaaGreatDoorLv38
import Derived.Test.YtkcjfoaejijdoaaGreatDoorFw
set_option linter.unusedVariables false
set_option maxRecDepth 100000
set_option maxHeartbeats 80000000000
namespace Go.Proofs.YtkcjfoaejijdoaaGreatDoor
open Go.RowKit M
set_option linter.unusedSectionVars false
variable [Inhabited SlW]
theorem LX {l:Bs} {n:Nat} (hn:n≤l.length) (hz: ∀k,n≤k→k<l.length→l[k]? =some 0) (hl:n=0∨ ∃c,l[n -1]? =some c∧c≠0):Lib.trimRightB l 0=l.take n:= by
  have h1:l.drop n=List.replicate (l.length -n) 0:= by
    refine List.ext_getElem? fun k=> ?_
    rw[List.getElem?_drop,List.getElem?_replicate]
    split
    · exact hz _ (by omega) (by omega)
    · exact List.getElem?_eq_none (by omega)
  have h2:Lib.trimRightB l 0=Lib.trimRightB (l.take n) 0:= by
    conv=>lhs; rw[←List.take_append_drop n l,h1]
    exact UG _ _
  rw[h2]
  rcases hl with rfl | ⟨c,hc,hne⟩
  · rfl
  · obtain⟨m,rfl⟩: ∃m,n=m+1:= by
      rcases Nat.eq_zero_or_pos n with rfl | q
      · exfalso
        have :=hz 0 (Nat.le_refl _) (XQ hc).1
        rw[Nat.zero_sub]at hc; rw[this]at hc; exact hne (Option.some.inj hc).symm
      · exact⟨n -1, by omega⟩
    rw[Nat.add_sub_cancel]at hc
    rw[List.take_add_one,hc]
    simp [Lib.trimRightB,hne]
theorem Eh {w:World} {b n Fr:Nat} {L:LvD} {V:VS} {F:Th} (hS:Sat w [ZY b L,Zq L.sp n Fr V,F]) (hE: ∀i,Y3 L.tr Zp i) {id:Int} (hid:id=0∨(id≠0∧ ∃t,L.tr id=some t)) (ob:Bs) (page:Int) (hp:0≤page∧page<256):
    Calls Tryz.prog 33 #[ptrV b 0,intV id,strV ob,intV page] w (Ret fun v w'=>v= .tuple #[intV (Xc L id (ob,page)),.bool (Vm L V id (ob,page))]∧Sat w' [ZY b L,Zq L.sp n Fr V,F]):= by
  rcases hid with rfl | ⟨h0,t,ht⟩
  · exact GH hS hE ob page (by simp [WV,Z8,hp.1,hp.2])
  · exact Ei hS hE ht h0 ob page (by simp [WV,Z8,hp.1,hp.2,ht])
theorem NM {l m:List Bs} (h:l.Perm m):Zc l=Zc m:= by
  have hs: ∀x:List Bs,(Zc x).Pairwise (fun a b=>a≤b):= fun x=> by
    have :=List.pairwise_mergeSort (le:= fun a b:Bs=>decide (a≤b)) (fun a b c h1 h2=> by
      simp only[decide_eq_true_eq]at *
      exact List.le_trans h1 h2) (fun a b=> by
      simp only[Bool.or_eq_true,decide_eq_true_eq]
      exact List.le_total a b) x
    exact this.imp fun h=> by simpa using h
  exact List.Perm.eq_of_pairwise (le:= fun a b=>a≤b) (fun a b _ _ h1 h2=>List.le_antisymm h1 h2) (hs l) (hs m) (((H2 l).trans h).trans (H2 m).symm)
theorem perm_of {l m:List Bs} (hl:l.Nodup) (hm:m.Nodup) (h: ∀x,x∈l↔x∈m):l.Perm m:=(List.perm_ext_iff_of_nodup hl hm).2 h
theorem OX {A:LvA} {id:Int} {W:WS} {ns l:List Bs} (hI:PagesOk W.objs) (hv: ∀nm pg,ZN A id (nm,pg)=XD W nm pg) (hn:NmI A id ns) (hl:N2 W.objs l):Zc ns=l:= by
  obtain⟨l0,rfl,h1,h2⟩:=hl
  refine NM (perm_of hn.1 h1 fun x=> ?_)
  rw[hn.2,h2]
  constructor
  · rintro⟨pg,h⟩
    refine⟨pg, fun e=>h ?_⟩
    rw[hv]
    unfold XD W2
    rw[e];rfl
  · rintro⟨pg,h⟩
    refine⟨pg, fun e=> ?_⟩
    rw[hv]at e
    cases q:W.objs x pg with
    | none=> exact h q
    | some s=>
      unfold XD W2 at e
      rw[q]at e
      exact(hI.ok x pg s q).2.1 e
theorem objs_in {A:LvA} {id:Int} {W:WS} {ns:List Bs} {c:Nat} (hI:PagesOk W.objs) (hv: ∀nm pg,ZN A id (nm,pg)=XD W nm pg) (hn:NmI A id ns) (hc:ns.length≤c):FB W.objs c:= by
  refine⟨ns,hc, fun k ⟨pg,h⟩=>(hn.2 k).2 ⟨pg, fun e=> ?_⟩⟩
  rw[hv]at e
  cases q:W.objs k pg with
  | none=> exact h q
  | some s=>
    unfold XD W2 at e
    rw[q]at e
    exact(hI.ok k pg s q).2.1 e
theorem LM {w:World} {q:Nat} {W:WS} {As:List Th} (h:Sat w (Xi q W::As)):PagesOk W.objs:= by
  obtain⟨_,hI,_⟩:=W5 h
  exact hI
theorem LY {g:Bs} {c:UInt8} (h:g[g.length -1]? =some c) (hc:c=0):Lib.trimRightB g 0=Lib.trimRightB (g.take (g.length -1)) 0:= by
  have hl:=(XQ h).1
  have e:g=g.take (g.length -1)++List.replicate 1 0:= by
    have h1:=List.take_append_drop (g.length -1) g
    have h2:g.drop (g.length -1)=[c]:= by
      rw[List.drop_eq_getElem_cons hl]
      have h3:=(XQ h).2
      rw[h3,List.drop_eq_nil_of_le (by omega)]
    rw[h2,hc]at h1
    exact h1.symm
  conv=>lhs; rw[e]
  exact UG _ 1
theorem NE {g:Bs} (h:g.length=0∨ ∃c,g[g.length -1]? =some c∧c≠0):Lib.trimRightB g 0=g:= by
  rw[LX (n:=g.length) (Nat.le_refl _) (fun k h1 h2=> by omega) h,List.take_length]
theorem Ep {w:World} {b q n Fr m c:Nat} {L:LvD} {V:VS} {W:WS} {F:Th} (hS:Sat w [ZY b L,Zq L.sp n Fr V,Xi q W,F]) (hn:n≤60000000000) (hI:LvI m L V) (hm:m<Zp) (hc:SzLe L c) (hcm:c≤90000000000) {id:Int} (hth:Z8 L id=true) (hid:id=0∨(id≠0∧ ∃t,L.tr id=some t)) (hid2:id=0∨ ∃t,L.tr id=some t) (hv: ∀nm pg,ZN (Q8 L V) id (nm,pg)=XD W nm pg):
    Calls Tryz.prog 38 #[ptrV b 0,ptrV L.sp 0,intV id,ptrV q 0] w (Ret fun v w'=>v= .bool true∧Sat w' [ZY b L,Zq L.sp n Fr V,Xi q W,F]):= by
 refine Qq Tryz.func38 rfl Tryz.ntmps38 rfl ?_
 refine Qd (Qa (Qe rfl rfl (Qf (Qc (Qd (Qa (Qb rfl rfl (Qb rfl rfl (Qv cal_32 rfl (SD (hS.sp [0,1] rfl) (by omega) hI hm hc hcm id hth hid2) rfl ?_)))))))))
 rintro _ w1 ⟨ns,hns,hnc,hS1⟩
 replace hS1:=hS1.jn rfl rfl
 have hok:=LM (hS1.pick [3,0,1,2,4] rfl)
 obtain⟨an,cn,hvn,_⟩:=hS1.own_shape 0 rfl; obtain rfl:=hvn
 refine Qe rfl rfl (Qf (Qc (Qd (Qd (Qa (Qb rfl rfl (Qb rfl rfl (Qv cal_100 rfl (SC (hS1.sp [3] rfl) (objs_in hok hv hns (by omega))) rfl ?_))))))))
 rintro _ w2 ⟨l2,hl2,hS2⟩
 replace hS2:=hS2.jn rfl rfl
 clear hS1
 have hnq:=OX hok hv hns hl2
 have hln:(Zc ns).length≤90000000000:= by rw[Y8];omega
 have hl2l:l2.length≤90000000000:= by rw[←hnq]; exact hln
 refine Qv cal_31 rfl (same_sp (hS2.sp [] rfl) (Ent.starL (Hj (C:=stC) (l:=Zc ns) (by omega)) 2 rfl) (Ent.starL (Hj (C:=stC) (l:=l2) (by omega)) 0 rfl)) rfl ?_
 rintro _ w3 ⟨rfl,hS3⟩
 replace hS3:=hS3.jn rfl rfl
 clear hS2
 rw[QW hnq]
 refine QR rfl rfl (Qf (Qc (Qi [3,2,1,0,8,9,23] rfl (QM rfl (fun h4=> ?_) (fun h4=> ?_)))))
 ·exact absurd h4 (by decide)
 refine Qr (Qc (Qd (Qd (Qa (Qe rfl rfl (Qf (Qc (Qw ?_))))))))
 refine Xe (fun K0 E0 W0=> ∃(i:Nat),K0=(Zc ns).length -i∧E0=[(0,ptrV b 0),(1,ptrV L.sp 0),(2,intV id),(3,ptrV q 0),(9,.slice an (Zc ns).length cn),(10,intV (i:Int))]∧Sat W0 [ZY b L,Zq L.sp n Fr V,Xi q W,rowT stC (.slice an (Zc ns).length cn) (Zc ns),F]∧(i≤(Zc ns).length)) (L0:=[(0,_),(1,_),(2,_),(3,_),(9,_),(10,_)]) ((Zc ns).length -0) (U9 rfl rfl rfl rfl rfl rfl) ⟨0,rfl,rfl,hS3.pick [3,4,1,2,5] rfl, by omega⟩ ?_
 rintro _ _ w5 ⟨i,rfl,rfl,hS5,hi⟩
 refine Qd (Qd (Qa (Qb rfl rfl (Qb rfl rfl ?_))))
 first | refine X5 Tryz.underlying61 rfl rfl ?_ | refine JB 3 hS5 Tryz.underlying61 rfl rfl rfl ?_
 refine Xb rfl rfl rfl (Qf (Qc (Qs rfl (fun h6=> ?_) (fun h6=> ?_))))
 ·obtain⟨nm,hnm⟩: ∃nm,(Zc ns)[i]? =some nm:=⟨_,Zd (by omega)⟩
  refine Qr (Qc (Qd (Qw (Qd (Qa (Qb rfl rfl (Qb rfl rfl (Qb rfl rfl (Xu stC 3 i hS5 rfl rfl rfl (by first | rfl | omega) hnm KG rfl ?_)))))))))
  intro bx7 capx7 hvx7
  refine Z1 3 i 0 hS5 rfl hvx7 rfl rfl hnm ZC rfl rfl (Qv cal_101 rfl (EF (hS5.sp [2] rfl) nm) rfl ?_)
  rintro _ w8 ⟨rfl,hS8⟩
  replace hS8:=hS8.jn rfl rfl
  clear hS5
  refine Qe rfl rfl (Qf (Qc (Qi [10,9,3,2,1,0,11] rfl (Qd (Qa (Qe rfl rfl (Qf (Qc (Qd (Qd (Qa (Qe rfl rfl (Qf (Qc (Qw ?_)))))))))))))))
  refine Xe (fun K0 E0 W0=> ∃(k:Nat),K0=256 -k∧E0=[(0,ptrV b 0),(1,ptrV L.sp 0),(2,intV id),(3,ptrV q 0),(9,.slice an (Zc ns).length cn),(10,intV (i:Int)),(11,strV (C8 W nm)),(12,strV (Ha W nm k)),(13,intV (k:Int))]∧Sat W0 [ZY b L,Zq L.sp n Fr V,Xi q W,rowT stC (.slice an (Zc ns).length cn) (Zc ns),F]∧(k≤256)) (L0:=[(0,_),(1,_),(2,_),(3,_),(9,_),(10,_),(11,_),(12,_),(13,_)]) (256) (AE rfl rfl rfl rfl rfl rfl rfl rfl rfl) ⟨0, by omega,rfl,hS8.pick [1,2,0,3,4] rfl, by omega⟩ ?_
  rintro _ _ w9 ⟨k,rfl,rfl,hS9,hk⟩
  have hpl:(Ha W nm k).length≤16384:= by rw[Me hok];omega
  refine Qd (Qd (Qa (Qb rfl rfl (Xb rfl rfl rfl (Qf (Qc (Qs rfl (fun h10=> ?_) (fun h10=> ?_))))))))
  ·refine Qr (Qc (Qd (Qw (Qd (Qa (Qb rfl rfl (Qb rfl rfl (Qb rfl rfl (Qb rfl rfl (Xu stC 3 i hS9 rfl rfl rfl (by first | rfl | omega) hnm KG rfl ?_))))))))))
   intro bx11 capx11 hvx11
   refine Z1 3 i 0 hS9 rfl hvx11 rfl rfl hnm ZC rfl rfl (Qb rfl rfl (Qv Fy rfl (Eh (hS9.sp [0,1] rfl) (hI.rank.ends hm) hid nm (k:Int) (by omega)) rfl ?_))
   rintro _ w12 ⟨rfl,hS12⟩
   replace hS12:=hS12.jn rfl rfl
   clear hS9
   refine Qb rfl rfl (Qt rfl rfl rfl (Qt rfl rfl rfl (Qe rfl rfl (Qe rfl rfl (Qf (Qc (Qi [13,12,11,10,9,3,2,1,0,14] rfl ?_)))))))
   have hpgl:(XT V (Xc L id (nm,(k:Int)))).length=64:=hI.len (hI.aliveS _ _)
   refine Qa (Qb rfl rfl (Qb rfl rfl (Qb rfl rfl (Qv JQ rfl (Y7 (hS12.sp [1] rfl) (Xc L id (nm,(k:Int)))) rfl ?_))))
   rintro _ w13 ⟨rfl,hS13⟩
   replace hS13:=hS13.jn rfl rfl
   clear hS12
   refine LQ rfl rfl (by omega) rfl ?_
   refine Qe rfl rfl (Qf (Ql (Qc (Qi [13,11,10,9,3,2,1,0,12] rfl (Qa (Qb rfl rfl (QK rfl rfl (by omega) (by omega) rfl ?_)))))))
   refine Qe rfl rfl (Qf ?_)
   exact Q6 (L1:=[(0,_),(1,_),(2,_),(3,_),(9,_),(10,_),(11,_),(12,_),(13,intV ((k+1:Nat):Int))]) (AE rfl rfl rfl rfl rfl rfl rfl rfl rfl) (k1:=256 -(k+1)) (by omega) ⟨k+1, by omega, by rw[HR,←hv nm (k:Int),←hI.sees],hS13.pick [1,0,2,3,4] rfl, by omega⟩
  refine QS (Qp (Qp (Qz (Qc (Qi [12,11,10,9,3,2,1,0] rfl (Qd (Qw ?_)))))))
  refine Xe (fun K0 E0 W0=> ∃(g:Bs),K0=g.length∧E0=[(0,ptrV b 0),(1,ptrV L.sp 0),(2,intV id),(3,ptrV q 0),(9,.slice an (Zc ns).length cn),(10,intV (i:Int)),(11,strV (C8 W nm)),(12,strV g)]∧Sat W0 [ZY b L,Zq L.sp n Fr V,Xi q W,rowT stC (.slice an (Zc ns).length cn) (Zc ns),F]∧(C8 W nm=Lib.trimRightB g 0)∧(g.length≤16384)) (L0:=[(0,_),(1,_),(2,_),(3,_),(9,_),(10,_),(11,_),(12,_)]) ((Ha W nm k).length) (LI rfl rfl rfl rfl rfl rfl rfl rfl) ⟨_,rfl,rfl,hS9.pick [0,1,2,3,4] rfl, by rw[show k=256 by omega];rfl,hpl⟩ ?_
  rintro _ _ w14 ⟨g,rfl,rfl,hS14,hg,hgl2⟩
  refine Qd (Qd (Qa (Qb rfl rfl (Wj Tryz.underlying9 rfl rfl (Y6 rfl rfl rfl (Qb rfl rfl (QN 59 rfl (fun h15=> ?_) (fun h15=> ?_))))))))
  ·have hgl:0<g.length:= by omega
   obtain⟨cg,hcg⟩: ∃c,g[g.length -1]? =some c:=⟨_,Zd (by omega)⟩
   refine Qj rfl rfl (QW h15) (Qb rfl rfl (Qj rfl rfl (QW h15) (Qb rfl rfl (Qj rfl rfl (QW h15) (Wj Tryz.underlying9 rfl rfl (Qj rfl rfl (QW h15) (Hf rfl rfl (by omega) (by omega) rfl ?_)))))))
   refine Qj rfl rfl (QW h15) (Y5 (g.length -1) Tryz.underlying9 rfl rfl (by omega) hcg rfl ?_)
   refine Qj rfl rfl (QW h15) (QX rfl rfl rfl (QC rfl (QW h15) rfl rfl (Qf (Qc (Qi [12,11,10,9,3,2,1,0,66] rfl (Qs rfl (fun h16=> ?_) (fun h16=> ?_)))))))
   ·have hc0:cg=0:=UInt8.toNat_inj.1 (by have h0:=h16; simp only[UInt8.toNat_zero];omega)
    refine Qr (Qc (Qw (Qa (Qb rfl rfl (Qb rfl rfl (Wj Tryz.underlying9 rfl rfl (Hf rfl rfl (by omega) (by omega) rfl ?_)))))))
    refine Tn _ (g.length -1) Tryz.underlying9 rfl (F6 _) (Rk (g.length -1) _ rfl (by omega)) (by omega) (by omega) rfl ?_
    refine Qe rfl rfl (Qf (Ql ?_))
    exact Q6 (L1:=[(0,_),(1,_),(2,_),(3,_),(9,_),(10,_),(11,_),(12,_)]) (LI rfl rfl rfl rfl rfl rfl rfl rfl) (k1:=g.length -1) (by omega) ⟨g.take (g.length -1), by rw[List.length_take];omega, by rw[List.drop_zero],hS14.pick [0,1,2,3,4] rfl, by rw[hg]; exact LY hcg hc0, by rw[List.length_take];omega⟩
   have hge:C8 W nm=g:= by rw[hg]; exact NE (.inr ⟨cg,hcg, fun e=> by subst e; exact h16 rfl⟩)
   refine QS (Qp (Qp (Qz (Qc (Qd (Qa (Qb rfl rfl (Qb rfl rfl (Rq rfl rfl rfl (Qf (Qc (Qi [10,9,3,2,1,0,74] rfl (Qs rfl (fun h17=> ?_) (fun h17=> ?_))))))))))))))
   ·exact absurd hge.symm h17
   refine Qr (Ql (Qc (Qa (Qb rfl rfl (QK rfl rfl (by omega) (by omega) rfl ?_)))))
   refine Qe rfl rfl (Qf ?_)
   exact Q6 (L1:=[(0,_),(1,_),(2,_),(3,_),(9,_),(10,intV ((i+1:Nat):Int))]) (U9 rfl rfl rfl rfl rfl rfl) (k1:=(Zc ns).length -(i+1)) (by omega) ⟨i+1,rfl,rfl,hS14.pick [0,1,2,3,4] rfl, by omega⟩
  have hge:C8 W nm=g:= by rw[hg]; exact NE (.inl (by omega))
  refine Qh rfl rfl (Q0 h15) rfl (Qh rfl rfl (Q0 h15) rfl (Qh rfl rfl (Q0 h15) rfl (Qh rfl rfl (Q0 h15) rfl (Qh rfl rfl (Q0 h15) rfl (Qh rfl rfl (Q0 h15) rfl (QG rfl (Q0 h15) rfl rfl (Qf (Qc (Qi [12,11,10,9,3,2,1,0,66] rfl (QV rfl (QS (Qp (Qp (Qz (Qc (Qd (Qa (Qb rfl rfl (Qb rfl rfl (Rq rfl rfl rfl (Qf (Qc (Qi [10,9,3,2,1,0,74] rfl (Qs rfl (fun h18=> ?_) (fun h18=> ?_)))))))))))))))))))))))))
  ·exact absurd hge.symm h18
  refine Qr (Ql (Qc (Qa (Qb rfl rfl (QK rfl rfl (by omega) (by omega) rfl ?_)))))
  refine Qe rfl rfl (Qf ?_)
  exact Q6 (L1:=[(0,_),(1,_),(2,_),(3,_),(9,_),(10,intV ((i+1:Nat):Int))]) (U9 rfl rfl rfl rfl rfl rfl) (k1:=(Zc ns).length -(i+1)) (by omega) ⟨i+1,rfl,rfl,hS14.pick [0,1,2,3,4] rfl, by omega⟩
 exact QS (Qp (Qp (Qz (Qc (Qd (Qa (Qe rfl rfl (Qf (Qc (Qi [8] rfl (Qu (QQ (.inr rfl) rfl rfl (⟨_,rfl,rfl,hS5.pick [0,1,2,4] rfl⟩)))))))))))))
theorem BV {w:World} {b p q n m c e:Nat} {A:LvA} {W:WS} {F:Th} (hS:Sat w [Yb b p n m c e A,Xi q W,F]) (hn:n≤60000000000) (hm:m<Zp) (he:e≤90000000000) {id:Int} (hid:id=0∨ ∃t,A.tr id=some t) (hv: ∀nm pg,ZN A id (nm,pg)=XD W nm pg):
    Calls Tryz.prog 38 #[ptrV b 0,ptrV p 0,intV id,ptrV q 0] w (Ret fun v w'=>v= .bool true∧Sat w' [Yb b p n m c e A,Xi q W,F]):= by
  obtain⟨L,V,⟨h1,h2,h3,h4,h5⟩,hS1⟩:=ZH hS
  subst h1; subst h3
  have hid2:id=0∨ ∃t,L.tr id=some t:=hid.imp_right fun ⟨t,ht⟩=> by
    obtain⟨u,hu,_⟩:=Uf ht
    exact⟨u,hu⟩
  have hth:Z8 L id=true:= by
    rcases hid2 with rfl | ⟨t,ht⟩
    · simp [Z8]
    · simp [Z8,ht]
  have hid1:id=0∨(id≠0∧ ∃t,L.tr id=some t):= by
    by_cases h0:id=0
    · exact .inl h0
    · exact .inr ⟨h0,hid2.resolve_left h0⟩
  refine(Ep hS1 hn h2 hm h5 he hth hid1 hid2 hv).mono fun ew w h=>h.mono fun v w h=> ?_
  exact⟨h.1,ZO ⟨rfl,h2,rfl,h4,h5⟩ h.2⟩
end Go.Proofs.YtkcjfoaejijdoaaGreatDoor
namespace Go.Proofs.YtkcjfoaejijdoaaGreatDoor
open Go.RowKit M
set_option linter.unusedSectionVars false
variable [Inhabited SlW]
theorem NS {W:WS} (hI:PagesOk W.objs) (n:Bs) (i:Int) (c:UInt8):PagesOk (Wh W n i c).objs:= by
  unfold Wh
  split
  · refine hI.set ?_ (by omega)
    rw[List.length_set]
    exact hI.len n (i/ 64)
  · exact hI
theorem qai {W:WS} (hI:PagesOk W.objs) (frm:Bs) (fi n:Int) (to:Bs) (at_:Int):PagesOk (KH W frm fi n to at_).objs:=⟨fun m q s hs=> by
  have hs':(if m=to∧max at_ 0≤q∧q<min (at_+n) 256 then W.objs frm (fi+q -at_)else W.objs m q)=some s:=hs
  split at hs'
  · rename_i e
    have h1:=hI.ok _ _ _ hs'
    exact⟨h1.1,h1.2.1, by omega, by omega⟩
  · exact hI.ok m q s hs'⟩
theorem DJ {W:WS} (hI:PagesOk W.objs) (x:AcL):PagesOk (Yn W x).objs:= by
  unfold Yn
  split
  · exact hI
  · split
    · exact qai hI _ _ _ _ _
    · split
      · exact hI.drop _
      · exact NS hI _ _ _
def Rm (c:KD→Bs) (t:TrA) (k:KD):Bs:= match t.lv k with
  | some x=>RH (c k) x.own x.wr
  | none=> if t.dr k.1=true then zer else c k
def AL (t:TrA):Prop:= ∀k x,t.lv k=some x→Sl x∧x.own.length=64
def ValT (c:KD→Bs) (t:TrA):Prop:= ∀k x,t.lv k=some x→ ∀j,j<64→x.rd.getLsbD j=true→x.base[j]? =(c k)[j]?
def Kz (c:KD→Bs):Prop:= ∀k,(c k).length=64
theorem FD:zer.length=64:=rfl
section
variable {b c:KD→Bs} {t:TrA} {k:KD} {y o:LfA} {ob nm to:Bs} {p0 base a:Int} {f:Nat→Bs} {W:WS} {v:UInt8} {x:AcL}
theorem NW (h:AL t) (hb:Kz b):(JL t (b k) k).length=64:= by
  unfold JL
  cases hx:t.lv k with
  | some x=> exact(h k x hx).2
  | none=>
    dsimp only
    split
    · rfl
    · exact hb k
theorem AL.tou (h:AL t) (hb:Kz b):Sl (ZV b t k)∧(ZV b t k).own.length=64:= by
  refine⟨?_, by rw[Hz]; exact NW h hb⟩
  unfold ZV
  cases hx:t.lv k with
  | some x=> exact(h k x hx).1
  | none=> exact fun j hj hw=>rfl
theorem AL.put (h:AL t) (hy:Sl y∧y.own.length=64):AL (Yp t k y):= fun j x hx=> by
  have hx':Xz t.lv k (some y) j=some x:=hx
  by_cases e:j=k
  · subst e
    rw[Q1]at hx'
    cases hx'
    exact hy
  · rw[QI e]at hx'
    exact h j x hx'
theorem AL.drp (h:AL t):AL (Rh t ob):= fun j x hx=> by
  have hx':Zn (fun j=>j.1=ob) t.lv j=some x:=hx
  unfold Zn at hx'
  by_cases e:j.1=ob
  · rw[if_pos e]at hx'
    obtain⟨z,hz,rfl⟩:=Option.map_eq_some_iff.1 hx'
    exact⟨Ny,rfl⟩
  · rw[if_neg e]at hx'
    exact h j x hx'
theorem wrX_ag (h:Sl o):Sl (wrX o a v):= fun j hj hw=> by
  have hw':(o.wr ||| (1#64<<<a.toNat)).getLsbD j=false:=hw
  rw[C7 hj,Bool.or_eq_false_iff]at hw'
  have hne: ¬j=a.toNat:= by simpa using hw'.2
  show o.base[j]? =(o.own.set a.toNat v)[j]?
  rw[List.getElem?_set_ne (fun e=>hne e.symm)]
  exact h j hj hw'.1
theorem AL.rdU (h:AL t) (hb:Kz b):AL (rdU b t ob a):= by
  unfold Go.Proofs.YtkcjfoaejijdoaaGreatDoor.rdU
  split
  · exact h.put ⟨(h.tou hb).1,(h.tou hb).2⟩
  · exact h
theorem AL.wrU (h:AL t) (hb:Kz b):AL (wrU b t ob a v):= by
  unfold Go.Proofs.YtkcjfoaejijdoaaGreatDoor.wrU
  split
  · refine h.put ⟨wrX_ag (h.tou hb).1, ?_⟩
    show((ZV b t (ob,a/ 64)).own.set _ _).length=64
    rw[List.length_set]
    exact(h.tou hb).2
  · exact h
theorem AL.rdf (h:AL t) (hb:Kz b): ∀n,AL (V5 b ob p0 t n)
  | 0=>h
  | n+1=> by
    show AL (Vl b ob (V5 b ob p0 t n) _)
    unfold Vl
    split
    · exact(AL.rdf h hb n).put ⟨((AL.rdf h hb n).tou hb).1,((AL.rdf h hb n).tou hb).2⟩
    · exact AL.rdf h hb n
theorem AL.wrf (h:AL t) (hf: ∀i,(f i).length=64): ∀n,AL (G0 b t to base f n)
  | 0=>h
  | n+1=>(AL.wrf h hf n).put ⟨Ny,hf n⟩
theorem PS (h:AL t) (hb:Kz b) {q:Int}:(Fc b t ob q).length=64:= by
  unfold Fc
  split
  · exact NW h hb
  · rfl
theorem AL.copy (h:AL t) (hb:Kz b) {fi n at_:Int}:AL (HD b t ob fi n to at_):=(h.rdf hb _).wrf (fun _=>PS h hb) _
theorem AL.step (h:AL t) (hb:Kz b):AL (WM b t x):= by
  unfold WM
  split
  · exact h.rdU hb
  · split
    · exact h.copy hb
    · split
      · exact h.drp
      · exact h.wrU hb
theorem ValT.put (h:ValT c (Yp t k y)) (hg:GoX (ZV b t k) y):ValT c t:= fun j x hx i hi hr=> by
  by_cases e:j=k
  · subst e
    have e2:ZV b t j=x:= by unfold ZV; rw[hx]
    obtain⟨g1,⟨r,g2⟩,_⟩:=hg
    rw[e2]at g1 g2
    rw[←g1]
    refine h j y Q1 i hi ?_
    rw[g2,BitVec.getLsbD_or,hr,Bool.true_or]
  · exact h j x (show Xz t.lv k (some y) j=some x by rw[QI e]; exact hx) i hi hr
theorem ValT.drp (h:ValT c (Rh t ob)):ValT c t:= fun j x hx i hi hr=> by
  by_cases e:j.1=ob
  · exact h j (allX x zer) (show Zn (fun j=>j.1=ob) t.lv j=some (allX x zer) by unfold Zn; rw[if_pos e,hx];rfl) i hi hr
  · exact h j x (show Zn (fun j=>j.1=ob) t.lv j=some x by unfold Zn; rw[if_neg e]; exact hx) i hi hr
theorem ValT.rdf: ∀n,ValT c (V5 b ob p0 t n)→ValT c t
  | 0,h=>h
  | n+1,h=> by
    have h':ValT c (Vl b ob (V5 b ob p0 t n) (p0+(n:Int))):=h
    unfold Vl at h'
    split at h'
    · exact ValT.rdf n (h'.put (b:=b) GoX.allR)
    · exact ValT.rdf n h'
theorem ValT.wrf: ∀n,ValT c (G0 b t to base f n)→ValT c t
  | 0,h=>h
  | n+1,h=>ValT.wrf n (ValT.put (b:=b) h GoX.allX)
theorem ValT.step (h:ValT c (WM b t x)):ValT c t:= by
  unfold WM at h
  split at h
  · unfold Go.Proofs.YtkcjfoaejijdoaaGreatDoor.rdU at h
    split at h
    · exact h.put (b:=b) GoX.rdX
    · exact h
  · split at h
    · exact ValT.rdf _ (ValT.wrf _ h)
    · split at h
      · exact h.drp
      · unfold Go.Proofs.YtkcjfoaejijdoaaGreatDoor.wrU at h
        split at h
        · exact h.put (b:=b) GoX.wrX
        · exact h
theorem Ff {j:KD}:Rm c (Yp t k y) j= if j=k then RH (c j) y.own y.wr else Rm c t j:= by
  unfold Rm Yp
  dsimp only
  by_cases e:j=k
  · subst e; rw[Q1,if_pos rfl]
  · rw[QI e,if_neg e]
theorem CS (hc:Kz c):RH (c k) (ZV b t k).own (ZV b t k).wr=Rm c t k:= by
  unfold Rm
  cases hx:t.lv k with
  | some x=>
    have e:ZV b t k=x:= by unfold ZV; rw[hx]
    rw[e]
  | none=>
    unfold ZV JL
    rw[hx]
    dsimp only
    cases hd:t.dr k.1 with
    | true=> simp only[if_true]; exact RG FD (hc k)
    | false=> simp only[Bool.false_eq_true,if_false]; exact RD (hc k)
theorem Lm (hc:Kz c) (h1:y.own=(ZV b t k).own) (h2:y.wr=(ZV b t k).wr) (j:KD):Rm c (Yp t k y) j=Rm c t j:= by
  rw[Ff]
  by_cases e:j=k
  · subst e
    rw[if_pos rfl,h1,h2]
    exact CS hc
  · rw[if_neg e]
theorem mgB_set {n w:Bs} {r:BitVec 64} {i:Nat} (hi:i<64) (hw:w.length=64):RH n (w.set i v) (r ||| (1#64<<<i))=(RH n w r).set i v:= by
  apply List.ext_getElem?
  intro j
  by_cases hj:j<64
  · rw[BU hj,C7 hj]
    by_cases e:j=i
    · subst e
      rw[List.getElem?_set_self (by rw[US];omega)]
      simp [List.getD,hw,hj]
    · rw[List.getElem?_set_ne (fun q=>e q.symm),BU hj]
      have e2:(w.set i v).getD j 0=w.getD j 0:= by simp [List.getD,List.getElem?_set_ne (fun q=>e q.symm)]
      rw[e2]
      simp [e]
  · rw[List.getElem?_eq_none (by rw[US];omega),List.getElem?_eq_none (by rw[List.length_set,US];omega)]
theorem cm_wr (h:AL t) (hb:Kz b) (hc:Kz c) (ha:0≤a∧a<64) (j:KD):Rm c (Yp t k (wrX (ZV b t k) a v)) j= if j=k then(Rm c t k).set a.toNat v else Rm c t j:= by
  rw[Ff]
  by_cases e:j=k
  · subst e
    rw[if_pos rfl,if_pos rfl,←CS (b:=b) hc]
    exact mgB_set (by omega) (h.tou hb).2
  · rw[if_neg e,if_neg e]
theorem cm_all (hc:Kz c) {g:Bs} (hg:g.length=64) (j:KD):Rm c (Yp t k (allX o g)) j= if j=k then g else Rm c t j:= by
  rw[Ff]
  by_cases e:j=k
  · subst e
    rw[if_pos rfl,if_pos rfl]
    exact RG hg (hc j)
  · rw[if_neg e,if_neg e]
theorem cm_drp (hc:Kz c) (j:KD):Rm c (Rh t ob) j= if j.1=ob then zer else Rm c t j:= by
  unfold Rm Rh Zn
  dsimp only
  by_cases e:j.1=ob
  · rw[if_pos e,if_pos e]
    cases t.lv j with
    | some x=> exact RG FD (hc j)
    | none=>
      dsimp only[Option.map_none]
      rw[if_pos (JC.2 (.inr e))]
  · rw[if_neg e,if_neg e]
    have e2:JD t.dr ob j.1=t.dr j.1:= by unfold JD; rw[if_neg e]
    simp only[e2]
theorem cm_full (h:AL t) (hb:Kz b) (hc:Kz c) (hv:ValT c (Yp t k (allR (ZV b t k)))):Rm c t k=JL t (b k) k:= by
  rw[←CS (b:=b) hc,←Hz (b:=b)]
  refine RE (h.tou hb).2 (hc k) fun j hj hw=> ?_
  rw[←(h.tou hb).1 j hj hw]
  refine(hv k _ Q1 j hj ?_).symm
  show((ZV b t k).rd ||| (BitVec.allOnes 64&&& ~~~(ZV b t k).wr)).getLsbD j=true
  rw[BitVec.getLsbD_or,BitVec.getLsbD_and,BitVec.getLsbD_allOnes,BitVec.getLsbD_not,hw]
  simp [hj]
theorem cm_byte (h:AL t) (hb:Kz b) (hc:Kz c) (ha:0≤a∧a<64) (hv:ValT c (Yp t k (rdX (ZV b t k) a))):N4 (Rm c t k) a=N4 (JL t (b k) k) a:= by
  rw[←CS (b:=b) hc,←Hz (b:=b)]
  unfold N4
  have hj:a.toNat<64:= by omega
  rw[P4 (BU hj)]
  by_cases hw:(ZV b t k).wr.getLsbD a.toNat=true
  · rw[if_pos hw]
  · rw[if_neg hw]
    have hw':(ZV b t k).wr.getLsbD a.toNat=false:= by simpa using hw
    have h1:=(h.tou hb).1 a.toNat hj hw'
    have h2:=hv k _ Q1 a.toNat hj (by
      show((ZV b t k).rd ||| ((1#64<<<a.toNat)&&& ~~~(ZV b t k).wr)).getLsbD a.toNat=true
      have h3:=C7 (w:=0#64) (i:=a.toNat) hj
      rw[BitVec.zero_or]at h3
      rw[BitVec.getLsbD_or,BitVec.getLsbD_and,BitVec.getLsbD_not,hw',h3]
      simp [hj])
    have h4:(c k)[a.toNat]? =(ZV b t k).own[a.toNat]? :=h2.symm.trans h1
    simp only[List.getD,h4]
theorem CT (hc:Kz c) (j:KD): ∀n,Rm c (V5 b ob p0 t n) j=Rm c t j
  | 0=>rfl
  | n+1=> by
    show Rm c (Vl b ob (V5 b ob p0 t n) _) j=_
    unfold Vl
    split
    · exact(Lm (b:=b) (y:=allR (ZV b (V5 b ob p0 t n) (ob,p0+(n:Int)))) hc rfl rfl j).trans (CT hc j n)
    · exact CT hc j n
theorem qao (h:AL t) (hb:Kz b) (hc:Kz c): ∀n,ValT c (V5 b ob p0 t n)→ ∀i,i<n→0≤p0+(i:Int)∧p0+(i:Int)<256→Rm c t (ob,p0+(i:Int))=JL t (b (ob,p0+(i:Int))) (ob,p0+(i:Int))
  | 0,_,i,hi,_=> by omega
  | n+1,hv,i,hi,hp=> by
    have h':ValT c (Vl b ob (V5 b ob p0 t n) (p0+(n:Int))):=hv
    by_cases e:i=n
    · subst e
      unfold Vl at h'
      rw[if_pos hp]at h'
      have :=cm_full (h.rdf hb i) hb hc h'
      rw[CT hc,DU]at this
      exact this
    · refine qao h hb hc n ?_ i (by omega) hp
      unfold Vl at h'
      split at h'
      · exact h'.put (b:=b) GoX.allR
      · exact h'
theorem qan (hc:Kz c) (hf: ∀i,(f i).length=64) {m:Bs} {r:Int}: ∀q:Nat,Rm c (G0 b t to base f q) (m,r)= if m=to∧base≤r∧r<base+(q:Int)then f (r -base).toNat else Rm c t (m,r)
  | 0=> by rw[if_neg (by omega)];rfl
  | q+1=> by
    show Rm c (Yp (G0 b t to base f q) (to,base+(q:Int)) _) (m,r)=_
    rw[cm_all hc (hf q)]
    by_cases e:(m,r)=(to,base+(q:Int))
    · obtain⟨e1,e2⟩:=Prod.mk.inj e
      rw[if_pos e,if_pos ⟨e1, by omega, by omega⟩]
      have :(r -base).toNat=q:= by omega
      rw[this]
    · rw[if_neg e,qan hc hf q]
      by_cases e2:m=to∧base≤r∧r<base+(q:Int)
      · rw[if_pos e2,if_pos ⟨e2.1,e2.2.1, by omega⟩]
      · rw[if_neg e2,if_neg fun a=>e2 ⟨a.1,a.2.1,Classical.byContradiction fun z=>e (by rw[a.1, show r=base+(q:Int) by omega])⟩]
def VisC (c:KD→Bs) (t:TrA) (W:WS):Prop:= ∀nm q,Rm c t (nm,q)=XD W nm q
theorem VisC.step (h:VisC c t W) (hal:AL t) (hb:Kz b) (hc:Kz c) (hI:PagesOk W.objs) (hv:ValT c (WM b t x)):VisC c (WM b t x) (Yn W x):= by
  rcases Vu x with e | e | e | ⟨e1,e2,e3⟩
  · obtain⟨s1,_,s3⟩:=WU (b:=b) (t:=t) (P:=b) (W:=W) e
    rw[s1,s3]
    unfold Go.Proofs.YtkcjfoaejijdoaaGreatDoor.rdU
    split
    · exact fun nm q=>(Lm (b:=b) (y:=Go.Proofs.YtkcjfoaejijdoaaGreatDoor.rdX (ZV b t (x.ob,x.at_/ 64)) (x.at_%64)) hc rfl rfl _).trans (h nm q)
    · exact h
  · obtain⟨s1,_,s3⟩:=Ym (b:=b) (t:=t) (P:=b) (W:=W) e
    rw[s1]at hv⊢
    rw[s3]
    intro nm q
    unfold HD at hv⊢
    have hv1:=ValT.wrf _ hv
    rw[qan hc (fun _=>PS hal hb),CT hc,KY hI,h nm q]
    by_cases e1:nm=x.to∧x.at_+max 0 (-x.at_)≤q∧q<x.at_+max 0 (-x.at_)+(VM x.n x.at_:Int)
    · rw[if_pos e1,if_pos e1]
      unfold Fc
      have e2:x.first+max 0 (-x.at_)+(((q -(x.at_+max 0 (-x.at_))).toNat:Nat):Int)=x.first+q -x.at_:= by omega
      by_cases r:0≤x.first+q -x.at_∧x.first+q -x.at_<256
      · have hs:=qao hal hb hc _ hv1 ((q -(x.at_+max 0 (-x.at_))).toNat) (by omega) (by omega)
        rw[e2]at hs⊢
        rw[if_pos r,if_pos r,←hs]
        exact h _ _
      · rw[e2,if_neg r,if_neg r]
    · rw[if_neg e1,if_neg e1]
  · obtain⟨s1,_,s3⟩:=YM (b:=b) (t:=t) (P:=b) (W:=W) e
    rw[s1,s3]
    intro m q
    rw[cm_drp hc,KX,h m q]
  · obtain⟨s1,_,s3⟩:=YL (b:=b) (t:=t) (P:=b) (W:=W) e1 e2 e3
    rw[s1,s3]
    intro m q
    unfold Go.Proofs.YtkcjfoaejijdoaaGreatDoor.wrU
    by_cases ha:0≤x.at_∧x.at_<16384
    · rw[if_pos ha,cm_wr hal hb hc (by omega),KW m q _ _ ha,h x.ob (x.at_/ 64),h m q]
      by_cases e:(m,q)=(x.ob,x.at_/ 64)
      · obtain⟨e4,e5⟩:=Prod.mk.inj e
        rw[if_pos e,if_pos ⟨e4,e5⟩]
      · rw[if_neg e,if_neg fun z=>e (by rw[z.1,z.2])]
    · rw[if_neg ha]
      unfold Wh
      rw[if_neg ha]
      exact h m q
theorem VisC.byte {W':WS} (h:VisT b t W) (h':VisC c t W') (hal:AL t) (hb:Kz b) (hc:Kz c) (he:Wc x=0∨Wc x=1∨Wc x=2∨Wc x=7∨Wc x=8) (hv:ValT c (WM b t x)):HF W x.ob x.at_=HF W' x.ob x.at_:= by
  have e1:=PZ (ob:=x.ob) (a:=x.at_) h
  have e2:=Sa (P:=Rm c t) (ob:=x.ob) (a:=x.at_) h'
  rw[←e1,←e2]
  by_cases ha:0≤x.at_∧x.at_<16384
  · rw[if_pos ha,if_pos ha]
    rw[(WU (b:=b) (t:=t) (P:=b) (W:=W) he).1]at hv
    unfold Go.Proofs.YtkcjfoaejijdoaaGreatDoor.rdU at hv
    rw[if_pos ha]at hv
    exact(cm_byte hal hb hc (by omega) hv).symm
  · rw[if_neg ha,if_neg ha]
end
noncomputable def JN (b:KD→Bs) (t:TrA) (l:List AcL):TrA:=l.foldl (WM b) t
def JM (W:WS) (l:List AcL):WS:=l.foldl Yn W
section
variable {b c:KD→Bs} {t:TrA} {W W':WS} {l:List AcL} {q d:Nat}
theorem DX (hI:PagesOk W.objs): ∀(l:List AcL),PagesOk (JM W l).objs:= fun l=> by
  induction l generalizing W with
  | nil=> exact hI
  | cons x l ih=> exact ih (DJ hI x)
theorem O4 (h:AL t) (hb:Kz b): ∀(l:List AcL),AL (JN b t l):= fun l=> by
  induction l generalizing t with
  | nil=> exact h
  | cons x l ih=> exact ih (h.step hb)
theorem Cy: ∀(l:List AcL) {t:TrA},ValT c (JN b t l)→ValT c t
  | [],_,h=>h
  | x::l,_,h=>(Cy l (t:=WM b _ x) h).step
theorem BP (hb:Kz b) (hc:Kz c): ∀(l:List AcL) {t:TrA} {W:WS},VisC c t W→AL t→PagesOk W.objs→ValT c (JN b t l)→VisC c (JN b t l) (JM W l)
  | [],_,_,h,_,_,_=>h
  | x::l,_,_,h,hal,hI,hv=>BP hb hc l (h.step hal hb hc hI (Cy l hv)) (hal.step hb) (DJ hI x) hv
theorem Ex {x:AcL}:JN b t (l++[x])=WM b (JN b t l) x:= by unfold JN; rw[List.foldl_append];rfl
theorem Ew {x:AcL}:JM W (l++[x])=Yn (JM W l) x:= by unfold JM; rw[List.foldl_append];rfl
theorem T2 {x:AcL} {i:Nat} (h:l[i]? =some x):l.take (i+1)=l.take i++[x]:= by rw[List.take_add_one,h];rfl
theorem Es {i:Nat}:JN b t l=JN b (JN b t (l.take i)) (l.drop i):= by
  unfold JN
  rw[←List.foldl_append,List.take_append_drop]
end
end Go.Proofs.YtkcjfoaejijdoaaGreatDoor
namespace Go.Proofs.YtkcjfoaejijdoaaGreatDoor
open Go.RowKit M
set_option linter.unusedSectionVars false
variable [Inhabited SlW]
theorem Dw {w:World} {p:Nat} {W:WS} {F:Th} (hS:Sat w [Xi p W,F]) {x:AcL} (hf:FC x):
    Calls Tryz.prog 40 #[ptrV p 0,.agg #[intV x.dk,intV x.idn,strV x.ob,strV x.to,intV x.first,intV x.n,intV x.at_,intV x.bb]] w (Ret fun v w'=>Sat w' [Xi p (Yn W x),F]):= by
 refine Qq Tryz.func40 rfl Tryz.ntmps40 rfl ?_
 obtain⟨f1,f2,f3,f4,f5,f6,f7,f8⟩:=hf
 refine Qd (Qa (XU hS rfl rfl rfl ?_))
 intro qb w1 hS1
 refine Qf (Qc (Qd (Qa (Qg rfl Db rfl (Qo rfl QO (hS1.cell 0 rfl rfl) rfl (Qv Nf rfl (BS (hS1.sp [] rfl) x.dk 14 (by omega)) rfl ?_))))))
 rintro _ w2 ⟨rfl,hS2⟩
 replace hS2:=hS2.jn rfl rfl
 clear hS1
 refine Qf (Qc (Qw (Qd (Qd (Qa (QX rfl rfl rfl (Qe rfl rfl (Qf (Qc (Qs rfl (fun h3=> ?_) (fun h3=> ?_)))))))))))
 ·refine Qr (Qc (Um rfl (QW h3) (Qu (Qx (ZB (.inr rfl) rfl ?_)))))
  have st3:=(WU (b:= fun _=>zer) (t:=⟨0, fun _=>none, fun _=>false⟩) (P:= fun _=>zer) (W:=W) (x:=x) (by unfold Wc;omega)).2.2
  exact⟨_,rfl, by rw[st3]; exact hS2.pick [1,2] rfl⟩
 refine Qd (Qa (QX rfl rfl rfl (Qe rfl rfl (Qf (Qc (Qs rfl (fun h4=> ?_) (fun h4=> ?_)))))))
 ·refine Qr (Qc (Um rfl (QW h4) (Qu (Qx (ZB (.inr rfl) rfl ?_)))))
  have st3:=(WU (b:= fun _=>zer) (t:=⟨0, fun _=>none, fun _=>false⟩) (P:= fun _=>zer) (W:=W) (x:=x) (by unfold Wc;omega)).2.2
  exact⟨_,rfl, by rw[st3]; exact hS2.pick [1,2] rfl⟩
 refine Qd (Qa (QX rfl rfl rfl (Qe rfl rfl (Qf (Qc (Qs rfl (fun h5=> ?_) (fun h5=> ?_)))))))
 ·refine Qr (Qc (Um rfl (QW h5) (Qu (Qx (ZB (.inr rfl) rfl ?_)))))
  have st3:=(WU (b:= fun _=>zer) (t:=⟨0, fun _=>none, fun _=>false⟩) (P:= fun _=>zer) (W:=W) (x:=x) (by unfold Wc;omega)).2.2
  exact⟨_,rfl, by rw[st3]; exact hS2.pick [1,2] rfl⟩
 refine Qd (Qa (QX rfl rfl rfl (Qe rfl rfl (Qf (Qc (Qi [0,3,6,16] rfl (Qs rfl (fun h6=> ?_) (fun h6=> ?_))))))))
 ·refine Qr (Qc (Um rfl (QW h6) (Qu (Qx (ZB (.inr rfl) rfl ?_)))))
  have st3:=(WU (b:= fun _=>zer) (t:=⟨0, fun _=>none, fun _=>false⟩) (P:= fun _=>zer) (W:=W) (x:=x) (by unfold Wc;omega)).2.2
  exact⟨_,rfl, by rw[st3]; exact hS2.pick [1,2] rfl⟩
 refine Qa (QX rfl rfl rfl (Qe rfl rfl (Qf (Qc (Qs rfl (fun h7=> ?_) (fun h7=> ?_))))))
 ·refine Qu (Qx (ZB (.inr rfl) rfl ?_))
  have st3:=(WU (b:= fun _=>zer) (t:=⟨0, fun _=>none, fun _=>false⟩) (P:= fun _=>zer) (W:=W) (x:=x) (by unfold Wc;omega)).2.2
  exact⟨_,rfl, by rw[st3]; exact hS2.pick [1,2] rfl⟩
 refine Qd (Qd (Qa (QX rfl rfl rfl (Qe rfl rfl (Qf (Qc (Qs rfl (fun h8=> ?_) (fun h8=> ?_))))))))
 ·refine Qr (Qc (Um rfl (QW h8) (Qa (Qb rfl rfl (Qg rfl ZL rfl (Qo rfl ZC (hS2.cell 0 rfl rfl) rfl (Qg rfl HV rfl (Qo rfl QO (hS2.cell 0 rfl rfl) rfl (Qg rfl HU rfl (Qo rfl QO (hS2.cell 0 rfl rfl) rfl (Qg rfl UU rfl (Qo rfl ZC (hS2.cell 0 rfl rfl) rfl (Qg rfl Wv rfl (Qo rfl QO (hS2.cell 0 rfl rfl) rfl (Qv CY rfl (Di (hS2.sp [1] rfl) x.ob x.first x.n x.to x.at_ (by omega) (by omega) (by omega) (by omega)) rfl ?_)))))))))))))))
  rintro _ w9 ⟨rfl,hS9⟩
  replace hS9:=hS9.jn rfl rfl
  clear hS2
  refine Qf (Ql (ZB (.inl rfl) rfl ?_))
  have st3:=(Ym (b:= fun _=>zer) (t:=⟨0, fun _=>none, fun _=>false⟩) (P:= fun _=>zer) (W:=W) (x:=x) (by unfold Wc;omega)).2.2
  exact⟨_,rfl, by rw[st3]; exact hS9.pick [0,2] rfl⟩
 refine Qa (QX rfl rfl rfl (Qe rfl rfl (Qf (Qc (Qs rfl (fun h10=> ?_) (fun h10=> ?_))))))
 ·refine Qa (Qb rfl rfl (Qg rfl ZL rfl (Qo rfl ZC (hS2.cell 0 rfl rfl) rfl (Qg rfl HV rfl (Qo rfl QO (hS2.cell 0 rfl rfl) rfl (Qg rfl HU rfl (Qo rfl QO (hS2.cell 0 rfl rfl) rfl (Qg rfl UU rfl (Qo rfl ZC (hS2.cell 0 rfl rfl) rfl (Qg rfl Wv rfl (Qo rfl QO (hS2.cell 0 rfl rfl) rfl (Qv CY rfl (Di (hS2.sp [1] rfl) x.ob x.first x.n x.to x.at_ (by omega) (by omega) (by omega) (by omega)) rfl ?_))))))))))))
  rintro _ w11 ⟨rfl,hS11⟩
  replace hS11:=hS11.jn rfl rfl
  clear hS2
  refine Qf (Ql (ZB (.inl rfl) rfl ?_))
  have st3:=(Ym (b:= fun _=>zer) (t:=⟨0, fun _=>none, fun _=>false⟩) (P:= fun _=>zer) (W:=W) (x:=x) (by unfold Wc;omega)).2.2
  exact⟨_,rfl, by rw[st3]; exact hS11.pick [0,2] rfl⟩
 refine Qd (Qa (QX rfl rfl rfl (Qe rfl rfl (Qf (Qc (Qs rfl (fun h12=> ?_) (fun h12=> ?_)))))))
 ·refine Qa (Qb rfl rfl (Qg rfl ZL rfl (Qo rfl ZC (hS2.cell 0 rfl rfl) rfl (Qv Fk rfl (CM (hS2.sp [1] rfl) x.ob) rfl ?_))))
  rintro _ w13 ⟨rfl,hS13⟩
  replace hS13:=hS13.jn rfl rfl
  clear hS2
  refine Qf (Ql (ZB (.inl rfl) rfl ?_))
  have st3:=(YM (b:= fun _=>zer) (t:=⟨0, fun _=>none, fun _=>false⟩) (P:= fun _=>zer) (W:=W) (x:=x) (by unfold Wc;omega)).2.2
  exact⟨_,rfl, by rw[st3]; exact hS13.pick [0,2] rfl⟩
 refine Qa (Qb rfl rfl (Qg rfl ZL rfl (Qo rfl ZC (hS2.cell 0 rfl rfl) rfl (Qg rfl Wv rfl (Qo rfl QO (hS2.cell 0 rfl rfl) rfl (Qg rfl RT rfl (Qo rfl QO (hS2.cell 0 rfl rfl) rfl (Uk Tryz.underlying3 Tryz.underlying5 rfl (Gq x.bb) rfl (Qv Fj rfl (KQ (hS2.sp [1] rfl) x.ob x.at_ (b8 x.bb) (by omega)) rfl ?_)))))))))
 rintro _ w14 ⟨rfl,hS14⟩
 replace hS14:=hS14.jn rfl rfl
 clear hS2
 refine Qf (Ql (ZB (.inl rfl) rfl ?_))
 have st3:=(YL (b:= fun _=>zer) (t:=⟨0, fun _=>none, fun _=>false⟩) (P:= fun _=>zer) (W:=W) (x:=x) (by unfold Wc;omega) (by unfold Wc;omega) (by unfold Wc;omega)).2.2
 exact⟨_,rfl, by rw[st3]; exact hS14.pick [0,2] rfl⟩
theorem AV {α:Type} {l:List α} {i:Nat} (h:i≤l.length) (h2: ¬i<l.length):l.take i=l:= by
  rw[show i=l.length by omega,List.take_length]
theorem YS {W:WS} {l:List AcL} {i:Nat} {x:AcL} (h:l[i]? =some x):Yn (JM W (l.take i)) x=JM W (l.take (i+1)):= by
  rw[T2 h,Ew]
theorem Ps {w:World} {p:Nat} {W:WS} {F:Th} (hS:Sat w [Xi p W,F]) {lv:Value} {l:List AcL} (hL:Ent F (RdL AD lv l)) (hf: ∀(i:Nat) (x:AcL),l[i]? =some x→FC x) (x:AcL):
    Calls Tryz.prog 39 #[ptrV p 0,lv,.agg #[intV x.dk,intV x.idn,strV x.ob,strV x.to,intV x.first,intV x.n,intV x.at_,intV x.bb]] w (Ret fun v w'=>v=XS (HF (JM W l) x.ob x.at_)∧Sat w' [Xi p W,F]):= by
 obtain⟨ao,cap,rfl,hmax⟩:=(hL.sat hS 1 rfl).shape
 refine Qq Tryz.func39 rfl Tryz.ntmps39 rfl ?_
 refine Qd (Qa (XU hS rfl rfl rfl ?_))
 intro qb w1 hS1
 refine Qe rfl rfl (Qf (Qc (Qd (Qa (Qb rfl rfl (Qv Fx rfl (CU (hS1.sp [1] rfl)) rfl ?_))))))
 rintro _ w2 ⟨cq,rfl,hS2⟩
 replace hS2:=hS2.jn rfl rfl
 clear hS1
 refine Qe rfl rfl (Qf (Qc (Qd (Qd (Qa (Qb rfl rfl (ZJ Tryz.underlying66 rfl rfl rfl (Qf (Qc (QV rfl (Qr (Qc (Qd (Qd (Qa (Qe rfl rfl (Qf (Qc (Qi [1,5,6,7,8] rfl (Qw ?_))))))))))))))))))))
 refine Xe (fun K0 E0 W0=> ∃(i:Nat),K0=l.length -i∧E0=[(1,.slice ao l.length cap),(5,ptrV qb 0),(7,ptrV cq 0),(8,intV (i:Int))]∧Sat W0 [Xi cq (JM W (l.take i)),Xi p W,QF qb (U8 x),F]∧(i≤l.length)) (L0:=[(1,_),(5,_),(7,_),(8,_)]) (l.length -0) (Vk rfl rfl rfl rfl) ⟨0,rfl,rfl,hS2.pick [0,1,2,3] rfl, by omega⟩ ?_
 rintro _ _ w3 ⟨i,rfl,rfl,hS3,hi⟩
 refine Qd (Qd (Qa (Qb rfl rfl (Qb rfl rfl (X5 Tryz.underlying36 rfl rfl (Xb rfl rfl rfl (Qf (Qc (Qs rfl (fun h4=> ?_) (fun h4=> ?_))))))))))
 ·obtain⟨y,ha⟩: ∃y,l[i]? =some y:=⟨_,Zd (by omega)⟩
  obtain⟨bq,off,rfl,_⟩:=(hL.sat hS3 3 rfl).get ha
  have hil:=(XQ ha).1
  refine Qr (Qc (Qd (Qw (Qa (Qb rfl rfl (Qb rfl rfl (Qb rfl rfl (XI i rfl rfl (by first | rfl | omega) (by omega) VG rfl ?_))))))))
  refine Jh rfl VT HO (vs:=U8 y) ((hL.sat hS3 3 rfl).at_ ha) rfl (Qv Fw rfl (Dw (hS3.sp [0] rfl) (hf i y ha)) rfl ?_)
  rintro _ w5 hS5
  replace hS5:=hS5.jn rfl rfl
  clear hS3
  refine Qf (Ql (Qc (Qi [8,7,5,1] rfl (Qa (Qb rfl rfl (QK rfl rfl (by omega) (by omega) rfl ?_))))))
  refine Qe rfl rfl (Qf ?_)
  exact Q6 (L1:=[(1,_),(5,_),(7,_),(8,intV ((i+1:Nat):Int))]) (Vk rfl rfl rfl rfl) (k1:=l.length -(i+1)) (by omega) ⟨i+1,rfl,rfl, by rw[←YS ha]; exact hS5.pick [0,1,2,3] rfl, by omega⟩
 refine QS (Qp (Qp (Qz (Qc (Qd (Qa (Qb rfl rfl (Qg rfl ZL rfl (Qo rfl ZC (hS3.cell 2 rfl rfl) rfl (Qg rfl Wv rfl (Qo rfl QO (hS3.cell 2 rfl rfl) rfl (Qv Fm rfl (Nq (hS3.sp [0] rfl) x.ob x.at_) rfl ?_))))))))))))
 rintro _ w6 ⟨rfl,hS6⟩
 replace hS6:=hS6.jn rfl rfl
 clear hS3
 exact Qe rfl rfl (Qf (Qc (Qi [6] rfl (Qu (QQ (.inr rfl) rfl rfl (⟨_,rfl, by rw[AV hi (by omega)],hS6.pick [1,3] rfl⟩))))))
end Go.Proofs.YtkcjfoaejijdoaaGreatDoor
namespace Go.Proofs.YtkcjfoaejijdoaaGreatDoor
open Go.RowKit M
set_option linter.unusedSectionVars false
variable [Inhabited SlW]
def DH:TrA:=⟨0, fun _=>none, fun _=>false⟩
section
variable {A:LvA} {b c P:KD→Bs} {t t1 t2:TrA} {W:WS} {q d q1 d1 q2 d2:Nat} {x:AcL}
theorem Ur: ∀(l:List AcL) {t:TrA} {W:WS},VisT b t W→PagesOk W.objs→VisT b (JN b t l) (JM W l)
  | [],_,_,h,_=>h
  | x::l,_,_,h,hI=>Ur l (h.step hI) (DJ hI x)
theorem Cz: ∀(l:List AcL) {t:TrA} {q d:Nat},TrK b t q d→TrK b (JN b t l) (q+l.length) (d+l.length)
  | [],_,_,_,h=>h
  | x::l,_,_,_,h=>(Cz l h.step).up (by simp;omega) (by simp;omega)
theorem Ki: ∀(l:List AcL) {t:TrA},(JN b t l).parent=t.parent
  | [],_=>rfl
  | x::l,_=>(Ki l).trans Ob
theorem FI:TrK b DH 0 0:=⟨(fun k x h=> by cases h),(fun k x _ h=> by cases h),⟨[],Nat.le_refl _, fun k x h=> by cases h⟩,⟨[],Nat.le_refl _, fun ob h=> by cases h⟩⟩
theorem DG:AL DH:= fun k x h=> by cases h
theorem Ry (h:VisP P W):VisT P DH W:= fun nm q=>h nm q
theorem DF (h:VisP c W):VisC c DH W:= fun nm q=>h nm q
theorem Kh {l:List AcL} {i:Nat} (h:l[i]? =some x):WM b (JN b t (l.take i)) x=JN b t (l.take (i+1)):= by
  rw[T2 h,Ex]
theorem GB {α:Type} {l:List α} {i:Nat} (h: ¬i<l.length):l.take (i+1)=l.take i:= by
  rw[List.take_of_length_le (by omega),List.take_of_length_le (by omega)]
structure FlI (A:LvA) (P:KD→Bs) (t1 t2:TrA):Prop where
  pres:A.pres=P
  t1:A.tr 1=some t1
  t2:A.tr 2=some t2
  oth: ∀j,j≠1→j≠2→A.tr j=none
theorem FlI.start (hA: ∀j,A.tr j=none):Tk A 1 0=0∧Tk (Nu A 1 0) 2 0=0∧FlI (Nu (Nu A 1 0) 2 0) A.pres DH DH:= by
  obtain⟨e0,e1⟩:=Nt (A:=A) (i:=1) (by omega) (hA 1)
  refine⟨e0, ?_⟩
  rw[e1]
  obtain⟨e2,e3⟩:=Nt (A:=({A with tr:=Xz A.tr 1 (some ⟨0, fun _=>none, fun _=>false⟩)}:LvA)) (i:=2) (by omega) ((QI (by decide)).trans (hA 2))
  refine⟨e2, ?_⟩
  rw[e3]
  exact⟨rfl,(QI (by decide)).trans Q1,Q1, fun j h1 h2=>(QI h2).trans ((QI h1).trans (hA j))⟩
theorem FlI.sa (h:FlI A P t1 t2) {t:TrA}:FlI (UK A 1 t) P t t2:=⟨h.pres,GF,(BN (by decide)).trans h.t2, fun j a c=>(BN a).trans (h.oth j a c)⟩
theorem FlI.sb (h:FlI A P t1 t2) {t:TrA}:FlI (UK A 2 t) P t1 t:=⟨h.pres,(BN (by decide)).trans h.t1,GF, fun j a c=>(BN c).trans (h.oth j a c)⟩
theorem FX {w:World} {b p n m c e:Nat} {As:List Th} (h:Sat w (Yb b p n m c e A::As)):Kz A.pres:= by
  obtain⟨L,V,⟨h1,h2,h3,h4,h5⟩,_⟩:=ZH h
  subst h3
  exact fun k=>h2.len (h2.alive (.inl k))
theorem val_of (h:TrK A.pres t q d) (hp:t.parent=0):VA A t:= fun k x hx j hj hr=> by
  rw[hp,We]
  rcases h.rd k x hx with e | ⟨e,_⟩
  · rw[e]
  · rw[e]at hr; simp at hr
theorem VA_val (hp:t.parent=0):VA A t↔ValT A.pres t:= by
  unfold VA ValT
  rw[hp]
  simp only[We]
theorem Fe (h:TrK b t q d) (hP:Kz A.pres) (k:KD):ME A t k=Rm A.pres t k:= by
  unfold ME Rm
  cases hx:t.lv k with
  | none=>rfl
  | some x=>
    dsimp only
    by_cases e:x.wr=0#64
    · rw[if_pos e,e,RD (hP k)]
      by_cases hd:t.dr k.1=true
      · have :=h.dr k x hd hx
        rw[e]at this
        exact absurd this (by decide)
      · rw[if_neg hd]
    · rw[if_neg e]
theorem cm_self (h:TrK b t q d) (hal:AL t) (hb:Kz b) (k:KD):Rm b t k=JL t (b k) k:= by
  unfold Rm JL
  cases hx:t.lv k with
  | none=>rfl
  | some x=>
    dsimp only
    rcases h.rd k x hx with e | ⟨_,e⟩
    · refine RE (hal k x hx).2 (hb k) fun j hj hw=> ?_
      rw[←e]
      exact(hal k x hx).1 j hj hw
    · rw[e]; exact RG (hal k x hx).2 (hb k)
theorem FlI.rdy (h:FlI A P t1 t2) (k1:TrK P t1 q1 d1) (k2:TrK P t2 q2 d2) (p1:t1.parent=0) (p2:t2.parent=0):(∀i u,A.tr i=some u→u.parent=0)∧DrA A:= by
  have key: ∀i u,A.tr i=some u→u=t1∨u=t2:= fun i u hu=> by
    by_cases e1:i=1
    · subst e1; rw[h.t1]at hu; exact .inl (Option.some.inj hu).symm
    · by_cases e2:i=2
      · subst e2; rw[h.t2]at hu; exact .inr (Option.some.inj hu).symm
      · rw[h.oth i e1 e2]at hu; cases hu
  refine⟨fun i u hu=> ?_, fun i u k x hu hd hx=> ?_⟩
  · rcases key i u hu with rfl | rfl
    · exact p1
    · exact p2
  · rcases key i u hu with rfl | rfl
    · exact k1.dr k x hd hx
    · exact k2.dr k x hd hx
structure Fl1 (A:LvA) (t2:TrA):Prop where
  t2:A.tr 2=some t2
  oth: ∀j,j≠2→A.tr j=none
theorem FlI.com (h:FlI A P t1 t2) {Q:KD→Bs}:Fl1 ⟨Q,Xz A.tr 1 none⟩ t2:= by
  refine⟨(QI (by decide)).trans h.t2, fun j hj=> ?_⟩
  by_cases e:j=1
  · subst e; exact Q1
  · exact(QI e).trans (h.oth j e hj)
theorem Fl1.rdy (h:Fl1 A t2) (k2:TrK P t2 q2 d2) (p2:t2.parent=0):(∀i u,A.tr i=some u→u.parent=0)∧DrA A:= by
  have key: ∀i u,A.tr i=some u→u=t2:= fun i u hu=> by
    by_cases e2:i=2
    · subst e2; rw[h.t2]at hu; exact(Option.some.inj hu).symm
    · rw[h.oth i e2]at hu; cases hu
  refine⟨fun i u hu=> ?_, fun i u k x hu hd hx=> ?_⟩
  · rw[key i u hu]; exact p2
  · rw[key i u hu]at hd hx; exact k2.dr k x hd hx
theorem Er {l:List AcL} {i:Nat} {W1:WS} (hb:Kz b) (hc:Kz c) (hI:PagesOk W.objs) (hI1:PagesOk W1.objs) (hv:VisP b W) (hv1:VisP c W1) (hval:ValT c (JN b DH l)) (hx:l[i]? =some x) (he:Wc x=0∨Wc x=1∨Wc x=2∨Wc x=7∨Wc x=8):HF (JM W (l.take i)) x.ob x.at_=HF (JM W1 (l.take i)) x.ob x.at_:= by
  have h1:ValT c (JN b DH (l.take (i+1))):=Cy (b:=b) (l.drop (i+1)) (by rw[←Es]; exact hval)
  rw[←Kh hx]at h1
  exact VisC.byte (Ur _ (Ry hv) hI) (BP hb hc _ (DF hv1) DG hI1 h1.step) (O4 DG hb _) hb hc he h1
end
theorem TZ:PagesOk emptyW.objs:=⟨fun n p s h=> by cases h⟩
def capOk (v:Value):Prop:= ∀ao m cap,v= .slice ao m cap→m≤cap
end Go.Proofs.YtkcjfoaejijdoaaGreatDoor
namespace Go.Proofs.YtkcjfoaejijdoaaGreatDoor
open Go.RowKit M
theorem qaz:QH Tryz.prog 39=true:= by kernel_rfl
end Go.Proofs.YtkcjfoaejijdoaaGreatDoor
