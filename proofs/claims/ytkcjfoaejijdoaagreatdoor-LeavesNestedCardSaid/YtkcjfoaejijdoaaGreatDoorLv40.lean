/- laws of leaves: sees -/
import Derived.Test.YtkcjfoaejijdoaaGreatDoorLv38
import Derived.Test.YtkcjfoaejijdoaaGreatDoorKs
set_option linter.unusedVariables false
set_option maxRecDepth 100000
set_option maxHeartbeats 1600000
namespace Go.Proofs.YtkcjfoaejijdoaaGreatDoor
open Go.RowKit M
set_option linter.unusedSectionVars false
variable [Inhabited SlW]
theorem Ef {l:Bs} {n:Nat} (hn:n≤l.length) (hz: ∀k,n≤k→k<l.length→l[k]? =some 0) (hl:n=0∨ ∃c,l[n -1]? =some c∧c≠0):Lib.trimRightB l 0=l.take n:= by
  have h1:l.drop n=List.replicate (l.length -n) 0:= by
    refine List.ext_getElem? fun k=> ?_
    rw[List.getElem?_drop,List.getElem?_replicate]
    split
    · exact hz _ (by omega) (by omega)
    · exact List.getElem?_eq_none (by omega)
  have h2:Lib.trimRightB l 0=Lib.trimRightB (l.take n) 0:= by
    conv=>lhs; rw[←List.take_append_drop n l,h1]
    exact UI _ _
  rw[h2]
  rcases hl with rfl | ⟨c,hc,hne⟩
  · rfl
  · obtain⟨m,rfl⟩: ∃m,n=m+1:= by
      rcases Nat.eq_zero_or_pos n with rfl | q
      · exfalso
        have :=hz 0 (Nat.le_refl _) (XW hc).1
        rw[Nat.zero_sub]at hc; rw[this]at hc; exact hne (Option.some.inj hc).symm
      · exact⟨n -1, by omega⟩
    rw[Nat.add_sub_cancel]at hc
    rw[List.take_add_one,hc]
    simp [Lib.trimRightB,hne]
theorem Ep {w:World} {b n Fr:Nat} {L:LvD} {V:VS} {F:Th} (hS:Sat w [ZN b L,Zo L.sp n Fr V,F]) (hE: ∀i,Y5 L.tr Zl i) {id:Int} (hid:id=0∨(id≠0∧ ∃t,L.tr id=some t)) (ob:Bs) (page:Int) (hp:0≤page∧page<256):
    Calls Tryz.prog 33 #[ptrV b 0,intV id,strV ob,intV page] w (Ret fun v w'=>v= .tuple #[intV (Xb L id (ob,page)),.bool (Vo L V id (ob,page))]∧Sat w' [ZN b L,Zo L.sp n Fr V,F]):= by
  rcases hid with rfl | ⟨h0,t,ht⟩
  · exact GG hS hE ob page (by simp [WZ,ZF,hp.1,hp.2])
  · exact Er hS hE ht h0 ob page (by simp [WZ,ZF,hp.1,hp.2,ht])
theorem NG {l m:List Bs} (h:l.Perm m):Zd l=Zd m:= by
  have hs: ∀x:List Bs,(Zd x).Pairwise (fun a b=>a≤b):= fun x=> by
    have :=List.pairwise_mergeSort (le:= fun a b:Bs=>decide (a≤b)) (fun a b c h1 h2=> by
      simp only[decide_eq_true_eq]at *
      exact List.le_trans h1 h2) (fun a b=> by
      simp only[Bool.or_eq_true,decide_eq_true_eq]
      exact List.le_total a b) x
    exact this.imp fun h=> by simpa using h
  exact List.Perm.eq_of_pairwise (le:= fun a b=>a≤b) (fun a b _ _ h1 h2=>List.le_antisymm h1 h2) (hs l) (hs m) (((HE l).trans h).trans (HE m).symm)
theorem perm_of {l m:List Bs} (hl:l.Nodup) (hm:m.Nodup) (h: ∀x,x∈l↔x∈m):l.Perm m:=(List.perm_ext_iff_of_nodup hl hm).2 h
theorem Ia {A:LvA} {id:Int} {W:WS} {ns l:List Bs} (hI:PagesOk W.objs) (hv: ∀nm pg,Zr A id (nm,pg)=XC W nm pg) (hn:NmI A id ns) (hl:Nw W.objs l):Zd ns=l:= by
  obtain⟨l0,rfl,h1,h2⟩:=hl
  refine NG (perm_of hn.1 h1 fun x=> ?_)
  rw[hn.2,h2]
  constructor
  · rintro⟨pg,h⟩
    refine⟨pg, fun e=>h ?_⟩
    rw[hv]
    unfold XC W2
    rw[e];rfl
  · rintro⟨pg,h⟩
    refine⟨pg, fun e=> ?_⟩
    rw[hv]at e
    cases q:W.objs x pg with
    | none=> exact h q
    | some s=>
      unfold XC W2 at e
      rw[q]at e
      exact(hI.ok x pg s q).2.1 e
theorem objs_in {A:LvA} {id:Int} {W:WS} {ns:List Bs} {c:Nat} (hI:PagesOk W.objs) (hv: ∀nm pg,Zr A id (nm,pg)=XC W nm pg) (hn:NmI A id ns) (hc:ns.length≤c):FC W.objs c:= by
  refine⟨ns,hc, fun k ⟨pg,h⟩=>(hn.2 k).2 ⟨pg, fun e=> ?_⟩⟩
  rw[hv]at e
  cases q:W.objs k pg with
  | none=> exact h q
  | some s=>
    unfold XC W2 at e
    rw[q]at e
    exact(hI.ok k pg s q).2.1 e
theorem LV {w:World} {q:Nat} {W:WS} {As:List Th} (h:Sat w (Xp q W::As)):PagesOk W.objs:= by
  obtain⟨_,hI,_⟩:=W5 h
  exact hI
theorem Eg {g:Bs} {c:UInt8} (h:g[g.length -1]? =some c) (hc:c=0):Lib.trimRightB g 0=Lib.trimRightB (g.take (g.length -1)) 0:= by
  have hl:=(XW h).1
  have e:g=g.take (g.length -1)++List.replicate 1 0:= by
    have h1:=List.take_append_drop (g.length -1) g
    have h2:g.drop (g.length -1)=[c]:= by
      rw[List.drop_eq_getElem_cons hl]
      have h3:=(XW h).2
      rw[h3,List.drop_eq_nil_of_le (by omega)]
    rw[h2,hc]at h1
    exact h1.symm
  conv=>lhs; rw[e]
  exact UI _ 1
theorem N7 {g:Bs} (h:g.length=0∨ ∃c,g[g.length -1]? =some c∧c≠0):Lib.trimRightB g 0=g:= by
  rw[Ef (n:=g.length) (Nat.le_refl _) (fun k h1 h2=> by omega) h,List.take_length]
theorem Ez {w:World} {b q n Fr m c:Nat} {L:LvD} {V:VS} {W:WS} {F:Th} (hS:Sat w [ZN b L,Zo L.sp n Fr V,Xp q W,F]) (hn:n≤60000000000) (hI:LvI m L V) (hm:m<Zl) (hc:SzLe L c) (hcm:c≤90000000000) {id:Int} (hth:ZF L id=true) (hid:id=0∨(id≠0∧ ∃t,L.tr id=some t)) (hid2:id=0∨ ∃t,L.tr id=some t) (hv: ∀nm pg,Zr (Q5 L V) id (nm,pg)=XC W nm pg):
    Calls Tryz.prog 38 #[ptrV b 0,ptrV L.sp 0,intV id,ptrV q 0] w (Ret fun v w'=>v= .bool true∧Sat w' [ZN b L,Zo L.sp n Fr V,Xp q W,F]):= by
 refine Qo Tryz.func38 rfl Tryz.ntmps38 rfl ?_
 refine Qd (Qa (Qe rfl rfl (Qf (Qc (Qd (Qa (Qb rfl rfl (Qb rfl rfl (Qv cal_32 rfl (SJ (hS.sp [0,1] rfl) (by omega) hI hm hc hcm id hth hid2) rfl ?_)))))))))
 rintro _ w1 ⟨ns,hns,hnc,hS1⟩
 replace hS1:=hS1.jn rfl rfl
 have hok:=LV (hS1.pick [3,0,1,2,4] rfl)
 obtain⟨an,cn,hvn,_⟩:=hS1.own_shape 0 rfl; obtain rfl:=hvn
 refine Qe rfl rfl (Qf (Qc (Qd (Qd (Qa (Qb rfl rfl (Qb rfl rfl (Qv cal_100 rfl (SI (hS1.sp [3] rfl) (objs_in hok hv hns (by omega))) rfl ?_))))))))
 rintro _ w2 ⟨l2,hl2,hS2⟩
 replace hS2:=hS2.jn rfl rfl
 clear hS1
 have hnq:=Ia hok hv hns hl2
 have hln:(Zd ns).length≤90000000000:= by rw[YC];omega
 have hl2l:l2.length≤90000000000:= by rw[←hnq]; exact hln
 refine Qv cal_31 rfl (same_sp (hS2.sp [] rfl) (Ent.starL (Hs (C:=stC) (l:=Zd ns) (by omega)) 2 rfl) (Ent.starL (Hs (C:=stC) (l:=l2) (by omega)) 0 rfl)) rfl ?_
 rintro _ w3 ⟨rfl,hS3⟩
 replace hS3:=hS3.jn rfl rfl
 clear hS2
 rw[Xf hnq]
 refine QQ rfl rfl (Qf (Qc (Qh [3,2,1,0,8,9,23] rfl (QL rfl (fun h4=> ?_) (fun h4=> ?_)))))
 ·exact absurd h4 (by decide)
 refine Qr (Qc (Qd (Qd (Qa (Qe rfl rfl (Qf (Qc (Qw ?_))))))))
 refine Xa (fun K0 E0 W0=> ∃(i:Nat),K0=(Zd ns).length -i∧E0=[(0,ptrV b 0),(1,ptrV L.sp 0),(2,intV id),(3,ptrV q 0),(9,.slice an (Zd ns).length cn),(10,intV (i:Int))]∧Sat W0 [ZN b L,Zo L.sp n Fr V,Xp q W,rowT stC (.slice an (Zd ns).length cn) (Zd ns),F]∧(i≤(Zd ns).length)) (L0:=[(0,_),(1,_),(2,_),(3,_),(9,_),(10,_)]) ((Zd ns).length -0) (Vg rfl rfl rfl rfl rfl rfl) ⟨0,rfl,rfl,hS3.pick [3,4,1,2,5] rfl, by omega⟩ ?_
 rintro _ _ w5 ⟨i,rfl,rfl,hS5,hi⟩
 refine Qd (Qd (Qa (Qb rfl rfl (Qb rfl rfl ?_))))
 first | refine XE Tryz.underlying61 rfl rfl ?_ | refine JG 3 hS5 Tryz.underlying61 rfl rfl rfl ?_
 refine Xg rfl rfl rfl (Qf (Qc (Qt rfl (fun h6=> ?_) (fun h6=> ?_))))
 ·obtain⟨nm,hnm⟩: ∃nm,(Zd ns)[i]? =some nm:=⟨_,Zi (by omega)⟩
  refine Qr (Qc (Qd (Qw (Qd (Qa (Qb rfl rfl (Qb rfl rfl (Qb rfl rfl (Xr stC 3 i hS5 rfl rfl rfl (by first | rfl | omega) hnm KK rfl ?_)))))))))
  intro bx7 capx7 hvx7
  refine Zx 3 i 0 hS5 rfl hvx7 rfl rfl hnm ZZ rfl rfl (Qv cal_101 rfl (EK (hS5.sp [2] rfl) nm) rfl ?_)
  rintro _ w8 ⟨rfl,hS8⟩
  replace hS8:=hS8.jn rfl rfl
  clear hS5
  refine Qe rfl rfl (Qf (Qc (Qh [10,9,3,2,1,0,11] rfl (Qd (Qa (Qe rfl rfl (Qf (Qc (Qd (Qd (Qa (Qe rfl rfl (Qf (Qc (Qw ?_)))))))))))))))
  refine Xa (fun K0 E0 W0=> ∃(k:Nat),K0=256 -k∧E0=[(0,ptrV b 0),(1,ptrV L.sp 0),(2,intV id),(3,ptrV q 0),(9,.slice an (Zd ns).length cn),(10,intV (i:Int)),(11,strV (CA W nm)),(12,strV (He W nm k)),(13,intV (k:Int))]∧Sat W0 [ZN b L,Zo L.sp n Fr V,Xp q W,rowT stC (.slice an (Zd ns).length cn) (Zd ns),F]∧(k≤256)) (L0:=[(0,_),(1,_),(2,_),(3,_),(9,_),(10,_),(11,_),(12,_),(13,_)]) (256) (zb9 rfl rfl rfl rfl rfl rfl rfl rfl rfl) ⟨0, by omega,rfl,hS8.pick [1,2,0,3,4] rfl, by omega⟩ ?_
  rintro _ _ w9 ⟨k,rfl,rfl,hS9,hk⟩
  have hpl:(He W nm k).length≤16384:= by rw[Mc hok];omega
  refine Qd (Qd (Qa (Qb rfl rfl (Xg rfl rfl rfl (Qf (Qc (Qt rfl (fun h10=> ?_) (fun h10=> ?_))))))))
  ·refine Qr (Qc (Qd (Qw (Qd (Qa (Qb rfl rfl (Qb rfl rfl (Qb rfl rfl (Qb rfl rfl (Xr stC 3 i hS9 rfl rfl rfl (by first | rfl | omega) hnm KK rfl ?_))))))))))
   intro bx11 capx11 hvx11
   refine Zx 3 i 0 hS9 rfl hvx11 rfl rfl hnm ZZ rfl rfl (Qb rfl rfl (Qv F4 rfl (Ep (hS9.sp [0,1] rfl) (hI.rank.ends hm) hid nm (k:Int) (by omega)) rfl ?_))
   rintro _ w12 ⟨rfl,hS12⟩
   replace hS12:=hS12.jn rfl rfl
   clear hS9
   refine Qb rfl rfl (Qs rfl rfl rfl (Qs rfl rfl rfl (Qe rfl rfl (Qe rfl rfl (Qf (Qc (Qh [13,12,11,10,9,3,2,1,0,14] rfl ?_)))))))
   have hpgl:(XR V (Xb L id (nm,(k:Int)))).length=64:=hI.len (hI.aliveS _ _)
   refine Qa (Qb rfl rfl (Qb rfl rfl (Qb rfl rfl (Qv JV rfl (YB (hS12.sp [1] rfl) (Xb L id (nm,(k:Int)))) rfl ?_))))
   rintro _ w13 ⟨rfl,hS13⟩
   replace hS13:=hS13.jn rfl rfl
   clear hS12
   refine LY rfl rfl (by omega) rfl ?_
   refine Qe rfl rfl (Qf (Ql (Qc (Qh [13,11,10,9,3,2,1,0,12] rfl (Qa (Qb rfl rfl (QK rfl rfl (by omega) (by omega) rfl ?_)))))))
   refine Qe rfl rfl (Qf ?_)
   exact Q4 (L1:=[(0,_),(1,_),(2,_),(3,_),(9,_),(10,_),(11,_),(12,_),(13,intV ((k+1:Nat):Int))]) (zb9 rfl rfl rfl rfl rfl rfl rfl rfl rfl) (k1:=256 -(k+1)) (by omega) ⟨k+1, by omega, by rw[Ud,←hv nm (k:Int),←hI.sees],hS13.pick [1,0,2,3,4] rfl, by omega⟩
  refine QR (Qq (Qq (Qy (Qc (Qh [12,11,10,9,3,2,1,0] rfl (Qd (Qw ?_)))))))
  refine Xa (fun K0 E0 W0=> ∃(g:Bs),K0=g.length∧E0=[(0,ptrV b 0),(1,ptrV L.sp 0),(2,intV id),(3,ptrV q 0),(9,.slice an (Zd ns).length cn),(10,intV (i:Int)),(11,strV (CA W nm)),(12,strV g)]∧Sat W0 [ZN b L,Zo L.sp n Fr V,Xp q W,rowT stC (.slice an (Zd ns).length cn) (Zd ns),F]∧(CA W nm=Lib.trimRightB g 0)∧(g.length≤16384)) (L0:=[(0,_),(1,_),(2,_),(3,_),(9,_),(10,_),(11,_),(12,_)]) ((He W nm k).length) (AK rfl rfl rfl rfl rfl rfl rfl rfl) ⟨_,rfl,rfl,hS9.pick [0,1,2,3,4] rfl, by rw[show k=256 by omega];rfl,hpl⟩ ?_
  rintro _ _ w14 ⟨g,rfl,rfl,hS14,hg,hgl2⟩
  refine Qd (Qd (Qa (Qb rfl rfl (Wi Tryz.underlying9 rfl rfl (YA rfl rfl rfl (Qb rfl rfl (QW 59 rfl (fun h15=> ?_) (fun h15=> ?_))))))))
  ·have hgl:0<g.length:= by omega
   obtain⟨cg,hcg⟩: ∃c,g[g.length -1]? =some c:=⟨_,Zi (by omega)⟩
   refine Qk rfl rfl (Xf h15) (Qb rfl rfl (Qk rfl rfl (Xf h15) (Qb rfl rfl (Qk rfl rfl (Xf h15) (Wi Tryz.underlying9 rfl rfl (Qk rfl rfl (Xf h15) (Hi rfl rfl (by omega) (by omega) rfl ?_)))))))
   refine Qk rfl rfl (Xf h15) (Y9 (g.length -1) Tryz.underlying9 rfl rfl (by omega) hcg rfl ?_)
   refine Qk rfl rfl (Xf h15) (Xe rfl rfl rfl (QC rfl (Xf h15) rfl rfl (Qf (Qc (Qh [12,11,10,9,3,2,1,0,66] rfl (Qt rfl (fun h16=> ?_) (fun h16=> ?_)))))))
   ·have hc0:cg=0:=UInt8.toNat_inj.1 (by have h0:=h16; simp only[UInt8.toNat_zero];omega)
    refine Qr (Qc (Qw (Qa (Qb rfl rfl (Qb rfl rfl (Wi Tryz.underlying9 rfl rfl (Hi rfl rfl (by omega) (by omega) rfl ?_)))))))
    refine Tm _ (g.length -1) Tryz.underlying9 rfl (qbh _) (Bh (g.length -1) _ rfl (by omega)) (by omega) (by omega) rfl ?_
    refine Qe rfl rfl (Qf (Ql ?_))
    exact Q4 (L1:=[(0,_),(1,_),(2,_),(3,_),(9,_),(10,_),(11,_),(12,_)]) (AK rfl rfl rfl rfl rfl rfl rfl rfl) (k1:=g.length -1) (by omega) ⟨g.take (g.length -1), by rw[List.length_take];omega, by rw[List.drop_zero],hS14.pick [0,1,2,3,4] rfl, by rw[hg]; exact Eg hcg hc0, by rw[List.length_take];omega⟩
   have hge:CA W nm=g:= by rw[hg]; exact N7 (.inr ⟨cg,hcg, fun e=> by subst e; exact h16 rfl⟩)
   refine QR (Qq (Qq (Qy (Qc (Qd (Qa (Qb rfl rfl (Qb rfl rfl (Rv rfl rfl rfl (Qf (Qc (Qh [10,9,3,2,1,0,74] rfl (Qt rfl (fun h17=> ?_) (fun h17=> ?_))))))))))))))
   ·exact absurd hge.symm h17
   refine Qr (Ql (Qc (Qa (Qb rfl rfl (QK rfl rfl (by omega) (by omega) rfl ?_)))))
   refine Qe rfl rfl (Qf ?_)
   exact Q4 (L1:=[(0,_),(1,_),(2,_),(3,_),(9,_),(10,intV ((i+1:Nat):Int))]) (Vg rfl rfl rfl rfl rfl rfl) (k1:=(Zd ns).length -(i+1)) (by omega) ⟨i+1,rfl,rfl,hS14.pick [0,1,2,3,4] rfl, by omega⟩
  have hge:CA W nm=g:= by rw[hg]; exact N7 (.inl (by omega))
  refine Qi rfl rfl (Q6 h15) rfl (Qi rfl rfl (Q6 h15) rfl (Qi rfl rfl (Q6 h15) rfl (Qi rfl rfl (Q6 h15) rfl (Qi rfl rfl (Q6 h15) rfl (Qi rfl rfl (Q6 h15) rfl (QO rfl (Q6 h15) rfl rfl (Qf (Qc (Qh [12,11,10,9,3,2,1,0,66] rfl (QT rfl (QR (Qq (Qq (Qy (Qc (Qd (Qa (Qb rfl rfl (Qb rfl rfl (Rv rfl rfl rfl (Qf (Qc (Qh [10,9,3,2,1,0,74] rfl (Qt rfl (fun h18=> ?_) (fun h18=> ?_)))))))))))))))))))))))))
  ·exact absurd hge.symm h18
  refine Qr (Ql (Qc (Qa (Qb rfl rfl (QK rfl rfl (by omega) (by omega) rfl ?_)))))
  refine Qe rfl rfl (Qf ?_)
  exact Q4 (L1:=[(0,_),(1,_),(2,_),(3,_),(9,_),(10,intV ((i+1:Nat):Int))]) (Vg rfl rfl rfl rfl rfl rfl) (k1:=(Zd ns).length -(i+1)) (by omega) ⟨i+1,rfl,rfl,hS14.pick [0,1,2,3,4] rfl, by omega⟩
 exact QR (Qq (Qq (Qy (Qc (Qd (Qa (Qe rfl rfl (Qf (Qc (Qh [8] rfl (Qu (QP (.inr rfl) rfl rfl (⟨_,rfl,rfl,hS5.pick [0,1,2,4] rfl⟩)))))))))))))
theorem Da {w:World} {b p q n m c e:Nat} {A:LvA} {W:WS} {F:Th} (hS:Sat w [JX b p n m c e A,Xp q W,F]) (hn:n≤60000000000) (hm:m<Zl) (he:e≤90000000000) {id:Int} (hid:id=0∨ ∃t,A.tr id=some t) (hv: ∀nm pg,Zr A id (nm,pg)=XC W nm pg):
    Calls Tryz.prog 38 #[ptrV b 0,ptrV p 0,intV id,ptrV q 0] w (Ret fun v w'=>v= .bool true∧Sat w' [JX b p n m c e A,Xp q W,F]):= by
  obtain⟨L,V,⟨h1,h2,h3,h4,h5⟩,hS1⟩:=Zw hS
  subst h1; subst h3
  have hid2:id=0∨ ∃t,L.tr id=some t:=hid.imp_right fun ⟨t,ht⟩=> by
    obtain⟨u,hu,_⟩:=Yp ht
    exact⟨u,hu⟩
  have hth:ZF L id=true:= by
    rcases hid2 with rfl | ⟨t,ht⟩
    · simp [ZF]
    · simp [ZF,ht]
  have hid1:id=0∨(id≠0∧ ∃t,L.tr id=some t):= by
    by_cases h0:id=0
    · exact .inl h0
    · exact .inr ⟨h0,hid2.resolve_left h0⟩
  refine(Ez hS1 hn h2 hm h5 he hth hid1 hid2 hv).mono fun ew w h=>h.mono fun v w h=> ?_
  exact⟨h.1,ZC ⟨rfl,h2,rfl,h4,h5⟩ h.2⟩
end Go.Proofs.YtkcjfoaejijdoaaGreatDoor
namespace Go.Proofs.YtkcjfoaejijdoaaGreatDoor
open Go.RowKit M
set_option linter.unusedSectionVars false
variable [Inhabited SlW]
theorem NL {W:WS} (hI:PagesOk W.objs) (n:Bs) (i:Int) (c:UInt8):PagesOk (Wf W n i c).objs:= by
  unfold Wf
  split
  · refine hI.set ?_ (by omega)
    rw[List.length_set]
    exact hI.len n (i/ 64)
  · exact hI
theorem qao {W:WS} (hI:PagesOk W.objs) (frm:Bs) (fi n:Int) (to:Bs) (at_:Int):PagesOk (KM W frm fi n to at_).objs:=⟨fun m q s hs=> by
  have hs':(if m=to∧max at_ 0≤q∧q<min (at_+n) 256 then W.objs frm (fi+q -at_)else W.objs m q)=some s:=hs
  split at hs'
  · rename_i e
    have h1:=hI.ok _ _ _ hs'
    exact⟨h1.1,h1.2.1, by omega, by omega⟩
  · exact hI.ok m q s hs'⟩
theorem NE {W:WS} (hI:PagesOk W.objs) (x:AcL):PagesOk (Y7 W x).objs:= by
  unfold Y7
  split
  · exact hI
  · split
    · exact qao hI _ _ _ _ _
    · split
      · exact hI.drop _
      · exact NL hI _ _ _
def Ro (c:KD→Bs) (t:TrA) (k:KD):Bs:= match t.lv k with
  | some x=>Rf (c k) x.own x.wr
  | none=> if t.dr k.1=true then zer else c k
def AL (t:TrA):Prop:= ∀k x,t.lv k=some x→So x∧x.own.length=64
def ValT (c:KD→Bs) (t:TrA):Prop:= ∀k x,t.lv k=some x→ ∀j,j<64→x.rd.getLsbD j=true→x.base[j]? =(c k)[j]?
def K9 (c:KD→Bs):Prop:= ∀k,(c k).length=64
theorem FD:zer.length=64:=rfl
section
variable {b c:KD→Bs} {t:TrA} {k:KD} {y o:LfA} {ob nm to:Bs} {p0 base a:Int} {f:Nat→Bs} {W:WS} {v:UInt8} {x:AcL}
theorem DU (h:AL t) (hb:K9 b):(ZW t (b k) k).length=64:= by
  unfold ZW
  cases hx:t.lv k with
  | some x=> exact(h k x hx).2
  | none=>
    dsimp only
    split
    · rfl
    · exact hb k
theorem AL.tou (h:AL t) (hb:K9 b):So (Z5 b t k)∧(Z5 b t k).own.length=64:= by
  refine⟨?_, by rw[YU]; exact DU h hb⟩
  unfold Z5
  cases hx:t.lv k with
  | some x=> exact(h k x hx).1
  | none=> exact fun j hj hw=>rfl
theorem AL.put (h:AL t) (hy:So y∧y.own.length=64):AL (JR t k y):= fun j x hx=> by
  have hx':X1 t.lv k (some y) j=some x:=hx
  by_cases e:j=k
  · subst e
    rw[Qz]at hx'
    cases hx'
    exact hy
  · rw[QF e]at hx'
    exact h j x hx'
theorem AL.drp (h:AL t):AL (Yk t ob):= fun j x hx=> by
  have hx':Zj (fun j=>j.1=ob) t.lv j=some x:=hx
  unfold Zj at hx'
  by_cases e:j.1=ob
  · rw[if_pos e]at hx'
    obtain⟨z,hz,rfl⟩:=Option.map_eq_some_iff.1 hx'
    exact⟨Nt,rfl⟩
  · rw[if_neg e]at hx'
    exact h j x hx'
theorem wrX_ag (h:So o):So (wrX o a v):= fun j hj hw=> by
  have hw':(o.wr ||| (1#64<<<a.toNat)).getLsbD j=false:=hw
  rw[C9 hj,Bool.or_eq_false_iff]at hw'
  have hne: ¬j=a.toNat:= by simpa using hw'.2
  show o.base[j]? =(o.own.set a.toNat v)[j]?
  rw[List.getElem?_set_ne (fun e=>hne e.symm)]
  exact h j hj hw'.1
theorem AL.rdU (h:AL t) (hb:K9 b):AL (rdU b t ob a):= by
  unfold Go.Proofs.YtkcjfoaejijdoaaGreatDoor.rdU
  split
  · exact h.put ⟨(h.tou hb).1,(h.tou hb).2⟩
  · exact h
theorem AL.wrU (h:AL t) (hb:K9 b):AL (wrU b t ob a v):= by
  unfold Go.Proofs.YtkcjfoaejijdoaaGreatDoor.wrU
  split
  · refine h.put ⟨wrX_ag (h.tou hb).1, ?_⟩
    show((Z5 b t (ob,a/ 64)).own.set _ _).length=64
    rw[List.length_set]
    exact(h.tou hb).2
  · exact h
theorem AL.rdf (h:AL t) (hb:K9 b): ∀n,AL (VB b ob p0 t n)
  | 0=>h
  | n+1=> by
    show AL (Vn b ob (VB b ob p0 t n) _)
    unfold Vn
    split
    · exact(AL.rdf h hb n).put ⟨((AL.rdf h hb n).tou hb).1,((AL.rdf h hb n).tou hb).2⟩
    · exact AL.rdf h hb n
theorem AL.wrf (h:AL t) (hf: ∀i,(f i).length=64): ∀n,AL (G0 b t to base f n)
  | 0=>h
  | n+1=>(AL.wrf h hf n).put ⟨Nt,hf n⟩
theorem PS (h:AL t) (hb:K9 b) {q:Int}:(Fk b t ob q).length=64:= by
  unfold Fk
  split
  · exact DU h hb
  · rfl
theorem AL.copy (h:AL t) (hb:K9 b) {fi n at_:Int}:AL (HS b t ob fi n to at_):=(h.rdf hb _).wrf (fun _=>PS h hb) _
theorem AL.step (h:AL t) (hb:K9 b):AL (Jk b t x):= by
  unfold Jk
  split
  · exact h.rdU hb
  · split
    · exact h.copy hb
    · split
      · exact h.drp
      · exact h.wrU hb
theorem ValT.put (h:ValT c (JR t k y)) (hg:GoX (Z5 b t k) y):ValT c t:= fun j x hx i hi hr=> by
  by_cases e:j=k
  · subst e
    have e2:Z5 b t j=x:= by unfold Z5; rw[hx]
    obtain⟨g1,⟨r,g2⟩,_⟩:=hg
    rw[e2]at g1 g2
    rw[←g1]
    refine h j y Qz i hi ?_
    rw[g2,BitVec.getLsbD_or,hr,Bool.true_or]
  · exact h j x (show X1 t.lv k (some y) j=some x by rw[QF e]; exact hx) i hi hr
theorem ValT.drp (h:ValT c (Yk t ob)):ValT c t:= fun j x hx i hi hr=> by
  by_cases e:j.1=ob
  · exact h j (allX x zer) (show Zj (fun j=>j.1=ob) t.lv j=some (allX x zer) by unfold Zj; rw[if_pos e,hx];rfl) i hi hr
  · exact h j x (show Zj (fun j=>j.1=ob) t.lv j=some x by unfold Zj; rw[if_neg e]; exact hx) i hi hr
theorem ValT.rdf: ∀n,ValT c (VB b ob p0 t n)→ValT c t
  | 0,h=>h
  | n+1,h=> by
    have h':ValT c (Vn b ob (VB b ob p0 t n) (p0+(n:Int))):=h
    unfold Vn at h'
    split at h'
    · exact ValT.rdf n (h'.put (b:=b) GoX.allR)
    · exact ValT.rdf n h'
theorem ValT.wrf: ∀n,ValT c (G0 b t to base f n)→ValT c t
  | 0,h=>h
  | n+1,h=>ValT.wrf n (ValT.put (b:=b) h GoX.allX)
theorem ValT.step (h:ValT c (Jk b t x)):ValT c t:= by
  unfold Jk at h
  split at h
  · unfold Go.Proofs.YtkcjfoaejijdoaaGreatDoor.rdU at h
    split at h
    · exact h.put (b:=b) GoX.rdX
    · exact h
  · split at h
    · exact ValT.rdf _ (ValT.wrf _ h)
    · split at h
      · exact h.drp
      · unfold Go.Proofs.YtkcjfoaejijdoaaGreatDoor.wrU at h
        split at h
        · exact h.put (b:=b) GoX.wrX
        · exact h
theorem Fo {j:KD}:Ro c (JR t k y) j= if j=k then Rf (c j) y.own y.wr else Ro c t j:= by
  unfold Ro JR
  dsimp only
  by_cases e:j=k
  · subst e; rw[Qz,if_pos rfl]
  · rw[QF e,if_neg e]
theorem CS (hc:K9 c):Rf (c k) (Z5 b t k).own (Z5 b t k).wr=Ro c t k:= by
  unfold Ro
  cases hx:t.lv k with
  | some x=>
    have e:Z5 b t k=x:= by unfold Z5; rw[hx]
    rw[e]
  | none=>
    unfold Z5 ZW
    rw[hx]
    dsimp only
    cases hd:t.dr k.1 with
    | true=> simp only[if_true]; exact RI FD (hc k)
    | false=> simp only[Bool.false_eq_true,if_false]; exact VF (hc k)
theorem Lu (hc:K9 c) (h1:y.own=(Z5 b t k).own) (h2:y.wr=(Z5 b t k).wr) (j:KD):Ro c (JR t k y) j=Ro c t j:= by
  rw[Fo]
  by_cases e:j=k
  · subst e
    rw[if_pos rfl,h1,h2]
    exact CS hc
  · rw[if_neg e]
theorem mgB_set {n w:Bs} {r:BitVec 64} {i:Nat} (hi:i<64) (hw:w.length=64):Rf n (w.set i v) (r ||| (1#64<<<i))=(Rf n w r).set i v:= by
  apply List.ext_getElem?
  intro j
  by_cases hj:j<64
  · rw[BZ hj,C9 hj]
    by_cases e:j=i
    · subst e
      rw[List.getElem?_set_self (by rw[UU];omega)]
      simp [List.getD,hw,hj]
    · rw[List.getElem?_set_ne (fun q=>e q.symm),BZ hj]
      have e2:(w.set i v).getD j 0=w.getD j 0:= by simp [List.getD,List.getElem?_set_ne (fun q=>e q.symm)]
      rw[e2]
      simp [e]
  · rw[List.getElem?_eq_none (by rw[UU];omega),List.getElem?_eq_none (by rw[List.length_set,UU];omega)]
theorem cm_wr (h:AL t) (hb:K9 b) (hc:K9 c) (ha:0≤a∧a<64) (j:KD):Ro c (JR t k (wrX (Z5 b t k) a v)) j= if j=k then(Ro c t k).set a.toNat v else Ro c t j:= by
  rw[Fo]
  by_cases e:j=k
  · subst e
    rw[if_pos rfl,if_pos rfl,←CS (b:=b) hc]
    exact mgB_set (by omega) (h.tou hb).2
  · rw[if_neg e,if_neg e]
theorem cm_all (hc:K9 c) {g:Bs} (hg:g.length=64) (j:KD):Ro c (JR t k (allX o g)) j= if j=k then g else Ro c t j:= by
  rw[Fo]
  by_cases e:j=k
  · subst e
    rw[if_pos rfl,if_pos rfl]
    exact RI hg (hc j)
  · rw[if_neg e,if_neg e]
theorem cm_drp (hc:K9 c) (j:KD):Ro c (Yk t ob) j= if j.1=ob then zer else Ro c t j:= by
  unfold Ro Yk Zj
  dsimp only
  by_cases e:j.1=ob
  · rw[if_pos e,if_pos e]
    cases t.lv j with
    | some x=> exact RI FD (hc j)
    | none=>
      dsimp only[Option.map_none]
      rw[if_pos (Ju.2 (.inr e))]
  · rw[if_neg e,if_neg e]
    have e2:J6 t.dr ob j.1=t.dr j.1:= by unfold J6; rw[if_neg e]
    simp only[e2]
theorem cm_full (h:AL t) (hb:K9 b) (hc:K9 c) (hv:ValT c (JR t k (allR (Z5 b t k)))):Ro c t k=ZW t (b k) k:= by
  rw[←CS (b:=b) hc,←YU (b:=b)]
  refine RH (h.tou hb).2 (hc k) fun j hj hw=> ?_
  rw[←(h.tou hb).1 j hj hw]
  refine(hv k _ Qz j hj ?_).symm
  show((Z5 b t k).rd ||| (BitVec.allOnes 64&&& ~~~(Z5 b t k).wr)).getLsbD j=true
  rw[BitVec.getLsbD_or,BitVec.getLsbD_and,BitVec.getLsbD_allOnes,BitVec.getLsbD_not,hw]
  simp [hj]
theorem cm_byte (h:AL t) (hb:K9 b) (hc:K9 c) (ha:0≤a∧a<64) (hv:ValT c (JR t k (rdX (Z5 b t k) a))):Ny (Ro c t k) a=Ny (ZW t (b k) k) a:= by
  rw[←CS (b:=b) hc,←YU (b:=b)]
  unfold Ny
  have hj:a.toNat<64:= by omega
  rw[P3 (BZ hj)]
  by_cases hw:(Z5 b t k).wr.getLsbD a.toNat=true
  · rw[if_pos hw]
  · rw[if_neg hw]
    have hw':(Z5 b t k).wr.getLsbD a.toNat=false:= by simpa using hw
    have h1:=(h.tou hb).1 a.toNat hj hw'
    have h2:=hv k _ Qz a.toNat hj (by
      show((Z5 b t k).rd ||| ((1#64<<<a.toNat)&&& ~~~(Z5 b t k).wr)).getLsbD a.toNat=true
      have h3:=C9 (w:=0#64) (i:=a.toNat) hj
      rw[BitVec.zero_or]at h3
      rw[BitVec.getLsbD_or,BitVec.getLsbD_and,BitVec.getLsbD_not,hw',h3]
      simp [hj])
    have h4:(c k)[a.toNat]? =(Z5 b t k).own[a.toNat]? :=h2.symm.trans h1
    simp only[List.getD,h4]
theorem CT (hc:K9 c) (j:KD): ∀n,Ro c (VB b ob p0 t n) j=Ro c t j
  | 0=>rfl
  | n+1=> by
    show Ro c (Vn b ob (VB b ob p0 t n) _) j=_
    unfold Vn
    split
    · exact(Lu (b:=b) (y:=allR (Z5 b (VB b ob p0 t n) (ob,p0+(n:Int)))) hc rfl rfl j).trans (CT hc j n)
    · exact CT hc j n
theorem qau (h:AL t) (hb:K9 b) (hc:K9 c): ∀n,ValT c (VB b ob p0 t n)→ ∀i,i<n→0≤p0+(i:Int)∧p0+(i:Int)<256→Ro c t (ob,p0+(i:Int))=ZW t (b (ob,p0+(i:Int))) (ob,p0+(i:Int))
  | 0,_,i,hi,_=> by omega
  | n+1,hv,i,hi,hp=> by
    have h':ValT c (Vn b ob (VB b ob p0 t n) (p0+(n:Int))):=hv
    by_cases e:i=n
    · subst e
      unfold Vn at h'
      rw[if_pos hp]at h'
      have :=cm_full (h.rdf hb i) hb hc h'
      rw[CT hc,DT]at this
      exact this
    · refine qau h hb hc n ?_ i (by omega) hp
      unfold Vn at h'
      split at h'
      · exact h'.put (b:=b) GoX.allR
      · exact h'
theorem qat (hc:K9 c) (hf: ∀i,(f i).length=64) {m:Bs} {r:Int}: ∀q:Nat,Ro c (G0 b t to base f q) (m,r)= if m=to∧base≤r∧r<base+(q:Int)then f (r -base).toNat else Ro c t (m,r)
  | 0=> by rw[if_neg (by omega)];rfl
  | q+1=> by
    show Ro c (JR (G0 b t to base f q) (to,base+(q:Int)) _) (m,r)=_
    rw[cm_all hc (hf q)]
    by_cases e:(m,r)=(to,base+(q:Int))
    · obtain⟨e1,e2⟩:=Prod.mk.inj e
      rw[if_pos e,if_pos ⟨e1, by omega, by omega⟩]
      have :(r -base).toNat=q:= by omega
      rw[this]
    · rw[if_neg e,qat hc hf q]
      by_cases e2:m=to∧base≤r∧r<base+(q:Int)
      · rw[if_pos e2,if_pos ⟨e2.1,e2.2.1, by omega⟩]
      · rw[if_neg e2,if_neg fun a=>e2 ⟨a.1,a.2.1,Classical.byContradiction fun z=>e (by rw[a.1, show r=base+(q:Int) by omega])⟩]
def VisC (c:KD→Bs) (t:TrA) (W:WS):Prop:= ∀nm q,Ro c t (nm,q)=XC W nm q
theorem VisC.step (h:VisC c t W) (hal:AL t) (hb:K9 b) (hc:K9 c) (hI:PagesOk W.objs) (hv:ValT c (Jk b t x)):VisC c (Jk b t x) (Y7 W x):= by
  rcases Vy x with e | e | e | ⟨e1,e2,e3⟩
  · obtain⟨s1,_,s3⟩:=YP (b:=b) (t:=t) (P:=b) (W:=W) e
    rw[s1,s3]
    unfold Go.Proofs.YtkcjfoaejijdoaaGreatDoor.rdU
    split
    · exact fun nm q=>(Lu (b:=b) (y:=Go.Proofs.YtkcjfoaejijdoaaGreatDoor.rdX (Z5 b t (x.ob,x.at_/ 64)) (x.at_%64)) hc rfl rfl _).trans (h nm q)
    · exact h
  · obtain⟨s1,_,s3⟩:=Ho (b:=b) (t:=t) (P:=b) (W:=W) e
    rw[s1]at hv⊢
    rw[s3]
    intro nm q
    unfold HS at hv⊢
    have hv1:=ValT.wrf _ hv
    rw[qat hc (fun _=>PS hal hb),CT hc,Rd hI,h nm q]
    by_cases e1:nm=x.to∧x.at_+max 0 (-x.at_)≤q∧q<x.at_+max 0 (-x.at_)+(VT x.n x.at_:Int)
    · rw[if_pos e1,if_pos e1]
      unfold Fk
      have e2:x.first+max 0 (-x.at_)+(((q -(x.at_+max 0 (-x.at_))).toNat:Nat):Int)=x.first+q -x.at_:= by omega
      by_cases r:0≤x.first+q -x.at_∧x.first+q -x.at_<256
      · have hs:=qau hal hb hc _ hv1 ((q -(x.at_+max 0 (-x.at_))).toNat) (by omega) (by omega)
        rw[e2]at hs⊢
        rw[if_pos r,if_pos r,←hs]
        exact h _ _
      · rw[e2,if_neg r,if_neg r]
    · rw[if_neg e1,if_neg e1]
  · obtain⟨s1,_,s3⟩:=Hn (b:=b) (t:=t) (P:=b) (W:=W) e
    rw[s1,s3]
    intro m q
    rw[cm_drp hc,Rb,h m q]
  · obtain⟨s1,_,s3⟩:=Hm (b:=b) (t:=t) (P:=b) (W:=W) e1 e2 e3
    rw[s1,s3]
    intro m q
    unfold Go.Proofs.YtkcjfoaejijdoaaGreatDoor.wrU
    by_cases ha:0≤x.at_∧x.at_<16384
    · rw[if_pos ha,cm_wr hal hb hc (by omega),Ra m q _ _ ha,h x.ob (x.at_/ 64),h m q]
      by_cases e:(m,q)=(x.ob,x.at_/ 64)
      · obtain⟨e4,e5⟩:=Prod.mk.inj e
        rw[if_pos e,if_pos ⟨e4,e5⟩]
      · rw[if_neg e,if_neg fun z=>e (by rw[z.1,z.2])]
    · rw[if_neg ha]
      unfold Wf
      rw[if_neg ha]
      exact h m q
theorem VisC.byte {W':WS} (h:VisT b t W) (h':VisC c t W') (hal:AL t) (hb:K9 b) (hc:K9 c) (he:WH x=0∨WH x=1∨WH x=2∨WH x=7∨WH x=8) (hv:ValT c (Jk b t x)):KN W x.ob x.at_=KN W' x.ob x.at_:= by
  have e1:=Sb (ob:=x.ob) (a:=x.at_) h
  have e2:=Sc (P:=Ro c t) (ob:=x.ob) (a:=x.at_) h'
  rw[←e1,←e2]
  by_cases ha:0≤x.at_∧x.at_<16384
  · rw[if_pos ha,if_pos ha]
    rw[(YP (b:=b) (t:=t) (P:=b) (W:=W) he).1]at hv
    unfold Go.Proofs.YtkcjfoaejijdoaaGreatDoor.rdU at hv
    rw[if_pos ha]at hv
    exact(cm_byte hal hb hc (by omega) hv).symm
  · rw[if_neg ha,if_neg ha]
end
noncomputable def HH (b:KD→Bs) (t:TrA) (l:List AcL):TrA:=l.foldl (Jk b) t
def Vm (W:WS) (l:List AcL):WS:=l.foldl Y7 W
section
variable {b c:KD→Bs} {t:TrA} {W W':WS} {l:List AcL} {q d:Nat}
theorem C2 (hI:PagesOk W.objs): ∀(l:List AcL),PagesOk (Vm W l).objs:= fun l=> by
  induction l generalizing W with
  | nil=> exact hI
  | cons x l ih=> exact ih (NE hI x)
theorem E4 {x:AcL}:HH b t (l++[x])=Jk b (HH b t l) x:= by unfold HH; rw[List.foldl_append];rfl
theorem E3 {x:AcL}:Vm W (l++[x])=Y7 (Vm W l) x:= by unfold Vm; rw[List.foldl_append];rfl
theorem T1 {x:AcL} {i:Nat} (h:l[i]? =some x):l.take (i+1)=l.take i++[x]:= by rw[List.take_add_one,h];rfl
end
end Go.Proofs.YtkcjfoaejijdoaaGreatDoor
namespace Go.Proofs.YtkcjfoaejijdoaaGreatDoor
open Go.RowKit M
set_option linter.unusedSectionVars false
variable [Inhabited SlW]
theorem V9 {W:WS} {l:List AcL} {i:Nat} {x:AcL} (h:l[i]? =some x):Y7 (Vm W (l.take i)) x=Vm W (l.take (i+1)):= by
  rw[T1 h,E3]
end Go.Proofs.YtkcjfoaejijdoaaGreatDoor
namespace Go.Proofs.YtkcjfoaejijdoaaGreatDoor
open Go.RowKit M
set_option linter.unusedSectionVars false
variable [Inhabited SlW]
def t00:TrA:=⟨0, fun _=>none, fun _=>false⟩
section
variable {A:LvA} {b c P:KD→Bs} {t t1 t2:TrA} {W:WS} {q d q1 d1 q2 d2:Nat} {x:AcL}
theorem HG: ∀(l:List AcL) {t:TrA} {W:WS},VisT b t W→PagesOk W.objs→VisT b (HH b t l) (Vm W l)
  | [],_,_,h,_=>h
  | x::l,_,_,h,hI=>HG l (h.step hI) (NE hI x)
theorem BU: ∀(l:List AcL) {t:TrA} {q d:Nat},TrK b t q d→TrK b (HH b t l) (q+l.length) (d+l.length)
  | [],_,_,_,h=>h
  | x::l,_,_,_,h=>(BU l h.step).up (by simp;omega) (by simp;omega)
theorem UN: ∀(l:List AcL) {t:TrA},(HH b t l).parent=t.parent
  | [],_=>rfl
  | x::l,_=>(UN l).trans Of
theorem t00_trk:TrK b t00 0 0:=⟨(fun k x h=> by cases h),(fun k x _ h=> by cases h),⟨[],Nat.le_refl _, fun k x h=> by cases h⟩,⟨[],Nat.le_refl _, fun ob h=> by cases h⟩⟩
theorem FJ (h:VisP P W):VisT P t00 W:= fun nm q=>h nm q
theorem H5 {l:List AcL} {i:Nat} (h:l[i]? =some x):Jk b (HH b t (l.take i)) x=HH b t (l.take (i+1)):= by
  rw[T1 h,E4]
structure FlI (A:LvA) (P:KD→Bs) (t1 t2:TrA):Prop where
  pres:A.pres=P
  t1:A.tr 1=some t1
  t2:A.tr 2=some t2
  oth: ∀j,j≠1→j≠2→A.tr j=none
theorem FlI.start (hA: ∀j,A.tr j=none):Gq A 1 0=0∧Gq (BL A 1 0) 2 0=0∧FlI (BL (BL A 1 0) 2 0) A.pres t00 t00:= by
  obtain⟨e0,e1⟩:=Ds (A:=A) (i:=1) (by omega) (hA 1)
  refine⟨e0, ?_⟩
  rw[e1]
  obtain⟨e2,e3⟩:=Ds (A:=({A with tr:=X1 A.tr 1 (some ⟨0, fun _=>none, fun _=>false⟩)}:LvA)) (i:=2) (by omega) ((QF (by decide)).trans (hA 2))
  refine⟨e2, ?_⟩
  rw[e3]
  exact⟨rfl,(QF (by decide)).trans Qz,Qz, fun j h1 h2=>(QF h2).trans ((QF h1).trans (hA j))⟩
theorem FlI.sa (h:FlI A P t1 t2) {t:TrA}:FlI (Y2 A 1 t) P t t2:=⟨h.pres,Un,(Hp (by decide)).trans h.t2, fun j a c=>(Hp a).trans (h.oth j a c)⟩
theorem FlI.sb (h:FlI A P t1 t2) {t:TrA}:FlI (Y2 A 2 t) P t1 t:=⟨h.pres,(Hp (by decide)).trans h.t1,Un, fun j a c=>(Hp c).trans (h.oth j a c)⟩
theorem lsT_len {w:World} {b p n m c e:Nat} {As:List Th} (h:Sat w (JX b p n m c e A::As)):K9 A.pres:= by
  obtain⟨L,V,⟨h1,h2,h3,h4,h5⟩,_⟩:=Zw h
  subst h3
  exact fun k=>h2.len (h2.alive (.inl k))
theorem val_of (h:TrK A.pres t q d) (hp:t.parent=0):VA A t:= fun k x hx j hj hr=> by
  rw[hp,Ja]
  rcases h.rd k x hx with e | ⟨e,_⟩
  · rw[e]
  · rw[e]at hr; simp at hr
theorem com_cm (h:TrK b t q d) (hP:K9 A.pres) (k:KD):MD A t k=Ro A.pres t k:= by
  unfold MD Ro
  cases hx:t.lv k with
  | none=>rfl
  | some x=>
    dsimp only
    by_cases e:x.wr=0#64
    · rw[if_pos e,e,VF (hP k)]
      by_cases hd:t.dr k.1=true
      · have :=h.dr k x hd hx
        rw[e]at this
        exact absurd this (by decide)
      · rw[if_neg hd]
    · rw[if_neg e]
theorem Lt (h:TrK b t q d) (hal:AL t) (hb:K9 b) (k:KD):Ro b t k=ZW t (b k) k:= by
  unfold Ro ZW
  cases hx:t.lv k with
  | none=>rfl
  | some x=>
    dsimp only
    rcases h.rd k x hx with e | ⟨_,e⟩
    · refine RH (hal k x hx).2 (hb k) fun j hj hw=> ?_
      rw[←e]
      exact(hal k x hx).1 j hj hw
    · rw[e]; exact RI (hal k x hx).2 (hb k)
theorem FlI.rdy (h:FlI A P t1 t2) (k1:TrK P t1 q1 d1) (k2:TrK P t2 q2 d2) (p1:t1.parent=0) (p2:t2.parent=0):(∀i u,A.tr i=some u→u.parent=0)∧DrA A:= by
  have key: ∀i u,A.tr i=some u→u=t1∨u=t2:= fun i u hu=> by
    by_cases e1:i=1
    · subst e1; rw[h.t1]at hu; exact .inl (Option.some.inj hu).symm
    · by_cases e2:i=2
      · subst e2; rw[h.t2]at hu; exact .inr (Option.some.inj hu).symm
      · rw[h.oth i e1 e2]at hu; cases hu
  refine⟨fun i u hu=> ?_, fun i u k x hu hd hx=> ?_⟩
  · rcases key i u hu with rfl | rfl
    · exact p1
    · exact p2
  · rcases key i u hu with rfl | rfl
    · exact k1.dr k x hd hx
    · exact k2.dr k x hd hx
structure Fl1 (A:LvA) (t2:TrA):Prop where
  t2:A.tr 2=some t2
  oth: ∀j,j≠2→A.tr j=none
theorem FlI.com (h:FlI A P t1 t2) {Q:KD→Bs}:Fl1 ⟨Q,X1 A.tr 1 none⟩ t2:= by
  refine⟨(QF (by decide)).trans h.t2, fun j hj=> ?_⟩
  by_cases e:j=1
  · subst e; exact Qz
  · exact(QF e).trans (h.oth j e hj)
theorem Fl1.rdy (h:Fl1 A t2) (k2:TrK P t2 q2 d2) (p2:t2.parent=0):(∀i u,A.tr i=some u→u.parent=0)∧DrA A:= by
  have key: ∀i u,A.tr i=some u→u=t2:= fun i u hu=> by
    by_cases e2:i=2
    · subst e2; rw[h.t2]at hu; exact(Option.some.inj hu).symm
    · rw[h.oth i e2]at hu; cases hu
  refine⟨fun i u hu=> ?_, fun i u k x hu hd hx=> ?_⟩
  · rw[key i u hu]; exact p2
  · rw[key i u hu]at hd hx; exact k2.dr k x hd hx
end
theorem Cb:PagesOk emptyW.objs:=⟨fun n p s h=> by cases h⟩
def capOk (v:Value):Prop:= ∀ao m cap,v= .slice ao m cap→m≤cap
end Go.Proofs.YtkcjfoaejijdoaaGreatDoor
namespace Go.Proofs.YtkcjfoaejijdoaaGreatDoor
open Go.RowKit M
set_option linter.unusedSectionVars false
variable [Inhabited SlW]
theorem itKT (c b:Nat) (g:Int→Option Value):ItI g 124 [ptrV c 0] (I0 c b g):= fun l J X w hS hY=> by
  have h1:=(hS.perm (List.Perm.swap _ _ _)).flat; dsimp only[BC,BB]at h1
  refine(kt_it (h1.reorder [2,0,1,3] rfl) hY).mono fun e w' h=>h.mono fun v w' ⟨ks,h2,h3⟩=>⟨ks,h2, ?_⟩
  exact(Sat.fold (As:=[QG c [.map (some b)],Q0 QX b g]) (h3.reorder [1,2,0,3] rfl)).perm (List.Perm.swap _ _ _)
theorem live_sp {w:World} {b:Nat} {L:LvD} {F:Th} (hS:Sat w [ZN b L,F]) (hlen: ∀ks,Came (XY TrD.ad L.tr) ks→ks.length≤100000000000):
    Calls Tryz.prog 24 #[ptrV b 0] w (Ret fun v w'=> ∃ks,AllC (XY TrD.ad L.tr) ks∧Sat w' [rowT inC v (J5 ks),ZN b L,F]):= by
 replace hS:=XK hS
 refine Qo Tryz.func24 rfl Tryz.ntmps24 rfl ?_
 refine Qd (Qa (Qe rfl rfl (Qf (Qc (Qd (Qa (Qb rfl rfl (Qj rfl rfl (Qg rfl ZK rfl (Qp rfl J2 (hS.cell 0 rfl rfl) rfl (Qv cal_70 rfl (kt_sp (hS.sp [] rfl) rfl) rfl ?_)))))))))))
 rintro _ w1 ⟨ck,rfl,hS1⟩
 replace hS1:=hS1.jn rfl rfl
 have hK:=Sat.fold (As:=[QG ck [.map (some L.mt)],Q0 QX L.mt (XY TrD.ad L.tr)]) (hS1.pick [0,3,1,2,4,5,6] rfl)
 have hC2:=hK.sp [0] rfl
 refine Qv cal_68 rfl (S8 hC2 cal_124 (itKT ck L.mt (XY TrD.ad L.tr)) hlen) rfl ?_
 rintro _ w2 ⟨ks,hks,hS2⟩
 replace hS2:=hS2.jn rfl rfl; clear hC2
 clear hK
 refine Qe rfl rfl (Qf (Qc (Qu (QP (.inr rfl) rfl rfl ?_))))
 have hz:=(hS2.pick [1,0,2,3,4,5,6] rfl).flat; dsimp only[I0,BC,BB]at hz
 exact⟨_,rfl,ks,hks,(QV (hz.pick [3,4,1,5,6,2,7] rfl)).perm (List.Perm.swap _ _ _)⟩
theorem qbp {L:LvD} {ks:List Int} {k:Int} (h:AllC (XY TrD.ad L.tr) ks) (hk:k∈J5 ks): ∃u,L.tr k=some u:= by
  have h1:=(h.mem k).1 ((DI ks).mem_iff.1 hk)
  cases q:L.tr k with
  | some u=> exact⟨u,rfl⟩
  | none=> exact absurd (by unfold XY; rw[q];rfl) h1
theorem AJ {w:World} {ex:Int→Int} {m:Nat} {b n Fr:Nat} {L:LvD} {V:VS} {F:Th} (hS:Sat w [ZN b L,Zo L.sp n Fr V,F]) {c:Nat} (hc:SzLe L c) (hn:n+2*c≤60000000000) (hI:LvX ex m L V) (hx:NN ex) {id:Int} {t:TrD} (ht:L.tr id=some t) (hch: ∀i u,L.tr i=some u→u.parent≠id) (hlen: ∀ks,Came (XY TrD.ad L.tr) ks→ks.length≤100000000000):
    Calls Tryz.prog 25 #[ptrV b 0,intV id] w (Ret fun v w'=> ∃L' V',StepX ex m L V ex m 0 0 L' V'∧Q5 L' V'=BJ (Q5 L V) id∧L'.pres=L.pres∧L'.tr=X1 L.tr id none∧Sat w' [ZN b L',Zo L'.sp (n+2*c) Fr V',F]):= by
 replace hS:=XK hS
 refine Qo Tryz.func25 rfl Tryz.ntmps25 rfl ?_
 refine Qd (Qd (Qa (Qb rfl rfl (Qj rfl rfl (Qg rfl ZK rfl (Qp rfl J2 (hS.cell 0 rfl rfl) rfl (Qb rfl rfl (Xt (k:=id) 2 hS keysInt Tryz.underlying82 rfl rfl rfl Y6 (u:=ptrV t.ad 0) (XV ht) rfl (Z8 Tryz.underlying94 rfl rfl rfl (Qf (Qc (QT rfl (Qr (Qc (Qd (Qd ?_))))))))))))))))
 have hS1:=QV (L:=L) (hS.pick [0,1,2,3,4,5,6] rfl)
 refine Qa (Qb rfl rfl (Qv cal_24 rfl (live_sp (hS1.sp [0] rfl) hlen) rfl ?_))
 rintro _ w2 ⟨ks,hks,hS2⟩
 replace hS2:=hS2.jn rfl rfl
 clear hS1
 obtain⟨ar,cr,hvr,_⟩:=hS2.own_shape 0 rfl; obtain rfl:=hvr
 have hkl:(J5 ks).length≤100000000000:= by rw[H3]; exact hlen _ (Came.of_all hks)
 refine XE Tryz.underlying47 rfl rfl (Qb rfl rfl (Qf (Qc (Qh [1,0,15,16,17] rfl (Qw ?_)))))
 refine Xa (fun K0 E0 W0=> ∃(i:Nat),K0=(J5 ks).length -i∧E0=[(0,ptrV b 0),(1,intV id),(15,.slice ar (J5 ks).length cr),(16,intV ((J5 ks).length:Int)),(17,intV (i:Int))]∧Sat W0 [ZN b L,rowT inC (.slice ar (J5 ks).length cr) (J5 ks),Zo L.sp n Fr V,F]∧(i≤(J5 ks).length)) (L0:=[(0,_),(1,_),(15,_),(16,_),(17,_)]) ((J5 ks).length) (Vp rfl rfl rfl rfl rfl) ⟨0,rfl,rfl,hS2.pick [1,0,2,3] rfl, by omega⟩ ?_
 rintro _ _ w3 ⟨i,rfl,rfl,hS3,hi⟩
 refine Qd (Qa (Xg rfl rfl rfl (Qf (Qc (Qd (Qt rfl (fun h4=> ?_) (fun h4=> ?_)))))))
 ·obtain⟨k,hk⟩: ∃k,(J5 ks)[i]? =some k:=⟨_,Zi (by omega)⟩
  obtain⟨u,hu⟩: ∃u,L.tr k=some u:=qbp hks (List.mem_of_getElem? hk)
  refine Qr (Qc (Qd (Qw (Qd (Qa (Xr inC 1 i hS3 rfl rfl rfl (by first | rfl | omega) hk KL rfl ?_))))))
  intro bx5 capx5 hvx5
  refine Zx 1 i 0 hS3 rfl hvx5 rfl rfl hk QN rfl rfl (Qe rfl rfl (Qf (Qc (Qd ?_))))
  have hS6:=XK (hS3.pick [0,1,2,3] rfl)
  refine Qa (Qb rfl rfl (Qj rfl rfl (Qg rfl ZK rfl (Qp rfl J2 (hS6.cell 0 rfl rfl) rfl (Qb rfl rfl (Xt (k:=k) 2 hS6 keysInt Tryz.underlying82 rfl rfl rfl Y6 (u:=ptrV u.ad 0) (XV hu) rfl (Qe rfl rfl (Qf (Qc (Qh [17,16,15,1,0,5,6] rfl (Qd ?_)))))))))))
  have hS7:=QV (L:=L) (hS6.pick [0,1,2,3,4,5,6,7] rfl)
  refine Qa (Qb rfl rfl (Hz Tryz.underlying94 rfl rfl rfl (Qb rfl rfl (Qk rfl rfl rfl (Qb rfl rfl (Qk rfl rfl rfl (Qj rfl rfl (Qk rfl rfl rfl (Qg rfl JJ rfl (Qk rfl rfl rfl (Qp rfl QN (Kr hS7 0 rfl hu 0 rfl) rfl (Qk rfl rfl rfl (Qb rfl rfl (Qk rfl rfl rfl (Xe rfl rfl rfl (QC rfl rfl rfl rfl (Qf (Qc (Qh [17,16,15,1,0,5,36] rfl (Qt rfl (fun h8=> ?_) (fun h8=> ?_)))))))))))))))))))))
  ·exact absurd (by simpa using h8) (hch _ _ hu)
  refine Qr (Ql (Qc (Qa (QK rfl rfl (by omega) (by omega) rfl ?_))))
  refine Qb rfl rfl (Qf ?_)
  exact Q4 (L1:=[(0,_),(1,_),(15,_),(16,_),(17,intV ((i+1:Nat):Int))]) (Vp rfl rfl rfl rfl rfl) (k1:=(J5 ks).length -(i+1)) (by omega) ⟨i+1,rfl,rfl,hS7.pick [0,1,2,3] rfl, by omega⟩
 refine QR (Qq (Qq (Qy (Qc (Qa (Qb rfl rfl (Qb rfl rfl (Qv qa5 rfl (TA (c:=c) (hS3.sp [0,2] rfl) hc hn hI hx ht hch) rfl ?_))))))))
 rintro _ w9 ⟨L',V',h1,h2,h3,h4,hS9⟩
 replace hS9:=hS9.jn rfl rfl
 clear hS3
 exact Qf (ZY (.inl rfl) rfl (⟨_,rfl,L',V',h1,h2,h3,h4,hS9.pick [0,1,3] rfl⟩))
end Go.Proofs.YtkcjfoaejijdoaaGreatDoor
