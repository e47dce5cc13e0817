/- leaves: Abort, with all descendants -/
import Derived.Test.YtkcjfoaejijdoaaGreatDoorLv51
import Derived.Test.YtkcjfoaejijdoaaGreatDoorLv37
import Derived.Test.YtkcjfoaejijdoaaGreatDoorLv33
set_option linter.unusedSectionVars false
set_option linter.unusedVariables false
set_option maxRecDepth 100000
set_option maxHeartbeats 1600000
namespace Go.Proofs.YtkcjfoaejijdoaaGreatDoor
open Go.RowKit M Proofs.Tryz
variable [Inhabited SlW]
def SubT (T T':Int→Option TrD):Prop:= ∀i,T' i=T i∨T' i=none
def TrN (T:Int→Option TrD) (K:Nat):Prop:= ∃ids:List Int,ids.length≤K∧ ∀i,T i≠none→i∈ids
theorem TrN.del {T:Int→Option TrD} {K:Nat} {i:Int} (h:TrN T K) (hi:T i≠none): ∃K',K=K'+1∧TrN (Xu T i none) K':= by
  obtain⟨ids,h1,h2⟩:=h
  have h3:=h2 i hi
  have h4:=List.length_erase_of_mem h3
  have h5:=List.length_pos_of_mem h3
  refine⟨K -1, by omega,ids.erase i, by omega, fun j hj=> ?_⟩
  by_cases e:j=i
  · subst e; exact absurd Qy hj
  · rw[QF e]at hj
    exact(List.mem_erase_of_ne e).2 (h2 j hj)
def AbA (A A':LvA):Prop:=A'.pres=A.pres∧ ∀i,A'.tr i=A.tr i∨A'.tr i=none
structure AbI (m c:Nat) (L L':LvD) (V V':VS) (id:Int) (r:Int→Nat) (K K':Nat):Prop where
  inv:LvI m L' V'
  sp:L'.sp=L.sp
  pres:L'.pres=L.pres
  sub:SubT L.tr L'.tr
  ab:AbA (Q1 L V) (Q1 L' V')
  low: ∀i,r i≤r id→L'.tr i=L.tr i
  trn:TrN L'.tr K'
  le:K'≤K
  sz:SzLe L' c
structure AbP (m c:Nat) (L L':LvD) (V V':VS) (id:Int) (r:Int→Nat) (K K':Nat):Prop where
  inv:LvI m L' V'
  sp:L'.sp=L.sp
  pres:L'.pres=L.pres
  sub:SubT L.tr L'.tr
  ab:AbA (Q1 L V) (Q1 L' V')
  low: ∀i,r i<r id→L'.tr i=L.tr i
  gone:L'.tr id=none
  trn:TrN L'.tr K'
  lt:K'+1≤K
  sz:SzLe L' c
theorem SubT.refl {T:Int→Option TrD}:SubT T T:= fun _=> .inl U
theorem SubT.trans {T T1 T2:Int→Option TrD} (h:SubT T T1) (h':SubT T1 T2):SubT T T2:= fun i=> by
  rcases h' i with e | e
  · rw[e]; exact h i
  · exact .inr e
theorem SubT.some {T T1:Int→Option TrD} (h:SubT T T1) {i:Int} {t:TrD} (ht:T1 i=some t):T i=some t:= by
  rcases h i with e | e
  · rw[←e]; exact ht
  · rw[e]at ht; cases ht
theorem AbA.refl {A:LvA}:AbA A A:=⟨rfl, fun _=> .inl U⟩
theorem AbA.trans {A A1 A2:LvA} (h:AbA A A1) (h':AbA A1 A2):AbA A A2:=⟨h'.1.trans h.1, fun i=> by
  rcases h'.2 i with e | e
  · rw[e]; exact h.2 i
  · exact .inr e⟩
theorem AbA.del {A:LvA} {id:Int}:AbA A (Bw A id):=⟨rfl, fun i=> by
  by_cases e:i=id
  · subst e; exact .inr Qy
  · exact .inl (QF e)⟩
theorem XL.abo {A A':LvA} {ids:List Int} {obs:List Bs} (h:XL A ids obs) (hs:AbA A A'):XL A' ids obs:= by
  have hq: ∀j u,A'.tr j=some u→A.tr j=some u:= fun j u hu=> by
    rcases hs.2 j with e | e
    · rw[←e]; exact hu
    · rw[e]at hu; cases hu
  refine⟨fun i v j x hu hd hx=>h.dr i v j x (hq i v hu) hd hx, fun j hj=> ?_, fun j v o hu hd=>h.obs j v o (hq j v hu) hd⟩
  obtain⟨u,hu⟩:=Option.ne_none_iff_exists'.1 hj
  exact h.ids j (by rw[hq j u hu]; simp)
section
variable {m c K K1 K2:Nat} {L L1 L2:LvD} {V V1 V2:VS} {id k:Int} {r:Int→Nat} {t:TrD}
theorem AbI.start (hI:LvI m L V) (hc:SzLe L c) (hK:TrN L.tr K):AbI m c L L V V id r K K:=⟨hI,rfl,rfl,.refl,.refl, fun _ _=>rfl,hK,Nat.le_refl _,hc⟩
theorem AbI.rank (h:AbI m c L L1 V V1 id r K K1) (hr: ∀i t,L.tr i=some t→t.parent=0∨r t.parent<r i): ∀i t,L1.tr i=some t→t.parent=0∨r t.parent<r i:= fun i t ht=>hr i t (h.sub.some ht)
theorem AbI.next (h:AbI m c L L1 V V1 id r K K1) (h2:AbP m c L1 L2 V1 V2 k r K1 K2) (hk:r id<r k):AbI m c L L2 V V2 id r K K2:=
  ⟨h2.inv,h2.sp.trans h.sp,h2.pres.trans h.pres,h.sub.trans h2.sub,h.ab.trans h2.ab, fun i hi=>(h2.low i (by omega)).trans (h.low i hi),h2.trn, by have :=h.le; have :=h2.lt;omega,h2.sz⟩
theorem AbI.fin (h:AbI m c L L1 V V1 id r K K1) (ht:L1.tr id=some t) (hs:StepX (fun _=>0) m L1 V1 (fun _=>0) m 0 0 L2 V2) (hab:Q1 L2 V2=Bw (Q1 L1 V1) id) (hp:L2.pres=L1.pres) (hT:L2.tr=Xu L1.tr id none): ∃K2,K1=K2+1∧AbP m c L L2 V V2 id r K K2:= by
  obtain⟨K2,e,hK⟩:=h.trn.del (i:=id) (by rw[ht]; simp)
  have hsub:SubT L1.tr L2.tr:= fun i=> by
    rw[hT]
    by_cases e:i=id
    · subst e; exact .inr Qy
    · exact .inl (QF e)
  refine⟨K2,e,hs.inv,hs.sp.trans h.sp,hp.trans h.pres,h.sub.trans hsub,h.ab.trans (by rw[hab]; exact .del), fun i hi=> ?_, by rw[hT]; exact Qy, by rw[hT]; exact hK, by have :=h.le;omega,hs.sz _ h.sz⟩
  rw[hT,QF (fun q=> by subst q;omega)]
  exact h.low i (by omega)
end
def AbG (kk:Nat):Prop:= ∀{w:World} {b n Fr m c K:Nat} {L:LvD} {V:VS} {F:Th},Sat w [XX b L,XD L.sp n Fr V,F]→n+100000*K≤60000000000→LvI m L V→SzLe L c→c≤50000→TrN L.tr K→K≤100000→ ∀{r:Int→Nat},(∀i t,L.tr i=some t→t.parent=0∨r t.parent<r i)→ ∀{id:Int} {t:TrD},L.tr id=some t→(∀i,r i≤r id+kk)→
    Calls prog 25 #[ptrV b 0,intV id] w (Ret fun v w'=> ∃L' V' K',AbP m c L L' V V' id r K K'∧Sat w' [XX b L',XD L'.sp (n+100000*(K -K')) Fr V',F])
theorem EE {kk:Nat} (ih: ∀j,j<kk→AbG j) {w:World} {b n Fr m c K:Nat} {L:LvD} {V:VS} {F:Th} (hS:Sat w [XX b L,XD L.sp n Fr V,F]) (hn:n+100000*K≤60000000000) (hI:LvI m L V) (hc:SzLe L c) (hcc:c≤50000) (hK:TrN L.tr K) (hKK:K≤100000) {r:Int→Nat} (hr: ∀i t,L.tr i=some t→t.parent=0∨r t.parent<r i) {id:Int} {t:TrD} (ht:L.tr id=some t) (hk0: ∀i,r i≤r id+kk):
    Calls prog 25 #[ptrV b 0,intV id] w (Ret fun v w'=> ∃L' V' K',AbP m c L L' V V' id r K K'∧Sat w' [XX b L',XD L'.sp (n+100000*(K -K')) Fr V',F]):= by
 have h0:id≠0:=hI.rank.none0 ht
 have hlen: ∀ks,Came (X0 TrD.ad L.tr) ks→ks.length≤100000000000:= fun ks hq=> by
  obtain⟨ids,h1,h2⟩:=hK
  exact Nat.le_trans (R5 hq.nodup fun i hi=>h2 i fun q=>absurd (by unfold X0; rw[q];rfl) (hq.has i hi)) (by omega)
 replace hS:=X1 hS
 refine Qm func25 U ntmps25 U ?_
 refine Qd (Qd (Qa (Qb U U (Qj U U (Qg U Zr U (Qr U Wx (hS.cell 0 U U) U (Qb U U (XV (k:=id) 2 hS keysInt underlying82 U U U JU (u:=ptrV t.ad 0) (XY ht) U (ZO underlying94 U U U (Qf (Qc (QR U (Qs (Qc (Qd (Qd ?_))))))))))))))))
 have j1:=QX (L:=L) (hS.pick [0,1,2,3,4,5,6] U)
 refine Qa (Qb U U (Qv IR U (SQ (j1.sp [0] U) hlen) U ?_))
 rintro _ w2 ⟨ks,hks,j2⟩
 replace j2:=j2.jn U U
 obtain⟨ar,cr,hvr,_⟩:=j2.own_shape 0 rfl; obtain rfl:=hvr
 have hkl:(ZL ks).length≤100000000000:= by rw[WD]; exact hlen _ (Came.of_all hks)
 refine X7 underlying47 U U (Qb U U (Qf (Qc (Qh [1,0,15,16,17] U (Qw ?_)))))
 have hzs:=Xn (m:=n+100000*(K -K)) (by omega) (j2.pick [2,0,1,3] U)
 refine Xg (fun K0 E0 W0=> ∃(i:Nat) (L1:LvD) (V1:VS) (K1:Nat),K0=(ZL ks).length -i∧E0=[(0,ptrV b 0),(1,intV id),(15,.slice ar (ZL ks).length cr),(16,intV ((ZL ks).length:Int)),(17,intV (i:Int))]∧Sat W0 [XX b L1,rowT inC (.slice ar (ZL ks).length cr) (ZL ks),XD L1.sp (n+100000*(K -K1)) Fr V1,F]∧(i≤(ZL ks).length)∧(AbI m c L L1 V V1 id r K K1)∧(∀j k u,j<i→(ZL ks)[j]? =some k→L1.tr k=some u→u.parent≠id)) (L0:=[(0,_),(1,_),(15,_),(16,_),(17,_)]) ((ZL ks).length) (Hi U U U U U) ⟨0,L,V,K,rfl,rfl,hzs.pick [2,1,0,3] U, by omega,.start hI hc hK, fun j k u hj=>absurd hj (by omega)⟩ ?_
 rintro _ _ w3 ⟨i,L1,V1,K1,rfl,rfl,j3,hi,hab,hdn⟩
 refine Qd (Qa (Xk U U U (Qf (Qc (Qd (Qt U (fun h4=> ?_) (fun h4=> ?_)))))))
 ·obtain⟨k,hk⟩: ∃k,(ZL ks)[i]? =some k:=⟨_,Zq (by omega)⟩
  refine Qs (Qc (Qd (Qw (Qd (Qa (Xx inC 1 i j3 U U U (by rfl) hk Jr U ?_))))))
  intro bx5 capx5 hvx5
  refine Zz 1 i 0 j3 U hvx5 U U hk QL U U (Qe U U (Qf (Qc (Qd ?_))))
  have j6:=X1 (j3.pick [0,1,2,3] U)
  refine Qa (Qb U U (Qj U U (Qg U Zr U (Qr U Wx (j6.cell 0 U U) U (Qb U U (XV (k:=k) 2 j6 keysInt underlying82 U U U JU (u:=ptO TrD.ad (L1.tr k)) (UF _) U (Qe U U (Qf (Qc (Qh [17,16,15,1,0,5,6] U (Qd ?_)))))))))))
  have j7:=QX (L:=L1) (j6.pick [0,1,2,3,4,5,6,7] U)
  refine Qa (Qb U U ?_)
  rcases hq_q:L1.tr k with _ | u
  ·refine JG underlying94 U U U (Qb U U (Qi U U U U (Qi U U U U (Qi U U U U (Qi U U U U (Qi U U U U (Qi U U U U (QW U U U U (Qf (Qc (Qh [17,16,15,1,0,5,36] U (QR U (Qs (Qk (Qc (Qa (QO U U (by omega) (by omega) U ?_)))))))))))))))))
   refine Qb U U (Qf ?_)
   exact Q3 (L1:=[(0,_),(1,_),(15,_),(16,_),(17,intV ((i+1:Nat):Int))]) (Hi U U U U U) (k1:=(ZL ks).length -(i+1)) (by omega) ⟨i+1,L1,V1,K1,rfl,rfl,(Xn (m:=n+100000*(K -K1)) (by omega) (j7.pick [2,0,1,3] U)).reorder [1,2,0,3] U, by omega,hab, fun j k2 u2 hj hk2 hu2=> by by_cases e:j=i;(subst e; rw[hk]at hk2; cases hk2; rw[hq_q]at hu2; cases hu2); exact hdn j k2 u2 (by omega) hk2 hu2⟩
  refine H4 underlying94 U U U (Qb U U (Qo U U U (Qb U U (Qo U U U (Qj U U (Qo U U U (Qg U Jl U (Qo U U U (Qr U QL (VY j7 0 U hq_q 0 U) U (Qo U U U (Qb U U (Qo U U U (Xq U U U (QK U U U U (Qf (Qc (Qh [17,16,15,1,0,5,36] U (Qt U (fun h8=> ?_) (fun h8=> ?_)))))))))))))))))))
  ·have hpar:u.parent=id:= by simpa using h8
   refine Qa (Qb U U (Qb U U ?_))
   have hlow:r id<r k:= by have h9:=(hr k u (hab.sub.some hq_q)).resolve_left (by rw[hpar]; exact h0);rwa [hpar]at h9
   have hkk:=hk0 k
   have hle0:=hab.le
   refine Qv IQ U (ih (kk -1) (by omega) (j7.sp [0,2] U) (by omega) hab.inv hab.sz hcc hab.trn (by omega) (hab.rank hr) hq_q (fun j=> by have :=hk0 j;omega)) U ?_
   rintro _ w9 ⟨L2,V2,K2,h2,j9⟩
   replace j9:=j9.jn U U
   refine Qf (Qk (Qc (Qa (QO U U (by omega) (by omega) U ?_))))
   refine Qb U U (Qf ?_)
   have hlt2:=h2.lt; have hle1:=hab.le
   exact Q3 (L1:=[(0,_),(1,_),(15,_),(16,_),(17,intV ((i+1:Nat):Int))]) (Hi U U U U U) (k1:=(ZL ks).length -(i+1)) (by omega) ⟨i+1,L2,V2,K2,rfl,rfl,(Xn (m:=n+100000*(K -K2)) (by omega) (j9.pick [1,0,2,3] U)).reorder [1,2,0,3] U, by omega,hab.next h2 hlow, fun j k2 u2 hj hk2 hu2=> by by_cases e:j=i;(subst e; rw[hk]at hk2; cases hk2; rw[h2.gone]at hu2; cases hu2); exact hdn j k2 u2 (by omega) hk2 (h2.sub.some hu2)⟩
  have hnp:u.parent≠id:= by simpa using h8
  refine Qs (Qk (Qc (Qa (QO U U (by omega) (by omega) U ?_))))
  refine Qb U U (Qf ?_)
  exact Q3 (L1:=[(0,_),(1,_),(15,_),(16,_),(17,intV ((i+1:Nat):Int))]) (Hi U U U U U) (k1:=(ZL ks).length -(i+1)) (by omega) ⟨i+1,L1,V1,K1,rfl,rfl,(Xn (m:=n+100000*(K -K1)) (by omega) (j7.pick [2,0,1,3] U)).reorder [1,2,0,3] U, by omega,hab, fun j k2 u2 hj hk2 hu2=> by by_cases e:j=i;(subst e; rw[hk]at hk2; cases hk2; rw[hq_q]at hu2; cases hu2; exact hnp); exact hdn j k2 u2 (by omega) hk2 hu2⟩
 refine QU (Qq (Qq (Qx (Qc (Qa (Qb U U (Qb U U ?_)))))))
 have hil:i=(ZL ks).length:= by omega
 have ht1:L1.tr id=some t:=(hab.low id (Nat.le_refl _)).trans ht
 have hle0:=hab.le
 obtain⟨K9,hK9,_⟩:=hab.trn.del (i:=id) (by rw[ht1]; simp)
 have hch: ∀i u,L1.tr i=some u→u.parent≠id:= fun i2 u2 hu2=> by have h9:=(hks.mem i2).2 (by unfold X0; rw[hab.sub.some hu2]; simp); obtain⟨j,hj⟩:=List.mem_iff_getElem?.1 ((JA ks).mem_iff.2 h9); exact hdn j i2 u2 (by rw[hil]; exact(Zb hj).1) hj hu2
 refine Qv IG U (MF (c:=c) (j3.sp [0,2] U) hab.sz (by omega) hab.inv (fun _ _=>Int.le_refl _) ht1 hch) U ?_
 rintro _ w10 ⟨L2,V2,h3,h4,h5,h6,j10⟩
 replace j10:=j10.jn U U
 refine Qf (ZU (.inl U) U ?_)
 obtain⟨K2,e2,hP⟩:=hab.fin ht1 h3 h4 h5 h6
 exact⟨_,rfl,L2,V2,K2,hP,(Xn (m:=n+100000*(K -K2)) (by omega) (j10.pick [1,0,3] U)).reorder [1,0,2] U⟩
theorem abortG: ∀kk,AbG kk:= fun kk=> by
  induction kk using Nat.strongRecOn with
  | _ kk ih=> exact fun hS hn hI hc hcc hK hKK r hr id t ht hk0=>EE ih hS hn hI hc hcc hK hKK hr ht hk0
theorem qaq {w:World} {b n Fr m c K:Nat} {L:LvD} {V:VS} {F:Th} (hS:Sat w [XX b L,XD L.sp n Fr V,F]) (hn:n+100000*K≤60000000000) (hI:LvI m L V) (hc:SzLe L c) (hcc:c≤50000) (hK:TrN L.tr K) (hKK:K≤100000) {id:Int} {t:TrD} (ht:L.tr id=some t):
    Calls prog 25 #[ptrV b 0,intV id] w (Ret fun v w'=> ∃L' V' K',(∃r,AbP m c L L' V V' id r K K')∧Sat w' [XX b L',XD L'.sp (n+100000*(K -K')) Fr V',F]):= by
  obtain⟨_,r,h1,h2⟩:=hI.rank
  refine(abortG m hS hn hI hc hcc hK hKK (r:=r) (fun i t ht=>(h2 i t ht).imp_right And.right) ht (fun i=> by have :=h1 i;omega)).mono fun e w h=>h.mono fun v w h=> ?_
  obtain⟨L',V',K',h3,h4⟩:=h
  exact⟨L',V',K',⟨r,h3⟩,h4⟩
theorem EF {w:World} {b n Fr:Nat} {L:LvD} {V:VS} {F:Th} (hS:Sat w [XX b L,XD L.sp n Fr V,F]) (hn:n≤60000000000) {id:Int} (ht:L.tr id=none):
    Calls prog 25 #[ptrV b 0,intV id] w (Ret fun v w'=>Sat w' [XX b L,XD L.sp n Fr V,F]):= by
 replace hS:=X1 hS
 refine Qm func25 U ntmps25 U ?_
 exact Qd (Qd (Qa (Qb U U (Qj U U (Qg U Zr U (Qr U Wx (hS.cell 0 U U) U (Qb U U (XV (k:=id) 2 hS keysInt underlying82 U U U JU (u:= .pointer none) (Ur ht) U (WG underlying94 U U U (Qf (Qc (Xd U (Qu (Qp (ZU (.inr U) U (⟨_,U,QX (hS.pick [0,1,2,3,4,5,6] U)⟩))))))))))))))))
theorem MP {w:World} {As:List Th} {f:KD→Option LfD} {k:KD} {x:LfD} {a:Nat} (ha:x.ad=a) (h:Sat w (Q8 a (lfV x)::XW UW (Xu f k none)::As)):Sat w (XW UW (Xu f k (some x))::As):= by subst ha; exact Ni h
structure PlA {σ:Type} (g:Nat) (c1:Nat) (b mt:Nat) (Q:σ→Th) (J:σ→(Int→Option TrD)→(Int×KD×Bool→Prop)→Prop):Prop where
  ok:QI prog g=true
  cell: ∀{s:σ} {w:World} {As:List Th} (i:Nat),Sat w As→As[i]? =some (Q s)→w.cell? ⟨b,2,none⟩=some (.map (some mt))
  step: ∀{s:σ} {T:Int→Option TrD} {dn:Int×KD×Bool→Prop} {i:Int} {t:TrD} {k:KD} {x:LfD} {a:Nat} (o:Bool) (q:Nat),q=(bif o then 1 else 0)→J s T dn→T i=some t→t.lv k=some x→ ¬dn (i,k,o)→x.ad=a→ ∀{w:World} {X:Th},Sat w [Q8 a (lfV x),Q s,X]→
    Calls prog g #[ptrV a q,ptrV c1 0] w (Ret fun v w'=> ∃s' x',x'.ad=a∧J s' (Xu T i (some {t with lv:=Xu t.lv k (some x')})) (fun p=>dn p∨p=(i,k,o))∧Sat w' [Q8 a (lfV x'),Q s',X])
theorem P5 {σ:Type} {g c1 b mt:Nat} {Q:σ→Th} {J:σ→(Int→Option TrD)→(Int×KD×Bool→Prop)→Prop} (hP:PlA g c1 b mt Q J) {w:World} {T:Int→Option TrD} {s0:σ} {F:Th} (hS:Sat w [Q5 QN mt (X0 TrD.ad T),XW YW T,Q s0,F]) (hJ0:J s0 T (fun _=>False)):
    Calls prog 131 #[ptrV b 0,.func (.func g) #[] #[ptrV c1 0]] w (Ret fun v w'=> ∃s T' dn,J s T' dn∧(∀j t k x,T' j=some t→t.lv k=some x→ ∀o,dn (j,k,o))∧X0 TrD.ad T'=X0 TrD.ad T∧Sat w' [Q5 QN mt (X0 TrD.ad T),XW YW T',Q s,F]):= by
 refine Qm func131 U ntmps131 U ?_
 refine Qd (Qa (Qb U U (Qj U U (Qg U Zr U (Qr U Wx (hP.cell 2 hS U) U (ZN 0 hS underlying82 U U U ?_))))))
 intro RR leftZ wRRR hSRRR; dsimp only[List.set]at hSRRR
 refine Qf (Qc (Qw (Xg (fun K0 E0 W0=> ∃(dn0:Int→Prop) (cur:Option Int) (left:Nat) (s:σ) (T1:Int→Option TrD) (dn:Int×KD×Bool→Prop),K0=left∧E0=[(0,ptrV b 0),(1,.func (.func g) #[] #[ptrV c1 0]),(12,ptrV RR 0)]∧Sat W0 [ZS QN mt RR (X0 TrD.ad T) dn0 cur left,XW YW T1,Q s,F]∧(J s T1 dn)∧(X0 TrD.ad T1=X0 TrD.ad T)∧(∀j t k x,dn0 j→T1 j=some t→t.lv k=some x→ ∀o,dn (j,k,o))∧(∀p,dn p→dn0 p.1)) (L0:=[(0,_),(1,_),(12,_)]) (leftZ) (Rg U U U) ⟨_,_,_,s0,T, fun _=>False,rfl,rfl,hSRRR.pick [0,1,2,3] U,hJ0,rfl, fun _ _ _ _ h=>h.elim, fun _ h=>h⟩ ?_)))
 rintro _ _ w1 ⟨dn0,cur,left,s,T1,dn,rfl,rfl,j1,hJ,hag,hcov0,hsub0⟩
 refine Qd (Qa (Wp 0 j1 keysInt.inj U U U (fun hdoneA=> ?_) (fun i vA leftA wNA hleftA hgkA hndA hSNA=> ?_)))
 ·refine Qn U U U (Qf (Qc (Qd (QR U (QU (Qq (Qq (Qx (ZU (.inl U) U ?_)))))))))
  have hz:=ZA (j1.pick [0,1,2,3] U)
  exact⟨_,rfl,s,T1,dn,hJ, fun j t k x ht hx o=>hcov0 j t k x (hdoneA j (ptrV t.ad 0) ((congrFun hag j).symm.trans (by unfold X0; rw[ht];rfl))) ht hx o,hag,hz⟩
 dsimp only[List.set]at hSNA
 obtain⟨u,hu,rfl⟩:=YR ((congrFun hag i).trans hgkA)
 refine Qn U U U (Qf (Qc (Qd (Xd U (Qs (Qc (Qw (Qd (Qa (ZP 0 hSNA U hgkA U U (Qn U U U (Qe U U (Qf (Qc (Qd ?_)))))))))))))))
 have j2:=Z3 (hSNA.pick [1,0,2,3] U) hu
 refine Qa (Qb U U (Qj U U (Qg U ZE U (Qr U WR (j2.cell 0 U U) U (ZN 1 j2 underlying90 U U U ?_)))))
 intro R2 leftY wRR2 hSRR2; dsimp only[List.set]at hSRR2
 refine Qf (Qc (Qh [12,1,0,21] U (Qw ?_)))
 refine Xg (fun K0 E0 W0=> ∃(dk:KD→Prop) (ck:Option KD) (left3:Nat) (s1:σ) (g1:KD→Option LfD) (dn1:Int×KD×Bool→Prop),K0=left3∧E0=[(0,ptrV b 0),(1,.func (.func g) #[] #[ptrV c1 0]),(12,ptrV RR 0),(21,ptrV R2 0)]∧Sat W0 [Q8 u.ad [intV u.parent,.map (some u.ml),.map (some u.md)],ZS Xr u.ml R2 (X0 LfD.ad u.lv) dk ck left3,XW UW g1,Q5 W8 u.md (ZF u.dr),XW YW (Xu T1 i none),ZS QN mt RR (X0 TrD.ad T) (fun j=>dn0 j∨j=i) (some i) leftA,Q s1,F]∧(J s1 (Xu T1 i (some {u with lv:=g1})) dn1)∧(X0 LfD.ad g1=X0 LfD.ad u.lv)∧(∀j x,dk j→g1 j=some x→ ∀o,dn1 (i,j,o))∧(∀p,dn1 p→dn0 p.1∨(p.1=i∧dk p.2.1))∧(∀p,dn p→dn1 p)) (L0:=[(0,_),(1,_),(12,_),(21,_)]) (leftY) (HR U U U U) ⟨_,_,_,s,u.lv,dn,rfl,rfl,hSRR2.pick [0,1,2,3,4,5,6,7] U, by rw[show Xu T1 i (some {u with lv:=u.lv})=T1 from WU hu]; exact hJ,rfl, fun _ _ h=>h.elim, fun p hp=> .inl (hsub0 p hp), fun _ h=>h⟩ ?_
 rintro _ _ w3 ⟨dk,ck,left3,s1,g1,dn1,rfl,rfl,j3,hJ1,hgg,hcov,hsub,hmon⟩
 refine Qd (Qa (Wp 1 j3 keysKey.inj U U U (fun hdoneB=> ?_) (fun k vB leftB wNB hleftB hgkB hndB hSNB=> ?_)))
 ·refine Qn U U U (Qf (Qc (Qd (QR U (QU (Qq (Qq (Qx (Qk ?_)))))))))
  have hz:=ZA (j3.pick [1,0,2,3,4,5,6,7] U)
  rw[←hgg]at hz
  have hz2:=Uk (t:={u with lv:=g1}) (hz.pick [1,0,2,3,4,5,6,7] U)
  exact Q3 (L1:=[(0,_),(1,_),(12,_)]) (Rg U U U) (k1:=leftA) (by omega) ⟨_,_,_,s1,_,dn1,rfl,rfl,hz2.pick [1,0,2,3] U,hJ1,(JN (ad:=TrD.ad) (y:={u with lv:=g1}) hu U).trans hag, fun j t2 k2 x2 hj ht2 hx2 o2=> by
 by_cases e:j=i
 ·subst e
  rw[Qy]at ht2
  cases ht2
  exact hcov k2 x2 (hdoneB k2 (ptrV x2.ad 0) ((congrFun hgg k2).symm.trans (by unfold X0; rw[show g1 k2=some x2 from hx2];rfl))) hx2 o2
 ·rw[QF e]at ht2
  exact hmon _ (hcov0 j t2 k2 x2 (hj.resolve_right e) ht2 hx2 o2), fun p hp=>(hsub p hp).imp_right And.left⟩
 ·dsimp only[List.set]at hSNB
  obtain⟨x,hx,rfl⟩:=YR ((congrFun hgg k).trans hgkB)
  refine Qn U U U (Qf (Qc (Qd (Xd U (Qs (Qc (Qw (Qd (Qa (ZP 1 hSNB U hgkB U U (Qn U U U (Qe U U (Qf (Qc (Qd ?_)))))))))))))))
  have j4:=JC (hSNB.pick [2,0,1,3,4,5,6,7] U) hx
  refine Qa (Qb U U (Qb U U (Qj U U (Qg U UN U ?_))))
  have hnp: ∀o,¬dn1 (i,k,o):= fun o q=>(hsub _ q).elim hndA fun h=>hndB h.2
  refine YU U hP.ok U (hP.step false 0 U hJ1 Qy hx (hnp _) U (j4.sp [0,7] U)) U ?_
  rintro e w5 ⟨_,rfl,s2,x2,hx2,hJ2,j5⟩; refine⟨_,rfl, ?_⟩
  replace j5:=j5.jn U U
  have hJ3:J s2 (Xu T1 i (some {u with lv:=Xu g1 k (some x2)})) (fun p=>dn1 p∨p=(i,k,false)):= by rw[J0]at hJ2; exact hJ2
  refine Qf (Qc (Qh [21,12,1,0,7] U (Qa (Qb U U (Qb U U (Qj U U (Qg U WK U (YU U hP.ok U (hP.step true 1 U hJ3 Qy Qy (fun q=>q.elim (hnp _) fun h=> by cases h) hx2 (j5.sp [0,1] U)) U ?_))))))))
  rintro e w6 ⟨_,rfl,s3,x3,hx3,hJ4,j6⟩; refine⟨_,rfl, ?_⟩
  replace j6:=j6.jn U U
  have hJ5:J s3 (Xu T1 i (some {u with lv:=Xu g1 k (some x3)})) (fun p=>(dn1 p∨p=(i,k,false))∨p=(i,k,true)):= by rw[J0,J0]at hJ4; exact hJ4
  refine Qf (Qk ?_)
  have j7:=MP hx3 (j6.pick [0,2,1,3,4,5,6,7,8] U)
  exact Q3 (L1:=[(0,_),(1,_),(12,_),(21,_)]) (HR U U U U) (k1:=leftB) (by omega) ⟨_,_,_,s3,_,_,rfl,rfl,j7.pick [2,3,0,4,5,6,1,7] U,hJ5,(JN (ad:=LfD.ad) hx hx3).trans hgg, fun j y hj hy o2=> by
 by_cases e:j=k
 ·subst e
  cases o2
  ·exact .inl (.inr U)
  ·exact .inr U
 ·rw[QF e]at hy
  exact .inl (.inl (hcov j y (hj.resolve_right e) hy o2)), fun p hp=> by
 rcases hp with(hp | hp) | hp
 ·exact(hsub p hp).imp_right fun h=>⟨h.1,.inl h.2⟩
 ·subst hp; exact .inr ⟨rfl,.inr U⟩
 ·subst hp; exact .inr ⟨rfl,.inr U⟩, fun p hp=> .inl (.inl (hmon p hp))⟩
structure PlB {σ:Type} (g:Nat) (c1 c2 c3:Nat) (b mt:Nat) (Q:σ→Th) (J:σ→(Int→Option TrD)→(Int×KD×Bool→Prop)→Prop):Prop where
  ok:QI prog g=true
  cell: ∀{s:σ} {w:World} {As:List Th} (i:Nat),Sat w As→As[i]? =some (Q s)→w.cell? ⟨b,2,none⟩=some (.map (some mt))
  step: ∀{s:σ} {T:Int→Option TrD} {dn:Int×KD×Bool→Prop} {i:Int} {t:TrD} {k:KD} {x:LfD} {a:Nat} (o:Bool) (q:Nat),q=(bif o then 1 else 0)→J s T dn→T i=some t→t.lv k=some x→ ¬dn (i,k,o)→x.ad=a→ ∀{w:World} {X:Th},Sat w [Q8 a (lfV x),Q s,X]→
    Calls prog g #[ptrV a q,ptrV c1 0,ptrV c2 0,ptrV c3 0] w (Ret fun v w'=> ∃s' x',x'.ad=a∧J s' (Xu T i (some {t with lv:=Xu t.lv k (some x')})) (fun p=>dn p∨p=(i,k,o))∧Sat w' [Q8 a (lfV x'),Q s',X])
theorem P4 {σ:Type} {g c1 c2 c3 b mt:Nat} {Q:σ→Th} {J:σ→(Int→Option TrD)→(Int×KD×Bool→Prop)→Prop} (hP:PlB g c1 c2 c3 b mt Q J) {w:World} {T:Int→Option TrD} {s0:σ} {F:Th} (hS:Sat w [Q5 QN mt (X0 TrD.ad T),XW YW T,Q s0,F]) (hJ0:J s0 T (fun _=>False)):
    Calls prog 131 #[ptrV b 0,.func (.func g) #[] #[ptrV c1 0,ptrV c2 0,ptrV c3 0]] w (Ret fun v w'=> ∃s T' dn,J s T' dn∧(∀j t k x,T' j=some t→t.lv k=some x→ ∀o,dn (j,k,o))∧X0 TrD.ad T'=X0 TrD.ad T∧Sat w' [Q5 QN mt (X0 TrD.ad T),XW YW T',Q s,F]):= by
 refine Qm func131 U ntmps131 U ?_
 refine Qd (Qa (Qb U U (Qj U U (Qg U Zr U (Qr U Wx (hP.cell 2 hS U) U (ZN 0 hS underlying82 U U U ?_))))))
 intro RR leftZ wRRR hSRRR; dsimp only[List.set]at hSRRR
 refine Qf (Qc (Qw (Xg (fun K0 E0 W0=> ∃(dn0:Int→Prop) (cur:Option Int) (left:Nat) (s:σ) (T1:Int→Option TrD) (dn:Int×KD×Bool→Prop),K0=left∧E0=[(0,ptrV b 0),(1,.func (.func g) #[] #[ptrV c1 0,ptrV c2 0,ptrV c3 0]),(12,ptrV RR 0)]∧Sat W0 [ZS QN mt RR (X0 TrD.ad T) dn0 cur left,XW YW T1,Q s,F]∧(J s T1 dn)∧(X0 TrD.ad T1=X0 TrD.ad T)∧(∀j t k x,dn0 j→T1 j=some t→t.lv k=some x→ ∀o,dn (j,k,o))∧(∀p,dn p→dn0 p.1)) (L0:=[(0,_),(1,_),(12,_)]) (leftZ) (Rg U U U) ⟨_,_,_,s0,T, fun _=>False,rfl,rfl,hSRRR.pick [0,1,2,3] U,hJ0,rfl, fun _ _ _ _ h=>h.elim, fun _ h=>h⟩ ?_)))
 rintro _ _ w1 ⟨dn0,cur,left,s,T1,dn,rfl,rfl,j1,hJ,hag,hcov0,hsub0⟩
 refine Qd (Qa (Wp 0 j1 keysInt.inj U U U (fun hdoneA=> ?_) (fun i vA leftA wNA hleftA hgkA hndA hSNA=> ?_)))
 ·refine Qn U U U (Qf (Qc (Qd (QR U (QU (Qq (Qq (Qx (ZU (.inl U) U ?_)))))))))
  have hz:=ZA (j1.pick [0,1,2,3] U)
  exact⟨_,rfl,s,T1,dn,hJ, fun j t k x ht hx o=>hcov0 j t k x (hdoneA j (ptrV t.ad 0) ((congrFun hag j).symm.trans (by unfold X0; rw[ht];rfl))) ht hx o,hag,hz⟩
 dsimp only[List.set]at hSNA
 obtain⟨u,hu,rfl⟩:=YR ((congrFun hag i).trans hgkA)
 refine Qn U U U (Qf (Qc (Qd (Xd U (Qs (Qc (Qw (Qd (Qa (ZP 0 hSNA U hgkA U U (Qn U U U (Qe U U (Qf (Qc (Qd ?_)))))))))))))))
 have j2:=Z3 (hSNA.pick [1,0,2,3] U) hu
 refine Qa (Qb U U (Qj U U (Qg U ZE U (Qr U WR (j2.cell 0 U U) U (ZN 1 j2 underlying90 U U U ?_)))))
 intro R2 leftY wRR2 hSRR2; dsimp only[List.set]at hSRR2
 refine Qf (Qc (Qh [12,1,0,21] U (Qw ?_)))
 refine Xg (fun K0 E0 W0=> ∃(dk:KD→Prop) (ck:Option KD) (left3:Nat) (s1:σ) (g1:KD→Option LfD) (dn1:Int×KD×Bool→Prop),K0=left3∧E0=[(0,ptrV b 0),(1,.func (.func g) #[] #[ptrV c1 0,ptrV c2 0,ptrV c3 0]),(12,ptrV RR 0),(21,ptrV R2 0)]∧Sat W0 [Q8 u.ad [intV u.parent,.map (some u.ml),.map (some u.md)],ZS Xr u.ml R2 (X0 LfD.ad u.lv) dk ck left3,XW UW g1,Q5 W8 u.md (ZF u.dr),XW YW (Xu T1 i none),ZS QN mt RR (X0 TrD.ad T) (fun j=>dn0 j∨j=i) (some i) leftA,Q s1,F]∧(J s1 (Xu T1 i (some {u with lv:=g1})) dn1)∧(X0 LfD.ad g1=X0 LfD.ad u.lv)∧(∀j x,dk j→g1 j=some x→ ∀o,dn1 (i,j,o))∧(∀p,dn1 p→dn0 p.1∨(p.1=i∧dk p.2.1))∧(∀p,dn p→dn1 p)) (L0:=[(0,_),(1,_),(12,_),(21,_)]) (leftY) (HR U U U U) ⟨_,_,_,s,u.lv,dn,rfl,rfl,hSRR2.pick [0,1,2,3,4,5,6,7] U, by rw[show Xu T1 i (some {u with lv:=u.lv})=T1 from WU hu]; exact hJ,rfl, fun _ _ h=>h.elim, fun p hp=> .inl (hsub0 p hp), fun _ h=>h⟩ ?_
 rintro _ _ w3 ⟨dk,ck,left3,s1,g1,dn1,rfl,rfl,j3,hJ1,hgg,hcov,hsub,hmon⟩
 refine Qd (Qa (Wp 1 j3 keysKey.inj U U U (fun hdoneB=> ?_) (fun k vB leftB wNB hleftB hgkB hndB hSNB=> ?_)))
 ·refine Qn U U U (Qf (Qc (Qd (QR U (QU (Qq (Qq (Qx (Qk ?_)))))))))
  have hz:=ZA (j3.pick [1,0,2,3,4,5,6,7] U)
  rw[←hgg]at hz
  have hz2:=Uk (t:={u with lv:=g1}) (hz.pick [1,0,2,3,4,5,6,7] U)
  exact Q3 (L1:=[(0,_),(1,_),(12,_)]) (Rg U U U) (k1:=leftA) (by omega) ⟨_,_,_,s1,_,dn1,rfl,rfl,hz2.pick [1,0,2,3] U,hJ1,(JN (ad:=TrD.ad) (y:={u with lv:=g1}) hu U).trans hag, fun j t2 k2 x2 hj ht2 hx2 o2=> by
 by_cases e:j=i
 ·subst e
  rw[Qy]at ht2
  cases ht2
  exact hcov k2 x2 (hdoneB k2 (ptrV x2.ad 0) ((congrFun hgg k2).symm.trans (by unfold X0; rw[show g1 k2=some x2 from hx2];rfl))) hx2 o2
 ·rw[QF e]at ht2
  exact hmon _ (hcov0 j t2 k2 x2 (hj.resolve_right e) ht2 hx2 o2), fun p hp=>(hsub p hp).imp_right And.left⟩
 ·dsimp only[List.set]at hSNB
  obtain⟨x,hx,rfl⟩:=YR ((congrFun hgg k).trans hgkB)
  refine Qn U U U (Qf (Qc (Qd (Xd U (Qs (Qc (Qw (Qd (Qa (ZP 1 hSNB U hgkB U U (Qn U U U (Qe U U (Qf (Qc (Qd ?_)))))))))))))))
  have j4:=JC (hSNB.pick [2,0,1,3,4,5,6,7] U) hx
  refine Qa (Qb U U (Qb U U (Qj U U (Qg U UN U ?_))))
  have hnp: ∀o,¬dn1 (i,k,o):= fun o q=>(hsub _ q).elim hndA fun h=>hndB h.2
  refine YU U hP.ok U (hP.step false 0 U hJ1 Qy hx (hnp _) U (j4.sp [0,7] U)) U ?_
  rintro e w5 ⟨_,rfl,s2,x2,hx2,hJ2,j5⟩; refine⟨_,rfl, ?_⟩
  replace j5:=j5.jn U U
  have hJ3:J s2 (Xu T1 i (some {u with lv:=Xu g1 k (some x2)})) (fun p=>dn1 p∨p=(i,k,false)):= by rw[J0]at hJ2; exact hJ2
  refine Qf (Qc (Qh [21,12,1,0,7] U (Qa (Qb U U (Qb U U (Qj U U (Qg U WK U (YU U hP.ok U (hP.step true 1 U hJ3 Qy Qy (fun q=>q.elim (hnp _) fun h=> by cases h) hx2 (j5.sp [0,1] U)) U ?_))))))))
  rintro e w6 ⟨_,rfl,s3,x3,hx3,hJ4,j6⟩; refine⟨_,rfl, ?_⟩
  replace j6:=j6.jn U U
  have hJ5:J s3 (Xu T1 i (some {u with lv:=Xu g1 k (some x3)})) (fun p=>(dn1 p∨p=(i,k,false))∨p=(i,k,true)):= by rw[J0,J0]at hJ4; exact hJ4
  refine Qf (Qk ?_)
  have j7:=MP hx3 (j6.pick [0,2,1,3,4,5,6,7,8] U)
  exact Q3 (L1:=[(0,_),(1,_),(12,_),(21,_)]) (HR U U U U) (k1:=leftB) (by omega) ⟨_,_,_,s3,_,_,rfl,rfl,j7.pick [2,3,0,4,5,6,1,7] U,hJ5,(JN (ad:=LfD.ad) hx hx3).trans hgg, fun j y hj hy o2=> by
 by_cases e:j=k
 ·subst e
  cases o2
  ·exact .inl (.inr U)
  ·exact .inr U
 ·rw[QF e]at hy
  exact .inl (.inl (hcov j y (hj.resolve_right e) hy o2)), fun p hp=> by
 rcases hp with(hp | hp) | hp
 ·exact(hsub p hp).imp_right fun h=>⟨h.1,.inl h.2⟩
 ·subst hp; exact .inr ⟨rfl,.inr U⟩
 ·subst hp; exact .inr ⟨rfl,.inr U⟩, fun p hp=> .inl (.inl (hmon p hp))⟩
open Classical in
noncomputable def NL {κ:Type} (f:κ→Bool) (k:κ):κ→Bool:= fun j=> if j=k then false else f j
theorem NK {κ:Type} {f:κ→Bool} {k j:κ}:NL f k j=true↔j≠k∧f j=true:= by
  unfold NL
  by_cases e:j=k
  · simp [e]
  · simp [e]
theorem boG_del {κ:Type} (f:κ→Bool) (k:κ):upd (ZF f) k none=ZF (NL f k):= by
  funext j
  by_cases h:j=k
  · subst h; rw[Ws];unfold ZF NL; simp
  · rw[Jy h];unfold ZF NL; simp [h]
theorem GS {κ:Type} {f:κ→Bool} {k:κ}:ZF f k≠none↔f k=true:= by
  unfold ZF
  cases f k<;> simp
theorem Du {p:KD→Int} {k:KD} {v:Value} (h:XN p k=some v):p k≠0∧v=intV (p k):= by
  unfold XN at h
  split at h
  · cases h
  · rename_i e; cases h; exact⟨e,rfl⟩
theorem CJ {κ:Type} {f:κ→Bool} {k j:κ}:WC f k j=true↔j=k∨f j=true:= by
  unfold WC
  by_cases e:j=k
  · simp [e]
  · simp [e]
def HeldI (L:LvD) (f:Int→Bool) (D:Pl→Prop):Prop:= ∀s,s≠0→(f s=true↔ ∃p,D p∧QP L p=s)
def HeldL (L:LvD) (hs:List Int):Prop:=(∀s,s∈hs↔s≠0∧ ∃p,QP L p=s)∧hs.Pairwise (· < ·)
theorem HeldI.nil {L:LvD}:HeldI L (fun _=>false) (fun _=>False):= fun s _=>⟨fun h=>(by cases h), fun ⟨_,h,_⟩=>h.elim⟩
theorem HeldI.add {L:LvD} {f:Int→Bool} {D:Pl→Prop} (h:HeldI L f D) (p:Pl):HeldI L (WC f (QP L p)) (fun q=>D q∨q=p):= fun s hs=> by
  rw[CJ,h s hs]
  constructor
  · rintro(e | ⟨q,a,b⟩)
    · exact⟨p,.inr U,e.symm⟩
    · exact⟨q,.inl a,b⟩
  · rintro⟨q,a | a,b⟩
    · exact .inr ⟨q,a,b⟩
    · subst a; exact .inl b.symm
theorem HeldI.congr {L:LvD} {f:Int→Bool} {D D':Pl→Prop} (h:HeldI L f D) (hD: ∀p,QP L p≠0→(D p↔D' p)):HeldI L f D':= fun s hs=> by
  rw[h s hs]
  constructor
  · rintro⟨p,a,b⟩; exact⟨p,(hD p (by rw[b]; exact hs)).1 a,b⟩
  · rintro⟨p,a,b⟩; exact⟨p,(hD p (by rw[b]; exact hs)).2 a,b⟩
theorem M9 {ks:List Int} (h:ks.Nodup):(ZL ks).Pairwise (· < ·):= by
  have h1:=List.pairwise_mergeSort (le:= fun x y:Int=>decide (x≤y)) (fun a b c h1 h2=> by simp at h1 h2⊢;omega) (fun a b=> by simp;omega) ks
  have h2:(ZL ks).Nodup:=(JA ks).nodup_iff.2 h
  refine(List.Pairwise.and h1 h2).imp fun {a b} hab=> ?_
  have h3:a≤b:= by simpa using hab.1
  have h4:=hab.2
  omega
theorem OQ {L:LvD} {f:Int→Bool} {ks:List Int} (h:HeldI L f (fun _=>True)) (hn:ks.Nodup) (hk: ∀s,s∈ks↔ZF (NL f 0) s≠none):HeldL L (ZL ks):= by
  refine⟨fun s=> ?_,M9 hn⟩
  rw[(JA ks).mem_iff,hk,GS,NK]
  constructor
  · rintro⟨a,b⟩
    obtain⟨p,_,e⟩:=(h s a).1 b
    exact⟨a,p,e⟩
  · rintro⟨a,p,e⟩
    exact⟨a,(h s a).2 ⟨p,trivial,e⟩⟩
section
variable {m c:Nat} {L L1 L2:LvD} {V V1 V2:VS} {x y s:Int} {k:KD} {p:Pl} {D D':Pl→Prop} {i:Int} {t:TrD} {z:LfD} {o:Bool}
theorem KM (h:SzLe L c): ∃lp:List Pl,lp.length≤3*c∧ ∀p,QP L p≠0→p∈lp:= by
  obtain⟨l,h1,h2,h3⟩:=h
  refine⟨l.flatMap fun q=>[.inl q.2,.inr (q.1,q.2,true),.inr (q.1,q.2,false)], ?_, fun p hp=> ?_⟩
  · have e: ∀l:List (Int×KD),(l.flatMap fun q=>([.inl q.2,.inr (q.1,q.2,true),.inr (q.1,q.2,false)]:List Pl)).length=3*l.length:= fun l=> by
      induction l with
      | nil=>rfl
      | cons a l ih=> rw[List.flatMap_cons,List.length_append,ih]; simp;omega
    rw[e];omega
  · rw[List.mem_flatMap]
    cases p with
    | inl k=> exact⟨(0,k),h2 k hp, by simp⟩
    | inr q=>
      obtain⟨i,k,o⟩:=q
      cases ht:L.tr i with
      | none=> exact absurd (by simp [QP,ht]) hp
      | some t=>
        cases hx:t.lv k with
        | none=> exact absurd (by simp [QP,ht,hx]) hp
        | some x=> exact⟨(i,k),h3 i t k x ht hx, by cases o<;> simp⟩
theorem T4 (hI:LvI m L V) (h:SzLe L c) (h0:s≠0):Zm V s≤3*c:= by
  obtain⟨lp,h1,h2⟩:=KM h
  obtain⟨n,⟨l,a,b,e⟩,hr⟩:=hI.ref.1 s h0
  dsimp only at hr
  have :=Zp a fun p hp=>h2 p (by rw[(b p).1 hp]; exact h0)
  omega
theorem ZW (hI:LvI m L V) (s:Int):V s≠none↔s≠0∧ ∃p,QP L p=s:= by
  constructor
  · intro h
    obtain⟨x,hx⟩:=Option.ne_none_iff_exists'.1 h
    obtain⟨h1,h2,_⟩:=hI.ref.2 s x hx
    refine⟨by omega, ?_⟩
    obtain⟨n,⟨l,a,b,e⟩,hr⟩:=hI.ref.1 s (by omega)
    dsimp only at hr
    rw[Wf hx]at hr
    cases l with
    | nil=> simp at e;omega
    | cons p l=> exact⟨p,(b p).1 List.mem_cons_self⟩
  · rintro⟨h0,p,rfl⟩
    exact(hI.alive p).resolve_left h0
theorem Kl (hI:LvI m L V) (h:SzLe L c):AliveLe V (3*c):= by
  obtain⟨lp,h1,h2⟩:=KM h
  refine⟨lp.map (QP L), by simpa using h1, fun j hj=> ?_⟩
  obtain⟨h0,p,rfl⟩:=(ZW hI j).1 hj
  exact List.mem_map_of_mem (h2 p h0)
theorem RA (h:SzLe L c) {ks:List Int} (hn:ks.Nodup) (hk: ∀s∈ks,s≠0∧ ∃p,QP L p=s):ks.length≤3*c:= by
  obtain⟨lp,h1,h2⟩:=KM h
  have :=Zp (b:=lp.map (QP L)) hn fun s hs=> by
    obtain⟨h0,p,rfl⟩:=hk s hs
    exact List.mem_map_of_mem (h2 p h0)
  simp at this
  omega
structure SwR (m c:Nat) (L L1:LvD) (V V1:VS) (x y:Int) (D:Pl→Prop):Prop where
  inv:LvI m L1 V1
  sp:L1.sp=L.sp
  cur:L1.cur=L.cur
  ab:Q1 L1 V1=Q1 L V
  old: ∀p,¬(D p∧QP L p=x)→QP L1 p=QP L p
  new: ∀p,D p→QP L p=x→QP L1 p=y
  sz:SzLe L1 c
  pgs:Pgs V V1
theorem SwR.refl (hI:LvI m L V) (hc:SzLe L c):SwR m c L L V V x y (fun _=>False):=⟨hI,rfl,rfl,rfl, fun _ _=>rfl, fun _ h=>h.elim,hc,.refl⟩
theorem SwR.congr (h:SwR m c L L1 V V1 x y D) (hD: ∀p,QP L p=x→(D p↔D' p)):SwR m c L L1 V V1 x y D':=
  ⟨h.inv,h.sp,h.cur,h.ab, fun p hp=>h.old p fun q=>hp ⟨(hD p q.2).1 q.1,q.2⟩, fun p hd hp=>h.new p ((hD p hp).2 hd) hp,h.sz,h.pgs⟩
theorem SwR.aliveY (h:SwR m c L L1 V V1 x y D) (hI:LvI m L V) (hne:y≠x) (hy:X5 V y):X5 V1 y:= by
  rcases hy with e | e
  · exact .inl e
  · obtain⟨h0,p,hp⟩:=(ZW hI y).1 e
    have :=h.inv.alive p
    rw[h.old p fun q=>hne (hp.symm.trans q.2),hp]at this
    exact this
theorem Dc (hI:LvI m L1 V1) (ha:X5 V1 y) (hp:QP L1 p=x) (hf: ∀q,QP L2 q=UV (QP L1) p y q):RefI (QP L2) (Zj (refW V1 y) x) (fun _=>0):= by
  have a2:=(hI.ref.ref ha).put p y
  have hx:X5 (refW V1 y) x:= by
    have :=hI.alive p
    rw[hp]at this
    exact this.imp_right JB.2
  refine((a2.unr hx).fn hf).ext fun j _=> ?_
  show(0:Int)=0+dl y j+dl (QP L1 p) j -dl y j -dl x j
  rw[hp];omega
theorem S3 (hI:LvI m L1 V1) (ha:X5 V1 y) (hp:QP L1 p=x) (hf: ∀q,QP L2 q=UV (QP L1) p y q) (q:Pl):X5 (Zj (refW V1 y) x) (QP L2 q)∧XH (Zj (refW V1 y) x) (QP L2 q)=XH V1 (QP L2 q):= by
  have h1:=(Dc hI ha hp hf).alive (p:=q) U (Int.le_refl 0)
  exact⟨h1, by rw[G9 (hI.ref.ref ha).zero h1,Yg]⟩
theorem C8 (hI:LvI m L1 V1) (ha:X5 V1 y):Pgs V1 (Zj (refW V1 y) x):=Pgs.ref.trans (Pgs.unr (hI.ref.ref ha).zero)
theorem SwR.setP (h:SwR m c L L1 V V1 x y D) (hk:L1.pres k=x) (hL:L.pres k=x) (hx0:x≠0) (ha:X5 V1 y) (hpg:XH V1 y=XH V1 x) (f:Int→Bool):
    SwR m c L {L1 with pres:=Z6 L1.pres k y,sh:=f} V (Zj (refW V1 y) (L1.pres k)) x y (fun p=>D p∨p= .inl k):= by
  generalize hL2:({L1 with pres:=Z6 L1.pres k y,sh:=f}:LvD)=L2
  have hP:L2.pres=Z6 L1.pres k y:= by subst hL2;rfl
  have hT:L2.tr=L1.tr:= by subst hL2;rfl
  have hf:=GF (L:=L1) hP hT
  rw[hk]
  have hR:=Dc (p:= .inl k) h.inv ha hk hf
  have hG:=S3 (p:= .inl k) h.inv ha hk hf
  have hab:Q1 L2 (Zj (refW V1 y) x)=Q1 L1 V1:= by
    rw[Kn (V:=V1) hP hT fun q hq=> by have :=(hG q).2;rwa [hf q,XQ hq]at this]
    have e1:XH (Zj (refW V1 y) x) y=(Q1 L1 V1).pres k:= by
      have :=(hG (.inl k)).2
      rw[hf,XF]at this
      rw[this,hpg,←hk];rfl
    rw[e1,Yw U]
  refine⟨⟨hR, by rw[hT]; exact h.inv.rank, by rw[hab]; exact h.inv.agree⟩, by subst hL2; exact h.sp, by subst hL2; exact h.cur,hab.trans h.ab, fun q hq=> ?_, fun q hd hq=> ?_, ?_,h.pgs.trans (C8 h.inv ha)⟩
  · rw[hf]
    by_cases e:q= .inl k
    · subst e; exact absurd ⟨.inr U,hL⟩ hq
    · rw[XQ e]; exact h.old q fun r=>hq ⟨.inl r.1,r.2⟩
  · rw[hf]
    by_cases e:q= .inl k
    · rw[e,XF]
    · rw[XQ e]; exact h.new q (hd.resolve_right e) hq
  · obtain⟨l,a,b,d⟩:=h.sz
    refine⟨l,a, fun q hq=> ?_, fun j u q w hj hq=>d j u q w (by rw[hT]at hj; exact hj) hq⟩
    rw[hP]at hq
    by_cases e:q=k
    · subst e; exact b q (by rw[hk]; exact hx0)
    · simp only[Z6,if_neg e]at hq; exact b q hq
theorem SwR.setL (h:SwR m c L L1 V V1 x y D) (ht:L1.tr i=some t) (hz:t.lv k=some z) (hv:(if o=true then z.own else z.base)=x) (hL:QP L (.inr (i,k,o))=x) (ha:X5 V1 y) (hpg:XH V1 y=XH V1 x) {z':LfD} (hz':z'= if o=true then{z with own:=y}else{z with base:=y}) (f:Int→Bool):
    SwR m c L {L1 with tr:=Xu L1.tr i (some {t with lv:=Xu t.lv k (some z')}),sh:=f} V (Zj (refW V1 y) x) x y (fun p=>D p∨p= .inr (i,k,o)):= by
  generalize hL2:({L1 with tr:=Xu L1.tr i (some {t with lv:=Xu t.lv k (some z')}),sh:=f}:LvD)=L2
  have hP:L2.pres=L1.pres:= by subst hL2;rfl
  have hT:L2.tr=Xu L1.tr i (some {t with lv:=Xu t.lv k (some z')}):= by subst hL2;rfl
  have hk:QP L1 (.inr (i,k,o))=x:=(Xt ht hz).trans hv
  have hf: ∀q,QP L2 q=UV (QP L1) (.inr (i,k,o)) y q:= fun q=> by
    rw[YK (x:=z') hP hT ht U]
    cases o with
    | true=>
      rw[show z'={z with own:=y} from hz']
      dsimp only
      rw[Yw (f:=QP L1) (v:=z.base) (by rw[Xt ht hz];rfl)]
    | false=>
      rw[show z'={z with base:=y} from hz']
      dsimp only
      by_cases e:q= .inr (i,k,true)
      · subst e
        rw[XF,XQ (by simp),Xt ht hz];rfl
      · rw[XQ e]
  have hR:=Dc h.inv ha hk hf
  have hG:=S3 h.inv ha hk hf
  have hab:Q1 L2 (Zj (refW V1 y) x)=Q1 L1 V1:= by
    have h3: ∀q,q≠ .inr (i,k,o)→XH (Zj (refW V1 y) x) (QP L1 q)=XH V1 (QP L1 q):= fun q hq=> by
      have :=(hG q).2
      rwa [hf q,XQ hq]at this
    rw[Yl (V:=V1) (x:=z') hP hT ht U fun q q1 q2=>h3 q (by cases o; exact q1; exact q2)]
    have h4:XH (Zj (refW V1 y) x) y=XH V1 x:= by
      have :=(hG (.inr (i,k,o))).2
      rw[hf,XF]at this
      rw[this,hpg]
    refine G6 (Zh ht) ?_
    rw[ZR hz]
    congr 1
    cases o with
    | true=>
      rw[show z'={z with own:=y} from hz']
      have h5:=h3 (.inr (i,k,false)) (by simp)
      rw[Xt ht hz]at h5
      have h5:XH (Zj (refW V1 y) x) z.base=XH V1 z.base:=h5
      have hv:z.own=x:=hv
      simp only[Wu,h4,h5,hv]
    | false=>
      rw[show z'={z with base:=y} from hz']
      have h5:=h3 (.inr (i,k,true)) (by simp)
      rw[Xt ht hz]at h5
      have h5:XH (Zj (refW V1 y) x) z.own=XH V1 z.own:=h5
      have hv:z.base=x:=hv
      simp only[Wu,h4,h5,hv]
  refine⟨⟨hR, by rw[hT]; exact h.inv.rank.same (WO (t':={t with lv:=Xu t.lv k (some z')}) ht U), by rw[hab]; exact h.inv.agree⟩, by subst hL2; exact h.sp, by subst hL2; exact h.cur,hab.trans h.ab, fun q hq=> ?_, fun q hd hq=> ?_, ?_,h.pgs.trans (C8 h.inv ha)⟩
  · rw[hf]
    by_cases e:q= .inr (i,k,o)
    · subst e; exact absurd ⟨.inr U,hL⟩ hq
    · rw[XQ e]; exact h.old q fun r=>hq ⟨.inl r.1,r.2⟩
  · rw[hf]
    by_cases e:q= .inr (i,k,o)
    · rw[e,XF]
    · rw[XQ e]; exact h.new q (hd.resolve_right e) hq
  · exact h.sz.putOld ht hz hP hT
theorem SwR.skip (h:SwR m c L L1 V V1 x y D) (hp:QP L p≠x):SwR m c L L1 V V1 x y (fun q=>D q∨q=p):=
  h.congr fun q hq=>⟨.inl, fun r=>r.resolve_right fun e=>hp (by rw[←e]; exact hq)⟩
theorem MG (hI:LvI m L1 V1) (hx:V1 x≠none) (hne:y≠x):Zm (Zj (refW V1 y) x) x=Zm V1 x -1:= by
  obtain⟨z,hz⟩:=Option.ne_none_iff_exists'.1 hx
  obtain⟨h1,_,_⟩:=hI.ref.2 x z hz
  have e1:refW V1 y x=some z:= by
    unfold refW
    split
    · exact hz
    · unfold Hv
      cases V1 y with
      | none=> exact hz
      | some w=> exact(QF fun e=>hne e.symm).trans hz
  rw[YH e1,Wf hz]
  split
  · rw[Wf Qy]
  · rw[YJ Qy];omega
theorem SwR.all (h:SwR m c L L1 V V1 x y (fun _=>True)) (hne:y≠x) (hI:LvI m L V):(∀p,QP L1 p≠x)∧ ∀s,(V1 s≠none↔V s≠none∧s≠x)∨s=y:= by
  have h1: ∀p,QP L1 p≠x:= fun p e=> by
    by_cases q:QP L p=x
    · exact hne ((h.new p trivial q).symm.trans e)
    · exact q ((h.old p fun r=>q r.2).symm.trans e)
  refine⟨h1, fun s=> ?_⟩
  by_cases es:s=y
  · exact .inr es
  · refine .inl ?_
    rw[ZW h.inv,ZW hI]
    constructor
    · rintro⟨h0,p,hp⟩
      have hq:QP L p≠x:= fun q=>es (hp.symm.trans (h.new p trivial q))
      rw[h.old p fun r=>hq r.2]at hp
      exact⟨⟨h0,p,hp⟩, fun e=>hq (hp.trans e)⟩
    · rintro⟨⟨h0,p,hp⟩,hx⟩
      exact⟨h0,p,(h.old p fun r=>hx (hp.symm.trans r.2)).trans hp⟩
end
