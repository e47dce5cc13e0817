/- leaves: set, give, replace -/
import Derived.Test.YtkcjfoaejijdoaaGreatDoorLv11
import Derived.Test.YtkcjfoaejijdoaaGreatDoorLv2
import Derived.Test.YtkcjfoaejijdoaaGreatDoorShelf
import Derived.Test.YtkcjfoaejijdoaaGreatDoorLv10
import Derived.Test.YtkcjfoaejijdoaaGreatDoorLv1
set_option linter.unusedSectionVars false
set_option linter.unusedVariables false
set_option maxRecDepth 100000
set_option maxHeartbeats 80000000000
namespace Go.Proofs.YtkcjfoaejijdoaaGreatDoor
open Go.RowKit M Proofs.Tryz
variable [Inhabited SlW]
section
variable {ex:Int→Int} {L L1 L':LvD} {V V1 V':VS} {id:Int} {t t1 t':TrD} {k:KD} {x y x1:LfD} {m Fr:Nat} {s a:Int}
theorem TouR.pg (hT:TouR L V id t k L1 V1 t1 x1) (j:Int):XH V1 j=XH V j:= by
  rcases hT with⟨_,_,rfl,_⟩ | ⟨_,a,_,_,_,rfl⟩
  · rfl
  · rw[Yg,Yg]
theorem TouR.pgs (hT:TouR L V id t k L1 V1 t1 x1):Pgs V V1:= by
  rcases hT with⟨_,_,rfl,_⟩ | ⟨_,a,_,_,_,rfl⟩
  · exact .refl
  · exact Pgs.ref.trans .ref
theorem TouR.stepX (hT:TouR L V id t k L1 V1 t1 x1) (ht:L.tr id=some t) (hI:LvX ex m L V) (hx:NN ex):StepX ex m L V ex m 0 1 L1 V1:= by
  obtain⟨h1,h2,h3,h4,h5⟩:=hT.invX ht hI hx
  exact⟨h1,hT.sp, fun c q=>(h4 c q).mono (by omega), fun c q=>hT.sz ht q,hT.pgs⟩
theorem VR (hI:LvX ex m L V) (hx:NN ex) (hs:s≠0→1≤ex s) (f:Int→Bool):
    StepX ex m L V (fun j=>ex j -dl s j) m 0 1 {L with pres:=Z6 L.pres k s,sh:=f} (Zj V (L.pres k))∧Q1 {L with pres:=Z6 L.pres k s,sh:=f} (Zj V (L.pres k))={Q1 L V with pres:=UV (Q1 L V).pres k (XH V s)}:= by
  obtain⟨h1,h2⟩:=setX (L':={L with pres:=Z6 L.pres k s,sh:=f}) hI hx hs rfl rfl
  refine⟨⟨h1,rfl, fun c q=>q.unr.mono (by omega), fun c q=>q.add 0 k (fun j hj=> ?_) fun j u q y hj hq=> .inl ⟨u,y,hj,hq⟩,Pgs.unr hI.zero⟩,h2⟩
  by_cases e:j=k
  · right; rw[e]
  · simp only[Z6,if_neg e]at hj; exact .inl hj
theorem MT (hT:TouR L V id t k L1 V1 t1 x1) (ht:L.tr id=some t) (hI:LvX ex m L V) (hx:NN ex) (hs:s≠0→1≤ex s) {wr:BitVec 64} (f:Int→Bool)
    (hg:Pe {Z0 (Q1 L V) id k with own:=XH V s,wr:=(Z0 (Q1 L V) id k).wr ||| wr}):
    StepX ex m L V (fun j=>ex j -dl s j) m 0 1 (ZD {L1 with sh:=f} id t1 k {x1 with own:=s,wr:=x1.wr ||| wr}) (Zj V1 x1.own)∧
    Q1 (ZD {L1 with sh:=f} id t1 k {x1 with own:=s,wr:=x1.wr ||| wr}) (Zj V1 x1.own)=ZJ (Q1 L V) id k {Z0 (Q1 L V) id k with own:=XH V s,wr:=(Z0 (Q1 L V) id k).wr ||| wr}:= by
  obtain⟨h1,h2,h3,h4,h5⟩:=hT.invX ht hI hx
  obtain⟨h6,h7⟩:=h1.same (L':={L1 with sh:=f}) rfl rfl
  have e:{Wu V1 x1 with own:=XH V1 s,rd:=x1.rd,wr:=x1.wr ||| wr}={Z0 (Q1 L V) id k with own:=XH V s,wr:=(Z0 (Q1 L V) id k).wr ||| wr}:= by
    rw[hT.pg,←h2];rfl
  obtain⟨h8,h9⟩:=ownX (L':=ZD {L1 with sh:=f} id t1 k {x1 with own:=s,wr:=x1.wr ||| wr}) (y:={x1 with own:=s,wr:=x1.wr ||| wr}) h6 hx hs (hT.tr ht) hT.lv rfl rfl rfl rfl (by rw[e]; exact hg)
  refine⟨⟨h8,hT.sp, fun c q=>(h4 c q).unr.mono (by omega), fun c q=>(hT.sz ht q).putOld (hT.tr ht) hT.lv U U,hT.pgs.trans (Pgs.unr h1.zero)⟩, ?_⟩
  rw[h9,h7,h3,Uq,e]
def allX (x:LfA) (c:Bs):LfA:={x with own:=c,wr:=BitVec.allOnes 64}
theorem Ct {x:LfA} {c:Bs}:Pe (allX x c):= fun j hj h=> by
  rw[show(allX x c).wr=BitVec.allOnes 64 from rfl,BitVec.getLsbD_allOnes]at h
  simp [hj]at h
theorem MR (hI:LvX ex m L V) (hx:NN ex) (ha:X5 V s) (ht:L.tr id=some t) (hl:t.lv k=some x) (f:Int→Bool):
    StepX ex m L V ex m 0 0 (ZD {L with sh:=f} id t k {x with own:=s,wr:=BitVec.allOnes 64}) (Zj (refW V s) x.own)∧
    Q1 (ZD {L with sh:=f} id t k {x with own:=s,wr:=BitVec.allOnes 64}) (Zj (refW V s) x.own)=ZJ (Q1 L V) id k (allX (Wu V x) (XH V s)):= by
  obtain⟨h1,h2⟩:=hI.refW ha
  obtain⟨h6,h7⟩:=h1.same (L':={L with sh:=f}) rfl rfl
  have nn:NN (fun j=>ex j+dl s j):= fun j hj=> by
    show 0≤ex j+dl s j
    have :=hx j hj
    by_cases e:j=s
    · subst e; rw[W7];omega
    · rw[J4 e];omega
  have e:({Wu (refW V s) x with own:=XH (refW V s) s,rd:=x.rd,wr:=BitVec.allOnes 64}:LfA)=allX (Wu V x) (XH V s):= by
    simp only[Wu,Yg];rfl
  obtain⟨h8,h9⟩:=ownX (L':=ZD {L with sh:=f} id t k {x with own:=s,wr:=BitVec.allOnes 64}) (y:={x with own:=s,wr:=BitVec.allOnes 64}) h6 nn (fun h0=> by show 1≤ex s+dl s s; rw[W7]; have :=hx s h0;omega) ht hl rfl rfl rfl rfl (by rw[e]; exact Ct)
  refine⟨⟨h8.ext fun j _=>(by show ex j=ex j+dl s j -dl s j;omega),rfl, fun c q=>q.refW.unr.mono (by omega), fun c q=>q.putOld ht hl U U,Pgs.ref.trans (Pgs.unr h1.zero)⟩, ?_⟩
  rw[h9,h7,h2,e]
theorem Ru (hT:TouR L V id t k L1 V1 t1 x1) (ht:L.tr id=some t) (hI:LvX ex m L V) (hx:NN ex) (ha:X5 V s) (f:Int→Bool):
    StepX ex m L V ex m 0 1 (ZD {L1 with sh:=f} id t1 k {x1 with own:=s,wr:=BitVec.allOnes 64}) (Zj (refW V1 s) x1.own)∧
    Q1 (ZD {L1 with sh:=f} id t1 k {x1 with own:=s,wr:=BitVec.allOnes 64}) (Zj (refW V1 s) x1.own)=ZJ (Q1 L V) id k (allX (Z0 (Q1 L V) id k) (XH V s)):= by
  obtain⟨h1,h2,h3,h4,h5⟩:=hT.invX ht hI hx
  have ha1:X5 V1 s:= by
    rcases ha with e | e
    · exact .inl e
    · refine .inr ?_
      rcases hT with⟨_,_,rfl,_⟩ | ⟨_,a,_,_,_,rfl⟩
      · exact e
      · exact JB.2 (JB.2 e)
  obtain⟨h6,h7⟩:=MR h1 hx ha1 (hT.tr ht) hT.lv f
  refine⟨(hT.stepX ht hI hx).trans h6, ?_⟩
  rw[h7,h3,Uq,h2,hT.pg]
theorem Rv (hI:LvX ex m L V) (hx:NN ex) (ha:X5 V s) (f:Int→Bool):
    StepX ex m L V ex m 0 1 {L with pres:=Z6 L.pres k s,sh:=f} (Zj (refW V s) (L.pres k))∧Q1 {L with pres:=Z6 L.pres k s,sh:=f} (Zj (refW V s) (L.pres k))={Q1 L V with pres:=UV (Q1 L V).pres k (XH V s)}:= by
  obtain⟨h1,h2⟩:=hI.refW ha
  have nn:NN (fun j=>ex j+dl s j):= fun j hj=> by
    show 0≤ex j+dl s j
    have :=hx j hj
    by_cases e:j=s
    · subst e; rw[W7];omega
    · rw[J4 e];omega
  obtain⟨h3,h4⟩:=VR (k:=k) h1 nn (fun h0=> by show 1≤ex s+dl s s; rw[W7]; have :=hx s h0;omega) f
  refine⟨⟨h3.inv.ext fun j _=>(by show ex j=ex j+dl s j -dl s j;omega),rfl, fun c q=>(h3.al c q.refW),h3.sz,Pgs.ref.trans h3.pg⟩, ?_⟩
  rw[h4,h2,Yg]
end
theorem Tx {w:World} {b n Fr:Nat} {L:LvD} {V:VS} {F:Th} (hS:Sat w [XX b L,XD L.sp n Fr V,F]) (hn:n≤65000000000) (k:KD) (s:Int):Calls prog 72 #[ptrV b 0,Xr k,intV s] w (Ret fun v w'=>v= .tuple #[]∧Sat w' [XX b {L with pres:=Z6 L.pres k s,sh:=JJ V L.sh (L.pres k)},XD L.sp (n+1) Fr (Zj V (L.pres k)),F]):= by
  have h1:=X1 hS
  refine(S6 (h1.split [0,1,4,5] [true,true,false,false,true,true,false] U) (by omega) k s).mono fun e w h=>h.mono fun v w h=> ?_
  obtain⟨rfl,h⟩:=h
  have h2:=h.join U
  exact⟨U,QX (L:={L with pres:=Z6 L.pres k s,sh:=JJ V L.sh (L.pres k)}) (h2.reorder [0,1,4,5,2,3,6] U)⟩
theorem OV {w:World} {ex:Int→Int} {m:Nat} {b n Fr:Nat} {L:LvD} {V:VS} {F:Th} (hS:Sat w [XX b L,XD L.sp n Fr V,F]) (hn:n≤60000000000) (hI:LvX ex m L V) (hx:NN ex) {s:Int} (hs:s≠0→1≤ex s) (k:KD) (wr:BitVec 64):
    Calls prog 54 #[ptrV b 0,intV 0,Xr k,intV s,Z5 wr] w (Ret fun v w'=> ∃L' V',StepX ex m L V (fun j=>ex j -dl s j) m 0 1 L' V'∧Q1 L' V'={Q1 L V with pres:=UV (Q1 L V).pres k (XH V s)}∧OthK L L' 0 (fun q=>q=k)∧Sat w' [XX b L',XD L'.sp (n+4) Fr V',F]):= by
 refine Qm func54 U ntmps54 U ?_
 refine Qd (Qa (XR hS U U U ?_))
 intro kb w1 j1
 replace j1:=X6 j1
 refine Qf (Qc (Qd (Qd (Qa (Qb U U (Xq U U U (Qf (Qc (Qt U (fun h2=> ?_) (fun h2=> ?_))))))))))
 ·refine Qd (Qa (Qb U U (Xw U X9 Xf (by first | exact j1.blk 0 U) (Xv U) U U ?_)))
  refine Qb U U (Qv GO U (Tx (j1.sp [1,2] U) (by omega) k s) U ?_)
  rintro _ w3 ⟨rfl,j3⟩
  replace j3:=j3.jn U U
  exact Qf (Qc (Qh [4,3,1,0,7] U (Qu (Qp (ZU (.inr U) U (⟨_,rfl,_,_,(VR hI hx hs (JJ V L.sh (L.pres k))).1,(VR hI hx hs (JJ V L.sh (L.pres k))).2,AA,(Xn (m:=n+4) (by omega) (j3.pick [1,0,3] U)).reorder [1,0,2] U⟩))))))
 exact absurd U h2
theorem OU {w:World} {ex:Int→Int} {m:Nat} {b n Fr:Nat} {L:LvD} {V:VS} {F:Th} (hS:Sat w [XX b L,XD L.sp n Fr V,F]) (hn:n≤60000000000) (hI:LvX ex m L V) (hx:NN ex) (hm:m<Zg) {id:Int} {t:TrD} (ht:L.tr id=some t) {s:Int} (hs:s≠0→1≤ex s) (k:KD) (wr:BitVec 64) (hg:Pe {Z0 (Q1 L V) id k with own:=XH V s,wr:=(Z0 (Q1 L V) id k).wr ||| wr}):
    Calls prog 54 #[ptrV b 0,intV id,Xr k,intV s,Z5 wr] w (Ret fun v w'=> ∃L' V',StepX ex m L V (fun j=>ex j -dl s j) m 0 1 L' V'∧Q1 L' V'=ZJ (Q1 L V) id k {Z0 (Q1 L V) id k with own:=XH V s,wr:=(Z0 (Q1 L V) id k).wr ||| wr}∧OthK L L' id (fun q=>q=k)∧Sat w' [XX b L',XD L'.sp (n+4) Fr V',F]):= by
 have h0:id≠0:=hI.rank.none0 ht
 refine Qm func54 U ntmps54 U ?_
 refine Qd (Qa (XR hS U U U ?_))
 intro kb w1 j1
 replace j1:=X6 j1
 refine Qf (Qc (Qd (Qd (Qa (Qb U U (Xq U U U (Qf (Qc (Qt U (fun h2=> ?_) (fun h2=> ?_))))))))))
 ·exact absurd h2 h0
 refine Qs (Qc (Qd (Qa (Qb U U (Qb U U (Xw U X9 Xf (by first | exact j1.blk 0 U) (Xv U) U U ?_))))))
 refine Qv Rd U (HE (j1.sp [1,2] U) (by omega) (hI.rank.ends hm) ht (k:=k)) U ?_
 rintro _ w3 ⟨L1,V1,t1,x1,rfl,hT,j3⟩
 replace j3:=j3.jn U U
 have ht1:=hT.tr ht
 have hx1:=hT.lv
 refine Qe U U (Qf (Qc (Qh [4,3,0,10] U (Qd ?_))))
 have j4:=JQ ht1 hx1 (j3.pick [0,1,2,3] U)
 refine Qa (Qb U U (Qb U U (Qj U U (Qg U WK U (Qr U QL (j4.cell 0 U U) U (Qv Uc U (HV (j4.sp [6,9,10] U) (by omega) x1.own) U ?_))))))
 rintro _ w5 ⟨rfl,j5⟩
 replace j5:=j5.jn U U
 refine Qf (Qc (Qd (Qa (Qb U U (Qb U U (Qj U U (Qg U WK U (QV j5 U U Yq U (i:=3) U (Xv U) ?_))))))))
 intro w6 j6; dsimp only[List.set]at j6
 refine Qf (Qc (Qh [4,10] U (Qa (Qb U U (Qj U U (Qg U Wj U (Qr U J6 (j6.cell 3 U U) U (Qb U U (Su U U U (Qj U U (Qg U Wj U (QV j6 U U Kx U (i:=3) U (Xv U) ?_))))))))))))
 intro w7 j7; dsimp only[List.set]at j7
 refine Qf (ZU (.inl U) U ?_)
 have j8:=WJ (L:={L1 with sh:=JJ V1 L1.sh x1.own}) (y:={x1 with own:=s,wr:=x1.wr ||| wr}) ht1 hx1 U (j7.pick [3,4,5,6,7,8,0,9,10,1,2,11,12] U)
 exact⟨_,rfl,_,_,(MT hT ht hI hx hs (JJ V1 L1.sh x1.own) hg).1,(MT hT ht hI hx hs (JJ V1 L1.sh x1.own) hg).2,hT.othK ht U U,(Xn (m:=n+4) (by omega) (j8.pick [1,0,3] U)).reorder [1,0,2] U⟩
theorem CT {w:World} {ex:Int→Int} {m:Nat} {b n Fr:Nat} {L:LvD} {V:VS} {F:Th} (hS:Sat w [XX b L,XD L.sp n Fr V,F]) (hn:n≤60000000000) (hI:LvX ex m L V) (hx:NN ex) {s:Int} (ha:X5 V s) (k:KD):
    Calls prog 103 #[ptrV b 0,intV 0,Xr k,intV s] w (Ret fun v w'=> ∃L' V',StepX ex m L V ex m 0 1 L' V'∧Q1 L' V'={Q1 L V with pres:=UV (Q1 L V).pres k (XH V s)}∧L'.pres=Z6 L.pres k s∧Sat w' [XX b L',XD L'.sp (n+4) Fr V',F]):= by
 refine Qm func103 U ntmps103 U ?_
 refine Qd (Qa (XR hS U U U ?_))
 intro kb w1 j1
 replace j1:=X6 j1
 refine Qf (Qc (Qd (Qd (Qa (Qb U U (Xq U U U (Qf (Qc (Qt U (fun h2=> ?_) (fun h2=> ?_))))))))))
 ·refine Qd ?_
  have j3:=X1 (j1.pick [1,0,2,3] U)
  refine Qa (Qb U U (Qb U U (Qv Rb U (Ds (j3.sp [0,4,6] U) (by omega) s) U ?_)))
  rintro _ w4 ⟨rfl,j4⟩
  replace j4:=j4.jn U U
  refine Qf (Qc (Qd ?_))
  have j5:=QX (L:={L with sh:=JM L.sh s}) (j4.pick [0,3,4,5,1,2,6,7] U)
  refine Qa (Qb U U (Xw U X9 Xf (by first | exact j5.blk 2 U) (Xv U) U U ?_))
  refine Qb U U (Qv GO U (Tx (L:={L with sh:=JM L.sh s}) (j5.sp [0,1] U) (by omega) k s) U ?_)
  rintro _ w6 ⟨rfl,j6⟩
  replace j6:=j6.jn U U
  exact Qf (Qc (Qh [3,1,0,6] U (Qu (Qp (ZU (.inr U) U (⟨_,rfl,_,_,(Rv hI hx ha _).1,(Rv hI hx ha _).2,rfl,(Xn (m:=n+4) (by omega) (j6.pick [1,0,3] U)).reorder [1,0,2] U⟩))))))
 exact absurd U h2
theorem CS {w:World} {ex:Int→Int} {m:Nat} {b n Fr:Nat} {L:LvD} {V:VS} {F:Th} (hS:Sat w [XX b L,XD L.sp n Fr V,F]) (hn:n≤60000000000) (hI:LvX ex m L V) (hx:NN ex) (hm:m<Zg) {id:Int} {t:TrD} (ht:L.tr id=some t) {s:Int} (ha:X5 V s) (k:KD):
    Calls prog 103 #[ptrV b 0,intV id,Xr k,intV s] w (Ret fun v w'=> ∃L' V',StepX ex m L V ex m 0 1 L' V'∧Q1 L' V'=ZJ (Q1 L V) id k (allX (Z0 (Q1 L V) id k) (XH V s))∧Sat w' [XX b L',XD L'.sp (n+4) Fr V',F]):= by
 have h0:id≠0:=hI.rank.none0 ht
 refine Qm func103 U ntmps103 U ?_
 refine Qd (Qa (XR hS U U U ?_))
 intro kb w1 j1
 replace j1:=X6 j1
 refine Qf (Qc (Qd (Qd (Qa (Qb U U (Xq U U U (Qf (Qc (Qt U (fun h2=> ?_) (fun h2=> ?_))))))))))
 ·exact absurd h2 h0
 refine Qs (Qc (Qd (Qa (Qb U U (Qb U U (Xw U X9 Xf (by first | exact j1.blk 0 U) (Xv U) U U ?_))))))
 refine Qv Rd U (HE (j1.sp [1,2] U) (by omega) (hI.rank.ends hm) ht (k:=k)) U ?_
 rintro _ w3 ⟨L1,V1,t1,x1,rfl,hT,j3⟩
 replace j3:=j3.jn U U
 have ht1:=hT.tr ht
 have hx1:=hT.lv
 refine Qe U U (Qf (Qc (Qh [3,0,8] U (Qd ?_))))
 have j4:=JQ ht1 hx1 (j3.pick [0,1,2,3] U)
 refine Qa (Qb U U (Qb U U (Qj U U (Qg U WK U (Qb U U (Qv TY U (PG (j4.sp [6,9,10,0] U) (by omega) s) U ?_))))))
 rintro _ w5 ⟨rfl,j5⟩
 replace j5:=j5.jn U U
 refine Qf (Qc (Qa (Qb U U (Qj U U (Qg U Wj U (QV (v:=Z5 (BitVec.allOnes 64)) j5 U U Kx U (i:=3) U (Xv U) ?_))))))
 intro w6 j6; dsimp only[List.set]at j6
 refine Qf (ZU (.inl U) U ?_)
 have j7:=WJ (L:={L1 with sh:=JJ (refW V1 s) (JM L1.sh s) x1.own}) (y:={x1 with own:=s,wr:=BitVec.allOnes 64}) ht1 hx1 U (j6.pick [3,4,5,6,7,8,0,9,10,1,2,11,12] U)
 exact⟨_,rfl,_,_,(Ru hT ht hI hx ha _).1,(Ru hT ht hI hx ha _).2,(Xn (m:=n+4) (by omega) (j7.pick [1,0,3] U)).reorder [1,0,2] U⟩
theorem kl_it {w:World} {l c b:Nat} {g:KD→Option Value} {J:List KD→Th} {F:Th} (hS:Sat w [J [],Q8 c [.map (some b)],Q5 Xr b g,F]) (hY:H2 prog l Xr (okC g) J):
    Calls prog 163 #[.func (.yield l) #[] #[],ptrV c 0] w (Ret fun v w'=> ∃ks,AllC g ks∧Sat w' [J ks,Q8 c [.map (some b)],Q5 Xr b g,F]):= by
 refine Qm func163 U ntmps163 U ?_
 refine Qd (Qa (Qr U WR (hS.cell 1 U U) U (ZN 2 hS underlying90 U U U ?_)))
 intro RR left0 wR hSR; dsimp only[List.set]at hSR
 refine Qf (Qc (Qw (Xg (fun K0 E0 W0=> ∃(dn:KD→Prop) (cur:Option KD) (left:Nat) (ks:List KD),K0=1*left∧E0=[(0,.func (.yield l) #[] #[]),(5,ptrV RR 0)]∧Sat W0 [J ks,ZS Xr b RR g dn cur left,Q8 c [.map (some b)],F]∧(CSt g dn ks)) (L0:=[(0,_),(5,_)]) (1*left0) (Bo U U) ⟨_,_,_,_,rfl,rfl,hSR.reorder [0,2,1,3] U,CSt.start g⟩ ?_)))
 rintro _ _ w1 ⟨dn,cur,left,ks,rfl,rfl,j1,hcs⟩
 refine Qd (Qa (Wp 1 j1 keysKey.inj U U U (fun hdone=> ?_) (fun k v left2 w2 hleft hgk hnd j2=> ?_)))
 ·refine Qn U U U (Qf (Qc (Qd (QR U (QU (Qq (Qq (Qx (ZU (.inl U) U ?_)))))))))
  exact⟨_,rfl,ks,hcs.all hdone, by have hSz:=ZA (j1.reorder [1,0,2,3] U); exact hSz.reorder [1,2,0,3] U⟩
 dsimp only[List.set]at j2
 refine Qn U U U (Qf (Qc (Qd (Xd U (Qs (Qc (Qw (Qd (Qa (ZP 1 j2 U hgk U U (Qn U U U (Xa j2 Zy U U ?_))))))))))))
 intro bk wq1 hq1
 refine QG hq1 U U Xf U (by rfl) (i:=0) U (by decide) ?_
 intro wq2 hq2; dsimp only[List.set]at hq2
 replace hq2:=X6 (k:=k) hq2
 refine Qf (Qc (Qd (Jg (XE U (Xl U) (XE U (XB U X9 Xf (hq2.blk 0 U) (Xv U) U) ?_)))))
 have hSy:=hq2.sp [1] U
 refine H6 U U U (hY _ _ _ _ (hcs.ok hnd hgk) hSy) ?_
 intro w5 j5; replace j5:=j5.jn U U
 refine XE U (HO U) (Hr (Qc (Qh [5,0,13] U (QR U (Qs (Qk ?_))))))
 have hSz:=j5.pick [0,2,3,4] U; dsimp only[HI,Vq]at hSz
 exact Q3 (L1:=[(0,_),(5,_)]) (Bo U U) (k1:=1*left2) (by omega) ⟨_,_,_,_,rfl,rfl,hSz,hcs.step hnd hgk⟩
theorem kl_sp {w:World} {v0:Value} {F:Th} (hS:Sat w [F]) (h0:v0.oneCell'=true):
    Calls prog 110 #[v0] w (Ret fun v w'=> ∃c,v= .func (.func 163) #[] #[ptrV c 0]∧Sat w' [Q8 c v0.cells.toList,F]):= by
 refine Qm func110 U ntmps110 U ?_
 refine Qd (Qa (XR hS U U U ?_))
 intro b1 w1 j1
 exact Qe U U (Qf (Qc (Qd (Qa (Z7 U U (Qe U U (Qf (Qc (Qu (QY (.inr U) U U (⟨_,U,_,U,j1⟩)))))))))))
theorem kp_it {w:World} {l c b:Nat} {g:KD→Option Value} {J:List KD→Th} {F:Th} (hS:Sat w [J [],Q8 c [.map (some b)],Q5 Xr b g,F]) (hY:H2 prog l Xr (okC g) J):
    Calls prog 175 #[.func (.yield l) #[] #[],ptrV c 0] w (Ret fun v w'=> ∃ks,AllC g ks∧Sat w' [J ks,Q8 c [.map (some b)],Q5 Xr b g,F]):= by
 refine Qm func175 U ntmps175 U ?_
 refine Qd (Qa (Qr U Hf (hS.cell 1 U U) U (ZN 2 hS underlying81 U U U ?_)))
 intro RR left0 wR hSR; dsimp only[List.set]at hSR
 refine Qf (Qc (Qw (Xg (fun K0 E0 W0=> ∃(dn:KD→Prop) (cur:Option KD) (left:Nat) (ks:List KD),K0=1*left∧E0=[(0,.func (.yield l) #[] #[]),(5,ptrV RR 0)]∧Sat W0 [J ks,ZS Xr b RR g dn cur left,Q8 c [.map (some b)],F]∧(CSt g dn ks)) (L0:=[(0,_),(5,_)]) (1*left0) (Bo U U) ⟨_,_,_,_,rfl,rfl,hSR.reorder [0,2,1,3] U,CSt.start g⟩ ?_)))
 rintro _ _ w1 ⟨dn,cur,left,ks,rfl,rfl,j1,hcs⟩
 refine Qd (Qa (Wp 1 j1 keysKey.inj U U U (fun hdone=> ?_) (fun k v left2 w2 hleft hgk hnd j2=> ?_)))
 ·refine Qn U U U (Qf (Qc (Qd (QR U (QU (Qq (Qq (Qx (ZU (.inl U) U ?_)))))))))
  exact⟨_,rfl,ks,hcs.all hdone, by have hSz:=ZA (j1.reorder [1,0,2,3] U); exact hSz.reorder [1,2,0,3] U⟩
 dsimp only[List.set]at j2
 refine Qn U U U (Qf (Qc (Qd (Xd U (Qs (Qc (Qw (Qd (Qa (ZP 1 j2 U hgk U U (Qn U U U (Xa j2 Zy U U ?_))))))))))))
 intro bk wq1 hq1
 refine QG hq1 U U Xf U (by rfl) (i:=0) U (by decide) ?_
 intro wq2 hq2; dsimp only[List.set]at hq2
 replace hq2:=X6 (k:=k) hq2
 refine Qf (Qc (Qd (Jg (XE U (Xl U) (XE U (XB U X9 Xf (hq2.blk 0 U) (Xv U) U) ?_)))))
 have hSy:=hq2.sp [1] U
 refine H6 U U U (hY _ _ _ _ (hcs.ok hnd hgk) hSy) ?_
 intro w5 j5; replace j5:=j5.jn U U
 refine XE U (HO U) (Hr (Qc (Qh [5,0,13] U (QR U (Qs (Qk ?_))))))
 have hSz:=j5.pick [0,2,3,4] U; dsimp only[HI,Vq]at hSz
 exact Q3 (L1:=[(0,_),(5,_)]) (Bo U U) (k1:=1*left2) (by omega) ⟨_,_,_,_,rfl,rfl,hSz,hcs.step hnd hgk⟩
theorem kp_sp {w:World} {v0:Value} {F:Th} (hS:Sat w [F]) (h0:v0.oneCell'=true):
    Calls prog 125 #[v0] w (Ret fun v w'=> ∃c,v= .func (.func 175) #[] #[ptrV c 0]∧Sat w' [Q8 c v0.cells.toList,F]):= by
 refine Qm func125 U ntmps125 U ?_
 refine Qd (Qa (XR hS U U U ?_))
 intro b1 w1 j1
 exact Qe U U (Qf (Qc (Qd (Qa (Z7 U U (Qe U U (Qf (Qc (Qu (QY (.inr U) U U (⟨_,U,_,U,j1⟩)))))))))))
theorem kt_it {w:World} {l c b:Nat} {g:Int→Option Value} {J:List Int→Th} {F:Th} (hS:Sat w [J [],Q8 c [.map (some b)],Q5 QN b g,F]) (hY:H2 prog l QN (okC g) J):
    Calls prog 124 #[.func (.yield l) #[] #[],ptrV c 0] w (Ret fun v w'=> ∃ks,AllC g ks∧Sat w' [J ks,Q8 c [.map (some b)],Q5 QN b g,F]):= by
 refine Qm func124 U ntmps124 U ?_
 refine Qd (Qa (Qr U Wx (hS.cell 1 U U) U (ZN 2 hS underlying82 U U U ?_)))
 intro RR left0 wR hSR; dsimp only[List.set]at hSR
 refine Qf (Qc (Qw (Xg (fun K0 E0 W0=> ∃(dn:Int→Prop) (cur:Option Int) (left:Nat) (ks:List Int),K0=1*left∧E0=[(0,.func (.yield l) #[] #[]),(5,ptrV RR 0)]∧Sat W0 [J ks,ZS QN b RR g dn cur left,Q8 c [.map (some b)],F]∧(CSt g dn ks)) (L0:=[(0,_),(5,_)]) (1*left0) (Bo U U) ⟨_,_,_,_,rfl,rfl,hSR.reorder [0,2,1,3] U,CSt.start g⟩ ?_)))
 rintro _ _ w1 ⟨dn,cur,left,ks,rfl,rfl,j1,hcs⟩
 refine Qd (Qa (Wp 1 j1 keysInt.inj U U U (fun hdone=> ?_) (fun k v left2 w2 hleft hgk hnd j2=> ?_)))
 ·refine Qn U U U (Qf (Qc (Qd (QR U (QU (Qq (Qq (Qx (ZU (.inl U) U ?_)))))))))
  exact⟨_,rfl,ks,hcs.all hdone, by have hSz:=ZA (j1.reorder [1,0,2,3] U); exact hSz.reorder [1,2,0,3] U⟩
 dsimp only[List.set]at j2
 refine Qn U U U (Qf (Qc (Qd (Xd U (Qs (Qc (Qw (Qd (Qa (ZP 1 j2 U hgk U U (Qn U U U (Qe U U (Qf (Qc (Qd (Jg (XE U (Xl U) (XE U (Xl U) (H6 U U U (hY _ _ _ _ (hcs.ok hnd hgk) (j2.sp [0] U)) ?_)))))))))))))))))))
 intro w5 j5; replace j5:=j5.jn U U
 refine XE U (HO U) (Hr (Qc (Qh [5,0,13] U (QR U (Qs (Qk ?_))))))
 have hSz:=j5.reorder [0,1,2,3] U; dsimp only[HI,Vq]at hSz
 exact Q3 (L1:=[(0,_),(5,_)]) (Bo U U) (k1:=1*left2) (by omega) ⟨_,_,_,_,rfl,rfl,hSz,hcs.step hnd hgk⟩
theorem kt_sp {w:World} {v0:Value} {F:Th} (hS:Sat w [F]) (h0:v0.oneCell'=true):
    Calls prog 70 #[v0] w (Ret fun v w'=> ∃c,v= .func (.func 124) #[] #[ptrV c 0]∧Sat w' [Q8 c v0.cells.toList,F]):= by
 refine Qm func70 U ntmps70 U ?_
 refine Qd (Qa (XR hS U U U ?_))
 intro b1 w1 j1
 exact Qe U U (Qf (Qc (Qd (Qa (Z7 U U (Qe U U (Qf (Qc (Qu (QY (.inr U) U U (⟨_,U,_,U,j1⟩)))))))))))
theorem kd_it {w:World} {l c b:Nat} {g:Bs→Option Value} {J:List Bs→Th} {F:Th} (hS:Sat w [J [],Q8 c [.map (some b)],Q5 W8 b g,F]) (hY:H2 prog l W8 (okC g) J):
    Calls prog 118 #[.func (.yield l) #[] #[],ptrV c 0] w (Ret fun v w'=> ∃ks,AllC g ks∧Sat w' [J ks,Q8 c [.map (some b)],Q5 W8 b g,F]):= by
 refine Qm func118 U ntmps118 U ?_
 refine Qd (Qa (Qr U K7 (hS.cell 1 U U) U (ZN 2 hS underlying91 U U U ?_)))
 intro RR left0 wR hSR; dsimp only[List.set]at hSR
 refine Qf (Qc (Qw (Xg (fun K0 E0 W0=> ∃(dn:Bs→Prop) (cur:Option Bs) (left:Nat) (ks:List Bs),K0=1*left∧E0=[(0,.func (.yield l) #[] #[]),(5,ptrV RR 0)]∧Sat W0 [J ks,ZS W8 b RR g dn cur left,Q8 c [.map (some b)],F]∧(CSt g dn ks)) (L0:=[(0,_),(5,_)]) (1*left0) (Bo U U) ⟨_,_,_,_,rfl,rfl,hSR.reorder [0,2,1,3] U,CSt.start g⟩ ?_)))
 rintro _ _ w1 ⟨dn,cur,left,ks,rfl,rfl,j1,hcs⟩
 refine Qd (Qa (Wp 1 j1 keysStr.inj U U U (fun hdone=> ?_) (fun k v left2 w2 hleft hgk hnd j2=> ?_)))
 ·refine Qn U U U (Qf (Qc (Qd (QR U (QU (Qq (Qq (Qx (ZU (.inl U) U ?_)))))))))
  exact⟨_,rfl,ks,hcs.all hdone, by have hSz:=ZA (j1.reorder [1,0,2,3] U); exact hSz.reorder [1,2,0,3] U⟩
 dsimp only[List.set]at j2
 refine Qn U U U (Qf (Qc (Qd (Xd U (Qs (Qc (Qw (Qd (Qa (ZP 1 j2 U hgk U U (Qn U U U (Qe U U (Qf (Qc (Qd (Jg (XE U (Xl U) (XE U (Xl U) (H6 U U U (hY _ _ _ _ (hcs.ok hnd hgk) (j2.sp [0] U)) ?_)))))))))))))))))))
 intro w5 j5; replace j5:=j5.jn U U
 refine XE U (HO U) (Hr (Qc (Qh [5,0,13] U (QR U (Qs (Qk ?_))))))
 have hSz:=j5.reorder [0,1,2,3] U; dsimp only[HI,Vq]at hSz
 exact Q3 (L1:=[(0,_),(5,_)]) (Bo U U) (k1:=1*left2) (by omega) ⟨_,_,_,_,rfl,rfl,hSz,hcs.step hnd hgk⟩
theorem kd_sp {w:World} {v0:Value} {F:Th} (hS:Sat w [F]) (h0:v0.oneCell'=true):
    Calls prog 52 #[v0] w (Ret fun v w'=> ∃c,v= .func (.func 118) #[] #[ptrV c 0]∧Sat w' [Q8 c v0.cells.toList,F]):= by
 refine Qm func52 U ntmps52 U ?_
 refine Qd (Qa (XR hS U U U ?_))
 intro b1 w1 j1
 exact Qe U U (Qf (Qc (Qd (Qa (Z7 U U (Qe U U (Qf (Qc (Qu (QY (.inr U) U U (⟨_,U,_,U,j1⟩)))))))))))
theorem kb_it {w:World} {l c b:Nat} {g:Int→Option Value} {J:List Int→Th} {F:Th} (hS:Sat w [J [],Q8 c [.map (some b)],Q5 QN b g,F]) (hY:H2 prog l QN (okC g) J):
    Calls prog 136 #[.func (.yield l) #[] #[],ptrV c 0] w (Ret fun v w'=> ∃ks,AllC g ks∧Sat w' [J ks,Q8 c [.map (some b)],Q5 QN b g,F]):= by
 refine Qm func136 U ntmps136 U ?_
 refine Qd (Qa (Qr U Hq (hS.cell 1 U U) U (ZN 2 hS underlying83 U U U ?_)))
 intro RR left0 wR hSR; dsimp only[List.set]at hSR
 refine Qf (Qc (Qw (Xg (fun K0 E0 W0=> ∃(dn:Int→Prop) (cur:Option Int) (left:Nat) (ks:List Int),K0=1*left∧E0=[(0,.func (.yield l) #[] #[]),(5,ptrV RR 0)]∧Sat W0 [J ks,ZS QN b RR g dn cur left,Q8 c [.map (some b)],F]∧(CSt g dn ks)) (L0:=[(0,_),(5,_)]) (1*left0) (Bo U U) ⟨_,_,_,_,rfl,rfl,hSR.reorder [0,2,1,3] U,CSt.start g⟩ ?_)))
 rintro _ _ w1 ⟨dn,cur,left,ks,rfl,rfl,j1,hcs⟩
 refine Qd (Qa (Wp 1 j1 keysInt.inj U U U (fun hdone=> ?_) (fun k v left2 w2 hleft hgk hnd j2=> ?_)))
 ·refine Qn U U U (Qf (Qc (Qd (QR U (QU (Qq (Qq (Qx (ZU (.inl U) U ?_)))))))))
  exact⟨_,rfl,ks,hcs.all hdone, by have hSz:=ZA (j1.reorder [1,0,2,3] U); exact hSz.reorder [1,2,0,3] U⟩
 dsimp only[List.set]at j2
 refine Qn U U U (Qf (Qc (Qd (Xd U (Qs (Qc (Qw (Qd (Qa (ZP 1 j2 U hgk U U (Qn U U U (Qe U U (Qf (Qc (Qd (Jg (XE U (Xl U) (XE U (Xl U) (H6 U U U (hY _ _ _ _ (hcs.ok hnd hgk) (j2.sp [0] U)) ?_)))))))))))))))))))
 intro w5 j5; replace j5:=j5.jn U U
 refine XE U (HO U) (Hr (Qc (Qh [5,0,13] U (QR U (Qs (Qk ?_))))))
 have hSz:=j5.reorder [0,1,2,3] U; dsimp only[HI,Vq]at hSz
 exact Q3 (L1:=[(0,_),(5,_)]) (Bo U U) (k1:=1*left2) (by omega) ⟨_,_,_,_,rfl,rfl,hSz,hcs.step hnd hgk⟩
theorem OJ {w:World} {v0:Value} {F:Th} (hS:Sat w [F]) (h0:v0.oneCell'=true):
    Calls prog 89 #[v0] w (Ret fun v w'=> ∃c,v= .func (.func 136) #[] #[ptrV c 0]∧Sat w' [Q8 c v0.cells.toList,F]):= by
 refine Qm func89 U ntmps89 U ?_
 refine Qd (Qa (XR hS U U U ?_))
 intro b1 w1 j1
 exact Qe U U (Qf (Qc (Qd (Qa (Z7 U U (Qe U U (Qf (Qc (Qu (QY (.inr U) U U (⟨_,U,_,U,j1⟩)))))))))))
def ItK (g:KD→Option Value) (gf:Nat) (caps:List Value) (It:Th):Prop:= ∀(l:Nat) (J:List KD→Th) (X:Th) (w:World),Sat w [J [],It,X]→H2 prog l Xr (okC g) J→Calls prog gf (.func (.yield l) #[] #[]::caps).toArray w (Ret fun _ w'=> ∃ks,AllC g ks∧Sat w' [J ks,It,X])
def JK (l D b:Nat) (rec:Loop) (ks:List KD):Th:=Cw fun v:Value=>starL [J3 l rec,W3 D,Q8 b [v],rowT kC v ks]
theorem appK {w:World} {g:KD→Option Value} {It F:Th} {gf:Nat} {caps:List Value} (hS:Sat w [It,F]) (hcal:QI prog gf=true) (hIt:ItK g gf caps It) (hlen: ∀ks,Came g ks→ks.length≤100000000000):
    Calls prog 189 [.slice none 0 0,.func (.func gf) #[] caps.toArray].toArray w (Ret fun v w'=> ∃ks,AllC g ks∧Sat w' [rowT kC v ks,It,F]):= by
 refine Hz func189 U ntmps189 U ?_
 refine Qd (Qa (XR hS U U U ?_))
 intro b1 w1 j1
 refine Qe U U (Qf (Qc (Qd (Qd (Qa (Qb U U (Qf (Qc (Qw (Hs (caps:=caps) U hcal ?_))))))))))
 intro rec hr1 hr2 hr3 hr4 hr5 htn htf
 have hE:=((j1.enter_loop rec).row_nil kC)
 have hE2:=hE.sp [1,2,3,0] U
 have hJ0:=Sat.ex_intro (f:= fun v:Value=>starL [J3 _ _,W3 _,Q8 _ [v],rowT kC v []]) _ (Sat.fold (As:=[J3 _ _,W3 _,Q8 _ [_],rowT kC _ []]) hE2)
 refine(hIt _ (JK _ _ _ _) _ _ (hJ0.join U) ?_).mono ?_
 ·intro ks k R w2 hok hw2
  obtain⟨v,hw3⟩:=hw2.ex
  have hw4:=hw3.flat; dsimp only[Gl,Gk]at hw4
  have hl1:=hlen _ hok
  simp only[List.length_append,List.length_cons,List.length_nil]at hl1
  refine BP (hw4.loop 0 rfl) hr1 hr2 hr3 hr4 hr5 htn htf rfl (by intro o ho c; simp at ho; rcases ho with rfl | rfl<;> simp) (by intro o ho c; simp at ho; rcases ho with rfl | rfl | rfl | rfl | rfl<;> simp) ?_
  intro QA hA
  refine Xa hw4 Zy U U ?_
  intro bk wk1 hq1
  refine QG hq1 U U Xf U (by rfl) (i:=0) U (by decide) ?_
  intro wk2 hq2; dsimp only[List.set]at hq2
  replace hq2:=X6 (k:=k) hq2
  refine Qf (hA _ _ (hq2.loop 1 U) ?_)
  intro QB hB
  have h1v:v.oneCell'=true:=hq2.own_one 4 U
  have hw5:=hq2.loop_put 1 U (rec':={rec with state:= .busy}); dsimp only[List.set]at hw5
  refine Qr U ag_98 (hw5.cell 3 U U) U (Xw U X9 Xf (hw5.blk 0 U) (Xv U) U U (XU kC [k] hw5 U underlying98 ifz_76 U U U U (by rfl) rfl ?_))
  intro b3 w3 hw6
  refine ZH kC 5 hw6 U U U (hw6.rd 0 U (by simp)) underlying98 underlying98 (by intro k hk; cases hk) ifo_76 U (by simp;omega) U (by simp;omega) ?_
  intro v4 w4 hw7; dsimp only[List.set]at hw7
  have h1v4:v4.oneCell'=true:=hw7.own_one 5 U
  refine QV hw7 U U sz_98 h1v4 (i:=4) U (by simp) ?_
  intro w5 hw8; dsimp only[List.set]at hw8
  refine Qf (hB _ _ (hw8.loop 2 U) ?_)
  have hw9:=hw8.loop_put 2 U (rec':=rec); dsimp only[List.set]at hw9
  exact(Sat.ex_intro (f:= fun v:Value=>starL [J3 _ _,W3 _,Q8 _ [v],rowT kC v (ks++[k])]) v4 (Sat.fold (As:=[J3 _ _,W3 _,Q8 _ [_],rowT kC _ _]) (hw9.pick [2,3,4,5,6] U)))
 ·rintro e w3 ⟨v0,rfl,ks,hall,hw3⟩
  obtain⟨v,hw4⟩:=hw3.ex
  have hw5:=hw4.flat; dsimp only[Gl,Gk]at hw5
  refine⟨⟨v0,rfl⟩,rec,hw5.loop 0 U, by rw[hr1]; simp,hr2, ?_⟩
  intro a ha1 ha2
  have hw6:=hw5.loop_put 0 U (rec':={rec with state:= .exhausted}); dsimp only[List.set]at hw6
  obtain⟨hD,hw7⟩:=hw6.defer_put (o:= .deferred none) 1 rfl
  dsimp only[List.eraseIdx]at hw7
  refine Db (n:=13) (by rw[ha1]; exact htn) (by rw[ha1]; exact htf) ha2 U ag_98 (hw6.cell 2 U U) hD U U U ?_
  exact⟨_,U,ks,hall,hw7.pick [2,3,4] U⟩
def keysTkl (c b:Nat) (g:KD→Option Value):Th:=starL [Q8 c [.map (some b)],Q5 Xr b g]
theorem itkl (c b:Nat) (g:KD→Option Value):ItK g 163 [ptrV c 0] (keysTkl c b g):= fun l J X w hS hY=> by
  have h1:=(hS.perm (List.Perm.swap _ _ _)).flat; dsimp only[Gl,Gk]at h1
  refine(kl_it (h1.reorder [2,0,1,3] U) hY).mono fun e w' h=>h.mono fun v w' ⟨ks,h2,h3⟩=>⟨ks,h2, ?_⟩
  exact(Sat.fold (As:=[Q8 c [.map (some b)],Q5 Xr b g]) (h3.reorder [1,2,0,3] U)).perm (List.Perm.swap _ _ _)
def keysTkp (c b:Nat) (g:KD→Option Value):Th:=starL [Q8 c [.map (some b)],Q5 Xr b g]
theorem itkp (c b:Nat) (g:KD→Option Value):ItK g 175 [ptrV c 0] (keysTkp c b g):= fun l J X w hS hY=> by
  have h1:=(hS.perm (List.Perm.swap _ _ _)).flat; dsimp only[Gl,Gk]at h1
  refine(kp_it (h1.reorder [2,0,1,3] U) hY).mono fun e w' h=>h.mono fun v w' ⟨ks,h2,h3⟩=>⟨ks,h2, ?_⟩
  exact(Sat.fold (As:=[Q8 c [.map (some b)],Q5 Xr b g]) (h3.reorder [1,2,0,3] U)).perm (List.Perm.swap _ _ _)
theorem colK {w:World} {g:KD→Option Value} {It F:Th} {gf:Nat} {caps:List Value} (hS:Sat w [It,F]) (hcal:QI prog gf=true) (hIt:ItK g gf caps It) (hlen: ∀ks,Came g ks→ks.length≤100000000000):
    Calls prog 161 #[.func (.func gf) #[] caps.toArray] w (Ret fun v w'=> ∃ks,AllC g ks∧Sat w' [rowT kC v ks,It,F]):= by
 refine Qm func161 U ntmps161 U ?_
 refine Qd (Qa (Qe U U (Qf (Qc (Qd (Qa (Qb U U (Qv cal_189 U (appK (hS.sp [0] U) hcal hIt hlen) U ?_))))))))
 rintro _ w1 ⟨ks,hks,j1⟩
 replace j1:=j1.jn U U
 have h1v:=j1.own_one 0 U
 exact Qe U U (Qf (Qc (Qu (QY (.inr U) U U (⟨_,U,ks,hks,j1⟩)))))
def orI (a b:Int):Int:= if a≠0 then a else b
theorem or_step {l:List Int} {i:Nat} {x:Int} (hz: ∀q,q<i→l[q]? =some 0) (hx:l[i]? =some x) (h0:x=0): ∀q,q<i+1→l[q]? =some 0:= fun q hq=> by
  rcases Nat.lt_or_ge q i with h | h
  · exact hz q h
  · have :q=i:= by omega
    subst this; rw[hx,h0]
theorem or_sp {w:World} {c:Nat} {a b:Int} {F:Th} (hS:Sat w [rowT inC (.slice (some ⟨c,0,none⟩) 2 2) [a,b],F]):
    Calls prog 112 #[.slice (some ⟨c,0,none⟩) 2 2] w (Ret fun v w'=>v=intV (orI a b)∧w'=w):= by
 refine Qm func112 U ntmps112 U ?_
 refine Qd (Qa (Qe U U (Qf (Qc (Qd (Qa (Qe U U (Qf (Qc (Qd (Qd (Qa (Qb U U (X7 underlying47 U U (Qb U U (Qf (Qc (Qw (Xg (fun K0 E0 W0=> ∃(i:Nat),K0=2 -i∧E0=[(3,intV 0),(6,.slice (some ⟨c,0,none⟩) 2 2),(7,intV 2),(8,intV (i:Int))]∧Sat W0 [rowT inC (.slice (some ⟨c,0,none⟩) 2 2) [a,b],F]∧(W0=w)∧(i≤2)∧(∀q,q<i→[a,b][q]? =some 0)) (L0:=[(3,_),(6,_),(7,_),(8,_)]) (2) (HR U U U U) ⟨0, by omega,rfl,hS,rfl, by omega, fun q hq=>absurd hq (by omega)⟩ ?_)))))))))))))))))))
 rintro _ _ w1 ⟨i,rfl,rfl,j1,hw0,hi,hz⟩
 refine Qd (Qa (Xk U U U (Qf (Qc (Qd (Qt U (fun h2=> ?_) (fun h2=> ?_)))))))
 ·obtain⟨xi,hxi⟩: ∃xi,[a,b][i]? =some xi:=⟨_,Zq (by simp;omega)⟩
  refine Qs (Qc (Qd (Qw (Qd (Qa (Xx inC 0 i j1 U U U (by rfl) hxi Jr U ?_))))))
  intro bx3 capx3 hvx3
  refine Zz 0 i 0 j1 U hvx3 U U hxi QL U U (Qe U U (Qf (Qc (Qd (Qa (Qb U U (Qb U U (XC U U U (Qf (Qc (Qh [8,7,6,3,5,14] U (Qt U (fun h4=> ?_) (fun h4=> ?_)))))))))))))
  ·have hx0:xi≠0:=h4
   refine Qd (Qa (Qb U U (Qe U U (Qf (Qc (Qu (Qz (Qp (Qp (Qz (Qp (QY (.inr U) U U (⟨_,U, ?_,hw0⟩)))))))))))))
   have h2:i=0∨i=1:= by omega
   rcases h2 with rfl | rfl
   ·have e:a=xi:=(by simpa using hxi); subst e;unfold orI; rw[if_pos hx0]
   ·have e:b=xi:=(by simpa using hxi); have e0:a=0:=(by simpa using hz 0 (by omega)); subst e;unfold orI; rw[if_neg (by omega)]
  have hx0:xi=0:=Decidable.not_not.1 h4
  refine Qs (Qk (Qc (Qa (QO U U (by omega) (by omega) U ?_))))
  refine Qb U U (Qf ?_)
  exact Q3 (L1:=[(3,intV 0),(6,_),(7,intV 2),(8,intV ((i+1:Nat):Int))]) (HR U U U U) (k1:=2 -(i+1)) (by omega) ⟨i+1, by omega,rfl,j1.pick [0,1] U,hw0, by omega,or_step hz hxi hx0⟩
 refine QU (Qq (Qq (Qx (Qc (Qd (Qa (Qb U U (Qe U U (Qf (Qc (Qu (QY (.inr U) U U ?_))))))))))))
 have h2:i=2:= by omega
 subst h2; have e0:a=0:= by simpa using hz 0 (by omega)
 have e1:b=0:= by simpa using hz 1 (by omega)
 exact⟨_,rfl, by unfold orI; rw[if_neg (by omega),e1],hw0⟩
def I3 (x y:KD):Int:=orI (Lib.compareBytes x.1 y.1) (Lib.compareInt x.2 y.2)
theorem S4 (a b:Bs) (w:World):Calls prog 113 #[strV a,strV b] w (Ret fun v w'=>v=intV (Lib.compareBytes a b)∧w'=w):=
  (Tryz.strings_Compare ⟨a.toArray⟩ ⟨b.toArray⟩ w).mono fun e w' ⟨h1,h2⟩=>⟨_,h1,rfl,h2⟩
theorem SX (a b:Int) (w:World):Calls prog 114 #[intV a,intV b] w (Ret fun v w'=>v=intV (Lib.compareInt a b)∧w'=w):=
  (Tryz.cmp_Compare_int a b w).mono fun e w' ⟨h1,h2⟩=>⟨_,h1,rfl,h2⟩
theorem cmpL_sp {w:World} {F:Th} (hS:Sat w [F]) (x y:KD):
    Calls prog 111 #[Xr x,Xr y] w (Ret fun v w'=>v=intV (I3 x y)∧GrW w w'):= by
 refine Qm func111 U ntmps111 U ?_
 refine Qd (Qa (Bz hS U U U ?_))
 intro ka w1 hG1 j1
 replace j1:=X6 (k:=x) j1
 refine Bz j1 U U U ?_
 intro kb w2 hG2 j2
 replace j2:=X6 (k:=y) j2
 refine Qe U U (Qf (Qc (Qd ?_)))
 have j3:=j2.drew
 refine QE [0,1,2,3,5,6,7,8,4,9,10,11,12] [4,9,10,11] Wa (by kernel_rfl) ?_
 refine QQ U U U JT (Q4 U U U (Ql U W9 (by first | exact j3.cell 0 U U | exact j3.cell 1 U U)) ?_)
 refine QQ U U U JT (Q4 U U U (Ql U W9 (by first | exact j3.cell 0 U U | exact j3.cell 1 U U)) ?_)
 refine QQ U U U Ka (Q4 U U U (Ql U QL (by first | exact j3.cell 0 U U | exact j3.cell 1 U U)) ?_)
 refine QQ U U U Ka (Q4 U U U (Ql U QL (by first | exact j3.cell 0 U U | exact j3.cell 1 U U)) ?_)
 refine Xe U U U U U U ?_
 refine Qv FC U (S4 x.1 y.1 _) U ?_
 rintro _ _ ⟨rfl,rfl⟩
 refine Xz (.cons (.inl ⟨rfl,(Ql U QL (j3.cell 0 U U))⟩) (.cons (.inl ⟨rfl,(Ql U QL (j3.cell 1 U U))⟩) (Xj (by kernel_rfl)))) ?_
 refine Xe U U U U U U ?_
 refine Qv FB U (SX x.2 y.2 _) U ?_
 rintro _ _ ⟨rfl,rfl⟩
 refine Xz (Xj (by kernel_rfl)) ?_
 refine Xe U U U U U U ?_
 refine Rj inC [Lib.compareBytes x.1 y.1,Lib.compareInt x.2 y.2] j3 U underlying47 Uu U U U U (by rfl) rfl ?_
 intro cc w4 hG4 j4
 refine Xz (Xj (by kernel_rfl)) ?_
 refine Xe U U U U U U ?_
 refine Qv FD U (or_sp (j4.split [0] [true,false,false,false] U)) U ?_
 rintro _ _ ⟨rfl,rfl⟩
 refine Xz (Xj (by kernel_rfl)) ?_
 exact XK U U U (VC.nil (Qc (Qh [4] U (Qu (QY (.inr U) U U (⟨_,U,U,(hG1.trans hG2).trans (GrW.drew.trans hG4)⟩))))))
theorem cmpI_sp {w:World} {F:Th} (hS:Sat w [F]) (x y:KD):
    Calls prog 126 #[Xr x,Xr y] w (Ret fun v w'=>v=intV (I3 x y)∧GrW w w'):= by
 refine Qm func126 U ntmps126 U ?_
 refine Qd (Qa (Bz hS U U U ?_))
 intro ka w1 hG1 j1
 replace j1:=X6 (k:=x) j1
 refine Bz j1 U U U ?_
 intro kb w2 hG2 j2
 replace j2:=X6 (k:=y) j2
 refine Qe U U (Qf (Qc (Qd ?_)))
 have j3:=j2.drew
 refine QE [0,1,2,3,5,6,7,8,4,9,10,11,12] [4,9,10,11] Wa (by kernel_rfl) ?_
 refine QQ U U U JT (Q4 U U U (Ql U W9 (by first | exact j3.cell 0 U U | exact j3.cell 1 U U)) ?_)
 refine QQ U U U JT (Q4 U U U (Ql U W9 (by first | exact j3.cell 0 U U | exact j3.cell 1 U U)) ?_)
 refine QQ U U U Ka (Q4 U U U (Ql U QL (by first | exact j3.cell 0 U U | exact j3.cell 1 U U)) ?_)
 refine QQ U U U Ka (Q4 U U U (Ql U QL (by first | exact j3.cell 0 U U | exact j3.cell 1 U U)) ?_)
 refine Xe U U U U U U ?_
 refine Qv FC U (S4 x.1 y.1 _) U ?_
 rintro _ _ ⟨rfl,rfl⟩
 refine Xz (.cons (.inl ⟨rfl,(Ql U QL (j3.cell 0 U U))⟩) (.cons (.inl ⟨rfl,(Ql U QL (j3.cell 1 U U))⟩) (Xj (by kernel_rfl)))) ?_
 refine Xe U U U U U U ?_
 refine Qv FB U (SX x.2 y.2 _) U ?_
 rintro _ _ ⟨rfl,rfl⟩
 refine Xz (Xj (by kernel_rfl)) ?_
 refine Xe U U U U U U ?_
 refine Rj inC [Lib.compareBytes x.1 y.1,Lib.compareInt x.2 y.2] j3 U underlying47 Uu U U U U (by rfl) rfl ?_
 intro cc w4 hG4 j4
 refine Xz (Xj (by kernel_rfl)) ?_
 refine Xe U U U U U U ?_
 refine Qv FD U (or_sp (j4.split [0] [true,false,false,false] U)) U ?_
 rintro _ _ ⟨rfl,rfl⟩
 refine Xz (Xj (by kernel_rfl)) ?_
 exact XK U U U (VC.nil (Qc (Qh [4] U (Qu (QY (.inr U) U U (⟨_,U,U,(hG1.trans hG2).trans (GrW.drew.trans hG4)⟩))))))
