/- leaves: set, give, replace -/
import Derived.Test.YtkcjfoaejijdoaaGreatDoorGr
import Derived.Test.YtkcjfoaejijdoaaGreatDoorLv2
import Derived.Test.YtkcjfoaejijdoaaGreatDoorShelf
import Derived.Test.YtkcjfoaejijdoaaGreatDoorLv1
set_option linter.unusedSectionVars false
set_option linter.unusedVariables false
set_option maxRecDepth 100000
set_option maxHeartbeats 80000000000
namespace Go.Proofs.YtkcjfoaejijdoaaGreatDoor
open Go.RowKit M
variable [Inhabited SlW]
section
variable {ex:Int→Int} {L L1 L':LvD} {V V1 V':VS} {id:Int} {t t1 t':TrD} {k:KD} {x y x1:LfD} {m Fr:Nat} {s a:Int}
theorem TouR.pg (hT:TouR L V id t k L1 V1 t1 x1) (j:Int):XH V1 j=XH V j:= by
  rcases hT with⟨_,_,rfl,_⟩ | ⟨_,a,_,_,_,rfl⟩
  · rfl
  · rw[JR,JR]
theorem TouR.pgs (hT:TouR L V id t k L1 V1 t1 x1):Pgs V V1:= by
  rcases hT with⟨_,_,rfl,_⟩ | ⟨_,a,_,_,_,rfl⟩
  · exact .refl
  · exact Pgs.ref.trans .ref
theorem TouR.stepX (hT:TouR L V id t k L1 V1 t1 x1) (ht:L.tr id=some t) (hI:LvX ex m L V) (hx:NN ex):StepX ex m L V ex m 0 1 L1 V1:= by
  obtain⟨h1,h2,h3,h4,h5⟩:=hT.invX ht hI hx
  exact⟨h1,hT.sp, fun c q=>(h4 c q).mono (by omega), fun c q=>hT.sz ht q,hT.pgs⟩
theorem HW (hI:LvX ex m L V) (hx:NN ex) (hs:s≠0→1≤ex s) (f:Int→Bool):
    StepX ex m L V (fun j=>ex j -dl s j) m 0 1 {L with pres:=Zv L.pres k s,sh:=f} (Zb V (L.pres k))∧Q1 {L with pres:=Zv L.pres k s,sh:=f} (Zb V (L.pres k))={Q1 L V with pres:=UA (Q1 L V).pres k (XH V s)}:= by
  obtain⟨h1,h2⟩:=setX (L':={L with pres:=Zv L.pres k s,sh:=f}) hI hx hs rfl rfl
  refine⟨⟨h1,rfl, fun c q=>q.unr.mono (by omega), fun c q=>q.add 0 k (fun j hj=> ?_) fun j u q y hj hq=> .inl ⟨u,y,hj,hq⟩,Pgs.unr hI.zero⟩,h2⟩
  by_cases e:j=k
  · right; rw[e]
  · simp only[Zv,if_neg e]at hj; exact .inl hj
theorem M4 (hT:TouR L V id t k L1 V1 t1 x1) (ht:L.tr id=some t) (hI:LvX ex m L V) (hx:NN ex) (hs:s≠0→1≤ex s) {wr:BitVec 64} (f:Int→Bool)
    (hg:NH {Zo (Q1 L V) id k with own:=XH V s,wr:=(Zo (Q1 L V) id k).wr ||| wr}):
    StepX ex m L V (fun j=>ex j -dl s j) m 0 1 (Z1 {L1 with sh:=f} id t1 k {x1 with own:=s,wr:=x1.wr ||| wr}) (Zb V1 x1.own)∧
    Q1 (Z1 {L1 with sh:=f} id t1 k {x1 with own:=s,wr:=x1.wr ||| wr}) (Zb V1 x1.own)=Z6 (Q1 L V) id k {Zo (Q1 L V) id k with own:=XH V s,wr:=(Zo (Q1 L V) id k).wr ||| wr}:= by
  obtain⟨h1,h2,h3,h4,h5⟩:=hT.invX ht hI hx
  obtain⟨h6,h7⟩:=h1.same (L':={L1 with sh:=f}) rfl rfl
  have e:{Wl V1 x1 with own:=XH V1 s,rd:=x1.rd,wr:=x1.wr ||| wr}={Zo (Q1 L V) id k with own:=XH V s,wr:=(Zo (Q1 L V) id k).wr ||| wr}:= by
    rw[hT.pg,←h2];rfl
  obtain⟨h8,h9⟩:=ownX (L':=Z1 {L1 with sh:=f} id t1 k {x1 with own:=s,wr:=x1.wr ||| wr}) (y:={x1 with own:=s,wr:=x1.wr ||| wr}) h6 hx hs (hT.tr ht) hT.lv rfl rfl rfl rfl (by rw[e]; exact hg)
  refine⟨⟨h8,hT.sp, fun c q=>(h4 c q).unr.mono (by omega), fun c q=>(hT.sz ht q).putOld (hT.tr ht) hT.lv U U,hT.pgs.trans (Pgs.unr h1.zero)⟩, ?_⟩
  rw[h9,h7,h3,HZ,e]
def allX (x:LfA) (c:Bs):LfA:={x with own:=c,wr:=BitVec.allOnes 64}
theorem TX {x:LfA} {c:Bs}:NH (allX x c):= fun j hj h=> by
  rw[show(allX x c).wr=BitVec.allOnes 64 from rfl,BitVec.getLsbD_allOnes]at h
  simp [hj]at h
theorem M2 (hI:LvX ex m L V) (hx:NN ex) (ha:Xq V s) (ht:L.tr id=some t) (hl:t.lv k=some x) (f:Int→Bool):
    StepX ex m L V ex m 0 0 (Z1 {L with sh:=f} id t k {x with own:=s,wr:=BitVec.allOnes 64}) (Zb (refW V s) x.own)∧
    Q1 (Z1 {L with sh:=f} id t k {x with own:=s,wr:=BitVec.allOnes 64}) (Zb (refW V s) x.own)=Z6 (Q1 L V) id k (allX (Wl V x) (XH V s)):= by
  obtain⟨h1,h2⟩:=hI.refW ha
  obtain⟨h6,h7⟩:=h1.same (L':={L with sh:=f}) rfl rfl
  have nn:NN (fun j=>ex j+dl s j):= fun j hj=> by
    show 0≤ex j+dl s j
    have :=hx j hj
    by_cases e:j=s
    · subst e; rw[Wt];omega
    · rw[Ja e];omega
  have e:({Wl (refW V s) x with own:=XH (refW V s) s,rd:=x.rd,wr:=BitVec.allOnes 64}:LfA)=allX (Wl V x) (XH V s):= by
    simp only[Wl,JR];rfl
  obtain⟨h8,h9⟩:=ownX (L':=Z1 {L with sh:=f} id t k {x with own:=s,wr:=BitVec.allOnes 64}) (y:={x with own:=s,wr:=BitVec.allOnes 64}) h6 nn (fun h0=> by show 1≤ex s+dl s s; rw[Wt]; have :=hx s h0;omega) ht hl rfl rfl rfl rfl (by rw[e]; exact TX)
  refine⟨⟨h8.ext fun j _=>(by show ex j=ex j+dl s j -dl s j;omega),rfl, fun c q=>q.refW.unr.mono (by omega), fun c q=>q.putOld ht hl U U,Pgs.ref.trans (Pgs.unr h1.zero)⟩, ?_⟩
  rw[h9,h7,h2,e]
theorem KO (hT:TouR L V id t k L1 V1 t1 x1) (ht:L.tr id=some t) (hI:LvX ex m L V) (hx:NN ex) (ha:Xq V s) (f:Int→Bool):
    StepX ex m L V ex m 0 1 (Z1 {L1 with sh:=f} id t1 k {x1 with own:=s,wr:=BitVec.allOnes 64}) (Zb (refW V1 s) x1.own)∧
    Q1 (Z1 {L1 with sh:=f} id t1 k {x1 with own:=s,wr:=BitVec.allOnes 64}) (Zb (refW V1 s) x1.own)=Z6 (Q1 L V) id k (allX (Zo (Q1 L V) id k) (XH V s)):= by
  obtain⟨h1,h2,h3,h4,h5⟩:=hT.invX ht hI hx
  have ha1:Xq V1 s:= by
    rcases ha with e | e
    · exact .inl e
    · refine .inr ?_
      rcases hT with⟨_,_,rfl,_⟩ | ⟨_,a,_,_,_,rfl⟩
      · exact e
      · exact Jv.2 (Jv.2 e)
  obtain⟨h6,h7⟩:=M2 h1 hx ha1 (hT.tr ht) hT.lv f
  refine⟨(hT.stepX ht hI hx).trans h6, ?_⟩
  rw[h7,h3,HZ,h2,hT.pg]
theorem KP (hI:LvX ex m L V) (hx:NN ex) (ha:Xq V s) (f:Int→Bool):
    StepX ex m L V ex m 0 1 {L with pres:=Zv L.pres k s,sh:=f} (Zb (refW V s) (L.pres k))∧Q1 {L with pres:=Zv L.pres k s,sh:=f} (Zb (refW V s) (L.pres k))={Q1 L V with pres:=UA (Q1 L V).pres k (XH V s)}:= by
  obtain⟨h1,h2⟩:=hI.refW ha
  have nn:NN (fun j=>ex j+dl s j):= fun j hj=> by
    show 0≤ex j+dl s j
    have :=hx j hj
    by_cases e:j=s
    · subst e; rw[Wt];omega
    · rw[Ja e];omega
  obtain⟨h3,h4⟩:=HW (k:=k) h1 nn (fun h0=> by show 1≤ex s+dl s s; rw[Wt]; have :=hx s h0;omega) f
  refine⟨⟨h3.inv.ext fun j _=>(by show ex j=ex j+dl s j -dl s j;omega),rfl, fun c q=>(h3.al c q.refW),h3.sz,Pgs.ref.trans h3.pg⟩, ?_⟩
  rw[h4,h2,JR]
end
theorem GP {w:World} {b n Fr:Nat} {L:LvD} {V:VS} {F:Th} (hS:Sat w [XY b L,XG L.sp n Fr V,F]) (hn:n≤65000000000) (k:KD) (s:Int):Calls Tryz.prog 72 #[ptrV b 0,Xo k,intV s] w (Ret fun v w'=>v= .tuple #[]∧Sat w' [XY b {L with pres:=Zv L.pres k s,sh:=Jq V L.sh (L.pres k)},XG L.sp (n+1) Fr (Zb V (L.pres k)),F]):= by
  have h1:=Xy hS
  refine(PX (h1.split [0,1,4,5] [true,true,false,false,true,true,false] U) (by omega) k s).mono fun e w h=>h.mono fun v w h=> ?_
  obtain⟨rfl,h⟩:=h
  have h2:=h.join U
  exact⟨rfl,QZ (L:={L with pres:=Zv L.pres k s,sh:=Jq V L.sh (L.pres k)}) (h2.reorder [0,1,4,5,2,3,6] U)⟩
theorem AY {w:World} {ex:Int→Int} {m:Nat} {b n Fr:Nat} {L:LvD} {V:VS} {F:Th} (hS:Sat w [XY b L,XG L.sp n Fr V,F]) (hn:n≤60000000000) (hI:LvX ex m L V) (hx:NN ex) {s:Int} (hs:s≠0→1≤ex s) (k:KD) (wr:BitVec 64):
    Calls Tryz.prog 54 #[ptrV b 0,intV 0,Xo k,intV s,Zz wr] w (Ret fun v w'=> ∃L' V',StepX ex m L V (fun j=>ex j -dl s j) m 0 1 L' V'∧Q1 L' V'={Q1 L V with pres:=UA (Q1 L V).pres k (XH V s)}∧OthK L L' 0 (fun q=>q=k)∧Sat w' [XY b L',XG L'.sp (n+4) Fr V',F]):= by
 refine Qm Tryz.func54 U Tryz.ntmps54 U ?_
 refine Qd (Qa (Zd hS U U U ?_))
 intro kb w1 hS1
 replace hS1:=X5 hS1
 refine Qf (Qc (Qd (Qd (Qa (Qb U U (Xd U U U (Qf (Qc (Qs U (fun h2=> ?_) (fun h2=> ?_))))))))))
 ·refine Qd (Qa (Qb U U ?_))
  refine Xt U X7 Xc (by first | exact hS1.blk 0 U) (by first | decide | exact Xa U | (simp;done) | omega) U U ?_
  refine Qb U U (Qw K4 U (GP (hS1.sp [1,2] U) (by omega) k s) U ?_)
  rintro _ w3 ⟨rfl,hS3⟩
  replace hS3:=hS3.jn U U
  clear hS1
  exact Qf (Qc (Qh [4,3,1,0,7] U (Qu (Qp (ZD (.inr U) U (⟨_,rfl,_,_,(HW hI hx hs (Jq V L.sh (L.pres k))).1,(HW hI hx hs (Jq V L.sh (L.pres k))).2,E7,(Xe (m:=n+4) (by omega) (hS3.pick [1,0,3] U)).reorder [1,0,2] U⟩))))))
 exact absurd U h2
theorem AX {w:World} {ex:Int→Int} {m:Nat} {b n Fr:Nat} {L:LvD} {V:VS} {F:Th} (hS:Sat w [XY b L,XG L.sp n Fr V,F]) (hn:n≤60000000000) (hI:LvX ex m L V) (hx:NN ex) (hm:m<Zs) {id:Int} {t:TrD} (ht:L.tr id=some t) {s:Int} (hs:s≠0→1≤ex s) (k:KD) (wr:BitVec 64) (hg:NH {Zo (Q1 L V) id k with own:=XH V s,wr:=(Zo (Q1 L V) id k).wr ||| wr}):
    Calls Tryz.prog 54 #[ptrV b 0,intV id,Xo k,intV s,Zz wr] w (Ret fun v w'=> ∃L' V',StepX ex m L V (fun j=>ex j -dl s j) m 0 1 L' V'∧Q1 L' V'=Z6 (Q1 L V) id k {Zo (Q1 L V) id k with own:=XH V s,wr:=(Zo (Q1 L V) id k).wr ||| wr}∧OthK L L' id (fun q=>q=k)∧Sat w' [XY b L',XG L'.sp (n+4) Fr V',F]):= by
 have h0:id≠0:=hI.rank.none0 ht
 refine Qm Tryz.func54 U Tryz.ntmps54 U ?_
 refine Qd (Qa (Zd hS U U U ?_))
 intro kb w1 hS1
 replace hS1:=X5 hS1
 refine Qf (Qc (Qd (Qd (Qa (Qb U U (Xd U U U (Qf (Qc (Qs U (fun h2=> ?_) (fun h2=> ?_))))))))))
 ·exact absurd h2 h0
 refine Qt (Qc (Qd (Qa (Qb U U (Qb U U ?_)))))
 refine Xt U X7 Xc (by first | exact hS1.blk 0 U) (by first | decide | exact Xa U | (simp;done) | omega) U U ?_
 refine Qw K6 U (Hr (hS1.sp [1,2] U) (by omega) (hI.rank.ends hm) ht (k:=k)) U ?_
 rintro _ w3 ⟨L1,V1,t1,x1,rfl,hT,hS3⟩
 replace hS3:=hS3.jn U U
 clear hS1
 have ht1:=hT.tr ht
 have hx1:=hT.lv
 refine Qe U U (Qf (Qc (Qh [4,3,0,10] U (Qd ?_))))
 have hS4:=J5 ht1 hx1 (hS3.pick [0,1,2,3] U)
 refine Qa (Qb U U (Qb U U (Qj U U (Qg U W5 U (Qn U QL (hS4.cell 0 U U) U (Qw HF U (H5 (hS4.sp [6,9,10] U) (by omega) x1.own) U ?_))))))
 rintro _ w5 ⟨rfl,hS5⟩
 replace hS5:=hS5.jn U U
 clear hS4
 refine Qf (Qc (Qd (Qa (Qb U U (Qb U U (Qj U U (Qg U W5 U (Q6 hS5 U U JG U (i:=3) U (Xa U) ?_))))))))
 intro w6 hS6; dsimp only[List.set]at hS6
 clear hS5
 refine Qf (Qc (Qh [4,10] U (Qa (Qb U U (Qj U U (Qg U ZV U (Qn U Jm (hS6.cell 3 U U) U (Qb U U (PO U U U (Qj U U (Qg U ZV U (Q6 hS6 U U VZ U (i:=3) U (Xa U) ?_))))))))))))
 intro w7 hS7; dsimp only[List.set]at hS7
 clear hS6
 refine Qf (ZD (.inl U) U ?_)
 have hS8:=W4 (L:={L1 with sh:=Jq V1 L1.sh x1.own}) (y:={x1 with own:=s,wr:=x1.wr ||| wr}) ht1 hx1 U (hS7.pick [3,4,5,6,7,8,0,9,10,1,2,11,12] U)
 exact⟨_,rfl,_,_,(M4 hT ht hI hx hs (Jq V1 L1.sh x1.own) hg).1,(M4 hT ht hI hx hs (Jq V1 L1.sh x1.own) hg).2,hT.othK ht U U,(Xe (m:=n+4) (by omega) (hS8.pick [1,0,3] U)).reorder [1,0,2] U⟩
theorem C3 {w:World} {ex:Int→Int} {m:Nat} {b n Fr:Nat} {L:LvD} {V:VS} {F:Th} (hS:Sat w [XY b L,XG L.sp n Fr V,F]) (hn:n≤60000000000) (hI:LvX ex m L V) (hx:NN ex) {s:Int} (ha:Xq V s) (k:KD):
    Calls Tryz.prog 103 #[ptrV b 0,intV 0,Xo k,intV s] w (Ret fun v w'=> ∃L' V',StepX ex m L V ex m 0 1 L' V'∧Q1 L' V'={Q1 L V with pres:=UA (Q1 L V).pres k (XH V s)}∧L'.pres=Zv L.pres k s∧Sat w' [XY b L',XG L'.sp (n+4) Fr V',F]):= by
 refine Qm Tryz.func103 U Tryz.ntmps103 U ?_
 refine Qd (Qa (Zd hS U U U ?_))
 intro kb w1 hS1
 replace hS1:=X5 hS1
 refine Qf (Qc (Qd (Qd (Qa (Qb U U (Xd U U U (Qf (Qc (Qs U (fun h2=> ?_) (fun h2=> ?_))))))))))
 ·refine Qd ?_
  have hS3:=Xy (hS1.pick [1,0,2,3] U)
  refine Qa (Qb U U (Qb U U (Qw K5 U (BJ (hS3.sp [0,4,6] U) (by omega) s) U ?_)))
  rintro _ w4 ⟨rfl,hS4⟩
  replace hS4:=hS4.jn U U
  clear hS3
  refine Qf (Qc (Qd ?_))
  have hS5:=QZ (L:={L with sh:=J1 L.sh s}) (hS4.pick [0,3,4,5,1,2,6,7] U)
  refine Qa (Qb U U ?_)
  refine Xt U X7 Xc (by first | exact hS5.blk 2 U) (by first | decide | exact Xa U | (simp;done) | omega) U U ?_
  refine Qb U U (Qw K4 U (GP (L:={L with sh:=J1 L.sh s}) (hS5.sp [0,1] U) (by omega) k s) U ?_)
  rintro _ w6 ⟨rfl,hS6⟩
  replace hS6:=hS6.jn U U
  clear hS5
  exact Qf (Qc (Qh [3,1,0,6] U (Qu (Qp (ZD (.inr U) U (⟨_,rfl,_,_,(KP hI hx ha _).1,(KP hI hx ha _).2,rfl,(Xe (m:=n+4) (by omega) (hS6.pick [1,0,3] U)).reorder [1,0,2] U⟩))))))
 exact absurd U h2
theorem C2 {w:World} {ex:Int→Int} {m:Nat} {b n Fr:Nat} {L:LvD} {V:VS} {F:Th} (hS:Sat w [XY b L,XG L.sp n Fr V,F]) (hn:n≤60000000000) (hI:LvX ex m L V) (hx:NN ex) (hm:m<Zs) {id:Int} {t:TrD} (ht:L.tr id=some t) {s:Int} (ha:Xq V s) (k:KD):
    Calls Tryz.prog 103 #[ptrV b 0,intV id,Xo k,intV s] w (Ret fun v w'=> ∃L' V',StepX ex m L V ex m 0 1 L' V'∧Q1 L' V'=Z6 (Q1 L V) id k (allX (Zo (Q1 L V) id k) (XH V s))∧Sat w' [XY b L',XG L'.sp (n+4) Fr V',F]):= by
 have h0:id≠0:=hI.rank.none0 ht
 refine Qm Tryz.func103 U Tryz.ntmps103 U ?_
 refine Qd (Qa (Zd hS U U U ?_))
 intro kb w1 hS1
 replace hS1:=X5 hS1
 refine Qf (Qc (Qd (Qd (Qa (Qb U U (Xd U U U (Qf (Qc (Qs U (fun h2=> ?_) (fun h2=> ?_))))))))))
 ·exact absurd h2 h0
 refine Qt (Qc (Qd (Qa (Qb U U (Qb U U ?_)))))
 refine Xt U X7 Xc (by first | exact hS1.blk 0 U) (by first | decide | exact Xa U | (simp;done) | omega) U U ?_
 refine Qw K6 U (Hr (hS1.sp [1,2] U) (by omega) (hI.rank.ends hm) ht (k:=k)) U ?_
 rintro _ w3 ⟨L1,V1,t1,x1,rfl,hT,hS3⟩
 replace hS3:=hS3.jn U U
 clear hS1
 have ht1:=hT.tr ht
 have hx1:=hT.lv
 refine Qe U U (Qf (Qc (Qh [3,0,8] U (Qd ?_))))
 have hS4:=J5 ht1 hx1 (hS3.pick [0,1,2,3] U)
 refine Qa (Qb U U (Qb U U (Qj U U (Qg U W5 U (Qb U U (Qw TF U (Po (hS4.sp [6,9,10,0] U) (by omega) s) U ?_))))))
 rintro _ w5 ⟨rfl,hS5⟩
 replace hS5:=hS5.jn U U
 clear hS4
 refine Qf (Qc (Qa (Qb U U (Qj U U (Qg U ZV U (Q6 (v:=Zz (BitVec.allOnes 64)) hS5 U U VZ U (i:=3) U (Xa U) ?_))))))
 intro w6 hS6; dsimp only[List.set]at hS6
 clear hS5
 refine Qf (ZD (.inl U) U ?_)
 have hS7:=W4 (L:={L1 with sh:=Jq (refW V1 s) (J1 L1.sh s) x1.own}) (y:={x1 with own:=s,wr:=BitVec.allOnes 64}) ht1 hx1 U (hS6.pick [3,4,5,6,7,8,0,9,10,1,2,11,12] U)
 exact⟨_,rfl,_,_,(KO hT ht hI hx ha _).1,(KO hT ht hI hx ha _).2,(Xe (m:=n+4) (by omega) (hS7.pick [1,0,3] U)).reorder [1,0,2] U⟩
end Go.Proofs.YtkcjfoaejijdoaaGreatDoor
namespace Go.Proofs.YtkcjfoaejijdoaaGreatDoor
open Go.RowKit M
variable [Inhabited SlW]
theorem kl_it {w:World} {l c b:Nat} {g:KD→Option Value} {J:List KD→Th} {F:Th} (hS:Sat w [J [],Q3 c [.map (some b)],Q5 Xo b g,F]) (hY:Hh Tryz.prog l Xo (okC g) J):
    Calls Tryz.prog 163 #[.func (.yield l) #[] #[],ptrV c 0] w (Ret fun v w'=> ∃ks,AllC g ks∧Sat w' [J ks,Q3 c [.map (some b)],Q5 Xo b g,F]):= by
 refine Qm Tryz.func163 U Tryz.ntmps163 U ?_
 refine Qd (Qa (Qn U Jy (by first | assumption | exact hS.cell 1 U U) U ?_))
 refine Wm 2 hS Tryz.underlying90 U U U ?_
 intro RR left0 wR hSR; dsimp only[List.set]at hSR
 refine Qf (Qc (Qv (Xb (fun K0 E0 W0=> ∃(dn:KD→Prop) (cur:Option KD) (left:Nat) (ks:List KD),K0=1*left∧E0=[(0,.func (.yield l) #[] #[]),(5,ptrV RR 0)]∧Sat W0 [J ks,Wq Xo b RR g dn cur left,Q3 c [.map (some b)],F]∧(CSt g dn ks)) (L0:=[(0,_),(5,_)]) (1*left0) (DT U U) ⟨_,_,_,_,rfl,rfl,hSR.reorder [0,2,1,3] U,CSt.start g⟩ ?_)))
 rintro _ _ w1 ⟨dn,cur,left,ks,rfl,rfl,hS1,hcs⟩
 refine Qd (Qa (WP 1 hS1 keysKey.inj U U U (fun hdone=> ?_) (fun k v left2 w2 hleft hgk hnd hS2=> ?_)))
 ·refine Qq U U U (Qf (Qc (Qd (QT U (QM (Qo (Qo (Qx (ZD (.inl U) U ?_)))))))))
  exact⟨_,rfl,ks,hcs.all hdone, by have hSz:=ZQ (hS1.reorder [1,0,2,3] U); exact hSz.reorder [1,2,0,3] U⟩
 dsimp only[List.set]at hS2
 refine Qq U U U (Qf (Qc (Qd (Xf U (Qt (Qc (Qv (Qd (Qa (Wn 1 hS2 U hgk U U (Qq U U U (QX hS2 Z2 U U ?_))))))))))))
 intro bk wq1 hq1
 refine QK hq1 U U Xc U (by rfl) (i:=0) U (by decide) ?_
 intro wq2 hq2; dsimp only[List.set]at hq2
 replace hq2:=X5 (k:=k) hq2
 refine Qf (Qc (Qd (WQ (X3 U (XO U) (X3 U (XF U X7 Xc (hq2.blk 0 U) (Xa U) U) ?_)))))
 have hSy:=hq2.sp [1] U
 refine Hl U U U (hY _ _ _ _ (hcs.ok hnd hgk) hSy) ?_
 intro w5 hS5; replace hS5:=hS5.jn U U
 refine X3 U (HL U) (YV (Qc (Qh [5,0,13] U (QT U (Qt (Qk ?_))))))
 have hSz:=hS5.pick [0,2,3,4] U; dsimp only[Hv,UP]at hSz
 exact Q0 (L1:=[(0,_),(5,_)]) (DT U U) (k1:=1*left2) (by omega) ⟨_,_,_,_,rfl,rfl,hSz,hcs.step hnd hgk⟩
theorem kl_sp {w:World} {v0:Value} {F:Th} (hS:Sat w [F]) (h0:v0.oneCell'=true):
    Calls Tryz.prog 110 #[v0] w (Ret fun v w'=> ∃c,v= .func (.func 163) #[] #[ptrV c 0]∧Sat w' [Q3 c v0.cells.toList,F]):= by
 refine Qm Tryz.func110 U Tryz.ntmps110 U ?_
 refine Qd (Qa (Zd hS U U U ?_))
 intro b1 w1 hS1
 exact Qe U U (Qf (Qc (Qd (Qa (Zx U U (Qe U U (Qf (Qc (Qu (QR (.inr U) U U (⟨_,rfl,_,rfl,hS1⟩)))))))))))
theorem kp_it {w:World} {l c b:Nat} {g:KD→Option Value} {J:List KD→Th} {F:Th} (hS:Sat w [J [],Q3 c [.map (some b)],Q5 Xo b g,F]) (hY:Hh Tryz.prog l Xo (okC g) J):
    Calls Tryz.prog 175 #[.func (.yield l) #[] #[],ptrV c 0] w (Ret fun v w'=> ∃ks,AllC g ks∧Sat w' [J ks,Q3 c [.map (some b)],Q5 Xo b g,F]):= by
 refine Qm Tryz.func175 U Tryz.ntmps175 U ?_
 refine Qd (Qa (Qn U Up (by first | assumption | exact hS.cell 1 U U) U ?_))
 refine Wm 2 hS Tryz.underlying81 U U U ?_
 intro RR left0 wR hSR; dsimp only[List.set]at hSR
 refine Qf (Qc (Qv (Xb (fun K0 E0 W0=> ∃(dn:KD→Prop) (cur:Option KD) (left:Nat) (ks:List KD),K0=1*left∧E0=[(0,.func (.yield l) #[] #[]),(5,ptrV RR 0)]∧Sat W0 [J ks,Wq Xo b RR g dn cur left,Q3 c [.map (some b)],F]∧(CSt g dn ks)) (L0:=[(0,_),(5,_)]) (1*left0) (DT U U) ⟨_,_,_,_,rfl,rfl,hSR.reorder [0,2,1,3] U,CSt.start g⟩ ?_)))
 rintro _ _ w1 ⟨dn,cur,left,ks,rfl,rfl,hS1,hcs⟩
 refine Qd (Qa (WP 1 hS1 keysKey.inj U U U (fun hdone=> ?_) (fun k v left2 w2 hleft hgk hnd hS2=> ?_)))
 ·refine Qq U U U (Qf (Qc (Qd (QT U (QM (Qo (Qo (Qx (ZD (.inl U) U ?_)))))))))
  exact⟨_,rfl,ks,hcs.all hdone, by have hSz:=ZQ (hS1.reorder [1,0,2,3] U); exact hSz.reorder [1,2,0,3] U⟩
 dsimp only[List.set]at hS2
 refine Qq U U U (Qf (Qc (Qd (Xf U (Qt (Qc (Qv (Qd (Qa (Wn 1 hS2 U hgk U U (Qq U U U (QX hS2 Z2 U U ?_))))))))))))
 intro bk wq1 hq1
 refine QK hq1 U U Xc U (by rfl) (i:=0) U (by decide) ?_
 intro wq2 hq2; dsimp only[List.set]at hq2
 replace hq2:=X5 (k:=k) hq2
 refine Qf (Qc (Qd (WQ (X3 U (XO U) (X3 U (XF U X7 Xc (hq2.blk 0 U) (Xa U) U) ?_)))))
 have hSy:=hq2.sp [1] U
 refine Hl U U U (hY _ _ _ _ (hcs.ok hnd hgk) hSy) ?_
 intro w5 hS5; replace hS5:=hS5.jn U U
 refine X3 U (HL U) (YV (Qc (Qh [5,0,13] U (QT U (Qt (Qk ?_))))))
 have hSz:=hS5.pick [0,2,3,4] U; dsimp only[Hv,UP]at hSz
 exact Q0 (L1:=[(0,_),(5,_)]) (DT U U) (k1:=1*left2) (by omega) ⟨_,_,_,_,rfl,rfl,hSz,hcs.step hnd hgk⟩
theorem kp_sp {w:World} {v0:Value} {F:Th} (hS:Sat w [F]) (h0:v0.oneCell'=true):
    Calls Tryz.prog 125 #[v0] w (Ret fun v w'=> ∃c,v= .func (.func 175) #[] #[ptrV c 0]∧Sat w' [Q3 c v0.cells.toList,F]):= by
 refine Qm Tryz.func125 U Tryz.ntmps125 U ?_
 refine Qd (Qa (Zd hS U U U ?_))
 intro b1 w1 hS1
 exact Qe U U (Qf (Qc (Qd (Qa (Zx U U (Qe U U (Qf (Qc (Qu (QR (.inr U) U U (⟨_,rfl,_,rfl,hS1⟩)))))))))))
theorem kt_it {w:World} {l c b:Nat} {g:Int→Option Value} {J:List Int→Th} {F:Th} (hS:Sat w [J [],Q3 c [.map (some b)],Q5 QO b g,F]) (hY:Hh Tryz.prog l QO (okC g) J):
    Calls Tryz.prog 124 #[.func (.yield l) #[] #[],ptrV c 0] w (Ret fun v w'=> ∃ks,AllC g ks∧Sat w' [J ks,Q3 c [.map (some b)],Q5 QO b g,F]):= by
 refine Qm Tryz.func124 U Tryz.ntmps124 U ?_
 refine Qd (Qa (Qn U WN (by first | assumption | exact hS.cell 1 U U) U ?_))
 refine Wm 2 hS Tryz.underlying82 U U U ?_
 intro RR left0 wR hSR; dsimp only[List.set]at hSR
 refine Qf (Qc (Qv (Xb (fun K0 E0 W0=> ∃(dn:Int→Prop) (cur:Option Int) (left:Nat) (ks:List Int),K0=1*left∧E0=[(0,.func (.yield l) #[] #[]),(5,ptrV RR 0)]∧Sat W0 [J ks,Wq QO b RR g dn cur left,Q3 c [.map (some b)],F]∧(CSt g dn ks)) (L0:=[(0,_),(5,_)]) (1*left0) (DT U U) ⟨_,_,_,_,rfl,rfl,hSR.reorder [0,2,1,3] U,CSt.start g⟩ ?_)))
 rintro _ _ w1 ⟨dn,cur,left,ks,rfl,rfl,hS1,hcs⟩
 refine Qd (Qa (WP 1 hS1 keysInt.inj U U U (fun hdone=> ?_) (fun k v left2 w2 hleft hgk hnd hS2=> ?_)))
 ·refine Qq U U U (Qf (Qc (Qd (QT U (QM (Qo (Qo (Qx (ZD (.inl U) U ?_)))))))))
  exact⟨_,rfl,ks,hcs.all hdone, by have hSz:=ZQ (hS1.reorder [1,0,2,3] U); exact hSz.reorder [1,2,0,3] U⟩
 dsimp only[List.set]at hS2
 refine Qq U U U (Qf (Qc (Qd (Xf U (Qt (Qc (Qv (Qd (Qa (Wn 1 hS2 U hgk U U (Qq U U U (Qe U U (Qf (Qc (Qd (WQ (X3 U (XO U) (X3 U (XO U) (Hl U U U (hY _ _ _ _ (hcs.ok hnd hgk) (hS2.sp [0] U)) ?_)))))))))))))))))))
 intro w5 hS5; replace hS5:=hS5.jn U U
 refine X3 U (HL U) (YV (Qc (Qh [5,0,13] U (QT U (Qt (Qk ?_))))))
 have hSz:=hS5.reorder [0,1,2,3] U; dsimp only[Hv,UP]at hSz
 exact Q0 (L1:=[(0,_),(5,_)]) (DT U U) (k1:=1*left2) (by omega) ⟨_,_,_,_,rfl,rfl,hSz,hcs.step hnd hgk⟩
theorem kt_sp {w:World} {v0:Value} {F:Th} (hS:Sat w [F]) (h0:v0.oneCell'=true):
    Calls Tryz.prog 70 #[v0] w (Ret fun v w'=> ∃c,v= .func (.func 124) #[] #[ptrV c 0]∧Sat w' [Q3 c v0.cells.toList,F]):= by
 refine Qm Tryz.func70 U Tryz.ntmps70 U ?_
 refine Qd (Qa (Zd hS U U U ?_))
 intro b1 w1 hS1
 exact Qe U U (Qf (Qc (Qd (Qa (Zx U U (Qe U U (Qf (Qc (Qu (QR (.inr U) U U (⟨_,rfl,_,rfl,hS1⟩)))))))))))
theorem kd_it {w:World} {l c b:Nat} {g:Bs→Option Value} {J:List Bs→Th} {F:Th} (hS:Sat w [J [],Q3 c [.map (some b)],Q5 Js b g,F]) (hY:Hh Tryz.prog l Js (okC g) J):
    Calls Tryz.prog 118 #[.func (.yield l) #[] #[],ptrV c 0] w (Ret fun v w'=> ∃ks,AllC g ks∧Sat w' [J ks,Q3 c [.map (some b)],Q5 Js b g,F]):= by
 refine Qm Tryz.func118 U Tryz.ntmps118 U ?_
 refine Qd (Qa (Qn U MQ (by first | assumption | exact hS.cell 1 U U) U ?_))
 refine Wm 2 hS Tryz.underlying91 U U U ?_
 intro RR left0 wR hSR; dsimp only[List.set]at hSR
 refine Qf (Qc (Qv (Xb (fun K0 E0 W0=> ∃(dn:Bs→Prop) (cur:Option Bs) (left:Nat) (ks:List Bs),K0=1*left∧E0=[(0,.func (.yield l) #[] #[]),(5,ptrV RR 0)]∧Sat W0 [J ks,Wq Js b RR g dn cur left,Q3 c [.map (some b)],F]∧(CSt g dn ks)) (L0:=[(0,_),(5,_)]) (1*left0) (DT U U) ⟨_,_,_,_,rfl,rfl,hSR.reorder [0,2,1,3] U,CSt.start g⟩ ?_)))
 rintro _ _ w1 ⟨dn,cur,left,ks,rfl,rfl,hS1,hcs⟩
 refine Qd (Qa (WP 1 hS1 keysStr.inj U U U (fun hdone=> ?_) (fun k v left2 w2 hleft hgk hnd hS2=> ?_)))
 ·refine Qq U U U (Qf (Qc (Qd (QT U (QM (Qo (Qo (Qx (ZD (.inl U) U ?_)))))))))
  exact⟨_,rfl,ks,hcs.all hdone, by have hSz:=ZQ (hS1.reorder [1,0,2,3] U); exact hSz.reorder [1,2,0,3] U⟩
 dsimp only[List.set]at hS2
 refine Qq U U U (Qf (Qc (Qd (Xf U (Qt (Qc (Qv (Qd (Qa (Wn 1 hS2 U hgk U U (Qq U U U (Qe U U (Qf (Qc (Qd (WQ (X3 U (XO U) (X3 U (XO U) (Hl U U U (hY _ _ _ _ (hcs.ok hnd hgk) (hS2.sp [0] U)) ?_)))))))))))))))))))
 intro w5 hS5; replace hS5:=hS5.jn U U
 refine X3 U (HL U) (YV (Qc (Qh [5,0,13] U (QT U (Qt (Qk ?_))))))
 have hSz:=hS5.reorder [0,1,2,3] U; dsimp only[Hv,UP]at hSz
 exact Q0 (L1:=[(0,_),(5,_)]) (DT U U) (k1:=1*left2) (by omega) ⟨_,_,_,_,rfl,rfl,hSz,hcs.step hnd hgk⟩
theorem kd_sp {w:World} {v0:Value} {F:Th} (hS:Sat w [F]) (h0:v0.oneCell'=true):
    Calls Tryz.prog 52 #[v0] w (Ret fun v w'=> ∃c,v= .func (.func 118) #[] #[ptrV c 0]∧Sat w' [Q3 c v0.cells.toList,F]):= by
 refine Qm Tryz.func52 U Tryz.ntmps52 U ?_
 refine Qd (Qa (Zd hS U U U ?_))
 intro b1 w1 hS1
 exact Qe U U (Qf (Qc (Qd (Qa (Zx U U (Qe U U (Qf (Qc (Qu (QR (.inr U) U U (⟨_,rfl,_,rfl,hS1⟩)))))))))))
theorem kb_it {w:World} {l c b:Nat} {g:Int→Option Value} {J:List Int→Th} {F:Th} (hS:Sat w [J [],Q3 c [.map (some b)],Q5 QO b g,F]) (hY:Hh Tryz.prog l QO (okC g) J):
    Calls Tryz.prog 136 #[.func (.yield l) #[] #[],ptrV c 0] w (Ret fun v w'=> ∃ks,AllC g ks∧Sat w' [J ks,Q3 c [.map (some b)],Q5 QO b g,F]):= by
 refine Qm Tryz.func136 U Tryz.ntmps136 U ?_
 refine Qd (Qa (Qn U D0 (by first | assumption | exact hS.cell 1 U U) U ?_))
 refine Wm 2 hS Tryz.underlying83 U U U ?_
 intro RR left0 wR hSR; dsimp only[List.set]at hSR
 refine Qf (Qc (Qv (Xb (fun K0 E0 W0=> ∃(dn:Int→Prop) (cur:Option Int) (left:Nat) (ks:List Int),K0=1*left∧E0=[(0,.func (.yield l) #[] #[]),(5,ptrV RR 0)]∧Sat W0 [J ks,Wq QO b RR g dn cur left,Q3 c [.map (some b)],F]∧(CSt g dn ks)) (L0:=[(0,_),(5,_)]) (1*left0) (DT U U) ⟨_,_,_,_,rfl,rfl,hSR.reorder [0,2,1,3] U,CSt.start g⟩ ?_)))
 rintro _ _ w1 ⟨dn,cur,left,ks,rfl,rfl,hS1,hcs⟩
 refine Qd (Qa (WP 1 hS1 keysInt.inj U U U (fun hdone=> ?_) (fun k v left2 w2 hleft hgk hnd hS2=> ?_)))
 ·refine Qq U U U (Qf (Qc (Qd (QT U (QM (Qo (Qo (Qx (ZD (.inl U) U ?_)))))))))
  exact⟨_,rfl,ks,hcs.all hdone, by have hSz:=ZQ (hS1.reorder [1,0,2,3] U); exact hSz.reorder [1,2,0,3] U⟩
 dsimp only[List.set]at hS2
 refine Qq U U U (Qf (Qc (Qd (Xf U (Qt (Qc (Qv (Qd (Qa (Wn 1 hS2 U hgk U U (Qq U U U (Qe U U (Qf (Qc (Qd (WQ (X3 U (XO U) (X3 U (XO U) (Hl U U U (hY _ _ _ _ (hcs.ok hnd hgk) (hS2.sp [0] U)) ?_)))))))))))))))))))
 intro w5 hS5; replace hS5:=hS5.jn U U
 refine X3 U (HL U) (YV (Qc (Qh [5,0,13] U (QT U (Qt (Qk ?_))))))
 have hSz:=hS5.reorder [0,1,2,3] U; dsimp only[Hv,UP]at hSz
 exact Q0 (L1:=[(0,_),(5,_)]) (DT U U) (k1:=1*left2) (by omega) ⟨_,_,_,_,rfl,rfl,hSz,hcs.step hnd hgk⟩
theorem AM {w:World} {v0:Value} {F:Th} (hS:Sat w [F]) (h0:v0.oneCell'=true):
    Calls Tryz.prog 89 #[v0] w (Ret fun v w'=> ∃c,v= .func (.func 136) #[] #[ptrV c 0]∧Sat w' [Q3 c v0.cells.toList,F]):= by
 refine Qm Tryz.func89 U Tryz.ntmps89 U ?_
 refine Qd (Qa (Zd hS U U U ?_))
 intro b1 w1 hS1
 exact Qe U U (Qf (Qc (Qd (Qa (Zx U U (Qe U U (Qf (Qc (Qu (QR (.inr U) U U (⟨_,rfl,_,rfl,hS1⟩)))))))))))
def ItK (g:KD→Option Value) (gf:Nat) (caps:List Value) (It:Th):Prop:= ∀(l:Nat) (J:List KD→Th) (X:Th) (w:World),Sat w [J [],It,X]→Hh Tryz.prog l Xo (okC g) J→Calls Tryz.prog gf (.func (.yield l) #[] #[]::caps).toArray w (Ret fun _ w'=> ∃ks,AllC g ks∧Sat w' [J ks,It,X])
def JK (l D b:Nat) (rec:Loop) (ks:List KD):Th:=Ca fun v:Value=>starL [Jk l rec,Ws D,Q3 b [v],rowT kC v ks]
theorem appK {w:World} {g:KD→Option Value} {It F:Th} {gf:Nat} {caps:List Value} (hS:Sat w [It,F]) (hcal:QE Tryz.prog gf=true) (hIt:ItK g gf caps It) (hlen: ∀ks,Came g ks→ks.length≤100000000000):
    Calls Tryz.prog 189 [.slice none 0 0,.func (.func gf) #[] caps.toArray].toArray w (Ret fun v w'=> ∃ks,AllC g ks∧Sat w' [rowT kC v ks,It,F]):= by
 refine He Tryz.func189 U Tryz.ntmps189 U ?_
 refine Qd (Qa (Zd hS U U U ?_))
 intro b1 w1 hS1
 refine Qe U U (Qf (Qc (Qd (Qd (Qa (Qb U U (Qf (Qc (Qv (YW (caps:=caps) U hcal ?_))))))))))
 intro rec hr1 hr2 hr3 hr4 hr5 htn htf
 have hE:=((hS1.enter_loop rec).row_nil kC)
 have hE2:=hE.sp [1,2,3,0] U
 have hJ0:=Sat.ex_intro (f:= fun v:Value=>starL [Jk _ _,Ws _,Q3 _ [v],rowT kC v []]) _ (Sat.fold (As:=[Jk _ _,Ws _,Q3 _ [_],rowT kC _ []]) hE2)
 refine(hIt _ (JK _ _ _ _) _ _ (hJ0.join U) ?_).mono ?_
 ·intro ks k R w2 hok hw2
  obtain⟨v,hw3⟩:=hw2.ex
  have hw4:=hw3.flat; dsimp only[R8,R7]at hw4
  have hl1:=hlen _ hok
  simp only[List.length_append,List.length_cons,List.length_nil]at hl1
  refine Bn (hw4.loop 0 rfl) hr1 hr2 hr3 hr4 hr5 htn htf rfl (by intro o ho c; simp at ho; rcases ho with rfl | rfl<;> simp) (by intro o ho c; simp at ho; rcases ho with rfl | rfl | rfl | rfl | rfl<;> simp) ?_
  intro QA hA
  refine QX hw4 Z2 U U ?_
  intro bk wk1 hq1
  refine QK hq1 U U Xc U (by rfl) (i:=0) U (by decide) ?_
  intro wk2 hq2; dsimp only[List.set]at hq2
  replace hq2:=X5 (k:=k) hq2
  refine Qf (hA _ _ (hq2.loop 1 U) ?_)
  intro QB hB
  have h1v:v.oneCell'=true:=hq2.own_one 4 U
  have hw5:=hq2.loop_put 1 U (rec':={rec with state:= .busy}); dsimp only[List.set]at hw5
  refine Qn U ag_98 (hw5.cell 3 U U) U (Xt U X7 Xc (hw5.blk 0 U) (Xa U) U U (Zf kC [k] hw5 U Tryz.underlying98 ifz_76 U U U U (by rfl) rfl ?_))
  intro b3 w3 hw6
  refine ZM kC 5 hw6 U U U (hw6.rd 0 U (by simp)) Tryz.underlying98 Tryz.underlying98 (by intro k hk; cases hk) ifo_76 U (by simp;omega) U (by simp;omega) ?_
  intro v4 w4 hw7; dsimp only[List.set]at hw7
  have h1v4:v4.oneCell'=true:=hw7.own_one 5 U
  refine Q6 hw7 U U sz_98 h1v4 (i:=4) U (by simp) ?_
  intro w5 hw8; dsimp only[List.set]at hw8
  refine Qf (hB _ _ (hw8.loop 2 U) ?_)
  have hw9:=hw8.loop_put 2 U (rec':=rec); dsimp only[List.set]at hw9
  exact(Sat.ex_intro (f:= fun v:Value=>starL [Jk _ _,Ws _,Q3 _ [v],rowT kC v (ks++[k])]) v4 (Sat.fold (As:=[Jk _ _,Ws _,Q3 _ [_],rowT kC _ _]) (hw9.pick [2,3,4,5,6] U)))
 ·rintro e w3 ⟨v0,rfl,ks,hall,hw3⟩
  obtain⟨v,hw4⟩:=hw3.ex
  have hw5:=hw4.flat; dsimp only[R8,R7]at hw5
  refine⟨⟨v0,rfl⟩,rec,hw5.loop 0 U, by rw[hr1]; simp,hr2, ?_⟩
  intro a ha1 ha2
  have hw6:=hw5.loop_put 0 U (rec':={rec with state:= .exhausted}); dsimp only[List.set]at hw6
  obtain⟨hD,hw7⟩:=hw6.defer_put (o:= .deferred none) 1 rfl
  dsimp only[List.eraseIdx]at hw7
  refine B1 (n:=13) (by rw[ha1]; exact htn) (by rw[ha1]; exact htf) ha2 U ag_98 (hw6.cell 2 U U) hD U U U ?_
  exact⟨_,rfl,ks,hall,hw7.pick [2,3,4] U⟩
def keysTkl (c b:Nat) (g:KD→Option Value):Th:=starL [Q3 c [.map (some b)],Q5 Xo b g]
theorem itkl (c b:Nat) (g:KD→Option Value):ItK g 163 [ptrV c 0] (keysTkl c b g):= fun l J X w hS hY=> by
  have h1:=(hS.perm (List.Perm.swap _ _ _)).flat; dsimp only[R8,R7]at h1
  refine(kl_it (h1.reorder [2,0,1,3] U) hY).mono fun e w' h=>h.mono fun v w' ⟨ks,h2,h3⟩=>⟨ks,h2, ?_⟩
  exact(Sat.fold (As:=[Q3 c [.map (some b)],Q5 Xo b g]) (h3.reorder [1,2,0,3] U)).perm (List.Perm.swap _ _ _)
def keysTkp (c b:Nat) (g:KD→Option Value):Th:=starL [Q3 c [.map (some b)],Q5 Xo b g]
theorem itkp (c b:Nat) (g:KD→Option Value):ItK g 175 [ptrV c 0] (keysTkp c b g):= fun l J X w hS hY=> by
  have h1:=(hS.perm (List.Perm.swap _ _ _)).flat; dsimp only[R8,R7]at h1
  refine(kp_it (h1.reorder [2,0,1,3] U) hY).mono fun e w' h=>h.mono fun v w' ⟨ks,h2,h3⟩=>⟨ks,h2, ?_⟩
  exact(Sat.fold (As:=[Q3 c [.map (some b)],Q5 Xo b g]) (h3.reorder [1,2,0,3] U)).perm (List.Perm.swap _ _ _)
theorem colK {w:World} {g:KD→Option Value} {It F:Th} {gf:Nat} {caps:List Value} (hS:Sat w [It,F]) (hcal:QE Tryz.prog gf=true) (hIt:ItK g gf caps It) (hlen: ∀ks,Came g ks→ks.length≤100000000000):
    Calls Tryz.prog 161 #[.func (.func gf) #[] caps.toArray] w (Ret fun v w'=> ∃ks,AllC g ks∧Sat w' [rowT kC v ks,It,F]):= by
 refine Qm Tryz.func161 U Tryz.ntmps161 U ?_
 refine Qd (Qa (Qe U U (Qf (Qc (Qd (Qa (Qb U U (Qw cal_189 U (appK (hS.sp [0] U) hcal hIt hlen) U ?_))))))))
 rintro _ w1 ⟨ks,hks,hS1⟩
 replace hS1:=hS1.jn U U
 have h1v:=hS1.own_one 0 U
 exact Qe U U (Qf (Qc (Qu (QR (.inr U) U U (⟨_,rfl,ks,hks,hS1⟩)))))
end Go.Proofs.YtkcjfoaejijdoaaGreatDoor
namespace Go.Proofs.YtkcjfoaejijdoaaGreatDoor
open Go.RowKit M
variable [Inhabited SlW]
def orI (a b:Int):Int:= if a≠0 then a else b
theorem or_step {l:List Int} {i:Nat} {x:Int} (hz: ∀q,q<i→l[q]? =some 0) (hx:l[i]? =some x) (h0:x=0): ∀q,q<i+1→l[q]? =some 0:= fun q hq=> by
  rcases Nat.lt_or_ge q i with h | h
  · exact hz q h
  · have :q=i:= by omega
    subst this; rw[hx,h0]
theorem or_sp {w:World} {c:Nat} {a b:Int} {F:Th} (hS:Sat w [rowT inC (.slice (some ⟨c,0,none⟩) 2 2) [a,b],F]):
    Calls Tryz.prog 112 #[.slice (some ⟨c,0,none⟩) 2 2] w (Ret fun v w'=>v=intV (orI a b)∧w'=w):= by
 refine Qm Tryz.func112 U Tryz.ntmps112 U ?_
 refine Qd (Qa (Qe U U (Qf (Qc (Qd (Qa (Qe U U (Qf (Qc (Qd (Qd (Qa (Qb U U ?_)))))))))))))
 first | refine Xr Tryz.underlying47 U U ?_ | refine ZG 0 hS Tryz.underlying47 U U U ?_
 refine Qb U U (Qf (Qc (Qv (Xb (fun K0 E0 W0=> ∃(i:Nat),K0=2 -i∧E0=[(3,intV 0),(6,.slice (some ⟨c,0,none⟩) 2 2),(7,intV 2),(8,intV (i:Int))]∧Sat W0 [rowT inC (.slice (some ⟨c,0,none⟩) 2 2) [a,b],F]∧(W0=w)∧(i≤2)∧(∀q,q<i→[a,b][q]? =some 0)) (L0:=[(3,_),(6,_),(7,_),(8,_)]) (2) (VN U U U U) ⟨0, by omega,rfl,hS,rfl, by omega, fun q hq=>absurd hq (by omega)⟩ ?_))))
 rintro _ _ w1 ⟨i,rfl,rfl,hS1,hw0,hi,hz⟩
 refine Qd (Qa (Xg U U U (Qf (Qc (Qd (Qs U (fun h2=> ?_) (fun h2=> ?_)))))))
 ·obtain⟨xi,hxi⟩: ∃xi,[a,b][i]? =some xi:=⟨_,Zi (by simp;omega)⟩
  refine Qt (Qc (Qd (Qv (Qd (Qa (QW inC 0 i hS1 U U U (by first | rfl | omega) hxi JQ U ?_))))))
  intro bx3 capx3 hvx3
  refine XE 0 i 0 hS1 U hvx3 U U hxi QL U U (Qe U U (Qf (Qc (Qd (Qa (Qb U U (Qb U U (X0 U U U (Qf (Qc (Qh [8,7,6,3,5,14] U (Qs U (fun h4=> ?_) (fun h4=> ?_)))))))))))))
  ·have hx0:xi≠0:=h4
   refine Qd (Qa (Qb U U (Qe U U (Qf (Qc (Qu (Qz (Qp (Qp (Qz (Qp (QR (.inr U) U U (⟨_,rfl, ?_,hw0⟩)))))))))))))
   have h2:i=0∨i=1:= by omega
   rcases h2 with rfl | rfl
   ·have e:a=xi:=(by simpa using hxi); subst e;unfold orI; rw[if_pos hx0]
   ·have e:b=xi:=(by simpa using hxi); have e0:a=0:=(by simpa using hz 0 (by omega)); subst e;unfold orI; rw[if_neg (by omega)]
  have hx0:xi=0:=Decidable.not_not.1 h4
  refine Qt (Qk (Qc (Qa (QI U U (by omega) (by omega) U ?_))))
  refine Qb U U (Qf ?_)
  exact Q0 (L1:=[(3,intV 0),(6,_),(7,intV 2),(8,intV ((i+1:Nat):Int))]) (VN U U U U) (k1:=2 -(i+1)) (by omega) ⟨i+1, by omega,rfl,hS1.pick [0,1] U,hw0, by omega,or_step hz hxi hx0⟩
 refine QM (Qo (Qo (Qx (Qc (Qd (Qa (Qb U U (Qe U U (Qf (Qc (Qu (QR (.inr U) U U ?_))))))))))))
 have h2:i=2:= by omega
 subst h2; have e0:a=0:= by simpa using hz 0 (by omega)
 have e1:b=0:= by simpa using hz 1 (by omega)
 exact⟨_,rfl, by unfold orI; rw[if_neg (by omega),e1],hw0⟩
end Go.Proofs.YtkcjfoaejijdoaaGreatDoor
namespace Go.Proofs.YtkcjfoaejijdoaaGreatDoor
open Go.RowKit M
variable [Inhabited SlW]
def O6 (x y:KD):Int:=orI (Lib.compareBytes x.1 y.1) (Lib.compareInt x.2 y.2)
theorem PV (a b:Bs) (w:World):Calls Tryz.prog 113 #[strV a,strV b] w (Ret fun v w'=>v=intV (Lib.compareBytes a b)∧w'=w):=
  (Tryz.strings_Compare ⟨a.toArray⟩ ⟨b.toArray⟩ w).mono fun e w' ⟨h1,h2⟩=>⟨_,h1,rfl,h2⟩
theorem Sv (a b:Int) (w:World):Calls Tryz.prog 114 #[intV a,intV b] w (Ret fun v w'=>v=intV (Lib.compareInt a b)∧w'=w):=
  (Tryz.cmp_Compare_int a b w).mono fun e w' ⟨h1,h2⟩=>⟨_,h1,rfl,h2⟩
theorem cmpL_sp {w:World} {F:Th} (hS:Sat w [F]) (x y:KD):
    Calls Tryz.prog 111 #[Xo x,Xo y] w (Ret fun v w'=>v=intV (O6 x y)∧GrW w w'):= by
 refine Qm Tryz.func111 U Tryz.ntmps111 U ?_
 refine Qd (Qa (GI hS U U U ?_))
 intro ka w1 hG1 hS1
 replace hS1:=X5 (k:=x) hS1
 refine GI hS1 U U U ?_
 intro kb w2 hG2 hS2
 replace hS2:=X5 (k:=y) hS2
 clear hS1
 refine Qe U U (Qf (Qc (Qd ?_)))
 have hS3:=hS2.drew
 refine QF [0,1,2,3,5,6,7,8,4,9,10,11,12] [4,9,10,11] We (by kernel_rfl) ?_
 refine QV U U U JV (Q4 U U U (Qr U WC (by first | exact hS3.cell 0 U U | exact hS3.cell 1 U U)) ?_)
 refine QV U U U JV (Q4 U U U (Qr U WC (by first | exact hS3.cell 0 U U | exact hS3.cell 1 U U)) ?_)
 refine QV U U U V7 (Q4 U U U (Qr U QL (by first | exact hS3.cell 0 U U | exact hS3.cell 1 U U)) ?_)
 refine QV U U U V7 (Q4 U U U (Qr U QL (by first | exact hS3.cell 0 U U | exact hS3.cell 1 U U)) ?_)
 refine Xn U U U U U U ?_
 refine Qw SW U (PV x.1 y.1 _) U ?_
 rintro _ _ ⟨rfl,rfl⟩
 refine XQ (.cons (.inl ⟨rfl,(Qr U QL (hS3.cell 0 U U))⟩) (.cons (.inl ⟨rfl,(Qr U QL (hS3.cell 1 U U))⟩) (X1 (by kernel_rfl)))) ?_
 refine Xn U U U U U U ?_
 refine Qw SV U (Sv x.2 y.2 _) U ?_
 rintro _ _ ⟨rfl,rfl⟩
 refine XQ (X1 (by kernel_rfl)) ?_
 refine Xn U U U U U U ?_
 refine KC inC [Lib.compareBytes x.1 y.1,Lib.compareInt x.2 y.2] hS3 U Tryz.underlying47 Uc U U U U (by rfl) rfl ?_
 intro cc w4 hG4 hS4
 clear hS3
 refine XQ (X1 (by kernel_rfl)) ?_
 refine Xn U U U U U U ?_
 refine Qw SX U (or_sp (hS4.split [0] [true,false,false,false] U)) U ?_
 rintro _ _ ⟨rfl,rfl⟩
 refine XQ (X1 (by kernel_rfl)) ?_
 exact Za U U U (VC.nil (Qc (Qh [4] U (Qu (QR (.inr U) U U (⟨_,rfl,rfl,(hG1.trans hG2).trans (GrW.drew.trans hG4)⟩))))))
theorem cmpI_sp {w:World} {F:Th} (hS:Sat w [F]) (x y:KD):
    Calls Tryz.prog 126 #[Xo x,Xo y] w (Ret fun v w'=>v=intV (O6 x y)∧GrW w w'):= by
 refine Qm Tryz.func126 U Tryz.ntmps126 U ?_
 refine Qd (Qa (GI hS U U U ?_))
 intro ka w1 hG1 hS1
 replace hS1:=X5 (k:=x) hS1
 refine GI hS1 U U U ?_
 intro kb w2 hG2 hS2
 replace hS2:=X5 (k:=y) hS2
 clear hS1
 refine Qe U U (Qf (Qc (Qd ?_)))
 have hS3:=hS2.drew
 refine QF [0,1,2,3,5,6,7,8,4,9,10,11,12] [4,9,10,11] We (by kernel_rfl) ?_
 refine QV U U U JV (Q4 U U U (Qr U WC (by first | exact hS3.cell 0 U U | exact hS3.cell 1 U U)) ?_)
 refine QV U U U JV (Q4 U U U (Qr U WC (by first | exact hS3.cell 0 U U | exact hS3.cell 1 U U)) ?_)
 refine QV U U U V7 (Q4 U U U (Qr U QL (by first | exact hS3.cell 0 U U | exact hS3.cell 1 U U)) ?_)
 refine QV U U U V7 (Q4 U U U (Qr U QL (by first | exact hS3.cell 0 U U | exact hS3.cell 1 U U)) ?_)
 refine Xn U U U U U U ?_
 refine Qw SW U (PV x.1 y.1 _) U ?_
 rintro _ _ ⟨rfl,rfl⟩
 refine XQ (.cons (.inl ⟨rfl,(Qr U QL (hS3.cell 0 U U))⟩) (.cons (.inl ⟨rfl,(Qr U QL (hS3.cell 1 U U))⟩) (X1 (by kernel_rfl)))) ?_
 refine Xn U U U U U U ?_
 refine Qw SV U (Sv x.2 y.2 _) U ?_
 rintro _ _ ⟨rfl,rfl⟩
 refine XQ (X1 (by kernel_rfl)) ?_
 refine Xn U U U U U U ?_
 refine KC inC [Lib.compareBytes x.1 y.1,Lib.compareInt x.2 y.2] hS3 U Tryz.underlying47 Uc U U U U (by rfl) rfl ?_
 intro cc w4 hG4 hS4
 clear hS3
 refine XQ (X1 (by kernel_rfl)) ?_
 refine Xn U U U U U U ?_
 refine Qw SX U (or_sp (hS4.split [0] [true,false,false,false] U)) U ?_
 rintro _ _ ⟨rfl,rfl⟩
 refine XQ (X1 (by kernel_rfl)) ?_
 exact Za U U U (VC.nil (Qc (Qh [4] U (Qu (QR (.inr U) U U (⟨_,rfl,rfl,(hG1.trans hG2).trans (GrW.drew.trans hG4)⟩))))))
end Go.Proofs.YtkcjfoaejijdoaaGreatDoor
