/- leaves: set, give, replace -/
import Derived.Test.YtkcjfoaejijdoaaGreatDoorLv11
import Derived.Test.YtkcjfoaejijdoaaGreatDoorLv2
import Derived.Test.YtkcjfoaejijdoaaGreatDoorWa
import Derived.Test.YtkcjfoaejijdoaaGreatDoorLv10
import Derived.Test.YtkcjfoaejijdoaaGreatDoorLv1
import Derived.Test.YtkcjfoaejijdoaaGreatDoorSh3
import Derived.Shelf.SlSortCmp.NoneTotal
import Derived.Lib.Bytealg
import Derived.Lib.Small
set_option linter.unusedVariables false
set_option maxRecDepth 100000
set_option maxHeartbeats 80000000000
namespace Go.Proofs.YtkcjfoaejijdoaaGreatDoor
open Go.RowKit M
set_option linter.unusedSectionVars false
variable [Inhabited SlW]
section
variable {ex:Int→Int} {L L1 L':LvD} {V V1 V':VS} {id:Int} {t t1 t':TrD} {k:KD} {x y x1:LfD} {m Fr:Nat} {s a:Int}
theorem TouR.pg (hT:TouR L V id t k L1 V1 t1 x1) (j:Int):XT V1 j=XT V j:= by
  rcases hT with⟨_,_,rfl,_⟩ | ⟨_,a,_,_,_,rfl⟩
  · rfl
  · rw[Yq,Yq]
theorem TouR.pgs (hT:TouR L V id t k L1 V1 t1 x1):Pgs V V1:= by
  rcases hT with⟨_,_,rfl,_⟩ | ⟨_,a,_,_,_,rfl⟩
  · exact .refl
  · exact Pgs.ref.trans .ref
theorem TouR.stepX (hT:TouR L V id t k L1 V1 t1 x1) (ht:L.tr id=some t) (hI:LvX ex m L V) (hx:NN ex):StepX ex m L V ex m 0 1 L1 V1:= by
  obtain⟨h1,h2,h3,h4,h5⟩:=hT.invX ht hI hx
  exact⟨h1,hT.sp, fun c q=>(h4 c q).mono (by omega), fun c q=>hT.sz ht q,hT.pgs⟩
theorem Kg (hI:LvX ex m L V) (hx:NN ex) (hs:s≠0→1≤ex s) (f:Int→Bool):
    StepX ex m L V (fun j=>ex j -dl s j) m 0 1 {L with pres:=Zy L.pres k s,sh:=f} (Z2 V (L.pres k))∧Q8 {L with pres:=Zy L.pres k s,sh:=f} (Z2 V (L.pres k))={Q8 L V with pres:=Vn (Q8 L V).pres k (XT V s)}:= by
  obtain⟨h1,h2⟩:=setX (L':={L with pres:=Zy L.pres k s,sh:=f}) hI hx hs rfl rfl
  refine⟨⟨h1,rfl, fun c q=>q.unr.mono (by omega), fun c q=>q.add 0 k (fun j hj=> ?_) fun j u q y hj hq=> .inl ⟨u,y,hj,hq⟩,Pgs.unr hI.zero⟩,h2⟩
  by_cases e:j=k
  · right; rw[e]
  · simp only[Zy,if_neg e]at hj; exact .inl hj
theorem TS (hT:TouR L V id t k L1 V1 t1 x1) (ht:L.tr id=some t) (hI:LvX ex m L V) (hx:NN ex) (hs:s≠0→1≤ex s) {wr:BitVec 64} (f:Int→Bool)
    (hg:Sl {Zi (Q8 L V) id k with own:=XT V s,wr:=(Zi (Q8 L V) id k).wr ||| wr}):
    StepX ex m L V (fun j=>ex j -dl s j) m 0 1 (Zs {L1 with sh:=f} id t1 k {x1 with own:=s,wr:=x1.wr ||| wr}) (Z2 V1 x1.own)∧
    Q8 (Zs {L1 with sh:=f} id t1 k {x1 with own:=s,wr:=x1.wr ||| wr}) (Z2 V1 x1.own)=ZA (Q8 L V) id k {Zi (Q8 L V) id k with own:=XT V s,wr:=(Zi (Q8 L V) id k).wr ||| wr}:= by
  obtain⟨h1,h2,h3,h4,h5⟩:=hT.invX ht hI hx
  obtain⟨h6,h7⟩:=h1.same (L':={L1 with sh:=f}) rfl rfl
  have e:{Wy V1 x1 with own:=XT V1 s,rd:=x1.rd,wr:=x1.wr ||| wr}={Zi (Q8 L V) id k with own:=XT V s,wr:=(Zi (Q8 L V) id k).wr ||| wr}:= by
    rw[hT.pg,←h2];rfl
  obtain⟨h8,h9⟩:=ownX (L':=Zs {L1 with sh:=f} id t1 k {x1 with own:=s,wr:=x1.wr ||| wr}) (y:={x1 with own:=s,wr:=x1.wr ||| wr}) h6 hx hs (hT.tr ht) hT.lv rfl rfl rfl rfl (by rw[e]; exact hg)
  refine⟨⟨h8,hT.sp, fun c q=>(h4 c q).unr.mono (by omega), fun c q=>(hT.sz ht q).putOld (hT.tr ht) hT.lv rfl rfl,hT.pgs.trans (Pgs.unr h1.zero)⟩, ?_⟩
  rw[h9,h7,h3,Ut,e]
def allX (x:LfA) (c:Bs):LfA:={x with own:=c,wr:=BitVec.allOnes 64}
theorem Ny {x:LfA} {c:Bs}:Sl (allX x c):= fun j hj h=> by
  rw[show(allX x c).wr=BitVec.allOnes 64 from rfl,BitVec.getLsbD_allOnes]at h
  simp [hj]at h
theorem TQ (hI:LvX ex m L V) (hx:NN ex) (ha:XP V s) (ht:L.tr id=some t) (hl:t.lv k=some x) (f:Int→Bool):
    StepX ex m L V ex m 0 0 (Zs {L with sh:=f} id t k {x with own:=s,wr:=BitVec.allOnes 64}) (Z2 (refW V s) x.own)∧
    Q8 (Zs {L with sh:=f} id t k {x with own:=s,wr:=BitVec.allOnes 64}) (Z2 (refW V s) x.own)=ZA (Q8 L V) id k (allX (Wy V x) (XT V s)):= by
  obtain⟨h1,h2⟩:=hI.refW ha
  obtain⟨h6,h7⟩:=h1.same (L':={L with sh:=f}) rfl rfl
  have nn:NN (fun j=>ex j+dl s j):= fun j hj=> by
    show 0≤ex j+dl s j
    have :=hx j hj
    by_cases e:j=s
    · subst e; rw[Ww];omega
    · rw[Ju e];omega
  have e:({Wy (refW V s) x with own:=XT (refW V s) s,rd:=x.rd,wr:=BitVec.allOnes 64}:LfA)=allX (Wy V x) (XT V s):= by
    simp only[Wy,Yq];rfl
  obtain⟨h8,h9⟩:=ownX (L':=Zs {L with sh:=f} id t k {x with own:=s,wr:=BitVec.allOnes 64}) (y:={x with own:=s,wr:=BitVec.allOnes 64}) h6 nn (fun h0=> by show 1≤ex s+dl s s; rw[Ww]; have :=hx s h0;omega) ht hl rfl rfl rfl rfl (by rw[e]; exact Ny)
  refine⟨⟨h8.ext fun j _=>(by show ex j=ex j+dl s j -dl s j;omega),rfl, fun c q=>q.refW.unr.mono (by omega), fun c q=>q.putOld ht hl rfl rfl,Pgs.ref.trans (Pgs.unr h1.zero)⟩, ?_⟩
  rw[h9,h7,h2,e]
theorem R5 (hT:TouR L V id t k L1 V1 t1 x1) (ht:L.tr id=some t) (hI:LvX ex m L V) (hx:NN ex) (ha:XP V s) (f:Int→Bool):
    StepX ex m L V ex m 0 1 (Zs {L1 with sh:=f} id t1 k {x1 with own:=s,wr:=BitVec.allOnes 64}) (Z2 (refW V1 s) x1.own)∧
    Q8 (Zs {L1 with sh:=f} id t1 k {x1 with own:=s,wr:=BitVec.allOnes 64}) (Z2 (refW V1 s) x1.own)=ZA (Q8 L V) id k (allX (Zi (Q8 L V) id k) (XT V s)):= by
  obtain⟨h1,h2,h3,h4,h5⟩:=hT.invX ht hI hx
  have ha1:XP V1 s:= by
    rcases ha with e | e
    · exact .inl e
    · refine .inr ?_
      rcases hT with⟨_,_,rfl,_⟩ | ⟨_,a,_,_,_,rfl⟩
      · exact e
      · exact Ya.2 (Ya.2 e)
  obtain⟨h6,h7⟩:=TQ h1 hx ha1 (hT.tr ht) hT.lv f
  refine⟨(hT.stepX ht hI hx).trans h6, ?_⟩
  rw[h7,h3,Ut,h2,hT.pg]
theorem R6 (hI:LvX ex m L V) (hx:NN ex) (ha:XP V s) (f:Int→Bool):
    StepX ex m L V ex m 0 1 {L with pres:=Zy L.pres k s,sh:=f} (Z2 (refW V s) (L.pres k))∧Q8 {L with pres:=Zy L.pres k s,sh:=f} (Z2 (refW V s) (L.pres k))={Q8 L V with pres:=Vn (Q8 L V).pres k (XT V s)}:= by
  obtain⟨h1,h2⟩:=hI.refW ha
  have nn:NN (fun j=>ex j+dl s j):= fun j hj=> by
    show 0≤ex j+dl s j
    have :=hx j hj
    by_cases e:j=s
    · subst e; rw[Ww];omega
    · rw[Ju e];omega
  obtain⟨h3,h4⟩:=Kg (k:=k) h1 nn (fun h0=> by show 1≤ex s+dl s s; rw[Ww]; have :=hx s h0;omega) f
  refine⟨⟨h3.inv.ext fun j _=>(by show ex j=ex j+dl s j -dl s j;omega),rfl, fun c q=>(h3.al c q.refW),h3.sz,Pgs.ref.trans h3.pg⟩, ?_⟩
  rw[h4,h2,Yq]
end
theorem Cu {w:World} {b n Fr:Nat} {L:LvD} {V:VS} {F:Th} (hS:Sat w [ZY b L,Zq L.sp n Fr V,F]) (hn:n≤65000000000) (k:KD) (s:Int):Calls Tryz.prog 72 #[ptrV b 0,Xy k,intV s] w (Ret fun v w'=>v= .tuple #[]∧Sat w' [ZY b {L with pres:=Zy L.pres k s,sh:=Y1 V L.sh (L.pres k)},Zq L.sp (n+1) Fr (Z2 V (L.pres k)),F]):= by
  have h1:=XX hS
  refine(Oo (h1.split [0,1,4,5] [true,true,false,false,true,true,false] rfl) (by omega) k s).mono fun e w h=>h.mono fun v w h=> ?_
  obtain⟨rfl,h⟩:=h
  have h2:=h.join rfl
  exact⟨rfl,Xd (L:={L with pres:=Zy L.pres k s,sh:=Y1 V L.sh (L.pres k)}) (h2.reorder [0,1,4,5,2,3,6] rfl)⟩
theorem I6 {w:World} {ex:Int→Int} {m:Nat} {b n Fr:Nat} {L:LvD} {V:VS} {F:Th} (hS:Sat w [ZY b L,Zq L.sp n Fr V,F]) (hn:n≤60000000000) (hI:LvX ex m L V) (hx:NN ex) {s:Int} (hs:s≠0→1≤ex s) (k:KD) (wr:BitVec 64):
    Calls Tryz.prog 54 #[ptrV b 0,intV 0,Xy k,intV s,Zu wr] w (Ret fun v w'=> ∃L' V',StepX ex m L V (fun j=>ex j -dl s j) m 0 1 L' V'∧Q8 L' V'={Q8 L V with pres:=Vn (Q8 L V).pres k (XT V s)}∧OthK L L' 0 (fun q=>q=k)∧Sat w' [ZY b L',Zq L'.sp (n+4) Fr V',F]):= by
 refine Qq Tryz.func54 rfl Tryz.ntmps54 rfl ?_
 refine Qd (Qa (XU hS rfl rfl rfl ?_))
 intro kb w1 hS1
 replace hS1:=XM hS1
 refine Qf (Qc (Qd (Qd (Qa (Qb rfl rfl (QX rfl rfl rfl (Qf (Qc (Qs rfl (fun h2=> ?_) (fun h2=> ?_))))))))))
 ·refine Qd (Qa (Qb rfl rfl ?_))
  refine XA rfl X9 Xh (by first | exact hS1.blk 0 rfl) (by first | decide | exact Xn rfl | (simp;done) | omega) rfl rfl ?_
  refine Qb rfl rfl (Qv MH rfl (Cu (hS1.sp [1,2] rfl) (by omega) k s) rfl ?_)
  rintro _ w3 ⟨rfl,hS3⟩
  replace hS3:=hS3.jn rfl rfl
  clear hS1
  exact Qf (Qc (Qi [4,3,1,0,7] rfl (Qu (Qn (ZB (.inr rfl) rfl (⟨_,rfl,_,_,(Kg hI hx hs (Y1 V L.sh (L.pres k))).1,(Kg hI hx hs (Y1 V L.sh (L.pres k))).2,Oq,(X1 (m:=n+4) (by omega) (hS3.pick [1,0,3] rfl)).reorder [1,0,2] rfl⟩))))))
 exact absurd rfl h2
theorem I5 {w:World} {ex:Int→Int} {m:Nat} {b n Fr:Nat} {L:LvD} {V:VS} {F:Th} (hS:Sat w [ZY b L,Zq L.sp n Fr V,F]) (hn:n≤60000000000) (hI:LvX ex m L V) (hx:NN ex) (hm:m<Zp) {id:Int} {t:TrD} (ht:L.tr id=some t) {s:Int} (hs:s≠0→1≤ex s) (k:KD) (wr:BitVec 64) (hg:Sl {Zi (Q8 L V) id k with own:=XT V s,wr:=(Zi (Q8 L V) id k).wr ||| wr}):
    Calls Tryz.prog 54 #[ptrV b 0,intV id,Xy k,intV s,Zu wr] w (Ret fun v w'=> ∃L' V',StepX ex m L V (fun j=>ex j -dl s j) m 0 1 L' V'∧Q8 L' V'=ZA (Q8 L V) id k {Zi (Q8 L V) id k with own:=XT V s,wr:=(Zi (Q8 L V) id k).wr ||| wr}∧OthK L L' id (fun q=>q=k)∧Sat w' [ZY b L',Zq L'.sp (n+4) Fr V',F]):= by
 have h0:id≠0:=hI.rank.none0 ht
 refine Qq Tryz.func54 rfl Tryz.ntmps54 rfl ?_
 refine Qd (Qa (XU hS rfl rfl rfl ?_))
 intro kb w1 hS1
 replace hS1:=XM hS1
 refine Qf (Qc (Qd (Qd (Qa (Qb rfl rfl (QX rfl rfl rfl (Qf (Qc (Qs rfl (fun h2=> ?_) (fun h2=> ?_))))))))))
 ·exact absurd h2 h0
 refine Qr (Qc (Qd (Qa (Qb rfl rfl (Qb rfl rfl ?_)))))
 refine XA rfl X9 Xh (by first | exact hS1.blk 0 rfl) (by first | decide | exact Xn rfl | (simp;done) | omega) rfl rfl ?_
 refine Qv Bd rfl (Uo (hS1.sp [1,2] rfl) (by omega) (hI.rank.ends hm) ht (k:=k)) rfl ?_
 rintro _ w3 ⟨L1,V1,t1,x1,rfl,hT,hS3⟩
 replace hS3:=hS3.jn rfl rfl
 clear hS1
 have ht1:=hT.tr ht
 have hx1:=hT.lv
 refine Qe rfl rfl (Qf (Qc (Qi [4,3,0,10] rfl (Qd ?_))))
 have hS4:=Yu ht1 hx1 (hS3.pick [0,1,2,3] rfl)
 refine Qa (Qb rfl rfl (Qb rfl rfl (Qk rfl rfl (Qg rfl Jt rfl (Qo rfl QO (hS4.cell 0 rfl rfl) rfl (Qv UX rfl (UF (hS4.sp [6,9,10] rfl) (by omega) x1.own) rfl ?_))))))
 rintro _ w5 ⟨rfl,hS5⟩
 replace hS5:=hS5.jn rfl rfl
 clear hS4
 refine Qf (Qc (Qd (Qa (Qb rfl rfl (Qb rfl rfl (Qk rfl rfl (Qg rfl Jt rfl (QL hS5 rfl rfl Ug rfl (i:=3) rfl (Xn rfl) ?_))))))))
 intro w6 hS6; dsimp only[List.set]at hS6
 clear hS5
 refine Qf (Qc (Qi [4,10] rfl (Qa (Qb rfl rfl (Qk rfl rfl (Qg rfl W8 rfl (Qo rfl Y0 (hS6.cell 3 rfl rfl) rfl (Qb rfl rfl (wl_or64 rfl rfl rfl (Qk rfl rfl (Qg rfl W8 rfl (QL hS6 rfl rfl Br rfl (i:=3) rfl (Xn rfl) ?_))))))))))))
 intro w7 hS7; dsimp only[List.set]at hS7
 clear hS6
 refine Qf (ZB (.inl rfl) rfl ?_)
 have hS8:=Jb (L:={L1 with sh:=Y1 V1 L1.sh x1.own}) (y:={x1 with own:=s,wr:=x1.wr ||| wr}) ht1 hx1 rfl (hS7.pick [3,4,5,6,7,8,0,9,10,1,2,11,12] rfl)
 exact⟨_,rfl,_,_,(TS hT ht hI hx hs (Y1 V1 L1.sh x1.own) hg).1,(TS hT ht hI hx hs (Y1 V1 L1.sh x1.own) hg).2,hT.othK ht rfl rfl,(X1 (m:=n+4) (by omega) (hS8.pick [1,0,3] rfl)).reorder [1,0,2] rfl⟩
theorem Pc {w:World} {ex:Int→Int} {m:Nat} {b n Fr:Nat} {L:LvD} {V:VS} {F:Th} (hS:Sat w [ZY b L,Zq L.sp n Fr V,F]) (hn:n≤60000000000) (hI:LvX ex m L V) (hx:NN ex) {s:Int} (ha:XP V s) (k:KD):
    Calls Tryz.prog 103 #[ptrV b 0,intV 0,Xy k,intV s] w (Ret fun v w'=> ∃L' V',StepX ex m L V ex m 0 1 L' V'∧Q8 L' V'={Q8 L V with pres:=Vn (Q8 L V).pres k (XT V s)}∧L'.pres=Zy L.pres k s∧Sat w' [ZY b L',Zq L'.sp (n+4) Fr V',F]):= by
 refine Qq Tryz.func103 rfl Tryz.ntmps103 rfl ?_
 refine Qd (Qa (XU hS rfl rfl rfl ?_))
 intro kb w1 hS1
 replace hS1:=XM hS1
 refine Qf (Qc (Qd (Qd (Qa (Qb rfl rfl (QX rfl rfl rfl (Qf (Qc (Qs rfl (fun h2=> ?_) (fun h2=> ?_))))))))))
 ·refine Qd ?_
  have hS3:=XX (hS1.pick [1,0,2,3] rfl)
  refine Qa (Qb rfl rfl (Qb rfl rfl (Qv MI rfl (Pd (hS3.sp [0,4,6] rfl) (by omega) s) rfl ?_)))
  rintro _ w4 ⟨rfl,hS4⟩
  replace hS4:=hS4.jn rfl rfl
  clear hS3
  refine Qf (Qc (Qd ?_))
  have hS5:=Xd (L:={L with sh:=Y2 L.sh s}) (hS4.pick [0,3,4,5,1,2,6,7] rfl)
  refine Qa (Qb rfl rfl ?_)
  refine XA rfl X9 Xh (by first | exact hS5.blk 2 rfl) (by first | decide | exact Xn rfl | (simp;done) | omega) rfl rfl ?_
  refine Qb rfl rfl (Qv MH rfl (Cu (L:={L with sh:=Y2 L.sh s}) (hS5.sp [0,1] rfl) (by omega) k s) rfl ?_)
  rintro _ w6 ⟨rfl,hS6⟩
  replace hS6:=hS6.jn rfl rfl
  clear hS5
  exact Qf (Qc (Qi [3,1,0,6] rfl (Qu (Qn (ZB (.inr rfl) rfl (⟨_,rfl,_,_,(R6 hI hx ha _).1,(R6 hI hx ha _).2,rfl,(X1 (m:=n+4) (by omega) (hS6.pick [1,0,3] rfl)).reorder [1,0,2] rfl⟩))))))
 exact absurd rfl h2
theorem Pb {w:World} {ex:Int→Int} {m:Nat} {b n Fr:Nat} {L:LvD} {V:VS} {F:Th} (hS:Sat w [ZY b L,Zq L.sp n Fr V,F]) (hn:n≤60000000000) (hI:LvX ex m L V) (hx:NN ex) (hm:m<Zp) {id:Int} {t:TrD} (ht:L.tr id=some t) {s:Int} (ha:XP V s) (k:KD):
    Calls Tryz.prog 103 #[ptrV b 0,intV id,Xy k,intV s] w (Ret fun v w'=> ∃L' V',StepX ex m L V ex m 0 1 L' V'∧Q8 L' V'=ZA (Q8 L V) id k (allX (Zi (Q8 L V) id k) (XT V s))∧Sat w' [ZY b L',Zq L'.sp (n+4) Fr V',F]):= by
 have h0:id≠0:=hI.rank.none0 ht
 refine Qq Tryz.func103 rfl Tryz.ntmps103 rfl ?_
 refine Qd (Qa (XU hS rfl rfl rfl ?_))
 intro kb w1 hS1
 replace hS1:=XM hS1
 refine Qf (Qc (Qd (Qd (Qa (Qb rfl rfl (QX rfl rfl rfl (Qf (Qc (Qs rfl (fun h2=> ?_) (fun h2=> ?_))))))))))
 ·exact absurd h2 h0
 refine Qr (Qc (Qd (Qa (Qb rfl rfl (Qb rfl rfl ?_)))))
 refine XA rfl X9 Xh (by first | exact hS1.blk 0 rfl) (by first | decide | exact Xn rfl | (simp;done) | omega) rfl rfl ?_
 refine Qv Bd rfl (Uo (hS1.sp [1,2] rfl) (by omega) (hI.rank.ends hm) ht (k:=k)) rfl ?_
 rintro _ w3 ⟨L1,V1,t1,x1,rfl,hT,hS3⟩
 replace hS3:=hS3.jn rfl rfl
 clear hS1
 have ht1:=hT.tr ht
 have hx1:=hT.lv
 refine Qe rfl rfl (Qf (Qc (Qi [3,0,8] rfl (Qd ?_))))
 have hS4:=Yu ht1 hx1 (hS3.pick [0,1,2,3] rfl)
 refine Qa (Qb rfl rfl (Qb rfl rfl (Qk rfl rfl (Qg rfl Jt rfl (Qb rfl rfl (Qv qat rfl (I3 (hS4.sp [6,9,10,0] rfl) (by omega) s) rfl ?_))))))
 rintro _ w5 ⟨rfl,hS5⟩
 replace hS5:=hS5.jn rfl rfl
 clear hS4
 refine Qf (Qc (Qa (Qb rfl rfl (Qk rfl rfl (Qg rfl W8 rfl (QL (v:=Zu (BitVec.allOnes 64)) hS5 rfl rfl Br rfl (i:=3) rfl (Xn rfl) ?_))))))
 intro w6 hS6; dsimp only[List.set]at hS6
 clear hS5
 refine Qf (ZB (.inl rfl) rfl ?_)
 have hS7:=Jb (L:={L1 with sh:=Y1 (refW V1 s) (Y2 L1.sh s) x1.own}) (y:={x1 with own:=s,wr:=BitVec.allOnes 64}) ht1 hx1 rfl (hS6.pick [3,4,5,6,7,8,0,9,10,1,2,11,12] rfl)
 exact⟨_,rfl,_,_,(R5 hT ht hI hx ha _).1,(R5 hT ht hI hx ha _).2,(X1 (m:=n+4) (by omega) (hS7.pick [1,0,3] rfl)).reorder [1,0,2] rfl⟩
end Go.Proofs.YtkcjfoaejijdoaaGreatDoor
namespace Go.Proofs.YtkcjfoaejijdoaaGreatDoor
open Go.RowKit M
set_option linter.unusedSectionVars false
variable [Inhabited SlW]
theorem kl_it {w:World} {l c b:Nat} {g:KD→Option Value} {J:List KD→Th} {F:Th} (hS:Sat w [J [],QF c [.map (some b)],Q3 Xy b g,F]) (hY:Ua Tryz.prog l Xy (okC g) J):
    Calls Tryz.prog 163 #[.func (.yield l) #[] #[],ptrV c 0] w (Ret fun v w'=> ∃ks,AllC g ks∧Sat w' [J ks,QF c [.map (some b)],Q3 Xy b g,F]):= by
 refine Qq Tryz.func163 rfl Tryz.ntmps163 rfl ?_
 refine Qd (Qa (Qo rfl JH (by first | assumption | exact hS.cell 1 rfl rfl) rfl ?_))
 refine Jx 2 hS Tryz.underlying90 rfl rfl rfl ?_
 intro RR left0 wR hSR; dsimp only[List.set]at hSR
 refine Qf (Qc (Qw (Xe (fun K0 E0 W0=> ∃(dn:KD→Prop) (cur:Option KD) (left:Nat) (ks:List KD),K0=1*left∧E0=[(0,.func (.yield l) #[] #[]),(5,ptrV RR 0)]∧Sat W0 [J ks,J2 Xy b RR g dn cur left,QF c [.map (some b)],F]∧(CSt g dn ks)) (L0:=[(0,_),(5,_)]) (1*left0) (Du rfl rfl) ⟨_,_,_,_,rfl,rfl,hSR.reorder [0,2,1,3] rfl,CSt.start g⟩ ?_)))
 rintro _ _ w1 ⟨dn,cur,left,ks,rfl,rfl,hS1,hcs⟩
 refine Qd (Qa (Yh 1 hS1 keysKey.inj rfl rfl rfl (fun hdone=> ?_) (fun k v left2 w2 hleft hgk hnd hS2=> ?_)))
 ·refine Qt rfl rfl rfl (Qf (Qc (Qd (QV rfl (QS (Qp (Qp (Qz (ZB (.inl rfl) rfl ?_)))))))))
  exact⟨_,rfl,ks,hcs.all hdone, by have hSz:=WG (hS1.reorder [1,0,2,3] rfl); exact hSz.reorder [1,2,0,3] rfl⟩
 dsimp only[List.set]at hS2
 refine Qt rfl rfl rfl (Qf (Qc (Qd (Xr rfl (Qr (Qc (Qw (Qd (Qa (Jy 1 hS2 rfl hgk rfl rfl (Qt rfl rfl rfl (Xg hS2 ZM rfl rfl ?_))))))))))))
 intro bk wq1 hq1
 refine QY hq1 rfl rfl Xh rfl (by rfl) (i:=0) rfl (by decide) ?_
 intro wq2 hq2; dsimp only[List.set]at hq2
 replace hq2:=XM (k:=k) hq2
 refine Qf (Qc (Qd (Jz (XC rfl (Xa rfl) (XC rfl (XE rfl X9 Xh (hq2.blk 0 rfl) (Xn rfl) rfl) ?_)))))
 have hSy:=hq2.sp [1] rfl
 refine Ul rfl rfl rfl (hY _ _ _ _ (hcs.ok hnd hgk) hSy) ?_
 intro w5 hS5; replace hS5:=hS5.jn rfl rfl
 refine XC rfl (UW rfl) (HM (Qc (Qi [5,0,13] rfl (QV rfl (Qr (Ql ?_))))))
 have hSz:=hS5.pick [0,2,3,4] rfl; dsimp only[JU,H6]at hSz
 exact Q6 (L1:=[(0,_),(5,_)]) (Du rfl rfl) (k1:=1*left2) (by omega) ⟨_,_,_,_,rfl,rfl,hSz,hcs.step hnd hgk⟩
theorem kl_sp {w:World} {v0:Value} {F:Th} (hS:Sat w [F]) (h0:v0.oneCell'=true):
    Calls Tryz.prog 110 #[v0] w (Ret fun v w'=> ∃c,v= .func (.func 163) #[] #[ptrV c 0]∧Sat w' [QF c v0.cells.toList,F]):= by
 refine Qq Tryz.func110 rfl Tryz.ntmps110 rfl ?_
 refine Qd (Qa (XU hS rfl rfl rfl ?_))
 intro b1 w1 hS1
 exact Qe rfl rfl (Qf (Qc (Qd (Qa (ZX rfl rfl (Qe rfl rfl (Qf (Qc (Qu (QQ (.inr rfl) rfl rfl (⟨_,rfl,_,rfl,hS1⟩)))))))))))
theorem kp_it {w:World} {l c b:Nat} {g:KD→Option Value} {J:List KD→Th} {F:Th} (hS:Sat w [J [],QF c [.map (some b)],Q3 Xy b g,F]) (hY:Ua Tryz.prog l Xy (okC g) J):
    Calls Tryz.prog 175 #[.func (.yield l) #[] #[],ptrV c 0] w (Ret fun v w'=> ∃ks,AllC g ks∧Sat w' [J ks,QF c [.map (some b)],Q3 Xy b g,F]):= by
 refine Qq Tryz.func175 rfl Tryz.ntmps175 rfl ?_
 refine Qd (Qa (Qo rfl B9 (by first | assumption | exact hS.cell 1 rfl rfl) rfl ?_))
 refine Jx 2 hS Tryz.underlying81 rfl rfl rfl ?_
 intro RR left0 wR hSR; dsimp only[List.set]at hSR
 refine Qf (Qc (Qw (Xe (fun K0 E0 W0=> ∃(dn:KD→Prop) (cur:Option KD) (left:Nat) (ks:List KD),K0=1*left∧E0=[(0,.func (.yield l) #[] #[]),(5,ptrV RR 0)]∧Sat W0 [J ks,J2 Xy b RR g dn cur left,QF c [.map (some b)],F]∧(CSt g dn ks)) (L0:=[(0,_),(5,_)]) (1*left0) (Du rfl rfl) ⟨_,_,_,_,rfl,rfl,hSR.reorder [0,2,1,3] rfl,CSt.start g⟩ ?_)))
 rintro _ _ w1 ⟨dn,cur,left,ks,rfl,rfl,hS1,hcs⟩
 refine Qd (Qa (Yh 1 hS1 keysKey.inj rfl rfl rfl (fun hdone=> ?_) (fun k v left2 w2 hleft hgk hnd hS2=> ?_)))
 ·refine Qt rfl rfl rfl (Qf (Qc (Qd (QV rfl (QS (Qp (Qp (Qz (ZB (.inl rfl) rfl ?_)))))))))
  exact⟨_,rfl,ks,hcs.all hdone, by have hSz:=WG (hS1.reorder [1,0,2,3] rfl); exact hSz.reorder [1,2,0,3] rfl⟩
 dsimp only[List.set]at hS2
 refine Qt rfl rfl rfl (Qf (Qc (Qd (Xr rfl (Qr (Qc (Qw (Qd (Qa (Jy 1 hS2 rfl hgk rfl rfl (Qt rfl rfl rfl (Xg hS2 ZM rfl rfl ?_))))))))))))
 intro bk wq1 hq1
 refine QY hq1 rfl rfl Xh rfl (by rfl) (i:=0) rfl (by decide) ?_
 intro wq2 hq2; dsimp only[List.set]at hq2
 replace hq2:=XM (k:=k) hq2
 refine Qf (Qc (Qd (Jz (XC rfl (Xa rfl) (XC rfl (XE rfl X9 Xh (hq2.blk 0 rfl) (Xn rfl) rfl) ?_)))))
 have hSy:=hq2.sp [1] rfl
 refine Ul rfl rfl rfl (hY _ _ _ _ (hcs.ok hnd hgk) hSy) ?_
 intro w5 hS5; replace hS5:=hS5.jn rfl rfl
 refine XC rfl (UW rfl) (HM (Qc (Qi [5,0,13] rfl (QV rfl (Qr (Ql ?_))))))
 have hSz:=hS5.pick [0,2,3,4] rfl; dsimp only[JU,H6]at hSz
 exact Q6 (L1:=[(0,_),(5,_)]) (Du rfl rfl) (k1:=1*left2) (by omega) ⟨_,_,_,_,rfl,rfl,hSz,hcs.step hnd hgk⟩
theorem kp_sp {w:World} {v0:Value} {F:Th} (hS:Sat w [F]) (h0:v0.oneCell'=true):
    Calls Tryz.prog 125 #[v0] w (Ret fun v w'=> ∃c,v= .func (.func 175) #[] #[ptrV c 0]∧Sat w' [QF c v0.cells.toList,F]):= by
 refine Qq Tryz.func125 rfl Tryz.ntmps125 rfl ?_
 refine Qd (Qa (XU hS rfl rfl rfl ?_))
 intro b1 w1 hS1
 exact Qe rfl rfl (Qf (Qc (Qd (Qa (ZX rfl rfl (Qe rfl rfl (Qf (Qc (Qu (QQ (.inr rfl) rfl rfl (⟨_,rfl,_,rfl,hS1⟩)))))))))))
theorem kd_it {w:World} {l c b:Nat} {g:Bs→Option Value} {J:List Bs→Th} {F:Th} (hS:Sat w [J [],QF c [.map (some b)],Q3 Xp b g,F]) (hY:Ua Tryz.prog l Xp (okC g) J):
    Calls Tryz.prog 118 #[.func (.yield l) #[] #[],ptrV c 0] w (Ret fun v w'=> ∃ks,AllC g ks∧Sat w' [J ks,QF c [.map (some b)],Q3 Xp b g,F]):= by
 refine Qq Tryz.func118 rfl Tryz.ntmps118 rfl ?_
 refine Qd (Qa (Qo rfl Ck (by first | assumption | exact hS.cell 1 rfl rfl) rfl ?_))
 refine Jx 2 hS Tryz.underlying91 rfl rfl rfl ?_
 intro RR left0 wR hSR; dsimp only[List.set]at hSR
 refine Qf (Qc (Qw (Xe (fun K0 E0 W0=> ∃(dn:Bs→Prop) (cur:Option Bs) (left:Nat) (ks:List Bs),K0=1*left∧E0=[(0,.func (.yield l) #[] #[]),(5,ptrV RR 0)]∧Sat W0 [J ks,J2 Xp b RR g dn cur left,QF c [.map (some b)],F]∧(CSt g dn ks)) (L0:=[(0,_),(5,_)]) (1*left0) (Du rfl rfl) ⟨_,_,_,_,rfl,rfl,hSR.reorder [0,2,1,3] rfl,CSt.start g⟩ ?_)))
 rintro _ _ w1 ⟨dn,cur,left,ks,rfl,rfl,hS1,hcs⟩
 refine Qd (Qa (Yh 1 hS1 keysStr.inj rfl rfl rfl (fun hdone=> ?_) (fun k v left2 w2 hleft hgk hnd hS2=> ?_)))
 ·refine Qt rfl rfl rfl (Qf (Qc (Qd (QV rfl (QS (Qp (Qp (Qz (ZB (.inl rfl) rfl ?_)))))))))
  exact⟨_,rfl,ks,hcs.all hdone, by have hSz:=WG (hS1.reorder [1,0,2,3] rfl); exact hSz.reorder [1,2,0,3] rfl⟩
 dsimp only[List.set]at hS2
 refine Qt rfl rfl rfl (Qf (Qc (Qd (Xr rfl (Qr (Qc (Qw (Qd (Qa (Jy 1 hS2 rfl hgk rfl rfl (Qt rfl rfl rfl (Qe rfl rfl (Qf (Qc (Qd (Jz (XC rfl (Xa rfl) (XC rfl (Xa rfl) (Ul rfl rfl rfl (hY _ _ _ _ (hcs.ok hnd hgk) (hS2.sp [0] rfl)) ?_)))))))))))))))))))
 intro w5 hS5; replace hS5:=hS5.jn rfl rfl
 refine XC rfl (UW rfl) (HM (Qc (Qi [5,0,13] rfl (QV rfl (Qr (Ql ?_))))))
 have hSz:=hS5.reorder [0,1,2,3] rfl; dsimp only[JU,H6]at hSz
 exact Q6 (L1:=[(0,_),(5,_)]) (Du rfl rfl) (k1:=1*left2) (by omega) ⟨_,_,_,_,rfl,rfl,hSz,hcs.step hnd hgk⟩
theorem kd_sp {w:World} {v0:Value} {F:Th} (hS:Sat w [F]) (h0:v0.oneCell'=true):
    Calls Tryz.prog 52 #[v0] w (Ret fun v w'=> ∃c,v= .func (.func 118) #[] #[ptrV c 0]∧Sat w' [QF c v0.cells.toList,F]):= by
 refine Qq Tryz.func52 rfl Tryz.ntmps52 rfl ?_
 refine Qd (Qa (XU hS rfl rfl rfl ?_))
 intro b1 w1 hS1
 exact Qe rfl rfl (Qf (Qc (Qd (Qa (ZX rfl rfl (Qe rfl rfl (Qf (Qc (Qu (QQ (.inr rfl) rfl rfl (⟨_,rfl,_,rfl,hS1⟩)))))))))))
def ItK (g:KD→Option Value) (gf:Nat) (caps:List Value) (It:Th):Prop:= ∀(l:Nat) (J:List KD→Th) (X:Th) (w:World),Sat w [J [],It,X]→Ua Tryz.prog l Xy (okC g) J→Calls Tryz.prog gf (.func (.yield l) #[] #[]::caps).toArray w (Ret fun _ w'=> ∃ks,AllC g ks∧Sat w' [J ks,It,X])
def JK (l D b:Nat) (rec:Loop) (ks:List KD):Th:=CG fun v:Value=>starL [Js l rec,Ws D,QF b [v],rowT kC v ks]
theorem appK {w:World} {g:KD→Option Value} {It F:Th} {gf:Nat} {caps:List Value} (hS:Sat w [It,F]) (hcal:QH Tryz.prog gf=true) (hIt:ItK g gf caps It) (hlen: ∀ks,Came g ks→ks.length≤100000000000):
    Calls Tryz.prog 189 [.slice none 0 0,.func (.func gf) #[] caps.toArray].toArray w (Ret fun v w'=> ∃ks,AllC g ks∧Sat w' [rowT kC v ks,It,F]):= by
 refine Hl Tryz.func189 rfl Tryz.ntmps189 rfl ?_
 refine Qd (Qa (XU hS rfl rfl rfl ?_))
 intro b1 w1 hS1
 refine Qe rfl rfl (Qf (Qc (Qd (Qd (Qa (Qb rfl rfl (Qf (Qc (Qw (Hg (caps:=caps) rfl hcal ?_))))))))))
 intro rec hr1 hr2 hr3 hr4 hr5 htn htf
 have hE:=((hS1.enter_loop rec).row_nil kC)
 have hE2:=hE.sp [1,2,3,0] rfl
 have hJ0:=Sat.ex_intro (f:= fun v:Value=>starL [Js _ _,Ws _,QF _ [v],rowT kC v []]) _ (Sat.fold (As:=[Js _ _,Ws _,QF _ [_],rowT kC _ []]) hE2)
 refine(hIt _ (JK _ _ _ _) _ _ (hJ0.join rfl) ?_).mono ?_
 ·intro ks k R w2 hok hw2
  obtain⟨v,hw3⟩:=hw2.ex
  have hw4:=hw3.flat; dsimp only[Ds,Dr]at hw4
  have hl1:=hlen _ hok
  simp only[List.length_append,List.length_cons,List.length_nil]at hl1
  refine Dv (hw4.loop 0 rfl) hr1 hr2 hr3 hr4 hr5 htn htf rfl (by intro o ho c; simp at ho; rcases ho with rfl | rfl<;> simp) (by intro o ho c; simp at ho; rcases ho with rfl | rfl | rfl | rfl | rfl<;> simp) ?_
  intro QA hA
  refine Xg hw4 ZM rfl rfl ?_
  intro bk wk1 hq1
  refine QY hq1 rfl rfl Xh rfl (by rfl) (i:=0) rfl (by decide) ?_
  intro wk2 hq2; dsimp only[List.set]at hq2
  replace hq2:=XM (k:=k) hq2
  refine Qf (hA _ _ (hq2.loop 1 rfl) ?_)
  intro QB hB
  have h1v:v.oneCell'=true:=hq2.own_one 4 rfl
  have hw5:=hq2.loop_put 1 rfl (rec':={rec with state:= .busy}); dsimp only[List.set]at hw5
  refine Qo rfl ag_98 (hw5.cell 3 rfl rfl) rfl (XA rfl X9 Xh (hw5.blk 0 rfl) (Xn rfl) rfl rfl (Z4 kC [k] hw5 rfl Tryz.underlying98 ifz_76 rfl rfl rfl rfl (by rfl) rfl ?_))
  intro b3 w3 hw6
  refine W3 kC 5 hw6 rfl rfl rfl (hw6.rd 0 rfl (by simp)) Tryz.underlying98 Tryz.underlying98 (by intro k hk; cases hk) ifo_76 rfl (by simp;omega) rfl (by simp;omega) ?_
  intro v4 w4 hw7; dsimp only[List.set]at hw7
  have h1v4:v4.oneCell'=true:=hw7.own_one 5 rfl
  refine QL hw7 rfl rfl sz_98 h1v4 (i:=4) rfl (by simp) ?_
  intro w5 hw8; dsimp only[List.set]at hw8
  refine Qf (hB _ _ (hw8.loop 2 rfl) ?_)
  have hw9:=hw8.loop_put 2 rfl (rec':=rec); dsimp only[List.set]at hw9
  exact(Sat.ex_intro (f:= fun v:Value=>starL [Js _ _,Ws _,QF _ [v],rowT kC v (ks++[k])]) v4 (Sat.fold (As:=[Js _ _,Ws _,QF _ [_],rowT kC _ _]) (hw9.pick [2,3,4,5,6] rfl)))
 ·rintro e w3 ⟨v0,rfl,ks,hall,hw3⟩
  obtain⟨v,hw4⟩:=hw3.ex
  have hw5:=hw4.flat; dsimp only[Ds,Dr]at hw5
  refine⟨⟨v0,rfl⟩,rec,hw5.loop 0 rfl, by rw[hr1]; simp,hr2, ?_⟩
  intro a ha1 ha2
  have hw6:=hw5.loop_put 0 rfl (rec':={rec with state:= .exhausted}); dsimp only[List.set]at hw6
  obtain⟨hD,hw7⟩:=hw6.defer_put (o:= .deferred none) 1 rfl
  dsimp only[List.eraseIdx]at hw7
  refine DE (n:=13) (by rw[ha1]; exact htn) (by rw[ha1]; exact htf) ha2 rfl ag_98 (hw6.cell 2 rfl rfl) hD rfl rfl rfl ?_
  exact⟨_,rfl,ks,hall,hw7.pick [2,3,4] rfl⟩
def keysTkl (c b:Nat) (g:KD→Option Value):Th:=starL [QF c [.map (some b)],Q3 Xy b g]
theorem itkl (c b:Nat) (g:KD→Option Value):ItK g 163 [ptrV c 0] (keysTkl c b g):= fun l J X w hS hY=> by
  have h1:=(hS.perm (List.Perm.swap _ _ _)).flat; dsimp only[Ds,Dr]at h1
  refine(kl_it (h1.reorder [2,0,1,3] rfl) hY).mono fun e w' h=>h.mono fun v w' ⟨ks,h2,h3⟩=>⟨ks,h2, ?_⟩
  exact(Sat.fold (As:=[QF c [.map (some b)],Q3 Xy b g]) (h3.reorder [1,2,0,3] rfl)).perm (List.Perm.swap _ _ _)
def keysTkp (c b:Nat) (g:KD→Option Value):Th:=starL [QF c [.map (some b)],Q3 Xy b g]
theorem itkp (c b:Nat) (g:KD→Option Value):ItK g 175 [ptrV c 0] (keysTkp c b g):= fun l J X w hS hY=> by
  have h1:=(hS.perm (List.Perm.swap _ _ _)).flat; dsimp only[Ds,Dr]at h1
  refine(kp_it (h1.reorder [2,0,1,3] rfl) hY).mono fun e w' h=>h.mono fun v w' ⟨ks,h2,h3⟩=>⟨ks,h2, ?_⟩
  exact(Sat.fold (As:=[QF c [.map (some b)],Q3 Xy b g]) (h3.reorder [1,2,0,3] rfl)).perm (List.Perm.swap _ _ _)
theorem colK {w:World} {g:KD→Option Value} {It F:Th} {gf:Nat} {caps:List Value} (hS:Sat w [It,F]) (hcal:QH Tryz.prog gf=true) (hIt:ItK g gf caps It) (hlen: ∀ks,Came g ks→ks.length≤100000000000):
    Calls Tryz.prog 161 #[.func (.func gf) #[] caps.toArray] w (Ret fun v w'=> ∃ks,AllC g ks∧Sat w' [rowT kC v ks,It,F]):= by
 refine Qq Tryz.func161 rfl Tryz.ntmps161 rfl ?_
 refine Qd (Qa (Qe rfl rfl (Qf (Qc (Qd (Qa (Qb rfl rfl (Qv cal_189 rfl (appK (hS.sp [0] rfl) hcal hIt hlen) rfl ?_))))))))
 rintro _ w1 ⟨ks,hks,hS1⟩
 replace hS1:=hS1.jn rfl rfl
 have h1v:=hS1.own_one 0 rfl
 exact Qe rfl rfl (Qf (Qc (Qu (QQ (.inr rfl) rfl rfl (⟨_,rfl,ks,hks,hS1⟩)))))
end Go.Proofs.YtkcjfoaejijdoaaGreatDoor
namespace Go.Proofs.YtkcjfoaejijdoaaGreatDoor
open Go.RowKit M
set_option linter.unusedSectionVars false
variable [Inhabited SlW]
def orI (a b:Int):Int:= if a≠0 then a else b
theorem or_step {l:List Int} {i:Nat} {x:Int} (hz: ∀q,q<i→l[q]? =some 0) (hx:l[i]? =some x) (h0:x=0): ∀q,q<i+1→l[q]? =some 0:= fun q hq=> by
  rcases Nat.lt_or_ge q i with h | h
  · exact hz q h
  · have :q=i:= by omega
    subst this; rw[hx,h0]
theorem or_sp {w:World} {c:Nat} {a b:Int} {F:Th} (hS:Sat w [rowT inC (.slice (some ⟨c,0,none⟩) 2 2) [a,b],F]):
    Calls Tryz.prog 112 #[.slice (some ⟨c,0,none⟩) 2 2] w (Ret fun v w'=>v=intV (orI a b)∧w'=w):= by
 refine Qq Tryz.func112 rfl Tryz.ntmps112 rfl ?_
 refine Qd (Qa (Qe rfl rfl (Qf (Qc (Qd (Qa (Qe rfl rfl (Qf (Qc (Qd (Qd (Qa (Qb rfl rfl ?_)))))))))))))
 first | refine X5 Tryz.underlying47 rfl rfl ?_ | refine JB 0 hS Tryz.underlying47 rfl rfl rfl ?_
 refine Qb rfl rfl (Qf (Qc (Qw (Xe (fun K0 E0 W0=> ∃(i:Nat),K0=2 -i∧E0=[(3,intV 0),(6,.slice (some ⟨c,0,none⟩) 2 2),(7,intV 2),(8,intV (i:Int))]∧Sat W0 [rowT inC (.slice (some ⟨c,0,none⟩) 2 2) [a,b],F]∧(W0=w)∧(i≤2)∧(∀q,q<i→[a,b][q]? =some 0)) (L0:=[(3,_),(6,_),(7,_),(8,_)]) (2) (Vk rfl rfl rfl rfl) ⟨0, by omega,rfl,hS,rfl, by omega, fun q hq=>absurd hq (by omega)⟩ ?_))))
 rintro _ _ w1 ⟨i,rfl,rfl,hS1,hw0,hi,hz⟩
 refine Qd (Qa (Xb rfl rfl rfl (Qf (Qc (Qd (Qs rfl (fun h2=> ?_) (fun h2=> ?_)))))))
 ·obtain⟨xi,hxi⟩: ∃xi,[a,b][i]? =some xi:=⟨_,Zd (by simp;omega)⟩
  refine Qr (Qc (Qd (Qw (Qd (Qa (Xu inC 0 i hS1 rfl rfl rfl (by first | rfl | omega) hxi Ge rfl ?_))))))
  intro bx3 capx3 hvx3
  refine Z1 0 i 0 hS1 rfl hvx3 rfl rfl hxi QO rfl rfl (Qe rfl rfl (Qf (Qc (Qd (Qa (Qb rfl rfl (Qb rfl rfl (X0 rfl rfl rfl (Qf (Qc (Qi [8,7,6,3,5,14] rfl (Qs rfl (fun h4=> ?_) (fun h4=> ?_)))))))))))))
  ·have hx0:xi≠0:=h4
   refine Qd (Qa (Qb rfl rfl (Qe rfl rfl (Qf (Qc (Qu (Qx (Qn (Qn (Qx (Qn (QQ (.inr rfl) rfl rfl (⟨_,rfl, ?_,hw0⟩)))))))))))))
   have h2:i=0∨i=1:= by omega
   rcases h2 with rfl | rfl
   ·have e:a=xi:=(by simpa using hxi); subst e;unfold orI; rw[if_pos hx0]
   ·have e:b=xi:=(by simpa using hxi); have e0:a=0:=(by simpa using hz 0 (by omega)); subst e;unfold orI; rw[if_neg (by omega)]
  have hx0:xi=0:=Decidable.not_not.1 h4
  refine Qr (Ql (Qc (Qa (QK rfl rfl (by omega) (by omega) rfl ?_))))
  refine Qb rfl rfl (Qf ?_)
  exact Q6 (L1:=[(3,intV 0),(6,_),(7,intV 2),(8,intV ((i+1:Nat):Int))]) (Vk rfl rfl rfl rfl) (k1:=2 -(i+1)) (by omega) ⟨i+1, by omega,rfl,hS1.pick [0,1] rfl,hw0, by omega,or_step hz hxi hx0⟩
 refine QS (Qp (Qp (Qz (Qc (Qd (Qa (Qb rfl rfl (Qe rfl rfl (Qf (Qc (Qu (QQ (.inr rfl) rfl rfl ?_))))))))))))
 have h2:i=2:= by omega
 subst h2; have e0:a=0:= by simpa using hz 0 (by omega)
 have e1:b=0:= by simpa using hz 1 (by omega)
 exact⟨_,rfl, by unfold orI; rw[if_neg (by omega),e1],hw0⟩
end Go.Proofs.YtkcjfoaejijdoaaGreatDoor
namespace Go.Proofs.YtkcjfoaejijdoaaGreatDoor
open Go.RowKit M
set_option linter.unusedSectionVars false
variable [Inhabited SlW]
def qam (x y:KD):Int:=orI (Lib.compareBytes x.1 y.1) (Lib.compareInt x.2 y.2)
theorem FJ (a b:Bs) (w:World):Calls Tryz.prog 113 #[strV a,strV b] w (Ret fun v w'=>v=intV (Lib.compareBytes a b)∧w'=w):=
  (Tryz.strings_Compare ⟨a.toArray⟩ ⟨b.toArray⟩ w).mono fun e w' ⟨h1,h2⟩=>⟨_,h1,rfl,h2⟩
theorem Le (a b:Int) (w:World):Calls Tryz.prog 114 #[intV a,intV b] w (Ret fun v w'=>v=intV (Lib.compareInt a b)∧w'=w):=
  (Tryz.cmp_Compare_int a b w).mono fun e w' ⟨h1,h2⟩=>⟨_,h1,rfl,h2⟩
theorem cmpL_sp {w:World} {F:Th} (hS:Sat w [F]) (x y:KD):
    Calls Tryz.prog 111 #[Xy x,Xy y] w (Ret fun v w'=>v=intV (qam x y)∧GrW w w'):= by
 refine Qq Tryz.func111 rfl Tryz.ntmps111 rfl ?_
 refine Qd (Qa (BI hS rfl rfl rfl ?_))
 intro ka w1 hG1 hS1
 replace hS1:=XM (k:=x) hS1
 refine BI hS1 rfl rfl rfl ?_
 intro kb w2 hG2 hS2
 replace hS2:=XM (k:=y) hS2
 clear hS1
 refine Qe rfl rfl (Qf (Qc (Qd ?_)))
 have hS3:=hS2.drew
 refine QJ [0,1,2,3,5,6,7,8,4,9,10,11,12] [4,9,10,11] Wp (by kernel_rfl) ?_
 refine QT rfl rfl rfl Yx (Q9 rfl rfl rfl (Qm rfl ZC (by first | exact hS3.cell 0 rfl rfl | exact hS3.cell 1 rfl rfl)) ?_)
 refine QT rfl rfl rfl Yx (Q9 rfl rfl rfl (Qm rfl ZC (by first | exact hS3.cell 0 rfl rfl | exact hS3.cell 1 rfl rfl)) ?_)
 refine QT rfl rfl rfl Da (Q9 rfl rfl rfl (Qm rfl QO (by first | exact hS3.cell 0 rfl rfl | exact hS3.cell 1 rfl rfl)) ?_)
 refine QT rfl rfl rfl Da (Q9 rfl rfl rfl (Qm rfl QO (by first | exact hS3.cell 0 rfl rfl | exact hS3.cell 1 rfl rfl)) ?_)
 refine Xj rfl rfl rfl rfl rfl rfl ?_
 refine Qv L7 rfl (FJ x.1 y.1 _) rfl ?_
 rintro _ _ ⟨rfl,rfl⟩
 refine X6 (.cons (.inl ⟨rfl,(Qm rfl QO (hS3.cell 0 rfl rfl))⟩) (.cons (.inl ⟨rfl,(Qm rfl QO (hS3.cell 1 rfl rfl))⟩) (Xq (by kernel_rfl)))) ?_
 refine Xj rfl rfl rfl rfl rfl rfl ?_
 refine Qv L6 rfl (Le x.2 y.2 _) rfl ?_
 rintro _ _ ⟨rfl,rfl⟩
 refine X6 (Xq (by kernel_rfl)) ?_
 refine Xj rfl rfl rfl rfl rfl rfl ?_
 refine Rp inC [Lib.compareBytes x.1 y.1,Lib.compareInt x.2 y.2] hS3 rfl Tryz.underlying47 Vi rfl rfl rfl rfl (by rfl) rfl ?_
 intro cc w4 hG4 hS4
 clear hS3
 refine X6 (Xq (by kernel_rfl)) ?_
 refine Xj rfl rfl rfl rfl rfl rfl ?_
 refine Qv L8 rfl (or_sp (hS4.split [0] [true,false,false,false] rfl)) rfl ?_
 rintro _ _ ⟨rfl,rfl⟩
 refine X6 (Xq (by kernel_rfl)) ?_
 exact XN rfl rfl rfl (VC.nil (Qc (Qi [4] rfl (Qu (QQ (.inr rfl) rfl rfl (⟨_,rfl,rfl,(hG1.trans hG2).trans (GrW.drew.trans hG4)⟩))))))
theorem cmpI_sp {w:World} {F:Th} (hS:Sat w [F]) (x y:KD):
    Calls Tryz.prog 126 #[Xy x,Xy y] w (Ret fun v w'=>v=intV (qam x y)∧GrW w w'):= by
 refine Qq Tryz.func126 rfl Tryz.ntmps126 rfl ?_
 refine Qd (Qa (BI hS rfl rfl rfl ?_))
 intro ka w1 hG1 hS1
 replace hS1:=XM (k:=x) hS1
 refine BI hS1 rfl rfl rfl ?_
 intro kb w2 hG2 hS2
 replace hS2:=XM (k:=y) hS2
 clear hS1
 refine Qe rfl rfl (Qf (Qc (Qd ?_)))
 have hS3:=hS2.drew
 refine QJ [0,1,2,3,5,6,7,8,4,9,10,11,12] [4,9,10,11] Wp (by kernel_rfl) ?_
 refine QT rfl rfl rfl Yx (Q9 rfl rfl rfl (Qm rfl ZC (by first | exact hS3.cell 0 rfl rfl | exact hS3.cell 1 rfl rfl)) ?_)
 refine QT rfl rfl rfl Yx (Q9 rfl rfl rfl (Qm rfl ZC (by first | exact hS3.cell 0 rfl rfl | exact hS3.cell 1 rfl rfl)) ?_)
 refine QT rfl rfl rfl Da (Q9 rfl rfl rfl (Qm rfl QO (by first | exact hS3.cell 0 rfl rfl | exact hS3.cell 1 rfl rfl)) ?_)
 refine QT rfl rfl rfl Da (Q9 rfl rfl rfl (Qm rfl QO (by first | exact hS3.cell 0 rfl rfl | exact hS3.cell 1 rfl rfl)) ?_)
 refine Xj rfl rfl rfl rfl rfl rfl ?_
 refine Qv L7 rfl (FJ x.1 y.1 _) rfl ?_
 rintro _ _ ⟨rfl,rfl⟩
 refine X6 (.cons (.inl ⟨rfl,(Qm rfl QO (hS3.cell 0 rfl rfl))⟩) (.cons (.inl ⟨rfl,(Qm rfl QO (hS3.cell 1 rfl rfl))⟩) (Xq (by kernel_rfl)))) ?_
 refine Xj rfl rfl rfl rfl rfl rfl ?_
 refine Qv L6 rfl (Le x.2 y.2 _) rfl ?_
 rintro _ _ ⟨rfl,rfl⟩
 refine X6 (Xq (by kernel_rfl)) ?_
 refine Xj rfl rfl rfl rfl rfl rfl ?_
 refine Rp inC [Lib.compareBytes x.1 y.1,Lib.compareInt x.2 y.2] hS3 rfl Tryz.underlying47 Vi rfl rfl rfl rfl (by rfl) rfl ?_
 intro cc w4 hG4 hS4
 clear hS3
 refine X6 (Xq (by kernel_rfl)) ?_
 refine Xj rfl rfl rfl rfl rfl rfl ?_
 refine Qv L8 rfl (or_sp (hS4.split [0] [true,false,false,false] rfl)) rfl ?_
 rintro _ _ ⟨rfl,rfl⟩
 refine X6 (Xq (by kernel_rfl)) ?_
 exact XN rfl rfl rfl (VC.nil (Qc (Qi [4] rfl (Qu (QQ (.inr rfl) rfl rfl (⟨_,rfl,rfl,(hG1.trans hG2).trans (GrW.drew.trans hG4)⟩))))))
end Go.Proofs.YtkcjfoaejijdoaaGreatDoor
namespace Go.Proofs.YtkcjfoaejijdoaaGreatDoor.M
open Go.RowKit Go.Sort
def cfK (x y:Bs×Int):Int:= if Lib.compareBytes x.1 y.1≠0 then Lib.compareBytes x.1 y.1 else Lib.compareInt x.2 y.2
def QP (l:List (Bs×Int)):List (Bs×Int):=l.mergeSort fun x y=> !ltOf cfK y x
theorem Y9 (l:List (Bs×Int)):(QP l).Perm l:=List.mergeSort_perm _ _
theorem WF (l:List (Bs×Int)):(QP l).length=l.length:=(Y9 l).length_eq
theorem cmpB: ∀a b:Bs,(Lib.compareBytes a b<0↔a<b)∧(Lib.compareBytes a b=0↔a=b)
  | [],[]=> by simp [Lib.compareBytes]
  | [],y::ys=> by simp [Lib.compareBytes]
  | x::xs,[]=> by simp [Lib.compareBytes]
  | x::xs,y::ys=> by
    have ih:=cmpB xs ys
    unfold Lib.compareBytes
    rw[List.cons_lt_cons_iff]
    by_cases h1:x<y
    · have :x≠y:= fun e=> by subst e; exact absurd h1 (UInt8.lt_irrefl _)
      simp [h1,this]
    · by_cases h2:y<x
      · have :x≠y:= fun e=> by subst e; exact absurd h2 (UInt8.lt_irrefl _)
        simp [h1,h2,this]
      · have e:x=y:=UInt8.le_antisymm (UInt8.not_lt.1 h2) (UInt8.not_lt.1 h1)
        subst e
        simp [h1,ih.1,ih.2]
theorem ltK (x y:Bs×Int):ltOf cfK x y=true↔x.1<y.1∨x.1=y.1∧x.2<y.2:= by
  have h:=cmpB x.1 y.1
  unfold ltOf cfK Lib.compareInt
  by_cases e:x.1=y.1
  · rw[if_neg (by simpa using h.2.2 e)]
    have : ¬x.1<y.1:= by rw[e]; exact List.lt_irrefl _
    by_cases a:x.2<y.2
    · simp [a,e]
    · by_cases b:x.2>y.2<;> simp [a,b,e,List.lt_irrefl]
  · rw[if_pos (by simpa using fun q=>e (h.2.1 q))]
    simp [h.1,e]
theorem ltKf (x y:Bs×Int):ltOf cfK x y=false↔ ¬x.1<y.1∧(x.1=y.1→ ¬x.2<y.2):= by
  rw[←Bool.not_eq_true,ltK]
  exact⟨fun h=>⟨fun a=>h (.inl a), fun e a=>h (.inr ⟨e,a⟩)⟩, fun ⟨h1,h2⟩ h=>h.elim h1 fun ⟨e,a⟩=>h2 e a⟩
theorem bs_nlt {a b c:Bs} (h: ¬a<b) (h': ¬b<c): ¬a<c:=List.not_lt.2 (List.le_trans (List.not_lt.1 h') (List.not_lt.1 h))
theorem swoK:SWO (ltOf cfK) where
  irrefl x:= by rw[ltKf]; exact⟨List.lt_irrefl _, fun _=> by omega⟩
  trans x y z h1 h2:= by
    rw[ltK]at *
    rcases h1 with h1 | ⟨e1,h1⟩<;> rcases h2 with h2 | ⟨e2,h2⟩
    · exact .inl (List.lt_trans h1 h2)
    · exact .inl (e2▸h1)
    · exact .inl (e1▸h2)
    · exact .inr ⟨e1.trans e2, by omega⟩
  ntrans x y z h1 h2:= by
    rw[ltKf]at *
    refine⟨bs_nlt h1.1 h2.1, fun e=> ?_⟩
    have h3: ¬z.1<y.1:=e▸h1.1
    have h4:y.1=z.1:=List.le_antisymm (List.not_lt.1 h3) (List.not_lt.1 h2.1)
    have :=h1.2 (e.trans h4.symm)
    have :=h2.2 h4
    omega
theorem totK (x y:Bs×Int) (h1:ltOf cfK x y=false) (h2:ltOf cfK y x=false):x=y:= by
  rw[ltKf]at *
  have e:x.1=y.1:=List.le_antisymm (List.not_lt.1 h2.1) (List.not_lt.1 h1.1)
  exact Prod.ext e (by have :=h1.2 e; have :=h2.2 e.symm;omega)
theorem kC_get (l:List (Bs×Int)): ∀t,t<l.length*2→(kC.cells l)[t]! =(kC.enc l[t/ 2]!)[t%2]! := by
  induction l with
  | nil=> intro t h; simp at h
  | cons a l ih=>
    intro t h
    have e:kC.cells (a::l)=strV a.1::intV a.2::kC.cells l:=rfl
    rw[e]
    match t with
    | 0=>rfl
    | 1=>rfl
    | t+2=>
      have h1:=ih t (by simp at h;omega)
      have h2:(t+2)/ 2=t/ 2+1:= by omega
      have h3:(t+2)%2=t%2:= by omega
      rw[h2,h3]
      simpa using h1
theorem Ld (l:List (Bs×Int)):flatK kC.enc 2 l.toArray=(kC.cells l).toArray:= by
  refine ext_get! (by simp [RowC.cells_len];rfl) fun t ht=> ?_
  have ht':t<l.length*2:= by simpa using ht
  rw[get_flatK _ _ _ _ (by simpa using ht')]
  have :=kC_get l t ht'
  simpa using this.symm
theorem Pf (d xs sp:List Value) (h:d.length=xs.length):(putCells id 0 d.toArray (xs++sp).toArray)=(d++sp).toArray:= by
  apply Array.ext_getElem?
  intro k
  unfold putCells
  simp only[Array.getElem?_mapIdx,List.getElem?_toArray,Nat.zero_le,true_and,Nat.zero_add,Nat.sub_zero,List.size_toArray]
  by_cases hk:k<d.length
  · rw[List.getElem?_append_left (by simpa [←h]using hk),List.getElem?_append_left (by simpa using hk)]
    simp [hk,h▸hk]
  · rw[List.getElem?_append_right (by omega),List.getElem?_append_right (by omega)]
    have hk': ¬k<xs.length:= by omega
    simp only[h,hk',if_false,Option.map_id']
theorem B5 {P:Program} {f:Nat} {fv:Value}
    (hsome: ∀(blk off cap:Nat) (ss:List (Bs×Int)) (w:World),HoldsK kC.enc 2 w blk off ss.toArray→blk<w.heap.size→ss.length<4611686018427387904→Calls P f #[.slice (some ⟨blk,off,none⟩) ss.length cap,fv] w fun e w'=>e= .returned (.tuple #[])∧ ∃n os,w'=sortWorldK kC.enc 2 w blk off n (QP ss).toArray os)
    (hnone: ∀(p:Option Addr) (cap:Nat) (w:World),Calls P f #[.slice p 0 cap,fv] w fun e w'=>e= .returned (.tuple #[])∧w'=w)
    {w:World} {v:Value} {l:List (Bs×Int)} {As:List Th} (hS:Sat w (rowT kC v l::As)) (hl:l.length<4611686018427387904):Calls P f #[v,fv] w (Ret fun u w'=>u= .tuple #[]∧Sat w' (rowT kC v (QP l)::As)):= by
  obtain⟨foot,hlen,h⟩:=hS.own 0 rfl
  rcases h with⟨rfl,hn,hf⟩ | ⟨b,cap,sp,rfl,hcap,hb,hsz,hf⟩
  · have :l=[]:=List.eq_nil_of_length_eq_zero hn
    subst this
    exact(hnone none 0 w).mono fun e w' ⟨h1,h2⟩=>⟨_,h1,rfl, by rw[h2];simpa [QP]using hS⟩
  · have hH:HoldsK kC.enc 2 w b 0 l.toArray:= fun j hj=> by
      rw[Ld]at hj⊢
      have hj':j<(kC.cells l).length:= by simpa using hj
      refine⟨?_, ?_⟩
      · rw[Nat.zero_add]
        refine hb.cell ?_
        rw[List.getElem?_append_left (by simpa using hj')]
        simp [hj']
      · exact hb.free _ (by simp;omega)
    refine(hsome b 0 cap l w hH hb.lt hl).mono fun e w' ⟨h1,n,os,h2⟩=>⟨_,h1,rfl, ?_⟩
    have hlt:=hb.lt
    have hcl:(kC.cells (QP l)).length=(kC.cells l).length:= by rw[RowC.cells_len,RowC.cells_len,WF]
    unfold sortWorldK putRowK at h2
    rw[Ld]at h2
    have hheap: ∀k,k<w.heap.size→k≠b→w'.heap[k]? =w.heap[k]? := fun k hk hne=> by
      rw[h2,heap_grow_old _ _ (by simpa using hk)]
      simp only[putRow,mapBlock,heap_ahead,Array.getElem?_modify]
      rw[if_neg (fun q=>hne q.symm)]
    obtain⟨T,lo,hi,hc,hfz⟩:=hb
    have hnew:w'.heap[b]? =some (.cells (kC.cells (QP l)++sp).toArray T (lo,hi)):= by
      rw[h2,heap_grow_old _ _ (by simpa using hlt)]
      simp only[putRow,mapBlock,heap_ahead,Array.getElem?_modify,if_pos,hc,Option.map_some,onCells]
      rw[Pf _ _ _ hcl]
    have ho:Only [b] w w':= by
      refine⟨?_, ?_, ?_, ?_, fun k hk hn=>hheap k hk (by simpa using hn)⟩
      · rw[h2];rfl
      · rw[h2];rfl
      · rw[h2];rfl
      · rw[h2]; simp
    have hfin:=hS.own_set (w':=w') 0 rfl (v':= .slice (some ⟨b,0,none⟩) l.length cap) (n':=l.length) (size':=2) (xs':=kC.cells (QP l)) (fun foot' g=> by
      obtain⟨_,g⟩:=g
      rcases g with⟨g0,_⟩ | ⟨b',cap',sp',g0,g1,g2,g3,g4⟩
      · cases g0
      · simp only[Value.slice.injEq,Option.some.injEq,Addr.mk.injEq,and_true,true_and]at g0
        obtain⟨rfl,rfl⟩:=g0
        refine⟨[b],⟨?_,.inr ⟨b,cap,sp,rfl,hcap,⟨T,lo,hi, ?_, ?_⟩, ?_,rfl⟩⟩, ?_, ?_⟩
        · rw[kC.cells_len,WF];rfl
        · exact hnew
        · rcases hfz with q | q
          · exact .inl q
          · refine .inr ?_
            simp only[List.length_append,kC.cells_len,WF]at q⊢; exact q
        · simp only[List.length_append,kC.cells_len,WF]at hsz⊢; exact hsz
        · rw[g4]; exact ho
        · rw[g4]; intro k hk; exact .inl hk)
    have e:(QP l).length=l.length:=WF l
    show Sat w' (Ja _ (QP l).length 2 _::As)
    rw[e]; exact hfin
end Go.Proofs.YtkcjfoaejijdoaaGreatDoor.M
