/- sheets: Set -/
import Derived.Test.YtkgjmhcdacidoaaGreatDoorSh12
import Derived.Test.YtkgjmhcdacidoaaGreatDoorRow
set_option linter.unusedSectionVars false
set_option linter.unusedVariables false
set_option maxRecDepth 100000
set_option maxHeartbeats 3200000
namespace Go.Proofs.YtkgjmhcdacidoaaGreatDoor
open Go.RowKit M Proofs.Tryz
theorem ShF.trans {S S' S'':SS} (h:ShF S S') (h':ShF S' S''):ShF S S'':= by
  refine⟨?_,h'.bud.trans h.bud,h'.slo.trans h.slo,h'.frn.trans h.frn⟩
  obtain⟨L,h1,h2⟩:=h.tk
  obtain⟨L',h3,h4⟩:=h'.tk
  refine⟨L++L', by rw[h3,h1,List.append_assoc], fun j x hx hp=> ?_⟩
  rcases h2 j x hx hp with h | ⟨y,hy,hp',ha⟩
  · exact .inl (List.mem_append_left _ h)
  · rcases h4 j y hy hp' with h | ⟨z,hz,hp'',ha'⟩
    · exact .inl (List.mem_append_right _ (by rw[←ha]; exact h))
    · exact .inr ⟨z,hz,hp'',ha'.trans ha⟩
noncomputable def setP (S:SS) (id:Int) (y:ShE) (pg:Bs):SS:={S with all:=up S.all id (some {y with pg:=pg}),fr:=S.fr.set y.at_.toNat (some pg)}
theorem PU {A:Int→Option ShE} {id:Int} {y:ShE} {pg:Bs} (h:A id=some y) (hp:y.place=1):aG (up A id (some {y with pg:=pg}))=aG A:= by
  funext j
  unfold aG
  by_cases q:j=id
  · subst q; rw[XO,h]; show some _=some _;unfold NX VM; simp [hp]
  · rw[XW q]
structure SetS (T:Nat) (S S':SS) (id:Int) (x:ShE) (pg:Bs):Prop where
  inv:ShI VX (T+1) S'
  f:ShF S S'
  is:vw S'=up (vw S) id (some (x.refs,pg))
theorem Le {T:Nat} {S S1:SS} {id:Int} {x y:ShE} {pg:Bs} (h:ShI VX (T+1) S1) (hf:ShF S S1) (hv:vw S1=vw S) (hy:S1.all id=some y) (hp:y.place=1) (hr:y.refs=x.refs) (hpg:pg.length=64):SetS T S (setP S1 id y pg) id x pg:= by
  refine⟨h.page (fun q=>q) hy hp hpg,hf.trans ⟨⟨[], by simp [setP], fun j z hz hp1=> .inr ?_⟩,rfl,rfl, by show(S1.fr.set _ _).length=_; rw[List.length_set]⟩, ?_⟩
  · by_cases q:j=id
    · subst q; rw[hy]at hz; cases hz; exact⟨_,XO,hp1,rfl⟩
    · exact⟨z, by show up S1.all id _ j=_; rw[XW q]; exact hz,hp1,rfl⟩
  · rw[←hr,←hv]; exact FF U
theorem FX {w:World} {p:Nat} {S:SS} {F:Th} (hS:Sat w [Yn p S,F]) {N:Nat} (hI:ShI VX N S) (hN:N≤80000000000) (id at_:Int) (b:UInt8):
    Calls prog 78 #[ptrV p 0,intV id,intV at_,Y3 b] w (Ret fun v w'=>(∃e,v=intV e∧e≠0∧(S.all id=none∨(∃x,S.all id=some x∧1<x.refs)∨at_<0∨64≤at_∨ ∀o∈S.fr,o≠none)∧Sat w' [Yn p S,F])∨(∃x S',S.all id=some x∧v=intV 0∧(0≤at_∧at_<64)∧SetS N S S' id x (x.pg.set at_.toNat b)∧Sat w' [Yn p S',F])):= by
 obtain⟨ba,bi,fp,sp,kp,ac,cc,at2,ct,hS⟩:=XX hS
 cases Zt:S.all id with
 | none=>
  refine Qn func78 U ntmps78 U ?_
  refine Qe (Qa (Qd U U (Qf (Qc (Qe (Qa (Qb U U (Qi U U (Qg U XR U (Qo U ZD (by first | assumption | exact hS.cell 0 U U) U ?_))))))))))
  refine Qb U U (Xj (k:=id) 1 hS keysInt underlying75 U U U X9 (u:=(.agg #[intV 0,intV 0,intV 0,strV []])) (g:=false) (YI Zt) (Yy Zt) U (Qb U U (Qp U U U (Qp U U U (Xa hS X9 U U ?_)))))
  intro b1 w1 j1
  first | (refine Q9 j1 U U Zc U (by first | rfl | (simp [QV,Value.oneCell'];done) | assumption | exact hone) (i:=0) U (by first | decide | exact Q7 U | (simp;done) | omega) ?_) | (refine Q9 j1 U U Zc U (by first | rfl | (simp [QV,Value.oneCell'];done) | assumption | exact hone) (i:=1) U (by first | decide | exact Q7 U | (simp;done) | omega) ?_)
  intro w2 j3; dsimp only[List.set]at j3
  refine Qd U U (Qf (Qc (Qh [3,2,1,0,8,9,10] U (Qe (Qw (Qe (Qa (Qb U U (QU U U (Qb U U (Xw 25 U (fun h4=> ?_) (fun h4=> ?_))))))))))))
  ·refine Qj U U h4 (Qb U U (Qj U U h4 (Xp U U U (QN U h4 U U (Qd U U (Qf (Qc (Qh [3,2,1,0,8,9,22] U (Qt U (fun h5=> ?_) (fun h5=> ?_))))))))))
   ·exact Qe (Qa (Qd U U (Qf (Qc (Qv (Q1 (Qr (QR (.inr U) U U (⟨_,rfl,.inl ⟨_,rfl, by first | decide | omega, by first | exact .inl U | (exact .inr (.inr (.inr (.inr hall)))) | (exact .inr (.inl ⟨x,rfl, by omega⟩)) | (exact .inr (.inr (.inl (by omega)))) | (exact .inr (.inr (.inr (.inl (by omega))))),QW (j3.pick [1,2,3,4,5,6,7,8,9] U)⟩⟩)))))))))
   refine Qe (Qa (Qb U U (Xc U U U (Qb U U (QZ 32 U (fun h6=> ?_) (fun h6=> ?_))))))
   ·exact Qk U U (det h6) U (Qk U U (det h6) U (Qk U U (det h6) U (QN U (det h6) U U (Qd U U (Qf (Qc (Qh [3,2,1,0,8,29] U (XD U (Qe (Qa (Qd U U (Qf (Qc (Qv (Q1 (Qr (QR (.inr U) U U (⟨_,rfl,.inl ⟨_,rfl, by first | decide | omega, by first | exact .inl U | (exact .inr (.inr (.inr (.inr hall)))) | (exact .inr (.inl ⟨x,rfl, by omega⟩)) | (exact .inr (.inr (.inl (by omega)))) | (exact .inr (.inr (.inr (.inl (by omega))))),QW (j3.pick [1,2,3,4,5,6,7,8,9] U)⟩⟩))))))))))))))))))
   exact absurd h6 (by omega)
  exact absurd h4 (by simp)
 | some x=>
  obtain⟨hid1,_,hr1,hr2,_,hplc⟩:=hI.ent Zt
  refine Qn func78 U ntmps78 U ?_
  refine Qe (Qa (Qd U U (Qf (Qc (Qe (Qa (Qb U U (Qi U U (Qg U XR U (Qo U ZD (by first | assumption | exact hS.cell 0 U U) U ?_))))))))))
  refine Qb U U (Xj (k:=id) 1 hS keysInt underlying75 U U U X9 (u:=(.agg #[intV x.refs,intV x.place,intV x.at_,strV (VM x)])) (g:=true) (WT Zt) (Yx Zt) U (Qb U U (Qp U U U (Qp U U U (Xa hS X9 U U ?_)))))
  intro b1 w1 j1
  first | (refine Q9 j1 U U Zc U (by first | rfl | (simp [QV,Value.oneCell'];done) | assumption | exact hone) (i:=0) U (by first | decide | exact Q7 U | (simp;done) | omega) ?_) | (refine Q9 j1 U U Zc U (by first | rfl | (simp [QV,Value.oneCell'];done) | assumption | exact hone) (i:=1) U (by first | decide | exact Q7 U | (simp;done) | omega) ?_)
  intro w2 j3; dsimp only[List.set]at j3
  refine Qd U U (Qf (Qc (Qh [3,2,1,0,8,9,10] U (Qe (Qw (Qe (Qa (Qb U U (QU U U (Qb U U (Xw 25 U (fun h4=> ?_) (fun h4=> ?_))))))))))))
  ·exact absurd h4 (by simp)
  refine Qk U U h4 U (Qk U U h4 U (QC U h4 U U (Qd U U (Qf (Qc (Qh [3,2,1,0,8,9,22] U (QL U (Qe (Qa (Qb U U (Xc U U U (Qb U U (QZ 32 U (fun h5=> ?_) (fun h5=> ?_))))))))))))))
  ·exact absurd h5 (by omega)
  refine Qj U U (QF h5) (Qg U WY U (Qj U U (QF h5) (Qo U QM (by first | assumption | exact j3.cell 0 U U | exact j3.cell 1 U U) U ?_)))
  refine Qj U U (QF h5) (J6 U U U (QC U (QF h5) U U (Qd U U (Qf (Qc (Qh [3,2,1,0,8,29] U (Qt U (fun h6=> ?_) (fun h6=> ?_))))))))
  ·exact Qe (Qa (Qd U U (Qf (Qc (Qv (Q1 (Qr (QR (.inr U) U U (⟨_,rfl,.inl ⟨_,rfl, by first | decide | omega, by first | exact .inl U | (exact .inr (.inr (.inr (.inr hall)))) | (exact .inr (.inl ⟨x,rfl, by omega⟩)) | (exact .inr (.inr (.inl (by omega)))) | (exact .inr (.inr (.inr (.inl (by omega))))),QW (j3.pick [1,2,3,4,5,6,7,8,9] U)⟩⟩)))))))))
  refine Qe (Qa (Qb U U (Xn U U U (Qb U U (QZ 40 U (fun h7=> ?_) (fun h7=> ?_))))))
  ·exact Qk U U (det h7) U (Qk U U (det h7) U (QN U (det h7) U U (Qd U U (Qf (Qc (Qh [3,2,1,0,8,37] U (XD U (Qe (Qa (Qd U U (Qf (Qc (Qv (Q1 (Qr (QR (.inr U) U U (⟨_,rfl,.inl ⟨_,rfl, by first | decide | omega, by first | exact .inl U | (exact .inr (.inr (.inr (.inr hall)))) | (exact .inr (.inl ⟨x,rfl, by omega⟩)) | (exact .inr (.inr (.inl (by omega)))) | (exact .inr (.inr (.inr (.inl (by omega))))),QW (j3.pick [1,2,3,4,5,6,7,8,9] U)⟩⟩)))))))))))))))))
  refine Qj U U (QF h7) (Qb U U (Qj U U (QF h7) (Jr U U U (QC U (QF h7) U U (Qd U U (Qf (Qc (Qh [3,2,1,0,8,37] U (Qt U (fun h8=> ?_) (fun h8=> ?_))))))))))
  ·exact Qe (Qa (Qd U U (Qf (Qc (Qv (Q1 (Qr (QR (.inr U) U U (⟨_,rfl,.inl ⟨_,rfl, by first | decide | omega, by first | exact .inl U | (exact .inr (.inr (.inr (.inr hall)))) | (exact .inr (.inl ⟨x,rfl, by omega⟩)) | (exact .inr (.inr (.inl (by omega)))) | (exact .inr (.inr (.inr (.inl (by omega))))),QW (j3.pick [1,2,3,4,5,6,7,8,9] U)⟩⟩)))))))))
  refine Qs (Ql (Qc (Qe (Qa (Qb U U (Qb U U ?_))))))
  have j9:=QW (j3.pick [1,2,3,4,5,6,7,8,9] U)
  have hbr:= fun {w F} (hC:Sat w [Yn p S,F])=>CZ hC hI hN id
  simp only[Zt]at hbr
  refine Xr cal_116 U (hbr (j9.sp [0] U)) U ?_
  rintro e w10 ⟨_,rfl,(⟨hp1,rfl,j10⟩ | ⟨k,S2,hp1,rfl,hB,j10⟩ | ⟨hp2,rfl,hall,hfull,j10⟩)⟩
  ·refine⟨_,U, ?_⟩
   replace j10:=j10.jn U U
   refine Qb U U (Qp U U U (Qp U U U (Qd U U (Qd U U (Qf (Qc (Qh [3,2,0,8,11,12] U (Qe (Qe (Qa (Qb U U (Xp U U U (Qf (Qc (Qt U (fun h11=> ?_) (fun h11=> ?_))))))))))))))))
   ·exact absurd U h11
   refine Qs (Qc (Qe ?_))
   obtain⟨ba,bi,fp,sp,kp,ac,cc,at2,ct,hSo12⟩:=XX (j10.pick [0,1] rfl)
   refine Qa (Qb U U (Qi U U (Qg U Jl U (Qo U HM (by first | assumption | exact hSo12.cell 0 U U) U ?_))))
   refine Qb U U (Qb U U (Qb U U ?_))
   have hfr:=hI.frc (fun q=>q) Zt hp1
   refine Xr PJ U (TP (hSo12.sp [4] U) x.at_ at_ b) U ?_
   rintro e w13 ⟨_,rfl,(⟨hbad,j13⟩ | ⟨rfl,cb,hcb,hrng,j13⟩)⟩
   ·exfalso; rw[hfr]at hbad; simp at hbad;omega
   refine⟨_,U, ?_⟩
   replace j13:=j13.jn U U
   clear hSo12
   refine Qd U U (Qf (Qc (Qh [8] U (Qv (QR (.inr U) U U ?_)))))
   obtain rfl:x.pg=cb:= by rw[hfr]at hcb; cases hcb;rfl
   have hz:=j13.pick [1,2,3,4,0,5,6,7,8] U
   rw[←PU (pg:=x.pg.set at_.toNat b) Zt hp1]at hz
   exact⟨_,rfl,.inr ⟨x,_,rfl,rfl,hrng,Le (x:=x) (pg:=x.pg.set at_.toNat b) (hI.mono (Nat.le_add_right N 1)) (ShF.refl S) U Zt hp1 U (by rw[List.length_set]; exact(hI.ent Zt).2.2.2.2.1),QW (S:=setP S id x (x.pg.set at_.toNat b)) hz⟩⟩
  ·refine⟨_,U, ?_⟩
   replace j10:=j10.jn U U
   refine Qb U U (Qp U U U (Qp U U U (Qd U U (Qd U U (Qf (Qc (Qh [3,2,0,8,11,12] U (Qe (Qe (Qa (Qb U U (Xp U U U (Qf (Qc (Qt U (fun h14=> ?_) (fun h14=> ?_))))))))))))))))
   ·exact absurd U h14
   refine Qs (Qc (Qe ?_))
   obtain⟨ba,bi,fp,sp,kp,ac,cc,at2,ct,hSo15⟩:=XX (j10.pick [0,1] rfl)
   refine Qa (Qb U U (Qi U U (Qg U Jl U (Qo U HM (by first | assumption | exact hSo15.cell 0 U U) U ?_))))
   refine Qb U U (Qb U U (Qb U U ?_))
   have hfr:=hB.inv.frc (fun q=>q) hB.is U
   dsimp only at hfr
   refine Xr PJ U (TP (hSo15.sp [4] U) (k:Int) at_ b) U ?_
   rintro e w16 ⟨_,rfl,(⟨hbad,j16⟩ | ⟨rfl,cb,hcb,hrng,j16⟩)⟩
   ·exfalso; rw[hfr]at hbad; simp at hbad;omega
   refine⟨_,U, ?_⟩
   replace j16:=j16.jn U U
   clear hSo15
   refine Qd U U (Qf (Qc (Qh [8] U (Qv (QR (.inr U) U U ?_)))))
   obtain rfl:x.pg=cb:= by rw[hfr]at hcb; cases hcb;rfl
   have hz:=j16.pick [1,2,3,4,0,5,6,7,8] U
   rw[←PU (pg:=x.pg.set at_.toNat b) hB.is U]at hz
   exact⟨_,rfl,.inr ⟨x,_,rfl,rfl,hrng,Le (x:=x) (pg:=x.pg.set at_.toNat b) hB.inv hB.go.f hB.go.vw hB.is U U (by rw[List.length_set]; exact(hI.ent Zt).2.2.2.2.1),QW (S:=setP S2 id ⟨x.refs,1,(k:Nat),x.pg⟩ (x.pg.set at_.toNat b)) hz⟩⟩
  refine⟨_,U, ?_⟩
  replace j10:=j10.jn U U
  refine Qb U U (Qp U U U (Qp U U U (Qd U U (Qd U U (Qf (Qc (Qh [3,2,0,8,11,12] U (Qe (Qe (Qa (Qb U U (Xp U U U (Qf (Qc (Qt U (fun h17=> ?_) (fun h17=> ?_))))))))))))))))
  ·exact Qe (Qa (Qb U U (Qd U U (Qf (Qc (Qv (Qr (QR (.inr U) U U (⟨_,rfl,.inl ⟨_,rfl, by first | decide | omega, by first | exact .inl U | (exact .inr (.inr (.inr (.inr hall)))) | (exact .inr (.inl ⟨x,rfl, by omega⟩)) | (exact .inr (.inr (.inl (by omega)))) | (exact .inr (.inr (.inr (.inl (by omega))))),j10.pick [0,1] U⟩⟩)))))))))
  exact absurd (by decide) h17
end Go.Proofs.YtkgjmhcdacidoaaGreatDoor
namespace Go.Proofs.YtkgjmhcdacidoaaGreatDoor.M
open Go.RowKit Proofs.Tryz
section
variable {κ:Type} {β:Type}
open Classical in
noncomputable def QO (f:κ→Option β) (k:κ) (v:Option β):κ→Option β:= fun j=> if j=k then v else f j
theorem Qu {f:κ→Option β} {k:κ} {v:Option β}:QO f k v k=v:= by simp [QO]
theorem Qz {f:κ→Option β} {k j:κ} {v:Option β} (h:j≠k):QO f k v j=f j:= by simp [QO,h]
theorem Yl {f:κ→Option β} {k:κ} {u v:Option β}:QO (QO f k u) k v=QO f k v:= by
  funext j
  by_cases h:j=k
  · subst h; rw[Qu,Qu]
  · rw[Qz h,Qz h,Qz h]
theorem Wk {f:κ→Option β} {k:κ} {v:Option β} (h:f k=v):QO f k v=f:= by
  funext j
  by_cases e:j=k
  · subst e; rw[Qu,h]
  · rw[Qz e]
def NU (o:Option Th):Th:=o.getD empT
def Cu (h:κ→Option Th):Th:=CH fun L:List κ=>starL [JN (L.Nodup∧ ∀k,k∈L↔h k≠none),starL (L.map fun k=>NU (h k))]
section
variable {w:World} {As:List Th} {h:κ→Option Th} {k:κ} {A:Th}
theorem Sat.second {A X Y:Th} {As:List Th} (f: ∀{Bs:List Th},Sat w (X::Bs)→Sat w (Y::Bs)) (hS:Sat w (A::X::As)):Sat w (A::Y::As):=
  (f (hS.perm (List.Perm.swap _ _ _))).perm (List.Perm.swap _ _ _)
theorem DP (hS:Sat w (Cu h::As)): ∃L:List κ,(L.Nodup∧ ∀k,k∈L↔h k≠none)∧Sat w (starL (L.map fun k=>NU (h k))::As):= by
  obtain⟨L,hL⟩:=hS.ex
  exact⟨L,hL.flat.pure_elim⟩
theorem Rx {L:List κ} (hL:L.Nodup∧ ∀k,k∈L↔h k≠none) (hS:Sat w (starL (L.map fun k=>NU (h k))::As)):Sat w (Cu h::As):=
  Sat.ex_intro (f:= fun L:List κ=>starL [JN (L.Nodup∧ ∀k,k∈L↔h k≠none),starL (L.map fun k=>NU (h k))]) L (Sat.fold (As:=[JN (L.Nodup∧ ∀k,k∈L↔h k≠none),starL (L.map fun k=>NU (h k))]) (Sat.pure_intro hL hS))
theorem Sat.emp_intro (hS:Sat w As):Sat w (starL []::As):=Sat.fold (As:=[]) hS
theorem Fq (hS:Sat w As):Sat w (Cu (fun _:κ=>none)::As):=Rx (L:=[]) ⟨List.nodup_nil, fun k=> by simp⟩ hS.emp_intro
theorem EU (hS:Sat w (Cu h::As)) (hk:h k=some A):Sat w (A::Cu (QO h k none)::As):= by
  obtain⟨L,⟨hn,hm⟩,h1⟩:=DP hS
  have hkm:k∈L:=(hm k).2 (by rw[hk]; simp)
  obtain⟨L1,L2,rfl⟩:=List.append_of_mem hkm
  have hp:(L1++k::L2).Perm (k::(L1++L2)):=List.perm_middle
  have hn':=hp.nodup_iff.1 hn
  obtain⟨hk1,hn2⟩:=List.nodup_cons.1 hn'
  have h2:=ET h1 (hp.map _)
  have h3:=big_out (Xs:=(k::(L1++L2)).map fun k=>NU (h k)) (i:=0) h2 U
  have e1:NU (h k)=A:= by rw[hk];rfl
  replace h3:Sat w (NU (h k)::starL (((k::(L1++L2)).map fun k=>NU (h k)).eraseIdx 0)::As):=h3
  rw[e1]at h3
  have e2:(((k::(L1++L2)).map fun k=>NU (h k)).eraseIdx 0)=(L1++L2).map fun j=>NU (QO h k none j):= by
    show(L1++L2).map (fun k=>NU (h k))=_
    refine List.map_congr_left fun j hj=> ?_
    rw[Qz]
    intro q; subst q; exact hk1 hj
  rw[e2]at h3
  refine Sat.second (fun {Bs} g=>Rx ⟨hn2, fun j=> ?_⟩ g) h3
  by_cases hj:j=k
  · subst hj
    rw[Qu]
    exact⟨fun q=>absurd q hk1, fun q=>absurd U q⟩
  · rw[Qz hj,←hm j,hp.mem_iff,List.mem_cons]
    exact⟨fun q=> .inr q, fun q=>q.resolve_left hj⟩
theorem PO (hS:Sat w (A::Cu h::As)) (hk:h k=none):Sat w (Cu (QO h k (some A))::As):= by
  obtain⟨L,⟨hn,hm⟩,h1⟩:=DP (hS.perm (List.Perm.swap _ _ _))
  have hkm:k∉L:= fun q=>(hm k).1 q hk
  have h2:=big_in (i:=0) (h1.perm (List.Perm.swap _ _ _))
  refine Rx (L:=k::L) ⟨List.nodup_cons.2 ⟨hkm,hn⟩, fun j=> ?_⟩ ?_
  · rw[List.mem_cons]
    by_cases hj:j=k
    · subst hj
      rw[Qu]; simp
    · rw[Qz hj,←hm j]
      exact⟨fun q=>q.resolve_left hj, fun q=> .inr q⟩
  · rw[List.map_cons,Qu]
    have e:(L.map fun j=>NU (QO h k (some A) j))=L.map fun j=>NU (h j):=List.map_congr_left fun j hj=> by
      rw[Qz]
      intro q; subst q; exact hkm hj
    rw[e]
    exact h2
end
def XC {α:Type} (ad:α→Nat) (f:κ→Option α):κ→Option Value:= fun k=>(f k).map fun x=>ptrV (ad x) 0
theorem XJ {α:Type} {ad:α→Nat} {f:κ→Option α} {k:κ} {x:α} {z:Value} (h:f k=some x):(XC ad f k).getD z=ptrV (ad x) 0:= by unfold XC; rw[h];rfl
theorem Dy {α:Type} {ad:α→Nat} {f:κ→Option α} {k:κ} {z:Value} (h:f k=none):(XC ad f k).getD z=z:= by unfold XC; rw[h];rfl
theorem Km {α:Type} {ad:α→Nat} {f:κ→Option α} {k:κ} {x:α}:upd (XC ad f) k (some (ptrV (ad x) 0))=XC ad (QO f k (some x)):= by
  funext j
  by_cases h:j=k
  · subst h; rw[Z0];unfold XC; rw[Qu];rfl
  · rw[Wp h];unfold XC; rw[Qz h]
theorem GY {α:Type} {ad:α→Nat} {f:κ→Option α} {k:κ}:upd (XC ad f) k none=XC ad (QO f k none):= by
  funext j
  by_cases h:j=k
  · subst h; rw[Z0];unfold XC; rw[Qu];rfl
  · rw[Wp h];unfold XC; rw[Qz h]
theorem WI {α:Type} {ad:α→Nat} {f:κ→Option α} {k:κ} {x y:α} (h:f k=some x) (hy:ad y=ad x):XC ad (QO f k (some y))=XC ad f:= by
  funext j
  by_cases e:j=k
  · subst e;unfold XC; rw[Qu,h]; simp [hy]
  · unfold XC; rw[Qz e]
end
def X0 (k:Bs×Int):Value:= .agg #[strV k.1,intV k.2]
theorem GW {P:Program} {t:TypeId} (hu:P.underlying t=some .string) (cs:Array Value) (off:Nat) (v:Value) (hv:cs[off]? =some v) (w:World):(part t cs off).run P w= .ok v w:= by
  simp [part,isAgg,run_underlying hu,hv]
theorem RJ {P:Program} {t:TypeId} (hu:P.underlying t=some .string) (n:Nat) (a b:Bs) (w:World):(Op.equalIn (n+1) t (strV a) (strV b)).run P w= .ok (decide (a=b)) w:= by
  unfold Op.equalIn
  simp only[Sem.run_bind,run_underlying hu,Result.andThen,strV]
  simp
  rw[Bool.eq_iff_iff]
  show(a.toArray==b.toArray)=true↔_
  simp
theorem LP {P:Program} {kt t0 t1:TypeId} {f0 f1:Field} (hu:P.underlying kt=some (.struct #[f0,f1])) (hs:P.stoodInHeld kt=false) (hs0:P.underlying t0=some .string) (ht:P.underlying t1=some (.int .i64))
    (h0 : f0.type = t0) (h1 : f1.type = t1) (o0 : f0.offset = 0) (o1 : f1.offset = 1) (n0 : f0.name ≠ "_") (n1 : f1.name ≠ "_") : KeyOk P kt X0 where
  inj:= by rintro⟨a,b⟩ ⟨c,d⟩ h;simpa [X0,strV,intV]using h
  bits:= fun a=> by
    simp [X0,strV,intV,Instr.sameBits]
    show(a.1.toArray==a.1.toArray)=true
    simp
  check:= fun e a w=> by
    unfold Instr.checkKey
    simp only[Sem.run_bind,run_underlying hu,Result.andThen,X0]
    have c: ∀x:Int,(Instr.checkKey e 9999 t1 (intV x)).run P w= .ok () w:= fun x=>MapKept.run_checkKey ht (by simp [MapKept.IsKey,intV]) e 9998
    have c0: ∀x:Bs,(Instr.checkKey e 9999 t0 (strV x)).run P w= .ok () w:= fun x=>MapKept.run_checkKey hs0 (by simp [MapKept.IsKey,strV]) e 9998
    simp [n0,n1,h0,h1,o0,o1,Dr ht,GW hs0,c,c0]
  find:= fun a l w h=> by
    have eq: ∀b:Bs×Int,(Op.equal kt (X0 a) (X0 b)).run P w= .ok (decide (a=b)) w:= by
      intro b
      have c: ∀x y:Int,(Op.equalIn 9999 t1 (intV x) (intV y)).run P w= .ok (x==y) w:= fun x y=>RK ht 9998 x y w
      have c0: ∀x y:Bs,(Op.equalIn 9999 t0 (strV x) (strV y)).run P w= .ok (decide (x=y)) w:= fun x y=>RJ hs0 9998 x y w
      unfold Op.equal Op.maxDepth Op.equalIn
      simp only[Sem.run_bind,run_underlying hu,Result.andThen,X0]
      obtain⟨a1,a2⟩:=a
      obtain⟨b1,b2⟩:=b
      by_cases e1:a1=b1<;>by_cases e2:a2=b2<;> simp [hs,n0,n1,h0,h1,o0,o1,Dr ht,GW hs0,c,c0,e1,e2]
    have ask: ∀(l:List MapEntry) (i:Nat),(∀x∈l,∃b,x.key=X0 b)→
        (∃j x,l[j]? =some x∧x.key=X0 a∧(Instr.findAsking kt (X0 a) l i).run P w= .ok (some (i+j,x.val)) w)∨((∀x∈l,x.key≠X0 a)∧(Instr.findAsking kt (X0 a) l i).run P w= .ok none w):= by
      intro l
      induction l with
      | nil=> intro i _; exact .inr ⟨by simp, by simp [Instr.findAsking]⟩
      | cons e es ih=>
        intro i hl
        obtain⟨b,hb⟩:=hl e (by simp)
        by_cases hab:a=b
        · refine .inl ⟨0,e,rfl, by rw[hb,hab], ?_⟩
          subst hab
          simp [Instr.findAsking,hb,eq]
        · have hne:e.key≠X0 a:= by
            rw[hb]; intro q; apply hab
            obtain⟨a1,a2⟩:=a
            obtain⟨b1,b2⟩:=b
            simp [X0,strV,intV]at q⊢; exact⟨q.1.symm,q.2.symm⟩
          rcases ih (i+1) (fun x hx=>hl x (by simp [hx]))with⟨j,x,h1,h2,h3⟩ | ⟨h1,h2⟩
          · refine .inl ⟨j+1,x, by simpa using h1,h2, ?_⟩
            simp [Instr.findAsking,hb,eq,hab,h3];omega
          · refine .inr ⟨fun x hx=> ?_, ?_⟩
            · rcases List.mem_cons.1 hx with rfl | hx
              · exact hne
              · exact h1 x hx
            · simp [Instr.findAsking,hb,eq,hab,h2]
    cases l with
    | nil=> exact .inr ⟨by simp, by simp [Instr.findKey,run_underlying hu,Instr.findNow]⟩
    | cons e es=>
      obtain⟨b,hb⟩:=h e (by simp)
      have hn:Instr.findNow (.struct #[f0,f1]) (X0 a) (e::es) 0=none:= by simp [Instr.findNow,Instr.sameNow]
      have hk: ∀r,(Instr.findAsking kt (X0 a) (e::es) 0).run P w= .ok r w→(Instr.findKey kt (X0 a) (e::es)).run P w= .ok r w:= by
        intro r hr
        simp only[Instr.findKey,Sem.run_bind,run_underlying hu,Result.andThen,hn,hr]
      rcases ask (e::es) 0 h with⟨j,x,h1,h2,h3⟩ | ⟨h1,h2⟩
      · rw[Nat.zero_add]at h3
        exact .inl ⟨j,x,h1,h2,hk _ h3⟩
      · exact .inr ⟨h1,hk _ h2⟩
section
variable {P:Program} {n:Nat} {ops:Array Oper} {Q:Exit→Act→World→Prop} {rest:List Oper} {L:Env} {w:World} {d:Nat} {t t2:TypeId} {x y:Operand} {ty:TypeId} {pos:String} {aft:Array Edge}
theorem M1 {e:TypeId} (hu:P.underlying t=some (.pointer e)) (hx:look L x=some (.pointer none)) (hy:look L y=some (.pointer none)):Ev P L w ⟨some d,.binOp .neq t x y t2,ty,pos,aft,none⟩ (.bool false):= fun ρ hρ=> by simp [execOp,hρ _ _ hx,hρ _ _ hy,eqGuard,binOp,Gc hu]
theorem Zz {e:TypeId} (hu:P.underlying t=some (.pointer e)) (hx:look L x=some (.pointer none)) (hy:look L y=some (.pointer none)) (hd:Nat.blt d n=true) (hk:wl P n ops Q rest ((d,.bool false)::L) w):wl P n ops Q (⟨some d,.binOp .neq t x y t2,ty,pos,aft,none⟩::rest) L w:=
  Xv hd (M1 hu hx hy) hk
def Zr (b:BitVec 64):Value:= .int .u64 (b.toNat:Int)
theorem Rq (b:BitVec 64):BitVec.ofInt 64 (b.toNat:Int)=b:= by
  rw[BitVec.ofInt_natCast]; simp
theorem L8 (b:BitVec 64):(b.toNat:Int)%18446744073709551616=(b.toNat:Int):= by
  have :=b.isLt
  omega
theorem M0 {a b:BitVec 64} (hx:look L x=some (Zr a)) (hy:look L y=some (Zr b)):Ev P L w ⟨some d,.binOp .or t x y t2,ty,pos,aft,none⟩ (Zr (a ||| b)):= fun ρ hρ=> by
  simp only[execOp,hρ _ _ hx,hρ _ _ hy,Zr,binOp,Op.intBits,IntKind.bits,eqGuard,Rq]
  simp [IntKind.wrap,IntKind.signed,IntKind.bits, -BitVec.toNat_or]
  exact L8 _
theorem wl_or64 {a b:BitVec 64} (hx:look L x=some (Zr a)) (hy:look L y=some (Zr b)) (hd:Nat.blt d n=true) (hk:wl P n ops Q rest ((d,Zr (a ||| b))::L) w):wl P n ops Q (⟨some d,.binOp .or t x y t2,ty,pos,aft,none⟩::rest) L w:=Xv hd (M0 hx hy) hk
theorem Eh {a b:BitVec 64} (hx:look L x=some (Zr a)) (hy:look L y=some (Zr b)):Ev P L w ⟨some d,.binOp .and t x y t2,ty,pos,aft,none⟩ (Zr (a&&&b)):= fun ρ hρ=> by
  simp only[execOp,hρ _ _ hx,hρ _ _ hy,Zr,binOp,Op.intBits,IntKind.bits,eqGuard,Rq]
  simp [IntKind.wrap,IntKind.signed,IntKind.bits, -BitVec.toNat_and]
  exact L8 _
theorem GA {a b:BitVec 64} (hx:look L x=some (Zr a)) (hy:look L y=some (Zr b)) (hd:Nat.blt d n=true) (hk:wl P n ops Q rest ((d,Zr (a&&&b))::L) w):wl P n ops Q (⟨some d,.binOp .and t x y t2,ty,pos,aft,none⟩::rest) L w:=Xv hd (Eh hx hy) hk
theorem Cb {a b:BitVec 64} (hx:look L x=some (Zr a)) (hy:look L y=some (Zr b)):Ev P L w ⟨some d,.binOp .andNot t x y t2,ty,pos,aft,none⟩ (Zr (a&&& ~~~b)):= fun ρ hρ=> by
  simp only[execOp,hρ _ _ hx,hρ _ _ hy,Zr,binOp,Op.intBits,IntKind.bits,eqGuard,Rq]
  simp [IntKind.wrap,IntKind.signed,IntKind.bits, -BitVec.toNat_and]
  exact L8 _
theorem Eg {yk:IntKind} (m:Nat) (hx:look L x=some (.int .u64 1)) (hy:look L y=some (.int yk (m:Int))) (hm:m<64):Ev P L w ⟨some d,.binOp .shl t x y t2,ty,pos,aft,none⟩ (Zr (1#64<<<m)):= fun ρ hρ=> by
  have h0: ¬((m:Int)<0):= by omega
  have e:IntKind.u64.wrap (1*2^(min m 64))=((1#64<<<m).toNat:Int):= by
    rw[Nat.min_eq_left (by omega),Int.one_mul]
    have h1:(2:Int)^m=((2^m:Nat):Int):= by simp
    rw[h1]
    have h2:2^m<2^64:=Nat.pow_lt_pow_right (by decide) hm
    simp [IntKind.wrap,IntKind.signed,IntKind.bits,BitVec.toNat_shiftLeft,Nat.shiftLeft_eq]
  simp only[execOp,hρ _ _ hx,hρ _ _ hy,binOp,Op.shift,IntKind.bits,eqGuard,h0,if_false,Int.toNat_natCast,e,Zr]
  simp
theorem Ee {yk:IntKind} {a:BitVec 64} (m:Nat) (hx:look L x=some (Zr a)) (hy:look L y=some (.int yk (m:Int))) (hm:m≤64):Ev P L w ⟨some d,.binOp .shr t x y t2,ty,pos,aft,none⟩ (Zr (a>>>m)):= fun ρ hρ=> by
  have h0: ¬((m:Int)<0):= by omega
  have e:(a.toNat:Int).fdiv (2^(min m 64))=((a>>>m).toNat:Int):= by
    rw[Nat.min_eq_left hm,Int.fdiv_eq_ediv_of_nonneg _ (Int.le_of_lt (Int.pow_pos (by decide))),BitVec.toNat_ushiftRight,Nat.shiftRight_eq_div_pow]
    simp
  simp only[execOp,hρ _ _ hx,hρ _ _ hy,Zr,binOp,Op.shift,IntKind.bits,eqGuard,h0,if_false,Int.toNat_natCast,e]
  simp
theorem MW {yk:IntKind} {a:BitVec 64} (m:Nat) (hx:look L x=some (Zr a)) (hy:look L y=some (.int yk (m:Int))) (hm:m≤64) (hd:Nat.blt d n=true) (hk:wl P n ops Q rest ((d,Zr (a>>>m))::L) w):wl P n ops Q (⟨some d,.binOp .shr t x y t2,ty,pos,aft,none⟩::rest) L w:=Xv hd (Ee m hx hy hm) hk
end
section
variable {P:Program} {n:Nat} {ops:Array Oper} {Q:Exit→Act→World→Prop} {rest:List Oper} {L:Env} {w:World} {d:Nat} {ty:TypeId} {pos:String} {aft:Array Edge}
theorem KY {t:Nat} {parts:List (Nat×Operand)} {vs vs':List Value} {pls:List (Nat×Nat)} {z:List Value} (hx:W8 L (parts.map (·.2))=some vs) (hp:XS P t (parts.map (·.1))=some pls) (ha:Jq P t=true) (hz:XQ P t=some (some (.agg z.toArray))) (hok:Ju z.length pls vs=true) (hd:Nat.blt d n=true) (he:Wu z pls vs=vs') (hk:wl P n ops Q rest ((d,.agg vs'.toArray)::L) w):wl P n ops Q (⟨some d,.build t parts.toArray,ty,pos,aft,none⟩::rest) L w:= by
  subst he; exact Zw hx hp ha hz hok hd hk
end
end Go.Proofs.YtkgjmhcdacidoaaGreatDoor.M
namespace Go.Proofs.YtkgjmhcdacidoaaGreatDoor
open Go.RowKit M Proofs.Tryz
abbrev VS:=Int→Option (Int×Bs)
noncomputable def RM (V:VS) (j:Int):VS:= match V j with | none=>V | some x=>QO V j (some (x.1+1,x.2))
noncomputable def Z7 (V:VS) (j:Int):VS:= match V j with | none=>V | some x=> if 1<x.1 then QO V j (some (x.1 -1,x.2))else QO V j none
def Z9 (V:VS) (j:Int):Int:= match V j with | none=>0 | some x=>x.1
def Zf (V:VS) (j:Int):Bs:= match V j with | none=> if j=0 then zer else[] | some x=>x.2
def btV (V:VS) (j a:Int):UInt8:= if 0≤a∧a<64 then(Zf V j).getD a.toNat 0 else 0
def YK (V:VS) (n:Nat):Prop:= ∃l:List Int,l.length=n∧l.Nodup∧ ∀j∈l,V j≠none
theorem Ra {β:Type} (A:Int→Option β) (j:Int) (v:Option β):up A j v=QO A j v:= by
  funext i
  by_cases h:i=j
  · subst h; rw[XO,Qu]
  · rw[XW h,Qz h]
structure SlW where
  v:Nat
  f:Nat
variable [Inhabited SlW]
def Am (S:SS) (F:Nat):Prop:=S.fr.length=F∧S.slots=((default:SlW).v:Int)
def ZT (p n F:Nat) (V:VS):Th:=CH fun S:SS=>starL [JN (ShI VX n S∧vw S=V∧Am S F),Yn p S]
theorem Jx {w:World} {p n F:Nat} {V:VS} {As:List Th} (h:Sat w (ZT p n F V::As)): ∃S,ShI VX n S∧vw S=V∧Am S F∧Sat w (Yn p S::As):= by
  obtain⟨S,h⟩:=h.ex
  obtain⟨⟨a,b,c⟩,h⟩:=h.flat.pure_elim
  exact⟨S,a,b,c,h⟩
theorem Z1 {w:World} {p n F:Nat} {V:VS} {S:SS} {As:List Th} (hI:ShI VX n S) (hV:vw S=V) (hF:Am S F) (h:Sat w (Yn p S::As)):Sat w (ZT p n F V::As):=
  Sat.ex_intro (f:= fun S:SS=>starL [JN (ShI VX n S∧vw S=V∧Am S F),Yn p S]) S (Sat.fold (As:=[JN (ShI VX n S∧vw S=V∧Am S F),Yn p S]) (Sat.pure_intro ⟨hI,hV,hF⟩ h))
theorem XM {w:World} {p n m F:Nat} {V:VS} {As:List Th} (hm:n≤m) (h:Sat w (ZT p n F V::As)):Sat w (ZT p m F V::As):= by
  obtain⟨S,a,b,c,h⟩:=Jx h
  exact Z1 (a.mono hm) b c h
theorem HP {S:SS} {j:Int} (h:S.all j=none):vw S j=none:= by unfold vw; rw[h];rfl
theorem HO {S:SS} {j:Int} {x:ShE} (h:S.all j=some x):vw S j=some (x.refs,x.pg):= by unfold vw; rw[h];rfl
theorem Lr (S:SS) (j:Int):Yo S j=Zf (vw S) j:= by
  unfold Yo Zf
  cases h:S.all j with
  | none=> rw[HP h]
  | some x=> rw[HO h]
theorem N4 {n:Nat} {Q:Nat→Int→Prop} (h: ∀i,i<n→ ∃j,Q i j): ∃f:Nat→Int,∀i,i<n→Q i (f i):= by
  classical
  exact⟨fun i=> if hi:i<n then Classical.choose (h i hi)else 0, fun i hi=> by dsimp only; rw[dif_pos hi]; exact Classical.choose_spec (h i hi)⟩
theorem VJ {n:Nat} {S:SS} (hI:ShI VX n S) (hf: ∀o∈S.fr,o≠none):YK (vw S) S.fr.length:= by
  have hex: ∀i,i<S.fr.length→ ∃j:Int,S.inn (i:Nat)=some j∧S.all j≠none:= by
    intro i hi
    obtain⟨b,hb⟩: ∃b,S.fr[i]? =some (some b):= by
      have h1:=hf _ (List.getElem_mem hi)
      cases hq:S.fr[i]with
      | none=> exact absurd hq h1
      | some b=> exact⟨b, by rw[Zd hi,hq]⟩
    have h2:ZH S.fr (i:Nat)=some b:= by unfold ZH; rw[if_pos (by omega),Int.toNat_natCast,hb]
    have h3:=hI.fru h2
    cases hq:S.inn (i:Nat)with
    | none=> exact absurd hq h3
    | some j=>
      obtain⟨_,x,hx,_⟩:=(hI.frm _ _).1 hq
      exact⟨j,rfl, by rw[hx]; simp⟩
  obtain⟨f,hf2⟩:=N4 (n:=S.fr.length) hex
  refine⟨(List.range S.fr.length).map f, by simp, ?_, fun j hj=> ?_⟩
  · unfold List.Nodup
    rw[List.pairwise_map]
    refine List.Pairwise.imp_of_mem (fun {a b} ha hb hne e=> ?_) (List.nodup_range)
    have ha':=List.mem_range.1 ha
    have hb':=List.mem_range.1 hb
    have h1:=(hf2 a ha').1
    have h2:=(hf2 b hb').1
    rw[e]at h1
    obtain⟨_,x,hx,hp,hat⟩:=(hI.frm _ _).1 h1
    obtain⟨_,y,hy,hq,hbt⟩:=(hI.frm _ _).1 h2
    rw[hx]at hy; cases hy
    omega
  · obtain⟨i,hi,rfl⟩:=List.mem_map.1 hj
    have :=(hf2 i (List.mem_range.1 hi)).2
    intro q
    apply this
    unfold vw at q
    simpa using q
theorem stRef {w:World} {p n F:Nat} {V:VS} {X:Th} (hS:Sat w [ZT p n F V,X]) (hn:n≤80000000000) (id:Int):
    Calls prog 103 #[ptrV p 0,intV id] w (Ret fun v w'=> ∃e,v=intV e∧Sat w' [ZT p (n+1) F (RM V id),X]):= by
  obtain⟨S,hI,rfl,hF,hS⟩:=Jx hS
  refine(FY hS hI hn id).mono fun e w h=>h.mono fun v w h=> ?_
  cases Zt:S.all id with
  | none=>
    rw[Zt]at h
    have e:RM (vw S) id=vw S:= by unfold RM; rw[HP Zt]
    rw[e]
    by_cases q:id=0
    · exact⟨0, by rw[h.1,if_pos q],XM (by omega) (Z1 hI U hF h.2)⟩
    · exact⟨4, by rw[h.1,if_neg q],XM (by omega) (Z1 hI U hF h.2)⟩
  | some x=>
    rw[Zt]at h
    have hr:=(hI.ent Zt).2.2
    obtain⟨a,b,c⟩:=Pa (r:=x.refs+1) hI Zt ⟨by omega, by omega⟩
    refine⟨0,h.1,Z1 a ?_ ⟨b.frn.trans hF.1,b.slo.trans hF.2⟩ h.2⟩
    rw[c,Ra];unfold RM; rw[HO Zt]
theorem Mg {w:World} {p n F:Nat} {V:VS} {X:Th} (hS:Sat w [ZT p n F V,X]) (hn:n≤80000000000) (id:Int):
    Calls prog 97 #[ptrV p 0,intV id] w (Ret fun v w'=> ∃e,v=intV e∧Sat w' [ZT p (n+1) F (Z7 V id),X]):= by
  obtain⟨S,hI,rfl,hF,hS⟩:=Jx hS
  refine(CX hS hI hn id).mono fun e w h=>h.mono fun v w h=> ?_
  cases Zt:S.all id with
  | none=>
    rw[Zt]at h
    have e:Z7 (vw S) id=vw S:= by unfold Z7; rw[HP Zt]
    rw[e]
    by_cases q:id=0
    · exact⟨0, by rw[h.1,if_pos q],XM (by omega) (Z1 hI U hF h.2)⟩
    · exact⟨4, by rw[h.1,if_neg q],XM (by omega) (Z1 hI U hF h.2)⟩
  | some x=>
    rw[Zt]at h
    have hr:=(hI.ent Zt).2.2
    rcases h with⟨h1,⟨h2,h3⟩ | ⟨h2,S',h3,h4⟩⟩
    · obtain⟨a,b,c⟩:=Pa (r:=x.refs -1) hI Zt ⟨by omega, by omega⟩
      refine⟨0,h1,Z1 a ?_ ⟨b.frn.trans hF.1,b.slo.trans hF.2⟩ h3⟩
      rw[c,Ra];unfold Z7; rw[HO Zt]; dsimp only; rw[if_pos h2]
    · refine⟨0,h1,Z1 h3.inv ?_ ⟨h3.f.frn.trans hF.1,h3.f.slo.trans hF.2⟩ h4⟩
      rw[h3.is,Ra];unfold Z7; rw[HO Zt]; dsimp only; rw[if_neg (by omega)]
theorem FU {w:World} {p n F:Nat} {V:VS} {X:Th} (hS:Sat w [ZT p n F V,X]) (id:Int):
    Calls prog 114 #[ptrV p 0,intV id] w (Ret fun v w'=>v=intV (Z9 V id)∧Sat w' [ZT p n F V,X]):= by
  obtain⟨S,hI,rfl,hF,hS⟩:=Jx hS
  refine(So hS id).mono fun e w h=>h.mono fun v w h=> ?_
  refine⟨?_,Z1 hI U hF h.2⟩
  rw[h.1];unfold Z9
  cases Zt:S.all id with
  | none=> rw[HP Zt]
  | some x=> rw[HO Zt]
theorem Uv {w:World} {p n F:Nat} {V:VS} {X:Th} (hS:Sat w [ZT p n F V,X]) (id:Int):
    Calls prog 55 #[ptrV p 0,intV id] w (Ret fun v w'=>v=strV (Zf V id)∧Sat w' [ZT p n F V,X]):= by
  obtain⟨S,hI,rfl,hF,hS⟩:=Jx hS
  refine(Dn hS hI id (fun q=>q)).mono fun e w h=>h.mono fun v w h=> ?_
  exact⟨by rw[h.1,Lr],Z1 hI U hF h.2⟩
theorem stByte {w:World} {p n F:Nat} {V:VS} {X:Th} (hS:Sat w [ZT p n F V,X]) (hn:n≤80000000000) (id a:Int):
    Calls prog 79 #[ptrV p 0,intV id,intV a] w (Ret fun v w'=>v=Y3 (btV V id a)∧Sat w' [ZT p n F V,X]):= by
  obtain⟨S,hI,rfl,hF,hS⟩:=Jx hS
  refine(Sr hS hI hn id a).mono fun e w h=>h.mono fun v w h=> ?_
  exact⟨by rw[h.1];unfold Ss btV; rw[Lr],Z1 hI U hF h.2⟩
theorem NW {w:World} {p n F:Nat} {V:VS} {X:Th} (hS:Sat w [ZT p n F V,X]) (hn:n≤80000000000) {pg:Bs} (hpg:pg.length=64):
    Calls prog 115 #[ptrV p 0,strV pg] w (Ret fun v w'=>(v= .tuple #[intV 0,intV 6]∧YK V F∧Sat w' [ZT p (n+1) F V,X])∨(∃id,v= .tuple #[intV id,intV 0]∧1≤id∧V id=none∧Sat w' [ZT p (n+1) F (QO V id (some (1,pg))),X])):= by
  obtain⟨S,hI,rfl,hF,hS⟩:=Jx hS
  refine(GS hS hI hn hpg).mono fun e w h=>h.mono fun v w h=> ?_
  rcases h with⟨h1,h2,h3,h4⟩ | ⟨h1,S',h2,h3⟩
  · exact .inl ⟨h1, by rw[←hF.1]; exact VJ hI h2,XM (by omega) (Z1 hI U hF h4)⟩
  · exact .inr ⟨_,h1,h2.pos,HP h2.was,Z1 h2.inv (by rw[h2.is,Ra]) ⟨h2.f.frn.trans hF.1,h2.f.slo.trans hF.2⟩ h3⟩
theorem FV {w:World} {p n F:Nat} {V:VS} {X:Th} (hS:Sat w [ZT p n F V,X]) (hn:n≤80000000000) {pg:Bs} (hpg:pg.length=64):
    Calls prog 95 #[ptrV p 0,strV pg] w (Ret fun v w'=>(pg=zer∧v= .tuple #[intV 0,intV 0]∧Sat w' [ZT p (n+1) F V,X])∨(pg≠zer∧v= .tuple #[intV 0,intV 6]∧YK V F∧Sat w' [ZT p (n+1) F V,X])∨(∃id,pg≠zer∧v= .tuple #[intV id,intV 0]∧1≤id∧V id=none∧Sat w' [ZT p (n+1) F (QO V id (some (1,pg))),X])):= by
  obtain⟨S,hI,rfl,hF,hS⟩:=Jx hS
  refine(Sq hS hI hn hpg).mono fun e w h=>h.mono fun v w h=> ?_
  rcases h with⟨h0,h1,h4⟩ | ⟨h0,⟨h1,h2,h3,h4⟩ | ⟨h1,S',h2,h3⟩⟩
  · exact .inl ⟨h0,h1,XM (by omega) (Z1 hI U hF h4)⟩
  · exact .inr (.inl ⟨h0,h1, by rw[←hF.1]; exact VJ hI h2,XM (by omega) (Z1 hI U hF h4)⟩)
  · exact .inr (.inr ⟨_,h0,h1,h2.pos,HP h2.was,Z1 h2.inv (by rw[h2.is,Ra]) ⟨h2.f.frn.trans hF.1,h2.f.slo.trans hF.2⟩ h3⟩)
theorem stSet {w:World} {p n F:Nat} {V:VS} {X:Th} (hS:Sat w [ZT p n F V,X]) (hn:n≤80000000000) (id a:Int) (b:UInt8):
    Calls prog 78 #[ptrV p 0,intV id,intV a,Y3 b] w (Ret fun v w'=>(∃e,v=intV e∧e≠0∧(V id=none∨1<Z9 V id∨a<0∨64≤a∨YK V F)∧Sat w' [ZT p (n+1) F V,X])∨(∃r pg,V id=some (r,pg)∧v=intV 0∧(0≤a∧a<64)∧Sat w' [ZT p (n+1) F (QO V id (some (r,pg.set a.toNat b))),X])):= by
  obtain⟨S,hI,rfl,hF,hS⟩:=Jx hS
  refine(FX hS hI hn id a b).mono fun e w h=>h.mono fun v w h=> ?_
  rcases h with⟨e,h1,h2,h3,h4⟩ | ⟨x,S',h1,h2,h3,h4,h5⟩
  · exact .inl ⟨e,h1,h2,h3.imp HP (Or.imp (fun ⟨x,q1,q2⟩=> by unfold Z9; rw[HO q1]; exact q2) (Or.imp (fun q=>q) (Or.imp (fun q=>q) fun q=> by rw[←hF.1]; exact VJ hI q))),XM (by omega) (Z1 hI U hF h4)⟩
  · exact .inr ⟨x.refs,x.pg,HO h1,h2,h3,Z1 h4.inv (by rw[h4.is,Ra]) ⟨h4.f.frn.trans hF.1,h4.f.slo.trans hF.2⟩ h5⟩
theorem stNew {w:World} {X:Th} (hS:Sat w [X]) (count slots budget:Int) (hsl:((default:SlW).v:Int)=min (max slots 0) 4096):
    Calls prog 26 #[intV count,intV slots,intV budget] w (Ret fun v w'=> ∃p,v=ptrV p 0∧Sat w' [ZT p 0 (min (max count 1) 256).toNat (fun _=>none),X]):= by
  refine(FZ hS count slots budget).mono fun e w h=>h.mono fun v w h=> ?_
  obtain⟨p,h1,h2⟩:=h
  exact⟨p,h1,Z1 (L4 count slots budget) (by funext j;rfl) ⟨by simp [Vm], by show(Vm count slots budget).slots=_; rw[hsl]; simp [Vm]⟩ h2⟩
