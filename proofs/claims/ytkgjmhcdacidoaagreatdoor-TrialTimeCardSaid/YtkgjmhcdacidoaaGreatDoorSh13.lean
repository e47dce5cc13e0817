/- sheets: Set -/
import Derived.Test.YtkgjmhcdacidoaaGreatDoorSh12
import Derived.Test.YtkgjmhcdacidoaaGreatDoorRow
set_option linter.unusedSectionVars false
set_option linter.unusedVariables false
set_option maxRecDepth 100000
set_option maxHeartbeats 3200000
namespace Go.Proofs.YtkgjmhcdacidoaaGreatDoor
open Go.RowKit M Proofs.Tryz
theorem ShF.trans {S S' S'':SS} (h:ShF S S') (h':ShF S' S''):ShF S S'':= by
  refine⟨?_,h'.bud.trans h.bud,h'.slo.trans h.slo,h'.frn.trans h.frn⟩
  obtain⟨L,h1,h2⟩:=h.tk
  obtain⟨L',h3,h4⟩:=h'.tk
  refine⟨L++L', by rw[h3,h1,List.append_assoc], fun j x hx hp=> ?_⟩
  rcases h2 j x hx hp with h | ⟨y,hy,hp',ha⟩
  · exact .inl (List.mem_append_left _ h)
  · rcases h4 j y hy hp' with h | ⟨z,hz,hp'',ha'⟩
    · exact .inl (List.mem_append_right _ (by rw[←ha]; exact h))
    · exact .inr ⟨z,hz,hp'',ha'.trans ha⟩
noncomputable def setP (S:SS) (id:Int) (y:ShE) (pg:Bs):SS:={S with all:=up S.all id (some {y with pg:=pg}),fr:=S.fr.set y.at_.toNat (some pg)}
theorem Pv {A:Int→Option ShE} {id:Int} {y:ShE} {pg:Bs} (h:A id=some y) (hp:y.place=1):aG (up A id (some {y with pg:=pg}))=aG A:= by
  funext j
  unfold aG
  by_cases q:j=id
  · subst q; rw[XE,h]; show some _=some _;unfold Nx V5; simp [hp]
  · rw[XM q]
structure SetS (T:Nat) (S S':SS) (id:Int) (x:ShE) (pg:Bs):Prop where
  inv:ShI VH (T+1) S'
  f:ShF S S'
  is:vw S'=up (vw S) id (some (x.refs,pg))
theorem Fo {T:Nat} {S S1:SS} {id:Int} {x y:ShE} {pg:Bs} (h:ShI VH (T+1) S1) (hf:ShF S S1) (hv:vw S1=vw S) (hy:S1.all id=some y) (hp:y.place=1) (hr:y.refs=x.refs) (hpg:pg.length=64):SetS T S (setP S1 id y pg) id x pg:= by
  refine⟨h.page (fun q=>q) hy hp hpg,hf.trans ⟨⟨[], by simp [setP], fun j z hz hp1=> .inr ?_⟩,rfl,rfl, by show(S1.fr.set _ _).length=_; rw[List.length_set]⟩, ?_⟩
  · by_cases q:j=id
    · subst q; rw[hy]at hz; cases hz; exact⟨_,XE,hp1,rfl⟩
    · exact⟨z, by show up S1.all id _ j=_; rw[XM q]; exact hz,hp1,rfl⟩
  · rw[←hr,←hv]; exact SN U
theorem Ff {w:World} {p:Nat} {S:SS} {F:Th} (hS:Sat w [JV p S,F]) {N:Nat} (hI:ShI VH N S) (hN:N≤80000000000) (id at_:Int) (b:UInt8):
    Calls prog 78 #[ptrV p 0,intV id,intV at_,Yk b] w (Ret fun v w'=>(∃e,v=intV e∧e≠0∧(S.all id=none∨(∃x,S.all id=some x∧1<x.refs)∨at_<0∨64≤at_∨ ∀o∈S.fr,o≠none)∧Sat w' [JV p S,F])∨(∃x S',S.all id=some x∧v=intV 0∧(0≤at_∧at_<64)∧SetS N S S' id x (x.pg.set at_.toNat b)∧Sat w' [JV p S',F])):= by
 obtain⟨ba,bi,fp,sp,kp,ac,cc,at2,ct,hS⟩:=XN hS
 cases Zp:S.all id with
 | none=>
  refine Qm func78 U ntmps78 U ?_
  refine Qe (Qa (Qd U U (Qf (Qc (Qe (Qa (Qb U U (Qi U U (Qg U XI U (Qn U Z6 (by first | assumption | exact hS.cell 0 U U) U ?_))))))))))
  refine Qb U U (Xi (k:=id) 1 hS keysInt underlying75 U U U X0 (u:=(.agg #[intV 0,intV 0,intV 0,strV []])) (g:=false) (Yy Zp) (Ye Zp) U (Qb U U (Qp U U U (Qp U U U (Xb hS X0 U U ?_)))))
  intro b1 w1 j1
  first | (refine QF j1 U U XW U (by first | rfl | (simp [QU,Value.oneCell'];done) | assumption | exact hone) (i:=0) U (by first | decide | exact Q5 U | (simp;done) | omega) ?_) | (refine QF j1 U U XW U (by first | rfl | (simp [QU,Value.oneCell'];done) | assumption | exact hone) (i:=1) U (by first | decide | exact Q5 U | (simp;done) | omega) ?_)
  intro w2 j3; dsimp only[List.set]at j3
  refine Qd U U (Qf (Qc (Qh [3,2,1,0,8,9,10] U (Qe (Qz (Qe (Qa (Qb U U (QV U U (Qb U U (Xu 25 U (fun h4=> ?_) (fun h4=> ?_))))))))))))
  ·refine Qj U U h4 (Qb U U (Qj U U h4 (Xn U U U (QH U h4 U U (Qd U U (Qf (Qc (Qh [3,2,1,0,8,9,22] U (Qu U (fun h5=> ?_) (fun h5=> ?_))))))))))
   ·exact Qe (Qa (Qd U U (Qf (Qc (Qv (Q0 (Qq (QM (.inr U) U U (⟨_,rfl,.inl ⟨_,rfl, by first | decide | omega, by first | exact .inl U | (exact .inr (.inr (.inr (.inr hall)))) | (exact .inr (.inl ⟨x,rfl, by omega⟩)) | (exact .inr (.inr (.inl (by omega)))) | (exact .inr (.inr (.inr (.inl (by omega))))),QR (j3.pick [1,2,3,4,5,6,7,8,9] U)⟩⟩)))))))))
   refine Qe (Qa (Qb U U (Xl U U U (Qb U U (QS 32 U (fun h6=> ?_) (fun h6=> ?_))))))
   ·exact Qk U U (det h6) U (Qk U U (det h6) U (Qk U U (det h6) U (QH U (det h6) U U (Qd U U (Qf (Qc (Qh [3,2,1,0,8,29] U (X3 U (Qe (Qa (Qd U U (Qf (Qc (Qv (Q0 (Qq (QM (.inr U) U U (⟨_,rfl,.inl ⟨_,rfl, by first | decide | omega, by first | exact .inl U | (exact .inr (.inr (.inr (.inr hall)))) | (exact .inr (.inl ⟨x,rfl, by omega⟩)) | (exact .inr (.inr (.inl (by omega)))) | (exact .inr (.inr (.inr (.inl (by omega))))),QR (j3.pick [1,2,3,4,5,6,7,8,9] U)⟩⟩))))))))))))))))))
   exact absurd h6 (by omega)
  exact absurd h4 (by simp)
 | some x=>
  obtain⟨hid1,_,hr1,hr2,_,hplc⟩:=hI.ent Zp
  refine Qm func78 U ntmps78 U ?_
  refine Qe (Qa (Qd U U (Qf (Qc (Qe (Qa (Qb U U (Qi U U (Qg U XI U (Qn U Z6 (by first | assumption | exact hS.cell 0 U U) U ?_))))))))))
  refine Qb U U (Xi (k:=id) 1 hS keysInt underlying75 U U U X0 (u:=(.agg #[intV x.refs,intV x.place,intV x.at_,strV (V5 x)])) (g:=true) (WH Zp) (Yd Zp) U (Qb U U (Qp U U U (Qp U U U (Xb hS X0 U U ?_)))))
  intro b1 w1 j1
  first | (refine QF j1 U U XW U (by first | rfl | (simp [QU,Value.oneCell'];done) | assumption | exact hone) (i:=0) U (by first | decide | exact Q5 U | (simp;done) | omega) ?_) | (refine QF j1 U U XW U (by first | rfl | (simp [QU,Value.oneCell'];done) | assumption | exact hone) (i:=1) U (by first | decide | exact Q5 U | (simp;done) | omega) ?_)
  intro w2 j3; dsimp only[List.set]at j3
  refine Qd U U (Qf (Qc (Qh [3,2,1,0,8,9,10] U (Qe (Qz (Qe (Qa (Qb U U (QV U U (Qb U U (Xu 25 U (fun h4=> ?_) (fun h4=> ?_))))))))))))
  ·exact absurd h4 (by simp)
  refine Qk U U h4 U (Qk U U h4 U (QG U h4 U U (Qd U U (Qf (Qc (Qh [3,2,1,0,8,9,22] U (QW U (Qe (Qa (Qb U U (Xl U U U (Qb U U (QS 32 U (fun h5=> ?_) (fun h5=> ?_))))))))))))))
  ·exact absurd h5 (by omega)
  refine Qj U U (QJ h5) (Qg U WO U (Qj U U (QJ h5) (Qn U QO (by first | assumption | exact j3.cell 0 U U | exact j3.cell 1 U U) U ?_)))
  refine Qj U U (QJ h5) (J1 U U U (QG U (QJ h5) U U (Qd U U (Qf (Qc (Qh [3,2,1,0,8,29] U (Qu U (fun h6=> ?_) (fun h6=> ?_))))))))
  ·exact Qe (Qa (Qd U U (Qf (Qc (Qv (Q0 (Qq (QM (.inr U) U U (⟨_,rfl,.inl ⟨_,rfl, by first | decide | omega, by first | exact .inl U | (exact .inr (.inr (.inr (.inr hall)))) | (exact .inr (.inl ⟨x,rfl, by omega⟩)) | (exact .inr (.inr (.inl (by omega)))) | (exact .inr (.inr (.inr (.inl (by omega))))),QR (j3.pick [1,2,3,4,5,6,7,8,9] U)⟩⟩)))))))))
  refine Qe (Qa (Qb U U (Xk U U U (Qb U U (QS 40 U (fun h7=> ?_) (fun h7=> ?_))))))
  ·exact Qk U U (det h7) U (Qk U U (det h7) U (QH U (det h7) U U (Qd U U (Qf (Qc (Qh [3,2,1,0,8,37] U (X3 U (Qe (Qa (Qd U U (Qf (Qc (Qv (Q0 (Qq (QM (.inr U) U U (⟨_,rfl,.inl ⟨_,rfl, by first | decide | omega, by first | exact .inl U | (exact .inr (.inr (.inr (.inr hall)))) | (exact .inr (.inl ⟨x,rfl, by omega⟩)) | (exact .inr (.inr (.inl (by omega)))) | (exact .inr (.inr (.inr (.inl (by omega))))),QR (j3.pick [1,2,3,4,5,6,7,8,9] U)⟩⟩)))))))))))))))))
  refine Qj U U (QJ h7) (Qb U U (Qj U U (QJ h7) (Yg U U U (QG U (QJ h7) U U (Qd U U (Qf (Qc (Qh [3,2,1,0,8,37] U (Qu U (fun h8=> ?_) (fun h8=> ?_))))))))))
  ·exact Qe (Qa (Qd U U (Qf (Qc (Qv (Q0 (Qq (QM (.inr U) U U (⟨_,rfl,.inl ⟨_,rfl, by first | decide | omega, by first | exact .inl U | (exact .inr (.inr (.inr (.inr hall)))) | (exact .inr (.inl ⟨x,rfl, by omega⟩)) | (exact .inr (.inr (.inl (by omega)))) | (exact .inr (.inr (.inr (.inl (by omega))))),QR (j3.pick [1,2,3,4,5,6,7,8,9] U)⟩⟩)))))))))
  refine Qt (Qo (Qc (Qe (Qa (Qb U U (Qb U U ?_))))))
  have j9:=QR (j3.pick [1,2,3,4,5,6,7,8,9] U)
  have hbr:= fun {w F} (hC:Sat w [JV p S,F])=>CA hC hI hN id
  simp only[Zp]at hbr
  refine Xv cal_116 U (hbr (j9.sp [0] U)) U ?_
  rintro e w10 ⟨_,rfl,(⟨hp1,rfl,j10⟩ | ⟨k,S2,hp1,rfl,hB,j10⟩ | ⟨hp2,rfl,hall,hfull,j10⟩)⟩
  ·refine⟨_,U, ?_⟩
   replace j10:=j10.jn U U
   refine Qb U U (Qp U U U (Qp U U U (Qd U U (Qd U U (Qf (Qc (Qh [3,2,0,8,11,12] U (Qe (Qe (Qa (Qb U U (Xn U U U (Qf (Qc (Qu U (fun h11=> ?_) (fun h11=> ?_))))))))))))))))
   ·exact absurd U h11
   refine Qt (Qc (Qe ?_))
   obtain⟨ba,bi,fp,sp,kp,ac,cc,at2,ct,hSo12⟩:=XN (j10.pick [0,1] rfl)
   refine Qa (Qb U U (Qi U U (Qg U Ja U (Qn U H8 (by first | assumption | exact hSo12.cell 0 U U) U ?_))))
   refine Qb U U (Qb U U (Qb U U ?_))
   have hfr:=hI.frc (fun q=>q) Zp hp1
   refine Xv Pk U (Ts (hSo12.sp [4] U) x.at_ at_ b) U ?_
   rintro e w13 ⟨_,rfl,(⟨hbad,j13⟩ | ⟨rfl,cb,hcb,hrng,j13⟩)⟩
   ·exfalso; rw[hfr]at hbad; simp at hbad;omega
   refine⟨_,U, ?_⟩
   replace j13:=j13.jn U U
   clear hSo12
   refine Qd U U (Qf (Qc (Qh [8] U (Qv (QM (.inr U) U U ?_)))))
   obtain rfl:x.pg=cb:= by rw[hfr]at hcb; cases hcb;rfl
   have hz:=j13.pick [1,2,3,4,0,5,6,7,8] U
   rw[←Pv (pg:=x.pg.set at_.toNat b) Zp hp1]at hz
   exact⟨_,rfl,.inr ⟨x,_,rfl,rfl,hrng,Fo (x:=x) (pg:=x.pg.set at_.toNat b) (hI.mono (Nat.le_add_right N 1)) (ShF.refl S) U Zp hp1 U (by rw[List.length_set]; exact(hI.ent Zp).2.2.2.2.1),QR (S:=setP S id x (x.pg.set at_.toNat b)) hz⟩⟩
  ·refine⟨_,U, ?_⟩
   replace j10:=j10.jn U U
   refine Qb U U (Qp U U U (Qp U U U (Qd U U (Qd U U (Qf (Qc (Qh [3,2,0,8,11,12] U (Qe (Qe (Qa (Qb U U (Xn U U U (Qf (Qc (Qu U (fun h14=> ?_) (fun h14=> ?_))))))))))))))))
   ·exact absurd U h14
   refine Qt (Qc (Qe ?_))
   obtain⟨ba,bi,fp,sp,kp,ac,cc,at2,ct,hSo15⟩:=XN (j10.pick [0,1] rfl)
   refine Qa (Qb U U (Qi U U (Qg U Ja U (Qn U H8 (by first | assumption | exact hSo15.cell 0 U U) U ?_))))
   refine Qb U U (Qb U U (Qb U U ?_))
   have hfr:=hB.inv.frc (fun q=>q) hB.is U
   dsimp only at hfr
   refine Xv Pk U (Ts (hSo15.sp [4] U) (k:Int) at_ b) U ?_
   rintro e w16 ⟨_,rfl,(⟨hbad,j16⟩ | ⟨rfl,cb,hcb,hrng,j16⟩)⟩
   ·exfalso; rw[hfr]at hbad; simp at hbad;omega
   refine⟨_,U, ?_⟩
   replace j16:=j16.jn U U
   clear hSo15
   refine Qd U U (Qf (Qc (Qh [8] U (Qv (QM (.inr U) U U ?_)))))
   obtain rfl:x.pg=cb:= by rw[hfr]at hcb; cases hcb;rfl
   have hz:=j16.pick [1,2,3,4,0,5,6,7,8] U
   rw[←Pv (pg:=x.pg.set at_.toNat b) hB.is U]at hz
   exact⟨_,rfl,.inr ⟨x,_,rfl,rfl,hrng,Fo (x:=x) (pg:=x.pg.set at_.toNat b) hB.inv hB.go.f hB.go.vw hB.is U U (by rw[List.length_set]; exact(hI.ent Zp).2.2.2.2.1),QR (S:=setP S2 id ⟨x.refs,1,(k:Nat),x.pg⟩ (x.pg.set at_.toNat b)) hz⟩⟩
  refine⟨_,U, ?_⟩
  replace j10:=j10.jn U U
  refine Qb U U (Qp U U U (Qp U U U (Qd U U (Qd U U (Qf (Qc (Qh [3,2,0,8,11,12] U (Qe (Qe (Qa (Qb U U (Xn U U U (Qf (Qc (Qu U (fun h17=> ?_) (fun h17=> ?_))))))))))))))))
  ·exact Qe (Qa (Qb U U (Qd U U (Qf (Qc (Qv (Qq (QM (.inr U) U U (⟨_,rfl,.inl ⟨_,rfl, by first | decide | omega, by first | exact .inl U | (exact .inr (.inr (.inr (.inr hall)))) | (exact .inr (.inl ⟨x,rfl, by omega⟩)) | (exact .inr (.inr (.inl (by omega)))) | (exact .inr (.inr (.inr (.inl (by omega))))),j10.pick [0,1] U⟩⟩)))))))))
  exact absurd (by decide) h17
end Go.Proofs.YtkgjmhcdacidoaaGreatDoor
namespace Go.Proofs.YtkgjmhcdacidoaaGreatDoor.M
open Go.RowKit Proofs.Tryz
section
variable {κ:Type} {β:Type}
open Classical in
noncomputable def QK (f:κ→Option β) (k:κ) (v:Option β):κ→Option β:= fun j=> if j=k then v else f j
theorem Qr {f:κ→Option β} {k:κ} {v:Option β}:QK f k v k=v:= by simp [QK]
theorem Qw {f:κ→Option β} {k j:κ} {v:Option β} (h:j≠k):QK f k v j=f j:= by simp [QK,h]
theorem J3 {f:κ→Option β} {k:κ} {u v:Option β}:QK (QK f k u) k v=QK f k v:= by
  funext j
  by_cases h:j=k
  · subst h; rw[Qr,Qr]
  · rw[Qw h,Qw h,Qw h]
theorem Wr {f:κ→Option β} {k:κ} {v:Option β} (h:f k=v):QK f k v=f:= by
  funext j
  by_cases e:j=k
  · subst e; rw[Qr,h]
  · rw[Qw e]
def Nu (o:Option Th):Th:=o.getD empT
def TV (h:κ→Option Th):Th:=Ch fun L:List κ=>starL [J8 (L.Nodup∧ ∀k,k∈L↔h k≠none),starL (L.map fun k=>Nu (h k))]
section
variable {w:World} {As:List Th} {h:κ→Option Th} {k:κ} {A:Th}
theorem Sat.second {A X Y:Th} {As:List Th} (f: ∀{Bs:List Th},Sat w (X::Bs)→Sat w (Y::Bs)) (hS:Sat w (A::X::As)):Sat w (A::Y::As):=
  (f (hS.perm (List.Perm.swap _ _ _))).perm (List.Perm.swap _ _ _)
theorem Dx (hS:Sat w (TV h::As)): ∃L:List κ,(L.Nodup∧ ∀k,k∈L↔h k≠none)∧Sat w (starL (L.map fun k=>Nu (h k))::As):= by
  obtain⟨L,hL⟩:=hS.ex
  exact⟨L,hL.flat.pure_elim⟩
theorem Rn {L:List κ} (hL:L.Nodup∧ ∀k,k∈L↔h k≠none) (hS:Sat w (starL (L.map fun k=>Nu (h k))::As)):Sat w (TV h::As):=
  Sat.ex_intro (f:= fun L:List κ=>starL [J8 (L.Nodup∧ ∀k,k∈L↔h k≠none),starL (L.map fun k=>Nu (h k))]) L (Sat.fold (As:=[J8 (L.Nodup∧ ∀k,k∈L↔h k≠none),starL (L.map fun k=>Nu (h k))]) (Sat.pure_intro hL hS))
theorem Sat.emp_intro (hS:Sat w As):Sat w (starL []::As):=Sat.fold (As:=[]) hS
theorem SC (hS:Sat w As):Sat w (TV (fun _:κ=>none)::As):=Rn (L:=[]) ⟨List.nodup_nil, fun k=> by simp⟩ hS.emp_intro
theorem Ef (hS:Sat w (TV h::As)) (hk:h k=some A):Sat w (A::TV (QK h k none)::As):= by
  obtain⟨L,⟨hn,hm⟩,h1⟩:=Dx hS
  have hkm:k∈L:=(hm k).2 (by rw[hk]; simp)
  obtain⟨L1,L2,rfl⟩:=List.append_of_mem hkm
  have hp:(L1++k::L2).Perm (k::(L1++L2)):=List.perm_middle
  have hn':=hp.nodup_iff.1 hn
  obtain⟨hk1,hn2⟩:=List.nodup_cons.1 hn'
  have h2:=Ee h1 (hp.map _)
  have h3:=big_out (Xs:=(k::(L1++L2)).map fun k=>Nu (h k)) (i:=0) h2 U
  have e1:Nu (h k)=A:= by rw[hk];rfl
  replace h3:Sat w (Nu (h k)::starL (((k::(L1++L2)).map fun k=>Nu (h k)).eraseIdx 0)::As):=h3
  rw[e1]at h3
  have e2:(((k::(L1++L2)).map fun k=>Nu (h k)).eraseIdx 0)=(L1++L2).map fun j=>Nu (QK h k none j):= by
    show(L1++L2).map (fun k=>Nu (h k))=_
    refine List.map_congr_left fun j hj=> ?_
    rw[Qw]
    intro q; subst q; exact hk1 hj
  rw[e2]at h3
  refine Sat.second (fun {Bs} g=>Rn ⟨hn2, fun j=> ?_⟩ g) h3
  by_cases hj:j=k
  · subst hj
    rw[Qr]
    exact⟨fun q=>absurd q hk1, fun q=>absurd U q⟩
  · rw[Qw hj,←hm j,hp.mem_iff,List.mem_cons]
    exact⟨fun q=> .inr q, fun q=>q.resolve_left hj⟩
theorem Pq (hS:Sat w (A::TV h::As)) (hk:h k=none):Sat w (TV (QK h k (some A))::As):= by
  obtain⟨L,⟨hn,hm⟩,h1⟩:=Dx (hS.perm (List.Perm.swap _ _ _))
  have hkm:k∉L:= fun q=>(hm k).1 q hk
  have h2:=big_in (i:=0) (h1.perm (List.Perm.swap _ _ _))
  refine Rn (L:=k::L) ⟨List.nodup_cons.2 ⟨hkm,hn⟩, fun j=> ?_⟩ ?_
  · rw[List.mem_cons]
    by_cases hj:j=k
    · subst hj
      rw[Qr]; simp
    · rw[Qw hj,←hm j]
      exact⟨fun q=>q.resolve_left hj, fun q=> .inr q⟩
  · rw[List.map_cons,Qr]
    have e:(L.map fun j=>Nu (QK h k (some A) j))=L.map fun j=>Nu (h j):=List.map_congr_left fun j hj=> by
      rw[Qw]
      intro q; subst q; exact hkm hj
    rw[e]
    exact h2
end
def XO {α:Type} (ad:α→Nat) (f:κ→Option α):κ→Option Value:= fun k=>(f k).map fun x=>ptrV (ad x) 0
theorem XR {α:Type} {ad:α→Nat} {f:κ→Option α} {k:κ} {x:α} {z:Value} (h:f k=some x):(XO ad f k).getD z=ptrV (ad x) 0:= by unfold XO; rw[h];rfl
theorem Dc {α:Type} {ad:α→Nat} {f:κ→Option α} {k:κ} {z:Value} (h:f k=none):(XO ad f k).getD z=z:= by unfold XO; rw[h];rfl
theorem VZ {α:Type} {ad:α→Nat} {f:κ→Option α} {k:κ} {x:α}:upd (XO ad f) k (some (ptrV (ad x) 0))=XO ad (QK f k (some x)):= by
  funext j
  by_cases h:j=k
  · subst h; rw[Zs];unfold XO; rw[Qr];rfl
  · rw[Wi h];unfold XO; rw[Qw h]
theorem GF {α:Type} {ad:α→Nat} {f:κ→Option α} {k:κ}:upd (XO ad f) k none=XO ad (QK f k none):= by
  funext j
  by_cases h:j=k
  · subst h; rw[Zs];unfold XO; rw[Qr];rfl
  · rw[Wi h];unfold XO; rw[Qw h]
theorem W8 {α:Type} {ad:α→Nat} {f:κ→Option α} {k:κ} {x y:α} (h:f k=some x) (hy:ad y=ad x):XO ad (QK f k (some y))=XO ad f:= by
  funext j
  by_cases e:j=k
  · subst e;unfold XO; rw[Qr,h]; simp [hy]
  · unfold XO; rw[Qw e]
end
def Xr (k:Bs×Int):Value:= .agg #[strV k.1,intV k.2]
theorem GD {P:Program} {t:TypeId} (hu:P.underlying t=some .string) (cs:Array Value) (off:Nat) (v:Value) (hv:cs[off]? =some v) (w:World):(part t cs off).run P w= .ok v w:= by
  simp [part,isAgg,run_underlying hu,hv]
theorem RA {P:Program} {t:TypeId} (hu:P.underlying t=some .string) (n:Nat) (a b:Bs) (w:World):(Op.equalIn (n+1) t (strV a) (strV b)).run P w= .ok (decide (a=b)) w:= by
  unfold Op.equalIn
  simp only[Sem.run_bind,run_underlying hu,Result.andThen,strV]
  simp
  rw[Bool.eq_iff_iff]
  show(a.toArray==b.toArray)=true↔_
  simp
theorem Lb {P:Program} {kt t0 t1:TypeId} {f0 f1:Field} (hu:P.underlying kt=some (.struct #[f0,f1])) (hs:P.stoodInHeld kt=false) (hs0:P.underlying t0=some .string) (ht:P.underlying t1=some (.int .i64))
    (h0 : f0.type = t0) (h1 : f1.type = t1) (o0 : f0.offset = 0) (o1 : f1.offset = 1) (n0 : f0.name ≠ "_") (n1 : f1.name ≠ "_") : KeyOk P kt Xr where
  inj:= by rintro⟨a,b⟩ ⟨c,d⟩ h;simpa [Xr,strV,intV]using h
  bits:= fun a=> by
    simp [Xr,strV,intV,Instr.sameBits]
    show(a.1.toArray==a.1.toArray)=true
    simp
  check:= fun e a w=> by
    unfold Instr.checkKey
    simp only[Sem.run_bind,run_underlying hu,Result.andThen,Xr]
    have c: ∀x:Int,(Instr.checkKey e 9999 t1 (intV x)).run P w= .ok () w:= fun x=>MapKept.run_checkKey ht (by simp [MapKept.IsKey,intV]) e 9998
    have c0: ∀x:Bs,(Instr.checkKey e 9999 t0 (strV x)).run P w= .ok () w:= fun x=>MapKept.run_checkKey hs0 (by simp [MapKept.IsKey,strV]) e 9998
    simp [n0,n1,h0,h1,o0,o1,BW ht,GD hs0,c,c0]
  find:= fun a l w h=> by
    have eq: ∀b:Bs×Int,(Op.equal kt (Xr a) (Xr b)).run P w= .ok (decide (a=b)) w:= by
      intro b
      have c: ∀x y:Int,(Op.equalIn 9999 t1 (intV x) (intV y)).run P w= .ok (x==y) w:= fun x y=>RB ht 9998 x y w
      have c0: ∀x y:Bs,(Op.equalIn 9999 t0 (strV x) (strV y)).run P w= .ok (decide (x=y)) w:= fun x y=>RA hs0 9998 x y w
      unfold Op.equal Op.maxDepth Op.equalIn
      simp only[Sem.run_bind,run_underlying hu,Result.andThen,Xr]
      obtain⟨a1,a2⟩:=a
      obtain⟨b1,b2⟩:=b
      by_cases e1:a1=b1<;>by_cases e2:a2=b2<;> simp [hs,n0,n1,h0,h1,o0,o1,BW ht,GD hs0,c,c0,e1,e2]
    have ask: ∀(l:List MapEntry) (i:Nat),(∀x∈l,∃b,x.key=Xr b)→
        (∃j x,l[j]? =some x∧x.key=Xr a∧(Instr.findAsking kt (Xr a) l i).run P w= .ok (some (i+j,x.val)) w)∨((∀x∈l,x.key≠Xr a)∧(Instr.findAsking kt (Xr a) l i).run P w= .ok none w):= by
      intro l
      induction l with
      | nil=> intro i _; exact .inr ⟨by simp, by simp [Instr.findAsking]⟩
      | cons e es ih=>
        intro i hl
        obtain⟨b,hb⟩:=hl e (by simp)
        by_cases hab:a=b
        · refine .inl ⟨0,e,rfl, by rw[hb,hab], ?_⟩
          subst hab
          simp [Instr.findAsking,hb,eq]
        · have hne:e.key≠Xr a:= by
            rw[hb]; intro q; apply hab
            obtain⟨a1,a2⟩:=a
            obtain⟨b1,b2⟩:=b
            simp [Xr,strV,intV]at q⊢; exact⟨q.1.symm,q.2.symm⟩
          rcases ih (i+1) (fun x hx=>hl x (by simp [hx]))with⟨j,x,h1,h2,h3⟩ | ⟨h1,h2⟩
          · refine .inl ⟨j+1,x, by simpa using h1,h2, ?_⟩
            simp [Instr.findAsking,hb,eq,hab,h3];omega
          · refine .inr ⟨fun x hx=> ?_, ?_⟩
            · rcases List.mem_cons.1 hx with rfl | hx
              · exact hne
              · exact h1 x hx
            · simp [Instr.findAsking,hb,eq,hab,h2]
    cases l with
    | nil=> exact .inr ⟨by simp, by simp [Instr.findKey,run_underlying hu,Instr.findNow]⟩
    | cons e es=>
      obtain⟨b,hb⟩:=h e (by simp)
      have hn:Instr.findNow (.struct #[f0,f1]) (Xr a) (e::es) 0=none:= by simp [Instr.findNow,Instr.sameNow]
      have hk: ∀r,(Instr.findAsking kt (Xr a) (e::es) 0).run P w= .ok r w→(Instr.findKey kt (Xr a) (e::es)).run P w= .ok r w:= by
        intro r hr
        simp only[Instr.findKey,Sem.run_bind,run_underlying hu,Result.andThen,hn,hr]
      rcases ask (e::es) 0 h with⟨j,x,h1,h2,h3⟩ | ⟨h1,h2⟩
      · rw[Nat.zero_add]at h3
        exact .inl ⟨j,x,h1,h2,hk _ h3⟩
      · exact .inr ⟨h1,hk _ h2⟩
section
variable {P:Program} {n:Nat} {ops:Array Oper} {Q:Exit→Act→World→Prop} {rest:List Oper} {L:Env} {w:World} {d:Nat} {t t2:TypeId} {x y:Operand} {ty:TypeId} {pos:String} {aft:Array Edge}
theorem Mc {e:TypeId} (hu:P.underlying t=some (.pointer e)) (hx:look L x=some (.pointer none)) (hy:look L y=some (.pointer none)):Ev P L w ⟨some d,.binOp .neq t x y t2,ty,pos,aft,none⟩ (.bool false):= fun ρ hρ=> by simp [execOp,hρ _ _ hx,hρ _ _ hy,eqGuard,binOp,RQ hu]
theorem Zr {e:TypeId} (hu:P.underlying t=some (.pointer e)) (hx:look L x=some (.pointer none)) (hy:look L y=some (.pointer none)) (hd:Nat.blt d n=true) (hk:wl P n ops Q rest ((d,.bool false)::L) w):wl P n ops Q (⟨some d,.binOp .neq t x y t2,ty,pos,aft,none⟩::rest) L w:=
  Xq hd (Mc hu hx hy) hk
def Zh (b:BitVec 64):Value:= .int .u64 (b.toNat:Int)
theorem Rg (b:BitVec 64):BitVec.ofInt 64 (b.toNat:Int)=b:= by
  rw[BitVec.ofInt_natCast]; simp
theorem FK (b:BitVec 64):(b.toNat:Int)%18446744073709551616=(b.toNat:Int):= by
  have :=b.isLt
  omega
theorem Mb {a b:BitVec 64} (hx:look L x=some (Zh a)) (hy:look L y=some (Zh b)):Ev P L w ⟨some d,.binOp .or t x y t2,ty,pos,aft,none⟩ (Zh (a ||| b)):= fun ρ hρ=> by
  simp only[execOp,hρ _ _ hx,hρ _ _ hy,Zh,binOp,Op.intBits,IntKind.bits,eqGuard,Rg]
  simp [IntKind.wrap,IntKind.signed,IntKind.bits, -BitVec.toNat_or]
  exact FK _
theorem wl_or64 {a b:BitVec 64} (hx:look L x=some (Zh a)) (hy:look L y=some (Zh b)) (hd:Nat.blt d n=true) (hk:wl P n ops Q rest ((d,Zh (a ||| b))::L) w):wl P n ops Q (⟨some d,.binOp .or t x y t2,ty,pos,aft,none⟩::rest) L w:=Xq hd (Mb hx hy) hk
theorem Lu {a b:BitVec 64} (hx:look L x=some (Zh a)) (hy:look L y=some (Zh b)):Ev P L w ⟨some d,.binOp .and t x y t2,ty,pos,aft,none⟩ (Zh (a&&&b)):= fun ρ hρ=> by
  simp only[execOp,hρ _ _ hx,hρ _ _ hy,Zh,binOp,Op.intBits,IntKind.bits,eqGuard,Rg]
  simp [IntKind.wrap,IntKind.signed,IntKind.bits, -BitVec.toNat_and]
  exact FK _
theorem Gt {a b:BitVec 64} (hx:look L x=some (Zh a)) (hy:look L y=some (Zh b)) (hd:Nat.blt d n=true) (hk:wl P n ops Q rest ((d,Zh (a&&&b))::L) w):wl P n ops Q (⟨some d,.binOp .and t x y t2,ty,pos,aft,none⟩::rest) L w:=Xq hd (Lu hx hy) hk
theorem T7 {a b:BitVec 64} (hx:look L x=some (Zh a)) (hy:look L y=some (Zh b)):Ev P L w ⟨some d,.binOp .andNot t x y t2,ty,pos,aft,none⟩ (Zh (a&&& ~~~b)):= fun ρ hρ=> by
  simp only[execOp,hρ _ _ hx,hρ _ _ hy,Zh,binOp,Op.intBits,IntKind.bits,eqGuard,Rg]
  simp [IntKind.wrap,IntKind.signed,IntKind.bits, -BitVec.toNat_and]
  exact FK _
theorem Lt {yk:IntKind} (m:Nat) (hx:look L x=some (.int .u64 1)) (hy:look L y=some (.int yk (m:Int))) (hm:m<64):Ev P L w ⟨some d,.binOp .shl t x y t2,ty,pos,aft,none⟩ (Zh (1#64<<<m)):= fun ρ hρ=> by
  have h0: ¬((m:Int)<0):= by omega
  have e:IntKind.u64.wrap (1*2^(min m 64))=((1#64<<<m).toNat:Int):= by
    rw[Nat.min_eq_left (by omega),Int.one_mul]
    have h1:(2:Int)^m=((2^m:Nat):Int):= by simp
    rw[h1]
    have h2:2^m<2^64:=Nat.pow_lt_pow_right (by decide) hm
    simp [IntKind.wrap,IntKind.signed,IntKind.bits,BitVec.toNat_shiftLeft,Nat.shiftLeft_eq]
  simp only[execOp,hρ _ _ hx,hρ _ _ hy,binOp,Op.shift,IntKind.bits,eqGuard,h0,if_false,Int.toNat_natCast,e,Zh]
  simp
theorem Lq {yk:IntKind} {a:BitVec 64} (m:Nat) (hx:look L x=some (Zh a)) (hy:look L y=some (.int yk (m:Int))) (hm:m≤64):Ev P L w ⟨some d,.binOp .shr t x y t2,ty,pos,aft,none⟩ (Zh (a>>>m)):= fun ρ hρ=> by
  have h0: ¬((m:Int)<0):= by omega
  have e:(a.toNat:Int).fdiv (2^(min m 64))=((a>>>m).toNat:Int):= by
    rw[Nat.min_eq_left hm,Int.fdiv_eq_ediv_of_nonneg _ (Int.le_of_lt (Int.pow_pos (by decide))),BitVec.toNat_ushiftRight,Nat.shiftRight_eq_div_pow]
    simp
  simp only[execOp,hρ _ _ hx,hρ _ _ hy,Zh,binOp,Op.shift,IntKind.bits,eqGuard,h0,if_false,Int.toNat_natCast,e]
  simp
theorem MB {yk:IntKind} {a:BitVec 64} (m:Nat) (hx:look L x=some (Zh a)) (hy:look L y=some (.int yk (m:Int))) (hm:m≤64) (hd:Nat.blt d n=true) (hk:wl P n ops Q rest ((d,Zh (a>>>m))::L) w):wl P n ops Q (⟨some d,.binOp .shr t x y t2,ty,pos,aft,none⟩::rest) L w:=Xq hd (Lq m hx hy hm) hk
end
section
variable {P:Program} {n:Nat} {ops:Array Oper} {Q:Exit→Act→World→Prop} {rest:List Oper} {L:Env} {w:World} {d:Nat} {ty:TypeId} {pos:String} {aft:Array Edge}
theorem KN {t:Nat} {parts:List (Nat×Operand)} {vs vs':List Value} {pls:List (Nat×Nat)} {z:List Value} (hx:Wz L (parts.map (·.2))=some vs) (hp:XJ P t (parts.map (·.1))=some pls) (ha:Jg P t=true) (hz:XF P t=some (some (.agg z.toArray))) (hok:Jh z.length pls vs=true) (hd:Nat.blt d n=true) (he:Wm z pls vs=vs') (hk:wl P n ops Q rest ((d,.agg vs'.toArray)::L) w):wl P n ops Q (⟨some d,.build t parts.toArray,ty,pos,aft,none⟩::rest) L w:= by
  subst he; exact Zm hx hp ha hz hok hd hk
end
end Go.Proofs.YtkgjmhcdacidoaaGreatDoor.M
namespace Go.Proofs.YtkgjmhcdacidoaaGreatDoor
open Go.RowKit M Proofs.Tryz
abbrev VS:=Int→Option (Int×Bs)
noncomputable def RC (V:VS) (j:Int):VS:= match V j with | none=>V | some x=>QK V j (some (x.1+1,x.2))
noncomputable def Zz (V:VS) (j:Int):VS:= match V j with | none=>V | some x=> if 1<x.1 then QK V j (some (x.1 -1,x.2))else QK V j none
def Z2 (V:VS) (j:Int):Int:= match V j with | none=>0 | some x=>x.1
def XY (V:VS) (j:Int):Bs:= match V j with | none=> if j=0 then zer else[] | some x=>x.2
def btV (V:VS) (j a:Int):UInt8:= if 0≤a∧a<64 then(XY V j).getD a.toNat 0 else 0
def Yz (V:VS) (n:Nat):Prop:= ∃l:List Int,l.length=n∧l.Nodup∧ ∀j∈l,V j≠none
theorem KQ {β:Type} (A:Int→Option β) (j:Int) (v:Option β):up A j v=QK A j v:= by
  funext i
  by_cases h:i=j
  · subst h; rw[XE,Qr]
  · rw[XM h,Qw h]
structure SlW where
  v:Nat
  f:Nat
variable [Inhabited SlW]
def Ey (S:SS) (F:Nat):Prop:=S.fr.length=F∧S.slots=((default:SlW).v:Int)
def ZR (p n F:Nat) (V:VS):Th:=Ch fun S:SS=>starL [J8 (ShI VH n S∧vw S=V∧Ey S F),JV p S]
theorem Jj {w:World} {p n F:Nat} {V:VS} {As:List Th} (h:Sat w (ZR p n F V::As)): ∃S,ShI VH n S∧vw S=V∧Ey S F∧Sat w (JV p S::As):= by
  obtain⟨S,h⟩:=h.ex
  obtain⟨⟨a,b,c⟩,h⟩:=h.flat.pure_elim
  exact⟨S,a,b,c,h⟩
theorem Zt {w:World} {p n F:Nat} {V:VS} {S:SS} {As:List Th} (hI:ShI VH n S) (hV:vw S=V) (hF:Ey S F) (h:Sat w (JV p S::As)):Sat w (ZR p n F V::As):=
  Sat.ex_intro (f:= fun S:SS=>starL [J8 (ShI VH n S∧vw S=V∧Ey S F),JV p S]) S (Sat.fold (As:=[J8 (ShI VH n S∧vw S=V∧Ey S F),JV p S]) (Sat.pure_intro ⟨hI,hV,hF⟩ h))
theorem XC {w:World} {p n m F:Nat} {V:VS} {As:List Th} (hm:n≤m) (h:Sat w (ZR p n F V::As)):Sat w (ZR p m F V::As):= by
  obtain⟨S,a,b,c,h⟩:=Jj h
  exact Zt (a.mono hm) b c h
theorem HC {S:SS} {j:Int} (h:S.all j=none):vw S j=none:= by unfold vw; rw[h];rfl
theorem HB {S:SS} {j:Int} {x:ShE} (h:S.all j=some x):vw S j=some (x.refs,x.pg):= by unfold vw; rw[h];rfl
theorem F9 (S:SS) (j:Int):JW S j=XY (vw S) j:= by
  unfold JW XY
  cases h:S.all j with
  | none=> rw[HC h]
  | some x=> rw[HB h]
theorem CX {n:Nat} {Q:Nat→Int→Prop} (h: ∀i,i<n→ ∃j,Q i j): ∃f:Nat→Int,∀i,i<n→Q i (f i):= by
  classical
  exact⟨fun i=> if hi:i<n then Classical.choose (h i hi)else 0, fun i hi=> by dsimp only; rw[dif_pos hi]; exact Classical.choose_spec (h i hi)⟩
theorem Vy {n:Nat} {S:SS} (hI:ShI VH n S) (hf: ∀o∈S.fr,o≠none):Yz (vw S) S.fr.length:= by
  have hex: ∀i,i<S.fr.length→ ∃j:Int,S.inn (i:Nat)=some j∧S.all j≠none:= by
    intro i hi
    obtain⟨b,hb⟩: ∃b,S.fr[i]? =some (some b):= by
      have h1:=hf _ (List.getElem_mem hi)
      cases hq:S.fr[i]with
      | none=> exact absurd hq h1
      | some b=> exact⟨b, by rw[Zk hi,hq]⟩
    have h2:ZB S.fr (i:Nat)=some b:= by unfold ZB; rw[if_pos (by omega),Int.toNat_natCast,hb]
    have h3:=hI.fru h2
    cases hq:S.inn (i:Nat)with
    | none=> exact absurd hq h3
    | some j=>
      obtain⟨_,x,hx,_⟩:=(hI.frm _ _).1 hq
      exact⟨j,rfl, by rw[hx]; simp⟩
  obtain⟨f,hf2⟩:=CX (n:=S.fr.length) hex
  refine⟨(List.range S.fr.length).map f, by simp, ?_, fun j hj=> ?_⟩
  · unfold List.Nodup
    rw[List.pairwise_map]
    refine List.Pairwise.imp_of_mem (fun {a b} ha hb hne e=> ?_) (List.nodup_range)
    have ha':=List.mem_range.1 ha
    have hb':=List.mem_range.1 hb
    have h1:=(hf2 a ha').1
    have h2:=(hf2 b hb').1
    rw[e]at h1
    obtain⟨_,x,hx,hp,hat⟩:=(hI.frm _ _).1 h1
    obtain⟨_,y,hy,hq,hbt⟩:=(hI.frm _ _).1 h2
    rw[hx]at hy; cases hy
    omega
  · obtain⟨i,hi,rfl⟩:=List.mem_map.1 hj
    have :=(hf2 i (List.mem_range.1 hi)).2
    intro q
    apply this
    unfold vw at q
    simpa using q
theorem stRef {w:World} {p n F:Nat} {V:VS} {X:Th} (hS:Sat w [ZR p n F V,X]) (hn:n≤80000000000) (id:Int):
    Calls prog 103 #[ptrV p 0,intV id] w (Ret fun v w'=> ∃e,v=intV e∧Sat w' [ZR p (n+1) F (RC V id),X]):= by
  obtain⟨S,hI,rfl,hF,hS⟩:=Jj hS
  refine(Fg hS hI hn id).mono fun e w h=>h.mono fun v w h=> ?_
  cases Zp:S.all id with
  | none=>
    rw[Zp]at h
    have e:RC (vw S) id=vw S:= by unfold RC; rw[HC Zp]
    rw[e]
    by_cases q:id=0
    · exact⟨0, by rw[h.1,if_pos q],XC (by omega) (Zt hI U hF h.2)⟩
    · exact⟨4, by rw[h.1,if_neg q],XC (by omega) (Zt hI U hF h.2)⟩
  | some x=>
    rw[Zp]at h
    have hr:=(hI.ent Zp).2.2
    obtain⟨a,b,c⟩:=N0 (r:=x.refs+1) hI Zp ⟨by omega, by omega⟩
    refine⟨0,h.1,Zt a ?_ ⟨b.frn.trans hF.1,b.slo.trans hF.2⟩ h.2⟩
    rw[c,KQ];unfold RC; rw[HB Zp]
theorem DE {w:World} {p n F:Nat} {V:VS} {X:Th} (hS:Sat w [ZR p n F V,X]) (hn:n≤80000000000) (id:Int):
    Calls prog 97 #[ptrV p 0,intV id] w (Ret fun v w'=> ∃e,v=intV e∧Sat w' [ZR p (n+1) F (Zz V id),X]):= by
  obtain⟨S,hI,rfl,hF,hS⟩:=Jj hS
  refine(Cz hS hI hn id).mono fun e w h=>h.mono fun v w h=> ?_
  cases Zp:S.all id with
  | none=>
    rw[Zp]at h
    have e:Zz (vw S) id=vw S:= by unfold Zz; rw[HC Zp]
    rw[e]
    by_cases q:id=0
    · exact⟨0, by rw[h.1,if_pos q],XC (by omega) (Zt hI U hF h.2)⟩
    · exact⟨4, by rw[h.1,if_neg q],XC (by omega) (Zt hI U hF h.2)⟩
  | some x=>
    rw[Zp]at h
    have hr:=(hI.ent Zp).2.2
    rcases h with⟨h1,⟨h2,h3⟩ | ⟨h2,S',h3,h4⟩⟩
    · obtain⟨a,b,c⟩:=N0 (r:=x.refs -1) hI Zp ⟨by omega, by omega⟩
      refine⟨0,h1,Zt a ?_ ⟨b.frn.trans hF.1,b.slo.trans hF.2⟩ h3⟩
      rw[c,KQ];unfold Zz; rw[HB Zp]; dsimp only; rw[if_pos h2]
    · refine⟨0,h1,Zt h3.inv ?_ ⟨h3.f.frn.trans hF.1,h3.f.slo.trans hF.2⟩ h4⟩
      rw[h3.is,KQ];unfold Zz; rw[HB Zp]; dsimp only; rw[if_neg (by omega)]
theorem Fb {w:World} {p n F:Nat} {V:VS} {X:Th} (hS:Sat w [ZR p n F V,X]) (id:Int):
    Calls prog 114 #[ptrV p 0,intV id] w (Ret fun v w'=>v=intV (Z2 V id)∧Sat w' [ZR p n F V,X]):= by
  obtain⟨S,hI,rfl,hF,hS⟩:=Jj hS
  refine(PE hS id).mono fun e w h=>h.mono fun v w h=> ?_
  refine⟨?_,Zt hI U hF h.2⟩
  rw[h.1];unfold Z2
  cases Zp:S.all id with
  | none=> rw[HC Zp]
  | some x=> rw[HB Zp]
theorem Ui {w:World} {p n F:Nat} {V:VS} {X:Th} (hS:Sat w [ZR p n F V,X]) (id:Int):
    Calls prog 55 #[ptrV p 0,intV id] w (Ret fun v w'=>v=strV (XY V id)∧Sat w' [ZR p n F V,X]):= by
  obtain⟨S,hI,rfl,hF,hS⟩:=Jj hS
  refine(BS hS hI id (fun q=>q)).mono fun e w h=>h.mono fun v w h=> ?_
  exact⟨by rw[h.1,F9],Zt hI U hF h.2⟩
theorem stByte {w:World} {p n F:Nat} {V:VS} {X:Th} (hS:Sat w [ZR p n F V,X]) (hn:n≤80000000000) (id a:Int):
    Calls prog 79 #[ptrV p 0,intV id,intV a] w (Ret fun v w'=>v=Yk (btV V id a)∧Sat w' [ZR p n F V,X]):= by
  obtain⟨S,hI,rfl,hF,hS⟩:=Jj hS
  refine(PH hS hI hn id a).mono fun e w h=>h.mono fun v w h=> ?_
  exact⟨by rw[h.1];unfold PI btV; rw[F9],Zt hI U hF h.2⟩
theorem Nw {w:World} {p n F:Nat} {V:VS} {X:Th} (hS:Sat w [ZR p n F V,X]) (hn:n≤80000000000) {pg:Bs} (hpg:pg.length=64):
    Calls prog 115 #[ptrV p 0,strV pg] w (Ret fun v w'=>(v= .tuple #[intV 0,intV 6]∧Yz V F∧Sat w' [ZR p (n+1) F V,X])∨(∃id,v= .tuple #[intV id,intV 0]∧1≤id∧V id=none∧Sat w' [ZR p (n+1) F (QK V id (some (1,pg))),X])):= by
  obtain⟨S,hI,rfl,hF,hS⟩:=Jj hS
  refine(GA hS hI hn hpg).mono fun e w h=>h.mono fun v w h=> ?_
  rcases h with⟨h1,h2,h3,h4⟩ | ⟨h1,S',h2,h3⟩
  · exact .inl ⟨h1, by rw[←hF.1]; exact Vy hI h2,XC (by omega) (Zt hI U hF h4)⟩
  · exact .inr ⟨_,h1,h2.pos,HC h2.was,Zt h2.inv (by rw[h2.is,KQ]) ⟨h2.f.frn.trans hF.1,h2.f.slo.trans hF.2⟩ h3⟩
theorem Fc {w:World} {p n F:Nat} {V:VS} {X:Th} (hS:Sat w [ZR p n F V,X]) (hn:n≤80000000000) {pg:Bs} (hpg:pg.length=64):
    Calls prog 95 #[ptrV p 0,strV pg] w (Ret fun v w'=>(pg=zer∧v= .tuple #[intV 0,intV 0]∧Sat w' [ZR p (n+1) F V,X])∨(pg≠zer∧v= .tuple #[intV 0,intV 6]∧Yz V F∧Sat w' [ZR p (n+1) F V,X])∨(∃id,pg≠zer∧v= .tuple #[intV id,intV 0]∧1≤id∧V id=none∧Sat w' [ZR p (n+1) F (QK V id (some (1,pg))),X])):= by
  obtain⟨S,hI,rfl,hF,hS⟩:=Jj hS
  refine(PG hS hI hn hpg).mono fun e w h=>h.mono fun v w h=> ?_
  rcases h with⟨h0,h1,h4⟩ | ⟨h0,⟨h1,h2,h3,h4⟩ | ⟨h1,S',h2,h3⟩⟩
  · exact .inl ⟨h0,h1,XC (by omega) (Zt hI U hF h4)⟩
  · exact .inr (.inl ⟨h0,h1, by rw[←hF.1]; exact Vy hI h2,XC (by omega) (Zt hI U hF h4)⟩)
  · exact .inr (.inr ⟨_,h0,h1,h2.pos,HC h2.was,Zt h2.inv (by rw[h2.is,KQ]) ⟨h2.f.frn.trans hF.1,h2.f.slo.trans hF.2⟩ h3⟩)
theorem stSet {w:World} {p n F:Nat} {V:VS} {X:Th} (hS:Sat w [ZR p n F V,X]) (hn:n≤80000000000) (id a:Int) (b:UInt8):
    Calls prog 78 #[ptrV p 0,intV id,intV a,Yk b] w (Ret fun v w'=>(∃e,v=intV e∧e≠0∧(V id=none∨1<Z2 V id∨a<0∨64≤a∨Yz V F)∧Sat w' [ZR p (n+1) F V,X])∨(∃r pg,V id=some (r,pg)∧v=intV 0∧(0≤a∧a<64)∧Sat w' [ZR p (n+1) F (QK V id (some (r,pg.set a.toNat b))),X])):= by
  obtain⟨S,hI,rfl,hF,hS⟩:=Jj hS
  refine(Ff hS hI hn id a b).mono fun e w h=>h.mono fun v w h=> ?_
  rcases h with⟨e,h1,h2,h3,h4⟩ | ⟨x,S',h1,h2,h3,h4,h5⟩
  · exact .inl ⟨e,h1,h2,h3.imp HC (Or.imp (fun ⟨x,q1,q2⟩=> by unfold Z2; rw[HB q1]; exact q2) (Or.imp (fun q=>q) (Or.imp (fun q=>q) fun q=> by rw[←hF.1]; exact Vy hI q))),XC (by omega) (Zt hI U hF h4)⟩
  · exact .inr ⟨x.refs,x.pg,HB h1,h2,h3,Zt h4.inv (by rw[h4.is,KQ]) ⟨h4.f.frn.trans hF.1,h4.f.slo.trans hF.2⟩ h5⟩
theorem stNew {w:World} {X:Th} (hS:Sat w [X]) (count slots budget:Int) (hsl:((default:SlW).v:Int)=min (max slots 0) 4096):
    Calls prog 26 #[intV count,intV slots,intV budget] w (Ret fun v w'=> ∃p,v=ptrV p 0∧Sat w' [ZR p 0 (min (max count 1) 256).toNat (fun _=>none),X]):= by
  refine(Fh hS count slots budget).mono fun e w h=>h.mono fun v w h=> ?_
  obtain⟨p,h1,h2⟩:=h
  exact⟨p,h1,Zt (FG count slots budget) (by funext j;rfl) ⟨by simp [UY], by show(UY count slots budget).slots=_; rw[hsl]; simp [UY]⟩ h2⟩
