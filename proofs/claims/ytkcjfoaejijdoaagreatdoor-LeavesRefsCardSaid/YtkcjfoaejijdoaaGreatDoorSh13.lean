/- sheets: Set -/
import Derived.Test.YtkcjfoaejijdoaaGreatDoorSh12
import Derived.Test.YtkcjfoaejijdoaaGreatDoorRow
set_option linter.unusedSectionVars false
set_option linter.unusedVariables false
set_option maxRecDepth 100000
set_option maxHeartbeats 3200000
namespace Go.Proofs.YtkcjfoaejijdoaaGreatDoor
open Go.RowKit M
theorem ShF.trans {S S' S'':SS} (h:ShF S S') (h':ShF S' S''):ShF S S'':= by
  refine⟨?_,h'.bud.trans h.bud,h'.slo.trans h.slo,h'.frn.trans h.frn⟩
  obtain⟨L,h1,h2⟩:=h.tk
  obtain⟨L',h3,h4⟩:=h'.tk
  refine⟨L++L', by rw[h3,h1,List.append_assoc], fun j x hx hp=> ?_⟩
  rcases h2 j x hx hp with h | ⟨y,hy,hp',ha⟩
  · exact .inl (List.mem_append_left _ h)
  · rcases h4 j y hy hp' with h | ⟨z,hz,hp'',ha'⟩
    · exact .inl (List.mem_append_right _ (by rw[←ha]; exact h))
    · exact .inr ⟨z,hz,hp'',ha'.trans ha⟩
noncomputable def setP (S:SS) (id:Int) (y:ShE) (pg:Bs):SS:={S with all:=up S.all id (some {y with pg:=pg}),fr:=S.fr.set y.at_.toNat (some pg)}
theorem Fj {A:Int→Option ShE} {id:Int} {y:ShE} {pg:Bs} (h:A id=some y) (hp:y.place=1):aG (up A id (some {y with pg:=pg}))=aG A:= by
  funext j
  unfold aG
  by_cases q:j=id
  · subst q; rw[XW,h]; show some _=some _;unfold PW Kw; simp [hp]
  · rw[Zm q]
structure SetS (T:Nat) (S S':SS) (id:Int) (x:ShE) (pg:Bs):Prop where
  inv:ShI Vz (T+1) S'
  f:ShF S S'
  is:vw S'=up (vw S) id (some (x.refs,pg))
theorem E8 {T:Nat} {S S1:SS} {id:Int} {x y:ShE} {pg:Bs} (h:ShI Vz (T+1) S1) (hf:ShF S S1) (hv:vw S1=vw S) (hy:S1.all id=some y) (hp:y.place=1) (hr:y.refs=x.refs) (hpg:pg.length=64):SetS T S (setP S1 id y pg) id x pg:= by
  refine⟨h.page (fun q=>q) hy hp hpg,hf.trans ⟨⟨[], by simp [setP], fun j z hz hp1=> .inr ?_⟩,rfl,rfl, by show(S1.fr.set _ _).length=_; rw[List.length_set]⟩, ?_⟩
  · by_cases q:j=id
    · subst q; rw[hy]at hz; cases hz; exact⟨_,XW,hp1,rfl⟩
    · exact⟨z, by show up S1.all id _ j=_; rw[Zm q]; exact hz,hp1,rfl⟩
  · rw[←hr,←hv]; exact Eg U
theorem E1 {w:World} {p:Nat} {S:SS} {F:Th} (hS:Sat w [Ye p S,F]) {N:Nat} (hI:ShI Vz N S) (hN:N≤80000000000) (id at_:Int) (b:UInt8):
    Calls Tryz.prog 45 #[ptrV p 0,intV id,intV at_,Wu b] w (Ret fun v w'=>(∃e,v=intV e∧e≠0∧(S.all id=none∨(∃x,S.all id=some x∧1<x.refs)∨at_<0∨64≤at_∨ ∀o∈S.fr,o≠none)∧Sat w' [Ye p S,F])∨(∃x S',S.all id=some x∧v=intV 0∧(0≤at_∧at_<64)∧SetS N S S' id x (x.pg.set at_.toNat b)∧Sat w' [Ye p S',F])):= by
 obtain⟨ba,bi,fp,sp,kp,ac,cc,at2,ct,hS⟩:=XX hS
 cases hid:S.all id with
 | none=>
  refine Qm Tryz.func45 U Tryz.ntmps45 U ?_
  refine Qd (Qa (Qe U U (Qf (Qc (Qd (Qa (Qb U U (Qj U U (Qg U XI U (Qn U Zn (hS.cell 0 U U) U (Qb U U (Wj (k:=id) 1 hS keysInt Tryz.underlying108 U U U XJ (u:=(.agg #[intV 0,intV 0,intV 0,strV []])) (g:=false) (Hg hid) (YM hid) U (Qb U U (Qq U U U (Qq U U U (QX hS XJ U U ?_))))))))))))))))
  intro b1 w1 hS1
  (refine QK hS1 U U JX U (by rfl) (i:=0) U (by decide) ?_)
  intro w2 hS3; dsimp only[List.set]at hS3
  clear hS1
  refine Qe U U (Qf (Qc (Qh [3,2,1,0,8,9,10] U (Qd (Qv (Qd (Qa (Qb U U (QQ U U (Qb U U (Ze 25 U (fun h4=> ?_) (fun h4=> ?_))))))))))))
  ·refine Ql U U h4 (Qb U U (Ql U U h4 (X0 U U U (Q9 U h4 U U (Qe U U (Qf (Qc (Qh [3,2,1,0,8,9,22] U (Qs U (fun h5=> ?_) (fun h5=> ?_))))))))))
   ·exact Qd (Qa (Qe U U (Qf (Qc (Qu (Qz (Qp (QR (.inr U) U U (⟨_,rfl,.inl ⟨_,rfl, by decide, by first | exact .inl U | (exact .inr (.inl ⟨x,rfl, by omega⟩)) | (exact .inr (.inr (.inl (by omega)))) | (exact .inr (.inr (.inr (.inl (by omega))))),QY (hS3.pick [1,2,3,4,5,6,7,8,9] U)⟩⟩)))))))))
   refine Qd (Qa (Qb U U (Xd U U U (Qb U U (QU 32 U (fun h6=> ?_) (fun h6=> ?_))))))
   ·exact Qi U U (Xl h6) U (Qi U U (Xl h6) U (Qi U U (Xl h6) U (Q9 U (Xl h6) U U (Qe U U (Qf (Qc (Qh [3,2,1,0,8,29] U (Xf U (Qd (Qa (Qe U U (Qf (Qc (Qu (Qz (Qp (QR (.inr U) U U (⟨_,rfl,.inl ⟨_,rfl, by decide, by first | exact .inl U | (exact .inr (.inl ⟨x,rfl, by omega⟩)) | (exact .inr (.inr (.inl (by omega)))) | (exact .inr (.inr (.inr (.inl (by omega))))),QY (hS3.pick [1,2,3,4,5,6,7,8,9] U)⟩⟩))))))))))))))))))
   exact absurd h6 (by omega)
  exact absurd h4 (by simp)
 | some x=>
  obtain⟨hid1,_,hr1,hr2,_,hplc⟩:=hI.ent hid
  refine Qm Tryz.func45 U Tryz.ntmps45 U ?_
  refine Qd (Qa (Qe U U (Qf (Qc (Qd (Qa (Qb U U (Qj U U (Qg U XI U (Qn U Zn (hS.cell 0 U U) U (Qb U U (Wj (k:=id) 1 hS keysInt Tryz.underlying108 U U U XJ (u:=(.agg #[intV x.refs,intV x.place,intV x.at_,strV (Kw x)])) (g:=true) (Jn hid) (YL hid) U (Qb U U (Qq U U U (Qq U U U (QX hS XJ U U ?_))))))))))))))))
  intro b1 w1 hS1
  (refine QK hS1 U U JX U (by rfl) (i:=0) U (by decide) ?_)
  intro w2 hS3; dsimp only[List.set]at hS3
  clear hS1
  refine Qe U U (Qf (Qc (Qh [3,2,1,0,8,9,10] U (Qd (Qv (Qd (Qa (Qb U U (QQ U U (Qb U U (Ze 25 U (fun h4=> ?_) (fun h4=> ?_))))))))))))
  ·exact absurd h4 (by simp)
  refine Qi U U h4 U (Qi U U h4 U (QP U h4 U U (Qe U U (Qf (Qc (Qh [3,2,1,0,8,9,22] U (QT U (Qd (Qa (Qb U U (Xd U U U (Qb U U (QU 32 U (fun h5=> ?_) (fun h5=> ?_))))))))))))))
  ·exact absurd h5 (by omega)
  refine Ql U U (QC h5) (Qg U Jw U (Ql U U (QC h5) (Qn U QL (hS3.cell 0 U U) U (Ql U U (QC h5) (YO U U U (QP U (QC h5) U U (Qe U U (Qf (Qc (Qh [3,2,1,0,8,29] U (Qs U (fun h6=> ?_) (fun h6=> ?_))))))))))))
  ·exact Qd (Qa (Qe U U (Qf (Qc (Qu (Qz (Qp (QR (.inr U) U U (⟨_,rfl,.inl ⟨_,rfl, by decide, by first | exact .inl U | (exact .inr (.inl ⟨x,rfl, by omega⟩)) | (exact .inr (.inr (.inl (by omega)))) | (exact .inr (.inr (.inr (.inl (by omega))))),QY (hS3.pick [1,2,3,4,5,6,7,8,9] U)⟩⟩)))))))))
  refine Qd (Qa (Qb U U (Xg U U U (Qb U U (QU 40 U (fun h7=> ?_) (fun h7=> ?_))))))
  ·exact Qi U U (Xl h7) U (Qi U U (Xl h7) U (Q9 U (Xl h7) U U (Qe U U (Qf (Qc (Qh [3,2,1,0,8,37] U (Xf U (Qd (Qa (Qe U U (Qf (Qc (Qu (Qz (Qp (QR (.inr U) U U (⟨_,rfl,.inl ⟨_,rfl, by decide, by first | exact .inl U | (exact .inr (.inl ⟨x,rfl, by omega⟩)) | (exact .inr (.inr (.inl (by omega)))) | (exact .inr (.inr (.inr (.inl (by omega))))),QY (hS3.pick [1,2,3,4,5,6,7,8,9] U)⟩⟩)))))))))))))))))
  refine Ql U U (QC h7) (Qb U U (Ql U U (QC h7) (JA U U U (QP U (QC h7) U U (Qe U U (Qf (Qc (Qh [3,2,1,0,8,37] U (Qs U (fun h8=> ?_) (fun h8=> ?_))))))))))
  ·exact Qd (Qa (Qe U U (Qf (Qc (Qu (Qz (Qp (QR (.inr U) U U (⟨_,rfl,.inl ⟨_,rfl, by decide, by first | exact .inl U | (exact .inr (.inl ⟨x,rfl, by omega⟩)) | (exact .inr (.inr (.inl (by omega)))) | (exact .inr (.inr (.inr (.inl (by omega))))),QY (hS3.pick [1,2,3,4,5,6,7,8,9] U)⟩⟩)))))))))
  refine Qt (Qk (Qc (Qd (Qa (Qb U U (Qb U U ?_))))))
  have hS9:=QY (hS3.pick [1,2,3,4,5,6,7,8,9] U)
  have hbr:= fun {w F} (hC:Sat w [Ye p S,F])=>Pa hC hI hN id
  simp only[hid]at hbr
  refine XU cal_107 U (hbr (hS9.sp [0] U)) U ?_
  rintro e w10 ⟨_,rfl,(⟨hp1,rfl,hS10⟩ | ⟨k,S2,hp1,rfl,hB,hS10⟩ | ⟨hp2,rfl,hall,hfull,hS10⟩)⟩
  ·refine⟨_,rfl, ?_⟩
   replace hS10:=hS10.jn U U
   clear hS9
   refine Qb U U (Qq U U U (Qq U U U (Qe U U (Qe U U (Qf (Qc (Qh [3,2,0,8,11,12] U (Qd (Qd (Qa (Qb U U (X0 U U U (Qf (Qc (Qs U (fun h11=> ?_) (fun h11=> ?_))))))))))))))))
   ·exact absurd U h11
   refine Qt (Qc (Qd ?_))
   obtain⟨ba,bi,fp,sp,kp,ac,cc,at2,ct,hSo12⟩:=XX (hS10.pick [0,1] rfl)
   refine Qa (Qb U U (Qj U U (Qg U Wr U (Qn U JF (hSo12.cell 0 U U) U (Qb U U (Qb U U (Qb U U ?_)))))))
   have hfr:=hI.frc (fun q=>q) hid hp1
   refine XU SZ U (CU (hSo12.sp [4] U) x.at_ at_ b) U ?_
   rintro e w13 ⟨_,rfl,(⟨hbad,hS13⟩ | ⟨rfl,cb,hcb,hrng,hS13⟩)⟩
   ·exfalso; rw[hfr]at hbad; simp at hbad;omega
   refine⟨_,rfl, ?_⟩
   replace hS13:=hS13.jn U U
   clear hSo12
   refine Qe U U (Qf (Qc (Qh [8] U (Qu (QR (.inr U) U U ?_)))))
   obtain rfl:x.pg=cb:= by rw[hfr]at hcb; cases hcb;rfl
   have hz:=hS13.pick [1,2,3,4,0,5,6,7,8] U
   rw[←Fj (pg:=x.pg.set at_.toNat b) hid hp1]at hz
   exact⟨_,rfl,.inr ⟨x,_,rfl,rfl,hrng,E8 (x:=x) (pg:=x.pg.set at_.toNat b) (hI.mono (Nat.le_add_right N 1)) (ShF.refl S) U hid hp1 U (by rw[List.length_set]; exact(hI.ent hid).2.2.2.2.1),QY (S:=setP S id x (x.pg.set at_.toNat b)) hz⟩⟩
  ·refine⟨_,rfl, ?_⟩
   replace hS10:=hS10.jn U U
   clear hS9
   refine Qb U U (Qq U U U (Qq U U U (Qe U U (Qe U U (Qf (Qc (Qh [3,2,0,8,11,12] U (Qd (Qd (Qa (Qb U U (X0 U U U (Qf (Qc (Qs U (fun h14=> ?_) (fun h14=> ?_))))))))))))))))
   ·exact absurd U h14
   refine Qt (Qc (Qd ?_))
   obtain⟨ba,bi,fp,sp,kp,ac,cc,at2,ct,hSo15⟩:=XX (hS10.pick [0,1] rfl)
   refine Qa (Qb U U (Qj U U (Qg U Wr U (Qn U JF (hSo15.cell 0 U U) U (Qb U U (Qb U U (Qb U U ?_)))))))
   have hfr:=hB.inv.frc (fun q=>q) hB.is U
   dsimp only at hfr
   refine XU SZ U (CU (hSo15.sp [4] U) (k:Int) at_ b) U ?_
   rintro e w16 ⟨_,rfl,(⟨hbad,hS16⟩ | ⟨rfl,cb,hcb,hrng,hS16⟩)⟩
   ·exfalso; rw[hfr]at hbad; simp at hbad;omega
   refine⟨_,rfl, ?_⟩
   replace hS16:=hS16.jn U U
   clear hSo15
   refine Qe U U (Qf (Qc (Qh [8] U (Qu (QR (.inr U) U U ?_)))))
   obtain rfl:x.pg=cb:= by rw[hfr]at hcb; cases hcb;rfl
   have hz:=hS16.pick [1,2,3,4,0,5,6,7,8] U
   rw[←Fj (pg:=x.pg.set at_.toNat b) hB.is U]at hz
   exact⟨_,rfl,.inr ⟨x,_,rfl,rfl,hrng,E8 (x:=x) (pg:=x.pg.set at_.toNat b) hB.inv hB.go.f hB.go.vw hB.is U U (by rw[List.length_set]; exact(hI.ent hid).2.2.2.2.1),QY (S:=setP S2 id ⟨x.refs,1,(k:Nat),x.pg⟩ (x.pg.set at_.toNat b)) hz⟩⟩
  refine⟨_,rfl, ?_⟩
  replace hS10:=hS10.jn U U
  clear hS9
  refine Qb U U (Qq U U U (Qq U U U (Qe U U (Qe U U (Qf (Qc (Qh [3,2,0,8,11,12] U (Qd (Qd (Qa (Qb U U (X0 U U U (Qf (Qc (Qs U (fun h17=> ?_) (fun h17=> ?_))))))))))))))))
  ·exact Qd (Qa (Qb U U (Qe U U (Qf (Qc (Qu (Qp (QR (.inr U) U U (⟨_,rfl,.inl ⟨_,rfl, by decide, by(exact .inr (.inr (.inr (.inr hall)))),hS10.pick [0,1] U⟩⟩)))))))))
  exact absurd (by decide) h17
end Go.Proofs.YtkcjfoaejijdoaaGreatDoor
namespace Go.Proofs.YtkcjfoaejijdoaaGreatDoor.M
open Go.RowKit
section
variable {κ:Type} {β:Type}
open Classical in
noncomputable def Xi (f:κ→Option β) (k:κ) (v:Option β):κ→Option β:= fun j=> if j=k then v else f j
theorem Qy {f:κ→Option β} {k:κ} {v:Option β}:Xi f k v k=v:= by simp [Xi]
theorem Q7 {f:κ→Option β} {k j:κ} {v:Option β} (h:j≠k):Xi f k v j=f j:= by simp [Xi,h]
theorem Ji {f:κ→Option β} {k:κ} {u v:Option β}:Xi (Xi f k u) k v=Xi f k v:= by
  funext j
  by_cases h:j=k
  · subst h; rw[Qy,Qy]
  · rw[Q7 h,Q7 h,Q7 h]
theorem WE {f:κ→Option β} {k:κ} {v:Option β} (h:f k=v):Xi f k v=f:= by
  funext j
  by_cases e:j=k
  · subst e; rw[Qy,h]
  · rw[Q7 e]
def PS (o:Option Th):Th:=o.getD empT
def N9 (h:κ→Option Th):Th:=Ca fun L:List κ=>starL [JM (L.Nodup∧ ∀k,k∈L↔h k≠none),starL (L.map fun k=>PS (h k))]
section
variable {w:World} {As:List Th} {h:κ→Option Th} {k:κ} {A:Th}
theorem Sat.second {A X Y:Th} {As:List Th} (f: ∀{Bs:List Th},Sat w (X::Bs)→Sat w (Y::Bs)) (hS:Sat w (A::X::As)):Sat w (A::Y::As):=
  (f (hS.perm (List.Perm.swap _ _ _))).perm (List.Perm.swap _ _ _)
theorem ML (hS:Sat w (N9 h::As)): ∃L:List κ,(L.Nodup∧ ∀k,k∈L↔h k≠none)∧Sat w (starL (L.map fun k=>PS (h k))::As):= by
  obtain⟨L,hL⟩:=hS.ex
  exact⟨L,hL.flat.pure_elim⟩
theorem Gk {L:List κ} (hL:L.Nodup∧ ∀k,k∈L↔h k≠none) (hS:Sat w (starL (L.map fun k=>PS (h k))::As)):Sat w (N9 h::As):=
  Sat.ex_intro (f:= fun L:List κ=>starL [JM (L.Nodup∧ ∀k,k∈L↔h k≠none),starL (L.map fun k=>PS (h k))]) L (Sat.fold (As:=[JM (L.Nodup∧ ∀k,k∈L↔h k≠none),starL (L.map fun k=>PS (h k))]) (Sat.pure_intro hL hS))
theorem Sat.emp_intro (hS:Sat w As):Sat w (starL []::As):=Sat.fold (As:=[]) hS
theorem LO (hS:Sat w As):Sat w (N9 (fun _:κ=>none)::As):=Gk (L:=[]) ⟨List.nodup_nil, fun k=> by simp⟩ hS.emp_intro
theorem Ij (hS:Sat w (N9 h::As)) (hk:h k=some A):Sat w (A::N9 (Xi h k none)::As):= by
  obtain⟨L,⟨hn,hm⟩,h1⟩:=ML hS
  have hkm:k∈L:=(hm k).2 (by rw[hk]; simp)
  obtain⟨L1,L2,rfl⟩:=List.append_of_mem hkm
  have hp:(L1++k::L2).Perm (k::(L1++L2)):=List.perm_middle
  have hn':=hp.nodup_iff.1 hn
  obtain⟨hk1,hn2⟩:=List.nodup_cons.1 hn'
  have h2:=Ii h1 (hp.map _)
  have h3:=big_out (Xs:=(k::(L1++L2)).map fun k=>PS (h k)) (i:=0) h2 U
  have e1:PS (h k)=A:= by rw[hk];rfl
  replace h3:Sat w (PS (h k)::starL (((k::(L1++L2)).map fun k=>PS (h k)).eraseIdx 0)::As):=h3
  rw[e1]at h3
  have e2:(((k::(L1++L2)).map fun k=>PS (h k)).eraseIdx 0)=(L1++L2).map fun j=>PS (Xi h k none j):= by
    show(L1++L2).map (fun k=>PS (h k))=_
    refine List.map_congr_left fun j hj=> ?_
    rw[Q7]
    intro q; subst q; exact hk1 hj
  rw[e2]at h3
  refine Sat.second (fun {Bs} g=>Gk ⟨hn2, fun j=> ?_⟩ g) h3
  by_cases hj:j=k
  · subst hj
    rw[Qy]
    exact⟨fun q=>absurd q hk1, fun q=>absurd U q⟩
  · rw[Q7 hj,←hm j,hp.mem_iff,List.mem_cons]
    exact⟨fun q=> .inr q, fun q=>q.resolve_left hj⟩
theorem Fe (hS:Sat w (A::N9 h::As)) (hk:h k=none):Sat w (N9 (Xi h k (some A))::As):= by
  obtain⟨L,⟨hn,hm⟩,h1⟩:=ML (hS.perm (List.Perm.swap _ _ _))
  have hkm:k∉L:= fun q=>(hm k).1 q hk
  have h2:=big_in (i:=0) (h1.perm (List.Perm.swap _ _ _))
  refine Gk (L:=k::L) ⟨List.nodup_cons.2 ⟨hkm,hn⟩, fun j=> ?_⟩ ?_
  · rw[List.mem_cons]
    by_cases hj:j=k
    · subst hj
      rw[Qy]; simp
    · rw[Q7 hj,←hm j]
      exact⟨fun q=>q.resolve_left hj, fun q=> .inr q⟩
  · rw[List.map_cons,Qy]
    have e:(L.map fun j=>PS (Xi h k (some A) j))=L.map fun j=>PS (h j):=List.map_congr_left fun j hj=> by
      rw[Q7]
      intro q; subst q; exact hkm hj
    rw[e]
    exact h2
end
def Xv {α:Type} (ad:α→Nat) (f:κ→Option α):κ→Option Value:= fun k=>(f k).map fun x=>ptrV (ad x) 0
theorem Zw {α:Type} {ad:α→Nat} {f:κ→Option α} {k:κ} {x:α} {z:Value} (h:f k=some x):(Xv ad f k).getD z=ptrV (ad x) 0:= by unfold Xv; rw[h];rfl
theorem Vw {α:Type} {ad:α→Nat} {f:κ→Option α} {k:κ} {z:Value} (h:f k=none):(Xv ad f k).getD z=z:= by unfold Xv; rw[h];rfl
theorem C6 {α:Type} {ad:α→Nat} {f:κ→Option α} {k:κ} {x:α}:upd (Xv ad f) k (some (ptrV (ad x) 0))=Xv ad (Xi f k (some x)):= by
  funext j
  by_cases h:j=k
  · subst h; rw[Wd];unfold Xv; rw[Qy];rfl
  · rw[Jd h];unfold Xv; rw[Q7 h]
theorem C7 {α:Type} {ad:α→Nat} {f:κ→Option α} {k:κ}:upd (Xv ad f) k none=Xv ad (Xi f k none):= by
  funext j
  by_cases h:j=k
  · subst h; rw[Wd];unfold Xv; rw[Qy];rfl
  · rw[Jd h];unfold Xv; rw[Q7 h]
theorem J2 {α:Type} {ad:α→Nat} {f:κ→Option α} {k:κ} {x y:α} (h:f k=some x) (hy:ad y=ad x):Xv ad (Xi f k (some y))=Xv ad f:= by
  funext j
  by_cases e:j=k
  · subst e;unfold Xv; rw[Qy,h]; simp [hy]
  · unfold Xv; rw[Q7 e]
end
def Xo (k:Bs×Int):Value:= .agg #[strV k.1,intV k.2]
theorem BH {P:Program} {t:TypeId} (hu:P.underlying t=some .string) (cs:Array Value) (off:Nat) (v:Value) (hv:cs[off]? =some v) (w:World):(part t cs off).run P w= .ok v w:= by
  simp [part,isAgg,run_underlying hu,hv]
theorem GA {P:Program} {t:TypeId} (hu:P.underlying t=some .string) (n:Nat) (a b:Bs) (w:World):(Op.equalIn (n+1) t (strV a) (strV b)).run P w= .ok (decide (a=b)) w:= by
  unfold Op.equalIn
  simp only[Sem.run_bind,run_underlying hu,Result.andThen,strV]
  simp
  rw[Bool.eq_iff_iff]
  show(a.toArray==b.toArray)=true↔_
  simp
theorem AK {P:Program} {kt t0 t1:TypeId} {f0 f1:Field} (hu:P.underlying kt=some (.struct #[f0,f1])) (hs:P.stoodInHeld kt=false) (hs0:P.underlying t0=some .string) (ht:P.underlying t1=some (.int .i64))
    (h0 : f0.type = t0) (h1 : f1.type = t1) (o0 : f0.offset = 0) (o1 : f1.offset = 1) (n0 : f0.name ≠ "_") (n1 : f1.name ≠ "_") : KeyOk P kt Xo where
  inj:= by rintro⟨a,b⟩ ⟨c,d⟩ h;simpa [Xo,strV,intV]using h
  bits:= fun a=> by
    simp [Xo,strV,intV,Instr.sameBits]
    show(a.1.toArray==a.1.toArray)=true
    simp
  check:= fun e a w=> by
    unfold Instr.checkKey
    simp only[Sem.run_bind,run_underlying hu,Result.andThen,Xo]
    have c: ∀x:Int,(Instr.checkKey e 9999 t1 (intV x)).run P w= .ok () w:= fun x=>MapKept.run_checkKey ht (by simp [MapKept.IsKey,intV]) e 9998
    have c0: ∀x:Bs,(Instr.checkKey e 9999 t0 (strV x)).run P w= .ok () w:= fun x=>MapKept.run_checkKey hs0 (by simp [MapKept.IsKey,strV]) e 9998
    simp [n0,n1,h0,h1,o0,o1,Mn ht,BH hs0,c,c0]
  find:= fun a l w h=> by
    have eq: ∀b:Bs×Int,(Op.equal kt (Xo a) (Xo b)).run P w= .ok (decide (a=b)) w:= by
      intro b
      have c: ∀x y:Int,(Op.equalIn 9999 t1 (intV x) (intV y)).run P w= .ok (x==y) w:= fun x y=>GB ht 9998 x y w
      have c0: ∀x y:Bs,(Op.equalIn 9999 t0 (strV x) (strV y)).run P w= .ok (decide (x=y)) w:= fun x y=>GA hs0 9998 x y w
      unfold Op.equal Op.maxDepth Op.equalIn
      simp only[Sem.run_bind,run_underlying hu,Result.andThen,Xo]
      obtain⟨a1,a2⟩:=a
      obtain⟨b1,b2⟩:=b
      by_cases e1:a1=b1<;>by_cases e2:a2=b2<;> simp [hs,n0,n1,h0,h1,o0,o1,Mn ht,BH hs0,c,c0,e1,e2]
    have ask: ∀(l:List MapEntry) (i:Nat),(∀x∈l,∃b,x.key=Xo b)→
        (∃j x,l[j]? =some x∧x.key=Xo a∧(Instr.findAsking kt (Xo a) l i).run P w= .ok (some (i+j,x.val)) w)∨((∀x∈l,x.key≠Xo a)∧(Instr.findAsking kt (Xo a) l i).run P w= .ok none w):= by
      intro l
      induction l with
      | nil=> intro i _; exact .inr ⟨by simp, by simp [Instr.findAsking]⟩
      | cons e es ih=>
        intro i hl
        obtain⟨b,hb⟩:=hl e (by simp)
        by_cases hab:a=b
        · refine .inl ⟨0,e,rfl, by rw[hb,hab], ?_⟩
          subst hab
          simp [Instr.findAsking,hb,eq]
        · have hne:e.key≠Xo a:= by
            rw[hb]; intro q; apply hab
            obtain⟨a1,a2⟩:=a
            obtain⟨b1,b2⟩:=b
            simp [Xo,strV,intV]at q⊢; exact⟨q.1.symm,q.2.symm⟩
          rcases ih (i+1) (fun x hx=>hl x (by simp [hx]))with⟨j,x,h1,h2,h3⟩ | ⟨h1,h2⟩
          · refine .inl ⟨j+1,x, by simpa using h1,h2, ?_⟩
            simp [Instr.findAsking,hb,eq,hab,h3];omega
          · refine .inr ⟨fun x hx=> ?_, ?_⟩
            · rcases List.mem_cons.1 hx with rfl | hx
              · exact hne
              · exact h1 x hx
            · simp [Instr.findAsking,hb,eq,hab,h2]
    cases l with
    | nil=> exact .inr ⟨by simp, by simp [Instr.findKey,run_underlying hu,Instr.findNow]⟩
    | cons e es=>
      obtain⟨b,hb⟩:=h e (by simp)
      have hn:Instr.findNow (.struct #[f0,f1]) (Xo a) (e::es) 0=none:= by simp [Instr.findNow,Instr.sameNow]
      have hk: ∀r,(Instr.findAsking kt (Xo a) (e::es) 0).run P w= .ok r w→(Instr.findKey kt (Xo a) (e::es)).run P w= .ok r w:= by
        intro r hr
        simp only[Instr.findKey,Sem.run_bind,run_underlying hu,Result.andThen,hn,hr]
      rcases ask (e::es) 0 h with⟨j,x,h1,h2,h3⟩ | ⟨h1,h2⟩
      · rw[Nat.zero_add]at h3
        exact .inl ⟨j,x,h1,h2,hk _ h3⟩
      · exact .inr ⟨h1,hk _ h2⟩
section
variable {P:Program} {n:Nat} {ops:Array Oper} {Q:Exit→Act→World→Prop} {rest:List Oper} {L:Env} {w:World} {d:Nat} {t t2:TypeId} {x y:Operand} {ty:TypeId} {pos:String} {aft:Array Edge}
theorem Ty {e:TypeId} (hu:P.underlying t=some (.pointer e)) (hx:look L x=some (.pointer none)) (hy:look L y=some (.pointer none)):Ev P L w ⟨some d,.binOp .neq t x y t2,ty,pos,aft,none⟩ (.bool false):= fun ρ hρ=> by simp [execOp,hρ _ _ hx,hρ _ _ hy,eqGuard,binOp,GR hu]
theorem J0 {e:TypeId} (hu:P.underlying t=some (.pointer e)) (hx:look L x=some (.pointer none)) (hy:look L y=some (.pointer none)) (hd:Nat.blt d n=true) (hk:wl P n ops Q rest ((d,.bool false)::L) w):wl P n ops Q (⟨some d,.binOp .neq t x y t2,ty,pos,aft,none⟩::rest) L w:=
  Xu hd (Ty hu hx hy) hk
def Zz (b:BitVec 64):Value:= .int .u64 (b.toNat:Int)
theorem RX (b:BitVec 64):BitVec.ofInt 64 (b.toNat:Int)=b:= by
  rw[BitVec.ofInt_natCast]; simp
theorem Am (b:BitVec 64):(b.toNat:Int)%18446744073709551616=(b.toNat:Int):= by
  have :=b.isLt
  omega
theorem V9 {a b:BitVec 64} (hx:look L x=some (Zz a)) (hy:look L y=some (Zz b)):Ev P L w ⟨some d,.binOp .or t x y t2,ty,pos,aft,none⟩ (Zz (a ||| b)):= fun ρ hρ=> by
  simp only[execOp,hρ _ _ hx,hρ _ _ hy,Zz,binOp,Op.intBits,IntKind.bits,eqGuard,RX]
  simp [IntKind.wrap,IntKind.signed,IntKind.bits, -BitVec.toNat_or]
  exact Am _
theorem PO {a b:BitVec 64} (hx:look L x=some (Zz a)) (hy:look L y=some (Zz b)) (hd:Nat.blt d n=true) (hk:wl P n ops Q rest ((d,Zz (a ||| b))::L) w):wl P n ops Q (⟨some d,.binOp .or t x y t2,ty,pos,aft,none⟩::rest) L w:=Xu hd (V9 hx hy) hk
theorem Om {a b:BitVec 64} (hx:look L x=some (Zz a)) (hy:look L y=some (Zz b)):Ev P L w ⟨some d,.binOp .and t x y t2,ty,pos,aft,none⟩ (Zz (a&&&b)):= fun ρ hρ=> by
  simp only[execOp,hρ _ _ hx,hρ _ _ hy,Zz,binOp,Op.intBits,IntKind.bits,eqGuard,RX]
  simp [IntKind.wrap,IntKind.signed,IntKind.bits, -BitVec.toNat_and]
  exact Am _
theorem Br {a b:BitVec 64} (hx:look L x=some (Zz a)) (hy:look L y=some (Zz b)) (hd:Nat.blt d n=true) (hk:wl P n ops Q rest ((d,Zz (a&&&b))::L) w):wl P n ops Q (⟨some d,.binOp .and t x y t2,ty,pos,aft,none⟩::rest) L w:=Xu hd (Om hx hy) hk
theorem HD {a b:BitVec 64} (hx:look L x=some (Zz a)) (hy:look L y=some (Zz b)):Ev P L w ⟨some d,.binOp .andNot t x y t2,ty,pos,aft,none⟩ (Zz (a&&& ~~~b)):= fun ρ hρ=> by
  simp only[execOp,hρ _ _ hx,hρ _ _ hy,Zz,binOp,Op.intBits,IntKind.bits,eqGuard,RX]
  simp [IntKind.wrap,IntKind.signed,IntKind.bits, -BitVec.toNat_and]
  exact Am _
theorem Ol {yk:IntKind} (m:Nat) (hx:look L x=some (.int .u64 1)) (hy:look L y=some (.int yk (m:Int))) (hm:m<64):Ev P L w ⟨some d,.binOp .shl t x y t2,ty,pos,aft,none⟩ (Zz (1#64<<<m)):= fun ρ hρ=> by
  have h0: ¬((m:Int)<0):= by omega
  have e:IntKind.u64.wrap (1*2^(min m 64))=((1#64<<<m).toNat:Int):= by
    rw[Nat.min_eq_left (by omega),Int.one_mul]
    have h1:(2:Int)^m=((2^m:Nat):Int):= by simp
    rw[h1]
    have h2:2^m<2^64:=Nat.pow_lt_pow_right (by decide) hm
    simp [IntKind.wrap,IntKind.signed,IntKind.bits,BitVec.toNat_shiftLeft,Nat.shiftLeft_eq]
  simp only[execOp,hρ _ _ hx,hρ _ _ hy,binOp,Op.shift,IntKind.bits,eqGuard,h0,if_false,Int.toNat_natCast,e,Zz]
  simp
theorem Oi {yk:IntKind} {a:BitVec 64} (m:Nat) (hx:look L x=some (Zz a)) (hy:look L y=some (.int yk (m:Int))) (hm:m≤64):Ev P L w ⟨some d,.binOp .shr t x y t2,ty,pos,aft,none⟩ (Zz (a>>>m)):= fun ρ hρ=> by
  have h0: ¬((m:Int)<0):= by omega
  have e:(a.toNat:Int).fdiv (2^(min m 64))=((a>>>m).toNat:Int):= by
    rw[Nat.min_eq_left hm,Int.fdiv_eq_ediv_of_nonneg _ (Int.le_of_lt (Int.pow_pos (by decide))),BitVec.toNat_ushiftRight,Nat.shiftRight_eq_div_pow]
    simp
  simp only[execOp,hρ _ _ hx,hρ _ _ hy,Zz,binOp,Op.shift,IntKind.bits,eqGuard,h0,if_false,Int.toNat_natCast,e]
  simp
theorem Cd {yk:IntKind} {a:BitVec 64} (m:Nat) (hx:look L x=some (Zz a)) (hy:look L y=some (.int yk (m:Int))) (hm:m≤64) (hd:Nat.blt d n=true) (hk:wl P n ops Q rest ((d,Zz (a>>>m))::L) w):wl P n ops Q (⟨some d,.binOp .shr t x y t2,ty,pos,aft,none⟩::rest) L w:=Xu hd (Oi m hx hy hm) hk
end
section
variable {P:Program} {n:Nat} {ops:Array Oper} {Q:Exit→Act→World→Prop} {rest:List Oper} {L:Env} {w:World} {d:Nat} {ty:TypeId} {pos:String} {aft:Array Edge}
theorem DV {t:Nat} {parts:List (Nat×Operand)} {vs vs':List Value} {pls:List (Nat×Nat)} {z:List Value} (hx:WM L (parts.map (·.2))=some vs) (hp:Z5 P t (parts.map (·.1))=some pls) (ha:YJ P t=true) (hz:Zl P t=some (some (.agg z.toArray))) (hok:JD z.length pls vs=true) (hd:Nat.blt d n=true) (he:Jl z pls vs=vs') (hk:wl P n ops Q rest ((d,.agg vs'.toArray)::L) w):wl P n ops Q (⟨some d,.build t parts.toArray,ty,pos,aft,none⟩::rest) L w:= by
  subst he; exact Zu hx hp ha hz hok hd hk
end
end Go.Proofs.YtkcjfoaejijdoaaGreatDoor.M
namespace Go.Proofs.YtkcjfoaejijdoaaGreatDoor
open Go.RowKit M
abbrev VS:=Int→Option (Int×Bs)
noncomputable def Ha (V:VS) (j:Int):VS:= match V j with | none=>V | some x=>Xi V j (some (x.1+1,x.2))
noncomputable def Zb (V:VS) (j:Int):VS:= match V j with | none=>V | some x=> if 1<x.1 then Xi V j (some (x.1 -1,x.2))else Xi V j none
def Zc (V:VS) (j:Int):Int:= match V j with | none=>0 | some x=>x.1
def XH (V:VS) (j:Int):Bs:= match V j with | none=> if j=0 then zer else[] | some x=>x.2
def btV (V:VS) (j a:Int):UInt8:= if 0≤a∧a<64 then(XH V j).getD a.toNat 0 else 0
def Hi (V:VS) (n:Nat):Prop:= ∃l:List Int,l.length=n∧l.Nodup∧ ∀j∈l,V j≠none
theorem RH {β:Type} (A:Int→Option β) (j:Int) (v:Option β):up A j v=Xi A j v:= by
  funext i
  by_cases h:i=j
  · subst h; rw[XW,Qy]
  · rw[Zm h,Q7 h]
structure SlW where
  v:Nat
variable [Inhabited SlW]
def Iy (S:SS) (F:Nat):Prop:=S.fr.length=F∧S.slots=((default:SlW).v:Int)
def XG (p n F:Nat) (V:VS):Th:=Ca fun S:SS=>starL [JM (ShI Vz n S∧vw S=V∧Iy S F),Ye p S]
theorem Wz {w:World} {p n F:Nat} {V:VS} {As:List Th} (h:Sat w (XG p n F V::As)): ∃S,ShI Vz n S∧vw S=V∧Iy S F∧Sat w (Ye p S::As):= by
  obtain⟨S,h⟩:=h.ex
  obtain⟨⟨a,b,c⟩,h⟩:=h.flat.pure_elim
  exact⟨S,a,b,c,h⟩
theorem Z0 {w:World} {p n F:Nat} {V:VS} {S:SS} {As:List Th} (hI:ShI Vz n S) (hV:vw S=V) (hF:Iy S F) (h:Sat w (Ye p S::As)):Sat w (XG p n F V::As):=
  Sat.ex_intro (f:= fun S:SS=>starL [JM (ShI Vz n S∧vw S=V∧Iy S F),Ye p S]) S (Sat.fold (As:=[JM (ShI Vz n S∧vw S=V∧Iy S F),Ye p S]) (Sat.pure_intro ⟨hI,hV,hF⟩ h))
theorem Xe {w:World} {p n m F:Nat} {V:VS} {As:List Th} (hm:n≤m) (h:Sat w (XG p n F V::As)):Sat w (XG p m F V::As):= by
  obtain⟨S,a,b,c,h⟩:=Wz h
  exact Z0 (a.mono hm) b c h
theorem YY {S:SS} {j:Int} (h:S.all j=none):vw S j=none:= by unfold vw; rw[h];rfl
theorem YX {S:SS} {j:Int} {x:ShE} (h:S.all j=some x):vw S j=some (x.refs,x.pg):= by unfold vw; rw[h];rfl
theorem EX (S:SS) (j:Int):YB S j=XH (vw S) j:= by
  unfold YB XH
  cases h:S.all j with
  | none=> rw[YY h]
  | some x=> rw[YX h]
theorem PA {n:Nat} {Q:Nat→Int→Prop} (h: ∀i,i<n→ ∃j,Q i j): ∃f:Nat→Int,∀i,i<n→Q i (f i):= by
  classical
  exact⟨fun i=> if hi:i<n then Classical.choose (h i hi)else 0, fun i hi=> by dsimp only; rw[dif_pos hi]; exact Classical.choose_spec (h i hi)⟩
theorem Ku {n:Nat} {S:SS} (hI:ShI Vz n S) (hf: ∀o∈S.fr,o≠none):Hi (vw S) S.fr.length:= by
  have hex: ∀i,i<S.fr.length→ ∃j:Int,S.inn (i:Nat)=some j∧S.all j≠none:= by
    intro i hi
    obtain⟨b,hb⟩: ∃b,S.fr[i]? =some (some b):= by
      have h1:=hf _ (List.getElem_mem hi)
      cases hq:S.fr[i]with
      | none=> exact absurd hq h1
      | some b=> exact⟨b, by rw[Zi hi,hq]⟩
    have h2:ZS S.fr (i:Nat)=some b:= by unfold ZS; rw[if_pos (by omega),Int.toNat_natCast,hb]
    have h3:=hI.fru h2
    cases hq:S.inn (i:Nat)with
    | none=> exact absurd hq h3
    | some j=>
      obtain⟨_,x,hx,_⟩:=(hI.frm _ _).1 hq
      exact⟨j,rfl, by rw[hx]; simp⟩
  obtain⟨f,hf2⟩:=PA (n:=S.fr.length) hex
  refine⟨(List.range S.fr.length).map f, by simp, ?_, fun j hj=> ?_⟩
  · unfold List.Nodup
    rw[List.pairwise_map]
    refine List.Pairwise.imp_of_mem (fun {a b} ha hb hne e=> ?_) (List.nodup_range)
    have ha':=List.mem_range.1 ha
    have hb':=List.mem_range.1 hb
    have h1:=(hf2 a ha').1
    have h2:=(hf2 b hb').1
    rw[e]at h1
    obtain⟨_,x,hx,hp,hat⟩:=(hI.frm _ _).1 h1
    obtain⟨_,y,hy,hq,hbt⟩:=(hI.frm _ _).1 h2
    rw[hx]at hy; cases hy
    omega
  · obtain⟨i,hi,rfl⟩:=List.mem_map.1 hj
    have :=(hf2 i (List.mem_range.1 hi)).2
    intro q
    apply this
    unfold vw at q
    simpa using q
theorem B5 {w:World} {p n F:Nat} {V:VS} {X:Th} (hS:Sat w [XG p n F V,X]) (hn:n≤80000000000) (id:Int):
    Calls Tryz.prog 102 #[ptrV p 0,intV id] w (Ret fun v w'=> ∃e,v=intV e∧Sat w' [XG p (n+1) F (Ha V id),X]):= by
  obtain⟨S,hI,rfl,hF,hS⟩:=Wz hS
  refine(E2 hS hI hn id).mono fun e w h=>h.mono fun v w h=> ?_
  cases hid:S.all id with
  | none=>
    rw[hid]at h
    have e:Ha (vw S) id=vw S:= by unfold Ha; rw[YY hid]
    rw[e]
    by_cases q:id=0
    · exact⟨0, by rw[h.1,if_pos q],Xe (by omega) (Z0 hI U hF h.2)⟩
    · exact⟨4, by rw[h.1,if_neg q],Xe (by omega) (Z0 hI U hF h.2)⟩
  | some x=>
    rw[hid]at h
    have hr:=(hI.ent hid).2.2
    obtain⟨a,b,c⟩:=PZ (r:=x.refs+1) hI hid ⟨by omega, by omega⟩
    refine⟨0,h.1,Z0 a ?_ ⟨b.frn.trans hF.1,b.slo.trans hF.2⟩ h.2⟩
    rw[c,RH];unfold Ha; rw[YX hid]
theorem KK {w:World} {p n F:Nat} {V:VS} {X:Th} (hS:Sat w [XG p n F V,X]) (hn:n≤80000000000) (id:Int):
    Calls Tryz.prog 104 #[ptrV p 0,intV id] w (Ret fun v w'=> ∃e,v=intV e∧Sat w' [XG p (n+1) F (Zb V id),X]):= by
  obtain⟨S,hI,rfl,hF,hS⟩:=Wz hS
  refine(NZ hS hI hn id).mono fun e w h=>h.mono fun v w h=> ?_
  cases hid:S.all id with
  | none=>
    rw[hid]at h
    have e:Zb (vw S) id=vw S:= by unfold Zb; rw[YY hid]
    rw[e]
    by_cases q:id=0
    · exact⟨0, by rw[h.1,if_pos q],Xe (by omega) (Z0 hI U hF h.2)⟩
    · exact⟨4, by rw[h.1,if_neg q],Xe (by omega) (Z0 hI U hF h.2)⟩
  | some x=>
    rw[hid]at h
    have hr:=(hI.ent hid).2.2
    rcases h with⟨h1,⟨h2,h3⟩ | ⟨h2,S',h3,h4⟩⟩
    · obtain⟨a,b,c⟩:=PZ (r:=x.refs -1) hI hid ⟨by omega, by omega⟩
      refine⟨0,h1,Z0 a ?_ ⟨b.frn.trans hF.1,b.slo.trans hF.2⟩ h3⟩
      rw[c,RH];unfold Zb; rw[YX hid]; dsimp only; rw[if_pos h2]
    · refine⟨0,h1,Z0 h3.inv ?_ ⟨h3.f.frn.trans hF.1,h3.f.slo.trans hF.2⟩ h4⟩
      rw[h3.is,RH];unfold Zb; rw[YX hid]; dsimp only; rw[if_neg (by omega)]
theorem B4 {w:World} {p n F:Nat} {V:VS} {X:Th} (hS:Sat w [XG p n F V,X]) (id:Int):
    Calls Tryz.prog 23 #[ptrV p 0,intV id] w (Ret fun v w'=>v=intV (Zc V id)∧Sat w' [XG p n F V,X]):= by
  obtain⟨S,hI,rfl,hF,hS⟩:=Wz hS
  refine(FC hS id).mono fun e w h=>h.mono fun v w h=> ?_
  refine⟨?_,Z0 hI U hF h.2⟩
  rw[h.1];unfold Zc
  cases hid:S.all id with
  | none=> rw[YY hid]
  | some x=> rw[YX hid]
theorem YP {w:World} {p n F:Nat} {V:VS} {X:Th} (hS:Sat w [XG p n F V,X]) (id:Int):
    Calls Tryz.prog 34 #[ptrV p 0,intV id] w (Ret fun v w'=>v=strV (XH V id)∧Sat w' [XG p n F V,X]):= by
  obtain⟨S,hI,rfl,hF,hS⟩:=Wz hS
  refine(Mg hS hI id (fun q=>q)).mono fun e w h=>h.mono fun v w h=> ?_
  exact⟨by rw[h.1,EX],Z0 hI U hF h.2⟩
theorem Eu {w:World} {p n F:Nat} {V:VS} {X:Th} (hS:Sat w [XG p n F V,X]) (hn:n≤80000000000) (id a:Int):
    Calls Tryz.prog 47 #[ptrV p 0,intV id,intV a] w (Ret fun v w'=>v=Wu (btV V id a)∧Sat w' [XG p n F V,X]):= by
  obtain⟨S,hI,rfl,hF,hS⟩:=Wz hS
  refine(FG hS hI hn id a).mono fun e w h=>h.mono fun v w h=> ?_
  exact⟨by rw[h.1];unfold FH btV; rw[EX],Z0 hI U hF h.2⟩
theorem GN {w:World} {p n F:Nat} {V:VS} {X:Th} (hS:Sat w [XG p n F V,X]) (hn:n≤80000000000) {pg:Bs} (hpg:pg.length=64):
    Calls Tryz.prog 105 #[ptrV p 0,strV pg] w (Ret fun v w'=>(v= .tuple #[intV 0,intV 6]∧Hi V F∧Sat w' [XG p (n+1) F V,X])∨(∃id,v= .tuple #[intV id,intV 0]∧1≤id∧V id=none∧Sat w' [XG p (n+1) F (Xi V id (some (1,pg))),X])):= by
  obtain⟨S,hI,rfl,hF,hS⟩:=Wz hS
  refine(B8 hS hI hn hpg).mono fun e w h=>h.mono fun v w h=> ?_
  rcases h with⟨h1,h2,h3,h4⟩ | ⟨h1,S',h2,h3⟩
  · exact .inl ⟨h1, by rw[←hF.1]; exact Ku hI h2,Xe (by omega) (Z0 hI U hF h4)⟩
  · exact .inr ⟨_,h1,h2.pos,YY h2.was,Z0 h2.inv (by rw[h2.is,RH]) ⟨h2.f.frn.trans hF.1,h2.f.slo.trans hF.2⟩ h3⟩
theorem Es {w:World} {p n F:Nat} {V:VS} {X:Th} (hS:Sat w [XG p n F V,X]) (hn:n≤80000000000) {pg:Bs} (hpg:pg.length=64):
    Calls Tryz.prog 115 #[ptrV p 0,strV pg] w (Ret fun v w'=>(pg=zer∧v= .tuple #[intV 0,intV 0]∧Sat w' [XG p (n+1) F V,X])∨(pg≠zer∧v= .tuple #[intV 0,intV 6]∧Hi V F∧Sat w' [XG p (n+1) F V,X])∨(∃id,pg≠zer∧v= .tuple #[intV id,intV 0]∧1≤id∧V id=none∧Sat w' [XG p (n+1) F (Xi V id (some (1,pg))),X])):= by
  obtain⟨S,hI,rfl,hF,hS⟩:=Wz hS
  refine(FE hS hI hn hpg).mono fun e w h=>h.mono fun v w h=> ?_
  rcases h with⟨h0,h1,h4⟩ | ⟨h0,⟨h1,h2,h3,h4⟩ | ⟨h1,S',h2,h3⟩⟩
  · exact .inl ⟨h0,h1,Xe (by omega) (Z0 hI U hF h4)⟩
  · exact .inr (.inl ⟨h0,h1, by rw[←hF.1]; exact Ku hI h2,Xe (by omega) (Z0 hI U hF h4)⟩)
  · exact .inr (.inr ⟨_,h0,h1,h2.pos,YY h2.was,Z0 h2.inv (by rw[h2.is,RH]) ⟨h2.f.frn.trans hF.1,h2.f.slo.trans hF.2⟩ h3⟩)
theorem stSet {w:World} {p n F:Nat} {V:VS} {X:Th} (hS:Sat w [XG p n F V,X]) (hn:n≤80000000000) (id a:Int) (b:UInt8):
    Calls Tryz.prog 45 #[ptrV p 0,intV id,intV a,Wu b] w (Ret fun v w'=>(∃e,v=intV e∧e≠0∧(V id=none∨1<Zc V id∨a<0∨64≤a∨Hi V F)∧Sat w' [XG p (n+1) F V,X])∨(∃r pg,V id=some (r,pg)∧v=intV 0∧(0≤a∧a<64)∧Sat w' [XG p (n+1) F (Xi V id (some (r,pg.set a.toNat b))),X])):= by
  obtain⟨S,hI,rfl,hF,hS⟩:=Wz hS
  refine(E1 hS hI hn id a b).mono fun e w h=>h.mono fun v w h=> ?_
  rcases h with⟨e,h1,h2,h3,h4⟩ | ⟨x,S',h1,h2,h3,h4,h5⟩
  · exact .inl ⟨e,h1,h2,h3.imp YY (Or.imp (fun ⟨x,q1,q2⟩=> by unfold Zc; rw[YX q1]; exact q2) (Or.imp (fun q=>q) (Or.imp (fun q=>q) fun q=> by rw[←hF.1]; exact Ku hI q))),Xe (by omega) (Z0 hI U hF h4)⟩
  · exact .inr ⟨x.refs,x.pg,YX h1,h2,h3,Z0 h4.inv (by rw[h4.is,RH]) ⟨h4.f.frn.trans hF.1,h4.f.slo.trans hF.2⟩ h5⟩
theorem stEvict {w:World} {p n F:Nat} {V:VS} {X:Th} (hS:Sat w [XG p n F V,X]) (hn:n≤80000000000) (m:Int) (hm:n+m.toNat≤80000000000):
    Calls Tryz.prog 66 #[ptrV p 0,intV m] w (Ret fun v w'=> ∃d:Nat,v=intV (d:Int)∧Sat w' [XG p (n+m.toNat) F V,X]):= by
  obtain⟨S,hI,rfl,hF,hS⟩:=Wz hS
  refine(Cq hS hI m hm).mono fun e w h=>h.mono fun v w h=> ?_
  obtain⟨d,S',h1,h2,h3,h4⟩:=h
  exact⟨d,h1,Z0 h2 h3.vw ⟨h3.frn.trans hF.1,h3.slo.trans hF.2⟩ h4⟩
theorem stNew {w:World} {X:Th} (hS:Sat w [X]) (count slots budget:Int) (hsl:((default:SlW).v:Int)=min (max slots 0) 4096):
    Calls Tryz.prog 15 #[intV count,intV slots,intV budget] w (Ret fun v w'=> ∃p,v=ptrV p 0∧Sat w' [XG p 0 (min (max count 1) 256).toNat (fun _=>none),X]):= by
  refine(E3 hS count slots budget).mono fun e w h=>h.mono fun v w h=> ?_
  obtain⟨p,h1,h2⟩:=h
  exact⟨p,h1,Z0 (Ak count slots budget) (by funext j;rfl) ⟨by simp [VP], by show(VP count slots budget).slots=_; rw[hsl]; simp [VP]⟩ h2⟩
end Go.Proofs.YtkcjfoaejijdoaaGreatDoor
