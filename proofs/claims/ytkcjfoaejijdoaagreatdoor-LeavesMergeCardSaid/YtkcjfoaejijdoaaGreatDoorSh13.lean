/- sheets: Set -/
import Derived.Test.YtkcjfoaejijdoaaGreatDoorSh12
import Derived.Test.YtkcjfoaejijdoaaGreatDoorRow
set_option linter.unusedSectionVars false
set_option linter.unusedVariables false
set_option maxRecDepth 100000
set_option maxHeartbeats 3200000
namespace Go.Proofs.YtkcjfoaejijdoaaGreatDoor
open Go.RowKit M Proofs.Tryz
theorem ShF.trans {S S' S'':SS} (h:ShF S S') (h':ShF S' S''):ShF S S'':= by
  refine⟨?_,h'.bud.trans h.bud,h'.slo.trans h.slo,h'.frn.trans h.frn⟩
  obtain⟨L,h1,h2⟩:=h.tk
  obtain⟨L',h3,h4⟩:=h'.tk
  refine⟨L++L', by rw[h3,h1,List.append_assoc], fun j x hx hp=> ?_⟩
  rcases h2 j x hx hp with h | ⟨y,hy,hp',ha⟩
  · exact .inl (List.mem_append_left _ h)
  · rcases h4 j y hy hp' with h | ⟨z,hz,hp'',ha'⟩
    · exact .inl (List.mem_append_right _ (by rw[←ha]; exact h))
    · exact .inr ⟨z,hz,hp'',ha'.trans ha⟩
noncomputable def setP (S:SS) (id:Int) (y:ShE) (pg:Bs):SS:={S with all:=up S.all id (some {y with pg:=pg}),fr:=S.fr.set y.at_.toNat (some pg)}
theorem FQ {A:Int→Option ShE} {id:Int} {y:ShE} {pg:Bs} (h:A id=some y) (hp:y.place=1):aG (up A id (some {y with pg:=pg}))=aG A:= by
  funext j
  unfold aG
  by_cases q:j=id
  · subst q; rw[Ze,h]; show some _=some _;unfold S5 KW; simp [hp]
  · rw[Zv q]
structure SetS (T:Nat) (S S':SS) (id:Int) (x:ShE) (pg:Bs):Prop where
  inv:ShI Kp (T+1) S'
  f:ShF S S'
  is:vw S'=up (vw S) id (some (x.refs,pg))
theorem AB {T:Nat} {S S1:SS} {id:Int} {x y:ShE} {pg:Bs} (h:ShI Kp (T+1) S1) (hf:ShF S S1) (hv:vw S1=vw S) (hy:S1.all id=some y) (hp:y.place=1) (hr:y.refs=x.refs) (hpg:pg.length=64):SetS T S (setP S1 id y pg) id x pg:= by
  refine⟨h.page (fun q=>q) hy hp hpg,hf.trans ⟨⟨[], by simp [setP], fun j z hz hp1=> .inr ?_⟩,rfl,rfl, by show(S1.fr.set _ _).length=_; rw[List.length_set]⟩, ?_⟩
  · by_cases q:j=id
    · subst q; rw[hy]at hz; cases hz; exact⟨_,Ze,hp1,rfl⟩
    · exact⟨z, by show up S1.all id _ j=_; rw[Zv q]; exact hz,hp1,rfl⟩
  · rw[←hr,←hv]; exact EW U
theorem Ar {w:World} {p:Nat} {S:SS} {F:Th} (hS:Sat w [Yr p S,F]) {N:Nat} (hI:ShI Kp N S) (hN:N≤80000000000) (id at_:Int) (b:UInt8):
    Calls prog 45 #[ptrV p 0,intV id,intV at_,WA b] w (Ret fun v w'=>(∃e,v=intV e∧e≠0∧(S.all id=none∨(∃x,S.all id=some x∧1<x.refs)∨at_<0∨64≤at_∨ ∀o∈S.fr,o≠none)∧Sat w' [Yr p S,F])∨(∃x S',S.all id=some x∧v=intV 0∧(0≤at_∧at_<64)∧SetS N S S' id x (x.pg.set at_.toNat b)∧Sat w' [Yr p S',F])):= by
 obtain⟨ba,bi,fp,sp,kp,ac,cc,at2,ct,hS⟩:=Zf hS
 cases hid:S.all id with
 | none=>
  refine Qm func45 U ntmps45 U ?_
  refine Qd (Qa (Qe U U (Qf (Qc (Qd (Qa (Qb U U (Qj U U (Qg U XI U (Qr U Zs (hS.cell 0 U U) U (Qb U U (Ww (k:=id) 1 hS keysInt underlying108 U U U XO (u:=(.agg #[intV 0,intV 0,intV 0,strV []])) (g:=false) (H1 hid) (Hh hid) U (Qb U U (Qn U U U (Qn U U U (Xa hS XO U U ?_))))))))))))))))
  intro b1 w1 j1
  (refine QG j1 U U Yi U (by rfl) (i:=0) U (by decide) ?_)
  intro w2 j3; dsimp only[List.set]at j3
  refine Qe U U (Qf (Qc (Qh [3,2,1,0,8,9,10] U (Qd (Qw (Qd (Qa (Qb U U (Xb U U (Qb U U (Zl 25 U (fun h4=> ?_) (fun h4=> ?_))))))))))))
  ·refine Qo U U h4 (Qb U U (Qo U U h4 (XC U U U (QK U h4 U U (Qe U U (Qf (Qc (Qh [3,2,1,0,8,9,22] U (Qt U (fun h5=> ?_) (fun h5=> ?_))))))))))
   ·exact Qd (Qa (Qe U U (Qf (Qc (Qu (Qz (Qp (QY (.inr U) U U (⟨_,rfl,.inl ⟨_,rfl, by decide, by first | exact .inl U | (exact .inr (.inl ⟨x,rfl, by omega⟩)) | (exact .inr (.inr (.inl (by omega)))) | (exact .inr (.inr (.inr (.inl (by omega))))),Xh (j3.pick [1,2,3,4,5,6,7,8,9] U)⟩⟩)))))))))
   refine Qd (Qa (Qb U U (Xq U U U (Qb U U (Xc 32 U (fun h6=> ?_) (fun h6=> ?_))))))
   ·exact Qi U U (Xm h6) U (Qi U U (Xm h6) U (Qi U U (Xm h6) U (QK U (Xm h6) U U (Qe U U (Qf (Qc (Qh [3,2,1,0,8,29] U (Xd U (Qd (Qa (Qe U U (Qf (Qc (Qu (Qz (Qp (QY (.inr U) U U (⟨_,rfl,.inl ⟨_,rfl, by decide, by first | exact .inl U | (exact .inr (.inl ⟨x,rfl, by omega⟩)) | (exact .inr (.inr (.inl (by omega)))) | (exact .inr (.inr (.inr (.inl (by omega))))),Xh (j3.pick [1,2,3,4,5,6,7,8,9] U)⟩⟩))))))))))))))))))
   exact absurd h6 (by omega)
  exact absurd h4 (by simp)
 | some x=>
  obtain⟨hid1,_,hr1,hr2,_,hplc⟩:=hI.ent hid
  refine Qm func45 U ntmps45 U ?_
  refine Qd (Qa (Qe U U (Qf (Qc (Qd (Qa (Qb U U (Qj U U (Qg U XI U (Qr U Zs (hS.cell 0 U U) U (Qb U U (Ww (k:=id) 1 hS keysInt underlying108 U U U XO (u:=(.agg #[intV x.refs,intV x.place,intV x.at_,strV (KW x)])) (g:=true) (J7 hid) (Hg hid) U (Qb U U (Qn U U U (Qn U U U (Xa hS XO U U ?_))))))))))))))))
  intro b1 w1 j1
  (refine QG j1 U U Yi U (by rfl) (i:=0) U (by decide) ?_)
  intro w2 j3; dsimp only[List.set]at j3
  refine Qe U U (Qf (Qc (Qh [3,2,1,0,8,9,10] U (Qd (Qw (Qd (Qa (Qb U U (Xb U U (Qb U U (Zl 25 U (fun h4=> ?_) (fun h4=> ?_))))))))))))
  ·exact absurd h4 (by simp)
  refine Qi U U h4 U (Qi U U h4 U (QW U h4 U U (Qe U U (Qf (Qc (Qh [3,2,1,0,8,9,22] U (QR U (Qd (Qa (Qb U U (Xq U U U (Qb U U (Xc 32 U (fun h5=> ?_) (fun h5=> ?_))))))))))))))
  ·exact absurd h5 (by omega)
  refine Qo U U (Q7 h5) (Qg U JD U (Qo U U (Q7 h5) (Qr U QL (j3.cell 0 U U) U (Qo U U (Q7 h5) (YF U U U (QW U (Q7 h5) U U (Qe U U (Qf (Qc (Qh [3,2,1,0,8,29] U (Qt U (fun h6=> ?_) (fun h6=> ?_))))))))))))
  ·exact Qd (Qa (Qe U U (Qf (Qc (Qu (Qz (Qp (QY (.inr U) U U (⟨_,rfl,.inl ⟨_,rfl, by decide, by first | exact .inl U | (exact .inr (.inl ⟨x,rfl, by omega⟩)) | (exact .inr (.inr (.inl (by omega)))) | (exact .inr (.inr (.inr (.inl (by omega))))),Xh (j3.pick [1,2,3,4,5,6,7,8,9] U)⟩⟩)))))))))
  refine Qd (Qa (Qb U U (Xk U U U (Qb U U (Xc 40 U (fun h7=> ?_) (fun h7=> ?_))))))
  ·exact Qi U U (Xm h7) U (Qi U U (Xm h7) U (QK U (Xm h7) U U (Qe U U (Qf (Qc (Qh [3,2,1,0,8,37] U (Xd U (Qd (Qa (Qe U U (Qf (Qc (Qu (Qz (Qp (QY (.inr U) U U (⟨_,rfl,.inl ⟨_,rfl, by decide, by first | exact .inl U | (exact .inr (.inl ⟨x,rfl, by omega⟩)) | (exact .inr (.inr (.inl (by omega)))) | (exact .inr (.inr (.inr (.inl (by omega))))),Xh (j3.pick [1,2,3,4,5,6,7,8,9] U)⟩⟩)))))))))))))))))
  refine Qo U U (Q7 h7) (Qb U U (Qo U U (Q7 h7) (Jf U U U (QW U (Q7 h7) U U (Qe U U (Qf (Qc (Qh [3,2,1,0,8,37] U (Qt U (fun h8=> ?_) (fun h8=> ?_))))))))))
  ·exact Qd (Qa (Qe U U (Qf (Qc (Qu (Qz (Qp (QY (.inr U) U U (⟨_,rfl,.inl ⟨_,rfl, by decide, by first | exact .inl U | (exact .inr (.inl ⟨x,rfl, by omega⟩)) | (exact .inr (.inr (.inl (by omega)))) | (exact .inr (.inr (.inr (.inl (by omega))))),Xh (j3.pick [1,2,3,4,5,6,7,8,9] U)⟩⟩)))))))))
  refine Qs (Qk (Qc (Qd (Qa (Qb U U (Qb U U ?_))))))
  have j9:=Xh (j3.pick [1,2,3,4,5,6,7,8,9] U)
  have hbr:= fun {w F} (hC:Sat w [Yr p S,F])=>P0 hC hI hN id
  simp only[hid]at hbr
  refine Zc cal_107 U (hbr (j9.sp [0] U)) U ?_
  rintro e w10 ⟨_,rfl,(⟨hp1,rfl,j10⟩ | ⟨k,S2,hp1,rfl,hB,j10⟩ | ⟨hp2,rfl,hall,hfull,j10⟩)⟩
  ·refine⟨_,U, ?_⟩
   replace j10:=j10.jn U U
   refine Qb U U (Qn U U U (Qn U U U (Qe U U (Qe U U (Qf (Qc (Qh [3,2,0,8,11,12] U (Qd (Qd (Qa (Qb U U (XC U U U (Qf (Qc (Qt U (fun h11=> ?_) (fun h11=> ?_))))))))))))))))
   ·exact absurd U h11
   refine Qs (Qc (Qd ?_))
   obtain⟨ba,bi,fp,sp,kp,ac,cc,at2,ct,hSo12⟩:=Zf (j10.pick [0,1] rfl)
   refine Qa (Qb U U (Qj U U (Qg U W2 U (Qr U YC (hSo12.cell 0 U U) U (Qb U U (Qb U U (Qb U U ?_)))))))
   have hfr:=hI.frc (fun q=>q) hid hp1
   refine Zc FF U (Nv (hSo12.sp [4] U) x.at_ at_ b) U ?_
   rintro e w13 ⟨_,rfl,(⟨hbad,j13⟩ | ⟨rfl,cb,hcb,hrng,j13⟩)⟩
   ·exfalso; rw[hfr]at hbad; simp at hbad;omega
   refine⟨_,U, ?_⟩
   replace j13:=j13.jn U U
   clear hSo12
   refine Qe U U (Qf (Qc (Qh [8] U (Qu (QY (.inr U) U U ?_)))))
   obtain rfl:x.pg=cb:= by rw[hfr]at hcb; cases hcb;rfl
   have hz:=j13.pick [1,2,3,4,0,5,6,7,8] U
   rw[←FQ (pg:=x.pg.set at_.toNat b) hid hp1]at hz
   exact⟨_,rfl,.inr ⟨x,_,rfl,rfl,hrng,AB (x:=x) (pg:=x.pg.set at_.toNat b) (hI.mono (Nat.le_add_right N 1)) (ShF.refl S) U hid hp1 U (by rw[List.length_set]; exact(hI.ent hid).2.2.2.2.1),Xh (S:=setP S id x (x.pg.set at_.toNat b)) hz⟩⟩
  ·refine⟨_,U, ?_⟩
   replace j10:=j10.jn U U
   refine Qb U U (Qn U U U (Qn U U U (Qe U U (Qe U U (Qf (Qc (Qh [3,2,0,8,11,12] U (Qd (Qd (Qa (Qb U U (XC U U U (Qf (Qc (Qt U (fun h14=> ?_) (fun h14=> ?_))))))))))))))))
   ·exact absurd U h14
   refine Qs (Qc (Qd ?_))
   obtain⟨ba,bi,fp,sp,kp,ac,cc,at2,ct,hSo15⟩:=Zf (j10.pick [0,1] rfl)
   refine Qa (Qb U U (Qj U U (Qg U W2 U (Qr U YC (hSo15.cell 0 U U) U (Qb U U (Qb U U (Qb U U ?_)))))))
   have hfr:=hB.inv.frc (fun q=>q) hB.is U
   dsimp only at hfr
   refine Zc FF U (Nv (hSo15.sp [4] U) (k:Int) at_ b) U ?_
   rintro e w16 ⟨_,rfl,(⟨hbad,j16⟩ | ⟨rfl,cb,hcb,hrng,j16⟩)⟩
   ·exfalso; rw[hfr]at hbad; simp at hbad;omega
   refine⟨_,U, ?_⟩
   replace j16:=j16.jn U U
   clear hSo15
   refine Qe U U (Qf (Qc (Qh [8] U (Qu (QY (.inr U) U U ?_)))))
   obtain rfl:x.pg=cb:= by rw[hfr]at hcb; cases hcb;rfl
   have hz:=j16.pick [1,2,3,4,0,5,6,7,8] U
   rw[←FQ (pg:=x.pg.set at_.toNat b) hB.is U]at hz
   exact⟨_,rfl,.inr ⟨x,_,rfl,rfl,hrng,AB (x:=x) (pg:=x.pg.set at_.toNat b) hB.inv hB.go.f hB.go.vw hB.is U U (by rw[List.length_set]; exact(hI.ent hid).2.2.2.2.1),Xh (S:=setP S2 id ⟨x.refs,1,(k:Nat),x.pg⟩ (x.pg.set at_.toNat b)) hz⟩⟩
  refine⟨_,U, ?_⟩
  replace j10:=j10.jn U U
  refine Qb U U (Qn U U U (Qn U U U (Qe U U (Qe U U (Qf (Qc (Qh [3,2,0,8,11,12] U (Qd (Qd (Qa (Qb U U (XC U U U (Qf (Qc (Qt U (fun h17=> ?_) (fun h17=> ?_))))))))))))))))
  ·exact Qd (Qa (Qb U U (Qe U U (Qf (Qc (Qu (Qp (QY (.inr U) U U (⟨_,rfl,.inl ⟨_,rfl, by decide, by(exact .inr (.inr (.inr (.inr hall)))),j10.pick [0,1] U⟩⟩)))))))))
  exact absurd (by decide) h17
end Go.Proofs.YtkcjfoaejijdoaaGreatDoor
namespace Go.Proofs.YtkcjfoaejijdoaaGreatDoor.M
open Go.RowKit Proofs.Tryz
section
variable {κ:Type} {β:Type}
open Classical in
noncomputable def Xu (f:κ→Option β) (k:κ) (v:Option β):κ→Option β:= fun j=> if j=k then v else f j
theorem Qy {f:κ→Option β} {k:κ} {v:Option β}:Xu f k v k=v:= by simp [Xu]
theorem QF {f:κ→Option β} {k j:κ} {v:Option β} (h:j≠k):Xu f k v j=f j:= by simp [Xu,h]
theorem J0 {f:κ→Option β} {k:κ} {u v:Option β}:Xu (Xu f k u) k v=Xu f k v:= by
  funext j
  by_cases h:j=k
  · subst h; rw[Qy,Qy]
  · rw[QF h,QF h,QF h]
theorem WU {f:κ→Option β} {k:κ} {v:Option β} (h:f k=v):Xu f k v=f:= by
  funext j
  by_cases e:j=k
  · subst e; rw[Qy,h]
  · rw[QF e]
def Sy (o:Option Th):Th:=o.getD empT
def NX (h:κ→Option Th):Th:=Cw fun L:List κ=>starL [Yc (L.Nodup∧ ∀k,k∈L↔h k≠none),starL (L.map fun k=>Sy (h k))]
section
variable {w:World} {As:List Th} {h:κ→Option Th} {k:κ} {A:Th}
theorem Sat.second {A X Y:Th} {As:List Th} (f: ∀{Bs:List Th},Sat w (X::Bs)→Sat w (Y::Bs)) (hS:Sat w (A::X::As)):Sat w (A::Y::As):=
  (f (hS.perm (List.Perm.swap _ _ _))).perm (List.Perm.swap _ _ _)
theorem Tl (hS:Sat w (NX h::As)): ∃L:List κ,(L.Nodup∧ ∀k,k∈L↔h k≠none)∧Sat w (starL (L.map fun k=>Sy (h k))::As):= by
  obtain⟨L,hL⟩:=hS.ex
  exact⟨L,hL.flat.pure_elim⟩
theorem GU {L:List κ} (hL:L.Nodup∧ ∀k,k∈L↔h k≠none) (hS:Sat w (starL (L.map fun k=>Sy (h k))::As)):Sat w (NX h::As):=
  Sat.ex_intro (f:= fun L:List κ=>starL [Yc (L.Nodup∧ ∀k,k∈L↔h k≠none),starL (L.map fun k=>Sy (h k))]) L (Sat.fold (As:=[Yc (L.Nodup∧ ∀k,k∈L↔h k≠none),starL (L.map fun k=>Sy (h k))]) (Sat.pure_intro hL hS))
theorem Sat.emp_intro (hS:Sat w As):Sat w (starL []::As):=Sat.fold (As:=[]) hS
theorem EB (hS:Sat w As):Sat w (NX (fun _:κ=>none)::As):=GU (L:=[]) ⟨List.nodup_nil, fun k=> by simp⟩ hS.emp_intro
theorem qae (hS:Sat w (NX h::As)) (hk:h k=some A):Sat w (A::NX (Xu h k none)::As):= by
  obtain⟨L,⟨hn,hm⟩,h1⟩:=Tl hS
  have hkm:k∈L:=(hm k).2 (by rw[hk]; simp)
  obtain⟨L1,L2,rfl⟩:=List.append_of_mem hkm
  have hp:(L1++k::L2).Perm (k::(L1++L2)):=List.perm_middle
  have hn':=hp.nodup_iff.1 hn
  obtain⟨hk1,hn2⟩:=List.nodup_cons.1 hn'
  have h2:=qad h1 (hp.map _)
  have h3:=big_out (Xs:=(k::(L1++L2)).map fun k=>Sy (h k)) (i:=0) h2 U
  have e1:Sy (h k)=A:= by rw[hk];rfl
  replace h3:Sat w (Sy (h k)::starL (((k::(L1++L2)).map fun k=>Sy (h k)).eraseIdx 0)::As):=h3
  rw[e1]at h3
  have e2:(((k::(L1++L2)).map fun k=>Sy (h k)).eraseIdx 0)=(L1++L2).map fun j=>Sy (Xu h k none j):= by
    show(L1++L2).map (fun k=>Sy (h k))=_
    refine List.map_congr_left fun j hj=> ?_
    rw[QF]
    intro q; subst q; exact hk1 hj
  rw[e2]at h3
  refine Sat.second (fun {Bs} g=>GU ⟨hn2, fun j=> ?_⟩ g) h3
  by_cases hj:j=k
  · subst hj
    rw[Qy]
    exact⟨fun q=>absurd q hk1, fun q=>absurd U q⟩
  · rw[QF hj,←hm j,hp.mem_iff,List.mem_cons]
    exact⟨fun q=> .inr q, fun q=>q.resolve_left hj⟩
theorem FJ (hS:Sat w (A::NX h::As)) (hk:h k=none):Sat w (NX (Xu h k (some A))::As):= by
  obtain⟨L,⟨hn,hm⟩,h1⟩:=Tl (hS.perm (List.Perm.swap _ _ _))
  have hkm:k∉L:= fun q=>(hm k).1 q hk
  have h2:=big_in (i:=0) (h1.perm (List.Perm.swap _ _ _))
  refine GU (L:=k::L) ⟨List.nodup_cons.2 ⟨hkm,hn⟩, fun j=> ?_⟩ ?_
  · rw[List.mem_cons]
    by_cases hj:j=k
    · subst hj
      rw[Qy]; simp
    · rw[QF hj,←hm j]
      exact⟨fun q=>q.resolve_left hj, fun q=> .inr q⟩
  · rw[List.map_cons,Qy]
    have e:(L.map fun j=>Sy (Xu h k (some A) j))=L.map fun j=>Sy (h j):=List.map_congr_left fun j hj=> by
      rw[QF]
      intro q; subst q; exact hkm hj
    rw[e]
    exact h2
end
def X0 {α:Type} (ad:α→Nat) (f:κ→Option α):κ→Option Value:= fun k=>(f k).map fun x=>ptrV (ad x) 0
theorem XY {α:Type} {ad:α→Nat} {f:κ→Option α} {k:κ} {x:α} {z:Value} (h:f k=some x):(X0 ad f k).getD z=ptrV (ad x) 0:= by unfold X0; rw[h];rfl
theorem Ur {α:Type} {ad:α→Nat} {f:κ→Option α} {k:κ} {z:Value} (h:f k=none):(X0 ad f k).getD z=z:= by unfold X0; rw[h];rfl
theorem CW {α:Type} {ad:α→Nat} {f:κ→Option α} {k:κ} {x:α}:upd (X0 ad f) k (some (ptrV (ad x) 0))=X0 ad (Xu f k (some x)):= by
  funext j
  by_cases h:j=k
  · subst h; rw[Ws];unfold X0; rw[Qy];rfl
  · rw[Jy h];unfold X0; rw[QF h]
theorem CX {α:Type} {ad:α→Nat} {f:κ→Option α} {k:κ}:upd (X0 ad f) k none=X0 ad (Xu f k none):= by
  funext j
  by_cases h:j=k
  · subst h; rw[Ws];unfold X0; rw[Qy];rfl
  · rw[Jy h];unfold X0; rw[QF h]
theorem JN {α:Type} {ad:α→Nat} {f:κ→Option α} {k:κ} {x y:α} (h:f k=some x) (hy:ad y=ad x):X0 ad (Xu f k (some y))=X0 ad f:= by
  funext j
  by_cases e:j=k
  · subst e;unfold X0; rw[Qy,h]; simp [hy]
  · unfold X0; rw[QF e]
end
def Xr (k:Bs×Int):Value:= .agg #[strV k.1,intV k.2]
theorem Dq {P:Program} {t:TypeId} (hu:P.underlying t=some .string) (cs:Array Value) (off:Nat) (v:Value) (hv:cs[off]? =some v) (w:World):(part t cs off).run P w= .ok v w:= by
  simp [part,isAgg,run_underlying hu,hv]
theorem Bq {P:Program} {t:TypeId} (hu:P.underlying t=some .string) (n:Nat) (a b:Bs) (w:World):(Op.equalIn (n+1) t (strV a) (strV b)).run P w= .ok (decide (a=b)) w:= by
  unfold Op.equalIn
  simp only[Sem.run_bind,run_underlying hu,Result.andThen,strV]
  simp
  rw[Bool.eq_iff_iff]
  show(a.toArray==b.toArray)=true↔_
  simp
theorem OI {P:Program} {kt t0 t1:TypeId} {f0 f1:Field} (hu:P.underlying kt=some (.struct #[f0,f1])) (hs:P.stoodInHeld kt=false) (hs0:P.underlying t0=some .string) (ht:P.underlying t1=some (.int .i64))
    (h0 : f0.type = t0) (h1 : f1.type = t1) (o0 : f0.offset = 0) (o1 : f1.offset = 1) (n0 : f0.name ≠ "_") (n1 : f1.name ≠ "_") : KeyOk P kt Xr where
  inj:= by rintro⟨a,b⟩ ⟨c,d⟩ h;simpa [Xr,strV,intV]using h
  bits:= fun a=> by
    simp [Xr,strV,intV,Instr.sameBits]
    show(a.1.toArray==a.1.toArray)=true
    simp
  check:= fun e a w=> by
    unfold Instr.checkKey
    simp only[Sem.run_bind,run_underlying hu,Result.andThen,Xr]
    have c: ∀x:Int,(Instr.checkKey e 9999 t1 (intV x)).run P w= .ok () w:= fun x=>MapKept.run_checkKey ht (by simp [MapKept.IsKey,intV]) e 9998
    have c0: ∀x:Bs,(Instr.checkKey e 9999 t0 (strV x)).run P w= .ok () w:= fun x=>MapKept.run_checkKey hs0 (by simp [MapKept.IsKey,strV]) e 9998
    simp [n0,n1,h0,h1,o0,o1,ME ht,Dq hs0,c,c0]
  find:= fun a l w h=> by
    have eq: ∀b:Bs×Int,(Op.equal kt (Xr a) (Xr b)).run P w= .ok (decide (a=b)) w:= by
      intro b
      have c: ∀x y:Int,(Op.equalIn 9999 t1 (intV x) (intV y)).run P w= .ok (x==y) w:= fun x y=>Br ht 9998 x y w
      have c0: ∀x y:Bs,(Op.equalIn 9999 t0 (strV x) (strV y)).run P w= .ok (decide (x=y)) w:= fun x y=>Bq hs0 9998 x y w
      unfold Op.equal Op.maxDepth Op.equalIn
      simp only[Sem.run_bind,run_underlying hu,Result.andThen,Xr]
      obtain⟨a1,a2⟩:=a
      obtain⟨b1,b2⟩:=b
      by_cases e1:a1=b1<;>by_cases e2:a2=b2<;> simp [hs,n0,n1,h0,h1,o0,o1,ME ht,Dq hs0,c,c0,e1,e2]
    have ask: ∀(l:List MapEntry) (i:Nat),(∀x∈l,∃b,x.key=Xr b)→
        (∃j x,l[j]? =some x∧x.key=Xr a∧(Instr.findAsking kt (Xr a) l i).run P w= .ok (some (i+j,x.val)) w)∨((∀x∈l,x.key≠Xr a)∧(Instr.findAsking kt (Xr a) l i).run P w= .ok none w):= by
      intro l
      induction l with
      | nil=> intro i _; exact .inr ⟨by simp, by simp [Instr.findAsking]⟩
      | cons e es ih=>
        intro i hl
        obtain⟨b,hb⟩:=hl e (by simp)
        by_cases hab:a=b
        · refine .inl ⟨0,e,rfl, by rw[hb,hab], ?_⟩
          subst hab
          simp [Instr.findAsking,hb,eq]
        · have hne:e.key≠Xr a:= by
            rw[hb]; intro q; apply hab
            obtain⟨a1,a2⟩:=a
            obtain⟨b1,b2⟩:=b
            simp [Xr,strV,intV]at q⊢; exact⟨q.1.symm,q.2.symm⟩
          rcases ih (i+1) (fun x hx=>hl x (by simp [hx]))with⟨j,x,h1,h2,h3⟩ | ⟨h1,h2⟩
          · refine .inl ⟨j+1,x, by simpa using h1,h2, ?_⟩
            simp [Instr.findAsking,hb,eq,hab,h3];omega
          · refine .inr ⟨fun x hx=> ?_, ?_⟩
            · rcases List.mem_cons.1 hx with rfl | hx
              · exact hne
              · exact h1 x hx
            · simp [Instr.findAsking,hb,eq,hab,h2]
    cases l with
    | nil=> exact .inr ⟨by simp, by simp [Instr.findKey,run_underlying hu,Instr.findNow]⟩
    | cons e es=>
      obtain⟨b,hb⟩:=h e (by simp)
      have hn:Instr.findNow (.struct #[f0,f1]) (Xr a) (e::es) 0=none:= by simp [Instr.findNow,Instr.sameNow]
      have hk: ∀r,(Instr.findAsking kt (Xr a) (e::es) 0).run P w= .ok r w→(Instr.findKey kt (Xr a) (e::es)).run P w= .ok r w:= by
        intro r hr
        simp only[Instr.findKey,Sem.run_bind,run_underlying hu,Result.andThen,hn,hr]
      rcases ask (e::es) 0 h with⟨j,x,h1,h2,h3⟩ | ⟨h1,h2⟩
      · rw[Nat.zero_add]at h3
        exact .inl ⟨j,x,h1,h2,hk _ h3⟩
      · exact .inr ⟨h1,hk _ h2⟩
section
variable {P:Program} {n:Nat} {ops:Array Oper} {Q:Exit→Act→World→Prop} {rest:List Oper} {L:Env} {w:World} {d:Nat} {t t2:TypeId} {x y:Operand} {ty:TypeId} {pos:String} {aft:Array Edge}
theorem RS {e:TypeId} (hu:P.underlying t=some (.pointer e)) (hx:look L x=some (.pointer none)) (hy:look L y=some (.pointer none)):Ev P L w ⟨some d,.binOp .neq t x y t2,ty,pos,aft,none⟩ (.bool false):= fun ρ hρ=> by simp [execOp,hρ _ _ hx,hρ _ _ hy,eqGuard,binOp,B6 hu]
theorem JG {e:TypeId} (hu:P.underlying t=some (.pointer e)) (hx:look L x=some (.pointer none)) (hy:look L y=some (.pointer none)) (hd:Nat.blt d n=true) (hk:wl P n ops Q rest ((d,.bool false)::L) w):wl P n ops Q (⟨some d,.binOp .neq t x y t2,ty,pos,aft,none⟩::rest) L w:=
  X8 hd (RS hu hx hy) hk
def Z5 (b:BitVec 64):Value:= .int .u64 (b.toNat:Int)
theorem GB (b:BitVec 64):BitVec.ofInt 64 (b.toNat:Int)=b:= by
  rw[BitVec.ofInt_natCast]; simp
theorem Ow (b:BitVec 64):(b.toNat:Int)%18446744073709551616=(b.toNat:Int):= by
  have :=b.isLt
  omega
theorem Kd {a b:BitVec 64} (hx:look L x=some (Z5 a)) (hy:look L y=some (Z5 b)):Ev P L w ⟨some d,.binOp .or t x y t2,ty,pos,aft,none⟩ (Z5 (a ||| b)):= fun ρ hρ=> by
  simp only[execOp,hρ _ _ hx,hρ _ _ hy,Z5,binOp,Op.intBits,IntKind.bits,eqGuard,GB]
  simp [IntKind.wrap,IntKind.signed,IntKind.bits, -BitVec.toNat_or]
  exact Ow _
theorem Su {a b:BitVec 64} (hx:look L x=some (Z5 a)) (hy:look L y=some (Z5 b)) (hd:Nat.blt d n=true) (hk:wl P n ops Q rest ((d,Z5 (a ||| b))::L) w):wl P n ops Q (⟨some d,.binOp .or t x y t2,ty,pos,aft,none⟩::rest) L w:=X8 hd (Kd hx hy) hk
theorem Il {a b:BitVec 64} (hx:look L x=some (Z5 a)) (hy:look L y=some (Z5 b)):Ev P L w ⟨some d,.binOp .and t x y t2,ty,pos,aft,none⟩ (Z5 (a&&&b)):= fun ρ hρ=> by
  simp only[execOp,hρ _ _ hx,hρ _ _ hy,Z5,binOp,Op.intBits,IntKind.bits,eqGuard,GB]
  simp [IntKind.wrap,IntKind.signed,IntKind.bits, -BitVec.toNat_and]
  exact Ow _
theorem BT {a b:BitVec 64} (hx:look L x=some (Z5 a)) (hy:look L y=some (Z5 b)) (hd:Nat.blt d n=true) (hk:wl P n ops Q rest ((d,Z5 (a&&&b))::L) w):wl P n ops Q (⟨some d,.binOp .and t x y t2,ty,pos,aft,none⟩::rest) L w:=X8 hd (Il hx hy) hk
theorem Ub {a b:BitVec 64} (hx:look L x=some (Z5 a)) (hy:look L y=some (Z5 b)):Ev P L w ⟨some d,.binOp .andNot t x y t2,ty,pos,aft,none⟩ (Z5 (a&&& ~~~b)):= fun ρ hρ=> by
  simp only[execOp,hρ _ _ hx,hρ _ _ hy,Z5,binOp,Op.intBits,IntKind.bits,eqGuard,GB]
  simp [IntKind.wrap,IntKind.signed,IntKind.bits, -BitVec.toNat_and]
  exact Ow _
theorem Ik {yk:IntKind} (m:Nat) (hx:look L x=some (.int .u64 1)) (hy:look L y=some (.int yk (m:Int))) (hm:m<64):Ev P L w ⟨some d,.binOp .shl t x y t2,ty,pos,aft,none⟩ (Z5 (1#64<<<m)):= fun ρ hρ=> by
  have h0: ¬((m:Int)<0):= by omega
  have e:IntKind.u64.wrap (1*2^(min m 64))=((1#64<<<m).toNat:Int):= by
    rw[Nat.min_eq_left (by omega),Int.one_mul]
    have h1:(2:Int)^m=((2^m:Nat):Int):= by simp
    rw[h1]
    have h2:2^m<2^64:=Nat.pow_lt_pow_right (by decide) hm
    simp [IntKind.wrap,IntKind.signed,IntKind.bits,BitVec.toNat_shiftLeft,Nat.shiftLeft_eq]
  simp only[execOp,hρ _ _ hx,hρ _ _ hy,binOp,Op.shift,IntKind.bits,eqGuard,h0,if_false,Int.toNat_natCast,e,Z5]
  simp
theorem Ih {yk:IntKind} {a:BitVec 64} (m:Nat) (hx:look L x=some (Z5 a)) (hy:look L y=some (.int yk (m:Int))) (hm:m≤64):Ev P L w ⟨some d,.binOp .shr t x y t2,ty,pos,aft,none⟩ (Z5 (a>>>m)):= fun ρ hρ=> by
  have h0: ¬((m:Int)<0):= by omega
  have e:(a.toNat:Int).fdiv (2^(min m 64))=((a>>>m).toNat:Int):= by
    rw[Nat.min_eq_left hm,Int.fdiv_eq_ediv_of_nonneg _ (Int.le_of_lt (Int.pow_pos (by decide))),BitVec.toNat_ushiftRight,Nat.shiftRight_eq_div_pow]
    simp
  simp only[execOp,hρ _ _ hx,hρ _ _ hy,Z5,binOp,Op.shift,IntKind.bits,eqGuard,h0,if_false,Int.toNat_natCast,e]
  simp
theorem C0 {yk:IntKind} {a:BitVec 64} (m:Nat) (hx:look L x=some (Z5 a)) (hy:look L y=some (.int yk (m:Int))) (hm:m≤64) (hd:Nat.blt d n=true) (hk:wl P n ops Q rest ((d,Z5 (a>>>m))::L) w):wl P n ops Q (⟨some d,.binOp .shr t x y t2,ty,pos,aft,none⟩::rest) L w:=X8 hd (Ih m hx hy hm) hk
end
section
variable {P:Program} {n:Nat} {ops:Array Oper} {Q:Exit→Act→World→Prop} {rest:List Oper} {L:Env} {w:World} {d:Nat} {ty:TypeId} {pos:String} {aft:Array Edge}
theorem Mz {t:Nat} {parts:List (Nat×Operand)} {vs vs':List Value} {pls:List (Nat×Nat)} {z:List Value} (hx:Jd L (parts.map (·.2))=some vs) (hp:Z4 P t (parts.map (·.1))=some pls) (ha:He P t=true) (hz:Zt P t=some (some (.agg z.toArray))) (hok:JY z.length pls vs=true) (hd:Nat.blt d n=true) (he:Hp z pls vs=vs') (hk:wl P n ops Q rest ((d,.agg vs'.toArray)::L) w):wl P n ops Q (⟨some d,.build t parts.toArray,ty,pos,aft,none⟩::rest) L w:= by
  subst he; exact Zo hx hp ha hz hok hd hk
end
end Go.Proofs.YtkcjfoaejijdoaaGreatDoor.M
namespace Go.Proofs.YtkcjfoaejijdoaaGreatDoor
open Go.RowKit M Proofs.Tryz
abbrev VS:=Int→Option (Int×Bs)
noncomputable def Hv (V:VS) (j:Int):VS:= match V j with | none=>V | some x=>Xu V j (some (x.1+1,x.2))
noncomputable def Zj (V:VS) (j:Int):VS:= match V j with | none=>V | some x=> if 1<x.1 then Xu V j (some (x.1 -1,x.2))else Xu V j none
def Zm (V:VS) (j:Int):Int:= match V j with | none=>0 | some x=>x.1
def XH (V:VS) (j:Int):Bs:= match V j with | none=> if j=0 then zer else[] | some x=>x.2
def btV (V:VS) (j a:Int):UInt8:= if 0≤a∧a<64 then(XH V j).getD a.toNat 0 else 0
def H3 (V:VS) (n:Nat):Prop:= ∃l:List Int,l.length=n∧l.Nodup∧ ∀j∈l,V j≠none
theorem Gs {β:Type} (A:Int→Option β) (j:Int) (v:Option β):up A j v=Xu A j v:= by
  funext i
  by_cases h:i=j
  · subst h; rw[Ze,Qy]
  · rw[Zv h,QF h]
structure SlW where
  v:Nat
variable [Inhabited SlW]
def qas (S:SS) (F:Nat):Prop:=S.fr.length=F∧S.slots=((default:SlW).v:Int)
def XD (p n F:Nat) (V:VS):Th:=Cw fun S:SS=>starL [Yc (ShI Kp n S∧vw S=V∧qas S F),Yr p S]
theorem WH {w:World} {p n F:Nat} {V:VS} {As:List Th} (h:Sat w (XD p n F V::As)): ∃S,ShI Kp n S∧vw S=V∧qas S F∧Sat w (Yr p S::As):= by
  obtain⟨S,h⟩:=h.ex
  obtain⟨⟨a,b,c⟩,h⟩:=h.flat.pure_elim
  exact⟨S,a,b,c,h⟩
theorem Z9 {w:World} {p n F:Nat} {V:VS} {S:SS} {As:List Th} (hI:ShI Kp n S) (hV:vw S=V) (hF:qas S F) (h:Sat w (Yr p S::As)):Sat w (XD p n F V::As):=
  Sat.ex_intro (f:= fun S:SS=>starL [Yc (ShI Kp n S∧vw S=V∧qas S F),Yr p S]) S (Sat.fold (As:=[Yc (ShI Kp n S∧vw S=V∧qas S F),Yr p S]) (Sat.pure_intro ⟨hI,hV,hF⟩ h))
theorem Xn {w:World} {p n m F:Nat} {V:VS} {As:List Th} (hm:n≤m) (h:Sat w (XD p n F V::As)):Sat w (XD p m F V::As):= by
  obtain⟨S,a,b,c,h⟩:=WH h
  exact Z9 (a.mono hm) b c h
theorem Ht {S:SS} {j:Int} (h:S.all j=none):vw S j=none:= by unfold vw; rw[h];rfl
theorem HU {S:SS} {j:Int} {x:ShE} (h:S.all j=some x):vw S j=some (x.refs,x.pg):= by unfold vw; rw[h];rfl
theorem Ob (S:SS) (j:Int):YZ S j=XH (vw S) j:= by
  unfold YZ XH
  cases h:S.all j with
  | none=> rw[Ht h]
  | some x=> rw[HU h]
theorem Sd {n:Nat} {Q:Nat→Int→Prop} (h: ∀i,i<n→ ∃j,Q i j): ∃f:Nat→Int,∀i,i<n→Q i (f i):= by
  classical
  exact⟨fun i=> if hi:i<n then Classical.choose (h i hi)else 0, fun i hi=> by dsimp only; rw[dif_pos hi]; exact Classical.choose_spec (h i hi)⟩
theorem KU {n:Nat} {S:SS} (hI:ShI Kp n S) (hf: ∀o∈S.fr,o≠none):H3 (vw S) S.fr.length:= by
  have hex: ∀i,i<S.fr.length→ ∃j:Int,S.inn (i:Nat)=some j∧S.all j≠none:= by
    intro i hi
    obtain⟨b,hb⟩: ∃b,S.fr[i]? =some (some b):= by
      have h1:=hf _ (List.getElem_mem hi)
      cases hq:S.fr[i]with
      | none=> exact absurd hq h1
      | some b=> exact⟨b, by rw[Zq hi,hq]⟩
    have h2:Wl S.fr (i:Nat)=some b:= by unfold Wl; rw[if_pos (by omega),Int.toNat_natCast,hb]
    have h3:=hI.fru h2
    cases hq:S.inn (i:Nat)with
    | none=> exact absurd hq h3
    | some j=>
      obtain⟨_,x,hx,_⟩:=(hI.frm _ _).1 hq
      exact⟨j,rfl, by rw[hx]; simp⟩
  obtain⟨f,hf2⟩:=Sd (n:=S.fr.length) hex
  refine⟨(List.range S.fr.length).map f, by simp, ?_, fun j hj=> ?_⟩
  · unfold List.Nodup
    rw[List.pairwise_map]
    refine List.Pairwise.imp_of_mem (fun {a b} ha hb hne e=> ?_) (List.nodup_range)
    have ha':=List.mem_range.1 ha
    have hb':=List.mem_range.1 hb
    have h1:=(hf2 a ha').1
    have h2:=(hf2 b hb').1
    rw[e]at h1
    obtain⟨_,x,hx,hp,hat⟩:=(hI.frm _ _).1 h1
    obtain⟨_,y,hy,hq,hbt⟩:=(hI.frm _ _).1 h2
    rw[hx]at hy; cases hy
    omega
  · obtain⟨i,hi,rfl⟩:=List.mem_map.1 hj
    have :=(hf2 i (List.mem_range.1 hi)).2
    intro q
    apply this
    unfold vw at q
    simpa using q
theorem De {w:World} {p n F:Nat} {V:VS} {X:Th} (hS:Sat w [XD p n F V,X]) (hn:n≤80000000000) (id:Int):
    Calls prog 102 #[ptrV p 0,intV id] w (Ret fun v w'=> ∃e,v=intV e∧Sat w' [XD p (n+1) F (Hv V id),X]):= by
  obtain⟨S,hI,rfl,hF,hS⟩:=WH hS
  refine(Au hS hI hn id).mono fun e w h=>h.mono fun v w h=> ?_
  cases hid:S.all id with
  | none=>
    rw[hid]at h
    have e:Hv (vw S) id=vw S:= by unfold Hv; rw[Ht hid]
    rw[e]
    by_cases q:id=0
    · exact⟨0, by rw[h.1,if_pos q],Xn (by omega) (Z9 hI U hF h.2)⟩
    · exact⟨4, by rw[h.1,if_neg q],Xn (by omega) (Z9 hI U hF h.2)⟩
  | some x=>
    rw[hid]at h
    have hr:=(hI.ent hid).2.2
    obtain⟨a,b,c⟩:=S7 (r:=x.refs+1) hI hid ⟨by omega, by omega⟩
    refine⟨0,h.1,Z9 a ?_ ⟨b.frn.trans hF.1,b.slo.trans hF.2⟩ h.2⟩
    rw[c,Gs];unfold Hv; rw[HU hid]
theorem Rq {w:World} {p n F:Nat} {V:VS} {X:Th} (hS:Sat w [XD p n F V,X]) (hn:n≤80000000000) (id:Int):
    Calls prog 104 #[ptrV p 0,intV id] w (Ret fun v w'=> ∃e,v=intV e∧Sat w' [XD p (n+1) F (Zj V id),X]):= by
  obtain⟨S,hI,rfl,hF,hS⟩:=WH hS
  refine(Pz hS hI hn id).mono fun e w h=>h.mono fun v w h=> ?_
  cases hid:S.all id with
  | none=>
    rw[hid]at h
    have e:Zj (vw S) id=vw S:= by unfold Zj; rw[Ht hid]
    rw[e]
    by_cases q:id=0
    · exact⟨0, by rw[h.1,if_pos q],Xn (by omega) (Z9 hI U hF h.2)⟩
    · exact⟨4, by rw[h.1,if_neg q],Xn (by omega) (Z9 hI U hF h.2)⟩
  | some x=>
    rw[hid]at h
    have hr:=(hI.ent hid).2.2
    rcases h with⟨h1,⟨h2,h3⟩ | ⟨h2,S',h3,h4⟩⟩
    · obtain⟨a,b,c⟩:=S7 (r:=x.refs -1) hI hid ⟨by omega, by omega⟩
      refine⟨0,h1,Z9 a ?_ ⟨b.frn.trans hF.1,b.slo.trans hF.2⟩ h3⟩
      rw[c,Gs];unfold Zj; rw[HU hid]; dsimp only; rw[if_pos h2]
    · refine⟨0,h1,Z9 h3.inv ?_ ⟨h3.f.frn.trans hF.1,h3.f.slo.trans hF.2⟩ h4⟩
      rw[h3.is,Gs];unfold Zj; rw[HU hid]; dsimp only; rw[if_neg (by omega)]
theorem Gx {w:World} {p n F:Nat} {V:VS} {X:Th} (hS:Sat w [XD p n F V,X]) (id:Int):
    Calls prog 23 #[ptrV p 0,intV id] w (Ret fun v w'=>v=intV (Zm V id)∧Sat w' [XD p n F V,X]):= by
  obtain⟨S,hI,rfl,hF,hS⟩:=WH hS
  refine(Lq hS id).mono fun e w h=>h.mono fun v w h=> ?_
  refine⟨?_,Z9 hI U hF h.2⟩
  rw[h.1];unfold Zm
  cases hid:S.all id with
  | none=> rw[Ht hid]
  | some x=> rw[HU hid]
theorem WX {w:World} {p n F:Nat} {V:VS} {X:Th} (hS:Sat w [XD p n F V,X]) (id:Int):
    Calls prog 34 #[ptrV p 0,intV id] w (Ret fun v w'=>v=strV (XH V id)∧Sat w' [XD p n F V,X]):= by
  obtain⟨S,hI,rfl,hF,hS⟩:=WH hS
  refine(MA hS hI id (fun q=>q)).mono fun e w h=>h.mono fun v w h=> ?_
  exact⟨by rw[h.1,Ob],Z9 hI U hF h.2⟩
theorem Am {w:World} {p n F:Nat} {V:VS} {X:Th} (hS:Sat w [XD p n F V,X]) (hn:n≤80000000000) (id a:Int):
    Calls prog 47 #[ptrV p 0,intV id,intV a] w (Ret fun v w'=>v=WA (btV V id a)∧Sat w' [XD p n F V,X]):= by
  obtain⟨S,hI,rfl,hF,hS⟩:=WH hS
  refine(Lx hS hI hn id a).mono fun e w h=>h.mono fun v w h=> ?_
  exact⟨by rw[h.1];unfold Ly btV; rw[Ob],Z9 hI U hF h.2⟩
theorem B4 {w:World} {p n F:Nat} {V:VS} {X:Th} (hS:Sat w [XD p n F V,X]) (hn:n≤80000000000) {pg:Bs} (hpg:pg.length=64):
    Calls prog 105 #[ptrV p 0,strV pg] w (Ret fun v w'=>(v= .tuple #[intV 0,intV 6]∧H3 V F∧Sat w' [XD p (n+1) F V,X])∨(∃id,v= .tuple #[intV id,intV 0]∧1≤id∧V id=none∧Sat w' [XD p (n+1) F (Xu V id (some (1,pg))),X])):= by
  obtain⟨S,hI,rfl,hF,hS⟩:=WH hS
  refine(Dh hS hI hn hpg).mono fun e w h=>h.mono fun v w h=> ?_
  rcases h with⟨h1,h2,h3,h4⟩ | ⟨h1,S',h2,h3⟩
  · exact .inl ⟨h1, by rw[←hF.1]; exact KU hI h2,Xn (by omega) (Z9 hI U hF h4)⟩
  · exact .inr ⟨_,h1,h2.pos,Ht h2.was,Z9 h2.inv (by rw[h2.is,Gs]) ⟨h2.f.frn.trans hF.1,h2.f.slo.trans hF.2⟩ h3⟩
theorem Al {w:World} {p n F:Nat} {V:VS} {X:Th} (hS:Sat w [XD p n F V,X]) (hn:n≤80000000000) {pg:Bs} (hpg:pg.length=64):
    Calls prog 115 #[ptrV p 0,strV pg] w (Ret fun v w'=>(pg=zer∧v= .tuple #[intV 0,intV 0]∧Sat w' [XD p (n+1) F V,X])∨(pg≠zer∧v= .tuple #[intV 0,intV 6]∧H3 V F∧Sat w' [XD p (n+1) F V,X])∨(∃id,pg≠zer∧v= .tuple #[intV id,intV 0]∧1≤id∧V id=none∧Sat w' [XD p (n+1) F (Xu V id (some (1,pg))),X])):= by
  obtain⟨S,hI,rfl,hF,hS⟩:=WH hS
  refine(Ls hS hI hn hpg).mono fun e w h=>h.mono fun v w h=> ?_
  rcases h with⟨h0,h1,h4⟩ | ⟨h0,⟨h1,h2,h3,h4⟩ | ⟨h1,S',h2,h3⟩⟩
  · exact .inl ⟨h0,h1,Xn (by omega) (Z9 hI U hF h4)⟩
  · exact .inr (.inl ⟨h0,h1, by rw[←hF.1]; exact KU hI h2,Xn (by omega) (Z9 hI U hF h4)⟩)
  · exact .inr (.inr ⟨_,h0,h1,h2.pos,Ht h2.was,Z9 h2.inv (by rw[h2.is,Gs]) ⟨h2.f.frn.trans hF.1,h2.f.slo.trans hF.2⟩ h3⟩)
theorem stSet {w:World} {p n F:Nat} {V:VS} {X:Th} (hS:Sat w [XD p n F V,X]) (hn:n≤80000000000) (id a:Int) (b:UInt8):
    Calls prog 45 #[ptrV p 0,intV id,intV a,WA b] w (Ret fun v w'=>(∃e,v=intV e∧e≠0∧(V id=none∨1<Zm V id∨a<0∨64≤a∨H3 V F)∧Sat w' [XD p (n+1) F V,X])∨(∃r pg,V id=some (r,pg)∧v=intV 0∧(0≤a∧a<64)∧Sat w' [XD p (n+1) F (Xu V id (some (r,pg.set a.toNat b))),X])):= by
  obtain⟨S,hI,rfl,hF,hS⟩:=WH hS
  refine(Ar hS hI hn id a b).mono fun e w h=>h.mono fun v w h=> ?_
  rcases h with⟨e,h1,h2,h3,h4⟩ | ⟨x,S',h1,h2,h3,h4,h5⟩
  · exact .inl ⟨e,h1,h2,h3.imp Ht (Or.imp (fun ⟨x,q1,q2⟩=> by unfold Zm; rw[HU q1]; exact q2) (Or.imp (fun q=>q) (Or.imp (fun q=>q) fun q=> by rw[←hF.1]; exact KU hI q))),Xn (by omega) (Z9 hI U hF h4)⟩
  · exact .inr ⟨x.refs,x.pg,HU h1,h2,h3,Z9 h4.inv (by rw[h4.is,Gs]) ⟨h4.f.frn.trans hF.1,h4.f.slo.trans hF.2⟩ h5⟩
theorem stEvict {w:World} {p n F:Nat} {V:VS} {X:Th} (hS:Sat w [XD p n F V,X]) (hn:n≤80000000000) (m:Int) (hm:n+m.toNat≤80000000000):
    Calls prog 66 #[ptrV p 0,intV m] w (Ret fun v w'=> ∃d:Nat,v=intV (d:Int)∧Sat w' [XD p (n+m.toNat) F V,X]):= by
  obtain⟨S,hI,rfl,hF,hS⟩:=WH hS
  refine(CF hS hI m hm).mono fun e w h=>h.mono fun v w h=> ?_
  obtain⟨d,S',h1,h2,h3,h4⟩:=h
  exact⟨d,h1,Z9 h2 h3.vw ⟨h3.frn.trans hF.1,h3.slo.trans hF.2⟩ h4⟩
theorem stNew {w:World} {X:Th} (hS:Sat w [X]) (count slots budget:Int) (hsl:((default:SlW).v:Int)=min (max slots 0) 4096):
    Calls prog 15 #[intV count,intV slots,intV budget] w (Ret fun v w'=> ∃p,v=ptrV p 0∧Sat w' [XD p 0 (min (max count 1) 256).toNat (fun _=>none),X]):= by
  refine(Aw hS count slots budget).mono fun e w h=>h.mono fun v w h=> ?_
  obtain⟨p,h1,h2⟩:=h
  exact⟨p,h1,Z9 (Ot count slots budget) (by funext j;rfl) ⟨by simp [Kq], by show(Kq count slots budget).slots=_; rw[hsl]; simp [Kq]⟩ h2⟩
