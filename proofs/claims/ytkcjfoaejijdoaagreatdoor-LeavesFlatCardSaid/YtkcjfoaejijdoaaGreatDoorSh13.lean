/- sheets: Set -/
import Derived.Test.YtkcjfoaejijdoaaGreatDoorSh12
import Derived.Test.YtkcjfoaejijdoaaGreatDoorRow
set_option linter.unusedVariables false
set_option maxRecDepth 100000
set_option maxHeartbeats 3200000
namespace Go.Proofs.YtkcjfoaejijdoaaGreatDoor
open Go.RowKit M
theorem ShF.trans {S S' S'':SS} (h:ShF S S') (h':ShF S' S''):ShF S S'':= by
  refine⟨?_,h'.bud.trans h.bud,h'.slo.trans h.slo,h'.frn.trans h.frn⟩
  obtain⟨L,h1,h2⟩:=h.tk
  obtain⟨L',h3,h4⟩:=h'.tk
  refine⟨L++L', by rw[h3,h1,List.append_assoc], fun j x hx hp=> ?_⟩
  rcases h2 j x hx hp with h | ⟨y,hy,hp',ha⟩
  · exact .inl (List.mem_append_left _ h)
  · rcases h4 j y hy hp' with h | ⟨z,hz,hp'',ha'⟩
    · exact .inl (List.mem_append_right _ (by rw[←ha]; exact h))
    · exact .inr ⟨z,hz,hp'',ha'.trans ha⟩
noncomputable def setP (S:SS) (id:Int) (y:ShE) (pg:Bs):SS:={S with all:=up S.all id (some {y with pg:=pg}),fr:=S.fr.set y.at_.toNat (some pg)}
theorem LH {A:Int→Option ShE} {id:Int} {y:ShE} {pg:Bs} (h:A id=some y) (hp:y.place=1):aG (up A id (some {y with pg:=pg}))=aG A:= by
  funext j
  unfold aG
  by_cases q:j=id
  · subst q; rw[XW,h]; show some _=some _;unfold FK Rf; simp [hp]
  · rw[Ze q]
structure SetS (T:Nat) (S S':SS) (id:Int) (x:ShE) (pg:Bs):Prop where
  inv:ShI Rl (T+1) S'
  f:ShF S S'
  is:vw S'=up (vw S) id (some (x.refs,pg))
theorem Ot {T:Nat} {S S1:SS} {id:Int} {x y:ShE} {pg:Bs} (h:ShI Rl (T+1) S1) (hf:ShF S S1) (hv:vw S1=vw S) (hy:S1.all id=some y) (hp:y.place=1) (hr:y.refs=x.refs) (hpg:pg.length=64):SetS T S (setP S1 id y pg) id x pg:= by
  refine⟨h.page (fun q=>q) hy hp hpg,hf.trans ⟨⟨[], by simp [setP], fun j z hz hp1=> .inr ?_⟩,rfl,rfl, by show(S1.fr.set _ _).length=_; rw[List.length_set]⟩, ?_⟩
  · by_cases q:j=id
    · subst q; rw[hy]at hz; cases hz; exact⟨_,XW,hp1,rfl⟩
    · exact⟨z, by show up S1.all id _ j=_; rw[Ze q]; exact hz,hp1,rfl⟩
  · rw[←hr,←hv]; exact AO rfl
theorem Oh {w:World} {p:Nat} {S:SS} {F:Th} (hS:Sat w [YQ p S,F]) {N:Nat} (hI:ShI Rl N S) (hN:N≤80000000000) (id at_:Int) (b:UInt8):
    Calls Tryz.prog 45 #[ptrV p 0,intV id,intV at_,XS b] w (Ret fun v w'=>(∃e,v=intV e∧e≠0∧(S.all id=none∨(∃x,S.all id=some x∧1<x.refs)∨at_<0∨64≤at_∨ ∀o∈S.fr,o≠none)∧Sat w' [YQ p S,F])∨(∃x S',S.all id=some x∧v=intV 0∧(0≤at_∧at_<64)∧SetS N S S' id x (x.pg.set at_.toNat b)∧Sat w' [YQ p S',F])):= by
 obtain⟨ba,bi,fp,sp,kp,ac,cc,at2,ct,hS⟩:=Zf hS
 cases hid:S.all id with
 | none=>
  refine Qq Tryz.func45 rfl Tryz.ntmps45 rfl ?_
  refine Qd (Qa (Qe rfl rfl (Qf (Qc (Qd (Qa (Qb rfl rfl (Qk rfl rfl (Qg rfl XL rfl (Qo rfl Zk (hS.cell 0 rfl rfl) rfl (Qb rfl rfl (Wl (k:=id) 1 hS keysInt Tryz.underlying108 rfl rfl rfl XH (u:=(.agg #[intV 0,intV 0,intV 0,strV []])) (g:=false) (Hn hid) (YZ hid) rfl (Qb rfl rfl (Qt rfl rfl rfl (Qt rfl rfl rfl (Xg hS XH rfl rfl ?_))))))))))))))))
  intro b1 w1 hS1
  (refine QY hS1 rfl rfl JY rfl (by rfl) (i:=0) rfl (by decide) ?_)
  intro w2 hS3; dsimp only[List.set]at hS3
  clear hS1
  refine Qe rfl rfl (Qf (Qc (Qi [3,2,1,0,8,9,10] rfl (Qd (Qw (Qd (Qa (Qb rfl rfl (QR rfl rfl (Qb rfl rfl (Zh 25 rfl (fun h4=> ?_) (fun h4=> ?_))))))))))))
  ·refine Qj rfl rfl h4 (Qb rfl rfl (Qj rfl rfl h4 (X0 rfl rfl rfl (QC rfl h4 rfl rfl (Qe rfl rfl (Qf (Qc (Qi [3,2,1,0,8,9,22] rfl (Qs rfl (fun h5=> ?_) (fun h5=> ?_))))))))))
   ·exact Qd (Qa (Qe rfl rfl (Qf (Qc (Qu (Qx (Qn (QQ (.inr rfl) rfl rfl (⟨_,rfl,.inl ⟨_,rfl, by decide, by first | exact .inl rfl | (exact .inr (.inl ⟨x,rfl, by omega⟩)) | (exact .inr (.inr (.inl (by omega)))) | (exact .inr (.inr (.inr (.inl (by omega))))),QZ (hS3.pick [1,2,3,4,5,6,7,8,9] rfl)⟩⟩)))))))))
   refine Qd (Qa (Qb rfl rfl (QX rfl rfl rfl (Qb rfl rfl (QN 32 rfl (fun h6=> ?_) (fun h6=> ?_))))))
   ·exact Qh rfl rfl (QW h6) rfl (Qh rfl rfl (QW h6) rfl (Qh rfl rfl (QW h6) rfl (QC rfl (QW h6) rfl rfl (Qe rfl rfl (Qf (Qc (Qi [3,2,1,0,8,29] rfl (Xr rfl (Qd (Qa (Qe rfl rfl (Qf (Qc (Qu (Qx (Qn (QQ (.inr rfl) rfl rfl (⟨_,rfl,.inl ⟨_,rfl, by decide, by first | exact .inl rfl | (exact .inr (.inl ⟨x,rfl, by omega⟩)) | (exact .inr (.inr (.inl (by omega)))) | (exact .inr (.inr (.inr (.inl (by omega))))),QZ (hS3.pick [1,2,3,4,5,6,7,8,9] rfl)⟩⟩))))))))))))))))))
   exact absurd h6 (by omega)
  exact absurd h4 (by simp)
 | some x=>
  obtain⟨hid1,_,hr1,hr2,_,hplc⟩:=hI.ent hid
  refine Qq Tryz.func45 rfl Tryz.ntmps45 rfl ?_
  refine Qd (Qa (Qe rfl rfl (Qf (Qc (Qd (Qa (Qb rfl rfl (Qk rfl rfl (Qg rfl XL rfl (Qo rfl Zk (hS.cell 0 rfl rfl) rfl (Qb rfl rfl (Wl (k:=id) 1 hS keysInt Tryz.underlying108 rfl rfl rfl XH (u:=(.agg #[intV x.refs,intV x.place,intV x.at_,strV (Rf x)])) (g:=true) (Jw hid) (YY hid) rfl (Qb rfl rfl (Qt rfl rfl rfl (Qt rfl rfl rfl (Xg hS XH rfl rfl ?_))))))))))))))))
  intro b1 w1 hS1
  (refine QY hS1 rfl rfl JY rfl (by rfl) (i:=0) rfl (by decide) ?_)
  intro w2 hS3; dsimp only[List.set]at hS3
  clear hS1
  refine Qe rfl rfl (Qf (Qc (Qi [3,2,1,0,8,9,10] rfl (Qd (Qw (Qd (Qa (Qb rfl rfl (QR rfl rfl (Qb rfl rfl (Zh 25 rfl (fun h4=> ?_) (fun h4=> ?_))))))))))))
  ·exact absurd h4 (by simp)
  refine Qh rfl rfl h4 rfl (Qh rfl rfl h4 rfl (QG rfl h4 rfl rfl (Qe rfl rfl (Qf (Qc (Qi [3,2,1,0,8,9,22] rfl (QV rfl (Qd (Qa (Qb rfl rfl (QX rfl rfl rfl (Qb rfl rfl (QN 32 rfl (fun h5=> ?_) (fun h5=> ?_))))))))))))))
  ·exact absurd h5 (by omega)
  refine Qj rfl rfl (Q0 h5) (Qg rfl J6 rfl (Qj rfl rfl (Q0 h5) (Qo rfl QO (hS3.cell 0 rfl rfl) rfl (Qj rfl rfl (Q0 h5) (Y6 rfl rfl rfl (QG rfl (Q0 h5) rfl rfl (Qe rfl rfl (Qf (Qc (Qi [3,2,1,0,8,29] rfl (Qs rfl (fun h6=> ?_) (fun h6=> ?_))))))))))))
  ·exact Qd (Qa (Qe rfl rfl (Qf (Qc (Qu (Qx (Qn (QQ (.inr rfl) rfl rfl (⟨_,rfl,.inl ⟨_,rfl, by decide, by first | exact .inl rfl | (exact .inr (.inl ⟨x,rfl, by omega⟩)) | (exact .inr (.inr (.inl (by omega)))) | (exact .inr (.inr (.inr (.inl (by omega))))),QZ (hS3.pick [1,2,3,4,5,6,7,8,9] rfl)⟩⟩)))))))))
  refine Qd (Qa (Qb rfl rfl (Xb rfl rfl rfl (Qb rfl rfl (QN 40 rfl (fun h7=> ?_) (fun h7=> ?_))))))
  ·exact Qh rfl rfl (QW h7) rfl (Qh rfl rfl (QW h7) rfl (QC rfl (QW h7) rfl rfl (Qe rfl rfl (Qf (Qc (Qi [3,2,1,0,8,37] rfl (Xr rfl (Qd (Qa (Qe rfl rfl (Qf (Qc (Qu (Qx (Qn (QQ (.inr rfl) rfl rfl (⟨_,rfl,.inl ⟨_,rfl, by decide, by first | exact .inl rfl | (exact .inr (.inl ⟨x,rfl, by omega⟩)) | (exact .inr (.inr (.inl (by omega)))) | (exact .inr (.inr (.inr (.inl (by omega))))),QZ (hS3.pick [1,2,3,4,5,6,7,8,9] rfl)⟩⟩)))))))))))))))))
  refine Qj rfl rfl (Q0 h7) (Qb rfl rfl (Qj rfl rfl (Q0 h7) (JJ rfl rfl rfl (QG rfl (Q0 h7) rfl rfl (Qe rfl rfl (Qf (Qc (Qi [3,2,1,0,8,37] rfl (Qs rfl (fun h8=> ?_) (fun h8=> ?_))))))))))
  ·exact Qd (Qa (Qe rfl rfl (Qf (Qc (Qu (Qx (Qn (QQ (.inr rfl) rfl rfl (⟨_,rfl,.inl ⟨_,rfl, by decide, by first | exact .inl rfl | (exact .inr (.inl ⟨x,rfl, by omega⟩)) | (exact .inr (.inr (.inl (by omega)))) | (exact .inr (.inr (.inr (.inl (by omega))))),QZ (hS3.pick [1,2,3,4,5,6,7,8,9] rfl)⟩⟩)))))))))
  refine Qr (Ql (Qc (Qd (Qa (Qb rfl rfl (Qb rfl rfl ?_))))))
  have hS9:=QZ (hS3.pick [1,2,3,4,5,6,7,8,9] rfl)
  have hbr:= fun {w F} (hC:Sat w [YQ p S,F])=>S7 hC hI hN id
  simp only[hid]at hbr
  refine XY cal_107 rfl (hbr (hS9.sp [0] rfl)) rfl ?_
  rintro e w10 ⟨_,rfl,(⟨hp1,rfl,hS10⟩ | ⟨k,S2,hp1,rfl,hB,hS10⟩ | ⟨hp2,rfl,hall,hfull,hS10⟩)⟩
  ·refine⟨_,rfl, ?_⟩
   replace hS10:=hS10.jn rfl rfl
   clear hS9
   refine Qb rfl rfl (Qt rfl rfl rfl (Qt rfl rfl rfl (Qe rfl rfl (Qe rfl rfl (Qf (Qc (Qi [3,2,0,8,11,12] rfl (Qd (Qd (Qa (Qb rfl rfl (X0 rfl rfl rfl (Qf (Qc (Qs rfl (fun h11=> ?_) (fun h11=> ?_))))))))))))))))
   ·exact absurd rfl h11
   refine Qr (Qc (Qd ?_))
   obtain⟨ba,bi,fp,sp,kp,ac,cc,at2,ct,hSo12⟩:=Zf (hS10.pick [0,1] rfl)
   refine Qa (Qb rfl rfl (Qk rfl rfl (Qg rfl WJ rfl (Qo rfl YI (hSo12.cell 0 rfl rfl) rfl (Qb rfl rfl (Qb rfl rfl (Qb rfl rfl ?_)))))))
   have hfr:=hI.frc (fun q=>q) hid hp1
   refine XY LA rfl (P6 (hSo12.sp [4] rfl) x.at_ at_ b) rfl ?_
   rintro e w13 ⟨_,rfl,(⟨hbad,hS13⟩ | ⟨rfl,cb,hcb,hrng,hS13⟩)⟩
   ·exfalso; rw[hfr]at hbad; simp at hbad;omega
   refine⟨_,rfl, ?_⟩
   replace hS13:=hS13.jn rfl rfl
   clear hSo12
   refine Qe rfl rfl (Qf (Qc (Qi [8] rfl (Qu (QQ (.inr rfl) rfl rfl ?_)))))
   obtain rfl:x.pg=cb:= by rw[hfr]at hcb; cases hcb;rfl
   have hz:=hS13.pick [1,2,3,4,0,5,6,7,8] rfl
   rw[←LH (pg:=x.pg.set at_.toNat b) hid hp1]at hz
   exact⟨_,rfl,.inr ⟨x,_,rfl,rfl,hrng,Ot (x:=x) (pg:=x.pg.set at_.toNat b) (hI.mono (Nat.le_add_right N 1)) (ShF.refl S) rfl hid hp1 rfl (by rw[List.length_set]; exact(hI.ent hid).2.2.2.2.1),QZ (S:=setP S id x (x.pg.set at_.toNat b)) hz⟩⟩
  ·refine⟨_,rfl, ?_⟩
   replace hS10:=hS10.jn rfl rfl
   clear hS9
   refine Qb rfl rfl (Qt rfl rfl rfl (Qt rfl rfl rfl (Qe rfl rfl (Qe rfl rfl (Qf (Qc (Qi [3,2,0,8,11,12] rfl (Qd (Qd (Qa (Qb rfl rfl (X0 rfl rfl rfl (Qf (Qc (Qs rfl (fun h14=> ?_) (fun h14=> ?_))))))))))))))))
   ·exact absurd rfl h14
   refine Qr (Qc (Qd ?_))
   obtain⟨ba,bi,fp,sp,kp,ac,cc,at2,ct,hSo15⟩:=Zf (hS10.pick [0,1] rfl)
   refine Qa (Qb rfl rfl (Qk rfl rfl (Qg rfl WJ rfl (Qo rfl YI (hSo15.cell 0 rfl rfl) rfl (Qb rfl rfl (Qb rfl rfl (Qb rfl rfl ?_)))))))
   have hfr:=hB.inv.frc (fun q=>q) hB.is rfl
   dsimp only at hfr
   refine XY LA rfl (P6 (hSo15.sp [4] rfl) (k:Int) at_ b) rfl ?_
   rintro e w16 ⟨_,rfl,(⟨hbad,hS16⟩ | ⟨rfl,cb,hcb,hrng,hS16⟩)⟩
   ·exfalso; rw[hfr]at hbad; simp at hbad;omega
   refine⟨_,rfl, ?_⟩
   replace hS16:=hS16.jn rfl rfl
   clear hSo15
   refine Qe rfl rfl (Qf (Qc (Qi [8] rfl (Qu (QQ (.inr rfl) rfl rfl ?_)))))
   obtain rfl:x.pg=cb:= by rw[hfr]at hcb; cases hcb;rfl
   have hz:=hS16.pick [1,2,3,4,0,5,6,7,8] rfl
   rw[←LH (pg:=x.pg.set at_.toNat b) hB.is rfl]at hz
   exact⟨_,rfl,.inr ⟨x,_,rfl,rfl,hrng,Ot (x:=x) (pg:=x.pg.set at_.toNat b) hB.inv hB.go.f hB.go.vw hB.is rfl rfl (by rw[List.length_set]; exact(hI.ent hid).2.2.2.2.1),QZ (S:=setP S2 id ⟨x.refs,1,(k:Nat),x.pg⟩ (x.pg.set at_.toNat b)) hz⟩⟩
  refine⟨_,rfl, ?_⟩
  replace hS10:=hS10.jn rfl rfl
  clear hS9
  refine Qb rfl rfl (Qt rfl rfl rfl (Qt rfl rfl rfl (Qe rfl rfl (Qe rfl rfl (Qf (Qc (Qi [3,2,0,8,11,12] rfl (Qd (Qd (Qa (Qb rfl rfl (X0 rfl rfl rfl (Qf (Qc (Qs rfl (fun h17=> ?_) (fun h17=> ?_))))))))))))))))
  ·exact Qd (Qa (Qb rfl rfl (Qe rfl rfl (Qf (Qc (Qu (Qn (QQ (.inr rfl) rfl rfl (⟨_,rfl,.inl ⟨_,rfl, by decide, by(exact .inr (.inr (.inr (.inr hall)))),hS10.pick [0,1] rfl⟩⟩)))))))))
  exact absurd (by decide) h17
end Go.Proofs.YtkcjfoaejijdoaaGreatDoor
namespace Go.Proofs.YtkcjfoaejijdoaaGreatDoor.M
open Go.RowKit
section
variable {κ:Type} {β:Type}
open Classical in
noncomputable def Xz (f:κ→Option β) (k:κ) (v:Option β):κ→Option β:= fun j=> if j=k then v else f j
theorem Q1 {f:κ→Option β} {k:κ} {v:Option β}:Xz f k v k=v:= by simp [Xz]
theorem QI {f:κ→Option β} {k j:κ} {v:Option β} (h:j≠k):Xz f k v j=f j:= by simp [Xz,h]
theorem YK {f:κ→Option β} {k:κ} {u v:Option β}:Xz (Xz f k u) k v=Xz f k v:= by
  funext j
  by_cases h:j=k
  · subst h; rw[Q1,Q1]
  · rw[QI h,QI h,QI h]
theorem YP {f:κ→Option β} {k:κ} {v:Option β} (h:f k=v):Xz f k v=f:= by
  funext j
  by_cases e:j=k
  · subst e; rw[Q1,h]
  · rw[QI e]
def FH (o:Option Th):Th:=o.getD SQ
def Sd (h:κ→Option Th):Th:=CG fun L:List κ=>starL [WN (L.Nodup∧ ∀k,k∈L↔h k≠none),starL (L.map fun k=>FH (h k))]
section
variable {w:World} {As:List Th} {h:κ→Option Th} {k:κ} {A:Th}
theorem Sat.second {A X Y:Th} {As:List Th} (f: ∀{Bs:List Th},Sat w (X::Bs)→Sat w (Y::Bs)) (hS:Sat w (A::X::As)):Sat w (A::Y::As):=
  (f (hS.perm (List.Perm.swap _ _ _))).perm (List.Perm.swap _ _ _)
theorem Cg (hS:Sat w (Sd h::As)): ∃L:List κ,(L.Nodup∧ ∀k,k∈L↔h k≠none)∧Sat w (starL (L.map fun k=>FH (h k))::As):= by
  obtain⟨L,hL⟩:=hS.ex
  exact⟨L,hL.flat.pure_elim⟩
theorem Bi {L:List κ} (hL:L.Nodup∧ ∀k,k∈L↔h k≠none) (hS:Sat w (starL (L.map fun k=>FH (h k))::As)):Sat w (Sd h::As):=
  Sat.ex_intro (f:= fun L:List κ=>starL [WN (L.Nodup∧ ∀k,k∈L↔h k≠none),starL (L.map fun k=>FH (h k))]) L (Sat.fold (As:=[WN (L.Nodup∧ ∀k,k∈L↔h k≠none),starL (L.map fun k=>FH (h k))]) (Sat.pure_intro hL hS))
theorem Sat.emp_intro (hS:Sat w As):Sat w (starL []::As):=Sat.fold (As:=[]) hS
theorem AB (hS:Sat w As):Sat w (Sd (fun _:κ=>none)::As):=Bi (L:=[]) ⟨List.nodup_nil, fun k=> by simp⟩ hS.emp_intro
theorem qa5 (hS:Sat w (Sd h::As)) (hk:h k=some A):Sat w (A::Sd (Xz h k none)::As):= by
  obtain⟨L,⟨hn,hm⟩,h1⟩:=Cg hS
  have hkm:k∈L:=(hm k).2 (by rw[hk]; simp)
  obtain⟨L1,L2,rfl⟩:=List.append_of_mem hkm
  have hp:(L1++k::L2).Perm (k::(L1++L2)):=List.perm_middle
  have hn':=hp.nodup_iff.1 hn
  obtain⟨hk1,hn2⟩:=List.nodup_cons.1 hn'
  have h2:=MO h1 (hp.map _)
  have h3:=HW (Xs:=(k::(L1++L2)).map fun k=>FH (h k)) (i:=0) h2 rfl
  have e1:FH (h k)=A:= by rw[hk];rfl
  replace h3:Sat w (FH (h k)::starL (((k::(L1++L2)).map fun k=>FH (h k)).eraseIdx 0)::As):=h3
  rw[e1]at h3
  have e2:(((k::(L1++L2)).map fun k=>FH (h k)).eraseIdx 0)=(L1++L2).map fun j=>FH (Xz h k none j):= by
    show(L1++L2).map (fun k=>FH (h k))=_
    refine List.map_congr_left fun j hj=> ?_
    rw[QI]
    intro q; subst q; exact hk1 hj
  rw[e2]at h3
  refine Sat.second (fun {Bs} g=>Bi ⟨hn2, fun j=> ?_⟩ g) h3
  by_cases hj:j=k
  · subst hj
    rw[Q1]
    exact⟨fun q=>absurd q hk1, fun q=>absurd rfl q⟩
  · rw[QI hj,←hm j,hp.mem_iff,List.mem_cons]
    exact⟨fun q=> .inr q, fun q=>q.resolve_left hj⟩
theorem LE (hS:Sat w (A::Sd h::As)) (hk:h k=none):Sat w (Sd (Xz h k (some A))::As):= by
  obtain⟨L,⟨hn,hm⟩,h1⟩:=Cg (hS.perm (List.Perm.swap _ _ _))
  have hkm:k∉L:= fun q=>(hm k).1 q hk
  have h2:=MP (i:=0) (h1.perm (List.Perm.swap _ _ _))
  refine Bi (L:=k::L) ⟨List.nodup_cons.2 ⟨hkm,hn⟩, fun j=> ?_⟩ ?_
  · rw[List.mem_cons]
    by_cases hj:j=k
    · subst hj
      rw[Q1]; simp
    · rw[QI hj,←hm j]
      exact⟨fun q=>q.resolve_left hj, fun q=> .inr q⟩
  · rw[List.map_cons,Q1]
    have e:(L.map fun j=>FH (Xz h k (some A) j))=L.map fun j=>FH (h j):=List.map_congr_left fun j hj=> by
      rw[QI]
      intro q; subst q; exact hkm hj
    rw[e]
    exact h2
end
def Zj {α:Type} (ad:α→Nat) (f:κ→Option α):κ→Option Value:= fun k=>(f k).map fun x=>ptrV (ad x) 0
theorem Zg {α:Type} {ad:α→Nat} {f:κ→Option α} {k:κ} {x:α} {z:Value} (h:f k=some x):(Zj ad f k).getD z=ptrV (ad x) 0:= by unfold Zj; rw[h];rfl
theorem TE {α:Type} {ad:α→Nat} {f:κ→Option α} {k:κ} {z:Value} (h:f k=none):(Zj ad f k).getD z=z:= by unfold Zj; rw[h];rfl
theorem Pg {α:Type} {ad:α→Nat} {f:κ→Option α} {k:κ} {x:α}:upd (Zj ad f) k (some (ptrV (ad x) 0))=Zj ad (Xz f k (some x)):= by
  funext j
  by_cases h:j=k
  · subst h; rw[Z5];unfold Zj; rw[Q1];rfl
  · rw[WC h];unfold Zj; rw[QI h]
theorem Ph {α:Type} {ad:α→Nat} {f:κ→Option α} {k:κ}:upd (Zj ad f) k none=Zj ad (Xz f k none):= by
  funext j
  by_cases h:j=k
  · subst h; rw[Z5];unfold Zj; rw[Q1];rfl
  · rw[WC h];unfold Zj; rw[QI h]
theorem Uu {α:Type} {ad:α→Nat} {f:κ→Option α} {k:κ} {x y:α} (h:f k=some x) (hy:ad y=ad x):Zj ad (Xz f k (some y))=Zj ad f:= by
  funext j
  by_cases e:j=k
  · subst e;unfold Zj; rw[Q1,h]; simp [hy]
  · unfold Zj; rw[QI e]
end
def Xy (k:Bs×Int):Value:= .agg #[strV k.1,intV k.2]
theorem DW {P:Program} {t:TypeId} (hu:P.underlying t=some .string) (cs:Array Value) (off:Nat) (v:Value) (hv:cs[off]? =some v) (w:World):(part t cs off).run P w= .ok v w:= by
  simp [part,isAgg,run_underlying hu,hv]
theorem BB {P:Program} {t:TypeId} (hu:P.underlying t=some .string) (n:Nat) (a b:Bs) (w:World):(Op.equalIn (n+1) t (strV a) (strV b)).run P w= .ok (decide (a=b)) w:= by
  unfold Op.equalIn
  simp only[Sem.run_bind,run_underlying hu,Result.andThen,strV]
  simp
  rw[Bool.eq_iff_iff]
  show(a.toArray==b.toArray)=true↔_
  simp
theorem Iz {P:Program} {kt t0 t1:TypeId} {f0 f1:Field} (hu:P.underlying kt=some (.struct #[f0,f1])) (hs:P.stoodInHeld kt=false) (hs0:P.underlying t0=some .string) (ht:P.underlying t1=some (.int .i64))
    (h0 : f0.type = t0) (h1 : f1.type = t1) (o0 : f0.offset = 0) (o1 : f1.offset = 1) (n0 : f0.name ≠ "_") (n1 : f1.name ≠ "_") : KeyOk P kt Xy where
  inj:= by rintro⟨a,b⟩ ⟨c,d⟩ h;simpa [Xy,strV,intV]using h
  bits:= fun a=> by
    simp [Xy,strV,intV,Instr.sameBits]
    show(a.1.toArray==a.1.toArray)=true
    simp
  check:= fun e a w=> by
    unfold Instr.checkKey
    simp only[Sem.run_bind,run_underlying hu,Result.andThen,Xy]
    have c: ∀x:Int,(Instr.checkKey e 9999 t1 (intV x)).run P w= .ok () w:= fun x=>MapKept.run_checkKey ht (by simp [MapKept.IsKey,intV]) e 9998
    have c0: ∀x:Bs,(Instr.checkKey e 9999 t0 (strV x)).run P w= .ok () w:= fun x=>MapKept.run_checkKey hs0 (by simp [MapKept.IsKey,strV]) e 9998
    simp [n0,n1,h0,h1,o0,o1,T9 ht,DW hs0,c,c0]
  find:= fun a l w h=> by
    have eq: ∀b:Bs×Int,(Op.equal kt (Xy a) (Xy b)).run P w= .ok (decide (a=b)) w:= by
      intro b
      have c: ∀x y:Int,(Op.equalIn 9999 t1 (intV x) (intV y)).run P w= .ok (x==y) w:= fun x y=>Vh ht 9998 x y w
      have c0: ∀x y:Bs,(Op.equalIn 9999 t0 (strV x) (strV y)).run P w= .ok (decide (x=y)) w:= fun x y=>BB hs0 9998 x y w
      unfold Op.equal Op.maxDepth Op.equalIn
      simp only[Sem.run_bind,run_underlying hu,Result.andThen,Xy]
      obtain⟨a1,a2⟩:=a
      obtain⟨b1,b2⟩:=b
      by_cases e1:a1=b1<;>by_cases e2:a2=b2<;> simp [hs,n0,n1,h0,h1,o0,o1,T9 ht,DW hs0,c,c0,e1,e2]
    have ask: ∀(l:List MapEntry) (i:Nat),(∀x∈l,∃b,x.key=Xy b)→
        (∃j x,l[j]? =some x∧x.key=Xy a∧(Instr.findAsking kt (Xy a) l i).run P w= .ok (some (i+j,x.val)) w)∨((∀x∈l,x.key≠Xy a)∧(Instr.findAsking kt (Xy a) l i).run P w= .ok none w):= by
      intro l
      induction l with
      | nil=> intro i _; exact .inr ⟨by simp, by simp [Instr.findAsking]⟩
      | cons e es ih=>
        intro i hl
        obtain⟨b,hb⟩:=hl e (by simp)
        by_cases hab:a=b
        · refine .inl ⟨0,e,rfl, by rw[hb,hab], ?_⟩
          subst hab
          simp [Instr.findAsking,hb,eq]
        · have hne:e.key≠Xy a:= by
            rw[hb]; intro q; apply hab
            obtain⟨a1,a2⟩:=a
            obtain⟨b1,b2⟩:=b
            simp [Xy,strV,intV]at q⊢; exact⟨q.1.symm,q.2.symm⟩
          rcases ih (i+1) (fun x hx=>hl x (by simp [hx]))with⟨j,x,h1,h2,h3⟩ | ⟨h1,h2⟩
          · refine .inl ⟨j+1,x, by simpa using h1,h2, ?_⟩
            simp [Instr.findAsking,hb,eq,hab,h3];omega
          · refine .inr ⟨fun x hx=> ?_, ?_⟩
            · rcases List.mem_cons.1 hx with rfl | hx
              · exact hne
              · exact h1 x hx
            · simp [Instr.findAsking,hb,eq,hab,h2]
    cases l with
    | nil=> exact .inr ⟨by simp, by simp [Instr.findKey,run_underlying hu,Instr.findNow]⟩
    | cons e es=>
      obtain⟨b,hb⟩:=h e (by simp)
      have hn:Instr.findNow (.struct #[f0,f1]) (Xy a) (e::es) 0=none:= by simp [Instr.findNow,Instr.sameNow]
      have hk: ∀r,(Instr.findAsking kt (Xy a) (e::es) 0).run P w= .ok r w→(Instr.findKey kt (Xy a) (e::es)).run P w= .ok r w:= by
        intro r hr
        simp only[Instr.findKey,Sem.run_bind,run_underlying hu,Result.andThen,hn,hr]
      rcases ask (e::es) 0 h with⟨j,x,h1,h2,h3⟩ | ⟨h1,h2⟩
      · rw[Nat.zero_add]at h3
        exact .inl ⟨j,x,h1,h2,hk _ h3⟩
      · exact .inr ⟨h1,hk _ h2⟩
section
variable {P:Program} {n:Nat} {ops:Array Oper} {Q:Exit→Act→World→Prop} {rest:List Oper} {L:Env} {w:World} {d:Nat} {t t2:TypeId} {x y:Operand} {ty:TypeId} {pos:String} {aft:Array Edge}
theorem Gc {e:TypeId} (hu:P.underlying t=some (.pointer e)) (hx:look L x=some (.pointer none)) (hy:look L y=some (.pointer none)):Ev P L w ⟨some d,.binOp .neq t x y t2,ty,pos,aft,none⟩ (.bool false):= fun ρ hρ=> by simp [execOp,hρ _ _ hx,hρ _ _ hy,eqGuard,binOp,BQ hu]
theorem Yi {e:TypeId} (hu:P.underlying t=some (.pointer e)) (hx:look L x=some (.pointer none)) (hy:look L y=some (.pointer none)) (hd:Nat.blt d n=true) (hk:wl P n ops Q rest ((d,.bool false)::L) w):wl P n ops Q (⟨some d,.binOp .neq t x y t2,ty,pos,aft,none⟩::rest) L w:=
  Xo hd (Gc hu hx hy) hk
def Zu (b:BitVec 64):Value:= .int .u64 (b.toNat:Int)
theorem GQ (b:BitVec 64):BitVec.ofInt 64 (b.toNat:Int)=b:= by
  rw[BitVec.ofInt_natCast]; simp
theorem OY (b:BitVec 64):(b.toNat:Int)%18446744073709551616=(b.toNat:Int):= by
  have :=b.isLt
  omega
theorem Gb {a b:BitVec 64} (hx:look L x=some (Zu a)) (hy:look L y=some (Zu b)):Ev P L w ⟨some d,.binOp .or t x y t2,ty,pos,aft,none⟩ (Zu (a ||| b)):= fun ρ hρ=> by
  simp only[execOp,hρ _ _ hx,hρ _ _ hy,Zu,binOp,Op.intBits,IntKind.bits,eqGuard,GQ]
  simp [IntKind.wrap,IntKind.signed,IntKind.bits, -BitVec.toNat_or]
  exact OY _
theorem wl_or64 {a b:BitVec 64} (hx:look L x=some (Zu a)) (hy:look L y=some (Zu b)) (hd:Nat.blt d n=true) (hk:wl P n ops Q rest ((d,Zu (a ||| b))::L) w):wl P n ops Q (⟨some d,.binOp .or t x y t2,ty,pos,aft,none⟩::rest) L w:=Xo hd (Gb hx hy) hk
theorem IR {a b:BitVec 64} (hx:look L x=some (Zu a)) (hy:look L y=some (Zu b)):Ev P L w ⟨some d,.binOp .and t x y t2,ty,pos,aft,none⟩ (Zu (a&&&b)):= fun ρ hρ=> by
  simp only[execOp,hρ _ _ hx,hρ _ _ hy,Zu,binOp,Op.intBits,IntKind.bits,eqGuard,GQ]
  simp [IntKind.wrap,IntKind.signed,IntKind.bits, -BitVec.toNat_and]
  exact OY _
theorem D5 {a b:BitVec 64} (hx:look L x=some (Zu a)) (hy:look L y=some (Zu b)) (hd:Nat.blt d n=true) (hk:wl P n ops Q rest ((d,Zu (a&&&b))::L) w):wl P n ops Q (⟨some d,.binOp .and t x y t2,ty,pos,aft,none⟩::rest) L w:=Xo hd (IR hx hy) hk
theorem VF {a b:BitVec 64} (hx:look L x=some (Zu a)) (hy:look L y=some (Zu b)):Ev P L w ⟨some d,.binOp .andNot t x y t2,ty,pos,aft,none⟩ (Zu (a&&& ~~~b)):= fun ρ hρ=> by
  simp only[execOp,hρ _ _ hx,hρ _ _ hy,Zu,binOp,Op.intBits,IntKind.bits,eqGuard,GQ]
  simp [IntKind.wrap,IntKind.signed,IntKind.bits, -BitVec.toNat_and]
  exact OY _
theorem IQ {yk:IntKind} (m:Nat) (hx:look L x=some (.int .u64 1)) (hy:look L y=some (.int yk (m:Int))) (hm:m<64):Ev P L w ⟨some d,.binOp .shl t x y t2,ty,pos,aft,none⟩ (Zu (1#64<<<m)):= fun ρ hρ=> by
  have h0: ¬((m:Int)<0):= by omega
  have e:IntKind.u64.wrap (1*2^(min m 64))=((1#64<<<m).toNat:Int):= by
    rw[Nat.min_eq_left (by omega),Int.one_mul]
    have h1:(2:Int)^m=((2^m:Nat):Int):= by simp
    rw[h1]
    have h2:2^m<2^64:=Nat.pow_lt_pow_right (by decide) hm
    simp [IntKind.wrap,IntKind.signed,IntKind.bits,BitVec.toNat_shiftLeft,Nat.shiftLeft_eq]
  simp only[execOp,hρ _ _ hx,hρ _ _ hy,binOp,Op.shift,IntKind.bits,eqGuard,h0,if_false,Int.toNat_natCast,e,Zu]
  simp
theorem IJ {yk:IntKind} {a:BitVec 64} (m:Nat) (hx:look L x=some (Zu a)) (hy:look L y=some (.int yk (m:Int))) (hm:m≤64):Ev P L w ⟨some d,.binOp .shr t x y t2,ty,pos,aft,none⟩ (Zu (a>>>m)):= fun ρ hρ=> by
  have h0: ¬((m:Int)<0):= by omega
  have e:(a.toNat:Int).fdiv (2^(min m 64))=((a>>>m).toNat:Int):= by
    rw[Nat.min_eq_left hm,Int.fdiv_eq_ediv_of_nonneg _ (Int.le_of_lt (Int.pow_pos (by decide))),BitVec.toNat_ushiftRight,Nat.shiftRight_eq_div_pow]
    simp
  simp only[execOp,hρ _ _ hx,hρ _ _ hy,Zu,binOp,Op.shift,IntKind.bits,eqGuard,h0,if_false,Int.toNat_natCast,e]
  simp
theorem NA {yk:IntKind} {a:BitVec 64} (m:Nat) (hx:look L x=some (Zu a)) (hy:look L y=some (.int yk (m:Int))) (hm:m≤64) (hd:Nat.blt d n=true) (hk:wl P n ops Q rest ((d,Zu (a>>>m))::L) w):wl P n ops Q (⟨some d,.binOp .shr t x y t2,ty,pos,aft,none⟩::rest) L w:=Xo hd (IJ m hx hy hm) hk
end
section
variable {P:Program} {n:Nat} {ops:Array Oper} {Q:Exit→Act→World→Prop} {rest:List Oper} {L:Env} {w:World} {d:Nat} {ty:TypeId} {pos:String} {aft:Array Edge}
theorem Ts {t:Nat} {parts:List (Nat×Operand)} {vs vs':List Value} {pls:List (Nat×Nat)} {z:List Value} (hx:WP L (parts.map (·.2))=some vs) (hp:Z6 P t (parts.map (·.1))=some pls) (ha:He P t=true) (hz:XZ P t=some (some (.agg z.toArray))) (hok:JP z.length pls vs=true) (hd:Nat.blt d n=true) (he:J7 z pls vs=vs') (hk:wl P n ops Q rest ((d,.agg vs'.toArray)::L) w):wl P n ops Q (⟨some d,.build t parts.toArray,ty,pos,aft,none⟩::rest) L w:= by
  subst he; exact Zl hx hp ha hz hok hd hk
end
end Go.Proofs.YtkcjfoaejijdoaaGreatDoor.M
namespace Go.Proofs.YtkcjfoaejijdoaaGreatDoor
open Go.RowKit M
abbrev VS:=Int→Option (Int×Bs)
noncomputable def H3 (V:VS) (j:Int):VS:= match V j with | none=>V | some x=>Xz V j (some (x.1+1,x.2))
noncomputable def Z2 (V:VS) (j:Int):VS:= match V j with | none=>V | some x=> if 1<x.1 then Xz V j (some (x.1 -1,x.2))else Xz V j none
def Zz (V:VS) (j:Int):Int:= match V j with | none=>0 | some x=>x.1
def XT (V:VS) (j:Int):Bs:= match V j with | none=> if j=0 then zer else[] | some x=>x.2
def btV (V:VS) (j a:Int):UInt8:= if 0≤a∧a<64 then(XT V j).getD a.toNat 0 else 0
def Ho (V:VS) (n:Nat):Prop:= ∃l:List Int,l.length=n∧l.Nodup∧ ∀j∈l,V j≠none
theorem G8 {β:Type} (A:Int→Option β) (j:Int) (v:Option β):up A j v=Xz A j v:= by
  funext i
  by_cases h:i=j
  · subst h; rw[XW,Q1]
  · rw[Ze h,QI h]
structure SlW where
  v:Nat
set_option linter.unusedSectionVars false
variable [Inhabited SlW]
def qbg (S:SS) (F:Nat):Prop:=S.fr.length=F∧S.slots=((default:SlW).v:Int)
def Zq (p n F:Nat) (V:VS):Th:=CG fun S:SS=>starL [WN (ShI Rl n S∧vw S=V∧qbg S F),YQ p S]
theorem JT {w:World} {p n F:Nat} {V:VS} {As:List Th} (h:Sat w (Zq p n F V::As)): ∃S,ShI Rl n S∧vw S=V∧qbg S F∧Sat w (YQ p S::As):= by
  obtain⟨S,h⟩:=h.ex
  obtain⟨⟨a,b,c⟩,h⟩:=h.flat.pure_elim
  exact⟨S,a,b,c,h⟩
theorem ZF {w:World} {p n F:Nat} {V:VS} {S:SS} {As:List Th} (hI:ShI Rl n S) (hV:vw S=V) (hF:qbg S F) (h:Sat w (YQ p S::As)):Sat w (Zq p n F V::As):=
  Sat.ex_intro (f:= fun S:SS=>starL [WN (ShI Rl n S∧vw S=V∧qbg S F),YQ p S]) S (Sat.fold (As:=[WN (ShI Rl n S∧vw S=V∧qbg S F),YQ p S]) (Sat.pure_intro ⟨hI,hV,hF⟩ h))
theorem X1 {w:World} {p n m F:Nat} {V:VS} {As:List Th} (hm:n≤m) (h:Sat w (Zq p n F V::As)):Sat w (Zq p m F V::As):= by
  obtain⟨S,a,b,c,h⟩:=JT h
  exact ZF (a.mono hm) b c h
theorem UE {S:SS} {j:Int} (h:S.all j=none):vw S j=none:= by unfold vw; rw[h];rfl
theorem UD {S:SS} {j:Int} {x:ShE} (h:S.all j=some x):vw S j=some (x.refs,x.pg):= by unfold vw; rw[h];rfl
theorem OJ (S:SS) (j:Int):YR S j=XT (vw S) j:= by
  unfold YR XT
  cases h:S.all j with
  | none=> rw[UE h]
  | some x=> rw[UD h]
theorem Fg {n:Nat} {Q:Nat→Int→Prop} (h: ∀i,i<n→ ∃j,Q i j): ∃f:Nat→Int,∀i,i<n→Q i (f i):= by
  classical
  exact⟨fun i=> if hi:i<n then Classical.choose (h i hi)else 0, fun i hi=> by dsimp only; rw[dif_pos hi]; exact Classical.choose_spec (h i hi)⟩
theorem Rd {n:Nat} {S:SS} (hI:ShI Rl n S) (hf: ∀o∈S.fr,o≠none):Ho (vw S) S.fr.length:= by
  have hex: ∀i,i<S.fr.length→ ∃j:Int,S.inn (i:Nat)=some j∧S.all j≠none:= by
    intro i hi
    obtain⟨b,hb⟩: ∃b,S.fr[i]? =some (some b):= by
      have h1:=hf _ (List.getElem_mem hi)
      cases hq:S.fr[i]with
      | none=> exact absurd hq h1
      | some b=> exact⟨b, by rw[Zd hi,hq]⟩
    have h2:ZZ S.fr (i:Nat)=some b:= by unfold ZZ; rw[if_pos (by omega),Int.toNat_natCast,hb]
    have h3:=hI.fru h2
    cases hq:S.inn (i:Nat)with
    | none=> exact absurd hq h3
    | some j=>
      obtain⟨_,x,hx,_⟩:=(hI.frm _ _).1 hq
      exact⟨j,rfl, by rw[hx]; simp⟩
  obtain⟨f,hf2⟩:=Fg (n:=S.fr.length) hex
  refine⟨(List.range S.fr.length).map f, by simp, ?_, fun j hj=> ?_⟩
  · unfold List.Nodup
    rw[List.pairwise_map]
    refine List.Pairwise.imp_of_mem (fun {a b} ha hb hne e=> ?_) (List.nodup_range)
    have ha':=List.mem_range.1 ha
    have hb':=List.mem_range.1 hb
    have h1:=(hf2 a ha').1
    have h2:=(hf2 b hb').1
    rw[e]at h1
    obtain⟨_,x,hx,hp,hat⟩:=(hI.frm _ _).1 h1
    obtain⟨_,y,hy,hq,hbt⟩:=(hI.frm _ _).1 h2
    rw[hx]at hy; cases hy
    omega
  · obtain⟨i,hi,rfl⟩:=List.mem_map.1 hj
    have :=(hf2 i (List.mem_range.1 hi)).2
    intro q
    apply this
    unfold vw at q
    simpa using q
theorem DM {w:World} {p n F:Nat} {V:VS} {X:Th} (hS:Sat w [Zq p n F V,X]) (hn:n≤80000000000) (id:Int):
    Calls Tryz.prog 102 #[ptrV p 0,intV id] w (Ret fun v w'=> ∃e,v=intV e∧Sat w' [Zq p (n+1) F (H3 V id),X]):= by
  obtain⟨S,hI,rfl,hF,hS⟩:=JT hS
  refine(Oi hS hI hn id).mono fun e w h=>h.mono fun v w h=> ?_
  cases hid:S.all id with
  | none=>
    rw[hid]at h
    have e:H3 (vw S) id=vw S:= by unfold H3; rw[UE hid]
    rw[e]
    by_cases q:id=0
    · exact⟨0, by rw[h.1,if_pos q],X1 (by omega) (ZF hI rfl hF h.2)⟩
    · exact⟨4, by rw[h.1,if_neg q],X1 (by omega) (ZF hI rfl hF h.2)⟩
  | some x=>
    rw[hid]at h
    have hr:=(hI.ent hid).2.2
    obtain⟨a,b,c⟩:=FL (r:=x.refs+1) hI hid ⟨by omega, by omega⟩
    refine⟨0,h.1,ZF a ?_ ⟨b.frn.trans hF.1,b.slo.trans hF.2⟩ h.2⟩
    rw[c,G8];unfold H3; rw[UD hid]
theorem R1 {w:World} {p n F:Nat} {V:VS} {X:Th} (hS:Sat w [Zq p n F V,X]) (hn:n≤80000000000) (id:Int):
    Calls Tryz.prog 104 #[ptrV p 0,intV id] w (Ret fun v w'=> ∃e,v=intV e∧Sat w' [Zq p (n+1) F (Z2 V id),X]):= by
  obtain⟨S,hI,rfl,hF,hS⟩:=JT hS
  refine(S5 hS hI hn id).mono fun e w h=>h.mono fun v w h=> ?_
  cases hid:S.all id with
  | none=>
    rw[hid]at h
    have e:Z2 (vw S) id=vw S:= by unfold Z2; rw[UE hid]
    rw[e]
    by_cases q:id=0
    · exact⟨0, by rw[h.1,if_pos q],X1 (by omega) (ZF hI rfl hF h.2)⟩
    · exact⟨4, by rw[h.1,if_neg q],X1 (by omega) (ZF hI rfl hF h.2)⟩
  | some x=>
    rw[hid]at h
    have hr:=(hI.ent hid).2.2
    rcases h with⟨h1,⟨h2,h3⟩ | ⟨h2,S',h3,h4⟩⟩
    · obtain⟨a,b,c⟩:=FL (r:=x.refs -1) hI hid ⟨by omega, by omega⟩
      refine⟨0,h1,ZF a ?_ ⟨b.frn.trans hF.1,b.slo.trans hF.2⟩ h3⟩
      rw[c,G8];unfold Z2; rw[UD hid]; dsimp only; rw[if_pos h2]
    · refine⟨0,h1,ZF h3.inv ?_ ⟨h3.f.frn.trans hF.1,h3.f.slo.trans hF.2⟩ h4⟩
      rw[h3.is,G8];unfold Z2; rw[UD hid]; dsimp only; rw[if_neg (by omega)]
theorem GD {w:World} {p n F:Nat} {V:VS} {X:Th} (hS:Sat w [Zq p n F V,X]) (id:Int):
    Calls Tryz.prog 23 #[ptrV p 0,intV id] w (Ret fun v w'=>v=intV (Zz V id)∧Sat w' [Zq p n F V,X]):= by
  obtain⟨S,hI,rfl,hF,hS⟩:=JT hS
  refine(Ee hS id).mono fun e w h=>h.mono fun v w h=> ?_
  refine⟨?_,ZF hI rfl hF h.2⟩
  rw[h.1];unfold Zz
  cases hid:S.all id with
  | none=> rw[UE hid]
  | some x=> rw[UD hid]
theorem Y7 {w:World} {p n F:Nat} {V:VS} {X:Th} (hS:Sat w [Zq p n F V,X]) (id:Int):
    Calls Tryz.prog 34 #[ptrV p 0,intV id] w (Ret fun v w'=>v=strV (XT V id)∧Sat w' [Zq p n F V,X]):= by
  obtain⟨S,hI,rfl,hF,hS⟩:=JT hS
  refine(T4 hS hI id (fun q=>q)).mono fun e w h=>h.mono fun v w h=> ?_
  exact⟨by rw[h.1,OJ],ZF hI rfl hF h.2⟩
theorem Oe {w:World} {p n F:Nat} {V:VS} {X:Th} (hS:Sat w [Zq p n F V,X]) (hn:n≤80000000000) (id a:Int):
    Calls Tryz.prog 47 #[ptrV p 0,intV id,intV a] w (Ret fun v w'=>v=XS (btV V id a)∧Sat w' [Zq p n F V,X]):= by
  obtain⟨S,hI,rfl,hF,hS⟩:=JT hS
  refine(Ej hS hI hn id a).mono fun e w h=>h.mono fun v w h=> ?_
  exact⟨by rw[h.1];unfold Ek btV; rw[OJ],ZF hI rfl hF h.2⟩
theorem BM {w:World} {p n F:Nat} {V:VS} {X:Th} (hS:Sat w [Zq p n F V,X]) (hn:n≤80000000000) {pg:Bs} (hpg:pg.length=64):
    Calls Tryz.prog 105 #[ptrV p 0,strV pg] w (Ret fun v w'=>(v= .tuple #[intV 0,intV 6]∧Ho V F∧Sat w' [Zq p (n+1) F V,X])∨(∃id,v= .tuple #[intV id,intV 0]∧1≤id∧V id=none∧Sat w' [Zq p (n+1) F (Xz V id (some (1,pg))),X])):= by
  obtain⟨S,hI,rfl,hF,hS⟩:=JT hS
  refine(DO hS hI hn hpg).mono fun e w h=>h.mono fun v w h=> ?_
  rcases h with⟨h1,h2,h3,h4⟩ | ⟨h1,S',h2,h3⟩
  · exact .inl ⟨h1, by rw[←hF.1]; exact Rd hI h2,X1 (by omega) (ZF hI rfl hF h4)⟩
  · exact .inr ⟨_,h1,h2.pos,UE h2.was,ZF h2.inv (by rw[h2.is,G8]) ⟨h2.f.frn.trans hF.1,h2.f.slo.trans hF.2⟩ h3⟩
theorem Od {w:World} {p n F:Nat} {V:VS} {X:Th} (hS:Sat w [Zq p n F V,X]) (hn:n≤80000000000) {pg:Bs} (hpg:pg.length=64):
    Calls Tryz.prog 115 #[ptrV p 0,strV pg] w (Ret fun v w'=>(pg=zer∧v= .tuple #[intV 0,intV 0]∧Sat w' [Zq p (n+1) F V,X])∨(pg≠zer∧v= .tuple #[intV 0,intV 6]∧Ho V F∧Sat w' [Zq p (n+1) F V,X])∨(∃id,pg≠zer∧v= .tuple #[intV id,intV 0]∧1≤id∧V id=none∧Sat w' [Zq p (n+1) F (Xz V id (some (1,pg))),X])):= by
  obtain⟨S,hI,rfl,hF,hS⟩:=JT hS
  refine(Eg hS hI hn hpg).mono fun e w h=>h.mono fun v w h=> ?_
  rcases h with⟨h0,h1,h4⟩ | ⟨h0,⟨h1,h2,h3,h4⟩ | ⟨h1,S',h2,h3⟩⟩
  · exact .inl ⟨h0,h1,X1 (by omega) (ZF hI rfl hF h4)⟩
  · exact .inr (.inl ⟨h0,h1, by rw[←hF.1]; exact Rd hI h2,X1 (by omega) (ZF hI rfl hF h4)⟩)
  · exact .inr (.inr ⟨_,h0,h1,h2.pos,UE h2.was,ZF h2.inv (by rw[h2.is,G8]) ⟨h2.f.frn.trans hF.1,h2.f.slo.trans hF.2⟩ h3⟩)
theorem stSet {w:World} {p n F:Nat} {V:VS} {X:Th} (hS:Sat w [Zq p n F V,X]) (hn:n≤80000000000) (id a:Int) (b:UInt8):
    Calls Tryz.prog 45 #[ptrV p 0,intV id,intV a,XS b] w (Ret fun v w'=>(∃e,v=intV e∧e≠0∧(V id=none∨1<Zz V id∨a<0∨64≤a∨Ho V F)∧Sat w' [Zq p (n+1) F V,X])∨(∃r pg,V id=some (r,pg)∧v=intV 0∧(0≤a∧a<64)∧Sat w' [Zq p (n+1) F (Xz V id (some (r,pg.set a.toNat b))),X])):= by
  obtain⟨S,hI,rfl,hF,hS⟩:=JT hS
  refine(Oh hS hI hn id a b).mono fun e w h=>h.mono fun v w h=> ?_
  rcases h with⟨e,h1,h2,h3,h4⟩ | ⟨x,S',h1,h2,h3,h4,h5⟩
  · exact .inl ⟨e,h1,h2,h3.imp UE (Or.imp (fun ⟨x,q1,q2⟩=> by unfold Zz; rw[UD q1]; exact q2) (Or.imp (fun q=>q) (Or.imp (fun q=>q) fun q=> by rw[←hF.1]; exact Rd hI q))),X1 (by omega) (ZF hI rfl hF h4)⟩
  · exact .inr ⟨x.refs,x.pg,UD h1,h2,h3,ZF h4.inv (by rw[h4.is,G8]) ⟨h4.f.frn.trans hF.1,h4.f.slo.trans hF.2⟩ h5⟩
theorem stNew {w:World} {X:Th} (hS:Sat w [X]) (count slots budget:Int) (hsl:((default:SlW).v:Int)=min (max slots 0) 4096):
    Calls Tryz.prog 15 #[intV count,intV slots,intV budget] w (Ret fun v w'=> ∃p,v=ptrV p 0∧Sat w' [Zq p 0 (min (max count 1) 256).toNat (fun _=>none),X]):= by
  refine(Oj hS count slots budget).mono fun e w h=>h.mono fun v w h=> ?_
  obtain⟨p,h1,h2⟩:=h
  exact⟨p,h1,ZF (OU count slots budget) (by funext j;rfl) ⟨by simp [K2], by show(K2 count slots budget).slots=_; rw[hsl]; simp [K2]⟩ h2⟩
end Go.Proofs.YtkcjfoaejijdoaaGreatDoor
