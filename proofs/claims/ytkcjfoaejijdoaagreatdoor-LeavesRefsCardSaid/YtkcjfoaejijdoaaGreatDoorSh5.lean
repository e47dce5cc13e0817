/- sheets: the store; giveUp, packed and what tells -/
import Derived.Test.YtkcjfoaejijdoaaGreatDoorCk2
import Derived.Test.YtkcjfoaejijdoaaGreatDoorFw
set_option linter.unusedVariables false
set_option maxRecDepth 100000
set_option maxHeartbeats 1600000
namespace Go.Proofs.YtkcjfoaejijdoaaGreatDoor
open Go.RowKit M
def Kw (x:ShE):Bs:= if x.place=2 then fm x.pg else[]
def PW (x:ShE):Value:= .agg #[intV x.refs,intV x.place,intV x.at_,strV (Kw x)]
def aG (A:Int→Option ShE):Int→Option Value:= fun k=>(A k).map PW
theorem Jn {A:Int→Option ShE} {k:Int} {x:ShE} {z:Value} (h:A k=some x):(aG A k).getD z= .agg #[intV x.refs,intV x.place,intV x.at_,strV (Kw x)]:= by unfold aG; rw[h];rfl
theorem YL {A:Int→Option ShE} {k:Int} {x:ShE} (h:A k=some x):(aG A k).isSome=true:= by unfold aG; rw[h];rfl
theorem Hg {A:Int→Option ShE} {k:Int} {z:Value} (h:A k=none):(aG A k).getD z=z:= by unfold aG; rw[h];rfl
theorem YM {A:Int→Option ShE} {k:Int} (h:A k=none):(aG A k).isSome=false:= by unfold aG; rw[h];rfl
theorem Kd (A:Int→Option ShE) (k:Int) (x:ShE):upd (aG A) k (some (PW x))=aG (up A k (some x)):= by
  funext j
  by_cases h:j=k
  · subst h; rw[Wd];unfold aG; rw[XW];rfl
  · rw[Jd h];unfold aG; rw[Zm h]
theorem PM (A:Int→Option ShE) (k:Int):upd (aG A) k none=aG (up A k none):= by
  funext j
  by_cases h:j=k
  · subst h; rw[Wd];unfold aG; rw[XW];rfl
  · rw[Jd h];unfold aG; rw[Zm h]
theorem gI_del (g:Int→Option Int) (k:Int):upd (gI g) k none=gI (up g k none):= by
  funext j
  by_cases h:j=k
  · subst h; rw[Wd];unfold gI; rw[XW];rfl
  · rw[Jd h];unfold gI; rw[Zm h]
structure ShX where
  ba:Nat
  bi:Nat
  fp:Nat
  sp:Nat
  kp:Nat
  cv:Value
  tv:Value
def Ye (p:Nat) (S:SS):Th:=Ca fun q:ShX=>starL [Q3 p [.map (some q.ba),.map (some q.bi),q.cv,ptrV q.fp 0,ptrV q.sp 0,ptrV q.kp 0,intV S.slots,intV S.budget,intV S.next,q.tv],Q5 QO q.ba (aG S.all),Q5 QO q.bi (gI S.inn),rowT inC q.cv S.cache,VR q.fp S.fr,R9 q.sp S.sl,MG q.kp S.ck,rowT inC q.tv S.taken]
theorem XX {w:World} {p:Nat} {S:SS} {As:List Th} (h:Sat w (Ye p S::As)): ∃ba bi fp sp kp ac cc at2 ct,Sat w (Q3 p [.map (some ba),.map (some bi),.slice ac S.cache.length cc,ptrV fp 0,ptrV sp 0,ptrV kp 0,intV S.slots,intV S.budget,intV S.next,.slice at2 S.taken.length ct]::Q5 QO ba (aG S.all)::Q5 QO bi (gI S.inn)::rowT inC (.slice ac S.cache.length cc) S.cache::VR fp S.fr::R9 sp S.sl::MG kp S.ck::rowT inC (.slice at2 S.taken.length ct) S.taken::As):= by
  obtain⟨⟨ba,bi,fp,sp,kp,cv,tv⟩,h⟩:=h.ex
  replace h:=h.flat
  obtain⟨ac,cc,hv,_⟩:=Sat.own_shape (As:=Q3 p _::Q5 QO ba (aG S.all)::Q5 QO bi (gI S.inn)::rowT inC cv S.cache::VR fp S.fr::R9 sp S.sl::MG kp S.ck::rowT inC tv S.taken::As) h 3 rfl
  obtain rfl:=hv
  obtain⟨at2,ct,hv,_⟩:=Sat.own_shape (As:=Q3 p _::Q5 QO ba (aG S.all)::Q5 QO bi (gI S.inn)::rowT inC _ S.cache::VR fp S.fr::R9 sp S.sl::MG kp S.ck::rowT inC tv S.taken::As) h 7 rfl
  obtain rfl:=hv
  exact⟨ba,bi,fp,sp,kp,ac,cc,at2,ct,h⟩
theorem QY {w:World} {p:Nat} {S:SS} {As:List Th} {ba bi fp sp kp:Nat} {cv tv:Value} (h:Sat w (Q3 p [.map (some ba),.map (some bi),cv,ptrV fp 0,ptrV sp 0,ptrV kp 0,intV S.slots,intV S.budget,intV S.next,tv]::Q5 QO ba (aG S.all)::Q5 QO bi (gI S.inn)::rowT inC cv S.cache::VR fp S.fr::R9 sp S.sl::MG kp S.ck::rowT inC tv S.taken::As)):Sat w (Ye p S::As):=
  Sat.ex_intro (f:= fun q:ShX=>starL [Q3 p [.map (some q.ba),.map (some q.bi),q.cv,ptrV q.fp 0,ptrV q.sp 0,ptrV q.kp 0,intV S.slots,intV S.budget,intV S.next,q.tv],Q5 QO q.ba (aG S.all),Q5 QO q.bi (gI S.inn),rowT inC q.cv S.cache,VR q.fp S.fr,R9 q.sp S.sl,MG q.kp S.ck,rowT inC q.tv S.taken]) ⟨ba,bi,fp,sp,kp,cv,tv⟩
    (Sat.fold (As:=[Q3 p _,Q5 QO ba (aG S.all),Q5 QO bi (gI S.inn),rowT inC cv S.cache,VR fp S.fr,R9 sp S.sl,MG kp S.ck,rowT inC tv S.taken]) h)
theorem VD {w:World} {F:Th} (hS:Sat w [F]) {lv:Value} {l:List Int} (hL:Ent F (RdL inC lv l)) (hln:l.length≤100000000000):
    Calls Tryz.prog 76 #[lv] w (Ret fun v w'=>Sat w' [rowT inC v l,F]):= by
 obtain⟨ao,cap,rfl,hmax⟩:=(hL.sat hS 0 rfl).shape
 refine Qm Tryz.func76 U Tryz.ntmps76 U ?_
 refine Qd (Qa (Qe U U (Qf (Qc (Qd (Qd (Qa (Qb U U (Ce Tryz.underlying47 U U U (Qf (Qc (QN U (fun h1=> ?_) (fun h1=> ?_)))))))))))))
 ·refine Qd (Qa (Qe U U (Qf (Qc (Qu (Qp (QR (.inr U) U U ?_)))))))
  obtain rfl:=Option.isNone_iff_eq_none.1 (by assumption:ao.isNone=true)
  have hnl:l=[]:=(hL.sat hS 0 U).isNil
  exact⟨_,rfl, by rw[hnl]; exact(hS.pick [0] U).row_nil inC⟩
 refine Qt (Qc (Qd (Qa (Zf inC [] hS U Tryz.underlying47 Uc U U U U (by first | rfl | simp [RowC.cells,Jl,X9]) U ?_))))
 intro b2 w2 hS2
 refine Qb U U ?_
 refine ZM inC 0 hS2 U U U (hL.sat hS2 1 U) Tryz.underlying47 Tryz.underlying47 (by intro k hk; cases hk) UB U (by simp only[List.length_nil];omega) U (by simp only[List.length_nil];omega) ?_
 intro v3 w3 hS3; dsimp only[List.set]at hS3
 clear hS2
 have h1v3:v3.oneCell'=true:=hS3.own_one 0 U
 exact Qe U U (Qf (Qc (Qu (QR (.inr U) U U (⟨_,rfl,hS3.pick [0,1] U⟩)))))
theorem FC {w:World} {p:Nat} {S:SS} {F:Th} (hS:Sat w [Ye p S,F]) (id:Int):
    Calls Tryz.prog 23 #[ptrV p 0,intV id] w (Ret fun v w'=>v=(match S.all id with | none=>intV 0 | some x=>intV x.refs)∧Sat w' [Ye p S,F]):= by
 obtain⟨ba,bi,fp,sp,kp,ac,cc,at2,ct,hS⟩:=XX hS
 cases hid:S.all id with
 | none=>
  refine Qm Tryz.func23 U Tryz.ntmps23 U ?_
  exact Qd (Qa (Qe U U (Qf (Qc (Qd (Qa (Qb U U (Qj U U (Qg U XI U (Qn U Zn (hS.cell 0 U U) U (Qb U U (XT (k:=id) 1 hS keysInt Tryz.underlying108 U U U XJ (u:=(.agg #[intV 0,intV 0,intV 0,strV []])) (Hg hid) U (Bp Rf U U U (Qe U U (Qf (Qc (Qu (QR (.inr U) U U (⟨_,rfl,rfl,QY (hS.pick [0,1,2,3,4,5,6,7,8] U)⟩)))))))))))))))))))
 | some x=>
  refine Qm Tryz.func23 U Tryz.ntmps23 U ?_
  exact Qd (Qa (Qe U U (Qf (Qc (Qd (Qa (Qb U U (Qj U U (Qg U XI U (Qn U Zn (hS.cell 0 U U) U (Qb U U (XT (k:=id) 1 hS keysInt Tryz.underlying108 U U U XJ (u:=(.agg #[intV x.refs,intV x.place,intV x.at_,strV (Kw x)])) (Jn hid) U (Bp Rf U U U (Qe U U (Qf (Qc (Qu (QR (.inr U) U U (⟨_,rfl,rfl,QY (hS.pick [0,1,2,3,4,5,6,7,8] U)⟩)))))))))))))))))))
theorem FB {w:World} {p:Nat} {S:SS} {F:Th} (hS:Sat w [Ye p S,F]) {E:Int→Prop} {N:Nat} (hI:ShI E N S):
    Calls Tryz.prog 18 #[ptrV p 0] w (Ret fun v w'=>v=intV ((S.fr.length:Int) -(Jh S.fr:Int)+S.slots -(Wo S.sl:Int))∧Sat w' [Ye p S,F]):= by
 have h1:=HS S.fr
 have h2:=Y9 S.sl
 have h3:=hI.fr2
 have h4:=hI.sl2
 have h5:=hI.slo
 obtain⟨ba,bi,fp,sp,kp,ac,cc,at2,ct,hS⟩:=XX hS
 refine Qm Tryz.func18 U Tryz.ntmps18 U ?_
 refine Qd (Qa (Qe U U (Qf (Qc (Qd ?_)))))
 have hS1:=hS.drew
 refine QF [0,1,2,3,5,6,7,8,11,12,13,14,16,17,18,19,4,9,10,15,20,21,22] [4,9,20] We (by kernel_rfl) ?_
 refine QG U U U (Xh U U U (QV U U U Wr (Q4 U U U (Qr U JF (hS1.cell 0 U U)) (QG U U U (Xh U U U (QV U U U Wr (Q4 U U U (Qr U JF (hS1.cell 0 U U)) (QG U U U (Xh U U U (QV U U U Nb (Q4 U U U (Qr U QL (hS1.cell 0 U U)) (QG U U U (Xh U U U (QV U U U Yp (Q4 U U U (Qr U H2 (hS1.cell 0 U U)) (Xn U U U U U U ?_))))))))))))))))
 refine Qw cal_60 U (Lq (hS1.sp [4] U)) U ?_
 rintro _ w2 ⟨rfl,hS2⟩
 replace hS2:=hS2.jn U U
 clear hS1
 refine XQ (.cons (.inl ⟨rfl,(Qr U H2 (hS2.cell 1 U U))⟩) (.cons (.inl ⟨rfl,(Qr U QL (hS2.cell 1 U U))⟩) (.cons (.inl ⟨rfl,(Qr U JF (hS2.cell 1 U U))⟩) (X1 (by kernel_rfl))))) ?_
 refine Xn U U U U U U ?_
 refine Qw cal_61 U (Lp (hS2.sp [0] U)) U ?_
 rintro _ w3 ⟨rfl,hS3⟩
 replace hS3:=hS3.jn U U
 clear hS2
 refine XQ (.cons (.inl ⟨rfl,(Qr U H2 (hS3.cell 1 U U))⟩) (.cons (.inl ⟨rfl,(Qr U QL (hS3.cell 1 U U))⟩) (X1 (by kernel_rfl)))) ?_
 refine X8 U U U (fun _=>(Bc U U (by omega) (by omega))) ?_
 refine X8 U U U (fun _=>(Kx U U (by omega) (by omega))) ?_
 refine Xn U U U U U U ?_
 refine Qw OI U (Md (hS3.sp [5] U)) U ?_
 rintro _ w4 ⟨rfl,hS4⟩
 replace hS4:=hS4.jn U U
 clear hS3
 refine XQ (.skip (by kernel_rfl) (.cons (.inl ⟨rfl,(Qr U QL (hS4.cell 2 U U))⟩) (X1 (by kernel_rfl)))) ?_
 refine X8 U U U (fun _=>(Bc U U (by omega) (by omega))) ?_
 exact Za U U U (VC.nil (Qc (Qh [2] U (Qu (QR (.inr U) U U (⟨_,rfl,rfl,QY (hS4.pick [2,3,4,5,1,0,6,7,8] U)⟩))))))
theorem RO {w:World} {p:Nat} {S:SS} {F:Th} (hS:Sat w [Ye p S,F]) {f:Int} {b0:Bs} (hf:ZS S.fr f=some b0) (hck:S.ck.length=S.fr.length) (htl:S.taken.length≤90000000000):
    Calls Tryz.prog 152 #[ptrV p 0,intV f] w (Ret fun v w'=>v= .tuple #[]∧Sat w' [Ye p (offFrame S f),F]):= by
 obtain⟨hf0,hfl⟩:=GY hf
 have hfc:0≤f∧f<(S.ck.length:Int):= by omega
 obtain⟨ba,bi,fp,sp,kp,ac,cc,at2,ct,hS⟩:=XX hS
 refine Qm Tryz.func152 U Tryz.ntmps152 U ?_
 refine Qd (Qa (Qb U U (Qj U U (Qg U Wr U (Qn U JF (hS.cell 0 U U) U (Qb U U (Qw cal_185 U (Lr (hS.sp [4] U) f) U ?_)))))))
 rintro _ w1 ⟨_,rfl,hS1⟩
 replace hS1:=hS1.jn U U
 rw[show Kv S.fr f=S.fr.set f.toNat none by unfold Kv; rw[hf]]at hS1
 refine Qf (Qc (Qd (Qa (Qb U U (Qj U U (Qg U UW U (Qn U D4 (hS1.cell 1 U U) U (Qb U U (Qw TL U (ckgoneT (hS1.sp [6] U) f hfc) U ?_)))))))))
 rintro _ w2 ⟨rfl,hS2⟩
 replace hS2:=hS2.jn U U
 clear hS1
 refine Qf (Qc (Qh [1,0] U (Qd (Qa (Qb U U (Qj U U (Qg U H0 U (Qn U Jg (hS2.cell 2 U U) U (Qb U U (Yv (k:=f) 4 hS2 keysInt Tryz.underlying109 U U U U ?_))))))))))
 intro w3 hS3; dsimp only[List.set]at hS3; rw[gI_del]at hS3
 clear hS2
 refine Qf (Qc (Qa (Qb U U (Qb U U (Qj U U (Qg U CZ U (Qn U YK (hS3.cell 2 U U) U (Qb U U (Zf inC [f] hS3 U Tryz.underlying47 Uc U U U U (by rfl) rfl ?_)))))))))
 intro b4 w4 hS4
 clear hS3
 refine ZM inC 8 hS4 U U U (hS4.rd 0 U (by simp)) Tryz.underlying47 Tryz.underlying47 (by intro k hk; cases hk) UB U (by simp only[List.length_cons,List.length_nil];omega) U (by simp only[List.length_cons,List.length_nil];omega) ?_
 intro v5 w5 hS5; dsimp only[List.set]at hS5
 clear hS4
 have h1v5:v5.oneCell'=true:=hS5.own_one 8 U
 refine Qj U U (Qg U CZ U ?_)
 first | (refine Q6 hS5 U U KH (by assumption) (i:=3) U (Xa U) ?_)
 intro w6 hS7; dsimp only[List.set]at hS7
 clear hS5
 exact Qf (ZD (.inl U) U (⟨_,rfl,rfl,QY (S:=offFrame S f) (hS7.pick [3,4,5,6,2,7,1,8,9] U)⟩))
theorem F8 {A:Int→Option ShE} {l:List Int} {i:Nat} {j:Int} {x:ShE} (hj:l[i]? =some j) (hx:A j=some x) (hp:x.place=2):WJ A (l.take (i+1))=WJ A (l.take i)+(Kw x).length:= by
  rw[List.take_add_one,hj]
  unfold WJ
  simp only[Option.toList_some,List.map_append,List.map_cons,List.map_nil,List.sum_append,List.sum_cons,List.sum_nil]
  unfold fmL Kw
  rw[hx,if_pos hp];rfl
theorem F9 {A:Int→Option ShE} {l:List Int} {i:Nat} {j:Int} {x:ShE} (hj:l[i]? =some j) (hx:A j=some x) (hp:x.place=2):WJ A (l.drop i)=(Kw x).length+WJ A (l.drop (i+1)):= by
  obtain⟨hi,he⟩:=XR hj
  rw[List.drop_eq_getElem_cons hi,he]
  unfold WJ
  rw[List.map_cons,List.sum_cons]
  unfold fmL Kw
  rw[hx,if_pos hp]
theorem fm_le (p:Bs):(fm p).length≤47:= by
  unfold fm
  cases h:Ub p with
  | none=> simp
  | some f=> exact(BP h).1
theorem GM (A:Int→Option ShE): ∀l:List Int,WJ A l≤47*l.length
  | []=> by simp [WJ]
  | j::l=> by
    have h1:=GM A l
    unfold WJ at h1⊢
    rw[List.map_cons,List.sum_cons,List.length_cons]
    have :fmL A j≤47:= by
      unfold fmL
      cases A j with
      | none=> simp
      | some x=> exact fm_le x.pg
    omega
theorem Cp {w:World} {p:Nat} {S:SS} {F:Th} (hS:Sat w [Ye p S,F]) {E:Int→Prop} {N:Nat} (hI:ShI E N S) (hN:N≤90000000000):
    Calls Tryz.prog 204 #[ptrV p 0] w (Ret fun v w'=>v=intV ((WJ S.all S.cache:Nat):Int)∧Sat w' [Ye p S,F]):= by
 have hcl:=hI.cln
 obtain⟨ba,bi,fp,sp,kp,ac,cc,at2,ct,hS⟩:=XX hS
 refine Qm Tryz.func204 U Tryz.ntmps204 U ?_
 refine Qd (Qa (Qe U U (Qf (Qc (Qd (Qa (Qe U U (Qf (Qc (Qd (Qd (Qa (Qb U U (Qj U U (Qg U W6 U (Qn U YK (hS.cell 0 U U) U (Xr Tryz.underlying47 U U (Qb U U (Qf (Qc (Qv ?_)))))))))))))))))))))
 refine Xb (fun K0 E0 W0=> ∃(i:Nat),K0=S.cache.length -i∧E0=[(0,ptrV p 0),(3,intV ((WJ S.all (S.cache.take i):Nat):Int)),(9,.slice ac S.cache.length cc),(10,intV (S.cache.length:Int)),(11,intV (i:Int))]∧Sat W0 [Q3 p [.map (some ba),.map (some bi),.slice ac S.cache.length cc,ptrV fp 0,ptrV sp 0,ptrV kp 0,intV S.slots,intV S.budget,intV S.next,.slice at2 S.taken.length ct],Q5 QO ba (aG S.all),Q5 QO bi (gI S.inn),rowT inC (.slice ac S.cache.length cc) S.cache,VR fp S.fr,R9 sp S.sl,MG kp S.ck,rowT inC (.slice at2 S.taken.length ct) S.taken,F]∧(i≤S.cache.length)) (L0:=[(0,_),(3,_),(9,_),(10,_),(11,_)]) (S.cache.length -0) (YU U U U U U) ⟨0,rfl,rfl,hS, by omega⟩ ?_
 rintro _ _ w1 ⟨i,rfl,rfl,hS1,hi⟩
 refine Qd (Qa (Xg U U U (Qf (Qc (Qd (Qs U (fun h2=> ?_) (fun h2=> ?_)))))))
 ·obtain⟨j,hj⟩: ∃j,S.cache[i]? =some j:=⟨_,Zi (by omega)⟩
  obtain⟨_,x,hx,hp⟩:=hI.cch (List.mem_of_getElem? hj)
  have hsl:=GM S.all (S.cache.take i)
  have htl:=List.length_take_le i S.cache
  have hfl:(Kw x).length≤47:= by unfold Kw; rw[if_pos hp]; exact fm_le x.pg
  refine Qt (Qc (Qd (Qv (Qd (Qa (QW inC 3 i hS1 U U U (by first | rfl | omega) hj JQ U ?_))))))
  intro bx3 capx3 hvx3
  refine XE 3 i 0 hS1 U hvx3 U U hj QL U U (Qe U U (Qf (Qc (Qa (Qb U U (Qb U U (Qj U U (Qg U XI U (Qn U Zn (hS1.cell 0 U U) U (Qb U U (XT (k:=j) 1 hS1 keysInt Tryz.underlying108 U U U XJ (u:=(.agg #[intV x.refs,intV x.place,intV x.at_,strV (Kw x)])) (Jn hx) U (Bp CT U U U (WD Tryz.underlying9 U U (QI U U (by omega) (by omega) U ?_))))))))))))))
  refine Qe U U (Qf (Qk (Qc (Qh [11,10,9,0,3] U (Qa (QI U U (by omega) (by omega) U ?_))))))
  refine Qb U U (Qf ?_)
  exact Q0 (L1:=[(0,_),(3,intV ((WJ S.all (S.cache.take (i+1)):Nat):Int)),(9,_),(10,_),(11,intV ((i+1:Nat):Int))]) (by rw[F8 hj hx hp]; exact(YU U U U U U)) (k1:=S.cache.length -(i+1)) (by omega) ⟨i+1,rfl,rfl,hS1.pick [0,1,2,3,4,5,6,7,8] U, by omega⟩
 exact QM (Qo (Qo (Qx (Qc (Qd (Qa (Qb U U (Qe U U (Qf (Qc (Qu (QR (.inr U) U U (⟨_,rfl, by rw[List.take_of_length_le (by omega)],QY (hS1.pick [0,1,2,3,4,5,6,7,8] U)⟩)))))))))))))
structure PkS (E:Int→Prop) (S S1:SS):Prop where
  go:ShG S S1
  inn:S1.inn=S.inn
  fr:S1.fr=S.fr
  ck:S1.ck=S.ck
  tak:S1.taken=S.taken
  one: ∀j x,S.all j=some x→x.place=1∨E j→S1.all j=some x
theorem PkS.refl (E:Int→Prop) (S:SS):PkS E S S:=⟨ShG.refl S,rfl,rfl,rfl,rfl, fun _ _ h _=>h⟩
theorem Ld {E:Int→Prop} {T:Nat} {S0 S:SS} {j:Int} {c:List Int} {x:ShE} {k:Nat} (h:ShI E T S) (hp:PkS E S0 S) (hc:S.cache=j::c) (hx:S.all j=some x) (hk:S.sl[k]? =some []):
    ShI E T {S with all:=up S.all j (some ⟨x.refs,3,(k:Nat),x.pg⟩),sl:=S.sl.set k x.pg,cache:=c}∧PkS E S0 {S with all:=up S.all j (some ⟨x.refs,3,(k:Nat),x.pg⟩),sl:=S.sl.set k x.pg,cache:=c}:= by
  obtain⟨hje,x',hx',hpl⟩:=h.cch (j:=j) (by rw[hc]; simp)
  obtain rfl:x=x':= by rw[hx]at hx'; cases hx';rfl
  have hjc:j∉c:= by have :=h.nod; rw[hc]at this; exact(List.nodup_cons.1 this).1
  have h1:=h.offCache hx hpl (c:=c) (by rw[hc]; exact List.sublist_cons_self j c) (fun i=> by
    rw[hc]
    constructor
    · intro hi; exact⟨List.mem_cons_of_mem _ hi, fun q=>hjc (q▸hi)⟩
    · rintro⟨hi,hne⟩; exact(List.mem_cons.1 hi).resolve_left hne)
  have h2:=ShI.onSlot (S:={S with cache:=c}) (x:=x) h1 (.inr U) hx hk
  refine⟨h2.congr fun i _=>⟨fun ⟨a,b⟩=>a.resolve_right b, fun a=>⟨.inl a, fun q=>hje (q▸a)⟩⟩, ?_⟩
  refine⟨hp.go.trans ⟨fun i=> ?_,⟨[], by simp, fun i y hy hp1=> .inr ⟨y, ?_,hp1,rfl⟩⟩,rfl,rfl,rfl,rfl⟩,hp.inn,hp.fr,hp.ck,hp.tak, fun i y hy hpy=> ?_⟩
  · show((up S.all j _) i).map _=_
    by_cases q:i=j
    · subst q; rw[XW,hx];rfl
    · rw[Zm q]
  · show(up S.all j _) i=_
    rw[Zm (fun q=> by subst q; rw[hx]at hy; cases hy;omega)]; exact hy
  · show(up S.all j _) i=_
    have h3:=hp.one i y hy hpy
    rw[Zm (fun q=> by
      subst q
      rcases hpy with hpy | hpy
      · rw[hx]at h3; cases h3;omega
      · exact hje hpy)]; exact h3
structure EvS (E:Int→Prop) (T:Nat) (f:Int) (S S':SS):Prop where
  inv:ShI E (T+1) S'
  go:ShG S S'
  fr:S'.fr=S.fr.set f.toNat none
  lim: ∀j x,S.all j=some x→E j→S'.all j=some x
theorem Pv {E:Int→Prop} {T:Nat} {S S1:SS} {id f:Int} {x:ShE} (h0:ShI E T S) (h:ShI E T S1) (hp:PkS E S S1) (hE: ¬E id) (hx:S.all id=some x) (hpl:x.place=1) (hat:x.at_=f) (hpk:Ub x.pg≠none) (hs:(WJ S1.all S1.cache+(fm x.pg).length:Int)≤S1.budget):
    EvS E T f S (offFrame {S1 with all:=up S1.all id (some ⟨x.refs,2,0,x.pg⟩),cache:=S1.cache++[id]} f):= by
  have hx1:=hp.one id x hx (.inl hpl)
  have h1:=h.offFrame hE hx1 hpl hat
  have h2:=ShI.onCache (S:=offFrame S1 f) (x:=x) h1 (.inr U) hx1 hpk hs (by have :=h.cln; show S1.cache.length+1≤_;omega) 0
  refine⟨h2.congr fun i _=>⟨fun ⟨a,b⟩=>a.resolve_right b, fun a=>⟨.inl a, fun q=>hE (q▸a)⟩⟩,hp.go.trans ⟨fun i=> ?_,⟨[f],rfl, fun i y hy hp1=> ?_⟩,rfl,rfl, by show(S1.fr.set _ _).length=_; rw[List.length_set],rfl⟩, by show S1.fr.set _ _=_; rw[hp.fr], fun i y hy hi=> ?_⟩
  · show(up S1.all id _ i).map _=_
    by_cases q:i=id
    · subst q; rw[XW,hx1];rfl
    · rw[Zm q]
  · by_cases q:i=id
    · subst q; rw[hx1]at hy; cases hy; exact .inl (by rw[hat]; simp)
    · exact .inr ⟨y, by show up S1.all id _ i=_; rw[Zm q]; exact hy,hp1,rfl⟩
  · show up S1.all id _ i=_
    rw[Zm (fun q=>hE (by rw[←q]; exact hi))]; exact hp.one i y hy (.inr hi)
theorem Pu {E:Int→Prop} {T:Nat} {S:SS} {id f:Int} {x:ShE} {k:Nat} (h:ShI E T S) (hE: ¬E id) (hx:S.all id=some x) (hpl:x.place=1) (hat:x.at_=f) (hk:S.sl[k]? =some []):
    EvS E T f S (offFrame {S with all:=up S.all id (some ⟨x.refs,3,(k:Nat),x.pg⟩),sl:=S.sl.set k x.pg} f):= by
  have h1:=h.offFrame hE hx hpl hat
  have h2:=ShI.onSlot (S:=offFrame S f) (x:=x) h1 (.inr U) hx hk
  refine⟨h2.congr fun i _=>⟨fun ⟨a,b⟩=>a.resolve_right b, fun a=>⟨.inl a, fun q=>hE (q▸a)⟩⟩,⟨fun i=> ?_,⟨[f],rfl, fun i y hy hp1=> ?_⟩,rfl,rfl, by show(S.fr.set _ _).length=_; rw[List.length_set],rfl⟩,rfl, fun i y hy hi=> ?_⟩
  · show(up S.all id _ i).map _=_
    by_cases q:i=id
    · subst q; rw[XW,hx];rfl
    · rw[Zm q]
  · by_cases q:i=id
    · subst q; rw[hx]at hy; cases hy; exact .inl (by rw[hat]; simp)
    · exact .inr ⟨y, by show up S.all id _ i=_; rw[Zm q]; exact hy,hp1,rfl⟩
  · show up S.all id _ i=_
    rw[Zm (fun q=>hE (by rw[←q]; exact hi))]; exact hy
theorem Ls {E:Int→Prop} {T:Nat} {S:SS} {f:Int} {b:Bs} (h:ShI E T S) (hf:ZS S.fr f=some b): ∃id x,S.inn f=some id∧ ¬E id∧S.all id=some x∧x.place=1∧x.at_=f∧x.pg=b:= by
  cases hq:S.inn f with
  | none=> exact absurd hq (h.fru hf)
  | some id=>
    obtain⟨h1,x,h2,h3,h4⟩:=(h.frm f id).1 hq
    have :=h.frc h1 h2 h3
    rw[h4,hf]at this
    exact⟨id,x,rfl,h1,h2,h3,h4, by cases this;rfl⟩
theorem gI_some {g:Int→Option Int} {k j:Int} {z:Value} (h:g k=some j):(gI g k).getD z=intV j:= by unfold gI; rw[h];rfl
theorem FD {w:World} {p:Nat} {S:SS} {F:Th} (hS:Sat w [Ye p S,F]) {E:Int→Prop} {N:Nat} (hI:ShI E N S) (hN:N≤90000000000) {id:Int} {x:ShE} (hx:S.all id=some x) (hpl:x.place=1):
    Calls Tryz.prog 171 #[ptrV p 0,intV id,strV x.pg] w (Ret fun v w'=>(v= .bool false∧Sat w' [Ye p S,F])∨(∃f S1,v= .bool true∧Ub x.pg=some f∧ShI E N S1∧PkS E S S1∧(WJ S1.all S1.cache+f.length:Int)≤S1.budget∧Sat w' [Ye p {S1 with all:=up S1.all id (some ⟨x.refs,2,0,x.pg⟩),cache:=S1.cache++[id]},F])):= by
 have hx64:x.pg.length=64:=(hI.ent hx).2.2.2.2.1
 have hcl:=hI.cln
 have hul:=Y9 S.sl
 have hslo:=hI.slo
 have hsl2:=hI.sl2
 obtain⟨ba,bi,fp,sp,kp,ac,cc,at2,ct,hS⟩:=XX hS
 cases hpm:Ub x.pg with
 | none=>
  refine Qm Tryz.func171 U Tryz.ntmps171 U ?_
  refine Qd (Qa (Qe U U (Qf (Qc (Qd (Qa (Qb U U (Qw TQ U (Tm (hS.sp [] U) x.pg hx64) U ?_))))))))
  rintro _ w1 ⟨rfl,hS1⟩
  replace hS1:=hS1.jn U U
  rw[hpm]
  dsimp only[Sf,Option.getD_some,Option.isSome_some,Option.getD_none,Option.isSome_none]
  refine Qb U U (Qq U U U (Qq U U U (Qe U U (Qe U U (Qf (Qc (Qh [1,0,6,7,8] U (Qd (Qd (Qa (Qb U U (QQ U U (Qb U U (Ze 25 U (fun h2=> ?_) (fun h2=> ?_)))))))))))))))
  ·exact Qi U U h2 U (Qi U U h2 U (Qi U U h2 U (Qi U U h2 U (Qi U U h2 U (Qi U U h2 U (Qi U U h2 U (Q9 U h2 U U (Qf (Qc (Qh [1,0,6,7,33] U (Xf U (Qd (Qa (Qe U U (Qf (Qc (Qu (Qp (QR (.inr U) U U (⟨_,rfl,.inl ⟨rfl,QY (hS1.pick [0,1,2,3,4,5,6,7,8] U)⟩⟩))))))))))))))))))))
  exact absurd h2 (by simp)
 | some f=>
  have hfl:=(BP hpm).1
  have hss:=GM S.all S.cache
  refine Qm Tryz.func171 U Tryz.ntmps171 U ?_
  refine Qd (Qa (Qe U U (Qf (Qc (Qd (Qa (Qb U U ?_)))))))
  have hC1:=hS.sp [] U
  refine Qw TQ U (Tm hC1 x.pg hx64) U ?_
  rintro _ w1 ⟨rfl,hS1⟩
  replace hS1:=hS1.jn U U; clear hC1
  rw[hpm]
  dsimp only[Sf,Option.getD_some,Option.isSome_some,Option.getD_none,Option.isSome_none]
  refine Qb U U (Qq U U U (Qq U U U (Qe U U (Qe U U (Qf (Qc (Qh [1,0,6,7,8] U (Qd (Qd (Qa (Qb U U (QQ U U (Qb U U (Ze 25 U (fun h2=> ?_) (fun h2=> ?_)))))))))))))))
  ·exact absurd h2 (by simp)
  refine Ql U U h2 (Qb U U (Ql U U h2 (WD Tryz.underlying9 U U (Ql U U h2 (Qb U U (Ql U U h2 (Qj U U (Ql U U h2 (Qg U Na U (Ql U U h2 (Qn U QL (hS1.cell 0 U U) U (Ql U U h2 (YO U U U (QP U h2 U U (Qf (Qc (Qh [1,0,6,7,33] U (Qs U (fun h3=> ?_) (fun h3=> ?_)))))))))))))))))))
  ·exact Qd (Qa (Qe U U (Qf (Qc (Qu (Qp (QR (.inr U) U U (⟨_,rfl,.inl ⟨rfl,QY (hS1.pick [0,1,2,3,4,5,6,7,8] U)⟩⟩))))))))
  refine Qt (Qc (Qd (Qa (Qb U U ?_))))
  have hSc:=QY (hS1.pick [0,1,2,3,4,5,6,7,8] U)
  refine Qw cal_204 U (Cp (hSc.sp [0] U) hI hN) U ?_
  rintro _ w4 ⟨rfl,hS4⟩
  replace hS4:=hS4.jn U U
  clear hSc
  obtain⟨ba,bi,fp,sp,kp,ac,cc,at2,ct,hSo5⟩:=XX (hS4.pick [0,1] rfl)
  obtain⟨_,_,hqc,hccl,_⟩:=hSo5.own_shape 3 rfl; cases hqc
  refine Qb U U (WD Tryz.underlying9 U U (QI U U (by omega) (by omega) U ?_))
  refine Qe U U (Qe U U (Qf (Qc (Qh [1,0,6,7,9,10] U (Qd (Qv ?_))))))
  refine Xb (fun K0 E0 W0=> ∃(k:Nat),K0=S.cache.length -k∧E0=[(0,ptrV p 0),(1,intV id),(7,strV f),(9,intV (k:Int)),(10,intV ((WJ S.all (S.cache.drop k)+f.length:Nat):Int))]∧Sat W0 [Q3 p [.map (some ba),.map (some bi),.slice ac S.cache.length cc,ptrV fp 0,ptrV sp 0,ptrV kp 0,intV S.slots,intV S.budget,intV S.next,.slice at2 S.taken.length ct],Q5 QO ba (aG S.all),Q5 QO bi (gI S.inn),rowT inC (.slice ac S.cache.length cc) S.cache,VR fp S.fr,R9 sp S.sl,MG kp S.ck,rowT inC (.slice at2 S.taken.length ct) S.taken,F]∧(k≤S.cache.length)) (L0:=[(0,_),(1,_),(7,_),(9,_),(10,_)]) (S.cache.length -0) (YU U U U U U) ⟨0,rfl,rfl,hSo5, by omega⟩ ?_
  rintro _ _ w6 ⟨k,rfl,rfl,hS6,hk⟩
  refine Qd (Qd (Qa (Qb U U (Qb U U (Qj U U (Qg U Na U (Qn U QL (hS6.cell 0 U U) U (YO U U U (Qf (Qc (Qh [10,9,7,1,0,44] U (Qs U (fun h7=> ?_) (fun h7=> ?_)))))))))))))
  ·have hkl:k<S.cache.length:= by rcases Nat.lt_or_ge k S.cache.length with q | q; exact q;(exfalso; have hh:=h7; rw[List.drop_of_length_le q]at hh; simp only[WJ,List.map_nil,List.sum_nil]at hh;omega)
   obtain⟨j,hj⟩: ∃j,S.cache[k]? =some j:=⟨_,Zi hkl⟩
   obtain⟨_,y,hy,hyp⟩:=hI.cch (List.mem_of_getElem? hj)
   have hsd:=F9 hj hy hyp
   have hsl:=GM S.all (S.cache.drop k)
   have hdl:(S.cache.drop k).length≤S.cache.length:= by rw[List.length_drop];omega
   refine Qt (Qc (Qv (Qd ?_)))
   obtain⟨ob,oc9,hq9,_⟩:=hS6.own_at 3 rfl (by omega)
   cases hq9
   have hS8:=hS6.drew
   refine QF [0,1,2,3,4,5,6,7,8,9,10,11,12,13,14,15,16] [] We (by kernel_rfl) ?_
   refine QG U U U (QG U U U (Xh U U U (QV U U U XI (Q4 U U U (Qr U Zn (hS8.cell 0 U U)) (QG U U U (Xh U U U (QV U U U W6 (Q4 U U U (Qr U YK (hS8.cell 0 U U)) (QG U U U (X8 U U U (fun _=>(J7 k U U (by rfl) (hkl) JQ)) ?_))))))))))
   refine Q4 U U U (HC inC 3 k 0 hS8 U hj QL U U) (Q4 U U U (Xz (k:=j) 1 hS8 keysInt Tryz.underlying108 U U U XJ (u:=(.agg #[intV y.refs,intV y.place,intV y.at_,strV (Kw y)])) (Jn hy)) (X8 U U U (fun _=>(Rp CT U U)) ?_))
   refine X8 U U U (fun _=>(Bd Tryz.underlying9 U)) ?_
   refine X8 U U U (fun _=>(Bc U U (by omega) (by omega))) ?_
   refine Za U U U (VC.nil (Qc (Qh [9,7,1,0,10] U (Qa (Qb U U (QI U U (by omega) (by omega) U ?_))))))
   refine Qe U U (Qf (Qk ?_))
   exact Q0 (L1:=[(0,_),(1,_),(7,_),(9,intV ((k+1:Nat):Int)),(10,intV ((WJ S.all (S.cache.drop (k+1))+f.length:Nat):Int))]) (by rw[show WJ S.all (S.cache.drop (k+1))+f.length=WJ S.all (S.cache.drop k)+f.length -(Kw y).length by omega,Int.ofNat_sub (by omega)]; exact(YU U U U U U)) (k1:=S.cache.length -(k+1)) (by omega) ⟨k+1,rfl,rfl,hS8.pick [0,1,2,3,4,5,6,7,8] U, by omega⟩
  refine QM (Qo (Qo (Qx (Qc (Qd (Qd ?_))))))
  have hS9:=hS6.drew
  refine QF [0,1,2,3,4,5,6,7,10,8,9,11] [8] We (by kernel_rfl) ?_
  refine QG U U U (Xh U U U (QV U U U Nb (Q4 U U U (Qr U QL (hS9.cell 0 U U)) (QG U U U (Xh U U U (QV U U U Yp (Q4 U U U (Qr U H2 (hS9.cell 0 U U)) (QG U U U (Xn U U U U U U ?_)))))))))
  refine Qw OI U (Md (hS9.sp [5] U)) U ?_
  rintro _ w10 ⟨rfl,hS10⟩
  replace hS10:=hS10.jn U U
  clear hS9
  refine XQ (.skip (by kernel_rfl) (.cons (.inl ⟨rfl,(Qr U QL (hS10.cell 1 U U))⟩) .nil)) ?_
  refine X8 U U U (fun _=>(Bc U U (by omega) (by omega))) ?_
  refine X8 U U U (fun _=>(T0 U U)) ?_
  refine VC.nil (Qc (Qh [9,7,1,0,74] U (Qs U (fun h11=> ?_) (fun h11=> ?_))))
  ·exact Qd (Qa (Qe U U (Qf (Qc (Qu (Qp (QR (.inr U) U U (⟨_,rfl,.inl ⟨rfl,QY (hS10.pick [1,2,3,4,5,0,6,7,8] U)⟩⟩))))))))
  refine Qt (Qc (Qd (Qd ?_)))
  have hS12:=hS10.pick [1,2,3,4,5,0,6,7,8] U
  refine Qa (Qb U U (Qj U U (Qg U W6 U (Qn U YK (hS12.cell 0 U U) U (Qb U U (KA 0 k Tryz.underlying47 JG U (LJ _) (VU k _ U U) (by omega) (by omega) U ?_))))))
  refine Xr (m:=k) Tryz.underlying47 U U (Qb U U (Qf (Qc (Qh [9,7,1,0,80,81,82] U (Qv ?_)))))
  refine Xb (fun K0 E0 W0=> ∃(S1:SS) (i:Nat),K0=k -i∧E0=[(0,ptrV p 0),(1,intV id),(7,strV f),(9,intV (k:Int)),(80,Y8 1 (.slice ac S.cache.length cc) 0 k),(81,intV (k:Int)),(82,intV (i:Int))]∧Sat W0 [Q3 p [.map (some ba),.map (some bi),.slice ac S.cache.length cc,ptrV fp 0,ptrV sp 0,ptrV kp 0,intV S.slots,intV S.budget,intV S.next,.slice at2 S.taken.length ct],Q5 QO ba (aG S1.all),Q5 QO bi (gI S.inn),rowT inC (.slice ac S.cache.length cc) S.cache,VR fp S.fr,R9 sp S1.sl,MG kp S.ck,rowT inC (.slice at2 S.taken.length ct) S.taken,F]∧(ShI E N S1)∧(PkS E S S1)∧(S1.cache=S.cache.drop i)∧(i≤k)∧(Wo S1.sl+(k -i)≤S1.sl.length)) (L0:=[(0,_),(1,_),(7,_),(9,_),(80,_),(81,_),(82,_)]) (k -0) (D8 U U U U U U U) ⟨S,0,rfl,(by unfold Y8;rfl),hS12,hI,PkS.refl E S,rfl, by omega, by omega⟩ ?_
  rintro _ _ w13 ⟨S1,i,rfl,rfl,hS13,hI1,hP1,hC0,hi,hU⟩
  refine Qd (Qa (Xg U U U (Qf (Qc (Qd (Qs U (fun h14=> ?_) (fun h14=> ?_)))))))
  ·obtain⟨j,hj⟩: ∃j,S.cache[i]? =some j:=⟨_,Zi (by omega)⟩
   have hC1:S1.cache=j::S.cache.drop (i+1):= by rw[hC0,List.drop_eq_getElem_cons (by omega)];congr 1; exact(XR hj).2
   have hC2:S.cache.drop (i+1)=S.cache.drop (i+1):=rfl
   obtain⟨hjE,y,hy,hyp⟩:=hI1.cch (j:=j) (by rw[hC1]; simp)
   obtain⟨_,hpky⟩:=hI1.pck hjE hy hyp
   obtain⟨fy,hfy⟩:=Option.ne_none_iff_exists'.1 hpky
   have hfme:Kw y=fy:= by unfold Kw fm; rw[if_pos hyp,hfy];rfl
   have hy64:y.pg.length=64:=(hI1.ent hy).2.2.2.2.1
   have hype:y.pg≠[]:= fun q=> by rw[q]at hy64; simp at hy64
   have hvw:Ent (rowT inC (.slice ac S.cache.length cc) S.cache) (RdL inC (Y8 1 (.slice ac S.cache.length cc) 0 k) ((S.cache.take k).drop 0)):=Dk (by omega) (by omega) (by omega) hccl
   refine Qt (Qc (Qd (Qv (Qd (Qa ?_)))))
   have hvr:=Ent.sat hvw hS13 3 U
   obtain⟨va,vc,hvv,_⟩:=hvr.shape
   rw[hvv]at hvr
   obtain⟨vb,vo,rfl,hvc⟩:=hvr.get (i:=i) (a:=j) (by rw[List.drop_zero,List.getElem?_take,if_pos (by omega)]; exact hj)
   refine Zq i (congrArg some hvv) U U (by rw[List.drop_zero,List.length_take];omega) JQ U ?_
   refine Qn U QL (hvc 0 _ U) U (Qe U U (Qf (Qc (Qh [82,81,80,9,7,1,0,12] U (Qd (Qa (Qb U U (Qj U U (Qg U XI U (Qn U Zn (hS13.cell 0 U U) U (Qb U U (XT (k:=j) 1 hS13 keysInt Tryz.underlying108 U U U XJ (u:=(.agg #[intV y.refs,intV y.place,intV y.at_,strV (Kw y)])) (Jn hy) U (QX hS13 XJ U U ?_)))))))))))))
   intro b15 w15 hS15
   clear hS13
   (refine QK hS15 U U JX U (by rfl) (i:=0) U (by decide) ?_)
   intro w16 hS17; dsimp only[List.set]at hS17
   clear hS15
   refine Qf (Qc (Qh [82,81,80,9,7,1,0,12,13] U (Qd (Qa (Qg U De U (Qn U WC (hS17.cell 0 U U) U ?_))))))
   refine Qw PC U (RI (hS17.sp [] U) hy64 (by rw[hfme]; exact hfy)) U ?_
   rintro _ w18 ⟨rfl,hS18⟩
   replace hS18:=hS18.jn U U
   clear hS17
   refine Qb U U (Qq U U U (Qq U U U (Qe U U (Qe U U (Qf (Qc (Qh [82,81,80,9,7,1,0,12,13,14] U (Qd (Qa (Qb U U (Qj U U (Qg U Yp U (Qn U H2 (hS18.cell 1 U U) U (Qb U U (XU SJ U (Ck (hS18.sp [6] U) y.pg hy64) U ?_)))))))))))))))
   rintro e w19 ⟨_,rfl,(⟨hfull,rfl,hS19⟩ | ⟨ks,hks,rfl,hS19⟩)⟩
   ·exact absurd hfull (by omega)
   refine⟨_,rfl, ?_⟩
   replace hS19:=hS19.jn U U
   clear hS18
   refine Qb U U (Qq U U U (Qq U U U (Qe U U (Qe U U (Qf (Qc (Qh [82,81,80,9,7,1,0,12,13,16] U ?_)))))))
   have hS20:=hS19.drew
   refine QF [0,1,2,3,4,5,6,7,8,9] [9] We (by kernel_rfl) ?_
   refine QG U U U (Xh U U U (QV U U U XI (Q4 U U U (Qr U Zn (hS20.cell 2 U U)) (QG U U U (QV U U U Jw (Q4 U U U (Qr U QL (hS20.cell 1 U U)) (QG U U U (X8 U U U (fun _=>(Ww U WU HG XJ U)) ?_))))))))
   refine Xn U U U U U U ?_
   refine Xw (k:=j) (v:=PW ⟨y.refs,3,(ks:Nat),y.pg⟩) 3 hS20 keysInt Tryz.underlying108 U U U U ?_
   intro w21 hS21a; dsimp only[List.set]at hS21a; have hS21:=hS21a; rw[Kd]at hS21
   clear hS20
   refine Z4 (X1 (by kernel_rfl)) ?_
   refine VC.nil (Qk (Qc (Qh [82,81,80,9,7,1,0] U (Qa (QI U U (by omega) (by omega) U ?_)))))
   refine Qb U U (Qf ?_)
   obtain⟨hI2,hP2⟩:=Ld hI1 hP1 hC1 hy hks
   exact Q0 (L1:=[(0,_),(1,_),(7,_),(9,_),(80,_),(81,_),(82,intV ((i+1:Nat):Int))]) (D8 U U U U U U U) (k1:=k -(i+1)) (by omega) ⟨{S1 with all:=up S1.all j (some ⟨y.refs,3,(ks:Nat),y.pg⟩),sl:=S1.sl.set ks y.pg,cache:=S.cache.drop (i+1)},i+1,rfl,rfl,hS21.pick [2,3,4,5,6,0,7,8,9] U,hI2,hP2,rfl, by omega, by dsimp only; rw[List.length_set,RG hks hype];omega⟩
  refine QM (Qo (Qo (Qx (Qc (Qd ?_)))))
  have hx1:S1.all id=some x:=hP1.one id x hx (.inl hpl)
  refine Qa (Qb U U (Qb U U (Qj U U (Qg U W6 U (Qn U YK (hS13.cell 0 U U) U (Qb U U (KA k S.cache.length Tryz.underlying47 JG U (VU k _ U U) (LJ _) (by omega) (by omega) U ?_)))))))
  have hv2:Ent (rowT inC (.slice ac S.cache.length cc) S.cache) (RdL inC (Y8 1 (.slice ac S.cache.length cc) k S.cache.length) (S.cache.drop k)):= fun hq=> by have q:=Dk (C:=inC) (A:=k) (B:=S.cache.length) (by omega) (by omega) (by omega) hccl hq;rwa [List.take_of_length_le (by omega)]at q
  refine Qw TE U (VD (hS13.sp [] U) (Ent.starL hv2 3 U) (by rw[List.length_drop];omega)) U ?_
  rintro _ w22 hS22
  replace hS22:=hS22.jn U U
  clear hS13
  obtain⟨na,nc,hnv,_⟩:=hS22.own_shape 0 rfl
  obtain rfl:=hnv
  refine Qb U U (Zf inC [id] hS22 U Tryz.underlying47 Uc U U U U (by rfl) rfl ?_)
  intro b23 w23 hS23
  clear hS22
  refine ZM inC 1 hS23 U U U (hS23.rd 0 U (by simp)) Tryz.underlying47 Tryz.underlying47 (by intro k hk; cases hk) UB U (by simp only[List.length_cons,List.length_nil,List.length_drop];omega) U (by simp only[List.length_cons,List.length_nil,List.length_drop];omega) ?_
  intro v24 w24 hS24; dsimp only[List.set]at hS24
  clear hS23
  have h1v24:v24.oneCell'=true:=hS24.own_one 1 U
  refine Qj U U (Qg U W6 U ?_)
  first | (refine Q6 hS24 U U KH (by assumption) (i:=2) U (Xa U) ?_)
  intro w25 hS26; dsimp only[List.set]at hS26
  clear hS24
  refine Qf (Qc (Qh [7,1,0] U (Qd ?_)))
  have hS27:=hS26.drew
  refine QF [0,1,2,3,4,5,6,7,8,9,10,11,12,13,14] [14] We (by kernel_rfl) ?_
  refine QG U U U (Xh U U U (QV U U U XI (Q4 U U U (Qr U Zn (hS27.cell 2 U U)) (QG U U U (QG U U U (Xh U U U (QV U U U XI (Q4 U U U (Qr U Zn (hS27.cell 2 U U)) (QG U U U (Q4 U U U (Xz (k:=id) 3 hS27 keysInt Tryz.underlying108 U U U XJ (u:=(.agg #[intV x.refs,intV x.place,intV x.at_,strV (Kw x)])) (Jn hx1)) (X8 U U U (fun _=>(Rp Rf U U)) ?_)))))))))))
  refine QG U U U (X8 U U U (fun _=>(Ww U Tk HG XJ U)) ?_)
  refine Xn U U U U U U ?_
  have hsv28:Value.agg #[intV x.refs,intV 2,intV 0,strV f]=PW ⟨x.refs,2,0,x.pg⟩:= by unfold PW Kw fm; simp [hpm]
  refine Xw (k:=id) (v:=Value.agg #[intV x.refs,intV 2,intV 0,strV f]) 3 hS27 keysInt Tryz.underlying108 U U U U ?_
  intro w28 hS28a; dsimp only[List.set]at hS28a; have hS28:=hS28a; rw[hsv28,Kd]at hS28
  clear hS27
  refine Z4 (X1 (by kernel_rfl)) ?_
  refine VC.nil (Qc (NM (L':=[]) .nil (Qd (Qa (Qe U U (Qf (Qc (Qu (QR (.inr U) U U ?_)))))))))
  have hc1:S1.cache=S.cache.drop k:= by rw[hC0, show i=k by omega]
  have hsm:WJ S1.all S1.cache=WJ S.all (S.cache.drop k):= by rw[hc1]; exact Me fun j _=> by have :=hP1.go.same j; cases hq:S1.all j<;> cases hq2:S.all j<;>simp_all
  have hSe:({S1 with all:=up S1.all id (some ⟨x.refs,2,0,x.pg⟩),cache:=S1.cache++[id]}:SS)=⟨up S1.all id (some ⟨x.refs,2,0,x.pg⟩),S.inn,S1.cache++[id],S.fr,S1.sl,S.ck,S.slots,S.budget,S.next,S.taken⟩:= by rw[←hP1.inn,←hP1.fr,←hP1.ck,←hP1.tak,←hP1.go.bud,←hP1.go.slo,←hP1.go.nxt]
  exact⟨_,rfl,.inr ⟨f,S1,rfl,rfl,hI1,hP1, by rw[hsm,hP1.go.bud];omega, by rw[hSe,hc1]; exact QY (hS28.pick [2,3,4,1,6,7,8,9,10] U)⟩⟩
end Go.Proofs.YtkcjfoaejijdoaaGreatDoor
