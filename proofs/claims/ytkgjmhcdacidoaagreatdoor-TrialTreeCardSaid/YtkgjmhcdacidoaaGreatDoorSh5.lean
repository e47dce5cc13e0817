/- sheets: the store; giveUp, packed and what tells -/
import Derived.Test.YtkgjmhcdacidoaaGreatDoorCk2
import Derived.Test.YtkgjmhcdacidoaaGreatDoorFw
set_option linter.unusedVariables false
set_option maxRecDepth 100000
set_option maxHeartbeats 1600000
namespace Go.Proofs.YtkgjmhcdacidoaaGreatDoor
open Go.RowKit M Proofs.Tryz
def VM (x:ShE):Bs:= if x.place=2 then fm x.pg else[]
def NX (x:ShE):Value:= .agg #[intV x.refs,intV x.place,intV x.at_,strV (VM x)]
def aG (A:Int→Option ShE):Int→Option Value:= fun k=>(A k).map NX
theorem WT {A:Int→Option ShE} {k:Int} {x:ShE} {z:Value} (h:A k=some x):(aG A k).getD z= .agg #[intV x.refs,intV x.place,intV x.at_,strV (VM x)]:= by unfold aG; rw[h];rfl
theorem Yx {A:Int→Option ShE} {k:Int} {x:ShE} (h:A k=some x):(aG A k).isSome=true:= by unfold aG; rw[h];rfl
theorem YI {A:Int→Option ShE} {k:Int} {z:Value} (h:A k=none):(aG A k).getD z=z:= by unfold aG; rw[h];rfl
theorem Yy {A:Int→Option ShE} {k:Int} (h:A k=none):(aG A k).isSome=false:= by unfold aG; rw[h];rfl
theorem Vz (A:Int→Option ShE) (k:Int) (x:ShE):upd (aG A) k (some (NX x))=aG (up A k (some x)):= by
  funext j
  by_cases h:j=k
  · subst h; rw[Z0];unfold aG; rw[XO];rfl
  · rw[Wp h];unfold aG; rw[XW h]
theorem NO (A:Int→Option ShE) (k:Int):upd (aG A) k none=aG (up A k none):= by
  funext j
  by_cases h:j=k
  · subst h; rw[Z0];unfold aG; rw[XO];rfl
  · rw[Wp h];unfold aG; rw[XW h]
theorem gI_del (g:Int→Option Int) (k:Int):upd (gI g) k none=gI (up g k none):= by
  funext j
  by_cases h:j=k
  · subst h; rw[Z0];unfold gI; rw[XO];rfl
  · rw[Wp h];unfold gI; rw[XW h]
structure ShX where
  ba:Nat
  bi:Nat
  fp:Nat
  sp:Nat
  kp:Nat
  cv:Value
  tv:Value
def Yn (p:Nat) (S:SS):Th:=CH fun q:ShX=>starL [QE p [.map (some q.ba),.map (some q.bi),q.cv,ptrV q.fp 0,ptrV q.sp 0,ptrV q.kp 0,intV S.slots,intV S.budget,intV S.next,q.tv],Q6 QX q.ba (aG S.all),Q6 QX q.bi (gI S.inn),rowT inC q.cv S.cache,Kw q.fp S.fr,KR q.sp S.sl,DM q.kp S.ck,rowT inC q.tv S.taken]
theorem XX {w:World} {p:Nat} {S:SS} {As:List Th} (h:Sat w (Yn p S::As)): ∃ba bi fp sp kp ac cc at2 ct,Sat w (QE p [.map (some ba),.map (some bi),.slice ac S.cache.length cc,ptrV fp 0,ptrV sp 0,ptrV kp 0,intV S.slots,intV S.budget,intV S.next,.slice at2 S.taken.length ct]::Q6 QX ba (aG S.all)::Q6 QX bi (gI S.inn)::rowT inC (.slice ac S.cache.length cc) S.cache::Kw fp S.fr::KR sp S.sl::DM kp S.ck::rowT inC (.slice at2 S.taken.length ct) S.taken::As):= by
  obtain⟨⟨ba,bi,fp,sp,kp,cv,tv⟩,h⟩:=h.ex
  replace h:=h.flat
  obtain⟨ac,cc,hv,_⟩:=Sat.own_shape (As:=QE p _::Q6 QX ba (aG S.all)::Q6 QX bi (gI S.inn)::rowT inC cv S.cache::Kw fp S.fr::KR sp S.sl::DM kp S.ck::rowT inC tv S.taken::As) h 3 rfl
  obtain rfl:=hv
  obtain⟨at2,ct,hv,_⟩:=Sat.own_shape (As:=QE p _::Q6 QX ba (aG S.all)::Q6 QX bi (gI S.inn)::rowT inC _ S.cache::Kw fp S.fr::KR sp S.sl::DM kp S.ck::rowT inC tv S.taken::As) h 7 rfl
  obtain rfl:=hv
  exact⟨ba,bi,fp,sp,kp,ac,cc,at2,ct,h⟩
theorem QW {w:World} {p:Nat} {S:SS} {As:List Th} {ba bi fp sp kp:Nat} {cv tv:Value} (h:Sat w (QE p [.map (some ba),.map (some bi),cv,ptrV fp 0,ptrV sp 0,ptrV kp 0,intV S.slots,intV S.budget,intV S.next,tv]::Q6 QX ba (aG S.all)::Q6 QX bi (gI S.inn)::rowT inC cv S.cache::Kw fp S.fr::KR sp S.sl::DM kp S.ck::rowT inC tv S.taken::As)):Sat w (Yn p S::As):=
  Sat.ex_intro (f:= fun q:ShX=>starL [QE p [.map (some q.ba),.map (some q.bi),q.cv,ptrV q.fp 0,ptrV q.sp 0,ptrV q.kp 0,intV S.slots,intV S.budget,intV S.next,q.tv],Q6 QX q.ba (aG S.all),Q6 QX q.bi (gI S.inn),rowT inC q.cv S.cache,Kw q.fp S.fr,KR q.sp S.sl,DM q.kp S.ck,rowT inC q.tv S.taken]) ⟨ba,bi,fp,sp,kp,cv,tv⟩
    (Sat.fold (As:=[QE p _,Q6 QX ba (aG S.all),Q6 QX bi (gI S.inn),rowT inC cv S.cache,Kw fp S.fr,KR sp S.sl,DM kp S.ck,rowT inC tv S.taken]) h)
theorem Vb {w:World} {F:Th} (hS:Sat w [F]) {lv:Value} {l:List Int} (hL:Ent F (RdL inC lv l)) (hln:l.length≤100000000000):
    Calls prog 135 #[lv] w (Ret fun v w'=>Sat w' [rowT inC v l,F]):= by
 obtain⟨ao,cap,rfl,hmax⟩:=(hL.sat hS 0 rfl).shape
 refine Qn func135 U ntmps135 U ?_
 refine Qe (Qa (Qd U U (Qf (Qc (Qe (Qe (Qa (Qb U U (MX underlying22 U U U (Qf (Qc (QS U (fun h1=> ?_) (fun h1=> ?_)))))))))))))
 ·refine Qe (Qa (Qd U U (Qf (Qc (Qv (Qr (QR (.inr U) U U ?_)))))))
  obtain rfl:=Option.isNone_iff_eq_none.1 (by assumption:ao.isNone=true)
  have hnl:l=[]:=(hL.sat hS 0 U).isNil
  exact⟨_,rfl, by rw[hnl]; exact(hS.pick [0] U).row_nil inC⟩
 refine Qs (Qc (Qe (Qa (ZV inC [] hS U underlying22 Bl U U U U (by first | rfl | simp [RowC.cells,Wu,Xz]) U ?_))))
 intro b2 w2 j2
 refine Qb U U ?_
 refine Jf inC 0 j2 U U U (hL.sat j2 1 U) underlying22 underlying22 (by intro k hk; cases hk) TH U (by simp only[List.length_nil];omega) U (by simp only[List.length_nil];omega) ?_
 intro v3 w3 j3; dsimp only[List.set]at j3
 have h1v3:v3.oneCell'=true:=j3.own_one 0 U
 exact Qd U U (Qf (Qc (Qv (QR (.inr U) U U (⟨_,U,j3.pick [0,1] U⟩)))))
theorem So {w:World} {p:Nat} {S:SS} {F:Th} (hS:Sat w [Yn p S,F]) (id:Int):
    Calls prog 114 #[ptrV p 0,intV id] w (Ret fun v w'=>v=(match S.all id with | none=>intV 0 | some x=>intV x.refs)∧Sat w' [Yn p S,F]):= by
 obtain⟨ba,bi,fp,sp,kp,ac,cc,at2,ct,hS⟩:=XX hS
 cases Zt:S.all id with
 | none=>
  refine Qn func114 U ntmps114 U ?_
  refine Qe (Qa (Qd U U (Qf (Qc (Qe (Qa (Qb U U (Qi U U (Qg U XR U (Qo U ZD (by first | assumption | exact hS.cell 0 U U) U ?_))))))))))
  exact Qb U U (X8 (k:=id) 1 hS keysInt underlying75 U U U X9 (u:=(.agg #[intV 0,intV 0,intV 0,strV []])) (YI Zt) U (G8 Ku U U U (Qd U U (Qf (Qc (Qv (QR (.inr U) U U (⟨_,U,U,QW (hS.pick [0,1,2,3,4,5,6,7,8] U)⟩))))))))
 | some x=>
  refine Qn func114 U ntmps114 U ?_
  refine Qe (Qa (Qd U U (Qf (Qc (Qe (Qa (Qb U U (Qi U U (Qg U XR U (Qo U ZD (by first | assumption | exact hS.cell 0 U U) U ?_))))))))))
  exact Qb U U (X8 (k:=id) 1 hS keysInt underlying75 U U U X9 (u:=(.agg #[intV x.refs,intV x.place,intV x.at_,strV (VM x)])) (WT Zt) U (G8 Ku U U U (Qd U U (Qf (Qc (Qv (QR (.inr U) U U (⟨_,U,U,QW (hS.pick [0,1,2,3,4,5,6,7,8] U)⟩))))))))
theorem Rg {w:World} {p:Nat} {S:SS} {F:Th} (hS:Sat w [Yn p S,F]) {f:Int} {b0:Bs} (hf:ZH S.fr f=some b0) (hck:S.ck.length=S.fr.length) (htl:S.taken.length≤90000000000):
    Calls prog 134 #[ptrV p 0,intV f] w (Ret fun v w'=>v= .tuple #[]∧Sat w' [Yn p (offFrame S f),F]):= by
 obtain⟨hf0,hfl⟩:=Gh hf
 have hfc:0≤f∧f<(S.ck.length:Int):= by omega
 obtain⟨ba,bi,fp,sp,kp,ac,cc,at2,ct,hS⟩:=XX hS
 refine Qn func134 U ntmps134 U ?_
 refine Qe (Qa (Qb U U (Qi U U (Qg U Jl U (Qo U HM (by first | assumption | exact hS.cell 0 U U) U ?_)))))
 refine Qb U U (Q0 cal_166 U (SI (hS.sp [4] U) f) U ?_)
 rintro _ w1 ⟨_,rfl,j1⟩
 replace j1:=j1.jn U U
 rw[show VL S.fr f=S.fr.set f.toNat none by unfold VL; rw[hf]]at j1
 refine Qf (Qc (Qe (Qa (Qb U U (Qi U U (Qg U Gk U (Qo U PS (by first | assumption | exact j1.cell 1 U U) U ?_)))))))
 refine Qb U U (Q0 MF U (ckgoneT (j1.sp [6] U) f hfc) U ?_)
 rintro _ w2 ⟨rfl,j2⟩
 replace j2:=j2.jn U U
 refine Qf (Qc (Qh [1,0] U (Qe (Qa (Qb U U (Qi U U (Qg U Ua U (Qo U Ye (by first | assumption | exact j2.cell 2 U U) U ?_))))))))
 refine Qb U U (WG (k:=f) 4 j2 keysInt underlying76 U U U U ?_)
 intro w3 j3; dsimp only[List.set]at j3; rw[gI_del]at j3
 refine Qf (Qc (Qa (Qb U U (Qb U U (Qi U U (Qg U P0 U (Qo U Yw (by first | assumption | exact j3.cell 2 U U) U ?_)))))))
 refine Qb U U (ZV inC [f] j3 U underlying22 Bl U U U U (by first | rfl | simp [RowC.cells,Wu,Xz]) U ?_)
 intro b4 w4 j4
 refine Jf inC 8 j4 U U U (j4.rd 0 U (by simp)) underlying22 underlying22 (by intro k hk; cases hk) TH U (by simp only[List.length_cons,List.length_nil];omega) U (by simp only[List.length_cons,List.length_nil];omega) ?_
 intro v5 w5 j5; dsimp only[List.set]at j5
 have h1v5:v5.oneCell'=true:=j5.own_one 8 U
 refine Qi U U (Qg U P0 U ?_)
 first | (refine Qx j5 U U ZM (by first | rfl | assumption | exact j5.own_one 0 U | exact j5.own_one 6 U | exact j5.own_one 8 U) (i:=3) U (by first | decide | exact Q7 U | (simp;done) | omega) ?_)
 intro w6 j7; dsimp only[List.set]at j7
 exact Qf (ZP (.inl U) U (⟨_,U,U,QW (S:=offFrame S f) (j7.pick [3,4,5,6,2,7,1,8,9] U)⟩))
theorem Sl {A:Int→Option ShE} {l:List Int} {i:Nat} {j:Int} {x:ShE} (hj:l[i]? =some j) (hx:A j=some x) (hp:x.place=2):W5 A (l.take (i+1))=W5 A (l.take i)+(VM x).length:= by
  rw[List.take_add_one,hj]
  unfold W5
  simp only[Option.toList_some,List.map_append,List.map_cons,List.map_nil,List.sum_append,List.sum_cons,List.sum_nil]
  unfold fmL VM
  rw[hx,if_pos hp];rfl
theorem Sm {A:Int→Option ShE} {l:List Int} {i:Nat} {j:Int} {x:ShE} (hj:l[i]? =some j) (hx:A j=some x) (hp:x.place=2):W5 A (l.drop i)=(VM x).length+W5 A (l.drop (i+1)):= by
  obtain⟨hi,he⟩:=XL hj
  rw[List.drop_eq_getElem_cons hi,he]
  unfold W5
  rw[List.map_cons,List.sum_cons]
  unfold fmL VM
  rw[hx,if_pos hp]
theorem fm_le (p:Bs):(fm p).length≤47:= by
  unfold fm
  cases h:H4 p with
  | none=> simp
  | some f=> exact(Bd h).1
theorem Gb (A:Int→Option ShE): ∀l:List Int,W5 A l≤47*l.length
  | []=> by simp [W5]
  | j::l=> by
    have h1:=Gb A l
    unfold W5 at h1⊢
    rw[List.map_cons,List.sum_cons,List.length_cons]
    have :fmL A j≤47:= by
      unfold fmL
      cases A j with
      | none=> simp
      | some x=> exact fm_le x.pg
    omega
theorem Tj {w:World} {p:Nat} {S:SS} {F:Th} (hS:Sat w [Yn p S,F]) {E:Int→Prop} {N:Nat} (hI:ShI E N S) (hN:N≤90000000000):
    Calls prog 215 #[ptrV p 0] w (Ret fun v w'=>v=intV ((W5 S.all S.cache:Nat):Int)∧Sat w' [Yn p S,F]):= by
 have hcl:=hI.cln
 obtain⟨ba,bi,fp,sp,kp,ac,cc,at2,ct,hS⟩:=XX hS
 refine Qn func215 U ntmps215 U ?_
 refine Qe (Qa (Qd U U (Qf (Qc (Qe (Qa (Qd U U (Qf (Qc (Qe (Qe (Qa (Qb U U (Qi U U (Qg U WR U (Qo U Yw (by first | assumption | exact hS.cell 0 U U) U ?_))))))))))))))))
 first | refine XB underlying22 U U ?_ | refine Xo 3 hS underlying22 U U U ?_ | refine Xo 7 hS underlying22 U U U ?_
 refine Qb U U (Qf (Qc (Qw ?_)))
 refine Xe (fun K0 E0 W0=> ∃(i:Nat),K0=S.cache.length -i∧E0=[(0,ptrV p 0),(3,intV ((W5 S.all (S.cache.take i):Nat):Int)),(9,.slice ac S.cache.length cc),(10,intV (S.cache.length:Int)),(11,intV (i:Int))]∧Sat W0 [QE p [.map (some ba),.map (some bi),.slice ac S.cache.length cc,ptrV fp 0,ptrV sp 0,ptrV kp 0,intV S.slots,intV S.budget,intV S.next,.slice at2 S.taken.length ct],Q6 QX ba (aG S.all),Q6 QX bi (gI S.inn),rowT inC (.slice ac S.cache.length cc) S.cache,Kw fp S.fr,KR sp S.sl,DM kp S.ck,rowT inC (.slice at2 S.taken.length ct) S.taken,F]∧(i≤S.cache.length)) (L0:=[(0,_),(3,_),(9,_),(10,_),(11,_)]) (S.cache.length -0) (Ym U U U U U) ⟨0,rfl,rfl,hS, by omega⟩ ?_
 rintro _ _ w1 ⟨i,rfl,rfl,j1,hi⟩
 refine Qe (Qa (Xn U U U (Qf (Qc (Qe (Qt U (fun h2=> ?_) (fun h2=> ?_)))))))
 ·obtain⟨j,hj⟩: ∃j,S.cache[i]? =some j:=⟨_,Zd (by omega)⟩
  obtain⟨_,x,hx,hp⟩:=hI.cch (List.mem_of_getElem? hj)
  have hsl:=Gb S.all (S.cache.take i)
  have htl:=List.length_take_le i S.cache
  have hfl:(VM x).length≤47:= by unfold VM; rw[if_pos hp]; exact fm_le x.pg
  refine Qs (Qc (Qe (Qw (Qe (Qa (Xg inC 3 i j1 U U U (by first | rfl | omega) hj Un U ?_))))))
  intro bx3 capx3 hvx3
  refine XY 3 i 0 j1 U hvx3 U U hj QM U U (Qd U U (Qf (Qc (Qa (Qb U U (Qb U U (Qi U U (Qg U XR U (Qo U ZD (by first | assumption | exact j1.cell 0 U U) U ?_)))))))))
  refine Qb U U (X8 (k:=j) 1 j1 keysInt underlying75 U U U X9 (u:=(.agg #[intV x.refs,intV x.place,intV x.at_,strV (VM x)])) (WT hx) U (G8 TO U U U (WO underlying9 U U (QK U U (by omega) (by omega) U ?_))))
  refine Qd U U (Qf (Ql (Qc (Qh [11,10,9,0,3] U (Qa (QK U U (by omega) (by omega) U ?_))))))
  refine Qb U U (Qf ?_)
  exact Q5 (L1:=[(0,_),(3,intV ((W5 S.all (S.cache.take (i+1)):Nat):Int)),(9,_),(10,_),(11,intV ((i+1:Nat):Int))]) (by rw[Sl hj hx hp]; exact(Ym U U U U U)) (k1:=S.cache.length -(i+1)) (by omega) ⟨i+1,rfl,rfl,j1.pick [0,1,2,3,4,5,6,7,8] U, by omega⟩
 exact QT (Qq (Qq (Qy (Qc (Qe (Qa (Qb U U (Qd U U (Qf (Qc (Qv (QR (.inr U) U U (⟨_,rfl, by rw[List.take_of_length_le (by omega)],QW (j1.pick [0,1,2,3,4,5,6,7,8] U)⟩)))))))))))))
structure PkS (E:Int→Prop) (S S1:SS):Prop where
  go:ShG S S1
  inn:S1.inn=S.inn
  fr:S1.fr=S.fr
  ck:S1.ck=S.ck
  tak:S1.taken=S.taken
  one: ∀j x,S.all j=some x→x.place=1∨E j→S1.all j=some x
theorem PkS.refl (E:Int→Prop) (S:SS):PkS E S S:=⟨ShG.refl S,rfl,rfl,rfl,rfl, fun _ _ h _=>h⟩
theorem S9 {E:Int→Prop} {T:Nat} {S0 S:SS} {j:Int} {c:List Int} {x:ShE} {k:Nat} (h:ShI E T S) (hp:PkS E S0 S) (hc:S.cache=j::c) (hx:S.all j=some x) (hk:S.sl[k]? =some []):
    ShI E T {S with all:=up S.all j (some ⟨x.refs,3,(k:Nat),x.pg⟩),sl:=S.sl.set k x.pg,cache:=c}∧PkS E S0 {S with all:=up S.all j (some ⟨x.refs,3,(k:Nat),x.pg⟩),sl:=S.sl.set k x.pg,cache:=c}:= by
  obtain⟨hje,x',hx',hpl⟩:=h.cch (j:=j) (by rw[hc]; simp)
  obtain rfl:x=x':= by rw[hx]at hx'; cases hx';rfl
  have hjc:j∉c:= by have :=h.nod; rw[hc]at this; exact(List.nodup_cons.1 this).1
  have h1:=h.offCache hx hpl (c:=c) (by rw[hc]; exact List.sublist_cons_self j c) (fun i=> by
    rw[hc]
    constructor
    · intro hi; exact⟨List.mem_cons_of_mem _ hi, fun q=>hjc (q▸hi)⟩
    · rintro⟨hi,hne⟩; exact(List.mem_cons.1 hi).resolve_left hne)
  have h2:=ShI.onSlot (S:={S with cache:=c}) (x:=x) h1 (.inr U) hx hk
  refine⟨h2.congr fun i _=>⟨fun ⟨a,b⟩=>a.resolve_right b, fun a=>⟨.inl a, fun q=>hje (q▸a)⟩⟩, ?_⟩
  refine⟨hp.go.trans ⟨fun i=> ?_,⟨[], by simp, fun i y hy hp1=> .inr ⟨y, ?_,hp1,rfl⟩⟩,rfl,rfl,rfl,rfl⟩,hp.inn,hp.fr,hp.ck,hp.tak, fun i y hy hpy=> ?_⟩
  · show((up S.all j _) i).map _=_
    by_cases q:i=j
    · subst q; rw[XO,hx];rfl
    · rw[XW q]
  · show(up S.all j _) i=_
    rw[XW (fun q=> by subst q; rw[hx]at hy; cases hy;omega)]; exact hy
  · show(up S.all j _) i=_
    have h3:=hp.one i y hy hpy
    rw[XW (fun q=> by
      subst q
      rcases hpy with hpy | hpy
      · rw[hx]at h3; cases h3;omega
      · exact hje hpy)]; exact h3
structure EvS (E:Int→Prop) (T:Nat) (f:Int) (S S':SS):Prop where
  inv:ShI E (T+1) S'
  go:ShG S S'
  fr:S'.fr=S.fr.set f.toNat none
  lim: ∀j x,S.all j=some x→E j→S'.all j=some x
theorem Nt {E:Int→Prop} {T:Nat} {S S1:SS} {id f:Int} {x:ShE} (h0:ShI E T S) (h:ShI E T S1) (hp:PkS E S S1) (hE: ¬E id) (hx:S.all id=some x) (hpl:x.place=1) (hat:x.at_=f) (hpk:H4 x.pg≠none) (hs:(W5 S1.all S1.cache+(fm x.pg).length:Int)≤S1.budget):
    EvS E T f S (offFrame {S1 with all:=up S1.all id (some ⟨x.refs,2,0,x.pg⟩),cache:=S1.cache++[id]} f):= by
  have hx1:=hp.one id x hx (.inl hpl)
  have h1:=h.offFrame hE hx1 hpl hat
  have h2:=ShI.onCache (S:=offFrame S1 f) (x:=x) h1 (.inr U) hx1 hpk hs (by have :=h.cln; show S1.cache.length+1≤_;omega) 0
  refine⟨h2.congr fun i _=>⟨fun ⟨a,b⟩=>a.resolve_right b, fun a=>⟨.inl a, fun q=>hE (q▸a)⟩⟩,hp.go.trans ⟨fun i=> ?_,⟨[f],rfl, fun i y hy hp1=> ?_⟩,rfl,rfl, by show(S1.fr.set _ _).length=_; rw[List.length_set],rfl⟩, by show S1.fr.set _ _=_; rw[hp.fr], fun i y hy hi=> ?_⟩
  · show(up S1.all id _ i).map _=_
    by_cases q:i=id
    · subst q; rw[XO,hx1];rfl
    · rw[XW q]
  · by_cases q:i=id
    · subst q; rw[hx1]at hy; cases hy; exact .inl (by rw[hat]; simp)
    · exact .inr ⟨y, by show up S1.all id _ i=_; rw[XW q]; exact hy,hp1,rfl⟩
  · show up S1.all id _ i=_
    rw[XW (fun q=>hE (by rw[←q]; exact hi))]; exact hp.one i y hy (.inr hi)
theorem Ns {E:Int→Prop} {T:Nat} {S:SS} {id f:Int} {x:ShE} {k:Nat} (h:ShI E T S) (hE: ¬E id) (hx:S.all id=some x) (hpl:x.place=1) (hat:x.at_=f) (hk:S.sl[k]? =some []):
    EvS E T f S (offFrame {S with all:=up S.all id (some ⟨x.refs,3,(k:Nat),x.pg⟩),sl:=S.sl.set k x.pg} f):= by
  have h1:=h.offFrame hE hx hpl hat
  have h2:=ShI.onSlot (S:=offFrame S f) (x:=x) h1 (.inr U) hx hk
  refine⟨h2.congr fun i _=>⟨fun ⟨a,b⟩=>a.resolve_right b, fun a=>⟨.inl a, fun q=>hE (q▸a)⟩⟩,⟨fun i=> ?_,⟨[f],rfl, fun i y hy hp1=> ?_⟩,rfl,rfl, by show(S.fr.set _ _).length=_; rw[List.length_set],rfl⟩,rfl, fun i y hy hi=> ?_⟩
  · show(up S.all id _ i).map _=_
    by_cases q:i=id
    · subst q; rw[XO,hx];rfl
    · rw[XW q]
  · by_cases q:i=id
    · subst q; rw[hx]at hy; cases hy; exact .inl (by rw[hat]; simp)
    · exact .inr ⟨y, by show up S.all id _ i=_; rw[XW q]; exact hy,hp1,rfl⟩
  · show up S.all id _ i=_
    rw[XW (fun q=>hE (by rw[←q]; exact hi))]; exact hy
theorem SJ {E:Int→Prop} {T:Nat} {S:SS} {f:Int} {b:Bs} (h:ShI E T S) (hf:ZH S.fr f=some b): ∃id x,S.inn f=some id∧ ¬E id∧S.all id=some x∧x.place=1∧x.at_=f∧x.pg=b:= by
  cases hq:S.inn f with
  | none=> exact absurd hq (h.fru hf)
  | some id=>
    obtain⟨h1,x,h2,h3,h4⟩:=(h.frm f id).1 hq
    have :=h.frc h1 h2 h3
    rw[h4,hf]at this
    exact⟨id,x,rfl,h1,h2,h3,h4, by cases this;rfl⟩
theorem gI_some {g:Int→Option Int} {k j:Int} {z:Value} (h:g k=some j):(gI g k).getD z=intV j:= by unfold gI; rw[h];rfl
theorem Sp {w:World} {p:Nat} {S:SS} {F:Th} (hS:Sat w [Yn p S,F]) {E:Int→Prop} {N:Nat} (hI:ShI E N S) (hN:N≤90000000000) {id:Int} {x:ShE} (hx:S.all id=some x) (hpl:x.place=1):
    Calls prog 207 #[ptrV p 0,intV id,strV x.pg] w (Ret fun v w'=>(v= .bool false∧Sat w' [Yn p S,F])∨(∃f S1,v= .bool true∧H4 x.pg=some f∧ShI E N S1∧PkS E S S1∧(W5 S1.all S1.cache+f.length:Int)≤S1.budget∧Sat w' [Yn p {S1 with all:=up S1.all id (some ⟨x.refs,2,0,x.pg⟩),cache:=S1.cache++[id]},F])):= by
 have hx64:x.pg.length=64:=(hI.ent hx).2.2.2.2.1
 have hcl:=hI.cln
 have hul:=JH S.sl
 have hslo:=hI.slo
 have hsl2:=hI.sl2
 obtain⟨ba,bi,fp,sp,kp,ac,cc,at2,ct,hS⟩:=XX hS
 cases hpm:H4 x.pg with
 | none=>
  refine Qn func207 U ntmps207 U ?_
  refine Qe (Qa (Qd U U (Qf (Qc (Qe (Qa (Qb U U (Q0 MK U (Mq (hS.sp [] U) x.pg hx64) U ?_))))))))
  rintro _ w1 ⟨rfl,j1⟩
  replace j1:=j1.jn U U
  rw[hpm]
  dsimp only[Pg,Option.getD_some,Option.isSome_some,Option.getD_none,Option.isSome_none]
  refine Qb U U (Qp U U U (Qp U U U (Qd U U (Qd U U (Qf (Qc (Qh [1,0,6,7,8] U (Qe (Qe (Qa (Qb U U (QU U U (Qb U U (Xw 25 U (fun h2=> ?_) (fun h2=> ?_)))))))))))))))
  ·exact Qk U U h2 U (Qk U U h2 U (Qk U U h2 U (Qk U U h2 U (Qk U U h2 U (Qk U U h2 U (Qk U U h2 U (QN U h2 U U (Qf (Qc (Qh [1,0,6,7,33] U (XD U (Qe (Qa (Qd U U (Qf (Qc (Qv (Qr (QR (.inr U) U U (⟨_,U,.inl ⟨U,QW (j1.pick [0,1,2,3,4,5,6,7,8] U)⟩⟩))))))))))))))))))))
  exact absurd h2 (by simp)
 | some f=>
  have hfl:=(Bd hpm).1
  have hss:=Gb S.all S.cache
  refine Qn func207 U ntmps207 U ?_
  refine Qe (Qa (Qd U U (Qf (Qc (Qe (Qa (Qb U U ?_)))))))
  have hC1:=hS.sp [] U
  refine Q0 MK U (Mq hC1 x.pg hx64) U ?_
  rintro _ w1 ⟨rfl,j1⟩
  replace j1:=j1.jn U U; clear hC1
  rw[hpm]
  dsimp only[Pg,Option.getD_some,Option.isSome_some,Option.getD_none,Option.isSome_none]
  refine Qb U U (Qp U U U (Qp U U U (Qd U U (Qd U U (Qf (Qc (Qh [1,0,6,7,8] U (Qe (Qe (Qa (Qb U U (QU U U (Qb U U (Xw 25 U (fun h2=> ?_) (fun h2=> ?_)))))))))))))))
  ·exact absurd h2 (by simp)
  refine Qj U U h2 (Qb U U (Qj U U h2 (WO underlying9 U U (Qj U U h2 (Qb U U (Qj U U h2 (Qi U U (Qj U U h2 (Qg U P1 U (Qj U U h2 (Qo U QM (by first | assumption | exact j1.cell 0 U U) U ?_)))))))))))
  refine Qj U U h2 (J6 U U U (QC U h2 U U (Qf (Qc (Qh [1,0,6,7,33] U (Qt U (fun h3=> ?_) (fun h3=> ?_)))))))
  ·exact Qe (Qa (Qd U U (Qf (Qc (Qv (Qr (QR (.inr U) U U (⟨_,U,.inl ⟨U,QW (j1.pick [0,1,2,3,4,5,6,7,8] U)⟩⟩))))))))
  refine Qs (Qc (Qe (Qa (Qb U U ?_))))
  have hSc:=QW (j1.pick [0,1,2,3,4,5,6,7,8] U)
  refine Q0 cal_215 U (Tj (hSc.sp [0] U) hI hN) U ?_
  rintro _ w4 ⟨rfl,j4⟩
  replace j4:=j4.jn U U
  clear hSc
  obtain⟨ba,bi,fp,sp,kp,ac,cc,at2,ct,hSo5⟩:=XX (j4.pick [0,1] rfl)
  obtain⟨_,_,hqc,hccl,_⟩:=hSo5.own_shape 3 rfl; cases hqc
  refine Qb U U (WO underlying9 U U (QK U U (by omega) (by omega) U ?_))
  refine Qd U U (Qd U U (Qf (Qc (Qh [1,0,6,7,9,10] U (Qe (Qw ?_))))))
  refine Xe (fun K0 E0 W0=> ∃(k:Nat),K0=S.cache.length -k∧E0=[(0,ptrV p 0),(1,intV id),(7,strV f),(9,intV (k:Int)),(10,intV ((W5 S.all (S.cache.drop k)+f.length:Nat):Int))]∧Sat W0 [QE p [.map (some ba),.map (some bi),.slice ac S.cache.length cc,ptrV fp 0,ptrV sp 0,ptrV kp 0,intV S.slots,intV S.budget,intV S.next,.slice at2 S.taken.length ct],Q6 QX ba (aG S.all),Q6 QX bi (gI S.inn),rowT inC (.slice ac S.cache.length cc) S.cache,Kw fp S.fr,KR sp S.sl,DM kp S.ck,rowT inC (.slice at2 S.taken.length ct) S.taken,F]∧(k≤S.cache.length)) (L0:=[(0,_),(1,_),(7,_),(9,_),(10,_)]) (S.cache.length -0) (Ym U U U U U) ⟨0,rfl,rfl,hSo5, by omega⟩ ?_
  rintro _ _ w6 ⟨k,rfl,rfl,j6,hk⟩
  refine Qe (Qe (Qa (Qb U U (Qb U U (Qi U U (Qg U P1 U (Qo U QM (by first | assumption | exact j6.cell 0 U U) U ?_)))))))
  refine J6 U U U (Qf (Qc (Qh [10,9,7,1,0,44] U (Qt U (fun h7=> ?_) (fun h7=> ?_)))))
  ·have hkl:k<S.cache.length:= by rcases Nat.lt_or_ge k S.cache.length with q | q; exact q;(exfalso; have hh:=h7; rw[List.drop_of_length_le q]at hh; simp only[W5,List.map_nil,List.sum_nil]at hh;omega)
   obtain⟨j,hj⟩: ∃j,S.cache[k]? =some j:=⟨_,Zd hkl⟩
   obtain⟨_,y,hy,hyp⟩:=hI.cch (List.mem_of_getElem? hj)
   have hsd:=Sm hj hy hyp
   have hsl:=Gb S.all (S.cache.drop k)
   have hdl:(S.cache.drop k).length≤S.cache.length:= by rw[List.length_drop];omega
   refine Qs (Qc (Qw (Qe ?_)))
   obtain⟨ob,oc9,hq9,_⟩:=j6.own_at 3 rfl (by omega)
   cases hq9
   have j8:=j6.drew
   refine QH [0,1,2,3,4,5,6,7,8,9,10,11,12,13,14,15,16] [] ZW (by kernel_rfl) ?_
   refine QJ U U U (QJ U U U (Xd U U U (QP U U U XR (Q3 U U U (Qm U ZD (by first | assumption | exact j8.cell 0 U U)) ?_))))
   refine QJ U U U (Xd U U U (QP U U U WR (Q3 U U U (Qm U Yw (by first | assumption | exact j8.cell 0 U U)) ?_)))
   refine QJ U U U (Xh U U U (fun _=>(ZF k U U (by first | rfl | omega) (hkl) Un)) ?_)
   refine Q3 U U U (W9 inC 3 k 0 j8 U hj QM U U) (Q3 U U U (Xt (k:=j) 1 j8 keysInt underlying75 U U U X9 (u:=(.agg #[intV y.refs,intV y.place,intV y.at_,strV (VM y)])) (WT hy)) (Xh U U U (fun _=>(K9 TO U U)) ?_))
   refine Xh U U U (fun _=>(Gr underlying9 U)) ?_
   refine Xh U U U (fun _=>(Gp U U (by omega) (by omega))) ?_
   refine Zo U U U (VC.nil (Qc (Qh [9,7,1,0,10] U (Qa (Qb U U (QK U U (by omega) (by omega) U ?_))))))
   refine Qd U U (Qf (Ql ?_))
   exact Q5 (L1:=[(0,_),(1,_),(7,_),(9,intV ((k+1:Nat):Int)),(10,intV ((W5 S.all (S.cache.drop (k+1))+f.length:Nat):Int))]) (by rw[show W5 S.all (S.cache.drop (k+1))+f.length=W5 S.all (S.cache.drop k)+f.length -(VM y).length by omega,Int.ofNat_sub (by omega)]; exact(Ym U U U U U)) (k1:=S.cache.length -(k+1)) (by omega) ⟨k+1,rfl,rfl,j8.pick [0,1,2,3,4,5,6,7,8] U, by omega⟩
  refine QT (Qq (Qq (Qy (Qc (Qe (Qe ?_))))))
  have j9:=j6.drew
  refine QH [0,1,2,3,4,5,6,7,10,8,9,11] [8] ZW (by kernel_rfl) ?_
  refine QJ U U U (Xd U U U (QP U U U fo_84_6 (Q3 U U U (Qm U QM (by first | assumption | exact j9.cell 0 U U)) ?_)))
  refine QJ U U U (Xd U U U (QP U U U Hv (Q3 U U U (Qm U RG (by first | assumption | exact j9.cell 0 U U)) ?_)))
  refine QJ U U U (Xl U U U U U U ?_)
  refine Q0 cal_216 U (Sk (j9.sp [5] U)) U ?_
  rintro _ w10 ⟨rfl,j10⟩
  replace j10:=j10.jn U U
  refine XH (.skip (by kernel_rfl) (.cons (.inl ⟨rfl,(Qm U QM (by first | assumption | exact j10.cell 1 U U))⟩) .nil)) ?_
  refine Xh U U U (fun _=>(Gp U U (by omega) (by omega))) ?_
  refine Xh U U U (fun _=>(M2 U U)) ?_
  refine VC.nil (Qc (Qh [9,7,1,0,74] U (Qt U (fun h11=> ?_) (fun h11=> ?_))))
  ·exact Qe (Qa (Qd U U (Qf (Qc (Qv (Qr (QR (.inr U) U U (⟨_,U,.inl ⟨U,QW (j10.pick [1,2,3,4,5,0,6,7,8] U)⟩⟩))))))))
  refine Qs (Qc (Qe (Qe ?_)))
  have j12:=j10.pick [1,2,3,4,5,0,6,7,8] U
  refine Qa (Qb U U (Qi U U (Qg U WR U (Qo U Yw (by first | assumption | exact j12.cell 0 U U) U ?_))))
  refine Qb U U (RY 0 k underlying22 Js U (bndN _) (RV k _ U U) (by omega) (by omega) U ?_)
  refine XB (m:=k) underlying22 U U (Qb U U (Qf (Qc (Qh [9,7,1,0,80,81,82] U (Qw ?_)))))
  refine Xe (fun K0 E0 W0=> ∃(S1:SS) (i:Nat),K0=k -i∧E0=[(0,ptrV p 0),(1,intV id),(7,strV f),(9,intV (k:Int)),(80,H2 1 (.slice ac S.cache.length cc) 0 k),(81,intV (k:Int)),(82,intV (i:Int))]∧Sat W0 [QE p [.map (some ba),.map (some bi),.slice ac S.cache.length cc,ptrV fp 0,ptrV sp 0,ptrV kp 0,intV S.slots,intV S.budget,intV S.next,.slice at2 S.taken.length ct],Q6 QX ba (aG S1.all),Q6 QX bi (gI S.inn),rowT inC (.slice ac S.cache.length cc) S.cache,Kw fp S.fr,KR sp S1.sl,DM kp S.ck,rowT inC (.slice at2 S.taken.length ct) S.taken,F]∧(ShI E N S1)∧(PkS E S S1)∧(S1.cache=S.cache.drop i)∧(i≤k)∧(Wt S1.sl+(k -i)≤S1.sl.length)) (L0:=[(0,_),(1,_),(7,_),(9,_),(80,_),(81,_),(82,_)]) (k -0) (DW U U U U U U U) ⟨S,0,rfl,(by unfold H2;rfl),j12,hI,PkS.refl E S,rfl, by omega, by omega⟩ ?_
  rintro _ _ w13 ⟨S1,i,rfl,rfl,j13,hI1,hP1,hC0,hi,hU⟩
  refine Qe (Qa (Xn U U U (Qf (Qc (Qe (Qt U (fun h14=> ?_) (fun h14=> ?_)))))))
  ·obtain⟨j,hj⟩: ∃j,S.cache[i]? =some j:=⟨_,Zd (by omega)⟩
   have hC1:S1.cache=j::S.cache.drop (i+1):= by rw[hC0,List.drop_eq_getElem_cons (by omega)];congr 1; exact(XL hj).2
   have hC2:S.cache.drop (i+1)=S.cache.drop (i+1):=rfl
   obtain⟨hjE,y,hy,hyp⟩:=hI1.cch (j:=j) (by rw[hC1]; simp)
   obtain⟨_,hpky⟩:=hI1.pck hjE hy hyp
   obtain⟨fy,hfy⟩:=Option.ne_none_iff_exists'.1 hpky
   have hfme:VM y=fy:= by unfold VM fm; rw[if_pos hyp,hfy];rfl
   have hy64:y.pg.length=64:=(hI1.ent hy).2.2.2.2.1
   have hype:y.pg≠[]:= fun q=> by rw[q]at hy64; simp at hy64
   have hvw:Ent (rowT inC (.slice ac S.cache.length cc) S.cache) (RdL inC (H2 1 (.slice ac S.cache.length cc) 0 k) ((S.cache.take k).drop 0)):=Cc (by omega) (by omega) (by omega) hccl
   refine Qs (Qc (Qe (Qw (Qe (Qa ?_)))))
   have hvr:=Ent.sat hvw j13 3 U
   obtain⟨va,vc,hvv,_⟩:=hvr.shape
   rw[hvv]at hvr
   obtain⟨vb,vo,rfl,hvc⟩:=hvr.get (i:=i) (a:=j) (by rw[List.drop_zero,List.getElem?_take,if_pos (by omega)]; exact hj)
   refine Za i (congrArg some hvv) U U (by rw[List.drop_zero,List.length_take];omega) Un U ?_
   refine Qo U QM (hvc 0 _ U) U (Qd U U (Qf (Qc (Qh [82,81,80,9,7,1,0,12] U (Qe (Qa (Qb U U (Qi U U (Qg U XR U (Qo U ZD (by first | assumption | exact j13.cell 0 U U) U ?_))))))))))
   refine Qb U U (X8 (k:=j) 1 j13 keysInt underlying75 U U U X9 (u:=(.agg #[intV y.refs,intV y.place,intV y.at_,strV (VM y)])) (WT hy) U (Xa j13 X9 U U ?_))
   intro b15 w15 j15
   first | (refine Q9 j15 U U Zc U (by first | rfl | (simp [QV,Value.oneCell'];done) | assumption | exact hone) (i:=0) U (by first | decide | exact Q7 U | (simp;done) | omega) ?_) | (refine Q9 j15 U U Zc U (by first | rfl | (simp [QV,Value.oneCell'];done) | assumption | exact hone) (i:=1) U (by first | decide | exact Q7 U | (simp;done) | omega) ?_)
   intro w16 j17; dsimp only[List.set]at j17
   refine Qf (Qc (Qh [82,81,80,9,7,1,0,12,13] U (Qe (Qa (Qg U Bt U (Qo U Yd (by first | assumption | exact j17.cell 0 U U | exact j17.cell 1 U U) U ?_))))))
   refine Q0 NA U (Rb (j17.sp [] U) hy64 (by rw[hfme]; exact hfy)) U ?_
   rintro _ w18 ⟨rfl,j18⟩
   replace j18:=j18.jn U U
   refine Qb U U (Qp U U U (Qp U U U (Qd U U (Qd U U (Qf (Qc (Qh [82,81,80,9,7,1,0,12,13,14] U (Qe (Qa (Qb U U (Qi U U (Qg U Hv U (Qo U RG (by first | assumption | exact j18.cell 0 U U | exact j18.cell 1 U U) U ?_)))))))))))))
   refine Qb U U (Xr P9 U (Te (j18.sp [6] U) y.pg hy64) U ?_)
   rintro e w19 ⟨_,rfl,(⟨hfull,rfl,j19⟩ | ⟨ks,hks,rfl,j19⟩)⟩
   ·exact absurd hfull (by omega)
   refine⟨_,U, ?_⟩
   replace j19:=j19.jn U U
   refine Qb U U (Qp U U U (Qp U U U (Qd U U (Qd U U (Qf (Qc (Qh [82,81,80,9,7,1,0,12,13,16] U ?_)))))))
   have j20:=j19.drew
   refine QH [0,1,2,3,4,5,6,7,8,9] [9] ZW (by kernel_rfl) ?_
   refine QJ U U U (Xd U U U (QP U U U XR (Q3 U U U (Qm U ZD (by first | assumption | exact j20.cell 1 U U | exact j20.cell 2 U U)) ?_)))
   refine QJ U U U (QP U U U WY (Q3 U U U (Qm U QM (by first | assumption | exact j20.cell 1 U U | exact j20.cell 2 U U)) ?_))
   refine QJ U U U (Xh U U U (fun _=>(Wg U WE Hx X9 U)) ?_)
   refine Xl U U U U U U ?_
   refine Xi (k:=j) (v:=NX ⟨y.refs,3,(ks:Nat),y.pg⟩) 3 j20 keysInt underlying75 U U U U ?_
   intro w21 hS21a; dsimp only[List.set]at hS21a; have j21:=hS21a; rw[Vz]at j21
   refine Zj (Xq (by kernel_rfl)) ?_
   refine VC.nil (Ql (Qc (Qh [82,81,80,9,7,1,0] U (Qa (QK U U (by omega) (by omega) U ?_)))))
   refine Qb U U (Qf ?_)
   obtain⟨hI2,hP2⟩:=S9 hI1 hP1 hC1 hy hks
   exact Q5 (L1:=[(0,_),(1,_),(7,_),(9,_),(80,_),(81,_),(82,intV ((i+1:Nat):Int))]) (DW U U U U U U U) (k1:=k -(i+1)) (by omega) ⟨{S1 with all:=up S1.all j (some ⟨y.refs,3,(ks:Nat),y.pg⟩),sl:=S1.sl.set ks y.pg,cache:=S.cache.drop (i+1)},i+1,rfl,rfl,j21.pick [2,3,4,5,6,0,7,8,9] U,hI2,hP2,rfl, by omega, by dsimp only; rw[List.length_set,KZ hks hype];omega⟩
  refine QT (Qq (Qq (Qy (Qc (Qe ?_)))))
  have hx1:S1.all id=some x:=hP1.one id x hx (.inl hpl)
  refine Qa (Qb U U (Qb U U (Qi U U (Qg U WR U (Qo U Yw (by first | assumption | exact j13.cell 0 U U) U ?_)))))
  refine Qb U U (RY k S.cache.length underlying22 Js U (RV k _ U U) (bndN _) (by omega) (by omega) U ?_)
  have hv2:Ent (rowT inC (.slice ac S.cache.length cc) S.cache) (RdL inC (H2 1 (.slice ac S.cache.length cc) k S.cache.length) (S.cache.drop k)):= fun hq=> by have q:=Cc (C:=inC) (A:=k) (B:=S.cache.length) (by omega) (by omega) (by omega) hccl hq;rwa [List.take_of_length_le (by omega)]at q
  refine Q0 Gw U (Vb (j13.sp [] U) (Ent.starL hv2 3 U) (by rw[List.length_drop];omega)) U ?_
  rintro _ w22 j22
  replace j22:=j22.jn U U
  obtain⟨na,nc,hnv,_⟩:=j22.own_shape 0 rfl
  obtain rfl:=hnv
  refine Qb U U (ZV inC [id] j22 U underlying22 Bl U U U U (by first | rfl | simp [RowC.cells,Wu,Xz]) U ?_)
  intro b23 w23 j23
  refine Jf inC 1 j23 U U U (j23.rd 0 U (by simp)) underlying22 underlying22 (by intro k hk; cases hk) TH U (by simp only[List.length_cons,List.length_nil,List.length_drop];omega) U (by simp only[List.length_cons,List.length_nil,List.length_drop];omega) ?_
  intro v24 w24 j24; dsimp only[List.set]at j24
  have h1v24:v24.oneCell'=true:=j24.own_one 1 U
  refine Qi U U (Qg U WR U ?_)
  first | (refine Qx j24 U U ZM (by first | rfl | assumption | exact j24.own_one 0 U | exact j24.own_one 1 U | exact j24.own_one 5 U | exact j24.own_one 9 U) (i:=2) U (by first | decide | exact Q7 U | (simp;done) | omega) ?_)
  intro w25 j26; dsimp only[List.set]at j26
  refine Qf (Qc (Qh [7,1,0] U (Qe ?_)))
  have j27:=j26.drew
  refine QH [0,1,2,3,4,5,6,7,8,9,10,11,12,13,14] [14] ZW (by kernel_rfl) ?_
  refine QJ U U U (Xd U U U (QP U U U XR (Q3 U U U (Qm U ZD (by first | assumption | exact j27.cell 2 U U)) ?_)))
  refine QJ U U U (QJ U U U (Xd U U U (QP U U U XR (Q3 U U U (Qm U ZD (by first | assumption | exact j27.cell 2 U U)) ?_))))
  refine QJ U U U (Q3 U U U (Xt (k:=id) 3 j27 keysInt underlying75 U U U X9 (u:=(.agg #[intV x.refs,intV x.place,intV x.at_,strV (VM x)])) (WT hx1)) (Xh U U U (fun _=>(K9 Ku U U)) ?_))
  refine QJ U U U (Xh U U U (fun _=>(Wg U Mn Hx X9 U)) ?_)
  refine Xl U U U U U U ?_
  have hsv28:Value.agg #[intV x.refs,intV 2,intV 0,strV f]=NX ⟨x.refs,2,0,x.pg⟩:= by unfold NX VM fm; simp [hpm]
  refine Xi (k:=id) (v:=Value.agg #[intV x.refs,intV 2,intV 0,strV f]) 3 j27 keysInt underlying75 U U U U ?_
  intro w28 hS28a; dsimp only[List.set]at hS28a; have j28:=hS28a; rw[hsv28,Vz]at j28
  refine Zj (Xq (by kernel_rfl)) ?_
  refine VC.nil (Qc (Mc (L':=[]) .nil (Qe (Qa (Qd U U (Qf (Qc (Qv (QR (.inr U) U U ?_)))))))))
  have hc1:S1.cache=S.cache.drop k:= by rw[hC0, show i=k by omega]
  have hsm:W5 S1.all S1.cache=W5 S.all (S.cache.drop k):= by rw[hc1]; exact Dm fun j _=> by have :=hP1.go.same j; cases hq:S1.all j<;> cases hq2:S.all j<;>simp_all
  have hSe:({S1 with all:=up S1.all id (some ⟨x.refs,2,0,x.pg⟩),cache:=S1.cache++[id]}:SS)=⟨up S1.all id (some ⟨x.refs,2,0,x.pg⟩),S.inn,S1.cache++[id],S.fr,S1.sl,S.ck,S.slots,S.budget,S.next,S.taken⟩:= by rw[←hP1.inn,←hP1.fr,←hP1.ck,←hP1.tak,←hP1.go.bud,←hP1.go.slo,←hP1.go.nxt]
  exact⟨_,rfl,.inr ⟨f,S1,rfl,rfl,hI1,hP1, by rw[hsm,hP1.go.bud];omega, by rw[hSe,hc1]; exact QW (j28.pick [2,3,4,1,6,7,8,9,10] U)⟩⟩
