/- sheets: evict, get -/
import Derived.Test.YtkgjmhcdacidoaaGreatDoorSh5
import Derived.Test.YtkgjmhcdacidoaaGreatDoorRow
import Derived.Test.YtkgjmhcdacidoaaGreatDoorFw
set_option linter.unusedVariables false
set_option maxRecDepth 100000
set_option maxHeartbeats 1600000
namespace Go.Proofs.YtkgjmhcdacidoaaGreatDoor
open Go.RowKit M Proofs.Tryz
theorem CY {w:World} {p:Nat} {S:SS} {F:Th} (hS:Sat w [Yn p S,F]) {E:Int→Prop} {N:Nat} (hI:ShI E N S) (hN:N≤80000000000) {f:Int} {b0:Bs} (hf0:ZH S.fr f=some b0):
    Calls prog 184 #[ptrV p 0,intV f] w (Ret fun v w'=>(v= .bool false∧Wt S.sl=S.sl.length∧Sat w' [Yn p S,F])∨(v= .bool true∧ ∃S',EvS E N f S S'∧Sat w' [Yn p S',F])):= by
 obtain⟨id,x,hin,hE,hx,hpl,hat,hpg⟩:=SJ hI hf0
 subst hpg
 have hf:=hf0
 have hx64:x.pg.length=64:=(hI.ent hx).2.2.2.2.1
 replace hN:N≤90000000000:= by omega
 obtain⟨ba,bi,fp,sp,kp,ac,cc,at2,ct,hS⟩:=XX hS
 refine Qn func184 U ntmps184 U ?_
 refine Qe (Qa (Qd U U (Qf (Qc (Qe (Qa (Qb U U (Qi U U (Qg U Ua U (Qo U Ye (by first | assumption | exact hS.cell 0 U U) U ?_))))))))))
 refine Qb U U (X8 (k:=f) 2 hS keysInt underlying76 U U U Hm (u:=intV id) (gI_some hin) U (Qd U U (Qf (Qc (Qe (Qa (Qb U U (Qi U U (Qg U Jl U (Qo U HM (by first | assumption | exact hS.cell 0 U U) U ?_))))))))))
 refine Qb U U (Q0 NB U (Rv (hS.sp [4] U) f) U ?_)
 rintro _ w1 ⟨rfl,j1⟩
 replace j1:=j1.jn U U
 rw[hf]
 dsimp only[Option.getD_some]
 refine Qd U U (Qf (Qc (Qh [1,0,4,5,6] U (Qe (Qe ?_)))))
 have j2:=QW (j1.pick [1,2,3,4,0,5,6,7,8] U)
 refine Qa (Qb U U (Qb U U (Qb U U (Xr cal_207 U (Sp (j2.sp [0] U) hI hN hx hpl) U ?_))))
 rintro e w3 ⟨_,rfl,(⟨rfl,j3⟩ | ⟨fx,S1,rfl,hpm,hI1,hP1,hsum,j3⟩)⟩
 ·refine⟨_,U, ?_⟩
  replace j3:=j3.jn U U
  refine QU U U (Qf (Qc (QS U (fun h4=> ?_) (fun h4=> ?_))))
  ·refine Qe ?_
   obtain⟨ba,bi,fp,sp,kp,ac,cc,at2,ct,hSo5⟩:=XX (j3.pick [0,1] rfl)
   refine Qa (Qb U U (Qi U U (Qg U Hv U (Qo U RG (by first | assumption | exact hSo5.cell 0 U U) U ?_))))
   refine Qb U U (Xr P9 U (Te (hSo5.sp [5] U) x.pg hx64) U ?_)
   rintro e w6 ⟨_,rfl,(⟨hfull,rfl,j6⟩ | ⟨ks,hks,rfl,j6⟩)⟩
   ·refine⟨_,U, ?_⟩
    replace j6:=j6.jn U U
    clear hSo5
    refine Qb U U (Qp U U U (Qp U U U (Qd U U (Qd U U (Qf (Qc (Qh [1,0,4,5,7,8] U (Qe (Qe (Qa (Qb U U (QU U U (Qf (Qc (QS U (fun h7=> ?_) (fun h7=> ?_))))))))))))))))
    ·exact Qe (Qa (Qd U U (Qf (Qc (Qv (Qr (Qr (QR (.inr U) U U (⟨_,U,.inl ⟨U,hfull,QW (j6.pick [1,2,3,4,5,0,6,7,8] U)⟩⟩)))))))))
    exact absurd h7 (by simp)
   refine⟨_,U, ?_⟩
   replace j6:=j6.jn U U
   clear hSo5
   refine Qb U U (Qp U U U (Qp U U U (Qd U U (Qd U U (Qf (Qc (Qh [1,0,4,5,7,8] U (Qe (Qe (Qa (Qb U U (QU U U (Qf (Qc (QS U (fun h8=> ?_) (fun h8=> ?_))))))))))))))))
   ·exact absurd h8 (by simp)
   refine Qs (Qc ?_)
   have j9:=j6.drew
   refine QH [0,1,2,3,4,5,6,7,8,9,10,11,12,13,14] [14] ZW (by kernel_rfl) ?_
   refine QJ U U U (Xd U U U (QP U U U XR (Q3 U U U (Qm U ZD (by first | assumption | exact j9.cell 1 U U)) ?_)))
   refine QJ U U U (QJ U U U (Xd U U U (QP U U U XR (Q3 U U U (Qm U ZD (by first | assumption | exact j9.cell 1 U U)) ?_))))
   refine QJ U U U (Q3 U U U (Xt (k:=id) 2 j9 keysInt underlying75 U U U X9 (u:=(.agg #[intV x.refs,intV x.place,intV x.at_,strV (VM x)])) (WT hx)) (Xh U U U (fun _=>(K9 Ku U U)) ?_))
   refine QJ U U U (Xh U U U (fun _=>(Wg U WE Hx X9 U)) ?_)
   refine Xl U U U U U U ?_
   have hsv10:Value.agg #[intV x.refs,intV 3,intV (ks:Nat),strV []]=NX ⟨x.refs,3,(ks:Nat),x.pg⟩:=rfl
   refine Xi (k:=id) (v:=Value.agg #[intV x.refs,intV 3,intV (ks:Nat),strV []]) 2 j9 keysInt underlying75 U U U U ?_
   intro w10 hS10a; dsimp only[List.set]at hS10a; have j10:=hS10a; rw[hsv10,Vz]at j10
   refine Zj (Xq (by kernel_rfl)) ?_
   refine VC.nil (Qc (Qh [1,0,4] U (Qe ?_)))
   have j11:=QW (S:={S with all:=up S.all id (some ⟨x.refs,3,(ks:Nat),x.pg⟩),sl:=S.sl.set ks x.pg}) (j10.pick [1,2,3,4,5,0,6,7,8] U)
   refine Qa (Qb U U (Qb U U ?_))
   refine Q0 MI U (Rg (j11.sp [0] U) (f:=f) (b0:=x.pg) hf (by show S.ck.length=S.fr.length; rw[hI.ck,List.length_map]) (by show S.taken.length≤90000000000; have :=hI.tln;omega)) U ?_
   rintro _ w12 ⟨rfl,j12⟩
   replace j12:=j12.jn U U
   exact Qf (Qc (Qe (Qa (Qd U U (Qf (Qc (Qv (QR (.inr U) U U (⟨_,U,.inr ⟨U,_,Ns hI hE hx hpl hat hks,j12.pick [0,1] U⟩⟩)))))))))
  exact absurd h4 (by simp)
 refine⟨_,U, ?_⟩
 replace j3:=j3.jn U U
 refine QU U U (Qf (Qc (QS U (fun h13=> ?_) (fun h13=> ?_))))
 ·exact absurd h13 (by simp)
 refine Qs (Qc (Qe (Qa (Qb U U (Qb U U ?_)))))
 refine Q0 MI U (Rg (j3.sp [0] U) (f:=f) (b0:=x.pg) (by show ZH S1.fr f=_; rw[hP1.fr]; exact hf) (by show S1.ck.length=S1.fr.length; rw[hI1.ck,List.length_map]) (by show S1.taken.length≤90000000000; have :=hI1.tln;omega)) U ?_
 rintro _ w14 ⟨rfl,j14⟩
 replace j14:=j14.jn U U
 refine Qf (Qc (Qh [4] U (Qe (Qa (Qd U U (Qf (Qc (Qv (QR (.inr U) U U ?_)))))))))
 exact⟨_,rfl,.inr ⟨rfl,_,Nt hI hI1 hP1 hE hx hpl hat (by rw[hpm]; simp) (by rw[show fm x.pg=fx by unfold fm; rw[hpm];rfl]; exact hsum),j14.pick [0,1] U⟩⟩
noncomputable def TK (S:SS) (k:Nat):SS:={S with fr:=S.fr.set k (some (MO [])),ck:=S.ck.set k true}
structure GetS (E:Int→Prop) (T:Nat) (k:Nat) (S S':SS):Prop where
  inv:ShI E T S'
  go:ShG S S'
  fr:S'.fr[k]? =some none
  lim: ∀j x,S.all j=some x→E j→S'.all j=some x
theorem get_now {E:Int→Prop} {T:Nat} {S:SS} {k:Nat} (h:ShI E T S) (hk:S.fr[k]? =some none):GetS E (T+1) k S S:=⟨h.mono (by omega),ShG.refl S,hk, fun _ _ h _=>h⟩
theorem get_ev {E:Int→Prop} {T:Nat} {S S':SS} {f:Int} {k:Nat} (h:EvS E T f S S') (hk:S'.fr[k]? =some none):GetS E (T+1) k S S':=⟨h.inv,h.go,hk,h.lim⟩
theorem ck_has {E:Int→Prop} {T:Nat} {S:SS} {k:Nat} (h:ShI E T S) (hk:S.ck[k]? =some true): ∃b,ZH S.fr (k:Nat)=some b:= by
  rw[h.ck,List.getElem?_map]at hk
  obtain⟨o,h1,h2⟩:=Option.map_eq_some_iff.1 hk
  obtain⟨b,rfl⟩:=Option.isSome_iff_exists.1 h2
  refine⟨b, ?_⟩
  unfold ZH
  rw[if_pos (by omega)]; simp [h1]
theorem ck_some {E:Int→Prop} {T:Nat} {S:SS} (h:ShI E T S) (hall: ∀o∈S.fr,o≠none) (hno: ∀x∈S.ck,x=false):False:= by
  have h1:=h.fr1
  obtain⟨o,ho⟩: ∃o,S.fr[0]? =some o:=⟨_,Zd (by omega)⟩
  have h2:=hall o (List.mem_of_getElem? ho)
  have h3:S.ck[0]? =some o.isSome:= by rw[h.ck,List.getElem?_map,ho];rfl
  have h4:=hno _ (List.mem_of_getElem? h3)
  cases o with
  | none=> exact h2 rfl
  | some b=> cases h4
theorem Ux {w:World} {p:Nat} {S:SS} {F:Th} (hS:Sat w [Yn p S,F]) {E:Int→Prop} {N:Nat} (hI:ShI E N S) (hN:N≤80000000000):
    Calls prog 157 #[ptrV p 0] w (Ret fun v w'=>(v= .tuple #[intV 0,.bool false]∧(∀o∈S.fr,o≠none)∧Wt S.sl=S.sl.length∧Sat w' [Yn p S,F])∨(∃k S1,v= .tuple #[intV (k:Nat),.bool true]∧GetS E (N+1) k S S1∧Sat w' [Yn p (TK S1 k),F])):= by
 obtain⟨ba,bi,fp,sp,kp,ac,cc,at2,ct,hS⟩:=XX hS
 refine Qn func157 U ntmps157 U ?_
 refine Qe (Qa (Qd U U (Qd U U (Qf (Qc (Qe (Qa (Qb U U (Qi U U (Qg U Jl U (Qo U HM (by first | assumption | exact hS.cell 0 U U) U ?_)))))))))))
 refine Xr PC U (Bn (hS.sp [4] U)) U ?_
 rintro e w1 ⟨_,rfl,(⟨rfl,hall1,j1⟩ | ⟨k,hk,rfl,j1⟩)⟩
 ·refine⟨_,U, ?_⟩
  replace j1:=j1.jn U U
  refine Qb U U (Qp U U U (Qp U U U (Qd U U (Qd U U (Qf (Qc (Qh [0,2,3,4,5] U (Qe (Qe (Qa (Qb U U (QU U U (Qf (Qc (QS U (fun h2=> ?_) (fun h2=> ?_))))))))))))))))
  ·refine Qe (Qa (Qb U U (Qi U U (Qg U Gk U (Qo U PS (by first | assumption | exact j1.cell 1 U U) U ?_)))))
   refine Xr cal_183 U (Ff (j1.sp [6] U)) U ?_
   rintro e w3 ⟨_,rfl,(⟨kv,hkv,rfl,j3⟩ | ⟨hno,rfl,j3⟩)⟩
   ·refine⟨_,U, ?_⟩
    replace j3:=j3.jn U U
    refine Qb U U (Qp U U U (Qp U U U (Qd U U (Qd U U (Qf (Qc (Qh [0,2,3,4,5,6,7] U (Qe (Qe (Qa (Qb U U (QU U U (Qb U U (Xw 28 U (fun h4=> ?_) (fun h4=> ?_)))))))))))))))
    ·exact absurd h4 (by simp)
    refine Qj U U h4 (Qb U U (Qj U U h4 (Qb U U (Qj U U h4 ?_))))
    have j5:=QW (j3.pick [2,3,4,5,1,6,0,7,8] U)
    obtain⟨bk,hbk⟩:=ck_has hI hkv
    refine Xr cal_184 U (CY (j5.sp [0] U) hI hN hbk) U ?_
    rintro e w6 ⟨_,rfl,(⟨rfl,hfull,j6⟩ | ⟨rfl,S2,hE2,j6⟩)⟩
    ·refine⟨_,U, ?_⟩
     replace j6:=j6.jn U U
     refine Qj U U h4 (QU U U (QC U h4 U U (Qf (Qc (Qh [0,2,3,4,5,33] U (QS U (fun h7=> ?_) (fun h7=> ?_)))))))
     ·exact Qe (Qa (Qd U U (Qd U U (Qf (Qc (Qv (Qr (Qr (Jm (.inr U) U U U (⟨_,U,.inl ⟨U,hall1,hfull,j6.pick [0,1] U⟩⟩))))))))))
     exact absurd h7 (by simp)
    refine⟨_,U, ?_⟩
    replace j6:=j6.jn U U
    refine Qj U U h4 (QU U U (QC U h4 U U (Qf (Qc (Qh [0,2,3,4,5,33] U (QS U (fun h8=> ?_) (fun h8=> ?_)))))))
    ·exact absurd h8 (by simp)
    refine Qs (Qc ?_)
    obtain⟨ba,bi,fp,sp,kp,ac,cc,at2,ct,hSo9⟩:=XX (j6.pick [0,1] rfl)
    refine Qa (Qb U U (Qi U U (Qg U Jl U (Qo U HM (by first | assumption | exact hSo9.cell 0 U U) U ?_))))
    refine Xr PC U (Bn (hSo9.sp [4] U)) U ?_
    rintro e w10 ⟨_,rfl,(⟨rfl,hall2,j10⟩ | ⟨k,hk,rfl,j10⟩)⟩
    ·exact absurd U (hall2 none (by rw[hE2.fr]; exact List.mem_of_getElem? (List.getElem?_set_self (by have :=(Gh hbk).2;omega))))
    refine⟨_,U, ?_⟩
    replace j10:=j10.jn U U
    clear hSo9
    refine Qb U U (Qp U U U (Qp U U U (Qd U U (Qd U U (Qf (Qc (Qh [0,2,3,4,5] U (Qe (Qe (Qa (Qb U U (Qf (Qc (QS U (fun h11=> ?_) (fun h11=> ?_)))))))))))))))
    ·refine Qa (Qb U U (Qi U U (Qg U Gk U (Qo U PS (by first | assumption | exact j10.cell 1 U U) U ?_))))
     refine Qb U U ?_
     have hkl:k<S2.fr.length:=(XL hk).1
     have hkc:S2.ck.length=S2.fr.length:= by rw[(hE2.inv).ck,List.length_map]
     refine Q0 PB U (E3 (j10.sp [6] U) (k:Int) (by omega) 0) U ?_
     rintro _ w12 ⟨rfl,j12⟩
     replace j12:=j12.jn U U
     simp only[Int.toNat_natCast]at j12
     exact Qf (Qc (Qh [2,3,4,5] U (Qe (Qa (Qb U U (Qb U U (Qd U U (Qd U U (Qf (Qc (Qv (Jm (.inr U) U U U (⟨_,U,.inr ⟨k,S2,U,get_ev hE2 hk,QW (S:=TK S2 k) (j12.pick [2,3,4,5,1,6,0,7,8] U)⟩⟩)))))))))))))
    exact absurd h11 (by simp)
   exact(ck_some hI hall1 hno).elim
  exact absurd h2 (by simp)
 refine⟨_,U, ?_⟩
 replace j1:=j1.jn U U
 refine Qb U U (Qp U U U (Qp U U U (Qd U U (Qd U U (Qf (Qc (Qh [0,2,3,4,5] U (Qe (Qe (Qa (Qb U U (QU U U (Qf (Qc (QS U (fun h13=> ?_) (fun h13=> ?_))))))))))))))))
 ·exact absurd h13 (by simp)
 refine Qs (Qc (Qe (Qe (Qa (Qb U U (Qf (Qc (QS U (fun h14=> ?_) (fun h14=> ?_)))))))))
 ·refine Qa (Qb U U (Qi U U (Qg U Gk U (Qo U PS (by first | assumption | exact j1.cell 1 U U) U ?_))))
  refine Qb U U ?_
  have hkl:k<S.fr.length:=(XL hk).1
  have hkc:S.ck.length=S.fr.length:= by rw[(hI).ck,List.length_map]
  refine Q0 PB U (E3 (j1.sp [6] U) (k:Int) (by omega) 0) U ?_
  rintro _ w15 ⟨rfl,j15⟩
  replace j15:=j15.jn U U
  simp only[Int.toNat_natCast]at j15
  exact Qf (Qc (Qh [2,3,4,5] U (Qe (Qa (Qb U U (Qb U U (Qd U U (Qd U U (Qf (Qc (Qv (Jm (.inr U) U U U (⟨_,U,.inr ⟨k,S,U,get_now hI hk,QW (S:=TK S k) (j15.pick [2,3,4,5,1,6,0,7,8] U)⟩⟩)))))))))))))
 exact absurd h14 (by simp)
end Go.Proofs.YtkgjmhcdacidoaaGreatDoor
namespace Go.Proofs.YtkgjmhcdacidoaaGreatDoor.M
open Go.RowKit Proofs.Tryz
section
variable {P:Program} {n:Nat} {ops:Array Oper} {Q:Exit→Act→World→Prop} {rest:List Oper} {L:Env} {w:World} {d:Nat} {ty:TypeId} {pos:String} {aft:Array Edge} {κ:Type} {kv:κ→Value} {As:List Th}
theorem ZK {mt kt et:TypeId} {x y:Operand} {b:Nat} {f:κ→Option Value} {k:κ} {z:Value} (i:Nat) (hS:Sat w As) (K:KeyOk P kt kv) (hm:P.underlying mt=some (.map kt et)) (hi:As[i]? =some (Q6 kv b f)) (hx:look L x=some (.map (some b))) (hy:look L y=some (kv k)) (hz:XQ P et=some (some z)) {u:Value} {g:Bool} (hv:(f k).getD z=u) (hg:(f k).isSome=g):Ev P L w ⟨some d,.lookup mt x y true,ty,pos,aft,none⟩ (.tuple #[u,.bool g]):= fun ρ hρ=> by
  subst hv; subst hg
  obtain⟨es,c,h,h2⟩:=hS.map i hi
  have hx':=hρ _ _ hx
  have hy':=hρ _ _ hy
  rcases K.find k es.toList w h.keys with⟨j,e,h1,h3,h4⟩ | ⟨h1,h4⟩
  · have :(f k)=some e.val:=(h2 k e.val).2 ⟨e,List.mem_of_getElem? h1,h3,rfl⟩
    simp [execOp,hx',hy',Instr.lookup,run_underlying hm,MapKept.run_getObj_map h.blk,K.check,h4,this]
  · have :f k=none:= by
      cases hf:f k with
      | none=>rfl
      | some u=> obtain⟨e,he,hkk,_⟩:=(h2 k u).1 hf; exact absurd hkk (h1 e he)
    simp [execOp,hx',hy',Instr.lookup,run_underlying hm,MapKept.run_getObj_map h.blk,K.check,h4,this,J9 hz]
theorem Xj {mt kt et:TypeId} {x y:Operand} {b:Nat} {f:κ→Option Value} {k:κ} {z:Value} (i:Nat) (hS:Sat w As) (K:KeyOk P kt kv) (hm:P.underlying mt=some (.map kt et)) (hi:As[i]? =some (Q6 kv b f)) (hx:look L x=some (.map (some b))) (hy:look L y=some (kv k)) (hz:XQ P et=some (some z)) {u:Value} {g:Bool} (hv:(f k).getD z=u) (hg:(f k).isSome=g) (hd:Nat.blt d n=true)
    (hk:wl P n ops Q rest ((d,.tuple #[u,.bool g])::L) w):wl P n ops Q (⟨some d,.lookup mt x y true,ty,pos,aft,none⟩::rest) L w:=Xv hd (ZK i hS K hm hi hx hy hz hv hg) hk
theorem Card.sub {f g:κ→Option Value} {m:Nat} (h:Card f m) (h':Card g m) (e: ∀k v,f k=some v→g k=some v):f=g:= by
  obtain⟨ks,h1,h2,h3⟩:=h
  obtain⟨js,g1,g2,g3⟩:=h'
  have s1: ∀x∈ks,x∈js:= fun x hx=>(g3 x).1 fun q=> by
    cases hf:f x with
    | none=> exact((h3 x).2 hx) hf
    | some v=> rw[e x v hf]at q; cases q
  have s2: ∀x∈js,x∈ks:= fun x hx=>Classical.byContradiction fun hn=> by
    have :=List.Nodup.length_le_of_subset (l₂:=js) (List.nodup_cons.2 ⟨hn,h1⟩) (by
      intro y hy
      rcases List.mem_cons.1 hy with rfl | hy
      · exact hx
      · exact s1 y hy)
    simp at this;omega
  funext k
  cases hf:f k with
  | some v=> exact(e k v hf).symm
  | none=>
    cases hg:g k with
    | none=>rfl
    | some v=> exact absurd hf ((h3 k).2 (s2 k ((g3 k).1 (by rw[hg]; simp))))
theorem Card.uniq {f:κ→Option Value} {m q:Nat} (h:Card f m) (h':Card f q):m=q:=h.same h' fun _=>Iff.rfl
end
end Go.Proofs.YtkgjmhcdacidoaaGreatDoor.M
namespace Go.Proofs.YtkgjmhcdacidoaaGreatDoor
open Go.RowKit M Proofs.Tryz
def vw (S:SS):Int→Option (Int×Bs):= fun j=>(S.all j).map fun x=>(x.refs,x.pg)
structure ShF (S S':SS):Prop where
  tk: ∃L,S'.taken=S.taken++L∧ ∀j x,S.all j=some x→x.place=1→x.at_∈L∨ ∃y,S'.all j=some y∧y.place=1∧y.at_=x.at_
  bud:S'.budget=S.budget
  slo:S'.slots=S.slots
  frn:S'.fr.length=S.fr.length
theorem ShF.refl (S:SS):ShF S S:=⟨⟨[], by simp, fun j x h1 h2=> .inr ⟨x,h1,h2,rfl⟩⟩,rfl,rfl,rfl⟩
theorem ShG.f {S S':SS} (h:ShG S S'):ShF S S':=⟨h.tk,h.bud,h.slo,h.frn⟩
theorem ShG.vw {S S':SS} (h:ShG S S'):vw S'=vw S:=funext h.same
noncomputable def onF (S:SS) (j:Int) (k:Nat) (r:Int) (pg:Bs) (nx:Int):SS:={S with all:=up S.all j (some ⟨r,1,(k:Nat),pg⟩),inn:=up S.inn (k:Nat) (some j),fr:=S.fr.set k (some pg),ck:=S.ck.set k true,next:=nx}
theorem FF {S:SS} {A:Int→Option ShE} {j:Int} {x:ShE} (hA:A=up S.all j (some x)):(fun i=>(A i).map fun x=>(x.refs,x.pg))=up (vw S) j (some (x.refs,x.pg)):= by
  subst hA
  funext i
  by_cases q:i=j
  · subst q; rw[XO,XO];rfl
  · rw[XW q,XW q];rfl
theorem vw_onF {S:SS} {j:Int} {k:Nat} {r:Int} {pg:Bs} {nx:Int}:vw (onF S j k r pg nx)=up (vw S) j (some (r,pg)):=FF U
theorem ShF.on {S S1:SS} {j:Int} {k:Nat} {r:Int} {pg:Bs} {nx:Int} (h:ShG S S1) (hj: ∀x,S.all j=some x→x.place≠1):ShF S (onF S1 j k r pg nx):= by
  obtain⟨L,h1,h2⟩:=h.tk
  refine⟨⟨L,h1, fun i x hx hp=> ?_⟩,h.bud,h.slo, by show(S1.fr.set _ _).length=_; rw[List.length_set]; exact h.frn⟩
  have q:i≠j:= fun q=>hj x (q▸hx) hp
  rcases h2 i x hx hp with h3 | ⟨y,h3,h4,h5⟩
  · exact .inl h3
  · exact .inr ⟨y, by show up S1.all j _ i=_; rw[XW q]; exact h3,h4,h5⟩
structure NewS (T:Nat) (S S':SS) (id:Int) (pg:Bs):Prop where
  inv:ShI VX (T+1) S'
  f:ShF S S'
  was:S.all id=none
  pos:1≤id
  is:vw S'=up (vw S) id (some (1,pg))
  at_: ∃x,S'.all id=some x∧x.place=1
  nxt:S'.next=max S.next (id+1)
theorem new_of {T:Nat} {S S1:SS} {id:Int} {k:Nat} {pg:Bs} (h:ShI VX T S) (hg:GetS (one id) (T+1) k S S1) (hn:S.all id=none) (h1:1≤id) (h2:id+1≤1099511627777+(T+1)) (hp:pg.length=64):NewS T S (onF S1 id k 1 pg (max S1.next (id+1))) id pg:= by
  have h3:=hg.inv.onFrame (j:=id) (nx:=max S1.next (id+1)) (r:=1) (pg:=pg) U hg.fr h1 (by omega) (by have :=hg.inv.nx2;omega) (by omega) (by omega) hp
  refine⟨h3.congr fun i _=>⟨fun ⟨a,b⟩=>b a,False.elim⟩,ShF.on hg.go (fun x hx=> by rw[hn]at hx; cases hx),hn,h1, ?_,⟨_,XO,rfl⟩, by show max S1.next _=_; rw[hg.go.nxt]⟩
  rw[vw_onF,hg.go.vw]
theorem one_of {T:Nat} {S:SS} {id:Int} (h:ShI VX T S) (hn:S.all id=none):ShI (one id) T S:=h.congr fun j hj=>⟨False.elim, fun q=>hj (by rw[show j=id from q]; exact hn)⟩
theorem Pa {T:Nat} {S:SS} {id r:Int} {x:ShE} (h:ShI VX T S) (hx:S.all id=some x) (hr:1≤r∧r≤T+2):ShI VX (T+1) {S with all:=up S.all id (some {x with refs:=r})}∧ShF S {S with all:=up S.all id (some {x with refs:=r})}∧vw {S with all:=up S.all id (some {x with refs:=r})}=up (vw S) id (some (r,x.pg)):= by
  refine⟨(h.mono (by omega:T≤T+1)).refs hx (by omega),⟨⟨[], by simp, fun j y hy hp=> .inr ?_⟩,rfl,rfl,rfl⟩,FF U⟩
  by_cases q:j=id
  · subst q; rw[hx]at hy; cases hy; exact⟨_,XO,hp,rfl⟩
  · exact⟨y, by show up S.all id _ j=_; rw[XW q]; exact hy,hp,rfl⟩
theorem U6 {fl:List (Option Bs)} {k:Nat} {z pg:Bs} (hk:k<fl.length):U3 (fl.set k (some z)) (k:Int) pg=fl.set k (some pg):= by
  have h:ZH (fl.set k (some z)) (k:Int)=some z:= by unfold ZH; rw[if_pos (by omega),Int.toNat_natCast,List.getElem?_set_self hk]
  rw[Bo h,Int.toNat_natCast,List.set_set]
theorem La {w:World} {p:Nat} {S:SS} {F:Th} (hS:Sat w [Yn p S,F]) {N:Nat} (hI:ShI VX N S) (hN:N≤80000000000) {id:Int} {page:Bs} (Zt:S.all id=none) (h1:1≤id) (h2:id+1≤1099511627777+(N+1)) (hpg:page.length=64):
    Calls prog 154 #[ptrV p 0,intV id,strV page] w (Ret fun v w'=>(v=intV 6∧(∀o∈S.fr,o≠none)∧Wt S.sl=S.sl.length∧Sat w' [Yn p S,F])∨(v=intV 0∧ ∃S',NewS N S S' id page∧Sat w' [Yn p S',F])):= by
 refine Qn func154 U ntmps154 U ?_
 refine Qe (Qa (Qd U U (Qf (Qc (Qe (Qa (Qb U U (Xr KF U (Ux (hS.sp [0] U) (E:=one id) (one_of hI Zt) hN) U ?_))))))))
 rintro e w1 ⟨_,rfl,(⟨rfl,hall,hfull,j1⟩ | ⟨k,S1,rfl,hg,j1⟩)⟩
 ·refine⟨_,U, ?_⟩
  replace j1:=j1.jn U U
  refine Qb U U (Qp U U U (Qp U U U (Qd U U (Qd U U (Qf (Qc (Qh [2,1,0,6,7,8] U (Qe (Qe (Qa (Qb U U (QU U U (Qf (Qc (QS U (fun h2=> ?_) (fun h2=> ?_))))))))))))))))
  ·exact Qe (Qa (Qd U U (Qf (Qc (Qv (Qr (QR (.inr U) U U (⟨_,U,.inl ⟨U,hall,hfull,j1.pick [0,1] U⟩⟩))))))))
  exact absurd h2 (by simp)
 refine⟨_,U, ?_⟩
 replace j1:=j1.jn U U
 refine Qb U U (Qp U U U (Qp U U U (Qd U U (Qd U U (Qf (Qc (Qh [2,1,0,6,7,8] U (Qe (Qe (Qa (Qb U U (QU U U (Qf (Qc (QS U (fun h3=> ?_) (fun h3=> ?_))))))))))))))))
 ·exact absurd h3 (by simp)
 refine Qs (Qc (Qe ?_))
 obtain⟨ba,bi,fp,sp,kp,ac,cc,at2,ct,hSo4⟩:=XX (j1.pick [0,1] rfl)
 refine Qa (Qb U U (Qi U U (Qg U Jl U (Qo U HM (by first | assumption | exact hSo4.cell 0 U U) U ?_))))
 refine Qb U U (Qb U U ?_)
 have hkl:k<S1.fr.length:=(XL hg.fr).1
 have hfs:U3 (TK S1 k).fr (k:Int) (page)=S1.fr.set k (some (page)):=U6 hkl
 refine Q0 KE U (H7 (hSo4.sp [4] U) (k:Int) (page) hpg) U ?_
 rintro _ w5 ⟨_,rfl,j5⟩
 replace j5:=j5.jn U U
 clear hSo4
 rw[hfs]at j5
 refine Qf (Qc (Qh [1,0,6,7] U (Qe ?_)))
 have j6:=j5.drew
 refine QH [0,1,2,3,4,5,6,7,8,9,10,11,12,13,14,15,16,17,18] [13,15,16,18] ZW (by kernel_rfl) ?_
 refine QJ U U U (Xd U U U (QP U U U XR (Q3 U U U (Qm U ZD (by first | assumption | exact j6.cell 1 U U)) ?_)))
 refine QJ U U U (QJ U U U (Xd U U U (QP U U U Ua (Q3 U U U (Qm U Ye (by first | assumption | exact j6.cell 1 U U)) ?_))))
 refine QJ U U U (QJ U U U (Xh U U U (fun _=>(Wg U WE Hx X9 U)) ?_))
 refine QJ U U U (Xl U U U U U U ?_)
 refine ZE (k:=id) 2 j6 keysInt underlying75 U U U X9 U ?_
 intro u7 c7 w7 j7; dsimp only[List.set]at j7
 refine XH (Xq (by kernel_rfl)) ?_
 refine Wj U U U U (Xl U U U U U U ?_)
 have hsv8:Value.agg #[intV 1,intV 1,intV (k:Nat),strV []]=NX ⟨1,1,(k:Nat),page⟩:=rfl
 refine Zq (v:=Value.agg #[intV 1,intV 1,intV (k:Nat),strV []]) 2 j7 keysInt U U U U ?_
 intro w8 hS8a; dsimp only[List.set]at hS8a; have j8:=hS8a; rw[hsv8,Vz]at j8
 refine Zj (Xq (by kernel_rfl)) ?_
 refine Xl U U U U U U ?_
 refine ZE (k:=(k:Int)) 3 j8 keysInt underlying76 U U U Hm U ?_
 intro u9 c9 w9 j9; dsimp only[List.set]at j9
 refine XH (Xq (by kernel_rfl)) ?_
 refine Wj U U U U (Xl U U U U U U ?_)
 refine Zq (v:=intV id) 3 j9 keysInt U U U U ?_
 intro w10 hS10a; dsimp only[List.set]at hS10a; have j10:=hS10a; rw[Ks]at j10
 refine Zj (Xq (by kernel_rfl)) ?_
 refine VC.nil (Qc (Qh [1,0,6] U (Qe (Qa (Qb U U (Qb U U (Qi U U (Qg U Mx U (Qo U QM (by first | assumption | exact j10.cell 1 U U) U ?_)))))))))
 refine Qb U U (QK U U (by omega) (by omega) U ?_)
 refine Ho U U U (Qi U U (Qg U Mx U ?_))
 first | (refine Qx j10 U U Js (by first | rfl | assumption | exact j10.own_one 4 U | exact j10.own_one 7 U) (i:=1) U (by first | decide | exact Q7 U | (simp;done) | omega) ?_)
 intro w11 j12; dsimp only[List.set]at j12
 exact Qf (Qc (Qh [6] U (Qe (Qa (Qd U U (Qf (Qc (Qv (QR (.inr U) U U (⟨_,U,.inr ⟨U,_,new_of hI hg Zt h1 h2 hpg,QW (S:=onF S1 id k 1 page (max S1.next (id+1))) (j12.pick [1,2,3,4,0,5,6,7,8] U)⟩⟩))))))))))
theorem GS {w:World} {p:Nat} {S:SS} {F:Th} (hS:Sat w [Yn p S,F]) {N:Nat} (hI:ShI VX N S) (hN:N≤80000000000) {page:Bs} (hpg:page.length=64):
    Calls prog 115 #[ptrV p 0,strV page] w (Ret fun v w'=>(v= .tuple #[intV 0,intV 6]∧(∀o∈S.fr,o≠none)∧Wt S.sl=S.sl.length∧Sat w' [Yn p S,F])∨(v= .tuple #[intV S.next,intV 0]∧ ∃S',NewS N S S' S.next page∧Sat w' [Yn p S',F])):= by
 have hnn:S.all S.next=none:= by cases hq:S.all S.next with | none=>rfl | some x=>(have :=(hI.ent hq).2.1;omega)
 refine Qn func115 U ntmps115 U ?_
 refine Qe (Qa (Qd U U (Qd U U (Qf (Qc (Qe (Qe (Qa (Qb U U (WO underlying9 U U (Xp U U U (Qf (Qc (Qt U (fun h1=> ?_) (fun h1=> ?_)))))))))))))))
 ·exact absurd h1 (by rw[hpg];decide)
 refine Qs (Qc (Qe ?_))
 obtain⟨ba,bi,fp,sp,kp,ac,cc,at2,ct,hSo2⟩:=XX (hS.pick [0,1] rfl)
 refine Qa (Qb U U (Qi U U (Qg U Mx U (Qo U QM (by first | assumption | exact hSo2.cell 0 U U) U ?_))))
 refine Qd U U (Qf ?_)
 have j3:=QW (hSo2.pick [0,1,2,3,4,5,6,7,8] U)
 refine Qc (Qh [1,0,4,5,6] U (Qe (Qe (Qa (Qb U U (Qb U U (Qb U U ?_)))))))
 refine Xr cal_154 U (La (j3.sp [0] U) hI hN (id:=S.next) (page:=page) hnn hI.nx1 (by have :=hI.nx2;omega) hpg) U ?_
 rintro e w4 ⟨_,rfl,(⟨rfl,hall,hfull,j4⟩ | ⟨rfl,S2,hn,j4⟩)⟩
 ·refine⟨_,U, ?_⟩
  replace j4:=j4.jn U U
  refine Qd U U (Qf (Qc (Qe (Qa (Qb U U (Xp U U U (Qf (Qc (Qh [4,5,6,7,20] U (Qt U (fun h5=> ?_) (fun h5=> ?_)))))))))))
  ·exact Qe (Qa (Qb U U (Qd U U (Qd U U (Qf (Qc (Qv (Qr (Jm (.inr U) U U U (⟨_,U,.inl ⟨U,hall,hfull,j4.pick [0,1] U⟩⟩))))))))))
  exact absurd (by decide) h5
 refine⟨_,U, ?_⟩
 replace j4:=j4.jn U U
 refine Qd U U (Qf (Qc (Qe (Qa (Qb U U (Xp U U U (Qf (Qc (Qh [4,5,6,7,20] U (Qt U (fun h6=> ?_) (fun h6=> ?_)))))))))))
 ·exact absurd h6 (by simp)
 exact Qs (Qc (Qe (Qa (Qb U U (Qd U U (Qd U U (Qf (Qc (Qv (Jm (.inr U) U U U (⟨_,U,.inr ⟨U,_,hn,j4.pick [0,1] U⟩⟩)))))))))))
def zer:Bs:=[0,0,0,0,0,0,0,0,0,0,0,0,0,0,0,0,0,0,0,0,0,0,0,0,0,0,0,0,0,0,0,0,0,0,0,0,0,0,0,0,0,0,0,0,0,0,0,0,0,0,0,0,0,0,0,0,0,0,0,0,0,0,0,0]
theorem Sq {w:World} {p:Nat} {S:SS} {F:Th} (hS:Sat w [Yn p S,F]) {N:Nat} (hI:ShI VX N S) (hN:N≤80000000000) {page:Bs} (hpg:page.length=64):
    Calls prog 95 #[ptrV p 0,strV page] w (Ret fun v w'=>(page=zer∧v= .tuple #[intV 0,intV 0]∧Sat w' [Yn p S,F])∨(page≠zer∧((v= .tuple #[intV 0,intV 6]∧(∀o∈S.fr,o≠none)∧Wt S.sl=S.sl.length∧Sat w' [Yn p S,F])∨(v= .tuple #[intV S.next,intV 0]∧ ∃S',NewS N S S' S.next page∧Sat w' [Yn p S',F])))):= by
 refine Qn func95 U ntmps95 U ?_
 refine Qe (Qa (Qd U U (Qd U U (Qf (Qc (Qe (Qe (Qa (Qb U U (Hp U U U (Qf (Qc (Qt U (fun h1=> ?_) (fun h1=> ?_))))))))))))))
 ·have hz:page=zer:=h1
  exact Qe (Qa (Qd U U (Qd U U (Qf (Qc (Qv (Qr (Jm (.inr U) U U U (⟨_,U,.inl ⟨hz,U,hS.pick [0,1] U⟩⟩)))))))))
 have hz:page≠zer:=h1
 refine Qs (Qc (Qe (Qa (Qb U U (Qb U U (Xr ML U (GS (hS.sp [0] U) hI hN hpg) U ?_))))))
 rintro e w2 ⟨_,rfl,(⟨rfl,hall,hfull,j2⟩ | ⟨rfl,S2,hn,j2⟩)⟩
 ·refine⟨_,U, ?_⟩
  replace j2:=j2.jn U U
  exact Qp U U U (Qp U U U (Qd U U (Qd U U (Qf (Qc (Qh [4,5] U (Qv (Jm (.inr U) U U U (⟨_,U,.inr ⟨hz,.inl ⟨U,hall,hfull,j2.pick [0,1] U⟩⟩⟩)))))))))
 refine⟨_,U, ?_⟩
 replace j2:=j2.jn U U
 exact Qp U U U (Qp U U U (Qd U U (Qd U U (Qf (Qc (Qh [4,5] U (Qv (Jm (.inr U) U U U (⟨_,U,.inr ⟨hz,.inr ⟨U,_,hn,j2.pick [0,1] U⟩⟩⟩)))))))))
theorem FY {w:World} {p:Nat} {S:SS} {F:Th} (hS:Sat w [Yn p S,F]) {N:Nat} (hI:ShI VX N S) (hN:N≤80000000000) (id:Int):
    Calls prog 103 #[ptrV p 0,intV id] w (Ret fun v w'=>(match S.all id with | none=>v=(if id=0 then intV 0 else intV 4)∧Sat w' [Yn p S,F] | some x=>v=intV 0∧Sat w' [Yn p {S with all:=up S.all id (some {x with refs:=x.refs+1})},F])):= by
 obtain⟨ba,bi,fp,sp,kp,ac,cc,at2,ct,hS⟩:=XX hS
 cases Zt:S.all id with
 | none=>
  dsimp only
  refine Qn func103 U ntmps103 U ?_
  refine Qe (Qa (Qd U U (Qf (Qc (Qe (Qa (Qb U U (Qi U U (Qg U XR U (Qo U ZD (by first | assumption | exact hS.cell 0 U U) U ?_))))))))))
  refine Qb U U (Xj (k:=id) 1 hS keysInt underlying75 U U U X9 (u:=(.agg #[intV 0,intV 0,intV 0,strV []])) (g:=false) (YI Zt) (Yy Zt) U (Qb U U (Qp U U U (Qp U U U (Xa hS X9 U U ?_)))))
  intro b1 w1 j1
  first | (refine Q9 j1 U U Zc U (by first | rfl | (simp [QV,Value.oneCell'];done) | assumption | exact hone) (i:=0) U (by first | decide | exact Q7 U | (simp;done) | omega) ?_) | (refine Q9 j1 U U Zc U (by first | rfl | (simp [QV,Value.oneCell'];done) | assumption | exact hone) (i:=1) U (by first | decide | exact Q7 U | (simp;done) | omega) ?_)
  intro w2 j3; dsimp only[List.set]at j3
  refine Qd U U (Qf (Qc (Qh [1,0,4,5,6] U (Qe (Qe (Qa (Qb U U (QU U U (Qb U U (Xw 18 U (fun h4=> ?_) (fun h4=> ?_)))))))))))
  ·refine Qj U U h4 (Qb U U (Qj U U h4 (Xp U U U (QN U h4 U U (Qf (Qc (Qh [1,0,4,5,6,21] U (Qt U (fun h5=> ?_) (fun h5=> ?_)))))))))
   ·exact Qe (Qa (Qd U U (Qf (Qc (Qv (Qr (QR (.inr U) U U (⟨_,rfl, by rw[if_neg (by omega)],QW (j3.pick [1,2,3,4,5,6,7,8,9] U)⟩))))))))
   refine Qs (Qc (Qe (Qe (Qa (Qb U U (Qf (Qc (QS U (fun h6=> ?_) (fun h6=> ?_)))))))))
   ·exact absurd h6 (by simp)
   exact Qs (Qc (Qe (Qa (Qd U U (Qf (Qc (Qv (QR (.inr U) U U (⟨_,rfl, by rw[if_pos (by omega)],QW (j3.pick [1,2,3,4,5,6,7,8,9] U)⟩)))))))))
  exact absurd h4 (by simp)
 | some x=>
  have hrr:=(hI.ent Zt).2.2
  dsimp only
  refine Qn func103 U ntmps103 U ?_
  refine Qe (Qa (Qd U U (Qf (Qc (Qe (Qa (Qb U U (Qi U U (Qg U XR U (Qo U ZD (by first | assumption | exact hS.cell 0 U U) U ?_))))))))))
  refine Qb U U (Xj (k:=id) 1 hS keysInt underlying75 U U U X9 (u:=(.agg #[intV x.refs,intV x.place,intV x.at_,strV (VM x)])) (g:=true) (WT Zt) (Yx Zt) U (Qb U U (Qp U U U (Qp U U U (Xa hS X9 U U ?_)))))
  intro b1 w1 j1
  first | (refine Q9 j1 U U Zc U (by first | rfl | (simp [QV,Value.oneCell'];done) | assumption | exact hone) (i:=0) U (by first | decide | exact Q7 U | (simp;done) | omega) ?_) | (refine Q9 j1 U U Zc U (by first | rfl | (simp [QV,Value.oneCell'];done) | assumption | exact hone) (i:=1) U (by first | decide | exact Q7 U | (simp;done) | omega) ?_)
  intro w2 j3; dsimp only[List.set]at j3
  refine Qd U U (Qf (Qc (Qh [1,0,4,5,6] U (Qe (Qe (Qa (Qb U U (QU U U (Qb U U (Xw 18 U (fun h4=> ?_) (fun h4=> ?_)))))))))))
  ·exact absurd h4 (by simp)
  refine Qk U U h4 U (Qk U U h4 U (QC U h4 U U (Qf (Qc (Qh [1,0,4,5,6,21] U (QL U (Qs (Qc (Qe (Qe (Qa (Qb U U (Qf (Qc (QS U (fun h5=> ?_) (fun h5=> ?_))))))))))))))))
  ·refine Qe (Qa (Qg U WY U (Qo U QM (by first | assumption | exact j3.cell 0 U U | exact j3.cell 1 U U) U ?_)))
   refine QK U U (by omega) (by omega) U ?_
   refine Qg U WY U ?_
   first | (refine Qx j3 U U Js (by first | rfl | assumption | exact j3.own_one 4 U | exact j3.own_one 8 U) (i:=0) U (by first | decide | exact Q7 U | (simp;done) | omega) ?_) | (refine Qx j3 U U Js (by first | rfl | assumption | exact j3.own_one 4 U | exact j3.own_one 8 U) (i:=1) U (by first | decide | exact Q7 U | (simp;done) | omega) ?_)
   intro w6 j7; dsimp only[List.set]at j7
   refine Qf (Qc (Qh [1,0,4,5] U ?_))
   have j8:=j7.drew
   refine QH [0,1,2,3,4,5,6] [6] ZW (by kernel_rfl) ?_
   refine QJ U U U (Xd U U U (QP U U U XR (Q3 U U U (Qm U ZD (by first | assumption | exact j8.cell 0 U U | exact j8.cell 1 U U)) ?_)))
   refine QJ U U U ?_
   refine Q3 U U U (X3 U Ag Zc (by first | exact j8.blk 0 U | exact j8.blk 1 U) (by first | decide | exact Q7 U | (simp;done) | omega) U) ?_
   refine Xl U U U U U U ?_
   refine Xi (k:=id) (v:=NX {x with refs:=x.refs+1}) 2 j8 keysInt underlying75 U U U U ?_
   intro w9 hS9a; dsimp only[List.set]at hS9a; have j9:=hS9a; rw[Vz]at j9
   refine Zj (Xq (by kernel_rfl)) ?_
   exact VC.nil (Qc (Qe (Qa (Qd U U (Qf (Qc (Qv (QR (.inr U) U U (⟨_,U,U,QW (S:={S with all:=up S.all id (some {x with refs:=x.refs+1})}) (j9.pick [1,2,3,4,5,6,7,8,9] U)⟩)))))))))
  exact absurd h5 (by simp)
end Go.Proofs.YtkgjmhcdacidoaaGreatDoor
namespace Go.Proofs.YtkgjmhcdacidoaaGreatDoor.M
open Go.RowKit Proofs.Tryz
theorem Sat.row_shrink {α:Type} {C:RowC α} {w:World} {As:List Th} {b n cap:Nat} {l:List α} (m:Nat) (h:Sat w (rowT C (.slice (some ⟨b,0,none⟩) n cap) l::As)) (hm:m≤l.length):Sat w (rowT C (.slice (some ⟨b,0,none⟩) m cap) (l.take m)::As):= by
  obtain⟨F,F1,F2,rfl,dj,⟨foot,e1,hl,h1⟩,h2⟩:=h
  refine⟨_,F1,F2,U,dj,⟨foot,e1, ?_⟩,h2⟩
  refine⟨by rw[C.cells_len], ?_⟩
  rcases h1 with⟨h1,_⟩ | ⟨b',cap',sp,h1,h3,h4,h5,h6⟩
  · cases h1
  · simp only[Value.slice.injEq,Option.some.injEq,Addr.mk.injEq,and_true]at h1
    obtain⟨rfl,rfl,rfl⟩:=h1
    have e:C.cells (l.take m)++((C.cells l).drop (m*C.size)++sp)=C.cells l++sp:= by rw[←C.cells_take,←List.append_assoc,List.take_append_drop]
    refine .inr ⟨b,cap,(C.cells l).drop (m*C.size)++sp, by rw[List.length_take,Nat.min_eq_left hm], by rw[List.length_take,Nat.min_eq_left hm];omega, by rw[e]; exact h4, by rw[e]; exact h5,h6⟩
theorem Es {l:List Int} {i:Nat} (hi:i≤l.length):Xz (inC.cells l) (0+i*1) (List.replicate (l.length -i) [intV 0]).flatten=inC.cells (l.take i++List.replicate (l.length -i) 0):= by
  have e:(List.replicate (l.length -i) [intV 0]).flatten=inC.cells (List.replicate (l.length -i) 0):= by
    generalize l.length -i=m
    induction m with
    | zero=>rfl
    | succ m ih=> rw[List.replicate_succ,List.flatten_cons,ih,List.replicate_succ];rfl
  rw[e]
  unfold Xz
  rw[show 0+i*1=i*inC.size by show 0+i*1=i*1;omega,inC.cells_take,inC.cells_app,List.drop_of_length_le (by rw[inC.cells_len,inC.cells_len,List.length_replicate]; show l.length*1≤i*1+(l.length -i)*1;omega),List.append_nil]
theorem Yv {l:List Int} {j:Nat} {v:Int} {id:Int} (h:l[j]? =some v):(l.take (j+1)).filter (fun n=> !decide (n=id))=(l.take j).filter (fun n=> !decide (n=id))++(if v=id then[]else[v]):= by
  rw[List.take_add_one,h,List.filter_append]
  congr 1
  by_cases q:v=id<;> simp [q]
theorem R9 {P:Program} {L:Env} {w:World} {d:Nat} {ty:TypeId} {pos:String} {aft:Array Edge} {f:Nat} {cap:List Operand} {vs:List Value} (hx:W8 L cap=some vs):Ev P L w ⟨some d,.makeFunc (.func f) #[] cap.toArray,ty,pos,aft,none⟩ (.func (.func f) #[] vs.toArray):= fun ρ hρ=> by
  have h: ∀(cap:List Operand) (vs:List Value),W8 L cap=some vs→cap.map ρ=vs:= by
    intro cap
    induction cap with
    | nil=> intro vs h; simp [W8]at h; subst h;rfl
    | cons x xs ih=>
      intro vs h
      simp only[W8]at h
      cases h1:look L x with
      | none=> simp [h1]at h
      | some v=>
        cases h2:W8 L xs with
        | none=> simp [h1,h2]at h
        | some us=> simp [h1,h2]at h; subst h; simp [hρ _ _ h1,ih us h2]
  have h1:=h cap vs hx
  simp [execOp,Instr.makeFunc,h1]
