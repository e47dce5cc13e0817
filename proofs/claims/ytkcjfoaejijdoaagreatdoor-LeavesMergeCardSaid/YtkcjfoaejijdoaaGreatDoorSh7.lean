/- sheets: evict, get -/
import Derived.Test.YtkcjfoaejijdoaaGreatDoorSh5
import Derived.Test.YtkcjfoaejijdoaaGreatDoorRow
import Derived.Test.YtkcjfoaejijdoaaGreatDoorFw
set_option linter.unusedVariables false
set_option maxRecDepth 100000
set_option maxHeartbeats 1600000
namespace Go.Proofs.YtkcjfoaejijdoaaGreatDoor
open Go.RowKit M Proofs.Tryz
theorem Di {w:World} {p:Nat} {S:SS} {F:Th} (hS:Sat w [Yr p S,F]) {E:Int→Prop} {N:Nat} (hI:ShI E N S) (hN:N≤80000000000) {f:Int} {b0:Bs} (hf0:Wl S.fr f=some b0):
    Calls prog 120 #[ptrV p 0,intV f] w (Ret fun v w'=>(v= .bool false∧WQ S.sl=S.sl.length∧Sat w' [Yr p S,F])∨(v= .bool true∧ ∃S',EvS E N f S S'∧Sat w' [Yr p S',F])):= by
 obtain⟨id,x,hin,hE,hx,hpl,hat,hpg⟩:=Eg hI hf0
 subst hpg
 have hf:=hf0
 have hx64:x.pg.length=64:=(hI.ent hx).2.2.2.2.1
 replace hN:N≤90000000000:= by omega
 obtain⟨ba,bi,fp,sp,kp,ac,cc,at2,ct,hS⟩:=Zf hS
 refine Qm func120 U ntmps120 U ?_
 refine Qd (Qa (Qe U U (Qf (Qc (Qd (Qa (Qb U U (Qj U U (Qg U YA U (Qr U ZY (hS.cell 0 U U) U (Qb U U (XV (k:=f) 2 hS keysInt underlying109 U U U Hj (u:=intV id) (gI_some hin) U (Qe U U (Qf (Qc (Qd (Qa (Qb U U (Qj U U (Qg U W2 U (Qr U YC (hS.cell 0 U U) U (Qb U U (Qv Sg U (GH (hS.sp [4] U) f) U ?_)))))))))))))))))))))))
 rintro _ w1 ⟨rfl,j1⟩
 replace j1:=j1.jn U U
 rw[hf]
 dsimp only[Option.getD_some]
 refine Qe U U (Qf (Qc (Qh [1,0,4,5,6] U (Qd (Qd ?_)))))
 have j2:=Xh (j1.pick [1,2,3,4,0,5,6,7,8] U)
 refine Qa (Qb U U (Qb U U (Qb U U (Zc cal_171 U (Lr (j2.sp [0] U) hI hN hx hpl) U ?_))))
 rintro e w3 ⟨_,rfl,(⟨rfl,j3⟩ | ⟨fx,S1,rfl,hpm,hI1,hP1,hsum,j3⟩)⟩
 ·refine⟨_,U, ?_⟩
  replace j3:=j3.jn U U
  refine Xb U U (Qf (Qc (QT U (fun h4=> ?_) (fun h4=> ?_))))
  ·refine Qd ?_
   obtain⟨ba,bi,fp,sp,kp,ac,cc,at2,ct,hSo5⟩:=Zf (j3.pick [0,1] rfl)
   refine Qa (Qb U U (Qj U U (Qg U Yf U (Qr U Uj (hSo5.cell 0 U U) U (Qb U U (Zc Fx U (C5 (hSo5.sp [5] U) x.pg hx64) U ?_))))))
   rintro e w6 ⟨_,rfl,(⟨hfull,rfl,j6⟩ | ⟨ks,hks,rfl,j6⟩)⟩
   ·refine⟨_,U, ?_⟩
    replace j6:=j6.jn U U
    clear hSo5
    refine Qb U U (Qn U U U (Qn U U U (Qe U U (Qe U U (Qf (Qc (Qh [1,0,4,5,7,8] U (Qd (Qd (Qa (Qb U U (Xb U U (Qf (Qc (QT U (fun h7=> ?_) (fun h7=> ?_))))))))))))))))
    ·exact Qd (Qa (Qe U U (Qf (Qc (Qu (Qp (Qp (QY (.inr U) U U (⟨_,U,.inl ⟨U,hfull,Xh (j6.pick [1,2,3,4,5,0,6,7,8] U)⟩⟩)))))))))
    exact absurd h7 (by simp)
   refine⟨_,U, ?_⟩
   replace j6:=j6.jn U U
   clear hSo5
   refine Qb U U (Qn U U U (Qn U U U (Qe U U (Qe U U (Qf (Qc (Qh [1,0,4,5,7,8] U (Qd (Qd (Qa (Qb U U (Xb U U (Qf (Qc (QT U (fun h8=> ?_) (fun h8=> ?_))))))))))))))))
   ·exact absurd h8 (by simp)
   refine Qs (Qc ?_)
   have j9:=j6.drew
   refine QE [0,1,2,3,4,5,6,7,8,9,10,11,12,13,14] [14] Wa (by kernel_rfl) ?_
   refine Q9 U U U (Xi U U U (QQ U U U XI (Q4 U U U (Ql U Zs (j9.cell 1 U U)) (Q9 U U U (Q9 U U U (Xi U U U (QQ U U U XI (Q4 U U U (Ql U Zs (j9.cell 1 U U)) (Q9 U U U (Q4 U U U (X2 (k:=id) 2 j9 keysInt underlying108 U U U XO (u:=(.agg #[intV x.refs,intV x.place,intV x.at_,strV (KW x)])) (J7 hx)) (QZ U U U (fun _=>(RT RD U U)) ?_)))))))))))
   refine Q9 U U U (QZ U U U (fun _=>(ZC U Ji Ud XO U)) ?_)
   refine Xe U U U U U U ?_
   have hsv10:Value.agg #[intV x.refs,intV 3,intV (ks:Nat),strV []]=S5 ⟨x.refs,3,(ks:Nat),x.pg⟩:=rfl
   refine Xp (k:=id) (v:=Value.agg #[intV x.refs,intV 3,intV (ks:Nat),strV []]) 2 j9 keysInt underlying108 U U U U ?_
   intro w10 hS10a; dsimp only[List.set]at hS10a; have j10:=hS10a; rw[hsv10,KA]at j10
   refine Zu (Xj (by kernel_rfl)) ?_
   refine VC.nil (Qc (Qh [1,0,4] U (Qd ?_)))
   have j11:=Xh (S:={S with all:=up S.all id (some ⟨x.refs,3,(ks:Nat),x.pg⟩),sl:=S.sl.set ks x.pg}) (j10.pick [1,2,3,4,5,0,6,7,8] U)
   refine Qa (Qb U U (Qb U U ?_))
   refine Qv Cj U (Gz (j11.sp [0] U) (f:=f) (b0:=x.pg) hf (by show S.ck.length=S.fr.length; rw[hI.ck,List.length_map]) (by show S.taken.length≤90000000000; have :=hI.tln;omega)) U ?_
   rintro _ w12 ⟨rfl,j12⟩
   replace j12:=j12.jn U U
   exact Qf (Qc (Qd (Qa (Qe U U (Qf (Qc (Qu (QY (.inr U) U U (⟨_,U,.inr ⟨U,_,PL hI hE hx hpl hat hks,j12.pick [0,1] U⟩⟩)))))))))
  exact absurd h4 (by simp)
 refine⟨_,U, ?_⟩
 replace j3:=j3.jn U U
 refine Xb U U (Qf (Qc (QT U (fun h13=> ?_) (fun h13=> ?_))))
 ·exact absurd h13 (by simp)
 refine Qs (Qc (Qd (Qa (Qb U U (Qb U U ?_)))))
 refine Qv Cj U (Gz (j3.sp [0] U) (f:=f) (b0:=x.pg) (by show Wl S1.fr f=_; rw[hP1.fr]; exact hf) (by show S1.ck.length=S1.fr.length; rw[hI1.ck,List.length_map]) (by show S1.taken.length≤90000000000; have :=hI1.tln;omega)) U ?_
 rintro _ w14 ⟨rfl,j14⟩
 replace j14:=j14.jn U U
 refine Qf (Qc (Qh [4] U (Qd (Qa (Qe U U (Qf (Qc (Qu (QY (.inr U) U U ?_)))))))))
 exact⟨_,rfl,.inr ⟨rfl,_,PM hI hI1 hP1 hE hx hpl hat (by rw[hpm]; simp) (by rw[show fm x.pg=fx by unfold fm; rw[hpm];rfl]; exact hsum),j14.pick [0,1] U⟩⟩
noncomputable def Nq (S:SS) (k:Nat):SS:={S with fr:=S.fr.set k (some (Cq [])),ck:=S.ck.set k true}
structure GetS (E:Int→Prop) (T:Nat) (k:Nat) (S S':SS):Prop where
  inv:ShI E T S'
  go:ShG S S'
  fr:S'.fr[k]? =some none
  lim: ∀j x,S.all j=some x→E j→S'.all j=some x
theorem get_now {E:Int→Prop} {T:Nat} {S:SS} {k:Nat} (h:ShI E T S) (hk:S.fr[k]? =some none):GetS E (T+1) k S S:=⟨h.mono (by omega),ShG.refl S,hk, fun _ _ h _=>h⟩
theorem get_ev {E:Int→Prop} {T:Nat} {S S':SS} {f:Int} {k:Nat} (h:EvS E T f S S') (hk:S'.fr[k]? =some none):GetS E (T+1) k S S':=⟨h.inv,h.go,hk,h.lim⟩
theorem I9 {E:Int→Prop} {T:Nat} {S:SS} {k:Nat} (h:ShI E T S) (hk:S.ck[k]? =some true): ∃b,Wl S.fr (k:Nat)=some b:= by
  rw[h.ck,List.getElem?_map]at hk
  obtain⟨o,h1,h2⟩:=Option.map_eq_some_iff.1 hk
  obtain⟨b,rfl⟩:=Option.isSome_iff_exists.1 h2
  refine⟨b, ?_⟩
  unfold Wl
  rw[if_pos (by omega)]; simp [h1]
theorem ck_some {E:Int→Prop} {T:Nat} {S:SS} (h:ShI E T S) (hall: ∀o∈S.fr,o≠none) (hno: ∀x∈S.ck,x=false):False:= by
  have h1:=h.fr1
  obtain⟨o,ho⟩: ∃o,S.fr[0]? =some o:=⟨_,Zq (by omega)⟩
  have h2:=hall o (List.mem_of_getElem? ho)
  have h3:S.ck[0]? =some o.isSome:= by rw[h.ck,List.getElem?_map,ho];rfl
  have h4:=hno _ (List.mem_of_getElem? h3)
  cases o with
  | none=> exact h2 rfl
  | some b=> cases h4
theorem Vi {w:World} {p:Nat} {S:SS} {F:Th} (hS:Sat w [Yr p S,F]) {E:Int→Prop} {N:Nat} (hI:ShI E N S) (hN:N≤80000000000):
    Calls prog 159 #[ptrV p 0] w (Ret fun v w'=>(v= .tuple #[intV 0,.bool false]∧(∀o∈S.fr,o≠none)∧WQ S.sl=S.sl.length∧Sat w' [Yr p S,F])∨(∃k S1,v= .tuple #[intV (k:Nat),.bool true]∧GetS E (N+1) k S S1∧Sat w' [Yr p (Nq S1 k),F])):= by
 obtain⟨ba,bi,fp,sp,kp,ac,cc,at2,ct,hS⟩:=Zf hS
 refine Qm func159 U ntmps159 U ?_
 refine Qd (Qa (Qe U U (Qe U U (Qf (Qc (Qd (Qa (Qb U U (Qj U U (Qg U W2 U (Qr U YC (hS.cell 0 U U) U (Zc Fv U (D8 (hS.sp [4] U)) U ?_))))))))))))
 rintro e w1 ⟨_,rfl,(⟨rfl,hall1,j1⟩ | ⟨k,hk,rfl,j1⟩)⟩
 ·refine⟨_,U, ?_⟩
  replace j1:=j1.jn U U
  refine Qb U U (Qn U U U (Qn U U U (Qe U U (Qe U U (Qf (Qc (Qh [0,2,3,4,5] U (Qd (Qd (Qa (Qb U U (Xb U U (Qf (Qc (QT U (fun h2=> ?_) (fun h2=> ?_))))))))))))))))
  ·refine Qd (Qa (Qb U U (Qj U U (Qg U HN U (Qr U V7 (j1.cell 1 U U) U (Zc F8 U (Tf (j1.sp [6] U)) U ?_))))))
   rintro e w3 ⟨_,rfl,(⟨kv,hkv,rfl,j3⟩ | ⟨hno,rfl,j3⟩)⟩
   ·refine⟨_,U, ?_⟩
    replace j3:=j3.jn U U
    refine Qb U U (Qn U U U (Qn U U U (Qe U U (Qe U U (Qf (Qc (Qh [0,2,3,4,5,6,7] U (Qd (Qd (Qa (Qb U U (Xb U U (Qb U U (Zl 28 U (fun h4=> ?_) (fun h4=> ?_)))))))))))))))
    ·exact absurd h4 (by simp)
    refine Qo U U h4 (Qb U U (Qo U U h4 (Qb U U (Qo U U h4 ?_))))
    have j5:=Xh (j3.pick [2,3,4,5,1,6,0,7,8] U)
    obtain⟨bk,hbk⟩:=I9 hI hkv
    refine Zc F7 U (Di (j5.sp [0] U) hI hN hbk) U ?_
    rintro e w6 ⟨_,rfl,(⟨rfl,hfull,j6⟩ | ⟨rfl,S2,hE2,j6⟩)⟩
    ·refine⟨_,U, ?_⟩
     replace j6:=j6.jn U U
     refine Qo U U h4 (Xb U U (QW U h4 U U (Qf (Qc (Qh [0,2,3,4,5,33] U (QT U (fun h7=> ?_) (fun h7=> ?_)))))))
     ·exact Qd (Qa (Qe U U (Qe U U (Qf (Qc (Qu (Qp (Qp (Wz (.inr U) U U U (⟨_,U,.inl ⟨U,hall1,hfull,j6.pick [0,1] U⟩⟩))))))))))
     exact absurd h7 (by simp)
    refine⟨_,U, ?_⟩
    replace j6:=j6.jn U U
    refine Qo U U h4 (Xb U U (QW U h4 U U (Qf (Qc (Qh [0,2,3,4,5,33] U (QT U (fun h8=> ?_) (fun h8=> ?_)))))))
    ·exact absurd h8 (by simp)
    refine Qs (Qc ?_)
    obtain⟨ba,bi,fp,sp,kp,ac,cc,at2,ct,hSo9⟩:=Zf (j6.pick [0,1] rfl)
    refine Qa (Qb U U (Qj U U (Qg U W2 U (Qr U YC (hSo9.cell 0 U U) U (Zc Fv U (D8 (hSo9.sp [4] U)) U ?_)))))
    rintro e w10 ⟨_,rfl,(⟨rfl,hall2,j10⟩ | ⟨k,hk,rfl,j10⟩)⟩
    ·exact absurd U (hall2 none (by rw[hE2.fr]; exact List.mem_of_getElem? (List.getElem?_set_self (by have :=(BB hbk).2;omega))))
    refine⟨_,U, ?_⟩
    replace j10:=j10.jn U U
    clear hSo9
    refine Qb U U (Qn U U U (Qn U U U (Qe U U (Qe U U (Qf (Qc (Qh [0,2,3,4,5] U (Qd (Qd (Qa (Qb U U (Qf (Qc (QT U (fun h11=> ?_) (fun h11=> ?_)))))))))))))))
    ·refine Qa (Qb U U (Qj U U (Qg U HN U (Qr U V7 (j10.cell 1 U U) U (Qb U U ?_)))))
     have hkl:k<S2.fr.length:=(Zb hk).1
     have hkc:S2.ck.length=S2.fr.length:= by rw[(hE2.inv).ck,List.length_map]
     refine Qv Fu U (I7 (j10.sp [6] U) (k:Int) (by omega) 0) U ?_
     rintro _ w12 ⟨rfl,j12⟩
     replace j12:=j12.jn U U
     simp only[Int.toNat_natCast]at j12
     exact Qf (Qc (Qh [2,3,4,5] U (Qd (Qa (Qb U U (Qb U U (Qe U U (Qe U U (Qf (Qc (Qu (Wz (.inr U) U U U (⟨_,U,.inr ⟨k,S2,U,get_ev hE2 hk,Xh (S:=Nq S2 k) (j12.pick [2,3,4,5,1,6,0,7,8] U)⟩⟩)))))))))))))
    exact absurd h11 (by simp)
   exact(ck_some hI hall1 hno).elim
  exact absurd h2 (by simp)
 refine⟨_,U, ?_⟩
 replace j1:=j1.jn U U
 refine Qb U U (Qn U U U (Qn U U U (Qe U U (Qe U U (Qf (Qc (Qh [0,2,3,4,5] U (Qd (Qd (Qa (Qb U U (Xb U U (Qf (Qc (QT U (fun h13=> ?_) (fun h13=> ?_))))))))))))))))
 ·exact absurd h13 (by simp)
 refine Qs (Qc (Qd (Qd (Qa (Qb U U (Qf (Qc (QT U (fun h14=> ?_) (fun h14=> ?_)))))))))
 ·refine Qa (Qb U U (Qj U U (Qg U HN U (Qr U V7 (j1.cell 1 U U) U (Qb U U ?_)))))
  have hkl:k<S.fr.length:=(Zb hk).1
  have hkc:S.ck.length=S.fr.length:= by rw[(hI).ck,List.length_map]
  refine Qv Fu U (I7 (j1.sp [6] U) (k:Int) (by omega) 0) U ?_
  rintro _ w15 ⟨rfl,j15⟩
  replace j15:=j15.jn U U
  simp only[Int.toNat_natCast]at j15
  exact Qf (Qc (Qh [2,3,4,5] U (Qd (Qa (Qb U U (Qb U U (Qe U U (Qe U U (Qf (Qc (Qu (Wz (.inr U) U U U (⟨_,U,.inr ⟨k,S,U,get_now hI hk,Xh (S:=Nq S k) (j15.pick [2,3,4,5,1,6,0,7,8] U)⟩⟩)))))))))))))
 exact absurd h14 (by simp)
end Go.Proofs.YtkcjfoaejijdoaaGreatDoor
namespace Go.Proofs.YtkcjfoaejijdoaaGreatDoor.M
open Go.RowKit Proofs.Tryz
section
variable {P:Program} {n:Nat} {ops:Array Oper} {Q:Exit→Act→World→Prop} {rest:List Oper} {L:Env} {w:World} {d:Nat} {ty:TypeId} {pos:String} {aft:Array Edge} {κ:Type} {kv:κ→Value} {As:List Th}
theorem WM {mt kt et:TypeId} {x y:Operand} {b:Nat} {f:κ→Option Value} {k:κ} {z:Value} (i:Nat) (hS:Sat w As) (K:KeyOk P kt kv) (hm:P.underlying mt=some (.map kt et)) (hi:As[i]? =some (Q5 kv b f)) (hx:look L x=some (.map (some b))) (hy:look L y=some (kv k)) (hz:Zt P et=some (some z)) {u:Value} {g:Bool} (hv:(f k).getD z=u) (hg:(f k).isSome=g):Ev P L w ⟨some d,.lookup mt x y true,ty,pos,aft,none⟩ (.tuple #[u,.bool g]):= fun ρ hρ=> by
  subst hv; subst hg
  obtain⟨es,c,h,h2⟩:=hS.map i hi
  have hx':=hρ _ _ hx
  have hy':=hρ _ _ hy
  rcases K.find k es.toList w h.keys with⟨j,e,h1,h3,h4⟩ | ⟨h1,h4⟩
  · have :(f k)=some e.val:=(h2 k e.val).2 ⟨e,List.mem_of_getElem? h1,h3,rfl⟩
    simp [execOp,hx',hy',Instr.lookup,run_underlying hm,MapKept.run_getObj_map h.blk,K.check,h4,this]
  · have :f k=none:= by
      cases hf:f k with
      | none=>rfl
      | some u=> obtain⟨e,he,hkk,_⟩:=(h2 k u).1 hf; exact absurd hkk (h1 e he)
    simp [execOp,hx',hy',Instr.lookup,run_underlying hm,MapKept.run_getObj_map h.blk,K.check,h4,this,Yk hz]
theorem Ww {mt kt et:TypeId} {x y:Operand} {b:Nat} {f:κ→Option Value} {k:κ} {z:Value} (i:Nat) (hS:Sat w As) (K:KeyOk P kt kv) (hm:P.underlying mt=some (.map kt et)) (hi:As[i]? =some (Q5 kv b f)) (hx:look L x=some (.map (some b))) (hy:look L y=some (kv k)) (hz:Zt P et=some (some z)) {u:Value} {g:Bool} (hv:(f k).getD z=u) (hg:(f k).isSome=g) (hd:Nat.blt d n=true)
    (hk:wl P n ops Q rest ((d,.tuple #[u,.bool g])::L) w):wl P n ops Q (⟨some d,.lookup mt x y true,ty,pos,aft,none⟩::rest) L w:=X8 hd (WM i hS K hm hi hx hy hz hv hg) hk
theorem Card.sub {f g:κ→Option Value} {m:Nat} (h:Card f m) (h':Card g m) (e: ∀k v,f k=some v→g k=some v):f=g:= by
  obtain⟨ks,h1,h2,h3⟩:=h
  obtain⟨js,g1,g2,g3⟩:=h'
  have s1: ∀x∈ks,x∈js:= fun x hx=>(g3 x).1 fun q=> by
    cases hf:f x with
    | none=> exact((h3 x).2 hx) hf
    | some v=> rw[e x v hf]at q; cases q
  have s2: ∀x∈js,x∈ks:= fun x hx=>Classical.byContradiction fun hn=> by
    have :=List.Nodup.length_le_of_subset (l₂:=js) (List.nodup_cons.2 ⟨hn,h1⟩) (by
      intro y hy
      rcases List.mem_cons.1 hy with rfl | hy
      · exact hx
      · exact s1 y hy)
    simp at this;omega
  funext k
  cases hf:f k with
  | some v=> exact(e k v hf).symm
  | none=>
    cases hg:g k with
    | none=>rfl
    | some v=> exact absurd hf ((h3 k).2 (s2 k ((g3 k).1 (by rw[hg]; simp))))
end
end Go.Proofs.YtkcjfoaejijdoaaGreatDoor.M
namespace Go.Proofs.YtkcjfoaejijdoaaGreatDoor
open Go.RowKit M Proofs.Tryz
def vw (S:SS):Int→Option (Int×Bs):= fun j=>(S.all j).map fun x=>(x.refs,x.pg)
structure ShF (S S':SS):Prop where
  tk: ∃L,S'.taken=S.taken++L∧ ∀j x,S.all j=some x→x.place=1→x.at_∈L∨ ∃y,S'.all j=some y∧y.place=1∧y.at_=x.at_
  bud:S'.budget=S.budget
  slo:S'.slots=S.slots
  frn:S'.fr.length=S.fr.length
theorem ShF.refl (S:SS):ShF S S:=⟨⟨[], by simp, fun j x h1 h2=> .inr ⟨x,h1,h2,rfl⟩⟩,rfl,rfl,rfl⟩
theorem ShG.f {S S':SS} (h:ShG S S'):ShF S S':=⟨h.tk,h.bud,h.slo,h.frn⟩
theorem ShG.vw {S S':SS} (h:ShG S S'):vw S'=vw S:=funext h.same
noncomputable def onF (S:SS) (j:Int) (k:Nat) (r:Int) (pg:Bs) (nx:Int):SS:={S with all:=up S.all j (some ⟨r,1,(k:Nat),pg⟩),inn:=up S.inn (k:Nat) (some j),fr:=S.fr.set k (some pg),ck:=S.ck.set k true,next:=nx}
theorem EW {S:SS} {A:Int→Option ShE} {j:Int} {x:ShE} (hA:A=up S.all j (some x)):(fun i=>(A i).map fun x=>(x.refs,x.pg))=up (vw S) j (some (x.refs,x.pg)):= by
  subst hA
  funext i
  by_cases q:i=j
  · subst q; rw[Ze,Ze];rfl
  · rw[Zv q,Zv q];rfl
theorem vw_onF {S:SS} {j:Int} {k:Nat} {r:Int} {pg:Bs} {nx:Int}:vw (onF S j k r pg nx)=up (vw S) j (some (r,pg)):=EW U
theorem ShF.on {S S1:SS} {j:Int} {k:Nat} {r:Int} {pg:Bs} {nx:Int} (h:ShG S S1) (hj: ∀x,S.all j=some x→x.place≠1):ShF S (onF S1 j k r pg nx):= by
  obtain⟨L,h1,h2⟩:=h.tk
  refine⟨⟨L,h1, fun i x hx hp=> ?_⟩,h.bud,h.slo, by show(S1.fr.set _ _).length=_; rw[List.length_set]; exact h.frn⟩
  have q:i≠j:= fun q=>hj x (q▸hx) hp
  rcases h2 i x hx hp with h3 | ⟨y,h3,h4,h5⟩
  · exact .inl h3
  · exact .inr ⟨y, by show up S1.all j _ i=_; rw[Zv q]; exact h3,h4,h5⟩
structure NewS (T:Nat) (S S':SS) (id:Int) (pg:Bs):Prop where
  inv:ShI Kp (T+1) S'
  f:ShF S S'
  was:S.all id=none
  pos:1≤id
  is:vw S'=up (vw S) id (some (1,pg))
  at_: ∃x,S'.all id=some x∧x.place=1
  nxt:S'.next=max S.next (id+1)
theorem new_of {T:Nat} {S S1:SS} {id:Int} {k:Nat} {pg:Bs} (h:ShI Kp T S) (hg:GetS (one id) (T+1) k S S1) (hn:S.all id=none) (h1:1≤id) (h2:id+1≤1099511627777+(T+1)) (hp:pg.length=64):NewS T S (onF S1 id k 1 pg (max S1.next (id+1))) id pg:= by
  have h3:=hg.inv.onFrame (j:=id) (nx:=max S1.next (id+1)) (r:=1) (pg:=pg) U hg.fr h1 (by omega) (by have :=hg.inv.nx2;omega) (by omega) (by omega) hp
  refine⟨h3.congr fun i _=>⟨fun ⟨a,b⟩=>b a,False.elim⟩,ShF.on hg.go (fun x hx=> by rw[hn]at hx; cases hx),hn,h1, ?_,⟨_,Ze,rfl⟩, by show max S1.next _=_; rw[hg.go.nxt]⟩
  rw[vw_onF,hg.go.vw]
theorem one_of {T:Nat} {S:SS} {id:Int} (h:ShI Kp T S) (hn:S.all id=none):ShI (one id) T S:=h.congr fun j hj=>⟨False.elim, fun q=>hj (by rw[show j=id from q]; exact hn)⟩
theorem S7 {T:Nat} {S:SS} {id r:Int} {x:ShE} (h:ShI Kp T S) (hx:S.all id=some x) (hr:1≤r∧r≤T+2):ShI Kp (T+1) {S with all:=up S.all id (some {x with refs:=r})}∧ShF S {S with all:=up S.all id (some {x with refs:=r})}∧vw {S with all:=up S.all id (some {x with refs:=r})}=up (vw S) id (some (r,x.pg)):= by
  refine⟨(h.mono (by omega:T≤T+1)).refs hx (by omega),⟨⟨[], by simp, fun j y hy hp=> .inr ?_⟩,rfl,rfl,rfl⟩,EW U⟩
  by_cases q:j=id
  · subst q; rw[hx]at hy; cases hy; exact⟨_,Ze,hp,rfl⟩
  · exact⟨y, by show up S.all id _ j=_; rw[Zv q]; exact hy,hp,rfl⟩
theorem Vw {fl:List (Option Bs)} {k:Nat} {z pg:Bs} (hk:k<fl.length):Vs (fl.set k (some z)) (k:Int) pg=fl.set k (some pg):= by
  have h:Wl (fl.set k (some z)) (k:Int)=some z:= by unfold Wl; rw[if_pos (by omega),Int.toNat_natCast,List.getElem?_set_self hk]
  rw[D9 h,Int.toNat_natCast,List.set_set]
theorem Ax {w:World} {p:Nat} {S:SS} {F:Th} (hS:Sat w [Yr p S,F]) {N:Nat} (hI:ShI Kp N S) (hN:N≤80000000000) {id:Int} {page:Bs} (hid:S.all id=none) (h1:1≤id) (h2:id+1≤1099511627777+(N+1)) (hpg:page.length=64):
    Calls prog 156 #[ptrV p 0,intV id,strV page] w (Ret fun v w'=>(v=intV 6∧(∀o∈S.fr,o≠none)∧WQ S.sl=S.sl.length∧Sat w' [Yr p S,F])∨(v=intV 0∧ ∃S',NewS N S S' id page∧Sat w' [Yr p S',F])):= by
 refine Qm func156 U ntmps156 U ?_
 refine Qd (Qa (Qe U U (Qf (Qc (Qd (Qa (Qb U U (Zc RY U (Vi (hS.sp [0] U) (E:=one id) (one_of hI hid) hN) U ?_))))))))
 rintro e w1 ⟨_,rfl,(⟨rfl,hall,hfull,j1⟩ | ⟨k,S1,rfl,hg,j1⟩)⟩
 ·refine⟨_,U, ?_⟩
  replace j1:=j1.jn U U
  refine Qb U U (Qn U U U (Qn U U U (Qe U U (Qe U U (Qf (Qc (Qh [2,1,0,6,7,8] U (Qd (Qd (Qa (Qb U U (Xb U U (Qf (Qc (QT U (fun h2=> ?_) (fun h2=> ?_))))))))))))))))
  ·exact Qd (Qa (Qe U U (Qf (Qc (Qu (Qp (QY (.inr U) U U (⟨_,U,.inl ⟨U,hall,hfull,j1.pick [0,1] U⟩⟩))))))))
  exact absurd h2 (by simp)
 refine⟨_,U, ?_⟩
 replace j1:=j1.jn U U
 refine Qb U U (Qn U U U (Qn U U U (Qe U U (Qe U U (Qf (Qc (Qh [2,1,0,6,7,8] U (Qd (Qd (Qa (Qb U U (Xb U U (Qf (Qc (QT U (fun h3=> ?_) (fun h3=> ?_))))))))))))))))
 ·exact absurd h3 (by simp)
 refine Qs (Qc (Qd ?_))
 obtain⟨ba,bi,fp,sp,kp,ac,cc,at2,ct,hSo4⟩:=Zf (j1.pick [0,1] rfl)
 refine Qa (Qb U U (Qj U U (Qg U W2 U (Qr U YC (hSo4.cell 0 U U) U (Qb U U (Qb U U ?_))))))
 have hkl:k<S1.fr.length:=(Zb hg.fr).1
 have hfs:Vs (Nq S1 k).fr (k:Int) (page)=S1.fr.set k (some (page)):=Vw hkl
 refine Qv RX U (Uv (hSo4.sp [4] U) (k:Int) (page) hpg) U ?_
 rintro _ w5 ⟨_,rfl,j5⟩
 replace j5:=j5.jn U U
 clear hSo4
 rw[hfs]at j5
 refine Qf (Qc (Qh [1,0,6,7] U (Qd ?_)))
 have j6:=j5.drew
 refine QE [0,1,2,3,4,5,6,7,8,9,10,11,12,13,14,15,16,17,18] [13,15,16,18] Wa (by kernel_rfl) ?_
 refine Q9 U U U (Xi U U U (QQ U U U XI (Q4 U U U (Ql U Zs (j6.cell 1 U U)) (Q9 U U U (Q9 U U U (Xi U U U (QQ U U U YA (Q4 U U U (Ql U ZY (j6.cell 1 U U)) (Q9 U U U (Q9 U U U (QZ U U U (fun _=>(ZC U Ji Ud XO U)) ?_)))))))))))
 refine Q9 U U U (Xe U U U U U U ?_)
 refine Wh (k:=id) 2 j6 keysInt underlying108 U U U XO U ?_
 intro u7 c7 w7 j7; dsimp only[List.set]at j7
 refine Xz (Xj (by kernel_rfl)) ?_
 refine Wi U U U U (Xe U U U U U U ?_)
 have hsv8:Value.agg #[intV 1,intV 1,intV (k:Nat),strV []]=S5 ⟨1,1,(k:Nat),page⟩:=rfl
 refine ZI (v:=Value.agg #[intV 1,intV 1,intV (k:Nat),strV []]) 2 j7 keysInt U U U U ?_
 intro w8 hS8a; dsimp only[List.set]at hS8a; have j8:=hS8a; rw[hsv8,KA]at j8
 refine Zu (Xj (by kernel_rfl)) ?_
 refine Xe U U U U U U ?_
 refine Wh (k:=(k:Int)) 3 j8 keysInt underlying109 U U U Hj U ?_
 intro u9 c9 w9 j9; dsimp only[List.set]at j9
 refine Xz (Xj (by kernel_rfl)) ?_
 refine Wi U U U U (Xe U U U U U U ?_)
 refine ZI (v:=intV id) 3 j9 keysInt U U U U ?_
 intro w10 hS10a; dsimp only[List.set]at hS10a; have j10:=hS10a; rw[RB]at j10
 refine Zu (Xj (by kernel_rfl)) ?_
 refine VC.nil (Qc (Qh [1,0,6] U (Qd (Qa (Qb U U (Qb U U (Qj U U (Qg U DE U (Qr U QL (j10.cell 1 U U) U (Qb U U (QO U U (by omega) (by omega) U ?_)))))))))))
 refine YP U U U (Qj U U (Qg U DE U ?_))
 first | (refine QV j10 U U Yq (by rfl) (i:=1) U (Xv U) ?_)
 intro w11 j12; dsimp only[List.set]at j12
 exact Qf (Qc (Qh [6] U (Qd (Qa (Qe U U (Qf (Qc (Qu (QY (.inr U) U U (⟨_,U,.inr ⟨U,_,new_of hI hg hid h1 h2 hpg,Xh (S:=onF S1 id k 1 page (max S1.next (id+1))) (j12.pick [1,2,3,4,0,5,6,7,8] U)⟩⟩))))))))))
theorem Dh {w:World} {p:Nat} {S:SS} {F:Th} (hS:Sat w [Yr p S,F]) {N:Nat} (hI:ShI Kp N S) (hN:N≤80000000000) {page:Bs} (hpg:page.length=64):
    Calls prog 105 #[ptrV p 0,strV page] w (Ret fun v w'=>(v= .tuple #[intV 0,intV 6]∧(∀o∈S.fr,o≠none)∧WQ S.sl=S.sl.length∧Sat w' [Yr p S,F])∨(v= .tuple #[intV S.next,intV 0]∧ ∃S',NewS N S S' S.next page∧Sat w' [Yr p S',F])):= by
 have hnn:S.all S.next=none:= by cases hq:S.all S.next with | none=>rfl | some x=>(have :=(hI.ent hq).2.1;omega)
 refine Qm func105 U ntmps105 U ?_
 refine Qd (Qa (Qe U U (Qe U U (Qf (Qc (Qd (Qd (Qa (Qb U U (WT underlying9 U U (XC U U U (Qf (Qc (Qt U (fun h1=> ?_) (fun h1=> ?_)))))))))))))))
 ·exact absurd h1 (by rw[hpg];decide)
 refine Qs (Qc (Qd ?_))
 obtain⟨ba,bi,fp,sp,kp,ac,cc,at2,ct,hSo2⟩:=Zf (hS.pick [0,1] rfl)
 refine Qa (Qb U U (Qj U U (Qg U DE U (Qr U QL (hSo2.cell 0 U U) U (Qe U U (Qf ?_))))))
 have j3:=Xh (hSo2.pick [0,1,2,3,4,5,6,7,8] U)
 refine Qc (Qh [1,0,4,5,6] U (Qd (Qd (Qa (Qb U U (Qb U U (Qb U U ?_)))))))
 refine Zc cal_156 U (Ax (j3.sp [0] U) hI hN (id:=S.next) (page:=page) hnn hI.nx1 (by have :=hI.nx2;omega) hpg) U ?_
 rintro e w4 ⟨_,rfl,(⟨rfl,hall,hfull,j4⟩ | ⟨rfl,S2,hn,j4⟩)⟩
 ·refine⟨_,U, ?_⟩
  replace j4:=j4.jn U U
  refine Qe U U (Qf (Qc (Qd (Qa (Qb U U (XC U U U (Qf (Qc (Qh [4,5,6,7,20] U (Qt U (fun h5=> ?_) (fun h5=> ?_)))))))))))
  ·exact Qd (Qa (Qb U U (Qe U U (Qe U U (Qf (Qc (Qu (Qp (Wz (.inr U) U U U (⟨_,U,.inl ⟨U,hall,hfull,j4.pick [0,1] U⟩⟩))))))))))
  exact absurd (by decide) h5
 refine⟨_,U, ?_⟩
 replace j4:=j4.jn U U
 refine Qe U U (Qf (Qc (Qd (Qa (Qb U U (XC U U U (Qf (Qc (Qh [4,5,6,7,20] U (Qt U (fun h6=> ?_) (fun h6=> ?_)))))))))))
 ·exact absurd h6 (by simp)
 exact Qs (Qc (Qd (Qa (Qb U U (Qe U U (Qe U U (Qf (Qc (Qu (Wz (.inr U) U U U (⟨_,U,.inr ⟨U,_,hn,j4.pick [0,1] U⟩⟩)))))))))))
def zer:Bs:=[0,0,0,0,0,0,0,0,0,0,0,0,0,0,0,0,0,0,0,0,0,0,0,0,0,0,0,0,0,0,0,0,0,0,0,0,0,0,0,0,0,0,0,0,0,0,0,0,0,0,0,0,0,0,0,0,0,0,0,0,0,0,0,0]
theorem Ls {w:World} {p:Nat} {S:SS} {F:Th} (hS:Sat w [Yr p S,F]) {N:Nat} (hI:ShI Kp N S) (hN:N≤80000000000) {page:Bs} (hpg:page.length=64):
    Calls prog 115 #[ptrV p 0,strV page] w (Ret fun v w'=>(page=zer∧v= .tuple #[intV 0,intV 0]∧Sat w' [Yr p S,F])∨(page≠zer∧((v= .tuple #[intV 0,intV 6]∧(∀o∈S.fr,o≠none)∧WQ S.sl=S.sl.length∧Sat w' [Yr p S,F])∨(v= .tuple #[intV S.next,intV 0]∧ ∃S',NewS N S S' S.next page∧Sat w' [Yr p S',F])))):= by
 refine Qm func115 U ntmps115 U ?_
 refine Qd (Qa (Qe U U (Qe U U (Qf (Qc (Qd (Qd (Qa (Qb U U (Rk U U U (Qf (Qc (Qt U (fun h1=> ?_) (fun h1=> ?_))))))))))))))
 ·have hz:page=zer:=h1
  exact Qd (Qa (Qe U U (Qe U U (Qf (Qc (Qu (Qp (Wz (.inr U) U U U (⟨_,U,.inl ⟨hz,U,hS.pick [0,1] U⟩⟩)))))))))
 have hz:page≠zer:=h1
 refine Qs (Qc (Qd (Qa (Qb U U (Qb U U (Zc RZ U (Dh (hS.sp [0] U) hI hN hpg) U ?_))))))
 rintro e w2 ⟨_,rfl,(⟨rfl,hall,hfull,j2⟩ | ⟨rfl,S2,hn,j2⟩)⟩
 ·refine⟨_,U, ?_⟩
  replace j2:=j2.jn U U
  exact Qn U U U (Qn U U U (Qe U U (Qe U U (Qf (Qc (Qh [4,5] U (Qu (Wz (.inr U) U U U (⟨_,U,.inr ⟨hz,.inl ⟨U,hall,hfull,j2.pick [0,1] U⟩⟩⟩)))))))))
 refine⟨_,U, ?_⟩
 replace j2:=j2.jn U U
 exact Qn U U U (Qn U U U (Qe U U (Qe U U (Qf (Qc (Qh [4,5] U (Qu (Wz (.inr U) U U U (⟨_,U,.inr ⟨hz,.inr ⟨U,_,hn,j2.pick [0,1] U⟩⟩⟩)))))))))
theorem Au {w:World} {p:Nat} {S:SS} {F:Th} (hS:Sat w [Yr p S,F]) {N:Nat} (hI:ShI Kp N S) (hN:N≤80000000000) (id:Int):
    Calls prog 102 #[ptrV p 0,intV id] w (Ret fun v w'=>(match S.all id with | none=>v=(if id=0 then intV 0 else intV 4)∧Sat w' [Yr p S,F] | some x=>v=intV 0∧Sat w' [Yr p {S with all:=up S.all id (some {x with refs:=x.refs+1})},F])):= by
 obtain⟨ba,bi,fp,sp,kp,ac,cc,at2,ct,hS⟩:=Zf hS
 cases hid:S.all id with
 | none=>
  dsimp only
  refine Qm func102 U ntmps102 U ?_
  refine Qd (Qa (Qe U U (Qf (Qc (Qd (Qa (Qb U U (Qj U U (Qg U XI U (Qr U Zs (hS.cell 0 U U) U (Qb U U (Ww (k:=id) 1 hS keysInt underlying108 U U U XO (u:=(.agg #[intV 0,intV 0,intV 0,strV []])) (g:=false) (H1 hid) (Hh hid) U (Qb U U (Qn U U U (Qn U U U (Xa hS XO U U ?_))))))))))))))))
  intro b1 w1 j1
  (refine QG j1 U U Yi U (by rfl) (i:=0) U (by decide) ?_)
  intro w2 j3; dsimp only[List.set]at j3
  refine Qe U U (Qf (Qc (Qh [1,0,4,5,6] U (Qd (Qd (Qa (Qb U U (Xb U U (Qb U U (Zl 18 U (fun h4=> ?_) (fun h4=> ?_)))))))))))
  ·refine Qo U U h4 (Qb U U (Qo U U h4 (XC U U U (QK U h4 U U (Qf (Qc (Qh [1,0,4,5,6,21] U (Qt U (fun h5=> ?_) (fun h5=> ?_)))))))))
   ·exact Qd (Qa (Qe U U (Qf (Qc (Qu (Qp (QY (.inr U) U U (⟨_,rfl, by rw[if_neg (by omega)],Xh (j3.pick [1,2,3,4,5,6,7,8,9] U)⟩))))))))
   refine Qs (Qc (Qd (Qd (Qa (Qb U U (Qf (Qc (QT U (fun h6=> ?_) (fun h6=> ?_)))))))))
   ·exact absurd h6 (by simp)
   exact Qs (Qc (Qd (Qa (Qe U U (Qf (Qc (Qu (QY (.inr U) U U (⟨_,rfl, by rw[if_pos (by omega)],Xh (j3.pick [1,2,3,4,5,6,7,8,9] U)⟩)))))))))
  exact absurd h4 (by simp)
 | some x=>
  have hrr:=(hI.ent hid).2.2
  dsimp only
  refine Qm func102 U ntmps102 U ?_
  refine Qd (Qa (Qe U U (Qf (Qc (Qd (Qa (Qb U U (Qj U U (Qg U XI U (Qr U Zs (hS.cell 0 U U) U (Qb U U (Ww (k:=id) 1 hS keysInt underlying108 U U U XO (u:=(.agg #[intV x.refs,intV x.place,intV x.at_,strV (KW x)])) (g:=true) (J7 hid) (Hg hid) U (Qb U U (Qn U U U (Qn U U U (Xa hS XO U U ?_))))))))))))))))
  intro b1 w1 j1
  (refine QG j1 U U Yi U (by rfl) (i:=0) U (by decide) ?_)
  intro w2 j3; dsimp only[List.set]at j3
  refine Qe U U (Qf (Qc (Qh [1,0,4,5,6] U (Qd (Qd (Qa (Qb U U (Xb U U (Qb U U (Zl 18 U (fun h4=> ?_) (fun h4=> ?_)))))))))))
  ·exact absurd h4 (by simp)
  refine Qi U U h4 U (Qi U U h4 U (QW U h4 U U (Qf (Qc (Qh [1,0,4,5,6,21] U (QR U (Qs (Qc (Qd (Qd (Qa (Qb U U (Qf (Qc (QT U (fun h5=> ?_) (fun h5=> ?_))))))))))))))))
  ·refine Qd (Qa (Qg U JD U (Qr U QL (j3.cell 0 U U) U (QO U U (by omega) (by omega) U ?_))))
   refine Qg U JD U ?_
   (refine QV j3 U U Yq (by rfl) (i:=0) U (Xv U) ?_)
   intro w6 j7; dsimp only[List.set]at j7
   refine Qf (Qc (Qh [1,0,4,5] U ?_))
   have j8:=j7.drew
   refine QE [0,1,2,3,4,5,6] [6] Wa (by kernel_rfl) ?_
   refine Q9 U U U (Xi U U U (QQ U U U XI (Q4 U U U (Ql U Zs (j8.cell 1 U U)) (Q9 U U U (Q4 U U U (XB U qao Yi (j8.blk 0 U) (Xv U) U) (Xe U U U U U U ?_))))))
   refine Xp (k:=id) (v:=S5 {x with refs:=x.refs+1}) 2 j8 keysInt underlying108 U U U U ?_
   intro w9 hS9a; dsimp only[List.set]at hS9a; have j9:=hS9a; rw[KA]at j9
   refine Zu (Xj (by kernel_rfl)) ?_
   exact VC.nil (Qc (Qd (Qa (Qe U U (Qf (Qc (Qu (QY (.inr U) U U (⟨_,U,U,Xh (S:={S with all:=up S.all id (some {x with refs:=x.refs+1})}) (j9.pick [1,2,3,4,5,6,7,8,9] U)⟩)))))))))
  exact absurd h5 (by simp)
theorem CF {w:World} {p:Nat} {S:SS} {F:Th} (hS:Sat w [Yr p S,F]) {N:Nat} (hI:ShI Kp N S) (m:Int) (hN:N+m.toNat≤80000000000):
    Calls prog 66 #[ptrV p 0,intV m] w (Ret fun v w'=> ∃(d:Nat) (S':SS),v=intV (d:Int)∧ShI Kp (N+m.toNat) S'∧ShG S S'∧Sat w' [Yr p S',F]):= by
 refine Qm func66 U ntmps66 U ?_
 refine Qd (Qa (Qe U U (Qf (Qc (Qd (Qa (Qe U U (Qf (Qc (Qd (Qw ?_)))))))))))
 refine Xg (fun K0 E0 W0=> ∃(d:Nat) (S1:SS),K0=m.toNat -d∧E0=[(0,ptrV p 0),(1,intV m),(5,intV (d:Int))]∧Sat W0 [Yr p S1,F]∧(d≤m.toNat)∧(ShI Kp (N+d) S1)∧(ShG S S1)) (L0:=[(0,_),(1,_),(5,_)]) (m.toNat -0) (Rg U U U) ⟨0,S,rfl,rfl,hS, by omega,hI,ShG.refl S⟩ ?_
 rintro _ _ w1 ⟨d,S1,rfl,rfl,j1,hd,hI1,hG1⟩
 refine Qd (Qd (Qa (Qb U U (Qb U U (Xk U U U (Qf (Qc (Qt U (fun h2=> ?_) (fun h2=> ?_)))))))))
 ·refine Qs (Qc (Qw (Qd ?_)))
  obtain⟨ba,bi,fp,sp,kp,ac,cc,at2,ct,hSo3⟩:=Zf (j1.pick [0,1] rfl)
  refine Qa (Qb U U (Qj U U (Qg U HN U (Qr U V7 (hSo3.cell 0 U U) U (Zc F8 U (Tf (hSo3.sp [6] U)) U ?_)))))
  rintro e w4 ⟨_,rfl,(⟨kv,hkv,rfl,j4⟩ | ⟨hno,rfl,j4⟩)⟩
  ·refine⟨_,U, ?_⟩
   replace j4:=j4.jn U U
   clear hSo3
   refine Qb U U (Qn U U U (Qn U U U (Qe U U (Qe U U (Qf (Qc (Qh [5,1,0,6,7] U (Qd (Qd (Qa (Qb U U (Xb U U (Qb U U (Zl 21 U (fun h5=> ?_) (fun h5=> ?_)))))))))))))))
   ·exact absurd h5 (by simp)
   refine Qo U U h5 (Qb U U (Qo U U h5 (Qb U U (Qo U U h5 ?_))))
   have j6:=Xh (j4.pick [1,2,3,4,5,6,0,7,8] U)
   obtain⟨bk,hbk⟩:=I9 hI1 hkv
   refine Zc F7 U (Di (j6.sp [0] U) hI1 (by omega) hbk) U ?_
   rintro e w7 ⟨_,rfl,(⟨rfl,hfull,j7⟩ | ⟨rfl,S2,hE2,j7⟩)⟩
   ·refine⟨_,U, ?_⟩
    replace j7:=j7.jn U U
    refine Qo U U h5 (Xb U U (QW U h5 U U (Qf (Qc (Qh [5,1,0,26] U (QT U (fun h8=> ?_) (fun h8=> ?_)))))))
    ·exact QU (Qq (YQ U (Qq (Qx (Qc (Qd (Qa (Qb U U (Qe U U (Qf (Qc (Qu (QY (.inr U) U U (⟨_,rfl,d,S1,rfl,hI1.mono (by omega),hG1,j7.pick [0,1] U⟩))))))))))))))
    exact absurd h8 (by simp)
   refine⟨_,U, ?_⟩
   replace j7:=j7.jn U U
   refine Qo U U h5 (Xb U U (QW U h5 U U (Qf (Qc (Qh [5,1,0,26] U (QT U (fun h9=> ?_) (fun h9=> ?_)))))))
   ·exact absurd h9 (by simp)
   refine Qs (Qc (Qa (Qb U U (QO U U (by omega) (by omega) U ?_))))
   refine Qe U U (Qf (Qk ?_))
   exact Q3 (L1:=[(0,_),(1,_),(5,intV ((d+1:Nat):Int))]) (Rg U U U) (k1:=m.toNat -(d+1)) (by omega) ⟨d+1,S2,rfl,rfl,j7.pick [0,1] U, by omega,hE2.inv,hG1.trans hE2.go⟩
  refine⟨_,U, ?_⟩
  replace j4:=j4.jn U U
  clear hSo3
  refine Qb U U (Qn U U U (Qn U U U (Qe U U (Qe U U (Qf (Qc (Qh [5,1,0,6,7] U (Qd (Qd (Qa (Qb U U (Xb U U (Qb U U (Zl 21 U (fun h10=> ?_) (fun h10=> ?_)))))))))))))))
  ·exact Qi U U h10 U (Qi U U h10 U (Qi U U h10 U (Qi U U h10 U (QK U h10 U U (Qf (Qc (Qh [5,1,0,26] U (Xd U (QU (Qq (YQ U (Qq (Qx (Qc (Qd (Qa (Qb U U (Qe U U (Qf (Qc (Qu (QY (.inr U) U U (⟨_,rfl,d,S1,rfl,hI1.mono (by omega),hG1,Xh (j4.pick [1,2,3,4,5,6,0,7,8] U)⟩)))))))))))))))))))))))
  exact absurd h10 (by simp)
 exact QU (Qq (Qq (Qx (Qc (Qd (Qa (Qb U U (Qe U U (Qf (Qc (Qu (QY (.inr U) U U (⟨_,rfl,d,S1,rfl,hI1.mono (by omega),hG1,j1.pick [0,1] U⟩)))))))))))))
end Go.Proofs.YtkcjfoaejijdoaaGreatDoor
namespace Go.Proofs.YtkcjfoaejijdoaaGreatDoor.M
open Go.RowKit Proofs.Tryz
theorem Sat.row_shrink {α:Type} {C:RowC α} {w:World} {As:List Th} {b n cap:Nat} {l:List α} (m:Nat) (h:Sat w (rowT C (.slice (some ⟨b,0,none⟩) n cap) l::As)) (hm:m≤l.length):Sat w (rowT C (.slice (some ⟨b,0,none⟩) m cap) (l.take m)::As):= by
  obtain⟨F,F1,F2,rfl,dj,⟨foot,e1,hl,h1⟩,h2⟩:=h
  refine⟨_,F1,F2,U,dj,⟨foot,e1, ?_⟩,h2⟩
  refine⟨by rw[C.cells_len], ?_⟩
  rcases h1 with⟨h1,_⟩ | ⟨b',cap',sp,h1,h3,h4,h5,h6⟩
  · cases h1
  · simp only[Value.slice.injEq,Option.some.injEq,Addr.mk.injEq,and_true]at h1
    obtain⟨rfl,rfl,rfl⟩:=h1
    have e:C.cells (l.take m)++((C.cells l).drop (m*C.size)++sp)=C.cells l++sp:= by rw[←C.cells_take,←List.append_assoc,List.take_append_drop]
    refine .inr ⟨b,cap,(C.cells l).drop (m*C.size)++sp, by rw[List.length_take,Nat.min_eq_left hm], by rw[List.length_take,Nat.min_eq_left hm];omega, by rw[e]; exact h4, by rw[e]; exact h5,h6⟩
theorem ND {l:List Int} {i:Nat} (hi:i≤l.length):XT (inC.cells l) (0+i*1) (List.replicate (l.length -i) [intV 0]).flatten=inC.cells (l.take i++List.replicate (l.length -i) 0):= by
  have e:(List.replicate (l.length -i) [intV 0]).flatten=inC.cells (List.replicate (l.length -i) 0):= by
    generalize l.length -i=m
    induction m with
    | zero=>rfl
    | succ m ih=> rw[List.replicate_succ,List.flatten_cons,ih,List.replicate_succ];rfl
  rw[e]
  unfold XT
  rw[show 0+i*1=i*inC.size by show 0+i*1=i*1;omega,inC.cells_take,inC.cells_app,List.drop_of_length_le (by rw[inC.cells_len,inC.cells_len,List.length_replicate]; show l.length*1≤i*1+(l.length -i)*1;omega),List.append_nil]
theorem Vv {l:List Int} {j:Nat} {v:Int} {id:Int} (h:l[j]? =some v):(l.take (j+1)).filter (fun n=> !decide (n=id))=(l.take j).filter (fun n=> !decide (n=id))++(if v=id then[]else[v]):= by
  rw[List.take_add_one,h,List.filter_append]
  congr 1
  by_cases q:v=id<;> simp [q]
theorem Be {P:Program} {L:Env} {w:World} {d:Nat} {ty:TypeId} {pos:String} {aft:Array Edge} {f:Nat} {cap:List Operand} {vs:List Value} (hx:Jd L cap=some vs):Ev P L w ⟨some d,.makeFunc (.func f) #[] cap.toArray,ty,pos,aft,none⟩ (.func (.func f) #[] vs.toArray):= fun ρ hρ=> by
  have h: ∀(cap:List Operand) (vs:List Value),Jd L cap=some vs→cap.map ρ=vs:= by
    intro cap
    induction cap with
    | nil=> intro vs h; simp [Jd]at h; subst h;rfl
    | cons x xs ih=>
      intro vs h
      simp only[Jd]at h
      cases h1:look L x with
      | none=> simp [h1]at h
      | some v=>
        cases h2:Jd L xs with
        | none=> simp [h1,h2]at h
        | some us=> simp [h1,h2]at h; subst h; simp [hρ _ _ h1,ih us h2]
  have h1:=h cap vs hx
  simp [execOp,Instr.makeFunc,h1]
