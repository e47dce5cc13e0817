/- slices.Delete of one int -/
import Derived.Test.YtkcjfoaejijdoaaGreatDoorFw
import Derived.Test.YtkcjfoaejijdoaaGreatDoorLv56
import Derived.Test.YtkcjfoaejijdoaaGreatDoorLv33
import Derived.Test.YtkcjfoaejijdoaaGreatDoorLv51
import Derived.Shelf.Spec.TrailingZeros
set_option linter.unusedSectionVars false
set_option linter.unusedVariables false
set_option maxRecDepth 100000
set_option maxHeartbeats 80000000000
namespace Go.Proofs.YtkcjfoaejijdoaaGreatDoor
open Go.RowKit M Proofs.Tryz
theorem Fk {w:World} {F:Th} {sv:Value} {l:List Int} (hS:Sat w [rowT inC sv l,F]) {i:Nat} (hi:i<l.length) (hln:l.length≤100000000000):
    Calls prog 88 #[sv,intV (i:Int),intV ((i:Int)+1)] w (Ret fun v w'=>Sat w' [rowT inC v (l.eraseIdx i),F]):= by
 obtain⟨b,cap,rfl,hcap⟩:=hS.own_at 0 rfl (by omega)
 refine Qm func88 U ntmps88 U ?_
 refine Qd (Qa (Qe U U (Qf (Qc (Qd (Qa (Qb U U (Qb U U (Qb U U (Qb U U (X7 underlying47 U U (EO i (i+1) l.length underlying47 Yq U U U U (by omega) (by omega) (by omega) U ?_))))))))))))
 refine Qf (Qc (Qd (Qd (Qa (Qb U U (Qb U U (Xq U U U (Qf (Qc (Qh [2,1,0,6,16] U (Qt U (fun h1=> ?_) (fun h1=> ?_))))))))))))
 ·omega
 refine Qs (Qc (Qd (Qa (Qb U U (X7 underlying47 U U (Qe U U (Qf (Qc (Qd ?_)))))))))
 have j2:=hS.drew
 refine QE [0,1,2,3,4,5,6,7] [6] Wa (by kernel_rfl) ?_
 refine Q9 U U U (Q9 U U U (QZ U U U (fun _=>(TI 0 i underlying47 Yq U (E6 _) (Ks i _ U U) (by omega) (by omega))) ?_))
 refine Q9 U U U (Q9 U U U (QZ U U U (fun _=>(TI (i+1) l.length underlying47 Yq U (Ks (i+1) _ U U) (E6 _) (by omega) (by omega))) ?_))
 refine Xe U U U U U U ?_
 have hrd3:RdL inC (YV 1 (.slice (some ⟨b,0,none⟩) l.length cap) (i+1) l.length) (l.drop (i+1)) w:= by have h0:Ent (rowT inC (.slice (some ⟨b,0,none⟩) l.length cap) l) (RdL inC (YV 1 (.slice (some ⟨b,0,none⟩) l.length cap) (i+1) l.length) ((l.take l.length).drop (i+1))):=DJ (C:=inC) (a:=some ⟨b,0,none⟩) (l:=l) (A:=i+1) (B:=l.length) (by omega) (by omega) (by omega) hcap; have h:=h0.sat j2 0 U;rwa [List.take_length]at h
 refine C1 (i:=i) (j:=i+1) 0 j2 U U (by show some (YV 1 (.slice (some ⟨b,0,none⟩) l.length cap) 0 i)=_; rw[VI (by omega)];rfl) U hrd3 underlying47 underlying47 (by intro k hk; cases hk) UX (by omega) (by omega) U ?_
 intro w3 j3; dsimp only[List.set]at j3
 refine Xz .nil (XK U U U (VC.nil (Qc (Qh [6,7,0] U (Qd (Qa (Qb U U (Qb U U (X7 underlying47 U U (Qb U U (Rh (i+(l.length -(i+1))) l.length underlying47 Yq U (Ks (i+(l.length -(i+1))) _ U U) (Ks l.length _ U U) (by omega) (by omega) U ?_)))))))))))
 rw[show YV 1 (.slice (some ⟨b,0,none⟩) (i+(l.length -(i+1))) cap) (i+(l.length -(i+1))) l.length= .slice (some ⟨b,0+(i+(l.length -(i+1)))*1,none⟩) (l.length -(i+(l.length -(i+1)))) (cap -(i+(l.length -(i+1)))) from VI (by omega)]
 refine Gq 0 j3 U U U underlying47 Hj U (by rw[inC.cells_len, show(l.take i++l.drop (i+1)++l.drop (i+(l.length -(i+1)))).length=l.length by simp;omega]; show 0+(i+(l.length -(i+1)))*1+(l.length -(i+(l.length -(i+1))))*1≤l.length*1;omega) (Es hi) U ?_
 intro w4 hS4a; dsimp only[List.set]at hS4a
 have j4:=Sat.row_cast (C:=inC) (l:=l.take i++l.drop (i+1)++[0]) (hS4a.pull 0 U) (by simp;omega) U U; dsimp only[List.eraseIdx]at j4
 refine Qf (Qc (Qd (Qa (Qb U U (Qe U U (Qf (Qc (Qu (QY (.inr U) U U ?_)))))))))
 have hz:=(j4.pick [0,1] U).row_shrink (i+(l.length -(i+1))) (by simp;omega)
 rw[List.take_append_of_le_length (by simp;omega),List.take_of_length_le (by simp;omega),←List.eraseIdx_eq_take_drop_succ]at hz
 exact⟨_,U,hz⟩
variable [Inhabited SlW]
theorem mgC_sp {w:World} {b cl cp n Fr:Nat} {pg:Bs} {L:LvD} {V:VS} {F:Th} (hS:Sat w [Q8 cl [ptrV b 0],Q8 cp [strV pg],XX b L,XD L.sp n Fr V,F]) (z:Int):
    Calls prog 86 #[intV z,ptrV cl 0,ptrV cp 0] w (Ret fun v w'=>v= .bool (decide (XH V z=pg))∧Sat w' [Q8 cl [ptrV b 0],Q8 cp [strV pg],XX b L,XD L.sp n Fr V,F]):= by
 refine Qm func86 U ntmps86 U ?_
 refine Qd (Qa (Qe U U (Qf (Qc (Qd ?_)))))
 have j1:=hS.drew
 refine QE [0,1,2,3,4,6,5,7,8] [5] Wa (by kernel_rfl) ?_
 refine Q4 U U U (Ql U Uf (j1.cell 0 U U)) (Xi U U U (QQ U U U XJ (Q4 U U U (Ql U Xy (Jk j1 2 U)) (Q9 U U U (Q4 U U U (Ql U W9 (j1.cell 1 U U)) (Xe U U U U U U ?_))))))
 refine Qv W5 U (WX (j1.sp [3] U) z) U ?_
 rintro _ w2 ⟨rfl,j2⟩
 replace j2:=j2.jn U U
 refine Xz (.cons (.inl ⟨rfl,(Ql U W9 (j2.cell 2 U U))⟩) (Xj (by kernel_rfl))) ?_
 refine QZ U U U (fun _=>(TK U U)) ?_
 exact XK U U U (VC.nil (Qc (Qh [4] U (Qu (QY (.inr U) U U (⟨_,U,U,j2.pick [1,2,3,0,4] U⟩))))))
def PrF (P:Program) (g c1 c2:Nat) (Jt:Th) (pr:Int→Bool):Prop:=QI P g=true∧ ∀(n:Int) (w:World) (X:Th),Sat w [Jt,X]→Calls P g #[intV n,ptrV c1 0,ptrV c2 0] w (Ret fun v w'=>v= .bool (pr n)∧Sat w' [Jt,X])
def JtM (b cl cp n Fr:Nat) (pg:Bs) (L:LvD) (V:VS):Th:=starL [Q8 cl [ptrV b 0],Q8 cp [strV pg],XX b L,XD L.sp n Fr V]
theorem prF_mg {b cl cp n Fr:Nat} {pg:Bs} {L:LvD} {V:VS}:PrF prog 86 cl cp (JtM b cl cp n Fr pg L V) (fun z=>decide (XH V z=pg)):= by
  refine⟨cal_86, fun z w X hS=> ?_⟩
  have h1:=hS.flat; dsimp only[Gl,Gk]at h1
  refine(mgC_sp h1 z).mono fun e w h=>h.mono fun v w h=> ?_
  exact⟨h.1,Sat.fold (As:=[Q8 cl [ptrV b 0],Q8 cp [strV pg],XX b L,XD L.sp n Fr V]) h.2⟩
theorem ixP_sp {w:World} {g c1 c2:Nat} {Jt F:Th} {pr:Int→Bool} (hE:PrF prog g c1 c2 Jt pr) (hS:Sat w [Jt,F]) {lv:Value} {l:List Int} (hL:Ent F (RdL inC lv l)):
    Calls prog 85 #[lv,.func (.func g) #[] #[ptrV c1 0,ptrV c2 0]] w (Ret fun v w'=>(v=intV (-1)∧(∀y∈l,pr y=false)∧Sat w' [Jt,F])∨(∃(k:Nat) (y:Int),v=intV (k:Int)∧l[k]? =some y∧pr y=true∧(∀j z,j<k→l[j]? =some z→pr z=false)∧Sat w' [Jt,F])):= by
 obtain⟨ao,cap,rfl,hmax⟩:=(hL.sat hS 1 rfl).shape
 refine Qm func85 U ntmps85 U ?_
 refine Qd (Qa (Qe U U (Qf (Qc (Qd (Qd (Qa (Qb U U (X7 underlying47 U U (Qb U U (Qf (Qc (Qw ?_)))))))))))))
 refine Xg (fun K0 E0 W0=> ∃(i:Nat),K0=l.length -i∧E0=[(0,.slice ao l.length cap),(1,.func (.func g) #[] #[ptrV c1 0,ptrV c2 0]),(7,intV (l.length:Int)),(8,intV (i:Int))]∧Sat W0 [Jt,F]∧(i≤l.length)∧(∀j y,j<i→l[j]? =some y→pr y=false)) (L0:=[(0,_),(1,_),(7,_),(8,_)]) (l.length -0) (HR U U U U) ⟨0,rfl,rfl,hS, by omega, by omega⟩ ?_
 rintro _ _ w1 ⟨i,rfl,rfl,j1,hi,hno⟩
 refine Qd (Qa (Xk U U U (Qf (Qc (Qd (Qt U (fun h2=> ?_) (fun h2=> ?_)))))))
 ·obtain⟨x,hx⟩: ∃x,l[i]? =some x:=⟨_,Zq (by omega)⟩
  obtain⟨b,off,rfl,_⟩:=(hL.sat j1 1 rfl).get hx
  refine Qs (Qc (Qd (Qw (Qd (Qa (Qb U U (Qe U U (Qf (Qc (Qd (Qa (Qb U U (Qb U U (Qb U U (Z2 i U U (by rfl) ((Zb hx).1) Jr U ?_)))))))))))))))
  refine Qr U QL (((hL.sat j1 1 U).at_ hx) 0 _ U) U (YU U hE.1 U (hE.2 _ _ _ (j1.sp [0] U)) U ?_)
  rintro e w3 ⟨_,rfl,rfl,j3⟩; refine⟨_,rfl, ?_⟩
  replace j3:=j3.jn U U
  refine Qf (Qc (Qh [8,7,1,0,5,16] U (QT U (fun h4=> ?_) (fun h4=> ?_))))
  ·have heq:pr x=true:=h4
   exact Qd (Qa (Qb U U (Qe U U (Qf (Qc (Qu (Qz (Qp (Qp (Qz (Qp (QY (.inr U) U U (⟨_,U,.inr ⟨i,x,U,hx,heq,hno,j3.pick [0,1] U⟩⟩)))))))))))))
  have hne:pr x=false:=h4
  refine Qs (Qk (Qc (Qa (QO U U (by omega) (by omega) U ?_))))
  refine Qb U U (Qf ?_)
  exact Q3 (L1:=[(0,_),(1,_),(7,_),(8,intV ((i+1:Nat):Int))]) (HR U U U U) (k1:=l.length -(i+1)) (by omega) ⟨i+1,rfl,rfl,j3.pick [0,1] U, by omega, fun j y hj hq=> by by_cases e:j=i;(subst e; rw[hx]at hq; cases hq; exact hne); exact hno j y (by omega) hq⟩
 refine QU (Qq (Qq (Qx (Qc (Qd (Qa (Qe U U (Qf (Qc (Qu (QY (.inr U) U U ?_)))))))))))
 exact⟨_,rfl,.inl ⟨rfl, fun y hm=> by obtain⟨j,hj⟩:=List.mem_iff_getElem?.1 hm; exact hno j y (by have :=(Zb hj).1;omega) hj,j1.pick [0,1] rfl⟩⟩
theorem AJ {w:World} {As:List Th} (hS:Sat w As) (k:Nat) (os:Array Obj):Sat (Go.Sort.grow (w.drewN k) os) As:= by
  refine hS.only ⟨rfl,rfl,rfl, by simp [Go.Sort.grow], fun j hj _=> ?_⟩
  have :j<(w.drewN k).heap.size:=hj
  show(w.heap++os)[j]? =w.heap[j]?
  rw[Array.getElem?_append_left hj]
theorem LA {w:World} {As:List Th} (hS:Sat w As) (q:Nat):Sat (w.drewN q) As:= by
  have h:=AJ hS q #[]
  have e:Go.Sort.grow (w.drewN q) #[]=w.drewN q:= by unfold Go.Sort.grow; simp;rfl
  rw[e]at h; exact h
theorem bs_sp {w:World} {As:List Th} (hS:Sat w As) (i:Nat) {v:Value} {zs:List Int} (hi:As[i]? =some (rowT inC v zs)) (x:Int) (hl:zs.length≤100000000000) (hs:zs.Pairwise (· < ·)):Calls prog 84 #[v,intV x] w (Ret fun u w'=>u= .tuple #[intV (zs.countP (· <x):Nat),.bool (zs.contains x)]∧Sat w' As):= by
  by_cases hz:zs=[]
  · subst hz
    obtain⟨ao,cap,rfl,_⟩:=hS.own_shape i hi
    refine(Tryz.slices_BinarySearch_int_empty ao cap x w).mono fun e w' ⟨h1,h2⟩=>⟨_,h1,rfl, by rw[h2]; exact hS⟩
  · have hzl:=List.length_pos_iff.2 hz
    obtain⟨b,cap,rfl,_⟩:=hS.own_at i hi hzl
    have ht:zs.take zs.length=zs:=List.take_length
    refine(Tryz.slices_BinarySearch_int b 0 zs.length cap zs x w (Nat.le_refl _) (by omega) (fun j hj=> ?_) (by rw[ht]; exact hs.imp fun h=>Int.le_of_lt h)).mono fun e w' ⟨h1,q,h2⟩=>⟨_,h1, by rw[ht], by rw[h2]; exact LA hS q⟩
    have hc:=hS.ocell i hi U (RowC.cells_get (C:=inC) (o:=0) (Zq hj) U)
    have e:zs.getD j 0=zs[j]:= by rw[List.getD_eq_getElem?_getD,Zq hj];rfl
    rw[e]
    simpa [inC]using hc
theorem Nb {w:World} {b n Fr m c:Nat} {L:LvD} {V:VS} {F:Th} (hS:Sat w [XX b L,XD L.sp n Fr V,F]) (hI:LvI m L V) (hc:SzLe L c) (hcc:c≤100000) (nn:Int) (hnn:nn≤4611686018427387904) (hn:n+nn.toNat*(6*c)≤60000000000):
    Calls prog 30 #[ptrV b 0,intV nn] w (Ret fun v w'=> ∃L' V' l,MrP m c L L' V V' nn∧l.length≤3*c∧Sat w' [rowT inC v l,XX b L',XD L'.sp (n+nn.toNat*(6*c)) Fr V',F]):= by
 refine Qm func30 U ntmps30 U ?_
 refine Qd (Qa (XR hS U U U ?_))
 intro cl w1 j1
 refine Qe U U (Qf (Qc (Qd (Qa (Qr U Uf (j1.cell 0 U U) U (Qv cal_83 U (held_sp (j1.sp [1] U) hc hcc) U ?_))))))
 rintro _ w2 ⟨hs0,hh0,j2⟩
 replace j2:=j2.jn U U
 refine Qe U U (Qf (Qc (Qd (Qa (Zi QN j2 U ?_)))))
 intro gm w3 j3; rw[←Gd]at j3
 refine Qe U U (Qf (Qc (Qd (Qd (Qa (Qb U U (Qb U U (Qf (Qc (Qh [2,4,5,6,15,16] U (Qw ?_)))))))))))
 have hz8:=Xn (m:=n+0*(6*c)) (by omega) (j3.pick [4,0,1,2,3,5] U)
 refine Xg (fun K0 E0 W0=> ∃(j:Nat) (L1:LvD) (V1:VS) (hs:List Int) (gf:Int→Bool) (hv:Value),K0=(nn -(j:Int)).toNat∧E0=[(2,ptrV cl 0),(5,hv),(6,.map (some gm)),(15,intV nn),(16,intV (j:Int))]∧Sat W0 [Q8 cl [ptrV b 0],XX b L1,XD L1.sp (n+j*(6*c)) Fr V1,rowT inC hv hs,Q5 QN gm (ZF gf),F]∧(MrI m c L L1 V V1 hs0 hs j)∧(j≤nn.toNat)∧(∀s,gf s=true→s∈hs0)) (L0:=[(2,_),(5,_),(6,_),(15,_),(16,_)]) ((nn -0).toNat) (Hi U U U U U) ⟨0,L,V,hs0, fun _=>false,_,rfl,rfl,hz8.pick [4,3,0,2,1,5] U,MrI.start hI hc hh0, by omega, fun s h=> by cases h⟩ ?_
 rintro _ _ w4 ⟨j,L1,V1,hs,gf,hv,rfl,rfl,j4,hMg,hjn,hgs⟩
 refine Qd (Qa (Xk U U U (Qf (Qc (Qd (Qt U (fun h5=> ?_) (fun h5=> ?_)))))))
 ·refine Qs (Qc (Qd (Qw (Qd ?_))))
  have hj1:(j+1)*(6*c)=j*(6*c)+6*c:= by rw[Nat.add_mul,Nat.one_mul]
  have hj2:(j+1)*(6*c)≤nn.toNat*(6*c):=Nat.mul_le_mul_right _ (by omega)
  obtain⟨ah,ch,hvh,_⟩:=j4.own_shape 3 rfl; obtain rfl:=hvh
  obtain⟨q,hq⟩: ∃q,q=IntKind.i64.wrap (L1.cur+1):=⟨_,rfl⟩
  have hln:=hMg.len; have hl0:=RA hc (U7 hh0.2) fun s hs=>(hh0.1 s).1 hs
  refine Qa (Qb U U (Qr U Uf (j4.cell 0 U U) U (Qj U U (Qg U VZ U (Qr U QL (lvT_cur j4 1 U) U (B0 (c:=q) U U hq.symm U (Qv cal_84 U (bs_sp j4 3 U q (by omega) hMg.held.2) U ?_)))))))
  rintro _ w6 ⟨rfl,j6⟩
  refine Qb U U (Qn U U U (Qn U U U (Qe U U (Qe U U (Qf (Qc (Qh [16,15,6,5,2,7] U (Qd (Qd (Qa (Qb U U (Qb U U (X7 underlying47 U U (Xq U U U (Qf (Qc (Qt U (fun h7=> ?_) (fun h7=> ?_))))))))))))))))))
  ·have hall:(hs.countP fun x=>decide (x<q))=hs.length:= by omega
   refine Qd (Qa (Qr U Uf (j6.cell 0 U U) U (Qj U U (Qg U VZ U ?_))))
   have j8:=X1 (j6.pick [1,0,2,3,4,5] U)
   refine QV j8 U U Yq U (i:=0) U (Xv U) ?_
   intro w9 j9; dsimp only[List.set]at j9
   have j10:=QX (L:={L1 with cur:=0}) (j9.pick [0,1,2,3,4,5,6,7,8,9] U)
   refine Qf (Qc (Qh [16,15,6,5,2,7] U (QU (Qq (YQ U (Qq (Qq (Qx (Qc (Qd (Qa (Qb U U (Qv Sh U (OJ (j10.sp [] U) U) U ?_)))))))))))))
   rintro _ w11 ⟨ck,rfl,j11⟩
   replace j11:=j11.jn U U
   have hl0:=RA hc (U7 hh0.2) fun s hs=>(hh0.1 s).1 hs
   have hK:=Sat.fold (As:=[Q8 ck [.map (some gm)],Q5 QN gm (ZF gf)]) (j11.pick [0,5,1,2,3,4,6] U)
   have hC12:=hK.sp [0] U
   refine Qv DX U (HG hC12 Cn (itKB ck gm (ZF gf)) (fun ks hq=>Nat.le_trans (Zp hq.nodup fun s hs=>hgs s (GS.1 (hq.has s hs))) (by omega))) U ?_
   rintro _ w12 ⟨ks,hks,j12⟩
   replace j12:=j12.jn U U; clear hC12
   clear hK
   refine Qe U U (Qf (Qc (Qu (QY (.inr U) U U ?_))))
   have hjm:j*(6*c)≤nn.toNat*(6*c):=Nat.mul_le_mul_right _ hjn
   have hkl:(ZL ks).length≤3*c:= by rw[WD]; exact Nat.le_trans (Zp hks.nodup fun s hs=>hgs s (GS.1 ((hks.mem s).1 hs))) hl0
   have hz9:=Xn (m:=n+nn.toNat*(6*c)) (by omega) (j12.pick [4,0,2,6] U)
   exact⟨_,rfl,{L1 with cur:=0},V1,ZL ks,hMg.brk hh0 hq (by omega),hkl,hz9.pick [1,2,0,3] U⟩
  refine Qs (Qc (Qd ?_))
  have hatl:(hs.countP fun x=>decide (x<q))<hs.length:= by have :=List.countP_le_length (l:=hs) (p:= fun x=>decide (x<q));omega
  obtain⟨x,hx⟩: ∃x,hs[(hs.countP fun x=>decide (x<q))]? =some x:=⟨_,Zq hatl⟩
  have hxm:=List.mem_of_getElem? hx
  have hxh:=(hMg.held.1 x).1 hxm
  have hxa:=(ZW hMg.inv x).2 hxh
  have hxb:=stT_id (j6.pick [2,0,1,3,4,5] U) hxa
  have hx1:1≤x∧x≤1152921504606846976:= by omega
  refine Qa (Qb U U (Qb U U (Xx inC 3 (hs.countP fun x=>decide (x<q)) j6 U U U (by rfl) hx Jr U ?_)))
  intro bx13 capx13 hvx13
  refine Zz 3 (hs.countP fun x=>decide (x<q)) 0 j6 U hvx13 U U hx QL U U ?_
  refine Qe U U (Qf (Qc (Qh [16,15,6,5,2,7,9] U (Qd (Qa (Qr U Uf (j6.cell 0 U U) U (Qb U U (Qj U U (Qg U VZ U ?_)))))))))
  have j14:=X1 (j6.pick [1,0,2,3,4,5] U)
  refine QV j14 U U Yq U (i:=0) U (Xv U) ?_
  intro w15 j15; dsimp only[List.set]at j15
  have j16:=QX (L:={L1 with cur:=x}) (j15.pick [0,1,2,3,4,5,6,7,8,9] U)
  refine Qf (Qc (Qh [16,15,6,5,2,7,9] U (Qd (Qa (Qr U Uf (j16.cell 1 U U) U (Qj U U (Qg U XJ U (Qr U Xy (Jk j16 0 U) U (Qb U U (Qv W5 U (WX (j16.sp [2] U) x) U ?_))))))))))
  rintro _ w17 ⟨rfl,j17⟩
  replace j17:=j17.jn U U
  refine Xa j17 zr_9 U U ?_
  intro cp w18 j18
  (refine QV j18 U U sz_9 (by rfl) (i:=0) U (by decide) ?_)
  intro w19 j20; dsimp only[List.set]at j20
  refine Qe U U (Qf (Qc (Qh [16,15,6,5,2,7,9,10,11] U (Qd (Qd ?_)))))
  have j21:=j20.drew
  refine QE [0,1,2,3] [1] Wa (by kernel_rfl) ?_
  refine Q4 U U U (Ql U W9 (j21.cell 0 U U)) (Xe U U U U U U ?_)
  refine VD j21 64 U U U underlying143 Nl U (by omega) (by omega) U ?_
  intro bz w22 j22; rw[KB]at j22
  refine Xz (.cons (.inl ⟨U,(Ql U W9 (j22.cell 1 U U))⟩) .nil) (Q4 U U U (Kb 0 j22 zer U U U underlying143 underlying5 underlying9 U U) (QZ U U U (fun _=>(RQ U U)) ?_))
  refine VC.nil (Qc (Qh [16,15,6,5,2,7,9,10,11,52] U (Qt U (fun h23=> ?_) (fun h23=> ?_))))
  ·have hnz:XH V1 x≠zer:=h23
   refine Qd (Qa (Qb U U (Qb U U (Z7 U U ?_))))
   have hJ:=Sat.fold (As:=[Q8 cl [ptrV b 0],Q8 cp [strV (XH V1 x)],XX b {L1 with cur:=x},XD L1.sp (n+j*(6*c)) Fr V1]) (j22.pick [4,1,3,2,0,5,6,7] U)
   have hC24:=hJ.sp [0] U
   refine Zc IE U (ixP_sp (prF_mg (b:=b) (cl:=cl) (cp:=cp) (n:=n+j*(6*c)) (Fr:=Fr) (pg:=XH V1 x) (L:={L1 with cur:=x}) (V:=V1)) hC24 (l:=hs) (Ent.starL (Jn (C:=inC) (l:=hs) (by omega)) 1 U)) U ?_
   rintro e w24 ⟨_,rfl,(⟨rfl,hno,j24⟩ | ⟨k,y,rfl,hy,hpy,hno,j24⟩)⟩
   ·exact absurd (hno x hxm) (by simp)
   refine⟨_,U, ?_⟩
   replace j24:=j24.jn U U; clear hC24
   clear hJ
   refine Xx inC 2 k j24 U U U (by rfl) hy Jr U ?_
   intro bx25 capx25 hvx25
   refine Zz 2 k 0 j24 U hvx25 U U hy QL U U (Qe U U (Qf (Qc (Qh [16,15,6,5,2,7,9,11] U (Qd (Qd ?_))))))
   have hJ2:=(j24.pick [0,1,2,3,4] U).flat; dsimp only[Gl,Gk]at hJ2
   have hpy2:XH V1 y=XH V1 x:= by simpa using hpy
   refine Qa (Qb U U (Qb U U (Xq U U U (Qf (Qc (Qt U (fun h26=> ?_) (fun h26=> ?_)))))))
   ·have hyx:y=x:=h26
    subst hyx
    have hkk:k=(hs.countP fun x=>decide (x<q)):= by rcases Nat.lt_trichotomy k (hs.countP fun x=>decide (x<q))with r | r | r;(have :=(UR hMg.held.2 hy hx).1 r;omega); exact r;(have :=(UR hMg.held.2 hx hy).1 r;omega)
    have hkeep:=hMg.keep (x:=y) hq U hx hx1 hnz (fun i s hi hs2=> by have h7:=hno i s (by omega) hs2;simpa using h7)
    refine QU (Qq (Qq (Qx (Qc (Qh [16,15,6,5,2] U (Qa (QO U U (by omega) (by omega) U ?_)))))))
    refine Qb U U (Qf ?_)
    have hz9:=Xn (m:=n+(j+1)*(6*c)) (by omega) (hJ2.pick [3,0,2,5,6,7] U)
    exact Q3 (L1:=[(2,_),(5,_),(6,_),(15,_),(16,intV ((j+1:Nat):Int))]) (Hi U U U U U) (k1:=(nn -((j+1:Nat):Int)).toNat) (by omega) ⟨j+1,{L1 with cur:=y},V1,hs,gf,_,rfl,rfl,hz9.pick [1,2,0,3,4,5] U,hkeep, by omega,hgs⟩
   have hyx:y≠x:=h26
   refine Qs (Qc (Qh [16,15,6,5,2,7,9,11] U (Qa (Qb U U (Qb U U (Xp (k:=y) (v:= .bool true) 6 hJ2 keysInt underlying83 U U U U ?_))))))
   intro w27 j27; dsimp only[List.set]at j27; rw[YT]at j27
   clear hJ2
   refine Qf (Qc (Qd (Qa (Qr U Uf (j27.cell 0 U U) U (Qb U U (Qb U U ?_))))))
   obtain⟨g1,g2⟩:=hMg.inv.cur (x:=x)
   have hym:=List.mem_of_getElem? hy
   have hya:=(ZW hMg.inv y).2 ((hMg.held.1 y).1 hym)
   refine Qv ID U (Sz (j27.sp [2,3] U) g1 hMg.sz (by omega) (x:=x) (y:=y) hyx hxh.1 (.inr hya) hpy2) U ?_
   rintro _ w28 ⟨L3,V3,hsw,j28⟩
   replace j28:=j28.jn U U
   have hgive:=hMg.give hq U hx hx1 hsw hyx (.inr hym)
   have hsp3:L3.sp=L1.sp:=hsw.sp
   refine Qf (Qc (Qh [16,15,6,5,2,7] U (Qa (Qb U U (Qb U U (Qb U U (QO U U (by omega) (by omega) U ?_)))))))
   refine Qv IC U (Fk (j28.sp [5] U) hatl (by omega)) U ?_
   rintro _ w29 j29
   replace j29:=j29.jn U U
   refine Qe U U (Qf (Qk (Qc (Qh [16,15,6,2,5] U (Qa (QO U U (by omega) (by omega) U ?_))))))
   refine Qb U U (Qf ?_)
   have hz9:=Xn (m:=n+(j+1)*(6*c)) (by omega) (j29.pick [2,3,1,0,6,7] U)
   exact Q3 (L1:=[(2,_),(5,_),(6,_),(15,_),(16,intV ((j+1:Nat):Int))]) (Hi U U U U U) (k1:=(nn -((j+1:Nat):Int)).toNat) (by omega) ⟨j+1,L3,V3,_,WC gf y,_,rfl,rfl,hz9.pick [1,2,0,3,4,5] U,hgive, by omega, fun s h=>(CJ.1 h).elim (fun e=> by rw[e]; exact hMg.sub y (List.mem_of_getElem? hy)) (hgs s)⟩
  have hpz:XH V1 x=zer:=Decidable.not_not.1 h23
  refine Qs (Qc (Qd (Qa (Qr U Uf (j22.cell 4 U U) U (Qb U U (Qb U U ?_))))))
  obtain⟨g1,g2⟩:=hMg.inv.cur (x:=x)
  refine Qv ID U (Sz (j22.sp [3,2] U) g1 hMg.sz (by omega) (x:=x) (y:=0) (fun e=>hxh.1 e.symm) hxh.1 (.inl U) ((Wk hMg.inv.zero).trans hpz.symm)) U ?_
  rintro _ w30 ⟨L3,V3,hsw,j30⟩
  replace j30:=j30.jn U U
  have hgive:=hMg.give hq U hx hx1 hsw (fun e=>hxh.1 e.symm) (.inl U)
  have hsp3:L3.sp=L1.sp:=hsw.sp
  refine Qf (Qc (Qh [16,15,6,5,2,7] U (Qa (Qb U U (Qb U U (Qb U U (QO U U (by omega) (by omega) U ?_)))))))
  refine Qv IC U (Fk (j30.sp [5] U) hatl (by omega)) U ?_
  rintro _ w31 j31
  replace j31:=j31.jn U U
  refine Qe U U (Qf (Qk (Qc (Qh [16,15,6,2,5] U (Qa (QO U U (by omega) (by omega) U ?_))))))
  refine Qb U U (Qf ?_)
  have hz9:=Xn (m:=n+(j+1)*(6*c)) (by omega) (j31.pick [2,5,1,0,6,7] U)
  exact Q3 (L1:=[(2,_),(5,_),(6,_),(15,_),(16,intV ((j+1:Nat):Int))]) (Hi U U U U U) (k1:=(nn -((j+1:Nat):Int)).toNat) (by omega) ⟨j+1,L3,V3,_,gf,_,rfl,rfl,hz9.pick [1,2,0,3,4,5] U,hgive, by omega,hgs⟩
 refine QU (Qq (Qq (Qx (Qc (Qd (Qa (Qb U U (Qv Sh U (OJ (j4.sp [] U) U) U ?_))))))))
 rintro _ w32 ⟨ck,rfl,j32⟩
 replace j32:=j32.jn U U
 have hl0:=RA hc (U7 hh0.2) fun s hs=>(hh0.1 s).1 hs
 have hK:=Sat.fold (As:=[Q8 ck [.map (some gm)],Q5 QN gm (ZF gf)]) (j32.pick [0,5,1,2,3,4,6] U)
 have hC33:=hK.sp [0] U
 refine Qv DX U (HG hC33 Cn (itKB ck gm (ZF gf)) (fun ks hq=>Nat.le_trans (Zp hq.nodup fun s hs=>hgs s (GS.1 (hq.has s hs))) (by omega))) U ?_
 rintro _ w33 ⟨ks,hks,j33⟩
 replace j33:=j33.jn U U; clear hC33
 clear hK
 refine Qe U U (Qf (Qc (Qu (QY (.inr U) U U ?_))))
 have hjm:j*(6*c)≤nn.toNat*(6*c):=Nat.mul_le_mul_right _ hjn
 have hkl:(ZL ks).length≤3*c:= by rw[WD]; exact Nat.le_trans (Zp hks.nodup fun s hs=>hgs s (GS.1 ((hks.mem s).1 hs))) hl0
 have hz9:=Xn (m:=n+nn.toNat*(6*c)) (by omega) (j33.pick [4,0,3,6] U)
 exact⟨_,rfl,L1,V1,ZL ks,hMg.done hh0 (by omega),hkl,hz9.pick [1,2,0,3] U⟩
end Go.Proofs.YtkcjfoaejijdoaaGreatDoor
namespace Go.Proofs.YtkcjfoaejijdoaaGreatDoor
open Go.RowKit M Proofs.Tryz
variable [Inhabited SlW]
theorem Da {L:LvD} {id:Int} (h0:id≠0) (ht:L.tr id=none):Zk L id=false:= by simp [Zk,h0,ht]
theorem O2 {w:World} {b p Fr n i:Nat} {A:LvA} {F:Th} (hS:Sat w [Kz b p Fr n i A,F]) (hn:n+100000000≤60000000000) (hi:i≤60) (id parent:Int):
    Calls prog 11 #[ptrV b 0,intV id,intV parent] w (Ret fun v w'=>(∃e,v=intV e)∧ ∃A',Sat w' [Kz b p Fr (n+100000000) (i+1) A',F]):= by
  obtain⟨L,V,hp,j1⟩:=WI hS
  obtain⟨h1,h2,rfl,h4,h5⟩:=_root_.id hp
  have hm:i<Zg:= by unfold Zg;omega
  refine(FL j1 h2 id parent).mono fun ew w h=>h.mono fun v w h=> ?_
  obtain⟨L',rfl,hs,ha,hS⟩:=h
  exact⟨⟨_,rfl⟩,_,Wv (by omega) (WZ hp hs (by omega) (by omega) ha h5.beg hS)⟩
theorem SP {w:World} {b p Fr n i:Nat} {A:LvA} {F:Th} (hS:Sat w [Kz b p Fr n i A,F]) (hn:n+100000000≤60000000000) (hi:i≤60) (id:Int) (ob:Bs) (a:Int):
    Calls prog 12 #[ptrV b 0,intV id,strV ob,intV a] w (Ret fun v w'=>(∃x,v=WA x)∧ ∃A',Sat w' [Kz b p Fr (n+100000000) (i+1) A',F]):= by
  obtain⟨L,V,hp,j1⟩:=WI hS
  obtain⟨h1,h2,rfl,h4,h5⟩:=_root_.id hp
  have hm:i<Zg:= by unfold Zg;omega
  by_cases hr:0≤a∧a<16384
  · skip
    by_cases h0:id=0
    · subst h0
      refine(Tk j1 (by omega) ob a h2 hm hr).mono fun ew w h=>h.mono fun v w h=> ?_
      exact⟨⟨_,h.1⟩,_,Jj (by omega) (Zn hp h.2)⟩
    · cases ht:L.tr id with
      | none=>
        refine(IZ j1 (by omega) ob a id hr (Da h0 ht)).mono fun ew w h=>h.mono fun v w h=> ?_
        exact⟨⟨_,h.1⟩,_,Jj (by omega) (Zn hp h.2)⟩
      | some t=>
        refine(Tj j1 (by omega) ob a h2 hm ht hr).mono fun ew w h=>h.mono fun v w h=> ?_
        obtain⟨L',V',rfl,hs,ha,hS⟩:=h
        exact⟨⟨_,rfl⟩,_,Wv (by omega) (WZ hp hs (by omega) (by omega) ha (h5.up fun _ _ q=>q.tou0 U) hS)⟩
  · refine(IY j1 (by omega) ob a id hr).mono fun ew w h=>h.mono fun v w h=> ?_
    exact⟨⟨_,h.1⟩,_,Jj (by omega) (Zn hp h.2)⟩
theorem SO {w:World} {b p Fr n i:Nat} {A:LvA} {F:Th} (hS:Sat w [Kz b p Fr n i A,F]) (hn:n+100000000≤60000000000) (hi:i≤60) (id:Int) (ob:Bs) (a:Int) (bt:UInt8):
    Calls prog 10 #[ptrV b 0,intV id,strV ob,intV a,WA bt] w (Ret fun v w'=>(∃e,v=intV e)∧ ∃A',Sat w' [Kz b p Fr (n+100000000) (i+1) A',F]):= by
  obtain⟨L,V,hp,j1⟩:=WI hS
  obtain⟨h1,h2,rfl,h4,h5⟩:=_root_.id hp
  have hm:i<Zg:= by unfold Zg;omega
  by_cases hr:0≤a∧a<16384
  · skip
    by_cases h0:id=0
    · subst h0
      refine(CH j1 (by omega) ob a bt h2 hm hr).mono fun ew w h=>h.mono fun v w h=> ?_
      obtain⟨L',V',e,rfl,hs,hq,hS⟩:=h
      rcases hq with⟨rfl,ha⟩ | ⟨_,ha,_⟩
      · exact⟨⟨_,rfl⟩,_,Wv (by omega) (WZ hp hs (by omega) (by omega) ha (h5.up fun _ _ q=>q.pres) hS)⟩
      · exact⟨⟨_,rfl⟩,_,Wv (by omega) (WZ hp hs (by omega) (by omega) ha (h5.mono (by omega)) hS)⟩
    · cases ht:L.tr id with
      | none=>
        refine(L6 j1 (by omega) ob a bt id hr (Da h0 ht)).mono fun ew w h=>h.mono fun v w h=> ?_
        exact⟨⟨_,h.1⟩,_,Jj (by omega) (Zn hp h.2)⟩
      | some t=>
        refine(CG j1 (by omega) ob a bt h2 hm ht hr).mono fun ew w h=>h.mono fun v w h=> ?_
        obtain⟨L',V',e,rfl,hs,hq,hS⟩:=h
        rcases hq with⟨rfl,ha⟩ | ⟨_,ha,_⟩
        · exact⟨⟨_,rfl⟩,_,Wv (by omega) (WZ hp hs (by omega) (by omega) ha (h5.up fun _ _ q=>q.tou U) hS)⟩
        · exact⟨⟨_,rfl⟩,_,Wv (by omega) (WZ hp hs (by omega) (by omega) ha (h5.up fun _ _ q=>q.tou0 U) hS)⟩
  · cases hth:Zk L id with
    | false=>
      refine(Lz j1 (by omega) ob a bt id hr hth).mono fun ew w h=>h.mono fun v w h=> ?_
      exact⟨⟨_,h.1⟩,_,Jj (by omega) (Zn hp h.2)⟩
    | true=>
      refine(Az j1 (by omega) ob a bt id hr hth).mono fun ew w h=>h.mono fun v w h=> ?_
      exact⟨⟨_,h.1⟩,_,Jj (by omega) (Zn hp h.2)⟩
theorem lx_copy {w:World} {b p Fr n i:Nat} {A:LvA} {F:Th} (hS:Sat w [Kz b p Fr n i A,F]) (hn:n+100000000≤60000000000) (hi:i≤60) (id:Int) (ob to:Bs) (fi cn a:Int) (hf: -2147483648≤fi∧fi≤2147483648) (ha0: -2147483648≤a∧a≤2147483648) (hcn: -2147483648≤cn∧cn≤300):
    Calls prog 41 #[ptrV b 0,intV id,strV ob,intV fi,intV cn,strV to,intV a] w (Ret fun v w'=> ∃A',Sat w' [Kz b p Fr (n+100000000) (i+1) A',F]):= by
  obtain⟨L,V,hp,j1⟩:=WI hS
  obtain⟨h1,h2,rfl,h4,h5⟩:=_root_.id hp
  have hm:i<Zg:= by unfold Zg;omega
  by_cases h0:id=0
  · subst h0
    refine(NI j1 (by omega) h2 hm ob to fi cn a hf ha0 hcn).mono fun ew w h=>h.mono fun v w h=> ?_
    obtain⟨L',V',q,hs,_,ha,_,hS⟩:=h
    exact⟨_,Wv (by omega) (WZ hp hs (by omega) (by omega) ha (h5.up fun _ _ z=> by rw[Tc]; exact z.cpWf _) hS)⟩
  · cases ht:L.tr id with
    | none=>
      refine(I1 j1 (by omega) id (Da h0 ht) ob to fi cn a).mono fun ew w h=>h.mono fun v w h=> ?_
      exact⟨_,Jj (by omega) (Zn hp h)⟩
    | some t=>
      refine(I0 j1 (by omega) h2 hm ht ob to fi cn a hf ha0 hcn).mono fun ew w h=>h.mono fun v w h=> ?_
      obtain⟨L',V',q,hs,ha,_,hS⟩:=h
      exact⟨_,Wv (by omega) (WZ hp hs (by omega) (by omega) ha (h5.up fun _ _ z=>(z.cpRf _).cpWf _) hS)⟩
theorem lx_drop {w:World} {b p Fr n i:Nat} {A:LvA} {F:Th} (hS:Sat w [Kz b p Fr n i A,F]) (hn:n+100000000≤60000000000) (hi:i≤60) (id:Int) (ob:Bs):
    Calls prog 27 #[ptrV b 0,intV id,strV ob] w (Ret fun v w'=> ∃A',Sat w' [Kz b p Fr (n+100000000) (i+1) A',F]):= by
  obtain⟨L,V,hp,j1⟩:=WI hS
  obtain⟨h1,h2,rfl,h4,h5⟩:=_root_.id hp
  have hm:i<Zg:= by unfold Zg;omega
  by_cases h0:id=0
  · subst h0
    refine(N9 j1 h4 (by omega) h2 (fun _ _=>Int.le_refl _) ob).mono fun ew w h=>h.mono fun v w h=> ?_
    obtain⟨L',V',hs,ha,_,hS⟩:=h
    exact⟨_,Wv (by omega) (WZ hp hs.plain (by omega) (by omega) ha (h5.up fun _ _ q=>q.pres) hS)⟩
  · cases ht:L.tr id with
    | none=>
      refine(Iv j1 (by omega) h0 ht ob).mono fun ew w h=>h.mono fun v w h=> ?_
      exact⟨_,Jj (by omega) (Zn hp h)⟩
    | some t=>
      refine(N8 j1 h4 (by omega) h2 (fun _ _=>Int.le_refl _) ht ob).mono fun ew w h=>h.mono fun v w h=> ?_
      obtain⟨L',V',hs,ha,_,hS⟩:=h
      exact⟨_,Wv (by omega) (WZ hp hs.plain (by omega) (by omega) ha h5.drop hS)⟩
theorem lx_note {w:World} {b p Fr n i:Nat} {A:LvA} {F:Th} (hS:Sat w [Kz b p Fr n i A,F]) (hn:n+100000000≤60000000000) (hi:i≤60) (id:Int) (ob:Bs) (a:Int) (wr:Bool):
    Calls prog 63 #[ptrV b 0,intV id,strV ob,intV a,.bool wr] w (Ret fun v w'=> ∃A',Sat w' [Kz b p Fr (n+100000000) (i+1) A',F]):= by
  obtain⟨L,V,hp,j1⟩:=WI hS
  obtain⟨h1,h2,rfl,h4,h5⟩:=_root_.id hp
  have hm:i<Zg:= by unfold Zg;omega
  by_cases hr:0≤a∧a<16384
  · skip
    by_cases h0:id=0
    · subst h0
      refine(Ol j1 (by omega) ob a wr hr).mono fun ew w h=>h.mono fun v w h=> ?_
      exact⟨_,Jj (by omega) (Zn hp h)⟩
    · cases ht:L.tr id with
      | none=>
        refine(Ok j1 (by omega) ob a wr id hr (Da h0 ht)).mono fun ew w h=>h.mono fun v w h=> ?_
        exact⟨_,Jj (by omega) (Zn hp h)⟩
      | some t=>
        refine(Oi j1 (by omega) ob a wr h2 hm ht hr).mono fun ew w h=>h.mono fun v w h=> ?_
        obtain⟨L',V',y,hs,ha,⟨r,hy⟩,hS⟩:=h
        exact⟨_,Wv (by omega) (WZ hp hs (by omega) (by omega) ha (h5.up fun _ _ q=>q.tou hy) hS)⟩
  · refine(Oj j1 (by omega) ob a wr id hr).mono fun ew w h=>h.mono fun v w h=> ?_
    exact⟨_,Jj (by omega) (Zn hp h)⟩
theorem lx_own {w:World} {b p Fr n i:Nat} {A:LvA} {F:Th} (hS:Sat w [Kz b p Fr n i A,F]) (hn:n+100000000≤60000000000) (hi:i≤60) (id:Int) (ob:Bs) (page:Int):
    Calls prog 64 #[ptrV b 0,intV id,strV ob,intV page] w (Ret fun v w'=>(∃e,v=intV e)∧ ∃A',Sat w' [Kz b p Fr (n+100000000) (i+1) A',F]):= by
  obtain⟨L,V,hp,j1⟩:=WI hS
  obtain⟨h1,h2,rfl,h4,h5⟩:=_root_.id hp
  have hm:i<Zg:= by unfold Zg;omega
  by_cases hr:0≤page∧page<256
  · skip
    by_cases h0:id=0
    · subst h0
      refine(ownP_sp j1 (by omega) ob page h2 hm hr).mono fun ew w h=>h.mono fun v w h=> ?_
      obtain⟨L',V',e,rfl,hs,ha,hS⟩:=h
      exact⟨⟨_,rfl⟩,_,Wv (by omega) (WZ hp hs (by omega) (by omega) ha (h5.mono (by omega)) hS)⟩
    · cases ht:L.tr id with
      | none=>
        refine(SG j1 (by omega) ob page id (Da h0 ht)).mono fun ew w h=>h.mono fun v w h=> ?_
        exact⟨⟨_,h.1⟩,_,Jj (by omega) (Zn hp h.2)⟩
      | some t=>
        refine(Oh j1 (by omega) ob page h2 hm ht hr).mono fun ew w h=>h.mono fun v w h=> ?_
        obtain⟨L',V',e,rfl,hs,ha,hS⟩:=h
        exact⟨⟨_,rfl⟩,_,Wv (by omega) (WZ hp hs (by omega) (by omega) ha (h5.up fun _ _ q=>q.tou0 U) hS)⟩
  · cases hth:Zk L id with
    | false=>
      refine(SG j1 (by omega) ob page id hth).mono fun ew w h=>h.mono fun v w h=> ?_
      exact⟨⟨_,h.1⟩,_,Jj (by omega) (Zn hp h.2)⟩
    | true=>
      refine(ownR_sp j1 (by omega) ob page id hth hr).mono fun ew w h=>h.mono fun v w h=> ?_
      exact⟨⟨_,h.1⟩,_,Jj (by omega) (Zn hp h.2)⟩
theorem LU {w:World} {b p Fr n i:Nat} {A:LvA} {F:Th} (hS:Sat w [Kz b p Fr n i A,F]) (hn:n+100000000≤60000000000) (hi:i≤60) (id:Int):
    Calls prog 13 #[ptrV b 0,intV id] w (Ret fun v w'=>(∃e,v=intV e)∧ ∃A',Sat w' [Kz b p Fr (n+100000000) (i+1) A',F]):= by
  obtain⟨L,V,hp,j1⟩:=WI hS
  obtain⟨h1,h2,rfl,h4,h5⟩:=_root_.id hp
  have hm:i<Zg:= by unfold Zg;omega
  cases ht:L.tr id with
  | none=>
    refine(PW j1 (by omega) ht).mono fun ew w h=>h.mono fun v w h=> ?_
    exact⟨⟨_,h.1⟩,_,Jj (by omega) (Zn hp h.2)⟩
  | some t=>
    by_cases hb: ∃j u,L.tr j=some u∧u.parent=id
    · refine(PX j1 (by omega) ht hb).mono fun ew w h=>h.mono fun v w h=> ?_
      exact⟨⟨_,h.1⟩,_,Jj (by omega) (Zn hp h.2)⟩
    · have hch: ∀j u,L.tr j=some u→u.parent≠id:= fun j u hu e=>hb ⟨j,u,hu,e⟩
      have e1:4*(512*i)*i≤4*(512*60)*60:=Nat.mul_le_mul (by omega) hi
      have hd:=h5.drle (Zh (V:=V) ht)
      refine(Te j1 (d:=i) (by omega) h2 hm h4 ht hch h5.dra (fun ks h=>hd.came h) (by omega)).mono fun ew w h=>h.mono fun v w h=> ?_
      obtain⟨L',V',h,j9⟩:=h
      rcases h with⟨rfl,order,obs,a1,a2,a3,a4,a5,a6,a7,a8⟩ | ⟨rfl,rfl,order,a1,a2,a3,a4,a5,a6⟩
      · exact⟨⟨_,rfl⟩,_,Wv (by omega) (Zn ⟨a5.trans h1,a4.upm (by omega),rfl,(a7 _ h4).mono (by omega), by rw[a6]; exact h5.up fun _ _ q=>q.com (Zh ht) fun o ho=>(a3 o).1 ho⟩ j9)⟩
      · exact⟨⟨_,rfl⟩,_,Wv (by omega) (Zn ⟨h1,a3.upm (by omega),rfl,h4.mono (by omega), by rw[a4]; exact h5.mono (by omega)⟩ j9)⟩
theorem O3 {w:World} {b p Fr n i:Nat} {A:LvA} {F:Th} (hS:Sat w [Kz b p Fr n i A,F]) (hn:n+100000000≤60000000000) (hi:i≤60) (id:Int):
    Calls prog 25 #[ptrV b 0,intV id] w (Ret fun v w'=> ∃A',Sat w' [Kz b p Fr (n+100000000) (i+1) A',F]):= by
  obtain⟨L,V,hp,j1⟩:=WI hS
  obtain⟨h1,h2,rfl,h4,h5⟩:=_root_.id hp
  have hm:i<Zg:= by unfold Zg;omega
  cases ht:L.tr id with
  | none=>
    refine(EF j1 (by omega) ht).mono fun ew w h=>h.mono fun v w h=> ?_
    exact⟨_,Jj (by omega) (Zn hp h)⟩
  | some t=>
    obtain⟨ids,obs,g1,g2,g3⟩:=_root_.id h5
    have hK:TrN L.tr i:=⟨ids,g1, fun j hj=>g3.ids j (by
      obtain⟨u,hu⟩:=Option.ne_none_iff_exists'.1 hj
      rw[Zh hu]; simp)⟩
    refine(qaq j1 (by omega) h2 h4 (by omega) hK (by omega) ht).mono fun ew w h=>h.mono fun v w h=> ?_
    obtain⟨L',V',K',⟨r,hP⟩,hS⟩:=h
    exact⟨_,Wv (by omega) (Zn ⟨hP.sp.trans h1,hP.inv.upm (by omega),rfl,hP.sz.mono (by omega),h5.up fun _ _ q=>q.abo hP.ab⟩ hS)⟩
theorem O0 {w:World} {b p Fr n i:Nat} {A:LvA} {F:Th} (hS:Sat w [Kz b p Fr n i A,F]) (hn:n+100000000≤60000000000) (hi:i≤60) (N:Int) (hN:N≤300):
    Calls prog 30 #[ptrV b 0,intV N] w (Ret fun v w'=> ∃l:List Int,l.length≤100000∧ ∃A',Sat w' [rowT inC v l,Kz b p Fr (n+100000000) (i+1) A',F]):= by
  obtain⟨L,V,hp,j1⟩:=WI hS
  obtain⟨h1,h2,rfl,h4,h5⟩:=_root_.id hp
  have hm:i<Zg:= by unfold Zg;omega
  have e1:N.toNat*(6*(512*i))≤300*(6*(512*60)):=Nat.mul_le_mul (by omega) (by omega)
  refine(Nb j1 h2 h4 (by omega) N (by omega) (by omega)).mono fun ew w h=>h.mono fun v w h=> ?_
  obtain⟨L',V',l,hP,hl,hS⟩:=h
  have j2:=Zn (i:=i+1) (p:=p) (A:=Q1 L V) ⟨hP.sp.trans h1,hP.inv.upm (by omega),hP.ab,hP.sz.mono (by omega),h5.mono (by omega)⟩ ((hS.perm ((List.Perm.swap _ _ _).trans (List.Perm.cons _ (List.Perm.swap _ _ _)))))
  exact⟨l, by omega,_,(Wv (by omega) j2).perm (List.Perm.swap _ _ _)⟩
theorem O1 {w:World} {b p Fr n i:Nat} {A:LvA} {F:Th} (hS:Sat w [Kz b p Fr n i A,F]) (hn:n+100000000≤60000000000) (hi:i≤60) (N:Int) (hN:N≤300):
    Calls prog 66 #[ptrV p 0,intV N] w (Ret fun v w'=>(∃e,v=intV e)∧ ∃A',Sat w' [Kz b p Fr (n+100000000) (i+1) A',F]):= by
  obtain⟨L,V,hp,j1⟩:=WI hS
  obtain⟨h1,h2,rfl,h4,h5⟩:=_root_.id hp
  subst h1
  refine(stEvict (j1.sp [1] U) (by omega) N (by omega)).mono fun ew w h=>h.mono fun v w h=> ?_
  obtain⟨d,rfl,h⟩:=h
  have h6:=(h.join U).reorder [1,0,2] U
  exact⟨⟨_,rfl⟩,_,Jj (n:=n+N.toNat) (by omega) (Zn hp h6)⟩
