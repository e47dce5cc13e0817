/- leaves: Byte, Begin, Sheet -/
import Derived.Test.YtkcjfoaejijdoaaGreatDoorLv9
import Derived.Shelf.Lays7
import Derived.Ground.Names7Prog
import Derived.Test.YtkcjfoaejijdoaaGreatDoorProg
import Derived.Test.YtkcjfoaejijdoaaGreatDoorSh13
import Derived.Test.YtkcjfoaejijdoaaGreatDoorCk2
set_option linter.unusedSectionVars false
set_option linter.unusedVariables false
set_option maxRecDepth 100000
set_option maxHeartbeats 1600000
namespace Go.Proofs.YtkcjfoaejijdoaaGreatDoor
open Go.RowKit M Proofs.Tryz
variable [Inhabited SlW]
section
variable {L L1 L':LvD} {V V1 V':VS} {id:Int} {t t1 t':TrD} {k:KD} {x y x1:LfD} {m Fr:Nat} {a:Int}
theorem AQ (hI:LvI m L V) (ht:L.tr id=some t) (hx:t.lv k=some x) (hb:y.base=x.base) (ho:y.own=x.own) (hg:Pe (Wu V y)):
    LvI m (ZD L id t k y) V∧Q1 (ZD L id t k y) V=ZJ (Q1 L V) id k (Wu V y):= by
  generalize hL':ZD L id t k y=L'
  have hP:L'.pres=L.pres:= by subst hL';rfl
  have hT:L'.tr=Xu L.tr id (some {t with lv:=Xu t.lv k (some y)}):= by subst hL';rfl
  have hf: ∀q,QP L' q=QP L q:= fun q=> by
    rw[YK (x:=y) hP hT ht U,hb,ho]
    rw[Yw (f:=QP L) (v:=x.base) (by rw[Xt ht hx];rfl),Yw (by rw[Xt ht hx];rfl)]
  have e1:Q1 L' V=ZJ (Q1 L V) id k (Wu V y):=Yl hP hT ht U fun _ _ _=>rfl
  exact⟨⟨hI.ref.fn hf, by rw[hT]; exact hI.rank.same (WO ht U), by rw[e1]; exact hI.agree.put hg⟩,e1⟩
theorem TouR.step (hT:TouR L V id t k L1 V1 t1 x1) (ht:L.tr id=some t) (hI:LvI m L V):StepI m L V m 0 1 L1 V1:= by
  obtain⟨h1,h2,h3,h4,h5⟩:=hT.inv ht hI
  exact⟨h1,hT.sp, fun c q=>(h4 c q).mono (by omega), fun c q=>hT.sz ht q⟩
theorem BZ (hT:TouR L V id t k L1 V1 t1 x1) (ht:L.tr id=some t) (hI:LvI m L V) {rd wr:BitVec 64} (hw: ∀j,j<64→wr.getLsbD j=false→x1.wr.getLsbD j=false):
    StepI m L V m 0 1 (ZD L1 id t1 k {x1 with rd:=rd,wr:=wr}) V1∧Q1 (ZD L1 id t1 k {x1 with rd:=rd,wr:=wr}) V1=ZJ (Q1 L V) id k {Z0 (Q1 L V) id k with rd:=rd,wr:=wr}:= by
  obtain⟨h1,h2,h3,h4,h5⟩:=hT.inv ht hI
  obtain⟨a1,a2⟩:=AQ (y:={x1 with rd:=rd,wr:=wr}) h1 (hT.tr ht) hT.lv rfl rfl (fun j hj h=>(h1.agree id _ k _ (Zh (hT.tr ht)) (ZR hT.lv)) j hj (hw j hj h))
  refine⟨⟨a1,hT.sp, fun c q=>(h4 c q).mono (by omega), fun c q=>(hT.sz ht q).putOld (hT.tr ht) hT.lv U U⟩, ?_⟩
  rw[a2,h3,Uq]
  congr 1
  rw[←h2];rfl
def rdX (x:LfA) (a:Int):LfA:={x with rd:=x.rd ||| ((1#64<<<a.toNat)&&& ~~~x.wr)}
def Ph (c:Bs) (a:Int):UInt8:=c.getD a.toNat 0
theorem qab {s:Int} (ha:0≤a∧a<64):btV V s a=Ph (XH V s) a:= by unfold btV Ph; rw[if_pos ha]
theorem E4 (hT:TouR L V id t k L1 V1 t1 x1) (ht:L.tr id=some t) (hI:LvI m L V) (ha:0≤a∧a<64):
    StepI m L V m 0 1 (ZD L1 id t1 k {x1 with rd:=x1.rd ||| ((1#64<<<a.toNat)&&& ~~~x1.wr)}) V1∧Q1 (ZD L1 id t1 k {x1 with rd:=x1.rd ||| ((1#64<<<a.toNat)&&& ~~~x1.wr)}) V1=ZJ (Q1 L V) id k (rdX (Z0 (Q1 L V) id k) a)∧btV V1 x1.own a=Ph (Z0 (Q1 L V) id k).own a:= by
  obtain⟨h1,h2,h3,h4,h5⟩:=hT.inv ht hI
  obtain⟨a1,a2⟩:=BZ hT ht hI (rd:=x1.rd ||| ((1#64<<<a.toNat)&&& ~~~x1.wr)) (wr:=x1.wr) fun _ _ h=>h
  have e:x1.wr=(Z0 (Q1 L V) id k).wr:= by rw[←h2];rfl
  have e2:x1.rd=(Z0 (Q1 L V) id k).rd:= by rw[←h2];rfl
  refine⟨a1, ?_, by rw[qab ha,←h2];rfl⟩
  rw[a2,e,e2];rfl
theorem RankI.beg {T:Int→Option TrD} (h:RankI T m) {i p:Int} {u:TrD} (hi:1≤i) (hn:T i=none) (hp:u.parent=0∨T u.parent≠none):RankI (Xu T i (some u)) (m+1):= by
  obtain⟨h0,r,a,b⟩:=h
  refine⟨by rw[QF (by omega)]; exact h0,UV r i (r u.parent+1), fun j=> ?_, fun j v hj=> ?_⟩
  · by_cases e:j=i
    · subst e; rw[XF]; have :=a u.parent;omega
    · rw[XQ e]; have :=a j;omega
  · have hsome: ∀q,T q≠none→Xu T i (some u) q≠none∧q≠i:= fun q hq=> by
      have :q≠i:= fun e=>hq (e▸hn)
      exact⟨by rw[QF this]; exact hq,this⟩
    by_cases e:j=i
    · subst e
      rw[Qy]at hj
      cases hj
      rcases hp with hp | hp
      · exact .inl hp
      · obtain⟨h1,h2⟩:=hsome _ hp
        exact .inr ⟨h1, by rw[XF,XQ h2];omega⟩
    · rw[QF e]at hj
      rcases b j v hj with h1 | ⟨h1,h2⟩
      · exact .inl h1
      · obtain⟨h3,h4⟩:=hsome _ h1
        exact .inr ⟨h3, by rw[XQ e,XQ h4]; exact h2⟩
def Mw (A:LvA) (id parent:Int):Int:= if id<1 then 1 else if(A.tr id).isSome=true then 5 else if Tu A parent=false then 4 else 0
noncomputable def Bx (A:LvA) (id parent:Int):LvA:= if Mw A id parent=0 then{A with tr:=Xu A.tr id (some ⟨parent, fun _=>none, fun _=>false⟩)}else A
theorem Pa {parent:Int}:Mw (Q1 L V) id parent=JZ L id parent:= by unfold Mw JZ; rw[Le]; simp [Q1]
theorem beg_fin (hI:LvI m L V) {parent:Int} {ad ml md:Nat}:StepI m L V (m+1) 0 0 (NZ L id parent ad ml md) V∧Q1 (NZ L id parent ad ml md) V=Bx (Q1 L V) id parent:= by
  unfold Bx
  rw[Pa]
  unfold NZ
  by_cases he:JZ L id parent=0
  · rw[if_pos he,if_pos he]
    have h1: ¬id<1:= fun q=> by unfold JZ at he; rw[if_pos q]at he;omega
    have h2:L.tr id=none:= by
      unfold JZ at he; rw[if_neg h1]at he
      cases q:L.tr id with
      | none=>rfl
      | some u=> rw[q]at he; simp at he
    have h3:Zk L parent=true:= by
      unfold JZ at he; rw[if_neg h1,h2]at he
      cases q:Zk L parent with
      | true=>rfl
      | false=> rw[q]at he; simp at he
    have h4:parent=0∨L.tr parent≠none:= by
      unfold Zk at h3
      simp only[Bool.or_eq_true,decide_eq_true_eq]at h3
      exact h3.imp_right fun q e=> by rw[e]at q; cases q
    generalize hL':({L with tr:=Xu L.tr id (some ⟨ad,ml,md,parent, fun _=>none, fun _=>false⟩)}:LvD)=L'
    have hP:L'.pres=L.pres:= by subst hL';rfl
    have hT:L'.tr=Xu L.tr id (some ⟨ad,ml,md,parent, fun _=>none, fun _=>false⟩):= by subst hL';rfl
    have hf: ∀q,QP L' q=QP L q:= fun q=> by
      cases q with
      | inl j=> simp [QP,hP]
      | inr q=>
        obtain⟨i,j,o⟩:=q
        simp only[QP,hT]
        by_cases e:i=id
        · subst e; rw[Qy,h2]
        · rw[QF e]
    have e1:Q1 L' V={Q1 L V with tr:=Xu (Q1 L V).tr id (some ⟨parent, fun _=>none, fun _=>false⟩)}:= by
      unfold Q1
      rw[hP,hT]
      congr 1
      funext i
      by_cases e:i=id
      · subst e; rw[Qy,Qy];rfl
      · rw[QF e,QF e]
    refine⟨⟨⟨hI.ref.fn hf, by rw[hT]; exact hI.rank.beg (p:=parent) (by omega) h2 h4, ?_⟩, by subst hL';rfl, fun _ q=>q, fun c q=> ?_⟩,e1⟩
    · rw[e1]
      intro i u k x hi hk
      dsimp only at hi
      by_cases e:i=id
      · subst e; rw[Qy]at hi; cases hi; cases hk
      · rw[QF e]at hi; exact hI.agree i u k x hi hk
    · obtain⟨l,a,b,d⟩:=q
      refine⟨l,a, fun k hk=>b k (by rwa [hP]at hk), fun j u k x hj hk=> ?_⟩
      rw[hT]at hj
      by_cases e:j=id
      · subst e; rw[Qy]at hj; cases hj; cases hk
      · rw[QF e]at hj; exact d j u k x hj hk
  · rw[if_neg he,if_neg he]
    exact⟨⟨⟨hI.ref,(by obtain⟨h0,r,a,b⟩:=hI.rank; exact⟨h0,r, fun i=>Nat.le_succ_of_le (a i),b⟩),hI.agree⟩,rfl, fun _ q=>q, fun _ q=>q⟩,rfl⟩
def K3 (L:LvD) (id:Int) (k:KD):Bool:= match L.tr id with | none=>false | some t=>(t.lv k).isSome
def Vp (L:LvD) (V:VS) (id:Int) (k:KD):Bool:=decide (Xo L id k≠0)&&(decide (Zm V (Xo L id k)=1)&&(decide (id=0) || K3 L id k))
def W6 (L:LvD) (id page:Int):Bool:=decide (0≤page∧page<256)&&Zk L id
end
theorem Tj {w:World} {m:Nat} {b n Fr:Nat} {L:LvD} {V:VS} {F:Th} (hS:Sat w [XX b L,XD L.sp n Fr V,F]) (hn:n≤60000000000) (ob:Bs) (a:Int) (hI:LvI m L V) (hm:m<Zg) {id:Int} {t:TrD} (ht:L.tr id=some t) (hr:0≤a∧a<16384):
    Calls prog 12 #[ptrV b 0,intV id,strV ob,intV a] w (Ret fun v w'=> ∃L' V',v=WA (Ph (Z0 (Q1 L V) id (ob,a/ 64)).own (a%64))∧StepI m L V m 0 1 L' V'∧Q1 L' V'=ZJ (Q1 L V) id (ob,a/ 64) (rdX (Z0 (Q1 L V) id (ob,a/ 64)) (a%64))∧Sat w' [XX b L',XD L'.sp (n+2) Fr V',F]):= by
  refine(IX hS hn (hI.rank.ends hm) ht (hI.rank.none0 ht) ob a hr).mono fun e w h=>h.mono fun v w h=> ?_
  obtain⟨L1,V1,t1,x1,hT,rfl,h⟩:=h
  obtain⟨h1,h2,h3⟩:=E4 hT ht hI (by omega:0≤a%64∧a%64<64)
  exact⟨_,_, by rw[h3],h1,h2,h⟩
theorem Tk {w:World} {m:Nat} {b n Fr:Nat} {L:LvD} {V:VS} {F:Th} (hS:Sat w [XX b L,XD L.sp n Fr V,F]) (hn:n≤60000000000) (ob:Bs) (a:Int) (hI:LvI m L V) (hm:m<Zg) (hr:0≤a∧a<16384):
    Calls prog 12 #[ptrV b 0,intV 0,strV ob,intV a] w (Ret fun v w'=>v=WA (Ph ((Q1 L V).pres (ob,a/ 64)) (a%64))∧Sat w' [XX b L,XD L.sp n Fr V,F]):= by
  refine(qaa hS hn ob a (hI.rank.ends hm) hr).mono fun e w h=>h.mono fun v w h=> ?_
  exact⟨by rw[h.1,qab (by omega)];rfl,h.2⟩
theorem FL {w:World} {m b n Fr:Nat} {L:LvD} {V:VS} {F:Th} (hS:Sat w [XX b L,XD L.sp n Fr V,F]) (hI:LvI m L V) (id parent:Int):
    Calls prog 11 #[ptrV b 0,intV id,intV parent] w (Ret fun v w'=> ∃L',v=intV (Mw (Q1 L V) id parent)∧StepI m L V (m+1) 0 0 L' V∧Q1 L' V=Bx (Q1 L V) id parent∧Sat w' [XX b L',XD L'.sp n Fr V,F]):= by
  refine(qag (hS.split [0] [true,false,false] U) id parent).mono fun e w h=>h.mono fun v w h=> ?_
  obtain⟨rfl,ad,ml,md,h⟩:=h
  have h1:=h.join U
  obtain⟨h2,h3⟩:=beg_fin (id:=id) (parent:=parent) (ad:=ad) (ml:=ml) (md:=md) hI
  refine⟨_, by rw[Pa],h2,h3, ?_⟩
  rw[h2.sp]; exact h1
theorem Lv {w:World} {b n Fr:Nat} {L:LvD} {V:VS} {F:Th} (hS:Sat w [XX b L,XD L.sp n Fr V,F]) (hE: ∀i,YE L.tr Zg i) (id:Int) (ob:Bs) (page:Int) (hok:W6 L id page=false):
    Calls prog 33 #[ptrV b 0,intV id,strV ob,intV page] w (Ret fun v w'=>v= .tuple #[intV 0,.bool false]∧Sat w' [XX b L,XD L.sp n Fr V,F]):= by
 refine Qm func33 U ntmps33 U ?_
 refine Qd (Qa (Qe U U (Qe U U (Qf (Qc (Qd (Qd (Qa (Qb U U (Xk U U U (Qb U U (Xc 14 U (fun h1=> ?_) (fun h1=> ?_)))))))))))))
 ·exact Qi U U (Xm h1) U (Qi U U (Xm h1) U (QK U (Xm h1) U U (Qb U U (Qi U U U U (Qi U U U U (Qi U U U U (Qi U U U U (QK U U U U (Qf (Qc (Qh [3,2,1,0,8,9,23] U (Xd U (Qd (Qa (Qe U U (Qe U U (Qf (Qc (Qu (Qp (Wz (.inr U) U U U (⟨_,U,U,hS.pick [0,1,2] U⟩))))))))))))))))))))))
 have hp1:0≤page:= by omega
 refine Qo U U (Q7 h1) (Qb U U (Qo U U (Q7 h1) (Jf U U U (QW U (Q7 h1) U U (Qb U U (Xc 18 U (fun h2=> ?_) (fun h2=> ?_)))))))
 ·exact Qi U U (Xm h2) U (Qi U U (Xm h2) U (Qi U U (Xm h2) U (Qi U U (Xm h2) U (QK U (Xm h2) U U (Qf (Qc (Qh [3,2,1,0,8,9,23] U (Xd U (Qd (Qa (Qe U U (Qe U U (Qf (Qc (Qu (Qp (Wz (.inr U) U U U (⟨_,U,U,hS.pick [0,1,2] U⟩))))))))))))))))))
 have hp2:page<256:= by omega
 refine Qo U U (Q7 h2) (Qb U U (Qo U U (Q7 h2) (Qb U U (Qo U U (Q7 h2) (Qv W4 U (Z8 (hS.sp [0] U) id) U ?_)))))
 rintro _ w3 ⟨rfl,j3⟩
 replace j3:=j3.jn U U
 refine Qo U U (Q7 h2) (Xb U U (QW U (Q7 h2) U U (Qf (Qc (Qh [3,2,1,0,8,9,23] U (QT U (fun h4=> ?_) (fun h4=> ?_)))))))
 ·exact Qd (Qa (Qe U U (Qe U U (Qf (Qc (Qu (Qp (Wz (.inr U) U U U (⟨_,U,U,j3.pick [0,1,2] U⟩)))))))))
 exact absurd hok (by unfold W6; rw[Xm (by omega:0≤page∧page<256)]; simp at h4; simp [h4])
theorem G0 {w:World} {b n Fr:Nat} {L:LvD} {V:VS} {F:Th} (hS:Sat w [XX b L,XD L.sp n Fr V,F]) (hE: ∀i,YE L.tr Zg i) (ob:Bs) (page:Int) (hok:W6 L 0 page=true):
    Calls prog 33 #[ptrV b 0,intV 0,strV ob,intV page] w (Ret fun v w'=>v= .tuple #[intV (Xo L 0 (ob,page)),.bool (Vp L V 0 (ob,page))]∧Sat w' [XX b L,XD L.sp n Fr V,F]):= by
 refine Qm func33 U ntmps33 U ?_
 refine Qd (Qa (Qe U U (Qe U U (Qf (Qc (Qd (Qd (Qa (Qb U U (Xk U U U (Qb U U (Xc 14 U (fun h1=> ?_) (fun h1=> ?_)))))))))))))
 ·exact absurd hok (by unfold W6; rw[Q7 (by omega: ¬(0≤page∧page<256))]; simp)
 refine Qo U U (Q7 h1) (Qb U U (Qo U U (Q7 h1) (Jf U U U (QW U (Q7 h1) U U (Qb U U (Xc 18 U (fun h2=> ?_) (fun h2=> ?_)))))))
 ·exact absurd hok (by unfold W6; rw[Q7 (by omega: ¬(0≤page∧page<256))]; simp)
 refine Qo U U (Q7 h2) (Qb U U (Qo U U (Q7 h2) (Qb U U (Qo U U (Q7 h2) (Qv W4 U (Z8 (hS.sp [0] U) 0) U ?_)))))
 rintro _ w3 ⟨rfl,j3⟩
 replace j3:=j3.jn U U
 refine Qo U U (Q7 h2) (Xb U U (QW U (Q7 h2) U U (Qf (Qc (Qh [3,2,1,0,8,9,23] U (QT U (fun h4=> ?_) (fun h4=> ?_)))))))
 ·exact absurd hok (by unfold W6; simp at h4; simp [h4])
 refine Qs (Qc (Qd (Qa (Qb U U (Qb U U (Zo U Jw Hn Zy U U (Xa j3 Zy U U ?_)))))))
 intro kb w5 j5
 refine QG j5 U U Xf U (by rfl) (i:=0) U (by decide) ?_
 intro w6 j6; dsimp only[List.set]at j6
 replace j6:=X6 (k:=(ob,page)) j6
 refine Qf (Qc (Qh [1,0,8,9,10] U (Qd (Qa (Qb U U (Qb U U (Xw U X9 Xf (by first | exact j6.blk 0 U) (Xv U) U U ?_)))))))
 refine Qv YN U (Yy (j6.sp [1] U) hE 0 (ob,page)) U ?_
 rintro _ w7 ⟨rfl,j7⟩
 replace j7:=j7.jn U U
 refine Qe U U (Qf (Qc (Qd ?_)))
 have j8:=X1 (j7.pick [0,1,2,3] U)
 have j9:=j8.drew
 refine QE [0,1,2,3,4,5,6,7,8,9,10,11,12,13,14,15,16,17,18,19,20,21,22,23,24,25,26,27,28,29,30,31] [9] Wa (by kernel_rfl) ?_
 refine Q9 U U U (Q9 U U U (QZ U U U (fun _=>(Vx U U)) ?_))
 refine Q9 U U U (Wy 34 U (fun h10=> ?_) (fun h10=> ?_))
 ·refine QZ U U (Q0 U U (Xm h10)) (fun _=>(Ev.gd (Xl U))) ?_
  refine QZ U U (Q0 U U (Xm h10)) (fun _=>(Ev.gd (ZQ U))) ?_
  refine QZ U U (Q0 U U (Xm h10)) (fun _=>(Ev.gd (ZB U XJ))) ?_
  refine Q4 U U (Q0 U U (Xm h10)) (Ev.gd (Ql U Xy (j9.cell 0 U U))) (QZ U U (Q0 U U (Xm h10)) (fun _=>(Ev.gd (Xl U))) ?_)
  refine Xe U U (Q0 U U (Xm h10)) U U U ?_
  refine Qv GP U (Gx (j9.sp [6] U) (Xo L 0 (ob,page))) U ?_
  rintro _ w11 ⟨rfl,j11⟩
  replace j11:=j11.jn U U
  refine Xz (Xj (by kernel_rfl)) ?_
  refine QZ U U (Q0 U U (Xm h10)) (fun _=>(Ev.gd (YM U U))) ?_
  refine QZ U U U (fun _=>(JE U (Xm h10) U)) ?_
  refine Q9 U U U (Wy 43 U (fun h12=> ?_) (fun h12=> ?_))
  ·refine QZ U U (Q0 U U (Xm h12)) (fun _=>(Ev.gd (Xl U))) ?_
   refine QZ U U (Q0 U U (Xm h12)) (fun _=>(Ev.gd (YM U U))) ?_
   refine QZ U U (Q0 U U (Xm h12)) (fun _=>(Ev.gd (Xl U))) ?_
   refine Wy 46 U (fun h13=> ?_) (fun h13=> ?_)
   ·refine QC U U (QJ U U (Xm h13)) (QC U U (QJ U U (Xm h13)) (QC U U (QJ U U (Xm h13)) (QC U U (QJ U U (Xm h13)) (QC U U (QJ U U (Xm h13)) (QC U U (QJ U U (Xm h13)) (QC U U (QJ U U (Xm h13)) (QC U U (QJ U U (Xm h13)) (QC U U (QJ U U (Xm h13)) (QC U U (QJ U U (Xm h13)) (QC U U (QJ U U (Xm h13)) (QC U U (QJ U U (Xm h13)) (QZ U U (Q0 U U (Xm h12)) (fun _=>(Ev.gd (JE U (Xm h13) U))) ?_))))))))))))
    refine QZ U U U (fun _=>(JE U (Xm h12) U)) ?_
    exact XK U U U (XK U U U (VC.nil (Qc (Qh [8,9] U (Qu (Wz (.inr U) U U U (⟨_,rfl, by simp [Vp,K3, *],QX (j11.pick [1,2,3,4,5,0,7] U)⟩)))))))
   exact absurd U h13
  refine QC U U (QJ U U (Q7 h12)) (QC U U (QJ U U (Q7 h12)) (QC U U (QJ U U (Q7 h12)) (QC U U (Q6 U U) (QC U U (Q6 U U) (QC U U (Q6 U U) (QC U U (Q6 U U) (QC U U (Q6 U U) (QC U U (Q6 U U) (QC U U (Q6 U U) (QC U U (Q6 U U) (QC U U (Q6 U U) (QC U U (Q6 U U) (QC U U (Q6 U U) (QC U U (Q6 U U) (QC U U (QJ U U (Q7 h12)) (QZ U U U (fun _=>(Wm U (Q7 h12) U)) ?_))))))))))))))))
  exact XK U U U (XK U U U (VC.nil (Qc (Qh [8,9] U (Qu (Wz (.inr U) U U U (⟨_,rfl, by simp [Vp,K3, *],QX (j11.pick [1,2,3,4,5,0,7] U)⟩)))))))
 refine QC U U (QJ U U (Q7 h10)) (QC U U (QJ U U (Q7 h10)) (QC U U (QJ U U (Q7 h10)) (QC U U (QJ U U (Q7 h10)) (QC U U (QJ U U (Q7 h10)) (VC.spineNot U U (QJ U U (Q7 h10)) (QC U U (QJ U U (Q7 h10)) (QZ U U U (fun _=>(Wm U (Q7 h10) U)) ?_)))))))
 refine Q9 U U U (QC U U (QJ U U U) (QC U U (QJ U U U) (QC U U (QJ U U U) (QC U U (Q6 U U) (QC U U (Q6 U U) (QC U U (Q6 U U) (QC U U (Q6 U U) (QC U U (Q6 U U) (QC U U (Q6 U U) (QC U U (Q6 U U) (QC U U (Q6 U U) (QC U U (Q6 U U) (QC U U (Q6 U U) (QC U U (Q6 U U) (QC U U (Q6 U U) (QC U U (QJ U U U) (QZ U U U (fun _=>(Wm U U U)) ?_)))))))))))))))))
 exact XK U U U (XK U U U (VC.nil (Qc (Qh [8,9] U (Qu (Wz (.inr U) U U U (⟨_,rfl, by simp [Vp,K3, *],QX (j9.pick [0,1,2,3,4,6,7] U)⟩)))))))
theorem Lu {w:World} {b n Fr:Nat} {L:LvD} {V:VS} {F:Th} (hS:Sat w [XX b L,XD L.sp n Fr V,F]) (hE: ∀i,YE L.tr Zg i) {id:Int} {t:TrD} (ht:L.tr id=some t) (h0:id≠0) (ob:Bs) (page:Int) (hok:W6 L id page=true):
    Calls prog 33 #[ptrV b 0,intV id,strV ob,intV page] w (Ret fun v w'=>v= .tuple #[intV (Xo L id (ob,page)),.bool (Vp L V id (ob,page))]∧Sat w' [XX b L,XD L.sp n Fr V,F]):= by
 cases hx:t.lv (ob,page)with
 | none=>
  refine Qm func33 U ntmps33 U ?_
  refine Qd (Qa (Qe U U (Qe U U (Qf (Qc (Qd (Qd (Qa (Qb U U (Xk U U U (Qb U U (Xc 14 U (fun h1=> ?_) (fun h1=> ?_)))))))))))))
  ·exact absurd hok (by unfold W6; rw[Q7 (by omega: ¬(0≤page∧page<256))]; simp)
  refine Qo U U (Q7 h1) (Qb U U (Qo U U (Q7 h1) (Jf U U U (QW U (Q7 h1) U U (Qb U U (Xc 18 U (fun h2=> ?_) (fun h2=> ?_)))))))
  ·exact absurd hok (by unfold W6; rw[Q7 (by omega: ¬(0≤page∧page<256))]; simp)
  refine Qo U U (Q7 h2) (Qb U U (Qo U U (Q7 h2) (Qb U U (Qo U U (Q7 h2) (Qv W4 U (Z8 (hS.sp [0] U) id) U ?_)))))
  rintro _ w3 ⟨rfl,j3⟩
  replace j3:=j3.jn U U
  refine Qo U U (Q7 h2) (Xb U U (QW U (Q7 h2) U U (Qf (Qc (Qh [3,2,1,0,8,9,23] U (QT U (fun h4=> ?_) (fun h4=> ?_)))))))
  ·exact absurd hok (by unfold W6; simp at h4; simp [h4])
  refine Qs (Qc (Qd (Qa (Qb U U (Qb U U (Zo U Jw Hn Zy U U (Xa j3 Zy U U ?_)))))))
  intro kb w5 j5
  refine QG j5 U U Xf U (by rfl) (i:=0) U (by decide) ?_
  intro w6 j6; dsimp only[List.set]at j6
  replace j6:=X6 (k:=(ob,page)) j6
  refine Qf (Qc (Qh [1,0,8,9,10] U (Qd (Qa (Qb U U (Qb U U (Xw U X9 Xf (by first | exact j6.blk 0 U) (Xv U) U U ?_)))))))
  refine Qv YN U (Yy (j6.sp [1] U) hE id (ob,page)) U ?_
  rintro _ w7 ⟨rfl,j7⟩
  replace j7:=j7.jn U U
  refine Qe U U (Qf (Qc (Qd ?_)))
  have j8:=X1 (j7.pick [0,1,2,3] U)
  have j9:=Z3 (j8.pick [3,0,1,2,4,5,6,7] U) ht
  have j10:=j9.drew
  refine QE [0,1,2,3,4,5,6,7,8,9,10,11,12,13,14,15,16,17,18,19,20,21,22,23,24,25,26,27,28,29,30,31] [9] Wa (by kernel_rfl) ?_
  refine Q9 U U U (Q9 U U U (QZ U U U (fun _=>(Vx U U)) ?_))
  refine Q9 U U U (Wy 34 U (fun h11=> ?_) (fun h11=> ?_))
  ·refine QZ U U (Q0 U U (Xm h11)) (fun _=>(Ev.gd (Xl U))) ?_
   refine QZ U U (Q0 U U (Xm h11)) (fun _=>(Ev.gd (ZQ U))) ?_
   refine QZ U U (Q0 U U (Xm h11)) (fun _=>(Ev.gd (ZB U XJ))) ?_
   refine Q4 U U (Q0 U U (Xm h11)) (Ev.gd (Ql U Xy (j10.cell 5 U U))) (QZ U U (Q0 U U (Xm h11)) (fun _=>(Ev.gd (Xl U))) ?_)
   refine Xe U U (Q0 U U (Xm h11)) U U U ?_
   refine Qv GP U (Gx (j10.sp [10] U) (Xo L id (ob,page))) U ?_
   rintro _ w12 ⟨rfl,j12⟩
   replace j12:=j12.jn U U
   refine Xz (Xj (by kernel_rfl)) ?_
   refine QZ U U (Q0 U U (Xm h11)) (fun _=>(Ev.gd (YM U U))) ?_
   refine QZ U U U (fun _=>(JE U (Xm h11) U)) ?_
   refine Q9 U U U (Wy 43 U (fun h13=> ?_) (fun h13=> ?_))
   ·refine QZ U U (Q0 U U (Xm h13)) (fun _=>(Ev.gd (Xl U))) ?_
    refine QZ U U (Q0 U U (Xm h13)) (fun _=>(Ev.gd (YM U U))) ?_
    refine QZ U U (Q0 U U (Xm h13)) (fun _=>(Ev.gd (Xl U))) ?_
    refine Wy 46 U (fun h14=> ?_) (fun h14=> ?_)
    ·exact absurd h14 h0
    refine QZ U U (Q0 U U (Q7 h14)) (fun _=>(Ev.gd (Xl U))) ?_
    refine QZ U U (Q0 U U (Q7 h14)) (fun _=>(Ev.gd (ZQ U))) ?_
    refine QZ U U (Q0 U U (Q7 h14)) (fun _=>(Ev.gd (ZB U Zr))) ?_
    refine Q4 U U (Q0 U U (Q7 h14)) (Ev.gd (Ql U Wx (j12.cell 6 U U))) (QZ U U (Q0 U U (Q7 h14)) (fun _=>(Ev.gd (Xl U))) ?_)
    refine Q4 U U (Q0 U U (Q7 h14)) (Ev.gd (X2 (k:=id) 8 j12 keysInt underlying82 U U U JU (u:=ptrV t.ad 0) (XY ht))) (QZ U U (Q0 U U (Q7 h14)) (fun _=>(Ev.gd (ZQ U))) ?_)
    refine QZ U U (Q0 U U (Q7 h14)) (fun _=>(Ev.gd (ZB U ZE))) ?_
    refine Q4 U U (Q0 U U (Q7 h14)) (Ev.gd (Ql U WR (j12.cell 1 U U))) (Q4 U U (Q0 U U (Q7 h14)) (Ev.gd (XB U X9 Xf (j12.blk 10 U) (Xv U) U)) (Q4 U U (Q0 U U (Q7 h14)) (Ev.gd (X2 (k:=(ob,page)) 2 j12 keysKey underlying90 U U U HB (u:=(.pointer none)) (Ur hx))) (QZ U U (Q0 U U (Q7 h14)) (fun _=>(Ev.gd (RS underlying89 U U))) ?_)))
    refine QZ U U (Q0 U U (Xm h13)) (fun _=>(Ev.gd (Wm U (Q7 h14) U))) ?_
    refine QZ U U U (fun _=>(JE U (Xm h13) U)) ?_
    refine XK U U U (XK U U U (VC.nil (Qc (Qh [8,9] U (Qu (Wz (.inr U) U U U ?_))))))
    have j15:=Zw ht (j12.pick [1,2,3,4,5,0,6,7,8,9,10,11] U)
    exact⟨_,rfl, by simp [Vp,K3, *],QX (j15.pick [2,3,4,0,5,1,7] U)⟩
   refine QC U U (QJ U U (Q7 h13)) (QC U U (QJ U U (Q7 h13)) (QC U U (QJ U U (Q7 h13)) (QC U U (Q6 U U) (QC U U (Q6 U U) (QC U U (Q6 U U) (QC U U (Q6 U U) (QC U U (Q6 U U) (QC U U (Q6 U U) (QC U U (Q6 U U) (QC U U (Q6 U U) (QC U U (Q6 U U) (QC U U (Q6 U U) (QC U U (Q6 U U) (QC U U (Q6 U U) (QC U U (QJ U U (Q7 h13)) (QZ U U U (fun _=>(Wm U (Q7 h13) U)) ?_))))))))))))))))
   refine XK U U U (XK U U U (VC.nil (Qc (Qh [8,9] U (Qu (Wz (.inr U) U U U ?_))))))
   have j16:=Zw ht (j12.pick [1,2,3,4,5,0,6,7,8,9,10,11] U)
   exact⟨_,rfl, by simp [Vp,K3, *],QX (j16.pick [2,3,4,0,5,1,7] U)⟩
  refine QC U U (QJ U U (Q7 h11)) (QC U U (QJ U U (Q7 h11)) (QC U U (QJ U U (Q7 h11)) (QC U U (QJ U U (Q7 h11)) (QC U U (QJ U U (Q7 h11)) (VC.spineNot U U (QJ U U (Q7 h11)) (QC U U (QJ U U (Q7 h11)) (QZ U U U (fun _=>(Wm U (Q7 h11) U)) ?_)))))))
  refine Q9 U U U (QC U U (QJ U U U) (QC U U (QJ U U U) (QC U U (QJ U U U) (QC U U (Q6 U U) (QC U U (Q6 U U) (QC U U (Q6 U U) (QC U U (Q6 U U) (QC U U (Q6 U U) (QC U U (Q6 U U) (QC U U (Q6 U U) (QC U U (Q6 U U) (QC U U (Q6 U U) (QC U U (Q6 U U) (QC U U (Q6 U U) (QC U U (Q6 U U) (QC U U (QJ U U U) (QZ U U U (fun _=>(Wm U U U)) ?_)))))))))))))))))
  refine XK U U U (XK U U U (VC.nil (Qc (Qh [8,9] U (Qu (Wz (.inr U) U U U ?_))))))
  have j17:=Zw ht (j10.pick [0,1,2,3,4,5,6,7,8,9,10,11] U)
  exact⟨_,rfl, by simp [Vp,K3, *],QX (j17.pick [1,2,3,0,4,6,7] U)⟩
 | some x=>
  refine Qm func33 U ntmps33 U ?_
  refine Qd (Qa (Qe U U (Qe U U (Qf (Qc (Qd (Qd (Qa (Qb U U (Xk U U U (Qb U U (Xc 14 U (fun h1=> ?_) (fun h1=> ?_)))))))))))))
  ·exact absurd hok (by unfold W6; rw[Q7 (by omega: ¬(0≤page∧page<256))]; simp)
  refine Qo U U (Q7 h1) (Qb U U (Qo U U (Q7 h1) (Jf U U U (QW U (Q7 h1) U U (Qb U U (Xc 18 U (fun h2=> ?_) (fun h2=> ?_)))))))
  ·exact absurd hok (by unfold W6; rw[Q7 (by omega: ¬(0≤page∧page<256))]; simp)
  refine Qo U U (Q7 h2) (Qb U U (Qo U U (Q7 h2) (Qb U U (Qo U U (Q7 h2) (Qv W4 U (Z8 (hS.sp [0] U) id) U ?_)))))
  rintro _ w3 ⟨rfl,j3⟩
  replace j3:=j3.jn U U
  refine Qo U U (Q7 h2) (Xb U U (QW U (Q7 h2) U U (Qf (Qc (Qh [3,2,1,0,8,9,23] U (QT U (fun h4=> ?_) (fun h4=> ?_)))))))
  ·exact absurd hok (by unfold W6; simp at h4; simp [h4])
  refine Qs (Qc (Qd (Qa (Qb U U (Qb U U (Zo U Jw Hn Zy U U (Xa j3 Zy U U ?_)))))))
  intro kb w5 j5
  refine QG j5 U U Xf U (by rfl) (i:=0) U (by decide) ?_
  intro w6 j6; dsimp only[List.set]at j6
  replace j6:=X6 (k:=(ob,page)) j6
  refine Qf (Qc (Qh [1,0,8,9,10] U (Qd (Qa (Qb U U (Qb U U (Xw U X9 Xf (by first | exact j6.blk 0 U) (Xv U) U U ?_)))))))
  refine Qv YN U (Yy (j6.sp [1] U) hE id (ob,page)) U ?_
  rintro _ w7 ⟨rfl,j7⟩
  replace j7:=j7.jn U U
  refine Qe U U (Qf (Qc (Qd ?_)))
  have j8:=X1 (j7.pick [0,1,2,3] U)
  have j9:=Z3 (j8.pick [3,0,1,2,4,5,6,7] U) ht
  have j10:=j9.drew
  refine QE [0,1,2,3,4,5,6,7,8,9,10,11,12,13,14,15,16,17,18,19,20,21,22,23,24,25,26,27,28,29,30,31] [9] Wa (by kernel_rfl) ?_
  refine Q9 U U U (Q9 U U U (QZ U U U (fun _=>(Vx U U)) ?_))
  refine Q9 U U U (Wy 34 U (fun h11=> ?_) (fun h11=> ?_))
  ·refine QZ U U (Q0 U U (Xm h11)) (fun _=>(Ev.gd (Xl U))) ?_
   refine QZ U U (Q0 U U (Xm h11)) (fun _=>(Ev.gd (ZQ U))) ?_
   refine QZ U U (Q0 U U (Xm h11)) (fun _=>(Ev.gd (ZB U XJ))) ?_
   refine Q4 U U (Q0 U U (Xm h11)) (Ev.gd (Ql U Xy (j10.cell 5 U U))) (QZ U U (Q0 U U (Xm h11)) (fun _=>(Ev.gd (Xl U))) ?_)
   refine Xe U U (Q0 U U (Xm h11)) U U U ?_
   refine Qv GP U (Gx (j10.sp [10] U) (Xo L id (ob,page))) U ?_
   rintro _ w12 ⟨rfl,j12⟩
   replace j12:=j12.jn U U
   refine Xz (Xj (by kernel_rfl)) ?_
   refine QZ U U (Q0 U U (Xm h11)) (fun _=>(Ev.gd (YM U U))) ?_
   refine QZ U U U (fun _=>(JE U (Xm h11) U)) ?_
   refine Q9 U U U (Wy 43 U (fun h13=> ?_) (fun h13=> ?_))
   ·refine QZ U U (Q0 U U (Xm h13)) (fun _=>(Ev.gd (Xl U))) ?_
    refine QZ U U (Q0 U U (Xm h13)) (fun _=>(Ev.gd (YM U U))) ?_
    refine QZ U U (Q0 U U (Xm h13)) (fun _=>(Ev.gd (Xl U))) ?_
    refine Wy 46 U (fun h14=> ?_) (fun h14=> ?_)
    ·exact absurd h14 h0
    refine QZ U U (Q0 U U (Q7 h14)) (fun _=>(Ev.gd (Xl U))) ?_
    refine QZ U U (Q0 U U (Q7 h14)) (fun _=>(Ev.gd (ZQ U))) ?_
    refine QZ U U (Q0 U U (Q7 h14)) (fun _=>(Ev.gd (ZB U Zr))) ?_
    refine Q4 U U (Q0 U U (Q7 h14)) (Ev.gd (Ql U Wx (j12.cell 6 U U))) (QZ U U (Q0 U U (Q7 h14)) (fun _=>(Ev.gd (Xl U))) ?_)
    refine Q4 U U (Q0 U U (Q7 h14)) (Ev.gd (X2 (k:=id) 8 j12 keysInt underlying82 U U U JU (u:=ptrV t.ad 0) (XY ht))) (QZ U U (Q0 U U (Q7 h14)) (fun _=>(Ev.gd (ZQ U))) ?_)
    refine QZ U U (Q0 U U (Q7 h14)) (fun _=>(Ev.gd (ZB U ZE))) ?_
    refine Q4 U U (Q0 U U (Q7 h14)) (Ev.gd (Ql U WR (j12.cell 1 U U))) (Q4 U U (Q0 U U (Q7 h14)) (Ev.gd (XB U X9 Xf (j12.blk 10 U) (Xv U) U)) (Q4 U U (Q0 U U (Q7 h14)) (Ev.gd (X2 (k:=(ob,page)) 2 j12 keysKey underlying90 U U U HB (u:=(ptrV x.ad 0)) (XY hx))) (QZ U U (Q0 U U (Q7 h14)) (fun _=>(Ev.gd (MY underlying89 U U))) ?_)))
    refine QZ U U (Q0 U U (Xm h13)) (fun _=>(Ev.gd (Wm U (Q7 h14) U))) ?_
    refine QZ U U U (fun _=>(JE U (Xm h13) U)) ?_
    refine XK U U U (XK U U U (VC.nil (Qc (Qh [8,9] U (Qu (Wz (.inr U) U U U ?_))))))
    have j15:=Zw ht (j12.pick [1,2,3,4,5,0,6,7,8,9,10,11] U)
    exact⟨_,rfl, by simp [Vp,K3, *],QX (j15.pick [2,3,4,0,5,1,7] U)⟩
   refine QC U U (QJ U U (Q7 h13)) (QC U U (QJ U U (Q7 h13)) (QC U U (QJ U U (Q7 h13)) (QC U U (Q6 U U) (QC U U (Q6 U U) (QC U U (Q6 U U) (QC U U (Q6 U U) (QC U U (Q6 U U) (QC U U (Q6 U U) (QC U U (Q6 U U) (QC U U (Q6 U U) (QC U U (Q6 U U) (QC U U (Q6 U U) (QC U U (Q6 U U) (QC U U (Q6 U U) (QC U U (QJ U U (Q7 h13)) (QZ U U U (fun _=>(Wm U (Q7 h13) U)) ?_))))))))))))))))
   refine XK U U U (XK U U U (VC.nil (Qc (Qh [8,9] U (Qu (Wz (.inr U) U U U ?_))))))
   have j16:=Zw ht (j12.pick [1,2,3,4,5,0,6,7,8,9,10,11] U)
   exact⟨_,rfl, by simp [Vp,K3, *],QX (j16.pick [2,3,4,0,5,1,7] U)⟩
  refine QC U U (QJ U U (Q7 h11)) (QC U U (QJ U U (Q7 h11)) (QC U U (QJ U U (Q7 h11)) (QC U U (QJ U U (Q7 h11)) (QC U U (QJ U U (Q7 h11)) (VC.spineNot U U (QJ U U (Q7 h11)) (QC U U (QJ U U (Q7 h11)) (QZ U U U (fun _=>(Wm U (Q7 h11) U)) ?_)))))))
  refine Q9 U U U (QC U U (QJ U U U) (QC U U (QJ U U U) (QC U U (QJ U U U) (QC U U (Q6 U U) (QC U U (Q6 U U) (QC U U (Q6 U U) (QC U U (Q6 U U) (QC U U (Q6 U U) (QC U U (Q6 U U) (QC U U (Q6 U U) (QC U U (Q6 U U) (QC U U (Q6 U U) (QC U U (Q6 U U) (QC U U (Q6 U U) (QC U U (Q6 U U) (QC U U (QJ U U U) (QZ U U U (fun _=>(Wm U U U)) ?_)))))))))))))))))
  refine XK U U U (XK U U U (VC.nil (Qc (Qh [8,9] U (Qu (Wz (.inr U) U U U ?_))))))
  have j17:=Zw ht (j10.pick [0,1,2,3,4,5,6,7,8,9,10,11] U)
  exact⟨_,rfl, by simp [Vp,K3, *],QX (j17.pick [1,2,3,0,4,6,7] U)⟩
end Go.Proofs.YtkcjfoaejijdoaaGreatDoor
namespace Go.Proofs
open Proofs.Tryz
open Go.Shelf
def Tryz.tz64_ren:Go.Shelf.Ren:=⟨fun | 29=>56 | n=>n, fun | 22=>22 | 3=>3 | 4=>4 | 25=>31 | 54=>166 | 0=>0 | 5=>5 | n=>n, fun | 1=>0 | n=>n⟩
theorem Tryz.tz64:Go.Proofs.Lays7.n29 prog Tryz.tz64_ren:={
  mixed:= by kernel_rfl
  f29:=func56.trans (congrArg some (by kernel_rfl))
  t0:=underlying0
  a0:=Tryz.isAgg0
  z0:=Tryz.sizeOf0
  v0:=Tryz.zeroValue0
  i0:= by kernel_rfl
  t3:=underlying3
  a3:=Tryz.isAgg3
  z3:=Tryz.sizeOf3
  v3:=Tryz.zeroValue3
  i3:= by kernel_rfl
  t4:=underlying4
  a4:=Tryz.isAgg4
  z4:=Tryz.sizeOf4
  v4:=Tryz.zeroValue4
  i4:= by kernel_rfl
  t5:=underlying5
  a5:=Tryz.isAgg5
  z5:=Tryz.sizeOf5
  v5:=Tryz.zeroValue5
  i5:= by kernel_rfl
  t22:=underlying22
  a22:=Tryz.isAgg22
  z22:=Tryz.sizeOf22
  v22:=Tryz.zeroValue22
  i22:= by kernel_rfl
  t25:=underlying31
  a25:=Tryz.isAgg31
  z25:=Tryz.sizeOf31
  v25:=Tryz.zeroValue31
  i25:= by kernel_rfl
  t54:=underlying166
  a54:=Tryz.isAgg166
  z54:=Tryz.sizeOf166
  g1:= by kernel_rfl}
end Go.Proofs
namespace Go.Proofs.YtkcjfoaejijdoaaGreatDoor.M
open Go.RowKit Go.Sort Proofs.Tryz
def kC:RowC (Bs×Int):=⟨fun x=>[strV x.1,intV x.2],2, by decide, fun _=>rfl, fun _=>rfl⟩
def GrW (W w:World):Prop:= ∃q os,w=grow (W.drewN q) os
theorem GrW.refl (W:World):GrW W W:=⟨0, #[], by rw[grow_empty];rfl⟩
theorem GrW.trans {W w w':World} (h:GrW W w) (h':GrW w w'):GrW W w':= by
  obtain⟨q,os,rfl⟩:=h
  obtain⟨q',os',rfl⟩:=h'
  exact⟨q+q',os++os', by show grow (grow ((W.drewN q).drewN q') os) os'=_; rw[grow_grow,World.drewN_drewN]⟩
theorem GrW.drew {W:World}:GrW W W.drew:=⟨1, #[], by rw[grow_empty];rfl⟩
theorem GrW.alloc {W:World} {o:Obj}:GrW W (W.alloc o):=⟨0, #[o], by rw[alloc_eq_grow];rfl⟩
section
variable {P:Program} {n:Nat} {ops:Array Oper} {Q:Exit→Act→World→Prop} {rest:List Oper} {L:Env} {w:World} {d:Nat} {ty:TypeId} {pos:String} {aft:Array Edge}
theorem Bz {t:Nat} {x:Operand} {v:Value} {As:List Th} (hS:Sat w As) (hx:look L x=some v) {cs:List Value} (hcs:v.cells.toList=cs) (hd:Nat.blt d n=true) (hk: ∀b w',GrW w w'→Sat w' (Q8 b cs::As)→wl P n ops Q rest ((d,ptrV b 0)::L) w'):wl P n ops Q (⟨some d,.box t x,ty,pos,aft,none⟩::rest) L w:= by
  subst hcs
  refine XZ U hd (R:= fun u w'=>u=ptrV w.heap.size 0∧w'=w.alloc (.cells v.cells t)) (fun a ha=>⟨_,_,.inl ?_,rfl,rfl⟩) (fun u w' ⟨e1,e2⟩=> ?_)
  · simp [execOp,ha.eval hx,Instr.box,newVar,newRow]
  · subst e1 e2
    exact hk _ _ .alloc (hS.blk_new (Blk.new' w _ t) ((Only.refl _ _).alloc _) (Nat.le_refl _))
theorem BS {As:List Th} (hS:Sat w As) {t e size len:Nat} {z:Value} {parts:List (Nat×Operand)} {vs:List Value} (hx:Jd L (parts.map (·.2))=some vs) (hu:P.underlying t=some (.slice e)) (hi:(P.info? e).map (fun i=>(i.zero,i.size))=some (some z,size)) (hlen:Nat.ble (len*size) 1000=true) (hzs:z.cells.size=size)
    (hok:JY (len*size) ((parts.map (·.1)).map fun i=>(i*size,size)) vs=true) (hd:Nat.blt d n=true)
    (hk: ∀b w',GrW w w'→Sat w' (Jc (.slice (some ⟨b,0,none⟩) len len) len size (Hp (List.replicate len z.cells.toList).flatten ((parts.map (·.1)).map fun i=>(i*size,size)) vs)::As)→wl P n ops Q rest ((d,.slice (some ⟨b,0,none⟩) len len)::L) w'):wl P n ops Q (⟨some d,.buildSlice t len parts.toArray,ty,pos,aft,none⟩::rest) L w:= by
  obtain⟨ii,hi1,hi2⟩:=Option.map_eq_some_iff.1 hi
  simp only[Prod.mk.injEq]at hi2
  have hle:len*size≤1000:=Xv hlen
  have hzl:((Array.range (len*size)).map (z.cells[· %z.cells.size]!)).toList=(List.replicate len z.cells.toList).flatten:= by
    rw[←hzs]; exact JP z.cells len
  have hzsz:((Array.range (len*size)).map (z.cells[· %z.cells.size]!)).size=len*size:= by simp
  have hf:=UO (fun i=>some (i*size,size)) (parts.map (·.1)) ((parts.map (·.1)).map fun i=>(i*size,size)) vs ((Array.range (len*size)).map (z.cells[· %z.cells.size]!)) (by simp [Function.comp_def]) (by rw[hzsz]; exact hok)
  rw[hzl]at hf
  generalize hcs:Hp (List.replicate len z.cells.toList).flatten ((parts.map (·.1)).map fun i=>(i*size,size)) vs=cells at hf hk
  have hcl:cells.length=len*size:= by
    have hgen: ∀(pls:List (Nat×Nat)) (vs:List Value) (zz:List Value),JY zz.length pls vs=true→(Hp zz pls vs).length=zz.length:= by
      intro pls
      induction pls with
      | nil=> intro vs zz _; cases vs<;>rfl
      | cons p pls ih=>
        intro vs zz h
        cases vs with
        | nil=>rfl
        | cons v vs=>
          simp only[JY,Bool.and_eq_true]at h
          have h1:=Nat.eq_of_beq_eq_true h.1.1
          have h2:=Xv h.1.2
          have hl:(XT zz p.1 v.cells.toList).length=zz.length:=Jv (by simp [h1];omega)
          simp only[Hp]
          rw[ih vs _ (by rw[hl]; exact h.2),hl]
    have hzl2:(List.replicate len z.cells.toList).flatten.length=len*size:= by simp [hzs]
    rw[←hcs,hgen _ _ _ (by rw[hzl2]; exact hok),hzl2]
  refine XZ U hd (R:= fun v w'=>v= .slice (some ⟨w.heap.size,0,none⟩) len len∧w'=w.alloc (.cells cells.toArray e)) (fun a ha=>⟨_,_,.inl ?_,rfl,rfl⟩) ?_
  · have hzv:(zeroValue e).run P w= .ok z w:= by simp [zeroValue,typeInfo,hi1,hi2.1]
    have hso:(sizeOf e).run P w= .ok size w:= by simp [sizeOf,typeInfo,hi1,hi2.2]
    have hev:=ha.evals hx
    have hp:(parts.toArray.map fun (i,x)=>(i,a.eval x)).toList=(parts.map (·.1)).zip vs:= by
      rw[←hev]
      simp
      clear hev hx hf hcs hok
      induction parts with
      | nil=>rfl
      | cons p ps ih=> simp [ih]
    have hno: ¬(2^24<len*size):= by omega
    by_cases hz0:len*size=0
    · have hf':Instr.fill (fun i=>some (i*size,size)) #[] ((parts.map (·.1)).zip vs)=some cells.toArray:= by
        rw[hz0, show Array.range 0= #[] from rfl]at hf;simpa using hf
      simp only[execOp,Instr.buildSlice]
      have hr0:Array.range 0= #[]:=rfl
      simp [run_underlying hu,hso,hz0,newRow,hr0]
      simp at hp
      rw[hp,hf']
      simp
    · simp only[execOp,Instr.buildSlice]
      simp [run_underlying hu,hso,hz0,hno,hzv,newRow]
      simp at hp
      rw[hp,hf]
      simp
  · rintro v w' ⟨rfl,rfl⟩
    exact hk _ _ .alloc (hS.new ((Only.refl _ _).alloc _) (F':= fun k=>k∈[w.heap.size]) (A:=Jc _ _ _ _) ⟨[w.heap.size],rfl,UI (sp:=[]) (by simpa using Blk.new w cells e) (by simpa using hcl) (Nat.le_refl _) (by simpa using hcl)⟩ (fun k hk=> by simp at hk;omega))
theorem Rj {α:Type} {As:List Th} (C:RowC α) (l:List α) (hS:Sat w As) {t e len:Nat} {z:Value} {parts:List (Nat×Operand)} {vs:List Value} (hx:Jd L (parts.map (·.2))=some vs) (hu:P.underlying t=some (.slice e)) (hi:(P.info? e).map (fun i=>(i.zero,i.size))=some (some z,C.size)) (hlen:Nat.ble (len*C.size) 1000=true) (hzs:z.cells.size=C.size)
    (hok:JY (len*C.size) ((parts.map (·.1)).map fun i=>(i*C.size,C.size)) vs=true) (hl:l.length=len) (he:Hp (List.replicate len z.cells.toList).flatten ((parts.map (·.1)).map fun i=>(i*C.size,C.size)) vs=C.cells l) (hd:Nat.blt d n=true)
    (hk: ∀b w',GrW w w'→Sat w' (rowT C (.slice (some ⟨b,0,none⟩) len len) l::As)→wl P n ops Q rest ((d,.slice (some ⟨b,0,none⟩) len len)::L) w'):wl P n ops Q (⟨some d,.buildSlice t len parts.toArray,ty,pos,aft,none⟩::rest) L w:= by
  refine BS hS hx hu hi hlen hzs hok hd ?_
  intro b w' hg h
  exact hk b w' hg (h.row_cast hl.symm U he)
section
variable {P:Program} {n:Nat} {ops:Array Oper} {Q:Exit→Act→World→Prop} {rest:List Oper} {L:Env} {w:World} {d:Nat} {ty:TypeId} {pos:String} {aft:Array Edge} {t t2:TypeId} {x y:Operand}
theorem Ig {a b:BitVec 64} (hx:look L x=some (Z5 a)) (hy:look L y=some (Z5 b)):Ev P L w ⟨some d,.binOp .sub t x y t2,ty,pos,aft,none⟩ (Z5 (a -b)):=
  BE hx hy (by
    rw[IntKind.wrap_u64,BitVec.toNat_sub]
    have :=a.isLt; have :=b.isLt
    omega)
theorem EP {a b:BitVec 64} (hx:look L x=some (Z5 a)) (hy:look L y=some (Z5 b)) (hd:Nat.blt d n=true) (hk:wl P n ops Q rest ((d,Z5 (a -b))::L) w):wl P n ops Q (⟨some d,.binOp .sub t x y t2,ty,pos,aft,none⟩::rest) L w:=X8 hd (Ig hx hy) hk
end
end
