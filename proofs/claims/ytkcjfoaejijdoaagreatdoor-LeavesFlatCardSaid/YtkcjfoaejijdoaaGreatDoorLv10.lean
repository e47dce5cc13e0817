/- leaves: Byte, Begin, Sheet -/
import Derived.Test.YtkcjfoaejijdoaaGreatDoorLv9
import Derived.Shelf.Lays7
import Derived.Ground.Names7Prog
import Derived.Test.YtkcjfoaejijdoaaGreatDoorProg
import Derived.Test.YtkcjfoaejijdoaaGreatDoorSh13
import Derived.Test.YtkcjfoaejijdoaaGreatDoorCk2
set_option linter.unusedVariables false
set_option maxRecDepth 100000
set_option maxHeartbeats 1600000
namespace Go.Proofs.YtkcjfoaejijdoaaGreatDoor
open Go.RowKit M
set_option linter.unusedSectionVars false
variable [Inhabited SlW]
section
variable {L L1 L':LvD} {V V1 V':VS} {id:Int} {t t1 t':TrD} {k:KD} {x y x1:LfD} {m Fr:Nat} {a:Int}
theorem OB (hI:LvI m L V) (ht:L.tr id=some t) (hx:t.lv k=some x) (hb:y.base=x.base) (ho:y.own=x.own) (hg:Sl (Wy V y)):
    LvI m (Zs L id t k y) V∧Q8 (Zs L id t k y) V=ZA (Q8 L V) id k (Wy V y):= by
  generalize hL':Zs L id t k y=L'
  have hP:L'.pres=L.pres:= by subst hL';rfl
  have hT:L'.tr=Xz L.tr id (some {t with lv:=Xz t.lv k (some y)}):= by subst hL';rfl
  have hf: ∀q,Xw L' q=Xw L q:= fun q=> by
    rw[Hs (x:=y) hP hT ht rfl,hb,ho]
    rw[Hy (f:=Xw L) (v:=x.base) (by rw[XB ht hx];rfl),Hy (by rw[XB ht hx];rfl)]
  have e1:Q8 L' V=ZA (Q8 L V) id k (Wy V y):=YJ hP hT ht rfl fun _ _ _=>rfl
  exact⟨⟨hI.ref.fn hf, by rw[hT]; exact hI.rank.same (WZ ht rfl), by rw[e1]; exact hI.agree.put hg⟩,e1⟩
theorem TouR.step (hT:TouR L V id t k L1 V1 t1 x1) (ht:L.tr id=some t) (hI:LvI m L V):StepI m L V m 0 1 L1 V1:= by
  obtain⟨h1,h2,h3,h4,h5⟩:=hT.inv ht hI
  exact⟨h1,hT.sp, fun c q=>(h4 c q).mono (by omega), fun c q=>hT.sz ht q⟩
theorem AS (hT:TouR L V id t k L1 V1 t1 x1) (ht:L.tr id=some t) (hI:LvI m L V) {rd wr:BitVec 64} (hw: ∀j,j<64→wr.getLsbD j=false→x1.wr.getLsbD j=false):
    StepI m L V m 0 1 (Zs L1 id t1 k {x1 with rd:=rd,wr:=wr}) V1∧Q8 (Zs L1 id t1 k {x1 with rd:=rd,wr:=wr}) V1=ZA (Q8 L V) id k {Zi (Q8 L V) id k with rd:=rd,wr:=wr}:= by
  obtain⟨h1,h2,h3,h4,h5⟩:=hT.inv ht hI
  obtain⟨a1,a2⟩:=OB (y:={x1 with rd:=rd,wr:=wr}) h1 (hT.tr ht) hT.lv rfl rfl (fun j hj h=>(h1.agree id _ k _ (Zv (hT.tr ht)) (ZI hT.lv)) j hj (hw j hj h))
  refine⟨⟨a1,hT.sp, fun c q=>(h4 c q).mono (by omega), fun c q=>(hT.sz ht q).putOld (hT.tr ht) hT.lv rfl rfl⟩, ?_⟩
  rw[a2,h3,Ut]
  congr 1
  rw[←h2];rfl
def rdX (x:LfA) (a:Int):LfA:={x with rd:=x.rd ||| ((1#64<<<a.toNat)&&& ~~~x.wr)}
def N4 (c:Bs) (a:Int):UInt8:=c.getD a.toNat 0
theorem qa2 {s:Int} (ha:0≤a∧a<64):btV V s a=N4 (XT V s) a:= by unfold btV N4; rw[if_pos ha]
theorem Au (hT:TouR L V id t k L1 V1 t1 x1) (ht:L.tr id=some t) (hI:LvI m L V) (ha:0≤a∧a<64):
    StepI m L V m 0 1 (Zs L1 id t1 k {x1 with rd:=x1.rd ||| ((1#64<<<a.toNat)&&& ~~~x1.wr)}) V1∧Q8 (Zs L1 id t1 k {x1 with rd:=x1.rd ||| ((1#64<<<a.toNat)&&& ~~~x1.wr)}) V1=ZA (Q8 L V) id k (rdX (Zi (Q8 L V) id k) a)∧btV V1 x1.own a=N4 (Zi (Q8 L V) id k).own a:= by
  obtain⟨h1,h2,h3,h4,h5⟩:=hT.inv ht hI
  obtain⟨a1,a2⟩:=AS hT ht hI (rd:=x1.rd ||| ((1#64<<<a.toNat)&&& ~~~x1.wr)) (wr:=x1.wr) fun _ _ h=>h
  have e:x1.wr=(Zi (Q8 L V) id k).wr:= by rw[←h2];rfl
  have e2:x1.rd=(Zi (Q8 L V) id k).rd:= by rw[←h2];rfl
  refine⟨a1, ?_, by rw[qa2 ha,←h2];rfl⟩
  rw[a2,e,e2];rfl
theorem RankI.beg {T:Int→Option TrD} (h:RankI T m) {i p:Int} {u:TrD} (hi:1≤i) (hn:T i=none) (hp:u.parent=0∨T u.parent≠none):RankI (Xz T i (some u)) (m+1):= by
  obtain⟨h0,r,a,b⟩:=h
  refine⟨by rw[QI (by omega)]; exact h0,Vn r i (r u.parent+1), fun j=> ?_, fun j v hj=> ?_⟩
  · by_cases e:j=i
    · subst e; rw[XG]; have :=a u.parent;omega
    · rw[Zb e]; have :=a j;omega
  · have hsome: ∀q,T q≠none→Xz T i (some u) q≠none∧q≠i:= fun q hq=> by
      have :q≠i:= fun e=>hq (e▸hn)
      exact⟨by rw[QI this]; exact hq,this⟩
    by_cases e:j=i
    · subst e
      rw[Q1]at hj
      cases hj
      rcases hp with hp | hp
      · exact .inl hp
      · obtain⟨h1,h2⟩:=hsome _ hp
        exact .inr ⟨h1, by rw[XG,Zb h2];omega⟩
    · rw[QI e]at hj
      rcases b j v hj with h1 | ⟨h1,h2⟩
      · exact .inl h1
      · obtain⟨h3,h4⟩:=hsome _ h1
        exact .inr ⟨h3, by rw[Zb e,Zb h4]; exact h2⟩
def Tk (A:LvA) (id parent:Int):Int:= if id<1 then 1 else if(A.tr id).isSome=true then 5 else if DD A parent=false then 4 else 0
noncomputable def Nu (A:LvA) (id parent:Int):LvA:= if Tk A id parent=0 then{A with tr:=Xz A.tr id (some ⟨parent, fun _=>none, fun _=>false⟩)}else A
theorem Si {parent:Int}:Tk (Q8 L V) id parent=JR L id parent:= by unfold Tk JR; rw[T1]; simp [Q8]
theorem beg_fin (hI:LvI m L V) {parent:Int} {ad ml md:Nat}:StepI m L V (m+1) 0 0 (Sh L id parent ad ml md) V∧Q8 (Sh L id parent ad ml md) V=Nu (Q8 L V) id parent:= by
  unfold Nu
  rw[Si]
  unfold Sh
  by_cases he:JR L id parent=0
  · rw[if_pos he,if_pos he]
    have h1: ¬id<1:= fun q=> by unfold JR at he; rw[if_pos q]at he;omega
    have h2:L.tr id=none:= by
      unfold JR at he; rw[if_neg h1]at he
      cases q:L.tr id with
      | none=>rfl
      | some u=> rw[q]at he; simp at he
    have h3:Z8 L parent=true:= by
      unfold JR at he; rw[if_neg h1,h2]at he
      cases q:Z8 L parent with
      | true=>rfl
      | false=> rw[q]at he; simp at he
    have h4:parent=0∨L.tr parent≠none:= by
      unfold Z8 at h3
      simp only[Bool.or_eq_true,decide_eq_true_eq]at h3
      exact h3.imp_right fun q e=> by rw[e]at q; cases q
    generalize hL':({L with tr:=Xz L.tr id (some ⟨ad,ml,md,parent, fun _=>none, fun _=>false⟩)}:LvD)=L'
    have hP:L'.pres=L.pres:= by subst hL';rfl
    have hT:L'.tr=Xz L.tr id (some ⟨ad,ml,md,parent, fun _=>none, fun _=>false⟩):= by subst hL';rfl
    have hf: ∀q,Xw L' q=Xw L q:= fun q=> by
      cases q with
      | inl j=> simp [Xw,hP]
      | inr q=>
        obtain⟨i,j,o⟩:=q
        simp only[Xw,hT]
        by_cases e:i=id
        · subst e; rw[Q1,h2]
        · rw[QI e]
    have e1:Q8 L' V={Q8 L V with tr:=Xz (Q8 L V).tr id (some ⟨parent, fun _=>none, fun _=>false⟩)}:= by
      unfold Q8
      rw[hP,hT]
      congr 1
      funext i
      by_cases e:i=id
      · subst e; rw[Q1,Q1];rfl
      · rw[QI e,QI e]
    refine⟨⟨⟨hI.ref.fn hf, by rw[hT]; exact hI.rank.beg (p:=parent) (by omega) h2 h4, ?_⟩, by subst hL';rfl, fun _ q=>q, fun c q=> ?_⟩,e1⟩
    · rw[e1]
      intro i u k x hi hk
      dsimp only at hi
      by_cases e:i=id
      · subst e; rw[Q1]at hi; cases hi; cases hk
      · rw[QI e]at hi; exact hI.agree i u k x hi hk
    · obtain⟨l,a,b,d⟩:=q
      refine⟨l,a, fun k hk=>b k (by rwa [hP]at hk), fun j u k x hj hk=> ?_⟩
      rw[hT]at hj
      by_cases e:j=id
      · subst e; rw[Q1]at hj; cases hj; cases hk
      · rw[QI e]at hj; exact d j u k x hj hk
  · rw[if_neg he,if_neg he]
    exact⟨⟨⟨hI.ref,(by obtain⟨h0,r,a,b⟩:=hI.rank; exact⟨h0,r, fun i=>Nat.le_succ_of_le (a i),b⟩),hI.agree⟩,rfl, fun _ q=>q, fun _ q=>q⟩,rfl⟩
def KC (L:LvD) (id:Int) (k:KD):Bool:= match L.tr id with | none=>false | some t=>(t.lv k).isSome
def Vm (L:LvD) (V:VS) (id:Int) (k:KD):Bool:=decide (Xc L id k≠0)&&(decide (Zz V (Xc L id k)=1)&&(decide (id=0) || KC L id k))
def WV (L:LvD) (id page:Int):Bool:=decide (0≤page∧page<256)&&Z8 L id
end
theorem Aw {w:World} {m:Nat} {b n Fr:Nat} {L:LvD} {V:VS} {F:Th} (hS:Sat w [ZY b L,Zq L.sp n Fr V,F]) (hn:n≤60000000000) (ob:Bs) (a:Int) (hI:LvI m L V) (hm:m<Zp) {id:Int} {t:TrD} (ht:L.tr id=some t) (hr:0≤a∧a<16384):
    Calls Tryz.prog 12 #[ptrV b 0,intV id,strV ob,intV a] w (Ret fun v w'=> ∃L' V',v=XS (N4 (Zi (Q8 L V) id (ob,a/ 64)).own (a%64))∧StepI m L V m 0 1 L' V'∧Q8 L' V'=ZA (Q8 L V) id (ob,a/ 64) (rdX (Zi (Q8 L V) id (ob,a/ 64)) (a%64))∧Sat w' [ZY b L',Zq L'.sp (n+2) Fr V',F]):= by
  refine(qa0 hS hn (hI.rank.ends hm) ht (hI.rank.none0 ht) ob a hr).mono fun e w h=>h.mono fun v w h=> ?_
  obtain⟨L1,V1,t1,x1,hT,rfl,h⟩:=h
  obtain⟨h1,h2,h3⟩:=Au hT ht hI (by omega:0≤a%64∧a%64<64)
  exact⟨_,_, by rw[h3],h1,h2,h⟩
theorem Ax {w:World} {m:Nat} {b n Fr:Nat} {L:LvD} {V:VS} {F:Th} (hS:Sat w [ZY b L,Zq L.sp n Fr V,F]) (hn:n≤60000000000) (ob:Bs) (a:Int) (hI:LvI m L V) (hm:m<Zp) (hr:0≤a∧a<16384):
    Calls Tryz.prog 12 #[ptrV b 0,intV 0,strV ob,intV a] w (Ret fun v w'=>v=XS (N4 ((Q8 L V).pres (ob,a/ 64)) (a%64))∧Sat w' [ZY b L,Zq L.sp n Fr V,F]):= by
  refine(qa1 hS hn ob a (hI.rank.ends hm) hr).mono fun e w h=>h.mono fun v w h=> ?_
  exact⟨by rw[h.1,qa2 (by omega)];rfl,h.2⟩
theorem begI_sp {w:World} {m b n Fr:Nat} {L:LvD} {V:VS} {F:Th} (hS:Sat w [ZY b L,Zq L.sp n Fr V,F]) (hI:LvI m L V) (id parent:Int):
    Calls Tryz.prog 11 #[ptrV b 0,intV id,intV parent] w (Ret fun v w'=> ∃L',v=intV (Tk (Q8 L V) id parent)∧StepI m L V (m+1) 0 0 L' V∧Q8 L' V=Nu (Q8 L V) id parent∧Sat w' [ZY b L',Zq L'.sp n Fr V,F]):= by
  refine(qa7 (hS.split [0] [true,false,false] rfl) id parent).mono fun e w h=>h.mono fun v w h=> ?_
  obtain⟨rfl,ad,ml,md,h⟩:=h
  have h1:=h.join rfl
  obtain⟨h2,h3⟩:=beg_fin (id:=id) (parent:=parent) (ad:=ad) (ml:=ml) (md:=md) hI
  refine⟨_, by rw[Si],h2,h3, ?_⟩
  rw[h2.sp]; exact h1
theorem GH {w:World} {b n Fr:Nat} {L:LvD} {V:VS} {F:Th} (hS:Sat w [ZY b L,Zq L.sp n Fr V,F]) (hE: ∀i,Y3 L.tr Zp i) (ob:Bs) (page:Int) (hok:WV L 0 page=true):
    Calls Tryz.prog 33 #[ptrV b 0,intV 0,strV ob,intV page] w (Ret fun v w'=>v= .tuple #[intV (Xc L 0 (ob,page)),.bool (Vm L V 0 (ob,page))]∧Sat w' [ZY b L,Zq L.sp n Fr V,F]):= by
 refine Qq Tryz.func33 rfl Tryz.ntmps33 rfl ?_
 refine Qd (Qa (Qe rfl rfl (Qe rfl rfl (Qf (Qc (Qd (Qd (Qa (Qb rfl rfl (Xb rfl rfl rfl (Qb rfl rfl (QN 14 rfl (fun h1=> ?_) (fun h1=> ?_)))))))))))))
 ·exact absurd hok (by unfold WV; rw[Q0 (by omega: ¬(0≤page∧page<256))]; simp)
 refine Qj rfl rfl (Q0 h1) (Qb rfl rfl (Qj rfl rfl (Q0 h1) (JJ rfl rfl rfl (QG rfl (Q0 h1) rfl rfl (Qb rfl rfl (QN 18 rfl (fun h2=> ?_) (fun h2=> ?_)))))))
 ·exact absurd hok (by unfold WV; rw[Q0 (by omega: ¬(0≤page∧page<256))]; simp)
 refine Qj rfl rfl (Q0 h2) (Qb rfl rfl (Qj rfl rfl (Q0 h2) (Qb rfl rfl (Qj rfl rfl (Q0 h2) (Qv Hd rfl (Jd (hS.sp [0] rfl) 0) rfl ?_)))))
 rintro _ w3 ⟨rfl,hS3⟩
 replace hS3:=hS3.jn rfl rfl
 refine Qj rfl rfl (Q0 h2) (QR rfl rfl (QG rfl (Q0 h2) rfl rfl (Qf (Qc (Qi [3,2,1,0,8,9,23] rfl (QM rfl (fun h4=> ?_) (fun h4=> ?_)))))))
 ·exact absurd hok (by unfold WV; simp at h4; simp [h4])
 refine Qr (Qc (Qd (Qa (Qb rfl rfl (Qb rfl rfl (Zl rfl Yf Uh ZM rfl rfl (Xg hS3 ZM rfl rfl ?_)))))))
 intro kb w5 hS5
 clear hS3
 refine QY hS5 rfl rfl Xh rfl (by rfl) (i:=0) rfl (by decide) ?_
 intro w6 hS6; dsimp only[List.set]at hS6
 clear hS5
 replace hS6:=XM (k:=(ob,page)) hS6
 refine Qf (Qc (Qi [1,0,8,9,10] rfl (Qd (Qa (Qb rfl rfl (Qb rfl rfl ?_))))))
 refine XA rfl X9 Xh (by first | exact hS6.blk 0 rfl) (by first | decide | exact Xn rfl | (simp;done) | omega) rfl rfl ?_
 refine Qv YE rfl (Yo (hS6.sp [1] rfl) hE 0 (ob,page)) rfl ?_
 rintro _ w7 ⟨rfl,hS7⟩
 replace hS7:=hS7.jn rfl rfl
 clear hS6
 refine Qe rfl rfl (Qf (Qc (Qd ?_)))
 have hS8:=XX (hS7.pick [0,1,2,3] rfl)
 have hS9:=hS8.drew
 refine QJ [0,1,2,3,4,5,6,7,8,9,10,11,12,13,14,15,16,17,18,19,20,21,22,23,24,25,26,27,28,29,30,31] [9] Wp (by kernel_rfl) ?_
 refine QE rfl rfl rfl (QE rfl rfl rfl (QU rfl rfl rfl (fun _=>(VE rfl rfl)) ?_))
 refine QE rfl rfl rfl (Wn 34 rfl (fun h10=> ?_) (fun h10=> ?_))
 ·refine QU rfl rfl (Qy rfl rfl (QW h10)) (fun _=>(Ev.gd (Xa rfl))) ?_
  refine QU rfl rfl (Qy rfl rfl (QW h10)) (fun _=>(Ev.gd (Z7 rfl))) ?_
  refine QU rfl rfl (Qy rfl rfl (QW h10)) (fun _=>(Ev.gd (Zr rfl XF))) ?_
  refine Q9 rfl rfl (Qy rfl rfl (QW h10)) (Ev.gd (Qm rfl Xm (hS9.cell 0 rfl rfl))) (QU rfl rfl (Qy rfl rfl (QW h10)) (fun _=>(Ev.gd (Xa rfl))) ?_)
  refine Xj rfl rfl (Qy rfl rfl (QW h10)) rfl rfl rfl ?_
  refine Qv Bf rfl (GD (hS9.sp [6] rfl) (Xc L 0 (ob,page))) rfl ?_
  rintro _ w11 ⟨rfl,hS11⟩
  replace hS11:=hS11.jn rfl rfl
  clear hS9
  refine X6 (Xq (by kernel_rfl)) ?_
  refine QU rfl rfl (Qy rfl rfl (QW h10)) (fun _=>(Ev.gd (Hb rfl rfl))) ?_
  refine QU rfl rfl rfl (fun _=>(Jf rfl (QW h10) rfl)) ?_
  refine QE rfl rfl rfl (Wn 43 rfl (fun h12=> ?_) (fun h12=> ?_))
  ·refine QU rfl rfl (Qy rfl rfl (QW h12)) (fun _=>(Ev.gd (Xa rfl))) ?_
   refine QU rfl rfl (Qy rfl rfl (QW h12)) (fun _=>(Ev.gd (Hb rfl rfl))) ?_
   refine QU rfl rfl (Qy rfl rfl (QW h12)) (fun _=>(Ev.gd (Xa rfl))) ?_
   refine Wn 46 rfl (fun h13=> ?_) (fun h13=> ?_)
   ·refine Q4 rfl rfl (Q7 rfl rfl (QW h13)) (Q4 rfl rfl (Q7 rfl rfl (QW h13)) (Q4 rfl rfl (Q7 rfl rfl (QW h13)) (Q4 rfl rfl (Q7 rfl rfl (QW h13)) (Q4 rfl rfl (Q7 rfl rfl (QW h13)) (Q4 rfl rfl (Q7 rfl rfl (QW h13)) (Q4 rfl rfl (Q7 rfl rfl (QW h13)) (Q4 rfl rfl (Q7 rfl rfl (QW h13)) (Q4 rfl rfl (Q7 rfl rfl (QW h13)) (Q4 rfl rfl (Q7 rfl rfl (QW h13)) (Q4 rfl rfl (Q7 rfl rfl (QW h13)) (Q4 rfl rfl (Q7 rfl rfl (QW h13)) (QU rfl rfl (Qy rfl rfl (QW h12)) (fun _=>(Ev.gd (Jf rfl (QW h13) rfl))) ?_))))))))))))
    refine QU rfl rfl rfl (fun _=>(Jf rfl (QW h12) rfl)) ?_
    exact XN rfl rfl rfl (XN rfl rfl rfl (VC.nil (Qc (Qi [8,9] rfl (Qu (Wx (.inr rfl) rfl rfl rfl (⟨_,rfl, by simp [Vm,KC, *],Xd (hS11.pick [1,2,3,4,5,0,7] rfl)⟩)))))))
   exact absurd rfl h13
  refine Q4 rfl rfl (Q7 rfl rfl (Q0 h12)) (Q4 rfl rfl (Q7 rfl rfl (Q0 h12)) (Q4 rfl rfl (Q7 rfl rfl (Q0 h12)) (Q4 rfl rfl (Q5 rfl rfl) (Q4 rfl rfl (Q5 rfl rfl) (Q4 rfl rfl (Q5 rfl rfl) (Q4 rfl rfl (Q5 rfl rfl) (Q4 rfl rfl (Q5 rfl rfl) (Q4 rfl rfl (Q5 rfl rfl) (Q4 rfl rfl (Q5 rfl rfl) (Q4 rfl rfl (Q5 rfl rfl) (Q4 rfl rfl (Q5 rfl rfl) (Q4 rfl rfl (Q5 rfl rfl) (Q4 rfl rfl (Q5 rfl rfl) (Q4 rfl rfl (Q5 rfl rfl) (Q4 rfl rfl (Q7 rfl rfl (Q0 h12)) (QU rfl rfl rfl (fun _=>(Wa rfl (Q0 h12) rfl)) ?_))))))))))))))))
  exact XN rfl rfl rfl (XN rfl rfl rfl (VC.nil (Qc (Qi [8,9] rfl (Qu (Wx (.inr rfl) rfl rfl rfl (⟨_,rfl, by simp [Vm,KC, *],Xd (hS11.pick [1,2,3,4,5,0,7] rfl)⟩)))))))
 refine Q4 rfl rfl (Q7 rfl rfl (Q0 h10)) (Q4 rfl rfl (Q7 rfl rfl (Q0 h10)) (Q4 rfl rfl (Q7 rfl rfl (Q0 h10)) (Q4 rfl rfl (Q7 rfl rfl (Q0 h10)) (Q4 rfl rfl (Q7 rfl rfl (Q0 h10)) (VC.spineNot rfl rfl (Q7 rfl rfl (Q0 h10)) (Q4 rfl rfl (Q7 rfl rfl (Q0 h10)) (QU rfl rfl rfl (fun _=>(Wa rfl (Q0 h10) rfl)) ?_)))))))
 refine QE rfl rfl rfl (Q4 rfl rfl (Q7 rfl rfl rfl) (Q4 rfl rfl (Q7 rfl rfl rfl) (Q4 rfl rfl (Q7 rfl rfl rfl) (Q4 rfl rfl (Q5 rfl rfl) (Q4 rfl rfl (Q5 rfl rfl) (Q4 rfl rfl (Q5 rfl rfl) (Q4 rfl rfl (Q5 rfl rfl) (Q4 rfl rfl (Q5 rfl rfl) (Q4 rfl rfl (Q5 rfl rfl) (Q4 rfl rfl (Q5 rfl rfl) (Q4 rfl rfl (Q5 rfl rfl) (Q4 rfl rfl (Q5 rfl rfl) (Q4 rfl rfl (Q5 rfl rfl) (Q4 rfl rfl (Q5 rfl rfl) (Q4 rfl rfl (Q5 rfl rfl) (Q4 rfl rfl (Q7 rfl rfl rfl) (QU rfl rfl rfl (fun _=>(Wa rfl rfl rfl)) ?_)))))))))))))))))
 exact XN rfl rfl rfl (XN rfl rfl rfl (VC.nil (Qc (Qi [8,9] rfl (Qu (Wx (.inr rfl) rfl rfl rfl (⟨_,rfl, by simp [Vm,KC, *],Xd (hS9.pick [0,1,2,3,4,6,7] rfl)⟩)))))))
theorem Ei {w:World} {b n Fr:Nat} {L:LvD} {V:VS} {F:Th} (hS:Sat w [ZY b L,Zq L.sp n Fr V,F]) (hE: ∀i,Y3 L.tr Zp i) {id:Int} {t:TrD} (ht:L.tr id=some t) (h0:id≠0) (ob:Bs) (page:Int) (hok:WV L id page=true):
    Calls Tryz.prog 33 #[ptrV b 0,intV id,strV ob,intV page] w (Ret fun v w'=>v= .tuple #[intV (Xc L id (ob,page)),.bool (Vm L V id (ob,page))]∧Sat w' [ZY b L,Zq L.sp n Fr V,F]):= by
 cases hx:t.lv (ob,page)with
 | none=>
  refine Qq Tryz.func33 rfl Tryz.ntmps33 rfl ?_
  refine Qd (Qa (Qe rfl rfl (Qe rfl rfl (Qf (Qc (Qd (Qd (Qa (Qb rfl rfl (Xb rfl rfl rfl (Qb rfl rfl (QN 14 rfl (fun h1=> ?_) (fun h1=> ?_)))))))))))))
  ·exact absurd hok (by unfold WV; rw[Q0 (by omega: ¬(0≤page∧page<256))]; simp)
  refine Qj rfl rfl (Q0 h1) (Qb rfl rfl (Qj rfl rfl (Q0 h1) (JJ rfl rfl rfl (QG rfl (Q0 h1) rfl rfl (Qb rfl rfl (QN 18 rfl (fun h2=> ?_) (fun h2=> ?_)))))))
  ·exact absurd hok (by unfold WV; rw[Q0 (by omega: ¬(0≤page∧page<256))]; simp)
  refine Qj rfl rfl (Q0 h2) (Qb rfl rfl (Qj rfl rfl (Q0 h2) (Qb rfl rfl (Qj rfl rfl (Q0 h2) (Qv Hd rfl (Jd (hS.sp [0] rfl) id) rfl ?_)))))
  rintro _ w3 ⟨rfl,hS3⟩
  replace hS3:=hS3.jn rfl rfl
  refine Qj rfl rfl (Q0 h2) (QR rfl rfl (QG rfl (Q0 h2) rfl rfl (Qf (Qc (Qi [3,2,1,0,8,9,23] rfl (QM rfl (fun h4=> ?_) (fun h4=> ?_)))))))
  ·exact absurd hok (by unfold WV; simp at h4; simp [h4])
  refine Qr (Qc (Qd (Qa (Qb rfl rfl (Qb rfl rfl (Zl rfl Yf Uh ZM rfl rfl (Xg hS3 ZM rfl rfl ?_)))))))
  intro kb w5 hS5
  clear hS3
  refine QY hS5 rfl rfl Xh rfl (by rfl) (i:=0) rfl (by decide) ?_
  intro w6 hS6; dsimp only[List.set]at hS6
  clear hS5
  replace hS6:=XM (k:=(ob,page)) hS6
  refine Qf (Qc (Qi [1,0,8,9,10] rfl (Qd (Qa (Qb rfl rfl (Qb rfl rfl ?_))))))
  refine XA rfl X9 Xh (by first | exact hS6.blk 0 rfl) (by first | decide | exact Xn rfl | (simp;done) | omega) rfl rfl ?_
  refine Qv YE rfl (Yo (hS6.sp [1] rfl) hE id (ob,page)) rfl ?_
  rintro _ w7 ⟨rfl,hS7⟩
  replace hS7:=hS7.jn rfl rfl
  clear hS6
  refine Qe rfl rfl (Qf (Qc (Qd ?_)))
  have hS8:=XX (hS7.pick [0,1,2,3] rfl)
  have hS9:=ZE (hS8.pick [3,0,1,2,4,5,6,7] rfl) ht
  have hS10:=hS9.drew
  refine QJ [0,1,2,3,4,5,6,7,8,9,10,11,12,13,14,15,16,17,18,19,20,21,22,23,24,25,26,27,28,29,30,31] [9] Wp (by kernel_rfl) ?_
  refine QE rfl rfl rfl (QE rfl rfl rfl (QU rfl rfl rfl (fun _=>(VE rfl rfl)) ?_))
  refine QE rfl rfl rfl (Wn 34 rfl (fun h11=> ?_) (fun h11=> ?_))
  ·refine QU rfl rfl (Qy rfl rfl (QW h11)) (fun _=>(Ev.gd (Xa rfl))) ?_
   refine QU rfl rfl (Qy rfl rfl (QW h11)) (fun _=>(Ev.gd (Z7 rfl))) ?_
   refine QU rfl rfl (Qy rfl rfl (QW h11)) (fun _=>(Ev.gd (Zr rfl XF))) ?_
   refine Q9 rfl rfl (Qy rfl rfl (QW h11)) (Ev.gd (Qm rfl Xm (hS10.cell 5 rfl rfl))) (QU rfl rfl (Qy rfl rfl (QW h11)) (fun _=>(Ev.gd (Xa rfl))) ?_)
   refine Xj rfl rfl (Qy rfl rfl (QW h11)) rfl rfl rfl ?_
   refine Qv Bf rfl (GD (hS10.sp [10] rfl) (Xc L id (ob,page))) rfl ?_
   rintro _ w12 ⟨rfl,hS12⟩
   replace hS12:=hS12.jn rfl rfl
   clear hS10
   refine X6 (Xq (by kernel_rfl)) ?_
   refine QU rfl rfl (Qy rfl rfl (QW h11)) (fun _=>(Ev.gd (Hb rfl rfl))) ?_
   refine QU rfl rfl rfl (fun _=>(Jf rfl (QW h11) rfl)) ?_
   refine QE rfl rfl rfl (Wn 43 rfl (fun h13=> ?_) (fun h13=> ?_))
   ·refine QU rfl rfl (Qy rfl rfl (QW h13)) (fun _=>(Ev.gd (Xa rfl))) ?_
    refine QU rfl rfl (Qy rfl rfl (QW h13)) (fun _=>(Ev.gd (Hb rfl rfl))) ?_
    refine QU rfl rfl (Qy rfl rfl (QW h13)) (fun _=>(Ev.gd (Xa rfl))) ?_
    refine Wn 46 rfl (fun h14=> ?_) (fun h14=> ?_)
    ·exact absurd h14 h0
    refine QU rfl rfl (Qy rfl rfl (Q0 h14)) (fun _=>(Ev.gd (Xa rfl))) ?_
    refine QU rfl rfl (Qy rfl rfl (Q0 h14)) (fun _=>(Ev.gd (Z7 rfl))) ?_
    refine QU rfl rfl (Qy rfl rfl (Q0 h14)) (fun _=>(Ev.gd (Zr rfl Wu))) ?_
    refine Q9 rfl rfl (Qy rfl rfl (Q0 h14)) (Ev.gd (Qm rfl Y4 (hS12.cell 6 rfl rfl))) (QU rfl rfl (Qy rfl rfl (Q0 h14)) (fun _=>(Ev.gd (Xa rfl))) ?_)
    refine Q9 rfl rfl (Qy rfl rfl (Q0 h14)) (Ev.gd (Xx (k:=id) 8 hS12 keysInt Tryz.underlying82 rfl rfl rfl Hv (u:=ptrV t.ad 0) (Zg ht))) (QU rfl rfl (Qy rfl rfl (Q0 h14)) (fun _=>(Ev.gd (Z7 rfl))) ?_)
    refine QU rfl rfl (Qy rfl rfl (Q0 h14)) (fun _=>(Ev.gd (Zr rfl Wd))) ?_
    refine Q9 rfl rfl (Qy rfl rfl (Q0 h14)) (Ev.gd (Qm rfl JH (hS12.cell 1 rfl rfl))) (Q9 rfl rfl (Qy rfl rfl (Q0 h14)) (Ev.gd (XE rfl X9 Xh (hS12.blk 10 rfl) (Xn rfl) rfl)) (Q9 rfl rfl (Qy rfl rfl (Q0 h14)) (Ev.gd (Xx (k:=(ob,page)) 2 hS12 keysKey Tryz.underlying90 rfl rfl rfl HI (u:=(.pointer none)) (TE hx))) (QU rfl rfl (Qy rfl rfl (Q0 h14)) (fun _=>(Ev.gd (Gc Tryz.underlying89 rfl rfl))) ?_)))
    refine QU rfl rfl (Qy rfl rfl (QW h13)) (fun _=>(Ev.gd (Wa rfl (Q0 h14) rfl))) ?_
    refine QU rfl rfl rfl (fun _=>(Jf rfl (QW h13) rfl)) ?_
    refine XN rfl rfl rfl (XN rfl rfl rfl (VC.nil (Qc (Qi [8,9] rfl (Qu (Wx (.inr rfl) rfl rfl rfl ?_))))))
    have hS15:=Zm ht (hS12.pick [1,2,3,4,5,0,6,7,8,9,10,11] rfl)
    exact⟨_,rfl, by simp [Vm,KC, *],Xd (hS15.pick [2,3,4,0,5,1,7] rfl)⟩
   refine Q4 rfl rfl (Q7 rfl rfl (Q0 h13)) (Q4 rfl rfl (Q7 rfl rfl (Q0 h13)) (Q4 rfl rfl (Q7 rfl rfl (Q0 h13)) (Q4 rfl rfl (Q5 rfl rfl) (Q4 rfl rfl (Q5 rfl rfl) (Q4 rfl rfl (Q5 rfl rfl) (Q4 rfl rfl (Q5 rfl rfl) (Q4 rfl rfl (Q5 rfl rfl) (Q4 rfl rfl (Q5 rfl rfl) (Q4 rfl rfl (Q5 rfl rfl) (Q4 rfl rfl (Q5 rfl rfl) (Q4 rfl rfl (Q5 rfl rfl) (Q4 rfl rfl (Q5 rfl rfl) (Q4 rfl rfl (Q5 rfl rfl) (Q4 rfl rfl (Q5 rfl rfl) (Q4 rfl rfl (Q7 rfl rfl (Q0 h13)) (QU rfl rfl rfl (fun _=>(Wa rfl (Q0 h13) rfl)) ?_))))))))))))))))
   refine XN rfl rfl rfl (XN rfl rfl rfl (VC.nil (Qc (Qi [8,9] rfl (Qu (Wx (.inr rfl) rfl rfl rfl ?_))))))
   have hS16:=Zm ht (hS12.pick [1,2,3,4,5,0,6,7,8,9,10,11] rfl)
   exact⟨_,rfl, by simp [Vm,KC, *],Xd (hS16.pick [2,3,4,0,5,1,7] rfl)⟩
  refine Q4 rfl rfl (Q7 rfl rfl (Q0 h11)) (Q4 rfl rfl (Q7 rfl rfl (Q0 h11)) (Q4 rfl rfl (Q7 rfl rfl (Q0 h11)) (Q4 rfl rfl (Q7 rfl rfl (Q0 h11)) (Q4 rfl rfl (Q7 rfl rfl (Q0 h11)) (VC.spineNot rfl rfl (Q7 rfl rfl (Q0 h11)) (Q4 rfl rfl (Q7 rfl rfl (Q0 h11)) (QU rfl rfl rfl (fun _=>(Wa rfl (Q0 h11) rfl)) ?_)))))))
  refine QE rfl rfl rfl (Q4 rfl rfl (Q7 rfl rfl rfl) (Q4 rfl rfl (Q7 rfl rfl rfl) (Q4 rfl rfl (Q7 rfl rfl rfl) (Q4 rfl rfl (Q5 rfl rfl) (Q4 rfl rfl (Q5 rfl rfl) (Q4 rfl rfl (Q5 rfl rfl) (Q4 rfl rfl (Q5 rfl rfl) (Q4 rfl rfl (Q5 rfl rfl) (Q4 rfl rfl (Q5 rfl rfl) (Q4 rfl rfl (Q5 rfl rfl) (Q4 rfl rfl (Q5 rfl rfl) (Q4 rfl rfl (Q5 rfl rfl) (Q4 rfl rfl (Q5 rfl rfl) (Q4 rfl rfl (Q5 rfl rfl) (Q4 rfl rfl (Q5 rfl rfl) (Q4 rfl rfl (Q7 rfl rfl rfl) (QU rfl rfl rfl (fun _=>(Wa rfl rfl rfl)) ?_)))))))))))))))))
  refine XN rfl rfl rfl (XN rfl rfl rfl (VC.nil (Qc (Qi [8,9] rfl (Qu (Wx (.inr rfl) rfl rfl rfl ?_))))))
  have hS17:=Zm ht (hS10.pick [0,1,2,3,4,5,6,7,8,9,10,11] rfl)
  exact⟨_,rfl, by simp [Vm,KC, *],Xd (hS17.pick [1,2,3,0,4,6,7] rfl)⟩
 | some x=>
  refine Qq Tryz.func33 rfl Tryz.ntmps33 rfl ?_
  refine Qd (Qa (Qe rfl rfl (Qe rfl rfl (Qf (Qc (Qd (Qd (Qa (Qb rfl rfl (Xb rfl rfl rfl (Qb rfl rfl (QN 14 rfl (fun h1=> ?_) (fun h1=> ?_)))))))))))))
  ·exact absurd hok (by unfold WV; rw[Q0 (by omega: ¬(0≤page∧page<256))]; simp)
  refine Qj rfl rfl (Q0 h1) (Qb rfl rfl (Qj rfl rfl (Q0 h1) (JJ rfl rfl rfl (QG rfl (Q0 h1) rfl rfl (Qb rfl rfl (QN 18 rfl (fun h2=> ?_) (fun h2=> ?_)))))))
  ·exact absurd hok (by unfold WV; rw[Q0 (by omega: ¬(0≤page∧page<256))]; simp)
  refine Qj rfl rfl (Q0 h2) (Qb rfl rfl (Qj rfl rfl (Q0 h2) (Qb rfl rfl (Qj rfl rfl (Q0 h2) (Qv Hd rfl (Jd (hS.sp [0] rfl) id) rfl ?_)))))
  rintro _ w3 ⟨rfl,hS3⟩
  replace hS3:=hS3.jn rfl rfl
  refine Qj rfl rfl (Q0 h2) (QR rfl rfl (QG rfl (Q0 h2) rfl rfl (Qf (Qc (Qi [3,2,1,0,8,9,23] rfl (QM rfl (fun h4=> ?_) (fun h4=> ?_)))))))
  ·exact absurd hok (by unfold WV; simp at h4; simp [h4])
  refine Qr (Qc (Qd (Qa (Qb rfl rfl (Qb rfl rfl (Zl rfl Yf Uh ZM rfl rfl (Xg hS3 ZM rfl rfl ?_)))))))
  intro kb w5 hS5
  clear hS3
  refine QY hS5 rfl rfl Xh rfl (by rfl) (i:=0) rfl (by decide) ?_
  intro w6 hS6; dsimp only[List.set]at hS6
  clear hS5
  replace hS6:=XM (k:=(ob,page)) hS6
  refine Qf (Qc (Qi [1,0,8,9,10] rfl (Qd (Qa (Qb rfl rfl (Qb rfl rfl ?_))))))
  refine XA rfl X9 Xh (by first | exact hS6.blk 0 rfl) (by first | decide | exact Xn rfl | (simp;done) | omega) rfl rfl ?_
  refine Qv YE rfl (Yo (hS6.sp [1] rfl) hE id (ob,page)) rfl ?_
  rintro _ w7 ⟨rfl,hS7⟩
  replace hS7:=hS7.jn rfl rfl
  clear hS6
  refine Qe rfl rfl (Qf (Qc (Qd ?_)))
  have hS8:=XX (hS7.pick [0,1,2,3] rfl)
  have hS9:=ZE (hS8.pick [3,0,1,2,4,5,6,7] rfl) ht
  have hS10:=hS9.drew
  refine QJ [0,1,2,3,4,5,6,7,8,9,10,11,12,13,14,15,16,17,18,19,20,21,22,23,24,25,26,27,28,29,30,31] [9] Wp (by kernel_rfl) ?_
  refine QE rfl rfl rfl (QE rfl rfl rfl (QU rfl rfl rfl (fun _=>(VE rfl rfl)) ?_))
  refine QE rfl rfl rfl (Wn 34 rfl (fun h11=> ?_) (fun h11=> ?_))
  ·refine QU rfl rfl (Qy rfl rfl (QW h11)) (fun _=>(Ev.gd (Xa rfl))) ?_
   refine QU rfl rfl (Qy rfl rfl (QW h11)) (fun _=>(Ev.gd (Z7 rfl))) ?_
   refine QU rfl rfl (Qy rfl rfl (QW h11)) (fun _=>(Ev.gd (Zr rfl XF))) ?_
   refine Q9 rfl rfl (Qy rfl rfl (QW h11)) (Ev.gd (Qm rfl Xm (hS10.cell 5 rfl rfl))) (QU rfl rfl (Qy rfl rfl (QW h11)) (fun _=>(Ev.gd (Xa rfl))) ?_)
   refine Xj rfl rfl (Qy rfl rfl (QW h11)) rfl rfl rfl ?_
   refine Qv Bf rfl (GD (hS10.sp [10] rfl) (Xc L id (ob,page))) rfl ?_
   rintro _ w12 ⟨rfl,hS12⟩
   replace hS12:=hS12.jn rfl rfl
   clear hS10
   refine X6 (Xq (by kernel_rfl)) ?_
   refine QU rfl rfl (Qy rfl rfl (QW h11)) (fun _=>(Ev.gd (Hb rfl rfl))) ?_
   refine QU rfl rfl rfl (fun _=>(Jf rfl (QW h11) rfl)) ?_
   refine QE rfl rfl rfl (Wn 43 rfl (fun h13=> ?_) (fun h13=> ?_))
   ·refine QU rfl rfl (Qy rfl rfl (QW h13)) (fun _=>(Ev.gd (Xa rfl))) ?_
    refine QU rfl rfl (Qy rfl rfl (QW h13)) (fun _=>(Ev.gd (Hb rfl rfl))) ?_
    refine QU rfl rfl (Qy rfl rfl (QW h13)) (fun _=>(Ev.gd (Xa rfl))) ?_
    refine Wn 46 rfl (fun h14=> ?_) (fun h14=> ?_)
    ·exact absurd h14 h0
    refine QU rfl rfl (Qy rfl rfl (Q0 h14)) (fun _=>(Ev.gd (Xa rfl))) ?_
    refine QU rfl rfl (Qy rfl rfl (Q0 h14)) (fun _=>(Ev.gd (Z7 rfl))) ?_
    refine QU rfl rfl (Qy rfl rfl (Q0 h14)) (fun _=>(Ev.gd (Zr rfl Wu))) ?_
    refine Q9 rfl rfl (Qy rfl rfl (Q0 h14)) (Ev.gd (Qm rfl Y4 (hS12.cell 6 rfl rfl))) (QU rfl rfl (Qy rfl rfl (Q0 h14)) (fun _=>(Ev.gd (Xa rfl))) ?_)
    refine Q9 rfl rfl (Qy rfl rfl (Q0 h14)) (Ev.gd (Xx (k:=id) 8 hS12 keysInt Tryz.underlying82 rfl rfl rfl Hv (u:=ptrV t.ad 0) (Zg ht))) (QU rfl rfl (Qy rfl rfl (Q0 h14)) (fun _=>(Ev.gd (Z7 rfl))) ?_)
    refine QU rfl rfl (Qy rfl rfl (Q0 h14)) (fun _=>(Ev.gd (Zr rfl Wd))) ?_
    refine Q9 rfl rfl (Qy rfl rfl (Q0 h14)) (Ev.gd (Qm rfl JH (hS12.cell 1 rfl rfl))) (Q9 rfl rfl (Qy rfl rfl (Q0 h14)) (Ev.gd (XE rfl X9 Xh (hS12.blk 10 rfl) (Xn rfl) rfl)) (Q9 rfl rfl (Qy rfl rfl (Q0 h14)) (Ev.gd (Xx (k:=(ob,page)) 2 hS12 keysKey Tryz.underlying90 rfl rfl rfl HI (u:=(ptrV x.ad 0)) (Zg hx))) (QU rfl rfl (Qy rfl rfl (Q0 h14)) (fun _=>(Ev.gd (TW Tryz.underlying89 rfl rfl))) ?_)))
    refine QU rfl rfl (Qy rfl rfl (QW h13)) (fun _=>(Ev.gd (Wa rfl (Q0 h14) rfl))) ?_
    refine QU rfl rfl rfl (fun _=>(Jf rfl (QW h13) rfl)) ?_
    refine XN rfl rfl rfl (XN rfl rfl rfl (VC.nil (Qc (Qi [8,9] rfl (Qu (Wx (.inr rfl) rfl rfl rfl ?_))))))
    have hS15:=Zm ht (hS12.pick [1,2,3,4,5,0,6,7,8,9,10,11] rfl)
    exact⟨_,rfl, by simp [Vm,KC, *],Xd (hS15.pick [2,3,4,0,5,1,7] rfl)⟩
   refine Q4 rfl rfl (Q7 rfl rfl (Q0 h13)) (Q4 rfl rfl (Q7 rfl rfl (Q0 h13)) (Q4 rfl rfl (Q7 rfl rfl (Q0 h13)) (Q4 rfl rfl (Q5 rfl rfl) (Q4 rfl rfl (Q5 rfl rfl) (Q4 rfl rfl (Q5 rfl rfl) (Q4 rfl rfl (Q5 rfl rfl) (Q4 rfl rfl (Q5 rfl rfl) (Q4 rfl rfl (Q5 rfl rfl) (Q4 rfl rfl (Q5 rfl rfl) (Q4 rfl rfl (Q5 rfl rfl) (Q4 rfl rfl (Q5 rfl rfl) (Q4 rfl rfl (Q5 rfl rfl) (Q4 rfl rfl (Q5 rfl rfl) (Q4 rfl rfl (Q5 rfl rfl) (Q4 rfl rfl (Q7 rfl rfl (Q0 h13)) (QU rfl rfl rfl (fun _=>(Wa rfl (Q0 h13) rfl)) ?_))))))))))))))))
   refine XN rfl rfl rfl (XN rfl rfl rfl (VC.nil (Qc (Qi [8,9] rfl (Qu (Wx (.inr rfl) rfl rfl rfl ?_))))))
   have hS16:=Zm ht (hS12.pick [1,2,3,4,5,0,6,7,8,9,10,11] rfl)
   exact⟨_,rfl, by simp [Vm,KC, *],Xd (hS16.pick [2,3,4,0,5,1,7] rfl)⟩
  refine Q4 rfl rfl (Q7 rfl rfl (Q0 h11)) (Q4 rfl rfl (Q7 rfl rfl (Q0 h11)) (Q4 rfl rfl (Q7 rfl rfl (Q0 h11)) (Q4 rfl rfl (Q7 rfl rfl (Q0 h11)) (Q4 rfl rfl (Q7 rfl rfl (Q0 h11)) (VC.spineNot rfl rfl (Q7 rfl rfl (Q0 h11)) (Q4 rfl rfl (Q7 rfl rfl (Q0 h11)) (QU rfl rfl rfl (fun _=>(Wa rfl (Q0 h11) rfl)) ?_)))))))
  refine QE rfl rfl rfl (Q4 rfl rfl (Q7 rfl rfl rfl) (Q4 rfl rfl (Q7 rfl rfl rfl) (Q4 rfl rfl (Q7 rfl rfl rfl) (Q4 rfl rfl (Q5 rfl rfl) (Q4 rfl rfl (Q5 rfl rfl) (Q4 rfl rfl (Q5 rfl rfl) (Q4 rfl rfl (Q5 rfl rfl) (Q4 rfl rfl (Q5 rfl rfl) (Q4 rfl rfl (Q5 rfl rfl) (Q4 rfl rfl (Q5 rfl rfl) (Q4 rfl rfl (Q5 rfl rfl) (Q4 rfl rfl (Q5 rfl rfl) (Q4 rfl rfl (Q5 rfl rfl) (Q4 rfl rfl (Q5 rfl rfl) (Q4 rfl rfl (Q5 rfl rfl) (Q4 rfl rfl (Q7 rfl rfl rfl) (QU rfl rfl rfl (fun _=>(Wa rfl rfl rfl)) ?_)))))))))))))))))
  refine XN rfl rfl rfl (XN rfl rfl rfl (VC.nil (Qc (Qi [8,9] rfl (Qu (Wx (.inr rfl) rfl rfl rfl ?_))))))
  have hS17:=Zm ht (hS10.pick [0,1,2,3,4,5,6,7,8,9,10,11] rfl)
  exact⟨_,rfl, by simp [Vm,KC, *],Xd (hS17.pick [1,2,3,0,4,6,7] rfl)⟩
end Go.Proofs.YtkcjfoaejijdoaaGreatDoor
namespace Go.Proofs
open Go.Shelf
def Tryz.tz64_ren:Go.Shelf.Ren:=⟨fun | 29=>56 | n=>n, fun | 22=>22 | 3=>3 | 4=>4 | 25=>31 | 54=>166 | 0=>0 | 5=>5 | n=>n, fun | 1=>0 | n=>n⟩
theorem Tryz.tz64:Go.Proofs.Lays7.n29 Tryz.prog Tryz.tz64_ren:={
  mixed:= by kernel_rfl
  f29:=Tryz.func56.trans (congrArg some (by kernel_rfl))
  t0:=Tryz.underlying0
  a0:=Tryz.isAgg0
  z0:=Tryz.sizeOf0
  v0:=Tryz.zeroValue0
  i0:= by kernel_rfl
  t3:=Tryz.underlying3
  a3:=Tryz.isAgg3
  z3:=Tryz.sizeOf3
  v3:=Tryz.zeroValue3
  i3:= by kernel_rfl
  t4:=Tryz.underlying4
  a4:=Tryz.isAgg4
  z4:=Tryz.sizeOf4
  v4:=Tryz.zeroValue4
  i4:= by kernel_rfl
  t5:=Tryz.underlying5
  a5:=Tryz.isAgg5
  z5:=Tryz.sizeOf5
  v5:=Tryz.zeroValue5
  i5:= by kernel_rfl
  t22:=Tryz.underlying22
  a22:=Tryz.isAgg22
  z22:=Tryz.sizeOf22
  v22:=Tryz.zeroValue22
  i22:= by kernel_rfl
  t25:=Tryz.underlying31
  a25:=Tryz.isAgg31
  z25:=Tryz.sizeOf31
  v25:=Tryz.zeroValue31
  i25:= by kernel_rfl
  t54:=Tryz.underlying166
  a54:=Tryz.isAgg166
  z54:=Tryz.sizeOf166
  g1:= by kernel_rfl}
end Go.Proofs
namespace Go.Proofs.YtkcjfoaejijdoaaGreatDoor.M
open Go.RowKit Go.Sort
def kC:RowC (Bs×Int):=⟨fun x=>[strV x.1,intV x.2],2, by decide, fun _=>rfl, fun _=>rfl⟩
def GrW (W w:World):Prop:= ∃q os,w=grow (W.drewN q) os
theorem GrW.refl (W:World):GrW W W:=⟨0, #[], by rw[grow_empty];rfl⟩
theorem GrW.trans {W w w':World} (h:GrW W w) (h':GrW w w'):GrW W w':= by
  obtain⟨q,os,rfl⟩:=h
  obtain⟨q',os',rfl⟩:=h'
  exact⟨q+q',os++os', by show grow (grow ((W.drewN q).drewN q') os) os'=_; rw[grow_grow,World.drewN_drewN]⟩
theorem GrW.drew {W:World}:GrW W W.drew:=⟨1, #[], by rw[grow_empty];rfl⟩
theorem GrW.alloc {W:World} {o:Obj}:GrW W (W.alloc o):=⟨0, #[o], by rw[alloc_eq_grow];rfl⟩
section
variable {P:Program} {n:Nat} {ops:Array Oper} {Q:Exit→Act→World→Prop} {rest:List Oper} {L:Env} {w:World} {d:Nat} {ty:TypeId} {pos:String} {aft:Array Edge}
theorem BI {t:Nat} {x:Operand} {v:Value} {As:List Th} (hS:Sat w As) (hx:look L x=some v) {cs:List Value} (hcs:v.cells.toList=cs) (hd:Nat.blt d n=true) (hk: ∀b w',GrW w w'→Sat w' (QF b cs::As)→wl P n ops Q rest ((d,ptrV b 0)::L) w'):wl P n ops Q (⟨some d,.box t x,ty,pos,aft,none⟩::rest) L w:= by
  subst hcs
  refine XR rfl hd (R:= fun u w'=>u=ptrV w.heap.size 0∧w'=w.alloc (.cells v.cells t)) (fun a ha=>⟨_,_,.inl ?_,rfl,rfl⟩) (fun u w' ⟨e1,e2⟩=> ?_)
  · simp [execOp,ha.eval hx,Instr.box,newVar,newRow]
  · subst e1 e2
    exact hk _ _ .alloc (hS.blk_new (Blk.new' w _ t) ((Only.refl _ _).alloc _) (Nat.le_refl _))
theorem D4 {As:List Th} (hS:Sat w As) {t e size len:Nat} {z:Value} {parts:List (Nat×Operand)} {vs:List Value} (hx:WP L (parts.map (·.2))=some vs) (hu:P.underlying t=some (.slice e)) (hi:(P.info? e).map (fun i=>(i.zero,i.size))=some (some z,size)) (hlen:Nat.ble (len*size) 1000=true) (hzs:z.cells.size=size)
    (hok:JP (len*size) ((parts.map (·.1)).map fun i=>(i*size,size)) vs=true) (hd:Nat.blt d n=true)
    (hk: ∀b w',GrW w w'→Sat w' (Ja (.slice (some ⟨b,0,none⟩) len len) len size (J7 (List.replicate len z.cells.toList).flatten ((parts.map (·.1)).map fun i=>(i*size,size)) vs)::As)→wl P n ops Q rest ((d,.slice (some ⟨b,0,none⟩) len len)::L) w'):wl P n ops Q (⟨some d,.buildSlice t len parts.toArray,ty,pos,aft,none⟩::rest) L w:= by
  obtain⟨ii,hi1,hi2⟩:=Option.map_eq_some_iff.1 hi
  simp only[Prod.mk.injEq]at hi2
  have hle:len*size≤1000:=Xn hlen
  have hzl:((Array.range (len*size)).map (z.cells[· %z.cells.size]!)).toList=(List.replicate len z.cells.toList).flatten:= by
    rw[←hzs]; exact JE z.cells len
  have hzsz:((Array.range (len*size)).map (z.cells[· %z.cells.size]!)).size=len*size:= by simp
  have hf:=UV (fun i=>some (i*size,size)) (parts.map (·.1)) ((parts.map (·.1)).map fun i=>(i*size,size)) vs ((Array.range (len*size)).map (z.cells[· %z.cells.size]!)) (by simp [Function.comp_def]) (by rw[hzsz]; exact hok)
  rw[hzl]at hf
  generalize hcs:J7 (List.replicate len z.cells.toList).flatten ((parts.map (·.1)).map fun i=>(i*size,size)) vs=cells at hf hk
  have hcl:cells.length=len*size:= by
    have hgen: ∀(pls:List (Nat×Nat)) (vs:List Value) (zz:List Value),JP zz.length pls vs=true→(J7 zz pls vs).length=zz.length:= by
      intro pls
      induction pls with
      | nil=> intro vs zz _; cases vs<;>rfl
      | cons p pls ih=>
        intro vs zz h
        cases vs with
        | nil=>rfl
        | cons v vs=>
          simp only[JP,Bool.and_eq_true]at h
          have h1:=Nat.eq_of_beq_eq_true h.1.1
          have h2:=Xn h.1.2
          have hl:(X3 zz p.1 v.cells.toList).length=zz.length:=Jj (by simp [h1];omega)
          simp only[J7]
          rw[ih vs _ (by rw[hl]; exact h.2),hl]
    have hzl2:(List.replicate len z.cells.toList).flatten.length=len*size:= by simp [hzs]
    rw[←hcs,hgen _ _ _ (by rw[hzl2]; exact hok),hzl2]
  refine XR rfl hd (R:= fun v w'=>v= .slice (some ⟨w.heap.size,0,none⟩) len len∧w'=w.alloc (.cells cells.toArray e)) (fun a ha=>⟨_,_,.inl ?_,rfl,rfl⟩) ?_
  · have hzv:(zeroValue e).run P w= .ok z w:= by simp [zeroValue,typeInfo,hi1,hi2.1]
    have hso:(sizeOf e).run P w= .ok size w:= by simp [sizeOf,typeInfo,hi1,hi2.2]
    have hev:=ha.evals hx
    have hp:(parts.toArray.map fun (i,x)=>(i,a.eval x)).toList=(parts.map (·.1)).zip vs:= by
      rw[←hev]
      simp
      clear hev hx hf hcs hok
      induction parts with
      | nil=>rfl
      | cons p ps ih=> simp [ih]
    have hno: ¬(2^24<len*size):= by omega
    by_cases hz0:len*size=0
    · have hf':Instr.fill (fun i=>some (i*size,size)) #[] ((parts.map (·.1)).zip vs)=some cells.toArray:= by
        rw[hz0, show Array.range 0= #[] from rfl]at hf;simpa using hf
      simp only[execOp,Instr.buildSlice]
      have hr0:Array.range 0= #[]:=rfl
      simp [run_underlying hu,hso,hz0,newRow,hr0]
      simp at hp
      rw[hp,hf']
      simp
    · simp only[execOp,Instr.buildSlice]
      simp [run_underlying hu,hso,hz0,hno,hzv,newRow]
      simp at hp
      rw[hp,hf]
      simp
  · rintro v w' ⟨rfl,rfl⟩
    exact hk _ _ .alloc (hS.new ((Only.refl _ _).alloc _) (F':= fun k=>k∈[w.heap.size]) (A:=Ja _ _ _ _) ⟨[w.heap.size],rfl,UQ (sp:=[]) (by simpa using Blk.new w cells e) (by simpa using hcl) (Nat.le_refl _) (by simpa using hcl)⟩ (fun k hk=> by simp at hk;omega))
theorem Rp {α:Type} {As:List Th} (C:RowC α) (l:List α) (hS:Sat w As) {t e len:Nat} {z:Value} {parts:List (Nat×Operand)} {vs:List Value} (hx:WP L (parts.map (·.2))=some vs) (hu:P.underlying t=some (.slice e)) (hi:(P.info? e).map (fun i=>(i.zero,i.size))=some (some z,C.size)) (hlen:Nat.ble (len*C.size) 1000=true) (hzs:z.cells.size=C.size)
    (hok:JP (len*C.size) ((parts.map (·.1)).map fun i=>(i*C.size,C.size)) vs=true) (hl:l.length=len) (he:J7 (List.replicate len z.cells.toList).flatten ((parts.map (·.1)).map fun i=>(i*C.size,C.size)) vs=C.cells l) (hd:Nat.blt d n=true)
    (hk: ∀b w',GrW w w'→Sat w' (rowT C (.slice (some ⟨b,0,none⟩) len len) l::As)→wl P n ops Q rest ((d,.slice (some ⟨b,0,none⟩) len len)::L) w'):wl P n ops Q (⟨some d,.buildSlice t len parts.toArray,ty,pos,aft,none⟩::rest) L w:= by
  refine D4 hS hx hu hi hlen hzs hok hd ?_
  intro b w' hg h
  exact hk b w' hg (h.row_cast hl.symm rfl he)
section
variable {P:Program} {n:Nat} {ops:Array Oper} {Q:Exit→Act→World→Prop} {rest:List Oper} {L:Env} {w:World} {d:Nat} {ty:TypeId} {pos:String} {aft:Array Edge} {t t2:TypeId} {x y:Operand}
theorem II {a b:BitVec 64} (hx:look L x=some (Zu a)) (hy:look L y=some (Zu b)):Ev P L w ⟨some d,.binOp .sub t x y t2,ty,pos,aft,none⟩ (Zu (a -b)):=
  Dc hx hy (by
    rw[IntKind.wrap_u64,BitVec.toNat_sub]
    have :=a.isLt; have :=b.isLt
    omega)
theorem AG {a b:BitVec 64} (hx:look L x=some (Zu a)) (hy:look L y=some (Zu b)) (hd:Nat.blt d n=true) (hk:wl P n ops Q rest ((d,Zu (a -b))::L) w):wl P n ops Q (⟨some d,.binOp .sub t x y t2,ty,pos,aft,none⟩::rest) L w:=Xo hd (II hx hy) hk
end
end
end Go.Proofs.YtkcjfoaejijdoaaGreatDoor.M
