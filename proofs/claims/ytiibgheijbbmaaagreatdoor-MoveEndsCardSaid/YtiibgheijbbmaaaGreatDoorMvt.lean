/- slices.IndexFunc, DeleteFunc of ints -/
import Derived.Test.YtiibgheijbbmaaaGreatDoorMvl
import Derived.Test.YtiibgheijbbmaaaGreatDoorMv1
set_option linter.unusedVariables false
set_option maxRecDepth 100000
set_option maxHeartbeats 80000000000
namespace Go.Proofs.YtiibgheijbbmaaaGreatDoor
open Go.RowKit M Proofs.Tryz
def PrG (P:Program) (g:Nat) (caps:List Value) (X:Th) (pr:Int→Bool):Prop:=QZ P g=true∧ ∀(n:Int) (w:World) (Y:Th),Sat w [X,Y]→Calls P g (intV n::caps).toArray w (Ret fun v w'=>v= .bool (pr n)∧Sat w' [X,Y])
theorem VH {l:List Int} {j:Nat} {v:Int} {pr:Int→Bool} (h:l[j]? =some v):(l.take (j+1)).filter (fun n=> !pr n)=(l.take j).filter (fun n=> !pr n)++(if pr v=true then[]else[v]):= by
  rw[List.take_add_one,h,List.filter_append]
  congr 1
  by_cases q:pr v=true<;> simp [q]
theorem ixP_sp {w:World} {g:Nat} {caps:List Value} {X:Th} {pr:Int→Bool} {F:Th} (hE:PrG prog g caps X pr) (hS:Sat w [X,F]) {lv:Value} {l:List Int} (hL:Ent F (RdL inC lv l)):
    Calls prog 96 #[lv,.func (.func g) #[] caps.toArray] w (Ret fun v w'=>(v=intV (-1)∧(∀y∈l,pr y=false)∧Sat w' [X,F])∨(∃k:Nat,v=intV (k:Int)∧ ∃x,l[k]? =some x∧pr x=true∧(∀j y,j<k→l[j]? =some y→pr y=false)∧Sat w' [X,F])):= by
 obtain⟨ao,cap,rfl,hmax⟩:=(hL.sat hS 1 rfl).shape
 refine Qy func96 Qa ntmps96 Qa ?_
 refine Qg (Qb (Qc Qa Qa (Qh (Qe (Qg (Qg (Qb (Qd Qa Qa (Xj underlying33 Qa Qa (Qd Qa Qa (Qh (Qe (QD ?_)))))))))))))
 refine XD (fun K0 E0 W0=> ∃(i:Nat),K0=l.length -i∧E0=[(0,.slice ao l.length cap),(1,.func (.func g) #[] caps.toArray),(7,intV (l.length:Int)),(8,intV (i:Int))]∧Sat W0 [X,F]∧(i≤l.length)∧(∀j y,j<i→l[j]? =some y→pr y=false)) (L0:=[(0,_),(1,_),(7,_),(8,_)]) (l.length -0) (DF Qa Qa Qa Qa) ⟨0,rfl,rfl,hS, by omega, by omega⟩ ?_
 rintro _ _ w1 ⟨i,rfl,rfl,hS1,hi,hno⟩
 refine Qg (Qb (Xz Qa Qa Qa (Qh (Qe (Qg (Qw Qa (fun h2=> ?_) (fun h2=> ?_)))))))
 ·obtain⟨x,hx⟩: ∃x,l[i]? =some x:=⟨_,WU (by omega)⟩
  obtain⟨b,off,rfl,_⟩:=(hL.sat hS1 1 rfl).get hx
  refine Qr (Qe (Qg (QD (Qg (Qb (Qd Qa Qa (Qc Qa Qa (Qh (Qe (Qg (Qb (Qd Qa Qa (Qd Qa Qa (Qd Qa Qa (XG i Qa Qa (by first | rfl | omega) ((Jo hx).1) K7 Qa ?_)))))))))))))))
  refine Qp Qa QK (((hL.sat hS1 1 Qa).at_ hx) 0 _ Qa) Qa (Kf Qa hE.1 Qa (hE.2 _ _ _ (hS1.sp [0] Qa)) Qa ?_)
  rintro e w3 ⟨_,rfl,rfl,hS3⟩; refine⟨_,rfl, ?_⟩
  replace hS3:=hS3.jn Qa Qa
  refine Qh (Qe (Qk [8,7,1,0,5,16] Qa (Xd Qa (fun h4=> ?_) (fun h4=> ?_))))
  ·have heq:pr x=true:=h4
   exact Qg (Qb (Qd Qa Qa (Qc Qa Qa (Qh (Qe (Qo (Q0 (Qm (Qm (Q0 (Qm (Q7 (.inr Qa) Qa Qa (⟨_,Qa,.inr ⟨i,Qa,x,hx,heq,hno,hS3.pick [0,1] Qa⟩⟩)))))))))))))
  have hne:pr x=false:= by simpa using h4
  refine Qr (Qq (Qe (Qb (Xq Qa Qa (by omega) (by omega) Qa ?_))))
  refine Qd Qa Qa (Qh ?_)
  exact QY (L1:=[(0,_),(1,_),(7,_),(8,intV ((i+1:Nat):Int))]) (DF Qa Qa Qa Qa) (k1:=l.length -(i+1)) (by omega) ⟨i+1,rfl,rfl,hS3.pick [0,1] Qa, by omega, fun j y hj hq=> by by_cases e:j=i;(subst e; rw[hx]at hq; cases hq; exact hne); exact hno j y (by omega) hq⟩
 refine Xu (Q1 (Q1 (QJ (Qe (Qg (Qb (Qc Qa Qa (Qh (Qe (Qo (Q7 (.inr Qa) Qa Qa ?_)))))))))))
 exact⟨_,rfl,.inl ⟨rfl, fun y hm=> by obtain⟨j,hj⟩:=List.mem_iff_getElem?.1 hm; exact hno j y (by have :=(Jo hj).1;omega) hj,hS1.pick [0,1] rfl⟩⟩
theorem delF_sp {w:World} {g:Nat} {caps:List Value} {X:Th} {pr:Int→Bool} {F:Th} (hE:PrG prog g caps X pr) {sv:Value} {l:List Int} (hS:Sat w [rowT inC sv l,X,F]) (hln:l.length≤100000000000):
    Calls prog 60 #[sv,.func (.func g) #[] caps.toArray] w (Ret fun v w'=>Sat w' [rowT inC v (l.filter (fun n=> !pr n)),X,F]):= by
 obtain⟨ao,cap,rfl,hcap0,_⟩:=hS.own_shape 0 rfl
 refine Qy func60 Qa ntmps60 Qa ?_
 refine Qg (Qb (Qc Qa Qa (Qh (Qe (Qg (Qb (Qd Qa Qa (Qd Qa Qa (Ub cal_96 Qa (ixP_sp hE (hS.sp [1] Qa) (l:=l) (Ent.starL (VJ (C:=inC) (l:=l) (by omega)) 0 Qa)) Qa ?_)))))))))
 rintro e w1 ⟨_,rfl,(⟨rfl,hno,hS1⟩ | ⟨k,rfl,xk,hk,hkp,hno,hS1⟩)⟩
 ·refine⟨_,Qa, ?_⟩
  replace hS1:=hS1.jn Qa Qa
  refine Qc Qa Qa (Qh (Qe (Qg (Qg (Qb (Qd Qa Qa (QO Qa Qa Qa (Qh (Qe (Qw Qa (fun h2=> ?_) (fun h2=> ?_)))))))))))
  ·refine Qg (Qb (Qd Qa Qa (Qc Qa Qa (Qh (Qe (Qo (Qm (Q7 (.inr Qa) Qa Qa ?_))))))))
   exact⟨_,rfl, by rw[show l.filter (fun n=> !pr n)=l from List.filter_eq_self.2 (fun y hy=> by simpa using hno y hy)]; exact hS1.pick [1,0,2] Qa⟩
  exact absurd Qa h2
 refine⟨_,Qa, ?_⟩
 replace hS1:=hS1.jn Qa Qa
 refine Qc Qa Qa (Qh (Qe (Qg (Qg (Qb (Qd Qa Qa (QO Qa Qa Qa (Qh (Qe (Qw Qa (fun h3=> ?_) (fun h3=> ?_)))))))))))
 ·exact absurd h3 (by omega)
 refine Qr (Qe (Qg (Qg ?_)))
 have hkl:=(Jo hk).1
 obtain⟨ob,oc9,hq9,hcap⟩:=hS1.own_at 1 rfl (by omega)
 cases hq9
 refine Qb (Qd Qa Qa (Xq Qa Qa (by omega) (by omega) Qa ?_))
 refine Qc Qa Qa (Qh (Qe (Qk [1,0,4,5,6] Qa (QD ?_))))
 have hq0:=hS1.pick [1,0,2] Qa
 refine XD (fun K0 E0 W0=> ∃(l1:List Int) (i j:Nat),K0=l.length -j∧E0=[(0,.slice (some ⟨ob,0,none⟩) l.length cap),(1,.func (.func g) #[] caps.toArray),(5,intV (i:Int)),(6,intV (j:Int))]∧Sat W0 [rowT inC (.slice (some ⟨ob,0,none⟩) l.length cap) l1,X,F]∧(i<j)∧(j≤l.length)∧(l1.length=l.length)∧(l1.take i=(l.take j).filter (fun n=> !pr n))∧(l1.drop j=l.drop j)) (L0:=[(0,_),(1,_),(5,_),(6,_)]) (l.length -(k+1)) (DF rfl rfl rfl rfl) ⟨l,k,k+1,rfl,rfl,hq0, by omega, by omega,rfl, by rw[VH hk,if_pos hkp,List.append_nil];symm; rw[List.filter_eq_self]; intro y hy; obtain⟨q,hq⟩:=List.mem_iff_getElem?.1 hy; have hql:=(Jo hq).1; rw[List.length_take]at hql; rw[List.getElem?_take,if_pos (by omega)]at hq;simpa using hno q y (by omega) hq,rfl⟩ ?_
 rintro _ _ w4 ⟨l1,i,j,rfl,rfl,hS4,hij,hjl,hl1,ht1,hd1⟩
 refine Qg (Qg (Qb (Qd Qa Qa (Qd Qa Qa ?_))))
 first | refine Xj underlying33 Qa Qa ?_ | refine X3 0 hS4 underlying33 Qa Qa Qa ?_
 refine Xz Qa Qa Qa (Qh (Qe (Qw Qa (fun h5=> ?_) (fun h5=> ?_))))
 ·obtain⟨v,hv⟩: ∃v,l[j]? =some v:=⟨_,WU (by omega)⟩
  have hv1:l1[j]? =some v:= by have :=congrArg (fun q=>q[0]?) hd1; simp only[List.getElem?_drop,Nat.add_zero]at this; rw[this]; exact hv
  refine Qr (Qe (Qg (QD (Qg (Qb (Qd Qa Qa (Qd Qa Qa (ZP inC 0 j hS4 Qa Qa Qa (by rfl) hv1 K7 Qa ?_))))))))
  intro bx6 capx6 hvx6
  refine ZW 0 j 0 hS4 Qa hvx6 Qa Qa hv1 QK Qa Qa (Qc Qa Qa (Qh (Qe (Qk [6,5,1,0,7] Qa (Qg (Qb (Qd Qa Qa (Qd Qa Qa (Kf Qa hE.1 Qa (hE.2 _ _ _ (hS4.sp [1] Qa)) Qa ?_)))))))))
  rintro e w7 ⟨_,rfl,rfl,hS7⟩; refine⟨_,rfl, ?_⟩
  replace hS7:=hS7.jn Qa Qa
  refine XS Qa Qa (Qh (Qe (Xd Qa (fun h8=> ?_) (fun h8=> ?_))))
  ·have hvn: ¬pr v=true:= by simpa using h8
   refine Qg ?_
   obtain⟨vx,hvx⟩: ∃v,l1[i]? =some v:=⟨_,WU (by omega)⟩
   refine Qb (Qd Qa Qa (Qd Qa Qa (Qd Qa Qa (ZP inC 1 i hS7 Qa Qa Qa (by rfl) hvx K7 Qa ?_))))
   intro bx9 capx9 hvx9
   refine BB 1 i v hS7 Qa hvx9 Qa Qa YH (by rfl) (by omega) ?_
   intro w10 hS11; dsimp only[List.set]at hS11
   refine Qh (Qe (Qk [6,5,1,0] Qa (Qb (Qd Qa Qa (Xq Qa Qa (by omega) (by omega) Qa ?_)))))
   refine Qc Qa Qa (Qh (Qq (Qe (Qb (Qd Qa Qa (Xq Qa Qa (by omega) (by omega) Qa ?_))))))
   refine Qc Qa Qa (Qh ?_)
   exact QY (L1:=[(0,_),(1,_),(5,intV ((i+1:Nat):Int)),(6,intV ((j+1:Nat):Int))]) (DF Qa Qa Qa Qa) (k1:=l.length -(j+1)) (by omega) ⟨l1.set i v,i+1,j+1,rfl,rfl,hS11.pick [1,0,2] Qa, by omega, by omega, by rw[List.length_set]; exact hl1, by rw[VH hv,if_neg hvn,List.take_add_one,List.getElem?_set_self (by omega),List.take_set_of_le (by omega),ht1];rfl, by rw[List.drop_set_of_lt (by omega)]; have :=congrArg (List.drop 1) hd1;rwa [List.drop_drop,List.drop_drop]at this⟩
  have hvi:pr v=true:= by simpa using h8
  refine Qr (Qq (Qe (Qb (Qd Qa Qa (Xq Qa Qa (by omega) (by omega) Qa ?_)))))
  refine Qc Qa Qa (Qh ?_)
  exact QY (L1:=[(0,_),(1,_),(5,_),(6,intV ((j+1:Nat):Int))]) (DF Qa Qa Qa Qa) (k1:=l.length -(j+1)) (by omega) ⟨l1,i,j+1,rfl,rfl,hS7.pick [1,0,2] Qa, by omega, by omega,hl1, by rw[VH hv,if_pos hvi,List.append_nil]; exact ht1, by have :=congrArg (List.drop 1) hd1;rwa [List.drop_drop,List.drop_drop]at this⟩
 refine Xu (Q1 (Q1 (QJ (Qe (Qg (Qb (Qd Qa Qa (Qd Qa Qa (V5 i l.length underlying33 YH Qa (HP i _ Qa Qa) (V4 _) (by omega) (by omega) Qa ?_)))))))))
 rw[show Un 1 (.slice (some ⟨ob,0,none⟩) l.length cap) i l.length= .slice (some ⟨ob,0+i*1,none⟩) (l.length -i) (cap -i) from KK (by omega)]
 refine GR 0 hS4 Qa Qa Qa underlying33 zr_3 Qa (by rw[inC.cells_len]; show 0+i*1+(l.length -i)*1≤l1.length*1;omega) (xs':=inC.cells (l1.take i++List.replicate (l1.length -i) 0)) (by rw[←hl1]; exact IM (by omega)) Qa ?_
 intro w12 hS12a; dsimp only[List.set]at hS12a
 have hS12:=Sat.row_cast (C:=inC) (l:=l1.take i++List.replicate (l1.length -i) 0) (hS12a.pull 0 Qa) (by rw[List.length_append,List.length_take,List.length_replicate];omega) Qa Qa; dsimp only[List.eraseIdx]at hS12
 refine Qh (Qe (Qk [5,0] Qa (Qg (Qb (Qd Qa Qa (Qd Qa Qa (V5 0 i underlying33 YH Qa (V4 _) (HP i _ Qa Qa) (by omega) (by omega) Qa ?_)))))))
 rw[show Un 1 (.slice (some ⟨ob,0,none⟩) l.length cap) 0 i= .slice (some ⟨ob,0,none⟩) i cap from KK (by omega)]
 refine Qc Qa Qa (Qh (Qe (Qo (Q7 (.inr Qa) Qa Qa ?_))))
 have hz:=(hS12.pick [0,1,2] Qa).row_shrink i (by rw[List.length_append,List.length_take];omega)
 rw[List.take_append_of_le_length (by rw[List.length_take];omega),List.take_take,Nat.min_self,ht1,List.take_of_length_le (by omega)]at hz
 exact⟨_,Qa,hz⟩
theorem Pa:Ur []=(0,0):= by unfold Ur; rw[if_pos (.inl (by simp [Xi]))]
theorem new_ei:EI JS (fun x=>x=(0,0)):= by
  obtain⟨_,_,hg,hf⟩:=Good.begin (f:=0) (P:=alw fun x=>x=(0,0)) (by decide) Pa
  refine⟨fun C q=> ?_, fun q=>(by cases q), fun q=>(by cases q)⟩
  cases q
  exact⟨hg,hf,Pa, fun x=>Iff.rfl⟩
theorem Gl:(QS JS 1 1).1=0:= by
  obtain⟨_,_,hg,_⟩:=Good.begin (f:=0) (P:= fun _ _=>True) (by decide) trivial
  have h1:=(WQ (n:=1) (by unfold Xy;decide)).1
  obtain⟨a1,_⟩:=calm_new.set (f:=0) (C:=RG 0) (s:=Xi 1++Xi 1) hg.up rfl (by simp [RG]) (by unfold Xi; simp only[List.length_append,List.length_cons,List.length_nil];omega)
  unfold QS JS
  dsimp only
  rw[if_neg (by omega)]
theorem AM {s:SsD} (hs:Zi s=true):(Z3 JS s).1=0∧INV ⟨(Z3 JS s).2,JS,[],false⟩ 1:= by
  have hb:Z3 JS s=(0,{(QS JS 1 1).2 with ses:=some (Yr s),active:=false,frozen:=false,told:=true}):= by
    unfold Z3
    rw[if_neg (by decide),if_neg (by rw[hs];decide),if_neg (by rintro⟨q,_⟩; exact q ⟨rfl,rfl⟩),if_pos ⟨rfl,rfl⟩,if_neg (by rw[Gl];decide)]
  rw[hb]
  refine⟨Qa, ?_⟩
  rcases new_ei.note (k:=1) (m:=1) (by intro q; cases q) (by decide) (by unfold Xy;decide)with⟨_,h2,D,C,e⟩ | ⟨e,_⟩
  · refine⟨fun x=>x=(1,1), fun x=>x=(0,0),h2.same Qa Qa Qa Qa (.inr Qa),new_ei,⟨⟨⟨_,rfl⟩, fun _ x=> ?_, fun q=>absurd q Bool.false_ne_true, fun m q=> ?_, fun q=>absurd q Bool.false_ne_true, fun n q=> ?_, fun n q=> ?_, fun q=>absurd q Bool.false_ne_true, fun q=>absurd q Bool.false_ne_true, fun q=>absurd q Bool.false_ne_true⟩,⟨⟨_,rfl⟩, fun _ x=>Iff.rfl, fun q=>absurd q Bool.false_ne_true, fun m q=> ?_, fun q=>absurd q Bool.false_ne_true, fun n q=> ?_, fun n q=> ?_, fun q=>absurd q Bool.false_ne_true, fun q=>absurd q Bool.false_ne_true, fun q=>absurd q Bool.false_ne_true⟩, fun x y hx hy=> ?_⟩, fun x hx=> ?_, fun x hx=> ?_⟩
    · show x=(1,1)↔x=((QS JS 1 1).2.kind,(QS JS 1 1).2.move)
      rw[e]
    · obtain⟨p,hp,_⟩:=q; cases hp
    · obtain⟨p,hp,_⟩:=q; cases hp
    · obtain⟨p,hp,_⟩:=q; cases hp
    · obtain⟨p,hp,_⟩:=q; cases hp
    · obtain⟨p,hp,_⟩:=q; cases hp
    · obtain⟨p,hp,_⟩:=q; cases hp
    · have hx:x=(1,1):=hx
      have hy:y=(0,0):=hy
      subst hx; subst hy
      exact .inl (.inl ⟨rfl, by decide, by decide⟩)
    · rw[hx];decide
    · rw[hx];decide
  · exact absurd Gl e
def Yu (l:AL PgD):AL PgD:=l.map fun e=>(e.1,⟨[],e.2.ver,0,true⟩)
def LiOk (l:AL PgD):Prop:= ∀e∈l,e.1≤1099511627776∧1≤e.2.ver∧Xy e.2.ver
theorem Pe {rest:Bs}: ∀{l:AL PgD} {last:Int},Srt l→(∀e∈l,last<e.1)→0≤last→LiOk l→Ut l.length ((l.flatMap fun e=>Xi e.1++Xi e.2.ver)++rest,false) last=some (Yu l)
  | [],_,_,_,_,_=>rfl
  | e::l,last,hs,hl,h0,hk=> by
    have h1:=hl e List.mem_cons_self
    obtain⟨k1,k2,k3⟩:=hk e List.mem_cons_self
    have e1:(((e::l).flatMap fun e=>Xi e.1++Xi e.2.ver)++rest)=Xi e.1++(Xi e.2.ver++((l.flatMap fun e=>Xi e.1++Xi e.2.ver)++rest)):= by simp
    obtain⟨a1,a2⟩:=Hg (m:=e.1) (rest:=Xi e.2.ver++((l.flatMap fun e=>Xi e.1++Xi e.2.ver)++rest)) (least:=(-9223372036854775808:Int)) (by unfold Xy;omega) (by omega)
    obtain⟨b1,b2⟩:=Hg (m:=e.2.ver) (rest:=(l.flatMap fun e=>Xi e.1++Xi e.2.ver)++rest) (least:=(-9223372036854775808:Int)) k3 (by omega)
    show Ut (l.length+1) _ last=_
    unfold Ut
    rw[e1,a1,a2,b1,b2,if_neg (by omega),Pe (l:=l) (last:=e.1) hs.tail (fun f hf=>hs.head f.1 (List.mem_map.2 ⟨f,hf,rfl⟩)) (by omega) fun f hf=>hk f (List.mem_cons_of_mem _ hf)]
    rfl
theorem EX {s:Bs} {c c':Int} {l:AL PgD}:Xf ⟨s,c,Yu l⟩=Xf ⟨s,c',l⟩:= by
  unfold Xf Yu
  simp [List.flatMap_map]
theorem Mp {s:SeD} (hs:Srt s.pages) (hp: ∀e∈s.pages,0<e.1) (hk:LiOk s.pages) (h1:s.state.length≤100000000000) (h1b:s.state.length≤1048576) (h2:s.pages.length≤8192):Wp (Xf s)=(some ⟨s.state,Hh (Yu s.pages),Yu s.pages⟩,true):= by
  have e:Xf s=HO s.state++(Xi (s.pages.length:Int)++((s.pages.flatMap fun e=>Xi e.1++Xi e.2.ver)++[])):= by unfold Xf; simp
  obtain⟨t1,t2⟩:=NG (s:=s.state) (rest:=Xi (s.pages.length:Int)++((s.pages.flatMap fun e=>Xi e.1++Xi e.2.ver)++[])) h1
  obtain⟨n1,n2⟩:=Hg (m:=(s.pages.length:Int)) (rest:=(s.pages.flatMap fun e=>Xi e.1++Xi e.2.ver)++[]) (least:=0) (by unfold Xy;omega) (by omega)
  have hm:(min (s.pages.length:Int) 8193).toNat=s.pages.length:= by omega
  unfold Wp
  rw[e,t1,t2,n1,n2,hm,Pe hs hp (by omega) hk]
  dsimp only
  rw[←e,EX (c':=s.count)]
  have hb:(Yu s.pages).length=s.pages.length:= by unfold Yu; rw[List.length_map]
  rw[hb]
  simp [h1b,h2]
structure SeW (s:SeD):Prop where
  srt:Srt s.pages
  num:s.pages.length≤8192
  st:s.state.length≤1048576
  cnt:Xy s.count
  pg: ∀e∈s.pages,Xy e.1∧Xy e.2.ver∧Xy e.2.sent∧e.2.data.length≤64
structure OfW (o:OfD):Prop where
  ps:Srt o.parts
  gs:Srt o.pages
  pl: ∀e∈o.parts,0≤e.1∧e.1<o.many∧e.2.length≤1000
  mn:0≤o.many∧o.many≤8000
  gl: ∀e∈o.pages,Xy e.1∧Xy e.2.ver∧Xy e.2.sent∧e.2.data.length≤1000
  ln:o.list.length≤8000000
  mv:0≤o.move∧o.move≤4611686018427387904
structure EW (E:EnD):Prop where
  km:0≤E.kind∧E.kind<4∧0≤E.move∧Xy E.move
  ses: ∀s,E.ses=some s→SeW s
  off: ∀o,E.off=some o→OfW o
  rdy:E.kind=2→ ∀o,E.off=some o→o.move=E.move→(Wp o.list).2=true
  k2:E.kind=2→E.ses=none
  ac:E.active=true→E.kind=1∧ ∃s,E.ses=some s
  nx:E.active=true→ ∀s,E.ses=some s→0≤E.next∧E.next<Xa (Xf s)∧(E.frozen=false→E.next=0)
  fz:E.kind=1→E.frozen=true→E.active=true∨E.ses=none
  dn:E.cell=none→E=BH E
section
variable {E E':EnD} {s:SeD} {m:MsD} {o:OfD} {l:AL PgD}
theorem XF:Xy 0:= by unfold Xy;omega
theorem L6:Xy 1:= by unfold Xy;omega
theorem Wt {n:Int} (h:Xy n):2≤(Xi n).length∧(Xi n).length≤21:= by
  have :=WQ h
  unfold Xi; simp;omega
theorem Uw {l:Bs} (h:1≤l.length):1≤Xa l:= by unfold Xa;omega
theorem Ui {s:SeD}:1≤(Xf s).length:= by unfold Xf HO; simp;omega
theorem EW.stop (E:EnD):EW (BH E):= by
  refine⟨⟨Int.le_refl 0,(by show(0:Int)<4;omega),Int.le_refl 0,XF⟩, fun s q=> ?_, fun o q=> ?_, fun q=> ?_, fun q=>rfl, fun q=> ?_, fun q=> ?_, fun q=> ?_, fun _=>rfl⟩<;> cases q
theorem EW.note_bad {k n:Int} (h:(QS E k n).1≠0) (hu:E.cell≠none):EW (QS E k n).2:= by
  obtain⟨C,hC⟩:=Option.ne_none_iff_exists'.1 hu
  unfold QS at h⊢
  rw[hC]at h⊢
  dsimp only at h⊢
  split
  · exact EW.stop _
  · rename_i q; rw[if_neg q]at h; exact absurd Qa h
theorem Ym {k n:Int} (h:(QS E k n).1=0) (hu:E.cell≠none): ∃D C,(QS E k n).2={E with D:=D,cell:=some C,kind:=k,move:=n}:= by
  obtain⟨C,hC⟩:=Option.ne_none_iff_exists'.1 hu
  unfold QS at h⊢
  rw[hC]at h⊢
  dsimp only at h⊢
  split
  · rename_i q; rw[if_pos q]at h; exact absurd h q
  · exact⟨_,_,Qa⟩
theorem MS {α:Type} {l:AL α} {i:Int} {x:α} {P:Int×α→Prop} (hl: ∀e∈l,P e) (hx:P (i,x)): ∀e∈X6 i x l,P e:= by
  induction l with
  | nil=> intro e he; rcases List.mem_singleton.1 he with rfl; exact hx
  | cons f l ih=>
    intro e he
    unfold X6 at he
    split at he
    · rcases List.mem_cons.1 he with q | q
      · rw[q]; exact hl f List.mem_cons_self
      · exact ih (fun e h=>hl e (List.mem_cons_of_mem _ h)) e q
    · split at he
      · rcases List.mem_cons.1 he with q | q
        · rw[q]; exact hx
        · exact hl e (List.mem_cons_of_mem _ q)
      · rcases List.mem_cons.1 he with q | q
        · rw[q]; exact hx
        · exact hl e q
theorem SeW.put (h:SeW s) {i:Int} {p:PgD} {c:Int} (hi:Xy i) (hp:Xy p.ver∧Xy p.sent∧p.data.length≤64) (hc:Xy c) (hr:(QN s.pages i).isSome=true∨s.pages.length<8192):SeW {s with count:=c,pages:=X6 i p s.pages}:= by
  refine⟨h.srt.put, ?_,h.st,hc,MS h.pg ⟨hi,hp⟩⟩
  have :=Pd (i:=i) (x:=p) h.srt
  show(X6 i p s.pages).length≤8192
  have h2:=h.num
  rw[this];split
  · exact h2
  · rename_i q
    rcases hr with q2 | q2
    · exact absurd q2 q
    · omega
theorem SeW.map (h:SeW s) {f:Int×PgD→PgD} (hf: ∀e∈s.pages,Xy (f e).ver∧Xy (f e).sent∧(f e).data.length≤64) {l:AL PgD} (hl:l=s.pages.map fun e=>(e.1,f e)):SeW {s with pages:=l}:= by
  subst hl
  refine⟨h.srt.map, by show(List.map _ _).length≤_; rw[List.length_map]; exact h.num,h.st,h.cnt, fun e he=> ?_⟩
  obtain⟨e',h1,rfl⟩:=List.mem_map.1 he
  exact⟨(h.pg e' h1).1,hf e' h1⟩
theorem EZ {s:SeD} {f:Int×PgD→PgD} (hf: ∀e∈s.pages,(f e).ver=e.2.ver) {l:AL PgD} (hl:l=s.pages.map fun e=>(e.1,f e)) {c:Int}:Xf {s with pages:=l,count:=c}=Xf s:= by
  subst hl
  unfold Xf
  dsimp only
  rw[List.length_map,List.flatMap_map]
  congr 1
  have : ∀l:AL PgD,(∀e∈l,(f e).ver=e.2.ver)→(l.flatMap fun e=>Xi e.1++Xi (f e).ver)=l.flatMap fun e=>Xi e.1++Xi e.2.ver:= fun l=> by
    induction l with
    | nil=> intro _;rfl
    | cons e l ih=> intro h; rw[List.flatMap_cons,List.flatMap_cons,ih fun e he=>h e (List.mem_cons_of_mem _ he),h e List.mem_cons_self]
  exact this _ hf
def SimP:AL PgD→AL PgD→Prop
  | [],[]=>True
  | e::l,f::m=>(f.1=e.1∧f.2.ver=e.2.ver∧f.2.data=e.2.data∧f.2.miss=e.2.miss∧(f.2.sent=e.2.sent∨f.2.sent=e.2.ver))∧SimP l m
  | _,_=>False
theorem SimP.refl: ∀l:AL PgD,SimP l l
  | []=>trivial
  | e::l=>⟨⟨rfl,rfl,rfl,rfl,.inl rfl⟩,SimP.refl l⟩
theorem W3 (E:EnD): ∀(l:AL PgD) (k:Nat),SimP l (pushG E k l).1
  | [],k=> by unfold pushG; exact trivial
  | e::l,k=> by
    unfold pushG
    split
    · exact⟨⟨Qa,Qa,Qa,Qa,.inl Qa⟩,W3 E l k⟩
    · cases k with
      | zero=> exact SimP.refl _
      | succ k=> exact⟨⟨rfl,rfl,rfl,rfl,.inr rfl⟩,W3 E l k⟩
theorem SimP.len: ∀{l m:AL PgD},SimP l m→m.length=l.length
  | [],[],_=>rfl
  | e::l,f::m,h=> by rw[List.length_cons,List.length_cons,SimP.len h.2]
theorem SimP.ids: ∀{l m:AL PgD},SimP l m→XY m=XY l
  | [],[],_=>rfl
  | e::l,f::m,h=> by show f.1::XY m=e.1::XY l; rw[SimP.ids h.2,h.1.1]
theorem SimP.txt: ∀{l m:AL PgD},SimP l m→(m.flatMap fun e=>Xi e.1++Xi e.2.ver)=l.flatMap fun e=>Xi e.1++Xi e.2.ver
  | [],[],_=>rfl
  | e::l,f::m,h=> by rw[List.flatMap_cons,List.flatMap_cons,SimP.txt h.2,h.1.1,h.1.2.1]
theorem SimP.mem: ∀{l m:AL PgD},SimP l m→ ∀f∈m,∃e∈l,f.1=e.1∧f.2.ver=e.2.ver∧f.2.data=e.2.data∧f.2.miss=e.2.miss∧(f.2.sent=e.2.sent∨f.2.sent=e.2.ver)
  | [],[],_,f,hf=> by cases hf
  | e::l,g::m,h,f,hf=> by
    rcases List.mem_cons.1 hf with q | q
    · subst q; exact⟨e,List.mem_cons_self,h.1⟩
    · obtain⟨e',h1,h2⟩:=SimP.mem h.2 f q
      exact⟨e',List.mem_cons_of_mem _ h1,h2⟩
theorem SimP.miss: ∀{l m:AL PgD},SimP l m→Wd m=Wd l
  | [],[],_=>rfl
  | e::l,f::m,h=> by
    have ih:=SimP.miss h.2
    unfold Wd at ih⊢
    rw[List.filter_cons,List.filter_cons,h.1.2.2.2.1]
    split
    · rw[List.map_cons,List.map_cons,ih,h.1.1]
    · exact ih
theorem Yn {s:SeD} {m:AL PgD} (h:SimP s.pages m):Xf {s with pages:=m}=Xf s:= by
  unfold Xf; dsimp only; rw[h.len,h.txt]
theorem SeW.sim (h:SeW s) {m:AL PgD} (hm:SimP s.pages m):SeW {s with pages:=m}:= by
  refine⟨by show List.Pairwise _ (XY m); rw[hm.ids]; exact h.srt, by show m.length≤_; rw[hm.len]; exact h.num,h.st,h.cnt, fun f hf=> ?_⟩
  obtain⟨e,he,h1,h2,h3,_,h5⟩:=hm.mem f hf
  obtain⟨k1,k2,k3,k4⟩:=h.pg e he
  refine⟨by rw[h1]; exact k1, by rw[h2]; exact k2, ?_, by rw[h3]; exact k4⟩
  rcases h5 with q | q<;> rw[q]
  · exact k3
  · exact k2
theorem Mn (E:EnD) (l:Bs) {n:Int} (hn:1≤n): ∀(k:Nat) (nx:Int),0≤nx∧nx<n→0≤(ZM E l n k nx).1∧(ZM E l n k nx).1<n
  | 0,nx,h=> by unfold ZM; exact h
  | k+1,nx,h=> by
    unfold ZM
    exact Mn E l hn k _ ⟨Int.emod_nonneg _ (by omega),Int.emod_lt_of_pos _ (by omega)⟩
theorem EW.tick (h:EW E):EW (X7 E).1:= by
  unfold X7
  split
  · exact h
  split
  · exact h
  split
  · exact h
  rename_i hk
  cases hs:E.ses with
  | none=> exact h
  | some s=>
    dsimp only
    have hsim:=W3 E s.pages 4
    have key: ∀nx,(E.active=true→0≤nx∧nx<Xa (Xf s)∧(E.frozen=false→nx=0))→EW {E with ses:=some {s with pages:=(pushG E 4 s.pages).1},next:=nx}:= fun nx hn=> by
      refine⟨h.km, fun s' q=> ?_,h.off,h.rdy, fun q=> ?_, fun q=>⟨(h.ac q).1,_,rfl⟩, fun q s' e=> ?_, fun q r=> ?_, fun q=> ?_⟩
      · cases q; exact(h.ses s hs).sim hsim
      · have :=h.k2 q; rw[hs]at this; cases this
      · cases e; rw[Yn hsim]; exact hn q
      · rcases h.fz q r with z | z
        · exact .inl z
        · rw[hs]at z; cases z
      · have :=congrArg EnD.ses (h.dn q); rw[hs]at this; cases this
    split
    · rename_i hac
      have hn:=h.nx hac s hs
      split
      · exact key E.next fun q=>h.nx q s hs
      · rename_i hfr
        rw[Yn hsim]
        have hp:=Uw (Ui (s:=s))
        refine key _ fun _=> ?_
        obtain⟨p1,p2⟩:=Mn E (Xf s) hp (min (Xa (Xf s)) 32).toNat E.next ⟨hn.1,hn.2.1⟩
        exact⟨p1,p2, fun q=>absurd q hfr⟩
    · exact h
theorem EW.give (h:EW E) (hm:Xy (E.move+1)):EW (Wi E).2:= by
  unfold Wi
  split
  · exact h
  rename_i hr
  obtain⟨hu,hk,hfr,s,hs⟩:=JO fun q=>hr (.inl q)
  by_cases e:(QS E 1 (E.move+1)).1=0
  · rw[if_neg (by simpa using e)]
    obtain⟨D,C,e2⟩:=Ym e hu
    rw[e2]
    dsimp only
    have h0:=h.km
    rw[hs]
    have hw:=h.ses s hs
    have hz:SeW {s with pages:=s.pages.map fun e=>(e.1,{e.2 with sent:=0})}:=hw.map (f:= fun e=>{e.2 with sent:=0}) (fun e he=>⟨(hw.pg e he).2.1,XF,(hw.pg e he).2.2.2⟩) Qa
    have hl:Xf {s with pages:=s.pages.map fun e=>(e.1,{e.2 with sent:=0})}=Xf s:=EZ (f:= fun e=>{e.2 with sent:=0}) (fun e he=>rfl) Qa (c:=s.count)
    refine⟨⟨by show(0:Int)≤1;omega, by show(1:Int)<4;omega, by show 0≤E.move+1;omega,hm⟩, fun s' q=> ?_,h.off, fun q=> ?_, fun q=> ?_, fun _=>⟨rfl,_,rfl⟩, fun _ s' q=> ?_, fun _ _=> .inl Qa, fun q=> ?_⟩
    · cases q; exact hz
    · cases q
    · cases q
    · cases q
      have :=Uw (Ui (s:={s with pages:=s.pages.map fun e=>(e.1,{e.2 with sent:=0})}))
      exact⟨Int.le_refl _,Int.lt_of_lt_of_le (by omega:(0:Int)<1) this, fun _=>rfl⟩
    · cases q
  · rw[if_pos e]; exact EW.note_bad e hu
theorem EW.freeze (h:EW E):EW (Zb E).2:= by
  unfold Zb
  split
  · exact h
  rename_i hr
  have ha:E.active=true:= by cases q:E.active; exact absurd (.inr q) hr;rfl
  exact⟨h.km,h.ses,h.off,h.rdy,h.k2,h.ac, fun q s hs=>⟨(h.nx q s hs).1,(h.nx q s hs).2.1, fun r=> by cases r⟩, fun _ _=> .inl ha, fun q=> by have :=congrArg EnD.active (h.dn q); rw[ha]at this; cases this⟩
theorem EW.cancel (h:EW E):EW (HC E).2:= by
  unfold HC
  split
  · exact h
  exact⟨h.km,h.ses,h.off,h.rdy,h.k2, fun q=>(by cases q), fun q=>(by cases q), fun _ q=>(by cases q), fun q=> by rw[h.dn q];rfl⟩
theorem EW.sesE (h:EW E) {s':SeD} (hr: ¬Z5 E=false) (hs:SeW s'):EW {E with ses:=some s'}:= by
  obtain⟨hu,hk,hfr,s,hs0⟩:=JO hr
  refine⟨h.km, fun x q=>(by cases q; exact hs),h.off,h.rdy, fun q=> ?_, fun q=>⟨hk,_,rfl⟩, fun q x hx=> ?_, fun _ q=> ?_, fun q=>absurd q hu⟩
  · have q:E.kind=2:=q
    omega
  · obtain⟨a,b,c⟩:=h.nx q s hs0
    have c:=c hfr
    cases hx
    have :=Uw (Ui (s:=s'))
    exact⟨a, by show E.next<_;omega, fun _=>c⟩
  · have q:E.frozen=true:=q
    rw[hfr]at q; cases q
theorem EW.setState (h:EW E) (s:Bs):EW (XM E s).2:= by
  unfold XM
  split
  · exact h
  rename_i hr
  split
  · exact h
  rename_i hl
  obtain⟨_,_,_,x,hx⟩:=JO hr
  rw[hx]
  have hw:=h.ses x hx
  exact h.sesE (s':={x with state:=s}) hr ⟨hw.srt,hw.num, by show s.length≤_;omega,hw.cnt,hw.pg⟩
theorem EW.setPage (h:EW E) (id:Int) (d:Bs):EW (Xx E id d).2:= by
  unfold Xx
  split
  · exact h
  rename_i hr
  split
  · exact h
  rename_i hl
  obtain⟨_,_,_,x,hx⟩:=JO hr
  rw[hx]
  dsimp only
  have hw:=h.ses x hx
  split
  · exact h
  rename_i hf
  have hsent:Xy (((QN x.pages id).map PgD.sent).getD 0):= by
    cases q:QN x.pages id with
    | none=> exact XF
    | some p=> exact(hw.pg _ (JC q)).2.2.1
  refine h.sesE (s':={x with count:=GP x.count,pages:=X6 id ⟨d,GP x.count,((QN x.pages id).map PgD.sent).getD 0,false⟩ x.pages}) hr (hw.put (by unfold Xy;omega) ⟨Oc hw.cnt,hsent, by show d.length≤64;omega⟩ (Oc hw.cnt) ?_)
  cases q:QN x.pages id with
  | none=>right; rcases Nat.lt_or_ge x.pages.length 8192 with z | z; exact z; exact absurd ⟨q,z⟩ hf
  | some p=> exact .inl rfl
theorem EW.dropPage (h:EW E) (id:Int):EW (XN E id).2:= by
  unfold XN
  split
  · exact h
  rename_i hr
  obtain⟨_,_,_,x,hx⟩:=JO hr
  rw[hx]
  dsimp only
  have hw:=h.ses x hx
  split
  · exact h
  refine h.sesE (s':={x with pages:=Yt x.pages id}) hr ⟨hw.srt.del, ?_,hw.st,hw.cnt, fun e he=>hw.pg e (List.mem_filter.1 he).1⟩
  exact Nat.le_trans (List.length_filter_le _ _) hw.num
theorem EW.crash (ks:List Int):EW (FH E ks):=EW.stop _
theorem EW.disk (h:EW E) (D:DS):EW {E with D:=D}:=
  ⟨h.km,h.ses,h.off,h.rdy,h.k2,h.ac,h.nx,h.fz, fun q=> by have :=h.dn q; rw[this];rfl⟩
theorem EW.start (h:EW E):EW (UW E).2:= by
  unfold UW
  split
  · exact h
  rename_i hu
  have hc:E.cell=none:= by unfold upE at hu; cases q:E.cell;rfl; rw[q]at hu; exact absurd Qa hu
  split
  · exact h.disk _
  split
  · exact h.disk _
  rename_i o1 o2
  have hE:=h.dn hc
  have hr:=Li (Hf (Zq (ZA E.D) 0) 0).val
  have f1:E.ses=none:= by rw[hE];rfl
  have f2:E.off=none:= by rw[hE];rfl
  have f3:E.active=false:= by rw[hE];rfl
  refine⟨hr, fun s q=> ?_, fun o q=> ?_, fun _ o q=> ?_, fun _=>f1, fun q=> ?_, fun q=> ?_, fun _ _=> .inr f1, fun q=> ?_⟩
  · have q:E.ses=some s:=q
    rw[f1]at q; cases q
  · have q:E.off=some o:=q
    rw[f2]at q; cases q
  · have q:E.off=some o:=q
    rw[f2]at q; cases q
  · have q:E.active=true:=q
    rw[f3]at q; cases q
  · have q:E.active=true:=q
    rw[f3]at q; cases q
  · cases q
end
theorem Oh (z:Bs×Bool):(V8 z).length≤z.1.length:= by
  have h1:=XO 58 0 z
  unfold V8
  split
  · simp
  split
  · simp
  · rw[List.length_take];omega
theorem VO (s:Bs):Xy (QU s).kind∧Xy (QU s).move∧Xy (QU s).a∧Xy (QU s).b∧(QU s).data.length≤s.length:= by
  refine⟨Yl _ _ _,Yl _ _ _,Yl _ _ _,Yl _ _ _, ?_⟩
  exact Nat.le_trans (Oh _) (Nat.le_trans (XO _ _ _) (Nat.le_trans (XO _ _ _) (Nat.le_trans (XO _ _ _) (XO _ _ _))))
theorem txt_ext: ∀{l m:AL PgD},(l.map fun e=>(e.1,e.2.ver))=(m.map fun e=>(e.1,e.2.ver))→(l.flatMap fun e=>Xi e.1++Xi e.2.ver)=m.flatMap fun e=>Xi e.1++Xi e.2.ver:= fun {l m} h=> by
  have e: ∀l:AL PgD,(l.flatMap fun e=>Xi e.1++Xi e.2.ver)=(l.map fun e=>(e.1,e.2.ver)).flatMap fun p=>Xi p.1++Xi p.2:= fun l=> by rw[List.flatMap_map]
  rw[e,e,h]
theorem OB {l:AL PgD} (hs:Srt l) {i:Int} {p q:PgD} (hg:QN l i=some p) (hv:q.ver=p.ver):((X6 i q l).map fun e=>(e.1,e.2.ver))=l.map fun e=>(e.1,e.2.ver):= by
  induction l with
  | nil=> cases hg
  | cons e l ih=>
    rw[XE]at hg
    unfold X6
    by_cases h1:e.1<i
    · rw[if_neg (by omega)]at hg
      rw[if_pos h1,List.map_cons,List.map_cons,ih hs.tail hg]
    · rw[if_neg h1]
      by_cases h2:e.1=i
      · rw[if_pos h2]at hg⊢
        cases hg
        rw[List.map_cons,List.map_cons,hv,←h2]
      · rw[if_neg h2]at hg
        have :=hs.head i (Jv.1 ⟨_,hg⟩)
        omega
theorem EY {s:SeD} (hs:Srt s.pages) {i:Int} {p q:PgD} (hg:QN s.pages i=some p) (hv:q.ver=p.ver):Xf {s with pages:=X6 i q s.pages}=Xf s:= by
  have h1:=OB hs hg hv
  have h2:=congrArg List.length h1
  rw[List.length_map,List.length_map]at h2
  unfold Xf
  dsimp only
  rw[h2,txt_ext h1]
theorem Dm: ∀(l:AL Bs) (last:Int),Jt last l=true→(XY l).Pairwise (· < ·)∧ ∀e∈l,last<e.1∧e.1≤1099511627776∧e.2.length=64
  | [],_,_=>⟨List.Pairwise.nil, fun e q=>(by cases q)⟩
  | e::l,last,h=> by
    unfold Jt at h
    simp only[Bool.and_eq_true,decide_eq_true_eq]at h
    obtain⟨⟨⟨h1,h2⟩,h3⟩,h4⟩:=h
    obtain⟨a,b⟩:=Dm l e.1 h4
    refine⟨List.pairwise_cons.2 ⟨fun k hk=> ?_,a⟩, fun f hf=> ?_⟩
    · obtain⟨f,hf,rfl⟩:=List.mem_map.1 hk
      exact(b f hf).1
    · rcases List.mem_cons.1 hf with q | q
      · rw[q]; exact⟨h1,h2,h3⟩
      · have :=b f q; exact⟨by omega,this.2⟩
theorem Km {s:SsD} (h:Zi s=true):Jt 0 s.sheets=true∧s.state.length≤1048576∧s.sheets.length≤8192:= by
  unfold Zi at h
  simp only[Bool.and_eq_true,decide_eq_true_eq]at h
  exact⟨h.1.1,h.1.2,h.2⟩
theorem sesOf_W {s:SsD} (h:Zi s=true):SeW (Yr s):= by
  obtain⟨h1,h2,h3⟩:=Km h
  obtain⟨a,b⟩:=Dm _ _ h1
  refine⟨?_, by show(List.map _ _).length≤_; rw[List.length_map]; exact h3,h2,L6, fun e he=> ?_⟩
  · unfold Srt Yr XY at *; rw[List.map_map]; exact a
  · obtain⟨f,hf,rfl⟩:=List.mem_map.1 he
    have :=b f hf
    exact⟨by show Xy f.1;unfold Xy;omega,L6,XF, by show f.2.length≤64;omega⟩
structure MsW (m:MsD):Prop where
  k:Xy m.kind
  mv:0≤m.move∧m.move≤4611686018427387904
  a:Xy m.a
  b:Xy m.b
  d:m.data.length≤1000
theorem OU {n:Int} (h:0≤n∧n≤4611686018427387904):OfW ⟨n,[],0,[],[]⟩:= by
  refine⟨List.Pairwise.nil,List.Pairwise.nil, ?_,⟨Int.le_refl 0,(by show(0:Int)≤8000;omega)⟩, ?_, by simp,h⟩<;> intro e q<;> cases q
section
variable {E E':EnD} {s:SeD} {m:MsD} {o:OfD} {l:AL PgD}
theorem VF (h:EW E) {n:Int} (hn:0≤n∧n≤4611686018427387904) (hj:Zr E n=some o):OfW o∧o.move=n∧E.kind≠1∧E.move<n:= by
  unfold Zr at hj
  split at hj
  · cases hj
  rename_i hc
  refine(fun q=>⟨q.1,q.2, by omega, by omega⟩:OfW o∧o.move=n→_) ?_
  cases ho:E.off with
  | none=> rw[ho]at hj; cases hj; exact⟨OU hn,rfl⟩
  | some o'=>
    rw[ho]at hj
    dsimp only at hj
    split at hj
    · cases hj
    split at hj
    · cases hj; exact⟨OU hn,rfl⟩
    · cases hj; exact⟨h.off _ ho, by omega⟩
theorem EW.offE (h:EW E) {o':OfD} (ho:OfW o') (hk:E.kind≠1) (hm:E.move<o'.move) (hu:E.cell≠none):EW {E with off:=some o'}:=
  ⟨h.km,h.ses, fun x q=>(by cases q; exact ho), fun _ x q=>(by cases q; intro z; have z:o'.move=E.move:=z;omega),h.k2,h.ac,h.nx,h.fz, fun q=>absurd q hu⟩
theorem EW.hearPage (h:EW E) (hm:MsW m) (hu:E.cell≠none):EW (Xp E m):= by
  unfold Xp
  split
  · rename_i hk
    cases hj:Zr E m.move with
    | none=> exact h
    | some o=>
      dsimp only
      obtain⟨h1,h2,h3,h4⟩:=VF h hm.mv hj
      refine h.offE ?_ h3 ?_ hu
      · exact WT (P:=OfW) (fun _=>⟨h1.ps,h1.gs.put,h1.pl,h1.mn,MS h1.gl ⟨hm.a,hm.b,XF,hm.d⟩,h1.ln,h1.mv⟩) (fun _=>h1)
      · exact WT (P:= fun x:OfD=>E.move<x.move) (fun _=> by show E.move<o.move;omega) (fun _=> by omega)
  · rename_i hk
    cases hs:E.ses with
    | none=> exact h
    | some s=>
      dsimp only
      split
      · exact h
      rename_i hl
      cases hg:QN s.pages m.a with
      | none=> exact h
      | some p=>
        dsimp only
        split
        · have hw:=h.ses s hs
          have hp:=hw.pg _ (JC hg)
          have hq:SeW {s with pages:=X6 m.a {p with miss:=false,data:=m.data} s.pages}:=hw.put (c:=s.count) hp.1 ⟨hp.2.1,hp.2.2.1, by show m.data.length≤64;omega⟩ hw.cnt (.inl (by rw[hg];rfl))
          have hL:Xf {s with pages:=X6 m.a {p with miss:=false,data:=m.data} s.pages}=Xf s:=EY hw.srt hg Qa
          refine⟨h.km, fun x q=>(by cases q; exact hq),h.off,h.rdy, fun q=> ?_, fun q=>⟨(h.ac q).1,_,rfl⟩, fun q x hx=> ?_, fun q r=> ?_, fun q=>absurd q hu⟩
          · have q:E.kind=2:=q
            omega
          · cases hx; rw[hL]; exact h.nx q s hs
          · rcases h.fz q r with z | z
            · exact .inl z
            · rw[hs]at z; cases z
        · exact h
theorem M8 {l:AL Bs} {n:Nat} (h: ∀e∈l,e.2.length≤n) (i:Int):((QN l i).getD []).length≤n:= by
  cases q:QN l i with
  | none=> simp
  | some x=> exact h _ (JC q)
theorem G5 {f:Nat→Bs} {n:Nat} (h: ∀i,(f i).length≤n): ∀k,((List.range k).flatMap f).length≤k*n
  | 0=> by simp
  | k+1=> by
    rw[List.range_succ,List.flatMap_append,List.length_append,List.flatMap_cons,List.flatMap_nil,List.append_nil,Nat.succ_mul]
    have :=G5 h k
    have :=h k
    omega
theorem Ml (h:OfW o):(ZC o).length≤8000000:= by
  have :=G5 (f:= fun (i:Nat)=>(QN o.parts (i:Int)).getD []) (n:=1000) (fun i=>M8 (fun e he=>(h.pl e he).2.2) _) o.many.toNat
  have :=h.mn
  unfold ZC;omega
theorem DW (h:OfW o) {b:Int} (hb:1≤b∧b≤8000):OfW (Xr o b):= by
  unfold Xr
  split
  · rename_i q
    exact⟨h.ps,h.gs, fun e he=>(by have he:e∈o.parts:=he; rw[q]at he; cases he), by show 0≤b∧b≤8000;omega,h.gl,h.ln,h.mv⟩
  · exact h
theorem FU (h:OfW o) (hm:MsW m) (ha:0≤m.a∧m.a<o.many):OfW (Ww o m):= by
  unfold Ww
  split
  · exact h
  · exact⟨h.ps.put,h.gs,MS h.pl ⟨ha.1,ha.2,hm.d⟩,h.mn,h.gl,h.ln,h.mv⟩
theorem Vm {b:Int}:(Xr o b).move=o.move:= by unfold Xr;split<;>rfl
theorem DD:(Ww o m).move=o.move:= by unfold Ww;split<;>rfl
theorem AQ:(Ww o m).many=o.many:= by unfold Ww;split<;>rfl
theorem EW.ready (h:EW E) {n:Int} (hn:0≤n∧n≤4611686018427387904) (hk:E.kind≠1) (hu:E.cell≠none) (hp: ∀o,E.off=some o→o.move=n→(Wp o.list).2=true):EW (Yx E n).1:= by
  unfold Yx
  by_cases e:(QS E 2 n).1=0
  · rw[if_neg (by simpa using e)]
    obtain⟨D,C,e2⟩:=Ym e hu
    rw[e2]
    have ha:E.active=false:= by
      cases q:E.active with
      | false=>rfl
      | true=> exact absurd (h.ac q).1 hk
    refine⟨⟨by show(0:Int)≤2;omega, by show(2:Int)<4;omega,hn.1, by show Xy n;unfold Xy;omega⟩, fun x q=>(by cases q),h.off, fun _ o q z=>hp o q z, fun _=>rfl, fun q=> ?_, fun q=> ?_, fun q=>(by cases q), fun q=>(by cases q)⟩
    · have q:E.active=true:=q
      rw[ha]at q; cases q
    · have q:E.active=true:=q
      rw[ha]at q; cases q
  · rw[if_pos e]; exact EW.note_bad e hu
theorem EW.hearPart (h:EW E) (hm:MsW m) (hu:E.cell≠none):EW (Xo E m).1:= by
  unfold Xo
  split
  · exact h
  rename_i hr
  cases hj:Zr E m.move with
  | none=> exact h
  | some o=>
    dsimp only
    obtain⟨h1,h2,h3,h4⟩:=VF h hm.mv hj
    have s1:OfW (Xr o m.b):=DW h1 (by omega)
    have s2:E.move<(Xr o m.b).move:= by rw[Vm,h2]; exact h4
    split
    · exact h.offE s1 h3 s2 hu
    rename_i hb
    have t1:OfW (Ww (Xr o m.b) m):=FU s1 hm (by omega)
    have t2:E.move<(Ww (Xr o m.b) m).move:= by rw[DD]; exact s2
    split
    · exact h.offE t1 h3 t2 hu
    split
    · exact h.offE t1 h3 t2 hu
    rename_i hpz
    have u1:OfW {Ww (Xr o m.b) m with list:=ZC (Ww (Xr o m.b) m)}:=⟨t1.ps,t1.gs,t1.pl,t1.mn,t1.gl,Ml t1,t1.mv⟩
    refine(h.offE (o':={Ww (Xr o m.b) m with list:=ZC (Ww (Xr o m.b) m)}) u1 h3 t2 hu).ready hm.mv h3 hu fun x q _=> ?_
    cases q
    show(Wp (ZC (Ww (Xr o m.b) m))).2=true
    cases z:(Wp (ZC (Ww (Xr o m.b) m))).2 with
    | true=>rfl
    | false=> exact absurd z hpz
theorem EW.hearTarget (h:EW E) (hu:E.cell≠none):EW (Xh E m).1:= by
  unfold Xh
  split
  · exact h
  split
  · exact h
  rename_i hk
  split
  · by_cases e:(QS E 3 E.move).1=0
    · rw[if_neg (by simpa using e)]
      obtain⟨D,C,e2⟩:=Ym e hu
      rw[e2]
      exact⟨⟨by show(0:Int)≤3;omega, by show(3:Int)<4;omega,h.km.2.2.1,h.km.2.2.2⟩,h.ses,h.off, fun q=>(by cases q), fun q=>(by cases q), fun q=>(by cases q), fun q=>(by cases q), fun q=>(by cases q), fun q=>(by cases q)⟩
    · rw[if_pos e]; exact EW.note_bad e hu
  split
  · exact⟨h.km,h.ses,h.off,h.rdy,h.k2, fun q=>(by cases q), fun q=>(by cases q), fun _ q=>(by cases q), fun q=>absurd q hu⟩
  · exact h
theorem OF: ∀(n:Nat) (z:Bs×Bool) (last:Int) (l:AL PgD),Ut n z last=some l→Srt l∧l.length≤n∧(∀e∈l,last<e.1)∧ ∀e∈l,Xy e.1∧Xy e.2.ver∧Xy e.2.sent∧e.2.data.length≤64
  | 0,z,last,l,h=> by
    unfold Ut at h; cases h
    exact⟨List.Pairwise.nil,Nat.le_refl _, fun e q=>(by cases q), fun e q=>(by cases q)⟩
  | n+1,z,last,l,h=> by
    unfold Ut at h
    split at h
    · cases h
    rename_i hc
    cases hq:Ut n (Zh 59 (-9223372036854775808:Int) (Zh 59 (-9223372036854775808:Int) z)) (Zl 59 (-9223372036854775808:Int) z)with
    | none=> rw[hq]at h; cases h
    | some m=>
      rw[hq]at h
      cases h
      obtain⟨a,b,c,d⟩:=OF n _ _ _ hq
      refine⟨List.pairwise_cons.2 ⟨fun k hk=> ?_,a⟩, by simpa using b, fun e he=> ?_, fun e he=> ?_⟩
      · obtain⟨e,he,rfl⟩:=List.mem_map.1 hk
        exact c e he
      · rcases List.mem_cons.1 he with q | q
        · rw[q]; show last<Zl 59 (-9223372036854775808:Int) z;omega
        · have :=c e q;omega
      · rcases List.mem_cons.1 he with q | q
        · rw[q]; exact⟨Yl _ _ _,Yl _ _ _,XF, by simp⟩
        · exact d e q
theorem TO {l:AL PgD} (h: ∀e∈l,Xy e.2.ver):Xy (Hh l):= by
  have : ∀(l:AL PgD) (c:Int),Xy c→(∀e∈l,Xy e.2.ver)→Xy (l.foldl (fun c e=>max c e.2.ver) c):= fun l=> by
    induction l with
    | nil=> intro c hc _; exact hc
    | cons e l ih=>
      intro c hc h
      refine ih _ ?_ fun f hf=>h f (List.mem_cons_of_mem _ hf)
      have :=h e List.mem_cons_self
      show Xy (max c e.2.ver)
      unfold Xy at *;omega
  exact this l 0 XF h
theorem OO {l:Bs} {s:SeD} (h:(Wp l).1=some s) (h2:(Wp l).2=true):SeW s:= by
  unfold Wp at h h2
  cases hp:Ut (min (Zl 59 0 (Uo (l,false))) 8193).toNat (Zh 59 0 (Uo (l,false))) 0 with
  | none=> rw[hp]at h; cases h
  | some pg=>
    rw[hp]at h h2
    cases h
    simp only[Bool.and_eq_true,decide_eq_true_eq]at h2
    obtain⟨a,b,c,d⟩:=OF _ _ _ _ hp
    exact⟨a,h2.1.2,h2.1.1,TO fun e he=>(d e he).2.1,d⟩
theorem Pk {l:Bs} (h2:(Wp l).2=true): ∃s,(Wp l).1=some s:= by
  unfold Wp at h2⊢
  cases hp:Ut (min (Zl 59 0 (Uo (l,false))) 8193).toNat (Zh 59 0 (Uo (l,false))) 0 with
  | none=> rw[hp]at h2; cases h2
  | some pg=> exact⟨_,rfl⟩
theorem fillG_W {l:AL PgD} {o:OfD} {s:SeD} (h:SeW s):SeW {s with pages:=U0 o s.pages}:= by
  refine h.map (f:= fun e=> match QN o.pages e.1 with | none=>e.2 | some g=> if g.ver=e.2.ver∧g.data.length=64 then⟨g.data,e.2.ver,0,false⟩else e.2) (fun e he=> ?_) rfl
  have hp:=h.pg e he
  split
  · exact hp.2
  · split
    · rename_i q; exact⟨hp.2.1,XF,Nat.le_of_eq q.2⟩
    · exact hp.2
theorem EW.hearGiven (h:EW E) (hm:MsW m) (hu:E.cell≠none):EW (XB E m):= by
  unfold XB
  split
  · exact h
  rename_i hk
  have hk2:E.kind=2:= by omega
  have hmv:m.move=E.move:= by omega
  by_cases e:(QS E 1 m.move).1=0
  · rw[if_neg (by simpa using e)]
    obtain⟨D,C,e2⟩:=Ym e hu
    rw[e2]
    have hs0:=h.k2 hk2
    have ha:E.active=false:= by
      cases q:E.active with
      | false=>rfl
      | true=> have :=(h.ac q).1;omega
    have key:EW {E with D:=D,cell:=some C,kind:=1,move:=m.move,off:=none}:= by
      refine⟨⟨by show(0:Int)≤1;omega, by show(1:Int)<4;omega,hm.mv.1, by have :=hm.mv; show Xy m.move;unfold Xy;omega⟩,h.ses, fun x q=>(by cases q), fun _ x q=>(by cases q), fun q=>(by cases q), fun q=> ?_, fun q=> ?_, fun _ _=> .inr hs0, fun q=>(by cases q)⟩
      · have q:E.active=true:=q
        rw[ha]at q; cases q
      · have q:E.active=true:=q
        rw[ha]at q; cases q
    cases ho:E.off with
    | none=> exact key
    | some o=>
      dsimp only
      split
      · exact key
      rename_i hom
      have hr:=h.rdy hk2 o ho (by omega)
      obtain⟨s,hs⟩:=Pk hr
      rw[hs]
      refine⟨key.km, fun x q=> ?_,key.off,key.rdy, fun q=>(by cases q), fun q=>(by cases q), fun q=>(by cases q), fun _ q=>(by cases q), fun q=>(by cases q)⟩
      cases q
      exact fillG_W (l:=[]) (OO hs hr)
  · rw[if_pos e]; exact EW.note_bad e hu
theorem EW.hearNo (h:EW E) (hm:MsW m) (hu:E.cell≠none):EW (WF E m):= by
  unfold WF
  split
  · rename_i hk
    by_cases e:(QS E 0 m.move).1=0
    · rw[if_neg (by simpa using e)]
      obtain⟨D,C,e2⟩:=Ym e hu
      rw[e2]
      have ha:E.active=false:= by
        cases q:E.active with
        | false=>rfl
        | true=> have :=(h.ac q).1;omega
      refine⟨⟨by show(0:Int)≤0;omega, by show(0:Int)<4;omega,hm.mv.1, by have :=hm.mv; show Xy m.move;unfold Xy;omega⟩,h.ses, fun x q=>(by cases q), fun q=>(by cases q), fun q=>(by cases q), fun q=> ?_, fun q=> ?_, fun q=>(by cases q), fun q=>(by cases q)⟩
      · have q:E.active=true:=q
        rw[ha]at q; cases q
      · have q:E.active=true:=q
        rw[ha]at q; cases q
    · rw[if_pos e]; exact EW.note_bad e hu
  · exact h
theorem EW.hearGone (h:EW E) (hu:E.cell≠none):EW (ZL E m):= by
  unfold ZL
  split
  · rename_i q0
    exact⟨h.km, fun x q=>(by cases q),h.off,h.rdy, fun _=>rfl, fun q=>(by have q:E.active=true:=q; rw[q0.2.2.1]at q; cases q), fun q=>(by have q:E.active=true:=q; rw[q0.2.2.1]at q; cases q), fun _ _=> .inr Qa, fun q=>absurd q hu⟩
  · exact h
theorem EW.hearDone (h:EW E) (hu:E.cell≠none):EW (Z6 E m).1:= by
  unfold Z6
  split
  · exact h
  rename_i hk
  exact⟨h.km, fun x q=>(by cases q),h.off,h.rdy, fun _=>rfl, fun q=>(by have :=(h.ac q).1;omega), fun q=>(by have :=(h.ac q).1;omega), fun _ _=> .inr Qa, fun q=>absurd q hu⟩
theorem EW.hearOk (h:EW E) (hu:E.cell≠none):EW (Jd E m):= by
  unfold Jd
  split
  · exact⟨h.km,h.ses,h.off,h.rdy,h.k2,h.ac,h.nx,h.fz, fun q=>absurd q hu⟩
  · exact h
theorem EW.hear (h:EW E) {s:Bs} (hs:s.length≤1000):EW (X9 E s).1:= by
  unfold X9
  split
  · exact h
  rename_i hc
  have hu:E.cell≠none:=RW fun q=>hc (.inl q)
  obtain⟨d1,d2,d3,d4,d5⟩:=VO s
  have hm:MsW (QU s):=⟨d1,⟨by omega, by omega⟩,d3,d4, by omega⟩
  unfold X8
  split
  · exact h.hearPage hm hu
  split
  · exact h.hearPart hm hu
  split
  · exact h.hearTarget hu
  split
  · exact h.hearGiven hm hu
  split
  · exact h.hearNo hm hu
  split
  · exact h
  split
  · exact h.hearGone hu
  split
  · exact h.hearDone hu
  · exact h.hearOk hu
theorem EW.begin (h:EW E) {s:SsD}:EW (Z3 E s).2:= by
  unfold Z3
  split
  · exact h
  rename_i hu
  have hu:=RW hu
  split
  · exact h
  rename_i hr
  have hr:Zi s=true:= by cases q:Zi s; exact absurd q hr;rfl
  split
  · exact h
  rename_i hst
  have hw:SeW (Yr s):=sesOf_W hr
  have key: ∀{k:Int} {n:Int} {D:DS} {C:Option CS},(C≠none)→k=1→0≤n→Xy n→EW {E with D:=D,cell:=C,kind:=k,move:=n,ses:=some (Yr s),active:=false,frozen:=false,told:=true}:= fun {k n D C} hC hk h0 hn=> by
    subst hk
    exact⟨⟨by show(0:Int)≤1;omega, by show(1:Int)<4;omega,h0,hn⟩, fun x q=>(by cases q; exact hw),h.off, fun q=>(by cases q), fun q=>(by cases q), fun q=>(by cases q), fun q=>(by cases q), fun _ q=>(by cases q), fun q=>absurd q hC⟩
  split
  · by_cases e:(QS E 1 1).1=0
    · rw[if_neg (by simpa using e)]
      obtain⟨D,C,e2⟩:=Ym e hu
      rw[e2]
      exact key (by intro q; cases q) Qa (by show(0:Int)≤1;omega) L6
    · rw[if_pos e]; exact EW.note_bad e hu
  · rename_i hf
    have :=key (k:=E.kind) (n:=E.move) (D:=E.D) (C:=E.cell) hu (by omega) h.km.2.2.1 h.km.2.2.2
    exact this
theorem new_W:EW JS:= by
  refine⟨⟨by decide, by decide, by decide,XF⟩, fun x q=>(by cases q), fun x q=>(by cases q), fun q=>(by cases q), fun _=>rfl, fun q=>(by cases q), fun q=>(by cases q), fun q=>(by cases q), fun q=>(by cases q)⟩
end
def Bl (l:AL PgD) (i:Int):Bool:= !(VZ (QN l i)).miss
def MisT (E:EnD) (t e:Nat):Th:=starL [QR t [ptrV e 0],Xs e E]
theorem Ps {l:AL PgD} (hs:Srt l):(XY l).filter (fun n=> !Bl l n)=Wd l:= by
  have key: ∀m:AL PgD,(∀e∈m,QN l e.1=some e.2)→(XY m).filter (fun n=> !Bl l n)=Wd m:= fun m=> by
    induction m with
    | nil=> intro _;rfl
    | cons e m ih=>
      intro h
      have h1:=h e List.mem_cons_self
      have h2:=ih fun f hf=>h f (List.mem_cons_of_mem _ hf)
      have h3:Bl l e.1= !e.2.miss:= by unfold Bl VZ; rw[h1];rfl
      show(e.1::XY m).filter _=((e::m).filter fun e=>e.2.miss).map (·.1)
      rw[List.filter_cons,List.filter_cons,h3,Bool.not_not]
      split
      · rw[List.map_cons,h2];rfl
      · exact h2
  exact key l fun e he=>Hk hs he
theorem OZ {w:World} {e t:Nat} {E:EnD} {F:Th} (hS:Sat w [MisT E t e,F]) {x:SeD} (hx:E.ses=some x) (id:Int):
    Calls prog 62 #[intV id,ptrV t 0] w (Ret fun v w'=>v= .bool (Bl x.pages id)∧Sat w' [MisT E t e,F]):= by
 refine Qy func62 Qa ntmps62 Qa ?_
 refine Qg (Qb (Qc Qa Qa (Qh (Qe (Qg ?_)))))
 have hS1:=Sat.flat (hS.pick [0,1] Qa)
 dsimp only[zqc,zqd]at hS1
 obtain⟨dp,cv,sv,ov,hS2⟩:=QW (hS1.pick [1,0,2] rfl)
 rw[hx]at hS2
 obtain⟨sb,sm,rfl,hS3⟩:=Zn (hS2.pick [3,0,1,2,4,5,6] rfl)
 refine Qb (Qp Qa Yv (hS3.cell 6 Qa Qa) Qa (Ql Qa Qa (Qi Qa Xm Qa (Qp Qa Z8 (hS3.cell 2 Qa Qa) Qa (Ql Qa Qa (Qi Qa ZH Qa (Qp Qa ZZ (hS3.cell 0 Qa Qa) Qa (Qd Qa Qa (Hy (k:=id) 1 hS3 keysInt underlying89 Qa Qa Qa Wg (YB x.pages id) Qa (DH fv_94_3 Qa Qa Qa (XS Qa Qa (Qc Qa Qa (Qh (Qe (Qk [3] Qa (Qo (Q7 (.inr Qa) Qa Qa ?_)))))))))))))))))
 exact⟨_,rfl,rfl,Sat.fold (As:=[QR t [ptrV e 0],Xs e E]) ((Qu (E:=E) (by rw[hx]; exact(Xg (s:=x) (hS3.pick [0,1,2,3,4,5,6,7] Qa)).reorder [1,2,3,0,4,5,6] Qa)).reorder [1,0,2] Qa)⟩
theorem miss_pr {t e:Nat} {E:EnD} {x:SeD} (hx:E.ses=some x):PrG prog 62 [ptrV t 0] (MisT E t e) (Bl x.pages):=⟨cal_62, fun n w Y hS=>OZ hS hx n⟩
theorem J6 {w:World} {e:Nat} {E:EnD} {F:Th} (hS:Sat w [Xs e E,F]) (hw: ∀x,E.ses=some x→SeW x):
    Calls prog 27 #[ptrV e 0] w (Ret fun v w'=>Sat w' [rowT inC v (QP E),Xs e E,F]):= by
 refine Qy func27 Qa ntmps27 Qa ?_
 refine Qg (Qb (XZ hS Qa Qa Qa ?_))
 intro t w1 hS10
 have hS1:Sat w1 (QR t [ptrV e 0]::_):=hS10
 refine Qc Qa Qa (Qh (Qe (Qg (Qg ?_))))
 obtain⟨dp,cv,sv,ov,hS2⟩:=QW (hS1.pick [1,0,2] rfl)
 refine Qb (Qp Qa Yv (hS2.cell 5 Qa Qa) Qa (Ql Qa Qa (Qi Qa Xm Qa (Qp Qa Z8 (hS2.cell 0 Qa Qa) Qa ?_))))
 rcases hq_s:E.ses with _ | s
 ·rw[hq_s]at hS2
  obtain⟨rfl,hSo3⟩:=WM (hS2.pick [3,0,1,2,4,5,6] rfl)
  refine ZN underlying78 Qa Qa Qa (Qh (Qe (QL Qa (Qg (Qb (Qc Qa Qa (Qh (Qe (Qo (Qm (Q7 (.inr Qa) Qa Qa ?_)))))))))))
  exact⟨_,rfl, by unfold QP; rw[hq_s]; exact Sat.row_nil inC (Qu (E:=E) (by rw[hq_s]; exact((ZQ hSo3).pick [1,2,3,0,4,6] Qa)))⟩
 rw[hq_s]at hS2
 obtain⟨sb,sm,rfl,hSo4⟩:=Zn (hS2.pick [3,0,1,2,4,5,6] rfl)
 refine ZJ underlying78 Qa Qa Qa (Qh (Qe (QF Qa (Qr (Qe (Qg (Qb (Qp Qa Yv (by first | assumption | exact hSo4.cell 0 Qa Qa | exact hSo4.cell 2 Qa Qa | exact hSo4.cell 6 Qa Qa) Qa ?_))))))))
 refine Ql Qa Qa (Qi Qa Xm Qa (Qp Qa Z8 (hSo4.cell 2 Qa Qa) Qa ?_))
 refine Q4 Nt Qa (CM (hSo4.sp [0,1] Qa) (hw s hq_s).srt (by have :=(hw s hq_s).num;omega)) Qa ?_
 rintro _ w5 hS5
 replace hS5:=hS5.jn Qa Qa
 clear hSo4
 have h1v:=hS5.own_one 0 Qa
 refine U8 Qa Qa ?_
 have hS6:=Qu (E:=E) (by rw[hq_s]; exact((Xg (hS5.pick [1,2,0,3,4,5,6,7,8] Qa)).pick [2,3,4,0,5,1,6,7] Qa))
 have hS7:=Sat.fold (As:=[QR t [ptrV e 0],Xs e E]) (hS6.pick [2,0,1,3] Qa)
 refine Q4 cal_60 Qa (delF_sp (caps:=[ptrV t 0]) (miss_pr hq_s) (hS7.sp [1,0] Qa) (by unfold XY; rw[List.length_map]; have :=(hw s hq_s).num;omega)) Qa ?_
 rintro _ w8 hS8
 replace hS8:=hS8.jn Qa Qa
 have h1v:=hS8.own_one 0 Qa
 refine Qc Qa Qa (Qh (Qe (Qk [2] Qa (Qo (Q7 (.inr Qa) Qa Qa ?_)))))
 have hz:=(hS8.pick [1,0,2] Qa).flat; dsimp only[MisT,zqc,zqd]at hz
 exact⟨_,rfl, by unfold QP; rw[hq_s]; dsimp only; rw[←Ps (hw s hq_s).srt]; exact hz.pick [2,1,3] Qa⟩
