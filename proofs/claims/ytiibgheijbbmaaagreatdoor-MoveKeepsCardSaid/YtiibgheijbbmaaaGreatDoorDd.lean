/- disk: slices.DeleteFunc -/
import Derived.Test.YtiibgheijbbmaaaGreatDoorSrt
set_option linter.unusedVariables false
set_option maxRecDepth 100000
namespace Go.Proofs.YtiibgheijbbmaaaGreatDoor
open Go.RowKit M Proofs.Tryz
structure Thin (f:Int) (Q R:List (Int×Int)) (i j:Nat):Prop where
  len:R.length=Q.length
  le:i≤j
  jle:j≤Q.length
  kept:R.take i=(Q.take j).filter fun p=>p.1≠f
  rest:R.drop j=Q.drop j
theorem Thin.start {f:Int} {Q:List (Int×Int)} {k:Nat} {p:Int×Int} (h:Q[k]? =some p) (he:p.1=f) (hno: ∀j q,j<k→Q[j]? =some q→q.1≠f):Thin f Q Q k (k+1):= by
  have hk:=(Jh h).1
  refine⟨rfl, by omega, by omega, ?_,rfl⟩
  rw[List.take_add_one,h,List.filter_append]
  have h1:(Q.take k).filter (fun p=>decide (p.1≠f))=Q.take k:= by
    rw[List.filter_eq_self]
    intro q hq
    obtain⟨j,hj⟩:=List.mem_iff_getElem?.1 hq
    rw[List.getElem?_take]at hj
    split at hj
    · simpa using hno j q (by assumption) hj
    · cases hj
  rw[h1]
  simp [he]
theorem Thin.get {f:Int} {Q R:List (Int×Int)} {i j:Nat} (h:Thin f Q R i j) (hj:j<Q.length):R[j]? =Q[j]? := by
  have :=congrArg (fun l=>l[0]?) h.rest
  simpa using this
theorem Thin.skip {f:Int} {Q R:List (Int×Int)} {i j:Nat} {p:Int×Int} (h:Thin f Q R i j) (hp:Q[j]? =some p) (he:p.1=f):Thin f Q R i (j+1):= by
  have hj:=(Jh hp).1
  refine⟨h.len, by have :=h.le;omega, by omega, ?_, ?_⟩
  · rw[List.take_add_one,hp,List.filter_append,←h.kept]; simp [he]
  · rw[←List.drop_drop,←List.drop_drop,h.rest]
theorem Thin.keep {f:Int} {Q R:List (Int×Int)} {i j:Nat} {p:Int×Int} (h:Thin f Q R i j) (hp:Q[j]? =some p) (he:p.1≠f):Thin f Q (R.set i p) (i+1) (j+1):= by
  have hj:=(Jh hp).1
  have hle:=h.le
  have hil:i<R.length:= by rw[h.len];omega
  refine⟨by simp [h.len], by omega, by omega, ?_, ?_⟩
  · rw[List.take_add_one (l:=Q),hp,List.filter_append,←h.kept,List.take_add_one]
    simp [he,hil]
    exact List.take_set_of_le (Nat.le_refl _)
  · rw[List.drop_set_of_lt (by omega),←List.drop_drop,h.rest,List.drop_drop]
theorem AX {R:List (Int×Int)} {i:Nat} {p:Int×Int} (h:i<R.length):XF (Z9 R) (i*2) [intV p.1,intV p.2]=Z9 (R.set i p):= by
  induction R generalizing i with
  | nil=> simp at h
  | cons q R ih=>
    cases i with
    | zero=> simp [Z9,XF]
    | succ i=>
      have :=ih (by simpa using h)
      rw[show(i+1)*2=[intV q.1,intV q.2].length+i*2 by simp;omega]
      have e1:Z9 (q::R)=[intV q.1,intV q.2]++Z9 R:=rfl
      rw[e1,HR,this]
      rfl
theorem Bc (R:List (Int×Int)) (i:Nat):(Z9 R).take (i*2)=Z9 (R.take i):= by
  induction R generalizing i with
  | nil=> simp [Z9]
  | cons q R ih=>
    cases i with
    | zero=> simp [Z9]
    | succ i=>
      rw[show(i+1)*2=i*2+2 by omega]
      have e1:Z9 (q::R)=intV q.1::intV q.2::Z9 R:=rfl
      rw[e1]
      simp only[List.take_succ_cons,ih]
      rfl
theorem PZ {f:Int} {Q:List (Int×Int)} (h: ∀p∈Q,p.1≠f):(Q.filter fun p=>p.1≠f)=Q:=List.filter_eq_self.2 fun p hp=> by simpa using h p hp
theorem clearX {R:List (Int×Int)} {i n cap:Nat} (hi:i≤n) (hn:R.length=n∧n≤cap): ∃X:List Value,XF (Z9 R) (if cap=i then 0 else 0+i*2) (List.replicate (n -i) (Value.agg #[.int .i64 0,.int .i64 0]).cells.toList).flatten=Z9 (R.take i)++X∧True:= by
  by_cases hc:cap=i
  · have :n -i=0:= by omega
    rw[if_pos hc,this]
    refine⟨(Z9 R).drop (i*2), ?_,trivial⟩
    rw[←Bc]
    simp [XF]
  · rw[if_neg hc]
    refine⟨(List.replicate (n -i) (Value.agg #[.int .i64 0,.int .i64 0]).cells.toList).flatten++(Z9 R).drop (0+i*2+(List.replicate (n -i) (Value.agg #[.int .i64 0,.int .i64 0]).cells.toList).flatten.length), ?_,trivial⟩
    rw[←Bc]
    simp [XF]
theorem delEnd {w:World} {F:Th} {f:Int} {Q R:List (Int×Int)} {i j b cap:Nat} {X:List Value} (hT:Thin f Q R i j) (hj: ¬j<Q.length) (h:Sat w [XH (.slice (some ⟨b,0,none⟩) Q.length cap) Q.length 2 (Z9 (R.take i)++X),F]):
    Sat w [XH (.slice (some ⟨b, if cap=0 then 0 else 0+0*2,none⟩) (i -0) (cap -0)) (Q.filter fun p=>p.1≠f).length 2 (Z9 (Q.filter fun p=>p.1≠f)),F]:= by
  have hle:=hT.le; have hjl:=hT.jle; have hlen:=hT.len
  have hjq:j=Q.length:= by omega
  have hk:=hT.kept
  rw[hjq,List.take_length]at hk
  have hl:(Q.filter fun p=>p.1≠f).length=i:= by rw[←hk,List.length_take,hlen];omega
  have :=h.own_head 0 Qa Qa (q:=i) (by omega)
  dsimp only[List.set]at this
  rw[List.take_append_of_le_length (by rw[UC,List.length_take];omega),Bc,List.take_take,Nat.min_self,hk]at this
  rw[hl]
  simpa using this
theorem Io {w:World} {F:Th} {qv:Value} {Q:List (Int×Int)} (hS:Sat w [XH qv Q.length 2 (Z9 Q),F]) {c:Nat} {f:Int} (hc:Ent F (Bz c f)) (hl:Q.length≤4194320):
    Calls prog 113 #[qv,.func (.func 114) #[] #[ptrV c 0]] w (Ret fun v w'=>Sat w' [XH v (Q.filter fun p=>p.1≠f).length 2 (Z9 (Q.filter fun p=>p.1≠f)),F]):= by
 refine Qx func113 Qa ntmps113 Qa ?_
 refine Qg (Qb (Qc Qa Qa (Qh (Qd (Qg (Qb (Qe Qa Qa (Qe Qa Qa (Qz cal_129 Qa (OF (hS.sp [0] Qa) (hc.starL 0 Qa) hl) Qa ?_)))))))))
 rintro _ w1 ⟨r,rfl,hr,hS1⟩
 replace hS1:=hS1.jn Qa Qa
 refine Qc Qa Qa (Qh (Qd (Qg (Qg (Qb (Qe Qa Qa (QL Qa Qa Qa (Qh (Qd (Qt Qa (fun h2=> ?_) (fun h2=> ?_)))))))))))
 ·have hr1:r= -1:=h2
  refine Qg (Qb (Qe Qa Qa (Qc Qa Qa (Qh (Qd (Qo (Qm (Q5 (.inr Qa) Qa Qa ?_))))))))
  exact⟨_,rfl, by rw[PZ ((hr.resolve_right (by rintro⟨k,p,h,_⟩;omega)).2)]; exact hS1⟩
 obtain⟨k,p,rfl,hp,he,hno⟩:=hr.resolve_left (fun q=>h2 q.1)
 have hkl:=(Jh hp).1
 clear hr
 refine Qr (Qd (Qg (Qg (Qb (Qe Qa Qa (Xx Qa Qa (by omega) (by omega) Qa ?_))))))
 refine Qc Qa Qa (Qh (Qd (Qk [1,0,4,5,6] Qa (QD ?_))))
 refine X8 (fun K0 E0 W0=> ∃(i j:Nat) (R:List (Int×Int)),K0=Q.length -j∧E0=[(0,qv),(1,.func (.func 114) #[] #[ptrV c 0]),(5,intV (i:Int)),(6,intV (j:Int))]∧Sat W0 [XH qv Q.length 2 (Z9 R),F]∧(Thin f Q R i j)) (L0:=[(0,_),(1,_),(5,_),(6,_)]) (Q.length -(k+1)) (DB Qa Qa Qa Qa) ⟨k,k+1,Q, by omega,rfl,hS1,Thin.start hp he hno⟩ ?_
 rintro _ _ w3 ⟨i,j,R,rfl,rfl,hS3,hT⟩
 have hjl:=hT.jle
 have hil:=hT.le
 have hRl:=hT.len
 refine Qg (Qg (Qb (Qe Qa Qa (Qe Qa Qa ?_))))
 first | refine Xi underlying117 Qa Qa ?_ | refine Xs 0 hS3 underlying117 Qa Qa Qa ?_
 refine X0 Qa Qa Qa (Qh (Qd (Qt Qa (fun h4=> ?_) (fun h4=> ?_))))
 ·obtain⟨p,hp⟩: ∃p,Q[j]? =some p:=⟨_,WB (by omega)⟩
  refine Qr (Qd (Qg (QD (Qg (Qb (Qe Qa Qa (Qe Qa Qa (Va 0 j hS3 Qa Qa Qa Qa (by omega) Nd Qa ?_))))))))
  intro b cap hv
  refine RS 0 hS3 Qa hv Qa Hu Jr (SS (by rw[hT.get (by omega)]; exact hp)) Qa Qa ?_
  refine Xl hS3 GQ Qa Qa ?_
  intro b5 w5 hS5
  first | (refine QZ hS5 Qa Qa Jr Qa (by rfl) (i:=0) Qa (by decide) ?_)
  intro w6 hS7; dsimp only[List.set]at hS7
  refine Qh (Qd (Qk [6,5,1,0,7] Qa (Qg (Qb (Qe Qa Qa ?_)))))
  refine ZK Qa Hu Jr (by first | exact hS7.blk 0 Qa) (by first | decide | exact Xd Qa | (simp;done) | omega) Qa Qa ?_
  refine VV Qa L9 Qa (L7 (hS7.sp [] Qa) (hc.starL 2 Qa) _ _) Qa ?_
  rintro e w8 ⟨_,rfl,rfl,hS8⟩; refine⟨_,rfl, ?_⟩
  replace hS8:=hS8.jn Qa Qa
  refine XL Qa Qa (Qh (Qd (Xb Qa (fun h9=> ?_) (fun h9=> ?_))))
  ·have hne:p.1≠f:= by simpa using h9
   refine Qg (Qb (Qe Qa Qa (Qe Qa Qa ?_)))
   refine ZK Qa Hu Jr (by first | exact hS8.blk 0 Qa) (by first | decide | exact Xd Qa | (simp;done) | omega) Qa Qa ?_
   refine Va 1 i hS8 Qa Qa Qa Qa (by have :=hT.le;omega) Nd Qa ?_
   intro b2 cap2 hv2
   refine Tu 1 hS8 Qa hv2 Qa Qa Jr Qa Qa (by rw[UC]; have :=hT.le; have :=hT.len;omega) (AX (p:=p) (by have :=hT.le; have :=hT.len;omega)) ?_
   intro w9 hS9; dsimp only[List.set]at hS9
   refine Qh (Qd (Qk [6,5,1,0] Qa (Qb (Qe Qa Qa (Xx Qa Qa (by omega) (by omega) Qa ?_)))))
   refine Qc Qa Qa (Qh (Qp (Qd (Qb (Qe Qa Qa (Xx Qa Qa (by omega) (by omega) Qa ?_))))))
   refine Qc Qa Qa (Qh ?_)
   exact Xa (L1:=[(0,qv),(1,.func (.func 114) #[] #[ptrV c 0]),(5,intV ((i+1:Nat):Int)),(6,intV ((j+1:Nat):Int))]) (DB Qa Qa Qa Qa) (k1:=Q.length -(j+1)) (by omega) ⟨i+1,j+1,R.set i p, by omega,rfl,hS9.tail,hT.keep hp hne⟩
  have heq:p.1=f:= by simpa using h9
  refine Qr (Qp (Qd (Qb (Qe Qa Qa (Xx Qa Qa (by omega) (by omega) Qa ?_)))))
  refine Qc Qa Qa (Qh ?_)
  exact Xa (L1:=[(0,qv),(1,.func (.func 114) #[] #[ptrV c 0]),(5,intV (i:Int)),(6,intV ((j+1:Nat):Int))]) (DB Qa Qa Qa Qa) (k1:=Q.length -(j+1)) (by omega) ⟨i,j+1,R, by omega,rfl,hS8.tail,hT.skip hp heq⟩
 refine Xq (Q2 (Q2 (QH (Qd (Qg (Qb (Qe Qa Qa (Qe Qa Qa ?_))))))))
 obtain⟨b,cap,hv,hcap⟩:=hS3.own_at 0 rfl (by omega)
 subst hv
 refine DC i Q.length underlying117 Jr Qa (HL i _ Qa Qa) (Vz _) (by omega) (by omega) Qa ?_
 obtain⟨X,hX,hXl⟩: ∃X:List Value,XF (Z9 R) (if cap=i then 0 else 0+i*2) (List.replicate (Q.length -i) (Value.agg #[.int .i64 0,.int .i64 0]).cells.toList).flatten=Z9 (R.take i)++X∧True:=clearX (by omega) (by omega)
 refine GT 0 hS3 Qa Qa Qa underlying117 GQ Qa (by rw[UC];split<;> simp [Value.cells]<;>omega) hX Qa ?_
 intro w11 hS11; dsimp only[List.set,pd]at hS11⊢
 refine Qh (Qd (Qk [5,0] Qa (Qg (Qb (Qe Qa Qa (Qe Qa Qa (DC 0 i underlying117 Jr Qa (Vz _) (HL i _ Qa Qa) (by omega) (by omega) Qa ?_)))))))
 exact Qc Qa Qa (Qh (Qd (Qo (Q5 (.inr Qa) Qa Qa (⟨_,rfl,delEnd hT (by omega) hS11⟩)))))
def Out (f:Int) (g0 g:Int×Int→Option Value) (dn:Int×Int→Prop):Prop:= ∀p,(dn p→g p= if p.1=f then none else g0 p)∧(¬dn p→g p=g0 p)
theorem Out.next {f:Int} {g0 g:Int×Int→Option Value} {dn:Int×Int→Prop} {k:Int×Int} (h:Out f g0 g dn) (hk: ¬dn k) (hf:k.1≠f):Out f g0 g (fun j=>dn j∨j=k):= by
  intro p
  refine⟨fun hp=> ?_, fun hp=>(h p).2 fun q=>hp (.inl q)⟩
  rcases hp with hp | rfl
  · exact(h p).1 hp
  · rw[if_neg hf]; exact(h p).2 hk
theorem Out.del {f:Int} {g0 g:Int×Int→Option Value} {dn:Int×Int→Prop} {k:Int×Int} (h:Out f g0 g dn) (hf:k.1=f):Out f g0 (upd g k none) (fun j=>dn j∨j=k):= by
  intro p
  by_cases hp:p=k
  · subst hp; exact⟨fun _=> by rw[H3,if_pos hf], fun q=>absurd (.inr Qa) q⟩
  · rw[R1 hp]
    exact⟨fun q=>(h p).1 (q.resolve_right hp), fun q=>(h p).2 fun r=>q (.inl r)⟩
theorem Out.done {f:Int} {Q:List (Int×Int)} {g0 g:Int×Int→Option Value} {dn:Int×Int→Prop} (h:Out f g0 g dn) (hg: ∀p,g0 p= if p∈Q then some (.bool true)else none) (hd: ∀k v,g k=some v→dn k): ∀p,g p= if p∈Q.filter (fun p=>p.1≠f)then some (.bool true)else none:= by
  intro p
  by_cases hp:dn p
  · rw[(h p).1 hp,hg];by_cases e:p.1=f<;> simp [e]
  · have h1:=(h p).2 hp
    rw[h1]
    have hn:g p=none:= by cases hq:g p with | none=>rfl | some v=> exact absurd (hd p v hq) hp
    rw[←h1,hn]
    rw[h1,hg]at hn
    split at hn
    · cases hn
    · rename_i hm; rw[if_neg (fun q=>hm (List.mem_filter.1 q).1)]
theorem Out.val {f:Int} {Q:List (Int×Int)} {g0 g:Int×Int→Option Value} {dn:Int×Int→Prop} {k:Int×Int} {v:Value} (h:Out f g0 g dn) (hg: ∀p,g0 p= if p∈Q then some (.bool true)else none) (hk: ¬dn k) (hv:g k=some v):v= .bool true:= by
  rw[(h k).2 hk,hg]at hv
  split at hv
  · exact(Option.some.inj hv).symm
  · cases hv
theorem mdel_sp {w:World} {F:Th} {bs:Nat} {Q:List (Int×Int)} (hS:Sat w [YV bs Q,F]) {c:Nat} {f:Int} (hc:Ent F (Bz c f)):
    Calls prog 115 #[.map (some bs),.func (.func 116) #[] #[ptrV c 0]] w (Ret fun v w'=>v= .tuple #[]∧Sat w' [YV bs (Q.filter fun p=>p.1≠f),F]):= by
 obtain⟨g0,hgs,hS⟩:=Ba hS
 refine Qx func115 Qa ntmps115 Qa ?_
 refine Qg (Qb (Qe Qa Qa (VT 0 hS underlying118 Qa Qa Qa ?_)))
 intro r1 left1 w1 hS1; dsimp only[List.set]at hS1
 refine Qh (Qd (QD (X8 (fun K0 E0 W0=> ∃(g:Int×Int→Option Value) (dn:Int×Int→Prop) (cur:Option (Int×Int)) (left:Nat),K0=left∧E0=[(0,.map (some bs)),(1,.func (.func 116) #[] #[ptrV c 0]),(7,ptrV r1 0)]∧Sat W0 [YD Wq bs r1 g dn cur left,F]∧(Out f g0 g dn)) (L0:=[(0,_),(1,_),(7,_)]) (left1) (BC Qa Qa Qa) ⟨g0,_,_,_,rfl,rfl,hS1, fun p=>⟨fun h=>h.elim, fun _=>rfl⟩⟩ ?_)))
 rintro _ _ w2 ⟨g,dn,cur,left,rfl,rfl,hS2,hout⟩
 refine Qg (Qb (RO 0 hS2 keysSec.inj Qa Qa Qa (fun hdone=> ?_) (fun k v left2 w2 hleft hgk hnd hS2=> ?_)))
 ·exact Q6 Qa Qa Qa (Qh (Qd (Qg (QI Qa (Xq (Q2 (Q2 (QH (Y4 (.inl Qa) Qa (⟨_,Qa,Qa,YK g (hout.done hgs hdone) (Vi hS2)⟩))))))))))
 dsimp only[List.set]at hS2; obtain rfl:=hout.val hgs hnd hgk; obtain⟨k1,k2⟩:=k
 refine Q6 Qa Qa Qa (Qh (Qd (Qg (QO Qa (Qr (Qd (QD (Qg (Qb (VU 0 hS2 Qa hgk Qa Qa (Q6 Qa Qa Qa (Q6 Qa Qa Qa (Xl hS2 GQ Qa Qa ?_)))))))))))))
 intro b3 w3 hS3
 first | (refine QZ hS3 Qa Qa Jr Qa (by rfl) (i:=0) Qa (by decide) ?_)
 intro w4 hS5; dsimp only[List.set]at hS5
 refine Qc Qa Qa (Qh (Qd (Qg (Qb (Qe Qa Qa ?_)))))
 refine ZK Qa Hu Jr (by first | exact hS5.blk 0 Qa) (by first | decide | exact Xd Qa | (simp;done) | omega) Qa Qa ?_
 refine Qe Qa Qa (VV Qa cal_116 Qa (clo2_sp (hS5.sp [] Qa) (hc.starL 2 Qa) _ _ _) Qa ?_)
 rintro e w6 ⟨_,rfl,rfl,hS6⟩; refine⟨_,rfl, ?_⟩
 replace hS6:=hS6.jn Qa Qa
 refine Qh (Qd (Qk [7,1,0,4,16] Qa (Xb Qa (fun h7=> ?_) (fun h7=> ?_))))
 ·have heq:k1=f:= by simpa using h7
  refine Qb (Qe Qa Qa ?_)
  refine ZK Qa Hu Jr (by first | exact hS6.blk 0 Qa) (by first | decide | exact Xd Qa | (simp;done) | omega) Qa Qa ?_
  refine SB (k:=(k1,k2)) 1 hS6 keysSec underlying118 Qa (.inr Qa) Qa Qa Qa ?_
  intro w7 hS7; dsimp only[List.set,pd]at hS7⊢
  exact Qh (Qp (Xa (L1:=[(0,.map (some bs)),(1,.func (.func 116) #[] #[ptrV c 0]),(7,ptrV r1 0)]) (BC Qa Qa Qa) (k1:=left2) (by omega) ⟨_,_,_,_,rfl,rfl,hS7.tail,hout.del heq⟩))
 have hne:k1≠f:= by simpa using h7
 exact Qr (Qp (Xa (L1:=[(0,.map (some bs)),(1,.func (.func 116) #[] #[ptrV c 0]),(7,ptrV r1 0)]) (BC Qa Qa Qa) (k1:=left2) (by omega) ⟨_,_,_,_,rfl,rfl,hS6.tail,hout.next hnd hne⟩))
theorem L4 {As:List Th} {i c:Nat} {cs:List Value} {f:Int} (hi:As[i]? =some (QR c cs)) (hv:cs[0]? =some (intV f)):Ent (starL As) (Bz c f):= fun h=>Sat.cell (w:=_) ⟨_,h⟩ i hi hv
theorem SN {w:World} {p bf bs:Nat} {kp qv:Value} {D:DS} {g:Int→Option Value} {F X:Th} {f:Int} {s:Bytes} (hI:DInv D) (hs:s.length≤16777216) (hg:Hn g D.F) (h:Sat w [YV bs (D.Q.filter fun p=>p.1≠f),XH qv (D.Q.filter fun p=>p.1≠f).length 2 (Z9 (D.Q.filter fun p=>p.1≠f)),X,XE XY bf (upd g f (some (Vv (s,s)))),QR p (Ys ⟨bf,bs,qv⟩ kp D),F]):Sat w [Zo p kp (Wy D f s),F]:= by
  have h1:=Ji (As:=[YV bs (D.Q.filter fun p=>p.1≠f),XH qv (D.Q.filter fun p=>p.1≠f).length 2 (Z9 (D.Q.filter fun p=>p.1≠f)),X,QR p (Ys ⟨bf,bs,qv⟩ kp D),F]) _ (BA hg f (s,s)) (h.reorder [3,0,1,2,4,5] Qa)
  refine ZW ⟨bf,bs,qv⟩ ({hI with now:= fun k=> ?_,last:= fun k=> ?_,nodup:=hI.nodup.filter _,secs:= fun p hp=>hI.secs p (List.mem_filter.1 hp).1}) (((h1.reorder [3,4,0,2,1,5] Qa)).tail)
  · simp only[Wy,JN];split
    · exact hs
    · exact hI.now k
  · simp only[Wy,JN];split
    · exact hs
    · exact hI.last k
theorem Ea {w:World} {p:Nat} {kp:Value} {D:DS} {F:Th} (hS:Sat w [Zo p kp D,F]) (f:Int) (s:Bytes) (hs:s.length≤16777216):
    Calls prog 94 #[ptrV p 0,intV f,strV s] w (Ret fun v w'=>v= .tuple #[]∧Sat w' [Zo p kp (Wy D f s),F]):= by
 obtain⟨⟨bf,bs,qv⟩,hI,hS⟩:=WC hS; dsimp only at hS
 obtain⟨g,hg,hS⟩:=JT (hS.pull 1 rfl); dsimp only[List.eraseIdx]at hS
 refine Qx func94 Qa ntmps94 Qa ?_
 refine Qg (Qb (XT hS Qa Qa Qa ?_))
 intro b1 w1 hS1
 refine Qh (Qd (Qg ?_))
 have hS2:=hS1.drew
 refine QM [0,1,2,3,4,5,6,7,8] [8] Wv (by kernel_rfl) ?_
 refine QK Qa Qa Qa (Xm Qa Qa Qa (QN Qa Qa Qa JS (Q9 Qa Qa Qa (Qn Qa U3 (hS2.cell 2 Qa Qa)) (Q9 Qa Qa Qa (Qn Qa QF (hS2.cell 0 Qa Qa)) (QK Qa Qa Qa (QK Qa Qa Qa (QC Qa Qa Qa (fun _=>(ZY Qa Mn LL US Qa)) ?_)))))))
 refine QS Qa Qa Qa Qa Qa Qa ?_
 first | refine Ze 1 hS2 keysInt underlying116 Qa Qa Qa Qa ?_
 intro w3 hS3; dsimp only[List.set]at hS3
 refine Z6 (Xp (by kernel_rfl)) ?_
 refine VC.nil (Qd (Qk [0,4] Qa (Qg (Qb (Qe Qa Qa (Qe Qa Qa (Ql Qa Qa (Qi Qa HF Qa (Qq Qa B9 (hS3.cell 2 Qa Qa) Qa (U8 Qa Qa (Qz cal_113 Qa (Io (hS3.sp [3] Qa) (f:=f) (L4 (i:=0) Qa Qa) (KA hI.secs hI.nodup)) Qa ?_)))))))))))
 rintro _ w4 hS4
 replace hS4:=hS4.jn Qa Qa
 have h1q:=hS4.own_one 0 Qa
 refine Ql Qa Qa (Qi Qa HF Qa ?_)
 (refine Q7 hS4 Qa Qa Co (by assumption) (i:=3) Qa (Xd Qa) ?_)
 intro w5 hS6; dsimp only[List.set]at hS6
 refine Qh (Qd (Qk [0,4] Qa (Qb (Qe Qa Qa (Ql Qa Qa (Qi Qa Vu Qa (Qq Qa Kx (hS6.cell 3 Qa Qa) Qa (U8 Qa Qa (Qz cal_115 Qa (mdel_sp (hS6.sp [4] Qa) (f:=f) (L4 (i:=1) Qa Qa)) Qa ?_)))))))))
 rintro _ w7 ⟨rfl,hS7⟩
 replace hS7:=hS7.jn Qa Qa
 exact Qh (Y4 (.inl Qa) Qa (⟨_,Qa,Qa,SN hI hs hg hS7⟩))
theorem put_sp' {w:World} {F:Th} (hS:Sat w [F]) (s t:Bytes) (a:Nat) {x:Int} (ha:x=a) (h1:s.length≤16777216) (h2:a+t.length≤33554432):Calls prog 110 #[strV s,intV x,strV t] w (Ret fun v w'=>v=strV (J2 s a t)∧Sat w' [F]):= by
  subst ha; exact Of hS s t a h1 h2
theorem RdI.shape {v:Value} {l:List Int} {w:World} (h:RdI v l w): ∃ao cap,v= .slice ao l.length cap∧l.length≤9223372036854775807:= by obtain⟨ao,cap,h1,h2,_⟩:=h; exact⟨ao,cap,h1,h2⟩
theorem RdI.get {ao:Option Addr} {n cap i:Nat} {l:List Int} {x:Int} {w:World} (h:RdI (.slice ao n cap) l w) (hx:l[i]? =some x): ∃b off,ao=some ⟨b,off,none⟩∧w.cell? ⟨b,off+i*1,none⟩=some (intV x):= by
  obtain⟨ao',cap',h1,_,h3⟩:=h
  cases h1
  obtain⟨b,off,h4,h5⟩:=h3 i x hx
  exact⟨b,off,h4, by rw[Nat.mul_one]; exact h5⟩
theorem Rq (keep:List Int) (p:Int×Int): ∀(Q:List (Int×Int)) (k:Nat) (F:Int→Bytes×Bytes),Wn keep k (Q++[p]) F=(if keep≠[]∧(keep.getD ((k+Q.length)%keep.length) 0)%2=1 then HU (Wn keep k Q F) p else Wn keep k Q F)
  | [],k,F=> by simp [Wn]
  | q::Q,k,F=> by
    simp only[List.cons_append,Wn]
    rw[Rq keep p Q (k+1)]
    rw[show k+1+Q.length=k+(q::Q).length by simp;omega]
def YP (keep:List Int) (Q:List (Int×Int)) (F:Int→Bytes×Bytes) (i:Nat):Int→Bytes×Bytes:=Wn keep 0 (Q.take i) F
theorem Ty {keep:List Int} {Q:List (Int×Int)} {F:Int→Bytes×Bytes} {i:Nat} {p:Int×Int} (hp:Q[i]? =some p):YP keep Q F (i+1)=(if keep≠[]∧(keep.getD (i%keep.length) 0)%2=1 then HU (YP keep Q F i) p else YP keep Q F i):= by
  have hi:=(Jh hp).1
  unfold YP
  rw[List.take_add_one,hp]
  simp only[Option.toList_some]
  rw[Rq,List.length_take,Nat.min_eq_left (by omega),Nat.zero_add]
theorem GV {keep:List Int} {Q:List (Int×Int)} {F:Int→Bytes×Bytes} {i:Nat} {p:Int×Int} (hp:Q[i]? =some p) (h: ¬(keep≠[]∧(keep.getD (i%keep.length) 0)%2=1)∨((YP keep Q F i) p.1).1.length≤64*p.2):YP keep Q F (i+1)=YP keep Q F i:= by
  rw[Ty hp]
  split
  · rename_i hc
    rcases h with h | h
    · exact absurd hc h
    · rw[HU,if_pos h]
  · rfl
def GG (s:Bytes) (a:Nat):Bytes:=(s.drop a).take 64
theorem AH {keep:List Int} {Q:List (Int×Int)} {F:Int→Bytes×Bytes} {i a:Nat} {p:Int×Int} (hp:Q[i]? =some p) (hk:keep≠[]) (hb:(keep.getD (i%keep.length) 0)%2=1) (ha:64*p.2=a) (hlt:a<((YP keep Q F i) p.1).1.length):
    YP keep Q F (i+1)=JN (YP keep Q F i) p.1 (((YP keep Q F i) p.1).1,J2 ((YP keep Q F i) p.1).2 a (GG ((YP keep Q F i) p.1).1 a)):= by
  rw[Ty hp,if_pos ⟨hk,hb⟩,HU,if_neg (by omega),ha]
  simp [GG]
structure Small (F:Int→Bytes×Bytes):Prop where
  now: ∀k,(F k).1.length≤16777216
  last: ∀k,(F k).2.length≤16777216
theorem Small.set {F:Int→Bytes×Bytes} (h:Small F) (k:Int) {t:Bytes} (ht:t.length≤16777216):Small (JN F k ((F k).1,t)):= by
  refine⟨fun j=> ?_, fun j=> ?_⟩
  · simp only[JN];split
    · exact h.now k
    · exact h.now j
  · simp only[JN];split
    · exact ht
    · exact h.last j
theorem cut_eq {s:Bytes} {a B:Nat} (h:min ((a:Int)+64) (s.length:Int)=B):(s.take B).drop a=GG s a:= by
  unfold GG
  rw[List.drop_take]
  by_cases hc:a+64≤s.length
  · rw[show B -a=64 by omega]
  · rw[List.take_of_length_le (by simp;omega),List.take_of_length_le (by simp;omega)]
theorem cut_le2 (s:Bytes) (a:Nat) (h:a≤s.length):a+(GG s a).length≤s.length:= by simp [GG];omega
theorem cut_le (s:Bytes) (a:Nat):(GG s a).length≤64:= by simp [GG];omega
def Cr (G:Int→Bytes×Bytes) (g0 g:Int→Option Value) (dn:Int→Prop):Prop:= ∀k,((g k=none↔g0 k=none))∧(dn k→g0 k≠none→g k=some (Vv ((G k).2,(G k).2)))∧(¬dn k→g k=g0 k)
theorem EX {x y:Bytes×Bytes} (h:Vv x=Vv y):x=y:= by
  obtain⟨a,b⟩:=x
  obtain⟨c,d⟩:=y
  simp [Vv]at h
  simp [h]
theorem Cr.val {G:Int→Bytes×Bytes} {g0 g:Int→Option Value} {dn:Int→Prop} {k:Int} {v:Value} (h:Cr G g0 g dn) (hs:Hn g0 G) (hk: ¬dn k) (hv:g k=some v):v=Vv (G k):= by
  have :=hs k
  rw[←(h k).2.2 hk,hv]at this
  exact this
theorem Cr.step {G:Int→Bytes×Bytes} {g0 g:Int→Option Value} {dn:Int→Prop} {k:Int} {v:Value} (h:Cr G g0 g dn) (hk: ¬dn k) (hv:g k=some v):Cr G g0 (upd g k (some (Vv ((G k).2,(G k).2)))) (fun j=>dn j∨j=k):= by
  intro j
  by_cases hj:j=k
  · subst hj
    have h0:g0 j≠none:= fun q=> by have :=(h j).1.2 q; rw[hv]at this; cases this
    exact⟨⟨fun q=>(by rw[H3]at q; cases q), fun q=>absurd q h0⟩, fun _ _=>H3, fun q=>absurd (.inr Qa) q⟩
  · rw[R1 hj]
    exact⟨(h j).1, fun q=>(h j).2.1 (q.resolve_right hj), fun q=>(h j).2.2 fun r=>q (.inl r)⟩
theorem Cr.done {G:Int→Bytes×Bytes} {g0 g:Int→Option Value} {dn:Int→Prop} (h:Cr G g0 g dn) (hs:Hn g0 G) (hd: ∀k v,g k=some v→dn k):Hn g (fun k=>((G k).2,(G k).2)):= by
  intro k
  cases hq:g k with
  | none=>
    have :=hs k
    rw[(h k).1.1 hq]at this
    have :=EX this
    show _=Vv ((G k).2,(G k).2)
    rw[←this];rfl
  | some v=>
    have h0:g0 k≠none:= fun q=> by have :=(h k).1.2 q; rw[hq]at this; cases this
    have :=(h k).2.1 (hd k v hq) h0
    rw[hq]at this
    rw[this];rfl
theorem Nk {w:World} {p bf bs:Nat} {C:List Value} {qv:Value} {Q:List (Int×Int)} {U U':Int→Bytes×Bytes} {g:Int→Option Value} {F X Y:Th} (hu:U'=U) (hg:Hn g U) (h:Sat w [X,XE XY bf g,Y,QR p C,XH qv Q.length 2 (Z9 Q),YV bs Q,F]):Sat w [QR p C,J0 bf U',XH qv Q.length 2 (Z9 Q),YV bs Q,F]:= by
  rw[hu]
  exact(Ji (As:=[Y,QR p C,XH qv Q.length 2 (Z9 Q),YV bs Q,F]) g hg h.tail).drop 1 Qa |>.reorder [1,0,2,3,4] Qa
theorem cr_put {w:World} {p bf bs:Nat} {C:List Value} {qv:Value} {Q:List (Int×Int)} {U U':Int→Bytes×Bytes} {g:Int→Option Value} {F X Y:Th} {k:Int} {x:Bytes×Bytes} (hu:U'=JN U k x) (hg:Hn g U) (h:Sat w [X,XE XY bf (upd g k (some (Vv x))),Y,QR p C,XH qv Q.length 2 (Z9 Q),YV bs Q,F]):Sat w [QR p C,J0 bf U',XH qv Q.length 2 (Z9 Q),YV bs Q,F]:= by
  rw[hu]
  exact(Ji (As:=[Y,QR p C,XH qv Q.length 2 (Z9 Q),YV bs Q,F]) _ (BA hg k x) h.tail).drop 1 Qa |>.reorder [1,0,2,3,4] Qa
theorem Ah {w:World} {p bf bs2 i:Nat} {kp:Value} {D:DS} {ks:List Int} {g:Int→Option Value} {dn:Int→Prop} {cur:Option Int} {left r:Nat} {F X Y:Th} (hI:DInv D) (hd:D.down=false) (hi:i=D.Q.length) (hsm:Small (YP ks D.Q D.F i)) (hg:Hn g (fun k=>((YP ks D.Q D.F i k).2,(YP ks D.Q D.F i k).2)))
    (h:Sat w [XE Wq bs2 (fun _=>none),YD XY bf r g dn cur left,QR p [.map (some bf),.slice none 0 0,.map (some bs2),intV D.lost,.bool true,intV 0,kp],X,Y,F]):Sat w [Zo p kp (ZO D ks),F]:= by
  have h1:=YK (Q:=[]) (fun _=>none) (by simp) h
  have h2:=Ji (F:= fun k=>((YP ks D.Q D.F i k).2,(YP ks D.Q D.F i k).2)) g hg (Vi (h1.reorder [1,0,2,3,4,5] Qa))
  have h3:=h2.new (Only.refl [] w) (A:=XH (.slice none 0 0) 0 2 []) (F':= fun k=>k∈([]:List Nat)) ⟨[],rfl,Own.nil w 2⟩ (by simp)
  have h4:=(h3.drop 4 Qa).drop 4 Qa
  dsimp only[List.eraseIdx]at h4
  have hD:ZO D ks={D with down:=true,armed:=0,F:= fun k=>((YP ks D.Q D.F i k).2,(YP ks D.Q D.F i k).2),Q:=[]}:= by
    rw[ZO,if_neg (by rw[hd]; simp),hi]
    simp [YP]
  rw[hD]
  refine ZW ⟨bf,bs2,.slice none 0 0⟩ ?_ (h4.reorder [3,1,0,2,4] Qa)
  exact{hI with now:= fun k=>hsm.last k,last:= fun k=>hsm.last k,nodup:=List.nodup_nil,secs:= by simp,armed:= by simp }
theorem MN {w:World} {p:Nat} {kp:Value} {D:DS} {F:Th} (hS:Sat w [Zo p kp D,F]) {kv:Value} {ks:List Int} (hK:Ent F (RdI kv ks)):
    Calls prog 83 #[ptrV p 0,kv] w (Ret fun v w'=>v= .tuple #[]∧Sat w' [Zo p kp (ZO D ks),F]):= by
 obtain⟨ao,capk,rfl,hkmax⟩:=(hK.sat hS 1 rfl).shape
 obtain⟨⟨bf,bs,qv⟩,hI,hS⟩:=WC hS; dsimp only at hS
 refine Qx func83 Qa ntmps83 Qa ?_
 have hcnt:=KA hI.secs hI.nodup
 refine Qg (Qg (Qb (Qe Qa Qa (Ql Qa Qa (Qi Qa Kk Qa (Qq Qa JG (hS.cell 0 Qa Qa) Qa (Qh (Qd (Xb Qa (fun h1=> ?_) (fun h1=> ?_))))))))))
 ·have hd:D.down=true:=h1
  refine Qo (Qm (Y4 (.inr Qa) Qa ?_))
  exact⟨_,rfl,rfl, by rw[ZO,if_pos hd]; exact ZW ⟨bf,bs,qv⟩ hI hS⟩
 have hd:D.down=false:=h1
 refine Qr (Qd (Qg (Qb (Qe Qa Qa (Qe Qa Qa (Ql Qa Qa (Qi Qa Kk Qa ?_)))))))
 first | (refine Q7 hS Qa Qa Jd (by rfl) (i:=0) Qa (Xd Qa) ?_)
 intro w2 hS3; dsimp only[List.set]at hS3
 refine Ql Qa Qa (Qi Qa Vt Qa ?_)
 first | (refine Q7 hS3 Qa Qa Ya (by rfl) (i:=0) Qa (Xd Qa) ?_)
 intro w4 hS5; dsimp only[List.set]at hS5
 refine Qh (Qd (Qk [1,0] Qa (Qg (Qg (Qb (Qe Qa Qa (Ql Qa Qa (Qi Qa HF Qa (Qq Qa B9 (hS5.cell 0 Qa Qa) Qa (Xs 2 hS5 underlying117 Qa Qa Qa (Qe Qa Qa (Qh (Qd (QD ?_))))))))))))))
 refine X8 (fun K0 E0 W0=> ∃(i:Nat),K0=D.Q.length -i∧E0=[(0,ptrV p 0),(1,.slice ao ks.length capk),(23,qv),(24,intV (D.Q.length:Int)),(25,intV (i:Int))]∧Sat W0 [QR p [.map (some bf),qv,.map (some bs),intV D.lost,.bool true,intV 0,kp],J0 bf (YP ks D.Q D.F i),XH qv D.Q.length 2 (Z9 D.Q),YV bs D.Q,F]∧(i≤D.Q.length)∧(Small (YP ks D.Q D.F i))) (L0:=[(0,_),(1,_),(23,_),(24,_),(25,_)]) (D.Q.length) (Di Qa Qa Qa Qa Qa) ⟨0, by omega,rfl,hS5, by omega,⟨hI.now,hI.last⟩⟩ ?_
 rintro _ _ w6 ⟨i,rfl,rfl,hS6,hi,hsm⟩
 refine Qg (Qb (X0 Qa Qa Qa (Qh (Qd (Qg (Qt Qa (fun h7=> ?_) (fun h7=> ?_)))))))
 ·obtain⟨⟨q1,q2⟩,hq⟩: ∃q,D.Q[i]? =some q:=⟨_,WB (by omega)⟩
  have hsec:=hI.secs _ (List.mem_of_getElem? hq)
  refine Qr (Qd (Qg (QD (Qg (Qb (Qe Qa Qa (Va 2 i hS6 Qa Qa Qa Qa (by omega) Nd Qa ?_)))))))
  intro bq capq hv
  refine RS 2 hS6 Qa hv Qa Hu Jr (SS hq) Qa Qa (Xl hS6 GQ Qa Qa ?_)
  intro b8 w8 hS8
  refine Qc Qa Qa ?_
  (refine QZ hS8 Qa Qa Jr Qa (by rfl) (i:=0) Qa (by decide) ?_)
  intro w9 hS10; dsimp only[List.set]at hS10
  refine Qh (Qd (Qk [25,24,23,1,0,5,4] Qa (Qg ?_)))
  obtain⟨g,hg,hS10⟩:=JT (hS10.pull 2 rfl); dsimp only[List.eraseIdx]at hS10
  have hS11:=hS10.drew
  refine QM [0,1,2,3,4,5,6,7,8,9,10,11,12] [10,11] Wv (by kernel_rfl) ?_
  refine QK Qa Qa Qa (Xm Qa Qa Qa (QN Qa Qa Qa JS (Q9 Qa Qa Qa (Qn Qa U3 (hS11.cell 2 Qa Qa)) (QN Qa Qa Qa Gw (Q9 Qa Qa Qa (Qn Qa QF (hS11.cell 1 Qa Qa)) (Q9 Qa Qa Qa (JE 0 hS11 keysInt underlying116 Qa Qa Qa US (hg _)) (QN Qa Qa Qa Ia (Q9 Qa Qa Qa (Qn Qa QF (hS11.cell 1 Qa Qa)) (QC Qa Qa Qa (fun _=>(Fp Qa Qa (by omega) (by omega))) ?_)))))))))
  refine QS Qa Qa Qa Qa Qa Qa ?_
  refine Xl hS11 US Qa Qa ?_
  intro b12 w12 hS12
  refine Xe (.cons (.inl ⟨Qa,(Qn Qa QF (hS12.cell 2 Qa Qa))⟩) (.cons (.inl ⟨Qa,(JE 1 hS12 keysInt underlying116 Qa Qa Qa US (hg _))⟩) (.cons (.inl ⟨Qa,(Qn Qa QF (hS12.cell 2 Qa Qa))⟩) (.cons (.inl ⟨Qa,(Qn Qa U3 (hS12.cell 3 Qa Qa))⟩) .nil)))) (QS Qa Qa Qa Qa Qa Qa ?_)
  (refine QZ hS12 Qa Qa DO Qa (by rfl) (i:=0) Qa (by decide) ?_)
  intro w13 hS14; dsimp only[List.set]at hS14
  refine Z6 (.cons (.inl ⟨rfl,(Qn Qa QF (hS14.cell 2 Qa Qa))⟩) (Xp (by kernel_rfl))) ?_
  refine WY Qa Qa Qa (VC.nil (Qd (Qk [25,24,23,1,0,5,4,6,7] Qa (Qg (Qg (Qb (Qe Qa Qa ?_)))))))
  first | refine Xi underlying33 Qa Qa ?_ | refine Xs 4 hS14 underlying33 Qa Qa Qa ?_
  refine QL Qa Qa Qa (Qe Qa Qa (Q4 43 Qa (fun h15=> ?_) (fun h15=> ?_)))
  ·have hk0:ks=[]:=List.length_eq_zero_iff.1 (by omega)
   refine Qf Qa Qa (Q8 h15) Qa (Qf Qa Qa (Q8 h15) Qa (Qf Qa Qa (Q8 h15) Qa (Qf Qa Qa (Q8 h15) Qa (Qf Qa Qa (Q8 h15) Qa (Qf Qa Qa (Q8 h15) Qa (Qf Qa Qa (Q8 h15) Qa (Qf Qa Qa (Q8 h15) Qa (Qf Qa Qa (Q8 h15) Qa (Q0 Qa (Q8 h15) Qa Qa (Qe Qa Qa (Qf Qa Qa Qa Qa (Qf Qa Qa Qa Qa (Qf Qa Qa Qa Qa (Qf Qa Qa Qa Qa (Qf Qa Qa Qa Qa (Q0 Qa Qa Qa Qa (Qh (Qd (Qk [25,24,23,1,0,5,6,7,60] Qa (QO Qa (Xq (Q2 (QH (Qd (Qb (Xx Qa Qa (by omega) (by omega) Qa ?_))))))))))))))))))))))))))
   refine Qe Qa Qa (Qh ?_)
   have hu:=GV (keep:=ks) (F:=D.F) hq (.inl (by simp [hk0]))
   exact Xa (L1:=[(0,ptrV p 0),(1,_),(23,qv),(24,intV (D.Q.length:Int)),(25,intV ((i+1:Nat):Int))]) (Di Qa Qa Qa Qa Qa) (k1:=D.Q.length -(i+1)) (by omega) ⟨i+1, by omega,rfl,Nk hu hg hS14, by omega, by rw[hu]; exact hsm⟩
  have hkl:0<ks.length:= by omega
  obtain⟨x,hx⟩: ∃x,ks[i%ks.length]? =some x:=⟨_,WB (Nat.mod_lt _ hkl)⟩
  have hkx:ks.getD (i%ks.length) 0=x:= by simp [List.getD_eq_getElem?_getD,hx]
  obtain⟨bk,ok,rfl,hcell⟩:=(hK.sat hS14 6 rfl).get hx
  refine Qj Qa Qa (Qw h15) (Qe Qa Qa (Qj Qa Qa (Qw h15) (Qe Qa Qa (Qj Qa Qa (Qw h15) (Qe Qa Qa (Qj Qa Qa (Qw h15) (Xi underlying33 Qa Qa (Qj Qa Qa (Qw h15) (S8 Qa Qa (by omega) (by omega) Qa ?_)))))))))
  refine Qj Qa Qa (Qw h15) (X4 (i%ks.length) Qa Qa (by rfl) (Nat.mod_lt _ hkl) Uv Qa ?_)
  refine Qj Qa Qa (Qw h15) (Qq Qa QF (by assumption) Qa ?_)
  refine Qj Qa Qa (Qw h15) (HT 1 Qa Qa Qa Qa (q:=2) Qa Qa (Qj Qa Qa (Qw h15) (QL Qa Qa Qa (Q1 Qa (Qw h15) Qa Qa (Qe Qa Qa (Q4 54 Qa (fun h16=> ?_) (fun h16=> ?_)))))))
  ·refine Qf Qa Qa (Q8 h16) Qa (Qf Qa Qa (Q8 h16) Qa (Qf Qa Qa (Q8 h16) Qa (Qf Qa Qa (Q8 h16) Qa (Qf Qa Qa (Q8 h16) Qa (Q0 Qa (Q8 h16) Qa Qa (Qh (Qd (Qk [25,24,23,1,0,5,6,7,60] Qa (QO Qa (Xq (Q2 (QH (Qd (Qb (Xx Qa Qa (by omega) (by omega) Qa ?_)))))))))))))))
   refine Qe Qa Qa (Qh ?_)
   have hu:=GV (keep:=ks) (F:=D.F) hq (.inl (by rw[hkx];omega))
   exact Xa (L1:=[(0,ptrV p 0),(1,_),(23,qv),(24,intV (D.Q.length:Int)),(25,intV ((i+1:Nat):Int))]) (Di Qa Qa Qa Qa Qa) (k1:=D.Q.length -(i+1)) (by omega) ⟨i+1, by omega,rfl,Nk hu hg hS14, by omega, by rw[hu]; exact hsm⟩
  refine Qj Qa Qa (Qw h16) (Qe Qa Qa (Qj Qa Qa (Qw h16) (Qi Qa Kj Qa (Qj Qa Qa (Qw h16) (Qq Qa Zr (hS14.cell 0 Qa Qa) Qa (Qj Qa Qa (Qw h16) (Zu underlying9 Qa Qa (Qj Qa Qa (Qw h16) (WX Qa Qa Qa (Q1 Qa (Qw h16) Qa Qa (Qh (Qd (Qk [25,24,23,1,0,5,6,7,60] Qa (Qt Qa (fun h17=> ?_) (fun h17=> ?_)))))))))))))))
  ·refine Xq (Q2 (QH (Qd (Qb (Xx Qa Qa (by omega) (by omega) Qa ?_)))))
   refine Qe Qa Qa (Qh ?_)
   have hu:=GV (keep:=ks) (F:=D.F) hq (.inr (by dsimp only;omega))
   exact Xa (L1:=[(0,ptrV p 0),(1,_),(23,qv),(24,intV (D.Q.length:Int)),(25,intV ((i+1:Nat):Int))]) (Di Qa Qa Qa Qa Qa) (k1:=D.Q.length -(i+1)) (by omega) ⟨i+1, by omega,rfl,Nk hu hg hS14, by omega, by rw[hu]; exact hsm⟩
  refine Qr (Qd (Qg ?_))
  have hkn:ks≠[]:= by intro e; simp [e]at hkl
  obtain⟨a,ha⟩: ∃a:Nat,q2*64=a:=⟨(q2*64).toNat, by omega⟩
  obtain⟨B,hB⟩: ∃B:Nat,min (q2*64+64) ((YP ks D.Q D.F i q1).1.length:Int)=B:=⟨(min (q2*64+64) ((YP ks D.Q D.F i q1).1.length:Int)).toNat, by omega⟩
  have hcut:((YP ks D.Q D.F i q1).1.take B).drop a=GG (YP ks D.Q D.F i q1).1 a:=cut_eq (by omega)
  have hu:=AH (F:=D.F) hq hkn (by rw[hkx];omega) (a:=a) (by simp;omega) (by simp;omega)
  dsimp only at hu; rw[←hcut]at hu
  have hfit:=cut_le2 (YP ks D.Q D.F i q1).1 a (by omega)
  have hnow:=hsm.now q1
  have hS18:=hS14.drew
  refine QM [0,1,2,3,4,5,6,7,8,9,10,11,12,13,14,15] [13,15] Wv (by kernel_rfl) ?_
  refine QN Qa Qa Qa Gx (Q9 Qa Qa Qa (Qn Qa Zr (hS18.cell 0 Qa Qa)) (QK Qa Qa Qa (QN Qa Qa Qa Kj (Q9 Qa Qa Qa (Qn Qa Zr (hS18.cell 0 Qa Qa)) (QK Qa Qa Qa (QK Qa Qa Qa (QC Qa Qa Qa (fun _=>(Ih Qa Qa (by omega) (by omega))) ?_)))))))
  refine QN Qa Qa Qa Kj (Q9 Qa Qa Qa (Qn Qa Zr (hS18.cell 0 Qa Qa)) (QC Qa Qa Qa (fun _=>(G7 underlying9 Qa)) ?_))
  refine QC Qa Qa Qa (fun _=>(Dy Qa Qa)) ?_
  refine QC Qa Qa Qa (fun _=>(Vw a B underlying9 Qa (HL a _ Qa ha) (HL B _ Qa hB) (by omega) (by omega))) ?_
  refine QS Qa Qa Qa Qa Qa Qa ?_
  refine Qz LA Qa (put_sp' (hS18.sp [] Qa) _ _ a ha (hsm.last _) (by rw[hcut]; have :=cut_le (YP ks D.Q D.F i q1).1 a;omega)) Qa ?_
  rintro _ w19 ⟨rfl,hS19⟩
  replace hS19:=hS19.jn Qa Qa
  refine Xe (Xp (by kernel_rfl)) ?_
  refine QN Qa Qa Qa Gx (QS Qa Qa Qa Qa Qa Qa ?_)
  (refine Q7 hS19 Qa Qa R2 (by rfl) (i:=0) Qa (Xd Qa) ?_)
  intro w20 hS21; dsimp only[List.set]at hS21
  refine Z6 (Xp (by kernel_rfl)) ?_
  refine VC.nil (Qd (Qk [25,24,23,1,0,5,6] Qa ?_))
  have hS22:=hS21.drew
  refine QM [0,1,2,3,4,5,6,7] [7] Wv (by kernel_rfl) ?_
  refine QK Qa Qa Qa (Xm Qa Qa Qa (QN Qa Qa Qa JS (Q9 Qa Qa Qa (Qn Qa U3 (hS22.cell 3 Qa Qa)) (QN Qa Qa Qa Gw (Q9 Qa Qa Qa (Qn Qa QF (hS22.cell 2 Qa Qa)) (Q9 Qa Qa Qa (Ws Qa IW DO (hS22.blk 0 Qa) (Xd Qa) Qa) (QS Qa Qa Qa Qa Qa Qa ?_)))))))
  first | refine Ze 1 hS22 keysInt underlying116 Qa Qa Qa Qa ?_
  intro w23 hS23; dsimp only[List.set]at hS23
  refine Z6 (Xp (by kernel_rfl)) ?_
  refine VC.nil (Qp (Qd (Qk [25,24,23,1,0] Qa (Qb (Xx Qa Qa (by omega) (by omega) Qa ?_)))))
  refine Qe Qa Qa (Qh ?_)
  exact Xa (L1:=[(0,ptrV p 0),(1,_),(23,qv),(24,intV (D.Q.length:Int)),(25,intV ((i+1:Nat):Int))]) (Di Qa Qa Qa Qa Qa) (k1:=D.Q.length -(i+1)) (by omega) ⟨i+1, by omega,rfl,cr_put hu hg hS23, by omega, by rw[hu]; exact hsm.set _ (FZ (hsm.last _) (by rw[hcut];omega))⟩
 refine Xq (Q2 (Q2 (QH (Qd (Qg (Qg ?_))))))
 obtain⟨g,hg,hS6⟩:=JT (hS6.pull 1 rfl); dsimp only[List.eraseIdx]at hS6
 refine Qb (Qe Qa Qa (Ql Qa Qa (Qi Qa JS Qa (Qq Qa U3 (hS6.cell 1 Qa Qa) Qa (VT 0 hS6 underlying116 Qa Qa Qa ?_)))))
 intro r24 left24 w24 hS24; dsimp only[List.set]at hS24
 refine Qh (Qd (Qk [0,88] Qa (QD ?_)))
 have hg0:=hg; obtain⟨RR,rfl⟩: ∃R,R=r24:=⟨_,rfl⟩; obtain⟨g0,rfl⟩: ∃g0,g0=g:=⟨_,rfl⟩
 refine X8 (fun K0 E0 W0=> ∃(g:Int→Option Value) (dn:Int→Prop) (cur:Option Int) (left:Nat),K0=left∧E0=[(0,ptrV p 0),(88,ptrV RR 0)]∧Sat W0 [YD XY bf RR g dn cur left,QR p [.map (some bf),qv,.map (some bs),intV D.lost,.bool true,intV 0,kp],XH qv D.Q.length 2 (Z9 D.Q),YV bs D.Q,F]∧(Cr (YP ks D.Q D.F i) g0 g dn)) (L0:=[(0,_),(88,_)]) (left24) (Ax Qa Qa) ⟨g0,_,_,_,rfl,rfl,hS24, fun k=>⟨Iff.rfl, fun h=>h.elim, fun _=>rfl⟩⟩ ?_
 rintro _ _ w25 ⟨g,dn,cur,left,rfl,rfl,hS25,hcr⟩
 refine Qg (Qb (RO 0 hS25 keysInt.inj Qa Qa Qa (fun hdone=> ?_) (fun k v left2 w2 hleft hgk hnd hS2=> ?_)))
 ·refine Q6 Qa Qa Qa (Qh (Qd (Qg (QI Qa (Xq (Q2 (Q2 (QH (Qd (Qb (Qe Qa Qa (Qe Qa Qa (W7 Wq hS25 Qa ?_)))))))))))))
  intro b26 w26 hS26
  refine Ql Qa Qa (Qi Qa HF Qa ?_)
  first | (refine Q7 hS26 Qa Qa Co (by rfl) (i:=2) Qa (Xd Qa) ?_)
  intro w27 hS28; dsimp only[List.set]at hS28
  refine Ql Qa Qa (Qi Qa Vu Qa ?_)
  first | (refine Q7 hS28 Qa Qa AN (by rfl) (i:=2) Qa (Xd Qa) ?_)
  intro w29 hS30; dsimp only[List.set]at hS30
  exact Qh (Y4 (.inl Qa) Qa (⟨_,rfl,rfl,Ah hI hd (by omega) hsm (hcr.done hg0 hdone) hS30⟩))
 dsimp only[List.set]at hS2; obtain rfl:=hcr.val hg0 hnd hgk
 refine Q6 Qa Qa Qa (Qh (Qd (Qg (QO Qa (Qr (Qd (QD (Qg (Qb (VU 0 hS2 Qa hgk Qa Qa (Q6 Qa Qa Qa (Q6 Qa Qa Qa (Xl hS2 US Qa Qa ?_)))))))))))))
 intro b31 w31 hS31
 refine Qc Qa Qa ?_
 (refine QZ hS31 Qa Qa DO Qa (by rfl) (i:=0) Qa (by decide) ?_)
 intro w32 hS33; dsimp only[List.set]at hS33
 refine Qh (Qd ?_)
 have hS34:=hS33.drew
 refine QM [0,1,2,3,4,5,6,7,8,9,10] [10] Wv (by kernel_rfl) ?_
 refine QK Qa Qa Qa (Xm Qa Qa Qa (QN Qa Qa Qa JS (Q9 Qa Qa Qa (Qn Qa U3 (hS34.cell 2 Qa Qa)) (QK Qa Qa Qa (QN Qa Qa Qa Gx (Q9 Qa Qa Qa (Qn Qa Zr (hS34.cell 0 Qa Qa)) (QN Qa Qa Qa Gx (Q9 Qa Qa Qa (Qn Qa Zr (hS34.cell 0 Qa Qa)) (QC Qa Qa Qa (fun _=>(ZY Qa Mn LL US Qa)) ?_)))))))))
 refine QS Qa Qa Qa Qa Qa Qa ?_
 refine UT (k:=k) 1 hS34 keysInt underlying116 Qa hgk Qa Qa Qa ?_
 intro w13 hS13; dsimp only[List.set]at hS13
 refine Z6 (Xp (by kernel_rfl)) ?_
 exact VC.nil (Qp (Xa (L1:=[(0,ptrV p 0),(88,ptrV RR 0)]) (Ax Qa Qa) (k1:=left2) (by omega) ⟨_,_,_,_,rfl,rfl,hS13.tail,hcr.step hnd hgk⟩))
