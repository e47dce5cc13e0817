/- disk: slices.DeleteFunc -/
import Derived.Test.YtiibgheijbbmaaaGreatDoorCell
set_option linter.unusedVariables false
set_option maxRecDepth 100000
namespace Go.Proofs.YtiibgheijbbmaaaGreatDoor
open Go.RowKit M Proofs.Tryz
structure Thin (f:Int) (Q R:List (Int×Int)) (i j:Nat):Prop where
  len:R.length=Q.length
  le:i≤j
  jle:j≤Q.length
  kept:R.take i=(Q.take j).filter fun p=>p.1≠f
  rest:R.drop j=Q.drop j
theorem Thin.start {f:Int} {Q:List (Int×Int)} {k:Nat} {p:Int×Int} (h:Q[k]? =some p) (he:p.1=f) (hno: ∀j q,j<k→Q[j]? =some q→q.1≠f):Thin f Q Q k (k+1):= by
  have hk:=(Jo h).1
  refine⟨rfl, by omega, by omega, ?_,rfl⟩
  rw[List.take_add_one,h,List.filter_append]
  have h1:(Q.take k).filter (fun p=>decide (p.1≠f))=Q.take k:= by
    rw[List.filter_eq_self]
    intro q hq
    obtain⟨j,hj⟩:=List.mem_iff_getElem?.1 hq
    rw[List.getElem?_take]at hj
    split at hj
    · simpa using hno j q (by assumption) hj
    · cases hj
  rw[h1]
  simp [he]
theorem Thin.get {f:Int} {Q R:List (Int×Int)} {i j:Nat} (h:Thin f Q R i j) (hj:j<Q.length):R[j]? =Q[j]? := by
  have :=congrArg (fun l=>l[0]?) h.rest
  simpa using this
theorem Thin.skip {f:Int} {Q R:List (Int×Int)} {i j:Nat} {p:Int×Int} (h:Thin f Q R i j) (hp:Q[j]? =some p) (he:p.1=f):Thin f Q R i (j+1):= by
  have hj:=(Jo hp).1
  refine⟨h.len, by have :=h.le;omega, by omega, ?_, ?_⟩
  · rw[List.take_add_one,hp,List.filter_append,←h.kept]; simp [he]
  · rw[←List.drop_drop,←List.drop_drop,h.rest]
theorem Thin.keep {f:Int} {Q R:List (Int×Int)} {i j:Nat} {p:Int×Int} (h:Thin f Q R i j) (hp:Q[j]? =some p) (he:p.1≠f):Thin f Q (R.set i p) (i+1) (j+1):= by
  have hj:=(Jo hp).1
  have hle:=h.le
  have hil:i<R.length:= by rw[h.len];omega
  refine⟨by simp [h.len], by omega, by omega, ?_, ?_⟩
  · rw[List.take_add_one (l:=Q),hp,List.filter_append,←h.kept,List.take_add_one]
    simp [he,hil]
    exact List.take_set_of_le (Nat.le_refl _)
  · rw[List.drop_set_of_lt (by omega),←List.drop_drop,h.rest,List.drop_drop]
theorem O4 {R:List (Int×Int)} {i:Nat} {p:Int×Int} (h:i<R.length):XK (ZF R) (i*2) [intV p.1,intV p.2]=ZF (R.set i p):= by
  induction R generalizing i with
  | nil=> simp at h
  | cons q R ih=>
    cases i with
    | zero=> simp [ZF,XK]
    | succ i=>
      have :=ih (by simpa using h)
      rw[show(i+1)*2=[intV q.1,intV q.2].length+i*2 by simp;omega]
      have e1:ZF (q::R)=[intV q.1,intV q.2]++ZF R:=rfl
      rw[e1,Ua,this]
      rfl
theorem Ba (R:List (Int×Int)) (i:Nat):(ZF R).take (i*2)=ZF (R.take i):= by
  induction R generalizing i with
  | nil=> simp [ZF]
  | cons q R ih=>
    cases i with
    | zero=> simp [ZF]
    | succ i=>
      rw[show(i+1)*2=i*2+2 by omega]
      have e1:ZF (q::R)=intV q.1::intV q.2::ZF R:=rfl
      rw[e1]
      simp only[List.take_succ_cons,ih]
      rfl
theorem Sa {f:Int} {Q:List (Int×Int)} (h: ∀p∈Q,p.1≠f):(Q.filter fun p=>p.1≠f)=Q:=List.filter_eq_self.2 fun p hp=> by simpa using h p hp
theorem clearX {R:List (Int×Int)} {i n cap:Nat} (hi:i≤n) (hn:R.length=n∧n≤cap): ∃X:List Value,XK (ZF R) (if cap=i then 0 else 0+i*2) (List.replicate (n -i) (Value.agg #[.int .i64 0,.int .i64 0]).cells.toList).flatten=ZF (R.take i)++X∧True:= by
  by_cases hc:cap=i
  · have :n -i=0:= by omega
    rw[if_pos hc,this]
    refine⟨(ZF R).drop (i*2), ?_,trivial⟩
    rw[←Ba]
    simp [XK]
  · rw[if_neg hc]
    refine⟨(List.replicate (n -i) (Value.agg #[.int .i64 0,.int .i64 0]).cells.toList).flatten++(ZF R).drop (0+i*2+(List.replicate (n -i) (Value.agg #[.int .i64 0,.int .i64 0]).cells.toList).flatten.length), ?_,trivial⟩
    rw[←Ba]
    simp [XK]
theorem delEnd {w:World} {F:Th} {f:Int} {Q R:List (Int×Int)} {i j b cap:Nat} {X:List Value} (hT:Thin f Q R i j) (hj: ¬j<Q.length) (h:Sat w [XT (.slice (some ⟨b,0,none⟩) Q.length cap) Q.length 2 (ZF (R.take i)++X),F]):
    Sat w [XT (.slice (some ⟨b, if cap=0 then 0 else 0+0*2,none⟩) (i -0) (cap -0)) (Q.filter fun p=>p.1≠f).length 2 (ZF (Q.filter fun p=>p.1≠f)),F]:= by
  have hle:=hT.le; have hjl:=hT.jle; have hlen:=hT.len
  have hjq:j=Q.length:= by omega
  have hk:=hT.kept
  rw[hjq,List.take_length]at hk
  have hl:(Q.filter fun p=>p.1≠f).length=i:= by rw[←hk,List.length_take,hlen];omega
  have :=h.own_head 0 Qa Qa (q:=i) (by omega)
  dsimp only[List.set]at this
  rw[List.take_append_of_le_length (by rw[UC,List.length_take];omega),Ba,List.take_take,Nat.min_self,hk]at this
  rw[hl]
  simpa using this
theorem IL {w:World} {F:Th} {qv:Value} {Q:List (Int×Int)} (hS:Sat w [XT qv Q.length 2 (ZF Q),F]) {c:Nat} {f:Int} (hc:Ent F (Bv c f)) (hl:Q.length≤4194320):
    Calls prog 113 #[qv,.func (.func 114) #[] #[ptrV c 0]] w (Ret fun v w'=>Sat w' [XT v (Q.filter fun p=>p.1≠f).length 2 (ZF (Q.filter fun p=>p.1≠f)),F]):= by
 refine Qy func113 Qa ntmps113 Qa ?_
 refine Qg (Qb (Qc Qa Qa (Qh (Qe (Qg (Qb (Qd Qa Qa (Qd Qa Qa (Q4 cal_129 Qa (Im (hS.sp [0] Qa) (hc.starL 0 Qa) hl) Qa ?_)))))))))
 rintro _ w1 ⟨r,rfl,hr,hS1⟩
 replace hS1:=hS1.jn Qa Qa
 refine Qc Qa Qa (Qh (Qe (Qg (Qg (Qb (Qd Qa Qa (QO Qa Qa Qa (Qh (Qe (Qw Qa (fun h2=> ?_) (fun h2=> ?_)))))))))))
 ·have hr1:r= -1:=h2
  refine Qg (Qb (Qd Qa Qa (Qc Qa Qa (Qh (Qe (Qo (Qm (Q7 (.inr Qa) Qa Qa ?_))))))))
  exact⟨_,rfl, by rw[Sa ((hr.resolve_right (by rintro⟨k,p,h,_⟩;omega)).2)]; exact hS1⟩
 obtain⟨k,p,rfl,hp,he,hno⟩:=hr.resolve_left (fun q=>h2 q.1)
 have hkl:=(Jo hp).1
 clear hr
 refine Qr (Qe (Qg (Qg (Qb (Qd Qa Qa (Xq Qa Qa (by omega) (by omega) Qa ?_))))))
 refine Qc Qa Qa (Qh (Qe (Qk [1,0,4,5,6] Qa (QD ?_))))
 refine XD (fun K0 E0 W0=> ∃(i j:Nat) (R:List (Int×Int)),K0=Q.length -j∧E0=[(0,qv),(1,.func (.func 114) #[] #[ptrV c 0]),(5,intV (i:Int)),(6,intV (j:Int))]∧Sat W0 [XT qv Q.length 2 (ZF R),F]∧(Thin f Q R i j)) (L0:=[(0,_),(1,_),(5,_),(6,_)]) (Q.length -(k+1)) (DF Qa Qa Qa Qa) ⟨k,k+1,Q, by omega,rfl,hS1,Thin.start hp he hno⟩ ?_
 rintro _ _ w3 ⟨i,j,R,rfl,rfl,hS3,hT⟩
 have hjl:=hT.jle
 have hil:=hT.le
 have hRl:=hT.len
 refine Qg (Qg (Qb (Qd Qa Qa (Qd Qa Qa ?_))))
 first | refine Xj underlying117 Qa Qa ?_ | refine X3 0 hS3 underlying117 Qa Qa Qa ?_
 refine Xz Qa Qa Qa (Qh (Qe (Qw Qa (fun h4=> ?_) (fun h4=> ?_))))
 ·obtain⟨p,hp⟩: ∃p,Q[j]? =some p:=⟨_,WU (by omega)⟩
  refine Qr (Qe (Qg (QD (Qg (Qb (Qd Qa Qa (Qd Qa Qa (Ve 0 j hS3 Qa Qa Qa Qa (by omega) Ng Qa ?_))))))))
  intro b cap hv
  refine RU 0 hS3 Qa hv Qa H7 Js (SZ (by rw[hT.get (by omega)]; exact hp)) Qa Qa ?_
  refine Xk hS3 GO Qa Qa ?_
  intro b5 w5 hS5
  first | (refine QX hS5 Qa Qa Js Qa (by rfl) (i:=0) Qa (by decide) ?_)
  intro w6 hS7; dsimp only[List.set]at hS7
  refine Qh (Qe (Qk [6,5,1,0,7] Qa (Qg (Qb (Qd Qa Qa ?_)))))
  refine Zg Qa H7 Js (by first | exact hS7.blk 0 Qa) (by first | decide | exact Xe Qa | (simp;done) | omega) Qa Qa ?_
  refine Kf Qa LS Qa (LQ (hS7.sp [] Qa) (hc.starL 2 Qa) _ _) Qa ?_
  rintro e w8 ⟨_,rfl,rfl,hS8⟩; refine⟨_,rfl, ?_⟩
  replace hS8:=hS8.jn Qa Qa
  refine XS Qa Qa (Qh (Qe (Xd Qa (fun h9=> ?_) (fun h9=> ?_))))
  ·have hne:p.1≠f:= by simpa using h9
   refine Qg (Qb (Qd Qa Qa (Qd Qa Qa ?_)))
   refine Zg Qa H7 Js (by first | exact hS8.blk 0 Qa) (by first | decide | exact Xe Qa | (simp;done) | omega) Qa Qa ?_
   refine Ve 1 i hS8 Qa Qa Qa Qa (by have :=hT.le;omega) Ng Qa ?_
   intro b2 cap2 hv2
   refine Ts 1 hS8 Qa hv2 Qa Qa Js Qa Qa (by rw[UC]; have :=hT.le; have :=hT.len;omega) (O4 (p:=p) (by have :=hT.le; have :=hT.len;omega)) ?_
   intro w9 hS9; dsimp only[List.set]at hS9
   refine Qh (Qe (Qk [6,5,1,0] Qa (Qb (Qd Qa Qa (Xq Qa Qa (by omega) (by omega) Qa ?_)))))
   refine Qc Qa Qa (Qh (Qq (Qe (Qb (Qd Qa Qa (Xq Qa Qa (by omega) (by omega) Qa ?_))))))
   refine Qc Qa Qa (Qh ?_)
   exact QY (L1:=[(0,qv),(1,.func (.func 114) #[] #[ptrV c 0]),(5,intV ((i+1:Nat):Int)),(6,intV ((j+1:Nat):Int))]) (DF Qa Qa Qa Qa) (k1:=Q.length -(j+1)) (by omega) ⟨i+1,j+1,R.set i p, by omega,rfl,hS9.tail,hT.keep hp hne⟩
  have heq:p.1=f:= by simpa using h9
  refine Qr (Qq (Qe (Qb (Qd Qa Qa (Xq Qa Qa (by omega) (by omega) Qa ?_)))))
  refine Qc Qa Qa (Qh ?_)
  exact QY (L1:=[(0,qv),(1,.func (.func 114) #[] #[ptrV c 0]),(5,intV (i:Int)),(6,intV ((j+1:Nat):Int))]) (DF Qa Qa Qa Qa) (k1:=Q.length -(j+1)) (by omega) ⟨i,j+1,R, by omega,rfl,hS8.tail,hT.skip hp heq⟩
 refine Xu (Q1 (Q1 (QJ (Qe (Qg (Qb (Qd Qa Qa (Qd Qa Qa ?_))))))))
 obtain⟨b,cap,hv,hcap⟩:=hS3.own_at 0 rfl (by omega)
 subst hv
 refine DG i Q.length underlying117 Js Qa (HP i _ Qa Qa) (V4 _) (by omega) (by omega) Qa ?_
 obtain⟨X,hX,hXl⟩: ∃X:List Value,XK (ZF R) (if cap=i then 0 else 0+i*2) (List.replicate (Q.length -i) (Value.agg #[.int .i64 0,.int .i64 0]).cells.toList).flatten=ZF (R.take i)++X∧True:=clearX (by omega) (by omega)
 refine GR 0 hS3 Qa Qa Qa underlying117 GO Qa (by rw[UC];split<;> simp [Value.cells]<;>omega) hX Qa ?_
 intro w11 hS11; dsimp only[List.set,pd]at hS11⊢
 refine Qh (Qe (Qk [5,0] Qa (Qg (Qb (Qd Qa Qa (Qd Qa Qa (DG 0 i underlying117 Js Qa (V4 _) (HP i _ Qa Qa) (by omega) (by omega) Qa ?_)))))))
 exact Qc Qa Qa (Qh (Qe (Qo (Q7 (.inr Qa) Qa Qa (⟨_,rfl,delEnd hT (by omega) hS11⟩)))))
def Out (f:Int) (g0 g:Int×Int→Option Value) (dn:Int×Int→Prop):Prop:= ∀p,(dn p→g p= if p.1=f then none else g0 p)∧(¬dn p→g p=g0 p)
theorem Out.next {f:Int} {g0 g:Int×Int→Option Value} {dn:Int×Int→Prop} {k:Int×Int} (h:Out f g0 g dn) (hk: ¬dn k) (hf:k.1≠f):Out f g0 g (fun j=>dn j∨j=k):= by
  intro p
  refine⟨fun hp=> ?_, fun hp=>(h p).2 fun q=>hp (.inl q)⟩
  rcases hp with hp | rfl
  · exact(h p).1 hp
  · rw[if_neg hf]; exact(h p).2 hk
theorem Out.del {f:Int} {g0 g:Int×Int→Option Value} {dn:Int×Int→Prop} {k:Int×Int} (h:Out f g0 g dn) (hf:k.1=f):Out f g0 (upd g k none) (fun j=>dn j∨j=k):= by
  intro p
  by_cases hp:p=k
  · subst hp; exact⟨fun _=> by rw[HE,if_pos hf], fun q=>absurd (.inr Qa) q⟩
  · rw[R7 hp]
    exact⟨fun q=>(h p).1 (q.resolve_right hp), fun q=>(h p).2 fun r=>q (.inl r)⟩
theorem Out.done {f:Int} {Q:List (Int×Int)} {g0 g:Int×Int→Option Value} {dn:Int×Int→Prop} (h:Out f g0 g dn) (hg: ∀p,g0 p= if p∈Q then some (.bool true)else none) (hd: ∀k v,g k=some v→dn k): ∀p,g p= if p∈Q.filter (fun p=>p.1≠f)then some (.bool true)else none:= by
  intro p
  by_cases hp:dn p
  · rw[(h p).1 hp,hg];by_cases e:p.1=f<;> simp [e]
  · have h1:=(h p).2 hp
    rw[h1]
    have hn:g p=none:= by cases hq:g p with | none=>rfl | some v=> exact absurd (hd p v hq) hp
    rw[←h1,hn]
    rw[h1,hg]at hn
    split at hn
    · cases hn
    · rename_i hm; rw[if_neg (fun q=>hm (List.mem_filter.1 q).1)]
theorem Out.val {f:Int} {Q:List (Int×Int)} {g0 g:Int×Int→Option Value} {dn:Int×Int→Prop} {k:Int×Int} {v:Value} (h:Out f g0 g dn) (hg: ∀p,g0 p= if p∈Q then some (.bool true)else none) (hk: ¬dn k) (hv:g k=some v):v= .bool true:= by
  rw[(h k).2 hk,hg]at hv
  split at hv
  · exact(Option.some.inj hv).symm
  · cases hv
theorem mdel_sp {w:World} {F:Th} {bs:Nat} {Q:List (Int×Int)} (hS:Sat w [Hs bs Q,F]) {c:Nat} {f:Int} (hc:Ent F (Bv c f)):
    Calls prog 115 #[.map (some bs),.func (.func 116) #[] #[ptrV c 0]] w (Ret fun v w'=>v= .tuple #[]∧Sat w' [Hs bs (Q.filter fun p=>p.1≠f),F]):= by
 obtain⟨g0,hgs,hS⟩:=GY hS
 refine Qy func115 Qa ntmps115 Qa ?_
 refine Qg (Qb (Qd Qa Qa (Kd 0 hS underlying118 Qa Qa Qa ?_)))
 intro r1 left1 w1 hS1; dsimp only[List.set]at hS1
 refine Qh (Qe (QD (XD (fun K0 E0 W0=> ∃(g:Int×Int→Option Value) (dn:Int×Int→Prop) (cur:Option (Int×Int)) (left:Nat),K0=left∧E0=[(0,.map (some bs)),(1,.func (.func 116) #[] #[ptrV c 0]),(7,ptrV r1 0)]∧Sat W0 [YK Wq bs r1 g dn cur left,F]∧(Out f g0 g dn)) (L0:=[(0,_),(1,_),(7,_)]) (left1) (Dh Qa Qa Qa) ⟨g0,_,_,_,rfl,rfl,hS1, fun p=>⟨fun h=>h.elim, fun _=>rfl⟩⟩ ?_)))
 rintro _ _ w2 ⟨g,dn,cur,left,rfl,rfl,hS2,hout⟩
 refine Qg (Qb (RQ 0 hS2 keysSec.inj Qa Qa Qa (fun hdone=> ?_) (fun k v left2 w2 hleft hgk hnd hS2=> ?_)))
 ·exact Q9 Qa Qa Qa (Qh (Qe (Qg (QF Qa (Xu (Q1 (Q1 (QJ (H5 (.inl Qa) Qa (⟨_,Qa,Qa,YR g (hout.done hgs hdone) (Vq hS2)⟩))))))))))
 dsimp only[List.set]at hS2; obtain rfl:=hout.val hgs hnd hgk; obtain⟨k1,k2⟩:=k
 refine Q9 Qa Qa Qa (Qh (Qe (Qg (QL Qa (Qr (Qe (QD (Qg (Qb (Ke 0 hS2 Qa hgk Qa Qa (Q9 Qa Qa Qa (Q9 Qa Qa Qa (Xk hS2 GO Qa Qa ?_)))))))))))))
 intro b3 w3 hS3
 first | (refine QX hS3 Qa Qa Js Qa (by rfl) (i:=0) Qa (by decide) ?_)
 intro w4 hS5; dsimp only[List.set]at hS5
 refine Qc Qa Qa (Qh (Qe (Qg (Qb (Qd Qa Qa ?_)))))
 refine Zg Qa H7 Js (by first | exact hS5.blk 0 Qa) (by first | decide | exact Xe Qa | (simp;done) | omega) Qa Qa ?_
 refine Qd Qa Qa (Kf Qa cal_116 Qa (clo2_sp (hS5.sp [] Qa) (hc.starL 2 Qa) _ _ _) Qa ?_)
 rintro e w6 ⟨_,rfl,rfl,hS6⟩; refine⟨_,rfl, ?_⟩
 replace hS6:=hS6.jn Qa Qa
 refine Qh (Qe (Qk [7,1,0,4,16] Qa (Xd Qa (fun h7=> ?_) (fun h7=> ?_))))
 ·have heq:k1=f:= by simpa using h7
  refine Qb (Qd Qa Qa ?_)
  refine Zg Qa H7 Js (by first | exact hS6.blk 0 Qa) (by first | decide | exact Xe Qa | (simp;done) | omega) Qa Qa ?_
  refine SI (k:=(k1,k2)) 1 hS6 keysSec underlying118 Qa (.inr Qa) Qa Qa Qa ?_
  intro w7 hS7; dsimp only[List.set,pd]at hS7⊢
  exact Qh (Qq (QY (L1:=[(0,.map (some bs)),(1,.func (.func 116) #[] #[ptrV c 0]),(7,ptrV r1 0)]) (Dh Qa Qa Qa) (k1:=left2) (by omega) ⟨_,_,_,_,rfl,rfl,hS7.tail,hout.del heq⟩))
 have hne:k1≠f:= by simpa using h7
 exact Qr (Qq (QY (L1:=[(0,.map (some bs)),(1,.func (.func 116) #[] #[ptrV c 0]),(7,ptrV r1 0)]) (Dh Qa Qa Qa) (k1:=left2) (by omega) ⟨_,_,_,_,rfl,rfl,hS6.tail,hout.next hnd hne⟩))
theorem LN {As:List Th} {i c:Nat} {cs:List Value} {f:Int} (hi:As[i]? =some (QR c cs)) (hv:cs[0]? =some (intV f)):Ent (starL As) (Bv c f):= fun h=>Sat.cell (w:=_) ⟨_,h⟩ i hi hv
theorem SV {w:World} {p bf bs:Nat} {kp qv:Value} {D:DS} {g:Int→Option Value} {F X:Th} {f:Int} {s:Bytes} (hI:DInv D) (hs:s.length≤16777216) (hg:Hw g D.F) (h:Sat w [Hs bs (D.Q.filter fun p=>p.1≠f),XT qv (D.Q.filter fun p=>p.1≠f).length 2 (ZF (D.Q.filter fun p=>p.1≠f)),X,XI Za bf (upd g f (some (V0 (s,s)))),QR p (Y0 ⟨bf,bs,qv⟩ kp D),F]):Sat w [Z7 p kp (Wz D f s),F]:= by
  have h1:=Jg (As:=[Hs bs (D.Q.filter fun p=>p.1≠f),XT qv (D.Q.filter fun p=>p.1≠f).length 2 (ZF (D.Q.filter fun p=>p.1≠f)),X,QR p (Y0 ⟨bf,bs,qv⟩ kp D),F]) _ (B7 hg f (s,s)) (h.reorder [3,0,1,2,4,5] Qa)
  refine W8 ⟨bf,bs,qv⟩ ({hI with now:= fun k=> ?_,last:= fun k=> ?_,nodup:=hI.nodup.filter _,secs:= fun p hp=>hI.secs p (List.mem_filter.1 hp).1}) (((h1.reorder [3,4,0,2,1,5] Qa)).tail)
  · simp only[Wz,JX];split
    · exact hs
    · exact hI.now k
  · simp only[Wz,JX];split
    · exact hs
    · exact hI.last k
theorem Eu {w:World} {p:Nat} {kp:Value} {D:DS} {F:Th} (hS:Sat w [Z7 p kp D,F]) (f:Int) (s:Bytes) (hs:s.length≤16777216):
    Calls prog 94 #[ptrV p 0,intV f,strV s] w (Ret fun v w'=>v= .tuple #[]∧Sat w' [Z7 p kp (Wz D f s),F]):= by
 obtain⟨⟨bf,bs,qv⟩,hI,hS⟩:=Jm hS; dsimp only at hS
 obtain⟨g,hg,hS⟩:=Yd (hS.pull 1 rfl); dsimp only[List.eraseIdx]at hS
 refine Qy func94 Qa ntmps94 Qa ?_
 refine Qg (Qb (XZ hS Qa Qa Qa ?_))
 intro b1 w1 hS1
 refine Qh (Qe (Qg ?_))
 have hS2:=hS1.drew
 refine QT [0,1,2,3,4,5,6,7,8] [8] Jk (by kernel_rfl) ?_
 refine QM Qa Qa Qa (Xw Qa Qa Qa (QQ Qa Qa Qa Yc (QH Qa Qa Qa (Qn Qa U4 (hS2.cell 2 Qa Qa)) (QH Qa Qa Qa (Qn Qa QK (hS2.cell 0 Qa Qa)) (QM Qa Qa Qa (QM Qa Qa Qa (QG Qa Qa Qa (fun _=>(Wb Qa Mh Ef US Qa)) ?_)))))))
 refine Xb Qa Qa Qa Qa Qa Qa ?_
 first | refine Zj 1 hS2 keysInt underlying116 Qa Qa Qa Qa ?_
 intro w3 hS3; dsimp only[List.set]at hS3
 refine ZG (XC (by kernel_rfl)) ?_
 refine VC.nil (Qe (Qk [0,4] Qa (Qg (Qb (Qd Qa Qa (Qd Qa Qa (Ql Qa Qa (Qi Qa HK Qa (Qp Qa B6 (hS3.cell 2 Qa Qa) Qa (U8 Qa Qa (Q4 cal_113 Qa (IL (hS3.sp [3] Qa) (f:=f) (LN (i:=0) Qa Qa) (KR hI.secs hI.nodup)) Qa ?_)))))))))))
 rintro _ w4 hS4
 replace hS4:=hS4.jn Qa Qa
 have h1q:=hS4.own_one 0 Qa
 refine Ql Qa Qa (Qi Qa HK Qa ?_)
 (refine QC hS4 Qa Qa Cw (by assumption) (i:=3) Qa (Xe Qa) ?_)
 intro w5 hS6; dsimp only[List.set]at hS6
 refine Qh (Qe (Qk [0,4] Qa (Qb (Qd Qa Qa (Ql Qa Qa (Qi Qa Vz Qa (Qp Qa KF (hS6.cell 3 Qa Qa) Qa (U8 Qa Qa (Q4 cal_115 Qa (mdel_sp (hS6.sp [4] Qa) (f:=f) (LN (i:=1) Qa Qa)) Qa ?_)))))))))
 rintro _ w7 ⟨rfl,hS7⟩
 replace hS7:=hS7.jn Qa Qa
 exact Qh (H5 (.inl Qa) Qa (⟨_,Qa,Qa,SV hI hs hg hS7⟩))
theorem put_sp' {w:World} {F:Th} (hS:Sat w [F]) (s t:Bytes) (a:Nat) {x:Int} (ha:x=a) (h1:s.length≤16777216) (h2:a+t.length≤33554432):Calls prog 110 #[strV s,intV x,strV t] w (Ret fun v w'=>v=strV (J8 s a t)∧Sat w' [F]):= by
  subst ha; exact OC hS s t a h1 h2
theorem RdI.shape {v:Value} {l:List Int} {w:World} (h:RdI v l w): ∃ao cap,v= .slice ao l.length cap∧l.length≤9223372036854775807:= by obtain⟨ao,cap,h1,h2,_⟩:=h; exact⟨ao,cap,h1,h2⟩
theorem RdI.get {ao:Option Addr} {n cap i:Nat} {l:List Int} {x:Int} {w:World} (h:RdI (.slice ao n cap) l w) (hx:l[i]? =some x): ∃b off,ao=some ⟨b,off,none⟩∧w.cell? ⟨b,off+i*1,none⟩=some (intV x):= by
  obtain⟨ao',cap',h1,_,h3⟩:=h
  cases h1
  obtain⟨b,off,h4,h5⟩:=h3 i x hx
  exact⟨b,off,h4, by rw[Nat.mul_one]; exact h5⟩
theorem Ry (keep:List Int) (p:Int×Int): ∀(Q:List (Int×Int)) (k:Nat) (F:Int→Bytes×Bytes),Wo keep k (Q++[p]) F=(if keep≠[]∧(keep.getD ((k+Q.length)%keep.length) 0)%2=1 then Uc (Wo keep k Q F) p else Wo keep k Q F)
  | [],k,F=> by simp [Wo]
  | q::Q,k,F=> by
    simp only[List.cons_append,Wo]
    rw[Ry keep p Q (k+1)]
    rw[show k+1+Q.length=k+(q::Q).length by simp;omega]
def YW (keep:List Int) (Q:List (Int×Int)) (F:Int→Bytes×Bytes) (i:Nat):Int→Bytes×Bytes:=Wo keep 0 (Q.take i) F
theorem Tx {keep:List Int} {Q:List (Int×Int)} {F:Int→Bytes×Bytes} {i:Nat} {p:Int×Int} (hp:Q[i]? =some p):YW keep Q F (i+1)=(if keep≠[]∧(keep.getD (i%keep.length) 0)%2=1 then Uc (YW keep Q F i) p else YW keep Q F i):= by
  have hi:=(Jo hp).1
  unfold YW
  rw[List.take_add_one,hp]
  simp only[Option.toList_some]
  rw[Ry,List.length_take,Nat.min_eq_left (by omega),Nat.zero_add]
theorem GU {keep:List Int} {Q:List (Int×Int)} {F:Int→Bytes×Bytes} {i:Nat} {p:Int×Int} (hp:Q[i]? =some p) (h: ¬(keep≠[]∧(keep.getD (i%keep.length) 0)%2=1)∨((YW keep Q F i) p.1).1.length≤64*p.2):YW keep Q F (i+1)=YW keep Q F i:= by
  rw[Tx hp]
  split
  · rename_i hc
    rcases h with h | h
    · exact absurd hc h
    · rw[Uc,if_pos h]
  · rfl
def GF (s:Bytes) (a:Nat):Bytes:=(s.drop a).take 64
theorem Of {keep:List Int} {Q:List (Int×Int)} {F:Int→Bytes×Bytes} {i a:Nat} {p:Int×Int} (hp:Q[i]? =some p) (hk:keep≠[]) (hb:(keep.getD (i%keep.length) 0)%2=1) (ha:64*p.2=a) (hlt:a<((YW keep Q F i) p.1).1.length):
    YW keep Q F (i+1)=JX (YW keep Q F i) p.1 (((YW keep Q F i) p.1).1,J8 ((YW keep Q F i) p.1).2 a (GF ((YW keep Q F i) p.1).1 a)):= by
  rw[Tx hp,if_pos ⟨hk,hb⟩,Uc,if_neg (by omega),ha]
  simp [GF]
structure Small (F:Int→Bytes×Bytes):Prop where
  now: ∀k,(F k).1.length≤16777216
  last: ∀k,(F k).2.length≤16777216
theorem Small.set {F:Int→Bytes×Bytes} (h:Small F) (k:Int) {t:Bytes} (ht:t.length≤16777216):Small (JX F k ((F k).1,t)):= by
  refine⟨fun j=> ?_, fun j=> ?_⟩
  · simp only[JX];split
    · exact h.now k
    · exact h.now j
  · simp only[JX];split
    · exact ht
    · exact h.last j
theorem cut_eq {s:Bytes} {a B:Nat} (h:min ((a:Int)+64) (s.length:Int)=B):(s.take B).drop a=GF s a:= by
  unfold GF
  rw[List.drop_take]
  by_cases hc:a+64≤s.length
  · rw[show B -a=64 by omega]
  · rw[List.take_of_length_le (by simp;omega),List.take_of_length_le (by simp;omega)]
theorem cut_le2 (s:Bytes) (a:Nat) (h:a≤s.length):a+(GF s a).length≤s.length:= by simp [GF];omega
theorem cut_le (s:Bytes) (a:Nat):(GF s a).length≤64:= by simp [GF];omega
def Cr (G:Int→Bytes×Bytes) (g0 g:Int→Option Value) (dn:Int→Prop):Prop:= ∀k,((g k=none↔g0 k=none))∧(dn k→g0 k≠none→g k=some (V0 ((G k).2,(G k).2)))∧(¬dn k→g k=g0 k)
theorem Ax {x y:Bytes×Bytes} (h:V0 x=V0 y):x=y:= by
  obtain⟨a,b⟩:=x
  obtain⟨c,d⟩:=y
  simp [V0]at h
  simp [h]
theorem Cr.val {G:Int→Bytes×Bytes} {g0 g:Int→Option Value} {dn:Int→Prop} {k:Int} {v:Value} (h:Cr G g0 g dn) (hs:Hw g0 G) (hk: ¬dn k) (hv:g k=some v):v=V0 (G k):= by
  have :=hs k
  rw[←(h k).2.2 hk,hv]at this
  exact this
theorem Cr.step {G:Int→Bytes×Bytes} {g0 g:Int→Option Value} {dn:Int→Prop} {k:Int} {v:Value} (h:Cr G g0 g dn) (hk: ¬dn k) (hv:g k=some v):Cr G g0 (upd g k (some (V0 ((G k).2,(G k).2)))) (fun j=>dn j∨j=k):= by
  intro j
  by_cases hj:j=k
  · subst hj
    have h0:g0 j≠none:= fun q=> by have :=(h j).1.2 q; rw[hv]at this; cases this
    exact⟨⟨fun q=>(by rw[HE]at q; cases q), fun q=>absurd q h0⟩, fun _ _=>HE, fun q=>absurd (.inr Qa) q⟩
  · rw[R7 hj]
    exact⟨(h j).1, fun q=>(h j).2.1 (q.resolve_right hj), fun q=>(h j).2.2 fun r=>q (.inl r)⟩
theorem Cr.done {G:Int→Bytes×Bytes} {g0 g:Int→Option Value} {dn:Int→Prop} (h:Cr G g0 g dn) (hs:Hw g0 G) (hd: ∀k v,g k=some v→dn k):Hw g (fun k=>((G k).2,(G k).2)):= by
  intro k
  cases hq:g k with
  | none=>
    have :=hs k
    rw[(h k).1.1 hq]at this
    have :=Ax this
    show _=V0 ((G k).2,(G k).2)
    rw[←this];rfl
  | some v=>
    have h0:g0 k≠none:= fun q=> by have :=(h k).1.2 q; rw[hq]at this; cases this
    have :=(h k).2.1 (hd k v hq) h0
    rw[hq]at this
    rw[this];rfl
theorem Nl {w:World} {p bf bs:Nat} {C:List Value} {qv:Value} {Q:List (Int×Int)} {U U':Int→Bytes×Bytes} {g:Int→Option Value} {F X Y:Th} (hu:U'=U) (hg:Hw g U) (h:Sat w [X,XI Za bf g,Y,QR p C,XT qv Q.length 2 (ZF Q),Hs bs Q,F]):Sat w [QR p C,JM bf U',XT qv Q.length 2 (ZF Q),Hs bs Q,F]:= by
  rw[hu]
  exact(Jg (As:=[Y,QR p C,XT qv Q.length 2 (ZF Q),Hs bs Q,F]) g hg h.tail).drop 1 Qa |>.reorder [1,0,2,3,4] Qa
theorem cr_put {w:World} {p bf bs:Nat} {C:List Value} {qv:Value} {Q:List (Int×Int)} {U U':Int→Bytes×Bytes} {g:Int→Option Value} {F X Y:Th} {k:Int} {x:Bytes×Bytes} (hu:U'=JX U k x) (hg:Hw g U) (h:Sat w [X,XI Za bf (upd g k (some (V0 x))),Y,QR p C,XT qv Q.length 2 (ZF Q),Hs bs Q,F]):Sat w [QR p C,JM bf U',XT qv Q.length 2 (ZF Q),Hs bs Q,F]:= by
  rw[hu]
  exact(Jg (As:=[Y,QR p C,XT qv Q.length 2 (ZF Q),Hs bs Q,F]) _ (B7 hg k x) h.tail).drop 1 Qa |>.reorder [1,0,2,3,4] Qa
theorem AD {w:World} {p bf bs2 i:Nat} {kp:Value} {D:DS} {ks:List Int} {g:Int→Option Value} {dn:Int→Prop} {cur:Option Int} {left r:Nat} {F X Y:Th} (hI:DInv D) (hd:D.down=false) (hi:i=D.Q.length) (hsm:Small (YW ks D.Q D.F i)) (hg:Hw g (fun k=>((YW ks D.Q D.F i k).2,(YW ks D.Q D.F i k).2)))
    (h:Sat w [XI Wq bs2 (fun _=>none),YK Za bf r g dn cur left,QR p [.map (some bf),.slice none 0 0,.map (some bs2),intV D.lost,.bool true,intV 0,kp],X,Y,F]):Sat w [Z7 p kp (ZY D ks),F]:= by
  have h1:=YR (Q:=[]) (fun _=>none) (by simp) h
  have h2:=Jg (F:= fun k=>((YW ks D.Q D.F i k).2,(YW ks D.Q D.F i k).2)) g hg (Vq (h1.reorder [1,0,2,3,4,5] Qa))
  have h3:=h2.new (Only.refl [] w) (A:=XT (.slice none 0 0) 0 2 []) (F':= fun k=>k∈([]:List Nat)) ⟨[],rfl,Own.nil w 2⟩ (by simp)
  have h4:=(h3.drop 4 Qa).drop 4 Qa
  dsimp only[List.eraseIdx]at h4
  have hD:ZY D ks={D with down:=true,armed:=0,F:= fun k=>((YW ks D.Q D.F i k).2,(YW ks D.Q D.F i k).2),Q:=[]}:= by
    rw[ZY,if_neg (by rw[hd]; simp),hi]
    simp [YW]
  rw[hD]
  refine W8 ⟨bf,bs2,.slice none 0 0⟩ ?_ (h4.reorder [3,1,0,2,4] Qa)
  exact{hI with now:= fun k=>hsm.last k,last:= fun k=>hsm.last k,nodup:=List.nodup_nil,secs:= by simp,armed:= by simp }
theorem Ss {w:World} {p:Nat} {kp:Value} {D:DS} {F:Th} (hS:Sat w [Z7 p kp D,F]) {kv:Value} {ks:List Int} (hK:Ent F (RdI kv ks)):
    Calls prog 83 #[ptrV p 0,kv] w (Ret fun v w'=>v= .tuple #[]∧Sat w' [Z7 p kp (ZY D ks),F]):= by
 obtain⟨ao,capk,rfl,hkmax⟩:=(hK.sat hS 1 rfl).shape
 obtain⟨⟨bf,bs,qv⟩,hI,hS⟩:=Jm hS; dsimp only at hS
 refine Qy func83 Qa ntmps83 Qa ?_
 have hcnt:=KR hI.secs hI.nodup
 refine Qg (Qg (Qb (Qd Qa Qa (Ql Qa Qa (Qi Qa K2 Qa (Qp Qa JT (hS.cell 0 Qa Qa) Qa (Qh (Qe (Xd Qa (fun h1=> ?_) (fun h1=> ?_))))))))))
 ·have hd:D.down=true:=h1
  refine Qo (Qm (H5 (.inr Qa) Qa ?_))
  exact⟨_,rfl,rfl, by rw[ZY,if_pos hd]; exact W8 ⟨bf,bs,qv⟩ hI hS⟩
 have hd:D.down=false:=h1
 refine Qr (Qe (Qg (Qb (Qd Qa Qa (Qd Qa Qa (Ql Qa Qa (Qi Qa K2 Qa ?_)))))))
 first | (refine QC hS Qa Qa Jy (by rfl) (i:=0) Qa (Xe Qa) ?_)
 intro w2 hS3; dsimp only[List.set]at hS3
 refine Ql Qa Qa (Qi Qa K1 Qa ?_)
 first | (refine QC hS3 Qa Qa YH (by rfl) (i:=0) Qa (Xe Qa) ?_)
 intro w4 hS5; dsimp only[List.set]at hS5
 refine Qh (Qe (Qk [1,0] Qa (Qg (Qg (Qb (Qd Qa Qa (Ql Qa Qa (Qi Qa HK Qa (Qp Qa B6 (hS5.cell 0 Qa Qa) Qa (X3 2 hS5 underlying117 Qa Qa Qa (Qd Qa Qa (Qh (Qe (QD ?_))))))))))))))
 refine XD (fun K0 E0 W0=> ∃(i:Nat),K0=D.Q.length -i∧E0=[(0,ptrV p 0),(1,.slice ao ks.length capk),(23,qv),(24,intV (D.Q.length:Int)),(25,intV (i:Int))]∧Sat W0 [QR p [.map (some bf),qv,.map (some bs),intV D.lost,.bool true,intV 0,kp],JM bf (YW ks D.Q D.F i),XT qv D.Q.length 2 (ZF D.Q),Hs bs D.Q,F]∧(i≤D.Q.length)∧(Small (YW ks D.Q D.F i))) (L0:=[(0,_),(1,_),(23,_),(24,_),(25,_)]) (D.Q.length) (SC Qa Qa Qa Qa Qa) ⟨0, by omega,rfl,hS5, by omega,⟨hI.now,hI.last⟩⟩ ?_
 rintro _ _ w6 ⟨i,rfl,rfl,hS6,hi,hsm⟩
 refine Qg (Qb (Xz Qa Qa Qa (Qh (Qe (Qg (Qw Qa (fun h7=> ?_) (fun h7=> ?_)))))))
 ·obtain⟨⟨q1,q2⟩,hq⟩: ∃q,D.Q[i]? =some q:=⟨_,WU (by omega)⟩
  have hsec:=hI.secs _ (List.mem_of_getElem? hq)
  refine Qr (Qe (Qg (QD (Qg (Qb (Qd Qa Qa (Ve 2 i hS6 Qa Qa Qa Qa (by omega) Ng Qa ?_)))))))
  intro bq capq hv
  refine RU 2 hS6 Qa hv Qa H7 Js (SZ hq) Qa Qa (Xk hS6 GO Qa Qa ?_)
  intro b8 w8 hS8
  refine Qc Qa Qa ?_
  (refine QX hS8 Qa Qa Js Qa (by rfl) (i:=0) Qa (by decide) ?_)
  intro w9 hS10; dsimp only[List.set]at hS10
  refine Qh (Qe (Qk [25,24,23,1,0,5,4] Qa (Qg ?_)))
  obtain⟨g,hg,hS10⟩:=Yd (hS10.pull 2 rfl); dsimp only[List.eraseIdx]at hS10
  have hS11:=hS10.drew
  refine QT [0,1,2,3,4,5,6,7,8,9,10,11,12] [10,11] Jk (by kernel_rfl) ?_
  refine QM Qa Qa Qa (Xw Qa Qa Qa (QQ Qa Qa Qa Yc (QH Qa Qa Qa (Qn Qa U4 (hS11.cell 2 Qa Qa)) (QQ Qa Qa Qa Gz (QH Qa Qa Qa (Qn Qa QK (hS11.cell 1 Qa Qa)) (QH Qa Qa Qa (JK 0 hS11 keysInt underlying116 Qa Qa Qa US (hg _)) (QQ Qa Qa Qa I8 (QH Qa Qa Qa (Qn Qa QK (hS11.cell 1 Qa Qa)) (QG Qa Qa Qa (fun _=>(F6 Qa Qa (by omega) (by omega))) ?_)))))))))
  refine Xb Qa Qa Qa Qa Qa Qa ?_
  refine Xk hS11 US Qa Qa ?_
  intro b12 w12 hS12
  refine Xn (.cons (.inl ⟨Qa,(Qn Qa QK (hS12.cell 2 Qa Qa))⟩) (.cons (.inl ⟨Qa,(JK 1 hS12 keysInt underlying116 Qa Qa Qa US (hg _))⟩) (.cons (.inl ⟨Qa,(Qn Qa QK (hS12.cell 2 Qa Qa))⟩) (.cons (.inl ⟨Qa,(Qn Qa U4 (hS12.cell 3 Qa Qa))⟩) .nil)))) (Xb Qa Qa Qa Qa Qa Qa ?_)
  (refine QX hS12 Qa Qa DU Qa (by rfl) (i:=0) Qa (by decide) ?_)
  intro w13 hS14; dsimp only[List.set]at hS14
  refine ZG (.cons (.inl ⟨rfl,(Qn Qa QK (hS14.cell 2 Qa Qa))⟩) (XC (by kernel_rfl))) ?_
  refine Jr Qa Qa Qa (VC.nil (Qe (Qk [25,24,23,1,0,5,4,6,7] Qa (Qg (Qg (Qb (Qd Qa Qa ?_)))))))
  first | refine Xj underlying33 Qa Qa ?_ | refine X3 4 hS14 underlying33 Qa Qa Qa ?_
  refine QO Qa Qa Qa (Qd Qa Qa (Q3 43 Qa (fun h15=> ?_) (fun h15=> ?_)))
  ·have hk0:ks=[]:=List.length_eq_zero_iff.1 (by omega)
   refine Qf Qa Qa (Q8 h15) Qa (Qf Qa Qa (Q8 h15) Qa (Qf Qa Qa (Q8 h15) Qa (Qf Qa Qa (Q8 h15) Qa (Qf Qa Qa (Q8 h15) Qa (Qf Qa Qa (Q8 h15) Qa (Qf Qa Qa (Q8 h15) Qa (Qf Qa Qa (Q8 h15) Qa (Qf Qa Qa (Q8 h15) Qa (Qx Qa (Q8 h15) Qa Qa (Qd Qa Qa (Qf Qa Qa Qa Qa (Qf Qa Qa Qa Qa (Qf Qa Qa Qa Qa (Qf Qa Qa Qa Qa (Qf Qa Qa Qa Qa (Qx Qa Qa Qa Qa (Qh (Qe (Qk [25,24,23,1,0,5,6,7,60] Qa (QL Qa (Xu (Q1 (QJ (Qe (Qb (Xq Qa Qa (by omega) (by omega) Qa ?_))))))))))))))))))))))))))
   refine Qd Qa Qa (Qh ?_)
   have hu:=GU (keep:=ks) (F:=D.F) hq (.inl (by simp [hk0]))
   exact QY (L1:=[(0,ptrV p 0),(1,_),(23,qv),(24,intV (D.Q.length:Int)),(25,intV ((i+1:Nat):Int))]) (SC Qa Qa Qa Qa Qa) (k1:=D.Q.length -(i+1)) (by omega) ⟨i+1, by omega,rfl,Nl hu hg hS14, by omega, by rw[hu]; exact hsm⟩
  have hkl:0<ks.length:= by omega
  obtain⟨x,hx⟩: ∃x,ks[i%ks.length]? =some x:=⟨_,WU (Nat.mod_lt _ hkl)⟩
  have hkx:ks.getD (i%ks.length) 0=x:= by simp [List.getD_eq_getElem?_getD,hx]
  obtain⟨bk,ok,rfl,hcell⟩:=(hK.sat hS14 6 rfl).get hx
  refine Qj Qa Qa (Qv h15) (Qd Qa Qa (Qj Qa Qa (Qv h15) (Qd Qa Qa (Qj Qa Qa (Qv h15) (Qd Qa Qa (Qj Qa Qa (Qv h15) (Xj underlying33 Qa Qa (Qj Qa Qa (Qv h15) (SF Qa Qa (by omega) (by omega) Qa ?_)))))))))
  refine Qj Qa Qa (Qv h15) (XG (i%ks.length) Qa Qa (by rfl) (Nat.mod_lt _ hkl) K7 Qa ?_)
  refine Qj Qa Qa (Qv h15) (Qp Qa QK (by assumption) Qa ?_)
  refine Qj Qa Qa (Qv h15) (V6 1 Qa Qa Qa Qa (q:=2) Qa Qa (Qj Qa Qa (Qv h15) (QO Qa Qa Qa (Qz Qa (Qv h15) Qa Qa (Qd Qa Qa (Q3 54 Qa (fun h16=> ?_) (fun h16=> ?_)))))))
  ·refine Qf Qa Qa (Q8 h16) Qa (Qf Qa Qa (Q8 h16) Qa (Qf Qa Qa (Q8 h16) Qa (Qf Qa Qa (Q8 h16) Qa (Qf Qa Qa (Q8 h16) Qa (Qx Qa (Q8 h16) Qa Qa (Qh (Qe (Qk [25,24,23,1,0,5,6,7,60] Qa (QL Qa (Xu (Q1 (QJ (Qe (Qb (Xq Qa Qa (by omega) (by omega) Qa ?_)))))))))))))))
   refine Qd Qa Qa (Qh ?_)
   have hu:=GU (keep:=ks) (F:=D.F) hq (.inl (by rw[hkx];omega))
   exact QY (L1:=[(0,ptrV p 0),(1,_),(23,qv),(24,intV (D.Q.length:Int)),(25,intV ((i+1:Nat):Int))]) (SC Qa Qa Qa Qa Qa) (k1:=D.Q.length -(i+1)) (by omega) ⟨i+1, by omega,rfl,Nl hu hg hS14, by omega, by rw[hu]; exact hsm⟩
  refine Qj Qa Qa (Qv h16) (Qd Qa Qa (Qj Qa Qa (Qv h16) (Qi Qa Kz Qa (Qj Qa Qa (Qv h16) (Qp Qa Zw (hS14.cell 0 Qa Qa) Qa (Qj Qa Qa (Qv h16) (Zs underlying9 Qa Qa (Qj Qa Qa (Qv h16) (Jj Qa Qa Qa (Qz Qa (Qv h16) Qa Qa (Qh (Qe (Qk [25,24,23,1,0,5,6,7,60] Qa (Qw Qa (fun h17=> ?_) (fun h17=> ?_)))))))))))))))
  ·refine Xu (Q1 (QJ (Qe (Qb (Xq Qa Qa (by omega) (by omega) Qa ?_)))))
   refine Qd Qa Qa (Qh ?_)
   have hu:=GU (keep:=ks) (F:=D.F) hq (.inr (by dsimp only;omega))
   exact QY (L1:=[(0,ptrV p 0),(1,_),(23,qv),(24,intV (D.Q.length:Int)),(25,intV ((i+1:Nat):Int))]) (SC Qa Qa Qa Qa Qa) (k1:=D.Q.length -(i+1)) (by omega) ⟨i+1, by omega,rfl,Nl hu hg hS14, by omega, by rw[hu]; exact hsm⟩
  refine Qr (Qe (Qg ?_))
  have hkn:ks≠[]:= by intro e; simp [e]at hkl
  obtain⟨a,ha⟩: ∃a:Nat,q2*64=a:=⟨(q2*64).toNat, by omega⟩
  obtain⟨B,hB⟩: ∃B:Nat,min (q2*64+64) ((YW ks D.Q D.F i q1).1.length:Int)=B:=⟨(min (q2*64+64) ((YW ks D.Q D.F i q1).1.length:Int)).toNat, by omega⟩
  have hcut:((YW ks D.Q D.F i q1).1.take B).drop a=GF (YW ks D.Q D.F i q1).1 a:=cut_eq (by omega)
  have hu:=Of (F:=D.F) hq hkn (by rw[hkx];omega) (a:=a) (by simp;omega) (by simp;omega)
  dsimp only at hu; rw[←hcut]at hu
  have hfit:=cut_le2 (YW ks D.Q D.F i q1).1 a (by omega)
  have hnow:=hsm.now q1
  have hS18:=hS14.drew
  refine QT [0,1,2,3,4,5,6,7,8,9,10,11,12,13,14,15] [13,15] Jk (by kernel_rfl) ?_
  refine QQ Qa Qa Qa G0 (QH Qa Qa Qa (Qn Qa Zw (hS18.cell 0 Qa Qa)) (QM Qa Qa Qa (QQ Qa Qa Qa Kz (QH Qa Qa Qa (Qn Qa Zw (hS18.cell 0 Qa Qa)) (QM Qa Qa Qa (QM Qa Qa Qa (QG Qa Qa Qa (fun _=>(IE Qa Qa (by omega) (by omega))) ?_)))))))
  refine QQ Qa Qa Qa Kz (QH Qa Qa Qa (Qn Qa Zw (hS18.cell 0 Qa Qa)) (QG Qa Qa Qa (fun _=>(G9 underlying9 Qa)) ?_))
  refine QG Qa Qa Qa (fun _=>(Dw Qa Qa)) ?_
  refine QG Qa Qa Qa (fun _=>(V1 a B underlying9 Qa (HP a _ Qa ha) (HP B _ Qa hB) (by omega) (by omega))) ?_
  refine Xb Qa Qa Qa Qa Qa Qa ?_
  refine Q4 LT Qa (put_sp' (hS18.sp [] Qa) _ _ a ha (hsm.last _) (by rw[hcut]; have :=cut_le (YW ks D.Q D.F i q1).1 a;omega)) Qa ?_
  rintro _ w19 ⟨rfl,hS19⟩
  replace hS19:=hS19.jn Qa Qa
  refine Xn (XC (by kernel_rfl)) ?_
  refine QQ Qa Qa Qa G0 (Xb Qa Qa Qa Qa Qa Qa ?_)
  (refine QC hS19 Qa Qa R8 (by rfl) (i:=0) Qa (Xe Qa) ?_)
  intro w20 hS21; dsimp only[List.set]at hS21
  refine ZG (XC (by kernel_rfl)) ?_
  refine VC.nil (Qe (Qk [25,24,23,1,0,5,6] Qa ?_))
  have hS22:=hS21.drew
  refine QT [0,1,2,3,4,5,6,7] [7] Jk (by kernel_rfl) ?_
  refine QM Qa Qa Qa (Xw Qa Qa Qa (QQ Qa Qa Qa Yc (QH Qa Qa Qa (Qn Qa U4 (hS22.cell 3 Qa Qa)) (QQ Qa Qa Qa Gz (QH Qa Qa Qa (Qn Qa QK (hS22.cell 2 Qa Qa)) (QH Qa Qa Qa (Jh Qa qaz DU (hS22.blk 0 Qa) (Xe Qa) Qa) (Xb Qa Qa Qa Qa Qa Qa ?_)))))))
  first | refine Zj 1 hS22 keysInt underlying116 Qa Qa Qa Qa ?_
  intro w23 hS23; dsimp only[List.set]at hS23
  refine ZG (XC (by kernel_rfl)) ?_
  refine VC.nil (Qq (Qe (Qk [25,24,23,1,0] Qa (Qb (Xq Qa Qa (by omega) (by omega) Qa ?_)))))
  refine Qd Qa Qa (Qh ?_)
  exact QY (L1:=[(0,ptrV p 0),(1,_),(23,qv),(24,intV (D.Q.length:Int)),(25,intV ((i+1:Nat):Int))]) (SC Qa Qa Qa Qa Qa) (k1:=D.Q.length -(i+1)) (by omega) ⟨i+1, by omega,rfl,cr_put hu hg hS23, by omega, by rw[hu]; exact hsm.set _ (Lk (hsm.last _) (by rw[hcut];omega))⟩
 refine Xu (Q1 (Q1 (QJ (Qe (Qg (Qg ?_))))))
 obtain⟨g,hg,hS6⟩:=Yd (hS6.pull 1 rfl); dsimp only[List.eraseIdx]at hS6
 refine Qb (Qd Qa Qa (Ql Qa Qa (Qi Qa Yc Qa (Qp Qa U4 (hS6.cell 1 Qa Qa) Qa (Kd 0 hS6 underlying116 Qa Qa Qa ?_)))))
 intro r24 left24 w24 hS24; dsimp only[List.set]at hS24
 refine Qh (Qe (Qk [0,88] Qa (QD ?_)))
 have hg0:=hg; obtain⟨RR,rfl⟩: ∃R,R=r24:=⟨_,rfl⟩; obtain⟨g0,rfl⟩: ∃g0,g0=g:=⟨_,rfl⟩
 refine XD (fun K0 E0 W0=> ∃(g:Int→Option Value) (dn:Int→Prop) (cur:Option Int) (left:Nat),K0=left∧E0=[(0,ptrV p 0),(88,ptrV RR 0)]∧Sat W0 [YK Za bf RR g dn cur left,QR p [.map (some bf),qv,.map (some bs),intV D.lost,.bool true,intV 0,kp],XT qv D.Q.length 2 (ZF D.Q),Hs bs D.Q,F]∧(Cr (YW ks D.Q D.F i) g0 g dn)) (L0:=[(0,_),(88,_)]) (left24) (FZ Qa Qa) ⟨g0,_,_,_,rfl,rfl,hS24, fun k=>⟨Iff.rfl, fun h=>h.elim, fun _=>rfl⟩⟩ ?_
 rintro _ _ w25 ⟨g,dn,cur,left,rfl,rfl,hS25,hcr⟩
 refine Qg (Qb (RQ 0 hS25 keysInt.inj Qa Qa Qa (fun hdone=> ?_) (fun k v left2 w2 hleft hgk hnd hS2=> ?_)))
 ·refine Q9 Qa Qa Qa (Qh (Qe (Qg (QF Qa (Xu (Q1 (Q1 (QJ (Qe (Qb (Qd Qa Qa (Qd Qa Qa (W6 Wq hS25 Qa ?_)))))))))))))
  intro b26 w26 hS26
  refine Ql Qa Qa (Qi Qa HK Qa ?_)
  first | (refine QC hS26 Qa Qa Cw (by rfl) (i:=2) Qa (Xe Qa) ?_)
  intro w27 hS28; dsimp only[List.set]at hS28
  refine Ql Qa Qa (Qi Qa Vz Qa ?_)
  first | (refine QC hS28 Qa Qa Ol (by rfl) (i:=2) Qa (Xe Qa) ?_)
  intro w29 hS30; dsimp only[List.set]at hS30
  exact Qh (H5 (.inl Qa) Qa (⟨_,rfl,rfl,AD hI hd (by omega) hsm (hcr.done hg0 hdone) hS30⟩))
 dsimp only[List.set]at hS2; obtain rfl:=hcr.val hg0 hnd hgk
 refine Q9 Qa Qa Qa (Qh (Qe (Qg (QL Qa (Qr (Qe (QD (Qg (Qb (Ke 0 hS2 Qa hgk Qa Qa (Q9 Qa Qa Qa (Q9 Qa Qa Qa (Xk hS2 US Qa Qa ?_)))))))))))))
 intro b31 w31 hS31
 refine Qc Qa Qa ?_
 (refine QX hS31 Qa Qa DU Qa (by rfl) (i:=0) Qa (by decide) ?_)
 intro w32 hS33; dsimp only[List.set]at hS33
 refine Qh (Qe ?_)
 have hS34:=hS33.drew
 refine QT [0,1,2,3,4,5,6,7,8,9,10] [10] Jk (by kernel_rfl) ?_
 refine QM Qa Qa Qa (Xw Qa Qa Qa (QQ Qa Qa Qa Yc (QH Qa Qa Qa (Qn Qa U4 (hS34.cell 2 Qa Qa)) (QM Qa Qa Qa (QQ Qa Qa Qa G0 (QH Qa Qa Qa (Qn Qa Zw (hS34.cell 0 Qa Qa)) (QQ Qa Qa Qa G0 (QH Qa Qa Qa (Qn Qa Zw (hS34.cell 0 Qa Qa)) (QG Qa Qa Qa (fun _=>(Wb Qa Mh Ef US Qa)) ?_)))))))))
 refine Xb Qa Qa Qa Qa Qa Qa ?_
 refine UT (k:=k) 1 hS34 keysInt underlying116 Qa hgk Qa Qa Qa ?_
 intro w13 hS13; dsimp only[List.set]at hS13
 refine ZG (XC (by kernel_rfl)) ?_
 exact VC.nil (Qq (QY (L1:=[(0,ptrV p 0),(88,ptrV RR 0)]) (FZ Qa Qa) (k1:=left2) (by omega) ⟨_,_,_,_,rfl,rfl,hS13.tail,hcr.step hnd hgk⟩))
