/- leaves: Valid -/
import Derived.Test.YtifaibmhinlcfaaGreatDoorLv9
import Derived.Shelf.Spec.TrailingZeros
set_option linter.unusedSectionVars false
set_option linter.unusedVariables false
set_option maxRecDepth 100000
set_option maxHeartbeats 80000000000
namespace Go.Proofs.YtifaibmhinlcfaaGreatDoor
open Go.RowKit M Proofs.Tryz
variable [Inhabited SlW]
variable {L L' L1:LvD} {P:KD→Prop} {V V1:VS} {b c m n:Nat} {id p s:Int} {k:KD} {t t1:TrD} {w:World} {x1:LfD}
theorem qag {st s2 rd:BitVec 64} {pa pb:Bs} (a:st≠0#64) (b: ∀j,j<64->st.getLsbD j=true->rd.getLsbD j=true) (d: ∀j,j<64->rd.getLsbD j=true->st.getLsbD j=true\/pa[j]? =pb[j]?) (f:pa[Lib.ctz 64 st.toNat]? =pb[Lib.ctz 64 st.toNat]?):
    (∀j,j<64->(st&&&(st -1#64)).getLsbD j=true->rd.getLsbD j=true)/\(∀j,j<64->rd.getLsbD j=true->(st&&&(st -1#64)).getLsbD j=true\/pa[j]? =pb[j]?)/\(st&&&(st -1#64)).toNat<st.toNat:=by
  obtain⟨k,g⟩:=Fx st a;refine⟨λj c h=> ?_,λj c h=> ?_, ?_⟩
  · rw[(g j c).1,Bool.and_eq_true]at h;exact b j c h.1
  · rcases d j c h with q | q
    · by_cases e:j=Lib.ctz 64 st.toNat
      · right;rw[e];exact f
      · left;rw[(g j c).1,q];simp [e]
    · exact .inr q
  · have l:st.toNat≠0:= λq=>a (BitVec.eq_of_toNat_eq (by simpa using q))
    have i:(st -1#64).toNat=st.toNat -1:=by
      rw[BitVec.toNat_sub];have :=st.isLt;simp;omega
    rw[BitVec.toNat_and,i];have :=Nat.and_le_right (n:=st.toNat) (m:=st.toNat -1);omega
theorem O5 {Fr:Nat} {F:Th} (N:Sat w [WB b L,ZP L.sp n Fr V,F]) (hn:n<=60000000000) (C:LvI m L V) (hm:m<ZO) (hG:Ent F GT) (D:L.tr id=some t):
    Calls prog 105 #[ptrV b 0,intV id] w (Ret λv w'=> ∃r:Bool,v= .bool r/\(r=true↔ ∀k x,t.lv k=some x->VK L V t k x)/\Sat w' [WB b L,ZP L.sp n Fr V,F]):=by
 have h0:id≠0:=C.rank.none0 D;obtain⟨Av,a4,a5⟩:=C.rank.av id;replace N:=Zo N;refine Qn func105 U ntmps105 U ?_;refine Qe<|Qa<|Qd U U<|Qf<|Qc<|Qe<|Qe<|Qa<|Qb U U<|Xg U U U<|Qf<|Qc<|Qs U (λM=> ?_) (λM=> ?_)
 ·exact absurd M h0
 refine Qt<|Qc<|Qe<|Qa<|Qb U U<|Qj U U<|Qg U Wv U<|Qo U J9 (N.cell 0 U U) U<|Qb U U<|Xf (k:=id) 2 N keysInt underlying141 U U U YY (u:=ptrV t.ad 0) (XH D) U<|Qd U U<|Qf<|Qc<|Qh [0,4,5] U<|Qe<|Qe<|Qa<|Qb U U<|XG underlying139 U U U<|Qf<|Qc<|QM U<|Qt<|Qc<|Qe<|Qe ?_;have j2:=W3 (N.pick [3,0,1,2,4,5,6] U) D;refine Qa<|Qb U U<|Qj U U<|Qg U Wu U<|Qo U Jv (j2.cell 0 U U) U<|WN 1 j2 underlying145 U U U ?_;intro RR left0 wR O;dsimp only[List.set]at O;refine Qf<|Qc<|Qx<|QU (λK0 E0 W0=> ∃(dn:KD->Prop) (cur:Option KD) (left:Nat),K0=left/\E0=[(0,ptrV b 0),(4,.bool false),(5,ptrV t.ad 0),(27,ptrV RR 0)]/\Sat W0 [Q6 t.ad [intV t.parent,.map (some t.ml),.map (some t.md)],WI X7 t.ml RR (XM LfD.ad t.lv) dn cur left,Xw Bt t.lv,Q4 Xo t.md (YA t.dr),Xw Gi (QN L.tr id none),Q6 b [ptrV L.sp 0,.map (some L.mp),.map (some L.mt),intV L.cur,.map (some L.ms)],Q4 X7 L.mp (ZU L.pres),Q4 QY L.mt (XM TrD.ad L.tr),Q4 QY L.ms (YA L.sh),ZP L.sp n Fr V,F]/\(∀k x,dn k->t.lv k=some x->VK L V t k x)) (L0:=[(0,_),(4,_),(5,_),(27,_)]) (left0) (Rs U U U U) ⟨_,_,_,rfl,rfl,O.pick [0,1,2,3,4,5,6,7,8,9,10] U,λ_ _ h=>h.elim⟩ ?_;rintro _ _ w3 ⟨dn,cur,left,rfl,rfl,j3,f⟩;refine Qe<|Qa<|JA 1 j3 keysKey.inj U U U (λE=> ?_) (λk v left2 wN a6 P ai g=> ?_)
 ·refine Qr U U U<|Qf<|Qc<|Qe<|QM U<|QQ<|Qp<|Qp<|Qy<|Qc<|Qe<|Qa<|Qd U U<|Qf<|Qc<|Qu<|QJ (.inr U) U U ?_;have hz:=Wh (j3.pick [1,0,2,3,4,5,6,7,8,9,10] U);have j4:=W4 D (hz.pick [1,0,2,3,4,5,6,7,8,9,10] U);exact⟨_,rfl,true,rfl,⟨λ_ k x c=>f k x (E _ _ (show XM LfD.ad t.lv k=some (ptrV x.ad 0)by unfold XM;rw[c];rfl)) c,λ_=>rfl⟩,Xq (j4.pick [1,2,3,0,4,5,6] U)⟩
 dsimp only[List.set]at g;obtain⟨x,c,rfl⟩:=E8 P;refine Qr U U U<|Qf<|Qc<|Qe<|Xm U<|Qt<|Qc<|Qx<|Qe<|Qa<|Jc 1 g U P U U<|Qr U U U<|Qr U U U<|Xc g Wo U U ?_;intro kb wk5 Q;clear g;refine QW Q U U Xb U (by rfl) (i:=0) U (by decide) ?_;intro wk6 l;dsimp only[List.set]at l;clear Q;replace l:=Zr (k:=k) l;refine Qd U U<|Qf<|Qc<|Qh [27,5,4,0,6,7] U<|Qe ?_;have j7:=Ue (l.pick [3,0,1,2,4,5,6,7,8,9,10,11] U) c;have j8:=j7.drew;refine Q7 [0,1,2,3,4,5,6,7] [6] Z9 (by kernel_rfl) ?_;refine Q3 U U U<|Q3 U U U<|QP U U U<|QG U U U JR<|Q0 U U U (Ql U QL (j8.cell 3 U U))<|Q0 U U U (X5 U Xu Xb (j8.blk 2 U) (Xk U) U)<|QO U U U U U U ?_;refine Qw HD U (Sx (i0:=id) (j8.sp [7,8,9,6,10] U) (C.rank.ends hm) a5 t.parent (a4 t D) k) U ?_;rintro _ w9 ⟨rfl,G⟩;replace G:=G.jn U U;refine Xh (Xd (by kernel_rfl)) ?_;refine Zd U U U (VC.nil (Qc (Qh [27,5,4,0,7,8] U (Qe (Qe (Qa (Qb U U (Qj U U (Qg U Yx U (Qo U Ju (G.cell 5 U U) U (Xg U U U (Qb U U (QZ 45 U (λa=> ?_) (λa=> ?_))))))))))))))
 ·have A:x.rd=0#64:=BitVec.eq_of_toNat_eq (by simpa using a);refine Qi U U (det a) U<|Qi U U (det a) U<|Qi U U (det a) U<|Qi U U (det a) U<|Qi U U (det a) U<|Qi U U (det a) U<|QF U (det a) U U<|Qf<|Qc<|Qh [27,5,4,0,7,8,52] U<|Xm U<|QQ<|Qp<|Qy ?_;have d:VK L V t k x:= λj hj h=>(by first | (rw[A]at h;simp at h) | rw[R])
  have a7:=W5 c (G.pick [5,6,0,1,2,3,4,7,8,9,10,11,12] U);exact Q5 (L1:=[(0,_),(4,_),(5,_),(27,_)]) (Rs U U U U) (k1:=left2) (by omega) ⟨_,_,_,rfl,rfl,a7.pick [7,8,0,9,4,1,2,3,5,10,11] U,λq y S e=>S.elim (λh=>f q y h e) (λh=>by subst h;rw[c]at e;cases e;exact d)⟩
 refine Qk U U (QH a)<|Qb U U<|Qk U U (QH a)<|Qb U U<|Qk U U (QH a)<|Qj U U<|Qk U U (QH a)<|Qg U GM U<|Qk U U (QH a)<|Qo U QL (G.cell 5 U U) U<|Qk U U (QH a)<|Xg U U U<|Q9 U (QH a) U U<|Qf<|Qc<|Qh [27,5,4,0,7,8,52] U<|Qs U (λT=> ?_) (λT=> ?_)
 ·have R:XA L t.parent k=x.base:=T;refine QQ<|Qp<|Qy ?_;have d:VK L V t k x:= λj hj h=>(by first | (rw[A]at h;simp at h) | rw[R])
  have a8:=W5 c (G.pick [5,6,0,1,2,3,4,7,8,9,10,11,12] U);exact Q5 (L1:=[(0,_),(4,_),(5,_),(27,_)]) (Rs U U U U) (k1:=left2) (by omega) ⟨_,_,_,rfl,rfl,a8.pick [7,8,0,9,4,1,2,3,5,10,11] U,λq y S e=>S.elim (λh=>f q y h e) (λh=>by subst h;rw[c]at e;cases e;exact d)⟩
 refine Qt<|Qc<|Qe ?_;have o:=G.drew;refine Q7 [0,1,2,3,4,5,6,7,9,10,11,12,13,8,14,15,16] [8,14] Z9 (by kernel_rfl) ?_;refine Q3 U U U<|QP U U U<|QG U U U XC<|Q0 U U U (Ql U Xr (o.cell 0 U U))<|Q3 U U U<|QP U U U<|QG U U U GM<|Q0 U U U (Ql U QL (o.cell 5 U U))<|Q3 U U U<|QP U U U<|QG U U U XC<|Q0 U U U (Ql U Xr (o.cell 0 U U))<|Q3 U U U<|QO U U U U U U ?_;refine Qw Yh U (U4 (o.sp [11] U) (x.base)) U ?_;rintro _ aj ⟨rfl,p⟩;replace p:=p.jn U U;refine Xh (.cons (.inl ⟨rfl,(Ql U Xr (p.cell 1 U U))⟩) (Xd (by kernel_rfl))) ?_;refine QO U U U U U U ?_;refine Qw Yh U (U4 (p.sp [0] U) (XA L t.parent k)) U ?_;rintro _ ak ⟨rfl,z⟩;replace z:=z.jn U U;refine Xh (Xd (by kernel_rfl)) ?_;refine Zd U U U<|Zd U U U (VC.nil (Qc (Qh [27,5,4,0,7,9,10] U (Qe ?_))));have a9:=C.len (s:=x.base) (by have :=C.alive (.inr (id,k,false));rwa [XB D c]at this);have aa:=C.len (C.aliveS t.parent k);refine Qa<|Qb U U<|Qj U U<|Qg U Yx U<|Qo U Ju (z.cell 6 U U) U<|Qd U U<|Qf<|Qc<|Qh [27,5,4,0,9,10,11] U<|Qx ?_;refine QU (λK0 E0 W0=> ∃(st:BitVec 64),K0=st.toNat/\E0=[(0,ptrV b 0),(4,.bool false),(5,ptrV t.ad 0),(27,ptrV RR 0),(9,strV (Zm V x.base)),(10,strV (Zm V (XA L t.parent k))),(11,ZC st)]/\Sat W0 [Q6 x.ad [intV x.base,intV x.own,ZC x.rd,ZC x.wr],Xw Bt (QN t.lv k none),Q6 kb [strV k.1,intV k.2],Q6 t.ad [intV t.parent,.map (some t.ml),.map (some t.md)],WI X7 t.ml RR (XM LfD.ad t.lv) (λj=>dn j\/j=k) (some k) left2,Q4 Xo t.md (YA t.dr),Xw Gi (QN L.tr id none),Q6 b [ptrV L.sp 0,.map (some L.mp),.map (some L.mt),intV L.cur,.map (some L.ms)],Q4 X7 L.mp (ZU L.pres),Q4 QY L.mt (XM TrD.ad L.tr),Q4 QY L.ms (YA L.sh),ZP L.sp n Fr V,F]/\(∀j,j<64->st.getLsbD j=true->x.rd.getLsbD j=true)/\(∀j,j<64->x.rd.getLsbD j=true->st.getLsbD j=true\/(Zm V x.base)[j]? =(Zm V (XA L t.parent k))[j]?)) (L0:=[(0,_),(4,_),(5,_),(27,_),(9,_),(10,_),(11,_)]) (x.rd.toNat) (Cb U U U U U U U) ⟨x.rd,rfl,rfl,z.pick [6,7,8,9,10,11,4,1,2,3,5,0,12] U,λ_ _ h=>h,λ_ _ h=> .inl h⟩ ?_;rintro _ _ al ⟨st,rfl,rfl,H,B,W⟩;refine Qe<|Qe<|Qa<|Qb U U<|Xz U U U<|Qf<|Qc<|Qs U (λI=> ?_) (λI=> ?_)
 ·have X:st≠0#64:= λq=>by subst q;exact absurd I (by decide)
  refine Qt<|Qc<|Qe<|Qx<|Qe<|Qa<|Qb U U<|Qw cal_143 U (tz_sp st _ (hG.sat H 12 U)) U ?_;rintro _ _ ⟨rfl,rfl⟩;have Y:=Fx st X;have Z:=Y.1;obtain⟨ca,a0⟩: ∃ca,(Zm V x.base)[Lib.ctz 64 st.toNat]? =some ca:=⟨_,XQ (by rw[a9];omega)⟩;obtain⟨cb,a1⟩: ∃cb,(Zm V (XA L t.parent k))[Lib.ctz 64 st.toNat]? =some cb:=⟨_,XQ (by rw[aa];omega)⟩;refine Qd U U<|Qf<|Qc<|Qh [11,10,9,27,5,4,0,12] U<|Qe ?_;have a2:=H.drew;refine Q7 [0,1,2,3,4,5,6] [] Z9 (by kernel_rfl) ?_;refine Q3 U U U<|Q3 U U U<|Q0 U U U (UP _ underlying9 U U (by rfl) (by assumption)) ?_;refine Q3 U U U<|Q3 U U U<|Q0 U U U (UP _ underlying9 U U (by rfl) (by assumption)) ?_;refine Xi U U U (λ_=>(BQ U U)) ?_;refine VC.nil (Qc (Qh [11,10,9,27,5,4,0,86] U (Qs U (λJ=> ?_) (λJ=> ?_))))
  ·have ab:ca≠cb:= λq=>by subst q;exact J U
   refine Qe<|Qa<|Qd U U<|Qf<|Qc<|Qu<|Q1<|Qq<|Qq<|Q1<|Q1<|Qq<|Q1<|Qq<|QJ (.inr U) U U ?_;have a3: ¬VK L V t k x:= λq=>by have M:=q _ Z (B _ Z ((Y.2 0 (by omega)).2));rw[a0,a1]at M;simp at M;subst M;exact ab U
   have ac:=W5 c (a2.pick [0,1,2,3,4,5,6,7,8,9,10,11,12] U);have hz:=Wh (ac.pick [3,2,0,4,5,6,7,8,9,10,11] U);have ae:=W4 D (hz.pick [1,0,2,3,4,5,6,7,8,9,10] U);exact⟨_,rfl,false,rfl,⟨(λq=>by cases q),λq=>absurd (q k x c) a3⟩,Xq (ae.pick [1,2,3,0,4,5,6] U)⟩
  have af:(Zm V x.base)[Lib.ctz 64 st.toNat]? =(Zm V (XA L t.parent k))[Lib.ctz 64 st.toNat]? :=by rw[a0,a1];congr 1;have h0:=Decidable.not_not.1 J;exact UInt8.toNat_inj.1 (by omega)
  refine Qt<|Qm<|Qc<|Qa<|Qb U U<|Qb U U (qat (b:=1#64) U U U (Ms U U U (Qd U U (Qf ?_))));have K:=qag (s2:=st) X B W af;exact Q5 (L1:=[(0,_),(4,_),(5,_),(27,_),(9,_),(10,_),(11,ZC (st&&&(st -1#64)))]) (Cb U U U U U U U) (k1:=(st&&&(st -1#64)).toNat) K.2.2 ⟨_,U,U,a2.pick [0,1,2,3,4,5,6,7,8,9,10,11,12] U,K.1,K.2.1⟩
 have ag:st=0#64:=BitVec.eq_of_toNat_eq (by have :=Decidable.not_not.1 I;simpa using this);refine QQ<|Qp<|Qp<|Qy<|Qm ?_;have d:VK L V t k x:= λj hj h=>(W j hj h).resolve_left (by rw[ag];simp);have ah:=W5 c (H.pick [0,1,2,3,4,5,6,7,8,9,10,11,12] U);exact Q5 (L1:=[(0,_),(4,_),(5,_),(27,_)]) (Rs U U U U) (k1:=left2) (by omega) ⟨_,_,_,rfl,rfl,ah.pick [2,3,0,4,5,6,7,8,9,10,11] U,λq y S e=>S.elim (λh=>f q y h e) (λh=>by subst h;rw[c]at e;cases e;exact d)⟩
def Pgs (V V':VS):Prop:= ∀j,XP V' j->XP V j/\Zm V' j=Zm V j
theorem Lb {j:Int} (h:XP (ZH V s) j):XP V j:=by
  rcases h with h | h
  · exact .inl h
  · exact .inr (CH h)
theorem Pgs.refl:Pgs V V:= λ_ h=>⟨h,rfl⟩
theorem Pgs.trans {V V1 V2:VS} (h:Pgs V V1) (a:Pgs V1 V2):Pgs V V2:= λj q=>⟨(h j (a j q).1).1,(a j q).2.trans (h j (a j q).1).2⟩
theorem Pgs.ref:Pgs V (refW V s):= λj q=>⟨q.imp_right Y3.1,YF⟩
theorem Pgs.unr (a:V 0=none):Pgs V (ZH V s):= λj q=>⟨Lb q,MR a q⟩
section
variable {ex:Int→Int} {L L1 L':LvD} {V V1 V':VS} {id:Int} {t t1 t':TrD} {k:KD} {x y x1:LfD} {m Fr:Nat} {s a:Int}
theorem L5 (b:NN ex) (c:s≠0->1<=ex s):NN (λj=>ex j -dl s j):= λj a=>by
  show 0<=ex j -dl s j;have :=b j a;by_cases e:j=s
  · subst e;have :=c a;rw[WE];omega
  · rw[JE e];omega
theorem setX (a:LvX ex m L V) (e:NN ex) (l:s≠0->1<=ex s) (b:L'.pres=ZS L.pres k s) (c:L'.tr=L.tr):
    LvX (λj=>ex j -dl s j) m L' (ZH V (L.pres k))/\QC L' (ZH V (L.pres k))={QC L V with pres:=VN (QC L V).pres k (Zm V s)}:=by
  have d:=Nr b c;have n:Xx L (.inl k)=L.pres k:=rfl;have f:=(((a.ref.put (.inl k) s).fn d).unr (a.aliveX e (.inl k)));rw[n]at f;have g:RefI (Xx L') (ZH V (L.pres k)) (λj=>ex j -dl s j):=f.ext λj o=>by omega
  have nn:NN (λj=>ex j -dl s j):=L5 e l;have h: ∀p,Zm (ZH V (L.pres k)) (Xx L' p)=Zm V (Xx L' p):= λp=>MR a.zero (g.aliveN U (nn _))
  have i:QC L' (ZH V (L.pres k))={QC L V with pres:=VN (QC L V).pres k (Zm V s)}:=by
    rw[Dd (V:=V) (V':=ZH V (L.pres k)) b c λp b=>by have :=h p;rwa [d,Zk b]at this];have :=h (.inl k);rw[d,XO]at this;rw[this]
  exact⟨⟨g,by rw[c];exact a.rank,by rw[i];exact a.agree⟩,i⟩
theorem ownX (b:LvX ex m L V) (l:NN ex) (A:s≠0->1<=ex s) (a:L.tr id=some t) (e:t.lv k=some x) (n:L'.pres=L.pres) (g:L'.tr=QN L.tr id (some {t with lv:=QN t.lv k (some y)})) (o:y.base=x.base) (r:y.own=s)
    (B:AgA {WF V x with own:=Zm V s,rd:=y.rd,wr:=y.wr}):
    LvX (λj=>ex j -dl s j) m L' (ZH V x.own)/\QC L' (ZH V x.own)=Wj (QC L V) id k {WF V x with own:=Zm V s,rd:=y.rd,wr:=y.wr}:=by
  have d: ∀q,Xx L' q=VN (Xx L) (.inr (id,k,true)) s q:= λq=>by
    rw[HM (x:=y) n g a U,o,r,HS (f:=Xx L) (v:=x.base) (by rw[XB a e];rfl)]
  have C:Xx L (.inr (id,k,true))=x.own:=by rw[XB a e];rfl
  have u:=(((b.ref.put (.inr (id,k,true)) s).fn d).unr (b.aliveX l (.inr (id,k,true))));rw[C]at u;have w:RefI (Xx L') (ZH V x.own) (λj=>ex j -dl s j):=u.ext λj D=>by omega
  have nn:NN (λj=>ex j -dl s j):=L5 l A;have h: ∀p,Zm (ZH V x.own) (Xx L' p)=Zm V (Xx L' p):= λp=>MR b.zero (w.aliveN U (nn _))
  have z:QC L' (ZH V x.own)=Wj (QC L V) id k {WF V x with own:=Zm V s,rd:=y.rd,wr:=y.wr}:=by
    rw[Hh (V:=V) (V':=ZH V x.own) (x:=y) n g a U λp i c=>by have :=h p;rwa [d,Zk c]at this];congr 1;have i:=h (.inr (id,k,true));have c:=h (.inr (id,k,false));rw[d,XO]at i;rw[d,Zk (by simp),XB a e]at c;simp at c;simp [WF,o,r,i,c]
  exact⟨⟨w,by rw[g];exact b.rank.same (Jr a U),by rw[z];exact b.agree.put B⟩,z⟩
theorem LvX.refW (a:LvX ex m L V) (b:XP V s):LvX (λj=>ex j+dl s j) m L (refW V s)/\QC L (refW V s)=QC L V:=by
  have e:QC L (Go.Proofs.YtifaibmhinlcfaaGreatDoor.refW V s)=QC L V:=V9 λp=>YF;exact⟨⟨a.ref.ref b,a.rank,by rw[e];exact a.agree⟩,e⟩
theorem LvX.unr (c:LvX ex m L V) (h:NN ex) (f:s≠0->1<=ex s):LvX (λj=>ex j -dl s j) m L (ZH V s)/\QC L (ZH V s)=QC L V:=by
  have i:XP V s:=by
    by_cases d:s=0
    · exact .inl d
    · obtain⟨n,a,b⟩:=c.ref.1 s d;have :=f d;exact .inr (c.ref.alive_of (by omega))
  have nn:NN (λj=>ex j -dl s j):=L5 h f;have g:=c.ref.unr i;have e:QC L (ZH V s)=QC L V:=V9 λp=>MR c.zero (g.aliveN U (nn _));exact⟨⟨g,c.rank,by rw[e];exact c.agree⟩,e⟩
theorem LvX.ext {ex':Int->Int} (a:LvX ex m L V) (h: ∀j,j≠0->ex' j=ex j):LvX ex' m L V:=⟨a.ref.ext h,a.rank,a.agree⟩
theorem LvX.same (a:LvX ex m L V) (c:L'.pres=L.pres) (b:L'.tr=L.tr):LvX ex m L' V/\QC L' V=QC L V:=by
  have e:QC L' V=QC L V:=by unfold QC;rw[c,b]
  have d:Xx L'=Xx L:=by funext p;cases p<;> simp [Xx,c,b]
  exact⟨⟨by rw[d];exact a.ref,by rw[b];exact a.rank,by rw[e];exact a.agree⟩,e⟩
end
structure StepX (ex:Int→Int) (m:Nat) (L:LvD) (V:VS) (ex':Int→Int) (m' d e:Nat) (L':LvD) (V':VS):Prop where
  inv:LvX ex' m' L' V'
  sp:L'.sp=L.sp
  al: ∀c,AliveLe V c→AliveLe V' (c+d)
  sz: ∀c,SzLe L c→SzLe L' (c+e)
  pg:Pgs V V'
theorem StepX.refl {ex:Int->Int} {m d e:Nat} {L:LvD} {V:VS} (h:LvX ex m L V):StepX ex m L V ex m d e L V:=⟨h,rfl,λ_ q=>q.mono (by omega),λ_ q=>q.mono (by omega),.refl⟩
theorem StepX.trans {ex ex1 ex2:Int->Int} {m b f:Nat} {L L1 L2:LvD} {V V1 V2:VS} {d g e i:Nat} (h:StepX ex m L V ex1 b d e L1 V1) (a:StepX ex1 b L1 V1 ex2 f g i L2 V2):StepX ex m L V ex2 f (d+g) (e+i) L2 V2:=
  ⟨a.inv,a.sp.trans h.sp,λc q=>(a.al _ (h.al c q)).mono (by omega),λc q=>(a.sz _ (h.sz c q)).mono (by omega),h.pg.trans a.pg⟩
theorem StepX.up {ex ex1:Int->Int} {m a:Nat} {L L1:LvD} {V V1:VS} {d b e f:Nat} (h:StepX ex m L V ex1 a d e L1 V1) (g:d<=b) (i:e<=f):StepX ex m L V ex1 a b f L1 V1:=
  ⟨h.inv,h.sp,λc q=>(h.al c q).mono (by omega),λc q=>(h.sz c q).mono (by omega),h.pg⟩
theorem StepX.plain {a:Nat} {d e:Nat} (h:StepX (λ_=>0) m L V (λ_=>0) a d e L1 V1):StepI m L V a d e L1 V1:=⟨h.inv,h.sp,h.al,h.sz⟩
def FL (L:LvD) (j:Int) (q:KD):Prop:=(j=0/\L.pres q≠0)\/ ∃t x,L.tr j=some t/\t.lv q=some x
def OthK (L L':LvD) (p:Int) (P:KD->Prop):Prop:=(∀i,i≠p->L'.tr i=L.tr i)/\ ∀j q,FL L' j q->FL L j q\/(j=p/\P q)
theorem OthK.refl:OthK L L p P:=⟨λ_ _=>rfl,λ_ _ h=> .inl h⟩
theorem OthK.trans {L L1 L2:LvD} {p:Int} {P Q R:KD->Prop} (h:OthK L L1 p P) (e:OthK L1 L2 p Q) (f: ∀q,P q->R q) (g: ∀q,Q q->R q):OthK L L2 p R:=
  ⟨λi hi=>(e.1 i hi).trans (h.1 i hi),λj q k=>by
    rcases e.2 j q k with a | ⟨a,b⟩
    · rcases h.2 j q a with c | ⟨c,d⟩
      · exact .inl c
      · exact .inr ⟨c,f q d⟩
    · exact .inr ⟨a,g q b⟩⟩
theorem SzLe.keys (h:SzLe L c): ∃l:List (Int×KD),l.length<=c/\ ∀j q,FL L j q->(j,q)∈l:=by
  obtain⟨l,a,b,d⟩:=h;refine⟨l,a,λj q g=> ?_⟩;rcases g with⟨rfl,e⟩ | ⟨t,x,e,f⟩
  · exact b q e
  · exact d j t q x e f
theorem SzLe.of_keys {l:List (Int×KD)} (h:l.length<=c) (a: ∀j q,FL L j q->(j,q)∈l):SzLe L c:=⟨l,h,λk e=>a 0 k (.inl ⟨rfl,e⟩),λi t k x e f=>a i k (.inr ⟨t,x,e,f⟩)⟩
theorem OthK.sz2 (h:OthK L L' p P) (d: ∀q,P q->FL L id q) (f:SzLe L c):SzLe L' (2*c):=by
  obtain⟨l,a,b⟩:=f.keys;refine SzLe.of_keys (l:=l++l.map λe=>(p,e.2)) (by simp;omega) λj q g=> ?_;rcases h.2 j q g with e | ⟨rfl,e⟩
  · exact List.mem_append_left _ (b j q e)
  · exact List.mem_append_right _ (List.mem_map.2 ⟨(id,q),b id q (d q e),U⟩)
theorem OthK.szRem (h:OthK L L1 p P) (i: ∀q,P q->FL L id q) (k:id≠0) (m:L'.pres=L1.pres) (n:L'.tr=QN L1.tr id none) (o:SzLe L c):SzLe L' c:=by
  obtain⟨l,a,b⟩:=o.keys;refine SzLe.of_keys (l:=l.map λe=> if e.1=id then(p,e.2)else e) (by simpa using a) λj q r=> ?_
  have d:j≠id/\FL L1 j q:=by
    rcases r with⟨rfl,e⟩ | ⟨t,x,e,f⟩
    · exact⟨λa=>k a.symm,.inl ⟨rfl,by rwa [m]at e⟩⟩
    · rw[n]at e;by_cases g:j=id
      · subst g;rw[Qv]at e;cases e
      · rw[Qz g]at e;exact⟨g,.inr ⟨t,x,e,f⟩⟩
  rcases h.2 j q d.2 with e | ⟨rfl,e⟩
  · exact List.mem_map.2 ⟨(j,q),b j q e,by rw[if_neg d.1]⟩
  · exact List.mem_map.2 ⟨(id,q),b id q (i q e),by rw[if_pos U]⟩
theorem TouR.oth {i:Int} (b:TouR L V id t k L1 V1 t1 x1) (hi:i≠id):L1.tr i=L.tr i:=by
  rcases b with⟨_,rfl,_,_⟩ | ⟨_,a,_,_,rfl,_⟩
  · rfl
  · exact Qz hi
theorem TouR.othK {y:LfD} (g:TouR L V id t k L1 V1 t1 x1) (o:L.tr id=some t) (m:L'.pres=L1.pres) (d:L'.tr=QN L1.tr id (some {t1 with lv:=QN t1.lv k (some y)})):OthK L L' id (λq=>q=k):=by
  refine⟨λi hi=>by rw[d,Qz hi,g.oth hi],λj q n=> ?_⟩
  have f:L1.pres=L.pres:=by
    rcases g with⟨_,rfl,_,_⟩ | ⟨_,a,_,_,rfl,_⟩
    · rfl
    · rfl
  have h: ∀q,q≠k->t1.lv q=t.lv q:= λq p=>by
    rcases g with⟨_,_,_,rfl⟩ | ⟨_,a,_,rfl,_,_⟩
    · rfl
    · exact Qz p
  by_cases e:j=id
  · subst e;by_cases l:q=k
    · exact .inr ⟨U,l⟩
    · left;rcases n with⟨b,c⟩ | ⟨u,x,b,c⟩
      · exact .inl ⟨b,by rwa [m,f]at c⟩
      · rw[d,Qv]at b;cases b;dsimp only at c;rw[Qz l,h q l]at c;exact .inr ⟨t,x,o,c⟩
  · left;rcases n with⟨b,c⟩ | ⟨u,x,b,c⟩
    · exact .inl ⟨b,by rwa [m,f]at c⟩
    · rw[d,Qz e,g.oth e]at b;exact .inr ⟨u,x,b,c⟩
theorem qb0 {f:Int->Bool}:OthK L {L with pres:=ZS L.pres k s,sh:=f} 0 (λq=>q=k):=by
  refine⟨λ_ _=>rfl,λj q b=> ?_⟩;rcases b with⟨e,h⟩ | h
  · by_cases a:q=k
    · exact .inr ⟨e,a⟩
    · simp only[ZS,if_neg a]at h;exact .inl (.inl ⟨e,h⟩)
  · exact .inl (.inr h)
theorem LI (d: ∀q,L'.pres q≠0->L.pres q≠0) (c:L'.tr=L.tr):OthK L L' p P:=
  ⟨λi _=>by rw[c],λj q e=> .inl (e.imp (λa=>⟨a.1,d q a.2⟩) (λ⟨t,x,a,b⟩=>⟨t,x,by rwa [c]at a,b⟩))⟩
theorem LG {t':TrD} (d:L.tr id=some t) (f:L'.pres=L.pres) (a:L'.tr=QN L.tr id (some t')) (g: ∀k x,t'.lv k=some x->t.lv k≠none):OthK L L' id P:=by
  refine⟨λi hi=>by rw[a,Qz hi],λj q l=> .inl ?_⟩;rcases l with⟨e,h⟩ | ⟨u,x,e,h⟩
  · exact .inl ⟨e,by rwa [f]at h⟩
  · rw[a]at e;by_cases b:j=id
    · subst b;rw[Qv]at e;cases e;cases c:t.lv q with
      | none=> exact absurd c (g q x h)
      | some y=> exact .inr ⟨t,y,d,c⟩
    · rw[Qz b]at e;exact .inr ⟨u,x,e,h⟩
section
variable {ex:Int→Int} {L L1 L':LvD} {V V1 V':VS} {id:Int} {t t1 t':TrD} {k:KD} {x y x1:LfD} {m Fr:Nat} {s a:Int}
theorem TouR.pg (b:TouR L V id t k L1 V1 t1 x1) (j:Int):Zm V1 j=Zm V j:=by
  rcases b with⟨_,_,rfl,_⟩ | ⟨_,a,_,_,_,rfl⟩
  · rfl
  · rw[YF,YF]
theorem TouR.pgs (b:TouR L V id t k L1 V1 t1 x1):Pgs V V1:=by
  rcases b with⟨_,_,rfl,_⟩ | ⟨_,a,_,_,_,rfl⟩
  · exact .refl
  · exact Pgs.ref.trans .ref
theorem TouR.stepX (a:TouR L V id t k L1 V1 t1 x1) (b:L.tr id=some t) (d:LvX ex m L V) (e:NN ex):StepX ex m L V ex m 0 1 L1 V1:=by
  obtain⟨f,h,i,g,j⟩:=a.invX b d e;exact⟨f,a.sp,λc q=>(g c q).mono (by omega),λc q=>a.sz b q,a.pgs⟩
theorem KN (b:LvX ex m L V) (d:NN ex) (g:s≠0->1<=ex s) (f:Int->Bool):
    StepX ex m L V (λj=>ex j -dl s j) m 0 1 {L with pres:=ZS L.pres k s,sh:=f} (ZH V (L.pres k))/\QC {L with pres:=ZS L.pres k s,sh:=f} (ZH V (L.pres k))={QC L V with pres:=VN (QC L V).pres k (Zm V s)}:=by
  obtain⟨h,i⟩:=setX (L':={L with pres:=ZS L.pres k s,sh:=f}) b d g rfl rfl
  refine⟨⟨h,rfl,λc q=>q.unr.mono (by omega),λc q=>q.add 0 k (λj a=> ?_) λj u q y a l=> .inl ⟨u,y,a,l⟩,Pgs.unr b.zero⟩,i⟩;by_cases e:j=k
  · right;rw[e]
  · simp only[ZS,if_neg e]at a;exact .inl a
theorem Nu (a:TouR L V id t k L1 V1 t1 x1) (b:L.tr id=some t) (h:LvX ex m L V) (d:NN ex) (i:s≠0->1<=ex s) {wr:BitVec 64} (f:Int->Bool)
    (l:AgA {Z6 (QC L V) id k with own:=Zm V s,wr:=(Z6 (QC L V) id k).wr ||| wr}):
    StepX ex m L V (λj=>ex j -dl s j) m 0 1 (ZA {L1 with sh:=f} id t1 k {x1 with own:=s,wr:=x1.wr ||| wr}) (ZH V1 x1.own)/\
    QC (ZA {L1 with sh:=f} id t1 k {x1 with own:=s,wr:=x1.wr ||| wr}) (ZH V1 x1.own)=Wj (QC L V) id k {Z6 (QC L V) id k with own:=Zm V s,wr:=(Z6 (QC L V) id k).wr ||| wr}:=by
  obtain⟨g,n,o,p,x⟩:=a.invX b h d;obtain⟨r,u⟩:=g.same (L':={L1 with sh:=f}) rfl rfl
  have e:{WF V1 x1 with own:=Zm V1 s,rd:=x1.rd,wr:=x1.wr ||| wr}={Z6 (QC L V) id k with own:=Zm V s,wr:=(Z6 (QC L V) id k).wr ||| wr}:=by
    rw[a.pg,<-n];rfl
  obtain⟨v,w⟩:=ownX (L':=ZA {L1 with sh:=f} id t1 k {x1 with own:=s,wr:=x1.wr ||| wr}) (y:={x1 with own:=s,wr:=x1.wr ||| wr}) r d i (a.tr b) a.lv rfl rfl rfl rfl (by rw[e];exact l)
  refine⟨⟨v,a.sp,λc q=>(p c q).unr.mono (by omega),λc q=>(a.sz b q).putOld (a.tr b) a.lv U U,a.pgs.trans (Pgs.unr g.zero)⟩, ?_⟩;rw[w,u,o,UF,e]
def Cw (x:LfA) (c:Bs):LfA:={x with own:=c,wr:=BitVec.allOnes 64}
theorem allX_ag {x:LfA} {c:Bs}:AgA (Cw x c):= λj a h=>by
  rw[show(Cw x c).wr=BitVec.allOnes 64 from rfl,BitVec.getLsbD_allOnes]at h;simp [a]at h
theorem Ns (h:LvX ex m L V) (a:NN ex) (i:XP V s) (b:L.tr id=some t) (d:t.lv k=some x) (f:Int->Bool):
    StepX ex m L V ex m 0 0 (ZA {L with sh:=f} id t k {x with own:=s,wr:=BitVec.allOnes 64}) (ZH (refW V s) x.own)/\
    QC (ZA {L with sh:=f} id t k {x with own:=s,wr:=BitVec.allOnes 64}) (ZH (refW V s) x.own)=Wj (QC L V) id k (Cw (WF V x) (Zm V s)):=by
  obtain⟨g,l⟩:=h.refW i;obtain⟨n,o⟩:=g.same (L':={L with sh:=f}) rfl rfl
  have nn:NN (λj=>ex j+dl s j):= λj p=>by
    show 0<=ex j+dl s j;have :=a j p;by_cases e:j=s
    · subst e;rw[WE];omega
    · rw[JE e];omega
  have e:({WF (refW V s) x with own:=Zm (refW V s) s,rd:=x.rd,wr:=BitVec.allOnes 64}:LfA)=Cw (WF V x) (Zm V s):=by
    simp only[WF,YF];rfl
  obtain⟨r,u⟩:=ownX (L':=ZA {L with sh:=f} id t k {x with own:=s,wr:=BitVec.allOnes 64}) (y:={x with own:=s,wr:=BitVec.allOnes 64}) n nn (λv=>by show 1<=ex s+dl s s;rw[WE];have :=a s v;omega) b d rfl rfl rfl rfl (by rw[e];exact allX_ag)
  refine⟨⟨r.ext λj _=>(by show ex j=ex j+dl s j -dl s j;omega),rfl,λc q=>q.refW.unr.mono (by omega),λc q=>q.putOld b d U U,Pgs.ref.trans (Pgs.unr g.zero)⟩, ?_⟩;rw[u,o,l,e]
theorem G0 (b:TouR L V id t k L1 V1 t1 x1) (c:L.tr id=some t) (h:LvX ex m L V) (d:NN ex) (i:XP V s) (f:Int->Bool):
    StepX ex m L V ex m 0 1 (ZA {L1 with sh:=f} id t1 k {x1 with own:=s,wr:=BitVec.allOnes 64}) (ZH (refW V1 s) x1.own)/\
    QC (ZA {L1 with sh:=f} id t1 k {x1 with own:=s,wr:=BitVec.allOnes 64}) (ZH (refW V1 s) x1.own)=Wj (QC L V) id k (Cw (Z6 (QC L V) id k) (Zm V s)):=by
  obtain⟨j,l,n,q,r⟩:=b.invX c h d
  have g:XP V1 s:=by
    rcases i with e | e
    · exact .inl e
    · refine .inr ?_;rcases b with⟨_,_,rfl,_⟩ | ⟨_,a,_,_,_,rfl⟩
      · exact e
      · exact Y3.2 (Y3.2 e)
  obtain⟨o,p⟩:=Ns j d g (b.tr c) b.lv f;refine⟨(b.stepX c h d).trans o, ?_⟩;rw[p,n,UF,l,b.pg]
theorem G3 (d:LvX ex m L V) (b:NN ex) (g:XP V s) (f:Int->Bool):
    StepX ex m L V ex m 0 1 {L with pres:=ZS L.pres k s,sh:=f} (ZH (refW V s) (L.pres k))/\QC {L with pres:=ZS L.pres k s,sh:=f} (ZH (refW V s) (L.pres k))={QC L V with pres:=VN (QC L V).pres k (Zm V s)}:=by
  obtain⟨h,i⟩:=d.refW g
  have nn:NN (λj=>ex j+dl s j):= λj l=>by
    show 0<=ex j+dl s j;have :=b j l;by_cases e:j=s
    · subst e;rw[WE];omega
    · rw[JE e];omega
  obtain⟨a,n⟩:=KN (k:=k) h nn (λo=>by show 1<=ex s+dl s s;rw[WE];have :=b s o;omega) f;refine⟨⟨a.inv.ext λj _=>(by show ex j=ex j+dl s j -dl s j;omega),rfl,λc q=>(a.al c q.refW),a.sz,Pgs.ref.trans a.pg⟩, ?_⟩;rw[n,i,YF]
end
theorem NQ {Fr:Nat} {F:Th} (a:Sat w [WB b L,ZP L.sp n Fr V,F]) (f:n<=65000000000) (k:KD) (s:Int):Calls prog 135 #[ptrV b 0,X7 k,intV s] w (Ret λv w'=>v= .tuple #[]/\Sat w' [WB b {L with pres:=ZS L.pres k s,sh:=YV V L.sh (L.pres k)},ZP L.sp (n+1) Fr (ZH V (L.pres k)),F]):=by
  have c:=Zo a;refine(qbz (c.split [0,1,4,5] [true,true,false,false,true,true,false] U) (by omega) k s).mono λe w h=>h.mono λv w h=> ?_;obtain⟨rfl,h⟩:=h;have d:=h.join U;exact⟨U,Xq (L:={L with pres:=ZS L.pres k s,sh:=YV V L.sh (L.pres k)}) (d.reorder [0,1,4,5,2,3,6] U)⟩
theorem qd4 {ex:Int->Int} {Fr:Nat} {F:Th} (h:Sat w [WB b L,ZP L.sp n Fr V,F]) (i:n<=60000000000) (d:LvX ex m L V) (e:NN ex) (f:s≠0->1<=ex s) (k:KD) (wr:BitVec 64):
    Calls prog 112 #[ptrV b 0,intV 0,X7 k,intV s,ZC wr] w (Ret λv w'=> ∃L' V',StepX ex m L V (λj=>ex j -dl s j) m 0 1 L' V'/\QC L' V'={QC L V with pres:=VN (QC L V).pres k (Zm V s)}/\OthK L L' 0 (λq=>q=k)/\Sat w' [WB b L',ZP L'.sp (n+4) Fr V',F]):=by
 refine Qn func112 U ntmps112 U ?_;refine Qe<|Qa<|XL h U U U ?_;intro kb l a;replace a:=Zr a;refine Qf<|Qc<|Qe<|Qe<|Qa<|Qb U U<|Xg U U U<|Qf<|Qc<|Qs U (λg=> ?_) (λg=> ?_)
 ·refine Qe<|Qa<|Qb U U ?_;refine XX U Xu Xb (by first | exact a.blk 0 U) (by first | decide | exact Xk U | (simp;done) | omega) U U ?_
  refine Qb U U<|Qw Bb U (NQ (a.sp [1,2] U) (by omega) k s) U ?_;rintro _ o ⟨rfl,c⟩;replace c:=c.jn U U;exact Qf (Qc (Qh [4,3,1,0,7] U (Qu (Qq (Zb (.inr U) U (⟨_,rfl,_,_,(KN d e f (YV V L.sh (L.pres k))).1,(KN d e f (YV V L.sh (L.pres k))).2,qb0,(X3 (m:=n+4) (by omega) (c.pick [1,0,3] U)).reorder [1,0,2] U⟩))))))
 exact absurd U g
theorem qd3 {ex:Int->Int} {Fr:Nat} {F:Th} (B:Sat w [WB b L,ZP L.sp n Fr V,F]) (G:n<=60000000000) (f:LvX ex m L V) (p:NN ex) (C:m<ZO) (a:L.tr id=some t) (r:s≠0->1<=ex s) (k:KD) (wr:BitVec 64) (u:AgA {Z6 (QC L V) id k with own:=Zm V s,wr:=(Z6 (QC L V) id k).wr ||| wr}):
    Calls prog 112 #[ptrV b 0,intV id,X7 k,intV s,ZC wr] w (Ret λv w'=> ∃L' V',StepX ex m L V (λj=>ex j -dl s j) m 0 1 L' V'/\QC L' V'=Wj (QC L V) id k {Z6 (QC L V) id k with own:=Zm V s,wr:=(Z6 (QC L V) id k).wr ||| wr}/\OthK L L' id (λq=>q=k)/\Sat w' [WB b L',ZP L'.sp (n+4) Fr V',F]):=by
 have D:id≠0:=f.rank.none0 a;refine Qn func112 U ntmps112 U ?_;refine Qe<|Qa<|XL B U U U ?_;intro kb H g;replace g:=Zr g;refine Qf<|Qc<|Qe<|Qe<|Qa<|Qb U U<|Xg U U U<|Qf<|Qc<|Qs U (λx=> ?_) (λx=> ?_)
 ·exact absurd x D
 refine Qt<|Qc<|Qe<|Qa<|Qb U U<|Qb U U ?_;refine XX U Xu Xb (by first | exact g.blk 0 U) (by first | decide | exact Xk U | (simp;done) | omega) U U ?_
 refine Qw Rg U (UA (g.sp [1,2] U) (by omega) (f.rank.ends C) a (k:=k)) U ?_;rintro _ I ⟨L1,V1,t1,x1,rfl,c,h⟩;replace h:=h.jn U U;have d:=c.tr a;have e:=c.lv;refine Qd U U<|Qf<|Qc<|Qh [4,3,0,10] U<|Qe ?_;have z:=YL d e (h.pick [0,1,2,3] U);refine Qa<|Qb U U<|Qb U U<|Qj U U<|Qg U WP U<|Qo U QL (z.cell 0 U U) U<|Qw Vy U (Vh (z.sp [6,9,10] U) (by omega) x1.own) U ?_;rintro _ J ⟨rfl,l⟩;replace l:=l.jn U U;refine Qf<|Qc<|Qe<|Qa<|Qb U U<|Qb U U<|Qj U U<|Qg U WP U<|QK l U U YD U (i:=3) U (Xk U) ?_;intro K o;dsimp only[List.set]at o;refine Qf<|Qc<|Qh [4,10] U<|Qa<|Qb U U<|Qj U U<|Qg U Wt U<|Qo U Ju (o.cell 3 U U) U<|Qb U U (wl_or64 U U U (Qj U U (Qg U Wt U (QK o U U Kb U (i:=3) U (Xk U) ?_))));intro M A;dsimp only[List.set]at A;refine Qf<|Zb (.inl U) U ?_;have E:=Js (L:={L1 with sh:=YV V1 L1.sh x1.own}) (y:={x1 with own:=s,wr:=x1.wr ||| wr}) d e U (A.pick [3,4,5,6,7,8,0,9,10,1,2,11,12] U)
 exact⟨_,rfl,_,_,(Nu c a f p r (YV V1 L1.sh x1.own) u).1,(Nu c a f p r (YV V1 L1.sh x1.own) u).2,c.othK a U U,(X3 (m:=n+4) (by omega) (E.pick [1,0,3] U)).reorder [1,0,2] U⟩
theorem S6 {ex:Int->Int} {Fr:Nat} {F:Th} (j:Sat w [WB b L,ZP L.sp n Fr V,F]) (o:n<=60000000000) (e:LvX ex m L V) (f:NN ex) (g:XP V s) (k:KD):
    Calls prog 157 #[ptrV b 0,intV 0,X7 k,intV s] w (Ret λv w'=> ∃L' V',StepX ex m L V ex m 0 1 L' V'/\QC L' V'={QC L V with pres:=VN (QC L V).pres k (Zm V s)}/\L'.pres=ZS L.pres k s/\Sat w' [WB b L',ZP L'.sp (n+4) Fr V',F]):=by
 refine Qn func157 U ntmps157 U ?_;refine Qe<|Qa<|XL j U U U ?_;intro kb p a;replace a:=Zr a;refine Qf<|Qc<|Qe<|Qe<|Qa<|Qb U U<|Xg U U U<|Qf<|Qc<|Qs U (λh=> ?_) (λh=> ?_)
 ·refine Qe ?_;have l:=Zo (a.pick [1,0,2,3] U);refine Qa<|Qb U U<|Qb U U<|Qw Bd U (S7 (l.sp [0,4,6] U) (by omega) s) U ?_;rintro _ q ⟨rfl,c⟩;replace c:=c.jn U U;refine Qf<|Qc<|Qe ?_;have i:=Xq (L:={L with sh:=YW L.sh s}) (c.pick [0,3,4,5,1,2,6,7] U)
  refine Qa<|Qb U U ?_;refine XX U Xu Xb (by first | exact i.blk 2 U) (by first | decide | exact Xk U | (simp;done) | omega) U U ?_
  refine Qb U U<|Qw Bb U (NQ (L:={L with sh:=YW L.sh s}) (i.sp [0,1] U) (by omega) k s) U ?_
  rintro _ r ⟨rfl,d⟩;replace d:=d.jn U U;exact Qf (Qc (Qh [3,1,0,6] U (Qu (Qq (Zb (.inr U) U (⟨_,rfl,_,_,(G3 e f g _).1,(G3 e f g _).2,rfl,(X3 (m:=n+4) (by omega) (d.pick [1,0,3] U)).reorder [1,0,2] U⟩))))))
 exact absurd U h
theorem S5 {ex:Int->Int} {Fr:Nat} {F:Th} (r:Sat w [WB b L,ZP L.sp n Fr V,F]) (B:n<=60000000000) (c:LvX ex m L V) (h:NN ex) (u:m<ZO) (a:L.tr id=some t) (o:XP V s) (k:KD):
    Calls prog 157 #[ptrV b 0,intV id,X7 k,intV s] w (Ret λv w'=> ∃L' V',StepX ex m L V ex m 0 1 L' V'/\QC L' V'=Wj (QC L V) id k (Cw (Z6 (QC L V) id k) (Zm V s))/\L'.pres=L.pres/\Sat w' [WB b L',ZP L'.sp (n+4) Fr V',F]):=by
 have x:id≠0:=c.rank.none0 a;refine Qn func157 U ntmps157 U ?_;refine Qe<|Qa<|XL r U U U ?_;intro kb C g;replace g:=Zr g;refine Qf<|Qc<|Qe<|Qe<|Qa<|Qb U U<|Xg U U U<|Qf<|Qc<|Qs U (λp=> ?_) (λp=> ?_)
 ·exact absurd p x
 refine Qt<|Qc<|Qe<|Qa<|Qb U U<|Qb U U ?_;refine XX U Xu Xb (by first | exact g.blk 0 U) (by first | decide | exact Xk U | (simp;done) | omega) U U ?_
 refine Qw Rg U (UA (g.sp [1,2] U) (by omega) (c.rank.ends u) a (k:=k)) U ?_;rintro _ D ⟨L1,V1,t1,x1,rfl,d,j⟩;replace j:=j.jn U U;have e:=d.tr a;have f:=d.lv;refine Qd U U<|Qf<|Qc<|Qh [3,0,8] U<|Qe ?_;have z:=YL e f (j.pick [0,1,2,3] U);refine Qa<|Qb U U<|Qb U U<|Qj U U<|Qg U WP U<|Qb U U<|Qw AF U (qd0 (z.sp [6,9,10,0] U) (by omega) s) U ?_;rintro _ E ⟨rfl,l⟩;replace l:=l.jn U U;refine Qf<|Qc<|Qa<|Qb U U<|Qj U U<|Qg U Wt U<|QK (v:=ZC (BitVec.allOnes 64)) l U U Kb U (i:=3) U (Xk U) ?_;intro G q;dsimp only[List.set]at q;refine Qf<|Zb (.inl U) U ?_;have A:=Js (L:={L1 with sh:=YV (refW V1 s) (YW L1.sh s) x1.own}) (y:={x1 with own:=s,wr:=BitVec.allOnes 64}) e f U (q.pick [3,4,5,6,7,8,0,9,10,1,2,11,12] U)
 exact⟨_,rfl,_,_,(G0 d a c h o _).1,(G0 d a c h o _).2,(d.invX a c h).2.2.2.2,(X3 (m:=n+4) (by omega) (A.pick [1,0,3] U)).reorder [1,0,2] U⟩
