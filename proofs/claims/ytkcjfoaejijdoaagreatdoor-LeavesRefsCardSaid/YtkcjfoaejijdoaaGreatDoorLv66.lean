/- LeavesRefs -/
import Derived.Test.YtkcjfoaejijdoaaGreatDoorLv63
import Derived.Test.YtkcjfoaejijdoaaGreatDoorLv33
import Derived.Test.YtkcjfoaejijdoaaGreatDoorMem
import Derived.ProofKit
import Derived.OpenShut
import Derived.ShutString
import Derived.ChangeOld
import Derived.Deep.Slices
import Derived.Deep.Fields
import Derived.ChangeSame
import Derived.JoinedCond
set_option linter.unusedVariables false
set_option maxRecDepth 100000
set_option maxHeartbeats 6400000
namespace Go.Proofs.YtkcjfoaejijdoaaGreatDoor
open Go.RowKit M
theorem TrN.came {T:Int→Option TrD} {K:Nat} {ks:List Int} (h:TrN T K) (hq:Came (Xv TrD.ad T) ks):ks.length≤K:= by
  obtain⟨ids,h1,h2⟩:=h
  exact Nat.le_trans (KX hq.nodup fun i hi=>h2 i fun q=>absurd (by unfold Xv; rw[q];rfl) (hq.has i hi)) h1
theorem Mw {T:Int→Option TrD} {ks:List Int} (h: ∀j,T j=none) (hq:Came (Xv TrD.ad T) ks):ks=[]:= by
  cases ks with
  | nil=>rfl
  | cons k ks=> exact absurd (by unfold Xv; rw[h k];rfl) (hq.has k List.mem_cons_self)
theorem AW {T T':Int→Option TrD} {ks:List Int} (h:AllC (Xv TrD.ad T) ks) (hs:SubT T T') (hd: ∀(q:Nat) k2,(XZ ks)[q]? =some k2→T' k2=none) (j:Int):T' j=none:= by
  letI:Inhabited SlW:=⟨⟨0⟩⟩
  cases ht:T' j with
  | none=>rfl
  | some t=>
    have h1:j∈XZ ks:=(WT ks).mem_iff.2 ((h.mem j).2 (by unfold Xv; rw[hs.some ht]; simp))
    obtain⟨q,hq⟩:=List.mem_iff_getElem?.1 h1
    rw[hd q j hq]at ht; cases ht
theorem O0 {m:Nat} {L:LvD} {V:VS} (hI:LvI m L V) (hp: ∀z,L.pres z=0) (ht: ∀j,L.tr j=none): ∀j,V j=none:= fun j=>Classical.byContradiction fun hj=> by
  obtain⟨h0,p,hp2⟩:=(@Wb ⟨⟨0⟩⟩ m L V hI j).1 hj
  cases p with
  | inl k=> exact h0 (hp2.symm.trans (hp k))
  | inr q=> obtain⟨i,k,o⟩:=q; exact h0 (hp2.symm.trans (by simp [QJ,ht]))
theorem EM {m n:Nat} {L:LvD} {V:VS} {s:Int} (hI:LvI m L V) (ha:V s≠none) (h0:s≠0) (hc:TZ (QJ L) s n):Zc V s=(n:Int)∧1≤n:= by
  letI:Inhabited SlW:=⟨⟨0⟩⟩
  obtain⟨n',hc',hr⟩:=hI.ref.1 s h0
  dsimp only at hr
  obtain rfl:=T9 hc hc'
  obtain⟨x,hx⟩:=Option.ne_none_iff_exists'.1 ha
  have :=(hI.ref.2 s x hx).1
  rw[Z8 hx]at hr
  exact⟨by rw[Z8 hx];omega, by omega⟩
theorem EL {w:World} {F:Th} (hS:Sat w [F]) (hG:Ent F GT) (count slots budget:Int) {fv:Value} {l:List AcL} (hF:Ent F (RdL acLC fv l)):
    Calls Tryz.prog 4 #[intV count,intV slots,intV budget,fv] w (Ret fun v w'=>v= .bool true∧Sat w' [F]):= by
 letI:Inhabited SlW:=⟨⟨(min (max slots 0) 4096).toNat⟩⟩
 have hsl:((default:SlW).v:Int)=min (max slots 0) 4096:= by show(((min (max slots 0) 4096).toNat:Nat):Int)=_;omega
 obtain⟨ao,cap,rfl,hm1⟩:=(hF.sat hS 0 rfl).shape
 refine Qm Tryz.func4 U Tryz.ntmps4 U ?_
 refine Qd (Qa (Qe U U (Qf (Qc (Qd (Qa (Qw cal_8 U (Ey (hS.sp [] U) (hG.starL 0 U)) U ?_)))))))
 rintro _ w1 ⟨rfl,hS1⟩
 replace hS1:=hS1.jn U U
 refine Qe U U (Qf (Qc (Qd (Qa (Qb U U (Qb U U (Qb U U (Qw OV U (stNew (hS1.sp [] U) count slots budget hsl) U ?_))))))))
 rintro _ w2 ⟨p,rfl,hS2⟩
 replace hS2:=hS2.jn U U
 clear hS1
 obtain⟨Fr,hFr⟩: ∃F,F=(min (max count 1) 256).toNat:=⟨_,rfl⟩
 rw[←hFr]at hS2
 refine Qe U U (Qf (Qc (Qh [3,8,9,10] U (Qd (Qd (Qa (Qb U U (ZO Tryz.underlying25 U U U (Qf (Qc (QT U (Qt (Qc (Qd (Qa (Qb U U (Qw OU U (CB (hS2.sp [] U)) U ?_)))))))))))))))))
 rintro _ w3 ⟨b,mp,mt,ms,rfl,hS3⟩
 replace hS3:=hS3.jn U U
 clear hS2
 refine Qe U U (Qf (Qc (Qd (Qd (Qa (Qb U U (ZO Tryz.underlying24 U U U (Qf (Qc (Qh [3,8,9,10,11,31] U (QT U (Qt (Qc (Qd (Qd (Qa (Qb U U (Qw cal_17 U (few_sp (hS3.sp [] U) (hF.starL 2 U) 50) U ?_))))))))))))))))))
 rintro _ w4 ⟨rfl,hS4⟩
 replace hS4:=hS4.jn U U
 clear hS3
 refine QQ U U (Qf (Qc (QN U (fun h5=> ?_) (fun h5=> ?_))))
 ·refine Qd (Qa (Qb U U (Qe U U (Qf (Qc (Qu (Qp (QR (.inr U) U U ?_))))))))
  exact⟨_,rfl, by rfl,hS4.pick [2] U⟩
 have q1:Nd l 50=true:= by simpa using h5
 have g1:=fewL_is q1
 refine Qt (Qc (Qd (Qa (Qb U U (Qw OT U (Er (hS4.sp [1] U) (fun _=>rfl)) U ?_)))))
 rintro _ w6 ⟨rfl,hS6⟩
 replace hS6:=hS6.jn U U
 clear hS4
 refine Qe U U (Qf (Qc (Qh [3,8,9,10,11,12] U (Qd (Qd (Qa (Qe U U (Qf (Qc (Qv ?_))))))))))
 have hz0:=Zh (i:=0) (p:=p) (A:=Pi) ⟨rfl,KY.1,KY.2.1,KY.2.2.2.1.mono (by omega),XA.new⟩ (hS6.pick [1,0,2] U)
 refine Xb (fun K0 E0 W0=> ∃(i:Nat) (A:LvA),K0=l.length -i∧E0=[(3,.slice ao l.length cap),(9,.bool true),(10,ptrV p 0),(11,ptrV b 0),(12,intV ((Fr:Int)+((default:SlW).v:Int))),(13,intV (i:Int))]∧Sat W0 [Kb b p Fr (100000000*i) i A,F]∧(i≤l.length)) (L0:=[(3,_),(9,_),(10,_),(11,_),(12,_),(13,_)]) (l.length -0) (Gp U U U U U U) ⟨0,Pi,rfl,rfl,hz0.pick [0,1] U, by omega⟩ ?_
 rintro _ _ w7 ⟨i,A,rfl,rfl,hS7,hi⟩
 refine Qd (Qd (Qa (Qb U U (Qb U U (Xr Tryz.underlying36 U U (Xg U U U (Qf (Qc (Qs U (fun h8=> ?_) (fun h8=> ?_))))))))))
 ·obtain⟨x1,ha1⟩: ∃y,l[i]? =some y:=⟨_,Zi (by omega)⟩
  obtain⟨bqx1,offx1,rfl,hcx1⟩:=(hF.sat hS7 1 rfl).get ha1
  have hilx1:=(XR ha1).1
  clear hcx1
  refine Qt (Qc (Qd (Qv (Qd (Qa (Qb U U (Qb U U (Zq i U U (by first | rfl | omega) (by omega) On U ?_))))))))
  refine Qg U S3 U (Qn U QL (((hF.sat hS7 1 U).at_ ha1) 0 _ U) U (Qw OS U (Sc (hS7.sp [] U) x1.dk 14 (by omega)) U ?_))
  rintro _ w9 ⟨rfl,hS9⟩
  replace hS9:=hS9.jn U U
  clear hS7
  refine X0 U U U (Qf (Qc (Qh [13,12,11,10,9,3,50] U (Qs U (fun h10=> ?_) (fun h10=> ?_)))))
  ·have h13:x1.dk%14≠13:=h10
   refine Qa (Qb U U (Qb U U (Qb U U (Qb U U (Zq i U U (by first | rfl | omega) (by omega) On U ?_)))))
   refine Vh U ag_43 Ei (vs:=LR x1) ((hF.sat hS9 1 U).at_ ha1) U (Qw cal_20 U (do_sp (hS9.sp [0] U) (by omega) (by omega) (g1.2 i x1 ha1) h13) U ?_)
   rintro _ w11 ⟨A2,hS11⟩
   replace hS11:=hS11.jn U U
   clear hS9
   refine Qf (Qk (Qc (Qh [13,12,11,10,9,3] U (Qa (Qb U U (QI U U (by omega) (by omega) U ?_))))))
   refine Qe U U (Qf ?_)
   exact Q0 (L1:=[(3,_),(9,_),(10,_),(11,_),(12,_),(13,intV ((i+1:Nat):Int))]) (Gp U U U U U U) (k1:=l.length -(i+1)) (by omega) ⟨i+1,A2,rfl,rfl,Wh (by omega) (hS11.pick [0,1] U), by omega⟩
  refine Qt (Qk (Qc (Qa (Qb U U (QI U U (by omega) (by omega) U ?_)))))
  refine Qe U U (Qf ?_)
  exact Q0 (L1:=[(3,_),(9,_),(10,_),(11,_),(12,_),(13,intV ((i+1:Nat):Int))]) (Gp U U U U U U) (k1:=l.length -(i+1)) (by omega) ⟨i+1,A,rfl,rfl,WV (by omega) (hS9.pick [0,1] U), by omega⟩
 refine QM (Qo (Qo (Qx (Qc (Qd ?_)))))
 obtain⟨L,V,⟨h1,h2,h3,h4,h5⟩,hz1⟩:=W3 (hS7.pick [0,1] rfl)
 have hi50:i≤50:= by omega
 subst h1
 have hc:SzLe L 25600:=h4.mono (by omega)
 have hz2:=Xe (m:=5000000000) (by omega) (hz1.pick [1,0,2] U)
 have hal:=LQ h2 hc
 obtain⟨ids0,obs0,g1,g2,g3⟩:=_root_.id h5
 have hK:TrN L.tr 50:=⟨ids0, by omega, fun j hj=>g3.ids j (by obtain⟨u,hu⟩:=Option.ne_none_iff_exists'.1 hj; rw[←h3,Zk hu]; simp)⟩
 have hlen: ∀ks,Came (Xv TrD.ad L.tr) ks→ks.length≤50:= fun ks hq=>hK.came hq
 refine Qa (Qb U U ?_)
 have hC12:=hz2.sp [0] U
 refine Qw OR U (Et hC12 hal (by omega)) U ?_
 rintro _ w12 ⟨ls,hls1,hls2,hls3,hS12⟩
 replace hS12:=hS12.jn U U; clear hC12
 clear hz2
 obtain⟨aa,ca,hva,_⟩:=hS12.own_shape 0 rfl; obtain rfl:=hva
 refine Qe U U (Qf (Qc (Qh [12,11,10,9,14] U (Qd (Qd (Qa (Qe U U (Qf (Qc (Qv ?_))))))))))
 refine Xb (fun K0 E0 W0=> ∃(k:Nat),K0=ls.length -k∧E0=[(9,.bool true),(10,ptrV L.sp 0),(11,ptrV b 0),(12,intV ((Fr:Int)+((default:SlW).v:Int))),(14,.slice aa ls.length ca),(15,intV (k:Int))]∧Sat W0 [rowT inC (.slice aa ls.length ca) ls,XY b L,XG L.sp 5000000000 Fr V,F]∧(k≤ls.length)) (L0:=[(9,_),(10,_),(11,_),(12,_),(14,_),(15,_)]) (ls.length -0) (Gp U U U U U U) ⟨0,rfl,rfl,hS12.pick [0,2,1,3] U, by omega⟩ ?_
 rintro _ _ w13 ⟨k,rfl,rfl,hS13,hk⟩
 refine Qd (Qd (Qa (Qb U U (Qb U U ?_))))
 first | refine Xr Tryz.underlying47 U U ?_ | refine ZG 0 hS13 Tryz.underlying47 U U U ?_
 refine Xg U U U (Qf (Qc (Qs U (fun h14=> ?_) (fun h14=> ?_))))
 ·obtain⟨s,hs⟩: ∃s,ls[k]? =some s:=⟨_,Zi (by omega)⟩
  have hsa:=(hls2 s).1 (List.mem_of_getElem? hs)
  have hs0:s≠0:= fun e=>hsa (by rw[e]; exact h2.zero)
  refine Qt (Qc (Qd (Qv (Qd (Qa (Qb U U (Qb U U (Qb U U (QW inC 0 k hS13 U U U (by first | rfl | omega) hs JQ U ?_)))))))))
  intro bx15 capx15 hvx15
  refine XE 0 k 0 hS13 U hvx15 U U hs QL U U (Qw cal_22 U (Pn (hS13.sp [1] U) hc (by omega) h2.rank.1 (fun ks hq=>Nat.le_trans (hlen ks hq) (by omega)) hs0) U ?_)
  rintro _ w16 ⟨nn,rfl,hcn,hS16⟩
  replace hS16:=hS16.jn U U
  clear hS13
  obtain⟨hrf,hn1⟩:=EM h2 hsa hs0 hcn
  refine Qe U U (Qf (Qc (Qh [15,14,12,11,10,9,16] U (Qd (Qa (Qb U U (Xd U U U (Qb U U (QU 74 U (fun h17=> ?_) (fun h17=> ?_))))))))))
  ·omega
  refine Ql U U (QC h17) (Qb U U (Ql U U (QC h17) (Qb U U (Ql U U (QC h17) (Qb U U (Ql U U (QC h17) (QW inC 1 k hS16 U U U (by rfl) hs JQ U ?_)))))))
  intro bx18 capx18 hvx18
  refine Ql U U (QC h17) (XE 1 k 0 hS16 U hvx18 U U hs QL U U (Ql U U (QC h17) (Qw Dw U (B4 (hS16.sp [2] U) s) U ?_)))
  rintro _ w19 ⟨rfl,hS19⟩
  replace hS19:=hS19.jn U U
  clear hS16
  rw[hrf]
  refine Ql U U (QC h17) (Qb U U (Ql U U (QC h17) (X0 U U U (QP U (QC h17) U U (Qf (Qc (Qh [15,14,12,11,10,9,83] U (Qs U (fun h20=> ?_) (fun h20=> ?_)))))))))
  ·exact absurd U h20
  refine Qt (Qk (Qc (Qa (Qb U U (QI U U (by omega) (by omega) U ?_)))))
  refine Qe U U (Qf ?_)
  exact Q0 (L1:=[(9,_),(10,_),(11,_),(12,_),(14,_),(15,intV ((k+1:Nat):Int))]) (Gp U U U U U U) (k1:=ls.length -(k+1)) (by omega) ⟨k+1,rfl,rfl,hS19.pick [2,1,0,3] U, by omega⟩
 refine QM (Qo (Qo (Qx (Qc (Qd (Qa (Qb U U (Qw TI U (GX (hS13.sp [1] U) (fun ks hq=>Nat.le_trans (hlen ks hq) (by omega))) U ?_))))))))
 rintro _ w21 ⟨ks,hks,hS21⟩
 replace hS21:=hS21.jn U U
 clear hS13
 have hkl2:(XZ ks).length≤50:= by rw[Wk]; exact hlen _ (Came.of_all hks)
 obtain⟨at1,ct,hvt,_⟩:=hS21.own_shape 0 rfl; obtain rfl:=hvt
 refine Qe U U (Qf (Qc (Qh [12,11,10,9,17] U (Qd (Qd (Qa (Qe U U (Qf (Qc (Qv ?_))))))))))
 refine Xb (fun K0 E0 W0=> ∃(k:Nat) (L1:LvD) (V1:VS) (K1:Nat),K0=(XZ ks).length -k∧E0=[(9,.bool true),(10,ptrV L.sp 0),(11,ptrV b 0),(12,intV ((Fr:Int)+((default:SlW).v:Int))),(17,.slice at1 (XZ ks).length ct),(18,intV (k:Int))]∧Sat W0 [rowT inC (.slice at1 (XZ ks).length ct) (XZ ks),XY b L1,XG L1.sp (5000000000+100000*(50 -K1)) Fr V1,F]∧(k≤(XZ ks).length)∧(LvI i L1 V1)∧(L1.sp=L.sp)∧(L1.pres=L.pres)∧(SubT L.tr L1.tr)∧(TrN L1.tr K1)∧(K1≤50)∧(SzLe L1 25600)∧(∀j k2,j<k→(XZ ks)[j]? =some k2→L1.tr k2=none)) (L0:=[(9,_),(10,_),(11,_),(12,_),(17,_),(18,_)]) ((XZ ks).length -0) (Gp U U U U U U) ⟨0,L,V,50,rfl,rfl,hS21.pick [0,1,3,4] U, by omega,h2,rfl,rfl,.refl,hK, by omega,hc, fun j k2 hj=>absurd hj (by omega)⟩ ?_
 rintro _ _ w22 ⟨k,L1,V1,K1,rfl,rfl,hS22,hk,hI1,hsp,hpr,hsub,hK1,hK50,hsz,hdn⟩
 refine Qd (Qd (Qa (Qb U U (Qb U U ?_))))
 first | refine Xr Tryz.underlying47 U U ?_ | refine ZG 0 hS22 Tryz.underlying47 U U U ?_
 refine Xg U U U (Qf (Qc (Qs U (fun h23=> ?_) (fun h23=> ?_))))
 ·obtain⟨s,hs⟩: ∃s,(XZ ks)[k]? =some s:=⟨_,Zi (by omega)⟩
  refine Qt (Qc (Qd (Qv (Qa (Qb U U (Qb U U (Qb U U (QW inC 0 k hS22 U U U (by first | rfl | omega) hs JQ U ?_))))))))
  intro bx24 capx24 hvx24
  refine XE 0 k 0 hS22 U hvx24 U U hs QL U U (Qw PG U (LT (hS22.sp [1,2] U) (by omega) hI1 hsz (by omega) hK1 (by omega) s) U ?_)
  rintro _ w25 ⟨L2,V2,K2,hQ,hS25⟩
  replace hS25:=hS25.jn U U
  clear hS22
  refine Qf (Qk (Qc (Qh [18,17,12,11,10,9] U (Qa (Qb U U (QI U U (by omega) (by omega) U ?_))))))
  refine Qe U U (Qf ?_)
  exact Q0 (L1:=[(9,_),(10,_),(11,_),(12,_),(17,_),(18,intV ((k+1:Nat):Int))]) (Gp U U U U U U) (k1:=(XZ ks).length -(k+1)) (by omega) ⟨k+1,L2,V2,K2,rfl,rfl,(Xe (m:=5000000000+100000*(50 -K2)) (by have :=hQ.le;omega) (hS25.pick [1,2,0,3] U)).reorder [1,2,0,3] U, by omega,hQ.inv,hQ.sp.trans hsp,hQ.pres.trans hpr,hsub.trans hQ.sub,hQ.trn, by have :=hQ.le;omega,hQ.sz, fun j k2 hj hk2=> by by_cases e:j=k;(subst e; rw[hs]at hk2; cases hk2; exact hQ.gone); exact((hQ.sub k2).elim (fun q=>q.trans (hdn j k2 (by omega) hk2)) id)⟩
 refine QM (Qo (Qo (Qx (Qc (Qd (Qa (Qb U U ?_)))))))
 have hkk:k=(XZ ks).length:= by omega
 have hno: ∀j,L1.tr j=none:= fun j=>AW hks hsub (fun q k2 hk2=>hdn q k2 (by rw[hkk]; exact(XR hk2).1) hk2) j
 refine Qw OQ U (BW (hS22.sp [1] U) hsz (by omega) (hno 0) (.inl U)) U ?_
 rintro _ w26 ⟨kl,hkn,hkl,hkc,hS26⟩
 replace hS26:=hS26.jn U U
 clear hS22
 obtain⟨an,cn,hvn,_⟩:=hS26.own_shape 0 rfl; obtain rfl:=hvn
 have hlm:(kl.map (W9 L1 0)).length=kl.length:= by simp
 refine Qe U U (Qf (Qc (Qh [12,11,10,9,19] U (Qd (Qd (Qa (Qe U U (Qf (Qc (Qv ?_))))))))))
 have hz3:=Xe (m:=5006000000+51200*0) (by omega) (hS26.pick [3,0,1,2,4] U)
 refine Xb (fun K0 E0 W0=> ∃(q:Nat) (L2:LvD) (V2:VS),K0=(kl.map (W9 L1 0)).length -q∧E0=[(9,.bool true),(10,ptrV L.sp 0),(11,ptrV b 0),(12,intV ((Fr:Int)+((default:SlW).v:Int))),(19,.slice an (kl.map (W9 L1 0)).length cn),(20,intV (q:Int))]∧Sat W0 [rowT CJ (.slice an (kl.map (W9 L1 0)).length cn) (kl.map (W9 L1 0)),XY b L2,XG L2.sp (5006000000+51200*q) Fr V2,F]∧(q≤(kl.map (W9 L1 0)).length)∧(LvI i L2 V2)∧(L2.sp=L.sp)∧(∀j,L2.tr j=none)∧(SzLe L2 25600)∧(∀z,L2.pres z≠0→L1.pres z≠0∧ ∀j k2,j<q→kl[j]? =some k2→k2.1≠z.1)) (L0:=[(9,_),(10,_),(11,_),(12,_),(19,_),(20,_)]) ((kl.map (W9 L1 0)).length -0) (Gp U U U U U U) ⟨0,L1,V1,rfl,rfl,hz3.pick [1,2,0,4] U, by omega,hI1,hsp,hno,hsz, fun z hz=>⟨hz, fun j k2 hj=>absurd hj (by omega)⟩⟩ ?_
 rintro _ _ w27 ⟨q,L2,V2,rfl,rfl,hS27,hq,hI2,hsp2,hno2,hsz2,hpr2⟩
 refine Qd (Qd (Qa (Qb U U (Qb U U ?_))))
 first | refine Xr Tryz.underlying52 U U ?_ | refine ZG 0 hS27 Tryz.underlying52 U U U ?_
 refine Xg U U U (Qf (Qc (Qs U (fun h28=> ?_) (fun h28=> ?_))))
 ·obtain⟨kq,hkq⟩: ∃y,kl[q]? =some y:=⟨_,Zi (by omega)⟩
  have hr:(kl.map (W9 L1 0))[q]? =some (W9 L1 0 kq):= by rw[List.getElem?_map,hkq];rfl
  refine Qt (Qc (Qd (Qv (Qa (Qb U U (Qb U U (Qb U U (QW CJ 0 q hS27 U U U (by first | rfl | omega) hr S7 U ?_))))))))
  intro bx29 capx29 hvx29
  refine Qg U fo_56_0 U (XE 0 q 0 hS27 U hvx29 U U hr WC U U (Qw PF U (L5 (c:=25600) (hS27.sp [1,2] U) hsz2 (by omega) hI2 (fun _ _=>Int.le_refl _) kq.1) U ?_))
  rintro _ w30 ⟨L3,V3,hs3,hp3,ht3,hS30⟩
  replace hS30:=hS30.jn U U
  clear hS27
  refine Qf (Qk (Qc (Qh [20,19,12,11,10,9] U (Qa (Qb U U (QI U U (by omega) (by omega) U ?_))))))
  refine Qe U U (Qf ?_)
  exact Q0 (L1:=[(9,_),(10,_),(11,_),(12,_),(19,_),(20,intV ((q+1:Nat):Int))]) (Gp rfl rfl rfl rfl rfl rfl) (k1:=(kl.map (W9 L1 0)).length -(q+1)) (by omega) ⟨q+1,L3,V3,rfl,rfl,(Xe (m:=5006000000+51200*(q+1)) (by omega) (hS30.pick [1,2,0,3] rfl)).reorder [1,2,0,3] rfl, by omega,hs3.inv,hs3.sp.trans hsp2, fun j=> by rw[ht3]; exact hno2 j,hs3.sz _ hsz2, fun z hz=> by rw[hp3 z]at hz;split at hz; exact absurd rfl hz;rename_i hz1; obtain⟨y1,y2⟩:=hpr2 z hz; exact⟨y1, fun j k2 hj hk2=> by by_cases e:j=q;(subst e; rw[hkq]at hk2; cases hk2; exact fun e2=>hz1 e2.symm); exact y2 j k2 (by omega) hk2⟩⟩
 refine QM (Qo (Qo (Qx (Qc (Qd ?_)))))
 have hqe:q=kl.length:= by omega
 have hpz: ∀z,L2.pres z=0:= fun z=>Classical.byContradiction fun hz=> by obtain⟨y1,y2⟩:=hpr2 z hz; obtain⟨j,hj⟩:=List.mem_iff_getElem?.1 (hkc (.inl z) rfl y1); exact y2 j z (by rw[hqe]; exact(XR hj).1) hj rfl
 have hVn:=O0 hI2 hpz hno2
 rw[hsp2]at hS27
 refine Qa (Qb U U (Qb U U (Ze 114 U (fun h31=> ?_) (fun h31=> ?_))))
 ·refine Ql U U h31 (Qb U U (Ql U U h31 ?_))
  refine Qw TI U (GX (hS27.sp [1] U) (fun ks hq=> by rw[Mw hno2 hq]; simp)) U ?_
  rintro _ w32 ⟨ks3,hks3,hS32⟩
  replace hS32:=hS32.jn U U
  clear hS27
  obtain rfl:=Mw hno2 (Came.of_all hks3)
  obtain⟨ax,cx,hvx,_⟩:=hS32.own_shape 0 rfl; obtain rfl:=hvx
  refine Ql U U h31 (Xr Tryz.underlying47 U U (Ql U U h31 (Xd U U U (Q9 U h31 U U (Qb U U (QU 120 U (fun h33=> ?_) (fun h33=> ?_)))))))
  ·refine Ql U U (Xl h33) (Qb U U (Ql U U (Xl h33) (Qw OR U (Et (c:=0) (hS32.sp [3] U) ⟨[],Nat.le_refl _, fun j hj=>absurd (hVn j) hj⟩ (by omega)) U ?_)))
   rintro _ w34 ⟨l4,_,_,hl4,hS34⟩
   replace hS34:=hS34.jn U U
   clear hS32
   obtain⟨ay,cy,hvy,_⟩:=hS34.own_shape 0 rfl; obtain rfl:=hvy
   refine Ql U U (Xl h33) (Xr Tryz.underlying47 U U (Ql U U (Xl h33) (Xd U U U (Q9 U (Xl h33) U U (Qb U U (QU 126 U (fun h35=> ?_) (fun h35=> ?_)))))))
   ·refine Ql U U (Xl h35) (Qb U U (Ql U U (Xl h35) (Qw OT U (Er (hS34.sp [1] U) hVn) U ?_)))
    rintro _ w36 ⟨rfl,hS36⟩
    replace hS36:=hS36.jn U U
    clear hS34
    refine Ql U U (Xl h35) (Qb U U (Ql U U (Xl h35) (Xd U U U (Q9 U (Xl h35) U U (Qe U U (Qf (Qc (Qh [8] U (Qu (QR (.inr U) U U ?_))))))))))
    exact⟨_,rfl, by(simp;done),hS36.pick [5] U⟩
   omega
  exact absurd (by simp [XZ]) h33
 exact absurd h31 (by decide)
end Go.Proofs.YtkcjfoaejijdoaaGreatDoor
namespace Go.Proofs.YtkcjfoaejijdoaaGreatDoor.M
open Go.ChangeShapes Go.WideShapes Go.ChangeAt Go.RowKit Go.Deep
def At (w:World) (b off:Nat) (cs:List Value):Prop:= ∀j v,cs[j]? =some v→w.cell? ⟨b,off+j,none⟩=some v
theorem At.cell {w:World} {b off:Nat} {cs:List Value} (h:At w b off cs) (j:Nat) {v:Value} (hv:cs[j]? =some v):w.cell? ⟨b,off+j,none⟩=some v:=h j v hv
theorem At.below {B:Nat} {w w':World} {b off:Nat} {cs:List Value} (h:At w b off cs) (hb:Below B w w') (hB:b<B):At w' b off cs:=
  fun j v hv=>(hb.cell (p:=⟨b,off+j,none⟩) hB).trans (h j v hv)
structure Cod (P:Program) (t:TypeId) (α:Type) where
  rd:World→List Value→α→Prop
  size:Nat
  cells:P.cellsOf t=size
  down: ∀{H:Type} {enc:TypeId×Value→H} {w:World} {base:Nat} {spare:Nat→Bool} {held:Bool} {fuel:Nat} {cs:List Value} {x:DataW H×List MemPlace},
    DataW.trod enc P w base spare held fuel t cs=some x→ ∃a,rd w cs a
  len: ∀{w cs a},rd w cs a→cs.length=size
  keep: ∀{w w' cs a},Below w.heap.size w w'→rd w cs a→rd w' cs a
section
variable {P:Program}
def Cod.int {t:TypeId} (k:IntKind) (ht:P.underlying t=some (.int k)) (hc:P.cellsOf t=1):Cod P t Int where
  rd:= fun _ cs n=>cs=[.int k n]∧(Lit.int k n).wf=true
  size:=1
  cells:=hc
  down:= fun h=> by
    obtain⟨n,h1,_,h2⟩:=DataW.trod_int ht h
    exact⟨n,h1,h2⟩
  len:= fun h=> by rw[h.1];rfl
  keep:= fun _ h=>h
def Cod.byte {t:TypeId} (ht:P.underlying t=some (.int .u8)) (hc:P.cellsOf t=1):Cod P t UInt8 where
  rd:= fun _ cs n=>cs=[.int .u8 (n.toNat:Int)]
  size:=1
  cells:=hc
  down:= fun h=> by
    obtain⟨n,h1,_,h2⟩:=DataW.trod_int ht h
    have hb:=bounds_u8 h2
    refine⟨UInt8.ofNat n.toNat, ?_⟩
    have e:((UInt8.ofNat n.toNat).toNat:Int)=n:= by simp;omega
    rw[e]; exact h1
  len:= fun h=> by rw[h];rfl
  keep:= fun _ h=>h
def Cod.bool {t:TypeId} (ht:P.underlying t=some .bool) (hc:P.cellsOf t=1):Cod P t Bool where
  rd:= fun _ cs n=>cs=[.bool n]
  size:=1
  cells:=hc
  down:= fun h=> by
    obtain⟨n,h1,_⟩:=DataW.trod_bool ht h
    exact⟨n,h1⟩
  len:= fun h=> by rw[h];rfl
  keep:= fun _ h=>h
def Cod.string {t:TypeId} (ht:P.underlying t=some .string) (hc:P.cellsOf t=1):Cod P t ByteArray where
  rd:= fun _ cs s=>cs=[.string s]∧s.size≤9223372036854775807
  size:=1
  cells:=hc
  down:= fun h=> by
    obtain⟨n,h1,_,h2⟩:=DataW.trod_string ht h
    exact⟨n,h1,h2⟩
  len:= fun h=> by rw[h.1];rfl
  keep:= fun _ h=>h
def Bl {α:Type} (rd:World→List Value→α→Prop) (size:Nat) (w:World) (v:Value) (l:List α):Prop:=
  ∃ao cap,v= .slice ao l.length cap∧l.length≤cap∧cap≤9223372036854775807∧ ∀(i:Nat) (a:α),l[i]? =some a→ ∃b off cs,ao=some ⟨b,off,none⟩∧b<w.heap.size∧At w b (off+i*size) cs∧rd w cs a
def Cod.slice {t e:TypeId} {α:Type} [Inhabited α] (ht:P.underlying t=some (.slice e)) (hc:P.cellsOf t=1) (c:Cod P e α) (hpos:0<c.size):Cod P t (List α) where
  rd:= fun w cs l=> ∃v,cs=[v]∧Bl c.rd c.size w v l
  size:=1
  cells:=hc
  down:= fun {H enc w base spare held fuel cs x} h=> by
    rcases open_slice ht h with⟨rfl,_⟩ | ⟨a,len,cap,m,n,D,Pl,rfl,hb,hl,hm,hmm,_,hx⟩
    · exact⟨[],_,rfl,none,0,rfl,Nat.le_refl _, by omega, fun i a hi=> by simp at hi⟩
    · have hlm:len≤m:= by rw[hmm];split<;>omega
      have hex: ∀i,i<len→ ∃y:α,∃cs',c.rd w cs' y∧(∀j v,cs'[j]? =some v→w.cell? (a.add (i*c.size+j))=some v):= by
        intro i hi
        obtain⟨cs',h1,h2⟩:=hx i (by omega)
        obtain⟨y,hy⟩:=c.down h2
        obtain⟨_,hlen,hat⟩:=World.cells?_some h1
        refine⟨y,cs',hy, fun j v hv=> ?_⟩
        have hj:j<cs'.length:=(List.getElem?_eq_some_iff.1 hv).1
        rw[c.cells]at hlen hat
        rw[←Go.Deep.add_add,hat j (by omega),hv]
      obtain⟨f,hf⟩:=choose_lt hex
      refine⟨(List.range len).map f,_,rfl,some a,cap, by simp, by simpa using hl,hm, fun i y hi=> ?_⟩
      have hil:i<len:= by have :=(List.getElem?_eq_some_iff.1 hi).1;simpa using this
      simp [hil]at hi
      subst hi
      obtain⟨cs',hrd,hat⟩:=hf i hil
      have hcl:=c.len hrd
      obtain⟨b,off,spot⟩:=a
      have h0:=hat 0 cs'[0] (List.getElem?_eq_getElem (by omega))
      have hspot:spot=none:= by
        have :=World.cell?_spot h0
        unfold Addr.add at this
        split at this
        · exact this
        · obtain⟨i0,hi0⟩: ∃i0,i0<len∧i0=0:=⟨0, by omega,rfl⟩
          obtain⟨hi1,rfl⟩:=hi0
          obtain⟨cs0,hrd0,hat0⟩:=hf 0 hi1
          have hcl0:=c.len hrd0
          have h00:=hat0 0 cs0[0] (List.getElem?_eq_getElem (by omega))
          have :=World.cell?_spot h00
          simpa [Addr.add]using this
      subst hspot
      refine⟨b,off,cs',rfl, ?_, fun j v hv=> ?_,hrd⟩
      · have :=block_lt_of_cell h0
        rw[ZY]at this
        exact this
      · have :=hat j v hv
        rw[ZY]at this
        rw[Nat.add_assoc]; exact this
  len:= fun ⟨v,h,_⟩=> by rw[h];rfl
  keep:= fun {w w' cs l} hb ⟨v,h1,ao,cap,h2,h3,h4,h5⟩=>⟨v,h1,ao,cap,h2,h3,h4, fun i a hi=> by
    obtain⟨b,off,cs',e1,e2,e3,e4⟩:=h5 i a hi
    exact⟨b,off,cs',e1,Nat.lt_of_lt_of_le e2 hb.size,e3.below hb e2,c.keep hb e4⟩⟩
structure Flds (P:Program) (fs:List Field) (off:Nat) (α:Type) where
  rd:World→List Value→α→Prop
  size:Nat
  down: ∀{H:Type} {enc:TypeId×Value→H} {w:World} {base:Nat} {spare:Nat→Bool} {held:Bool} {n:Nat} {cs:List Value} {xs:List (DataW H×List MemPlace)},
    (∀(i:Nat) (f:Field),fs[i]? =some f→ ∃x,DataW.trod enc P w base spare held n f.type ((cs.drop f.offset).take (P.cellsOf f.type))=some x)→ ∃a,rd w ((cs.drop off).take size) a
  len: ∀{w cs a},rd w cs a→cs.length=size
  keep: ∀{w w' cs a},Below w.heap.size w w'→rd w cs a→rd w' cs a
def Flds.nil (off:Nat):Flds P [] off Unit where
  rd:= fun _ cs _=>cs=[]
  size:=0
  down:= fun _=>⟨(), by simp⟩
  len:= fun h=> by rw[h];rfl
  keep:= fun _ h=>h
def Flds.cons {f:Field} {fs:List Field} {off:Nat} {α β:Type} (c:Cod P f.type α) (ho:f.offset=off) (r:Flds P fs (off+c.size) β):Flds P (f::fs) off (α×β) where
  rd:= fun w cs a=> ∃cs1 cs2,cs=cs1++cs2∧c.rd w cs1 a.1∧r.rd w cs2 a.2
  size:=c.size+r.size
  down:= fun {H enc w base spare held n cs xs} h=> by
    obtain⟨x,hx⟩:=h 0 f rfl
    rw[ho,c.cells]at hx
    obtain⟨a,ha⟩:=c.down hx
    obtain⟨b,hb⟩:=r.down (xs:=xs) (fun i g hg=>h (i+1) g (by simpa using hg))
    refine⟨(a,b),_,_, ?_,ha,hb⟩
    rw[←List.drop_drop]
    exact List.take_add ..
  len:= fun ⟨cs1,cs2,h,h1,h2⟩=> by rw[h,List.length_append,c.len h1,r.len h2]
  keep:= fun hb ⟨cs1,cs2,h,h1,h2⟩=>⟨cs1,cs2,h,c.keep hb h1,r.keep hb h2⟩
def Cod.struct {t:TypeId} {fs:List Field} {α:Type} (ht:P.underlying t=some (.struct fs.toArray)) (r:Flds P fs 0 α) (hc:P.cellsOf t=r.size):Cod P t α where
  rd:=r.rd
  size:=r.size
  cells:=hc
  down:= fun {H enc w base spare held fuel cs x} h=> by
    obtain⟨xs,n,_,_,hl,hxl,hf⟩:=DataW.trod_struct ht h
    obtain⟨a,ha⟩:=r.down (xs:=xs) (n:=n) (enc:=enc) (w:=w) (base:=base) (spare:=spare) (held:=held) (cs:=cs) (fun i f hi=> by
      have h1:=hf i f (by simpa using hi)
      have hil:=(List.getElem?_eq_some_iff.1 hi).1
      rw[h1,List.getElem?_eq_getElem (by rw[hxl];simpa using hil)]
      exact⟨_,rfl⟩)
    refine⟨a, ?_⟩
    rw[List.drop_zero,List.take_of_length_le (by omega)]at ha
    exact ha
  len:=r.len
  keep:=r.keep
def Cod.map {t:TypeId} {α β:Type} (c:Cod P t α) (f:α→β):Cod P t β where
  rd:= fun w cs b=> ∃a,b=f a∧c.rd w cs a
  size:=c.size
  cells:=c.cells
  down:= fun h=> by obtain⟨a,ha⟩:=c.down h; exact⟨f a,a,rfl,ha⟩
  len:= fun ⟨a,_,h⟩=>c.len h
  keep:= fun hb ⟨a,e,h⟩=>⟨a,e,c.keep hb h⟩
theorem VX {H:Type} {enc:TypeId×Value→H} (hl:laidOutB P=true) {W W':World} (hb:Below W.heap.size W W'):
    ∀ (ts:List TypeId) (vs:List Value) (ds:List (DataW H)) (ps:List MemPlace),(∀t∈ts,P.readableRec t=true∧t<P.types.size)→
      DataW.TrodAll enc P W 0 (fun _=>true) true ts vs ds ps→DataW.TrodAll enc P W' 0 (fun b=>decide (b<W.heap.size)) true ts vs ds ps
  | [],vs,ds,ps,_,h=> by
    obtain⟨rfl,rfl,rfl⟩:=trodAll_nil h
    exact U
  | t::ts,vs,ds,ps,hr,h=> by
    obtain⟨v,vs',d,ds',p,q,rfl,rfl,rfl,h0,h1⟩:=trodAll_cons h
    have lt0: ∀x∈p,x.block<W.heap.size:= by obtain⟨m,hm⟩:=h0; exact DataW.trod_lt m _ _ _ hm
    obtain⟨r1,r2⟩:=hr t (by simp)
    exact trodAll_cons_mk (Below.trod hl r1 r2 h0 hb lt0) (VX hl hb ts vs' ds' q (fun t ht=>hr t (by simp [ht])) h1)
end
end Go.Proofs.YtkcjfoaejijdoaaGreatDoor.M
namespace Go.Proofs.YtkcjfoaejijdoaaGreatDoor
open Go.RowKit M
theorem ent_gt {W:World} (h:GT W):Ent (BX W) GT:=Ent.frame fun w hb j hj=>(hb.cell (block_lt_of_cell (h j hj))).trans (h j hj)
theorem Lh {W w:World} (h:Sat w [BX W]):Below W.heap.size W w:=h.below 0 U
instance:Inhabited AcL:=⟨⟨0,0,[],[],0,0,0,0⟩⟩
def Mz:Cod Tryz.prog 3 Int:=Cod.int .i64 Tryz.underlying3 (by kernel_rfl)
def lstrC:Cod Tryz.prog 9 ByteArray:=Cod.string Tryz.underlying9 (by kernel_rfl)
def acCod:Cod Tryz.prog 43 (Int×Int×ByteArray×ByteArray×Int×Int×Int×Int×Unit):=
  Cod.struct (P:=Tryz.prog) Tryz.underlying43 (Flds.cons Mz U (Flds.cons Mz U (Flds.cons lstrC U (Flds.cons lstrC U (Flds.cons Mz U (Flds.cons Mz U (Flds.cons Mz U (Flds.cons Mz U (Flds.nil _))))))))) (by kernel_rfl)
def acOf (y:(Int×Int×ByteArray×ByteArray×Int×Int×Int×Int×Unit)):AcL:=⟨y.1,y.2.1,y.2.2.1.data.toList,y.2.2.2.1.data.toList,y.2.2.2.2.1,y.2.2.2.2.2.1,y.2.2.2.2.2.2.1,y.2.2.2.2.2.2.2.1⟩
theorem acts_of {W:World} {v:Value} {l:List (Int×Int×ByteArray×ByteArray×Int×Int×Int×Int×Unit)} (h:Bl acCod.rd acCod.size W v l):capOk v∧ ∃l':List AcL,∀w,Below W.heap.size W w→RdL acLC v l' w:= by
  obtain⟨ao,cap,h1,h2,h3,h4⟩:=h
  have hex: ∀i,i<l.length→ ∃a:AcL,∀w,Below W.heap.size W w→ ∃b off,ao=some ⟨b,off,none⟩∧ ∀(j:Nat) (u:Value),(LR a)[j]? =some u→w.cell? ⟨b,off+i*8+j,none⟩=some u:= by
    intro i hi
    obtain⟨b,off,cs,e1,e2,e3,e4⟩:=h4 i l[i] (Zi hi)
    obtain⟨c1,cs1,rfl,⟨rfl,_⟩,c2,cs2,rfl,⟨rfl,_⟩,c3,cs3,rfl,⟨rfl,_⟩,c4,cs4,rfl,⟨rfl,_⟩,c5,cs5,rfl,⟨rfl,_⟩,c6,cs6,rfl,⟨rfl,_⟩,c7,cs7,rfl,⟨rfl,_⟩,c8,cs8,rfl,⟨rfl,_⟩,rfl⟩:=e4
    refine⟨acOf l[i], fun w hb=>⟨b,off,e1, fun j u hu=> ?_⟩⟩
    refine(hb.cell (p:=⟨b,off+i*8+j,none⟩) e2).trans (e3 j u ?_)
    simpa [LR,acOf]using hu
  obtain⟨f,hf⟩:=Go.Deep.choose_lt (n:=l.length) hex
  refine⟨fun a m c e=> by rw[h1]at e; cases e; exact h2,(List.range l.length).map f, fun w hb=>⟨ao,cap, by simpa using h1, by simp;omega, fun i a hi=> ?_⟩⟩
  have hil:i<l.length:= by have :=(XR hi).1;simpa using this
  simp [hil]at hi
  subst hi
  exact hf i hil w hb
theorem EK {W:World} {a b c:Int} {v1:Value} {l1:List (Int×Int×ByteArray×ByteArray×Int×Int×Int×Int×Unit)} (hG:GT W) (h1:Bl acCod.rd acCod.size W v1 l1):
    Calls Tryz.prog 4 #[.int .i64 a,.int .i64 b,.int .i64 c,v1] W fun e W'=>e= .returned (.bool true)∧Below W.heap.size W W':= by
  obtain⟨_,a1,h1⟩:=acts_of h1
  exact(EL (Sat.start W) (ent_gt hG) a b c (Ent.frame h1)).mono fun e W' ⟨v,h5,h6,h7⟩=>⟨by rw[h5,h6],Lh h7⟩
end Go.Proofs.YtkcjfoaejijdoaaGreatDoor
