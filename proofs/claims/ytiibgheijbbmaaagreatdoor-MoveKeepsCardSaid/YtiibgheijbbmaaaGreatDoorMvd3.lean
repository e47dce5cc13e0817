/- the law: changed -/
import Derived.Test.YtiibgheijbbmaaaGreatDoorMvc1
set_option linter.unusedVariables false
set_option maxRecDepth 100000
set_option maxHeartbeats 100000000000
namespace Go.Proofs.YtiibgheijbbmaaaGreatDoor
open Go.RowKit M Proofs.Tryz
def Il (del:Bool) (id:Int) (x:Bs) (a:AL Bs×Bool) (y:Int×Bs):AL Bs×Bool:=
  if y.1≠id then((if a.2=false∧id≤y.1∧del=false then(a.1++[(id,x)],true)else a).1++[y],(if a.2=false∧id≤y.1∧del=false then(a.1++[(id,x)],true)else a).2)else if a.2=false∧id≤y.1∧del=false then(a.1++[(id,x)],true)else a
def Iw (o:OpD) (l:AL Bs) (i:Nat):AL Bs×Bool:=(l.take i).foldl (Il (decide (o.dO%32=19)) o.id (List.replicate 64 o.b)) ([],false)
def qae (a:AL Bs×Bool) (del:Bool) (id:Int) (x:Bs):AL Bs:= if a.2=false∧del=false then a.1++[(id,x)]else a.1
def Ik (s:SsD) (o:OpD):SsD:= if o.dO%32=20 then⟨o.s,s.sheets⟩else⟨s.state,qae (Iw o s.sheets s.sheets.length) (decide (o.dO%32=19)) o.id (List.replicate 64 o.b)⟩
section
variable {o:OpD} {l out:AL Bs} {i:Nat} {y:Int×Bs} {dn:Bool}
theorem I8 (hy:l[i]? =some y) (h:Iw o l i=(out,dn)):Iw o l (i+1)=Il (decide (o.dO%32=19)) o.id (List.replicate 64 o.b) (out,dn) y:= by
  unfold Iw at h⊢; rw[List.take_add_one,hy,List.foldl_append,h];rfl
theorem chg_m {out2:AL Bs} {dn2:Bool} (hy:l[i]? =some y) (h:Iw o l i=(out,dn)) (hm:(out2,dn2)= if dn=false∧o.id≤y.1∧o.dO%32≠19 then(out++[(o.id,List.replicate 64 o.b)],true)else(out,dn)):Iw o l (i+1)= if y.1≠o.id then(out2++[y],dn2)else(out2,dn2):= by
  rw[I8 hy h];unfold Il
  by_cases q:dn=false∧o.id≤y.1∧o.dO%32≠19
  · rw[if_pos q]at hm; cases hm
    have k:(out,dn).2=false∧o.id≤y.1∧decide (o.dO%32=19)=false:=⟨q.1,q.2.1,Qx q.2.2⟩
    simp only[if_pos k]
  · rw[if_neg q]at hm; cases hm
    have k: ¬((out,dn).2=false∧o.id≤y.1∧decide (o.dO%32=19)=false):= fun r=>q ⟨r.1,r.2.1,of_decide_eq_false r.2.2⟩
    simp only[if_neg k]
theorem I0 (h20:o.dO%32≠20) {t:Bs} (h:Iw o l i=(out,dn)) (hi:i=l.length):Ik ⟨t,l⟩ o=⟨t, if dn=false∧o.dO%32≠19 then out++[(o.id,List.replicate 64 o.b)]else out⟩:= by
  unfold Ik qae; rw[if_neg h20]; subst hi; dsimp only; rw[h]
  by_cases q:dn=false∧o.dO%32≠19
  · rw[if_pos q,if_pos ⟨q.1,Qx q.2⟩]
  · rw[if_neg q,if_neg (fun r=>q ⟨r.1,of_decide_eq_false r.2⟩)]
theorem qa2 {del:Bool} {id:Int} {x:Bs}: ∀{l a:AL Bs},(∀e∈l,e.1≠id)→l.foldl (Il del id x) (a,true)=(a++l,true)
  | [],a,_=> by simp
  | e::l,a,h=> by
    rw[List.foldl_cons, show Il del id x (a,true) e=(a++[e],true) by unfold Il; rw[if_pos (h e List.mem_cons_self),if_neg (by simp)],qa2 fun e he=>h e (List.mem_cons_of_mem _ he)]
    simp
theorem qa3 {id:Int} {x:Bs}: ∀{l a:AL Bs},l.foldl (Il true id x) (a,false)=(a++K1 l id,false)
  | [],a=> by simp [K1]
  | e::l,a=> by
    rw[List.foldl_cons]
    by_cases q:e.1=id
    · rw[show Il true id x (a,false) e=(a,false) by unfold Il; rw[if_neg (fun r=>r q),if_neg (by simp)],qa3]; simp [K1,q]
    · rw[show Il true id x (a,false) e=(a++[e],false) by unfold Il; rw[if_pos q,if_neg (by simp)],qa3]; simp [K1,q]
theorem foldP {id:Int} {x:Bs}: ∀{l a:AL Bs},Srt l→qae (l.foldl (Il false id x) (a,false)) false id x=a++Zk id x l
  | [],a,_=> by simp [qae,Zk]
  | e::l,a,h=> by
    rw[List.foldl_cons];unfold Zk
    by_cases h1:e.1<id
    · rw[if_pos h1, show Il false id x (a,false) e=(a++[e],false) by unfold Il; rw[if_pos (by omega),if_neg (by rintro⟨_,q,_⟩;omega)],foldP h.tail]; simp
    · rw[if_neg h1]
      by_cases h2:e.1=id
      · rw[if_pos h2, show Il false id x (a,false) e=(a++[(id,x)],true) by unfold Il; rw[if_neg (fun q=>q h2),if_pos ⟨rfl, by omega,rfl⟩],qa2 (fun f hf=> by have :=h.head f.1 (List.mem_map.2 ⟨f,hf,rfl⟩);omega)]
        simp [qae]
      · rw[if_neg h2, show Il false id x (a,false) e=(a++[(id,x)]++[e],true) by unfold Il; rw[if_pos h2,if_pos ⟨rfl, by omega,rfl⟩],qa2 (fun f hf=> by have :=h.head f.1 (List.mem_map.2 ⟨f,hf,rfl⟩);omega)]
        simp [qae]
theorem chg_put {s:SsD} (h:Srt s.sheets) (h1:o.dO%32≠20) (h2:o.dO%32≠19):Ik s o=⟨s.state,Zk o.id (List.replicate 64 o.b) s.sheets⟩:= by
  unfold Ik Iw; rw[if_neg h1,List.take_length,Qx h2,foldP h];rfl
theorem chg_del {s:SsD} (h1:o.dO%32=19):Ik s o=⟨s.state,K1 s.sheets o.id⟩:= by
  unfold Ik Iw; rw[if_neg (by omega),List.take_length,QD h1,qa3]; simp [qae]
theorem IE {s:SsD} (h1:o.dO%32=20):Ik s o=⟨o.s,s.sheets⟩:= by unfold Ik; rw[if_pos h1]
end
theorem qam {w:World} {F:Th} (hS:Sat w [F]) {t:Bs} {sv:Value} {l:AL Bs} (hL:Ent F (RdL shC sv l)) (hl30:l.length≤10000) {o:OpD} {kv:Value} (hK:Ent F (RdI kv o.keep)):
    Calls prog 25 #[.agg #[strV t,sv],.agg #[intV o.dO,intV o.n,intV o.id,.int .u8 (o.b.toNat:Int),strV o.s,kv]] w (Ret fun v w'=> ∃sv2,v= .agg #[strV (Ik ⟨t,l⟩ o).state,sv2]∧Sat w' [rowT shC sv2 (Ik ⟨t,l⟩ o).sheets,F]):= by
 obtain⟨ao,cap,rfl,hmax⟩:=(hL.sat hS 0 rfl).shape
 obtain⟨ka,kc,rfl⟩:=Fk (hK.sat hS 0 rfl)
 refine Qy func25 Qa ntmps25 Qa ?_
 refine Qf (Qb (Za hS Qa Qa Qa ?_))
 intro bp w1 hS10
 have hS1:Sat w1 (Xb bp [strV t,.slice ao l.length cap]::_):=hS10
 refine Za hS1 Qa Qa Qa ?_
 intro bo w2 hS20
 have hS2:Sat w2 (Xb bo [intV o.dO,intV o.n,intV o.id,.int .u8 (o.b.toNat:Int),strV o.s,.slice ka o.keep.length kc]::_):=hS20
 refine Xs hS2 Lt Qa Qa ?_
 intro rb w3 hS30
 have hS3:Sat w3 (Xb rb [strV [],.slice none 0 0]::_):=hS30
 refine Qh (Qd (Qf (Qb (Qi Qa Kb Qa (Qr Qa Zx (by first | assumption | exact hS3.cell 0 Qa Qa | exact hS3.cell 1 Qa Qa | exact hS3.cell 2 Qa Qa) Qa ?_)))))
 refine Zs Qa Sc PC Lt Qa Qa (Xs hS3 Lt Qa Qa ?_)
 intro ub w4 hS40
 have hS4:Sat w4 (Xb ub [strV [],.slice none 0 0]::_):=hS40
 first | (refine Q8 hS4 Qa Qa DP Qa (by first | rfl | (simp [QQ,Value.oneCell'];done) | assumption | exact hone) (i:=0) Qa (by first | decide | exact QC Qa | (simp;done) | omega) ?_) | (refine Q8 hS4 Qa Qa DP Qa (by first | rfl | (simp [QQ,Value.oneCell'];done) | assumption | exact hone) (i:=1) Qa (by first | decide | exact QC Qa | (simp;done) | omega) ?_) | (refine Q8 hS4 Qa Qa DP Qa (by first | rfl | (simp [QQ,Value.oneCell'];done) | assumption | exact hone) (i:=2) Qa (by first | decide | exact QC Qa | (simp;done) | omega) ?_) | (refine Q8 hS4 Qa Qa DP Qa (by first | rfl | (simp [QQ,Value.oneCell'];done) | assumption | exact hone) (i:=3) Qa (by first | decide | exact QC Qa | (simp;done) | omega) ?_)
 intro w5 hS6; dsimp only[List.set]at hS6
 refine Qh (Qd (Qf (Qf ?_)))
 have hS7:Sat _ (Xb ub [strV t,.slice none 0 0]::_):=hS6.pick [0,1,2,3,4] Qa
 refine Qb (Qi Qa Sz Qa (Qr Qa QH (by first | assumption | exact hS7.cell 0 Qa Qa | exact hS7.cell 1 Qa Qa | exact hS7.cell 2 Qa Qa | exact hS7.cell 3 Qa Qa) Qa ?_))
 refine KO 5 Qa Qa Qa Qa (q:=32) Qa Qa (QL Qa Qa Qa (Qh (Qd (Qk [2,3,4,5,15] Qa (Qv Qa (fun h8=> ?_) (fun h8=> ?_))))))
 ·refine Qf (Qb (Qi Qa Rr Qa (Qr Qa Zx (by first | assumption | exact hS7.cell 0 Qa Qa | exact hS7.cell 1 Qa Qa | exact hS7.cell 2 Qa Qa | exact hS7.cell 3 Qa Qa) Qa ?_)))
  refine Qi Qa Kb Qa ?_
  first | (refine Qw hS7 Qa Qa Hz (by first | rfl | assumption) (i:=0) Qa (by first | decide | exact QC Qa | (simp;done) | omega) ?_) | (refine Qw hS7 Qa Qa Hz (by first | rfl | assumption) (i:=1) Qa (by first | decide | exact QC Qa | (simp;done) | omega) ?_) | (refine Qw hS7 Qa Qa Hz (by first | rfl | assumption) (i:=2) Qa (by first | decide | exact QC Qa | (simp;done) | omega) ?_) | (refine Qw hS7 Qa Qa Hz (by first | rfl | assumption) (i:=3) Qa (by first | decide | exact QC Qa | (simp;done) | omega) ?_)
  intro w9 hS10; dsimp only[List.set]at hS10
  refine Qh (Qd (Qf (Qb (Xe shC [] hS10 Qa underlying22 Iq Qa Qa Qa Qa (by first | rfl | simp [RowC.cells,Z2,Xc]) Qa ?_))))
  intro b11 w11 hS11
  refine Qi Qa HD Qa (Qr Qa RD (by first | assumption | exact hS11.cell 1 Qa Qa | exact hS11.cell 2 Qa Qa | exact hS11.cell 3 Qa Qa | exact hS11.cell 4 Qa Qa) Qa ?_)
  refine Zi shC 0 hS11 Qa Qa Qa (hL.sat hS11 5 Qa) underlying22 underlying22 (by intro k hk; cases hk) Iv Qa (by simp only[List.length_nil];omega) Qa (by simp only[List.length_nil];omega) ?_
  intro v12 w12 hS12; dsimp only[List.set]at hS12
  have h1v12:v12.oneCell'=true:=hS12.own_one 0 Qa
  refine Qi Qa HD Qa ?_
  first | (refine Qw hS12 Qa Qa Ie (by first | rfl | assumption | exact hS12.own_one 0 Qa) (i:=1) Qa (by first | decide | exact QC Qa | (simp;done) | omega) ?_) | (refine Qw hS12 Qa Qa Ie (by first | rfl | assumption | exact hS12.own_one 0 Qa) (i:=2) Qa (by first | decide | exact QC Qa | (simp;done) | omega) ?_) | (refine Qw hS12 Qa Qa Ie (by first | rfl | assumption | exact hS12.own_one 0 Qa) (i:=3) Qa (by first | decide | exact QC Qa | (simp;done) | omega) ?_) | (refine Qw hS12 Qa Qa Ie (by first | rfl | assumption | exact hS12.own_one 0 Qa) (i:=4) Qa (by first | decide | exact QC Qa | (simp;done) | omega) ?_)
  intro w13 hS14; dsimp only[List.set]at hS14
  refine Qh (Qd (Qk [2,3,4,5] Qa (Qf ?_)))
  have h4:=hS14.own_one 0 Qa
  have hones: ∀v:Value,v.oneCell'=true→QQ [strV o.s,v]=true:= by intro v q1; simp [QQ,Value.oneCell']at q1⊢; exact q1
  have hone2:=hones _ h4
  refine Qb ?_
  refine Jd Qa Mw DP (by first | exact hS14.blk 1 Qa | exact hS14.blk 2 Qa | exact hS14.blk 3 Qa | exact hS14.blk 4 Qa) (by first | decide | exact QC Qa | (simp;done) | omega) Qa Qa ?_
  first | (refine Q8 hS14 Qa Qa DP Qa (by first | rfl | (simp [QQ,Value.oneCell'];done) | assumption | exact hone) (i:=1) Qa (by first | decide | exact QC Qa | (simp;done) | omega) ?_) | (refine Q8 hS14 Qa Qa DP Qa (by first | rfl | (simp [QQ,Value.oneCell'];done) | assumption | exact hone) (i:=2) Qa (by first | decide | exact QC Qa | (simp;done) | omega) ?_) | (refine Q8 hS14 Qa Qa DP Qa (by first | rfl | (simp [QQ,Value.oneCell'];done) | assumption | exact hone) (i:=3) Qa (by first | decide | exact QC Qa | (simp;done) | omega) ?_) | (refine Q8 hS14 Qa Qa DP Qa (by first | rfl | (simp [QQ,Value.oneCell'];done) | assumption | exact hone) (i:=4) Qa (by first | decide | exact QC Qa | (simp;done) | omega) ?_)
  intro w15 hS16; dsimp only[List.set]at hS16
  refine Qh (Qd (Qo (Qm ?_)))
  refine qan (.inr Qa) Qa (I3 Qa Mw DP (by first | exact hS16.blk 1 Qa | exact hS16.blk 2 Qa | exact hS16.blk 3 Qa | exact hS16.blk 4 Qa) (by first | decide | exact QC Qa | (simp;done) | omega) Qa) ?_
  exact⟨_,rfl,_, by rw[IE (by omega)]<;>rfl, by rw[IE (by omega)]; exact hS16.pick [0,5] Qa⟩
 refine Qt (Qd (Qf (Qb (Qc Qa Qa (Qh (Qd (Qf (Qf (Qb (Qc Qa Qa (Qh (Qd (QK ?_)))))))))))))
 have hS17:=Sat.row_nil shC hS7
 refine XJ (fun K0 E0 W0=> ∃(i:Nat) (sv9:Value) (out:AL Bs) (dn:Bool),K0=l.length -i∧E0=[(2,ptrV bp 0),(3,ptrV bo 0),(4,ptrV rb 0),(5,ptrV ub 0),(6,.bool dn),(7,intV (i:Int))]∧Sat W0 [rowT shC sv9 out,Xb ub [strV t,sv9],Xb rb [strV [],.slice none 0 0],Xb bo [intV o.dO,intV o.n,intV o.id,.int .u8 (o.b.toNat:Int),strV o.s,.slice ka o.keep.length kc],Xb bp [strV t,.slice ao l.length cap],F]∧(i≤l.length)∧(Iw o l i=(out,dn))∧(out.length≤i+dn.toNat)) (L0:=[(2,_),(3,_),(4,_),(5,_),(6,_),(7,_)]) (l.length -0) (TH Qa Qa Qa Qa Qa Qa) ⟨0,_,_,_,rfl,rfl,hS17.pick [0,1,2,3,4,5] Qa, by omega,rfl,Nat.zero_le _⟩ ?_
 rintro _ _ w18 ⟨i,sv9,out,dn,rfl,rfl,hS18,hi,hst,hol⟩
 have hdn1:dn.toNat≤1:= by cases dn<;>decide
 have h1ov:sv9.oneCell'=true:=hS18.own_one 0 Qa
 refine Qf (Qf (Qb (Qe Qa Qa (Qi Qa HD Qa (Qr Qa RD (by first | assumption | exact hS18.cell 1 Qa Qa | exact hS18.cell 2 Qa Qa | exact hS18.cell 3 Qa Qa | exact hS18.cell 4 Qa Qa) Qa ?_)))))
 first | refine Xm underlying22 Qa Qa ?_ | refine Xa 0 hS18 underlying22 Qa Qa Qa ?_
 refine X5 Qa Qa Qa (Qh (Qd (Qk [7,6,5,4,3,2,29] Qa (Qv Qa (fun h19=> ?_) (fun h19=> ?_)))))
 ·obtain⟨y,hy⟩: ∃y,l[i]? =some y:=⟨_,WY (by omega)⟩
  obtain⟨b9,off9,rfl,hc9⟩:=(hL.sat hS18 5 rfl).get hy
  refine Qt (Qd (Qf (QK (Qf (Qb (Qi Qa HD Qa (Qr Qa RD (by first | assumption | exact hS18.cell 1 Qa Qa | exact hS18.cell 2 Qa Qa | exact hS18.cell 3 Qa Qa | exact hS18.cell 4 Qa Qa) Qa ?_)))))))
  refine Qe Qa Qa (XZ i Qa Qa (by rfl) (by omega) Nq Qa ?_)
  refine YO Qa N8 YI (vs:=[intV y.1,strV y.2]) hc9 Qa (Xs hS18 DC Qa Qa ?_)
  intro yb w20 hS200
  have hS20:Sat w20 (Xb yb [intV 0,strV []]::_):=hS200
  first | (refine Q8 hS20 Qa Qa YI Qa (by first | rfl | (simp [QQ,Value.oneCell'];done) | assumption | exact hone) (i:=0) Qa (by first | decide | exact QC Qa | (simp;done) | omega) ?_) | (refine Q8 hS20 Qa Qa YI Qa (by first | rfl | (simp [QQ,Value.oneCell'];done) | assumption | exact hone) (i:=2) Qa (by first | decide | exact QC Qa | (simp;done) | omega) ?_) | (refine Q8 hS20 Qa Qa YI Qa (by first | rfl | (simp [QQ,Value.oneCell'];done) | assumption | exact hone) (i:=3) Qa (by first | decide | exact QC Qa | (simp;done) | omega) ?_) | (refine Q8 hS20 Qa Qa YI Qa (by first | rfl | (simp [QQ,Value.oneCell'];done) | assumption | exact hone) (i:=4) Qa (by first | decide | exact QC Qa | (simp;done) | omega) ?_) | (refine Q8 hS20 Qa Qa YI Qa (by first | rfl | (simp [QQ,Value.oneCell'];done) | assumption | exact hone) (i:=5) Qa (by first | decide | exact QC Qa | (simp;done) | omega) ?_)
  intro w21 hS22; dsimp only[List.set]at hS22
  refine Qh (Qd (Qk [7,6,5,4,3,2,8] Qa (Vq (fun E0 W0=> ∃(sv8:Value) (out2:AL Bs) (dn2:Bool) (yb:Nat),E0=[(2,ptrV bp 0),(3,ptrV bo 0),(4,ptrV rb 0),(5,ptrV ub 0),(6,.bool dn2),(7,intV (i:Int)),(8,ptrV yb 0)]∧Sat W0 [rowT shC sv8 out2,Xb ub [strV t,sv8],Xb yb [intV y.1,strV y.2],Xb rb [strV [],.slice none 0 0],Xb bo [intV o.dO,intV o.n,intV o.id,.int .u8 (o.b.toNat:Int),strV o.s,.slice ka o.keep.length kc],Xb bp [strV t,.slice (some ⟨b9,off9,none⟩) l.length cap],F]∧((out2,dn2)= if dn=false∧o.id≤y.1∧o.dO%32≠19 then(out++[(o.id,List.replicate 64 o.b)],true)else(out,dn))∧(out2.length≤i+dn2.toNat)) ?_ ?_)))
  ·refine Qf ?_
   have hS24:Sat _ (Xb yb [intV y.1,strV y.2]::_):=hS22.pick [0,1,2,3,4,5,6] Qa
   refine Qb (Qe Qa Qa (XN Qa Qa (Qe Qa Qa (ZO 39 Qa (fun h25=> ?_) (fun h25=> ?_)))))
   ·have hd:dn=false:= by simpa using h25
    refine Qj Qa Qa h25 (Qi Qa HC Qa (Qj Qa Qa h25 (Qr Qa QH (by first | assumption | exact hS24.cell 0 Qa Qa | exact hS24.cell 2 Qa Qa | exact hS24.cell 3 Qa Qa | exact hS24.cell 4 Qa Qa | exact hS24.cell 5 Qa Qa) Qa ?_)))
    refine Qj Qa Qa h25 (Qi Qa Hg Qa (Qj Qa Qa h25 (Qr Qa QH (by first | assumption | exact hS24.cell 0 Qa Qa | exact hS24.cell 2 Qa Qa | exact hS24.cell 3 Qa Qa | exact hS24.cell 4 Qa Qa | exact hS24.cell 5 Qa Qa) Qa ?_)))
    refine Qj Qa Qa h25 (Jm Qa Qa Qa (Q1 Qa h25 Qa Qa (Qe Qa Qa (Q4 46 Qa (fun h26=> ?_) (fun h26=> ?_)))))
    ·have hge:o.id≤y.1:=h26
     refine Qj Qa Qa (QD h26) (Qi Qa Sz Qa (Qj Qa Qa (QD h26) (Qr Qa QH (by first | assumption | exact hS24.cell 0 Qa Qa | exact hS24.cell 2 Qa Qa | exact hS24.cell 3 Qa Qa | exact hS24.cell 4 Qa Qa | exact hS24.cell 5 Qa Qa) Qa ?_)))
     refine Qj Qa Qa (QD h26) (KO 5 Qa Qa Qa Qa (q:=32) Qa Qa (Qj Qa Qa (QD h26) (Xu Qa Qa Qa (Q1 Qa (QD h26) Qa Qa (Qh (Qd (Qk [7,6,5,4,3,2,8,51] Qa (Qv Qa (fun h27=> ?_) (fun h27=> ?_)))))))))
     ·have hk:o.dO%32≠19:=h27
      refine Qf ?_
      have hS28:=hS24.drew
      refine QN [0,1,2,3,4,5,6,7,8,9,10,11] [6,8,9,11] W5 (by kernel_rfl) ?_
      refine QO Qa Qa Qa HD (QF Qa Qa Qa (Qn Qa RD (by first | assumption | exact hS28.cell 0 Qa Qa | exact hS28.cell 2 Qa Qa | exact hS28.cell 3 Qa Qa | exact hS28.cell 4 Qa Qa | exact hS28.cell 5 Qa Qa)) ?_)
      refine QO Qa Qa Qa Hg (QF Qa Qa Qa (Qn Qa QH (by first | assumption | exact hS28.cell 0 Qa Qa | exact hS28.cell 2 Qa Qa | exact hS28.cell 3 Qa Qa | exact hS28.cell 4 Qa Qa | exact hS28.cell 5 Qa Qa)) ?_)
      refine QO Qa Qa Qa Bn (QF Qa Qa Qa (Qn Qa qau (by first | assumption | exact hS28.cell 0 Qa Qa | exact hS28.cell 2 Qa Qa | exact hS28.cell 3 Qa Qa | exact hS28.cell 4 Qa Qa | exact hS28.cell 5 Qa Qa)) ?_)
      refine QV Qa Qa Qa Qa Qa Qa ?_
      refine Q0 Gs Qa (UG (hS28.sp [] Qa) o.b) Qa ?_
      rintro _ w29 ⟨rfl,hS29⟩
      replace hS29:=hS29.jn Qa Qa
      refine Xd (.skip (by kernel_rfl) (.cons (.inl ⟨rfl,(Qn Qa QH (by first | assumption | exact hS29.cell 0 Qa Qa | exact hS29.cell 2 Qa Qa | exact hS29.cell 3 Qa Qa | exact hS29.cell 4 Qa Qa | exact hS29.cell 5 Qa Qa))⟩) (.cons (.inl ⟨rfl,(Qn Qa RD (by first | assumption | exact hS29.cell 0 Qa Qa | exact hS29.cell 2 Qa Qa | exact hS29.cell 3 Qa Qa | exact hS29.cell 4 Qa Qa | exact hS29.cell 5 Qa Qa))⟩) .nil))) ?_
      refine Q9 Qa Qa Qa (fun _=>(W7 Qa Fw IY DC Qa)) ?_
      refine QV Qa Qa Qa Qa Qa Qa ?_
      refine Xe shC [(o.id,List.replicate 64 o.b)] hS29 Qa underlying22 Iq Qa Qa Qa Qa (by first | rfl | simp [RowC.cells,Z2,Xc]) Qa ?_
      intro b30 w30 hS30
      refine Xd (.skip (by kernel_rfl) (.skip (by kernel_rfl) (.cons (.inl ⟨rfl,(Qn Qa RD (by first | assumption | exact hS30.cell 1 Qa Qa | exact hS30.cell 3 Qa Qa | exact hS30.cell 4 Qa Qa | exact hS30.cell 5 Qa Qa | exact hS30.cell 6 Qa Qa))⟩) .nil))) ?_
      refine QV Qa Qa Qa Qa Qa Qa ?_
      refine Zi shC 2 hS30 Qa Qa Qa (hS30.rd 0 Qa (by simp)) underlying22 underlying22 (by intro k hk; cases hk) Iv Qa (by simp only[List.length_cons,List.length_nil];omega) Qa (by simp only[List.length_cons,List.length_nil];omega) ?_
      intro v31 w31 hS31; dsimp only[List.set]at hS31
      have h1v31:v31.oneCell'=true:=hS31.own_one 2 Qa
      refine Xd (Xq (by kernel_rfl)) ?_
      refine QO Qa Qa Qa HD (QV Qa Qa Qa Qa Qa Qa ?_)
      first | (refine Qw hS31 Qa Qa Ie (by first | rfl | assumption | exact hS31.own_one 0 Qa | exact hS31.own_one 2 Qa) (i:=1) Qa (by first | decide | exact QC Qa | (simp;done) | omega) ?_) | (refine Qw hS31 Qa Qa Ie (by first | rfl | assumption | exact hS31.own_one 0 Qa | exact hS31.own_one 2 Qa) (i:=3) Qa (by first | decide | exact QC Qa | (simp;done) | omega) ?_) | (refine Qw hS31 Qa Qa Ie (by first | rfl | assumption | exact hS31.own_one 0 Qa | exact hS31.own_one 2 Qa) (i:=4) Qa (by first | decide | exact QC Qa | (simp;done) | omega) ?_) | (refine Qw hS31 Qa Qa Ie (by first | rfl | assumption | exact hS31.own_one 0 Qa | exact hS31.own_one 2 Qa) (i:=5) Qa (by first | decide | exact QC Qa | (simp;done) | omega) ?_) | (refine Qw hS31 Qa Qa Ie (by first | rfl | assumption | exact hS31.own_one 0 Qa | exact hS31.own_one 2 Qa) (i:=6) Qa (by first | decide | exact QC Qa | (simp;done) | omega) ?_)
      intro w32 hS33; dsimp only[List.set]at hS33
      refine Z9 (Xq (by kernel_rfl)) ?_
      refine VC.nil (Qd (Qk [7,6,5,4,3,2,8] Qa (Qb (Qc Qa Qa (Qh ?_)))))
      exact YB (zb7 Qa Qa Qa Qa Qa Qa Qa) ⟨_,_,_,_,rfl,hS33.pick [2,3,1,4,5,6,7] Qa,(by rw[if_pos ⟨hd,hge,hk⟩]),(by have q1:dn.toNat≤1:=(by cases dn<;>decide);first | (subst hd; simp only[List.length_append,List.length_cons,List.length_nil,Bool.toNat_true,Bool.toNat_false]at *;omega) | omega)⟩
     refine Qt ?_
     exact YB (zb7 rfl rfl rfl rfl rfl rfl rfl) ⟨_,_,_,_,rfl,hS24.pick [1,2,0,3,4,5,6] rfl,(by rw[if_neg (by rintro⟨q1,q2,q3⟩;first | omega | (rw[hd]at q1; cases q1))]),(by have q1:dn.toNat≤1:=(by cases dn<;>decide);first | (subst hd; simp only[List.length_append,List.length_cons,List.length_nil,Bool.toNat_true,Bool.toNat_false]at *;omega) | omega)⟩
    refine Qg Qa Qa (Qx h26) Qa (Qg Qa Qa (Qx h26) Qa (Qg Qa Qa (Qx h26) Qa (Qg Qa Qa (Qx h26) Qa (Q3 Qa (Qx h26) Qa Qa (Qh (Qd (Qk [7,6,5,4,3,2,8,51] Qa (QJ Qa (Qt ?_)))))))))
    exact YB (zb7 rfl rfl rfl rfl rfl rfl rfl) ⟨_,_,_,_,rfl,hS24.pick [1,2,0,3,4,5,6] rfl,(by rw[if_neg (by rintro⟨q1,q2,q3⟩;first | omega | (rw[hd]at q1; cases q1))]),(by have q1:dn.toNat≤1:=(by cases dn<;>decide);first | (subst hd; simp only[List.length_append,List.length_cons,List.length_nil,Bool.toNat_true,Bool.toNat_false]at *;omega) | omega)⟩
   have hd:dn=true:= by simpa using h25
   refine Qg Qa Qa h25 Qa (Qg Qa Qa h25 Qa (Qg Qa Qa h25 Qa (Qg Qa Qa h25 Qa (Qg Qa Qa h25 Qa (Q3 Qa h25 Qa Qa (Qe Qa Qa (Qg Qa Qa Qa Qa (Qg Qa Qa Qa Qa (Qg Qa Qa Qa Qa (Qg Qa Qa Qa Qa (Q3 Qa Qa Qa Qa (Qh (Qd (Qk [7,6,5,4,3,2,8,51] Qa (QJ Qa (Qt ?_))))))))))))))))
   exact YB (zb7 rfl rfl rfl rfl rfl rfl rfl) ⟨_,_,_,_,rfl,hS24.pick [1,2,0,3,4,5,6] rfl,(by rw[if_neg (by rintro⟨q1,q2,q3⟩;first | omega | (rw[hd]at q1; cases q1))]),(by have q1:dn.toNat≤1:=(by cases dn<;>decide);first | (subst hd; simp only[List.length_append,List.length_cons,List.length_nil,Bool.toNat_true,Bool.toNat_false]at *;omega) | omega)⟩
  rintro _ w23 ⟨sv8,out2,dn2,yb,rfl,hS23,hm,hol2⟩
  have h2ov:sv8.oneCell'=true:=hS23.own_one 0 Qa
  have hdn2:dn2.toNat≤1:= by cases dn2<;>decide
  refine Qf (Qb (Qi Qa HC Qa (Qr Qa QH (by first | assumption | exact hS23.cell 1 Qa Qa | exact hS23.cell 2 Qa Qa | exact hS23.cell 3 Qa Qa | exact hS23.cell 4 Qa Qa | exact hS23.cell 5 Qa Qa) Qa ?_)))
  refine Qi Qa Hg Qa (Qr Qa QH (by first | assumption | exact hS23.cell 1 Qa Qa | exact hS23.cell 2 Qa Qa | exact hS23.cell 3 Qa Qa | exact hS23.cell 4 Qa Qa | exact hS23.cell 5 Qa Qa) Qa ?_)
  refine Xu Qa Qa Qa (Qh (Qd (Qk [8,7,6,5,4,3,2,67] Qa (Qv Qa (fun h34=> ?_) (fun h34=> ?_)))))
  ·have hne:y.1≠o.id:=h34
   refine Qb (Qi Qa HD Qa (Qr Qa RD (by first | assumption | exact hS23.cell 1 Qa Qa | exact hS23.cell 2 Qa Qa | exact hS23.cell 3 Qa Qa | exact hS23.cell 4 Qa Qa | exact hS23.cell 5 Qa Qa) Qa ?_))
   refine Jd Qa N8 YI (by first | exact hS23.blk 1 Qa | exact hS23.blk 2 Qa | exact hS23.blk 3 Qa | exact hS23.blk 4 Qa | exact hS23.blk 5 Qa) (by first | decide | exact QC Qa | (simp;done) | omega) Qa Qa ?_
   refine Xe shC [y] hS23 Qa underlying22 Iq Qa Qa Qa Qa (by first | rfl | simp [RowC.cells,Z2,Xc]) Qa ?_
   intro b35 w35 hS35
   refine Zi shC 1 hS35 Qa Qa Qa (hS35.rd 0 Qa (by simp)) underlying22 underlying22 (by intro k hk; cases hk) Iv Qa (by simp only[List.length_cons,List.length_nil,List.length_append];omega) Qa (by simp only[List.length_cons,List.length_nil,List.length_append];omega) ?_
   intro v36 w36 hS36; dsimp only[List.set]at hS36
   have h1v36:v36.oneCell'=true:=hS36.own_one 1 Qa
   refine Qi Qa HD Qa ?_
   first | (refine Qw hS36 Qa Qa Ie (by first | rfl | assumption | exact hS36.own_one 0 Qa | exact hS36.own_one 1 Qa) (i:=2) Qa (by first | decide | exact QC Qa | (simp;done) | omega) ?_) | (refine Qw hS36 Qa Qa Ie (by first | rfl | assumption | exact hS36.own_one 0 Qa | exact hS36.own_one 1 Qa) (i:=3) Qa (by first | decide | exact QC Qa | (simp;done) | omega) ?_) | (refine Qw hS36 Qa Qa Ie (by first | rfl | assumption | exact hS36.own_one 0 Qa | exact hS36.own_one 1 Qa) (i:=4) Qa (by first | decide | exact QC Qa | (simp;done) | omega) ?_) | (refine Qw hS36 Qa Qa Ie (by first | rfl | assumption | exact hS36.own_one 0 Qa | exact hS36.own_one 1 Qa) (i:=5) Qa (by first | decide | exact QC Qa | (simp;done) | omega) ?_) | (refine Qw hS36 Qa Qa Ie (by first | rfl | assumption | exact hS36.own_one 0 Qa | exact hS36.own_one 1 Qa) (i:=6) Qa (by first | decide | exact QC Qa | (simp;done) | omega) ?_)
   intro w37 hS38; dsimp only[List.set]at hS38
   refine Qh (Qq (Qd (Qk [7,6,5,4,3,2] Qa (Qb (Qe Qa Qa (XC Qa Qa (by omega) (by omega) Qa ?_))))))
   refine Qc Qa Qa (Qh ?_)
   exact Xj (L1:=[(2,_),(3,_),(4,_),(5,_),(6,_),(7,intV ((i+1:Nat):Int))]) (TH Qa Qa Qa Qa Qa Qa) (k1:=l.length -(i+1)) (by omega) ⟨i+1,_,_,_,rfl,rfl,hS38.pick [1,2,4,5,6,7] Qa, by omega,(by rw[chg_m hy hst hm,if_pos hne]),(by first | omega | (rw[List.length_append,List.length_cons,List.length_nil];omega))⟩
  have hne:y.1=o.id:=Decidable.not_not.1 h34
  refine Qt (Qq (Qd (Qb (Qe Qa Qa (XC Qa Qa (by omega) (by omega) Qa ?_)))))
  refine Qc Qa Qa (Qh ?_)
  exact Xj (L1:=[(2,_),(3,_),(4,_),(5,_),(6,_),(7,intV ((i+1:Nat):Int))]) (TH Qa Qa Qa Qa Qa Qa) (k1:=l.length -(i+1)) (by omega) ⟨i+1,_,_,_,rfl,rfl,hS23.pick [0,1,3,4,5,6] Qa, by omega,(by rw[chg_m hy hst hm,if_neg (fun q=>q hne)]),(by first | omega | (rw[List.length_append,List.length_cons,List.length_nil];omega))⟩
 refine X6 (Q6 (Q6 (QR (Qd (Qf (Qf (Qb (Qe Qa Qa (XN Qa Qa (Qe Qa Qa (ZO 76 Qa (fun h39=> ?_) (fun h39=> ?_))))))))))))
 ·have hd:dn=false:= by simpa using h39
  refine Qj Qa Qa h39 (Qi Qa Sz Qa (Qj Qa Qa h39 (Qr Qa QH (by first | assumption | exact hS18.cell 1 Qa Qa | exact hS18.cell 2 Qa Qa | exact hS18.cell 3 Qa Qa | exact hS18.cell 4 Qa Qa) Qa ?_)))
  refine Qj Qa Qa h39 (KO 5 Qa Qa Qa Qa (q:=32) Qa Qa (Qj Qa Qa h39 (Xu Qa Qa Qa (Q1 Qa h39 Qa Qa (Qh (Qd (Qk [5,4,3,81] Qa (Qv Qa (fun h40=> ?_) (fun h40=> ?_)))))))))
  ·have hk:o.dO%32≠19:=h40
   have hS41:=hS18.drew
   refine QN [0,1,2,3,4,5,6,7,8,9,10,11] [6,8,9,11] W5 (by kernel_rfl) ?_
   refine QO Qa Qa Qa HD (QF Qa Qa Qa (Qn Qa RD (by first | assumption | exact hS41.cell 1 Qa Qa | exact hS41.cell 2 Qa Qa | exact hS41.cell 3 Qa Qa | exact hS41.cell 4 Qa Qa)) ?_)
   refine QO Qa Qa Qa Hg (QF Qa Qa Qa (Qn Qa QH (by first | assumption | exact hS41.cell 1 Qa Qa | exact hS41.cell 2 Qa Qa | exact hS41.cell 3 Qa Qa | exact hS41.cell 4 Qa Qa)) ?_)
   refine QO Qa Qa Qa Bn (QF Qa Qa Qa (Qn Qa qau (by first | assumption | exact hS41.cell 1 Qa Qa | exact hS41.cell 2 Qa Qa | exact hS41.cell 3 Qa Qa | exact hS41.cell 4 Qa Qa)) ?_)
   refine QV Qa Qa Qa Qa Qa Qa ?_
   refine Q0 Gs Qa (UG (hS41.sp [] Qa) o.b) Qa ?_
   rintro _ w42 ⟨rfl,hS42⟩
   replace hS42:=hS42.jn Qa Qa
   refine Xd (.skip (by kernel_rfl) (.cons (.inl ⟨rfl,(Qn Qa QH (by first | assumption | exact hS42.cell 1 Qa Qa | exact hS42.cell 2 Qa Qa | exact hS42.cell 3 Qa Qa | exact hS42.cell 4 Qa Qa))⟩) (.cons (.inl ⟨rfl,(Qn Qa RD (by first | assumption | exact hS42.cell 1 Qa Qa | exact hS42.cell 2 Qa Qa | exact hS42.cell 3 Qa Qa | exact hS42.cell 4 Qa Qa))⟩) .nil))) ?_
   refine Q9 Qa Qa Qa (fun _=>(W7 Qa Fw IY DC Qa)) ?_
   refine QV Qa Qa Qa Qa Qa Qa ?_
   refine Xe shC [(o.id,List.replicate 64 o.b)] hS42 Qa underlying22 Iq Qa Qa Qa Qa (by first | rfl | simp [RowC.cells,Z2,Xc]) Qa ?_
   intro b43 w43 hS43
   refine Xd (.skip (by kernel_rfl) (.skip (by kernel_rfl) (.cons (.inl ⟨rfl,(Qn Qa RD (by first | assumption | exact hS43.cell 2 Qa Qa | exact hS43.cell 3 Qa Qa | exact hS43.cell 4 Qa Qa | exact hS43.cell 5 Qa Qa))⟩) .nil))) ?_
   refine QV Qa Qa Qa Qa Qa Qa ?_
   refine Zi shC 1 hS43 Qa Qa Qa (hS43.rd 0 Qa (by simp)) underlying22 underlying22 (by intro k hk; cases hk) Iv Qa (by simp only[List.length_cons,List.length_nil];omega) Qa (by simp only[List.length_cons,List.length_nil];omega) ?_
   intro v44 w44 hS44; dsimp only[List.set]at hS44
   have h1v44:v44.oneCell'=true:=hS44.own_one 1 Qa
   refine Xd (Xq (by kernel_rfl)) ?_
   refine QO Qa Qa Qa HD (QV Qa Qa Qa Qa Qa Qa ?_)
   first | (refine Qw hS44 Qa Qa Ie (by first | rfl | assumption | exact hS44.own_one 0 Qa | exact hS44.own_one 1 Qa) (i:=2) Qa (by first | decide | exact QC Qa | (simp;done) | omega) ?_) | (refine Qw hS44 Qa Qa Ie (by first | rfl | assumption | exact hS44.own_one 0 Qa | exact hS44.own_one 1 Qa) (i:=3) Qa (by first | decide | exact QC Qa | (simp;done) | omega) ?_) | (refine Qw hS44 Qa Qa Ie (by first | rfl | assumption | exact hS44.own_one 0 Qa | exact hS44.own_one 1 Qa) (i:=4) Qa (by first | decide | exact QC Qa | (simp;done) | omega) ?_) | (refine Qw hS44 Qa Qa Ie (by first | rfl | assumption | exact hS44.own_one 0 Qa | exact hS44.own_one 1 Qa) (i:=5) Qa (by first | decide | exact QC Qa | (simp;done) | omega) ?_)
   intro w45 hS46; dsimp only[List.set]at hS46
   refine Z9 (Xq (by kernel_rfl)) ?_
   refine VC.nil (Qd (Qk [5,4] Qa (Qf ?_)))
   have h4:=hS46.own_one 1 Qa
   have hones: ∀v:Value,v.oneCell'=true→QQ [strV t,v]=true:= by intro v q1; simp [QQ,Value.oneCell']at q1⊢; exact q1
   have hone2:=hones _ h4
   refine Qb ?_
   refine Jd Qa Mw DP (by first | exact hS46.blk 2 Qa | exact hS46.blk 3 Qa | exact hS46.blk 4 Qa | exact hS46.blk 5 Qa) (by first | decide | exact QC Qa | (simp;done) | omega) Qa Qa ?_
   first | (refine Q8 hS46 Qa Qa DP Qa (by first | rfl | (simp [QQ,Value.oneCell'];done) | assumption | exact hone) (i:=2) Qa (by first | decide | exact QC Qa | (simp;done) | omega) ?_) | (refine Q8 hS46 Qa Qa DP Qa (by first | rfl | (simp [QQ,Value.oneCell'];done) | assumption | exact hone) (i:=3) Qa (by first | decide | exact QC Qa | (simp;done) | omega) ?_) | (refine Q8 hS46 Qa Qa DP Qa (by first | rfl | (simp [QQ,Value.oneCell'];done) | assumption | exact hone) (i:=4) Qa (by first | decide | exact QC Qa | (simp;done) | omega) ?_) | (refine Q8 hS46 Qa Qa DP Qa (by first | rfl | (simp [QQ,Value.oneCell'];done) | assumption | exact hone) (i:=5) Qa (by first | decide | exact QC Qa | (simp;done) | omega) ?_)
   intro w47 hS48; dsimp only[List.set]at hS48
   refine Qh (Qd (Qo ?_))
   refine qan (.inr Qa) Qa (I3 Qa Mw DP (by first | exact hS48.blk 2 Qa | exact hS48.blk 3 Qa | exact hS48.blk 4 Qa | exact hS48.blk 5 Qa) (by first | decide | exact QC Qa | (simp;done) | omega) Qa) ?_
   exact⟨_,rfl,_, by rw[I0 (by omega) hst (by omega),if_pos ⟨hd,hk⟩]<;>rfl, by rw[I0 (by omega) hst (by omega),if_pos ⟨hd,hk⟩]; exact hS48.pick [1,6] Qa⟩
  refine Qt (Qd (Qf ?_))
  have h4:=hS18.own_one 0 Qa
  have hones: ∀v:Value,v.oneCell'=true→QQ [strV t,v]=true:= by intro v q1; simp [QQ,Value.oneCell']at q1⊢; exact q1
  have hone2:=hones _ h4
  refine Qb ?_
  refine Jd Qa Mw DP (by first | exact hS18.blk 1 Qa | exact hS18.blk 2 Qa | exact hS18.blk 3 Qa | exact hS18.blk 4 Qa) (by first | decide | exact QC Qa | (simp;done) | omega) Qa Qa ?_
  first | (refine Q8 hS18 Qa Qa DP Qa (by first | rfl | (simp [QQ,Value.oneCell'];done) | assumption | exact hone) (i:=1) Qa (by first | decide | exact QC Qa | (simp;done) | omega) ?_) | (refine Q8 hS18 Qa Qa DP Qa (by first | rfl | (simp [QQ,Value.oneCell'];done) | assumption | exact hone) (i:=2) Qa (by first | decide | exact QC Qa | (simp;done) | omega) ?_) | (refine Q8 hS18 Qa Qa DP Qa (by first | rfl | (simp [QQ,Value.oneCell'];done) | assumption | exact hone) (i:=3) Qa (by first | decide | exact QC Qa | (simp;done) | omega) ?_) | (refine Q8 hS18 Qa Qa DP Qa (by first | rfl | (simp [QQ,Value.oneCell'];done) | assumption | exact hone) (i:=4) Qa (by first | decide | exact QC Qa | (simp;done) | omega) ?_)
  intro w49 hS50; dsimp only[List.set]at hS50
  refine Qh (Qd (Qo ?_))
  refine qan (.inr Qa) Qa (I3 Qa Mw DP (by first | exact hS50.blk 1 Qa | exact hS50.blk 2 Qa | exact hS50.blk 3 Qa | exact hS50.blk 4 Qa) (by first | decide | exact QC Qa | (simp;done) | omega) Qa) ?_
  exact⟨_,rfl,_, by rw[I0 (by omega) hst (by omega),if_neg (by rintro⟨q1,q2⟩;first | omega | exact absurd hk q2 | (rw[hd]at q1; cases q1))]<;>rfl, by rw[I0 (by omega) hst (by omega),if_neg (by rintro⟨q1,q2⟩;first | omega | exact absurd hk q2 | (rw[hd]at q1; cases q1))]; exact hS50.pick [0,5] rfl⟩
 have hd:dn=true:= by simpa using h39
 refine Qg Qa Qa h39 Qa (Qg Qa Qa h39 Qa (Qg Qa Qa h39 Qa (Qg Qa Qa h39 Qa (Q3 Qa h39 Qa Qa (Qh (Qd (Qk [5,4,3,81] Qa (QJ Qa (Qt (Qd (Qf ?_)))))))))))
 have h4:=hS18.own_one 0 Qa
 have hones: ∀v:Value,v.oneCell'=true→QQ [strV t,v]=true:= by intro v q1; simp [QQ,Value.oneCell']at q1⊢; exact q1
 have hone2:=hones _ h4
 refine Qb ?_
 refine Jd Qa Mw DP (by first | exact hS18.blk 1 Qa | exact hS18.blk 2 Qa | exact hS18.blk 3 Qa | exact hS18.blk 4 Qa) (by first | decide | exact QC Qa | (simp;done) | omega) Qa Qa ?_
 first | (refine Q8 hS18 Qa Qa DP Qa (by first | rfl | (simp [QQ,Value.oneCell'];done) | assumption | exact hone) (i:=1) Qa (by first | decide | exact QC Qa | (simp;done) | omega) ?_) | (refine Q8 hS18 Qa Qa DP Qa (by first | rfl | (simp [QQ,Value.oneCell'];done) | assumption | exact hone) (i:=2) Qa (by first | decide | exact QC Qa | (simp;done) | omega) ?_) | (refine Q8 hS18 Qa Qa DP Qa (by first | rfl | (simp [QQ,Value.oneCell'];done) | assumption | exact hone) (i:=3) Qa (by first | decide | exact QC Qa | (simp;done) | omega) ?_) | (refine Q8 hS18 Qa Qa DP Qa (by first | rfl | (simp [QQ,Value.oneCell'];done) | assumption | exact hone) (i:=4) Qa (by first | decide | exact QC Qa | (simp;done) | omega) ?_)
 intro w51 hS52; dsimp only[List.set]at hS52
 refine Qh (Qd (Qo ?_))
 refine qan (.inr Qa) Qa (I3 Qa Mw DP (by first | exact hS52.blk 1 Qa | exact hS52.blk 2 Qa | exact hS52.blk 3 Qa | exact hS52.blk 4 Qa) (by first | decide | exact QC Qa | (simp;done) | omega) Qa) ?_
 exact⟨_,rfl,_, by rw[I0 (by omega) hst (by omega),if_neg (by rintro⟨q1,q2⟩;first | omega | exact absurd hk q2 | (rw[hd]at q1; cases q1))]<;>rfl, by rw[I0 (by omega) hst (by omega),if_neg (by rintro⟨q1,q2⟩;first | omega | exact absurd hk q2 | (rw[hd]at q1; cases q1))]; exact hS52.pick [0,5] rfl⟩
