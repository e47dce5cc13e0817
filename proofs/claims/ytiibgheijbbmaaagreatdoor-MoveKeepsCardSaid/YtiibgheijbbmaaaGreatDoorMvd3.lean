/- the law: changed -/
import Derived.Test.YtiibgheijbbmaaaGreatDoorMvc1
set_option linter.unusedVariables false
set_option maxRecDepth 100000
set_option maxHeartbeats 100000000000
namespace Go.Proofs.YtiibgheijbbmaaaGreatDoor
open Go.RowKit M Proofs.Tryz
def UW (del:Bool) (id:Int) (x:Bs) (a:AL Bs×Bool) (y:Int×Bs):AL Bs×Bool:=
  if y.1≠id then((if a.2=false∧id≤y.1∧del=false then(a.1++[(id,x)],true)else a).1++[y],(if a.2=false∧id≤y.1∧del=false then(a.1++[(id,x)],true)else a).2)else if a.2=false∧id≤y.1∧del=false then(a.1++[(id,x)],true)else a
def MO (o:OpD) (l:AL Bs) (i:Nat):AL Bs×Bool:=(l.take i).foldl (UW (decide (o.dO%32=19)) o.id (List.replicate 64 o.b)) ([],false)
def Sr (a:AL Bs×Bool) (del:Bool) (id:Int) (x:Bs):AL Bs:= if a.2=false∧del=false then a.1++[(id,x)]else a.1
def U6 (s:SsD) (o:OpD):SsD:= if o.dO%32=20 then⟨o.s,s.sheets⟩else⟨s.state,Sr (MO o s.sheets s.sheets.length) (decide (o.dO%32=19)) o.id (List.replicate 64 o.b)⟩
section
variable {o:OpD} {l out:AL Bs} {i:Nat} {y:Int×Bs} {dn:Bool}
theorem Iw (hy:l[i]? =some y) (h:MO o l i=(out,dn)):MO o l (i+1)=UW (decide (o.dO%32=19)) o.id (List.replicate 64 o.b) (out,dn) y:= by
  unfold MO at h⊢; rw[List.take_add_one,hy,List.foldl_append,h];rfl
theorem chg_m {out2:AL Bs} {dn2:Bool} (hy:l[i]? =some y) (h:MO o l i=(out,dn)) (hm:(out2,dn2)= if dn=false∧o.id≤y.1∧o.dO%32≠19 then(out++[(o.id,List.replicate 64 o.b)],true)else(out,dn)):MO o l (i+1)= if y.1≠o.id then(out2++[y],dn2)else(out2,dn2):= by
  rw[Iw hy h];unfold UW
  by_cases q:dn=false∧o.id≤y.1∧o.dO%32≠19
  · rw[if_pos q]at hm; cases hm
    have k:(out,dn).2=false∧o.id≤y.1∧decide (o.dO%32=19)=false:=⟨q.1,q.2.1,Qw q.2.2⟩
    simp only[if_pos k]
  · rw[if_neg q]at hm; cases hm
    have k: ¬((out,dn).2=false∧o.id≤y.1∧decide (o.dO%32=19)=false):= fun r=>q ⟨r.1,r.2.1,of_decide_eq_false r.2.2⟩
    simp only[if_neg k]
theorem Rb (h20:o.dO%32≠20) {t:Bs} (h:MO o l i=(out,dn)) (hi:i=l.length):U6 ⟨t,l⟩ o=⟨t, if dn=false∧o.dO%32≠19 then out++[(o.id,List.replicate 64 o.b)]else out⟩:= by
  unfold U6 Sr; rw[if_neg h20]; subst hi; dsimp only; rw[h]
  by_cases q:dn=false∧o.dO%32≠19
  · rw[if_pos q,if_pos ⟨q.1,Qw q.2⟩]
  · rw[if_neg q,if_neg (fun r=>q ⟨r.1,of_decide_eq_false r.2⟩)]
theorem OY {del:Bool} {id:Int} {x:Bs}: ∀{l a:AL Bs},(∀e∈l,e.1≠id)→l.foldl (UW del id x) (a,true)=(a++l,true)
  | [],a,_=> by simp
  | e::l,a,h=> by
    rw[List.foldl_cons, show UW del id x (a,true) e=(a++[e],true) by unfold UW; rw[if_pos (h e List.mem_cons_self),if_neg (by simp)],OY fun e he=>h e (List.mem_cons_of_mem _ he)]
    simp
theorem OZ {id:Int} {x:Bs}: ∀{l a:AL Bs},l.foldl (UW true id x) (a,false)=(a++Yl l id,false)
  | [],a=> by simp [Yl]
  | e::l,a=> by
    rw[List.foldl_cons]
    by_cases q:e.1=id
    · rw[show UW true id x (a,false) e=(a,false) by unfold UW; rw[if_neg (fun r=>r q),if_neg (by simp)],OZ]; simp [Yl,q]
    · rw[show UW true id x (a,false) e=(a++[e],false) by unfold UW; rw[if_pos q,if_neg (by simp)],OZ]; simp [Yl,q]
theorem foldP {id:Int} {x:Bs}: ∀{l a:AL Bs},Srt l→Sr (l.foldl (UW false id x) (a,false)) false id x=a++XO id x l
  | [],a,_=> by simp [Sr,XO]
  | e::l,a,h=> by
    rw[List.foldl_cons];unfold XO
    by_cases h1:e.1<id
    · rw[if_pos h1, show UW false id x (a,false) e=(a++[e],false) by unfold UW; rw[if_pos (by omega),if_neg (by rintro⟨_,q,_⟩;omega)],foldP h.tail]; simp
    · rw[if_neg h1]
      by_cases h2:e.1=id
      · rw[if_pos h2, show UW false id x (a,false) e=(a++[(id,x)],true) by unfold UW; rw[if_neg (fun q=>q h2),if_pos ⟨rfl, by omega,rfl⟩],OY (fun f hf=> by have :=h.head f.1 (List.mem_map.2 ⟨f,hf,rfl⟩);omega)]
        simp [Sr]
      · rw[if_neg h2, show UW false id x (a,false) e=(a++[(id,x)]++[e],true) by unfold UW; rw[if_pos h2,if_pos ⟨rfl, by omega,rfl⟩],OY (fun f hf=> by have :=h.head f.1 (List.mem_map.2 ⟨f,hf,rfl⟩);omega)]
        simp [Sr]
theorem chg_put {s:SsD} (h:Srt s.sheets) (h1:o.dO%32≠20) (h2:o.dO%32≠19):U6 s o=⟨s.state,XO o.id (List.replicate 64 o.b) s.sheets⟩:= by
  unfold U6 MO; rw[if_neg h1,List.take_length,Qw h2,foldP h];rfl
theorem chg_del {s:SsD} (h1:o.dO%32=19):U6 s o=⟨s.state,Yl s.sheets o.id⟩:= by
  unfold U6 MO; rw[if_neg (by omega),List.take_length,Q8 h1,OZ]; simp [Sr]
theorem By {s:SsD} (h1:o.dO%32=20):U6 s o=⟨o.s,s.sheets⟩:= by unfold U6; rw[if_pos h1]
end
theorem lchg_sp {w:World} {F:Th} (hS:Sat w [F]) {t:Bs} {sv:Value} {l:AL Bs} (hL:Ent F (RdL shC sv l)) (hl30:l.length≤10000) {o:OpD} {kv:Value} (hK:Ent F (RdI kv o.keep)):
    Calls prog 25 #[.agg #[strV t,sv],.agg #[intV o.dO,intV o.n,intV o.id,.int .u8 (o.b.toNat:Int),strV o.s,kv]] w (Ret fun v w'=> ∃sv2,v= .agg #[strV (U6 ⟨t,l⟩ o).state,sv2]∧Sat w' [rowT shC sv2 (U6 ⟨t,l⟩ o).sheets,F]):= by
 obtain⟨ao,cap,rfl,hmax⟩:=(hL.sat hS 0 rfl).shape
 obtain⟨ka,kc,rfl⟩:=TD (hK.sat hS 0 rfl)
 refine Qx func25 Qa ntmps25 Qa ?_
 refine Qg (Qb (XT hS Qa Qa Qa ?_))
 intro bp w1 hS10
 have hS1:Sat w1 (QR bp [strV t,.slice ao l.length cap]::_):=hS10
 refine XT hS1 Qa Qa Qa ?_
 intro bo w2 hS20
 have hS2:Sat w2 (QR bo [intV o.dO,intV o.n,intV o.id,.int .u8 (o.b.toNat:Int),strV o.s,.slice ka o.keep.length kc]::_):=hS20
 refine Xl hS2 VK Qa Qa ?_
 intro rb w3 hS30
 have hS3:Sat w3 (QR rb [strV [],.slice none 0 0]::_):=hS30
 refine Qh (Qd (Qg (Qb (Qi Qa Hf Qa (Qq Qa Zr (hS3.cell 2 Qa Qa) Qa (Zi Qa Dr RJ VK Qa Qa (Xl hS3 VK Qa Qa ?_)))))))
 intro ub w4 hS40
 have hS4:Sat w4 (QR ub [strV [],.slice none 0 0]::_):=hS40
 (refine QZ hS4 Qa Qa Wi Qa (by rfl) (i:=0) Qa (by decide) ?_)
 intro w5 hS6; dsimp only[List.set]at hS6
 refine Qh (Qd (Qg (Qg ?_)))
 have hS7:Sat _ (QR ub [strV t,.slice none 0 0]::_):=hS6.pick [0,1,2,3,4] Qa
 refine Qb (Qi Qa KS Qa (Qq Qa QF (hS7.cell 2 Qa Qa) Qa (HT 5 Qa Qa Qa Qa (q:=32) Qa Qa (QL Qa Qa Qa (Qh (Qd (Qk [2,3,4,5,15] Qa (Qt Qa (fun h8=> ?_) (fun h8=> ?_)))))))))
 ·refine Qg (Qb (Qi Qa KQ Qa (Qq Qa Zr (hS7.cell 2 Qa Qa) Qa (Qi Qa Hf Qa ?_))))
  (refine Q7 hS7 Qa Qa R2 (by rfl) (i:=0) Qa (Xd Qa) ?_)
  intro w9 hS10; dsimp only[List.set]at hS10
  refine Qh (Qd (Qg (Qb (Xc shC [] hS10 Qa underlying22 Br Qa Qa Qa Qa (by first | rfl | simp [RowC.cells,VO,XF]) Qa ?_))))
  intro b11 w11 hS11
  refine Qi Qa Zh Qa (Qq Qa WF (hS11.cell 4 Qa Qa) Qa ?_)
  refine XP shC 0 hS11 Qa Qa Qa (hL.sat hS11 5 Qa) underlying22 underlying22 (by intro k hk; cases hk) M6 Qa (by simp only[List.length_nil];omega) Qa (by simp only[List.length_nil];omega) ?_
  intro v12 w12 hS12; dsimp only[List.set]at hS12
  have h1v12:v12.oneCell'=true:=hS12.own_one 0 Qa
  refine Qi Qa Zh Qa ?_
  (refine Q7 hS12 Qa Qa NJ (by assumption) (i:=1) Qa (Xd Qa) ?_)
  intro w13 hS14; dsimp only[List.set]at hS14
  refine Qh (Qd (Qk [2,3,4,5] Qa (Qg ?_)))
  have h4:=hS14.own_one 0 Qa
  have hones: ∀v:Value,v.oneCell'=true→Wt [strV o.s,v]=true:= by intro v q1; simp [Wt,Value.oneCell']at q1⊢; exact q1
  have hone2:=hones _ h4
  refine Qb (ZK Qa J9 Wi (hS14.blk 1 Qa) (Xd Qa) Qa Qa ?_)
  (refine QZ hS14 Qa Qa Wi Qa (by assumption) (i:=2) Qa (by decide) ?_)
  intro w15 hS16; dsimp only[List.set]at hS16
  refine Qh (Qd (Qo (Qm ?_)))
  refine Lx (.inr Qa) Qa (RZ Qa J9 Wi (by first | exact hS16.blk 1 Qa | exact hS16.blk 2 Qa | exact hS16.blk 3 Qa | exact hS16.blk 4 Qa) (by first | decide | exact Xd Qa | (simp;done) | omega) Qa) ?_
  exact⟨_,rfl,_, by rw[By (by omega)]<;>rfl, by rw[By (by omega)]; exact hS16.pick [0,5] Qa⟩
 refine Qr (Qd (Qg (Qb (Qc Qa Qa (Qh (Qd (Qg (Qg (Qb (Qc Qa Qa (Qh (Qd (QD ?_)))))))))))))
 have hS17:=Sat.row_nil shC hS7
 refine X8 (fun K0 E0 W0=> ∃(i:Nat) (sv9:Value) (out:AL Bs) (dn:Bool),K0=l.length -i∧E0=[(2,ptrV bp 0),(3,ptrV bo 0),(4,ptrV rb 0),(5,ptrV ub 0),(6,.bool dn),(7,intV (i:Int))]∧Sat W0 [rowT shC sv9 out,QR ub [strV t,sv9],QR rb [strV [],.slice none 0 0],QR bo [intV o.dO,intV o.n,intV o.id,.int .u8 (o.b.toNat:Int),strV o.s,.slice ka o.keep.length kc],QR bp [strV t,.slice ao l.length cap],F]∧(i≤l.length)∧(MO o l i=(out,dn))∧(out.length≤i+dn.toNat)) (L0:=[(2,_),(3,_),(4,_),(5,_),(6,_),(7,_)]) (l.length -0) (RM Qa Qa Qa Qa Qa Qa) ⟨0,_,_,_,rfl,rfl,hS17.pick [0,1,2,3,4,5] Qa, by omega,rfl,Nat.zero_le _⟩ ?_
 rintro _ _ w18 ⟨i,sv9,out,dn,rfl,rfl,hS18,hi,hst,hol⟩
 have hdn1:dn.toNat≤1:= by cases dn<;>decide
 have h1ov:sv9.oneCell'=true:=hS18.own_one 0 Qa
 refine Qg (Qg (Qb (Qe Qa Qa (Qi Qa Zh Qa (Qq Qa WF (hS18.cell 4 Qa Qa) Qa (Xi underlying22 Qa Qa (X0 Qa Qa Qa (Qh (Qd (Qk [7,6,5,4,3,2,29] Qa (Qt Qa (fun h19=> ?_) (fun h19=> ?_))))))))))))
 ·obtain⟨y,hy⟩: ∃y,l[i]? =some y:=⟨_,WB (by omega)⟩
  obtain⟨b9,off9,rfl,hc9⟩:=(hL.sat hS18 5 rfl).get hy
  refine Qr (Qd (Qg (QD (Qg (Qb (Qi Qa Zh Qa (Qq Qa WF (hS18.cell 4 Qa Qa) Qa (Qe Qa Qa (X4 i Qa Qa (by rfl) (by omega) Vy Qa ?_)))))))))
  refine YH Qa GM Uk (vs:=[intV y.1,strV y.2]) hc9 Qa (Xl hS18 Rn Qa Qa ?_)
  intro yb w20 hS200
  have hS20:Sat w20 (QR yb [intV 0,strV []]::_):=hS200
  (refine QZ hS20 Qa Qa Uk Qa (by rfl) (i:=0) Qa (by decide) ?_)
  intro w21 hS22; dsimp only[List.set]at hS22
  refine Qh (Qd (Qk [7,6,5,4,3,2,8] Qa (Uh (fun E0 W0=> ∃(sv8:Value) (out2:AL Bs) (dn2:Bool) (yb:Nat),E0=[(2,ptrV bp 0),(3,ptrV bo 0),(4,ptrV rb 0),(5,ptrV ub 0),(6,.bool dn2),(7,intV (i:Int)),(8,ptrV yb 0)]∧Sat W0 [rowT shC sv8 out2,QR ub [strV t,sv8],QR yb [intV y.1,strV y.2],QR rb [strV [],.slice none 0 0],QR bo [intV o.dO,intV o.n,intV o.id,.int .u8 (o.b.toNat:Int),strV o.s,.slice ka o.keep.length kc],QR bp [strV t,.slice (some ⟨b9,off9,none⟩) l.length cap],F]∧((out2,dn2)= if dn=false∧o.id≤y.1∧o.dO%32≠19 then(out++[(o.id,List.replicate 64 o.b)],true)else(out,dn))∧(out2.length≤i+dn2.toNat)) ?_ ?_)))
  ·refine Qg ?_
   have hS24:Sat _ (QR yb [intV y.1,strV y.2]::_):=hS22.pick [0,1,2,3,4,5,6] Qa
   refine Qb (Qe Qa Qa (XL Qa Qa (Qe Qa Qa (Z4 39 Qa (fun h25=> ?_) (fun h25=> ?_)))))
   ·have hd:dn=false:= by simpa using h25
    refine Qj Qa Qa h25 (Qi Qa Yh Qa (Qj Qa Qa h25 (Qq Qa QF (by first | exact hS24.cell 0 Qa Qa | exact hS24.cell 4 Qa Qa) Qa ?_)))
    refine Qj Qa Qa h25 (Qi Qa JJ Qa (Qj Qa Qa h25 (Qq Qa QF (by first | exact hS24.cell 0 Qa Qa | exact hS24.cell 4 Qa Qa) Qa ?_)))
    refine Qj Qa Qa h25 (WX Qa Qa Qa (Q0 Qa h25 Qa Qa (Qe Qa Qa (Q4 46 Qa (fun h26=> ?_) (fun h26=> ?_)))))
    ·have hge:o.id≤y.1:=h26
     refine Qj Qa Qa (Q8 h26) (Qi Qa KS Qa (Qj Qa Qa (Q8 h26) (Qq Qa QF (hS24.cell 4 Qa Qa) Qa (Qj Qa Qa (Q8 h26) (HT 5 Qa Qa Qa Qa (q:=32) Qa Qa (Qj Qa Qa (Q8 h26) (Xr Qa Qa Qa (Q0 Qa (Q8 h26) Qa Qa (Qh (Qd (Qk [7,6,5,4,3,2,8,51] Qa (Qt Qa (fun h27=> ?_) (fun h27=> ?_)))))))))))))
     ·have hk:o.dO%32≠19:=h27
      refine Qg ?_
      have hS28:=hS24.drew
      refine QM [0,1,2,3,4,5,6,7,8,9,10,11] [6,8,9,11] Wv (by kernel_rfl) ?_
      refine QN Qa Qa Qa Zh (Q9 Qa Qa Qa (Qn Qa WF (hS28.cell 2 Qa Qa)) (QN Qa Qa Qa JJ (Q9 Qa Qa Qa (Qn Qa QF (hS28.cell 4 Qa Qa)) (QN Qa Qa Qa KR (Q9 Qa Qa Qa (Qn Qa Av (hS28.cell 4 Qa Qa)) (QS Qa Qa Qa Qa Qa Qa ?_))))))
      refine Qz Kv Qa (HB (hS28.sp [] Qa) o.b) Qa ?_
      rintro _ w29 ⟨rfl,hS29⟩
      replace hS29:=hS29.jn Qa Qa
      refine Xe (.skip (by kernel_rfl) (.cons (.inl ⟨rfl,(Qn Qa QF (hS29.cell 4 Qa Qa))⟩) (.cons (.inl ⟨rfl,(Qn Qa WF (hS29.cell 2 Qa Qa))⟩) .nil))) ?_
      refine QC Qa Qa Qa (fun _=>(ZY Qa KC N4 Rn Qa)) ?_
      refine QS Qa Qa Qa Qa Qa Qa ?_
      refine Xc shC [(o.id,List.replicate 64 o.b)] hS29 Qa underlying22 Br Qa Qa Qa Qa (by rfl) rfl ?_
      intro b30 w30 hS30
      refine Xe (.skip (by kernel_rfl) (.skip (by kernel_rfl) (.cons (.inl ⟨rfl,(Qn Qa WF (hS30.cell 3 Qa Qa))⟩) .nil))) ?_
      refine QS Qa Qa Qa Qa Qa Qa ?_
      refine XP shC 2 hS30 Qa Qa Qa (hS30.rd 0 Qa (by simp)) underlying22 underlying22 (by intro k hk; cases hk) M6 Qa (by simp only[List.length_cons,List.length_nil];omega) Qa (by simp only[List.length_cons,List.length_nil];omega) ?_
      intro v31 w31 hS31; dsimp only[List.set]at hS31
      have h1v31:v31.oneCell'=true:=hS31.own_one 2 Qa
      refine Xe (Xp (by kernel_rfl)) ?_
      refine QN Qa Qa Qa Zh (QS Qa Qa Qa Qa Qa Qa ?_)
      (refine Q7 hS31 Qa Qa NJ (by assumption) (i:=3) Qa (Xd Qa) ?_)
      intro w32 hS33; dsimp only[List.set]at hS33
      refine Z6 (Xp (by kernel_rfl)) ?_
      refine VC.nil (Qd (Qk [7,6,5,4,3,2,8] Qa (Qb (Qc Qa Qa (Qh ?_)))))
      exact WH (zb7 Qa Qa Qa Qa Qa Qa Qa) ⟨_,_,_,_,rfl,hS33.pick [2,3,1,4,5,6,7] Qa,(by rw[if_pos ⟨hd,hge,hk⟩]),(by have q1:dn.toNat≤1:=(by cases dn<;>decide);first | (subst hd; simp only[List.length_append,List.length_cons,List.length_nil,Bool.toNat_true,Bool.toNat_false]at *;omega) | omega)⟩
     refine Qr ?_
     exact WH (zb7 rfl rfl rfl rfl rfl rfl rfl) ⟨_,_,_,_,rfl,hS24.pick [1,2,0,3,4,5,6] rfl,(by rw[if_neg (by rintro⟨q1,q2,q3⟩;first | omega | (rw[hd]at q1; cases q1))]),(by have q1:dn.toNat≤1:=(by cases dn<;>decide);(subst hd; simp only[List.length_append,List.length_cons,List.length_nil,Bool.toNat_true,Bool.toNat_false]at *;omega))⟩
    refine Qf Qa Qa (Qw h26) Qa (Qf Qa Qa (Qw h26) Qa (Qf Qa Qa (Qw h26) Qa (Qf Qa Qa (Qw h26) Qa (Q1 Qa (Qw h26) Qa Qa (Qh (Qd (Qk [7,6,5,4,3,2,8,51] Qa (QI Qa (Qr ?_)))))))))
    exact WH (zb7 rfl rfl rfl rfl rfl rfl rfl) ⟨_,_,_,_,rfl,hS24.pick [1,2,0,3,4,5,6] rfl,(by rw[if_neg (by rintro⟨q1,q2,q3⟩;first | omega | (rw[hd]at q1; cases q1))]),(by have q1:dn.toNat≤1:=(by cases dn<;>decide);(subst hd; simp only[List.length_append,List.length_cons,List.length_nil,Bool.toNat_true,Bool.toNat_false]at *;omega))⟩
   have hd:dn=true:= by simpa using h25
   refine Qf Qa Qa h25 Qa (Qf Qa Qa h25 Qa (Qf Qa Qa h25 Qa (Qf Qa Qa h25 Qa (Qf Qa Qa h25 Qa (Q1 Qa h25 Qa Qa (Qe Qa Qa (Qf Qa Qa Qa Qa (Qf Qa Qa Qa Qa (Qf Qa Qa Qa Qa (Qf Qa Qa Qa Qa (Q1 Qa Qa Qa Qa (Qh (Qd (Qk [7,6,5,4,3,2,8,51] Qa (QI Qa (Qr ?_))))))))))))))))
   exact WH (zb7 rfl rfl rfl rfl rfl rfl rfl) ⟨_,_,_,_,rfl,hS24.pick [1,2,0,3,4,5,6] rfl,(by rw[if_neg (by rintro⟨q1,q2,q3⟩;first | omega | (rw[hd]at q1; cases q1))]),(by have q1:dn.toNat≤1:=(by cases dn<;>decide);(subst hd; simp only[List.length_append,List.length_cons,List.length_nil,Bool.toNat_true,Bool.toNat_false]at *;omega))⟩
  rintro _ w23 ⟨sv8,out2,dn2,yb,rfl,hS23,hm,hol2⟩
  have h2ov:sv8.oneCell'=true:=hS23.own_one 0 Qa
  have hdn2:dn2.toNat≤1:= by cases dn2<;>decide
  refine Qg (Qb (Qi Qa Yh Qa (Qq Qa QF (hS23.cell 2 Qa Qa) Qa (Qi Qa JJ Qa (Qq Qa QF (hS23.cell 4 Qa Qa) Qa (Xr Qa Qa Qa (Qh (Qd (Qk [8,7,6,5,4,3,2,67] Qa (Qt Qa (fun h34=> ?_) (fun h34=> ?_)))))))))))
  ·have hne:y.1≠o.id:=h34
   refine Qb (Qi Qa Zh Qa (Qq Qa WF (hS23.cell 1 Qa Qa) Qa (ZK Qa GM Uk (hS23.blk 2 Qa) (Xd Qa) Qa Qa (Xc shC [y] hS23 Qa underlying22 Br Qa Qa Qa Qa (by rfl) rfl ?_))))
   intro b35 w35 hS35
   refine XP shC 1 hS35 Qa Qa Qa (hS35.rd 0 Qa (by simp)) underlying22 underlying22 (by intro k hk; cases hk) M6 Qa (by simp only[List.length_cons,List.length_nil,List.length_append];omega) Qa (by simp only[List.length_cons,List.length_nil,List.length_append];omega) ?_
   intro v36 w36 hS36; dsimp only[List.set]at hS36
   have h1v36:v36.oneCell'=true:=hS36.own_one 1 Qa
   refine Qi Qa Zh Qa ?_
   (refine Q7 hS36 Qa Qa NJ (by assumption) (i:=2) Qa (Xd Qa) ?_)
   intro w37 hS38; dsimp only[List.set]at hS38
   refine Qh (Qp (Qd (Qk [7,6,5,4,3,2] Qa (Qb (Qe Qa Qa (Xx Qa Qa (by omega) (by omega) Qa ?_))))))
   refine Qc Qa Qa (Qh ?_)
   exact Xa (L1:=[(2,_),(3,_),(4,_),(5,_),(6,_),(7,intV ((i+1:Nat):Int))]) (RM Qa Qa Qa Qa Qa Qa) (k1:=l.length -(i+1)) (by omega) ⟨i+1,_,_,_,rfl,rfl,hS38.pick [1,2,4,5,6,7] Qa, by omega,(by rw[chg_m hy hst hm,if_pos hne]),(by first | omega | (rw[List.length_append,List.length_cons,List.length_nil];omega))⟩
  have hne:y.1=o.id:=Decidable.not_not.1 h34
  refine Qr (Qp (Qd (Qb (Qe Qa Qa (Xx Qa Qa (by omega) (by omega) Qa ?_)))))
  refine Qc Qa Qa (Qh ?_)
  exact Xa (L1:=[(2,_),(3,_),(4,_),(5,_),(6,_),(7,intV ((i+1:Nat):Int))]) (RM Qa Qa Qa Qa Qa Qa) (k1:=l.length -(i+1)) (by omega) ⟨i+1,_,_,_,rfl,rfl,hS23.pick [0,1,3,4,5,6] Qa, by omega,(by rw[chg_m hy hst hm,if_neg (fun q=>q hne)]),(by first | omega | (rw[List.length_append,List.length_cons,List.length_nil];omega))⟩
 refine Xq (Q2 (Q2 (QH (Qd (Qg (Qg (Qb (Qe Qa Qa (XL Qa Qa (Qe Qa Qa (Z4 76 Qa (fun h39=> ?_) (fun h39=> ?_))))))))))))
 ·have hd:dn=false:= by simpa using h39
  refine Qj Qa Qa h39 (Qi Qa KS Qa (Qj Qa Qa h39 (Qq Qa QF (hS18.cell 3 Qa Qa) Qa (Qj Qa Qa h39 (HT 5 Qa Qa Qa Qa (q:=32) Qa Qa (Qj Qa Qa h39 (Xr Qa Qa Qa (Q0 Qa h39 Qa Qa (Qh (Qd (Qk [5,4,3,81] Qa (Qt Qa (fun h40=> ?_) (fun h40=> ?_)))))))))))))
  ·have hk:o.dO%32≠19:=h40
   have hS41:=hS18.drew
   refine QM [0,1,2,3,4,5,6,7,8,9,10,11] [6,8,9,11] Wv (by kernel_rfl) ?_
   refine QN Qa Qa Qa Zh (Q9 Qa Qa Qa (Qn Qa WF (hS41.cell 1 Qa Qa)) (QN Qa Qa Qa JJ (Q9 Qa Qa Qa (Qn Qa QF (hS41.cell 3 Qa Qa)) (QN Qa Qa Qa KR (Q9 Qa Qa Qa (Qn Qa Av (hS41.cell 3 Qa Qa)) (QS Qa Qa Qa Qa Qa Qa ?_))))))
   refine Qz Kv Qa (HB (hS41.sp [] Qa) o.b) Qa ?_
   rintro _ w42 ⟨rfl,hS42⟩
   replace hS42:=hS42.jn Qa Qa
   refine Xe (.skip (by kernel_rfl) (.cons (.inl ⟨rfl,(Qn Qa QF (hS42.cell 3 Qa Qa))⟩) (.cons (.inl ⟨rfl,(Qn Qa WF (hS42.cell 1 Qa Qa))⟩) .nil))) ?_
   refine QC Qa Qa Qa (fun _=>(ZY Qa KC N4 Rn Qa)) ?_
   refine QS Qa Qa Qa Qa Qa Qa ?_
   refine Xc shC [(o.id,List.replicate 64 o.b)] hS42 Qa underlying22 Br Qa Qa Qa Qa (by rfl) rfl ?_
   intro b43 w43 hS43
   refine Xe (.skip (by kernel_rfl) (.skip (by kernel_rfl) (.cons (.inl ⟨rfl,(Qn Qa WF (hS43.cell 2 Qa Qa))⟩) .nil))) ?_
   refine QS Qa Qa Qa Qa Qa Qa ?_
   refine XP shC 1 hS43 Qa Qa Qa (hS43.rd 0 Qa (by simp)) underlying22 underlying22 (by intro k hk; cases hk) M6 Qa (by simp only[List.length_cons,List.length_nil];omega) Qa (by simp only[List.length_cons,List.length_nil];omega) ?_
   intro v44 w44 hS44; dsimp only[List.set]at hS44
   have h1v44:v44.oneCell'=true:=hS44.own_one 1 Qa
   refine Xe (Xp (by kernel_rfl)) ?_
   refine QN Qa Qa Qa Zh (QS Qa Qa Qa Qa Qa Qa ?_)
   (refine Q7 hS44 Qa Qa NJ (by assumption) (i:=2) Qa (Xd Qa) ?_)
   intro w45 hS46; dsimp only[List.set]at hS46
   refine Z6 (Xp (by kernel_rfl)) ?_
   refine VC.nil (Qd (Qk [5,4] Qa (Qg ?_)))
   have h4:=hS46.own_one 1 Qa
   have hones: ∀v:Value,v.oneCell'=true→Wt [strV t,v]=true:= by intro v q1; simp [Wt,Value.oneCell']at q1⊢; exact q1
   have hone2:=hones _ h4
   refine Qb (ZK Qa J9 Wi (hS46.blk 2 Qa) (Xd Qa) Qa Qa ?_)
   (refine QZ hS46 Qa Qa Wi Qa (by assumption) (i:=3) Qa (by decide) ?_)
   intro w47 hS48; dsimp only[List.set]at hS48
   refine Qh (Qd (Qo ?_))
   refine Lx (.inr Qa) Qa (RZ Qa J9 Wi (by first | exact hS48.blk 2 Qa | exact hS48.blk 3 Qa | exact hS48.blk 4 Qa | exact hS48.blk 5 Qa) (by first | decide | exact Xd Qa | (simp;done) | omega) Qa) ?_
   exact⟨_,rfl,_, by rw[Rb (by omega) hst (by omega),if_pos ⟨hd,hk⟩]<;>rfl, by rw[Rb (by omega) hst (by omega),if_pos ⟨hd,hk⟩]; exact hS48.pick [1,6] Qa⟩
  refine Qr (Qd (Qg ?_))
  have h4:=hS18.own_one 0 Qa
  have hones: ∀v:Value,v.oneCell'=true→Wt [strV t,v]=true:= by intro v q1; simp [Wt,Value.oneCell']at q1⊢; exact q1
  have hone2:=hones _ h4
  refine Qb (ZK Qa J9 Wi (hS18.blk 1 Qa) (Xd Qa) Qa Qa ?_)
  (refine QZ hS18 Qa Qa Wi Qa (by assumption) (i:=2) Qa (by decide) ?_)
  intro w49 hS50; dsimp only[List.set]at hS50
  refine Qh (Qd (Qo ?_))
  refine Lx (.inr Qa) Qa (RZ Qa J9 Wi (by first | exact hS50.blk 1 Qa | exact hS50.blk 2 Qa | exact hS50.blk 3 Qa | exact hS50.blk 4 Qa) (by first | decide | exact Xd Qa | (simp;done) | omega) Qa) ?_
  exact⟨_,rfl,_, by rw[Rb (by omega) hst (by omega),if_neg (by rintro⟨q1,q2⟩;omega)]<;>rfl, by rw[Rb (by omega) hst (by omega),if_neg (by rintro⟨q1,q2⟩;omega)]; exact hS50.pick [0,5] rfl⟩
 have hd:dn=true:= by simpa using h39
 refine Qf Qa Qa h39 Qa (Qf Qa Qa h39 Qa (Qf Qa Qa h39 Qa (Qf Qa Qa h39 Qa (Q1 Qa h39 Qa Qa (Qh (Qd (Qk [5,4,3,81] Qa (QI Qa (Qr (Qd (Qg ?_)))))))))))
 have h4:=hS18.own_one 0 Qa
 have hones: ∀v:Value,v.oneCell'=true→Wt [strV t,v]=true:= by intro v q1; simp [Wt,Value.oneCell']at q1⊢; exact q1
 have hone2:=hones _ h4
 refine Qb (ZK Qa J9 Wi (hS18.blk 1 Qa) (Xd Qa) Qa Qa ?_)
 (refine QZ hS18 Qa Qa Wi Qa (by assumption) (i:=2) Qa (by decide) ?_)
 intro w51 hS52; dsimp only[List.set]at hS52
 refine Qh (Qd (Qo ?_))
 refine Lx (.inr Qa) Qa (RZ Qa J9 Wi (by first | exact hS52.blk 1 Qa | exact hS52.blk 2 Qa | exact hS52.blk 3 Qa | exact hS52.blk 4 Qa) (by first | decide | exact Xd Qa | (simp;done) | omega) Qa) ?_
 exact⟨_,rfl,_, by rw[Rb (by omega) hst (by omega),if_neg (by rintro⟨q1,q2⟩;(rw[hd]at q1; cases q1))]<;>rfl, by rw[Rb (by omega) hst (by omega),if_neg (by rintro⟨q1,q2⟩;(rw[hd]at q1; cases q1))]; exact hS52.pick [0,5] rfl⟩
