/- wire: numbers -/
import Derived.Test.YtiibgheijbbmaaaGreatDoorWire
import Derived.Test.YtiibgheijbbmaaaGreatDoorCellP
set_option linter.unusedVariables false
set_option maxRecDepth 100000
namespace Go.Proofs.YtiibgheijbbmaaaGreatDoor
open Go.RowKit M Proofs.Tryz
theorem LL {w:World} {As:List Th} (hS:Sat w As) (k:Nat) (os:Array Obj):Sat (Go.Sort.grow (w.drewN k) os) As:= by
  refine hS.only ⟨rfl,rfl,rfl, by simp [Go.Sort.grow], fun j hj _=> ?_⟩
  have :j<(w.drewN k).heap.size:=hj
  show(w.heap++os)[j]? =w.heap[j]?
  rw[Array.getElem?_append_left hj]
structure WireG (w:World):Prop where
  tab : Lib.TabIs prog w "internal/strconv.uint64pow10" .u64 Lib.pow10Tab
  syn : ∃ tp p, w.var? prog "strconv.ErrSyntax" = some #[.iface tp p]
  rng : ∃ tp p, w.var? prog "strconv.ErrRange" = some #[.iface tp p]
theorem RK {P:Program} {W w:World} {name:String} {v:Array Value} (h:W.var? P name=some v) (hb:RowKit.Below W.heap.size W w):w.var? P name=some v:= by
  unfold World.var? at *
  cases hg:P.globalNamed name with
  | none=> simp [hg]at h
  | some g=>
    simp only[hg,Option.bind_some]at h⊢
    have hlt:g<W.heap.size:= by
      rcases Nat.lt_or_ge g W.heap.size with q | q
      · exact q
      · rw[Array.getElem?_eq_none q]at h; cases h
    rw[hb.block g hlt]; exact h
theorem WireG.below {W w:World} (h:WireG W) (hb:RowKit.Below W.heap.size W w):WireG w:=
  ⟨RK h.tab hb,let ⟨a,b,h⟩:=h.syn;⟨a,b,RK h hb⟩,let ⟨a,b,h⟩:=h.rng;⟨a,b,RK h hb⟩⟩
theorem Ex {w:World} {As:List Th} (hS:Sat w As) (hG:WireG w) (n:Int) (hn:X4 n):Calls prog 112 #[intV n] w (Ret fun v w'=>v=strV (Lib.itoa n)∧Sat w' As):=
  (Tryz.strconv_Itoa n hn.1 hn.2 w hG.tab).mono fun e w' ⟨h1,k,os,h2⟩=>⟨_,h1,rfl, by rw[h2]; exact LL hS k os⟩
theorem Y5 {w:World} {F:Th} (hS:Sat w [F]) (hG:Ent F WireG) (n:Int) (hn:X4 n):
    Calls prog 90 #[intV n] w (Ret fun v w'=>v=strV (Lib.itoa n++[59])∧Sat w' [F]):= by
 refine Qy func90 Qa ntmps90 Qa ?_
 have hil:=(WB hn).1
 refine Qf (Qb (Qc Qa Qa (Qh (Qd (Qf (Qb (Qe Qa Qa ?_)))))))
 have hC1:=hS.sp [] Qa
 refine Q0 T8 Qa (Ex hC1 (Ent.sat (hG.starL 0 Qa) hC1 0 Qa) n hn) Qa ?_
 rintro _ w1 ⟨rfl,hS1⟩
 replace hS1:=hS1.jn Qa Qa; clear hC1
 refine U5 Qa Qa (by(simp;omega)) Qa ?_
 exact Qc Qa Qa (Qh (Qd (Qo (Q5 (.inr Qa) Qa Qa (⟨_,Qa,Qa,hS1⟩)))))
def Ui (b:Nat) (s:Bs×Bool):Th:=Xb b [strV s.1,.bool s.2]
theorem B6 {w:World} {F:Th} (hS:Sat w [F]) (s:Bs):
    Calls prog 67 #[strV s] w (Ret fun v w'=> ∃b,v=ptrV b 0∧Sat w' [Ui b (s,false),F]):= by
 refine Qy func67 Qa ntmps67 Qa ?_
 refine Qf (Qb (Qc Qa Qa (Qh (Qd (Qf (Qb (Qe Qa Qa (Zs Qa LW asz_142 zr_142 Qa Qa (Za hS Qa Qa Qa ?_)))))))))
 intro b1 w1 hS1
 exact Qc Qa Qa (Qh (Qd (Qo (Q5 (.inr Qa) Qa Qa (⟨_,Qa,_,Qa,hS1⟩)))))
theorem U7 {w:World} {F:Th} {b:Nat} {s:Bs×Bool} (hS:Sat w [Ui b s,F]):
    Calls prog 101 #[ptrV b 0] w (Ret fun v w'=>v= .tuple #[]∧Sat w' [Ui b ([],true),F]):= by
 refine Qy func101 Qa ntmps101 Qa ?_
 refine Qb (Qe Qa Qa (Qe Qa Qa (Ql Qa Qa (Qi Qa JA Qa ?_))))
 first | (refine Qw hS Qa Qa Hz (by rfl) (i:=0) Qa (QC Qa) ?_)
 intro w1 hS2; dsimp only[List.set]at hS2
 refine Ql Qa Qa (Qi Qa Nc Qa ?_)
 first | (refine Qw hS2 Qa Qa XU (by rfl) (i:=0) Qa (QC Qa) ?_)
 intro w3 hS4; dsimp only[List.set]at hS4
 exact Qh (Yl (.inl Qa) Qa (⟨_,Qa,Qa,hS4⟩))
theorem isErr:Rh prog 151=true:= by kernel_rfl
theorem atoi0 {w:World} {As:List Th} (hS:Sat w As) (hG:WireG w) (s:Bs) (hs:s.length≤100000000000):Calls prog 124 #[strV s] w (Ret fun v w'=>(∃x ev g,v= .tuple #[intV x,ev]∧((ev= .nilIface∧g=false)∨ ∃a b,ev= .iface a b∧g=true)∧(g=false→Lib.atoiAll s= .ok x)∧(g=true→ ∀n,Lib.atoiAll s≠ .ok n))∧Sat w' As):= by
  cases h:Lib.atoiAll s with
  | ok n=>
    refine(Tryz.strconv_Atoi_ok ⟨s.toArray⟩ (by simp [ByteArray.size];omega) n h w).mono fun e w' ⟨h1,h2⟩=>⟨_,h1,⟨n,_,false,rfl,.inl ⟨rfl,rfl⟩,(fun _=>rfl),(fun q=> by cases q)⟩, ?_⟩
    rcases h2 with rfl | ⟨t,rfl⟩
    · exact hS
    · exact hS.belowAll (Lib.bytesWorld_below _ _ _)
  | «syntax»=>
    obtain⟨tp,p,hv⟩:=hG.syn
    exact(Tryz.strconv_Atoi_syntax_var ⟨s.toArray⟩ (by simp [ByteArray.size];omega) h tp p w hv).mono fun e w' ⟨N,h1,_,_,h2⟩=>⟨_,h1,⟨0,_,true,rfl,.inr ⟨_,_,rfl,rfl⟩,(fun q=> by cases q),(fun _ n q=> by cases q)⟩,hS.belowAll h2⟩
  | range=>
    obtain⟨tp,p,hv⟩:=hG.rng
    exact(Tryz.strconv_Atoi_range_var ⟨s.toArray⟩ (by simp [ByteArray.size];omega) h tp p w hv).mono fun e w' ⟨N,h1,_,_,h2⟩=>⟨_,h1,⟨_,_,true,rfl,.inr ⟨_,_,rfl,rfl⟩,(fun q=> by cases q),(fun _ n q=> by cases q)⟩,hS.belowAll h2⟩
theorem ixb0 {w:World} {As:List Th} (hS:Sat w As) (s:Bs) (e:UInt8):Calls prog 123 #[strV s,byteV e] w (Ret fun v w'=>v=intV (Lib.indexByte s e)∧Sat w' As):= by
  refine(Tryz.strings_IndexByte ⟨s.toArray⟩ (e.toNat:Int) w).mono fun e' w' ⟨h1,h2⟩=>⟨_,h1, ?_, by rw[h2]; exact hS⟩
  simp
def XR (e:UInt8) (least:Int) (s:Bs×Bool):Int:= match Ub e least s.1 with | some (n,_)=>n | none=>0
def XM (e:UInt8) (least:Int) (s:Bs×Bool):Bs×Bool:= match Ub e least s.1 with | some (_,r)=>(r,s.2) | none=>([],true)
theorem Hn {e:UInt8} {least:Int} {s:Bs×Bool} (h:Ub e least s.1=none):XR e least s=0∧XM e least s=([],true):= by simp [XR,XM,h]
theorem BP {e:UInt8} {least n:Int} {s:Bs×Bool} {r:Bs} (h:Ub e least s.1=some (n,r)):XR e least s=n∧XM e least s=(r,s.2):= by simp [XR,XM,h]
theorem num_neg {e:UInt8} {least:Int} {r:Bs} (h:Lib.indexByte (r.take 21) e<0):Ub e least r=none:= by unfold Ub; rw[if_pos h]
theorem Pf {e:UInt8} {least:Int} {r:Bs} {o:Nat} (h:Lib.indexByte (r.take 21) e=(o:Int)):Ub e least r= match Lib.atoiAll ((r.take 21).take o)with | .ok n=> if Lib.itoa n=(r.take 21).take o∧least≤n then some (n,r.drop (o+1))else none | _=>none:= by
  unfold Ub; rw[h,if_neg (by omega)];rfl
theorem num_bad {e:UInt8} {least:Int} {r:Bs} {o:Nat} (h:Lib.indexByte (r.take 21) e=(o:Int)) (h2: ∀n,Lib.atoiAll ((r.take 21).take o)≠ .ok n):Ub e least r=none:= by
  rw[Pf h]
  cases hq:Lib.atoiAll ((r.take 21).take o)with
  | ok n=> exact absurd hq (h2 n)
  | «syntax»=>rfl
  | range=>rfl
theorem Si {e:UInt8} {least x:Int} {r:Bs} {o:Nat} (h:Lib.indexByte (r.take 21) e=(o:Int)) (h2:Lib.atoiAll ((r.take 21).take o)= .ok x) (h3: ¬(Lib.itoa x=(r.take 21).take o∧least≤x)):Ub e least r=none:= by
  rw[Pf h,h2]; dsimp only; rw[if_neg h3]
theorem num_yes {e:UInt8} {least x:Int} {r:Bs} {o:Nat} (h:Lib.indexByte (r.take 21) e=(o:Int)) (h2:Lib.atoiAll ((r.take 21).take o)= .ok x) (h3:Lib.itoa x=(r.take 21).take o∧least≤x):Ub e least r=some (x,r.drop (o+1)):= by
  rw[Pf h,h2]; dsimp only; rw[if_pos h3]
theorem RY {w:World} {F:Th} {b:Nat} {s:Bs×Bool} (hS:Sat w [Ui b s,F]) (hG:Ent F WireG) (e:UInt8) (least:Int) (hrl:s.1.length≤9223372036854775806):
    Calls prog 100 #[ptrV b 0,byteV e,intV least] w (Ret fun v w'=>v=intV (XR e least s)∧Sat w' [Ui b (XM e least s),F]):= by
 obtain⟨r,q⟩:=s
 dsimp only at hrl
 change Sat w [Xb b [strV r,.bool q],F]at hS
 refine Qy func100 Qa ntmps100 Qa ?_
 refine Qf (Qb (Qc Qa Qa (Qh (Qd (Qf ?_)))))
 have hS1:=hS.drew
 refine QN [0,1,2,3,4,5,6,7,8,9,10,11] [] W5 (by kernel_rfl) ?_
 refine QI Qa Qa Qa (Xn Qa Qa Qa (QO Qa Qa Qa JA (QF Qa Qa Qa (Qn Qa Zx (hS1.cell 0 Qa Qa)) (QI Qa Qa Qa (Xn Qa Qa Qa (QO Qa Qa Qa JA (QF Qa Qa Qa (Qn Qa Zx (hS1.cell 0 Qa Qa)) (Q9 Qa Qa Qa (fun _=>(R1 underlying9 Qa)) ?_))))))))
 refine Q9 Qa Qa Qa (fun _=>(Bp Qa Qa)) ?_
 refine Q9 Qa Qa Qa (fun _=>(UM 0 (min 21 r.length) underlying9 Qa (UN _) (Hx (min 21 r.length) _ Qa (by omega)) (by omega) (by omega))) ?_
 refine WV Qa Qa Qa (VC.nil ?_)
 rw[show List.drop 0 (List.take (min 21 r.length) r)=r.take 21 by rw[List.drop_zero,←List.take_eq_take_min]]
 refine Qd (Qk [2,1,0,6,7] Qa (Qf (Qb (Qe Qa Qa (Qe Qa Qa (Q0 cal_123 Qa (ixb0 (hS1.sp [] Qa) _ e) Qa ?_))))))
 rintro _ w2 ⟨rfl,hS2⟩
 replace hS2:=hS2.jn Qa Qa
 refine Qc Qa Qa (Qh (Qd (Qf (Qf (Qb (Qe Qa Qa (X5 Qa Qa Qa (Qh (Qd (Qk [2,0,6,7,8,26] Qa (Qv Qa (fun h3=> ?_) (fun h3=> ?_))))))))))))
 ·refine Qf (Qb (Qe Qa Qa (Q0 Kk Qa (U7 (s:=(r,q)) (hS2.sp [0] Qa)) Qa ?_)))
  rintro _ w4 ⟨rfl,hS4⟩
  replace hS4:=hS4.jn Qa Qa
  refine Qh (Qd (Qf (Qb (Qc Qa Qa (Qh (Qd (Qo (Qm (Q5 (.inr Qa) Qa Qa ?_)))))))))
  have hnp:Ub e least r=none:=num_neg (by assumption)
  exact⟨_,rfl, by rw[(Hn (s:=(r,q)) hnp).1], by rw[(Hn (s:=(r,q)) hnp).2]; exact hS4⟩
 obtain⟨o,hio⟩: ∃o:Nat,Lib.indexByte (r.take 21) e=(o:Int):=⟨(Lib.indexByte (r.take 21) e).toNat, by omega⟩
 have hol:=(ZD (Lib.indexByte_some hio).1).1
 have hol2:o<r.length:= by simp at hol;omega
 have htl:(r.take 21).length≤21:= by simp;omega
 rw[hio]
 refine Qt (Qd (Qf (Qb (Qe Qa Qa (Qe Qa Qa (YM 0 o underlying9 Qa (UN _) (Hx o _ Qa Qa) (by omega) (by omega) Qa ?_))))))
 rw[List.drop_zero]
 have hC5:=hS2.sp [] Qa
 refine Q0 cal_124 Qa (atoi0 hC5 (Ent.sat (hG.starL 1 Qa) hC5 0 Qa) _ (by simp;omega)) Qa ?_
 rintro _ w5 ⟨⟨x,ev,g,rfl,hev,hok,hbad⟩,hS5⟩
 replace hS5:=hS5.jn Qa Qa; clear hC5
 refine Qe Qa Qa (Q7 Qa Qa Qa (Q7 Qa Qa Qa (Qc Qa Qa (Qc Qa Qa (Qh (Qd (Qk [2,0,6,7,8,9,10] Qa (Qf (Qf ?_)))))))))
 have hS6:=hS5.drew
 refine QN [0,1,2,3,5,6,7,4,8,9,10,11,12,13,14] [4] W5 (by kernel_rfl) ?_
 refine QI Qa Qa Qa (Q9 Qa Qa Qa (fun _=>(Nl isErr hev Qa)) ?_)
 refine QI Qa Qa Qa (TO 38 Qa (fun h7=> ?_) (fun h7=> ?_))
 ·refine Q2 Qa Qa (Qs Qa Qa h7) (Q2 Qa Qa (Qs Qa Qa h7) (Q2 Qa Qa (Qs Qa Qa h7) (Q2 Qa Qa (Qs Qa Qa h7) (VC.spineNot Qa Qa (Qs Qa Qa h7) (Q2 Qa Qa (Qs Qa Qa h7) (Q9 Qa Qa Qa (fun _=>(Xz Qa h7 Qa)) ?_))))))
  refine QI Qa Qa Qa (Q2 Qa Qa (Qs Qa Qa Qa) (Q2 Qa Qa (Qs Qa Qa Qa) (Q2 Qa Qa (Qs Qa Qa Qa) (Q9 Qa Qa Qa (fun _=>(Xz Qa Qa Qa)) ?_))))
  refine VC.nil (Qd (Qk [0,6,8,9,50] Qa (QP Qa (Qf (Qb (Qe Qa Qa (Q0 Kk Qa (U7 (s:=(r,q)) (hS6.sp [0] Qa)) Qa ?_)))))))
  rintro _ w8 ⟨rfl,hS8⟩
  replace hS8:=hS8.jn Qa Qa
  refine Qh (Qd (Qf (Qb (Qc Qa Qa (Qh (Qd (Qo (Qm (Q5 (.inr Qa) Qa Qa ?_)))))))))
  have hnp:Ub e least r=none:=num_bad hio (hbad (by assumption))
  exact⟨_,rfl, by rw[(Hn (s:=(r,q)) hnp).1], by rw[(Hn (s:=(r,q)) hnp).2]; exact hS8⟩
 refine Q9 Qa Qa (Qp Qa Qa h7) (fun _=>(Ev.gd (Xk Qa))) ?_
 refine Q9 Qa Qa (Qp Qa Qa h7) (fun _=>(Ev.gd (Xk Qa))) ?_
 refine Q9 Qa Qa (Qp Qa Qa h7) (fun _=>(Ev.gd (Xk Qa))) ?_
 refine Q9 Qa Qa (Qp Qa Qa h7) (fun _=>(Ev.gd (UM 0 o underlying9 Qa (UN _) (Hx o _ Qa Qa) (by omega) (by omega)))) ?_
 refine QV Qa Qa (Qp Qa Qa h7) Qa Qa Qa ?_
 have hC9:=hS6.sp [] Qa
 refine Q0 T8 Qa (Ex hC9 (Ent.sat (hG.starL 1 Qa) hC9 0 Qa) x (SJ (hok (by assumption)))) Qa ?_
 rintro _ w9 ⟨rfl,hS9⟩
 replace hS9:=hS9.jn Qa Qa; clear hC9
 refine Xd .nil (Q9 Qa Qa (Qp Qa Qa h7) (fun _=>(Ev.gd (S2 Qa Qa))) ?_)
 refine Q9 Qa Qa Qa (fun _=>(Xi Qa h7 Qa)) ?_
 refine QI Qa Qa Qa (XB 46 Qa (fun h10=> ?_) (fun h10=> ?_))
 ·refine Q2 Qa Qa (Qs Qa Qa (QD h10)) (Q2 Qa Qa (Qs Qa Qa (QD h10)) (Q2 Qa Qa (Qs Qa Qa (QD h10)) (Q9 Qa Qa Qa (fun _=>(Xz Qa (QD h10) Qa)) ?_)))
  refine VC.nil (Qd (Qk [0,6,8,9,50] Qa (QP Qa (Qf (Qb (Qe Qa Qa (Q0 Kk Qa (U7 (s:=(r,q)) (hS9.sp [0] Qa)) Qa ?_)))))))
  rintro _ w11 ⟨rfl,hS11⟩
  replace hS11:=hS11.jn Qa Qa
  refine Qh (Qd (Qf (Qb (Qc Qa Qa (Qh (Qd (Qo (Qm (Q5 (.inr Qa) Qa Qa ?_)))))))))
  have hnp:Ub e least r=none:=Si hio (hok (by assumption)) (by rintro⟨q1,q2⟩;first | omega | (simp_all;done))
  exact⟨_,rfl, by rw[(Hn (s:=(r,q)) hnp).1], by rw[(Hn (s:=(r,q)) hnp).2]; exact hS11⟩
 refine Q9 Qa Qa (Qp Qa Qa (Qx h10)) (fun _=>(Ev.gd (Xk Qa))) ?_
 refine Q9 Qa Qa (Qp Qa Qa (Qx h10)) (fun _=>(Ev.gd (Xk Qa))) ?_
 refine Q9 Qa Qa (Qp Qa Qa (Qx h10)) (fun _=>(Ev.gd (KI Qa Qa))) ?_
 refine Q9 Qa Qa Qa (fun _=>(Xi Qa (Qx h10) Qa)) ?_
 refine VC.nil (Qd (Qk [0,6,8,9,50] Qa (Qv Qa (fun h12=> ?_) (fun h12=> ?_))))
 ·refine Qf (Qb (Qe Qa Qa (Q0 Kk Qa (U7 (s:=(r,q)) (hS9.sp [0] Qa)) Qa ?_)))
  rintro _ w13 ⟨rfl,hS13⟩
  replace hS13:=hS13.jn Qa Qa
  refine Qh (Qd (Qf (Qb (Qc Qa Qa (Qh (Qd (Qo (Qm (Q5 (.inr Qa) Qa Qa ?_)))))))))
  have hnp:Ub e least r=none:=Si hio (hok (by assumption)) (by rintro⟨q1,q2⟩;first | omega | (simp_all;done))
  exact⟨_,rfl, by rw[(Hn (s:=(r,q)) hnp).1], by rw[(Hn (s:=(r,q)) hnp).2]; exact hS13⟩
 refine Qt (Qd (Qf (Qb (Qe Qa Qa (Qe Qa Qa (Ql Qa Qa (Qi Qa JA Qa (Qr Qa Zx (hS9.cell 0 Qa Qa) Qa (Qe Qa Qa (XC Qa Qa (by omega) (by omega) Qa ?_))))))))))
 refine YM (o+1) r.length underlying9 Qa (Hx (o+1) _ Qa Qa) (UN _) (by omega) (by omega) Qa ?_
 rw[List.take_length]
 refine Ql Qa Qa (Qi Qa JA Qa ?_)
 first | (refine Qw hS9 Qa Qa Hz (by rfl) (i:=0) Qa (QC Qa) ?_)
 intro w14 hS15; dsimp only[List.set]at hS15
 refine Qh (Qd (Qk [6,9] Qa (Qf (Qb (Qe Qa Qa (Qc Qa Qa (Qh (Qd (Qo (Q5 (.inr Qa) Qa Qa ?_))))))))))
 have hnp:Ub e least r=some (x,r.drop (o+1)):=num_yes hio (hok (by assumption)) ⟨Decidable.not_not.1 (by assumption), by omega⟩
 exact⟨_,rfl, by rw[(BP (s:=(r,q)) hnp).1], by rw[(BP (s:=(r,q)) hnp).2]; exact hS15⟩
theorem Uj {w:World} {F:Th} {b:Nat} {s:Bs×Bool} (hS:Sat w [Ui b s,F]) (hG:Ent F WireG) (hrl:s.1.length≤9223372036854775806):
    Calls prog 68 #[ptrV b 0] w (Ret fun v w'=>v=intV (XR 59 (-9223372036854775808) s)∧Sat w' [Ui b (XM 59 (-9223372036854775808) s),F]):= by
 refine Qy func68 Qa ntmps68 Qa ?_
 refine Qf (Qb (Qc Qa Qa (Qh (Qd (Qf (Qb (Qe Qa Qa (Q0 TC Qa (RY (hS.sp [0] Qa) (hG.starL 0 Qa) 59 (-9223372036854775808) hrl) Qa ?_))))))))
 rintro _ w1 ⟨rfl,hS1⟩
 replace hS1:=hS1.jn Qa Qa
 exact Qc Qa Qa (Qh (Qd (Qo (Q5 (.inr Qa) Qa Qa (⟨_,Qa,Qa,hS1⟩)))))
theorem rNum_sp {w:World} {F:Th} {b:Nat} {s:Bs×Bool} (hS:Sat w [Ui b s,F]) (hG:Ent F WireG) (hrl:s.1.length≤9223372036854775806):
    Calls prog 127 #[ptrV b 0] w (Ret fun v w'=>v=intV (XR 59 0 s)∧Sat w' [Ui b (XM 59 0 s),F]):= by
 refine Qy func127 Qa ntmps127 Qa ?_
 refine Qf (Qb (Qc Qa Qa (Qh (Qd (Qf (Qb (Qe Qa Qa (Q0 TC Qa (RY (hS.sp [0] Qa) (hG.starL 0 Qa) 59 0 hrl) Qa ?_))))))))
 rintro _ w1 ⟨rfl,hS1⟩
 replace hS1:=hS1.jn Qa Qa
 exact Qc Qa Qa (Qh (Qd (Qo (Q5 (.inr Qa) Qa Qa (⟨_,Qa,Qa,hS1⟩)))))
def D8 (e:UInt8) (s:Bs×Bool):Bs×Bool:= match s.1 with | c::r=> if c=e then(r,s.2)else([],true) | []=>([],true)
def UP (s:Bs×Bool):Bs:= if((XM 58 0 s).1.length:Int)<XR 58 0 s then[]else if(D8 44 ((XM 58 0 s).1.drop (XR 58 0 s).toNat,(XM 58 0 s).2)).2=true then[]else(XM 58 0 s).1.take (XR 58 0 s).toNat
def HM (s:Bs×Bool):Bs×Bool:= if((XM 58 0 s).1.length:Int)<XR 58 0 s then([],true)else D8 44 ((XM 58 0 s).1.drop (XR 58 0 s).toNat,(XM 58 0 s).2)
def Hw (s:Bs):Bs:=Lib.itoa (s.length:Int)++[58]++s++[44]
structure PipeD where
  d:Bs
  r:Int
  w:Int
theorem F4 {e:UInt8} {least m:Int} {rest:Bs} (he:57<e.toNat) (hm:X4 m) (hl:least≤m):Ub e least (Lib.itoa m++e::rest)=some (m,rest):= by
  have :=F5 (e:=e) (least:=least) (m:=m) (r:=Lib.itoa m++e::rest) (k:=(Lib.itoa m).length) he (by rw[List.getElem?_append_right (Nat.le_refl _)]; simp) hm hl (by rw[List.take_left']<;>rfl)
  rw[this,List.drop_append,List.drop_eq_nil_of_le (by omega)]
  simp
theorem Ct {e:UInt8} {least m:Int} {rest:Bs} {b:Bool} (he:57<e.toNat) (hm:X4 m) (hl:least≤m):XR e least (Lib.itoa m++e::rest,b)=m∧XM e least (Lib.itoa m++e::rest,b)=(rest,b):=BP (F4 he hm hl)
theorem TP {s rest:Bs} (hs:s.length≤100000000000):UP (Hw s++rest,false)=s∧HM (Hw s++rest,false)=(rest,false):= by
  have e:Hw s++rest=Lib.itoa (s.length:Int)++58::(s++44::rest):= by simp [Hw]
  have hn:=Ct (e:=58) (least:=0) (m:=(s.length:Int)) (rest:=s++44::rest) (b:=false) (by decide) (by unfold X4;omega) (by omega)
  unfold UP HM
  rw[e,hn.1,hn.2]
  have h1: ¬(((s++44::rest,false):Bs×Bool).1.length:Int)<(s.length:Int):= by simp;omega
  rw[if_neg h1,if_neg h1]
  simp [D8]
theorem Nz {e:UInt8} {l:Bs} {b:Bool}:D8 e (l,b)= if Lib.hasPrefix l [e]=true then(l.drop 1,b)else([],true):= by
  cases l with
  | nil=>rfl
  | cons c l=>
    have hp:Lib.hasPrefix (c::l) [e]=decide (c=e):= by
      unfold Lib.hasPrefix
      rw[Bool.eq_iff_iff]
      simp only[List.isPrefixOf,Bool.and_true,beq_iff_eq,decide_eq_true_eq]
      exact⟨fun q=>q.symm, fun q=>q.symm⟩
    rw[hp]
    simp only[D8,decide_eq_true_eq,List.drop_succ_cons,List.drop_zero]
theorem Sj (e:UInt8) (s:Bs×Bool):0≤XR e 0 s:= by
  unfold XR
  split
  · rename_i n r h; exact(RZ h).2.2
  · omega
theorem X2 (e:UInt8) (l:Int) (s:Bs×Bool):(XM e l s).1.length≤s.1.length:= by
  unfold XM
  split
  · rename_i n r h; rw[(RZ h).1]; simp only[List.length_append,List.length_cons];omega
  · simp
theorem Ah (e:UInt8) (s:Bs×Bool):(D8 e s).1.length≤s.1.length:= by
  obtain⟨l,b⟩:=s
  cases l with
  | nil=> simp [D8]
  | cons c l=> simp only[D8];split<;> simp
theorem TQ (s:Bs×Bool):(HM s).1.length≤s.1.length:= by
  have h1:=X2 58 0 s
  unfold HM
  split
  · simp
  · refine Nat.le_trans (Ah _ _) ?_
    simp only[List.length_drop];omega
theorem JL (e:UInt8) (least:Int) (s:Bs×Bool):X4 (XR e least s):= by
  unfold XR
  split
  · rename_i n r h; exact(RZ h).2.1
  · unfold X4;omega
theorem hpi0 {w:World} {As:List Th} (hS:Sat w As) (s t:Bs):Calls prog 157 #[strV s,strV t] w (Ret fun v w'=>v= .bool (Lib.hasPrefix s t)∧Sat w' As):=
  (Tryz.stringslite_HasPrefix ⟨s.toArray⟩ ⟨t.toArray⟩ w).mono fun e w' ⟨h1,h2⟩=>⟨_,h1,rfl, by rw[h2]; exact hS⟩
theorem D0 {s t:Bs} (h:Lib.hasPrefix s t=true):t.length≤s.length:= by
  unfold Lib.hasPrefix at h
  exact(List.isPrefixOf_iff_prefix.1 h).length_le
theorem Ai {w:World} {F:Th} (hS:Sat w [F]) (s t:Bs):
    Calls prog 137 #[strV s,strV t] w (Ret fun v w'=>v= .tuple #[strV (if Lib.hasPrefix s t=true then s.drop t.length else s),.bool (Lib.hasPrefix s t)]∧Sat w' [F]):= by
 refine Qy func137 Qa ntmps137 Qa ?_
 refine Qf (Qb (Qc Qa Qa (Qc Qa Qa (Qh (Qd (Qf (Qf (Qb (Qe Qa Qa (Qe Qa Qa (Q0 cal_157 Qa (hpi0 (hS.sp [] Qa) s t) Qa ?_)))))))))))
 rintro _ w1 ⟨rfl,hS1⟩
 replace hS1:=hS1.jn Qa Qa
 refine XN Qa Qa (Qh (Qd (QZ Qa (fun h2=> ?_) (fun h2=> ?_))))
 ·refine Qf (Qb (Qe Qa Qa (Qc Qa Qa (Qc Qa Qa (Qh (Qd (Qo (Qm (Z8 (.inr Qa) Qa Qa Qa ?_)))))))))
  exact⟨_,rfl, by rw[if_neg (by simp_all), show Lib.hasPrefix s t=false by simp_all],hS1⟩
 have htl:t.length≤s.length:=D0 (by simp_all)
 refine Qt (Qd (Qf (Qb (Qe Qa Qa (Qe Qa Qa (Zf underlying9 Qa Qa (YM t.length s.length underlying9 Qa (Hx t.length _ Qa Qa) (UN _) (by omega) (by omega) Qa ?_)))))))
 rw[List.take_length]
 refine Qc Qa Qa (Qc Qa Qa (Qh (Qd (Qk [4,5] Qa (Qo (Z8 (.inr Qa) Qa Qa Qa ?_))))))
 exact⟨_,rfl, by rw[if_pos (by simp_all), show Lib.hasPrefix s t=true by simp_all],hS1⟩
theorem cutS_sp {w:World} {F:Th} (hS:Sat w [F]) (s t:Bs):
    Calls prog 125 #[strV s,strV t] w (Ret fun v w'=>v= .tuple #[strV (if Lib.hasPrefix s t=true then s.drop t.length else s),.bool (Lib.hasPrefix s t)]∧Sat w' [F]):= by
 refine Qy func125 Qa ntmps125 Qa ?_
 refine Qf (Qb (Qc Qa Qa (Qc Qa Qa (Qh (Qd (Qf (Qb (Qe Qa Qa (Qe Qa Qa (Q0 cal_137 Qa (Ai (hS.sp [] Qa) s t) Qa ?_))))))))))
 rintro _ w1 ⟨rfl,hS1⟩
 replace hS1:=hS1.jn Qa Qa
 exact Q7 Qa Qa Qa (Q7 Qa Qa Qa (Qc Qa Qa (Qc Qa Qa (Qh (Qd (Qo (Z8 (.inr Qa) Qa Qa Qa (⟨_,Qa,Qa,hS1⟩))))))))
theorem TN {w:World} {F:Th} (hS:Sat w [F]) (hG:Ent F WireG) (s:Bs) (hs:s.length≤100000000000):
    Calls prog 108 #[strV s] w (Ret fun v w'=>v=strV (Hw s)∧Sat w' [F]):= by
 refine Qy func108 Qa ntmps108 Qa ?_
 refine Qf (Qb (Qc Qa Qa (Qh (Qd (Qf (Qb (Qe Qa Qa (Zf underlying9 Qa Qa ?_))))))))
 have hC1:=hS.sp [] Qa
 refine Q0 T8 Qa (Ex hC1 (Ent.sat (hG.starL 0 Qa) hC1 0 Qa) (s.length:Int) (by unfold X4;omega)) Qa ?_
 rintro _ w1 ⟨rfl,hS1⟩
 replace hS1:=hS1.jn Qa Qa; clear hC1
 have hil:=WB (n:=(s.length:Int)) (by unfold X4;omega)
 refine U5 Qa Qa (by(simp;omega)) Qa ?_
 refine Qe Qa Qa ?_
 refine U5 Qa Qa (by(simp;omega)) Qa ?_
 refine U5 Qa Qa (by(simp;omega)) Qa ?_
 refine Qc Qa Qa (Qh (Qd (Qo (Q5 (.inr Qa) Qa Qa ?_))))
 exact⟨_,rfl, by simp [Hw],hS1⟩
theorem Fm {w:World} {F:Th} {b:Nat} {s:Bs×Bool} (hS:Sat w [Ui b s,F]) (e:UInt8):
    Calls prog 102 #[ptrV b 0,strV [e]] w (Ret fun v w'=>v= .tuple #[]∧Sat w' [Ui b (D8 e s),F]):= by
 obtain⟨r,q⟩:=s
 change Sat w [Xb b [strV r,.bool q],F]at hS
 refine Qy func102 Qa ntmps102 Qa ?_
 refine Qf (Qb (Qe Qa Qa (Ql Qa Qa (Qi Qa JA Qa (Qr Qa Zx (hS.cell 0 Qa Qa) Qa (Qe Qa Qa (Q0 cal_125 Qa (cutS_sp (hS.sp [] Qa) r [e]) Qa ?_)))))))
 rintro _ w1 ⟨rfl,hS1⟩
 replace hS1:=hS1.jn Qa Qa
 refine Qe Qa Qa (Q7 Qa Qa Qa (Q7 Qa Qa Qa (Qc Qa Qa (Qc Qa Qa (Qh (Qd (Qk [0,4,5] Qa (Qf (Qb (Qe Qa Qa (Qe Qa Qa (Ql Qa Qa (Qi Qa JA Qa ?_)))))))))))))
 first | (refine Qw hS1 Qa Qa Hz (by rfl) (i:=0) Qa (QC Qa) ?_)
 intro w2 hS3; dsimp only[List.set]at hS3
 refine Qh (Qd (Qf (Qb (Qe Qa Qa (XN Qa Qa (Qh (Qd (QZ Qa (fun h4=> ?_) (fun h4=> ?_)))))))))
 ·have hp1: ¬Lib.hasPrefix r [e]=true:= by simp_all
  rw[if_neg hp1]at hS3
  refine Qb (Qe Qa Qa (Q0 Kk Qa (U7 (s:=(r,q)) (hS3.sp [0] Qa)) Qa ?_))
  rintro _ w5 ⟨rfl,hS5⟩
  replace hS5:=hS5.jn Qa Qa
  refine Qh (Yl (.inl Qa) Qa ?_)
  exact⟨_,rfl,rfl, by rw[Nz,if_neg (by simp_all)]; exact hS5⟩
 have hp1:Lib.hasPrefix r [e]=true:= by simp_all
 rw[if_pos hp1]at hS3
 refine Qt (Yl (.inl Qa) Qa ?_)
 exact⟨_,rfl,rfl, by rw[Nz,if_pos (by simp_all)]; exact hS3⟩
theorem Cg {w:World} {F:Th} {b:Nat} {s:Bs×Bool} (hS:Sat w [Ui b s,F]) (hG:Ent F WireG) (hrl:s.1.length≤100000000000):
    Calls prog 69 #[ptrV b 0] w (Ret fun v w'=>v=strV (UP s)∧Sat w' [Ui b (HM s),F]):= by
 refine Qy func69 Qa ntmps69 Qa ?_
 refine Qf (Qb (Qc Qa Qa (Qh (Qd (Qf (Qb (Qe Qa Qa (Q0 TC Qa (RY (hS.sp [0] Qa) (hG.starL 0 Qa) 58 0 (by omega)) Qa ?_))))))))
 rintro _ w1 ⟨rfl,hS1⟩
 replace hS1:=hS1.jn Qa Qa
 obtain⟨k,hk⟩: ∃k:Nat,XR 58 0 s=(k:Int):=⟨(XR 58 0 s).toNat, by have :=Sj 58 s;omega⟩
 rw[hk]
 have hnl:=X2 58 0 s
 rcases hN:XM 58 0 s with⟨r1,q1⟩
 rw[hN]at hS1 hnl
 dsimp only at hnl
 change Sat w1 [Xb b [strV r1,.bool q1],F]at hS1
 refine Qc Qa Qa (Qh (Qd (Qf (Qf (Qb (Qe Qa Qa (Qe Qa Qa (Ql Qa Qa (Qi Qa JA Qa (Qr Qa Zx (hS1.cell 0 Qa Qa) Qa (Zf underlying9 Qa Qa (Wr Qa Qa Qa (Qh (Qd (Qk [0,2,3,13] Qa (Qv Qa (fun h2=> ?_) (fun h2=> ?_)))))))))))))))))
 ·refine Qf (Qb (Qe Qa Qa (Q0 Kk Qa (U7 (s:=(r1,q1)) (hS1.sp [0] Qa)) Qa ?_)))
  rintro _ w3 ⟨rfl,hS3⟩
  replace hS3:=hS3.jn Qa Qa
  refine Qh (Qd (Qf (Qb (Qc Qa Qa (Qh (Qd (Qo (Qm (Q5 (.inr Qa) Qa Qa ?_)))))))))
  exact⟨_,rfl, by unfold UP; rw[hN,hk]; dsimp only; rw[if_pos (by omega)], by unfold HM; rw[hN,hk]; dsimp only; rw[if_pos (by omega)]; exact hS3⟩
 refine Qt (Qd (Qf (Qb (Qe Qa Qa (Ql Qa Qa (Qi Qa JA Qa (Qr Qa Zx (hS1.cell 0 Qa Qa) Qa (Qe Qa Qa (YM 0 k underlying9 Qa (UN _) (Hx k _ Qa Qa) (by omega) (by omega) Qa ?_)))))))))
 rw[List.drop_zero]
 refine Qc Qa Qa (Qh (Qd (Qk [0,2,3,4] Qa (Qf (Qb (Qe Qa Qa (Qe Qa Qa (Ql Qa Qa (Qi Qa JA Qa (Qr Qa Zx (hS1.cell 0 Qa Qa) Qa (Qe Qa Qa (YM k r1.length underlying9 Qa (Hx k _ Qa Qa) (UN _) (by omega) (by omega) Qa ?_))))))))))))
 rw[List.take_length]
 refine Ql Qa Qa (Qi Qa JA Qa ?_)
 first | (refine Qw hS1 Qa Qa Hz (by rfl) (i:=0) Qa (QC Qa) ?_)
 intro w4 hS5; dsimp only[List.set]at hS5
 refine Qh (Qd (Qk [0,2,4] Qa (Qf (Qf (Qb (Qe Qa Qa (Q0 cal_102 Qa (Fm (s:=(r1.drop k,q1)) (hS5.sp [0] Qa) 44) Qa ?_)))))))
 rintro _ w6 ⟨rfl,hS6⟩
 replace hS6:=hS6.jn Qa Qa
 rcases hC2:D8 44 (r1.drop k,q1)with⟨r2,q2⟩
 rw[hC2]at hS6
 refine Qh (Qd (Qf (Qb (Qe Qa Qa (Ql Qa Qa (Qi Qa Nc Qa (Qr Qa J2 (hS6.cell 0 Qa Qa) Qa (Qh (Qd (QZ Qa (fun h7=> ?_) (fun h7=> ?_)))))))))))
 ·obtain rfl:q2=true:=h7
  refine Qf (Qb (Qc Qa Qa (Qh (Qd (Qo (Qm (Q5 (.inr Qa) Qa Qa ?_)))))))
  exact⟨_,rfl, by unfold UP; rw[hN,hk]; dsimp only; rw[if_neg (by omega),Int.toNat_natCast,hC2];rfl, by unfold HM; rw[hN,hk]; dsimp only; rw[if_neg (by omega),Int.toNat_natCast,hC2]; exact hS6⟩
 obtain rfl:q2=false:=h7
 refine Qt (Qd (Qf (Qb (Qe Qa Qa (Qc Qa Qa (Qh (Qd (Qo (Q5 (.inr Qa) Qa Qa ?_)))))))))
 exact⟨_,rfl, by unfold UP; rw[hN,hk]; dsimp only; rw[if_neg (by omega),Int.toNat_natCast,hC2];rfl, by unfold HM; rw[hN,hk]; dsimp only; rw[if_neg (by omega),Int.toNat_natCast,hC2]; exact hS6⟩
