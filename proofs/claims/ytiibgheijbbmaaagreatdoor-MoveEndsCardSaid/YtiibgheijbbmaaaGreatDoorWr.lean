/- wire: numbers -/
import Derived.Test.YtiibgheijbbmaaaGreatDoorWire
import Derived.Test.YtiibgheijbbmaaaGreatDoorCellP
set_option linter.unusedVariables false
set_option maxRecDepth 100000
namespace Go.Proofs.YtiibgheijbbmaaaGreatDoor
open Go.RowKit M Proofs.Tryz
theorem O6 {w:World} {As:List Th} (hS:Sat w As) (k:Nat) (os:Array Obj):Sat (Go.Sort.grow (w.drewN k) os) As:= by
  refine hS.only ⟨rfl,rfl,rfl, by simp [Go.Sort.grow], fun j hj _=> ?_⟩
  have :j<(w.drewN k).heap.size:=hj
  show(w.heap++os)[j]? =w.heap[j]?
  rw[Array.getElem?_append_left hj]
structure WireG (w:World):Prop where
  tab : Lib.TabIs prog w "internal/strconv.uint64pow10" .u64 Lib.pow10Tab
  syn : ∃ tp p, w.var? prog "strconv.ErrSyntax" = some #[.iface tp p]
  rng : ∃ tp p, w.var? prog "strconv.ErrRange" = some #[.iface tp p]
theorem GT {P:Program} {W w:World} {name:String} {v:Array Value} (h:W.var? P name=some v) (hb:RowKit.Below W.heap.size W w):w.var? P name=some v:= by
  unfold World.var? at *
  cases hg:P.globalNamed name with
  | none=> simp [hg]at h
  | some g=>
    simp only[hg,Option.bind_some]at h⊢
    have hlt:g<W.heap.size:= by
      rcases Nat.lt_or_ge g W.heap.size with q | q
      · exact q
      · rw[Array.getElem?_eq_none q]at h; cases h
    rw[hb.block g hlt]; exact h
theorem WireG.below {W w:World} (h:WireG W) (hb:RowKit.Below W.heap.size W w):WireG w:=
  ⟨GT h.tab hb,let ⟨a,b,h⟩:=h.syn;⟨a,b,GT h hb⟩,let ⟨a,b,h⟩:=h.rng;⟨a,b,GT h hb⟩⟩
theorem Il {w:World} {As:List Th} (hS:Sat w As) (hG:WireG w) (n:Int) (hn:Xy n):Calls prog 112 #[intV n] w (Ret fun v w'=>v=strV (Lib.itoa n)∧Sat w' As):=
  (Tryz.strconv_Itoa n hn.1 hn.2 w hG.tab).mono fun e w' ⟨h1,k,os,h2⟩=>⟨_,h1,rfl, by rw[h2]; exact O6 hS k os⟩
theorem YZ {w:World} {F:Th} (hS:Sat w [F]) (hG:Ent F WireG) (n:Int) (hn:Xy n):
    Calls prog 90 #[intV n] w (Ret fun v w'=>v=strV (Lib.itoa n++[59])∧Sat w' [F]):= by
 refine Qy func90 Qa ntmps90 Qa ?_
 have hil:=(WQ hn).1
 refine Qg (Qb (Qc Qa Qa (Qh (Qe (Qg (Qb (Qd Qa Qa ?_)))))))
 have hC1:=hS.sp [] Qa
 refine Q4 Nx Qa (Il hC1 (Ent.sat (hG.starL 0 Qa) hC1 0 Qa) n hn) Qa ?_
 rintro _ w1 ⟨rfl,hS1⟩
 replace hS1:=hS1.jn Qa Qa; clear hC1
 refine Vf Qa Qa (by(simp;omega)) Qa ?_
 exact Qc Qa Qa (Qh (Qe (Qo (Q7 (.inr Qa) Qa Qa (⟨_,Qa,Qa,hS1⟩)))))
def UD (b:Nat) (s:Bs×Bool):Th:=QR b [strV s.1,.bool s.2]
theorem DM {w:World} {F:Th} (hS:Sat w [F]) (s:Bs):
    Calls prog 67 #[strV s] w (Ret fun v w'=> ∃b,v=ptrV b 0∧Sat w' [UD b (s,false),F]):= by
 refine Qy func67 Qa ntmps67 Qa ?_
 refine Qg (Qb (Qc Qa Qa (Qh (Qe (Qg (Qb (Qd Qa Qa (Zu Qa OI asz_142 zr_142 Qa Qa (XZ hS Qa Qa Qa ?_)))))))))
 intro b1 w1 hS1
 exact Qc Qa Qa (Qh (Qe (Qo (Q7 (.inr Qa) Qa Qa (⟨_,Qa,_,Qa,hS1⟩)))))
theorem Vg {w:World} {F:Th} {b:Nat} {s:Bs×Bool} (hS:Sat w [UD b s,F]):
    Calls prog 101 #[ptrV b 0] w (Ret fun v w'=>v= .tuple #[]∧Sat w' [UD b ([],true),F]):= by
 refine Qy func101 Qa ntmps101 Qa ?_
 refine Qb (Qd Qa Qa (Qd Qa Qa (Ql Qa Qa (Qi Qa Yb Qa ?_))))
 first | (refine QC hS Qa Qa R8 (by rfl) (i:=0) Qa (Xe Qa) ?_)
 intro w1 hS2; dsimp only[List.set]at hS2
 refine Ql Qa Qa (Qi Qa PV Qa ?_)
 first | (refine QC hS2 Qa Qa Jy (by rfl) (i:=0) Qa (Xe Qa) ?_)
 intro w3 hS4; dsimp only[List.set]at hS4
 exact Qh (H5 (.inl Qa) Qa (⟨_,Qa,Qa,hS4⟩))
theorem isErr:Gn prog 151=true:= by kernel_rfl
theorem atoi0 {w:World} {As:List Th} (hS:Sat w As) (hG:WireG w) (s:Bs) (hs:s.length≤100000000000):Calls prog 124 #[strV s] w (Ret fun v w'=>(∃x ev g,v= .tuple #[intV x,ev]∧((ev= .nilIface∧g=false)∨ ∃a b,ev= .iface a b∧g=true)∧(g=false→Lib.atoiAll s= .ok x)∧(g=true→ ∀n,Lib.atoiAll s≠ .ok n))∧Sat w' As):= by
  cases h:Lib.atoiAll s with
  | ok n=>
    refine(Tryz.strconv_Atoi_ok ⟨s.toArray⟩ (by simp [ByteArray.size];omega) n h w).mono fun e w' ⟨h1,h2⟩=>⟨_,h1,⟨n,_,false,rfl,.inl ⟨rfl,rfl⟩,(fun _=>rfl),(fun q=> by cases q)⟩, ?_⟩
    rcases h2 with rfl | ⟨t,rfl⟩
    · exact hS
    · exact hS.belowAll (Lib.bytesWorld_below _ _ _)
  | «syntax»=>
    obtain⟨tp,p,hv⟩:=hG.syn
    exact(Tryz.strconv_Atoi_syntax_var ⟨s.toArray⟩ (by simp [ByteArray.size];omega) h tp p w hv).mono fun e w' ⟨N,h1,_,_,h2⟩=>⟨_,h1,⟨0,_,true,rfl,.inr ⟨_,_,rfl,rfl⟩,(fun q=> by cases q),(fun _ n q=> by cases q)⟩,hS.belowAll h2⟩
  | range=>
    obtain⟨tp,p,hv⟩:=hG.rng
    exact(Tryz.strconv_Atoi_range_var ⟨s.toArray⟩ (by simp [ByteArray.size];omega) h tp p w hv).mono fun e w' ⟨N,h1,_,_,h2⟩=>⟨_,h1,⟨_,_,true,rfl,.inr ⟨_,_,rfl,rfl⟩,(fun q=> by cases q),(fun _ n q=> by cases q)⟩,hS.belowAll h2⟩
theorem ixb0 {w:World} {As:List Th} (hS:Sat w As) (s:Bs) (e:UInt8):Calls prog 123 #[strV s,byteV e] w (Ret fun v w'=>v=intV (Lib.indexByte s e)∧Sat w' As):= by
  refine(Tryz.strings_IndexByte ⟨s.toArray⟩ (e.toNat:Int) w).mono fun e' w' ⟨h1,h2⟩=>⟨_,h1, ?_, by rw[h2]; exact hS⟩
  simp
def Zl (e:UInt8) (least:Int) (s:Bs×Bool):Int:= match U5 e least s.1 with | some (n,_)=>n | none=>0
def Zh (e:UInt8) (least:Int) (s:Bs×Bool):Bs×Bool:= match U5 e least s.1 with | some (_,r)=>(r,s.2) | none=>([],true)
theorem HG {e:UInt8} {least:Int} {s:Bs×Bool} (h:U5 e least s.1=none):Zl e least s=0∧Zh e least s=([],true):= by simp [Zl,Zh,h]
theorem Mt {e:UInt8} {least n:Int} {s:Bs×Bool} {r:Bs} (h:U5 e least s.1=some (n,r)):Zl e least s=n∧Zh e least s=(r,s.2):= by simp [Zl,Zh,h]
theorem num_neg {e:UInt8} {least:Int} {r:Bs} (h:Lib.indexByte (r.take 21) e<0):U5 e least r=none:= by unfold U5; rw[if_pos h]
theorem Fh {e:UInt8} {least:Int} {r:Bs} {o:Nat} (h:Lib.indexByte (r.take 21) e=(o:Int)):U5 e least r= match Lib.atoiAll ((r.take 21).take o)with | .ok n=> if Lib.itoa n=(r.take 21).take o∧least≤n then some (n,r.drop (o+1))else none | _=>none:= by
  unfold U5; rw[h,if_neg (by omega)];rfl
theorem num_bad {e:UInt8} {least:Int} {r:Bs} {o:Nat} (h:Lib.indexByte (r.take 21) e=(o:Int)) (h2: ∀n,Lib.atoiAll ((r.take 21).take o)≠ .ok n):U5 e least r=none:= by
  rw[Fh h]
  cases hq:Lib.atoiAll ((r.take 21).take o)with
  | ok n=> exact absurd hq (h2 n)
  | «syntax»=>rfl
  | range=>rfl
theorem Lq {e:UInt8} {least x:Int} {r:Bs} {o:Nat} (h:Lib.indexByte (r.take 21) e=(o:Int)) (h2:Lib.atoiAll ((r.take 21).take o)= .ok x) (h3: ¬(Lib.itoa x=(r.take 21).take o∧least≤x)):U5 e least r=none:= by
  rw[Fh h,h2]; dsimp only; rw[if_neg h3]
theorem num_yes {e:UInt8} {least x:Int} {r:Bs} {o:Nat} (h:Lib.indexByte (r.take 21) e=(o:Int)) (h2:Lib.atoiAll ((r.take 21).take o)= .ok x) (h3:Lib.itoa x=(r.take 21).take o∧least≤x):U5 e least r=some (x,r.drop (o+1)):= by
  rw[Fh h,h2]; dsimp only; rw[if_pos h3]
theorem Bf {w:World} {F:Th} {b:Nat} {s:Bs×Bool} (hS:Sat w [UD b s,F]) (hG:Ent F WireG) (e:UInt8) (least:Int) (hrl:s.1.length≤9223372036854775806):
    Calls prog 100 #[ptrV b 0,byteV e,intV least] w (Ret fun v w'=>v=intV (Zl e least s)∧Sat w' [UD b (Zh e least s),F]):= by
 obtain⟨r,q⟩:=s
 dsimp only at hrl
 change Sat w [QR b [strV r,.bool q],F]at hS
 refine Qy func100 Qa ntmps100 Qa ?_
 refine Qg (Qb (Qc Qa Qa (Qh (Qe (Qg ?_)))))
 have hS1:=hS.drew
 refine QT [0,1,2,3,4,5,6,7,8,9,10,11] [] Jk (by kernel_rfl) ?_
 refine QM Qa Qa Qa (Xw Qa Qa Qa (QQ Qa Qa Qa Yb (QH Qa Qa Qa (Qn Qa Zw (hS1.cell 0 Qa Qa)) (QM Qa Qa Qa (Xw Qa Qa Qa (QQ Qa Qa Qa Yb (QH Qa Qa Qa (Qn Qa Zw (hS1.cell 0 Qa Qa)) (QG Qa Qa Qa (fun _=>(G9 underlying9 Qa)) ?_))))))))
 refine QG Qa Qa Qa (fun _=>(Dw Qa Qa)) ?_
 refine QG Qa Qa Qa (fun _=>(V1 0 (min 21 r.length) underlying9 Qa (V4 _) (HP (min 21 r.length) _ Qa (by omega)) (by omega) (by omega))) ?_
 refine Jr Qa Qa Qa (VC.nil ?_)
 rw[show List.drop 0 (List.take (min 21 r.length) r)=r.take 21 by rw[List.drop_zero,←List.take_eq_take_min]]
 refine Qe (Qk [2,1,0,6,7] Qa (Qg (Qb (Qd Qa Qa (Qd Qa Qa (Q4 cal_123 Qa (ixb0 (hS1.sp [] Qa) _ e) Qa ?_))))))
 rintro _ w2 ⟨rfl,hS2⟩
 replace hS2:=hS2.jn Qa Qa
 refine Qc Qa Qa (Qh (Qe (Qg (Qg (Qb (Qd Qa Qa (Xz Qa Qa Qa (Qh (Qe (Qk [2,0,6,7,8,26] Qa (Qw Qa (fun h3=> ?_) (fun h3=> ?_))))))))))))
 ·refine Qg (Qb (Qd Qa Qa (Q4 Rl Qa (Vg (s:=(r,q)) (hS2.sp [0] Qa)) Qa ?_)))
  rintro _ w4 ⟨rfl,hS4⟩
  replace hS4:=hS4.jn Qa Qa
  refine Qh (Qe (Qg (Qb (Qc Qa Qa (Qh (Qe (Qo (Qm (Q7 (.inr Qa) Qa Qa ?_)))))))))
  have hnp:U5 e least r=none:=num_neg (by assumption)
  exact⟨_,rfl, by rw[(HG (s:=(r,q)) hnp).1], by rw[(HG (s:=(r,q)) hnp).2]; exact hS4⟩
 obtain⟨o,hio⟩: ∃o:Nat,Lib.indexByte (r.take 21) e=(o:Int):=⟨(Lib.indexByte (r.take 21) e).toNat, by omega⟩
 have hol:=(Jo (Lib.indexByte_some hio).1).1
 have hol2:o<r.length:= by simp at hol;omega
 have htl:(r.take 21).length≤21:= by simp;omega
 rw[hio]
 refine Qr (Qe (Qg (Qb (Qd Qa Qa (Qd Qa Qa (Hx 0 o underlying9 Qa (V4 _) (HP o _ Qa Qa) (by omega) (by omega) Qa ?_))))))
 rw[List.drop_zero]
 have hC5:=hS2.sp [] Qa
 refine Q4 cal_124 Qa (atoi0 hC5 (Ent.sat (hG.starL 1 Qa) hC5 0 Qa) _ (by simp;omega)) Qa ?_
 rintro _ w5 ⟨⟨x,ev,g,rfl,hev,hok,hbad⟩,hS5⟩
 replace hS5:=hS5.jn Qa Qa; clear hC5
 refine Qd Qa Qa (Q9 Qa Qa Qa (Q9 Qa Qa Qa (Qc Qa Qa (Qc Qa Qa (Qh (Qe (Qk [2,0,6,7,8,9,10] Qa (Qg (Qg ?_)))))))))
 have hS6:=hS5.drew
 refine QT [0,1,2,3,5,6,7,4,8,9,10,11,12,13,14] [4] Jk (by kernel_rfl) ?_
 refine QM Qa Qa Qa (QG Qa Qa Qa (fun _=>(Sf isErr hev Qa)) ?_)
 refine QM Qa Qa Qa (Kg 38 Qa (fun h7=> ?_) (fun h7=> ?_))
 ·refine Q2 Qa Qa (Qs Qa Qa h7) (Q2 Qa Qa (Qs Qa Qa h7) (Q2 Qa Qa (Qs Qa Qa h7) (Q2 Qa Qa (Qs Qa Qa h7) (VC.spineNot Qa Qa (Qs Qa Qa h7) (Q2 Qa Qa (Qs Qa Qa h7) (QG Qa Qa Qa (fun _=>(XL Qa h7 Qa)) ?_))))))
  refine QM Qa Qa Qa (Q2 Qa Qa (Qs Qa Qa Qa) (Q2 Qa Qa (Qs Qa Qa Qa) (Q2 Qa Qa (Qs Qa Qa Qa) (QG Qa Qa Qa (fun _=>(XL Qa Qa Qa)) ?_))))
  refine VC.nil (Qe (Qk [0,6,8,9,50] Qa (QL Qa (Qg (Qb (Qd Qa Qa (Q4 Rl Qa (Vg (s:=(r,q)) (hS6.sp [0] Qa)) Qa ?_)))))))
  rintro _ w8 ⟨rfl,hS8⟩
  replace hS8:=hS8.jn Qa Qa
  refine Qh (Qe (Qg (Qb (Qc Qa Qa (Qh (Qe (Qo (Qm (Q7 (.inr Qa) Qa Qa ?_)))))))))
  have hnp:U5 e least r=none:=num_bad hio (hbad (by assumption))
  exact⟨_,rfl, by rw[(HG (s:=(r,q)) hnp).1], by rw[(HG (s:=(r,q)) hnp).2]; exact hS8⟩
 refine QG Qa Qa (Qt Qa Qa h7) (fun _=>(Ev.gd (XA Qa))) ?_
 refine QG Qa Qa (Qt Qa Qa h7) (fun _=>(Ev.gd (XA Qa))) ?_
 refine QG Qa Qa (Qt Qa Qa h7) (fun _=>(Ev.gd (XA Qa))) ?_
 refine QG Qa Qa (Qt Qa Qa h7) (fun _=>(Ev.gd (V1 0 o underlying9 Qa (V4 _) (HP o _ Qa Qa) (by omega) (by omega)))) ?_
 refine Xb Qa Qa (Qt Qa Qa h7) Qa Qa Qa ?_
 have hC9:=hS6.sp [] Qa
 refine Q4 Nx Qa (Il hC9 (Ent.sat (hG.starL 1 Qa) hC9 0 Qa) x (Ed (hok (by assumption)))) Qa ?_
 rintro _ w9 ⟨rfl,hS9⟩
 replace hS9:=hS9.jn Qa Qa; clear hC9
 refine Xn .nil (QG Qa Qa (Qt Qa Qa h7) (fun _=>(Ev.gd (LI Qa Qa))) ?_)
 refine QG Qa Qa Qa (fun _=>(X0 Qa h7 Qa)) ?_
 refine QM Qa Qa Qa (ZK 46 Qa (fun h10=> ?_) (fun h10=> ?_))
 ·refine Q2 Qa Qa (Qs Qa Qa (Q8 h10)) (Q2 Qa Qa (Qs Qa Qa (Q8 h10)) (Q2 Qa Qa (Qs Qa Qa (Q8 h10)) (QG Qa Qa Qa (fun _=>(XL Qa (Q8 h10) Qa)) ?_)))
  refine VC.nil (Qe (Qk [0,6,8,9,50] Qa (QL Qa (Qg (Qb (Qd Qa Qa (Q4 Rl Qa (Vg (s:=(r,q)) (hS9.sp [0] Qa)) Qa ?_)))))))
  rintro _ w11 ⟨rfl,hS11⟩
  replace hS11:=hS11.jn Qa Qa
  refine Qh (Qe (Qg (Qb (Qc Qa Qa (Qh (Qe (Qo (Qm (Q7 (.inr Qa) Qa Qa ?_)))))))))
  have hnp:U5 e least r=none:=Lq hio (hok (by assumption)) (by rintro⟨q1,q2⟩;first | omega | (simp_all;done))
  exact⟨_,rfl, by rw[(HG (s:=(r,q)) hnp).1], by rw[(HG (s:=(r,q)) hnp).2]; exact hS11⟩
 refine QG Qa Qa (Qt Qa Qa (Qv h10)) (fun _=>(Ev.gd (XA Qa))) ?_
 refine QG Qa Qa (Qt Qa Qa (Qv h10)) (fun _=>(Ev.gd (XA Qa))) ?_
 refine QG Qa Qa (Qt Qa Qa (Qv h10)) (fun _=>(Ev.gd (MF Qa Qa))) ?_
 refine QG Qa Qa Qa (fun _=>(X0 Qa (Qv h10) Qa)) ?_
 refine VC.nil (Qe (Qk [0,6,8,9,50] Qa (Qw Qa (fun h12=> ?_) (fun h12=> ?_))))
 ·refine Qg (Qb (Qd Qa Qa (Q4 Rl Qa (Vg (s:=(r,q)) (hS9.sp [0] Qa)) Qa ?_)))
  rintro _ w13 ⟨rfl,hS13⟩
  replace hS13:=hS13.jn Qa Qa
  refine Qh (Qe (Qg (Qb (Qc Qa Qa (Qh (Qe (Qo (Qm (Q7 (.inr Qa) Qa Qa ?_)))))))))
  have hnp:U5 e least r=none:=Lq hio (hok (by assumption)) (by rintro⟨q1,q2⟩;first | omega | (simp_all;done))
  exact⟨_,rfl, by rw[(HG (s:=(r,q)) hnp).1], by rw[(HG (s:=(r,q)) hnp).2]; exact hS13⟩
 refine Qr (Qe (Qg (Qb (Qd Qa Qa (Qd Qa Qa (Ql Qa Qa (Qi Qa Yb Qa (Qp Qa Zw (hS9.cell 0 Qa Qa) Qa (Qd Qa Qa (Xq Qa Qa (by omega) (by omega) Qa ?_))))))))))
 refine Hx (o+1) r.length underlying9 Qa (HP (o+1) _ Qa Qa) (V4 _) (by omega) (by omega) Qa ?_
 rw[List.take_length]
 refine Ql Qa Qa (Qi Qa Yb Qa ?_)
 first | (refine QC hS9 Qa Qa R8 (by rfl) (i:=0) Qa (Xe Qa) ?_)
 intro w14 hS15; dsimp only[List.set]at hS15
 refine Qh (Qe (Qk [6,9] Qa (Qg (Qb (Qd Qa Qa (Qc Qa Qa (Qh (Qe (Qo (Q7 (.inr Qa) Qa Qa ?_))))))))))
 have hnp:U5 e least r=some (x,r.drop (o+1)):=num_yes hio (hok (by assumption)) ⟨Decidable.not_not.1 (by assumption), by omega⟩
 exact⟨_,rfl, by rw[(Mt (s:=(r,q)) hnp).1], by rw[(Mt (s:=(r,q)) hnp).2]; exact hS15⟩
theorem UE {w:World} {F:Th} {b:Nat} {s:Bs×Bool} (hS:Sat w [UD b s,F]) (hG:Ent F WireG) (hrl:s.1.length≤9223372036854775806):
    Calls prog 68 #[ptrV b 0] w (Ret fun v w'=>v=intV (Zl 59 (-9223372036854775808) s)∧Sat w' [UD b (Zh 59 (-9223372036854775808) s),F]):= by
 refine Qy func68 Qa ntmps68 Qa ?_
 refine Qg (Qb (Qc Qa Qa (Qh (Qe (Qg (Qb (Qd Qa Qa (Q4 N1 Qa (Bf (hS.sp [0] Qa) (hG.starL 0 Qa) 59 (-9223372036854775808) hrl) Qa ?_))))))))
 rintro _ w1 ⟨rfl,hS1⟩
 replace hS1:=hS1.jn Qa Qa
 exact Qc Qa Qa (Qh (Qe (Qo (Q7 (.inr Qa) Qa Qa (⟨_,Qa,Qa,hS1⟩)))))
theorem rNum_sp {w:World} {F:Th} {b:Nat} {s:Bs×Bool} (hS:Sat w [UD b s,F]) (hG:Ent F WireG) (hrl:s.1.length≤9223372036854775806):
    Calls prog 127 #[ptrV b 0] w (Ret fun v w'=>v=intV (Zl 59 0 s)∧Sat w' [UD b (Zh 59 0 s),F]):= by
 refine Qy func127 Qa ntmps127 Qa ?_
 refine Qg (Qb (Qc Qa Qa (Qh (Qe (Qg (Qb (Qd Qa Qa (Q4 N1 Qa (Bf (hS.sp [0] Qa) (hG.starL 0 Qa) 59 0 hrl) Qa ?_))))))))
 rintro _ w1 ⟨rfl,hS1⟩
 replace hS1:=hS1.jn Qa Qa
 exact Qc Qa Qa (Qh (Qe (Qo (Q7 (.inr Qa) Qa Qa (⟨_,Qa,Qa,hS1⟩)))))
def To (e:UInt8) (s:Bs×Bool):Bs×Bool:= match s.1 with | c::r=> if c=e then(r,s.2)else([],true) | []=>([],true)
def V8 (s:Bs×Bool):Bs:= if((Zh 58 0 s).1.length:Int)<Zl 58 0 s then[]else if(To 44 ((Zh 58 0 s).1.drop (Zl 58 0 s).toNat,(Zh 58 0 s).2)).2=true then[]else(Zh 58 0 s).1.take (Zl 58 0 s).toNat
def Uo (s:Bs×Bool):Bs×Bool:= if((Zh 58 0 s).1.length:Int)<Zl 58 0 s then([],true)else To 44 ((Zh 58 0 s).1.drop (Zl 58 0 s).toNat,(Zh 58 0 s).2)
def HO (s:Bs):Bs:=Lib.itoa (s.length:Int)++[58]++s++[44]
structure PipeD where
  d:Bs
  r:Int
  w:Int
theorem EM {e:UInt8} {least m:Int} {rest:Bs} (he:57<e.toNat) (hm:Xy m) (hl:least≤m):U5 e least (Lib.itoa m++e::rest)=some (m,rest):= by
  have :=EN (e:=e) (least:=least) (m:=m) (r:=Lib.itoa m++e::rest) (k:=(Lib.itoa m).length) he (by rw[List.getElem?_append_right (Nat.le_refl _)]; simp) hm hl (by rw[List.take_left']<;>rfl)
  rw[this,List.drop_append,List.drop_eq_nil_of_le (by omega)]
  simp
theorem Pq {e:UInt8} {least m:Int} {rest:Bs} {b:Bool} (he:57<e.toNat) (hm:Xy m) (hl:least≤m):Zl e least (Lib.itoa m++e::rest,b)=m∧Zh e least (Lib.itoa m++e::rest,b)=(rest,b):=Mt (EM he hm hl)
theorem NG {s rest:Bs} (hs:s.length≤100000000000):V8 (HO s++rest,false)=s∧Uo (HO s++rest,false)=(rest,false):= by
  have e:HO s++rest=Lib.itoa (s.length:Int)++58::(s++44::rest):= by simp [HO]
  have hn:=Pq (e:=58) (least:=0) (m:=(s.length:Int)) (rest:=s++44::rest) (b:=false) (by decide) (by unfold Xy;omega) (by omega)
  unfold V8 Uo
  rw[e,hn.1,hn.2]
  have h1: ¬(((s++44::rest,false):Bs×Bool).1.length:Int)<(s.length:Int):= by simp;omega
  rw[if_neg h1,if_neg h1]
  simp [To]
theorem Sr {e:UInt8} {l:Bs} {b:Bool}:To e (l,b)= if Lib.hasPrefix l [e]=true then(l.drop 1,b)else([],true):= by
  cases l with
  | nil=>rfl
  | cons c l=>
    have hp:Lib.hasPrefix (c::l) [e]=decide (c=e):= by
      unfold Lib.hasPrefix
      rw[Bool.eq_iff_iff]
      simp only[List.isPrefixOf,Bool.and_true,beq_iff_eq,decide_eq_true_eq]
      exact⟨fun q=>q.symm, fun q=>q.symm⟩
    rw[hp]
    simp only[To,decide_eq_true_eq,List.drop_succ_cons,List.drop_zero]
theorem Lr (e:UInt8) (s:Bs×Bool):0≤Zl e 0 s:= by
  unfold Zl
  split
  · rename_i n r h; exact(Bg h).2.2
  · omega
theorem XO (e:UInt8) (l:Int) (s:Bs×Bool):(Zh e l s).1.length≤s.1.length:= by
  unfold Zh
  split
  · rename_i n r h; rw[(Bg h).1]; simp only[List.length_append,List.length_cons];omega
  · simp
theorem IQ (e:UInt8) (s:Bs×Bool):(To e s).1.length≤s.1.length:= by
  obtain⟨l,b⟩:=s
  cases l with
  | nil=> simp [To]
  | cons c l=> simp only[To];split<;> simp
theorem NH (s:Bs×Bool):(Uo s).1.length≤s.1.length:= by
  have h1:=XO 58 0 s
  unfold Uo
  split
  · simp
  · refine Nat.le_trans (IQ _ _) ?_
    simp only[List.length_drop];omega
theorem Yl (e:UInt8) (least:Int) (s:Bs×Bool):Xy (Zl e least s):= by
  unfold Zl
  split
  · rename_i n r h; exact(Bg h).2.1
  · unfold Xy;omega
theorem hpi0 {w:World} {As:List Th} (hS:Sat w As) (s t:Bs):Calls prog 157 #[strV s,strV t] w (Ret fun v w'=>v= .bool (Lib.hasPrefix s t)∧Sat w' As):=
  (Tryz.stringslite_HasPrefix ⟨s.toArray⟩ ⟨t.toArray⟩ w).mono fun e w' ⟨h1,h2⟩=>⟨_,h1,rfl, by rw[h2]; exact hS⟩
theorem Tl {s t:Bs} (h:Lib.hasPrefix s t=true):t.length≤s.length:= by
  unfold Lib.hasPrefix at h
  exact(List.isPrefixOf_iff_prefix.1 h).length_le
theorem IR {w:World} {F:Th} (hS:Sat w [F]) (s t:Bs):
    Calls prog 137 #[strV s,strV t] w (Ret fun v w'=>v= .tuple #[strV (if Lib.hasPrefix s t=true then s.drop t.length else s),.bool (Lib.hasPrefix s t)]∧Sat w' [F]):= by
 refine Qy func137 Qa ntmps137 Qa ?_
 refine Qg (Qb (Qc Qa Qa (Qc Qa Qa (Qh (Qe (Qg (Qg (Qb (Qd Qa Qa (Qd Qa Qa (Q4 cal_157 Qa (hpi0 (hS.sp [] Qa) s t) Qa ?_)))))))))))
 rintro _ w1 ⟨rfl,hS1⟩
 replace hS1:=hS1.jn Qa Qa
 refine XS Qa Qa (Qh (Qe (Xd Qa (fun h2=> ?_) (fun h2=> ?_))))
 ·refine Qg (Qb (Qd Qa Qa (Qc Qa Qa (Qc Qa Qa (Qh (Qe (Qo (Qm (ZI (.inr Qa) Qa Qa Qa ?_)))))))))
  exact⟨_,rfl, by rw[if_neg (by simp_all), show Lib.hasPrefix s t=false by simp_all],hS1⟩
 have htl:t.length≤s.length:=Tl (by simp_all)
 refine Qr (Qe (Qg (Qb (Qd Qa Qa (Qd Qa Qa (Zs underlying9 Qa Qa (Hx t.length s.length underlying9 Qa (HP t.length _ Qa Qa) (V4 _) (by omega) (by omega) Qa ?_)))))))
 rw[List.take_length]
 refine Qc Qa Qa (Qc Qa Qa (Qh (Qe (Qk [4,5] Qa (Qo (ZI (.inr Qa) Qa Qa Qa ?_))))))
 exact⟨_,rfl, by rw[if_pos (by simp_all), show Lib.hasPrefix s t=true by simp_all],hS1⟩
theorem cutS_sp {w:World} {F:Th} (hS:Sat w [F]) (s t:Bs):
    Calls prog 125 #[strV s,strV t] w (Ret fun v w'=>v= .tuple #[strV (if Lib.hasPrefix s t=true then s.drop t.length else s),.bool (Lib.hasPrefix s t)]∧Sat w' [F]):= by
 refine Qy func125 Qa ntmps125 Qa ?_
 refine Qg (Qb (Qc Qa Qa (Qc Qa Qa (Qh (Qe (Qg (Qb (Qd Qa Qa (Qd Qa Qa (Q4 cal_137 Qa (IR (hS.sp [] Qa) s t) Qa ?_))))))))))
 rintro _ w1 ⟨rfl,hS1⟩
 replace hS1:=hS1.jn Qa Qa
 exact Q9 Qa Qa Qa (Q9 Qa Qa Qa (Qc Qa Qa (Qc Qa Qa (Qh (Qe (Qo (ZI (.inr Qa) Qa Qa Qa (⟨_,Qa,Qa,hS1⟩))))))))
theorem NF {w:World} {F:Th} (hS:Sat w [F]) (hG:Ent F WireG) (s:Bs) (hs:s.length≤100000000000):
    Calls prog 108 #[strV s] w (Ret fun v w'=>v=strV (HO s)∧Sat w' [F]):= by
 refine Qy func108 Qa ntmps108 Qa ?_
 refine Qg (Qb (Qc Qa Qa (Qh (Qe (Qg (Qb (Qd Qa Qa (Zs underlying9 Qa Qa ?_))))))))
 have hC1:=hS.sp [] Qa
 refine Q4 Nx Qa (Il hC1 (Ent.sat (hG.starL 0 Qa) hC1 0 Qa) (s.length:Int) (by unfold Xy;omega)) Qa ?_
 rintro _ w1 ⟨rfl,hS1⟩
 replace hS1:=hS1.jn Qa Qa; clear hC1
 have hil:=WQ (n:=(s.length:Int)) (by unfold Xy;omega)
 refine Vf Qa Qa (by(simp;omega)) Qa ?_
 refine Qd Qa Qa ?_
 refine Vf Qa Qa (by(simp;omega)) Qa ?_
 refine Vf Qa Qa (by(simp;omega)) Qa ?_
 refine Qc Qa Qa (Qh (Qe (Qo (Q7 (.inr Qa) Qa Qa ?_))))
 exact⟨_,rfl, by simp [HO],hS1⟩
theorem E7 {w:World} {F:Th} {b:Nat} {s:Bs×Bool} (hS:Sat w [UD b s,F]) (e:UInt8):
    Calls prog 102 #[ptrV b 0,strV [e]] w (Ret fun v w'=>v= .tuple #[]∧Sat w' [UD b (To e s),F]):= by
 obtain⟨r,q⟩:=s
 change Sat w [QR b [strV r,.bool q],F]at hS
 refine Qy func102 Qa ntmps102 Qa ?_
 refine Qg (Qb (Qd Qa Qa (Ql Qa Qa (Qi Qa Yb Qa (Qp Qa Zw (hS.cell 0 Qa Qa) Qa (Qd Qa Qa (Q4 cal_125 Qa (cutS_sp (hS.sp [] Qa) r [e]) Qa ?_)))))))
 rintro _ w1 ⟨rfl,hS1⟩
 replace hS1:=hS1.jn Qa Qa
 refine Qd Qa Qa (Q9 Qa Qa Qa (Q9 Qa Qa Qa (Qc Qa Qa (Qc Qa Qa (Qh (Qe (Qk [0,4,5] Qa (Qg (Qb (Qd Qa Qa (Qd Qa Qa (Ql Qa Qa (Qi Qa Yb Qa ?_)))))))))))))
 first | (refine QC hS1 Qa Qa R8 (by rfl) (i:=0) Qa (Xe Qa) ?_)
 intro w2 hS3; dsimp only[List.set]at hS3
 refine Qh (Qe (Qg (Qb (Qd Qa Qa (XS Qa Qa (Qh (Qe (Xd Qa (fun h4=> ?_) (fun h4=> ?_)))))))))
 ·have hp1: ¬Lib.hasPrefix r [e]=true:= by simp_all
  rw[if_neg hp1]at hS3
  refine Qb (Qd Qa Qa (Q4 Rl Qa (Vg (s:=(r,q)) (hS3.sp [0] Qa)) Qa ?_))
  rintro _ w5 ⟨rfl,hS5⟩
  replace hS5:=hS5.jn Qa Qa
  refine Qh (H5 (.inl Qa) Qa ?_)
  exact⟨_,rfl,rfl, by rw[Sr,if_neg (by simp_all)]; exact hS5⟩
 have hp1:Lib.hasPrefix r [e]=true:= by simp_all
 rw[if_pos hp1]at hS3
 refine Qr (H5 (.inl Qa) Qa ?_)
 exact⟨_,rfl,rfl, by rw[Sr,if_pos (by simp_all)]; exact hS3⟩
theorem Pb {w:World} {F:Th} {b:Nat} {s:Bs×Bool} (hS:Sat w [UD b s,F]) (hG:Ent F WireG) (hrl:s.1.length≤100000000000):
    Calls prog 69 #[ptrV b 0] w (Ret fun v w'=>v=strV (V8 s)∧Sat w' [UD b (Uo s),F]):= by
 refine Qy func69 Qa ntmps69 Qa ?_
 refine Qg (Qb (Qc Qa Qa (Qh (Qe (Qg (Qb (Qd Qa Qa (Q4 N1 Qa (Bf (hS.sp [0] Qa) (hG.starL 0 Qa) 58 0 (by omega)) Qa ?_))))))))
 rintro _ w1 ⟨rfl,hS1⟩
 replace hS1:=hS1.jn Qa Qa
 obtain⟨k,hk⟩: ∃k:Nat,Zl 58 0 s=(k:Int):=⟨(Zl 58 0 s).toNat, by have :=Lr 58 s;omega⟩
 rw[hk]
 have hnl:=XO 58 0 s
 rcases hN:Zh 58 0 s with⟨r1,q1⟩
 rw[hN]at hS1 hnl
 dsimp only at hnl
 change Sat w1 [QR b [strV r1,.bool q1],F]at hS1
 refine Qc Qa Qa (Qh (Qe (Qg (Qg (Qb (Qd Qa Qa (Qd Qa Qa (Ql Qa Qa (Qi Qa Yb Qa (Qp Qa Zw (hS1.cell 0 Qa Qa) Qa (Zs underlying9 Qa Qa (We Qa Qa Qa (Qh (Qe (Qk [0,2,3,13] Qa (Qw Qa (fun h2=> ?_) (fun h2=> ?_)))))))))))))))))
 ·refine Qg (Qb (Qd Qa Qa (Q4 Rl Qa (Vg (s:=(r1,q1)) (hS1.sp [0] Qa)) Qa ?_)))
  rintro _ w3 ⟨rfl,hS3⟩
  replace hS3:=hS3.jn Qa Qa
  refine Qh (Qe (Qg (Qb (Qc Qa Qa (Qh (Qe (Qo (Qm (Q7 (.inr Qa) Qa Qa ?_)))))))))
  exact⟨_,rfl, by unfold V8; rw[hN,hk]; dsimp only; rw[if_pos (by omega)], by unfold Uo; rw[hN,hk]; dsimp only; rw[if_pos (by omega)]; exact hS3⟩
 refine Qr (Qe (Qg (Qb (Qd Qa Qa (Ql Qa Qa (Qi Qa Yb Qa (Qp Qa Zw (hS1.cell 0 Qa Qa) Qa (Qd Qa Qa (Hx 0 k underlying9 Qa (V4 _) (HP k _ Qa Qa) (by omega) (by omega) Qa ?_)))))))))
 rw[List.drop_zero]
 refine Qc Qa Qa (Qh (Qe (Qk [0,2,3,4] Qa (Qg (Qb (Qd Qa Qa (Qd Qa Qa (Ql Qa Qa (Qi Qa Yb Qa (Qp Qa Zw (hS1.cell 0 Qa Qa) Qa (Qd Qa Qa (Hx k r1.length underlying9 Qa (HP k _ Qa Qa) (V4 _) (by omega) (by omega) Qa ?_))))))))))))
 rw[List.take_length]
 refine Ql Qa Qa (Qi Qa Yb Qa ?_)
 first | (refine QC hS1 Qa Qa R8 (by rfl) (i:=0) Qa (Xe Qa) ?_)
 intro w4 hS5; dsimp only[List.set]at hS5
 refine Qh (Qe (Qk [0,2,4] Qa (Qg (Qg (Qb (Qd Qa Qa (Q4 cal_102 Qa (E7 (s:=(r1.drop k,q1)) (hS5.sp [0] Qa) 44) Qa ?_)))))))
 rintro _ w6 ⟨rfl,hS6⟩
 replace hS6:=hS6.jn Qa Qa
 rcases hC2:To 44 (r1.drop k,q1)with⟨r2,q2⟩
 rw[hC2]at hS6
 refine Qh (Qe (Qg (Qb (Qd Qa Qa (Ql Qa Qa (Qi Qa PV Qa (Qp Qa JT (hS6.cell 0 Qa Qa) Qa (Qh (Qe (Xd Qa (fun h7=> ?_) (fun h7=> ?_)))))))))))
 ·obtain rfl:q2=true:=h7
  refine Qg (Qb (Qc Qa Qa (Qh (Qe (Qo (Qm (Q7 (.inr Qa) Qa Qa ?_)))))))
  exact⟨_,rfl, by unfold V8; rw[hN,hk]; dsimp only; rw[if_neg (by omega),Int.toNat_natCast,hC2];rfl, by unfold Uo; rw[hN,hk]; dsimp only; rw[if_neg (by omega),Int.toNat_natCast,hC2]; exact hS6⟩
 obtain rfl:q2=false:=h7
 refine Qr (Qe (Qg (Qb (Qd Qa Qa (Qc Qa Qa (Qh (Qe (Qo (Q7 (.inr Qa) Qa Qa ?_)))))))))
 exact⟨_,rfl, by unfold V8; rw[hN,hk]; dsimp only; rw[if_neg (by omega),Int.toNat_natCast,hC2];rfl, by unfold Uo; rw[hN,hk]; dsimp only; rw[if_neg (by omega),Int.toNat_natCast,hC2]; exact hS6⟩
