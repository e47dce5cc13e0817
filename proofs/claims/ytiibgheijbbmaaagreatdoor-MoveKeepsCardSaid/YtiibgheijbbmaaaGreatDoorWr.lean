/- wire: numbers -/
import Derived.Test.YtiibgheijbbmaaaGreatDoorWire
import Derived.Test.YtiibgheijbbmaaaGreatDoorCellP
set_option linter.unusedVariables false
set_option maxRecDepth 100000
namespace Go.Proofs.YtiibgheijbbmaaaGreatDoor
open Go.RowKit M Proofs.Tryz
theorem AZ {w:World} {As:List Th} (hS:Sat w As) (k:Nat) (os:Array Obj):Sat (Go.Sort.grow (w.drewN k) os) As:= by
  refine hS.only ⟨rfl,rfl,rfl, by simp [Go.Sort.grow], fun j hj _=> ?_⟩
  have :j<(w.drewN k).heap.size:=hj
  show(w.heap++os)[j]? =w.heap[j]?
  rw[Array.getElem?_append_left hj]
structure WireG (w:World):Prop where
  tab : Lib.TabIs prog w "internal/strconv.uint64pow10" .u64 Lib.pow10Tab
  syn : ∃ tp p, w.var? prog "strconv.ErrSyntax" = some #[.iface tp p]
  rng : ∃ tp p, w.var? prog "strconv.ErrRange" = some #[.iface tp p]
theorem GU {P:Program} {W w:World} {name:String} {v:Array Value} (h:W.var? P name=some v) (hb:RowKit.Below W.heap.size W w):w.var? P name=some v:= by
  unfold World.var? at *
  cases hg:P.globalNamed name with
  | none=> simp [hg]at h
  | some g=>
    simp only[hg,Option.bind_some]at h⊢
    have hlt:g<W.heap.size:= by
      rcases Nat.lt_or_ge g W.heap.size with q | q
      · exact q
      · rw[Array.getElem?_eq_none q]at h; cases h
    rw[hb.block g hlt]; exact h
theorem WireG.below {W w:World} (h:WireG W) (hb:RowKit.Below W.heap.size W w):WireG w:=
  ⟨GU h.tab hb,let ⟨a,b,h⟩:=h.syn;⟨a,b,GU h hb⟩,let ⟨a,b,h⟩:=h.rng;⟨a,b,GU h hb⟩⟩
theorem OE {w:World} {As:List Th} (hS:Sat w As) (hG:WireG w) (n:Int) (hn:X5 n):Calls prog 112 #[intV n] w (Ret fun v w'=>v=strV (Lib.itoa n)∧Sat w' As):=
  (Tryz.strconv_Itoa n hn.1 hn.2 w hG.tab).mono fun e w' ⟨h1,k,os,h2⟩=>⟨_,h1,rfl, by rw[h2]; exact AZ hS k os⟩
theorem YS {w:World} {F:Th} (hS:Sat w [F]) (hG:Ent F WireG) (n:Int) (hn:X5 n):
    Calls prog 90 #[intV n] w (Ret fun v w'=>v=strV (Lib.itoa n++[59])∧Sat w' [F]):= by
 refine Qx func90 Qa ntmps90 Qa ?_
 have hil:=(WT hn).1
 refine Qg (Qb (Qc Qa Qa (Qh (Qd (Qg (Qb (Qe Qa Qa ?_)))))))
 have hC1:=hS.sp [] Qa
 refine Qz Ny Qa (OE hC1 (Ent.sat (hG.starL 0 Qa) hC1 0 Qa) n hn) Qa ?_
 rintro _ w1 ⟨rfl,hS1⟩
 replace hS1:=hS1.jn Qa Qa; clear hC1
 refine Vb Qa Qa (by(simp;omega)) Qa ?_
 exact Qc Qa Qa (Qh (Qd (Qo (Q5 (.inr Qa) Qa Qa (⟨_,Qa,Qa,hS1⟩)))))
def UD (b:Nat) (s:Bs×Bool):Th:=QR b [strV s.1,.bool s.2]
theorem DG {w:World} {F:Th} (hS:Sat w [F]) (s:Bs):
    Calls prog 67 #[strV s] w (Ret fun v w'=> ∃b,v=ptrV b 0∧Sat w' [UD b (s,false),F]):= by
 refine Qx func67 Qa ntmps67 Qa ?_
 refine Qg (Qb (Qc Qa Qa (Qh (Qd (Qg (Qb (Qe Qa Qa (Zi Qa Ol asz_142 zr_142 Qa Qa (XT hS Qa Qa Qa ?_)))))))))
 intro b1 w1 hS1
 exact Qc Qa Qa (Qh (Qd (Qo (Q5 (.inr Qa) Qa Qa (⟨_,Qa,_,Qa,hS1⟩)))))
theorem Vc {w:World} {F:Th} {b:Nat} {s:Bs×Bool} (hS:Sat w [UD b s,F]):
    Calls prog 101 #[ptrV b 0] w (Ret fun v w'=>v= .tuple #[]∧Sat w' [UD b ([],true),F]):= by
 refine Qx func101 Qa ntmps101 Qa ?_
 refine Qb (Qe Qa Qa (Qe Qa Qa (Ql Qa Qa (Qi Qa JR Qa ?_))))
 first | (refine Q7 hS Qa Qa R2 (by rfl) (i:=0) Qa (Xd Qa) ?_)
 intro w1 hS2; dsimp only[List.set]at hS2
 refine Ql Qa Qa (Qi Qa PV Qa ?_)
 first | (refine Q7 hS2 Qa Qa Jd (by rfl) (i:=0) Qa (Xd Qa) ?_)
 intro w3 hS4; dsimp only[List.set]at hS4
 exact Qh (Y4 (.inl Qa) Qa (⟨_,Qa,Qa,hS4⟩))
theorem isErr:Gk prog 151=true:= by kernel_rfl
theorem atoi0 {w:World} {As:List Th} (hS:Sat w As) (hG:WireG w) (s:Bs) (hs:s.length≤100000000000):Calls prog 124 #[strV s] w (Ret fun v w'=>(∃x ev g,v= .tuple #[intV x,ev]∧((ev= .nilIface∧g=false)∨ ∃a b,ev= .iface a b∧g=true)∧(g=false→Lib.atoiAll s= .ok x)∧(g=true→ ∀n,Lib.atoiAll s≠ .ok n))∧Sat w' As):= by
  cases h:Lib.atoiAll s with
  | ok n=>
    refine(Tryz.strconv_Atoi_ok ⟨s.toArray⟩ (by simp [ByteArray.size];omega) n h w).mono fun e w' ⟨h1,h2⟩=>⟨_,h1,⟨n,_,false,rfl,.inl ⟨rfl,rfl⟩,(fun _=>rfl),(fun q=> by cases q)⟩, ?_⟩
    rcases h2 with rfl | ⟨t,rfl⟩
    · exact hS
    · exact hS.belowAll (Lib.bytesWorld_below _ _ _)
  | «syntax»=>
    obtain⟨tp,p,hv⟩:=hG.syn
    exact(Tryz.strconv_Atoi_syntax_var ⟨s.toArray⟩ (by simp [ByteArray.size];omega) h tp p w hv).mono fun e w' ⟨N,h1,_,_,h2⟩=>⟨_,h1,⟨0,_,true,rfl,.inr ⟨_,_,rfl,rfl⟩,(fun q=> by cases q),(fun _ n q=> by cases q)⟩,hS.belowAll h2⟩
  | range=>
    obtain⟨tp,p,hv⟩:=hG.rng
    exact(Tryz.strconv_Atoi_range_var ⟨s.toArray⟩ (by simp [ByteArray.size];omega) h tp p w hv).mono fun e w' ⟨N,h1,_,_,h2⟩=>⟨_,h1,⟨_,_,true,rfl,.inr ⟨_,_,rfl,rfl⟩,(fun q=> by cases q),(fun _ n q=> by cases q)⟩,hS.belowAll h2⟩
theorem ixb0 {w:World} {As:List Th} (hS:Sat w As) (s:Bs) (e:UInt8):Calls prog 123 #[strV s,byteV e] w (Ret fun v w'=>v=intV (Lib.indexByte s e)∧Sat w' As):= by
  refine(Tryz.strings_IndexByte ⟨s.toArray⟩ (e.toNat:Int) w).mono fun e' w' ⟨h1,h2⟩=>⟨_,h1, ?_, by rw[h2]; exact hS⟩
  simp
def Zg (e:UInt8) (least:Int) (s:Bs×Bool):Int:= match U4 e least s.1 with | some (n,_)=>n | none=>0
def Zd (e:UInt8) (least:Int) (s:Bs×Bool):Bs×Bool:= match U4 e least s.1 with | some (_,r)=>(r,s.2) | none=>([],true)
theorem HA {e:UInt8} {least:Int} {s:Bs×Bool} (h:U4 e least s.1=none):Zg e least s=0∧Zd e least s=([],true):= by simp [Zg,Zd,h]
theorem Mx {e:UInt8} {least n:Int} {s:Bs×Bool} {r:Bs} (h:U4 e least s.1=some (n,r)):Zg e least s=n∧Zd e least s=(r,s.2):= by simp [Zg,Zd,h]
theorem num_neg {e:UInt8} {least:Int} {r:Bs} (h:Lib.indexByte (r.take 21) e<0):U4 e least r=none:= by unfold U4; rw[if_pos h]
theorem SZ {e:UInt8} {least:Int} {r:Bs} {o:Nat} (h:Lib.indexByte (r.take 21) e=(o:Int)):U4 e least r= match Lib.atoiAll ((r.take 21).take o)with | .ok n=> if Lib.itoa n=(r.take 21).take o∧least≤n then some (n,r.drop (o+1))else none | _=>none:= by
  unfold U4; rw[h,if_neg (by omega)];rfl
theorem num_bad {e:UInt8} {least:Int} {r:Bs} {o:Nat} (h:Lib.indexByte (r.take 21) e=(o:Int)) (h2: ∀n,Lib.atoiAll ((r.take 21).take o)≠ .ok n):U4 e least r=none:= by
  rw[SZ h]
  cases hq:Lib.atoiAll ((r.take 21).take o)with
  | ok n=> exact absurd hq (h2 n)
  | «syntax»=>rfl
  | range=>rfl
theorem Lf {e:UInt8} {least x:Int} {r:Bs} {o:Nat} (h:Lib.indexByte (r.take 21) e=(o:Int)) (h2:Lib.atoiAll ((r.take 21).take o)= .ok x) (h3: ¬(Lib.itoa x=(r.take 21).take o∧least≤x)):U4 e least r=none:= by
  rw[SZ h,h2]; dsimp only; rw[if_neg h3]
theorem num_yes {e:UInt8} {least x:Int} {r:Bs} {o:Nat} (h:Lib.indexByte (r.take 21) e=(o:Int)) (h2:Lib.atoiAll ((r.take 21).take o)= .ok x) (h3:Lib.itoa x=(r.take 21).take o∧least≤x):U4 e least r=some (x,r.drop (o+1)):= by
  rw[SZ h,h2]; dsimp only; rw[if_pos h3]
theorem Bh {w:World} {F:Th} {b:Nat} {s:Bs×Bool} (hS:Sat w [UD b s,F]) (hG:Ent F WireG) (e:UInt8) (least:Int) (hrl:s.1.length≤9223372036854775806):
    Calls prog 100 #[ptrV b 0,byteV e,intV least] w (Ret fun v w'=>v=intV (Zg e least s)∧Sat w' [UD b (Zd e least s),F]):= by
 obtain⟨r,q⟩:=s
 dsimp only at hrl
 change Sat w [QR b [strV r,.bool q],F]at hS
 refine Qx func100 Qa ntmps100 Qa ?_
 refine Qg (Qb (Qc Qa Qa (Qh (Qd (Qg ?_)))))
 have hS1:=hS.drew
 refine QM [0,1,2,3,4,5,6,7,8,9,10,11] [] Wv (by kernel_rfl) ?_
 refine QK Qa Qa Qa (Xm Qa Qa Qa (QN Qa Qa Qa JR (Q9 Qa Qa Qa (Qn Qa Zr (hS1.cell 0 Qa Qa)) (QK Qa Qa Qa (Xm Qa Qa Qa (QN Qa Qa Qa JR (Q9 Qa Qa Qa (Qn Qa Zr (hS1.cell 0 Qa Qa)) (QC Qa Qa Qa (fun _=>(G7 underlying9 Qa)) ?_))))))))
 refine QC Qa Qa Qa (fun _=>(Dy Qa Qa)) ?_
 refine QC Qa Qa Qa (fun _=>(Vw 0 (min 21 r.length) underlying9 Qa (Vz _) (HL (min 21 r.length) _ Qa (by omega)) (by omega) (by omega))) ?_
 refine WY Qa Qa Qa (VC.nil ?_)
 rw[show List.drop 0 (List.take (min 21 r.length) r)=r.take 21 by rw[List.drop_zero,←List.take_eq_take_min]]
 refine Qd (Qk [2,1,0,6,7] Qa (Qg (Qb (Qe Qa Qa (Qe Qa Qa (Qz cal_123 Qa (ixb0 (hS1.sp [] Qa) _ e) Qa ?_))))))
 rintro _ w2 ⟨rfl,hS2⟩
 replace hS2:=hS2.jn Qa Qa
 refine Qc Qa Qa (Qh (Qd (Qg (Qg (Qb (Qe Qa Qa (X0 Qa Qa Qa (Qh (Qd (Qk [2,0,6,7,8,26] Qa (Qt Qa (fun h3=> ?_) (fun h3=> ?_))))))))))))
 ·refine Qg (Qb (Qe Qa Qa (Qz Rf Qa (Vc (s:=(r,q)) (hS2.sp [0] Qa)) Qa ?_)))
  rintro _ w4 ⟨rfl,hS4⟩
  replace hS4:=hS4.jn Qa Qa
  refine Qh (Qd (Qg (Qb (Qc Qa Qa (Qh (Qd (Qo (Qm (Q5 (.inr Qa) Qa Qa ?_)))))))))
  have hnp:U4 e least r=none:=num_neg (by assumption)
  exact⟨_,rfl, by rw[(HA (s:=(r,q)) hnp).1], by rw[(HA (s:=(r,q)) hnp).2]; exact hS4⟩
 obtain⟨o,hio⟩: ∃o:Nat,Lib.indexByte (r.take 21) e=(o:Int):=⟨(Lib.indexByte (r.take 21) e).toNat, by omega⟩
 have hol:=(Jh (Lib.indexByte_some hio).1).1
 have hol2:o<r.length:= by simp at hol;omega
 have htl:(r.take 21).length≤21:= by simp;omega
 rw[hio]
 refine Qr (Qd (Qg (Qb (Qe Qa Qa (Qe Qa Qa (Ho 0 o underlying9 Qa (Vz _) (HL o _ Qa Qa) (by omega) (by omega) Qa ?_))))))
 rw[List.drop_zero]
 have hC5:=hS2.sp [] Qa
 refine Qz cal_124 Qa (atoi0 hC5 (Ent.sat (hG.starL 1 Qa) hC5 0 Qa) _ (by simp;omega)) Qa ?_
 rintro _ w5 ⟨⟨x,ev,g,rfl,hev,hok,hbad⟩,hS5⟩
 replace hS5:=hS5.jn Qa Qa; clear hC5
 refine Qe Qa Qa (Q6 Qa Qa Qa (Q6 Qa Qa Qa (Qc Qa Qa (Qc Qa Qa (Qh (Qd (Qk [2,0,6,7,8,9,10] Qa (Qg (Qg ?_)))))))))
 have hS6:=hS5.drew
 refine QM [0,1,2,3,5,6,7,4,8,9,10,11,12,13,14] [4] Wv (by kernel_rfl) ?_
 refine QK Qa Qa Qa (QC Qa Qa Qa (fun _=>(Sd isErr hev Qa)) ?_)
 refine QK Qa Qa Qa (RU 38 Qa (fun h7=> ?_) (fun h7=> ?_))
 ·refine Q3 Qa Qa (Qu Qa Qa h7) (Q3 Qa Qa (Qu Qa Qa h7) (Q3 Qa Qa (Qu Qa Qa h7) (Q3 Qa Qa (Qu Qa Qa h7) (VC.spineNot Qa Qa (Qu Qa Qa h7) (Q3 Qa Qa (Qu Qa Qa h7) (QC Qa Qa Qa (fun _=>(XG Qa h7 Qa)) ?_))))))
  refine QK Qa Qa Qa (Q3 Qa Qa (Qu Qa Qa Qa) (Q3 Qa Qa (Qu Qa Qa Qa) (Q3 Qa Qa (Qu Qa Qa Qa) (QC Qa Qa Qa (fun _=>(XG Qa Qa Qa)) ?_))))
  refine VC.nil (Qd (Qk [0,6,8,9,50] Qa (QO Qa (Qg (Qb (Qe Qa Qa (Qz Rf Qa (Vc (s:=(r,q)) (hS6.sp [0] Qa)) Qa ?_)))))))
  rintro _ w8 ⟨rfl,hS8⟩
  replace hS8:=hS8.jn Qa Qa
  refine Qh (Qd (Qg (Qb (Qc Qa Qa (Qh (Qd (Qo (Qm (Q5 (.inr Qa) Qa Qa ?_)))))))))
  have hnp:U4 e least r=none:=num_bad hio (hbad (by assumption))
  exact⟨_,rfl, by rw[(HA (s:=(r,q)) hnp).1], by rw[(HA (s:=(r,q)) hnp).2]; exact hS8⟩
 refine QC Qa Qa (Qs Qa Qa h7) (fun _=>(Ev.gd (Xt Qa))) ?_
 refine QC Qa Qa (Qs Qa Qa h7) (fun _=>(Ev.gd (Xt Qa))) ?_
 refine QC Qa Qa (Qs Qa Qa h7) (fun _=>(Ev.gd (Xt Qa))) ?_
 refine QC Qa Qa (Qs Qa Qa h7) (fun _=>(Ev.gd (Vw 0 o underlying9 Qa (Vz _) (HL o _ Qa Qa) (by omega) (by omega)))) ?_
 refine QS Qa Qa (Qs Qa Qa h7) Qa Qa Qa ?_
 have hC9:=hS6.sp [] Qa
 refine Qz Ny Qa (OE hC9 (Ent.sat (hG.starL 1 Qa) hC9 0 Qa) x (LJ (hok (by assumption)))) Qa ?_
 rintro _ w9 ⟨rfl,hS9⟩
 replace hS9:=hS9.jn Qa Qa; clear hC9
 refine Xe .nil (QC Qa Qa (Qs Qa Qa h7) (fun _=>(Ev.gd (Dx Qa Qa))) ?_)
 refine QC Qa Qa Qa (fun _=>(Xz Qa h7 Qa)) ?_
 refine QK Qa Qa Qa (Z1 46 Qa (fun h10=> ?_) (fun h10=> ?_))
 ·refine Q3 Qa Qa (Qu Qa Qa (Q8 h10)) (Q3 Qa Qa (Qu Qa Qa (Q8 h10)) (Q3 Qa Qa (Qu Qa Qa (Q8 h10)) (QC Qa Qa Qa (fun _=>(XG Qa (Q8 h10) Qa)) ?_)))
  refine VC.nil (Qd (Qk [0,6,8,9,50] Qa (QO Qa (Qg (Qb (Qe Qa Qa (Qz Rf Qa (Vc (s:=(r,q)) (hS9.sp [0] Qa)) Qa ?_)))))))
  rintro _ w11 ⟨rfl,hS11⟩
  replace hS11:=hS11.jn Qa Qa
  refine Qh (Qd (Qg (Qb (Qc Qa Qa (Qh (Qd (Qo (Qm (Q5 (.inr Qa) Qa Qa ?_)))))))))
  have hnp:U4 e least r=none:=Lf hio (hok (by assumption)) (by rintro⟨q1,q2⟩;first | omega | (simp_all;done))
  exact⟨_,rfl, by rw[(HA (s:=(r,q)) hnp).1], by rw[(HA (s:=(r,q)) hnp).2]; exact hS11⟩
 refine QC Qa Qa (Qs Qa Qa (Qw h10)) (fun _=>(Ev.gd (Xt Qa))) ?_
 refine QC Qa Qa (Qs Qa Qa (Qw h10)) (fun _=>(Ev.gd (Xt Qa))) ?_
 refine QC Qa Qa (Qs Qa Qa (Qw h10)) (fun _=>(Ev.gd (MH Qa Qa))) ?_
 refine QC Qa Qa Qa (fun _=>(Xz Qa (Qw h10) Qa)) ?_
 refine VC.nil (Qd (Qk [0,6,8,9,50] Qa (Qt Qa (fun h12=> ?_) (fun h12=> ?_))))
 ·refine Qg (Qb (Qe Qa Qa (Qz Rf Qa (Vc (s:=(r,q)) (hS9.sp [0] Qa)) Qa ?_)))
  rintro _ w13 ⟨rfl,hS13⟩
  replace hS13:=hS13.jn Qa Qa
  refine Qh (Qd (Qg (Qb (Qc Qa Qa (Qh (Qd (Qo (Qm (Q5 (.inr Qa) Qa Qa ?_)))))))))
  have hnp:U4 e least r=none:=Lf hio (hok (by assumption)) (by rintro⟨q1,q2⟩;first | omega | (simp_all;done))
  exact⟨_,rfl, by rw[(HA (s:=(r,q)) hnp).1], by rw[(HA (s:=(r,q)) hnp).2]; exact hS13⟩
 refine Qr (Qd (Qg (Qb (Qe Qa Qa (Qe Qa Qa (Ql Qa Qa (Qi Qa JR Qa (Qq Qa Zr (hS9.cell 0 Qa Qa) Qa (Qe Qa Qa (Xx Qa Qa (by omega) (by omega) Qa ?_))))))))))
 refine Ho (o+1) r.length underlying9 Qa (HL (o+1) _ Qa Qa) (Vz _) (by omega) (by omega) Qa ?_
 rw[List.take_length]
 refine Ql Qa Qa (Qi Qa JR Qa ?_)
 first | (refine Q7 hS9 Qa Qa R2 (by rfl) (i:=0) Qa (Xd Qa) ?_)
 intro w14 hS15; dsimp only[List.set]at hS15
 refine Qh (Qd (Qk [6,9] Qa (Qg (Qb (Qe Qa Qa (Qc Qa Qa (Qh (Qd (Qo (Q5 (.inr Qa) Qa Qa ?_))))))))))
 have hnp:U4 e least r=some (x,r.drop (o+1)):=num_yes hio (hok (by assumption)) ⟨Decidable.not_not.1 (by assumption), by omega⟩
 exact⟨_,rfl, by rw[(Mx (s:=(r,q)) hnp).1], by rw[(Mx (s:=(r,q)) hnp).2]; exact hS15⟩
theorem UE {w:World} {F:Th} {b:Nat} {s:Bs×Bool} (hS:Sat w [UD b s,F]) (hG:Ent F WireG) (hrl:s.1.length≤9223372036854775806):
    Calls prog 68 #[ptrV b 0] w (Ret fun v w'=>v=intV (Zg 59 (-9223372036854775808) s)∧Sat w' [UD b (Zd 59 (-9223372036854775808) s),F]):= by
 refine Qx func68 Qa ntmps68 Qa ?_
 refine Qg (Qb (Qc Qa Qa (Qh (Qd (Qg (Qb (Qe Qa Qa (Qz N2 Qa (Bh (hS.sp [0] Qa) (hG.starL 0 Qa) 59 (-9223372036854775808) hrl) Qa ?_))))))))
 rintro _ w1 ⟨rfl,hS1⟩
 replace hS1:=hS1.jn Qa Qa
 exact Qc Qa Qa (Qh (Qd (Qo (Q5 (.inr Qa) Qa Qa (⟨_,Qa,Qa,hS1⟩)))))
theorem rNum_sp {w:World} {F:Th} {b:Nat} {s:Bs×Bool} (hS:Sat w [UD b s,F]) (hG:Ent F WireG) (hrl:s.1.length≤9223372036854775806):
    Calls prog 127 #[ptrV b 0] w (Ret fun v w'=>v=intV (Zg 59 0 s)∧Sat w' [UD b (Zd 59 0 s),F]):= by
 refine Qx func127 Qa ntmps127 Qa ?_
 refine Qg (Qb (Qc Qa Qa (Qh (Qd (Qg (Qb (Qe Qa Qa (Qz N2 Qa (Bh (hS.sp [0] Qa) (hG.starL 0 Qa) 59 0 hrl) Qa ?_))))))))
 rintro _ w1 ⟨rfl,hS1⟩
 replace hS1:=hS1.jn Qa Qa
 exact Qc Qa Qa (Qh (Qd (Qo (Q5 (.inr Qa) Qa Qa (⟨_,Qa,Qa,hS1⟩)))))
def Tq (e:UInt8) (s:Bs×Bool):Bs×Bool:= match s.1 with | c::r=> if c=e then(r,s.2)else([],true) | []=>([],true)
def V1 (s:Bs×Bool):Bs:= if((Zd 58 0 s).1.length:Int)<Zg 58 0 s then[]else if(Tq 44 ((Zd 58 0 s).1.drop (Zg 58 0 s).toNat,(Zd 58 0 s).2)).2=true then[]else(Zd 58 0 s).1.take (Zg 58 0 s).toNat
def Uj (s:Bs×Bool):Bs×Bool:= if((Zd 58 0 s).1.length:Int)<Zg 58 0 s then([],true)else Tq 44 ((Zd 58 0 s).1.drop (Zg 58 0 s).toNat,(Zd 58 0 s).2)
def HK (s:Bs):Bs:=Lib.itoa (s.length:Int)++[58]++s++[44]
structure PipeD where
  d:Bs
  r:Int
  w:Int
theorem Ex {e:UInt8} {least m:Int} {rest:Bs} (he:57<e.toNat) (hm:X5 m) (hl:least≤m):U4 e least (Lib.itoa m++e::rest)=some (m,rest):= by
  have :=Ey (e:=e) (least:=least) (m:=m) (r:=Lib.itoa m++e::rest) (k:=(Lib.itoa m).length) he (by rw[List.getElem?_append_right (Nat.le_refl _)]; simp) hm hl (by rw[List.take_left']<;>rfl)
  rw[this,List.drop_append,List.drop_eq_nil_of_le (by omega)]
  simp
theorem Pn {e:UInt8} {least m:Int} {rest:Bs} {b:Bool} (he:57<e.toNat) (hm:X5 m) (hl:least≤m):Zg e least (Lib.itoa m++e::rest,b)=m∧Zd e least (Lib.itoa m++e::rest,b)=(rest,b):=Mx (Ex he hm hl)
theorem NE {s rest:Bs} (hs:s.length≤100000000000):V1 (HK s++rest,false)=s∧Uj (HK s++rest,false)=(rest,false):= by
  have e:HK s++rest=Lib.itoa (s.length:Int)++58::(s++44::rest):= by simp [HK]
  have hn:=Pn (e:=58) (least:=0) (m:=(s.length:Int)) (rest:=s++44::rest) (b:=false) (by decide) (by unfold X5;omega) (by omega)
  unfold V1 Uj
  rw[e,hn.1,hn.2]
  have h1: ¬(((s++44::rest,false):Bs×Bool).1.length:Int)<(s.length:Int):= by simp;omega
  rw[if_neg h1,if_neg h1]
  simp [Tq]
theorem Sq {e:UInt8} {l:Bs} {b:Bool}:Tq e (l,b)= if Lib.hasPrefix l [e]=true then(l.drop 1,b)else([],true):= by
  cases l with
  | nil=>rfl
  | cons c l=>
    have hp:Lib.hasPrefix (c::l) [e]=decide (c=e):= by
      unfold Lib.hasPrefix
      rw[Bool.eq_iff_iff]
      simp only[List.isPrefixOf,Bool.and_true,beq_iff_eq,decide_eq_true_eq]
      exact⟨fun q=>q.symm, fun q=>q.symm⟩
    rw[hp]
    simp only[Tq,decide_eq_true_eq,List.drop_succ_cons,List.drop_zero]
theorem Lg (e:UInt8) (s:Bs×Bool):0≤Zg e 0 s:= by
  unfold Zg
  split
  · rename_i n r h; exact(Bi h).2.2
  · omega
theorem XI (e:UInt8) (l:Int) (s:Bs×Bool):(Zd e l s).1.length≤s.1.length:= by
  unfold Zd
  split
  · rename_i n r h; rw[(Bi h).1]; simp only[List.length_append,List.length_cons];omega
  · simp
theorem Is (e:UInt8) (s:Bs×Bool):(Tq e s).1.length≤s.1.length:= by
  obtain⟨l,b⟩:=s
  cases l with
  | nil=> simp [Tq]
  | cons c l=> simp only[Tq];split<;> simp
theorem NF (s:Bs×Bool):(Uj s).1.length≤s.1.length:= by
  have h1:=XI 58 0 s
  unfold Uj
  split
  · simp
  · refine Nat.le_trans (Is _ _) ?_
    simp only[List.length_drop];omega
theorem Ye (e:UInt8) (least:Int) (s:Bs×Bool):X5 (Zg e least s):= by
  unfold Zg
  split
  · rename_i n r h; exact(Bi h).2.1
  · unfold X5;omega
theorem hpi0 {w:World} {As:List Th} (hS:Sat w As) (s t:Bs):Calls prog 157 #[strV s,strV t] w (Ret fun v w'=>v= .bool (Lib.hasPrefix s t)∧Sat w' As):=
  (Tryz.stringslite_HasPrefix ⟨s.toArray⟩ ⟨t.toArray⟩ w).mono fun e w' ⟨h1,h2⟩=>⟨_,h1,rfl, by rw[h2]; exact hS⟩
theorem Tn {s t:Bs} (h:Lib.hasPrefix s t=true):t.length≤s.length:= by
  unfold Lib.hasPrefix at h
  exact(List.isPrefixOf_iff_prefix.1 h).length_le
theorem Iu {w:World} {F:Th} (hS:Sat w [F]) (s t:Bs):
    Calls prog 137 #[strV s,strV t] w (Ret fun v w'=>v= .tuple #[strV (if Lib.hasPrefix s t=true then s.drop t.length else s),.bool (Lib.hasPrefix s t)]∧Sat w' [F]):= by
 refine Qx func137 Qa ntmps137 Qa ?_
 refine Qg (Qb (Qc Qa Qa (Qc Qa Qa (Qh (Qd (Qg (Qg (Qb (Qe Qa Qa (Qe Qa Qa (Qz cal_157 Qa (hpi0 (hS.sp [] Qa) s t) Qa ?_)))))))))))
 rintro _ w1 ⟨rfl,hS1⟩
 replace hS1:=hS1.jn Qa Qa
 refine XL Qa Qa (Qh (Qd (Xb Qa (fun h2=> ?_) (fun h2=> ?_))))
 ·refine Qg (Qb (Qe Qa Qa (Qc Qa Qa (Qc Qa Qa (Qh (Qd (Qo (Qm (ZG (.inr Qa) Qa Qa Qa ?_)))))))))
  exact⟨_,rfl, by rw[if_neg (by simp_all), show Lib.hasPrefix s t=false by simp_all],hS1⟩
 have htl:t.length≤s.length:=Tn (by simp_all)
 refine Qr (Qd (Qg (Qb (Qe Qa Qa (Qe Qa Qa (Zu underlying9 Qa Qa (Ho t.length s.length underlying9 Qa (HL t.length _ Qa Qa) (Vz _) (by omega) (by omega) Qa ?_)))))))
 rw[List.take_length]
 refine Qc Qa Qa (Qc Qa Qa (Qh (Qd (Qk [4,5] Qa (Qo (ZG (.inr Qa) Qa Qa Qa ?_))))))
 exact⟨_,rfl, by rw[if_pos (by simp_all), show Lib.hasPrefix s t=true by simp_all],hS1⟩
theorem cutS_sp {w:World} {F:Th} (hS:Sat w [F]) (s t:Bs):
    Calls prog 125 #[strV s,strV t] w (Ret fun v w'=>v= .tuple #[strV (if Lib.hasPrefix s t=true then s.drop t.length else s),.bool (Lib.hasPrefix s t)]∧Sat w' [F]):= by
 refine Qx func125 Qa ntmps125 Qa ?_
 refine Qg (Qb (Qc Qa Qa (Qc Qa Qa (Qh (Qd (Qg (Qb (Qe Qa Qa (Qe Qa Qa (Qz cal_137 Qa (Iu (hS.sp [] Qa) s t) Qa ?_))))))))))
 rintro _ w1 ⟨rfl,hS1⟩
 replace hS1:=hS1.jn Qa Qa
 exact Q6 Qa Qa Qa (Q6 Qa Qa Qa (Qc Qa Qa (Qc Qa Qa (Qh (Qd (Qo (ZG (.inr Qa) Qa Qa Qa (⟨_,Qa,Qa,hS1⟩))))))))
theorem ND {w:World} {F:Th} (hS:Sat w [F]) (hG:Ent F WireG) (s:Bs) (hs:s.length≤100000000000):
    Calls prog 108 #[strV s] w (Ret fun v w'=>v=strV (HK s)∧Sat w' [F]):= by
 refine Qx func108 Qa ntmps108 Qa ?_
 refine Qg (Qb (Qc Qa Qa (Qh (Qd (Qg (Qb (Qe Qa Qa (Zu underlying9 Qa Qa ?_))))))))
 have hC1:=hS.sp [] Qa
 refine Qz Ny Qa (OE hC1 (Ent.sat (hG.starL 0 Qa) hC1 0 Qa) (s.length:Int) (by unfold X5;omega)) Qa ?_
 rintro _ w1 ⟨rfl,hS1⟩
 replace hS1:=hS1.jn Qa Qa; clear hC1
 have hil:=WT (n:=(s.length:Int)) (by unfold X5;omega)
 refine Vb Qa Qa (by(simp;omega)) Qa ?_
 refine Qe Qa Qa ?_
 refine Vb Qa Qa (by(simp;omega)) Qa ?_
 refine Vb Qa Qa (by(simp;omega)) Qa ?_
 refine Qc Qa Qa (Qh (Qd (Qo (Q5 (.inr Qa) Qa Qa ?_))))
 exact⟨_,rfl, by simp [HK],hS1⟩
theorem Ej {w:World} {F:Th} {b:Nat} {s:Bs×Bool} (hS:Sat w [UD b s,F]) (e:UInt8):
    Calls prog 102 #[ptrV b 0,strV [e]] w (Ret fun v w'=>v= .tuple #[]∧Sat w' [UD b (Tq e s),F]):= by
 obtain⟨r,q⟩:=s
 change Sat w [QR b [strV r,.bool q],F]at hS
 refine Qx func102 Qa ntmps102 Qa ?_
 refine Qg (Qb (Qe Qa Qa (Ql Qa Qa (Qi Qa JR Qa (Qq Qa Zr (hS.cell 0 Qa Qa) Qa (Qe Qa Qa (Qz cal_125 Qa (cutS_sp (hS.sp [] Qa) r [e]) Qa ?_)))))))
 rintro _ w1 ⟨rfl,hS1⟩
 replace hS1:=hS1.jn Qa Qa
 refine Qe Qa Qa (Q6 Qa Qa Qa (Q6 Qa Qa Qa (Qc Qa Qa (Qc Qa Qa (Qh (Qd (Qk [0,4,5] Qa (Qg (Qb (Qe Qa Qa (Qe Qa Qa (Ql Qa Qa (Qi Qa JR Qa ?_)))))))))))))
 first | (refine Q7 hS1 Qa Qa R2 (by rfl) (i:=0) Qa (Xd Qa) ?_)
 intro w2 hS3; dsimp only[List.set]at hS3
 refine Qh (Qd (Qg (Qb (Qe Qa Qa (XL Qa Qa (Qh (Qd (Xb Qa (fun h4=> ?_) (fun h4=> ?_)))))))))
 ·have hp1: ¬Lib.hasPrefix r [e]=true:= by simp_all
  rw[if_neg hp1]at hS3
  refine Qb (Qe Qa Qa (Qz Rf Qa (Vc (s:=(r,q)) (hS3.sp [0] Qa)) Qa ?_))
  rintro _ w5 ⟨rfl,hS5⟩
  replace hS5:=hS5.jn Qa Qa
  refine Qh (Y4 (.inl Qa) Qa ?_)
  exact⟨_,rfl,rfl, by rw[Sq,if_neg (by simp_all)]; exact hS5⟩
 have hp1:Lib.hasPrefix r [e]=true:= by simp_all
 rw[if_pos hp1]at hS3
 refine Qr (Y4 (.inl Qa) Qa ?_)
 exact⟨_,rfl,rfl, by rw[Sq,if_pos (by simp_all)]; exact hS3⟩
theorem Pa {w:World} {F:Th} {b:Nat} {s:Bs×Bool} (hS:Sat w [UD b s,F]) (hG:Ent F WireG) (hrl:s.1.length≤100000000000):
    Calls prog 69 #[ptrV b 0] w (Ret fun v w'=>v=strV (V1 s)∧Sat w' [UD b (Uj s),F]):= by
 refine Qx func69 Qa ntmps69 Qa ?_
 refine Qg (Qb (Qc Qa Qa (Qh (Qd (Qg (Qb (Qe Qa Qa (Qz N2 Qa (Bh (hS.sp [0] Qa) (hG.starL 0 Qa) 58 0 (by omega)) Qa ?_))))))))
 rintro _ w1 ⟨rfl,hS1⟩
 replace hS1:=hS1.jn Qa Qa
 obtain⟨k,hk⟩: ∃k:Nat,Zg 58 0 s=(k:Int):=⟨(Zg 58 0 s).toNat, by have :=Lg 58 s;omega⟩
 rw[hk]
 have hnl:=XI 58 0 s
 rcases hN:Zd 58 0 s with⟨r1,q1⟩
 rw[hN]at hS1 hnl
 dsimp only at hnl
 change Sat w1 [QR b [strV r1,.bool q1],F]at hS1
 refine Qc Qa Qa (Qh (Qd (Qg (Qg (Qb (Qe Qa Qa (Qe Qa Qa (Ql Qa Qa (Qi Qa JR Qa (Qq Qa Zr (hS1.cell 0 Qa Qa) Qa (Zu underlying9 Qa Qa (Wl Qa Qa Qa (Qh (Qd (Qk [0,2,3,13] Qa (Qt Qa (fun h2=> ?_) (fun h2=> ?_)))))))))))))))))
 ·refine Qg (Qb (Qe Qa Qa (Qz Rf Qa (Vc (s:=(r1,q1)) (hS1.sp [0] Qa)) Qa ?_)))
  rintro _ w3 ⟨rfl,hS3⟩
  replace hS3:=hS3.jn Qa Qa
  refine Qh (Qd (Qg (Qb (Qc Qa Qa (Qh (Qd (Qo (Qm (Q5 (.inr Qa) Qa Qa ?_)))))))))
  exact⟨_,rfl, by unfold V1; rw[hN,hk]; dsimp only; rw[if_pos (by omega)], by unfold Uj; rw[hN,hk]; dsimp only; rw[if_pos (by omega)]; exact hS3⟩
 refine Qr (Qd (Qg (Qb (Qe Qa Qa (Ql Qa Qa (Qi Qa JR Qa (Qq Qa Zr (hS1.cell 0 Qa Qa) Qa (Qe Qa Qa (Ho 0 k underlying9 Qa (Vz _) (HL k _ Qa Qa) (by omega) (by omega) Qa ?_)))))))))
 rw[List.drop_zero]
 refine Qc Qa Qa (Qh (Qd (Qk [0,2,3,4] Qa (Qg (Qb (Qe Qa Qa (Qe Qa Qa (Ql Qa Qa (Qi Qa JR Qa (Qq Qa Zr (hS1.cell 0 Qa Qa) Qa (Qe Qa Qa (Ho k r1.length underlying9 Qa (HL k _ Qa Qa) (Vz _) (by omega) (by omega) Qa ?_))))))))))))
 rw[List.take_length]
 refine Ql Qa Qa (Qi Qa JR Qa ?_)
 first | (refine Q7 hS1 Qa Qa R2 (by rfl) (i:=0) Qa (Xd Qa) ?_)
 intro w4 hS5; dsimp only[List.set]at hS5
 refine Qh (Qd (Qk [0,2,4] Qa (Qg (Qg (Qb (Qe Qa Qa (Qz cal_102 Qa (Ej (s:=(r1.drop k,q1)) (hS5.sp [0] Qa) 44) Qa ?_)))))))
 rintro _ w6 ⟨rfl,hS6⟩
 replace hS6:=hS6.jn Qa Qa
 rcases hC2:Tq 44 (r1.drop k,q1)with⟨r2,q2⟩
 rw[hC2]at hS6
 refine Qh (Qd (Qg (Qb (Qe Qa Qa (Ql Qa Qa (Qi Qa PV Qa (Qq Qa JG (hS6.cell 0 Qa Qa) Qa (Qh (Qd (Xb Qa (fun h7=> ?_) (fun h7=> ?_)))))))))))
 ·obtain rfl:q2=true:=h7
  refine Qg (Qb (Qc Qa Qa (Qh (Qd (Qo (Qm (Q5 (.inr Qa) Qa Qa ?_)))))))
  exact⟨_,rfl, by unfold V1; rw[hN,hk]; dsimp only; rw[if_neg (by omega),Int.toNat_natCast,hC2];rfl, by unfold Uj; rw[hN,hk]; dsimp only; rw[if_neg (by omega),Int.toNat_natCast,hC2]; exact hS6⟩
 obtain rfl:q2=false:=h7
 refine Qr (Qd (Qg (Qb (Qe Qa Qa (Qc Qa Qa (Qh (Qd (Qo (Q5 (.inr Qa) Qa Qa ?_)))))))))
 exact⟨_,rfl, by unfold V1; rw[hN,hk]; dsimp only; rw[if_neg (by omega),Int.toNat_natCast,hC2];rfl, by unfold Uj; rw[hN,hk]; dsimp only; rw[if_neg (by omega),Int.toNat_natCast,hC2]; exact hS6⟩
